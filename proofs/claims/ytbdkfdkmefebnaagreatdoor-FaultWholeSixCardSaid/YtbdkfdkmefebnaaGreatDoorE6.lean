/- Part 6 of a proof: what the functions yield. It stands by itself; no condition. -/
import Derived.Test.YtbdkfdkmefebnaaGreatDoorE5
namespace Go.Ev
set_option linter.unusedSimpArgs false
set_option linter.unusedVariables false
set_option maxRecDepth 4000
set_option maxHeartbeats 8000000
abbrev y16 : List UInt8 := [0, 0, 0, 0, 0, 0, 0, 0, 0, 0, 0, 0, 0, 0, 0, 0]
abbrev z6LV : LV := ip6LV 0 0 0 y16 y16 (.lst none []) false 0 0 false 0 []
def k6 (s : List UInt8) : ChR := chC 8 true ((bAt s 6 : Nat) : Int) ((s.drop 40).take (wAt s 4))
def okF6 (mo : Bool) (at' : Nat) (da : List UInt8) : Prop := (mo = true → da.length ≠ 0 ∧ da.length % 8 = 0) ∧ at' + da.length ≤ 65535
instance (mo : Bool) (at' : Nat) (da : List UInt8) : Decidable (okF6 mo at' da) := by unfold okF6; infer_instance
def fa6 (r : List UInt8) : Nat := wAt r 2 / 8 * 8
def fm6 (r : List UInt8) : Bool := decide (wAt r 2 % 2 = 1)
def fi6 (r : List UInt8) : Nat := numN ((r.drop 4).take 4)
def kF6 (r : List UInt8) : Int := if r.length < 8 then 7 else if okF6 (fm6 r) (fa6 r) (r.drop 8) then 0 else 8
def kR6 (k : ChR) : Int := if k.1 ≠ 0 then k.1 else if k.2.2.1 ≠ 44 then 0 else kF6 k.2.2.2
def pK6 (s : List UInt8) : Int :=
  if s.length < 40 then 7 else if bAt s 0 / 16 ≠ 6 then 8 else if s.length < 40 + wAt s 4 then 7 else kR6 (k6 s)
def pcl6 (s : List UInt8) : Int := ((numN (s.take 4) / 1048576 % 256 : Nat) : Int)
def pfl6 (s : List UInt8) : Int := ((numN (s.take 4) % 1048576 : Nat) : Int)
def pfr6 (s : List UInt8) : List UInt8 := (s.drop 8).take 16
def pto6 (s : List UInt8) : List UInt8 := (s.drop 24).take 16
def mk6 (s : List UInt8) (k : ChR) : LV :=
  if k.2.2.1 = 44 then ip6LV (pcl6 s) (pfl6 s) (bAt s 7 : Nat) (pfr6 s) (pto6 s) (extsLV k.2.1) true (fi6 k.2.2.2 : Nat) (fa6 k.2.2.2 : Nat) (fm6 k.2.2.2) (bAt k.2.2.2 0 : Nat) (k.2.2.2.drop 8)
  else ip6LV (pcl6 s) (pfl6 s) (bAt s 7 : Nat) (pfr6 s) (pto6 s) (extsLV k.2.1) false 0 0 false k.2.2.1 k.2.2.2
def pLV6 (s : List UInt8) : LV := if pK6 s = 0 then mk6 s (k6 s) else z6LV
theorem wc3 {sl : Slots} {t g : Nat} {cl fl ho : Int} {fr to : List UInt8} {ex : LV} {fg : Bool} {id at' : Int} {mo : Bool} {pt : Int} {da s : List UInt8} (hf : fr.length = 16) (hs : 16 ≤ s.length) :
    wCopy (upd sl t (.obj g (ip6LV cl fl ho fr to ex fg id at' mo pt da))) (.arr t g [3] 3 0 16) (.str s) = some (.int .i64 16, upd (upd sl t (.obj g (ip6LV cl fl ho fr to ex fg id at' mo pt da))) t (.obj g (ip6LV cl fl ho (s.take 16) to ex fg id at' mo pt da))) := by
  have h1 : min s.length 16 = 16 := by omega
  have h2 : fr.drop 16 = [] := List.drop_eq_nil_of_le (by omega)
  have hg : getPath (ip6LV cl fl ho fr to ex fg id at' mo pt da) [3] = some (.bytes fr, 3) := by simp only [go_sem, ↓reduceIte, reduceCtorEq, upd_ne, back_new (no_at), Nat.reduceAdd, Nat.reduceEqDiff, Nat.reduceMul, Nat.reduceSub, Nat.reduceLeDiff, Nat.reduceLT, Int.reduceToNat, Int.reduceLE, Int.reduceLT, Int.reduceEq, UInt8.reduceOfNat]
  have hp : setPath (ip6LV cl fl ho fr to ex fg id at' mo pt da) [3] (.bytes (s.take 16)) = some (ip6LV cl fl ho (s.take 16) to ex fg id at' mo pt da) := by simp only [go_sem, ↓reduceIte, reduceCtorEq, upd_ne, back_new (no_at), Nat.reduceAdd, Nat.reduceEqDiff, Nat.reduceMul, Nat.reduceSub, Nat.reduceLeDiff, Nat.reduceLT, Int.reduceToNat, Int.reduceLE, Int.reduceLT, Int.reduceEq, UInt8.reduceOfNat]
  unfold wCopy
  simp only [upd_same, if_true, hg]
  rw [if_pos ⟨trivial, by omega⟩]
  simp only [h1, Option.bind_some, List.take_zero, List.nil_append, Nat.zero_add, h2, List.append_nil, hp, Option.map_some]
  rfl
theorem wc4 {sl : Slots} {t g : Nat} {cl fl ho : Int} {fr to : List UInt8} {ex : LV} {fg : Bool} {id at' : Int} {mo : Bool} {pt : Int} {da s : List UInt8} (hf : fr.length = 16) (ht : to.length = 16) (hs : 16 ≤ s.length) :
    wCopy (upd sl t (.obj g (ip6LV cl fl ho fr to ex fg id at' mo pt da))) (.arr t g [4] 19 0 16) (.str s) = some (.int .i64 16, upd (upd sl t (.obj g (ip6LV cl fl ho fr to ex fg id at' mo pt da))) t (.obj g (ip6LV cl fl ho fr (s.take 16) ex fg id at' mo pt da))) := by
  have h1 : min s.length 16 = 16 := by omega
  have h2 : to.drop 16 = [] := List.drop_eq_nil_of_le (by omega)
  have hg : getPath (ip6LV cl fl ho fr to ex fg id at' mo pt da) [4] = some (.bytes to, 19) := by simp only [go_sem, ↓reduceIte, reduceCtorEq, upd_ne, back_new (no_at), Nat.reduceAdd, Nat.reduceEqDiff, Nat.reduceMul, Nat.reduceSub, Nat.reduceLeDiff, Nat.reduceLT, Int.reduceToNat, Int.reduceLE, Int.reduceLT, Int.reduceEq, UInt8.reduceOfNat, hf]
  have hp : setPath (ip6LV cl fl ho fr to ex fg id at' mo pt da) [4] (.bytes (s.take 16)) = some (ip6LV cl fl ho fr (s.take 16) ex fg id at' mo pt da) := by simp only [go_sem, ↓reduceIte, reduceCtorEq, upd_ne, back_new (no_at), Nat.reduceAdd, Nat.reduceEqDiff, Nat.reduceMul, Nat.reduceSub, Nat.reduceLeDiff, Nat.reduceLT, Int.reduceToNat, Int.reduceLE, Int.reduceLT, Int.reduceEq, UInt8.reduceOfNat]
  unfold wCopy
  simp only [upd_same, if_true, hg]
  rw [if_pos ⟨trivial, by omega⟩]
  simp only [h1, Option.bind_some, List.take_zero, List.nil_append, Nat.zero_add, h2, List.append_nil, hp, Option.map_some]
  rfl
theorem andNot7 (x : Nat) (h : x ≤ 65535) : bitsOf .andNot .i64 (x : Int) 7 = ((x / 8 * 8 : Nat) : Int) := by
  rw [show (7 : Int) = ((7 : Nat) : Int) from rfl]
  unfold bitsOf
  rw [ofInt_nat, ofInt_nat]
  simp only [BitVec.toNat_and, BitVec.toNat_not, BitVec.toNat_ofNat]
  have e : x % 2 ^ IntKind.i64.bits &&& (2 ^ IntKind.i64.bits - 1 - 7 % 2 ^ IntKind.i64.bits) = x / 8 * 8 := by
    rw [show IntKind.i64.bits = 64 from rfl, Nat.mod_eq_of_lt (by omega), show 2 ^ 64 - 1 - 7 % 2 ^ 64 = (2 ^ 61 - 1) * 2 ^ 3 by decide]
    apply Nat.eq_of_testBit_eq
    intro i
    rw [Nat.testBit_and, Nat.testBit_mul_two_pow, Nat.testBit_two_pow_sub_one, show x / 8 * 8 = (x / 2 ^ 3) * 2 ^ 3 from rfl, Nat.testBit_mul_two_pow, Nat.testBit_div_two_pow]
    by_cases h3 : 3 ≤ i
    · by_cases h4 : i - 3 < 61
      · simp [h3, h4, show i - 3 + 3 = i by omega]
      · have h5 : x.testBit i = false := Nat.testBit_lt_two_pow (by have : 2 ^ 64 ≤ 2 ^ i := Nat.pow_le_pow_right (by decide) (by omega)
                                                                    omega)
        simp [h3, h4, h5, show i - 3 + 3 = i by omega]
    · simp [h3]
  rw [e]
  exact wrap_id (by omega) (by omega)
theorem wrap_u32 {x : Nat} (h : x < 4294967296) : IntKind.u32.wrap (x : Int) = (x : Int) := by
  simp only [IntKind.wrap, IntKind.bits, IntKind.signed]
  simp
  omega
end Go.Ev

namespace Go.Ev
set_option linter.unusedSimpArgs false
set_option linter.unusedVariables false
set_option maxRecDepth 10000
set_option maxHeartbeats 8000000
theorem chC_rest : ∀ (k : Nat) (f : Bool) (nx : Int) (u : List UInt8), (chC k f nx u).2.2.2.length ≤ u.length
  | 0, f, nx, u => by unfold chC; split <;> (try split) <;> simp
  | k + 1, f, nx, u => by
    unfold chC
    split
    · split
      · simp
      · split
        · simp
        · have := chC_rest k false ((bAt u 0 : Nat) : Int) (u.drop (sz6 u))
          rw [List.length_drop] at this
          simp only
          split <;> (try simp only) <;> omega
    · simp
theorem chC_len : ∀ (k : Nat) (f : Bool) (nx : Int) (u : List UInt8), (chC k f nx u).2.1.length ≤ k
  | 0, f, nx, u => by unfold chC; split <;> (try split) <;> simp
  | k + 1, f, nx, u => by
    unfold chC
    split
    · split
      · simp
      · split
        · simp
        · have := chC_len k false ((bAt u 0 : Nat) : Int) (u.drop (sz6 u))
          simp only
          split <;> (try simp only [List.length_cons]) <;> omega
    · simp
end Go.Ev

namespace Go.Ev
set_option linter.unusedSimpArgs false
set_option linter.unusedVariables false
set_option maxRecDepth 10000
set_option maxHeartbeats 8000000
def th6 (s : List UInt8) : List UInt8 := (s.drop 40).take (wAt s 4)
def dD6 (k : ChR) : List UInt8 := if k.2.2.1 = 44 then k.2.2.2.drop 8 else k.2.2.2
def cl6 (s : List UInt8) (k : ChR) : Nat := wAt s 4 - ((th6 s).length - (dD6 k).length)
def iR6 (s : List UInt8) (k : ChR) : Int :=
  if k.1 ≠ 0 then k.1 else if k.2.2.1 = 44 ∧ k.2.2.2.length < 8 then 7 else if (dD6 k).length < min 8 (cl6 s k) then 7 else 0
def iK6 (s : List UInt8) : Int := if s.length < 40 then 7 else if bAt s 0 / 16 ≠ 6 then 8 else iR6 s (k6 s)
def iLV6 (s : List UInt8) : LV := if iK6 s = 0 then mk6 s (k6 s) else z6LV
def iC6 (s : List UInt8) : Int := if iK6 s = 0 then ((cl6 s (k6 s) : Nat) : Int) else 0
section
variable {S : Sys} (hS : Has S) (n : Nat)
include hS
theorem ev_inside6 (s : List UInt8) (hs : s.length ≤ 140737488351232) : S.ev (n + 4) id_fault_Inside6 [.str s] none = some (.tup [iLV6 s, .int .i64 (iC6 s), fE (iK6 s)], none) := by
  rw [Sys.step hS.h_fault_Inside6, F_fault_Inside6_eq]
  unfold F_fault_Inside6
  have hfa := ev_faultF hS (n + 2)
  (try simp only [guard_merge, or_merge, and_merge, or_pick, and_pick, guard_or, guard_and]); simp only [to_ob]
  unfold iLV6 iC6 iK6
  by_cases c1 : s.length < 40
  · have c1' : (s.length : Int) < 40 := by omega
    simp only [go_sem, ↓reduceIte, reduceCtorEq, upd_ne, back_new (no_at), Nat.reduceAdd, Nat.reduceEqDiff, Nat.reduceMul, Nat.reduceSub, Nat.reduceLeDiff, Nat.reduceLT, Int.reduceToNat, Int.reduceLE, Int.reduceLT, Int.reduceEq, UInt8.reduceOfNat, c1, c1', hfa, fE]
  · have c1' : ¬ (s.length : Int) < 40 := by omega
    have g0 := get_def (s := s) (i := 0) (by omega)
    have hb0 := bAt_le s 0
    have e4 : Int.fdiv ((s.getD 0 0).toNat : Int) (2 ^ min 4 8) = ((bAt s 0 / 16 : Nat) : Int) := by
      rw [show min 4 8 = 4 from rfl, Int.fdiv_eq_ediv_of_nonneg _ (by decide)]; rfl
    by_cases c2 : bAt s 0 / 16 ≠ 6
    · have c2' : ¬ ((bAt s 0 / 16 : Nat) : Int) = 6 := by omega
      simp only [go_sem, ↓reduceIte, reduceCtorEq, upd_ne, back_new (no_at), Nat.reduceAdd, Nat.reduceEqDiff, Nat.reduceMul, Nat.reduceSub, Nat.reduceLeDiff, Nat.reduceLT, Int.reduceToNat, Int.reduceLE, Int.reduceLT, Int.reduceEq, UInt8.reduceOfNat, List.getElem?_map, Int.toNat_natCast, c1, c1', c2, c2', hfa, fE, g0, byteLV, e4]
    · have c2' : ((bAt s 0 / 16 : Nat) : Int) = 6 := by omega
      have g4 := get_def (s := s) (i := 4) (by omega)
      have g5 := get_def (s := s) (i := 5) (by omega)
      have g6 := get_def (s := s) (i := 6) (by omega)
      have g7 := get_def (s := s) (i := 7) (by omega)
      have hb4 := (s.getD 4 0).toNat_lt
      have hb5 := (s.getD 5 0).toNat_lt
      have hb6 := bAt_le s 6
      have hb7 := bAt_le s 7
      have hw4 := wAt_le s 4
      have q1 : IntKind.i64.wrap ((s.getD 4 0).toNat : Int) = ((s.getD 4 0).toNat : Int) := wrap_id (by omega) (by omega)
      have q2 : IntKind.i64.wrap ((s.getD 5 0).toNat : Int) = ((s.getD 5 0).toNat : Int) := wrap_id (by omega) (by omega)
      have q3 : IntKind.i64.wrap (((s.getD 4 0).toNat : Int) * 2 ^ min 8 64) = (((s.getD 4 0).toNat * 256 : Nat) : Int) := by
        rw [show min 8 64 = 8 from rfl, wrap_id (by omega) (by omega)]; omega
      have q4 : bitsOf .or .i64 (((s.getD 4 0).toNat * 256 : Nat) : Int) ((s.getD 5 0).toNat : Int) = ((wAt s 4 : Nat) : Int) := w16_or _ _
      have q5 : IntKind.i64.wrap (40 + ((wAt s 4 : Nat) : Int)) = ((40 + wAt s 4 : Nat) : Int) := by rw [wrap_id (by omega) (by omega)]; omega
      have q6 : IntKind.i64.wrap ((s.getD 6 0).toNat : Int) = ((bAt s 6 : Nat) : Int) := wrap_id (by omega) (by unfold bAt at hb6; omega)
      have q7 : IntKind.i64.wrap ((s.getD 7 0).toNat : Int) = ((bAt s 7 : Nat) : Int) := wrap_id (by omega) (by unfold bAt at hb7; omega)
      have hmm : (if ((40 + wAt s 4 : Nat) : Int) < (s.length : Int) then ((40 + wAt s 4 : Nat) : Int) else (s.length : Int)) = ((min s.length (40 + wAt s 4) : Nat) : Int) := by split <;> omega
      have m1 : 40 ≤ min s.length (40 + wAt s 4) := by omega
      have m2 : min s.length (40 + wAt s 4) ≤ s.length := by omega
      have m3 : (s.drop 40).take (min s.length (40 + wAt s 4) - 40) = th6 s := by
        unfold th6
        by_cases q : s.length ≤ 40 + wAt s 4
        · rw [Nat.min_eq_left q, List.take_of_length_le (by simp), List.take_of_length_le (by simp; omega)]
        · rw [Nat.min_eq_right (by omega), show 40 + wAt s 4 - 40 = wAt s 4 by omega]
      have htl : (th6 s).length ≤ wAt s 4 := by unfold th6; rw [List.length_take]; omega
      have hN := ev_New hS (n + 2) s
      have hU := ev_U32 hS n s 0 (by omega) hs
      simp only [Nat.zero_add, List.drop_zero] at hU
      have hx := num4_lt s
      have d1 : Int.fdiv ((numN (s.take 4) : Nat) : Int) (2 ^ min 20 64) = ((numN (s.take 4) / 1048576 : Nat) : Int) := by
        rw [show min 20 64 = 20 from rfl, Int.fdiv_eq_ediv_of_nonneg _ (by decide)]; rfl
      have d2 : bitsOf .and .i64 ((numN (s.take 4) / 1048576 : Nat) : Int) 255 = pcl6 s := by
        rw [show (255 : Int) = ((2 ^ 8 - 1 : Nat) : Int) from rfl, bits_mask 8 (by omega) (show ((numN (s.take 4) / 1048576 : Nat) : Int) ≤ 9223372036854775807 by omega) (by decide)]
        rfl
      have d3 : bitsOf .and .i64 ((numN (s.take 4) : Nat) : Int) 1048575 = pfl6 s := by
        rw [show (1048575 : Int) = ((2 ^ 20 - 1 : Nat) : Int) from rfl, bits_mask 20 (by omega) (show ((numN (s.take 4) : Nat) : Int) ≤ 9223372036854775807 by omega) (by decide)]
        rfl
      have hlf : (pfr6 s).length = 16 := by unfold pfr6; simp; omega
      have hlt : (pto6 s).length = 16 := by unfold pto6; simp; omega
      have v5 : (s.drop 8).take 16 = pfr6 s := rfl
      have v6 : (s.drop 24).take 16 = pto6 s := rfl
      have l8 : 8 ≤ s.length := by omega
      have l24 : 24 ≤ s.length := by omega
      have t8 : (s.drop 8).take (s.length - 8) = s.drop 8 := List.take_of_length_le (by simp)
      have t24 : (s.drop 24).take (s.length - 24) = s.drop 24 := List.take_of_length_le (by simp)
      have hC : S.ev (n + 3) id_ip6_Chain [.int .i64 ((bAt s 6 : Nat) : Int), .str (th6 s)] none = some (chLV (k6 s), none) := ev_chain6 hS (n + 1) _ _ (by omega)
      have hkl : (k6 s).2.2.2.length ≤ (th6 s).length := chC_rest _ _ _ _
      rw [if_neg c1, if_neg c2]
      unfold chLV at hC
      unfold mk6 iR6 cl6 dD6
      rcases hks : k6 s with ⟨kc, kl, kp, kr⟩
      rw [hks] at hC hkl
      dsimp only at hC hkl ⊢
      generalize min s.length (40 + wAt s 4) = B at *
      have k1 : ∀ sl : Slots, wCopy (upd sl 12 (.obj 1 (ip6LV (pcl6 s) (pfl6 s) (bAt s 7 : Nat) y16 y16 (.lst none (kl.map extLV)) false 0 0 false kp kr))) (.arr 12 1 [3] 3 0 16) (.str (s.drop 8)) = _ := fun sl => wc3 rfl (by rw [List.length_drop]; omega)
      have k2 : ∀ sl : Slots, wCopy (upd sl 12 (.obj 1 (ip6LV (pcl6 s) (pfl6 s) (bAt s 7 : Nat) (pfr6 s) y16 (.lst none (kl.map extLV)) false 0 0 false kp kr))) (.arr 12 1 [4] 19 0 16) (.str (s.drop 24)) = _ := fun sl => wc4 hlf rfl (by rw [List.length_drop]; omega)
      by_cases c4 : kc = 0
      case neg =>
        simp only [go_sem, ↓reduceIte, reduceCtorEq, upd_ne, back_new (no_at), Nat.reduceAdd, Nat.reduceEqDiff, Nat.reduceMul, Nat.reduceSub, Nat.reduceLeDiff, Nat.reduceLT, Int.reduceToNat, Int.reduceLE, Int.reduceLT, Int.reduceEq, UInt8.reduceOfNat, List.getElem?_map, Int.toNat_natCast, Nat.sub_zero, pMinmax, pMinmax2, Option.bind_some, c1', c2', c4, hC, fE, g0, g4, g5, g6, byteLV, e4, q1, q2, q3, q4, q5, q6, hmm, m1, m2, m3, Bool.false_eq_true]
      subst c4
      rw [show fE 0 = .nili from rfl] at hC
      by_cases c5 : kp = 44
      · subst c5
        by_cases c6 : kr.length < 8
        · have c6' : (kr.length : Int) < 8 := by omega
          simp only [go_sem, ↓reduceIte, reduceCtorEq, upd_ne, back_new (no_at), Nat.reduceAdd, Nat.reduceEqDiff, Nat.reduceMul, Nat.reduceSub, Nat.reduceLeDiff, Nat.reduceLT, Int.reduceToNat, Int.reduceLE, Int.reduceLT, Int.reduceEq, UInt8.reduceOfNat, List.getElem?_map, Int.toNat_natCast, Nat.sub_zero, pMinmax, pMinmax2, Option.bind_some, c1', c2', c6, c6', hfa, hN, hU, hC, fE, g0, g4, g5, g6, g7, byteLV, e4, q1, q2, q3, q4, q5, q6, q7, d1, d2, d3, k1, k2, v5, v6, hlf, hlt, l8, l24, t8, t24, hmm, m1, m2, m3, Bool.false_eq_true]
        · have c6' : ¬ (kr.length : Int) < 8 := by omega
          have h0 := get_def (s := kr) (i := 0) (by omega)
          have h2 := get_def (s := kr) (i := 2) (by omega)
          have h3 := get_def (s := kr) (i := 3) (by omega)
          have i0 := bAt_le kr 0
          have i2 := (kr.getD 2 0).toNat_lt
          have i3 := (kr.getD 3 0).toNat_lt
          have hw2 := wAt_le kr 2
          have r1 : IntKind.i64.wrap ((kr.getD 2 0).toNat : Int) = ((kr.getD 2 0).toNat : Int) := wrap_id (by omega) (by omega)
          have r2 : IntKind.i64.wrap ((kr.getD 3 0).toNat : Int) = ((kr.getD 3 0).toNat : Int) := wrap_id (by omega) (by omega)
          have r3 : IntKind.i64.wrap (((kr.getD 2 0).toNat : Int) * 2 ^ min 8 64) = (((kr.getD 2 0).toNat * 256 : Nat) : Int) := by
            rw [show min 8 64 = 8 from rfl, wrap_id (by omega) (by omega)]; omega
          have r4 : bitsOf .or .i64 (((kr.getD 2 0).toNat * 256 : Nat) : Int) ((kr.getD 3 0).toNat : Int) = ((wAt kr 2 : Nat) : Int) := w16_or _ _
          have r5 : IntKind.i64.wrap ((kr.getD 0 0).toNat : Int) = ((bAt kr 0 : Nat) : Int) := wrap_id (by omega) (by unfold bAt at i0; omega)
          have r6 : bitsOf .andNot .i64 ((wAt kr 2 : Nat) : Int) 7 = ((fa6 kr : Nat) : Int) := andNot7 _ hw2
          have r7 : bitsOf .and .i64 ((wAt kr 2 : Nat) : Int) 1 = ((wAt kr 2 % 2 : Nat) : Int) := by
            rw [show (1 : Int) = ((2 ^ 1 - 1 : Nat) : Int) from rfl, bits_mask 1 (by omega) (show ((wAt kr 2 : Nat) : Int) ≤ 9223372036854775807 by omega) (by decide)]
            rfl
          have r8 : (!decide (((wAt kr 2 % 2 : Nat) : Int) = 0)) = fm6 kr := by
            unfold fm6
            rw [← decide_not]
            exact decide_eq_decide.2 (by omega)
          have r8' : (decide (¬ ((wAt kr 2 % 2 : Nat) : Int) = 0)) = fm6 kr := by rw [← r8]; simp
          have hN2 := ev_New hS (n + 2) (kr.drop 4)
          have hU2 := ev_U32 hS n (kr.drop 4) 0 (by rw [List.length_drop]; omega) (by rw [List.length_drop]; omega)
          simp only [Nat.zero_add, List.drop_zero] at hU2
          have hU2 : S.ev (n + 3) id_num_Reader_U32 [.ptr 0 0 [] 0] (some (nrLV (kr.drop 4) 0)) = some (.tup [.int .i64 ((fi6 kr : Nat) : Int), .nili], some (nrLV (kr.drop 4) 4)) := hU2
          have hfi : fi6 kr < 4294967296 := num4_lt (kr.drop 4)
          have r9 : IntKind.u32.wrap ((fi6 kr : Nat) : Int) = ((fi6 kr : Nat) : Int) := wrap_u32 hfi
          have n4' : 4 ≤ kr.length := by omega
          have n8' : 8 ≤ kr.length := by omega
          have u4 : (kr.drop 4).take (kr.length - 4) = kr.drop 4 := List.take_of_length_le (by simp)
          have u8' : (kr.drop 8).take (kr.length - 8) = kr.drop 8 := List.take_of_length_le (by simp)
          have hdl : (kr.drop 8).length = kr.length - 8 := by simp
          have z1 : IntKind.i64.wrap (((th6 s).length : Int) - ((kr.length - 8 : Nat) : Int)) = (((th6 s).length - (kr.length - 8) : Nat) : Int) := by rw [wrap_id (by omega) (by omega)]; omega
          have z2 : IntKind.i64.wrap (((wAt s 4 : Nat) : Int) - (((th6 s).length - (kr.length - 8) : Nat) : Int)) = ((wAt s 4 - ((th6 s).length - (kr.length - 8)) : Nat) : Int) := by rw [wrap_id (by omega) (by omega)]; omega
          have hsh := ev_short hS (n + 2) (kr.drop 8) ((wAt s 4 - ((th6 s).length - (kr.length - 8)) : Nat) : Int)
          rw [hdl] at hsh
          simp only [if_true, hdl, ne_eq, not_true_eq_false, if_false, true_and, if_neg c6]
          by_cases c7 : kr.length - 8 < min 8 (wAt s 4 - ((th6 s).length - (kr.length - 8)))
          · rw [decide_eq_true (by omega)] at hsh
            simp only [if_pos c7, Int.reduceEq, if_false]
            simp only [go_sem, ↓reduceIte, reduceCtorEq, upd_ne, back_new (no_at), Nat.reduceAdd, Nat.reduceEqDiff, Nat.reduceMul, Nat.reduceSub, Nat.reduceLeDiff, Nat.reduceLT, Int.reduceToNat, Int.reduceLE, Int.reduceLT, Int.reduceEq, UInt8.reduceOfNat, List.getElem?_map, Int.toNat_natCast, Nat.sub_zero, pMinmax, pMinmax2, Option.bind_some, c1', c2', hfa, hN, hU, hC, fE, g0, g4, g5, g6, g7, byteLV, e4, q1, q2, q3, q4, q5, q6, q7, d1, d2, d3, k1, k2, v5, v6, hlf, hlt, l8, l24, t8, t24, hmm, m1, m2, m3, Bool.false_eq_true, c6', hN2, hU2, h0, h2, h3, r1, r2, r3, r4, r5, r6, r7, r8, r8', r9, n4', n8', u4, u8', hdl, z1, z2, hsh]
          · rw [decide_eq_false (by omega)] at hsh
            simp only [if_neg c7, if_true]
            simp only [go_sem, ↓reduceIte, reduceCtorEq, upd_ne, back_new (no_at), Nat.reduceAdd, Nat.reduceEqDiff, Nat.reduceMul, Nat.reduceSub, Nat.reduceLeDiff, Nat.reduceLT, Int.reduceToNat, Int.reduceLE, Int.reduceLT, Int.reduceEq, UInt8.reduceOfNat, List.getElem?_map, Int.toNat_natCast, Nat.sub_zero, pMinmax, pMinmax2, Option.bind_some, c1', c2', hfa, hN, hU, hC, fE, g0, g4, g5, g6, g7, byteLV, e4, q1, q2, q3, q4, q5, q6, q7, d1, d2, d3, k1, k2, v5, v6, hlf, hlt, l8, l24, t8, t24, hmm, m1, m2, m3, Bool.false_eq_true, c6', hN2, hU2, h0, h2, h3, r1, r2, r3, r4, r5, r6, r7, r8, r8', r9, n4', n8', u4, u8', hdl, z1, z2, hsh]
      · have z1 : IntKind.i64.wrap (((th6 s).length : Int) - (kr.length : Int)) = (((th6 s).length - kr.length : Nat) : Int) := by rw [wrap_id (by omega) (by omega)]; omega
        have z2 : IntKind.i64.wrap (((wAt s 4 : Nat) : Int) - (((th6 s).length - kr.length : Nat) : Int)) = ((wAt s 4 - ((th6 s).length - kr.length) : Nat) : Int) := by rw [wrap_id (by omega) (by omega)]; omega
        have hsh := ev_short hS (n + 2) kr ((wAt s 4 - ((th6 s).length - kr.length) : Nat) : Int)
        have c6n : ¬ (kp = 44 ∧ kr.length < 8) := fun h => c5 h.1
        simp only [if_neg c5, ne_eq, not_true_eq_false, if_false, if_neg c6n]
        by_cases c7 : kr.length < min 8 (wAt s 4 - ((th6 s).length - kr.length))
        · rw [decide_eq_true (by omega)] at hsh
          simp only [if_pos c7, Int.reduceEq, if_false]
          simp only [go_sem, ↓reduceIte, reduceCtorEq, upd_ne, back_new (no_at), Nat.reduceAdd, Nat.reduceEqDiff, Nat.reduceMul, Nat.reduceSub, Nat.reduceLeDiff, Nat.reduceLT, Int.reduceToNat, Int.reduceLE, Int.reduceLT, Int.reduceEq, UInt8.reduceOfNat, List.getElem?_map, Int.toNat_natCast, Nat.sub_zero, pMinmax, pMinmax2, Option.bind_some, c1', c2', hfa, hN, hU, hC, fE, g0, g4, g5, g6, g7, byteLV, e4, q1, q2, q3, q4, q5, q6, q7, d1, d2, d3, k1, k2, v5, v6, hlf, hlt, l8, l24, t8, t24, hmm, m1, m2, m3, Bool.false_eq_true, c5, z1, z2, hsh]
        · rw [decide_eq_false (by omega)] at hsh
          simp only [if_neg c7, if_true]
          simp only [go_sem, ↓reduceIte, reduceCtorEq, upd_ne, back_new (no_at), Nat.reduceAdd, Nat.reduceEqDiff, Nat.reduceMul, Nat.reduceSub, Nat.reduceLeDiff, Nat.reduceLT, Int.reduceToNat, Int.reduceLE, Int.reduceLT, Int.reduceEq, UInt8.reduceOfNat, List.getElem?_map, Int.toNat_natCast, Nat.sub_zero, pMinmax, pMinmax2, Option.bind_some, c1', c2', hfa, hN, hU, hC, fE, g0, g4, g5, g6, g7, byteLV, e4, q1, q2, q3, q4, q5, q6, q7, d1, d2, d3, k1, k2, v5, v6, hlf, hlt, l8, l24, t8, t24, hmm, m1, m2, m3, Bool.false_eq_true, c5, z1, z2, hsh]
end
end Go.Ev

namespace Go.Ev
set_option linter.unusedSimpArgs false
set_option linter.unusedVariables false
set_option maxRecDepth 10000
set_option maxHeartbeats 8000000
def f6 (s : List UInt8) : Bool := decide ((k6 s).2.2.1 = 44)
def i6 (s : List UInt8) : Int := if f6 s = true then ((fi6 (k6 s).2.2.2 : Nat) : Int) else 0
def a6 (s : List UInt8) : Int := if f6 s = true then ((fa6 (k6 s).2.2.2 : Nat) : Int) else 0
def m6 (s : List UInt8) : Bool := f6 s && fm6 (k6 s).2.2.2
def p6 (s : List UInt8) : Int := if f6 s = true then ((bAt (k6 s).2.2.2 0 : Nat) : Int) else (k6 s).2.2.1
def d6 (s : List UInt8) : List UInt8 := dD6 (k6 s)
def c6 (s : List UInt8) : Nat := cl6 s (k6 s)
theorem mk6_eq (s : List UInt8) : mk6 s (k6 s) = ip6LV (pcl6 s) (pfl6 s) (bAt s 7 : Nat) (pfr6 s) (pto6 s) (extsLV (k6 s).2.1) (f6 s) (i6 s) (a6 s) (m6 s) (p6 s) (d6 s) := by
  unfold mk6 f6 i6 a6 m6 p6 d6 dD6 f6
  by_cases h : (k6 s).2.2.1 = 44
  · simp only [h, if_true, decide_true, Bool.true_and]
  · simp only [h, if_false, decide_false, Bool.false_and, Bool.false_eq_true]
structure In6 (s : List UInt8) : Prop where
  h40 : 40 ≤ s.length
  hv : bAt s 0 / 16 = 6
  hk : (k6 s).1 = 0
  h8 : f6 s = true → 8 ≤ (k6 s).2.2.2.length
  hd : min 8 (c6 s) ≤ (d6 s).length
theorem iK6_zero {s : List UInt8} : iK6 s = 0 ↔ In6 s := by
  unfold iK6 iR6
  constructor
  · intro h
    split at h; · omega
    split at h; · omega
    split at h
    · rename_i h3; omega
    split at h; · omega
    split at h; · omega
    rename_i h1 h2 h3 h4 h5
    refine ⟨by omega, by omega, Classical.not_not.1 h3, fun q => ?_, ?_⟩
    · have : (k6 s).2.2.1 = 44 := of_decide_eq_true q
      apply Classical.byContradiction
      intro q2
      exact h4 ⟨this, by omega⟩
    · unfold c6 d6; omega
  · intro h
    have h1 := h.h40; have h2 := h.hv; have h5 := h.hd
    unfold c6 d6 at h5
    rw [if_neg (by omega), if_neg (by omega), if_neg (fun q => q h.hk), if_neg ?_, if_neg (by omega)]
    rintro ⟨q1, q2⟩
    have := h.h8 (decide_eq_true q1)
    omega
theorem In6.lv {s : List UInt8} (h : In6 s) : iLV6 s = ip6LV (pcl6 s) (pfl6 s) (bAt s 7 : Nat) (pfr6 s) (pto6 s) (extsLV (k6 s).2.1) (f6 s) (i6 s) (a6 s) (m6 s) (p6 s) (d6 s) := by
  unfold iLV6; rw [if_pos (iK6_zero.2 h), mk6_eq]
theorem In6.cl {s : List UInt8} (h : In6 s) : iC6 s = (c6 s : Int) := by unfold iC6; rw [if_pos (iK6_zero.2 h)]; rfl
theorem In6.fr {s : List UInt8} (h : In6 s) : (pfr6 s).length = 16 := by have := h.h40; unfold pfr6; simp; omega
theorem In6.to {s : List UInt8} (h : In6 s) : (pto6 s).length = 16 := by have := h.h40; unfold pto6; simp; omega
theorem pcl6_le (s : List UInt8) : 0 ≤ pcl6 s ∧ pcl6 s ≤ 255 := by unfold pcl6; omega
theorem i6_le (s : List UInt8) : 0 ≤ i6 s ∧ i6 s < 4294967296 := by
  unfold i6
  have h : fi6 (k6 s).2.2.2 < 4294967296 := num4_lt _
  split <;> omega
theorem a6_le (s : List UInt8) : 0 ≤ a6 s ∧ a6 s ≤ 65528 ∧ a6 s % 8 = 0 := by
  unfold a6 fa6
  have h := wAt_le (k6 s).2.2.2 2
  split <;> omega
theorem d6_le (s : List UInt8) : (d6 s).length ≤ c6 s ∧ c6 s ≤ 65535 := by
  unfold d6 c6 cl6
  have h1 : (k6 s).2.2.2.length ≤ (th6 s).length := chC_rest _ _ _ _
  have h2 : (dD6 (k6 s)).length ≤ (k6 s).2.2.2.length := by unfold dD6; split <;> simp
  have h3 : (th6 s).length ≤ wAt s 4 := by unfold th6; rw [List.length_take]; omega
  have h4 := wAt_le s 4
  omega
theorem ex6_le (s : List UInt8) : (k6 s).2.1.length ≤ 8 := chC_len _ _ _ _
end Go.Ev

namespace Go.Ev
set_option linter.unusedSimpArgs false
set_option linter.unusedVariables false
set_option maxRecDepth 10000
set_option maxHeartbeats 8000000
theorem inside_q4 {cl ho at' : Nat} {pt id : Int} {fg mo : Bool} {T a b : List UInt8} {claim : Nat} (ht : cl ≤ 255) (htl : ho ≤ 255) (hat : at' ≤ 65528) (hat8 : at' % 8 = 0) (ha : a.length = 4) (hb : b.length = 4)
    (hall : at' + 20 + claim ≤ 65535) (hT : T.length ≤ claim) (hm : min 8 claim ≤ T.length)
    {Y : List UInt8} (hY : Y = q4H (cl : Int) (ho : Int) pt (at' : Int) fg mo id claim ++ (beB 2 (q4X (cl : Int) (ho : Int) pt (at' : Int) fg mo id claim a b).toNat ++ (a ++ (b ++ T)))) :
    iK4 Y = 0 ∧ iC4 Y = (claim : Int) ∧ iLV4 Y = ip4LV (cl : Int) ((q4I fg id : Nat) : Int) (ho : Int) (((proto64 pt).1).toNat : Nat) (at' : Int) (q4D fg claim) mo a b [] T ∧
    (bAt Y 1 = cl ∧ bAt Y 8 = ho ∧ bAt Y 9 = (proto64 pt).1.toNat ∧ pat4 Y = (at' : Int) ∧ pmo4 Y = mo ∧ pfr4 Y = a ∧ pto4 Y = b ∧ pda4 Y = T ∧ n4 Y = 20 ∧ wAt Y 2 = 20 + claim) := by
  have hPl := proto64_le pt
  have hid : q4I fg id < 65536 := by unfold q4I; split <;> omega
  have hA := at4_lt (a := at') (df := q4D fg claim) (mo := mo) hat
  have hAd := at4_df (a := at') (df := q4D fg claim) (mo := mo) hat
  have hAm := at4_mo (a := at') (df := q4D fg claim) (mo := mo) hat
  have hAa := at4_at (a := at') (df := q4D fg claim) (mo := mo) hat hat8
  have hH : (q4H (cl : Int) (ho : Int) pt (at' : Int) fg mo id claim).length = 10 := by unfold q4H; simp only [List.length_cons, List.length_append, beB_len]
  have hs0 := right_in (h := q4H (cl : Int) (ho : Int) pt (at' : Int) fg mo id claim) (r := a ++ b) (x := (q4X (cl : Int) (ho : Int) pt (at' : Int) fg mo id claim a b).toNat) (by rw [hH]) rfl
  generalize (q4X (cl : Int) (ho : Int) pt (at' : Int) fg mo id claim a b).toNat = X at *
  have hl12 : (q4H (cl : Int) (ho : Int) pt (at' : Int) fg mo id claim ++ beB 2 X).length = 12 := by rw [List.length_append, hH, beB_len]
  have hY2 : Y = (q4H (cl : Int) (ho : Int) pt (at' : Int) fg mo id claim ++ beB 2 X) ++ (a ++ (b ++ T)) := by rw [hY, List.append_assoc]
  have e12 : Y.drop 12 = a ++ (b ++ T) := by rw [hY2]; exact List.drop_left' hl12
  have e16 : Y.drop 16 = b ++ T := by rw [show 16 = 12 + 4 by rfl, ← List.drop_drop, e12]; exact List.drop_left' ha
  have e20 : Y.drop 20 = T := by rw [show 20 = 16 + 4 by rfl, ← List.drop_drop, e16]; exact List.drop_left' hb
  have hlen : Y.length = 20 + T.length := by rw [hY2, List.length_append, hl12, List.length_append, List.length_append]; omega
  have ht20 : Y.take 20 = q4H (cl : Int) (ho : Int) pt (at' : Int) fg mo id claim ++ (UInt8.ofNat (X / 256) :: UInt8.ofNat X :: (a ++ b)) := by
    have : Y = (q4H (cl : Int) (ho : Int) pt (at' : Int) fg mo id claim ++ (UInt8.ofNat (X / 256) :: UInt8.ofNat X :: (a ++ b))) ++ T := by
      rw [hY, beB2]; simp only [List.append_assoc, List.cons_append, List.nil_append]
    rw [this]
    exact List.take_left' (by rw [List.length_append, hH]; simp only [List.length_cons, List.length_append]; omega)
  have hb0 : bAt Y 0 = 69 := by rw [hY]; unfold q4H; rfl
  have hb1 : bAt Y 1 = cl := by
    rw [hY]; unfold q4H
    simp only [beB1, beB2, List.cons_append, List.nil_append, bAt0, bAts, UInt8.toNat_ofNat', Int.toNat_natCast]; omega
  have hw2 : wAt Y 2 = 20 + claim := by
    rw [hY]; unfold q4H
    simp only [beB1, beB2, List.cons_append, List.nil_append, wAt0, wAts]; exact w16_beB (by omega)
  have hw4 : wAt Y 4 = q4I fg id := by
    rw [hY]; unfold q4H
    simp only [beB1, beB2, List.cons_append, List.nil_append, wAt0, wAts]; exact w16_beB hid
  have hw6 : wAt Y 6 = at4 (at' : Int) (q4D fg claim) mo := by
    rw [hY]; unfold q4H
    simp only [beB1, beB2, List.cons_append, List.nil_append, wAt0, wAts]; exact w16_beB (by omega)
  have hb8 : bAt Y 8 = ho := by
    rw [hY]; unfold q4H
    simp only [beB1, beB2, List.cons_append, List.nil_append, bAt0, bAts, UInt8.toNat_ofNat', Int.toNat_natCast]; omega
  have hb9 : bAt Y 9 = (proto64 pt).1.toNat := by
    rw [hY]; unfold q4H
    simp only [beB1, beB2, List.cons_append, List.nil_append, bAt0, bAts, UInt8.toNat_ofNat']; omega
  have hn : n4 Y = 20 := by unfold n4; rw [hb0]
  have hpd : pda4 Y = T := by unfold pda4; rw [hn, e20, hw2]; exact List.take_of_length_le (by omega)
  have hop : pop4 Y = [] := by unfold pop4; rw [hn]; rfl
  have hpf : pfr4 Y = a := by unfold pfr4; rw [e12]; exact List.take_left' ha
  have hpt : pto4 Y = b := by unfold pto4; rw [e16]; exact List.take_left' hb
  have hpa : pat4 Y = (at' : Int) := by unfold pat4; rw [hw6, hAa]
  have hpm : pmo4 Y = mo := by unfold pmo4; rw [hw6]; exact hAm
  have hpdf : pdf4 Y = q4D fg claim := by unfold pdf4; rw [hw6]; exact hAd
  have hIn : In4 Y := ⟨by omega, by rw [hb0], by omega, by omega, by rw [hn, ht20]; exact hs0, by omega, by rw [hw6]; exact hA, by rw [hw6, hAa, hw2]; omega, by rw [hw2, hn, hpd]; omega⟩
  have hk := iK4_zero.2 hIn
  refine ⟨hk, ?_, ?_, hb1, hb8, hb9, hpa, hpm, hpf, hpt, hpd, hn, hw2⟩
  · unfold iC4; rw [if_pos hk, hw2, hn]; omega
  · unfold iLV4; rw [if_pos hk, hb1, hw4, hb8, hb9, hpa, hpdf, hpm, hpf, hpt, hop, hpd]
theorem ones_mod (n : Nat) : ones n % 65535 = n % 65535 := by unfold ones; split <;> omega
theorem updN_le (x : Nat) (o w : List UInt8) : updN x o w ≤ 65535 := by unfold updN; omega
theorem updN_mod {x : Nat} {o w : List UInt8} (hx : x ≤ 65535) (ho : o.length % 2 = 0) : (updN x o w + sumAt 0 w) % 65535 = (x + sumAt 0 o) % 65535 := by
  have h1 := turn_sum o ho
  have h2 := ones_mod (65535 - x + sumAt 0 (turn 255 o))
  have h3 := ones_mod (ones (65535 - x + sumAt 0 (turn 255 o)) + sumAt 0 w)
  have h4 := ones_le (ones (65535 - x + sumAt 0 (turn 255 o)) + sumAt 0 w)
  unfold updN
  generalize ones (ones (65535 - x + sumAt 0 (turn 255 o)) + sumAt 0 w) = R at *
  generalize ones (65535 - x + sumAt 0 (turn 255 o)) = Q at *
  generalize sumAt 0 (turn 255 o) = A at *
  generalize sumAt 0 o = B at *
  generalize sumAt 0 w = C at *
  omega
theorem updN_top {x : Nat} {o w : List UInt8} (hx : x ≤ 65535) (h : updN x o w = 65535) : x = 65535 ∧ sumAt 0 w = 0 := by
  unfold updN at h
  have h4 := ones_le (ones (65535 - x + sumAt 0 (turn 255 o)) + sumAt 0 w)
  have h5 : ones (ones (65535 - x + sumAt 0 (turn 255 o)) + sumAt 0 w) = 0 := by omega
  rw [ones_zero] at h5
  have h6 : ones (65535 - x + sumAt 0 (turn 255 o)) = 0 := by omega
  rw [ones_zero] at h6
  omega
theorem updN_back {x : Nat} {o w : List UInt8} (hx : x ≤ 65535) (ho : o.length % 2 = 0) (hw : w.length % 2 = 0) : updN (updN x o w) w o = x ∨ x = 65535 ∧ updN (updN x o w) w o = 0 := by
  have h1 := updN_le x o w
  have h2 := updN_le (updN x o w) w o
  have h3 := updN_mod (w := w) hx ho
  have h4 := updN_mod (w := o) h1 hw
  have h5 : updN (updN x o w) w o = 65535 → x = 65535 := fun h => by
    obtain ⟨k1, _⟩ := updN_top h1 h
    exact (updN_top hx k1).1
  generalize updN (updN x o w) w o = Z at *
  generalize updN x o w = Y at *
  generalize sumAt 0 o = A at *
  generalize sumAt 0 w = C at *
  have h6 : Z % 65535 = x % 65535 := by omega
  by_cases hz : Z = 65535
  · left; rw [hz, h5 hz]
  · by_cases hx2 : x = 65535
    · right; omega
    · left; omega
theorem upY_back {x : Nat} {o w : List UInt8} (hx : x ≤ 65535) (hx0 : x ≠ 0) (ho : o.length % 2 = 0) (hw : w.length % 2 = 0) : upY x o w true ≠ 0 ∧ upY x o w true ≤ 65535 ∧ upY (upY x o w true) w o true = x := by
  have h1 := updN_le x o w
  have h3 := updN_mod (w := w) hx ho
  have hy : upY x o w true ≤ 65535 ∧ upY x o w true ≠ 0 ∧ (upY x o w true + sumAt 0 w) % 65535 = (x + sumAt 0 o) % 65535 := by
    unfold upY
    split
    · rename_i h
      rw [h.2] at h3
      refine ⟨by omega, by omega, by omega⟩
    · rename_i h
      exact ⟨h1, fun q => h ⟨rfl, q⟩, h3⟩
  refine ⟨hy.2.1, hy.1, ?_⟩
  generalize upY x o w true = Y at *
  have h4 := updN_mod (w := o) hy.1 hw
  have h2 := updN_le Y w o
  have h5 := @updN_top Y w o hy.1
  unfold upY
  generalize updN Y w o = Z at *
  generalize sumAt 0 o = A at *
  generalize sumAt 0 w = C at *
  split
  · rename_i h; have := h.2; omega
  · rename_i h
    have hz : Z ≠ 0 := fun q => h ⟨rfl, q⟩
    omega
end Go.Ev

namespace Go.Ev
set_option linter.unusedSimpArgs false
set_option linter.unusedVariables false
set_option maxRecDepth 10000
set_option maxHeartbeats 8000000
section
variable {S : Sys} (hS : Has S) (n : Nat)
include hS
theorem ev_own4_ok {s : List UInt8} {tos i0 ttl pt : Int} {df mo : Bool} {fr to op da a : List UInt8} {k c r id id' : Int} {md : List UInt8} {mtu : Nat} {q : List UInt8}
    (hp : S.ev (n + 4) id_ip4_Parse [.str s] none = some (.tup [ip4LV tos i0 ttl pt 0 df mo fr to op da, .nili], none)) (hfr : fr.length = 4) (hto : to.length = 4) (ha : a.length = 4)
    (hk : isF4 k = true) (hc : 0 ≤ c ∧ c ≤ 255) (hr : 0 ≤ r ∧ r < 4294967296) (hm : S.ev (n + 4) id_class_Martian4 [.bytes fr] none = some (.bool false, none)) (hpt : ¬ pt = 1)
    (hmtu : 68 ≤ mtu ∧ mtu ≤ 65535) (hl : 20 + op.length + da.length ≤ s.length) (hs : s.length ≤ 100000) (hop : op.length ≤ 40)
    (hbo : begO (20 + op.length + da.length) (20 + op.length) ((min 576 mtu : Nat) - 28 : Int) = true) (hq : (s.take (20 + op.length + da.length)).take (begN (20 + op.length + da.length) (20 + op.length) ((min 576 mtu : Nat) - 28 : Int)) = q)
    (hid : bitsOf .and .i64 id 65535 = id') (hi : I64 id')
    (hw : why4 0 id' 64 1 0 false [] (im4B k c r q) = 0) :
    S.ev (n + 5) id_fault_Own4 [msgLV k c r md, .str s, .bytes a, .int .i64 id, .int .i64 (mtu : Int)] none = some (.tup [.str (by4 0 id' 64 1 0 false false a fr [] (im4B k c r q)), .bool true], none) := by
  rw [Sys.step hS.h_fault_Own4, F_fault_Own4_eq]
  unfold F_fault_Own4
  have hk' : 0 ≤ k ∧ k ≤ 255 := by unfold isF4 at hk; have := of_decide_eq_true hk; omega
  have hf := ev_failure4 hS (n + 3) k c r md
  rw [hk] at hf
  have hql : q.length ≤ 100000 := by rw [← hq, List.length_take, List.length_take]; omega
  have hB := ev_icmp4B hS (n + 1) (k := k) (c := c) (r := r) (d := q) hk' hc hr hql
  have hbl : (im4B k c r q).length = 8 + q.length := by unfold im4B; simp only [List.length_append, beB_len]; omega
  have hby := ev_bytes4 hS (n + 1) (tos := 0) (id := id') (ttl := 64) (pt := 1) (at' := 0) (df := false) (mo := false) (fr := a) (to := fr) (op := []) (da := im4B k c r q) ⟨by unfold I64; omega, hi, by unfold I64; omega, by unfold I64; omega, by unfold I64; omega, ha, hfr, by simp, by omega⟩
  unfold by4R at hby
  rw [if_pos hw, hw] at hby
  have hg := ev_beginning hS (n + 3) (s.take (20 + op.length + da.length)) (20 + op.length) ((min 576 mtu : Nat) - 28 : Int) (by rw [List.length_take]; omega) (by omega)
  rw [show (s.take (20 + op.length + da.length)).length = 20 + op.length + da.length by rw [List.length_take]; omega, hbo, hq] at hg
  generalize im4B k c r q = IB at *
  have b1 : ¬ (mtu : Int) < 68 := by omega
  have b2 : ¬ 65535 < (mtu : Int) := by omega
  have e1 : IntKind.i64.wrap (20 + (op.length : Int)) = ((20 + op.length : Nat) : Int) := by rw [wrap_id (by omega) (by omega)]; omega
  have e2 : IntKind.i64.wrap (((20 + op.length : Nat) : Int) + (da.length : Int)) = ((20 + op.length + da.length : Nat) : Int) := by rw [wrap_id (by omega) (by omega)]; omega
  have hmm : (if (mtu : Int) < 576 then (mtu : Int) else 576) = ((min 576 mtu : Nat) : Int) := by split <;> omega
  have e3 : IntKind.i64.wrap (((min 576 mtu : Nat) : Int) - 20) = ((min 576 mtu : Nat) : Int) - 20 := wrap_id (by omega) (by omega)
  have e4 : IntKind.i64.wrap (((min 576 mtu : Nat) : Int) - 20 - 8) = ((min 576 mtu : Nat) : Int) - 28 := by rw [wrap_id (by omega) (by omega)]; omega
  (try simp only [guard_merge, or_merge, and_merge, or_pick, and_pick, guard_or, guard_and]); simp only [to_ob]
  simp only [go_sem, ↓reduceIte, reduceCtorEq, upd_ne, back_new (no_at), Nat.reduceAdd, Nat.reduceEqDiff, Nat.reduceMul, Nat.reduceSub, Nat.reduceLeDiff, Nat.reduceLT, Int.reduceToNat, Int.reduceLE, Int.reduceLT, Int.reduceEq, UInt8.reduceOfNat, List.getElem?_map, Int.toNat_natCast, pMinmax, pMinmax2, Option.bind_some, Bool.false_eq_true, hp, hf, hm, hpt, hfr, hto, ha, b1, b2, e1, e2, e3, e4, hmm, hl, hg, hB, hid, hby, fE, Nat.sub_zero, List.drop_zero]
end
end Go.Ev

namespace Go.Ev
set_option linter.unusedSimpArgs false
set_option linter.unusedVariables false
set_option maxRecDepth 4000
set_option maxHeartbeats 2000000
section
variable {S : Sys} (hS : Has S) (n : Nat)
include hS
theorem ev_Words (s : List UInt8) (hs : s.length ≤ 1000000) : S.ev (n + 1) id_interpreterref02_Words [.str s] none = some (.lst none (intsLV (wordsN s)), none) := by
  rw [Sys.step hS.h_interpreterref02_Words, F_interpreterref02_Words_eq]
  unfold F_interpreterref02_Words
  (try simp only [guard_merge, or_merge, and_merge, or_pick, and_pick, guard_or, guard_and]); simp only [to_ob]
  have e1 : Int.tmod (s.length : Int) 2 = ((s.length % 2 : Nat) : Int) := by rw [Int.tmod_eq_emod_of_nonneg (by omega)]; omega
  by_cases hpar : s.length % 2 = 1
  · have hq : ((s.length % 2 : Nat) : Int) = 1 := by omega
    have hms : s.length + (0 + 1) ≤ maxStr := by unfold maxStr; omega
    simp only [go_sem, ↓reduceIte, reduceCtorEq, upd_ne, back_new (no_at), Nat.reduceAdd, Nat.reduceEqDiff, Nat.reduceMul, Nat.reduceSub, Nat.reduceLeDiff, Nat.reduceLT, Int.reduceToNat, Int.reduceLE, Int.reduceLT, Int.reduceEq, UInt8.reduceOfNat, ↓e_sadd, e1, hq, hms]
    have hw := wordsN_odd s hpar
    have hlen : (s ++ [0]).length % 2 = 0 := by simp; omega
    have hle : (s ++ [0]).length ≤ 1000001 := by simp; omega
    generalize s ++ [0] = t at hw hlen hle
    rw [← hw]
    refine while_rule (fun k q => ∃ i : Nat, q = ([.lst (some (3, 1)) (intsLV (wordsN (t.take (2 * i)))), .int .i64 ((2 * i : Nat) : Int)], upd noSlots 3 (.tag 1 i 1)) ∧ 2 * (i + k) = t.length) (t.length / 2) ⟨0, by simp [wordsN], by omega⟩ ?_
    rintro k q ⟨i, rfl, hi⟩
    simp only [go_sem, ↓reduceIte, reduceCtorEq, upd_ne, back_new (no_at), Nat.reduceAdd, Nat.reduceEqDiff, Nat.reduceMul, Nat.reduceSub, Nat.reduceLeDiff, Nat.reduceLT, Int.reduceToNat, Int.reduceLE, Int.reduceLT, Int.reduceEq, UInt8.reduceOfNat]
    refine nxt_ite (fun h => ?_) (fun h => ?_)
    · have hlt : 2 * i < t.length := by omega
      obtain ⟨a, ha⟩ : ∃ a, t[2 * i]? = some a := ⟨t[2 * i], by simp [hlt]⟩
      have hlt2 : 2 * i + 1 < t.length := by omega
      obtain ⟨b, hb⟩ : ∃ b, t[2 * i + 1]? = some b := ⟨t[2 * i + 1], by simp [hlt2]⟩
      have hal := a.toNat_lt
      have hbl := b.toNat_lt
      have e2 : IntKind.i64.wrap (a.toNat : Int) = (a.toNat : Int) := wrap_id (by omega) (by omega)
      have e3 : IntKind.i64.wrap (b.toNat : Int) = (b.toNat : Int) := wrap_id (by omega) (by omega)
      have e4 : IntKind.i64.wrap (256 * (a.toNat : Int)) = ((256 * a.toNat : Nat) : Int) := by rw [wrap_id (by omega) (by omega)]; omega
      have e5 : IntKind.i64.wrap (((2 * i : Nat) : Int) + 1) = ((2 * i + 1 : Nat) : Int) := by rw [wrap_id (by omega) (by omega)]; omega
      have e6 : IntKind.i64.wrap (((256 * a.toNat : Nat) : Int) + (b.toNat : Int)) = ((256 * a.toNat + b.toNat : Nat) : Int) := by rw [wrap_id (by omega) (by omega)]; omega
      have e7 : IntKind.i64.wrap (((2 * i : Nat) : Int) + 2) = ((2 * (i + 1) : Nat) : Int) := by rw [wrap_id (by omega) (by omega)]; omega
      have hwl : (wordsN (t.take (2 * i))).length = i := by rw [wordsN_len, List.length_take]; omega
      have hap := wAppend_tag (e := 1) (by' := 8) (d := 32) (t := 3) (g := 1) (n := i) (sz := 1) (sl := upd noSlots 3 (.tag 1 i 1)) (l := intsLV (wordsN (t.take (2 * i)))) (new := [.int .i64 ((256 * a.toNat + b.toNat : Nat) : Int)]) upd_same (by simp [hwl]) rfl (ints_flat _) (by simp [flatLen]) (by simp) (by simp [hwl]; omega)
      simp only [go_sem, ↓reduceIte, reduceCtorEq, upd_ne, back_new (no_at), Nat.reduceAdd, Nat.reduceEqDiff, Nat.reduceMul, Nat.reduceSub, Nat.reduceLeDiff, Nat.reduceLT, Int.reduceToNat, Int.reduceLE, Int.reduceLT, Int.reduceEq, UInt8.reduceOfNat, List.getElem?_map, Int.toNat_natCast, ha, hb, e2, e3, e4, e5, e6, e7, hap]
      refine ⟨k - 1, by omega, i + 1, ?_, by omega⟩
      rw [wordsN_take t i a b ha hb]
      simp
    · rw [List.take_of_length_le (by omega)]
      simp only [go_sem, ↓reduceIte, reduceCtorEq, upd_ne, back_new (no_at), Nat.reduceAdd, Nat.reduceEqDiff, Nat.reduceMul, Nat.reduceSub, Nat.reduceLeDiff, Nat.reduceLT, Int.reduceToNat, Int.reduceLE, Int.reduceLT, Int.reduceEq, UInt8.reduceOfNat, Nxt, exIf]
  · have hq : ¬ ((s.length % 2 : Nat) : Int) = 1 := by omega
    simp only [go_sem, ↓reduceIte, reduceCtorEq, upd_ne, back_new (no_at), Nat.reduceAdd, Nat.reduceEqDiff, Nat.reduceMul, Nat.reduceSub, Nat.reduceLeDiff, Nat.reduceLT, Int.reduceToNat, Int.reduceLE, Int.reduceLT, Int.reduceEq, UInt8.reduceOfNat, e1, hq]
    have hlen : s.length % 2 = 0 := by omega
    have hle : s.length ≤ 1000001 := by omega
    generalize s = t at hlen hle
    refine while_rule (fun k q => ∃ i : Nat, q = ([.lst (some (3, 1)) (intsLV (wordsN (t.take (2 * i)))), .int .i64 ((2 * i : Nat) : Int)], upd noSlots 3 (.tag 1 i 1)) ∧ 2 * (i + k) = t.length) (t.length / 2) ⟨0, by simp [wordsN], by omega⟩ ?_
    rintro k q ⟨i, rfl, hi⟩
    simp only [go_sem, ↓reduceIte, reduceCtorEq, upd_ne, back_new (no_at), Nat.reduceAdd, Nat.reduceEqDiff, Nat.reduceMul, Nat.reduceSub, Nat.reduceLeDiff, Nat.reduceLT, Int.reduceToNat, Int.reduceLE, Int.reduceLT, Int.reduceEq, UInt8.reduceOfNat]
    refine nxt_ite (fun h => ?_) (fun h => ?_)
    · have hlt : 2 * i < t.length := by omega
      obtain ⟨a, ha⟩ : ∃ a, t[2 * i]? = some a := ⟨t[2 * i], by simp [hlt]⟩
      have hlt2 : 2 * i + 1 < t.length := by omega
      obtain ⟨b, hb⟩ : ∃ b, t[2 * i + 1]? = some b := ⟨t[2 * i + 1], by simp [hlt2]⟩
      have hal := a.toNat_lt
      have hbl := b.toNat_lt
      have e2 : IntKind.i64.wrap (a.toNat : Int) = (a.toNat : Int) := wrap_id (by omega) (by omega)
      have e3 : IntKind.i64.wrap (b.toNat : Int) = (b.toNat : Int) := wrap_id (by omega) (by omega)
      have e4 : IntKind.i64.wrap (256 * (a.toNat : Int)) = ((256 * a.toNat : Nat) : Int) := by rw [wrap_id (by omega) (by omega)]; omega
      have e5 : IntKind.i64.wrap (((2 * i : Nat) : Int) + 1) = ((2 * i + 1 : Nat) : Int) := by rw [wrap_id (by omega) (by omega)]; omega
      have e6 : IntKind.i64.wrap (((256 * a.toNat : Nat) : Int) + (b.toNat : Int)) = ((256 * a.toNat + b.toNat : Nat) : Int) := by rw [wrap_id (by omega) (by omega)]; omega
      have e7 : IntKind.i64.wrap (((2 * i : Nat) : Int) + 2) = ((2 * (i + 1) : Nat) : Int) := by rw [wrap_id (by omega) (by omega)]; omega
      have hwl : (wordsN (t.take (2 * i))).length = i := by rw [wordsN_len, List.length_take]; omega
      have hap := wAppend_tag (e := 1) (by' := 8) (d := 32) (t := 3) (g := 1) (n := i) (sz := 1) (sl := upd noSlots 3 (.tag 1 i 1)) (l := intsLV (wordsN (t.take (2 * i)))) (new := [.int .i64 ((256 * a.toNat + b.toNat : Nat) : Int)]) upd_same (by simp [hwl]) rfl (ints_flat _) (by simp [flatLen]) (by simp) (by simp [hwl]; omega)
      simp only [go_sem, ↓reduceIte, reduceCtorEq, upd_ne, back_new (no_at), Nat.reduceAdd, Nat.reduceEqDiff, Nat.reduceMul, Nat.reduceSub, Nat.reduceLeDiff, Nat.reduceLT, Int.reduceToNat, Int.reduceLE, Int.reduceLT, Int.reduceEq, UInt8.reduceOfNat, List.getElem?_map, Int.toNat_natCast, ha, hb, e2, e3, e4, e5, e6, e7, hap]
      refine ⟨k - 1, by omega, i + 1, ?_, by omega⟩
      rw [wordsN_take t i a b ha hb]
      simp
    · rw [List.take_of_length_le (by omega)]
      simp only [go_sem, ↓reduceIte, reduceCtorEq, upd_ne, back_new (no_at), Nat.reduceAdd, Nat.reduceEqDiff, Nat.reduceMul, Nat.reduceSub, Nat.reduceLeDiff, Nat.reduceLT, Int.reduceToNat, Int.reduceLE, Int.reduceLT, Int.reduceEq, UInt8.reduceOfNat, Nxt, exIf]
end
end Go.Ev

namespace Go.Ev
set_option linter.unusedSimpArgs false
set_option linter.unusedVariables false
set_option maxRecDepth 4000
set_option maxHeartbeats 2000000
section
variable {S : Sys} (hS : Has S) (n : Nat)
include hS
theorem ev_Total (l : List Nat) (h1 : ∀ w ∈ l, w ≤ 65535) (h2 : l.length ≤ 1000000) : S.ev (n + 1) id_interpreterref02_Total [.lst none (intsLV l)] none = some (.int .i64 (ones l.sum : Nat), none) := by
  rw [Sys.step hS.h_interpreterref02_Total, F_interpreterref02_Total_eq]
  unfold F_interpreterref02_Total
  (try simp only [guard_merge, or_merge, and_merge, or_pick, and_pick, guard_or, guard_and]); simp only [to_ob]
  simp only [go_sem, ↓reduceIte, reduceCtorEq, upd_ne, back_new (no_at), Nat.reduceAdd, Nat.reduceEqDiff, Nat.reduceMul, Nat.reduceSub, Nat.reduceLeDiff, Nat.reduceLT, Int.reduceToNat, Int.reduceLE, Int.reduceLT, Int.reduceEq, UInt8.reduceOfNat]
  have hsum : ∀ i, (l.take i).sum ≤ 65535 * i := by
    intro i
    induction i with
    | zero => simp
    | succ i ih =>
      rw [List.take_add_one]
      cases hc : l[i]? with
      | none => simp; omega
      | some w =>
        have := h1 w (List.mem_of_getElem? hc)
        simp; omega
  have hs : l.sum ≤ 65535 * l.length := by have := hsum l.length; rwa [List.take_length] at this
  refine while_rule (fun k q => ∃ i : Nat, q = ([.int .i64 ((l.take i).sum : Nat), .int .i64 (i : Int)], noSlots) ∧ i + k = l.length) l.length ⟨0, by simp, by simp⟩ ?_
  rintro k q ⟨i, rfl, hi⟩
  simp only [go_sem, ↓reduceIte, reduceCtorEq, upd_ne, back_new (no_at), Nat.reduceAdd, Nat.reduceEqDiff, Nat.reduceMul, Nat.reduceSub, Nat.reduceLeDiff, Nat.reduceLT, Int.reduceToNat, Int.reduceLE, Int.reduceLT, Int.reduceEq, UInt8.reduceOfNat, List.length_map]
  refine nxt_ite (fun h => ?_) (fun h => ?_)
  · have hlt : i < l.length := by omega
    obtain ⟨w, hw⟩ : ∃ w, l[i]? = some w := ⟨l[i], by simp [hlt]⟩
    have := h1 w (List.mem_of_getElem? hw)
    have hb := hsum i
    have e1 : IntKind.i64.wrap (((l.take i).sum : Nat) + (w : Int)) = ((l.take (i + 1)).sum : Nat) := by
      rw [wrap_id (by omega) (by omega), List.take_add_one, hw]; simp
    have e2 : IntKind.i64.wrap ((i : Int) + 1) = ((i + 1 : Nat) : Int) := by rw [wrap_id (by omega) (by omega)]; omega
    simp only [go_sem, ↓reduceIte, reduceCtorEq, upd_ne, back_new (no_at), Nat.reduceAdd, Nat.reduceEqDiff, Nat.reduceMul, Nat.reduceSub, Nat.reduceLeDiff, Nat.reduceLT, Int.reduceToNat, Int.reduceLE, Int.reduceLT, Int.reduceEq, UInt8.reduceOfNat, List.getElem?_map, Int.toNat_natCast, hw, e1, e2]
    exact ⟨k - 1, by omega, i + 1, rfl, by omega⟩
  · rw [List.take_of_length_le (by omega)]
    simp only [go_sem, ↓reduceIte, reduceCtorEq, upd_ne, back_new (no_at), Nat.reduceAdd, Nat.reduceEqDiff, Nat.reduceMul, Nat.reduceSub, Nat.reduceLeDiff, Nat.reduceLT, Int.reduceToNat, Int.reduceLE, Int.reduceLT, Int.reduceEq, UInt8.reduceOfNat, Nxt, exIf]
    refine while_rule (fun k q => ∃ x : Nat, q = ([.int .i64 (x : Int)], noSlots) ∧ k = x ∧ ones x = ones l.sum ∧ x ≤ 9223372036854775807) l.sum ⟨_, rfl, rfl, rfl, by omega⟩ ?_
    rintro k q ⟨x, rfl, rfl, hx, hb⟩
    simp only [go_sem, ↓reduceIte, reduceCtorEq, upd_ne, back_new (no_at), Nat.reduceAdd, Nat.reduceEqDiff, Nat.reduceMul, Nat.reduceSub, Nat.reduceLeDiff, Nat.reduceLT, Int.reduceToNat, Int.reduceLE, Int.reduceLT, Int.reduceEq, UInt8.reduceOfNat]
    refine nxt_ite (fun h => ?_) (fun h => ?_)
    · have e1 : IntKind.i64.wrap (Int.tdiv (k : Int) 65536) = ((k / 65536 : Nat) : Int) := by
        rw [show Int.tdiv (k : Int) 65536 = ((k / 65536 : Nat) : Int) from rfl, wrap_id (by omega) (by omega)]
      have e2 : Int.tmod (k : Int) 65536 = ((k % 65536 : Nat) : Int) := rfl
      have e3 : IntKind.i64.wrap (((k / 65536 : Nat) : Int) + ((k % 65536 : Nat) : Int)) = ((k / 65536 + k % 65536 : Nat) : Int) := by
        rw [wrap_id (by omega) (by omega)]; omega
      have hk : 65535 < k := by omega
      simp only [go_sem, ↓reduceIte, reduceCtorEq, upd_ne, back_new (no_at), Nat.reduceAdd, Nat.reduceEqDiff, Nat.reduceMul, Nat.reduceSub, Nat.reduceLeDiff, Nat.reduceLT, Int.reduceToNat, Int.reduceLE, Int.reduceLT, Int.reduceEq, UInt8.reduceOfNat, e1, e2, e3]
      exact ⟨_, by omega, _, rfl, rfl, by rw [ones_step hk, hx], by omega⟩
    · have hk : k ≤ 65535 := by omega
      simp only [go_sem, ↓reduceIte, reduceCtorEq, upd_ne, back_new (no_at), Nat.reduceAdd, Nat.reduceEqDiff, Nat.reduceMul, Nat.reduceSub, Nat.reduceLeDiff, Nat.reduceLT, Int.reduceToNat, Int.reduceLE, Int.reduceLT, Int.reduceEq, UInt8.reduceOfNat, Nxt, exIf]
      rw [← hx, ones_small hk]
theorem ev_rOf (s : List UInt8) (hs : s.length ≤ 1000000) : S.ev (n + 2) id_interpreterref02_Of [.str s] none = some (.int .i64 (65535 - (ones (sumAt 0 s) : Nat)), none) := by
  rw [Sys.step hS.h_interpreterref02_Of, F_interpreterref02_Of_eq]
  unfold F_interpreterref02_Of
  have h1 := ev_Words hS n s hs
  have h2 := ev_Total hS n (wordsN s) (wordsN_le s) (by rw [wordsN_len]; omega)
  rw [wordsN_sum] at h2
  have ho := ones_le (sumAt 0 s)
  have e1 : IntKind.i64.wrap (65535 - ((ones (sumAt 0 s) : Nat) : Int)) = 65535 - ((ones (sumAt 0 s) : Nat) : Int) := wrap_id (by omega) (by omega)
  (try simp only [guard_merge, or_merge, and_merge, or_pick, and_pick, guard_or, guard_and]); simp only [to_ob]
  simp only [go_sem, ↓reduceIte, reduceCtorEq, upd_ne, back_new (no_at), Nat.reduceAdd, Nat.reduceEqDiff, Nat.reduceMul, Nat.reduceSub, Nat.reduceLeDiff, Nat.reduceLT, Int.reduceToNat, Int.reduceLE, Int.reduceLT, Int.reduceEq, UInt8.reduceOfNat, h1, h2, e1]
end
end Go.Ev

namespace Go.Ev
set_option linter.unusedSimpArgs false
set_option linter.unusedVariables false
set_option maxRecDepth 4000
set_option maxHeartbeats 4000000
section
variable {S : Sys} (hS : Has S) (n : Nat)
include hS
theorem ev_within (x m : Int) : S.ev (n + 1) id_interpreterref03_within [.int .i64 x, .int .i64 m] none = some (.bool (decide (0 ≤ x ∧ x ≤ m)), none) := by
  rw [Sys.step hS.h_interpreterref03_within, F_interpreterref03_within_eq]
  unfold F_interpreterref03_within
  (try simp only [guard_merge, or_merge, and_merge, or_pick, and_pick, guard_or, guard_and]); simp only [to_ob]
  by_cases h1 : 0 ≤ x <;> by_cases h2 : x ≤ m <;> simp only [go_sem, ↓reduceIte, reduceCtorEq, upd_ne, back_new (no_at), Nat.reduceAdd, Nat.reduceEqDiff, Nat.reduceMul, Nat.reduceSub, Nat.reduceLeDiff, Nat.reduceLT, Int.reduceToNat, Int.reduceLE, Int.reduceLT, Int.reduceEq, UInt8.reduceOfNat, h1, h2]
theorem ev_Why3 {tos id ttl pt at' : Int} {df mo : Bool} {fr to op da : List UInt8} (hfr : fr.length = 4) (hto : to.length = 4) (hop : op.length ≤ 140737488351232) (hda : da.length ≤ 140737488351232) :
    S.ev (n + 2) id_interpreterref03_Why [ip4LV tos id ttl pt at' df mo fr to op da] none = some (.int .i64 (why4 tos id ttl pt at' mo op da), none) := by
  rw [Sys.step hS.h_interpreterref03_Why, F_interpreterref03_Why_eq]
  unfold F_interpreterref03_Why
  have hw := ev_within hS n
  (try simp only [guard_merge, or_merge, and_merge, or_pick, and_pick, guard_or, guard_and]); simp only [to_ob]
  unfold why4
  have e1 : Int.tmod (op.length : Int) 4 = ((op.length % 4 : Nat) : Int) := rfl
  have e2 : Int.tmod (da.length : Int) 8 = ((da.length % 8 : Nat) : Int) := rfl
  by_cases c1 : okB tos ∧ okB ttl ∧ okB pt ∧ (0 ≤ id ∧ id ≤ 65535) ∧ (0 ≤ at' ∧ at' ≤ 65528) ∧ Int.tmod at' 8 = 0
  · rw [if_pos c1]
    obtain ⟨⟨a1, a2⟩, ⟨a3, a4⟩, ⟨a5, a6⟩, ⟨c14, c15⟩, ⟨c16, c17⟩, c18⟩ := c1
    by_cases k1 : op.length ≤ 40
    · have k1' : ¬ 40 < (op.length : Int) := by omega
      have k5 : IntKind.i64.wrap (IntKind.i64.wrap (IntKind.i64.wrap (20 + (op.length : Int)) + at') + (da.length : Int)) = 20 + (op.length : Int) + at' + da.length := by
        rw [wrap_id (n := 20 + (op.length : Int)) (by omega) (by omega), wrap_id (n := 20 + (op.length : Int) + at') (by omega) (by omega), wrap_id (by omega) (by omega)]
      by_cases k2 : op.length % 4 = 0
      · have k2' : ((op.length % 4 : Nat) : Int) = 0 := by omega
        by_cases k6 : 20 + (op.length : Int) + at' + da.length ≤ 65535
        · have k6' : ¬ 65535 < 20 + (op.length : Int) + at' + da.length := by omega
          cases mo
          · simp only [go_sem, ↓reduceIte, reduceCtorEq, upd_ne, back_new (no_at), Nat.reduceAdd, Nat.reduceEqDiff, Nat.reduceMul, Nat.reduceSub, Nat.reduceLeDiff, Nat.reduceLT, Int.reduceToNat, Int.reduceLE, Int.reduceLT, Int.reduceEq, UInt8.reduceOfNat, hw, hfr, hto, a1, a2, a3, a4, a5, a6, c14, c15, c16, c17, c18, e1, e2, k1, k1', k2, k2', k5, k6, k6', false_implies]
          · by_cases k3 : da.length = 0
            · have k3' : (da.length : Int) = 0 := by omega
              simp only [go_sem, ↓reduceIte, reduceCtorEq, upd_ne, back_new (no_at), Nat.reduceAdd, Nat.reduceEqDiff, Nat.reduceMul, Nat.reduceSub, Nat.reduceLeDiff, Nat.reduceLT, Int.reduceToNat, Int.reduceLE, Int.reduceLT, Int.reduceEq, UInt8.reduceOfNat, hw, hfr, hto, a1, a2, a3, a4, a5, a6, c14, c15, c16, c17, c18, e1, e2, k1, k1', k2, k2', k3, k3', true_implies]
            · have k3' : ¬ (da.length : Int) = 0 := by omega
              by_cases k4 : da.length % 8 = 0
              · have k4' : ((da.length % 8 : Nat) : Int) = 0 := by omega
                simp only [go_sem, ↓reduceIte, reduceCtorEq, upd_ne, back_new (no_at), Nat.reduceAdd, Nat.reduceEqDiff, Nat.reduceMul, Nat.reduceSub, Nat.reduceLeDiff, Nat.reduceLT, Int.reduceToNat, Int.reduceLE, Int.reduceLT, Int.reduceEq, UInt8.reduceOfNat, hw, hfr, hto, a1, a2, a3, a4, a5, a6, c14, c15, c16, c17, c18, e1, e2, k1, k1', k2, k2', k3, k3', k4, k4', k5, k6, k6', true_implies]
              · have k4' : ¬ ((da.length % 8 : Nat) : Int) = 0 := by omega
                simp only [go_sem, ↓reduceIte, reduceCtorEq, upd_ne, back_new (no_at), Nat.reduceAdd, Nat.reduceEqDiff, Nat.reduceMul, Nat.reduceSub, Nat.reduceLeDiff, Nat.reduceLT, Int.reduceToNat, Int.reduceLE, Int.reduceLT, Int.reduceEq, UInt8.reduceOfNat, hw, hfr, hto, a1, a2, a3, a4, a5, a6, c14, c15, c16, c17, c18, e1, e2, k1, k1', k2, k2', k3, k3', k4, k4', true_implies]
        · have k6' : 65535 < 20 + (op.length : Int) + at' + da.length := by omega
          cases mo
          · simp only [go_sem, ↓reduceIte, reduceCtorEq, upd_ne, back_new (no_at), Nat.reduceAdd, Nat.reduceEqDiff, Nat.reduceMul, Nat.reduceSub, Nat.reduceLeDiff, Nat.reduceLT, Int.reduceToNat, Int.reduceLE, Int.reduceLT, Int.reduceEq, UInt8.reduceOfNat, hw, hfr, hto, a1, a2, a3, a4, a5, a6, c14, c15, c16, c17, c18, e1, e2, k1, k1', k2, k2', k5, k6, k6', false_implies]
          · by_cases k3 : da.length = 0
            · have k3' : (da.length : Int) = 0 := by omega
              simp only [go_sem, ↓reduceIte, reduceCtorEq, upd_ne, back_new (no_at), Nat.reduceAdd, Nat.reduceEqDiff, Nat.reduceMul, Nat.reduceSub, Nat.reduceLeDiff, Nat.reduceLT, Int.reduceToNat, Int.reduceLE, Int.reduceLT, Int.reduceEq, UInt8.reduceOfNat, hw, hfr, hto, a1, a2, a3, a4, a5, a6, c14, c15, c16, c17, c18, e1, e2, k1, k1', k2, k2', k3, k3', true_implies]
            · have k3' : ¬ (da.length : Int) = 0 := by omega
              by_cases k4 : da.length % 8 = 0
              · have k4' : ((da.length % 8 : Nat) : Int) = 0 := by omega
                simp only [go_sem, ↓reduceIte, reduceCtorEq, upd_ne, back_new (no_at), Nat.reduceAdd, Nat.reduceEqDiff, Nat.reduceMul, Nat.reduceSub, Nat.reduceLeDiff, Nat.reduceLT, Int.reduceToNat, Int.reduceLE, Int.reduceLT, Int.reduceEq, UInt8.reduceOfNat, hw, hfr, hto, a1, a2, a3, a4, a5, a6, c14, c15, c16, c17, c18, e1, e2, k1, k1', k2, k2', k3, k3', k4, k4', k5, k6, k6', true_implies]
              · have k4' : ¬ ((da.length % 8 : Nat) : Int) = 0 := by omega
                simp only [go_sem, ↓reduceIte, reduceCtorEq, upd_ne, back_new (no_at), Nat.reduceAdd, Nat.reduceEqDiff, Nat.reduceMul, Nat.reduceSub, Nat.reduceLeDiff, Nat.reduceLT, Int.reduceToNat, Int.reduceLE, Int.reduceLT, Int.reduceEq, UInt8.reduceOfNat, hw, hfr, hto, a1, a2, a3, a4, a5, a6, c14, c15, c16, c17, c18, e1, e2, k1, k1', k2, k2', k3, k3', k4, k4', true_implies]
      · have k2' : ¬ ((op.length % 4 : Nat) : Int) = 0 := by omega
        simp only [go_sem, ↓reduceIte, reduceCtorEq, upd_ne, back_new (no_at), Nat.reduceAdd, Nat.reduceEqDiff, Nat.reduceMul, Nat.reduceSub, Nat.reduceLeDiff, Nat.reduceLT, Int.reduceToNat, Int.reduceLE, Int.reduceLT, Int.reduceEq, UInt8.reduceOfNat, hw, hfr, hto, a1, a2, a3, a4, a5, a6, c14, c15, c16, c17, c18, e1, e2, k1, k1', k2, k2']
    · have k1' : 40 < (op.length : Int) := by omega
      simp only [go_sem, ↓reduceIte, reduceCtorEq, upd_ne, back_new (no_at), Nat.reduceAdd, Nat.reduceEqDiff, Nat.reduceMul, Nat.reduceSub, Nat.reduceLeDiff, Nat.reduceLT, Int.reduceToNat, Int.reduceLE, Int.reduceLT, Int.reduceEq, UInt8.reduceOfNat, hw, hfr, hto, a1, a2, a3, a4, a5, a6, c14, c15, c16, c17, c18, e1, e2, k1, k1']
  · rw [if_neg c1]
    by_cases b1 : okB tos
    · by_cases b2 : okB ttl
      · by_cases b3 : okB pt
        · by_cases b4 : 0 ≤ id ∧ id ≤ 65535
          · by_cases b5 : 0 ≤ at' ∧ at' ≤ 65528
            · have b6 : ¬ Int.tmod at' 8 = 0 := fun h => c1 ⟨b1, b2, b3, b4, b5, h⟩
              simp only [go_sem, ↓reduceIte, reduceCtorEq, upd_ne, back_new (no_at), Nat.reduceAdd, Nat.reduceEqDiff, Nat.reduceMul, Nat.reduceSub, Nat.reduceLeDiff, Nat.reduceLT, Int.reduceToNat, Int.reduceLE, Int.reduceLT, Int.reduceEq, UInt8.reduceOfNat, hw, hfr, hto, decide_eq_true b1, decide_eq_true b2, decide_eq_true b3, decide_eq_true b4, decide_eq_true b5, b6]
            · simp only [go_sem, ↓reduceIte, reduceCtorEq, upd_ne, back_new (no_at), Nat.reduceAdd, Nat.reduceEqDiff, Nat.reduceMul, Nat.reduceSub, Nat.reduceLeDiff, Nat.reduceLT, Int.reduceToNat, Int.reduceLE, Int.reduceLT, Int.reduceEq, UInt8.reduceOfNat, hw, hfr, hto, decide_eq_true b1, decide_eq_true b2, decide_eq_true b3, decide_eq_true b4, decide_eq_false b5]
          · simp only [go_sem, ↓reduceIte, reduceCtorEq, upd_ne, back_new (no_at), Nat.reduceAdd, Nat.reduceEqDiff, Nat.reduceMul, Nat.reduceSub, Nat.reduceLeDiff, Nat.reduceLT, Int.reduceToNat, Int.reduceLE, Int.reduceLT, Int.reduceEq, UInt8.reduceOfNat, hw, hfr, hto, decide_eq_true b1, decide_eq_true b2, decide_eq_true b3, decide_eq_false b4]
        · simp only [go_sem, ↓reduceIte, reduceCtorEq, upd_ne, back_new (no_at), Nat.reduceAdd, Nat.reduceEqDiff, Nat.reduceMul, Nat.reduceSub, Nat.reduceLeDiff, Nat.reduceLT, Int.reduceToNat, Int.reduceLE, Int.reduceLT, Int.reduceEq, UInt8.reduceOfNat, hw, hfr, hto, decide_eq_true b1, decide_eq_true b2, decide_eq_false b3]
      · simp only [go_sem, ↓reduceIte, reduceCtorEq, upd_ne, back_new (no_at), Nat.reduceAdd, Nat.reduceEqDiff, Nat.reduceMul, Nat.reduceSub, Nat.reduceLeDiff, Nat.reduceLT, Int.reduceToNat, Int.reduceLE, Int.reduceLT, Int.reduceEq, UInt8.reduceOfNat, hw, hfr, hto, decide_eq_true b1, decide_eq_false b2]
    · simp only [go_sem, ↓reduceIte, reduceCtorEq, upd_ne, back_new (no_at), Nat.reduceAdd, Nat.reduceEqDiff, Nat.reduceMul, Nat.reduceSub, Nat.reduceLeDiff, Nat.reduceLT, Int.reduceToNat, Int.reduceLE, Int.reduceLT, Int.reduceEq, UInt8.reduceOfNat, hw, hfr, hto, decide_eq_false b1]
end
end Go.Ev

namespace Go.Ev
set_option linter.unusedSimpArgs false
set_option linter.unusedVariables false
set_option maxRecDepth 4000
set_option maxHeartbeats 2000000
section
variable {S : Sys} (hS : Has S) (n : Nat)
include hS
theorem ev_rText (s : List UInt8) (a m : Nat) (h : a + m ≤ s.length) (hs : s.length ≤ 140737488351232) :
    S.ev (n + 1) id_interpreterref01_Reader_Text [.ptr 0 0 [] 0, .int .i64 (m : Int)] (some (rdLV s a)) = some (.tup [.str ((s.drop a).take m), .int .i64 0], some (rdLV s (a + m))) := by
  rw [Sys.step hS.h_interpreterref01_Reader_Text, F_interpreterref01_Reader_Text_eq]
  unfold F_interpreterref01_Reader_Text
  (try simp only [guard_merge, or_merge, and_merge, or_pick, and_pick, guard_or, guard_and]); simp only [to_ob]
  have f1 : ¬ (m : Int) < 0 := by omega
  have f2 : ¬ (s.length : Int) < (m : Int) := by omega
  have e1 : IntKind.i64.wrap ((s.length : Int) - (m : Int)) = ((s.length - m : Nat) : Int) := by rw [wrap_id (by omega) (by omega)]; omega
  have f3 : ¬ ((s.length - m : Nat) : Int) < (a : Int) := by omega
  simp only [go_sem, ↓reduceIte, reduceCtorEq, upd_ne, back_new (no_at), Nat.reduceAdd, Nat.reduceEqDiff, Nat.reduceMul, Nat.reduceSub, Nat.reduceLeDiff, Nat.reduceLT, Int.reduceToNat, Int.reduceLE, Int.reduceLT, Int.reduceEq, UInt8.reduceOfNat, f1, f2, e1, f3]
  refine while_rule (fun k q => ∃ i : Nat, i + k = m ∧ q = ([.str ((s.drop a).take i), .int .i64 (i : Int)], upd noSlots 0 (.obj 0 (rdLV s (a + i))))) m ⟨0, by omega, by simp⟩ ?_
  rintro k q ⟨i, hi, rfl⟩
  simp only [go_sem, ↓reduceIte, reduceCtorEq, upd_ne, back_new (no_at), Nat.reduceAdd, Nat.reduceEqDiff, Nat.reduceMul, Nat.reduceSub, Nat.reduceLeDiff, Nat.reduceLT, Int.reduceToNat, Int.reduceLE, Int.reduceLT, Int.reduceEq, UInt8.reduceOfNat]
  refine nxt_ite (fun h => ?_) (fun h => ?_)
  · have hlt : a + i < s.length := by omega
    obtain ⟨c, hc⟩ : ∃ c, s[a + i]? = some c := ⟨s[a + i], by simp [hlt]⟩
    have e2 : IntKind.i64.wrap (((a + i : Nat) : Int) + 1) = ((a + i + 1 : Nat) : Int) := by rw [wrap_id (by omega) (by omega)]; omega
    have e3 : IntKind.i64.wrap ((i : Int) + 1) = ((i + 1 : Nat) : Int) := by rw [wrap_id (by omega) (by omega)]; omega
    have f4 : a + i + 1 ≤ s.length := by omega
    have f5 : a + i ≤ a + i + 1 := by omega
    have e4 : (s.drop (a + i)).take (a + i + 1 - (a + i)) = [c] := by rw [show a + i + 1 - (a + i) = 1 by omega, drop_take_one hc]
    have f6 : min i (s.length - a) + (0 + 1) ≤ maxStr := by unfold maxStr; omega
    have f6' : min i (s.length - a) + 1 ≤ maxStr := by unfold maxStr; omega
    simp only [go_sem, ↓reduceIte, reduceCtorEq, upd_ne, back_new (no_at), Nat.reduceAdd, Nat.reduceEqDiff, Nat.reduceMul, Nat.reduceSub, Nat.reduceLeDiff, Nat.reduceLT, Int.reduceToNat, Int.reduceLE, Int.reduceLT, Int.reduceEq, UInt8.reduceOfNat, List.getElem?_map, Int.toNat_natCast, ↓e_sadd, e2, e3, f4, f5, e4, f6, f6', List.length_take, List.length_drop]
    exact ⟨k - 1, by omega, i + 1, by omega, by rw [drop_take_snoc hc]; rfl⟩
  · obtain rfl : i = m := by omega
    simp only [go_sem, ↓reduceIte, reduceCtorEq, upd_ne, back_new (no_at), Nat.reduceAdd, Nat.reduceEqDiff, Nat.reduceMul, Nat.reduceSub, Nat.reduceLeDiff, Nat.reduceLT, Int.reduceToNat, Int.reduceLE, Int.reduceLT, Int.reduceEq, UInt8.reduceOfNat, Nxt, exIf]
theorem ev_rNumber (s : List UInt8) (a m : Nat) (h : a + m ≤ s.length) (hm : m ≤ 4) (hs : s.length ≤ 140737488351232) :
    S.ev (n + 2) id_interpreterref01_Reader_Number [.ptr 0 0 [] 0, .int .i64 (m : Int)] (some (rdLV s a)) = some (.tup [.int .i64 ((numN ((s.drop a).take m) : Nat) : Int), .int .i64 0], some (rdLV s (a + m))) := by
  rw [Sys.step hS.h_interpreterref01_Reader_Number, F_interpreterref01_Reader_Number_eq]
  unfold F_interpreterref01_Reader_Number
  have ht := ev_rText hS n s a m h hs
  (try simp only [guard_merge, or_merge, and_merge, or_pick, and_pick, guard_or, guard_and]); simp only [to_ob]
  simp only [go_sem, ↓reduceIte, reduceCtorEq, upd_ne, back_new (no_at), Nat.reduceAdd, Nat.reduceEqDiff, Nat.reduceMul, Nat.reduceSub, Nat.reduceLeDiff, Nat.reduceLT, Int.reduceToNat, Int.reduceLE, Int.reduceLT, Int.reduceEq, UInt8.reduceOfNat, ht]
  have hul : ((s.drop a).take m).length = m := by rw [List.length_take, List.length_drop]; omega
  generalize (s.drop a).take m = u at *
  refine while_rule (fun k q => ∃ i : Nat, i + k = m ∧ q = ([.int .i64 ((numN (u.take i) : Nat) : Int), .int .i64 (i : Int)], upd noSlots 0 (.obj 0 (rdLV s (a + m))))) m ⟨0, by omega, by simp [numN]⟩ ?_
  rintro k q ⟨i, hi, rfl⟩
  simp only [go_sem, ↓reduceIte, reduceCtorEq, upd_ne, back_new (no_at), Nat.reduceAdd, Nat.reduceEqDiff, Nat.reduceMul, Nat.reduceSub, Nat.reduceLeDiff, Nat.reduceLT, Int.reduceToNat, Int.reduceLE, Int.reduceLT, Int.reduceEq, UInt8.reduceOfNat, hul]
  refine nxt_ite (fun h => ?_) (fun h => ?_)
  · have hlt : i < u.length := by omega
    obtain ⟨c, hc⟩ : ∃ c, u[i]? = some c := ⟨u[i], by simp [hlt]⟩
    have htk : u.take (i + 1) = u.take i ++ [c] := by rw [List.take_add_one, hc]; rfl
    have hb := numN_lt (u.take i)
    have hb2 : 256 ^ (u.take i).length ≤ 256 ^ 3 := Nat.pow_le_pow_right (by decide) (by rw [List.length_take]; omega)
    have hb3 : (256 : Nat) ^ 3 = 16777216 := by decide
    have hcl := c.toNat_lt
    have e1 : IntKind.i64.wrap (((numN (u.take i) : Nat) : Int) * 256) = ((numN (u.take i) * 256 : Nat) : Int) := by rw [wrap_id (by omega) (by omega)]; omega
    have e2 : IntKind.i64.wrap (c.toNat : Int) = (c.toNat : Int) := wrap_id (by omega) (by omega)
    have e3 : IntKind.i64.wrap (((numN (u.take i) * 256 : Nat) : Int) + (c.toNat : Int)) = ((numN (u.take i) * 256 + c.toNat : Nat) : Int) := by rw [wrap_id (by omega) (by omega)]; omega
    have e4 : IntKind.i64.wrap ((i : Int) + 1) = ((i + 1 : Nat) : Int) := by rw [wrap_id (by omega) (by omega)]; omega
    simp only [go_sem, ↓reduceIte, reduceCtorEq, upd_ne, back_new (no_at), Nat.reduceAdd, Nat.reduceEqDiff, Nat.reduceMul, Nat.reduceSub, Nat.reduceLeDiff, Nat.reduceLT, Int.reduceToNat, Int.reduceLE, Int.reduceLT, Int.reduceEq, UInt8.reduceOfNat, List.getElem?_map, Int.toNat_natCast, hc, e1, e2, e3, e4]
    exact ⟨k - 1, by omega, i + 1, by omega, by rw [htk, numN_snoc]⟩
  · obtain rfl : i = m := by omega
    rw [List.take_of_length_le (by omega)]
    simp only [go_sem, ↓reduceIte, reduceCtorEq, upd_ne, back_new (no_at), Nat.reduceAdd, Nat.reduceEqDiff, Nat.reduceMul, Nat.reduceSub, Nat.reduceLeDiff, Nat.reduceLT, Int.reduceToNat, Int.reduceLE, Int.reduceLT, Int.reduceEq, UInt8.reduceOfNat, Nxt, exIf]
end
end Go.Ev

namespace Go.Ev
set_option linter.unusedSimpArgs false
set_option linter.unusedVariables false
set_option maxRecDepth 4000
set_option maxHeartbeats 4000000
section
variable {S : Sys} (hS : Has S) (n : Nat)
include hS
theorem ev_number3 (s : List UInt8) (i : Nat) (h : i + 2 ≤ s.length) (hs : s.length ≤ 140737488351232) : S.ev (n + 3) id_interpreterref03_number [.str s, .int .i64 (i : Int)] none = some (.int .i64 (wAt s i : Nat), none) := by
  rw [Sys.step hS.h_interpreterref03_number, F_interpreterref03_number_eq]
  unfold F_interpreterref03_number
  have ht : S.ev (n + 2) id_interpreterref01_Reader_Number [.ptr 0 0 [] 0, .int .i64 2] (some (rdLV s i)) = some (.tup [.int .i64 ((numN ((s.drop i).take 2) : Nat) : Int), .int .i64 0], some (rdLV s (i + 2))) := ev_rNumber hS n s i 2 h (by omega) hs
  rw [numN_two h] at ht
  simp only [to_ob]
  simp only [go_sem, ↓reduceIte, reduceCtorEq, upd_ne, back_new (no_at), Nat.reduceAdd, Nat.reduceEqDiff, Nat.reduceMul, Nat.reduceSub, Nat.reduceLeDiff, Nat.reduceLT, Int.reduceToNat, Int.reduceLE, Int.reduceLT, Int.reduceEq, UInt8.reduceOfNat, ht]
theorem ev_rparse3 (s : List UInt8) (hs : s.length ≤ 1000000) : S.ev (n + 4) id_interpreterref03_Parse [.str s] none = some (.tup [pLV4 s, .int .i64 (pK4 s)], none) := by
  rw [Sys.step hS.h_interpreterref03_Parse, F_interpreterref03_Parse_eq]
  unfold F_interpreterref03_Parse
  (try simp only [guard_merge, or_merge, and_merge, or_pick, and_pick, guard_or, guard_and]); simp only [to_ob]
  unfold pLV4 pK4
  by_cases c1 : s.length < 20
  · have c1' : (s.length : Int) < 20 := by omega
    simp only [go_sem, ↓reduceIte, reduceCtorEq, upd_ne, back_new (no_at), Nat.reduceAdd, Nat.reduceEqDiff, Nat.reduceMul, Nat.reduceSub, Nat.reduceLeDiff, Nat.reduceLT, Int.reduceToNat, Int.reduceLE, Int.reduceLT, Int.reduceEq, UInt8.reduceOfNat, c1, c1']
  · have c1' : ¬ (s.length : Int) < 20 := by omega
    have g0 := get_def (s := s) (i := 0) (by omega)
    have hb0 := bAt_le s 0
    have e1 : IntKind.i64.wrap ((s.getD 0 0).toNat : Int) = ((bAt s 0 : Nat) : Int) := wrap_id (by omega) (by unfold bAt at hb0; omega)
    have e2 : IntKind.i64.wrap (4 * IntKind.i64.wrap (((bAt s 0 : Nat) : Int) - 64)) = 4 * (((bAt s 0 : Nat) : Int) - 64) := by
      rw [wrap_id (n := ((bAt s 0 : Nat) : Int) - 64) (by omega) (by omega), wrap_id (by omega) (by omega)]
    by_cases c2 : bAt s 0 / 16 ≠ 4 ∨ n4 s < 20
    · rw [if_neg c1, if_pos c2]
      by_cases c2a : 4 * (((bAt s 0 : Nat) : Int) - 64) < 20
      · simp only [go_sem, ↓reduceIte, reduceCtorEq, upd_ne, back_new (no_at), Nat.reduceAdd, Nat.reduceEqDiff, Nat.reduceMul, Nat.reduceSub, Nat.reduceLeDiff, Nat.reduceLT, Int.reduceToNat, Int.reduceLE, Int.reduceLT, Int.reduceEq, UInt8.reduceOfNat, List.getElem?_map, Int.toNat_natCast, c1', c2a, g0, byteLV, e1, e2]
      · have c2b : 60 < 4 * (((bAt s 0 : Nat) : Int) - 64) := by unfold n4 at c2; omega
        simp only [go_sem, ↓reduceIte, reduceCtorEq, upd_ne, back_new (no_at), Nat.reduceAdd, Nat.reduceEqDiff, Nat.reduceMul, Nat.reduceSub, Nat.reduceLeDiff, Nat.reduceLT, Int.reduceToNat, Int.reduceLE, Int.reduceLT, Int.reduceEq, UInt8.reduceOfNat, List.getElem?_map, Int.toNat_natCast, c1', c2a, c2b, g0, byteLV, e1, e2]
    · have hn : 4 * (((bAt s 0 : Nat) : Int) - 64) = ((n4 s : Nat) : Int) := by unfold n4 at c2 ⊢; omega
      rw [hn] at e2
      have c2a : ¬ ((n4 s : Nat) : Int) < 20 := by omega
      have c2b : ¬ 60 < ((n4 s : Nat) : Int) := by unfold n4; omega
      by_cases c3 : s.length < n4 s
      · have c3' : (s.length : Int) < ((n4 s : Nat) : Int) := by omega
        simp only [go_sem, ↓reduceIte, reduceCtorEq, upd_ne, back_new (no_at), Nat.reduceAdd, Nat.reduceEqDiff, Nat.reduceMul, Nat.reduceSub, Nat.reduceLeDiff, Nat.reduceLT, Int.reduceToNat, Int.reduceLE, Int.reduceLT, Int.reduceEq, UInt8.reduceOfNat, List.getElem?_map, Int.toNat_natCast, c1, c1', c2, c2a, c2b, c3, c3', g0, byteLV, e1, e2]
      · have c3' : ¬ (s.length : Int) < ((n4 s : Nat) : Int) := by omega
        have c3'' : n4 s ≤ s.length := by omega
        have hr := ev_rOf hS (n + 1) (s.take (n4 s)) (by rw [List.length_take]; omega)
        have hr : S.ev (n + 3) id_interpreterref02_Of [.str (s.take (n4 s))] none = some (.int .i64 (sumS (s.take (n4 s))), none) := hr
        by_cases c4 : sumS (s.take (n4 s)) = 0
        · have t2 : S.ev (n + 3) id_interpreterref03_number [.str s, .int .i64 2] none = some (.int .i64 (wAt s 2 : Nat), none) := ev_number3 hS n s 2 (by omega) (by omega)
          have t6 : S.ev (n + 3) id_interpreterref03_number [.str s, .int .i64 6] none = some (.int .i64 (wAt s 6 : Nat), none) := ev_number3 hS n s 6 (by omega) (by omega)
          have t4 : S.ev (n + 3) id_interpreterref03_number [.str s, .int .i64 4] none = some (.int .i64 (wAt s 4 : Nat), none) := ev_number3 hS n s 4 (by omega) (by omega)
          by_cases c5 : wAt s 2 < n4 s
          · have c5' : ((wAt s 2 : Nat) : Int) < ((n4 s : Nat) : Int) := by omega
            simp only [go_sem, ↓reduceIte, reduceCtorEq, upd_ne, back_new (no_at), Nat.reduceAdd, Nat.reduceEqDiff, Nat.reduceMul, Nat.reduceSub, Nat.reduceLeDiff, Nat.reduceLT, Int.reduceToNat, Int.reduceLE, Int.reduceLT, Int.reduceEq, UInt8.reduceOfNat, List.getElem?_map, Int.toNat_natCast, Nat.sub_zero, c1, c1', c2, c2a, c2b, c3, c3', c3'', c4, hr, t2, t6, c5, c5', g0, byteLV, e1, e2]
          · have c5' : ¬ ((wAt s 2 : Nat) : Int) < ((n4 s : Nat) : Int) := by omega
            have c5'' : n4 s ≤ wAt s 2 := by omega
            by_cases c6 : s.length < wAt s 2
            · have c6' : (s.length : Int) < ((wAt s 2 : Nat) : Int) := by omega
              simp only [go_sem, ↓reduceIte, reduceCtorEq, upd_ne, back_new (no_at), Nat.reduceAdd, Nat.reduceEqDiff, Nat.reduceMul, Nat.reduceSub, Nat.reduceLeDiff, Nat.reduceLT, Int.reduceToNat, Int.reduceLE, Int.reduceLT, Int.reduceEq, UInt8.reduceOfNat, List.getElem?_map, Int.toNat_natCast, Nat.sub_zero, c1, c1', c2, c2a, c2b, c3, c3', c3'', c4, hr, t2, t6, c5, c5', c6, c6', g0, byteLV, e1, e2]
            · have c6' : ¬ (s.length : Int) < ((wAt s 2 : Nat) : Int) := by omega
              have c6'' : wAt s 2 ≤ s.length := by omega
              have g1 := get_def (s := s) (i := 1) (by omega)
              have g8 := get_def (s := s) (i := 8) (by omega)
              have g9 := get_def (s := s) (i := 9) (by omega)
              have hb1 := bAt_le s 1
              have hb8 := bAt_le s 8
              have hb9 := bAt_le s 9
              have hw6 := wAt_le s 6
              have w1 : IntKind.i64.wrap ((s.getD 1 0).toNat : Int) = ((bAt s 1 : Nat) : Int) := wrap_id (by omega) (by unfold bAt at hb1; omega)
              have w8 : IntKind.i64.wrap ((s.getD 8 0).toNat : Int) = ((bAt s 8 : Nat) : Int) := wrap_id (by omega) (by unfold bAt at hb8; omega)
              have w9 : IntKind.i64.wrap ((s.getD 9 0).toNat : Int) = ((bAt s 9 : Nat) : Int) := wrap_id (by omega) (by unfold bAt at hb9; omega)
              have f1 : IntKind.i64.wrap (Int.tmod ((wAt s 6 : Nat) : Int) 8192 * 8) = pat4 s := by
                rw [show Int.tmod ((wAt s 6 : Nat) : Int) 8192 = ((wAt s 6 % 8192 : Nat) : Int) from rfl, wrap_id (by omega) (by omega)]; unfold pat4; omega
              have f2 : IntKind.i64.wrap (Int.tdiv ((wAt s 6 : Nat) : Int) 16384) = ((wAt s 6 / 16384 : Nat) : Int) := by
                rw [show Int.tdiv ((wAt s 6 : Nat) : Int) 16384 = ((wAt s 6 / 16384 : Nat) : Int) from rfl, wrap_id (by omega) (by omega)]
              have f3 : IntKind.i64.wrap (Int.tdiv ((wAt s 6 : Nat) : Int) 8192) = ((wAt s 6 / 8192 : Nat) : Int) := by
                rw [show Int.tdiv ((wAt s 6 : Nat) : Int) 8192 = ((wAt s 6 / 8192 : Nat) : Int) from rfl, wrap_id (by omega) (by omega)]
              have f4 : decide (Int.tmod ((wAt s 6 / 16384 : Nat) : Int) 2 = 1) = pdf4 s := by
                rw [show Int.tmod ((wAt s 6 / 16384 : Nat) : Int) 2 = ((wAt s 6 / 16384 % 2 : Nat) : Int) from rfl]; unfold pdf4; exact decide_eq_decide.2 (by omega)
              have f5 : decide (Int.tmod ((wAt s 6 / 8192 : Nat) : Int) 2 = 1) = pmo4 s := by
                rw [show Int.tmod ((wAt s 6 / 8192 : Nat) : Int) 2 = ((wAt s 6 / 8192 % 2 : Nat) : Int) from rfl]; unfold pmo4; exact decide_eq_decide.2 (by omega)
              have l20 : 20 ≤ n4 s := by omega
              have hlf : (pfr4 s).length = 4 := by unfold pfr4; simp; omega
              have hlt : (pto4 s).length = 4 := by unfold pto4; simp; omega
              have hwy := ev_Why3 hS (n + 1) (tos := (bAt s 1 : Nat)) (id := (wAt s 4 : Nat)) (ttl := (bAt s 8 : Nat)) (pt := (bAt s 9 : Nat)) (at' := pat4 s) (df := pdf4 s) (mo := pmo4 s) (op := pop4 s) (da := pda4 s) hlf hlt (by unfold pop4; simp; omega) (by unfold pda4; simp; omega)
              have hwy : S.ev (n + 3) id_interpreterref03_Why [ip4LV (bAt s 1 : Nat) (wAt s 4 : Nat) (bAt s 8 : Nat) (bAt s 9 : Nat) (pat4 s) (pdf4 s) (pmo4 s) (pfr4 s) (pto4 s) (pop4 s) (pda4 s)] none = some (.int .i64 (pwhy4 s), none) := hwy
              have v3 : (s.drop 20).take (n4 s - 20) = pop4 s := rfl
              have v4 : (s.drop (n4 s)).take (wAt s 2 - n4 s) = pda4 s := rfl
              simp only [go_sem, ↓reduceIte, reduceCtorEq, upd_ne, back_new (no_at), Nat.reduceAdd, Nat.reduceEqDiff, Nat.reduceMul, Nat.reduceSub, Nat.reduceLeDiff, Nat.reduceLT, Int.reduceToNat, Int.reduceLE, Int.reduceLT, Int.reduceEq, UInt8.reduceOfNat, List.getElem?_map, Int.toNat_natCast, Nat.sub_zero, c1, c1', c2, c2a, c2b, c3, c3', c3'', c4, hr, t2, t6, t4, c5, c5', c5'', c6, c6', c6'', l20, g0, g1, g8, g9, byteLV, e1, e2, w1, w8, w9, f1, f2, f3, f4, f5, v3, v4]
              have r0 : ([0, 0, 0, 0] : List UInt8) = List.replicate (4 - 0) 0 := rfl
              refine while_rule (fun k q => ∃ i : Nat, i + k = 4 ∧ q = ([.int .i64 (i : Int)], upd (upd (upd noSlots 2 (.obj 1 z4LV)) 4 (.obj 1 z4LV)) 8 (.obj 1 (ip4LV (bAt s 1 : Nat) (wAt s 4 : Nat) (bAt s 8 : Nat) (bAt s 9 : Nat) (pat4 s) (pdf4 s) (pmo4 s) ((pfr4 s).take i ++ List.replicate (4 - i) 0) ((pto4 s).take i ++ List.replicate (4 - i) 0) (pop4 s) (pda4 s))))) 4 ⟨0, rfl, by simp⟩ ?_
              rintro k q ⟨i, hi, rfl⟩
              simp only [go_sem, ↓reduceIte, reduceCtorEq, upd_ne, back_new (no_at), Nat.reduceAdd, Nat.reduceEqDiff, Nat.reduceMul, Nat.reduceSub, Nat.reduceLeDiff, Nat.reduceLT, Int.reduceToNat, Int.reduceLE, Int.reduceLT, Int.reduceEq, UInt8.reduceOfNat]
              refine nxt_ite (fun h => ?_) (fun h => ?_)
              · have hi4 : i < 4 := by omega
                have ga := get_def (s := s) (i := 12 + i) (by omega)
                have gb := get_def (s := s) (i := 16 + i) (by omega)
                have i1 : IntKind.i64.wrap (12 + (i : Int)) = ((12 + i : Nat) : Int) := by rw [wrap_id (by omega) (by omega)]; omega
                have i2 : IntKind.i64.wrap (16 + (i : Int)) = ((16 + i : Nat) : Int) := by rw [wrap_id (by omega) (by omega)]; omega
                have i3 : IntKind.i64.wrap ((i : Int) + 1) = ((i + 1 : Nat) : Int) := by rw [wrap_id (by omega) (by omega)]; omega
                have hla : ((pfr4 s).take i ++ List.replicate (4 - i) 0).length = 4 := by rw [List.length_append, List.length_take, List.length_replicate]; omega
                have hlb : ((pto4 s).take i ++ List.replicate (4 - i) 0).length = 4 := by rw [List.length_append, List.length_take, List.length_replicate]; omega
                obtain ⟨ca, hca⟩ : ∃ c0, ((pfr4 s).take i ++ List.replicate (4 - i) 0)[i]? = some c0 := ⟨_, List.getElem?_eq_getElem (by omega)⟩
                obtain ⟨cb, hcb⟩ : ∃ c0, ((pto4 s).take i ++ List.replicate (4 - i) 0)[i]? = some c0 := ⟨_, List.getElem?_eq_getElem (by omega)⟩
                have sa := set_mid hlf hi4 (sub_get (s := s) (a := 12) (m := 4) hi4 (by omega))
                have sb := set_mid hlt hi4 (sub_get (s := s) (a := 16) (m := 4) hi4 (by omega))
                have hla2 : ((pfr4 s).take (i + 1) ++ List.replicate (4 - (i + 1)) 0).length = 4 := by rw [List.length_append, List.length_take, List.length_replicate]; omega
                simp only [go_sem, ↓reduceIte, reduceCtorEq, upd_ne, back_new (no_at), Nat.reduceAdd, Nat.reduceEqDiff, Nat.reduceMul, Nat.reduceSub, Nat.reduceLeDiff, Nat.reduceLT, Int.reduceToNat, Int.reduceLE, Int.reduceLT, Int.reduceEq, UInt8.reduceOfNat, List.getElem?_map, Int.toNat_natCast, ga, gb, i1, i2, i3, hla, hlb, hla2, hca, hcb, sa, sb, hi4, byteLV, u8_lt, UInt8.ofNat_toNat, Nat.mul_one, eq_self]
                exact ⟨k - 1, by omega, i + 1, by omega, rfl⟩
              · obtain rfl : i = 4 := by omega
                have ta : (pfr4 s).take 4 ++ List.replicate (4 - 4) 0 = pfr4 s := by rw [List.take_of_length_le (by omega)]; simp
                have tb : (pto4 s).take 4 ++ List.replicate (4 - 4) 0 = pto4 s := by rw [List.take_of_length_le (by omega)]; simp
                rw [ta, tb]
                by_cases c7 : wAt s 6 < 32768
                · have c7' : ¬ 32768 ≤ ((wAt s 6 : Nat) : Int) := by omega
                  have c7'' : ¬ 32768 ≤ wAt s 6 := by omega
                  by_cases c8 : pwhy4 s = 0
                  · rw [c8] at hwy
                    simp only [go_sem, ↓reduceIte, reduceCtorEq, upd_ne, back_new (no_at), Nat.reduceAdd, Nat.reduceEqDiff, Nat.reduceMul, Nat.reduceSub, Nat.reduceLeDiff, Nat.reduceLT, Int.reduceToNat, Int.reduceLE, Int.reduceLT, Int.reduceEq, UInt8.reduceOfNat, Nxt, exIf, c7', c7'', hwy, hlf, hlt, c8]
                  · simp only [go_sem, ↓reduceIte, reduceCtorEq, upd_ne, back_new (no_at), Nat.reduceAdd, Nat.reduceEqDiff, Nat.reduceMul, Nat.reduceSub, Nat.reduceLeDiff, Nat.reduceLT, Int.reduceToNat, Int.reduceLE, Int.reduceLT, Int.reduceEq, UInt8.reduceOfNat, Nxt, exIf, c7', c7'', hwy, hlf, hlt, c8]
                · have c7' : 32768 ≤ ((wAt s 6 : Nat) : Int) := by omega
                  have c7'' : 32768 ≤ wAt s 6 := by omega
                  simp only [go_sem, ↓reduceIte, reduceCtorEq, upd_ne, back_new (no_at), Nat.reduceAdd, Nat.reduceEqDiff, Nat.reduceMul, Nat.reduceSub, Nat.reduceLeDiff, Nat.reduceLT, Int.reduceToNat, Int.reduceLE, Int.reduceLT, Int.reduceEq, UInt8.reduceOfNat, Nxt, exIf, c7', c7'', hlf, hlt]
        · simp only [go_sem, ↓reduceIte, reduceCtorEq, upd_ne, back_new (no_at), Nat.reduceAdd, Nat.reduceEqDiff, Nat.reduceMul, Nat.reduceSub, Nat.reduceLeDiff, Nat.reduceLT, Int.reduceToNat, Int.reduceLE, Int.reduceLT, Int.reduceEq, UInt8.reduceOfNat, List.getElem?_map, Int.toNat_natCast, Nat.sub_zero, c1, c1', c2, c2a, c2b, c3, c3', c3'', c4, hr, g0, byteLV, e1, e2]
end
end Go.Ev

namespace Go.Ev
set_option linter.unusedSimpArgs false
set_option linter.unusedVariables false
set_option maxRecDepth 10000
set_option maxHeartbeats 8000000
theorem g_ok {k : Nat} (hk : k ≤ 5000) : Ok4 0 0 9 17 0 false [] (List.replicate k 120) := ⟨by omega, by omega, by omega, by omega, by omega, rfl, by simp, by simp, by simp, by rw [List.length_replicate]; simp; omega⟩
theorem g_fit {k : Nat} (hk : k ≤ 5000) : FitIp4 0 0 9 17 0 [192, 0, 2, 1] [192, 0, 2, 2] [] (List.replicate k 120) := ⟨by unfold I64; omega, by unfold I64; omega, by unfold I64; omega, by unfold I64; omega, by unfold I64; omega, rfl, rfl, by simp, by rw [List.length_replicate]; omega⟩
theorem inside_by4 {tos id ttl pt at' : Int} {df mo : Bool} {fr to op da : List UInt8} (ok : Ok4 tos id ttl pt at' mo op da) (hfr : fr.length = 4) (hto : to.length = 4) {j : Nat} (hj : 20 + op.length + min 8 da.length ≤ j) (hjl : j ≤ 20 + op.length + da.length) :
    iK4 ((by4 tos id ttl pt at' df mo fr to op da).take j) = 0 ∧ iC4 ((by4 tos id ttl pt at' df mo fr to op da).take j) = (da.length : Int) ∧
    iLV4 ((by4 tos id ttl pt at' df mo fr to op da).take j) = ip4LV tos id ttl pt at' df mo fr to op (da.take (j - (20 + op.length))) := by
  obtain ⟨p1, p2, p3, p4⟩ := parse_by4 (df := df) ok hfr hto []
  have hlen := by4_len (tos := tos) (id := id) (ttl := ttl) (pt := pt) (at' := at') (df := df) (mo := mo) (op := op) (da := da) hfr hto
  rw [List.append_nil] at p1 p2 p3 p4
  generalize by4 tos id ttl pt at' df mo fr to op da = B at *
  obtain ⟨c1, c2, c3⟩ := inside_cut p1 (j := j) (by rw [p2, p3, show 20 + op.length + da.length - (20 + op.length) = da.length by omega]; exact hj) (by omega)
  refine ⟨c1, by rw [c2, p2, p3]; omega, ?_⟩
  rw [c3, p2]
  unfold pLV4 at p4
  rw [if_pos (pK4_zero.2 p1)] at p4
  simp only [LV.agg.injEq, List.cons.injEq, LV.int.injEq, LV.bool.injEq, LV.bytes.injEq, LV.str.injEq, true_and, and_true] at p4
  obtain ⟨q1, q2, q3, q4, q5, q6, q7, q8, q9, q10, q11⟩ := p4
  rw [q1, q2, q3, q4, q5, q6, q7, q8, q9, q10, q11]
section
variable {S : Sys} (hS : Has S) (n : Nat)
include hS
theorem ev_parse_by4 {tos id ttl pt at' : Int} {df mo : Bool} {fr to op da : List UInt8} (ok : Ok4 tos id ttl pt at' mo op da) (hfr : fr.length = 4) (hto : to.length = 4) :
    S.ev (n + 4) id_ip4_Parse [.str (by4 tos id ttl pt at' df mo fr to op da)] none = some (.tup [ip4LV tos id ttl pt at' df mo fr to op da, .nili], none) ∧
    S.ev (n + 4) id_interpreterref03_Parse [.str (by4 tos id ttl pt at' df mo fr to op da)] none = some (.tup [ip4LV tos id ttl pt at' df mo fr to op da, .int .i64 0], none) := by
  obtain ⟨p1, p2, p3, p4⟩ := parse_by4 (df := df) ok hfr hto []
  have hlen := by4_len (tos := tos) (id := id) (ttl := ttl) (pt := pt) (at' := at') (df := df) (mo := mo) (op := op) (da := da) hfr hto
  have k1 := ok.kop
  have k2 := ok.kall
  have k3 := ok.kat
  rw [List.append_nil] at p1 p2 p3 p4
  constructor
  · rw [ev_parse4 hS n _ (by omega), p4, pK4_zero.2 p1]; rfl
  · rw [ev_rparse3 hS n _ (by omega), p4, pK4_zero.2 p1]
end
end Go.Ev

namespace Go.Ev
set_option linter.unusedSimpArgs false
set_option linter.unusedVariables false
set_option maxRecDepth 4000
set_option maxHeartbeats 4000000
section
variable {S : Sys} (hS : Has S) (n : Nat)
include hS
theorem ev_rbytes3_ff {tos id ttl pt at' : Int} {fr to op da : List UInt8} (hf : FitIp4 tos id ttl pt at' fr to op da) (hd : da.length ≤ 400000) :
    S.ev (n + 3) id_interpreterref03_Bytes [ip4LV tos id ttl pt at' false false fr to op da] none = some (.tup [.str (by4R tos id ttl pt at' false false fr to op da), .int .i64 (why4 tos id ttl pt at' false op da)], none) := by
  rw [Sys.step hS.h_interpreterref03_Bytes, F_interpreterref03_Bytes_eq]
  unfold F_interpreterref03_Bytes
  have hfr := hf.hfr
  have hto := hf.hto
  have hw := ev_Why3 hS (n) (tos := tos) (id := id) (ttl := ttl) (pt := pt) (at' := at') (df := false) (mo := false) hfr hto hf.hop hf.hda
  (try simp only [guard_merge, or_merge, and_merge, or_pick, and_pick, guard_or, guard_and]); simp only [to_ob]
  unfold by4R
  by_cases c : why4 tos id ttl pt at' false op da = 0
  · have ok := why4_zero.1 c
    obtain ⟨o1, o2, o3, o4, o5, o6, o7, o8, o9, o10⟩ := ok
    rw [c] at hw
    obtain ⟨tos, rfl⟩ := Int.eq_ofNat_of_zero_le o1.1
    obtain ⟨ttl, rfl⟩ := Int.eq_ofNat_of_zero_le o2.1
    obtain ⟨pt, rfl⟩ := Int.eq_ofNat_of_zero_le o3.1
    obtain ⟨id, rfl⟩ := Int.eq_ofNat_of_zero_le o4.1
    obtain ⟨at', rfl⟩ := Int.eq_ofNat_of_zero_le o5.1
    have e1 : IntKind.i64.wrap (Int.tdiv (at' : Int) 8) = ((at' / 8 : Nat) : Int) := by
      rw [show Int.tdiv (at' : Int) 8 = ((at' / 8 : Nat) : Int) from rfl, wrap_id (by omega) (by omega)]
    have e2 : IntKind.i64.wrap (20 + (op.length : Int)) = ((20 + op.length : Nat) : Int) := by rw [wrap_id (by omega) (by omega)]; omega
    have e3 : IntKind.i64.wrap (Int.tdiv ((20 + op.length : Nat) : Int) 4) = (((20 + op.length) / 4 : Nat) : Int) := by
      rw [show Int.tdiv ((20 + op.length : Nat) : Int) 4 = (((20 + op.length) / 4 : Nat) : Int) from rfl, wrap_id (by omega) (by omega)]
    have e4 : IntKind.i64.wrap (64 + (((20 + op.length) / 4 : Nat) : Int)) = ((64 + (20 + op.length) / 4 : Nat) : Int) := by rw [wrap_id (by omega) (by omega)]; omega
    have e5 : IntKind.i64.wrap (((20 + op.length : Nat) : Int) + (da.length : Int)) = ((20 + op.length + da.length : Nat) : Int) := by rw [wrap_id (by omega) (by omega)]; omega
    have d1 := div256 (x := 20 + op.length + da.length) (by omega)
    have d2 := div256 (x := id) (by omega)
    have f1 : IntKind.i64.wrap (((at' / 8 : Nat) : Int) + 8192) = ((at' / 8 + 8192 : Nat) : Int) := by rw [wrap_id (by omega) (by omega)]; omega
    have f2 : IntKind.i64.wrap (((at' / 8 : Nat) : Int) + 16384) = ((at' / 8 + 16384 : Nat) : Int) := by rw [wrap_id (by omega) (by omega)]; omega
    have f3 : IntKind.i64.wrap (((at' / 8 + 8192 : Nat) : Int) + 16384) = ((at' / 8 + 8192 + 16384 : Nat) : Int) := by rw [wrap_id (by omega) (by omega)]; omega
    have d3 := div256 (x := at' / 8) (by omega)
    have d4 := div256 (x := at' / 8 + 8192) (by omega)
    have d5 := div256 (x := at' / 8 + 16384) (by omega)
    have d6 := div256 (x := at' / 8 + 8192 + 16384) (by omega)
    have hx := sumS_le (hd4 tos id ttl pt at' false false op da ++ (fr ++ (to ++ op)))
    have hx : 0 ≤ x4 tos id ttl pt at' false false fr to op da ∧ x4 tos id ttl pt at' false false fr to op da ≤ 65535 := hx
    have hat4 : at4 at' false false = at' / 8 := by unfold at4; rw [Int.toNat_natCast, if_neg Bool.false_ne_true, if_neg Bool.false_ne_true]; omega
    obtain ⟨A, hAA⟩ : ∃ A, A = at' / 8 := ⟨_, rfl⟩
    rw [← hAA] at hat4
    simp only [← hAA] at e1 f1 f2 f3 d3 d4 d5 d6
    simp only [go_sem, ↓reduceIte, reduceCtorEq, upd_ne, back_new (no_at), Nat.reduceAdd, Nat.reduceEqDiff, Nat.reduceMul, Nat.reduceSub, Nat.reduceLeDiff, Nat.reduceLT, Int.reduceToNat, Int.reduceLE, Int.reduceLT, Int.reduceEq, UInt8.reduceOfNat, hw, c, hfr, hto, e1, e2, e3, e4, e5, f1, f2, f3, d1, d2, d3, mod256, u8w, u8_ofNat_mod, e_cBslM, u8_lt, UInt8.ofNat_toNat, cBytes_eq]
    generalize hH : ([UInt8.ofNat (64 + (20 + op.length) / 4), UInt8.ofNat tos, UInt8.ofNat ((20 + op.length + da.length) / 256), UInt8.ofNat (20 + op.length + da.length), UInt8.ofNat (id / 256), UInt8.ofNat id, UInt8.ofNat (A / 256), UInt8.ofNat A, UInt8.ofNat ttl, UInt8.ofNat pt, 0, 0] : List UInt8) = H
    have hHl : H.length = 12 := by rw [← hH]; rfl
    refine while_rule (fun k q => ∃ i : Nat, i + k = 4 ∧ q = ([.arr 70 (1 + i) [] 0 0 (12 + i), .int .i64 (i : Int)], upd noSlots 70 (.obj (1 + i) (.bytes (H ++ fr.take i))))) 4 ⟨0, rfl, by simp⟩ ?_
    rintro k q ⟨i, hi, rfl⟩
    simp only [go_sem, ↓reduceIte, reduceCtorEq, upd_ne, back_new (no_at), Nat.reduceAdd, Nat.reduceEqDiff, Nat.reduceMul, Nat.reduceSub, Nat.reduceLeDiff, Nat.reduceLT, Int.reduceToNat, Int.reduceLE, Int.reduceLT, Int.reduceEq, UInt8.reduceOfNat]
    refine nxt_ite (fun h => ?_) (fun h => ?_)
    · have hlt : i < fr.length := by omega
      obtain ⟨b, hb⟩ : ∃ b, fr[i]? = some b := ⟨fr[i], by simp [hlt]⟩
      have htk : fr.take (i + 1) = fr.take i ++ [b] := by rw [List.take_add_one, hb]; rfl
      have hlen : (H ++ fr.take i).length = 12 + i := by rw [List.length_append, List.length_take]; omega
      have hA := wApp_arr (d := 81) (t := 70) (g := 1 + i) (sl := noSlots) (b := H ++ fr.take i) (s := [b]) (by simp; omega)
      rw [hlen] at hA
      simp only [List.map_cons, List.map_nil, byteLV, List.length_cons, List.length_nil] at hA
      have i1 : IntKind.i64.wrap ((i : Int) + 1) = ((i + 1 : Nat) : Int) := by rw [wrap_id (by omega) (by omega)]; omega
      have i2 : i < 4 := by omega
      simp only [go_sem, ↓reduceIte, reduceCtorEq, upd_ne, back_new (no_at), Nat.reduceAdd, Nat.reduceEqDiff, Nat.reduceMul, Nat.reduceSub, Nat.reduceLeDiff, Nat.reduceLT, Int.reduceToNat, Int.reduceLE, Int.reduceLT, Int.reduceEq, UInt8.reduceOfNat, List.getElem?_map, Int.toNat_natCast, hfr, hb, byteLV, hA, i1, i2]
      refine ⟨k - 1, by omega, i + 1, by omega, ?_⟩
      rw [htk, ← List.append_assoc, show 1 + (i + 1) = 1 + i + 1 by omega, show 12 + (i + 1) = 12 + i + 1 by omega]
    · obtain rfl : i = 4 := by omega
      have hf4 : fr.take 4 = fr := List.take_of_length_le (by omega)
      rw [hf4]
      simp only [go_sem, ↓reduceIte, reduceCtorEq, upd_ne, back_new (no_at), Nat.reduceAdd, Nat.reduceEqDiff, Nat.reduceMul, Nat.reduceSub, Nat.reduceLeDiff, Nat.reduceLT, Int.reduceToNat, Int.reduceLE, Int.reduceLT, Int.reduceEq, UInt8.reduceOfNat, Nxt, exIf]
      refine while_rule (fun k q => ∃ i : Nat, i + k = 4 ∧ q = ([.arr 70 (5 + i) [] 0 0 (16 + i), .int .i64 (i : Int)], upd noSlots 70 (.obj (5 + i) (.bytes (H ++ fr ++ to.take i))))) 4 ⟨0, rfl, by simp⟩ ?_
      rintro k q ⟨i, hi, rfl⟩
      simp only [go_sem, ↓reduceIte, reduceCtorEq, upd_ne, back_new (no_at), Nat.reduceAdd, Nat.reduceEqDiff, Nat.reduceMul, Nat.reduceSub, Nat.reduceLeDiff, Nat.reduceLT, Int.reduceToNat, Int.reduceLE, Int.reduceLT, Int.reduceEq, UInt8.reduceOfNat]
      refine nxt_ite (fun h => ?_) (fun h => ?_)
      · have hlt : i < to.length := by omega
        obtain ⟨b, hb⟩ : ∃ b, to[i]? = some b := ⟨to[i], by simp [hlt]⟩
        have htk : to.take (i + 1) = to.take i ++ [b] := by rw [List.take_add_one, hb]; rfl
        have hlen : (H ++ fr ++ to.take i).length = 16 + i := by rw [List.length_append, List.length_append, List.length_take]; omega
        have hA := wApp_arr (d := 92) (t := 70) (g := 5 + i) (sl := noSlots) (b := H ++ fr ++ to.take i) (s := [b]) (by rw [hlen]; simp; omega)
        rw [hlen] at hA
        simp only [List.map_cons, List.map_nil, byteLV, List.length_cons, List.length_nil] at hA
        have i1 : IntKind.i64.wrap ((i : Int) + 1) = ((i + 1 : Nat) : Int) := by rw [wrap_id (by omega) (by omega)]; omega
        have i2 : i < 4 := by omega
        simp only [go_sem, ↓reduceIte, reduceCtorEq, upd_ne, back_new (no_at), Nat.reduceAdd, Nat.reduceEqDiff, Nat.reduceMul, Nat.reduceSub, Nat.reduceLeDiff, Nat.reduceLT, Int.reduceToNat, Int.reduceLE, Int.reduceLT, Int.reduceEq, UInt8.reduceOfNat, List.getElem?_map, Int.toNat_natCast, hto, hb, byteLV, hA, i1, i2]
        refine ⟨k - 1, by omega, i + 1, by omega, ?_⟩
        rw [htk, ← List.append_assoc, show 5 + (i + 1) = 5 + i + 1 by omega, show 16 + (i + 1) = 16 + i + 1 by omega]
      · obtain rfl : i = 4 := by omega
        have ht4 : to.take 4 = to := List.take_of_length_le (by omega)
        rw [ht4]
        have hHf : (H ++ fr ++ to).length = 20 := by simp; omega
        have hB := wApp_str (d := 96) (t := 70) (g := 9) (sl := noSlots) (b := H ++ fr ++ to) (s := op) (by omega)
        rw [hHf] at hB
        simp only [go_sem, ↓reduceIte, reduceCtorEq, upd_ne, back_new (no_at), Nat.reduceAdd, Nat.reduceEqDiff, Nat.reduceMul, Nat.reduceSub, Nat.reduceLeDiff, Nat.reduceLT, Int.reduceToNat, Int.reduceLE, Int.reduceLT, Int.reduceEq, UInt8.reduceOfNat, Nxt, exIf, hB]
        obtain ⟨z, hz⟩ := Int.eq_ofNat_of_zero_le hx.1
        have hL : (H ++ fr ++ to ++ op).length = 20 + op.length := by rw [List.length_append]; omega
        have hsum : sumAt 0 (H ++ fr ++ to ++ op) = sumAt 0 (hd4 tos id ttl pt at' false false op da ++ (fr ++ (to ++ op))) := by
          rw [← hH, show hd4 tos id ttl pt at' false false op da = [UInt8.ofNat (64 + (20 + op.length) / 4), UInt8.ofNat tos, UInt8.ofNat ((20 + op.length + da.length) / 256), UInt8.ofNat (20 + op.length + da.length), UInt8.ofNat (id / 256), UInt8.ofNat id, UInt8.ofNat (A / 256), UInt8.ofNat A, UInt8.ofNat ttl, UInt8.ofNat pt] by unfold hd4; rw [hat4]; simp only [beB1, beB2, Int.toNat_natCast, List.cons_append, List.nil_append]]
          have hsz := sum_zeros (h := [UInt8.ofNat (64 + (20 + op.length) / 4), UInt8.ofNat tos, UInt8.ofNat ((20 + op.length + da.length) / 256), UInt8.ofNat (20 + op.length + da.length), UInt8.ofNat (id / 256), UInt8.ofNat id, UInt8.ofNat (A / 256), UInt8.ofNat A, UInt8.ofNat ttl, UInt8.ofNat pt]) (r := fr ++ (to ++ op)) (by simp only [List.length_cons, List.length_nil])
          simp only [List.cons_append, List.nil_append, List.append_assoc] at hsz ⊢
          exact hsz
        have ho := ev_rOf hS n (H ++ fr ++ to ++ op) (by omega)
        have ho : S.ev (n + 2) id_interpreterref02_Of [.str (H ++ fr ++ to ++ op)] none = some (.int .i64 (z : Int), none) := by
          rw [ho, hsum, ← hz]; unfold x4 sumS; exact rfl
        have hby : by4 tos id ttl pt at' false false fr to op da = ((H ++ fr ++ to ++ op).set 10 (UInt8.ofNat (z / 256))).set 11 (UInt8.ofNat z) ++ da := by
          unfold by4
          rw [hz, ← hH, show hd4 tos id ttl pt at' false false op da = [UInt8.ofNat (64 + (20 + op.length) / 4), UInt8.ofNat tos, UInt8.ofNat ((20 + op.length + da.length) / 256), UInt8.ofNat (20 + op.length + da.length), UInt8.ofNat (id / 256), UInt8.ofNat id, UInt8.ofNat (A / 256), UInt8.ofNat A, UInt8.ofNat ttl, UInt8.ofNat pt] by unfold hd4; rw [hat4]; simp only [beB1, beB2, Int.toNat_natCast, List.cons_append, List.nil_append]]
          simp only [beB2, Int.toNat_natCast, List.cons_append, List.nil_append, List.append_assoc, List.set_cons_succ, List.set_cons_zero]
        have d7 := div256 (x := z) (by omega)
        rw [hby]
        generalize H ++ fr ++ to ++ op = B at *
        have g10 : B[10]? = some B[10] := List.getElem?_eq_getElem (by omega)
        have g11 : (B.set 10 (UInt8.ofNat (z / 256)))[11]? = some B[11] := by rw [List.getElem?_set_ne (by omega)]; exact List.getElem?_eq_getElem (by omega)
        generalize B[10] = b10 at *
        generalize B[11] = b11 at *
        have l1 : 10 < 20 + op.length := by omega
        have l2 : 11 < 20 + op.length := by omega
        have l3 : (((B.set 10 (UInt8.ofNat (z / 256))).set 11 (UInt8.ofNat z))).take (20 + op.length) = (B.set 10 (UInt8.ofNat (z / 256))).set 11 (UInt8.ofNat z) := List.take_of_length_le (by simp; omega)
        have l4 : B.take (20 + op.length) = B := List.take_of_length_le (by omega)
        have l5 : 20 + op.length + da.length ≤ maxStr := by unfold maxStr; omega
        simp only [go_sem, ↓reduceIte, reduceCtorEq, upd_ne, back_new (no_at), Nat.reduceAdd, Nat.reduceEqDiff, Nat.reduceMul, Nat.reduceSub, Nat.reduceLeDiff, Nat.reduceLT, Int.reduceToNat, Int.reduceLE, Int.reduceLT, Int.reduceEq, UInt8.reduceOfNat, List.getElem?_map, Int.toNat_natCast, ho, hL, g10, g11, l1, l2, l3, l4, l5, byteLV, d7, mod256, u8w, u8_ofNat_mod, u8_lt, UInt8.ofNat_toNat, Nat.le_refl]
  · simp only [go_sem, ↓reduceIte, reduceCtorEq, upd_ne, back_new (no_at), Nat.reduceAdd, Nat.reduceEqDiff, Nat.reduceMul, Nat.reduceSub, Nat.reduceLeDiff, Nat.reduceLT, Int.reduceToNat, Int.reduceLE, Int.reduceLT, Int.reduceEq, UInt8.reduceOfNat, hw, c, hfr, hto]
theorem ev_rbytes3_ft {tos id ttl pt at' : Int} {fr to op da : List UInt8} (hf : FitIp4 tos id ttl pt at' fr to op da) (hd : da.length ≤ 400000) :
    S.ev (n + 3) id_interpreterref03_Bytes [ip4LV tos id ttl pt at' false true fr to op da] none = some (.tup [.str (by4R tos id ttl pt at' false true fr to op da), .int .i64 (why4 tos id ttl pt at' true op da)], none) := by
  rw [Sys.step hS.h_interpreterref03_Bytes, F_interpreterref03_Bytes_eq]
  unfold F_interpreterref03_Bytes
  have hfr := hf.hfr
  have hto := hf.hto
  have hw := ev_Why3 hS (n) (tos := tos) (id := id) (ttl := ttl) (pt := pt) (at' := at') (df := false) (mo := true) hfr hto hf.hop hf.hda
  (try simp only [guard_merge, or_merge, and_merge, or_pick, and_pick, guard_or, guard_and]); simp only [to_ob]
  unfold by4R
  by_cases c : why4 tos id ttl pt at' true op da = 0
  · have ok := why4_zero.1 c
    obtain ⟨o1, o2, o3, o4, o5, o6, o7, o8, o9, o10⟩ := ok
    rw [c] at hw
    obtain ⟨tos, rfl⟩ := Int.eq_ofNat_of_zero_le o1.1
    obtain ⟨ttl, rfl⟩ := Int.eq_ofNat_of_zero_le o2.1
    obtain ⟨pt, rfl⟩ := Int.eq_ofNat_of_zero_le o3.1
    obtain ⟨id, rfl⟩ := Int.eq_ofNat_of_zero_le o4.1
    obtain ⟨at', rfl⟩ := Int.eq_ofNat_of_zero_le o5.1
    have e1 : IntKind.i64.wrap (Int.tdiv (at' : Int) 8) = ((at' / 8 : Nat) : Int) := by
      rw [show Int.tdiv (at' : Int) 8 = ((at' / 8 : Nat) : Int) from rfl, wrap_id (by omega) (by omega)]
    have e2 : IntKind.i64.wrap (20 + (op.length : Int)) = ((20 + op.length : Nat) : Int) := by rw [wrap_id (by omega) (by omega)]; omega
    have e3 : IntKind.i64.wrap (Int.tdiv ((20 + op.length : Nat) : Int) 4) = (((20 + op.length) / 4 : Nat) : Int) := by
      rw [show Int.tdiv ((20 + op.length : Nat) : Int) 4 = (((20 + op.length) / 4 : Nat) : Int) from rfl, wrap_id (by omega) (by omega)]
    have e4 : IntKind.i64.wrap (64 + (((20 + op.length) / 4 : Nat) : Int)) = ((64 + (20 + op.length) / 4 : Nat) : Int) := by rw [wrap_id (by omega) (by omega)]; omega
    have e5 : IntKind.i64.wrap (((20 + op.length : Nat) : Int) + (da.length : Int)) = ((20 + op.length + da.length : Nat) : Int) := by rw [wrap_id (by omega) (by omega)]; omega
    have d1 := div256 (x := 20 + op.length + da.length) (by omega)
    have d2 := div256 (x := id) (by omega)
    have f1 : IntKind.i64.wrap (((at' / 8 : Nat) : Int) + 8192) = ((at' / 8 + 8192 : Nat) : Int) := by rw [wrap_id (by omega) (by omega)]; omega
    have f2 : IntKind.i64.wrap (((at' / 8 : Nat) : Int) + 16384) = ((at' / 8 + 16384 : Nat) : Int) := by rw [wrap_id (by omega) (by omega)]; omega
    have f3 : IntKind.i64.wrap (((at' / 8 + 8192 : Nat) : Int) + 16384) = ((at' / 8 + 8192 + 16384 : Nat) : Int) := by rw [wrap_id (by omega) (by omega)]; omega
    have d3 := div256 (x := at' / 8) (by omega)
    have d4 := div256 (x := at' / 8 + 8192) (by omega)
    have d5 := div256 (x := at' / 8 + 16384) (by omega)
    have d6 := div256 (x := at' / 8 + 8192 + 16384) (by omega)
    have hx := sumS_le (hd4 tos id ttl pt at' false true op da ++ (fr ++ (to ++ op)))
    have hx : 0 ≤ x4 tos id ttl pt at' false true fr to op da ∧ x4 tos id ttl pt at' false true fr to op da ≤ 65535 := hx
    have hat4 : at4 at' false true = at' / 8 + 8192 := by unfold at4; rw [Int.toNat_natCast, if_neg Bool.false_ne_true, if_pos rfl]
    obtain ⟨A, hAA⟩ : ∃ A, A = at' / 8 + 8192 := ⟨_, rfl⟩
    rw [← hAA] at hat4
    simp only [← hAA] at e1 f1 f2 f3 d3 d4 d5 d6
    simp only [go_sem, ↓reduceIte, reduceCtorEq, upd_ne, back_new (no_at), Nat.reduceAdd, Nat.reduceEqDiff, Nat.reduceMul, Nat.reduceSub, Nat.reduceLeDiff, Nat.reduceLT, Int.reduceToNat, Int.reduceLE, Int.reduceLT, Int.reduceEq, UInt8.reduceOfNat, hw, c, hfr, hto, e1, e2, e3, e4, e5, f1, f2, f3, d1, d2, d4, mod256, u8w, u8_ofNat_mod, e_cBslM, u8_lt, UInt8.ofNat_toNat, cBytes_eq]
    generalize hH : ([UInt8.ofNat (64 + (20 + op.length) / 4), UInt8.ofNat tos, UInt8.ofNat ((20 + op.length + da.length) / 256), UInt8.ofNat (20 + op.length + da.length), UInt8.ofNat (id / 256), UInt8.ofNat id, UInt8.ofNat (A / 256), UInt8.ofNat A, UInt8.ofNat ttl, UInt8.ofNat pt, 0, 0] : List UInt8) = H
    have hHl : H.length = 12 := by rw [← hH]; rfl
    refine while_rule (fun k q => ∃ i : Nat, i + k = 4 ∧ q = ([.arr 70 (1 + i) [] 0 0 (12 + i), .int .i64 (i : Int)], upd noSlots 70 (.obj (1 + i) (.bytes (H ++ fr.take i))))) 4 ⟨0, rfl, by simp⟩ ?_
    rintro k q ⟨i, hi, rfl⟩
    simp only [go_sem, ↓reduceIte, reduceCtorEq, upd_ne, back_new (no_at), Nat.reduceAdd, Nat.reduceEqDiff, Nat.reduceMul, Nat.reduceSub, Nat.reduceLeDiff, Nat.reduceLT, Int.reduceToNat, Int.reduceLE, Int.reduceLT, Int.reduceEq, UInt8.reduceOfNat]
    refine nxt_ite (fun h => ?_) (fun h => ?_)
    · have hlt : i < fr.length := by omega
      obtain ⟨b, hb⟩ : ∃ b, fr[i]? = some b := ⟨fr[i], by simp [hlt]⟩
      have htk : fr.take (i + 1) = fr.take i ++ [b] := by rw [List.take_add_one, hb]; rfl
      have hlen : (H ++ fr.take i).length = 12 + i := by rw [List.length_append, List.length_take]; omega
      have hA := wApp_arr (d := 81) (t := 70) (g := 1 + i) (sl := noSlots) (b := H ++ fr.take i) (s := [b]) (by simp; omega)
      rw [hlen] at hA
      simp only [List.map_cons, List.map_nil, byteLV, List.length_cons, List.length_nil] at hA
      have i1 : IntKind.i64.wrap ((i : Int) + 1) = ((i + 1 : Nat) : Int) := by rw [wrap_id (by omega) (by omega)]; omega
      have i2 : i < 4 := by omega
      simp only [go_sem, ↓reduceIte, reduceCtorEq, upd_ne, back_new (no_at), Nat.reduceAdd, Nat.reduceEqDiff, Nat.reduceMul, Nat.reduceSub, Nat.reduceLeDiff, Nat.reduceLT, Int.reduceToNat, Int.reduceLE, Int.reduceLT, Int.reduceEq, UInt8.reduceOfNat, List.getElem?_map, Int.toNat_natCast, hfr, hb, byteLV, hA, i1, i2]
      refine ⟨k - 1, by omega, i + 1, by omega, ?_⟩
      rw [htk, ← List.append_assoc, show 1 + (i + 1) = 1 + i + 1 by omega, show 12 + (i + 1) = 12 + i + 1 by omega]
    · obtain rfl : i = 4 := by omega
      have hf4 : fr.take 4 = fr := List.take_of_length_le (by omega)
      rw [hf4]
      simp only [go_sem, ↓reduceIte, reduceCtorEq, upd_ne, back_new (no_at), Nat.reduceAdd, Nat.reduceEqDiff, Nat.reduceMul, Nat.reduceSub, Nat.reduceLeDiff, Nat.reduceLT, Int.reduceToNat, Int.reduceLE, Int.reduceLT, Int.reduceEq, UInt8.reduceOfNat, Nxt, exIf]
      refine while_rule (fun k q => ∃ i : Nat, i + k = 4 ∧ q = ([.arr 70 (5 + i) [] 0 0 (16 + i), .int .i64 (i : Int)], upd noSlots 70 (.obj (5 + i) (.bytes (H ++ fr ++ to.take i))))) 4 ⟨0, rfl, by simp⟩ ?_
      rintro k q ⟨i, hi, rfl⟩
      simp only [go_sem, ↓reduceIte, reduceCtorEq, upd_ne, back_new (no_at), Nat.reduceAdd, Nat.reduceEqDiff, Nat.reduceMul, Nat.reduceSub, Nat.reduceLeDiff, Nat.reduceLT, Int.reduceToNat, Int.reduceLE, Int.reduceLT, Int.reduceEq, UInt8.reduceOfNat]
      refine nxt_ite (fun h => ?_) (fun h => ?_)
      · have hlt : i < to.length := by omega
        obtain ⟨b, hb⟩ : ∃ b, to[i]? = some b := ⟨to[i], by simp [hlt]⟩
        have htk : to.take (i + 1) = to.take i ++ [b] := by rw [List.take_add_one, hb]; rfl
        have hlen : (H ++ fr ++ to.take i).length = 16 + i := by rw [List.length_append, List.length_append, List.length_take]; omega
        have hA := wApp_arr (d := 92) (t := 70) (g := 5 + i) (sl := noSlots) (b := H ++ fr ++ to.take i) (s := [b]) (by rw [hlen]; simp; omega)
        rw [hlen] at hA
        simp only [List.map_cons, List.map_nil, byteLV, List.length_cons, List.length_nil] at hA
        have i1 : IntKind.i64.wrap ((i : Int) + 1) = ((i + 1 : Nat) : Int) := by rw [wrap_id (by omega) (by omega)]; omega
        have i2 : i < 4 := by omega
        simp only [go_sem, ↓reduceIte, reduceCtorEq, upd_ne, back_new (no_at), Nat.reduceAdd, Nat.reduceEqDiff, Nat.reduceMul, Nat.reduceSub, Nat.reduceLeDiff, Nat.reduceLT, Int.reduceToNat, Int.reduceLE, Int.reduceLT, Int.reduceEq, UInt8.reduceOfNat, List.getElem?_map, Int.toNat_natCast, hto, hb, byteLV, hA, i1, i2]
        refine ⟨k - 1, by omega, i + 1, by omega, ?_⟩
        rw [htk, ← List.append_assoc, show 5 + (i + 1) = 5 + i + 1 by omega, show 16 + (i + 1) = 16 + i + 1 by omega]
      · obtain rfl : i = 4 := by omega
        have ht4 : to.take 4 = to := List.take_of_length_le (by omega)
        rw [ht4]
        have hHf : (H ++ fr ++ to).length = 20 := by simp; omega
        have hB := wApp_str (d := 96) (t := 70) (g := 9) (sl := noSlots) (b := H ++ fr ++ to) (s := op) (by omega)
        rw [hHf] at hB
        simp only [go_sem, ↓reduceIte, reduceCtorEq, upd_ne, back_new (no_at), Nat.reduceAdd, Nat.reduceEqDiff, Nat.reduceMul, Nat.reduceSub, Nat.reduceLeDiff, Nat.reduceLT, Int.reduceToNat, Int.reduceLE, Int.reduceLT, Int.reduceEq, UInt8.reduceOfNat, Nxt, exIf, hB]
        obtain ⟨z, hz⟩ := Int.eq_ofNat_of_zero_le hx.1
        have hL : (H ++ fr ++ to ++ op).length = 20 + op.length := by rw [List.length_append]; omega
        have hsum : sumAt 0 (H ++ fr ++ to ++ op) = sumAt 0 (hd4 tos id ttl pt at' false true op da ++ (fr ++ (to ++ op))) := by
          rw [← hH, show hd4 tos id ttl pt at' false true op da = [UInt8.ofNat (64 + (20 + op.length) / 4), UInt8.ofNat tos, UInt8.ofNat ((20 + op.length + da.length) / 256), UInt8.ofNat (20 + op.length + da.length), UInt8.ofNat (id / 256), UInt8.ofNat id, UInt8.ofNat (A / 256), UInt8.ofNat A, UInt8.ofNat ttl, UInt8.ofNat pt] by unfold hd4; rw [hat4]; simp only [beB1, beB2, Int.toNat_natCast, List.cons_append, List.nil_append]]
          have hsz := sum_zeros (h := [UInt8.ofNat (64 + (20 + op.length) / 4), UInt8.ofNat tos, UInt8.ofNat ((20 + op.length + da.length) / 256), UInt8.ofNat (20 + op.length + da.length), UInt8.ofNat (id / 256), UInt8.ofNat id, UInt8.ofNat (A / 256), UInt8.ofNat A, UInt8.ofNat ttl, UInt8.ofNat pt]) (r := fr ++ (to ++ op)) (by simp only [List.length_cons, List.length_nil])
          simp only [List.cons_append, List.nil_append, List.append_assoc] at hsz ⊢
          exact hsz
        have ho := ev_rOf hS n (H ++ fr ++ to ++ op) (by omega)
        have ho : S.ev (n + 2) id_interpreterref02_Of [.str (H ++ fr ++ to ++ op)] none = some (.int .i64 (z : Int), none) := by
          rw [ho, hsum, ← hz]; unfold x4 sumS; exact rfl
        have hby : by4 tos id ttl pt at' false true fr to op da = ((H ++ fr ++ to ++ op).set 10 (UInt8.ofNat (z / 256))).set 11 (UInt8.ofNat z) ++ da := by
          unfold by4
          rw [hz, ← hH, show hd4 tos id ttl pt at' false true op da = [UInt8.ofNat (64 + (20 + op.length) / 4), UInt8.ofNat tos, UInt8.ofNat ((20 + op.length + da.length) / 256), UInt8.ofNat (20 + op.length + da.length), UInt8.ofNat (id / 256), UInt8.ofNat id, UInt8.ofNat (A / 256), UInt8.ofNat A, UInt8.ofNat ttl, UInt8.ofNat pt] by unfold hd4; rw [hat4]; simp only [beB1, beB2, Int.toNat_natCast, List.cons_append, List.nil_append]]
          simp only [beB2, Int.toNat_natCast, List.cons_append, List.nil_append, List.append_assoc, List.set_cons_succ, List.set_cons_zero]
        have d7 := div256 (x := z) (by omega)
        rw [hby]
        generalize H ++ fr ++ to ++ op = B at *
        have g10 : B[10]? = some B[10] := List.getElem?_eq_getElem (by omega)
        have g11 : (B.set 10 (UInt8.ofNat (z / 256)))[11]? = some B[11] := by rw [List.getElem?_set_ne (by omega)]; exact List.getElem?_eq_getElem (by omega)
        generalize B[10] = b10 at *
        generalize B[11] = b11 at *
        have l1 : 10 < 20 + op.length := by omega
        have l2 : 11 < 20 + op.length := by omega
        have l3 : (((B.set 10 (UInt8.ofNat (z / 256))).set 11 (UInt8.ofNat z))).take (20 + op.length) = (B.set 10 (UInt8.ofNat (z / 256))).set 11 (UInt8.ofNat z) := List.take_of_length_le (by simp; omega)
        have l4 : B.take (20 + op.length) = B := List.take_of_length_le (by omega)
        have l5 : 20 + op.length + da.length ≤ maxStr := by unfold maxStr; omega
        simp only [go_sem, ↓reduceIte, reduceCtorEq, upd_ne, back_new (no_at), Nat.reduceAdd, Nat.reduceEqDiff, Nat.reduceMul, Nat.reduceSub, Nat.reduceLeDiff, Nat.reduceLT, Int.reduceToNat, Int.reduceLE, Int.reduceLT, Int.reduceEq, UInt8.reduceOfNat, List.getElem?_map, Int.toNat_natCast, ho, hL, g10, g11, l1, l2, l3, l4, l5, byteLV, d7, mod256, u8w, u8_ofNat_mod, u8_lt, UInt8.ofNat_toNat, Nat.le_refl]
  · simp only [go_sem, ↓reduceIte, reduceCtorEq, upd_ne, back_new (no_at), Nat.reduceAdd, Nat.reduceEqDiff, Nat.reduceMul, Nat.reduceSub, Nat.reduceLeDiff, Nat.reduceLT, Int.reduceToNat, Int.reduceLE, Int.reduceLT, Int.reduceEq, UInt8.reduceOfNat, hw, c, hfr, hto]
theorem ev_rbytes3_tf {tos id ttl pt at' : Int} {fr to op da : List UInt8} (hf : FitIp4 tos id ttl pt at' fr to op da) (hd : da.length ≤ 400000) :
    S.ev (n + 3) id_interpreterref03_Bytes [ip4LV tos id ttl pt at' true false fr to op da] none = some (.tup [.str (by4R tos id ttl pt at' true false fr to op da), .int .i64 (why4 tos id ttl pt at' false op da)], none) := by
  rw [Sys.step hS.h_interpreterref03_Bytes, F_interpreterref03_Bytes_eq]
  unfold F_interpreterref03_Bytes
  have hfr := hf.hfr
  have hto := hf.hto
  have hw := ev_Why3 hS (n) (tos := tos) (id := id) (ttl := ttl) (pt := pt) (at' := at') (df := true) (mo := false) hfr hto hf.hop hf.hda
  (try simp only [guard_merge, or_merge, and_merge, or_pick, and_pick, guard_or, guard_and]); simp only [to_ob]
  unfold by4R
  by_cases c : why4 tos id ttl pt at' false op da = 0
  · have ok := why4_zero.1 c
    obtain ⟨o1, o2, o3, o4, o5, o6, o7, o8, o9, o10⟩ := ok
    rw [c] at hw
    obtain ⟨tos, rfl⟩ := Int.eq_ofNat_of_zero_le o1.1
    obtain ⟨ttl, rfl⟩ := Int.eq_ofNat_of_zero_le o2.1
    obtain ⟨pt, rfl⟩ := Int.eq_ofNat_of_zero_le o3.1
    obtain ⟨id, rfl⟩ := Int.eq_ofNat_of_zero_le o4.1
    obtain ⟨at', rfl⟩ := Int.eq_ofNat_of_zero_le o5.1
    have e1 : IntKind.i64.wrap (Int.tdiv (at' : Int) 8) = ((at' / 8 : Nat) : Int) := by
      rw [show Int.tdiv (at' : Int) 8 = ((at' / 8 : Nat) : Int) from rfl, wrap_id (by omega) (by omega)]
    have e2 : IntKind.i64.wrap (20 + (op.length : Int)) = ((20 + op.length : Nat) : Int) := by rw [wrap_id (by omega) (by omega)]; omega
    have e3 : IntKind.i64.wrap (Int.tdiv ((20 + op.length : Nat) : Int) 4) = (((20 + op.length) / 4 : Nat) : Int) := by
      rw [show Int.tdiv ((20 + op.length : Nat) : Int) 4 = (((20 + op.length) / 4 : Nat) : Int) from rfl, wrap_id (by omega) (by omega)]
    have e4 : IntKind.i64.wrap (64 + (((20 + op.length) / 4 : Nat) : Int)) = ((64 + (20 + op.length) / 4 : Nat) : Int) := by rw [wrap_id (by omega) (by omega)]; omega
    have e5 : IntKind.i64.wrap (((20 + op.length : Nat) : Int) + (da.length : Int)) = ((20 + op.length + da.length : Nat) : Int) := by rw [wrap_id (by omega) (by omega)]; omega
    have d1 := div256 (x := 20 + op.length + da.length) (by omega)
    have d2 := div256 (x := id) (by omega)
    have f1 : IntKind.i64.wrap (((at' / 8 : Nat) : Int) + 8192) = ((at' / 8 + 8192 : Nat) : Int) := by rw [wrap_id (by omega) (by omega)]; omega
    have f2 : IntKind.i64.wrap (((at' / 8 : Nat) : Int) + 16384) = ((at' / 8 + 16384 : Nat) : Int) := by rw [wrap_id (by omega) (by omega)]; omega
    have f3 : IntKind.i64.wrap (((at' / 8 + 8192 : Nat) : Int) + 16384) = ((at' / 8 + 8192 + 16384 : Nat) : Int) := by rw [wrap_id (by omega) (by omega)]; omega
    have d3 := div256 (x := at' / 8) (by omega)
    have d4 := div256 (x := at' / 8 + 8192) (by omega)
    have d5 := div256 (x := at' / 8 + 16384) (by omega)
    have d6 := div256 (x := at' / 8 + 8192 + 16384) (by omega)
    have hx := sumS_le (hd4 tos id ttl pt at' true false op da ++ (fr ++ (to ++ op)))
    have hx : 0 ≤ x4 tos id ttl pt at' true false fr to op da ∧ x4 tos id ttl pt at' true false fr to op da ≤ 65535 := hx
    have hat4 : at4 at' true false = at' / 8 + 16384 := by unfold at4; rw [Int.toNat_natCast, if_pos rfl, if_neg Bool.false_ne_true]
    obtain ⟨A, hAA⟩ : ∃ A, A = at' / 8 + 16384 := ⟨_, rfl⟩
    rw [← hAA] at hat4
    simp only [← hAA] at e1 f1 f2 f3 d3 d4 d5 d6
    simp only [go_sem, ↓reduceIte, reduceCtorEq, upd_ne, back_new (no_at), Nat.reduceAdd, Nat.reduceEqDiff, Nat.reduceMul, Nat.reduceSub, Nat.reduceLeDiff, Nat.reduceLT, Int.reduceToNat, Int.reduceLE, Int.reduceLT, Int.reduceEq, UInt8.reduceOfNat, hw, c, hfr, hto, e1, e2, e3, e4, e5, f1, f2, f3, d1, d2, d5, mod256, u8w, u8_ofNat_mod, e_cBslM, u8_lt, UInt8.ofNat_toNat, cBytes_eq]
    generalize hH : ([UInt8.ofNat (64 + (20 + op.length) / 4), UInt8.ofNat tos, UInt8.ofNat ((20 + op.length + da.length) / 256), UInt8.ofNat (20 + op.length + da.length), UInt8.ofNat (id / 256), UInt8.ofNat id, UInt8.ofNat (A / 256), UInt8.ofNat A, UInt8.ofNat ttl, UInt8.ofNat pt, 0, 0] : List UInt8) = H
    have hHl : H.length = 12 := by rw [← hH]; rfl
    refine while_rule (fun k q => ∃ i : Nat, i + k = 4 ∧ q = ([.arr 70 (1 + i) [] 0 0 (12 + i), .int .i64 (i : Int)], upd noSlots 70 (.obj (1 + i) (.bytes (H ++ fr.take i))))) 4 ⟨0, rfl, by simp⟩ ?_
    rintro k q ⟨i, hi, rfl⟩
    simp only [go_sem, ↓reduceIte, reduceCtorEq, upd_ne, back_new (no_at), Nat.reduceAdd, Nat.reduceEqDiff, Nat.reduceMul, Nat.reduceSub, Nat.reduceLeDiff, Nat.reduceLT, Int.reduceToNat, Int.reduceLE, Int.reduceLT, Int.reduceEq, UInt8.reduceOfNat]
    refine nxt_ite (fun h => ?_) (fun h => ?_)
    · have hlt : i < fr.length := by omega
      obtain ⟨b, hb⟩ : ∃ b, fr[i]? = some b := ⟨fr[i], by simp [hlt]⟩
      have htk : fr.take (i + 1) = fr.take i ++ [b] := by rw [List.take_add_one, hb]; rfl
      have hlen : (H ++ fr.take i).length = 12 + i := by rw [List.length_append, List.length_take]; omega
      have hA := wApp_arr (d := 81) (t := 70) (g := 1 + i) (sl := noSlots) (b := H ++ fr.take i) (s := [b]) (by simp; omega)
      rw [hlen] at hA
      simp only [List.map_cons, List.map_nil, byteLV, List.length_cons, List.length_nil] at hA
      have i1 : IntKind.i64.wrap ((i : Int) + 1) = ((i + 1 : Nat) : Int) := by rw [wrap_id (by omega) (by omega)]; omega
      have i2 : i < 4 := by omega
      simp only [go_sem, ↓reduceIte, reduceCtorEq, upd_ne, back_new (no_at), Nat.reduceAdd, Nat.reduceEqDiff, Nat.reduceMul, Nat.reduceSub, Nat.reduceLeDiff, Nat.reduceLT, Int.reduceToNat, Int.reduceLE, Int.reduceLT, Int.reduceEq, UInt8.reduceOfNat, List.getElem?_map, Int.toNat_natCast, hfr, hb, byteLV, hA, i1, i2]
      refine ⟨k - 1, by omega, i + 1, by omega, ?_⟩
      rw [htk, ← List.append_assoc, show 1 + (i + 1) = 1 + i + 1 by omega, show 12 + (i + 1) = 12 + i + 1 by omega]
    · obtain rfl : i = 4 := by omega
      have hf4 : fr.take 4 = fr := List.take_of_length_le (by omega)
      rw [hf4]
      simp only [go_sem, ↓reduceIte, reduceCtorEq, upd_ne, back_new (no_at), Nat.reduceAdd, Nat.reduceEqDiff, Nat.reduceMul, Nat.reduceSub, Nat.reduceLeDiff, Nat.reduceLT, Int.reduceToNat, Int.reduceLE, Int.reduceLT, Int.reduceEq, UInt8.reduceOfNat, Nxt, exIf]
      refine while_rule (fun k q => ∃ i : Nat, i + k = 4 ∧ q = ([.arr 70 (5 + i) [] 0 0 (16 + i), .int .i64 (i : Int)], upd noSlots 70 (.obj (5 + i) (.bytes (H ++ fr ++ to.take i))))) 4 ⟨0, rfl, by simp⟩ ?_
      rintro k q ⟨i, hi, rfl⟩
      simp only [go_sem, ↓reduceIte, reduceCtorEq, upd_ne, back_new (no_at), Nat.reduceAdd, Nat.reduceEqDiff, Nat.reduceMul, Nat.reduceSub, Nat.reduceLeDiff, Nat.reduceLT, Int.reduceToNat, Int.reduceLE, Int.reduceLT, Int.reduceEq, UInt8.reduceOfNat]
      refine nxt_ite (fun h => ?_) (fun h => ?_)
      · have hlt : i < to.length := by omega
        obtain ⟨b, hb⟩ : ∃ b, to[i]? = some b := ⟨to[i], by simp [hlt]⟩
        have htk : to.take (i + 1) = to.take i ++ [b] := by rw [List.take_add_one, hb]; rfl
        have hlen : (H ++ fr ++ to.take i).length = 16 + i := by rw [List.length_append, List.length_append, List.length_take]; omega
        have hA := wApp_arr (d := 92) (t := 70) (g := 5 + i) (sl := noSlots) (b := H ++ fr ++ to.take i) (s := [b]) (by rw [hlen]; simp; omega)
        rw [hlen] at hA
        simp only [List.map_cons, List.map_nil, byteLV, List.length_cons, List.length_nil] at hA
        have i1 : IntKind.i64.wrap ((i : Int) + 1) = ((i + 1 : Nat) : Int) := by rw [wrap_id (by omega) (by omega)]; omega
        have i2 : i < 4 := by omega
        simp only [go_sem, ↓reduceIte, reduceCtorEq, upd_ne, back_new (no_at), Nat.reduceAdd, Nat.reduceEqDiff, Nat.reduceMul, Nat.reduceSub, Nat.reduceLeDiff, Nat.reduceLT, Int.reduceToNat, Int.reduceLE, Int.reduceLT, Int.reduceEq, UInt8.reduceOfNat, List.getElem?_map, Int.toNat_natCast, hto, hb, byteLV, hA, i1, i2]
        refine ⟨k - 1, by omega, i + 1, by omega, ?_⟩
        rw [htk, ← List.append_assoc, show 5 + (i + 1) = 5 + i + 1 by omega, show 16 + (i + 1) = 16 + i + 1 by omega]
      · obtain rfl : i = 4 := by omega
        have ht4 : to.take 4 = to := List.take_of_length_le (by omega)
        rw [ht4]
        have hHf : (H ++ fr ++ to).length = 20 := by simp; omega
        have hB := wApp_str (d := 96) (t := 70) (g := 9) (sl := noSlots) (b := H ++ fr ++ to) (s := op) (by omega)
        rw [hHf] at hB
        simp only [go_sem, ↓reduceIte, reduceCtorEq, upd_ne, back_new (no_at), Nat.reduceAdd, Nat.reduceEqDiff, Nat.reduceMul, Nat.reduceSub, Nat.reduceLeDiff, Nat.reduceLT, Int.reduceToNat, Int.reduceLE, Int.reduceLT, Int.reduceEq, UInt8.reduceOfNat, Nxt, exIf, hB]
        obtain ⟨z, hz⟩ := Int.eq_ofNat_of_zero_le hx.1
        have hL : (H ++ fr ++ to ++ op).length = 20 + op.length := by rw [List.length_append]; omega
        have hsum : sumAt 0 (H ++ fr ++ to ++ op) = sumAt 0 (hd4 tos id ttl pt at' true false op da ++ (fr ++ (to ++ op))) := by
          rw [← hH, show hd4 tos id ttl pt at' true false op da = [UInt8.ofNat (64 + (20 + op.length) / 4), UInt8.ofNat tos, UInt8.ofNat ((20 + op.length + da.length) / 256), UInt8.ofNat (20 + op.length + da.length), UInt8.ofNat (id / 256), UInt8.ofNat id, UInt8.ofNat (A / 256), UInt8.ofNat A, UInt8.ofNat ttl, UInt8.ofNat pt] by unfold hd4; rw [hat4]; simp only [beB1, beB2, Int.toNat_natCast, List.cons_append, List.nil_append]]
          have hsz := sum_zeros (h := [UInt8.ofNat (64 + (20 + op.length) / 4), UInt8.ofNat tos, UInt8.ofNat ((20 + op.length + da.length) / 256), UInt8.ofNat (20 + op.length + da.length), UInt8.ofNat (id / 256), UInt8.ofNat id, UInt8.ofNat (A / 256), UInt8.ofNat A, UInt8.ofNat ttl, UInt8.ofNat pt]) (r := fr ++ (to ++ op)) (by simp only [List.length_cons, List.length_nil])
          simp only [List.cons_append, List.nil_append, List.append_assoc] at hsz ⊢
          exact hsz
        have ho := ev_rOf hS n (H ++ fr ++ to ++ op) (by omega)
        have ho : S.ev (n + 2) id_interpreterref02_Of [.str (H ++ fr ++ to ++ op)] none = some (.int .i64 (z : Int), none) := by
          rw [ho, hsum, ← hz]; unfold x4 sumS; exact rfl
        have hby : by4 tos id ttl pt at' true false fr to op da = ((H ++ fr ++ to ++ op).set 10 (UInt8.ofNat (z / 256))).set 11 (UInt8.ofNat z) ++ da := by
          unfold by4
          rw [hz, ← hH, show hd4 tos id ttl pt at' true false op da = [UInt8.ofNat (64 + (20 + op.length) / 4), UInt8.ofNat tos, UInt8.ofNat ((20 + op.length + da.length) / 256), UInt8.ofNat (20 + op.length + da.length), UInt8.ofNat (id / 256), UInt8.ofNat id, UInt8.ofNat (A / 256), UInt8.ofNat A, UInt8.ofNat ttl, UInt8.ofNat pt] by unfold hd4; rw [hat4]; simp only [beB1, beB2, Int.toNat_natCast, List.cons_append, List.nil_append]]
          simp only [beB2, Int.toNat_natCast, List.cons_append, List.nil_append, List.append_assoc, List.set_cons_succ, List.set_cons_zero]
        have d7 := div256 (x := z) (by omega)
        rw [hby]
        generalize H ++ fr ++ to ++ op = B at *
        have g10 : B[10]? = some B[10] := List.getElem?_eq_getElem (by omega)
        have g11 : (B.set 10 (UInt8.ofNat (z / 256)))[11]? = some B[11] := by rw [List.getElem?_set_ne (by omega)]; exact List.getElem?_eq_getElem (by omega)
        generalize B[10] = b10 at *
        generalize B[11] = b11 at *
        have l1 : 10 < 20 + op.length := by omega
        have l2 : 11 < 20 + op.length := by omega
        have l3 : (((B.set 10 (UInt8.ofNat (z / 256))).set 11 (UInt8.ofNat z))).take (20 + op.length) = (B.set 10 (UInt8.ofNat (z / 256))).set 11 (UInt8.ofNat z) := List.take_of_length_le (by simp; omega)
        have l4 : B.take (20 + op.length) = B := List.take_of_length_le (by omega)
        have l5 : 20 + op.length + da.length ≤ maxStr := by unfold maxStr; omega
        simp only [go_sem, ↓reduceIte, reduceCtorEq, upd_ne, back_new (no_at), Nat.reduceAdd, Nat.reduceEqDiff, Nat.reduceMul, Nat.reduceSub, Nat.reduceLeDiff, Nat.reduceLT, Int.reduceToNat, Int.reduceLE, Int.reduceLT, Int.reduceEq, UInt8.reduceOfNat, List.getElem?_map, Int.toNat_natCast, ho, hL, g10, g11, l1, l2, l3, l4, l5, byteLV, d7, mod256, u8w, u8_ofNat_mod, u8_lt, UInt8.ofNat_toNat, Nat.le_refl]
  · simp only [go_sem, ↓reduceIte, reduceCtorEq, upd_ne, back_new (no_at), Nat.reduceAdd, Nat.reduceEqDiff, Nat.reduceMul, Nat.reduceSub, Nat.reduceLeDiff, Nat.reduceLT, Int.reduceToNat, Int.reduceLE, Int.reduceLT, Int.reduceEq, UInt8.reduceOfNat, hw, c, hfr, hto]
theorem ev_rbytes3_tt {tos id ttl pt at' : Int} {fr to op da : List UInt8} (hf : FitIp4 tos id ttl pt at' fr to op da) (hd : da.length ≤ 400000) :
    S.ev (n + 3) id_interpreterref03_Bytes [ip4LV tos id ttl pt at' true true fr to op da] none = some (.tup [.str (by4R tos id ttl pt at' true true fr to op da), .int .i64 (why4 tos id ttl pt at' true op da)], none) := by
  rw [Sys.step hS.h_interpreterref03_Bytes, F_interpreterref03_Bytes_eq]
  unfold F_interpreterref03_Bytes
  have hfr := hf.hfr
  have hto := hf.hto
  have hw := ev_Why3 hS (n) (tos := tos) (id := id) (ttl := ttl) (pt := pt) (at' := at') (df := true) (mo := true) hfr hto hf.hop hf.hda
  (try simp only [guard_merge, or_merge, and_merge, or_pick, and_pick, guard_or, guard_and]); simp only [to_ob]
  unfold by4R
  by_cases c : why4 tos id ttl pt at' true op da = 0
  · have ok := why4_zero.1 c
    obtain ⟨o1, o2, o3, o4, o5, o6, o7, o8, o9, o10⟩ := ok
    rw [c] at hw
    obtain ⟨tos, rfl⟩ := Int.eq_ofNat_of_zero_le o1.1
    obtain ⟨ttl, rfl⟩ := Int.eq_ofNat_of_zero_le o2.1
    obtain ⟨pt, rfl⟩ := Int.eq_ofNat_of_zero_le o3.1
    obtain ⟨id, rfl⟩ := Int.eq_ofNat_of_zero_le o4.1
    obtain ⟨at', rfl⟩ := Int.eq_ofNat_of_zero_le o5.1
    have e1 : IntKind.i64.wrap (Int.tdiv (at' : Int) 8) = ((at' / 8 : Nat) : Int) := by
      rw [show Int.tdiv (at' : Int) 8 = ((at' / 8 : Nat) : Int) from rfl, wrap_id (by omega) (by omega)]
    have e2 : IntKind.i64.wrap (20 + (op.length : Int)) = ((20 + op.length : Nat) : Int) := by rw [wrap_id (by omega) (by omega)]; omega
    have e3 : IntKind.i64.wrap (Int.tdiv ((20 + op.length : Nat) : Int) 4) = (((20 + op.length) / 4 : Nat) : Int) := by
      rw [show Int.tdiv ((20 + op.length : Nat) : Int) 4 = (((20 + op.length) / 4 : Nat) : Int) from rfl, wrap_id (by omega) (by omega)]
    have e4 : IntKind.i64.wrap (64 + (((20 + op.length) / 4 : Nat) : Int)) = ((64 + (20 + op.length) / 4 : Nat) : Int) := by rw [wrap_id (by omega) (by omega)]; omega
    have e5 : IntKind.i64.wrap (((20 + op.length : Nat) : Int) + (da.length : Int)) = ((20 + op.length + da.length : Nat) : Int) := by rw [wrap_id (by omega) (by omega)]; omega
    have d1 := div256 (x := 20 + op.length + da.length) (by omega)
    have d2 := div256 (x := id) (by omega)
    have f1 : IntKind.i64.wrap (((at' / 8 : Nat) : Int) + 8192) = ((at' / 8 + 8192 : Nat) : Int) := by rw [wrap_id (by omega) (by omega)]; omega
    have f2 : IntKind.i64.wrap (((at' / 8 : Nat) : Int) + 16384) = ((at' / 8 + 16384 : Nat) : Int) := by rw [wrap_id (by omega) (by omega)]; omega
    have f3 : IntKind.i64.wrap (((at' / 8 + 8192 : Nat) : Int) + 16384) = ((at' / 8 + 8192 + 16384 : Nat) : Int) := by rw [wrap_id (by omega) (by omega)]; omega
    have d3 := div256 (x := at' / 8) (by omega)
    have d4 := div256 (x := at' / 8 + 8192) (by omega)
    have d5 := div256 (x := at' / 8 + 16384) (by omega)
    have d6 := div256 (x := at' / 8 + 8192 + 16384) (by omega)
    have hx := sumS_le (hd4 tos id ttl pt at' true true op da ++ (fr ++ (to ++ op)))
    have hx : 0 ≤ x4 tos id ttl pt at' true true fr to op da ∧ x4 tos id ttl pt at' true true fr to op da ≤ 65535 := hx
    have hat4 : at4 at' true true = at' / 8 + 8192 + 16384 := by unfold at4; rw [Int.toNat_natCast, if_pos rfl, if_pos rfl]
    obtain ⟨A, hAA⟩ : ∃ A, A = at' / 8 + 8192 + 16384 := ⟨_, rfl⟩
    rw [← hAA] at hat4
    simp only [← hAA] at e1 f1 f2 f3 d3 d4 d5 d6
    simp only [go_sem, ↓reduceIte, reduceCtorEq, upd_ne, back_new (no_at), Nat.reduceAdd, Nat.reduceEqDiff, Nat.reduceMul, Nat.reduceSub, Nat.reduceLeDiff, Nat.reduceLT, Int.reduceToNat, Int.reduceLE, Int.reduceLT, Int.reduceEq, UInt8.reduceOfNat, hw, c, hfr, hto, e1, e2, e3, e4, e5, f1, f2, f3, d1, d2, d6, mod256, u8w, u8_ofNat_mod, e_cBslM, u8_lt, UInt8.ofNat_toNat, cBytes_eq]
    generalize hH : ([UInt8.ofNat (64 + (20 + op.length) / 4), UInt8.ofNat tos, UInt8.ofNat ((20 + op.length + da.length) / 256), UInt8.ofNat (20 + op.length + da.length), UInt8.ofNat (id / 256), UInt8.ofNat id, UInt8.ofNat (A / 256), UInt8.ofNat A, UInt8.ofNat ttl, UInt8.ofNat pt, 0, 0] : List UInt8) = H
    have hHl : H.length = 12 := by rw [← hH]; rfl
    refine while_rule (fun k q => ∃ i : Nat, i + k = 4 ∧ q = ([.arr 70 (1 + i) [] 0 0 (12 + i), .int .i64 (i : Int)], upd noSlots 70 (.obj (1 + i) (.bytes (H ++ fr.take i))))) 4 ⟨0, rfl, by simp⟩ ?_
    rintro k q ⟨i, hi, rfl⟩
    simp only [go_sem, ↓reduceIte, reduceCtorEq, upd_ne, back_new (no_at), Nat.reduceAdd, Nat.reduceEqDiff, Nat.reduceMul, Nat.reduceSub, Nat.reduceLeDiff, Nat.reduceLT, Int.reduceToNat, Int.reduceLE, Int.reduceLT, Int.reduceEq, UInt8.reduceOfNat]
    refine nxt_ite (fun h => ?_) (fun h => ?_)
    · have hlt : i < fr.length := by omega
      obtain ⟨b, hb⟩ : ∃ b, fr[i]? = some b := ⟨fr[i], by simp [hlt]⟩
      have htk : fr.take (i + 1) = fr.take i ++ [b] := by rw [List.take_add_one, hb]; rfl
      have hlen : (H ++ fr.take i).length = 12 + i := by rw [List.length_append, List.length_take]; omega
      have hA := wApp_arr (d := 81) (t := 70) (g := 1 + i) (sl := noSlots) (b := H ++ fr.take i) (s := [b]) (by simp; omega)
      rw [hlen] at hA
      simp only [List.map_cons, List.map_nil, byteLV, List.length_cons, List.length_nil] at hA
      have i1 : IntKind.i64.wrap ((i : Int) + 1) = ((i + 1 : Nat) : Int) := by rw [wrap_id (by omega) (by omega)]; omega
      have i2 : i < 4 := by omega
      simp only [go_sem, ↓reduceIte, reduceCtorEq, upd_ne, back_new (no_at), Nat.reduceAdd, Nat.reduceEqDiff, Nat.reduceMul, Nat.reduceSub, Nat.reduceLeDiff, Nat.reduceLT, Int.reduceToNat, Int.reduceLE, Int.reduceLT, Int.reduceEq, UInt8.reduceOfNat, List.getElem?_map, Int.toNat_natCast, hfr, hb, byteLV, hA, i1, i2]
      refine ⟨k - 1, by omega, i + 1, by omega, ?_⟩
      rw [htk, ← List.append_assoc, show 1 + (i + 1) = 1 + i + 1 by omega, show 12 + (i + 1) = 12 + i + 1 by omega]
    · obtain rfl : i = 4 := by omega
      have hf4 : fr.take 4 = fr := List.take_of_length_le (by omega)
      rw [hf4]
      simp only [go_sem, ↓reduceIte, reduceCtorEq, upd_ne, back_new (no_at), Nat.reduceAdd, Nat.reduceEqDiff, Nat.reduceMul, Nat.reduceSub, Nat.reduceLeDiff, Nat.reduceLT, Int.reduceToNat, Int.reduceLE, Int.reduceLT, Int.reduceEq, UInt8.reduceOfNat, Nxt, exIf]
      refine while_rule (fun k q => ∃ i : Nat, i + k = 4 ∧ q = ([.arr 70 (5 + i) [] 0 0 (16 + i), .int .i64 (i : Int)], upd noSlots 70 (.obj (5 + i) (.bytes (H ++ fr ++ to.take i))))) 4 ⟨0, rfl, by simp⟩ ?_
      rintro k q ⟨i, hi, rfl⟩
      simp only [go_sem, ↓reduceIte, reduceCtorEq, upd_ne, back_new (no_at), Nat.reduceAdd, Nat.reduceEqDiff, Nat.reduceMul, Nat.reduceSub, Nat.reduceLeDiff, Nat.reduceLT, Int.reduceToNat, Int.reduceLE, Int.reduceLT, Int.reduceEq, UInt8.reduceOfNat]
      refine nxt_ite (fun h => ?_) (fun h => ?_)
      · have hlt : i < to.length := by omega
        obtain ⟨b, hb⟩ : ∃ b, to[i]? = some b := ⟨to[i], by simp [hlt]⟩
        have htk : to.take (i + 1) = to.take i ++ [b] := by rw [List.take_add_one, hb]; rfl
        have hlen : (H ++ fr ++ to.take i).length = 16 + i := by rw [List.length_append, List.length_append, List.length_take]; omega
        have hA := wApp_arr (d := 92) (t := 70) (g := 5 + i) (sl := noSlots) (b := H ++ fr ++ to.take i) (s := [b]) (by rw [hlen]; simp; omega)
        rw [hlen] at hA
        simp only [List.map_cons, List.map_nil, byteLV, List.length_cons, List.length_nil] at hA
        have i1 : IntKind.i64.wrap ((i : Int) + 1) = ((i + 1 : Nat) : Int) := by rw [wrap_id (by omega) (by omega)]; omega
        have i2 : i < 4 := by omega
        simp only [go_sem, ↓reduceIte, reduceCtorEq, upd_ne, back_new (no_at), Nat.reduceAdd, Nat.reduceEqDiff, Nat.reduceMul, Nat.reduceSub, Nat.reduceLeDiff, Nat.reduceLT, Int.reduceToNat, Int.reduceLE, Int.reduceLT, Int.reduceEq, UInt8.reduceOfNat, List.getElem?_map, Int.toNat_natCast, hto, hb, byteLV, hA, i1, i2]
        refine ⟨k - 1, by omega, i + 1, by omega, ?_⟩
        rw [htk, ← List.append_assoc, show 5 + (i + 1) = 5 + i + 1 by omega, show 16 + (i + 1) = 16 + i + 1 by omega]
      · obtain rfl : i = 4 := by omega
        have ht4 : to.take 4 = to := List.take_of_length_le (by omega)
        rw [ht4]
        have hHf : (H ++ fr ++ to).length = 20 := by simp; omega
        have hB := wApp_str (d := 96) (t := 70) (g := 9) (sl := noSlots) (b := H ++ fr ++ to) (s := op) (by omega)
        rw [hHf] at hB
        simp only [go_sem, ↓reduceIte, reduceCtorEq, upd_ne, back_new (no_at), Nat.reduceAdd, Nat.reduceEqDiff, Nat.reduceMul, Nat.reduceSub, Nat.reduceLeDiff, Nat.reduceLT, Int.reduceToNat, Int.reduceLE, Int.reduceLT, Int.reduceEq, UInt8.reduceOfNat, Nxt, exIf, hB]
        obtain ⟨z, hz⟩ := Int.eq_ofNat_of_zero_le hx.1
        have hL : (H ++ fr ++ to ++ op).length = 20 + op.length := by rw [List.length_append]; omega
        have hsum : sumAt 0 (H ++ fr ++ to ++ op) = sumAt 0 (hd4 tos id ttl pt at' true true op da ++ (fr ++ (to ++ op))) := by
          rw [← hH, show hd4 tos id ttl pt at' true true op da = [UInt8.ofNat (64 + (20 + op.length) / 4), UInt8.ofNat tos, UInt8.ofNat ((20 + op.length + da.length) / 256), UInt8.ofNat (20 + op.length + da.length), UInt8.ofNat (id / 256), UInt8.ofNat id, UInt8.ofNat (A / 256), UInt8.ofNat A, UInt8.ofNat ttl, UInt8.ofNat pt] by unfold hd4; rw [hat4]; simp only [beB1, beB2, Int.toNat_natCast, List.cons_append, List.nil_append]]
          have hsz := sum_zeros (h := [UInt8.ofNat (64 + (20 + op.length) / 4), UInt8.ofNat tos, UInt8.ofNat ((20 + op.length + da.length) / 256), UInt8.ofNat (20 + op.length + da.length), UInt8.ofNat (id / 256), UInt8.ofNat id, UInt8.ofNat (A / 256), UInt8.ofNat A, UInt8.ofNat ttl, UInt8.ofNat pt]) (r := fr ++ (to ++ op)) (by simp only [List.length_cons, List.length_nil])
          simp only [List.cons_append, List.nil_append, List.append_assoc] at hsz ⊢
          exact hsz
        have ho := ev_rOf hS n (H ++ fr ++ to ++ op) (by omega)
        have ho : S.ev (n + 2) id_interpreterref02_Of [.str (H ++ fr ++ to ++ op)] none = some (.int .i64 (z : Int), none) := by
          rw [ho, hsum, ← hz]; unfold x4 sumS; exact rfl
        have hby : by4 tos id ttl pt at' true true fr to op da = ((H ++ fr ++ to ++ op).set 10 (UInt8.ofNat (z / 256))).set 11 (UInt8.ofNat z) ++ da := by
          unfold by4
          rw [hz, ← hH, show hd4 tos id ttl pt at' true true op da = [UInt8.ofNat (64 + (20 + op.length) / 4), UInt8.ofNat tos, UInt8.ofNat ((20 + op.length + da.length) / 256), UInt8.ofNat (20 + op.length + da.length), UInt8.ofNat (id / 256), UInt8.ofNat id, UInt8.ofNat (A / 256), UInt8.ofNat A, UInt8.ofNat ttl, UInt8.ofNat pt] by unfold hd4; rw [hat4]; simp only [beB1, beB2, Int.toNat_natCast, List.cons_append, List.nil_append]]
          simp only [beB2, Int.toNat_natCast, List.cons_append, List.nil_append, List.append_assoc, List.set_cons_succ, List.set_cons_zero]
        have d7 := div256 (x := z) (by omega)
        rw [hby]
        generalize H ++ fr ++ to ++ op = B at *
        have g10 : B[10]? = some B[10] := List.getElem?_eq_getElem (by omega)
        have g11 : (B.set 10 (UInt8.ofNat (z / 256)))[11]? = some B[11] := by rw [List.getElem?_set_ne (by omega)]; exact List.getElem?_eq_getElem (by omega)
        generalize B[10] = b10 at *
        generalize B[11] = b11 at *
        have l1 : 10 < 20 + op.length := by omega
        have l2 : 11 < 20 + op.length := by omega
        have l3 : (((B.set 10 (UInt8.ofNat (z / 256))).set 11 (UInt8.ofNat z))).take (20 + op.length) = (B.set 10 (UInt8.ofNat (z / 256))).set 11 (UInt8.ofNat z) := List.take_of_length_le (by simp; omega)
        have l4 : B.take (20 + op.length) = B := List.take_of_length_le (by omega)
        have l5 : 20 + op.length + da.length ≤ maxStr := by unfold maxStr; omega
        simp only [go_sem, ↓reduceIte, reduceCtorEq, upd_ne, back_new (no_at), Nat.reduceAdd, Nat.reduceEqDiff, Nat.reduceMul, Nat.reduceSub, Nat.reduceLeDiff, Nat.reduceLT, Int.reduceToNat, Int.reduceLE, Int.reduceLT, Int.reduceEq, UInt8.reduceOfNat, List.getElem?_map, Int.toNat_natCast, ho, hL, g10, g11, l1, l2, l3, l4, l5, byteLV, d7, mod256, u8w, u8_ofNat_mod, u8_lt, UInt8.ofNat_toNat, Nat.le_refl]
  · simp only [go_sem, ↓reduceIte, reduceCtorEq, upd_ne, back_new (no_at), Nat.reduceAdd, Nat.reduceEqDiff, Nat.reduceMul, Nat.reduceSub, Nat.reduceLeDiff, Nat.reduceLT, Int.reduceToNat, Int.reduceLE, Int.reduceLT, Int.reduceEq, UInt8.reduceOfNat, hw, c, hfr, hto]
theorem ev_rbytes3 {tos id ttl pt at' : Int} {df mo : Bool} {fr to op da : List UInt8} (hf : FitIp4 tos id ttl pt at' fr to op da) (hd : da.length ≤ 400000) :
    S.ev (n + 3) id_interpreterref03_Bytes [ip4LV tos id ttl pt at' df mo fr to op da] none = some (.tup [.str (by4R tos id ttl pt at' df mo fr to op da), .int .i64 (why4 tos id ttl pt at' mo op da)], none) := by
  cases df
  · cases mo
    · exact ev_rbytes3_ff hS n hf hd
    · exact ev_rbytes3_ft hS n hf hd
  · cases mo
    · exact ev_rbytes3_tf hS n hf hd
    · exact ev_rbytes3_tt hS n hf hd
end
end Go.Ev

namespace Go.Ev
set_option linter.unusedSimpArgs false
set_option linter.unusedVariables false
set_option maxRecDepth 10000
set_option maxHeartbeats 8000000
theorem upF_take {d : List UInt8} {i : Nat} {o w : List UInt8} {none : Bool} (h : 4 ≤ i) : (upF d i o w none).take 4 = d.take 4 := by
  unfold upF
  split
  · rfl
  · split
    · rfl
    · rw [List.take_append_of_le_length (by rw [List.length_take]; omega), List.take_take, Nat.min_eq_left h]
theorem poF_ports {udp : Bool} {d o w : List UInt8} {p q : Nat} (h : 4 ≤ d.length) : (poF udp d o w p q).take 4 = beB 2 p ++ beB 2 q := by
  have hx : (beB 2 p ++ (beB 2 q ++ d.drop 4)).take 4 = beB 2 p ++ beB 2 q := by simp [beB2]
  unfold poF
  rw [if_neg (by omega)]
  split
  · rw [upF_take (by omega), hx]
  · rw [upF_take (by omega), hx]
section
variable {S : Sys} (hS : Has S) (n : Nat)
include hS
theorem ev_awake15 : S.ev (n + 7) id_interpreterlaw15_awake [] none = some (.bool true, none) := by
  rw [Sys.step hS.h_interpreterlaw15_awake, F_interpreterlaw15_awake_eq]
  unfold F_interpreterlaw15_awake
  have h1 : S.ev (n + 6) id_interpreterlaw15_gram [.int .i64 600] none = _ := ev_gram hS (n + 4) 600 (by omega)
  have h0 : S.ev (n + 6) id_interpreterlaw15_gram [.int .i64 0] none = _ := ev_gram hS (n + 4) 0 (by omega)
  have ok := g_ok (k := 600) (by omega)
  have h2 := ev_rbytes3 hS (n + 3) (df := false) (mo := false) (g_fit (k := 600) (by omega)) (by rw [List.length_replicate]; omega)
  unfold by4R at h2
  rw [if_pos (why4_zero.2 ok), why4_zero.2 ok] at h2
  have hBl := by4_len (tos := 0) (id := 0) (ttl := 9) (pt := 17) (at' := 0) (df := false) (mo := false) (fr := [192, 0, 2, 1]) (to := [192, 0, 2, 2]) (op := []) (da := List.replicate 600 120) rfl rfl
  have hp := (ev_parse_by4 hS (n + 1) (df := false) ok (fr := [192, 0, 2, 1]) (to := [192, 0, 2, 2]) rfl rfl).1
  have hi := inside_by4 (df := false) ok (fr := [192, 0, 2, 1]) (to := [192, 0, 2, 2]) rfl rfl (j := 548) (by simp) (by simp)
  have hDl : (List.replicate 600 (120 : UInt8)).length = 600 := List.length_replicate
  have hm := ev_martian4 hS (n + 4) 192 0 2 1
  rw [decide_eq_false (by decide)] at hm
  generalize hB : by4 0 0 9 17 0 false false [192, 0, 2, 1] [192, 0, 2, 2] [] (List.replicate 600 120) = B at *
  generalize hD : List.replicate 600 (120 : UInt8) = D at *
  rw [hDl] at hBl
  have hBl : B.length = 620 := by rw [hBl]; rfl
  have hQl : (B.take 548).length = 548 := by rw [List.length_take]; omega
  generalize hQ : B.take 548 = Q at *
  have hIl : (im4B 11 0 0 Q).length = 556 := by unfold im4B; simp only [List.length_append, beB_len]; omega
  have hId : (im4B 11 0 0 Q).drop 8 = Q := by unfold im4B; simp [beB1, beB2, beB, List.range_succ]
  have ok2 : Ok4 0 5 64 1 0 false [] (im4B 11 0 0 Q) := ⟨by omega, by omega, by omega, by omega, by omega, rfl, by simp, by simp, by simp, by rw [hIl]; simp⟩
  have h3 := ev_own4_ok hS (n + 1) (s := B) (tos := 0) (i0 := 0) (ttl := 9) (pt := 17) (df := false) (mo := false) (fr := [192, 0, 2, 1]) (to := [192, 0, 2, 2]) (op := []) (da := D) (a := [192, 0, 2, 9]) (k := 11) (c := 0) (r := 0) (id := 5) (id' := 5) (md := []) (mtu := 1500) (q := Q)
    hp rfl rfl rfl rfl (by omega) (by omega) hm (by omega) (by omega) (by rw [hDl, hBl]; simp) (by omega) (by simp) (by rw [hDl]; decide) (by rw [hDl, ← hQ, List.take_take]; rfl) rfl (by unfold I64; omega) (why4_zero.2 ok2)
  have h4 := (ev_parse_by4 hS (n + 2) (df := false) ok2 (fr := [192, 0, 2, 9]) (to := [192, 0, 2, 1]) rfl rfl).2
  have hSl := by4_len (tos := 0) (id := 5) (ttl := 64) (pt := 1) (at' := 0) (df := false) (mo := false) (fr := [192, 0, 2, 9]) (to := [192, 0, 2, 1]) (op := []) (da := im4B 11 0 0 Q) rfl rfl
  rw [hIl] at hSl
  have hSl : (by4 0 5 64 1 0 false false [192, 0, 2, 9] [192, 0, 2, 1] [] (im4B 11 0 0 Q)).length = 576 := by rw [hSl]; rfl
  have h5 := ev_inside4 hS (n + 2) Q (by omega)
  rw [hi.1, hi.2.1, hi.2.2, hDl] at h5
  have hD2 : (D.take (548 - (20 + ([] : List UInt8).length))).length = 528 := by rw [List.length_take, hDl]; rfl
  generalize D.take (548 - (20 + ([] : List UInt8).length)) = D2 at *
  have h6 := ev_quote6w hS n (tos := 0) (id := 0) (ttl := 9) (pt := 17) (df := false) (fr := [192, 0, 2, 1]) (to := [192, 0, 2, 2]) (op := []) (da := D2) (a := List.replicate 16 0) (b := List.replicate 16 0) (claim := 600) (p := 1) (q := 2) rfl rfl rfl rfl (by omega) (by omega) (by omega) (by omega) (by omega) (by omega) (by omega) (by omega)
  have hpo := poF_ports (udp := decide ((17 : Int) = 17)) (d := D2) (o := [192, 0, 2, 1] ++ [192, 0, 2, 2]) (w := List.replicate 16 0 ++ List.replicate 16 0) (p := 1) (q := 2) (by omega)
  have hpl := @poF_len (decide ((17 : Int) = 17)) D2 ([192, 0, 2, 1] ++ [192, 0, 2, 2]) (List.replicate 16 0 ++ List.replicate 16 0) 1 2
  generalize poF (decide ((17 : Int) = 17)) D2 ([192, 0, 2, 1] ++ [192, 0, 2, 2]) (List.replicate 16 0 ++ List.replicate 16 0) 1 2 = PO at *
  have hTl : (beB 4 (1610612736 + Int.toNat 0 * 1048576) ++ (beB 2 600 ++ (beB 1 (Int.toNat 17) ++ (beB 1 (Int.toNat 9) ++ (List.replicate 16 0 ++ (List.replicate 16 0 ++ PO)))))).length = 568 := by
    simp only [List.length_append, beB_len, List.length_replicate]; omega
  have hTd : ((beB 4 (1610612736 + Int.toNat 0 * 1048576) ++ (beB 2 600 ++ (beB 1 (Int.toNat 17) ++ (beB 1 (Int.toNat 9) ++ (List.replicate 16 0 ++ (List.replicate 16 0 ++ PO)))))).drop 40).take 4 = [0, 1, 0, 2] := by
    rw [show (beB 4 (1610612736 + Int.toNat 0 * 1048576) ++ (beB 2 600 ++ (beB 1 (Int.toNat 17) ++ (beB 1 (Int.toNat 9) ++ (List.replicate 16 0 ++ (List.replicate 16 0 ++ PO)))))) = (beB 4 (1610612736 + Int.toNat 0 * 1048576) ++ (beB 2 600 ++ (beB 1 (Int.toNat 17) ++ (beB 1 (Int.toNat 9) ++ (List.replicate 16 0 ++ List.replicate 16 0))))) ++ PO by simp only [List.append_assoc]]
    rw [List.drop_left' (by simp only [List.length_append, beB_len, List.length_replicate]), hpo]
    rfl
  have h6 : S.ev (n + 6) id_fault_Quote6 [ip4LV 0 0 9 17 0 false false [192, 0, 2, 1] [192, 0, 2, 2] [] D2, .int .i64 600, .agg [.bytes [0, 0, 0, 0, 0, 0, 0, 0, 0, 0, 0, 0, 0, 0, 0, 0], .int .i64 1], .agg [.bytes [0, 0, 0, 0, 0, 0, 0, 0, 0, 0, 0, 0, 0, 0, 0, 0], .int .i64 2]] none = _ := h6
  generalize beB 4 (1610612736 + Int.toNat 0 * 1048576) ++ (beB 2 600 ++ (beB 1 (Int.toNat 17) ++ (beB 1 (Int.toNat 9) ++ (List.replicate 16 0 ++ (List.replicate 16 0 ++ PO))))) = T at *
  have h3 : S.ev (n + 6) id_fault_Own4 [.agg [.int .i64 11, .int .i64 0, .int .u32 0, .str []], .str B, .bytes [192, 0, 2, 9], .int .i64 5, .int .i64 1500] none = _ := h3
  generalize by4 0 5 64 1 0 false false [192, 0, 2, 9] [192, 0, 2, 1] [] (im4B 11 0 0 Q) = SS at *
  generalize im4B 11 0 0 Q = IB at *
  have n1 : ((600 : Nat) : Int) = 600 := rfl
  have n2 : ((576 : Nat) : Int) = 576 := rfl
  have n3 : ((556 : Nat) : Int) = 556 := rfl
  have n4 : ((528 : Nat) : Int) = 528 := rfl
  have n5 : ((568 : Nat) : Int) = 568 := rfl
  rw [n1] at h5
  have t8 : (IB.drop 8).take (556 - 8) = Q := by rw [hId]; exact List.take_of_length_le (by omega)
  have t9 : Q.take 548 = Q := List.take_of_length_le (by omega)
  have z0 : List.replicate 0 (120 : UInt8) = [] := rfl
  (try simp only [guard_merge, or_merge, and_merge, or_pick, and_pick, guard_or, guard_and]); simp only [to_ob]
  simp only [go_sem, ↓reduceIte, reduceCtorEq, upd_ne, back_new (no_at), Nat.reduceAdd, Nat.reduceEqDiff, Nat.reduceMul, Nat.reduceSub, Nat.reduceLeDiff, Nat.reduceLT, Int.reduceToNat, Int.reduceLE, Int.reduceLT, Int.reduceEq, UInt8.reduceOfNat, List.getElem?_map, Int.toNat_natCast, -List.reduceReplicate, z0, h0, h1, h2, h3, h4, h5, h6, hBl, hSl, hIl, hD2, hTl, hQ, hId, hTd, t8, t9, n1, n2, n3, n4, n5, fE, Nat.sub_zero, List.drop_zero, List.length_cons, List.length_nil, decide_true, beq_self_eq_true, Bool.and_self, Bool.not_true, Bool.false_eq_true]
end
end Go.Ev

namespace Go.Ev
set_option linter.unusedSimpArgs false
set_option linter.unusedVariables false
set_option maxRecDepth 10000
set_option maxHeartbeats 8000000
def putW (D : List UInt8) (i y : Nat) : List UInt8 := D.take i ++ (beB 2 y ++ D.drop (i + 2))
theorem putW_len {D : List UInt8} {i y : Nat} (h : i + 2 ≤ D.length) : (putW D i y).length = D.length := by unfold putW; simp only [List.length_append, beB_len, List.length_take, List.length_drop]; omega
theorem beB_w (a b : UInt8) : beB 2 (w16 a b) = [a, b] := by rw [beB2, w16_hi, w16_lo]
theorem cut2 {D : List UInt8} {i : Nat} (h : i + 2 ≤ D.length) : D = D.take i ++ ([D.getD i 0, D.getD (i + 1) 0] ++ D.drop (i + 2)) := by
  conv => lhs; rw [← List.take_append_drop i D]
  rw [List.drop_eq_getElem_cons (by omega), List.drop_eq_getElem_cons (by omega : i + 1 < D.length)]
  simp [List.getD, List.getElem?_eq_getElem (show i < D.length by omega), List.getElem?_eq_getElem (show i + 1 < D.length by omega)]
theorem putW_same {D : List UInt8} {i : Nat} (h : i + 2 ≤ D.length) : putW D i (wAt D i) = D := by
  unfold putW wAt
  rw [beB_w]
  exact (cut2 h).symm
theorem putW_putW {D : List UInt8} {i y z : Nat} (h : i + 2 ≤ D.length) : putW (putW D i y) i z = putW D i z := by
  have h1 : (D.take i).length = i := by rw [List.length_take]; omega
  have e1 : (putW D i y).take i = D.take i := by unfold putW; exact List.take_left' h1
  have e2 : (putW D i y).drop (i + 2) = D.drop (i + 2) := by
    unfold putW
    rw [← List.append_assoc]
    exact List.drop_left' (by rw [List.length_append, h1, beB_len])
  show (putW D i y).take i ++ (beB 2 z ++ (putW D i y).drop (i + 2)) = _
  rw [e1, e2]
  rfl
theorem getD_app {l r : List UInt8} {i : Nat} (h : l.length ≤ i) : (l ++ r).getD i 0 = r.getD (i - l.length) 0 := by
  simp [List.getD, List.getElem?_append_right h]
theorem wAt_putW {D : List UInt8} {i y : Nat} (h : i + 2 ≤ D.length) (hy : y < 65536) : wAt (putW D i y) i = y := by
  have h1 : (D.take i).length = i := by rw [List.length_take]; omega
  have g : ∀ j, j < 2 → (putW D i y).getD (i + j) 0 = (beB 2 y).getD j 0 := fun j hj => by
    unfold putW
    rw [getD_app (l := D.take i) (by omega), h1, show i + j - i = j by omega]
    simp [List.getD, List.getElem?_append_left (show j < (beB 2 y).length by rw [beB_len]; exact hj)]
  have g0 := g 0 (by omega)
  have g1 := g 1 (by omega)
  rw [Nat.add_zero] at g0
  unfold wAt
  rw [g0, g1, beB2]
  exact w16_beB hy
theorem upF_put {D : List UInt8} {i : Nat} {o w : List UInt8} {none : Bool} : upF D i o w none = if D.length < i + 2 then D else if none = true ∧ wAt D i = 0 then D else putW D i (upY (wAt D i) o w none) := rfl
theorem upF_back {D O W : List UInt8} {i : Nat} {nn : Bool} {F G : List UInt8 → List UInt8} (hF : (F D).length = D.length) (hw : i + 2 ≤ D.length → wAt (F D) i = wAt D i) (hGF : G (F D) = D)
    (hG : i + 2 ≤ D.length → ∀ y, G (putW (F D) i y) = putW (G (F D)) i y) (hO : O.length % 2 = 0) (hW : W.length % 2 = 0) :
    upF (G (upF (F D) i O W nn)) i W O nn = D ∨ (nn = false ∧ i + 2 ≤ D.length ∧ wAt D i = 65535 ∧ upF (G (upF (F D) i O W nn)) i W O nn = putW D i 0) := by
  rw [upF_put (D := F D), hF]
  by_cases c : D.length < i + 2
  · left; rw [if_pos c, hGF, upF_put, if_pos c]
  rw [if_neg c]
  have c' : i + 2 ≤ D.length := by omega
  have hw := hw c'
  have hG := hG c'
  have hx := wAt_le D i
  rw [hw]
  by_cases c2 : nn = true ∧ wAt D i = 0
  · left; rw [if_pos c2, hGF, upF_put, if_neg c, if_pos c2]
  rw [if_neg c2, hG, hGF]
  cases nn with
  | true =>
    have hx0 : wAt D i ≠ 0 := fun q => c2 ⟨rfl, q⟩
    obtain ⟨k1, k2, k3⟩ := upY_back hx hx0 hO hW
    left
    rw [upF_put, putW_len c', if_neg c, wAt_putW c' (by omega), if_neg (fun q => k1 q.2), putW_putW c', k3, putW_same c']
  | false =>
    have hu : ∀ x o w, upY x o w false = updN x o w := fun x o w => by unfold upY; rw [if_neg (by simp)]
    have h1 := updN_le (wAt D i) O W
    rw [hu, upF_put, putW_len c', if_neg c, wAt_putW c' (by omega), if_neg (by simp), putW_putW c', hu]
    rcases updN_back hx hO hW with h | ⟨h2, h3⟩
    · left; rw [h, putW_same c']
    · right; exact ⟨rfl, c', h2, by rw [h3]⟩
def rp4 (h X : List UInt8) : List UInt8 := h ++ X.drop 4
theorem rp4_put {h X : List UInt8} {i y : Nat} (hh : h.length = 4) (hi : 4 ≤ i) (hl : i + 2 ≤ X.length) : rp4 h (putW X i y) = putW (rp4 h X) i y := by
  have h1 : (X.take i).length = i := by rw [List.length_take]; omega
  have a1 : ∀ R : List UInt8, (X.take i ++ R).drop 4 = (X.take i).drop 4 ++ R := fun R => List.drop_append_of_le_length (by omega)
  have a2 : (h ++ X.drop 4).take i = h ++ (X.drop 4).take (i - 4) := by rw [List.take_append, List.take_of_length_le (l := h) (by omega), hh]
  have a3 : (h ++ X.drop 4).drop (i + 2) = X.drop (i + 2) := by
    rw [List.drop_append, List.drop_eq_nil_of_le (as := h) (by omega), hh, List.nil_append, List.drop_drop]; congr 1; omega
  unfold rp4 putW
  rw [a1, a2, a3, List.drop_take, List.append_assoc]
theorem rp4_w {h X : List UInt8} {i : Nat} (hh : h.length = 4) (hi : 4 ≤ i) : wAt (rp4 h X) i = wAt X i := by
  have : ∀ j, 4 ≤ j → (rp4 h X).getD j 0 = X.getD j 0 := fun j hj => by
    unfold rp4
    rw [getD_app (by omega), hh]
    simp [List.getD, List.getElem?_drop, show 4 + (j - 4) = j by omega]
  unfold wAt
  rw [this i hi, this (i + 1) (by omega)]
theorem rp4_rp4 {h h' X : List UInt8} (hh : h.length = 4) : rp4 h' (rp4 h X) = rp4 h' X := by
  unfold rp4; rw [List.drop_left' hh]
theorem ports_take {D : List UInt8} (h : 4 ≤ D.length) : beB 2 (wAt D 0) ++ beB 2 (wAt D 2) = D.take 4 := by
  obtain ⟨a, t, rfl, h1⟩ := len_cons (k := 3) (by omega : 3 + 1 ≤ D.length)
  obtain ⟨b, t, rfl, h2⟩ := len_cons (k := 2) (by omega : 2 + 1 ≤ t.length)
  obtain ⟨c, t, rfl, h3⟩ := len_cons (k := 1) (by omega : 1 + 1 ≤ t.length)
  obtain ⟨d, t, rfl, h4⟩ := len_cons (k := 0) (by omega : 0 + 1 ≤ t.length)
  simp only [wAts, wAt0, beB_w]
  rfl
def alikeP (a b : List UInt8) (i : Int) : Prop := a = b ∨ (0 ≤ i ∧ i + 2 ≤ (a.length : Int) ∧ wAt a i.toNat = 65535 ∧ b = putW a i.toNat 0)
theorem poF_back {udp : Bool} {D o w : List UInt8} {p q : Nat} (h : 4 ≤ D.length) (ho : o.length % 2 = 0) (hw : w.length % 2 = 0) :
    alikeP D (poF udp (poF udp D o w p q) w o (wAt D 0) (wAt D 2)) (if udp = true then -1 else 16) := by
  have hP : (beB 2 p ++ beB 2 q).length = 4 := by simp only [List.length_append, beB_len]
  have hD : (D.take 4).length = 4 := by rw [List.length_take]; omega
  have hports := poF_ports (udp := udp) (d := D) (o := o) (w := w) (p := p) (q := q) h
  have hlen : (poF udp D o w p q).length = D.length := poF_len
  have key : ∀ (i : Nat) (nn : Bool), 4 ≤ i → (upF (rp4 (beB 2 p ++ beB 2 q) D) i (o ++ D.take 4) (w ++ (beB 2 p ++ beB 2 q)) nn).take 4 = beB 2 p ++ beB 2 q →
      upF (rp4 (D.take 4) (upF (rp4 (beB 2 p ++ beB 2 q) D) i (o ++ D.take 4) (w ++ (beB 2 p ++ beB 2 q)) nn)) i (w ++ (beB 2 p ++ beB 2 q)) (o ++ D.take 4) nn = D ∨ (nn = false ∧ i + 2 ≤ D.length ∧ wAt D i = 65535 ∧
      upF (rp4 (D.take 4) (upF (rp4 (beB 2 p ++ beB 2 q) D) i (o ++ D.take 4) (w ++ (beB 2 p ++ beB 2 q)) nn)) i (w ++ (beB 2 p ++ beB 2 q)) (o ++ D.take 4) nn = putW D i 0) := by
    intro i nn hi _
    have hl : (rp4 (beB 2 p ++ beB 2 q) D).length = D.length := by unfold rp4; rw [List.length_append, hP, List.length_drop]; omega
    exact upF_back (F := rp4 (beB 2 p ++ beB 2 q)) (G := rp4 (D.take 4)) hl (fun _ => rp4_w hP hi) (by rw [rp4_rp4 hP]; exact List.take_append_drop 4 D)
      (fun hh y => rp4_put hD hi (by rw [hl]; exact hh)) (by rw [List.length_append, hD]; omega) (by rw [List.length_append, hP]; omega)
  have e1 : ∀ D' : List UInt8, D'.length = D.length → D'.take 4 = beB 2 p ++ beB 2 q → poF udp D' w o (wAt D 0) (wAt D 2) = if udp = true then upF (rp4 (D.take 4) D') 6 (w ++ (beB 2 p ++ beB 2 q)) (o ++ D.take 4) true else upF (rp4 (D.take 4) D') 16 (w ++ (beB 2 p ++ beB 2 q)) (o ++ D.take 4) false := fun D' hl ht => by
    unfold poF rp4
    rw [hl, if_neg (show ¬ D.length < 4 by omega), ht, ← List.append_assoc, ports_take h]
  rw [e1 _ hlen hports]
  have e2 : poF udp D o w p q = if udp = true then upF (rp4 (beB 2 p ++ beB 2 q) D) 6 (o ++ D.take 4) (w ++ (beB 2 p ++ beB 2 q)) true else upF (rp4 (beB 2 p ++ beB 2 q) D) 16 (o ++ D.take 4) (w ++ (beB 2 p ++ beB 2 q)) false := by
    unfold poF rp4
    rw [if_neg (show ¬ D.length < 4 by omega), List.append_assoc]
  rw [e2] at hports ⊢
  unfold alikeP
  cases udp with
  | true =>
    simp only [if_true] at hports ⊢
    rcases key 6 true (by omega) hports with k | k
    · exact .inl k.symm
    · cases k.1
  | false =>
    simp only [Bool.false_eq_true, if_false] at hports ⊢
    rcases key 16 false (by omega) hports with k | ⟨_, k2, k3, k4⟩
    · exact .inl k.symm
    · exact .inr ⟨by omega, by omega, k3, k4⟩
theorem ecD_put {X : List UInt8} {k id y : Nat} (hl : 6 ≤ X.length) : ecD (putW X 2 y) k id = putW (ecD X k id) 2 y := by
  obtain ⟨a, t, rfl, h1⟩ := len_cons (k := 5) (by omega : 5 + 1 ≤ X.length)
  obtain ⟨b, t, rfl, h2⟩ := len_cons (k := 4) (by omega : 4 + 1 ≤ t.length)
  obtain ⟨c, t, rfl, h3⟩ := len_cons (k := 3) (by omega : 3 + 1 ≤ t.length)
  obtain ⟨d, t, rfl, h4⟩ := len_cons (k := 2) (by omega : 2 + 1 ≤ t.length)
  obtain ⟨e, t, rfl, h5⟩ := len_cons (k := 1) (by omega : 1 + 1 ≤ t.length)
  obtain ⟨f, t, rfl, h6⟩ := len_cons (k := 0) (by omega : 0 + 1 ≤ t.length)
  unfold ecD putW
  rw [beB1, beB2, beB2]
  rfl
theorem ecD_w {X : List UInt8} {k id : Nat} (hl : 6 ≤ X.length) : wAt (ecD X k id) 2 = wAt X 2 := by
  obtain ⟨a, t, rfl, h1⟩ := len_cons (k := 5) (by omega : 5 + 1 ≤ X.length)
  obtain ⟨b, t, rfl, h2⟩ := len_cons (k := 4) (by omega : 4 + 1 ≤ t.length)
  obtain ⟨c, t, rfl, h3⟩ := len_cons (k := 3) (by omega : 3 + 1 ≤ t.length)
  obtain ⟨d, t, rfl, h4⟩ := len_cons (k := 2) (by omega : 2 + 1 ≤ t.length)
  unfold ecD
  rw [beB1, beB2]
  rfl
theorem ecD_back {X : List UInt8} {k id : Nat} (hl : 6 ≤ X.length) (h1 : bAt X 1 = 0) : ecD (ecD X k id) (bAt X 0) (wAt X 4) = X := by
  obtain ⟨a, t, rfl, h1'⟩ := len_cons (k := 5) (by omega : 5 + 1 ≤ X.length)
  obtain ⟨b, t, rfl, h2⟩ := len_cons (k := 4) (by omega : 4 + 1 ≤ t.length)
  obtain ⟨c, t, rfl, h3⟩ := len_cons (k := 3) (by omega : 3 + 1 ≤ t.length)
  obtain ⟨d, t, rfl, h4⟩ := len_cons (k := 2) (by omega : 2 + 1 ≤ t.length)
  obtain ⟨e, t, rfl, h5⟩ := len_cons (k := 1) (by omega : 1 + 1 ≤ t.length)
  obtain ⟨f, t, rfl, h6⟩ := len_cons (k := 0) (by omega : 0 + 1 ≤ t.length)
  have hb : b = 0 := by
    simp only [bAts, bAt0] at h1
    exact UInt8.toNat_inj.1 h1
  subst hb
  simp only [wAts, wAt0, bAt0]
  unfold ecD
  rw [beB_w, beB1, beB1, beB2, UInt8.ofNat_toNat]
  rfl
theorem ecD_hd {X : List UInt8} {k id : Nat} (hl : 6 ≤ X.length) : (ecD X k id).take 2 = beB 1 k ++ [0] ∧ ((ecD X k id).drop 4).take 2 = beB 2 id := by
  obtain ⟨a, t, rfl, h1⟩ := len_cons (k := 5) (by omega : 5 + 1 ≤ X.length)
  obtain ⟨b, t, rfl, h2⟩ := len_cons (k := 4) (by omega : 4 + 1 ≤ t.length)
  obtain ⟨c, t, rfl, h3⟩ := len_cons (k := 3) (by omega : 3 + 1 ≤ t.length)
  obtain ⟨d, t, rfl, h4⟩ := len_cons (k := 2) (by omega : 2 + 1 ≤ t.length)
  unfold ecD
  rw [beB1, beB2]
  exact ⟨rfl, rfl⟩
theorem upF_hd {X : List UInt8} {o w : List UInt8} {nn : Bool} (hl : 6 ≤ X.length) : (upF X 2 o w nn).take 2 = X.take 2 ∧ ((upF X 2 o w nn).drop 4).take 2 = (X.drop 4).take 2 ∧ bAt (upF X 2 o w nn) 0 = bAt X 0 ∧ bAt (upF X 2 o w nn) 1 = bAt X 1 := by
  rw [upF_put, if_neg (by omega)]
  split
  · exact ⟨rfl, rfl, rfl, rfl⟩
  · obtain ⟨a, t, rfl, h1⟩ := len_cons (k := 5) (by omega : 5 + 1 ≤ X.length)
    obtain ⟨b, t, rfl, h2⟩ := len_cons (k := 4) (by omega : 4 + 1 ≤ t.length)
    obtain ⟨c, t, rfl, h3⟩ := len_cons (k := 3) (by omega : 3 + 1 ≤ t.length)
    obtain ⟨d, t, rfl, h4⟩ := len_cons (k := 2) (by omega : 2 + 1 ≤ t.length)
    unfold putW
    rw [beB2]
    exact ⟨rfl, rfl, rfl, rfl⟩
end Go.Ev

namespace Go.Ev
set_option linter.unusedSimpArgs false
set_option linter.unusedVariables false
set_option maxRecDepth 4000
set_option maxHeartbeats 2000000
section
variable {S : Sys} (hS : Has S) (n : Nat)
include hS
theorem ev_Right2 (a b : List UInt8) (h : a.length + b.length ≤ 140737488351232) : S.ev (n + 3) id_sum_Right [.lst none [.str a, .str b]] none = some (.bool (decide (sumS (a ++ b) = 0)), none) := by
  rw [Sys.step hS.h_sum_Right, F_sum_Right_eq]
  unfold F_sum_Right
  have ho := ev_Of hS n [a, b] (by simp) (by simpa using h)
  simp only [List.map_cons, List.map_nil, List.flatten_cons, List.flatten_nil, List.append_nil] at ho
  (try simp only [guard_merge, or_merge, and_merge, or_pick, and_pick, guard_or, guard_and]); simp only [to_ob]
  simp only [go_sem, ↓reduceIte, reduceCtorEq, upd_ne, back_new (no_at), Nat.reduceAdd, Nat.reduceEqDiff, Nat.reduceMul, Nat.reduceSub, Nat.reduceLeDiff, Nat.reduceLT, Int.reduceToNat, Int.reduceLE, Int.reduceLT, Int.reduceEq, UInt8.reduceOfNat, ho, sumS]
  rfl
end
end Go.Ev

namespace Go.Ev
set_option linter.unusedSimpArgs false
set_option linter.unusedVariables false
set_option maxRecDepth 4000
set_option maxHeartbeats 8000000
def kB (ex : List (Int × List UInt8)) : Bool := ex.all fun e => decide (isE e.1)
abbrev fE1 (f : Bool) (e : Int × List UInt8) : Prop := e.2.length % 8 = 6 ∧ e.2.length ≤ 2046 ∧ (e.1 = 0 → f = true)
def fB : Bool → List (Int × List UInt8) → Bool
  | _, [] => true
  | f, e :: l => decide (fE1 f e) && fB false l
def szE : List (Int × List UInt8) → Nat
  | [] => 0
  | e :: l => e.2.length + 2 + szE l
abbrev rg6 (cl fl ho at' pt : Int) : Prop := (0 ≤ cl ∧ cl ≤ 255) ∧ (0 ≤ fl ∧ fl ≤ 1048575) ∧ (0 ≤ ho ∧ ho ≤ 255) ∧ (0 ≤ pt ∧ pt ≤ 255) ∧ (0 ≤ at' ∧ at' ≤ 65528) ∧ Int.tmod at' 8 = 0
abbrev kd6 (ex : List (Int × List UInt8)) (fg : Bool) (pt : Int) : Prop := kB ex = true ∧ (fg = false → ¬ isE pt ∧ pt ≠ 44)
abbrev pc6 (mo : Bool) (da : List UInt8) : Prop := mo = true → da.length ≠ 0 ∧ da.length % 8 = 0
abbrev fm6' (ex : List (Int × List UInt8)) (fg : Bool) (id at' : Int) (mo : Bool) (da : List UInt8) : Prop :=
  fB true ex = true ∧ (if fg = true then pc6 mo da else id = 0 ∧ at' = 0 ∧ mo = false)
def bh6 (ex : List (Int × List UInt8)) (fg : Bool) (da : List UInt8) : Nat := szE ex + (if fg = true then 8 else 0) + da.length
def why6 (cl fl ho : Int) (ex : List (Int × List UInt8)) (fg : Bool) (id at' : Int) (mo : Bool) (pt : Int) (da : List UInt8) : Int :=
  if rg6 cl fl ho at' pt then
    (if kd6 ex fg pt then (if fm6' ex fg id at' mo da then (if ex.length ≤ 8 ∧ at' + da.length ≤ 65535 ∧ bh6 ex fg da ≤ 65535 then 0 else 3) else 8) else 10) else 13
structure SmE (ex : List (Int × List UInt8)) : Prop where
  n : ex.length ≤ 20
  b : ∀ e ∈ ex, e.2.length ≤ 140737488351232
theorem szE_app : ∀ (a b : List (Int × List UInt8)), szE (a ++ b) = szE a + szE b
  | [], b => by simp [szE]
  | e :: a, b => by simp only [List.cons_append, szE, szE_app a b]; omega
theorem szE_le : ∀ (ex : List (Int × List UInt8)), (∀ e ∈ ex, e.2.length ≤ 140737488351232) → szE ex ≤ 140737488351234 * ex.length
  | [], _ => by simp [szE]
  | e :: l, h => by
    have h1 := h e (by simp)
    have h2 := szE_le l fun x hx => h x (by simp [hx])
    simp only [szE, List.length_cons]
    omega
theorem drop_ex {ex : List (Int × List UInt8)} {i : Nat} {e : Int × List UInt8} (h : ex[i]? = some e) : ex.drop i = e :: ex.drop (i + 1) := by
  obtain ⟨hi, rfl⟩ := List.getElem?_eq_some_iff.1 h
  exact List.drop_eq_getElem_cons hi
end Go.Ev

namespace Go.Ev
set_option linter.unusedSimpArgs false
set_option linter.unusedVariables false
set_option maxRecDepth 4000
set_option maxHeartbeats 8000000
def nxE : List (Int × List UInt8) → Int → Int
  | [], p => p
  | e :: _, _ => e.1
def exB : List (Int × List UInt8) → Int → List UInt8 → List UInt8
  | [], _, b => b
  | e :: l, p, b => beB 1 (nxE l p).toNat ++ (beB 1 (e.2.length / 8) ++ (e.2 ++ exB l p b))
def pcB (id at' : Int) (mo : Bool) (pt : Int) (da : List UInt8) : List UInt8 := beB 1 pt.toNat ++ (0 :: (beB 2 (at'.toNat + if mo = true then 1 else 0) ++ (beB 4 id.toNat ++ da)))
def bd6 (ex : List (Int × List UInt8)) (fg : Bool) (id at' : Int) (mo : Bool) (pt : Int) (da : List UInt8) : List UInt8 := if fg = true then exB ex 44 (pcB id at' mo pt da) else exB ex pt da
def by6 (cl fl ho : Int) (fr to : List UInt8) (ex : List (Int × List UInt8)) (fg : Bool) (id at' : Int) (mo : Bool) (pt : Int) (da : List UInt8) : List UInt8 :=
  beB 4 (1610612736 + cl.toNat * 1048576 + fl.toNat) ++ (beB 2 (bd6 ex fg id at' mo pt da).length ++ (beB 1 (nxE ex (if fg = true then 44 else pt)).toNat ++ (beB 1 ho.toNat ++ (fr ++ (to ++ bd6 ex fg id at' mo pt da)))))
def by6R (cl fl ho : Int) (fr to : List UInt8) (ex : List (Int × List UInt8)) (fg : Bool) (id at' : Int) (mo : Bool) (pt : Int) (da : List UInt8) : List UInt8 :=
  if why6 cl fl ho ex fg id at' mo pt da = 0 then by6 cl fl ho fr to ex fg id at' mo pt da else []
structure Ok6 (cl fl ho : Int) (ex : List (Int × List UInt8)) (fg : Bool) (id at' : Int) (mo : Bool) (pt : Int) (da : List UInt8) : Prop where
  rg : rg6 cl fl ho at' pt
  kd : kd6 ex fg pt
  fm : fm6' ex fg id at' mo da
  n8 : ex.length ≤ 8
  all : at' + da.length ≤ 65535
  bh : bh6 ex fg da ≤ 65535
theorem why6_zero {cl fl ho : Int} {ex : List (Int × List UInt8)} {fg : Bool} {id at' : Int} {mo : Bool} {pt : Int} {da : List UInt8} : why6 cl fl ho ex fg id at' mo pt da = 0 ↔ Ok6 cl fl ho ex fg id at' mo pt da := by
  unfold why6
  constructor
  · intro h
    split at h
    case isFalse => simp at h
    rename_i h1
    split at h
    case isFalse => simp at h
    rename_i h2
    split at h
    case isFalse => simp at h
    rename_i h3
    split at h
    case isFalse => simp at h
    rename_i h4
    exact ⟨h1, h2, h3, h4.1, h4.2.1, h4.2.2⟩
  · intro h
    rw [if_pos h.rg, if_pos h.kd, if_pos h.fm, if_pos ⟨h.n8, h.all, h.bh⟩]
theorem fB_le : ∀ (l : List (Int × List UInt8)) (f : Bool), fB f l = true → ∀ e ∈ l, e.2.length % 8 = 6 ∧ e.2.length ≤ 2046
  | [], _, _, e, he => by simp at he
  | x :: l, f, h, e, he => by
    simp only [fB, Bool.and_eq_true, decide_eq_true_eq] at h
    rcases List.mem_cons.1 he with rfl | he
    · exact ⟨h.1.1, h.1.2.1⟩
    · exact fB_le l _ h.2 e he
theorem exB_len : ∀ (l : List (Int × List UInt8)) (p : Int) (b : List UInt8), (exB l p b).length = szE l + b.length
  | [], p, b => by simp [exB, szE]
  | e :: l, p, b => by simp only [exB, szE, List.length_append, beB_len, exB_len l p b]; omega
theorem exB_app (l : List (Int × List UInt8)) (p : Int) (b : List UInt8) : exB l p b = exB l p [] ++ b := by
  induction l with
  | nil => rfl
  | cons e l ih => simp only [exB]; rw [ih]; simp only [List.append_assoc]
theorem nxE_rg {l : List (Int × List UInt8)} {p : Int} (h : kB l = true) (hp : 0 ≤ p ∧ p ≤ 255) : 0 ≤ nxE l p ∧ nxE l p ≤ 255 := by
  cases l with
  | nil => exact hp
  | cons e l =>
    simp only [kB, List.all_cons, Bool.and_eq_true, decide_eq_true_eq] at h
    show 0 ≤ e.1 ∧ e.1 ≤ 255
    rcases h.1 with (h | h) | h <;> omega
theorem szE_drop (l : List (Int × List UInt8)) (i : Nat) : szE (l.drop i) ≤ szE l := by
  conv => rhs; rw [← List.take_append_drop i l, szE_app]
  omega
theorem kB_drop {l : List (Int × List UInt8)} {i : Nat} (h : kB l = true) : kB (l.drop i) = true := by
  unfold kB at *
  rw [List.all_eq_true] at *
  intro e he
  exact h e (List.mem_of_mem_drop he)
theorem or6a {c : Nat} (hc : c ≤ 255) : 1610612736 ||| c * 1048576 = 1610612736 + c * 1048576 := by
  rw [show 1610612736 = 6 <<< 28 by rfl, ← Nat.shiftLeft_add_eq_or_of_lt (by omega)]
theorem or6b {c f : Nat} (hc : c ≤ 255) (hf : f ≤ 1048575) : (1610612736 + c * 1048576) ||| f = 1610612736 + c * 1048576 + f := by
  have h : 1610612736 + c * 1048576 = (1536 + c) <<< 20 := by simp only [Nat.shiftLeft_eq]; omega
  rw [h, ← Nat.shiftLeft_add_eq_or_of_lt (by omega)]
theorem lt4 {x : Int} (h : 0 ≤ x) (h1 : x < 4294967296) : 0 ≤ x ∧ x < ((256 ^ 4 : Nat) : Int) := ⟨h, h1⟩
end Go.Ev

namespace Go.Ev
set_option linter.unusedSimpArgs false
set_option linter.unusedVariables false
set_option maxRecDepth 4000
set_option maxHeartbeats 4000000
theorem chC_no {k : Nat} {f : Bool} {n : Int} {s : List UInt8} (h : ¬ isE n) : chC k f n s = (0, [], n, s) := by
  cases k <;> rw [chC, if_neg h]
theorem chC_yes {k : Nat} {f : Bool} {n : Int} {s : List UInt8} (h1 : isE n) (h2 : ¬ (n = 0 ∧ f = false)) (h3 : ¬ s.length < sz6 s) (h4 : (chC k false ((bAt s 0 : Nat) : Int) (s.drop (sz6 s))).1 = 0) :
    chC (k + 1) f n s = (0, (n, (s.drop 2).take (sz6 s - 2)) :: (chC k false ((bAt s 0 : Nat) : Int) (s.drop (sz6 s))).2.1, (chC k false ((bAt s 0 : Nat) : Int) (s.drop (sz6 s))).2.2) := by
  rw [chC, if_pos h1, if_neg h2, if_neg h3]
  simp only [h4, if_true]
theorem chC_inv {k : Nat} {f : Bool} {n : Int} {s : List UInt8} (h : (chC k f n s).1 = 0) (h1 : isE n) :
    ∃ j, k = j + 1 ∧ ¬ (n = 0 ∧ f = false) ∧ ¬ s.length < sz6 s ∧ (chC j false ((bAt s 0 : Nat) : Int) (s.drop (sz6 s))).1 = 0 := by
  cases k with
  | zero =>
    rw [chC, if_pos h1] at h
    split at h <;> simp at h
  | succ j =>
    rw [chC, if_pos h1] at h
    split at h
    · simp at h
    rename_i h2
    split at h
    · simp at h
    rename_i h3
    simp only at h
    split at h
    · rename_i h4
      exact ⟨j, rfl, h2, h3, h4⟩
    · rename_i h4
      exact absurd h h4
theorem chC_more : ∀ (k : Nat) (f : Bool) (n : Int) (s : List UInt8), (chC k false n s).1 = 0 → chC (k + 1) f n s = chC k false n s
  | 0, f, n, s, h => by
    by_cases h1 : isE n
    · obtain ⟨j, hj, _⟩ := chC_inv h h1
      omega
    · rw [chC_no h1, chC_no h1]
  | k + 1, f, n, s, h => by
    by_cases h1 : isE n
    · obtain ⟨j, hj, h2, h3, h4⟩ := chC_inv h h1
      obtain rfl : k = j := by omega
      have ih := chC_more k false _ _ h4
      rw [chC_yes h1 h2 h3 h4, chC_yes h1 (fun q => h2 ⟨q.1, rfl⟩) h3 (by rw [ih]; exact h4), ih]
    · rw [chC_no h1, chC_no h1]
theorem chC_first {k : Nat} {n : Int} {s : List UInt8} (h : (chC k false n s).1 = 0) : ∀ e l, (chC k false n s).2.1 = e :: l → e.1 ≠ 0 := by
  intro e l hl
  by_cases h1 : isE n
  · obtain ⟨j, rfl, h2, h3, h4⟩ := chC_inv h h1
    rw [chC_yes h1 h2 h3 h4] at hl
    simp only [List.cons.injEq] at hl
    rw [← hl.1]
    exact fun q => h2 ⟨q, rfl⟩
  · rw [chC_no h1] at hl
    simp at hl
theorem chC_less : ∀ (k : Nat) (f : Bool) (n : Int) (s : List UInt8), (chC (k + 1) f n s).1 = 0 → (chC (k + 1) f n s).2.1.length ≤ k → (∀ e l, (chC (k + 1) f n s).2.1 = e :: l → e.1 ≠ 0) → chC k false n s = chC (k + 1) f n s
  | 0, f, n, s, h, hl, hf => by
    by_cases h1 : isE n
    · obtain ⟨j, hj, h2, h3, h4⟩ := chC_inv h h1
      obtain rfl : j = 0 := by omega
      rw [chC_yes h1 h2 h3 h4] at hl
      simp at hl
    · rw [chC_no h1, chC_no h1]
  | k + 1, f, n, s, h, hl, hf => by
    by_cases h1 : isE n
    · obtain ⟨j, hj, h2, h3, h4⟩ := chC_inv h h1
      obtain rfl : j = k + 1 := by omega
      rw [chC_yes h1 h2 h3 h4] at hl hf
      have hn : n ≠ 0 := hf _ _ rfl
      have ih := chC_less k false _ _ h4 (by simpa using hl) (chC_first h4)
      rw [chC_yes h1 h2 h3 h4, chC_yes h1 (fun q => hn q.1) h3 (by rw [ih]; exact h4), ih]
    · rw [chC_no h1, chC_no h1]
theorem chC_parts : ∀ (k : Nat) (f : Bool) (n : Int) (s : List UInt8), 0 ≤ n ∧ n ≤ 255 → (chC k f n s).1 = 0 →
    nxE (chC k f n s).2.1 (chC k f n s).2.2.1 = n ∧ szE (chC k f n s).2.1 + (chC k f n s).2.2.2.length = s.length ∧ kB (chC k f n s).2.1 = true ∧ fB f (chC k f n s).2.1 = true ∧
    ¬ isE (chC k f n s).2.2.1 ∧ 0 ≤ (chC k f n s).2.2.1 ∧ (chC k f n s).2.2.1 ≤ 255 := by
  intro k
  induction k with
  | zero =>
    intro f n s hn h
    by_cases h1 : isE n
    · obtain ⟨j, hj, _⟩ := chC_inv h h1
      omega
    · rw [chC_no h1]
      refine ⟨rfl, ?_, rfl, ?_, h1, hn.1, hn.2⟩
      · simp [szE]
      · cases f <;> rfl
  | succ k ih =>
    intro f n s hn h
    by_cases h1 : isE n
    · obtain ⟨j, hj, h2, h3, h4⟩ := chC_inv h h1
      obtain rfl : k = j := by omega
      have hb := bAt_le s 0
      have hb1 := bAt_le s 1
      obtain ⟨i1, i2, i3, i4, i5, i6, i7⟩ := ih false ((bAt s 0 : Nat) : Int) (s.drop (sz6 s)) ⟨by omega, by omega⟩ h4
      rw [List.length_drop] at i2
      have h5 : sz6 s ≤ s.length := by omega
      have h6 : 8 ≤ sz6 s := by unfold sz6; omega
      have hlen : ((s.drop 2).take (sz6 s - 2)).length = sz6 s - 2 := by rw [List.length_take, List.length_drop]; omega
      rw [chC_yes h1 h2 h3 h4]
      refine ⟨rfl, ?_, ?_, ?_, i5, i6, i7⟩
      · simp only [szE, hlen]; omega
      · simp only [kB, List.all_cons, decide_eq_true h1, Bool.true_and]; exact i3
      · simp only [fB, Bool.and_eq_true, decide_eq_true_eq]
        refine ⟨⟨by rw [hlen]; unfold sz6; omega, by rw [hlen]; unfold sz6; omega, fun q => ?_⟩, i4⟩
        cases f
        · exact absurd ⟨q, rfl⟩ h2
        · rfl
    · rw [chC_no h1]
      refine ⟨rfl, ?_, rfl, ?_, h1, hn.1, hn.2⟩
      · simp [szE]
      · cases f <;> rfl
theorem beB4 (x : Nat) : beB 4 x = [UInt8.ofNat (x / 16777216), UInt8.ofNat (x / 65536), UInt8.ofNat (x / 256), UInt8.ofNat x] := by simp [beB, List.range_succ]
theorem numN_beB4 {x : Nat} (h : x < 4294967296) : numN (beB 4 x) = x := by
  rw [beB4]
  simp only [numN, List.foldl_cons, List.foldl_nil, UInt8.toNat_ofNat']
  omega
theorem beB4_numN (a b c d : UInt8) : beB 4 (numN [a, b, c, d]) = [a, b, c, d] := by
  have ha := a.toNat_lt; have hb := b.toNat_lt; have hc := c.toNat_lt; have hd := d.toNat_lt
  rw [beB4]
  simp only [numN, List.foldl_cons, List.foldl_nil]
  congr 1
  · apply UInt8.toNat_inj.1; rw [UInt8.toNat_ofNat']; omega
  congr 1
  · apply UInt8.toNat_inj.1; rw [UInt8.toNat_ofNat']; omega
  congr 1
  · apply UInt8.toNat_inj.1; rw [UInt8.toNat_ofNat']; omega
  congr 1
  apply UInt8.toNat_inj.1; rw [UInt8.toNat_ofNat']; omega
theorem chain_exB : ∀ (l : List (Int × List UInt8)) (k : Nat) (f : Bool) (p : Int) (b : List UInt8), kB l = true → fB f l = true → l.length ≤ k → ¬ isE p → 0 ≤ p ∧ p ≤ 255 → chC k f (nxE l p) (exB l p b) = (0, l, p, b)
  | [], k, f, p, b, _, _, _, hp, _ => chC_no hp
  | e :: l, k, f, p, b, hk, hf, hl, hp, hr => by
    simp only [kB, List.all_cons, Bool.and_eq_true, decide_eq_true_eq] at hk
    simp only [fB, Bool.and_eq_true, decide_eq_true_eq] at hf
    obtain ⟨k, rfl⟩ : ∃ j, k = j + 1 := ⟨k - 1, by simp at hl; omega⟩
    have hk2 : kB l = true := hk.2
    have ih := chain_exB l k false p b hk2 hf.2 (by simpa using hl) hp hr
    have hn := nxE_rg hk2 hr
    obtain ⟨⟨f1, f2, f3⟩, _⟩ := hf
    have h0 : bAt (exB (e :: l) p b) 0 = (nxE l p).toNat := by
      simp only [exB, beB1, List.cons_append, List.nil_append, bAt0, UInt8.toNat_ofNat']; omega
    have h1 : bAt (exB (e :: l) p b) 1 = e.2.length / 8 := by
      simp only [exB, beB1, List.cons_append, List.nil_append, bAt0, bAts, UInt8.toNat_ofNat']; omega
    have hz : sz6 (exB (e :: l) p b) = e.2.length + 2 := by unfold sz6; rw [h1]; omega
    have hlen := exB_len (e :: l) p b
    simp only [szE] at hlen
    have hd : (exB (e :: l) p b).drop (sz6 (exB (e :: l) p b)) = exB l p b := by
      rw [hz]; simp only [exB, beB1, List.cons_append, List.nil_append, List.drop_succ_cons]
      exact List.drop_left' rfl
    have ht : ((exB (e :: l) p b).drop 2).take (sz6 (exB (e :: l) p b) - 2) = e.2 := by
      rw [hz]; simp only [exB, beB1, List.cons_append, List.nil_append, List.drop_succ_cons, List.drop_zero]
      exact List.take_left' (by omega)
    have hi : ((bAt (exB (e :: l) p b) 0 : Nat) : Int) = nxE l p := by rw [h0]; omega
    have hc : chC k false ((bAt (exB (e :: l) p b) 0 : Nat) : Int) ((exB (e :: l) p b).drop (sz6 (exB (e :: l) p b))) = (0, l, p, b) := by rw [hd, hi, ih]
    show chC (k + 1) f e.1 (exB (e :: l) p b) = _
    rw [chC_yes hk.1 (fun q => by have := f3 q.1; rw [q.2] at this; simp at this) (by omega) (by rw [hc]), hc, ht]
theorem bd6_len {ex : List (Int × List UInt8)} {fg : Bool} {id at' : Int} {mo : Bool} {pt : Int} {da : List UInt8} : (bd6 ex fg id at' mo pt da).length = bh6 ex fg da := by
  unfold bd6 bh6
  cases fg
  · rw [if_neg Bool.false_ne_true, if_neg Bool.false_ne_true, exB_len]; omega
  · rw [if_pos rfl, if_pos rfl, exB_len]
    simp only [pcB, List.length_append, List.length_cons, beB_len]
    omega
theorem by6_len {cl fl ho : Int} {fr to : List UInt8} {ex : List (Int × List UInt8)} {fg : Bool} {id at' : Int} {mo : Bool} {pt : Int} {da : List UInt8} (hfr : fr.length = 16) (hto : to.length = 16) :
    (by6 cl fl ho fr to ex fg id at' mo pt da).length = 40 + bh6 ex fg da := by
  unfold by6
  simp only [List.length_append, beB_len, bd6_len, hfr, hto]
  omega
def H6 (x n nx ho : Nat) : List UInt8 := [UInt8.ofNat (x / 16777216), UInt8.ofNat (x / 65536), UInt8.ofNat (x / 256), UInt8.ofNat x, UInt8.ofNat (n / 256), UInt8.ofNat n, UInt8.ofNat nx, UInt8.ofNat ho]
theorem by6_eq (cl fl ho : Int) (fr to : List UInt8) (ex : List (Int × List UInt8)) (fg : Bool) (id at' : Int) (mo : Bool) (pt : Int) (da : List UInt8) : by6 cl fl ho fr to ex fg id at' mo pt da =
    H6 (1610612736 + cl.toNat * 1048576 + fl.toNat) (bd6 ex fg id at' mo pt da).length (nxE ex (if fg = true then 44 else pt)).toNat ho.toNat ++ (fr ++ (to ++ bd6 ex fg id at' mo pt da)) := by
  unfold by6 H6
  simp only [beB1, beB2, beB4, List.cons_append, List.nil_append]
theorem head6 {x n nx ho : Nat} {fr to bd t : List UInt8} (hx : x < 4294967296) (hn : n ≤ 65535) (hnx : nx ≤ 255) (hho : ho ≤ 255) (hfr : fr.length = 16) (hto : to.length = 16) (hbd : bd.length = n)
    {Y : List UInt8} (hY : Y = H6 x n nx ho ++ (fr ++ (to ++ bd)) ++ t) :
    bAt Y 0 = x / 16777216 ∧ wAt Y 4 = n ∧ bAt Y 6 = nx ∧ bAt Y 7 = ho ∧ numN (Y.take 4) = x ∧ pfr6 Y = fr ∧ pto6 Y = to ∧ (Y.drop 40).take n = bd ∧ Y.length = 40 + n + t.length := by
  subst hY
  have e8 : ∀ u : List UInt8, (H6 x n nx ho ++ u).drop 8 = u := fun u => rfl
  refine ⟨?_, ?_, ?_, ?_, ?_, ?_, ?_, ?_, ?_⟩
  · simp only [H6, List.cons_append, List.nil_append, bAt0, UInt8.toNat_ofNat']; omega
  · simp only [H6, List.cons_append, List.nil_append, wAt0, wAts]; exact w16_beB (by omega)
  · simp only [H6, List.cons_append, List.nil_append, bAt0, bAts, UInt8.toNat_ofNat']; omega
  · simp only [H6, List.cons_append, List.nil_append, bAt0, bAts, UInt8.toNat_ofNat']; omega
  · rw [show (H6 x n nx ho ++ (fr ++ (to ++ bd)) ++ t).take 4 = beB 4 x by rw [beB4]; rfl]
    exact numN_beB4 hx
  · unfold pfr6
    rw [List.append_assoc, e8, List.append_assoc, List.take_left' hfr]
  · unfold pto6
    rw [List.append_assoc, show 24 = 8 + 16 by rfl, ← List.drop_drop, e8, List.append_assoc, List.drop_left' hfr, List.append_assoc, List.take_left' hto]
  · rw [List.append_assoc, show 40 = 8 + (16 + 16) by rfl, ← List.drop_drop, ← List.drop_drop, e8, List.append_assoc, List.drop_left' hfr, List.append_assoc, List.drop_left' hto, List.take_left' hbd]
  · simp only [H6, List.length_append, List.length_cons, List.length_nil]; omega
theorem piece6 {id a : Nat} {mo : Bool} {pt : Nat} {da : List UInt8} (hid : id < 4294967296) (ha : a ≤ 65528) (ha8 : a % 8 = 0) (hpt : pt ≤ 255) :
    bAt (pcB (id : Int) (a : Int) mo (pt : Int) da) 0 = pt ∧ fa6 (pcB (id : Int) (a : Int) mo (pt : Int) da) = a ∧ fm6 (pcB (id : Int) (a : Int) mo (pt : Int) da) = mo ∧ fi6 (pcB (id : Int) (a : Int) mo (pt : Int) da) = id ∧
    (pcB (id : Int) (a : Int) mo (pt : Int) da).drop 8 = da ∧ (pcB (id : Int) (a : Int) mo (pt : Int) da).length = 8 + da.length := by
  have hw : wAt (pcB (id : Int) (a : Int) mo (pt : Int) da) 2 = a + if mo = true then 1 else 0 := by
    simp only [pcB, beB1, beB2, List.cons_append, List.nil_append, wAt0, wAts, Int.toNat_natCast]
    exact w16_beB (by split <;> omega)
  refine ⟨?_, ?_, ?_, ?_, ?_, ?_⟩
  · simp only [pcB, beB1, List.cons_append, List.nil_append, bAt0, UInt8.toNat_ofNat', Int.toNat_natCast]; omega
  · unfold fa6; rw [hw]; split <;> omega
  · unfold fm6; rw [hw]
    cases mo
    · rw [if_neg Bool.false_ne_true]; exact decide_eq_false (by omega)
    · rw [if_pos rfl]; exact decide_eq_true (by omega)
  · unfold fi6
    rw [show ((pcB (id : Int) (a : Int) mo (pt : Int) da).drop 4).take 4 = beB 4 id by simp only [pcB, beB1, beB2, beB4, List.cons_append, List.nil_append, Int.toNat_natCast]; rfl]
    exact numN_beB4 hid
  · simp only [pcB, beB1, beB2, beB4, List.cons_append, List.nil_append]; rfl
  · simp only [pcB, List.length_append, List.length_cons, beB_len]; omega
theorem parse_by6 {cl fl ho : Int} {fr to : List UInt8} {ex : List (Int × List UInt8)} {fg : Bool} {id at' : Int} {mo : Bool} {pt : Int} {da : List UInt8} (ok : Ok6 cl fl ho ex fg id at' mo pt da) (hid : 0 ≤ id ∧ id ≤ 4294967295)
    (hfr : fr.length = 16) (hto : to.length = 16) (t : List UInt8) :
    pK6 (by6 cl fl ho fr to ex fg id at' mo pt da ++ t) = 0 ∧ pLV6 (by6 cl fl ho fr to ex fg id at' mo pt da ++ t) = ip6LV cl fl ho fr to (extsLV ex) fg id at' mo pt da ∧ wAt (by6 cl fl ho fr to ex fg id at' mo pt da ++ t) 4 = bh6 ex fg da := by
  obtain ⟨⟨⟨a1, a2⟩, ⟨a3, a4⟩, ⟨a5, a6⟩, ⟨a7, a8⟩, ⟨a9, a10⟩, a11⟩, ⟨b1, b2⟩, ⟨c1, c2⟩, d1, d2, d3⟩ := ok
  obtain ⟨cl, rfl⟩ := Int.eq_ofNat_of_zero_le a1
  obtain ⟨fl, rfl⟩ := Int.eq_ofNat_of_zero_le a3
  obtain ⟨ho, rfl⟩ := Int.eq_ofNat_of_zero_le a5
  obtain ⟨pt, rfl⟩ := Int.eq_ofNat_of_zero_le a7
  obtain ⟨a, rfl⟩ := Int.eq_ofNat_of_zero_le a9
  obtain ⟨id, rfl⟩ := Int.eq_ofNat_of_zero_le hid.1
  have a11 : ((a % 8 : Nat) : Int) = 0 := a11
  have hbl := bd6_len (ex := ex) (fg := fg) (id := id) (at' := a) (mo := mo) (pt := pt) (da := da)
  have hp : ¬ isE (if fg = true then 44 else (pt : Int)) ∧ 0 ≤ (if fg = true then 44 else (pt : Int)) ∧ (if fg = true then 44 else (pt : Int)) ≤ 255 := by
    cases fg
    · rw [if_neg Bool.false_ne_true]; exact ⟨(b2 rfl).1, by omega, by omega⟩
    · rw [if_pos rfl]; exact ⟨by decide, by omega, by omega⟩
  have hnx := nxE_rg b1 hp.2
  have heq := by6_eq cl fl ho fr to ex fg id a mo pt da
  have hch := fun b => chain_exB ex 8 true (if fg = true then 44 else (pt : Int)) b b1 c1 d1 hp.1 hp.2
  generalize hY : by6 (cl : Int) fl ho fr to ex fg id a mo pt da ++ t = Y
  rw [heq] at hY
  simp only [Int.toNat_natCast] at hY
  obtain ⟨e1, e2, e3, e4, e5, e6, e7, e8, e9⟩ := head6 (by omega) (by omega) (by omega) (by omega) hfr hto rfl hY.symm
  rw [hbl] at e2 e9
  have hk : k6 Y = (0, ex, (if fg = true then 44 else (pt : Int)), (if fg = true then pcB id a mo pt da else da)) := by
    unfold k6
    rw [e2, ← hbl, e8, e3, Int.toNat_of_nonneg hnx.1]
    unfold bd6
    cases fg
    · exact hch _
    · exact hch _
  have hR : kR6 (k6 Y) = 0 := by
    rw [hk]
    unfold kR6
    rw [if_neg (by simp)]
    cases fg
    · rw [if_neg Bool.false_ne_true, if_pos (by have := (b2 rfl).2; simpa using this)]
    · obtain ⟨p1, p2, p3, p4, p5, p6⟩ := piece6 (id := id) (a := a) (mo := mo) (pt := pt) (da := da) (by omega) (by omega) (by omega) (by omega)
      simp only [if_true]
      rw [if_neg (by simp)]
      unfold kF6
      rw [if_neg (by omega), p3, p2, p5, if_pos]
      rw [if_pos rfl] at c2
      exact ⟨c2, by omega⟩
  have hK : pK6 Y = 0 := by
    unfold pK6
    rw [if_neg (by omega), if_neg (by omega), if_neg (by omega), hR]
  refine ⟨hK, ?_, e2⟩
  unfold pLV6
  rw [if_pos hK, hk]
  have q1 : pcl6 Y = (cl : Int) := by unfold pcl6; rw [e5]; omega
  have q2 : pfl6 Y = (fl : Int) := by unfold pfl6; rw [e5]; omega
  unfold mk6
  rw [q1, q2, e4, e6, e7]
  cases fg
  · simp only [Bool.false_eq_true, if_false] at c2 ⊢
    have hpt := (b2 rfl).2
    obtain ⟨i1, i2, i3⟩ := c2
    rw [if_neg hpt, i1, i2, i3]
  · obtain ⟨p1, p2, p3, p4, p5, p6⟩ := piece6 (id := id) (a := a) (mo := mo) (pt := pt) (da := da) (by omega) (by omega) (by omega) (by omega)
    simp only [if_true]
    rw [p1, p2, p3, p4, p5]
theorem pK6_40' {s : List UInt8} (h : pK6 s = 0) : 40 ≤ s.length := by
  unfold pK6 at h
  split at h
  · simp at h
  · omega
theorem getD_take6 {s : List UInt8} {i m : Nat} (h : i < m) : (s.take m).getD i 0 = s.getD i 0 := by
  rw [List.getD_eq_getElem?_getD, List.getD_eq_getElem?_getD, List.getElem?_take_of_lt h]
theorem cut_none6 {Y : List UInt8} {m : Nat} (hw : 40 + wAt Y 4 = Y.length) (hm : m < Y.length) : ¬ pK6 (Y.take m) = 0 := by
  intro h
  have h40 := pK6_40' h
  rw [List.length_take] at h40
  have hw2 : wAt (Y.take m) 4 = wAt Y 4 := by unfold wAt; rw [getD_take6 (by omega), getD_take6 (by omega)]
  unfold pK6 at h
  rw [if_neg (by rw [List.length_take]; omega)] at h
  split at h
  · simp at h
  split at h
  · simp at h
  · rename_i h3
    rw [hw2, List.length_take] at h3
    omega
theorem why6_hop {cl fl ho : Int} {ex : List (Int × List UInt8)} {fg : Bool} {id at' : Int} {mo : Bool} {pt : Int} {da : List UInt8} (h : why6 cl fl ho ex fg id at' mo pt da = 0) {t : Int} (ht : 0 ≤ t ∧ t ≤ 255) : why6 cl fl t ex fg id at' mo pt da = 0 := by
  obtain ⟨⟨o1, o2, o3, o4, o5, o6⟩, r2, r3, r4, r5, r6⟩ := why6_zero.1 h
  exact why6_zero.2 ⟨⟨o1, o2, ht, o4, o5, o6⟩, r2, r3, r4, r5, r6⟩
structure Par6 (s : List UInt8) : Prop where
  h40 : 40 ≤ s.length
  hv : bAt s 0 / 16 = 6
  hl : 40 + wAt s 4 ≤ s.length
  hk : (k6 s).1 = 0
  hf : (k6 s).2.2.1 = 44 → 8 ≤ (k6 s).2.2.2.length ∧ okF6 (fm6 (k6 s).2.2.2) (fa6 (k6 s).2.2.2) ((k6 s).2.2.2.drop 8)
theorem pK6_zero {s : List UInt8} (h : pK6 s = 0) : Par6 s := by
  unfold pK6 kR6 kF6 at h
  split at h
  · simp at h
  rename_i h1
  split at h
  · simp at h
  rename_i h2
  split at h
  · simp at h
  rename_i h3
  split at h
  · rename_i h4; exact absurd h h4
  rename_i h4
  refine ⟨by omega, by omega, by omega, Classical.byContradiction fun q => h4 q, ?_⟩
  intro h5
  rw [if_neg (fun q => q h5)] at h
  split at h
  · simp at h
  rename_i h6
  split at h
  · rename_i h7; exact ⟨by omega, h7⟩
  · simp at h
end Go.Ev

namespace Go.Ev
set_option linter.unusedSimpArgs false
set_option linter.unusedVariables false
set_option maxRecDepth 10000
set_option maxHeartbeats 8000000
def im6S (ps : List UInt8) (k c r : Int) (d : List UInt8) : Int := sumS (ps ++ (beB 1 k.toNat ++ (beB 1 c.toNat ++ (0 :: 0 :: (beB 4 r.toNat ++ d)))))
def im6B (ps : List UInt8) (k c r : Int) (d : List UInt8) : List UInt8 := beB 1 k.toNat ++ (beB 1 c.toNat ++ (beB 2 (im6S ps k c r d).toNat ++ (beB 4 r.toNat ++ d)))
theorem im4_im6 (k c r : Int) (d : List UInt8) : im4B k c r d = im6B [] k c r d := rfl
theorem im6_len {ps : List UInt8} {k c r : Int} {d : List UInt8} : (im6B ps k c r d).length = 8 + d.length := by unfold im6B; simp only [List.length_append, beB_len]; omega
theorem beB_1 (x : Nat) : beB 1 x = [UInt8.ofNat x] := by simp [beB, List.range_succ]
theorem im6_right {ps : List UInt8} {k c r : Int} {d : List UInt8} (hp : ps.length % 2 = 0) : sumS (ps ++ im6B ps k c r d) = 0 := by
  rw [sumS_zero]
  have hn := sumS_le (ps ++ (beB 1 k.toNat ++ (beB 1 c.toNat ++ (0 :: 0 :: (beB 4 r.toNat ++ d)))))
  have hb : ∀ x : Nat, x < 65536 → (UInt8.ofNat (x / 256)).toNat * 256 + (UInt8.ofNat x).toNat = x := fun x hx => by
    have := w16_beB hx; unfold w16 at this; omega
  have key : sumAt 0 (ps ++ im6B ps k c r d) = sumAt 0 (ps ++ (beB 1 k.toNat ++ (beB 1 c.toNat ++ (0 :: 0 :: (beB 4 r.toNat ++ d))))) + (im6S ps k c r d).toNat := by
    unfold im6B
    have hb := hb (im6S ps k c r d).toNat (by unfold im6S; omega)
    simp only [beB_1, beB2, sumAt_append, List.cons_append, List.nil_append, sumAt]
    simp only [show (0 + ps.length + 1 + 1) % 2 = 0 by omega, show ¬ (0 + ps.length + 1 + 1 + 1) % 2 = 0 by omega, if_true, if_false]
    simp only [UInt8.toNat_zero]
    omega
  rw [key]
  unfold im6S sumS
  generalize sumAt 0 (ps ++ (beB 1 k.toNat ++ (beB 1 c.toNat ++ (0 :: 0 :: (beB 4 r.toNat ++ d))))) = t
  have h1 := ones_le t
  have h2 := (@right_of0 t).resolve_right (fun h => h.2)
  rw [show ((65535 - (ones t : Int))).toNat = 65535 - ones t by omega]
  exact h2
theorem im6_parts {ps : List UInt8} {k c r : Int} {d : List UInt8} (hk : 0 ≤ k ∧ k ≤ 255) (hc : 0 ≤ c ∧ c ≤ 255) (hr : 0 ≤ r ∧ r < 4294967296) :
    ((bAt (im6B ps k c r d) 0 : Nat) : Int) = k ∧ ((bAt (im6B ps k c r d) 1 : Nat) : Int) = c ∧ ((numN (((im6B ps k c r d).drop 4).take 4) : Nat) : Int) = r ∧ (im6B ps k c r d).drop 8 = d := by
  unfold im6B
  have h4 : (beB 4 r.toNat).length = 4 := beB_len _ _
  refine ⟨?_, ?_, ?_, ?_⟩
  · simp only [beB_1, List.cons_append, bAt, List.getD_cons_zero, UInt8.toNat_ofNat']; omega
  · simp only [beB_1, List.cons_append, List.nil_append, bAt, List.getD_cons_succ, List.getD_cons_zero, UInt8.toNat_ofNat']; omega
  · simp only [beB_1, beB2, List.cons_append, List.nil_append, List.drop_succ_cons, List.drop_zero]
    rw [List.take_append_of_le_length (by omega), List.take_of_length_le (by omega), numN_beB4 (by omega)]
    omega
  · simp only [beB_1, beB2, List.cons_append, List.nil_append, List.drop_succ_cons, List.drop_zero]
    rw [List.drop_append_of_le_length (by omega), List.drop_of_length_le (by omega)]
    rfl
section
variable {S : Sys} (hS : Has S) (n : Nat)
include hS
theorem ev_icmp4P {s : List UInt8} (hl : 8 ≤ s.length) (hs : s.length ≤ 1000000) (h0 : sumS s = 0) :
    S.ev (n + 4) id_icmp4_Parse [.str s] none = some (.tup [msgLV (bAt s 0 : Nat) (bAt s 1 : Nat) (numN ((s.drop 4).take 4) : Nat) (s.drop 8), .nili], none) := by
  rw [Sys.step hS.h_icmp4_Parse, F_icmp4_Parse_eq]
  unfold F_icmp4_Parse
  have hR := ev_Right1 hS n s (by omega)
  rw [decide_eq_true h0] at hR
  have hN := ev_New hS (n + 2) (s.drop 4)
  have hU := ev_U32 hS n (s.drop 4) 0 (by rw [List.length_drop]; omega) (by rw [List.length_drop]; omega)
  simp only [Nat.zero_add, List.drop_zero] at hU
  have g0 := get_def (s := s) (i := 0) (by omega)
  have g1 := get_def (s := s) (i := 1) (by omega)
  have l0 := (s.getD 0 0).toNat_lt
  have l1 := (s.getD 1 0).toNat_lt
  have e0 : IntKind.i64.wrap ((s.getD 0 0).toNat : Int) = ((bAt s 0 : Nat) : Int) := wrap_id (by omega) (by omega)
  have e1 : IntKind.i64.wrap ((s.getD 1 0).toNat : Int) = ((bAt s 1 : Nat) : Int) := wrap_id (by omega) (by omega)
  have hx : numN ((s.drop 4).take 4) < 4294967296 := num4_lt (s.drop 4)
  have e2 : IntKind.u32.wrap ((numN ((s.drop 4).take 4) : Nat) : Int) = ((numN ((s.drop 4).take 4) : Nat) : Int) := wrap_u32 hx
  have c1 : ¬ (s.length : Int) < 8 := by omega
  have n4' : 4 ≤ s.length := by omega
  have n0' : 0 < s.length := by omega
  have n1' : 1 < s.length := by omega
  (try simp only [guard_merge, or_merge, and_merge, or_pick, and_pick, guard_or, guard_and]); simp only [to_ob]
  simp only [go_sem, ↓reduceIte, reduceCtorEq, upd_ne, back_new (no_at), Nat.reduceAdd, Nat.reduceEqDiff, Nat.reduceMul, Nat.reduceSub, Nat.reduceLeDiff, Nat.reduceLT, Int.reduceToNat, Int.reduceLE, Int.reduceLT, Int.reduceEq, UInt8.reduceOfNat, List.getElem?_map, Int.toNat_natCast, c1, hR, hN, hU, g0, g1, e0, e1, e2, byteLV, n4', n0', n1', hl]
theorem ev_icmp6P {s ps : List UInt8} (hl : 8 ≤ s.length) (hs : s.length ≤ 1000000) (hp : ps.length ≤ 1000) (h0 : sumS (ps ++ s) = 0) :
    S.ev (n + 4) id_icmp6_Parse [.str s, .str ps] none = some (.tup [msgLV (bAt s 0 : Nat) (bAt s 1 : Nat) (numN ((s.drop 4).take 4) : Nat) (s.drop 8), .nili], none) := by
  rw [Sys.step hS.h_icmp6_Parse, F_icmp6_Parse_eq]
  unfold F_icmp6_Parse
  have hR := ev_Right2 hS n ps s (by omega)
  rw [decide_eq_true h0] at hR
  have hN := ev_New hS (n + 2) (s.drop 4)
  have hU := ev_U32 hS n (s.drop 4) 0 (by rw [List.length_drop]; omega) (by rw [List.length_drop]; omega)
  simp only [Nat.zero_add, List.drop_zero] at hU
  have g0 := get_def (s := s) (i := 0) (by omega)
  have g1 := get_def (s := s) (i := 1) (by omega)
  have l0 := (s.getD 0 0).toNat_lt
  have l1 := (s.getD 1 0).toNat_lt
  have e0 : IntKind.i64.wrap ((s.getD 0 0).toNat : Int) = ((bAt s 0 : Nat) : Int) := wrap_id (by omega) (by omega)
  have e1 : IntKind.i64.wrap ((s.getD 1 0).toNat : Int) = ((bAt s 1 : Nat) : Int) := wrap_id (by omega) (by omega)
  have hx : numN ((s.drop 4).take 4) < 4294967296 := num4_lt (s.drop 4)
  have e2 : IntKind.u32.wrap ((numN ((s.drop 4).take 4) : Nat) : Int) = ((numN ((s.drop 4).take 4) : Nat) : Int) := wrap_u32 hx
  have c1 : ¬ (s.length : Int) < 8 := by omega
  have n4' : 4 ≤ s.length := by omega
  have n0' : 0 < s.length := by omega
  have n1' : 1 < s.length := by omega
  (try simp only [guard_merge, or_merge, and_merge, or_pick, and_pick, guard_or, guard_and]); simp only [to_ob]
  simp only [go_sem, ↓reduceIte, reduceCtorEq, upd_ne, back_new (no_at), Nat.reduceAdd, Nat.reduceEqDiff, Nat.reduceMul, Nat.reduceSub, Nat.reduceLeDiff, Nat.reduceLT, Int.reduceToNat, Int.reduceLE, Int.reduceLT, Int.reduceEq, UInt8.reduceOfNat, List.getElem?_map, Int.toNat_natCast, c1, hR, hN, hU, g0, g1, e0, e1, e2, byteLV, n4', n0', n1', hl]
end
end Go.Ev

namespace Go.Ev
set_option linter.unusedSimpArgs false
set_option linter.unusedVariables false
set_option maxRecDepth 4000
set_option maxHeartbeats 2000000
theorem len8 {s : List UInt8} (h : 8 ≤ s.length) : ∃ a b c d e f g i t, s = a :: b :: c :: d :: e :: f :: g :: i :: t := by
  match s, h with
  | a :: b :: c :: d :: e :: f :: g :: i :: t, _ => exact ⟨a, b, c, d, e, f, g, i, t, rfl⟩
abbrev dgLV (fr to su : Int) (da : List UInt8) : LV := .agg [.int .i64 fr, .int .i64 to, .int .i64 su, .str da]
section
variable {S : Sys} (hS : Has S) (n : Nat)
include hS
theorem ev_fault5 (c : Int) : S.ev (n + 1) id_udp_fault [.int .i64 c] none = some (faultLV c, none) := by
  rw [Sys.step hS.h_udp_fault, F_udp_fault_eq]
  unfold F_udp_fault
  simp only [to_ob]
  simp only [go_sem, ↓reduceIte, reduceCtorEq, upd_ne, back_new (no_at), Nat.reduceAdd, Nat.reduceEqDiff, Nat.reduceMul, Nat.reduceSub, Nat.reduceLeDiff, Nat.reduceLT, Int.reduceToNat, Int.reduceLE, Int.reduceLT, Int.reduceEq, UInt8.reduceOfNat]
theorem ev_two5 (s : List UInt8) (i : Nat) (a b : UInt8) (ha : s[i]? = some a) (hb : s[i + 1]? = some b) (hi : i ≤ 1000000) : S.ev (n + 1) id_udp_two [.str s, .int .i64 (i : Int)] none = some (.int .i64 (w16 a b : Nat), none) := by
  rw [Sys.step hS.h_udp_two, F_udp_two_eq]
  unfold F_udp_two
  have hal := a.toNat_lt
  have hbl := b.toNat_lt
  have e1 : IntKind.i64.wrap (a.toNat : Int) = (a.toNat : Int) := wrap_id (by omega) (by omega)
  have e2 : IntKind.i64.wrap (b.toNat : Int) = (b.toNat : Int) := wrap_id (by omega) (by omega)
  have e3 : IntKind.i64.wrap ((i : Int) + 1) = ((i + 1 : Nat) : Int) := by rw [wrap_id (by omega) (by omega)]; omega
  have e4 : IntKind.i64.wrap ((a.toNat : Int) * 2 ^ min 8 64) = ((a.toNat * 256 : Nat) : Int) := by
    rw [show min 8 64 = 8 from rfl, wrap_id (by omega) (by omega)]; omega
  have e5 := w16_or a b
  simp only [to_ob]
  simp only [go_sem, ↓reduceIte, reduceCtorEq, upd_ne, back_new (no_at), Nat.reduceAdd, Nat.reduceEqDiff, Nat.reduceMul, Nat.reduceSub, Nat.reduceLeDiff, Nat.reduceLT, Int.reduceToNat, Int.reduceLE, Int.reduceLT, Int.reduceEq, UInt8.reduceOfNat, List.getElem?_map, Int.toNat_natCast, ha, hb, e1, e2, e3, e4, e5]
def udpP (s : List UInt8) : Int × Nat × Nat × Nat × List UInt8 := match s with
  | a :: b :: c :: d :: e :: f :: g :: i :: t => if w16 e f ≠ t.length + 8 then (8, 0, 0, 0, []) else (0, w16 a b, w16 c d, w16 g i, t)
  | _ => (7, 0, 0, 0, [])
theorem ev_parse5 (s : List UInt8) (hs : s.length ≤ 140737488351232) : S.ev (n + 2) id_udp_Parse [.str s] none = some (.tup [dgLV (udpP s).2.1 (udpP s).2.2.1 (udpP s).2.2.2.1 (udpP s).2.2.2.2, fE (udpP s).1], none) := by
  rw [Sys.step hS.h_udp_Parse, F_udp_Parse_eq]
  unfold F_udp_Parse
  have hfa := ev_fault5 hS n
  (try simp only [guard_merge, or_merge, and_merge, or_pick, and_pick, guard_or, guard_and]); simp only [to_ob]
  by_cases h : 8 ≤ s.length
  · obtain ⟨a, b, c, d, e, f, g, i, t, rfl⟩ := len8 h
    generalize hq : (a :: b :: c :: d :: e :: f :: g :: i :: t) = s at *
    have h0 : S.ev (n + 1) id_udp_two [.str s, .int .i64 0] none = some (.int .i64 (w16 a b : Nat), none) := ev_two5 hS n s 0 a b (by rw [← hq]; rfl) (by rw [← hq]; rfl) (by omega)
    have h2 : S.ev (n + 1) id_udp_two [.str s, .int .i64 2] none = some (.int .i64 (w16 c d : Nat), none) := ev_two5 hS n s 2 c d (by rw [← hq]; rfl) (by rw [← hq]; rfl) (by omega)
    have h4 : S.ev (n + 1) id_udp_two [.str s, .int .i64 4] none = some (.int .i64 (w16 e f : Nat), none) := ev_two5 hS n s 4 e f (by rw [← hq]; rfl) (by rw [← hq]; rfl) (by omega)
    have h6 : S.ev (n + 1) id_udp_two [.str s, .int .i64 6] none = some (.int .i64 (w16 g i : Nat), none) := ev_two5 hS n s 6 g i (by rw [← hq]; rfl) (by rw [← hq]; rfl) (by omega)
    have hd : s.drop 8 = t := by rw [← hq]; rfl
    have hl : s.length = t.length + 8 := by rw [← hq]; simp
    have ht8 : t.take (s.length - 8) = t := by rw [hl]; simp
    have c0 : ¬ (s.length : Int) < 8 := by omega
    have hp : udpP s = if w16 e f ≠ t.length + 8 then (8, 0, 0, 0, []) else (0, w16 a b, w16 c d, w16 g i, t) := by rw [← hq]; rfl
    rw [hp]
    by_cases c1 : w16 e f = t.length + 8
    · have c2 : ((w16 e f : Nat) : Int) = (s.length : Int) := by omega
      rw [if_neg (by omega)]
      simp only [go_sem, ↓reduceIte, reduceCtorEq, upd_ne, back_new (no_at), Nat.reduceAdd, Nat.reduceEqDiff, Nat.reduceMul, Nat.reduceSub, Nat.reduceLeDiff, Nat.reduceLT, Int.reduceToNat, Int.reduceLE, Int.reduceLT, Int.reduceEq, UInt8.reduceOfNat, c0, c2, h0, h2, h4, h6, hd, h, ht8, fE]
    · have c2 : ¬ ((w16 e f : Nat) : Int) = (s.length : Int) := by omega
      rw [if_pos c1]
      simp only [go_sem, ↓reduceIte, reduceCtorEq, upd_ne, back_new (no_at), Nat.reduceAdd, Nat.reduceEqDiff, Nat.reduceMul, Nat.reduceSub, Nat.reduceLeDiff, Nat.reduceLT, Int.reduceToNat, Int.reduceLE, Int.reduceLT, Int.reduceEq, UInt8.reduceOfNat, c0, c2, h4, hfa, fE]
      try rfl
  · have c0 : (s.length : Int) < 8 := by omega
    have hp : udpP s = (7, 0, 0, 0, []) := by
      unfold udpP
      split
      · exfalso; simp at h
      · rfl
    rw [hp]
    simp only [go_sem, ↓reduceIte, reduceCtorEq, upd_ne, back_new (no_at), Nat.reduceAdd, Nat.reduceEqDiff, Nat.reduceMul, Nat.reduceSub, Nat.reduceLeDiff, Nat.reduceLT, Int.reduceToNat, Int.reduceLE, Int.reduceLT, Int.reduceEq, UInt8.reduceOfNat, c0, hfa, fE]
    try rfl
end
def udpC (s ps : List UInt8) : Int := if (udpP s).1 ≠ 0 then (udpP s).1 else if (udpP s).2.2.2.1 = 0 then 4 else if sumS (ps ++ s) ≠ 0 then 9 else 0
def udpH (fr to : Int) (da : List UInt8) : List UInt8 := beB 2 fr.toNat ++ (beB 2 to.toNat ++ beB 2 (8 + da.length))
def udpX (fr to : Int) (da ps : List UInt8) : Int := sumS (ps ++ (udpH fr to da ++ ([0, 0] ++ da)))
def udpN (fr to : Int) (da ps : List UInt8) : Int := if udpX fr to da ps = 0 then 65535 else udpX fr to da ps
def udpW (fr to : Int) (da ps : List UInt8) : List UInt8 := udpH fr to da ++ (beB 2 (udpN fr to da ps).toNat ++ da)
def udpK (fr to : Int) (da : List UInt8) : Int := if (0 ≤ fr ∧ fr < 65536) ∧ 0 ≤ to ∧ to < 65536 then (if da.length ≤ 65527 then 0 else 3) else 13
def udpB (fr to : Int) (da ps : List UInt8) : List UInt8 := if udpK fr to da = 0 then udpW fr to da ps else []
theorem udpP_codes (s : List UInt8) : (udpP s).1 = 0 ∨ (udpP s).1 = 7 ∨ (udpP s).1 = 8 := by
  unfold udpP
  split
  · split
    · exact .inr (.inr rfl)
    · exact .inl rfl
  · exact .inr (.inl rfl)
theorem udpN_le (fr to : Int) (da ps : List UInt8) : 0 < udpN fr to da ps ∧ udpN fr to da ps ≤ 65535 := by
  have := sumS_le (ps ++ (udpH fr to da ++ ([0, 0] ++ da)))
  unfold udpN udpX
  split <;> omega
section
variable {S : Sys} (hS : Has S) (n : Nat)
include hS
theorem ev_check5 (s ps : List UInt8) (hs : s.length ≤ 1000000) (hp : ps.length ≤ 1000000) : S.ev (n + 4) id_udp_Check [.str s, .str ps] none = some (fE (udpC s ps), none) := by
  rw [Sys.step hS.h_udp_Check, F_udp_Check_eq]
  unfold F_udp_Check
  have h1 := ev_parse5 hS (n + 1) s (by omega)
  have h2 := ev_Right2 hS n ps s (by omega)
  have hfa := ev_fault5 hS (n + 2)
  (try simp only [guard_merge, or_merge, and_merge, or_pick, and_pick, guard_or, guard_and]); simp only [to_ob]
  unfold udpC
  by_cases c : (udpP s).1 = 0
  · rw [c] at h1
    simp only [fE, if_true] at h1
    by_cases c2 : (udpP s).2.2.2.1 = 0
    · have c2' : (((udpP s).2.2.2.1 : Nat) : Int) = 0 := by omega
      simp only [go_sem, ↓reduceIte, reduceCtorEq, upd_ne, back_new (no_at), Nat.reduceAdd, Nat.reduceEqDiff, Nat.reduceMul, Nat.reduceSub, Nat.reduceLeDiff, Nat.reduceLT, Int.reduceToNat, Int.reduceLE, Int.reduceLT, Int.reduceEq, UInt8.reduceOfNat, h1, hfa, c, c2, c2', fE]
    · have c2' : ¬ (((udpP s).2.2.2.1 : Nat) : Int) = 0 := by omega
      by_cases c3 : sumS (ps ++ s) = 0
      · simp only [go_sem, ↓reduceIte, reduceCtorEq, upd_ne, back_new (no_at), Nat.reduceAdd, Nat.reduceEqDiff, Nat.reduceMul, Nat.reduceSub, Nat.reduceLeDiff, Nat.reduceLT, Int.reduceToNat, Int.reduceLE, Int.reduceLT, Int.reduceEq, UInt8.reduceOfNat, h1, h2, hfa, c, c2, c2', c3, fE]
      · simp only [go_sem, ↓reduceIte, reduceCtorEq, upd_ne, back_new (no_at), Nat.reduceAdd, Nat.reduceEqDiff, Nat.reduceMul, Nat.reduceSub, Nat.reduceLeDiff, Nat.reduceLT, Int.reduceToNat, Int.reduceLE, Int.reduceLT, Int.reduceEq, UInt8.reduceOfNat, h1, h2, hfa, c, c2, c2', c3, fE]
  · simp only [fE, c, if_false] at h1
    simp only [go_sem, ↓reduceIte, reduceCtorEq, upd_ne, back_new (no_at), Nat.reduceAdd, Nat.reduceEqDiff, Nat.reduceMul, Nat.reduceSub, Nat.reduceLeDiff, Nat.reduceLT, Int.reduceToNat, Int.reduceLE, Int.reduceLT, Int.reduceEq, UInt8.reduceOfNat, h1, c, fE]
end
end Go.Ev

namespace Go.Ev
set_option linter.unusedSimpArgs false
set_option linter.unusedVariables false
set_option maxRecDepth 4000
set_option maxHeartbeats 2000000
def tcpH (s : List UInt8) : Nat := (s.getD 12 0).toNat / 16 * 4
def tcpK (s : List UInt8) : Int := if s.length < 20 then 7 else if tcpH s < 20 then 8 else if s.length < tcpH s then 7 else 0
def tcpLV (s : List UInt8) : LV := if tcpK s = 0 then dgLV (w16 (s.getD 0 0) (s.getD 1 0) : Nat) (w16 (s.getD 2 0) (s.getD 3 0) : Nat) (((s.getD 13 0).toNat % 64 : Nat) : Int) s else dgLV 0 0 0 []
theorem tcpLV_0 {s : List UInt8} (h : tcpK s = 0) : tcpLV s = dgLV (w16 (s.getD 0 0) (s.getD 1 0) : Nat) (w16 (s.getD 2 0) (s.getD 3 0) : Nat) (((s.getD 13 0).toNat % 64 : Nat) : Int) s := by unfold tcpLV; rw [if_pos h]
theorem tcpK_len {s : List UInt8} (h : tcpK s = 0) : 20 ≤ s.length := by
  unfold tcpK at h
  by_cases c : s.length < 20
  · simp [c] at h
  · omega
section
variable {S : Sys} (hS : Has S) (n : Nat)
include hS
theorem ev_tfault (c : Int) : S.ev (n + 1) id_tcp_fault [.int .i64 c] none = some (faultLV c, none) := by
  rw [Sys.step hS.h_tcp_fault, F_tcp_fault_eq]
  unfold F_tcp_fault
  simp only [to_ob]
  simp only [go_sem, ↓reduceIte, reduceCtorEq, upd_ne, back_new (no_at), Nat.reduceAdd, Nat.reduceEqDiff, Nat.reduceMul, Nat.reduceSub, Nat.reduceLeDiff, Nat.reduceLT, Int.reduceToNat, Int.reduceLE, Int.reduceLT, Int.reduceEq, UInt8.reduceOfNat]
theorem ev_ttwo (s : List UInt8) (i : Nat) (a b : UInt8) (ha : s[i]? = some a) (hb : s[i + 1]? = some b) (hi : i ≤ 1000000) : S.ev (n + 1) id_tcp_two [.str s, .int .i64 (i : Int)] none = some (.int .i64 (w16 a b : Nat), none) := by
  rw [Sys.step hS.h_tcp_two, F_tcp_two_eq]
  unfold F_tcp_two
  have hal := a.toNat_lt
  have hbl := b.toNat_lt
  have e1 : IntKind.i64.wrap (a.toNat : Int) = (a.toNat : Int) := wrap_id (by omega) (by omega)
  have e2 : IntKind.i64.wrap (b.toNat : Int) = (b.toNat : Int) := wrap_id (by omega) (by omega)
  have e3 : IntKind.i64.wrap ((i : Int) + 1) = ((i + 1 : Nat) : Int) := by rw [wrap_id (by omega) (by omega)]; omega
  have e4 : IntKind.i64.wrap ((a.toNat : Int) * 2 ^ min 8 64) = ((a.toNat * 256 : Nat) : Int) := by
    rw [show min 8 64 = 8 from rfl, wrap_id (by omega) (by omega)]; omega
  have e5 := w16_or a b
  simp only [to_ob]
  simp only [go_sem, ↓reduceIte, reduceCtorEq, upd_ne, back_new (no_at), Nat.reduceAdd, Nat.reduceEqDiff, Nat.reduceMul, Nat.reduceSub, Nat.reduceLeDiff, Nat.reduceLT, Int.reduceToNat, Int.reduceLE, Int.reduceLT, Int.reduceEq, UInt8.reduceOfNat, List.getElem?_map, Int.toNat_natCast, ha, hb, e1, e2, e3, e4, e5]
theorem ev_tparse (s : List UInt8) (hs : s.length ≤ 140737488351232) : S.ev (n + 2) id_tcp_Parse [.str s] none = some (.tup [tcpLV s, fE (tcpK s)], none) := by
  rw [Sys.step hS.h_tcp_Parse, F_tcp_Parse_eq]
  unfold F_tcp_Parse
  have hfa := ev_tfault hS n
  (try simp only [guard_merge, or_merge, and_merge, or_pick, and_pick, guard_or, guard_and]); simp only [to_ob]
  unfold tcpLV tcpK
  by_cases c : s.length < 20
  · have c' : (s.length : Int) < 20 := by omega
    simp only [go_sem, ↓reduceIte, reduceCtorEq, upd_ne, back_new (no_at), Nat.reduceAdd, Nat.reduceEqDiff, Nat.reduceMul, Nat.reduceSub, Nat.reduceLeDiff, Nat.reduceLT, Int.reduceToNat, Int.reduceLE, Int.reduceLT, Int.reduceEq, UInt8.reduceOfNat, c, c', hfa, fE]
  · have c' : ¬ (s.length : Int) < 20 := by omega
    have g12 := get_def (s := s) (i := 12) (by omega)
    have g13 := get_def (s := s) (i := 13) (by omega)
    have h0 : S.ev (n + 1) id_tcp_two [.str s, .int .i64 0] none = some (.int .i64 (w16 (s.getD 0 0) (s.getD 1 0) : Nat), none) := ev_ttwo hS n s 0 _ _ (get_def (by omega)) (get_def (by omega)) (by omega)
    have h2 : S.ev (n + 1) id_tcp_two [.str s, .int .i64 2] none = some (.int .i64 (w16 (s.getD 2 0) (s.getD 3 0) : Nat), none) := ev_ttwo hS n s 2 _ _ (get_def (by omega)) (get_def (by omega)) (by omega)
    have hl := (s.getD 12 0).toNat_lt
    have hl3 := (s.getD 13 0).toNat_lt
    have e1 : Int.fdiv ((s.getD 12 0).toNat : Int) (2 ^ min 4 8) = (((s.getD 12 0).toNat / 16 : Nat) : Int) := by
      rw [show min 4 8 = 4 from rfl, Int.fdiv_eq_ediv_of_nonneg _ (by decide)]; rfl
    have e2 : IntKind.i64.wrap (((s.getD 12 0).toNat / 16 : Nat) : Int) = (((s.getD 12 0).toNat / 16 : Nat) : Int) := wrap_id (by omega) (by omega)
    have e3 : IntKind.i64.wrap ((((s.getD 12 0).toNat / 16 : Nat) : Int) * 4) = ((tcpH s : Nat) : Int) := by
      rw [wrap_id (by omega) (by omega)]; unfold tcpH; omega
    have e4 : bitsOf .and .u8 ((s.getD 13 0).toNat : Int) 63 = (((s.getD 13 0).toNat % 64 : Nat) : Int) := by
      rw [show (63 : Int) = ((2 ^ 6 - 1 : Nat) : Int) from rfl, bits_mask 6 (by omega) (show ((s.getD 13 0).toNat : Int) ≤ 255 by omega) (by decide)]
      rfl
    have e5 : IntKind.i64.wrap (((s.getD 13 0).toNat % 64 : Nat) : Int) = (((s.getD 13 0).toNat % 64 : Nat) : Int) := wrap_id (by omega) (by omega)
    by_cases c1 : tcpH s < 20
    · have c1' : ((tcpH s : Nat) : Int) < 20 := by omega
      simp only [go_sem, ↓reduceIte, reduceCtorEq, upd_ne, back_new (no_at), Nat.reduceAdd, Nat.reduceEqDiff, Nat.reduceMul, Nat.reduceSub, Nat.reduceLeDiff, Nat.reduceLT, Int.reduceToNat, Int.reduceLE, Int.reduceLT, Int.reduceEq, UInt8.reduceOfNat, List.getElem?_map, Int.toNat_natCast, c, c', c1, c1', hfa, fE, g12, byteLV, e1, e2, e3]
    · have c1' : ¬ ((tcpH s : Nat) : Int) < 20 := by omega
      by_cases c2 : s.length < tcpH s
      · have c2' : (s.length : Int) < ((tcpH s : Nat) : Int) := by omega
        simp only [go_sem, ↓reduceIte, reduceCtorEq, upd_ne, back_new (no_at), Nat.reduceAdd, Nat.reduceEqDiff, Nat.reduceMul, Nat.reduceSub, Nat.reduceLeDiff, Nat.reduceLT, Int.reduceToNat, Int.reduceLE, Int.reduceLT, Int.reduceEq, UInt8.reduceOfNat, List.getElem?_map, Int.toNat_natCast, c, c', c1, c1', c2, c2', hfa, fE, g12, byteLV, e1, e2, e3]
      · have c2' : ¬ (s.length : Int) < ((tcpH s : Nat) : Int) := by omega
        simp only [go_sem, ↓reduceIte, reduceCtorEq, upd_ne, back_new (no_at), Nat.reduceAdd, Nat.reduceEqDiff, Nat.reduceMul, Nat.reduceSub, Nat.reduceLeDiff, Nat.reduceLT, Int.reduceToNat, Int.reduceLE, Int.reduceLT, Int.reduceEq, UInt8.reduceOfNat, List.getElem?_map, Int.toNat_natCast, c, c', c1, c1', c2, c2', h0, h2, g13, fE, g12, byteLV, e1, e2, e3, e4, e5]
def tcpC (s ps : List UInt8) : Int := if tcpK s ≠ 0 then tcpK s else if sumS (ps ++ s) ≠ 0 then 9 else 0
omit hS in
theorem tcpC_zero {s ps : List UInt8} : tcpC s ps = 0 ↔ tcpK s = 0 ∧ sumS (ps ++ s) = 0 := by
  unfold tcpC
  by_cases h1 : tcpK s = 0 <;> by_cases h3 : sumS (ps ++ s) = 0 <;> simp [h1, h3]
omit hS in
theorem tcpLV_ag (s : List UInt8) : (tcpLV s).isAgg = true := by unfold tcpLV; split <;> exact Eq.trans rfl rfl
omit hS in
theorem tcpLV_fl (s : List UInt8) : flatLen (tcpLV s) = 4 := by unfold tcpLV dgLV; split <;> simp only [go_sem, ↓reduceIte, reduceCtorEq, upd_ne, back_new (no_at), Nat.reduceAdd, Nat.reduceEqDiff, Nat.reduceMul, Nat.reduceSub, Nat.reduceLeDiff, Nat.reduceLT, Int.reduceToNat, Int.reduceLE, Int.reduceLT, Int.reduceEq, UInt8.reduceOfNat]
omit hS in
theorem tcpLV_ps (s : List UInt8) : psl (tcpLV s) = some (tcpLV s) := by unfold tcpLV dgLV; split <;> simp only [go_sem, ↓reduceIte, reduceCtorEq, upd_ne, back_new (no_at), Nat.reduceAdd, Nat.reduceEqDiff, Nat.reduceMul, Nat.reduceSub, Nat.reduceLeDiff, Nat.reduceLT, Int.reduceToNat, Int.reduceLE, Int.reduceLT, Int.reduceEq, UInt8.reduceOfNat]
theorem ev_tcheck (s ps : List UInt8) (hs : s.length ≤ 1000000) (hp : ps.length ≤ 1000000) : S.ev (n + 4) id_tcp_Check [.str s, .str ps] none = some (fE (tcpC s ps), none) := by
  rw [Sys.step hS.h_tcp_Check, F_tcp_Check_eq]
  unfold F_tcp_Check
  have h1 := ev_tparse hS (n + 1) s (by omega)
  have h2 := ev_Right2 hS n ps s (by omega)
  have hfa := ev_tfault hS (n + 2)
  (try simp only [guard_merge, or_merge, and_merge, or_pick, and_pick, guard_or, guard_and]); simp only [to_ob]
  unfold tcpC
  have k1 := tcpLV_ag s
  have k2 := tcpLV_fl s
  have k3 := tcpLV_ps s
  by_cases c : tcpK s = 0
  · rw [c] at h1
    simp only [fE, if_true] at h1
    by_cases c3 : sumS (ps ++ s) = 0
    · simp only [go_sem, ↓reduceIte, reduceCtorEq, upd_ne, back_new (no_at), Nat.reduceAdd, Nat.reduceEqDiff, Nat.reduceMul, Nat.reduceSub, Nat.reduceLeDiff, Nat.reduceLT, Int.reduceToNat, Int.reduceLE, Int.reduceLT, Int.reduceEq, UInt8.reduceOfNat, h1, h2, hfa, c, c3, fE, k1, k2, k3]
    · simp only [go_sem, ↓reduceIte, reduceCtorEq, upd_ne, back_new (no_at), Nat.reduceAdd, Nat.reduceEqDiff, Nat.reduceMul, Nat.reduceSub, Nat.reduceLeDiff, Nat.reduceLT, Int.reduceToNat, Int.reduceLE, Int.reduceLT, Int.reduceEq, UInt8.reduceOfNat, h1, h2, hfa, c, c3, fE, k1, k2, k3]
  · simp only [fE, c, if_false] at h1
    simp only [go_sem, ↓reduceIte, reduceCtorEq, upd_ne, back_new (no_at), Nat.reduceAdd, Nat.reduceEqDiff, Nat.reduceMul, Nat.reduceSub, Nat.reduceLeDiff, Nat.reduceLT, Int.reduceToNat, Int.reduceLE, Int.reduceLT, Int.reduceEq, UInt8.reduceOfNat, h1, c, fE, k1, k2, k3]
end
end Go.Ev

namespace Go.Ev
set_option linter.unusedSimpArgs false
set_option linter.unusedVariables false
set_option maxRecDepth 10000
set_option maxHeartbeats 8000000
theorem getD_lo {l r : List UInt8} {i : Nat} (h : i < l.length) : (l ++ r).getD i 0 = l.getD i 0 := by simp [List.getD_eq_getElem?_getD, List.getElem?_append_left h]
theorem sumAt_ev : ∀ (p : Nat) (s : List UInt8), p % 2 = 0 → sumAt p s = sumAt 0 s
  | 0, _, _ => rfl
  | 1, _, h => by omega
  | p + 2, s, h => by rw [sumAt_two]; exact sumAt_ev p s (by omega)
theorem sumE {a b : List UInt8} (h : a.length % 2 = 0) : sumAt 0 (a ++ b) = sumAt 0 a + sumAt 0 b := by
  rw [sumAt_append, sumAt_ev (0 + a.length) b (by omega)]
theorem sum_beB2 {y : Nat} (h : y < 65536) : sumAt 0 (beB 2 y) = y := by
  have := w16_beB h
  rw [beB2]
  simp only [sumAt, Nat.zero_mod, if_true]
  unfold w16 at this
  simp only [show ¬ (0 + 1) % 2 = 0 by omega, if_false]
  omega
theorem sum_wAt {D : List UInt8} {i : Nat} : sumAt 0 [D.getD i 0, D.getD (i + 1) 0] = wAt D i := by
  unfold wAt w16
  simp only [sumAt, Nat.zero_mod, if_true]
  simp only [show ¬ (0 + 1) % 2 = 0 by omega, if_false]
  omega
theorem sum_putW {X : List UInt8} {i y : Nat} (h : i + 2 ≤ X.length) (hi : i % 2 = 0) (hy : y < 65536) : sumAt 0 (putW X i y) + wAt X i = sumAt 0 X + y := by
  have h1 : (X.take i).length % 2 = 0 := by rw [List.length_take]; omega
  conv => rhs; rw [cut2 h]
  unfold putW
  rw [sumE h1, sumE h1, sumE (by rw [beB_len]), sumE (by simp), sum_beB2 hy, sum_wAt]
  omega
theorem sum_rp4 {h X : List UInt8} (hh : h.length = 4) (hX : 4 ≤ X.length) : sumAt 0 (rp4 h X) + sumAt 0 (X.take 4) = sumAt 0 X + sumAt 0 h := by
  have h1 : (X.take 4).length = 4 := by rw [List.length_take]; omega
  conv => rhs; rw [← List.take_append_drop 4 X]
  unfold rp4
  rw [sumE (by omega), sumE (by omega)]
  omega
theorem right_iff {s : List UInt8} : sumS s = 0 ↔ 0 < sumAt 0 s ∧ sumAt 0 s % 65535 = 0 := by rw [sumS_zero, ones_full]
theorem upY_mod {x : Nat} {o w : List UInt8} {nn : Bool} (hx : x ≤ 65535) (ho : o.length % 2 = 0) : (upY x o w nn + sumAt 0 w) % 65535 = (x + sumAt 0 o) % 65535 ∧ upY x o w nn < 65536 := by
  have h1 := updN_mod (w := w) hx ho
  have h2 := updN_le x o w
  unfold upY
  split
  · rename_i h
    rw [h.2] at h1
    exact ⟨by omega, by omega⟩
  · exact ⟨h1, by omega⟩
theorem rp4_len {h X : List UInt8} (hh : h.length = 4) (hX : 4 ≤ X.length) : (rp4 h X).length = X.length := by unfold rp4; rw [List.length_append, hh, List.length_drop]; omega
theorem keep_sum {D h O W P Q : List UInt8} {i K : Nat} {nn : Bool} (hi : i % 2 = 0) (hi4 : 4 ≤ i) (hl : i + 2 ≤ D.length) (hh : h.length = 4) (hO : O.length % 2 = 0) (hW : W.length % 2 = 0) (hP : P.length % 2 = 0) (hQ : Q.length % 2 = 0)
    (eP : sumAt 0 P = sumAt 0 O + K) (eQ : sumAt 0 Q = sumAt 0 W + K) (hK : 0 < K) (h0 : sumS (P ++ D) = 0) :
    sumS (Q ++ putW (rp4 h D) i (upY (wAt D i) (O ++ D.take 4) (W ++ h) nn)) = 0 := by
  rw [right_iff] at h0 ⊢
  have hD : (D.take 4).length = 4 := by rw [List.length_take]; omega
  have hx := wAt_le D i
  obtain ⟨m1, m2⟩ := upY_mod (x := wAt D i) (o := O ++ D.take 4) (w := W ++ h) (nn := nn) hx (by rw [List.length_append]; omega)
  rw [sumE hW, sumE hO] at m1
  have s1 := sum_putW (X := rp4 h D) (i := i) (y := upY (wAt D i) (O ++ D.take 4) (W ++ h) nn) (by rw [rp4_len hh (by omega)]; omega) hi m2
  rw [rp4_w hh hi4] at s1
  have s2 := sum_rp4 (X := D) hh (by omega)
  rw [sumE hP] at h0
  rw [sumE hQ]
  generalize upY (wAt D i) (O ++ D.take 4) (W ++ h) nn = y at *
  generalize sumAt 0 (putW (rp4 h D) i y) = A at *
  generalize sumAt 0 (rp4 h D) = B at *
  generalize sumAt 0 D = C at *
  generalize sumAt 0 (D.take 4) = F at *
  omega
def ps4 (fr to : List UInt8) (next len : Nat) : List UInt8 := fr ++ (to ++ (0 :: (beB 1 next ++ beB 2 len)))
theorem sum_ps4 {fr to : List UInt8} {next len : Nat} (hfr : fr.length = 4) (hto : to.length = 4) (hn : next < 256) (hl : len < 65536) : sumAt 0 (ps4 fr to next len) = sumAt 0 (fr ++ to) + (next + len) ∧ (ps4 fr to next len).length = 12 := by
  unfold ps4
  constructor
  · have e : (0 :: (beB 1 next ++ beB 2 len) : List UInt8) = beB 2 next ++ beB 2 len := by
      rw [beB1, beB2 next, show next / 256 = 0 by omega]; rfl
    rw [e, sumE (by first | omega | simp [beB_len]), sumE (by first | omega | simp [beB_len]), sumE (by first | omega | simp [beB_len]), sumE (by first | omega | simp [beB_len]), sum_beB2 (by omega), sum_beB2 hl]
    omega
  · simp only [List.length_append, List.length_cons, beB_len]; omega
theorem sum_ps6 {a b : List UInt8} {next len : Nat} (ha : a.length = 16) (hb : b.length = 16) (hn : next < 256) (hl : len < 65536) : sumAt 0 (ps6 a b next len) = sumAt 0 (a ++ b) + (next + len) ∧ (ps6 a b next len).length = 40 := by
  constructor
  · unfold ps6
    have e4 : beB 4 len = [0, 0] ++ beB 2 len := by
      rw [beB4, beB2, show len / 16777216 = 0 by omega, show len / 65536 = 0 by omega]; rfl
    have e : (0 :: 0 :: 0 :: beB 1 next : List UInt8) = [0, 0] ++ beB 2 next := by
      rw [beB1, beB2 next, show next / 256 = 0 by omega]; rfl
    have z : sumAt 0 ([0, 0] : List UInt8) = 0 := rfl
    rw [e, e4, sumE (by first | omega | simp [beB_len]), sumE (by first | omega | simp [beB_len]), sumE (by first | omega | simp [beB_len]), sumE (by first | omega | simp [beB_len]), sumE (by first | omega | simp [beB_len]), sumE (by first | omega | simp [beB_len]), sum_beB2 hl, sum_beB2 (by omega), z]
    omega
  · rw [ps6_len, ha, hb]
theorem tcpK_turn {D h : List UInt8} {y : Nat} (hh : h.length = 4) (hK : tcpK D = 0) : tcpK (putW (rp4 h D) 16 y) = 0 := by
  have h20 := tcpK_len hK
  have hl : (putW (rp4 h D) 16 y).length = D.length := by rw [putW_len (by rw [rp4_len hh (by omega)]; omega), rp4_len hh (by omega)]
  have h1 : ((rp4 h D).take 16).length = 16 := by rw [List.length_take, rp4_len hh (by omega)]; omega
  have h12 : (putW (rp4 h D) 16 y).getD 12 0 = D.getD 12 0 := by
    unfold putW
    rw [getD_lo (by omega), getD_take (by omega)]
    unfold rp4
    rw [getD_app (by omega), hh]
    simp [List.getD_eq_getElem?_getD]
  unfold tcpK tcpH at *
  rw [hl, h12]
  exact hK
theorem poF_form {udp : Bool} {D o w : List UInt8} {p q : Nat} (h : 4 ≤ D.length) : poF udp D o w p q = upF (rp4 (beB 2 p ++ beB 2 q) D) (if udp = true then 6 else 16) (o ++ D.take 4) (w ++ (beB 2 p ++ beB 2 q)) udp := by
  unfold poF rp4
  rw [if_neg (by omega), List.append_assoc]
  cases udp <;> rfl
theorem tcp_kept {D fr to a b : List UInt8} {p q : Nat} (hfr : fr.length = 4) (hto : to.length = 4) (ha : a.length = 16) (hb : b.length = 16) (hD : D.length < 65536) (h : tcpC D (ps4 fr to 6 D.length) = 0) :
    tcpC (poF false D (fr ++ to) (a ++ b) p q) (ps6 a b 6 D.length) = 0 := by
  rw [tcpC_zero] at h ⊢
  obtain ⟨hK, h0⟩ := h
  have h20 := tcpK_len hK
  have hh : (beB 2 p ++ beB 2 q).length = 4 := by simp only [List.length_append, beB_len]
  obtain ⟨e1, l1⟩ := sum_ps4 (next := 6) (len := D.length) hfr hto (by omega) hD
  obtain ⟨e2, l2⟩ := sum_ps6 (next := 6) (len := D.length) ha hb (by omega) hD
  rw [poF_form (by omega)]
  unfold upF
  rw [if_neg (by rw [rp4_len hh (by omega)]; simp; omega), if_neg (by simp)]
  simp only [Bool.false_eq_true, if_false]
  rw [rp4_w hh (by omega)]
  exact ⟨tcpK_turn hh hK, keep_sum (by omega) (by omega) (by omega) hh (by simp [hfr, hto]) (by simp [ha, hb]) (by omega) (by omega) e1 e2 (by omega) h0⟩
theorem udpC_eq {s ps : List UInt8} (h : 8 ≤ s.length) : udpC s ps = if wAt s 4 ≠ s.length then 8 else if wAt s 6 = 0 then 4 else if sumS (ps ++ s) ≠ 0 then 9 else 0 := by
  obtain ⟨a, b, c, d, e, f, g, i, t, rfl⟩ := len8 h
  have h4 : wAt (a :: b :: c :: d :: e :: f :: g :: i :: t) 4 = w16 e f := rfl
  have h6 : wAt (a :: b :: c :: d :: e :: f :: g :: i :: t) 6 = w16 g i := rfl
  have hl : (a :: b :: c :: d :: e :: f :: g :: i :: t).length = t.length + 8 := by simp
  rw [h4, h6, hl]
  unfold udpC
  have hp : udpP (a :: b :: c :: d :: e :: f :: g :: i :: t) = if w16 e f ≠ t.length + 8 then (8, 0, 0, 0, []) else (0, w16 a b, w16 c d, w16 g i, t) := rfl
  rw [hp]
  by_cases c1 : w16 e f ≠ t.length + 8
  · rw [if_pos c1, if_pos c1]; rfl
  · rw [if_neg c1, if_neg c1]; simp only [ne_eq, not_true, if_false]
theorem udpC_short {s ps : List UInt8} (h : s.length < 8) : udpC s ps = 7 := by
  have hp : udpP s = (7, 0, 0, 0, []) := by
    unfold udpP
    split
    · exfalso; simp only [List.length_cons] at h; omega
    · rfl
  unfold udpC; rw [hp]; rfl
theorem udp_kept {D fr to a b : List UInt8} {p q : Nat} (hfr : fr.length = 4) (hto : to.length = 4) (ha : a.length = 16) (hb : b.length = 16) (hD : D.length < 65536) :
    udpC D (ps4 fr to 17 D.length) = 9 ∨ udpC (poF true D (fr ++ to) (a ++ b) p q) (ps6 a b 17 D.length) = udpC D (ps4 fr to 17 D.length) := by
  have hlen : (poF true D (fr ++ to) (a ++ b) p q).length = D.length := poF_len
  by_cases h8 : D.length < 8
  · right; rw [udpC_short h8, udpC_short (by omega)]
  have hh : (beB 2 p ++ beB 2 q).length = 4 := by simp only [List.length_append, beB_len]
  obtain ⟨e1, l1⟩ := sum_ps4 (next := 17) (len := D.length) hfr hto (by omega) hD
  obtain ⟨e2, l2⟩ := sum_ps6 (next := 17) (len := D.length) ha hb (by omega) hD
  have hf := poF_form (udp := true) (D := D) (o := fr ++ to) (w := a ++ b) (p := p) (q := q) (by omega)
  have h4 := rp4_w (h := beB 2 p ++ beB 2 q) (X := D) (i := 4) hh (by omega)
  have h6 := rp4_w (h := beB 2 p ++ beB 2 q) (X := D) (i := 6) hh (by omega)
  have hrl := rp4_len (h := beB 2 p ++ beB 2 q) (X := D) hh (by omega)
  rw [udpC_eq (by omega)]
  by_cases c1 : wAt D 4 = D.length
  case neg =>
    right
    have h4' : wAt (poF true D (fr ++ to) (a ++ b) p q) 4 = wAt D 4 := by
      rw [hf]; unfold upF; simp only [if_true]
      split; · exact h4
      split; · exact h4
      have h1 : ((rp4 (beB 2 p ++ beB 2 q) D).take 6).length = 6 := by rw [List.length_take]; omega
      rw [← h4]; unfold wAt
      rw [getD_lo (by omega), getD_lo (by omega), getD_take (by omega), getD_take (by omega)]
    rw [udpC_eq (by omega), if_pos (by rw [h4', hlen]; exact c1), if_pos c1]
  rw [if_neg (by simpa using c1)]
  by_cases c2 : wAt D 6 = 0
  · right
    have : poF true D (fr ++ to) (a ++ b) p q = rp4 (beB 2 p ++ beB 2 q) D := by
      rw [hf]; unfold upF; simp only [if_true]
      rw [if_neg (by omega), if_pos ⟨trivial, by rw [h6]; exact c2⟩]
    rw [if_pos c2, this, udpC_eq (by omega), h4, h6, hrl, if_neg (by simpa using c1), if_pos c2]
  rw [if_neg c2]
  by_cases c3 : sumS (ps4 fr to 17 D.length ++ D) = 0
  case neg => left; rw [if_pos c3]
  right
  rw [if_neg (by simpa using c3)]
  have hx := wAt_le D 6
  have hY := upY_back (x := wAt D 6) (o := (fr ++ to) ++ D.take 4) (w := (a ++ b) ++ (beB 2 p ++ beB 2 q)) hx c2 (by simp [hfr, hto]; omega) (by simp [ha, hb, beB_len])
  have : poF true D (fr ++ to) (a ++ b) p q = putW (rp4 (beB 2 p ++ beB 2 q) D) 6 (upY (wAt D 6) ((fr ++ to) ++ D.take 4) ((a ++ b) ++ (beB 2 p ++ beB 2 q)) true) := by
    rw [hf]; unfold upF; simp only [if_true]
    rw [if_neg (by omega), if_neg (fun q => c2 (by rw [← h6]; exact q.2)), h6]; rfl
  have hs := keep_sum (D := D) (h := beB 2 p ++ beB 2 q) (O := fr ++ to) (W := a ++ b) (P := ps4 fr to 17 D.length) (Q := ps6 a b 17 D.length) (i := 6) (K := 17 + D.length) (nn := true) (by omega) (by omega) (by omega) hh (by simp [hfr, hto]) (by simp [ha, hb]) (by omega) (by omega) e1 e2 (by omega) c3
  rw [← this] at hs
  have w6 : wAt (poF true D (fr ++ to) (a ++ b) p q) 6 ≠ 0 := by rw [this, wAt_putW (by omega) (by omega)]; exact hY.1
  have w4 : wAt (poF true D (fr ++ to) (a ++ b) p q) 4 = D.length := by
    rw [this, ← c1, ← h4]
    have h1 : ((rp4 (beB 2 p ++ beB 2 q) D).take 6).length = 6 := by rw [List.length_take]; omega
    unfold putW wAt
    rw [getD_lo (by omega), getD_lo (by omega), getD_take (by omega), getD_take (by omega)]
  rw [udpC_eq (by omega), w4, hlen, if_neg (by simp), if_neg w6, if_neg (by simpa using hs)]
theorem echo_form {D o w : List UInt8} {k id : Nat} (h : 8 ≤ D.length) : ∃ y, y < 65536 ∧ ecF D o w k id = beB 1 k ++ (0 :: (beB 2 y ++ (beB 2 id ++ D.drop 6))) ∧
    y = upY (wAt D 2) (o ++ (D.take 2 ++ (D.drop 4).take 2)) (w ++ (beB 1 k ++ (0 :: beB 2 id))) false := by
  have hl : (ecD D k id).length = D.length := ecD_len (by omega)
  have hw : wAt (ecD D k id) 2 = wAt D 2 := ecD_w (by omega)
  refine ⟨_, ?_, ?_, rfl⟩
  · have := updN_le (wAt D 2) (o ++ (D.take 2 ++ (D.drop 4).take 2)) (w ++ (beB 1 k ++ (0 :: beB 2 id)))
    unfold upY; rw [if_neg (by simp)]; omega
  · unfold ecF upF
    rw [if_neg (by omega), if_neg (by simp), hw]
    have e1 : (ecD D k id).take 2 = beB 1 k ++ [0] := by unfold ecD; rw [beB1]; rfl
    have e2 : (ecD D k id).drop 4 = beB 2 id ++ D.drop 6 := by
      have h2 : ((D.drop 2).take 2).length = 2 := by rw [List.length_take, List.length_drop]; omega
      unfold ecD; rw [beB1]
      show ((D.drop 2).take 2 ++ (beB 2 id ++ D.drop 6)).drop 2 = _
      exact List.drop_left' h2
    rw [e1, show 2 + 2 = 4 from rfl, e2]
    simp only [List.append_assoc, List.cons_append, List.nil_append]
end Go.Ev

namespace Go.Ev
set_option linter.unusedSimpArgs false
set_option linter.unusedVariables false
set_option maxRecDepth 4000
set_option maxHeartbeats 8000000
section
variable {S : Sys} (hS : Has S) (n : Nat)
include hS
theorem ev_code (c : Int) : S.ev (n + 1) id_num_Code [fE c] none = some (.int .i64 c, none) := by
  unfold fE
  split
  · rename_i h; rw [h]; exact hS.x_code.ev_nil n
  · exact hS.x_code.ev_one n c 0
end
end Go.Ev

namespace Go.Ev
set_option linter.unusedSimpArgs false
set_option linter.unusedVariables false
set_option maxRecDepth 4000
set_option maxHeartbeats 8000000
section
variable {S : Sys} (hS : Has S) (n : Nat)
include hS
theorem ev_pieced {cl fl ho : Int} {fr to : List UInt8} {ex : List LV} {fg : Bool} {id at' : Int} {mo : Bool} {pt : Int} {da : List UInt8} (hfr : fr.length = 16) (hto : to.length = 16) :
    S.ev (n + 1) id_ip6_pieced [ip6LV cl fl ho fr to (.lst none ex) fg id at' mo pt da] none = some (.bool (decide (mo = true → da.length ≠ 0 ∧ da.length % 8 = 0)), none) := by
  rw [Sys.step hS.h_ip6_pieced, F_ip6_pieced_eq]
  unfold F_ip6_pieced
  (try simp only [guard_merge, or_merge, and_merge, or_pick, and_pick, guard_or, guard_and]); simp only [to_ob]
  have e2 : Int.tmod (da.length : Int) 8 = ((da.length % 8 : Nat) : Int) := rfl
  cases mo
  · simp only [go_sem, ↓reduceIte, reduceCtorEq, upd_ne, back_new (no_at), Nat.reduceAdd, Nat.reduceEqDiff, Nat.reduceMul, Nat.reduceSub, Nat.reduceLeDiff, Nat.reduceLT, Int.reduceToNat, Int.reduceLE, Int.reduceLT, Int.reduceEq, UInt8.reduceOfNat, hfr, hto, false_implies]
  · by_cases k3 : da = []
    · subst k3
      simp only [go_sem, ↓reduceIte, reduceCtorEq, upd_ne, back_new (no_at), Nat.reduceAdd, Nat.reduceEqDiff, Nat.reduceMul, Nat.reduceSub, Nat.reduceLeDiff, Nat.reduceLT, Int.reduceToNat, Int.reduceLE, Int.reduceLT, Int.reduceEq, UInt8.reduceOfNat, hfr, hto, true_implies]
    · have k3' : ¬ da.length = 0 := fun h => k3 (List.length_eq_zero_iff.1 h)
      by_cases k4 : da.length % 8 = 0
      · have k4' : ((da.length % 8 : Nat) : Int) = 0 := by omega
        simp only [go_sem, ↓reduceIte, reduceCtorEq, upd_ne, back_new (no_at), Nat.reduceAdd, Nat.reduceEqDiff, Nat.reduceMul, Nat.reduceSub, Nat.reduceLeDiff, Nat.reduceLT, Int.reduceToNat, Int.reduceLE, Int.reduceLT, Int.reduceEq, UInt8.reduceOfNat, hfr, hto, k3, k3', k4, k4', e2, true_implies]
      · have k4' : ¬ ((da.length % 8 : Nat) : Int) = 0 := by omega
        simp only [go_sem, ↓reduceIte, reduceCtorEq, upd_ne, back_new (no_at), Nat.reduceAdd, Nat.reduceEqDiff, Nat.reduceMul, Nat.reduceSub, Nat.reduceLeDiff, Nat.reduceLT, Int.reduceToNat, Int.reduceLE, Int.reduceLT, Int.reduceEq, UInt8.reduceOfNat, hfr, hto, k3, k3', k4, k4', e2, true_implies]
theorem ev_parse6 (s : List UInt8) (hs : s.length ≤ 140737488351232) : S.ev (n + 4) id_ip6_Parse [.str s] none = some (.tup [pLV6 s, fE (pK6 s)], none) := by
  rw [Sys.step hS.h_ip6_Parse, F_ip6_Parse_eq]
  unfold F_ip6_Parse
  have hfa := ev_fault6 hS (n + 2)
  (try simp only [guard_merge, or_merge, and_merge, or_pick, and_pick, guard_or, guard_and]); simp only [to_ob]
  unfold pLV6 pK6
  by_cases c1 : s.length < 40
  · have c1' : (s.length : Int) < 40 := by omega
    simp only [go_sem, ↓reduceIte, reduceCtorEq, upd_ne, back_new (no_at), Nat.reduceAdd, Nat.reduceEqDiff, Nat.reduceMul, Nat.reduceSub, Nat.reduceLeDiff, Nat.reduceLT, Int.reduceToNat, Int.reduceLE, Int.reduceLT, Int.reduceEq, UInt8.reduceOfNat, c1, c1', hfa, fE]
  · have c1' : ¬ (s.length : Int) < 40 := by omega
    have g0 := get_def (s := s) (i := 0) (by omega)
    have hb0 := bAt_le s 0
    have e4 : Int.fdiv ((s.getD 0 0).toNat : Int) (2 ^ min 4 8) = ((bAt s 0 / 16 : Nat) : Int) := by
      rw [show min 4 8 = 4 from rfl, Int.fdiv_eq_ediv_of_nonneg _ (by decide)]; rfl
    by_cases c2 : bAt s 0 / 16 ≠ 6
    · have c2' : ¬ ((bAt s 0 / 16 : Nat) : Int) = 6 := by omega
      simp only [go_sem, ↓reduceIte, reduceCtorEq, upd_ne, back_new (no_at), Nat.reduceAdd, Nat.reduceEqDiff, Nat.reduceMul, Nat.reduceSub, Nat.reduceLeDiff, Nat.reduceLT, Int.reduceToNat, Int.reduceLE, Int.reduceLT, Int.reduceEq, UInt8.reduceOfNat, List.getElem?_map, Int.toNat_natCast, c1, c1', c2, c2', hfa, fE, g0, byteLV, e4]
    · have c2' : ((bAt s 0 / 16 : Nat) : Int) = 6 := by omega
      have g4 := get_def (s := s) (i := 4) (by omega)
      have g5 := get_def (s := s) (i := 5) (by omega)
      have g6 := get_def (s := s) (i := 6) (by omega)
      have g7 := get_def (s := s) (i := 7) (by omega)
      have hb4 := (s.getD 4 0).toNat_lt
      have hb5 := (s.getD 5 0).toNat_lt
      have hb6 := bAt_le s 6
      have hb7 := bAt_le s 7
      have hw4 := wAt_le s 4
      have q1 : IntKind.i64.wrap ((s.getD 4 0).toNat : Int) = ((s.getD 4 0).toNat : Int) := wrap_id (by omega) (by omega)
      have q2 : IntKind.i64.wrap ((s.getD 5 0).toNat : Int) = ((s.getD 5 0).toNat : Int) := wrap_id (by omega) (by omega)
      have q3 : IntKind.i64.wrap (((s.getD 4 0).toNat : Int) * 2 ^ min 8 64) = (((s.getD 4 0).toNat * 256 : Nat) : Int) := by
        rw [show min 8 64 = 8 from rfl, wrap_id (by omega) (by omega)]; omega
      have q4 : bitsOf .or .i64 (((s.getD 4 0).toNat * 256 : Nat) : Int) ((s.getD 5 0).toNat : Int) = ((wAt s 4 : Nat) : Int) := w16_or _ _
      have q5 : IntKind.i64.wrap (40 + ((wAt s 4 : Nat) : Int)) = ((40 + wAt s 4 : Nat) : Int) := by rw [wrap_id (by omega) (by omega)]; omega
      have q6 : IntKind.i64.wrap ((s.getD 6 0).toNat : Int) = ((bAt s 6 : Nat) : Int) := wrap_id (by omega) (by unfold bAt at hb6; omega)
      have q7 : IntKind.i64.wrap ((s.getD 7 0).toNat : Int) = ((bAt s 7 : Nat) : Int) := wrap_id (by omega) (by unfold bAt at hb7; omega)
      by_cases c3 : s.length < 40 + wAt s 4
      · have c3' : (s.length : Int) < ((40 + wAt s 4 : Nat) : Int) := by omega
        simp only [go_sem, ↓reduceIte, reduceCtorEq, upd_ne, back_new (no_at), Nat.reduceAdd, Nat.reduceEqDiff, Nat.reduceMul, Nat.reduceSub, Nat.reduceLeDiff, Nat.reduceLT, Int.reduceToNat, Int.reduceLE, Int.reduceLT, Int.reduceEq, UInt8.reduceOfNat, List.getElem?_map, Int.toNat_natCast, c1, c1', c2, c2', c3, c3', hfa, fE, g0, g4, g5, byteLV, e4, q1, q2, q3, q4, q5]
      · have c3' : ¬ (s.length : Int) < ((40 + wAt s 4 : Nat) : Int) := by omega
        have hN := ev_New hS (n + 2) s
        have hU := ev_U32 hS n s 0 (by omega) hs
        simp only [Nat.zero_add, List.drop_zero] at hU
        have hx := num4_lt s
        have d1 : Int.fdiv ((numN (s.take 4) : Nat) : Int) (2 ^ min 20 64) = ((numN (s.take 4) / 1048576 : Nat) : Int) := by
          rw [show min 20 64 = 20 from rfl, Int.fdiv_eq_ediv_of_nonneg _ (by decide)]; rfl
        have d2 : bitsOf .and .i64 ((numN (s.take 4) / 1048576 : Nat) : Int) 255 = pcl6 s := by
          rw [show (255 : Int) = ((2 ^ 8 - 1 : Nat) : Int) from rfl, bits_mask 8 (by omega) (show ((numN (s.take 4) / 1048576 : Nat) : Int) ≤ 9223372036854775807 by omega) (by decide)]
          rfl
        have d3 : bitsOf .and .i64 ((numN (s.take 4) : Nat) : Int) 1048575 = pfl6 s := by
          rw [show (1048575 : Int) = ((2 ^ 20 - 1 : Nat) : Int) from rfl, bits_mask 20 (by omega) (show ((numN (s.take 4) : Nat) : Int) ≤ 9223372036854775807 by omega) (by decide)]
          rfl
        have k1 : ∀ sl : Slots, wCopy (upd sl 8 (.obj 1 (ip6LV (pcl6 s) (pfl6 s) (bAt s 7 : Nat) y16 y16 (.lst none []) false 0 0 false 0 []))) (.arr 8 1 [3] 3 0 16) (.str (s.drop 8)) = _ := fun sl => wc3 rfl (by rw [List.length_drop]; omega)
        have hlf : (pfr6 s).length = 16 := by unfold pfr6; simp; omega
        have hlt : (pto6 s).length = 16 := by unfold pto6; simp; omega
        have k2 : ∀ sl : Slots, wCopy (upd sl 8 (.obj 1 (ip6LV (pcl6 s) (pfl6 s) (bAt s 7 : Nat) (pfr6 s) y16 (.lst none []) false 0 0 false 0 []))) (.arr 8 1 [4] 19 0 16) (.str (s.drop 24)) = _ := fun sl => wc4 hlf rfl (by rw [List.length_drop]; omega)
        have v5 : (s.drop 8).take 16 = pfr6 s := rfl
        have v6 : (s.drop 24).take 16 = pto6 s := rfl
        have l8 : 8 ≤ s.length := by omega
        have l24 : 24 ≤ s.length := by omega
        have l40 : 40 ≤ 40 + wAt s 4 := by omega
        have l41 : 40 + wAt s 4 ≤ s.length := by omega
        have l42 : 40 + wAt s 4 - 40 = wAt s 4 := by omega
        have t8 : (s.drop 8).take (s.length - 8) = s.drop 8 := List.take_of_length_le (by simp)
        have t24 : (s.drop 24).take (s.length - 24) = s.drop 24 := List.take_of_length_le (by simp)
        have hC : S.ev (n + 3) id_ip6_Chain [.int .i64 ((bAt s 6 : Nat) : Int), .str ((s.drop 40).take (wAt s 4))] none = some (chLV (k6 s), none) := ev_chain6 hS (n + 1) _ _ (by rw [List.length_take]; omega)
        have hkl : (k6 s).1 = 0 → (k6 s).2.2.2.length ≤ 65535 := by
          intro _
          have : ∀ (k : Nat) (f : Bool) (nx : Int) (u : List UInt8), (chC k f nx u).2.2.2.length ≤ u.length := by
            intro k
            induction k with
            | zero => intro f nx u; unfold chC; split <;> (try split) <;> simp
            | succ k ih =>
              intro f nx u
              unfold chC
              split
              · split
                · simp
                · split
                  · simp
                  · have := ih false ((bAt u 0 : Nat) : Int) (u.drop (sz6 u))
                    rw [List.length_drop] at this
                    simp only
                    split <;> (try simp only) <;> omega
              · simp
          refine Nat.le_trans (this _ _ _ _) ?_
          rw [List.length_take]; omega
        unfold chLV at hC
        unfold mk6 kR6
        rcases hks : k6 s with ⟨kc, kl, kp, kr⟩
        rw [hks] at hC hkl
        try dsimp only at hC
        try dsimp only at hkl
        try dsimp only
        by_cases c4 : kc = 0
        · subst c4
          have hkl := hkl rfl
          rw [show fE 0 = .nili from rfl] at hC
          by_cases c5 : kp = 44
          · subst c5
            by_cases c6 : kr.length < 8
            · have c6' : (kr.length : Int) < 8 := by omega
              simp only [go_sem, ↓reduceIte, reduceCtorEq, upd_ne, back_new (no_at), Nat.reduceAdd, Nat.reduceEqDiff, Nat.reduceMul, Nat.reduceSub, Nat.reduceLeDiff, Nat.reduceLT, Int.reduceToNat, Int.reduceLE, Int.reduceLT, Int.reduceEq, UInt8.reduceOfNat, List.getElem?_map, Int.toNat_natCast, Nat.sub_zero, c1, c1', c2, c2', c3, c3', c6, c6', kF6, hfa, hN, hU, hC, fE, g0, g4, g5, g6, g7, byteLV, e4, q1, q2, q3, q4, q5, q6, q7, d1, d2, d3, k1, k2, v5, v6, hlf, hlt, l8, l24, l40, l41, l42, t8, t24, Nat.le_refl]
            · have c6' : ¬ (kr.length : Int) < 8 := by omega
              have h0 := get_def (s := kr) (i := 0) (by omega)
              have h2 := get_def (s := kr) (i := 2) (by omega)
              have h3 := get_def (s := kr) (i := 3) (by omega)
              have i0 := bAt_le kr 0
              have i2 := (kr.getD 2 0).toNat_lt
              have i3 := (kr.getD 3 0).toNat_lt
              have hw2 := wAt_le kr 2
              have r1 : IntKind.i64.wrap ((kr.getD 2 0).toNat : Int) = ((kr.getD 2 0).toNat : Int) := wrap_id (by omega) (by omega)
              have r2 : IntKind.i64.wrap ((kr.getD 3 0).toNat : Int) = ((kr.getD 3 0).toNat : Int) := wrap_id (by omega) (by omega)
              have r3 : IntKind.i64.wrap (((kr.getD 2 0).toNat : Int) * 2 ^ min 8 64) = (((kr.getD 2 0).toNat * 256 : Nat) : Int) := by
                rw [show min 8 64 = 8 from rfl, wrap_id (by omega) (by omega)]; omega
              have r4 : bitsOf .or .i64 (((kr.getD 2 0).toNat * 256 : Nat) : Int) ((kr.getD 3 0).toNat : Int) = ((wAt kr 2 : Nat) : Int) := w16_or _ _
              have r5 : IntKind.i64.wrap ((kr.getD 0 0).toNat : Int) = ((bAt kr 0 : Nat) : Int) := wrap_id (by omega) (by unfold bAt at i0; omega)
              have r6 : bitsOf .andNot .i64 ((wAt kr 2 : Nat) : Int) 7 = ((fa6 kr : Nat) : Int) := andNot7 _ hw2
              have r7 : bitsOf .and .i64 ((wAt kr 2 : Nat) : Int) 1 = ((wAt kr 2 % 2 : Nat) : Int) := by
                rw [show (1 : Int) = ((2 ^ 1 - 1 : Nat) : Int) from rfl, bits_mask 1 (by omega) (show ((wAt kr 2 : Nat) : Int) ≤ 9223372036854775807 by omega) (by decide)]
                rfl
              have r8 : (!decide (((wAt kr 2 % 2 : Nat) : Int) = 0)) = fm6 kr := by
                unfold fm6
                rw [← decide_not]
                exact decide_eq_decide.2 (by omega)
              have r8' : (decide (¬ ((wAt kr 2 % 2 : Nat) : Int) = 0)) = fm6 kr := by rw [← r8]; simp
              have hN2 := ev_New hS (n + 2) (kr.drop 4)
              have hU2 := ev_U32 hS n (kr.drop 4) 0 (by rw [List.length_drop]; omega) (by rw [List.length_drop]; omega)
              simp only [Nat.zero_add, List.drop_zero] at hU2
              have hU2 : S.ev (n + 3) id_num_Reader_U32 [.ptr 0 0 [] 0] (some (nrLV (kr.drop 4) 0)) = some (.tup [.int .i64 ((fi6 kr : Nat) : Int), .nili], some (nrLV (kr.drop 4) 4)) := hU2
              have hfi : fi6 kr < 4294967296 := num4_lt (kr.drop 4)
              have r9 : IntKind.u32.wrap ((fi6 kr : Nat) : Int) = ((fi6 kr : Nat) : Int) := wrap_u32 hfi
              have m4 : 4 ≤ kr.length := by omega
              have m8 : 8 ≤ kr.length := by omega
              have u4 : (kr.drop 4).take (kr.length - 4) = kr.drop 4 := List.take_of_length_le (by simp)
              have u8' : (kr.drop 8).take (kr.length - 8) = kr.drop 8 := List.take_of_length_le (by simp)
              have hP := ev_pieced hS (n + 2) (cl := pcl6 s) (fl := pfl6 s) (ho := (bAt s 7 : Nat)) (ex := kl.map extLV) (fg := true) (id := (fi6 kr : Nat)) (at' := (fa6 kr : Nat)) (mo := fm6 kr) (pt := (bAt kr 0 : Nat)) (da := kr.drop 8) hlf hlt
              have hfa6 : fa6 kr ≤ 65535 := by unfold fa6; omega
              have r10 : IntKind.i64.wrap (65535 - ((fa6 kr : Nat) : Int)) = ((65535 - fa6 kr : Nat) : Int) := by rw [wrap_id (by omega) (by omega)]; omega
              by_cases c7 : (fm6 kr = true → (kr.drop 8).length ≠ 0 ∧ (kr.drop 8).length % 8 = 0)
              · rw [decide_eq_true c7] at hP
                by_cases c8 : fa6 kr + (kr.drop 8).length ≤ 65535
                · have c8' : ¬ ((65535 - fa6 kr : Nat) : Int) < (((kr.drop 8).length : Nat) : Int) := by omega
                  have c9 : okF6 (fm6 kr) (fa6 kr) (kr.drop 8) := ⟨c7, c8⟩
                  simp only [go_sem, ↓reduceIte, reduceCtorEq, upd_ne, back_new (no_at), Nat.reduceAdd, Nat.reduceEqDiff, Nat.reduceMul, Nat.reduceSub, Nat.reduceLeDiff, Nat.reduceLT, Int.reduceToNat, Int.reduceLE, Int.reduceLT, Int.reduceEq, UInt8.reduceOfNat, List.getElem?_map, Int.toNat_natCast, Nat.sub_zero, c1, c1', c2, c2', c3, c3', c6, c6', c8', c9, kF6, hfa, hN, hU, hN2, hU2, hC, hP, fE, g0, g4, g5, g6, g7, h0, h2, h3, byteLV, e4, q1, q2, q3, q4, q5, q6, q7, d1, d2, d3, k1, k2, v5, v6, hlf, hlt, l8, l24, l40, l41, l42, t8, t24, r1, r2, r3, r4, r5, r6, r7, r8, r8', r9, r10, m4, m8, u4, u8', Nat.le_refl]
                · have c8' : ((65535 - fa6 kr : Nat) : Int) < (((kr.drop 8).length : Nat) : Int) := by omega
                  have c9 : ¬ okF6 (fm6 kr) (fa6 kr) (kr.drop 8) := fun h => c8 h.2
                  simp only [go_sem, ↓reduceIte, reduceCtorEq, upd_ne, back_new (no_at), Nat.reduceAdd, Nat.reduceEqDiff, Nat.reduceMul, Nat.reduceSub, Nat.reduceLeDiff, Nat.reduceLT, Int.reduceToNat, Int.reduceLE, Int.reduceLT, Int.reduceEq, UInt8.reduceOfNat, List.getElem?_map, Int.toNat_natCast, Nat.sub_zero, c1, c1', c2, c2', c3, c3', c6, c6', c8', c9, kF6, hfa, hN, hU, hN2, hU2, hC, hP, fE, g0, g4, g5, g6, g7, h0, h2, h3, byteLV, e4, q1, q2, q3, q4, q5, q6, q7, d1, d2, d3, k1, k2, v5, v6, hlf, hlt, l8, l24, l40, l41, l42, t8, t24, r1, r2, r3, r4, r5, r6, r7, r8, r8', r9, r10, m4, m8, u4, u8', Nat.le_refl]
              · rw [decide_eq_false c7] at hP
                have c9 : ¬ okF6 (fm6 kr) (fa6 kr) (kr.drop 8) := fun h => c7 h.1
                simp only [go_sem, ↓reduceIte, reduceCtorEq, upd_ne, back_new (no_at), Nat.reduceAdd, Nat.reduceEqDiff, Nat.reduceMul, Nat.reduceSub, Nat.reduceLeDiff, Nat.reduceLT, Int.reduceToNat, Int.reduceLE, Int.reduceLT, Int.reduceEq, UInt8.reduceOfNat, List.getElem?_map, Int.toNat_natCast, Nat.sub_zero, c1, c1', c2, c2', c3, c3', c6, c6', c9, kF6, hfa, hN, hU, hN2, hU2, hC, hP, fE, g0, g4, g5, g6, g7, h0, h2, h3, byteLV, e4, q1, q2, q3, q4, q5, q6, q7, d1, d2, d3, k1, k2, v5, v6, hlf, hlt, l8, l24, l40, l41, l42, t8, t24, r1, r2, r3, r4, r5, r6, r7, r8, r8', r9, r10, m4, m8, u4, u8', Nat.le_refl]
          · simp only [go_sem, ↓reduceIte, reduceCtorEq, upd_ne, back_new (no_at), Nat.reduceAdd, Nat.reduceEqDiff, Nat.reduceMul, Nat.reduceSub, Nat.reduceLeDiff, Nat.reduceLT, Int.reduceToNat, Int.reduceLE, Int.reduceLT, Int.reduceEq, UInt8.reduceOfNat, List.getElem?_map, Int.toNat_natCast, Nat.sub_zero, c1, c1', c2, c2', c3, c3', c5, hfa, hN, hU, hC, fE, g0, g4, g5, g6, g7, byteLV, e4, q1, q2, q3, q4, q5, q6, q7, d1, d2, d3, k1, k2, v5, v6, hlf, hlt, l8, l24, l40, l41, l42, t8, t24, Nat.le_refl]
        · simp only [fE, if_neg c4] at hC
          simp only [go_sem, ↓reduceIte, reduceCtorEq, upd_ne, back_new (no_at), Nat.reduceAdd, Nat.reduceEqDiff, Nat.reduceMul, Nat.reduceSub, Nat.reduceLeDiff, Nat.reduceLT, Int.reduceToNat, Int.reduceLE, Int.reduceLT, Int.reduceEq, UInt8.reduceOfNat, List.getElem?_map, Int.toNat_natCast, Nat.sub_zero, c1, c1', c2, c2', c3, c3', c4, hfa, hN, hU, hC, fE, g0, g4, g5, g6, g7, byteLV, e4, q1, q2, q3, q4, q5, q6, q7, d1, d2, d3, k1, k2, v5, v6, hlf, hlt, l8, l24, l40, l41, l42, t8, t24, Nat.le_refl]
end
end Go.Ev
