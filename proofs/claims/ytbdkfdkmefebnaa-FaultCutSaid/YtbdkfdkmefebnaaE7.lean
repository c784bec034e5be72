/- Part 7 of a proof: what the functions yield. It stands by itself; no condition. -/
import Derived.Test.YtbdkfdkmefebnaaE6
/- Layer 4: what bytes say. -/
namespace Go.Ev
set_option linter.unusedSimpArgs false
set_option linter.unusedVariables false
set_option maxRecDepth 4000
set_option maxHeartbeats 8000000
abbrev y16 : List UInt8 := [0, 0, 0, 0, 0, 0, 0, 0, 0, 0, 0, 0, 0, 0, 0, 0]
abbrev z6LV : LV := ip6LV 0 0 0 y16 y16 (.lst none []) false 0 0 false 0 []
def k6 (s : List UInt8) : ChR := chC 8 true ((bAt s 6 : Nat) : Int) ((s.drop 40).take (wAt s 4))
def okF6 (mo : Bool) (at' : Nat) (da : List UInt8) : Prop := (mo = true → da.length ≠ 0 ∧ da.length % 8 = 0) ∧ at' + da.length ≤ 65535
instance (mo : Bool) (at' : Nat) (da : List UInt8) : Decidable (okF6 mo at' da) := by unfold okF6; infer_instance
def fa6 (r : List UInt8) : Nat := wAt r 2 / 8 * 8
def fm6 (r : List UInt8) : Bool := decide (wAt r 2 % 2 = 1)
def fi6 (r : List UInt8) : Nat := numN ((r.drop 4).take 4)
def kF6 (r : List UInt8) : Int := if r.length < 8 then 7 else if okF6 (fm6 r) (fa6 r) (r.drop 8) then 0 else 8
def kR6 (k : ChR) : Int := if k.1 ≠ 0 then k.1 else if k.2.2.1 ≠ 44 then 0 else kF6 k.2.2.2
def pK6 (s : List UInt8) : Int :=
  if s.length < 40 then 7 else if bAt s 0 / 16 ≠ 6 then 8 else if s.length < 40 + wAt s 4 then 7 else kR6 (k6 s)
def pcl6 (s : List UInt8) : Int := ((numN (s.take 4) / 1048576 % 256 : Nat) : Int)
def pfl6 (s : List UInt8) : Int := ((numN (s.take 4) % 1048576 : Nat) : Int)
def pfr6 (s : List UInt8) : List UInt8 := (s.drop 8).take 16
def pto6 (s : List UInt8) : List UInt8 := (s.drop 24).take 16
def mk6 (s : List UInt8) (k : ChR) : LV :=
  if k.2.2.1 = 44 then ip6LV (pcl6 s) (pfl6 s) (bAt s 7 : Nat) (pfr6 s) (pto6 s) (extsLV k.2.1) true (fi6 k.2.2.2 : Nat) (fa6 k.2.2.2 : Nat) (fm6 k.2.2.2) (bAt k.2.2.2 0 : Nat) (k.2.2.2.drop 8)
  else ip6LV (pcl6 s) (pfl6 s) (bAt s 7 : Nat) (pfr6 s) (pto6 s) (extsLV k.2.1) false 0 0 false k.2.2.1 k.2.2.2
def pLV6 (s : List UInt8) : LV := if pK6 s = 0 then mk6 s (k6 s) else z6LV

theorem wc3 {sl : Slots} {t g : Nat} {cl fl ho : Int} {fr to : List UInt8} {ex : LV} {fg : Bool} {id at' : Int} {mo : Bool} {pt : Int} {da s : List UInt8} (hf : fr.length = 16) (hs : 16 ≤ s.length) :
    wCopy (upd sl t (.obj g (ip6LV cl fl ho fr to ex fg id at' mo pt da))) (.arr t g [3] 3 0 16) (.str s) = some (.int .i64 16, upd (upd sl t (.obj g (ip6LV cl fl ho fr to ex fg id at' mo pt da))) t (.obj g (ip6LV cl fl ho (s.take 16) to ex fg id at' mo pt da))) := by
  have h1 : min s.length 16 = 16 := by omega
  have h2 : fr.drop 16 = [] := List.drop_eq_nil_of_le (by omega)
  have hg : getPath (ip6LV cl fl ho fr to ex fg id at' mo pt da) [3] = some (.bytes fr, 3) := by simp only [go_sem, ↓reduceIte, reduceCtorEq, upd_ne, back_new (no_at), Nat.reduceAdd, Nat.reduceEqDiff, Nat.reduceMul, Nat.reduceSub, Nat.reduceLeDiff, Nat.reduceLT, Int.reduceToNat, Int.reduceLE, Int.reduceLT, Int.reduceEq, UInt8.reduceOfNat]
  have hp : setPath (ip6LV cl fl ho fr to ex fg id at' mo pt da) [3] (.bytes (s.take 16)) = some (ip6LV cl fl ho (s.take 16) to ex fg id at' mo pt da) := by simp only [go_sem, ↓reduceIte, reduceCtorEq, upd_ne, back_new (no_at), Nat.reduceAdd, Nat.reduceEqDiff, Nat.reduceMul, Nat.reduceSub, Nat.reduceLeDiff, Nat.reduceLT, Int.reduceToNat, Int.reduceLE, Int.reduceLT, Int.reduceEq, UInt8.reduceOfNat]
  unfold wCopy
  simp only [upd_same, if_true, hg]
  rw [if_pos ⟨trivial, by omega⟩]
  simp only [h1, Option.bind_some, List.take_zero, List.nil_append, Nat.zero_add, h2, List.append_nil, hp, Option.map_some]
  rfl
theorem wc4 {sl : Slots} {t g : Nat} {cl fl ho : Int} {fr to : List UInt8} {ex : LV} {fg : Bool} {id at' : Int} {mo : Bool} {pt : Int} {da s : List UInt8} (hf : fr.length = 16) (ht : to.length = 16) (hs : 16 ≤ s.length) :
    wCopy (upd sl t (.obj g (ip6LV cl fl ho fr to ex fg id at' mo pt da))) (.arr t g [4] 19 0 16) (.str s) = some (.int .i64 16, upd (upd sl t (.obj g (ip6LV cl fl ho fr to ex fg id at' mo pt da))) t (.obj g (ip6LV cl fl ho fr (s.take 16) ex fg id at' mo pt da))) := by
  have h1 : min s.length 16 = 16 := by omega
  have h2 : to.drop 16 = [] := List.drop_eq_nil_of_le (by omega)
  have hg : getPath (ip6LV cl fl ho fr to ex fg id at' mo pt da) [4] = some (.bytes to, 19) := by simp only [go_sem, ↓reduceIte, reduceCtorEq, upd_ne, back_new (no_at), Nat.reduceAdd, Nat.reduceEqDiff, Nat.reduceMul, Nat.reduceSub, Nat.reduceLeDiff, Nat.reduceLT, Int.reduceToNat, Int.reduceLE, Int.reduceLT, Int.reduceEq, UInt8.reduceOfNat, hf]
  have hp : setPath (ip6LV cl fl ho fr to ex fg id at' mo pt da) [4] (.bytes (s.take 16)) = some (ip6LV cl fl ho fr (s.take 16) ex fg id at' mo pt da) := by simp only [go_sem, ↓reduceIte, reduceCtorEq, upd_ne, back_new (no_at), Nat.reduceAdd, Nat.reduceEqDiff, Nat.reduceMul, Nat.reduceSub, Nat.reduceLeDiff, Nat.reduceLT, Int.reduceToNat, Int.reduceLE, Int.reduceLT, Int.reduceEq, UInt8.reduceOfNat]
  unfold wCopy
  simp only [upd_same, if_true, hg]
  rw [if_pos ⟨trivial, by omega⟩]
  simp only [h1, Option.bind_some, List.take_zero, List.nil_append, Nat.zero_add, h2, List.append_nil, hp, Option.map_some]
  rfl
theorem andNot7 (x : Nat) (h : x ≤ 65535) : bitsOf .andNot .i64 (x : Int) 7 = ((x / 8 * 8 : Nat) : Int) := by
  rw [show (7 : Int) = ((7 : Nat) : Int) from rfl]
  unfold bitsOf
  rw [ofInt_nat, ofInt_nat]
  simp only [BitVec.toNat_and, BitVec.toNat_not, BitVec.toNat_ofNat]
  have e : x % 2 ^ IntKind.i64.bits &&& (2 ^ IntKind.i64.bits - 1 - 7 % 2 ^ IntKind.i64.bits) = x / 8 * 8 := by
    rw [show IntKind.i64.bits = 64 from rfl, Nat.mod_eq_of_lt (by omega), show 2 ^ 64 - 1 - 7 % 2 ^ 64 = (2 ^ 61 - 1) * 2 ^ 3 by decide]
    apply Nat.eq_of_testBit_eq
    intro i
    rw [Nat.testBit_and, Nat.testBit_mul_two_pow, Nat.testBit_two_pow_sub_one, show x / 8 * 8 = (x / 2 ^ 3) * 2 ^ 3 from rfl, Nat.testBit_mul_two_pow, Nat.testBit_div_two_pow]
    by_cases h3 : 3 ≤ i
    · by_cases h4 : i - 3 < 61
      · simp [h3, h4, show i - 3 + 3 = i by omega]
      · have h5 : x.testBit i = false := Nat.testBit_lt_two_pow (by have : 2 ^ 64 ≤ 2 ^ i := Nat.pow_le_pow_right (by decide) (by omega)
                                                                    omega)
        simp [h3, h4, h5, show i - 3 + 3 = i by omega]
    · simp [h3]
  rw [e]
  exact wrap_id (by omega) (by omega)
theorem wrap_u32 {x : Nat} (h : x < 4294967296) : IntKind.u32.wrap (x : Int) = (x : Int) := by
  simp only [IntKind.wrap, IntKind.bits, IntKind.signed]
  simp
  omega
end Go.Ev

/- Layer 4, plain: how long chains are. -/
namespace Go.Ev
set_option linter.unusedSimpArgs false
set_option linter.unusedVariables false
set_option maxRecDepth 10000
set_option maxHeartbeats 8000000
theorem chC_rest : ∀ (k : Nat) (f : Bool) (nx : Int) (u : List UInt8), (chC k f nx u).2.2.2.length ≤ u.length
  | 0, f, nx, u => by unfold chC; split <;> (try split) <;> simp
  | k + 1, f, nx, u => by
    unfold chC
    split
    · split
      · simp
      · split
        · simp
        · have := chC_rest k false ((bAt u 0 : Nat) : Int) (u.drop (sz6 u))
          rw [List.length_drop] at this
          simp only
          split <;> (try simp only) <;> omega
    · simp
theorem chC_len : ∀ (k : Nat) (f : Bool) (nx : Int) (u : List UInt8), (chC k f nx u).2.1.length ≤ k
  | 0, f, nx, u => by unfold chC; split <;> (try split) <;> simp
  | k + 1, f, nx, u => by
    unfold chC
    split
    · split
      · simp
      · split
        · simp
        · have := chC_len k false ((bAt u 0 : Nat) : Int) (u.drop (sz6 u))
          simp only
          split <;> (try simp only [List.length_cons]) <;> omega
    · simp
end Go.Ev

/- Layer 15: the packet that is quoted, of IPv6. -/
namespace Go.Ev
set_option linter.unusedSimpArgs false
set_option linter.unusedVariables false
set_option maxRecDepth 10000
set_option maxHeartbeats 8000000
def th6 (s : List UInt8) : List UInt8 := (s.drop 40).take (wAt s 4)
def dD6 (k : ChR) : List UInt8 := if k.2.2.1 = 44 then k.2.2.2.drop 8 else k.2.2.2
def cl6 (s : List UInt8) (k : ChR) : Nat := wAt s 4 - ((th6 s).length - (dD6 k).length)
def iR6 (s : List UInt8) (k : ChR) : Int :=
  if k.1 ≠ 0 then k.1 else if k.2.2.1 = 44 ∧ k.2.2.2.length < 8 then 7 else if (dD6 k).length < min 8 (cl6 s k) then 7 else 0
def iK6 (s : List UInt8) : Int := if s.length < 40 then 7 else if bAt s 0 / 16 ≠ 6 then 8 else iR6 s (k6 s)
def iLV6 (s : List UInt8) : LV := if iK6 s = 0 then mk6 s (k6 s) else z6LV
def iC6 (s : List UInt8) : Int := if iK6 s = 0 then ((cl6 s (k6 s) : Nat) : Int) else 0
section
variable {S : Sys} (hS : Has S) (n : Nat)
include hS
theorem ev_inside6 (s : List UInt8) (hs : s.length ≤ 140737488351232) : S.ev (n + 4) id_fault_Inside6 [.str s] none = some (.tup [iLV6 s, .int .i64 (iC6 s), fE (iK6 s)], none) := by
  rw [Sys.step hS.h_fault_Inside6, F_fault_Inside6_eq]
  unfold F_fault_Inside6
  have hfa := ev_faultF hS (n + 2)
  (try simp only [guard_merge, or_merge, and_merge, or_pick, and_pick, guard_or, guard_and]); simp only [to_ob]
  unfold iLV6 iC6 iK6
  by_cases c1 : s.length < 40
  · have c1' : (s.length : Int) < 40 := by omega
    simp only [go_sem, ↓reduceIte, reduceCtorEq, upd_ne, back_new (no_at), Nat.reduceAdd, Nat.reduceEqDiff, Nat.reduceMul, Nat.reduceSub, Nat.reduceLeDiff, Nat.reduceLT, Int.reduceToNat, Int.reduceLE, Int.reduceLT, Int.reduceEq, UInt8.reduceOfNat, c1, c1', hfa, fE]
  · have c1' : ¬ (s.length : Int) < 40 := by omega
    have g0 := get_def (s := s) (i := 0) (by omega)
    have hb0 := bAt_le s 0
    have e4 : Int.fdiv ((s.getD 0 0).toNat : Int) (2 ^ min 4 8) = ((bAt s 0 / 16 : Nat) : Int) := by
      rw [show min 4 8 = 4 from rfl, Int.fdiv_eq_ediv_of_nonneg _ (by decide)]; rfl
    by_cases c2 : bAt s 0 / 16 ≠ 6
    · have c2' : ¬ ((bAt s 0 / 16 : Nat) : Int) = 6 := by omega
      simp only [go_sem, ↓reduceIte, reduceCtorEq, upd_ne, back_new (no_at), Nat.reduceAdd, Nat.reduceEqDiff, Nat.reduceMul, Nat.reduceSub, Nat.reduceLeDiff, Nat.reduceLT, Int.reduceToNat, Int.reduceLE, Int.reduceLT, Int.reduceEq, UInt8.reduceOfNat, List.getElem?_map, Int.toNat_natCast, c1, c1', c2, c2', hfa, fE, g0, byteLV, e4]
    · have c2' : ((bAt s 0 / 16 : Nat) : Int) = 6 := by omega
      have g4 := get_def (s := s) (i := 4) (by omega)
      have g5 := get_def (s := s) (i := 5) (by omega)
      have g6 := get_def (s := s) (i := 6) (by omega)
      have g7 := get_def (s := s) (i := 7) (by omega)
      have hb4 := (s.getD 4 0).toNat_lt
      have hb5 := (s.getD 5 0).toNat_lt
      have hb6 := bAt_le s 6
      have hb7 := bAt_le s 7
      have hw4 := wAt_le s 4
      have q1 : IntKind.i64.wrap ((s.getD 4 0).toNat : Int) = ((s.getD 4 0).toNat : Int) := wrap_id (by omega) (by omega)
      have q2 : IntKind.i64.wrap ((s.getD 5 0).toNat : Int) = ((s.getD 5 0).toNat : Int) := wrap_id (by omega) (by omega)
      have q3 : IntKind.i64.wrap (((s.getD 4 0).toNat : Int) * 2 ^ min 8 64) = (((s.getD 4 0).toNat * 256 : Nat) : Int) := by
        rw [show min 8 64 = 8 from rfl, wrap_id (by omega) (by omega)]; omega
      have q4 : bitsOf .or .i64 (((s.getD 4 0).toNat * 256 : Nat) : Int) ((s.getD 5 0).toNat : Int) = ((wAt s 4 : Nat) : Int) := w16_or _ _
      have q5 : IntKind.i64.wrap (40 + ((wAt s 4 : Nat) : Int)) = ((40 + wAt s 4 : Nat) : Int) := by rw [wrap_id (by omega) (by omega)]; omega
      have q6 : IntKind.i64.wrap ((s.getD 6 0).toNat : Int) = ((bAt s 6 : Nat) : Int) := wrap_id (by omega) (by unfold bAt at hb6; omega)
      have q7 : IntKind.i64.wrap ((s.getD 7 0).toNat : Int) = ((bAt s 7 : Nat) : Int) := wrap_id (by omega) (by unfold bAt at hb7; omega)
      have hmm : (if ((40 + wAt s 4 : Nat) : Int) < (s.length : Int) then ((40 + wAt s 4 : Nat) : Int) else (s.length : Int)) = ((min s.length (40 + wAt s 4) : Nat) : Int) := by split <;> omega
      have m1 : 40 ≤ min s.length (40 + wAt s 4) := by omega
      have m2 : min s.length (40 + wAt s 4) ≤ s.length := by omega
      have m3 : (s.drop 40).take (min s.length (40 + wAt s 4) - 40) = th6 s := by
        unfold th6
        by_cases q : s.length ≤ 40 + wAt s 4
        · rw [Nat.min_eq_left q, List.take_of_length_le (by simp), List.take_of_length_le (by simp; omega)]
        · rw [Nat.min_eq_right (by omega), show 40 + wAt s 4 - 40 = wAt s 4 by omega]
      have htl : (th6 s).length ≤ wAt s 4 := by unfold th6; rw [List.length_take]; omega
      have hN := ev_New hS (n + 2) s
      have hU := ev_U32 hS n s 0 (by omega) hs
      simp only [Nat.zero_add, List.drop_zero] at hU
      have hx := num4_lt s
      have d1 : Int.fdiv ((numN (s.take 4) : Nat) : Int) (2 ^ min 20 64) = ((numN (s.take 4) / 1048576 : Nat) : Int) := by
        rw [show min 20 64 = 20 from rfl, Int.fdiv_eq_ediv_of_nonneg _ (by decide)]; rfl
      have d2 : bitsOf .and .i64 ((numN (s.take 4) / 1048576 : Nat) : Int) 255 = pcl6 s := by
        rw [show (255 : Int) = ((2 ^ 8 - 1 : Nat) : Int) from rfl, bits_mask 8 (by omega) (show ((numN (s.take 4) / 1048576 : Nat) : Int) ≤ 9223372036854775807 by omega) (by decide)]
        rfl
      have d3 : bitsOf .and .i64 ((numN (s.take 4) : Nat) : Int) 1048575 = pfl6 s := by
        rw [show (1048575 : Int) = ((2 ^ 20 - 1 : Nat) : Int) from rfl, bits_mask 20 (by omega) (show ((numN (s.take 4) : Nat) : Int) ≤ 9223372036854775807 by omega) (by decide)]
        rfl
      have hlf : (pfr6 s).length = 16 := by unfold pfr6; simp; omega
      have hlt : (pto6 s).length = 16 := by unfold pto6; simp; omega
      have v5 : (s.drop 8).take 16 = pfr6 s := rfl
      have v6 : (s.drop 24).take 16 = pto6 s := rfl
      have l8 : 8 ≤ s.length := by omega
      have l24 : 24 ≤ s.length := by omega
      have t8 : (s.drop 8).take (s.length - 8) = s.drop 8 := List.take_of_length_le (by simp)
      have t24 : (s.drop 24).take (s.length - 24) = s.drop 24 := List.take_of_length_le (by simp)
      have hC : S.ev (n + 3) id_ip6_Chain [.int .i64 ((bAt s 6 : Nat) : Int), .str (th6 s)] none = some (chLV (k6 s), none) := ev_chain6 hS (n + 1) _ _ (by omega)
      have hkl : (k6 s).2.2.2.length ≤ (th6 s).length := chC_rest _ _ _ _
      rw [if_neg c1, if_neg c2]
      unfold chLV at hC
      unfold mk6 iR6 cl6 dD6
      rcases hks : k6 s with ⟨kc, kl, kp, kr⟩
      rw [hks] at hC hkl
      dsimp only at hC hkl ⊢
      generalize min s.length (40 + wAt s 4) = B at *
      have k1 : ∀ sl : Slots, wCopy (upd sl 12 (.obj 1 (ip6LV (pcl6 s) (pfl6 s) (bAt s 7 : Nat) y16 y16 (.lst none (kl.map extLV)) false 0 0 false kp kr))) (.arr 12 1 [3] 3 0 16) (.str (s.drop 8)) = _ := fun sl => wc3 rfl (by rw [List.length_drop]; omega)
      have k2 : ∀ sl : Slots, wCopy (upd sl 12 (.obj 1 (ip6LV (pcl6 s) (pfl6 s) (bAt s 7 : Nat) (pfr6 s) y16 (.lst none (kl.map extLV)) false 0 0 false kp kr))) (.arr 12 1 [4] 19 0 16) (.str (s.drop 24)) = _ := fun sl => wc4 hlf rfl (by rw [List.length_drop]; omega)
      by_cases c4 : kc = 0
      case neg =>
        simp only [go_sem, ↓reduceIte, reduceCtorEq, upd_ne, back_new (no_at), Nat.reduceAdd, Nat.reduceEqDiff, Nat.reduceMul, Nat.reduceSub, Nat.reduceLeDiff, Nat.reduceLT, Int.reduceToNat, Int.reduceLE, Int.reduceLT, Int.reduceEq, UInt8.reduceOfNat, List.getElem?_map, Int.toNat_natCast, Nat.sub_zero, pMinmax, pMinmax2, Option.bind_some, c1', c2', c4, hC, fE, g0, g4, g5, g6, byteLV, e4, q1, q2, q3, q4, q5, q6, hmm, m1, m2, m3, Bool.false_eq_true]
      subst c4
      rw [show fE 0 = .nili from rfl] at hC
      by_cases c5 : kp = 44
      · subst c5
        by_cases c6 : kr.length < 8
        · have c6' : (kr.length : Int) < 8 := by omega
          simp only [go_sem, ↓reduceIte, reduceCtorEq, upd_ne, back_new (no_at), Nat.reduceAdd, Nat.reduceEqDiff, Nat.reduceMul, Nat.reduceSub, Nat.reduceLeDiff, Nat.reduceLT, Int.reduceToNat, Int.reduceLE, Int.reduceLT, Int.reduceEq, UInt8.reduceOfNat, List.getElem?_map, Int.toNat_natCast, Nat.sub_zero, pMinmax, pMinmax2, Option.bind_some, c1', c2', c6, c6', hfa, hN, hU, hC, fE, g0, g4, g5, g6, g7, byteLV, e4, q1, q2, q3, q4, q5, q6, q7, d1, d2, d3, k1, k2, v5, v6, hlf, hlt, l8, l24, t8, t24, hmm, m1, m2, m3, Bool.false_eq_true]
        · have c6' : ¬ (kr.length : Int) < 8 := by omega
          have h0 := get_def (s := kr) (i := 0) (by omega)
          have h2 := get_def (s := kr) (i := 2) (by omega)
          have h3 := get_def (s := kr) (i := 3) (by omega)
          have i0 := bAt_le kr 0
          have i2 := (kr.getD 2 0).toNat_lt
          have i3 := (kr.getD 3 0).toNat_lt
          have hw2 := wAt_le kr 2
          have r1 : IntKind.i64.wrap ((kr.getD 2 0).toNat : Int) = ((kr.getD 2 0).toNat : Int) := wrap_id (by omega) (by omega)
          have r2 : IntKind.i64.wrap ((kr.getD 3 0).toNat : Int) = ((kr.getD 3 0).toNat : Int) := wrap_id (by omega) (by omega)
          have r3 : IntKind.i64.wrap (((kr.getD 2 0).toNat : Int) * 2 ^ min 8 64) = (((kr.getD 2 0).toNat * 256 : Nat) : Int) := by
            rw [show min 8 64 = 8 from rfl, wrap_id (by omega) (by omega)]; omega
          have r4 : bitsOf .or .i64 (((kr.getD 2 0).toNat * 256 : Nat) : Int) ((kr.getD 3 0).toNat : Int) = ((wAt kr 2 : Nat) : Int) := w16_or _ _
          have r5 : IntKind.i64.wrap ((kr.getD 0 0).toNat : Int) = ((bAt kr 0 : Nat) : Int) := wrap_id (by omega) (by unfold bAt at i0; omega)
          have r6 : bitsOf .andNot .i64 ((wAt kr 2 : Nat) : Int) 7 = ((fa6 kr : Nat) : Int) := andNot7 _ hw2
          have r7 : bitsOf .and .i64 ((wAt kr 2 : Nat) : Int) 1 = ((wAt kr 2 % 2 : Nat) : Int) := by
            rw [show (1 : Int) = ((2 ^ 1 - 1 : Nat) : Int) from rfl, bits_mask 1 (by omega) (show ((wAt kr 2 : Nat) : Int) ≤ 9223372036854775807 by omega) (by decide)]
            rfl
          have r8 : (!decide (((wAt kr 2 % 2 : Nat) : Int) = 0)) = fm6 kr := by
            unfold fm6
            rw [← decide_not]
            exact decide_eq_decide.2 (by omega)
          have r8' : (decide (¬ ((wAt kr 2 % 2 : Nat) : Int) = 0)) = fm6 kr := by rw [← r8]; simp
          have hN2 := ev_New hS (n + 2) (kr.drop 4)
          have hU2 := ev_U32 hS n (kr.drop 4) 0 (by rw [List.length_drop]; omega) (by rw [List.length_drop]; omega)
          simp only [Nat.zero_add, List.drop_zero] at hU2
          have hU2 : S.ev (n + 3) id_num_Reader_U32 [.ptr 0 0 [] 0] (some (nrLV (kr.drop 4) 0)) = some (.tup [.int .i64 ((fi6 kr : Nat) : Int), .nili], some (nrLV (kr.drop 4) 4)) := hU2
          have hfi : fi6 kr < 4294967296 := num4_lt (kr.drop 4)
          have r9 : IntKind.u32.wrap ((fi6 kr : Nat) : Int) = ((fi6 kr : Nat) : Int) := wrap_u32 hfi
          have n4' : 4 ≤ kr.length := by omega
          have n8' : 8 ≤ kr.length := by omega
          have u4 : (kr.drop 4).take (kr.length - 4) = kr.drop 4 := List.take_of_length_le (by simp)
          have u8' : (kr.drop 8).take (kr.length - 8) = kr.drop 8 := List.take_of_length_le (by simp)
          have hdl : (kr.drop 8).length = kr.length - 8 := by simp
          have z1 : IntKind.i64.wrap (((th6 s).length : Int) - ((kr.length - 8 : Nat) : Int)) = (((th6 s).length - (kr.length - 8) : Nat) : Int) := by rw [wrap_id (by omega) (by omega)]; omega
          have z2 : IntKind.i64.wrap (((wAt s 4 : Nat) : Int) - (((th6 s).length - (kr.length - 8) : Nat) : Int)) = ((wAt s 4 - ((th6 s).length - (kr.length - 8)) : Nat) : Int) := by rw [wrap_id (by omega) (by omega)]; omega
          have hsh := ev_short hS (n + 2) (kr.drop 8) ((wAt s 4 - ((th6 s).length - (kr.length - 8)) : Nat) : Int)
          rw [hdl] at hsh
          simp only [if_true, hdl, ne_eq, not_true_eq_false, if_false, true_and, if_neg c6]
          by_cases c7 : kr.length - 8 < min 8 (wAt s 4 - ((th6 s).length - (kr.length - 8)))
          · rw [decide_eq_true (by omega)] at hsh
            simp only [if_pos c7, Int.reduceEq, if_false]
            simp only [go_sem, ↓reduceIte, reduceCtorEq, upd_ne, back_new (no_at), Nat.reduceAdd, Nat.reduceEqDiff, Nat.reduceMul, Nat.reduceSub, Nat.reduceLeDiff, Nat.reduceLT, Int.reduceToNat, Int.reduceLE, Int.reduceLT, Int.reduceEq, UInt8.reduceOfNat, List.getElem?_map, Int.toNat_natCast, Nat.sub_zero, pMinmax, pMinmax2, Option.bind_some, c1', c2', hfa, hN, hU, hC, fE, g0, g4, g5, g6, g7, byteLV, e4, q1, q2, q3, q4, q5, q6, q7, d1, d2, d3, k1, k2, v5, v6, hlf, hlt, l8, l24, t8, t24, hmm, m1, m2, m3, Bool.false_eq_true, c6', hN2, hU2, h0, h2, h3, r1, r2, r3, r4, r5, r6, r7, r8, r8', r9, n4', n8', u4, u8', hdl, z1, z2, hsh]
          · rw [decide_eq_false (by omega)] at hsh
            simp only [if_neg c7, if_true]
            simp only [go_sem, ↓reduceIte, reduceCtorEq, upd_ne, back_new (no_at), Nat.reduceAdd, Nat.reduceEqDiff, Nat.reduceMul, Nat.reduceSub, Nat.reduceLeDiff, Nat.reduceLT, Int.reduceToNat, Int.reduceLE, Int.reduceLT, Int.reduceEq, UInt8.reduceOfNat, List.getElem?_map, Int.toNat_natCast, Nat.sub_zero, pMinmax, pMinmax2, Option.bind_some, c1', c2', hfa, hN, hU, hC, fE, g0, g4, g5, g6, g7, byteLV, e4, q1, q2, q3, q4, q5, q6, q7, d1, d2, d3, k1, k2, v5, v6, hlf, hlt, l8, l24, t8, t24, hmm, m1, m2, m3, Bool.false_eq_true, c6', hN2, hU2, h0, h2, h3, r1, r2, r3, r4, r5, r6, r7, r8, r8', r9, n4', n8', u4, u8', hdl, z1, z2, hsh]
      · have z1 : IntKind.i64.wrap (((th6 s).length : Int) - (kr.length : Int)) = (((th6 s).length - kr.length : Nat) : Int) := by rw [wrap_id (by omega) (by omega)]; omega
        have z2 : IntKind.i64.wrap (((wAt s 4 : Nat) : Int) - (((th6 s).length - kr.length : Nat) : Int)) = ((wAt s 4 - ((th6 s).length - kr.length) : Nat) : Int) := by rw [wrap_id (by omega) (by omega)]; omega
        have hsh := ev_short hS (n + 2) kr ((wAt s 4 - ((th6 s).length - kr.length) : Nat) : Int)
        have c6n : ¬ (kp = 44 ∧ kr.length < 8) := fun h => c5 h.1
        simp only [if_neg c5, ne_eq, not_true_eq_false, if_false, if_neg c6n]
        by_cases c7 : kr.length < min 8 (wAt s 4 - ((th6 s).length - kr.length))
        · rw [decide_eq_true (by omega)] at hsh
          simp only [if_pos c7, Int.reduceEq, if_false]
          simp only [go_sem, ↓reduceIte, reduceCtorEq, upd_ne, back_new (no_at), Nat.reduceAdd, Nat.reduceEqDiff, Nat.reduceMul, Nat.reduceSub, Nat.reduceLeDiff, Nat.reduceLT, Int.reduceToNat, Int.reduceLE, Int.reduceLT, Int.reduceEq, UInt8.reduceOfNat, List.getElem?_map, Int.toNat_natCast, Nat.sub_zero, pMinmax, pMinmax2, Option.bind_some, c1', c2', hfa, hN, hU, hC, fE, g0, g4, g5, g6, g7, byteLV, e4, q1, q2, q3, q4, q5, q6, q7, d1, d2, d3, k1, k2, v5, v6, hlf, hlt, l8, l24, t8, t24, hmm, m1, m2, m3, Bool.false_eq_true, c5, z1, z2, hsh]
        · rw [decide_eq_false (by omega)] at hsh
          simp only [if_neg c7, if_true]
          simp only [go_sem, ↓reduceIte, reduceCtorEq, upd_ne, back_new (no_at), Nat.reduceAdd, Nat.reduceEqDiff, Nat.reduceMul, Nat.reduceSub, Nat.reduceLeDiff, Nat.reduceLT, Int.reduceToNat, Int.reduceLE, Int.reduceLT, Int.reduceEq, UInt8.reduceOfNat, List.getElem?_map, Int.toNat_natCast, Nat.sub_zero, pMinmax, pMinmax2, Option.bind_some, c1', c2', hfa, hN, hU, hC, fE, g0, g4, g5, g6, g7, byteLV, e4, q1, q2, q3, q4, q5, q6, q7, d1, d2, d3, k1, k2, v5, v6, hlf, hlt, l8, l24, t8, t24, hmm, m1, m2, m3, Bool.false_eq_true, c5, z1, z2, hsh]
end
end Go.Ev

/- Layer 14: messages of one family as the other's. -/
namespace Go.Ev
set_option linter.unusedSimpArgs false
set_option linter.unusedVariables false
set_option maxRecDepth 10000
set_option maxHeartbeats 8000000
def plat (l : Int) : Int := if 65535 < l then 65535 else if 32000 < l then 32000 else if 17914 < l then 17914 else if 8166 < l then 8166 else if 4352 < l then 4352 else if 2002 < l then 2002 else if 1492 < l then 1492 else if 1006 < l then 1006 else if 508 < l then 508 else if 296 < l then 296 else 68
def sid (m4 m6 : Int) : Prop := 68 ≤ m4 ∧ m4 ≤ 65535 ∧ 1280 ≤ m6 ∧ m6 ≤ 65575
instance (a b : Int) : Decidable (sid a b) := by unfold sid; infer_instance
def poi6 (n : Int) : Option Int := if n = 0 ∨ n = 1 then some n else if n = 2 ∨ n = 3 then some 4 else if n = 8 then some 7 else if n = 9 then some 6 else if 12 ≤ n ∧ n ≤ 15 then some 8 else if 16 ≤ n ∧ n ≤ 19 then some 24 else none
def poi4 (n : Int) : Option Int := if n = 0 ∨ n = 1 then some n else if n = 4 ∨ n = 5 then some 2 else if n = 6 then some 9 else if n = 7 then some 8 else if 8 ≤ n ∧ n ≤ 23 then some 12 else if 24 ≤ n ∧ n ≤ 39 then some 16 else none
def mtu6O (r m4 m6 len : Int) : Int := max (min (min ((if r % 65536 = 0 then plat len else r % 65536) + 20) m6) (m4 + 20)) 1280
def los6 (c r m4 m6 len : Int) : Option (Int × Int × Int) :=
  if c = 0 ∨ c = 1 ∨ c = 5 ∨ c = 6 ∨ c = 7 ∨ c = 8 ∨ c = 11 ∨ c = 12 then some (1, 0, 0) else if c = 9 ∨ c = 10 ∨ c = 13 ∨ c = 15 then some (1, 1, 0) else
  if c = 3 then some (1, 4, 0) else if c = 2 then some (4, 1, 6) else if c = 4 then some (2, 0, mtu6O r m4 m6 len) else none
def to6S (k c r m4 m6 len : Int) : Option (Int × Int × Int) :=
  if ¬ sid m4 m6 then none else if k = 8 ∧ c = 0 then some (128, 0, r) else if k = 0 ∧ c = 0 then some (129, 0, r) else if k = 3 then los6 c r m4 m6 len else
  if k = 11 ∧ (c = 0 ∨ c = 1) then some (3, c, 0) else if k = 12 ∧ (c = 0 ∨ c = 2) then (poi6 (r / 16777216)).map fun n => (4, 0, n) else none
def los4 (c : Int) : Option (Int × Int × Int) := if c = 0 ∨ c = 2 ∨ c = 3 then some (3, 1, 0) else if c = 1 then some (3, 10, 0) else if c = 4 then some (3, 3, 0) else none
def mtu4O (r m4 m6 : Int) : Int := min (max (min (min (r - 20) m4) (m6 - 20)) 68) 65535
def to4S (k c r m4 m6 : Int) : Option (Int × Int × Int) :=
  if ¬ sid m4 m6 then none else if k = 128 ∧ c = 0 then some (8, 0, r) else if k = 129 ∧ c = 0 then some (0, 0, r) else if k = 1 then los4 c else
  if k = 2 ∧ c = 0 then some (3, 4, mtu4O r m4 m6) else if k = 3 ∧ (c = 0 ∨ c = 1) then some (11, c, 0) else if k = 4 ∧ c = 0 then (poi4 r).map fun n => (12, 0, n * 16777216) else if k = 4 ∧ c = 1 then some (3, 2, 0) else none
def msgO (x : Option (Int × Int × Int)) (d : List UInt8) : LV := match x with
  | some (k, c, r) => .tup [msgLV k c r d, .bool true]
  | none => .tup [msgLV 0 0 0 [], .bool false]
theorem plat_le (l : Int) : 68 ≤ plat l ∧ plat l ≤ 65535 := by unfold plat; repeat' split
                                                               all_goals omega
def PL : List Int := [65535, 32000, 17914, 8166, 4352, 2002, 1492, 1006, 508, 296]
def srch (l : Int) : List Int → Int
  | [] => 68
  | x :: r => if x < l then x else srch l r
theorem srch_PL (l : Int) : srch l PL = plat l := rfl
section
variable {S : Sys} (hS : Has S) (n : Nat)
include hS
theorem ev_plat (l : Int) : S.ev (n + 1) id_icmpmap_Plateau [.int .i64 l] none = some (.int .i64 (plat l), none) := by
  rw [Sys.step hS.h_icmpmap_Plateau, F_icmpmap_Plateau_eq, ← srch_PL]
  unfold F_icmpmap_Plateau
  have hL : [LV.int .i64 65535, .int .i64 32000, .int .i64 17914, .int .i64 8166, .int .i64 4352, .int .i64 2002, .int .i64 1492, .int .i64 1006, .int .i64 508, .int .i64 296] = PL.map (fun x => LV.int .i64 x) := rfl
  have hl : PL.length = 10 := rfl
  have hps : pslL (PL.map (fun x => LV.int .i64 x)) = some (PL.map (fun x => LV.int .i64 x)) := rfl
  (try simp only [guard_merge, or_merge, and_merge, or_pick, and_pick, guard_or, guard_and]); simp only [to_ob]
  simp only [go_sem, ↓reduceIte, reduceCtorEq, upd_ne, back_new (no_at), Nat.reduceAdd, Nat.reduceEqDiff, Nat.reduceMul, Nat.reduceSub, Nat.reduceLeDiff, Nat.reduceLT, Int.reduceToNat, Int.reduceLE, Int.reduceLT, Int.reduceEq, UInt8.reduceOfNat, hL, hps, List.length_map]
  generalize PL = L at *
  refine while_rule (fun k q => ∃ i : Nat, q = ([LV.int .i64 0, LV.int .i64 (i : Int)], noSlots) ∧ i + k = L.length ∧ srch l (L.drop i) = srch l L) L.length ⟨0, rfl, by omega, rfl⟩ ?_
  rintro k q ⟨i, rfl, hi, hr⟩
  by_cases h : i < L.length
  · have h' : (i : Int) < (L.length : Int) := by omega
    obtain ⟨x, hx⟩ : ∃ x, L[i]? = some x := ⟨L[i], by simp [h]⟩
    have hd : L.drop i = x :: L.drop (i + 1) := by
      rw [List.drop_eq_getElem_cons h]; congr 1; rw [List.getElem?_eq_getElem h] at hx; exact Option.some.inj hx
    rw [hd] at hr
    have e1 : IntKind.i64.wrap ((i : Int) + 1) = ((i + 1 : Nat) : Int) := by rw [wrap_id (by omega) (by omega)]; omega
    by_cases c : x < l
    · have hr : x = srch l L := by rw [← hr]; unfold srch; rw [if_pos c]
      simp only [go_sem, ↓reduceIte, reduceCtorEq, upd_ne, back_new (no_at), Nat.reduceAdd, Nat.reduceEqDiff, Nat.reduceMul, Nat.reduceSub, Nat.reduceLeDiff, Nat.reduceLT, Int.reduceToNat, Int.reduceLE, Int.reduceLT, Int.reduceEq, UInt8.reduceOfNat, List.getElem?_map, Int.toNat_natCast, h', hx, c, Option.map_some, Nxt, exIf]
      rw [hr]
    · have hr : srch l (L.drop (i + 1)) = srch l L := by rw [← hr]; exact (if_neg c).symm
      simp only [go_sem, ↓reduceIte, reduceCtorEq, upd_ne, back_new (no_at), Nat.reduceAdd, Nat.reduceEqDiff, Nat.reduceMul, Nat.reduceSub, Nat.reduceLeDiff, Nat.reduceLT, Int.reduceToNat, Int.reduceLE, Int.reduceLT, Int.reduceEq, UInt8.reduceOfNat, List.getElem?_map, Int.toNat_natCast, h', hx, c, e1, Option.map_some]
      exact ⟨k - 1, by omega, i + 1, rfl, by omega, hr⟩
  · have h' : ¬ (i : Int) < (L.length : Int) := by omega
    rw [List.drop_of_length_le (by omega)] at hr
    simp only [go_sem, ↓reduceIte, reduceCtorEq, upd_ne, back_new (no_at), Nat.reduceAdd, Nat.reduceEqDiff, Nat.reduceMul, Nat.reduceSub, Nat.reduceLeDiff, Nat.reduceLT, Int.reduceToNat, Int.reduceLE, Int.reduceLT, Int.reduceEq, UInt8.reduceOfNat, List.getElem?_map, Int.toNat_natCast, h', Nxt, exIf]
    rw [← hr]
    rfl
theorem ev_sides (a b : Int) : S.ev (n + 1) id_icmpmap_sides [.int .i64 a, .int .i64 b] none = some (.bool (decide (sid a b)), none) := by
  rw [Sys.step hS.h_icmpmap_sides, F_icmpmap_sides_eq]
  unfold F_icmpmap_sides sid
  (try simp only [guard_merge, or_merge, and_merge, or_pick, and_pick, guard_or, guard_and]); simp only [to_ob]
  simp only [go_sem, ↓reduceIte, reduceCtorEq, upd_ne, back_new (no_at), Nat.reduceAdd, Nat.reduceEqDiff, Nat.reduceMul, Nat.reduceSub, Nat.reduceLeDiff, Nat.reduceLT, Int.reduceToNat, Int.reduceLE, Int.reduceLT, Int.reduceEq, UInt8.reduceOfNat, Bool.decide_and, Bool.and_assoc]
  rw [← Bool.decide_and, ← Bool.decide_and, ← Bool.decide_and]
theorem ev_poi6 (x : Int) : S.ev (n + 1) id_icmpmap_pointer6 [.int .i64 x] none = some (match poi6 x with | some y => .tup [.int .i64 y, .bool true] | none => .tup [.int .i64 0, .bool false], none) := by
  rw [Sys.step hS.h_icmpmap_pointer6, F_icmpmap_pointer6_eq]
  unfold F_icmpmap_pointer6
  (try simp only [guard_merge, or_merge, and_merge, or_pick, and_pick, guard_or, guard_and]); simp only [to_ob]
  simp only [go_sem, ↓reduceIte, reduceCtorEq, upd_ne, back_new (no_at), Nat.reduceAdd, Nat.reduceEqDiff, Nat.reduceMul, Nat.reduceSub, Nat.reduceLeDiff, Nat.reduceLT, Int.reduceToNat, Int.reduceLE, Int.reduceLT, Int.reduceEq, UInt8.reduceOfNat]
  unfold poi6
  repeat' split
  all_goals first | rfl | omega | simp_all
theorem ev_poi4 (x : Int) (hx : 0 ≤ x ∧ x < 4294967296) : S.ev (n + 1) id_icmpmap_pointer4 [.int .u32 x] none = some (match poi4 x with | some y => .tup [.int .i64 y, .bool true] | none => .tup [.int .i64 0, .bool false], none) := by
  rw [Sys.step hS.h_icmpmap_pointer4, F_icmpmap_pointer4_eq]
  unfold F_icmpmap_pointer4
  have e1 : IntKind.i64.wrap x = x := wrap_id (by omega) (by omega)
  (try simp only [guard_merge, or_merge, and_merge, or_pick, and_pick, guard_or, guard_and]); simp only [to_ob]
  simp only [go_sem, ↓reduceIte, reduceCtorEq, upd_ne, back_new (no_at), Nat.reduceAdd, Nat.reduceEqDiff, Nat.reduceMul, Nat.reduceSub, Nat.reduceLeDiff, Nat.reduceLT, Int.reduceToNat, Int.reduceLE, Int.reduceLT, Int.reduceEq, UInt8.reduceOfNat, e1]
  unfold poi4
  repeat' split
  all_goals first | rfl | omega | simp_all
theorem ev_said (k c r k' c' r' : Int) (d : List UInt8) (h : 0 ≤ r' ∧ r' < 4294967296) : S.ev (n + 1) id_icmpmap_said [msgLV k c r d, .int .i64 k', .int .i64 c', .int .i64 r'] none = some (.tup [msgLV k' c' r' d, .bool true], none) := by
  rw [Sys.step hS.h_icmpmap_said, F_icmpmap_said_eq]
  unfold F_icmpmap_said
  have e1 : IntKind.u32.wrap r' = r' := by obtain ⟨R, rfl⟩ := Int.eq_ofNat_of_zero_le h.1; exact wrap_u32 (by omega)
  (try simp only [guard_merge, or_merge, and_merge, or_pick, and_pick, guard_or, guard_and]); simp only [to_ob]
  simp only [go_sem, ↓reduceIte, reduceCtorEq, upd_ne, back_new (no_at), Nat.reduceAdd, Nat.reduceEqDiff, Nat.reduceMul, Nat.reduceSub, Nat.reduceLeDiff, Nat.reduceLT, Int.reduceToNat, Int.reduceLE, Int.reduceLT, Int.reduceEq, UInt8.reduceOfNat, e1]
end
end Go.Ev

/- Layer 14: messages of one family as the other's: the program's. -/
namespace Go.Ev
set_option linter.unusedSimpArgs false
set_option linter.unusedVariables false
set_option maxRecDepth 10000
set_option maxHeartbeats 16000000
theorem poi4_le {r y : Int} (h : poi4 r = some y) : 0 ≤ y ∧ y ≤ 16 := by
  unfold poi4 at h
  repeat' split at h
  all_goals first | (obtain rfl := Option.some.inj h; omega) | simp at h
theorem poi6_le {r y : Int} (h : poi6 r = some y) : 0 ≤ y ∧ y ≤ 24 := by
  unfold poi6 at h
  repeat' split at h
  all_goals first | (obtain rfl := Option.some.inj h; omega) | simp at h
section
variable {S : Sys} (hS : Has S) (n : Nat)
include hS
theorem ev_lost6 (k c r m4 m6 len : Int) (d : List UInt8) (hr : 0 ≤ r ∧ r < 4294967296) (hs : sid m4 m6) : S.ev (n + 2) id_icmpmap_lost6 [msgLV k c r d, .int .i64 m4, .int .i64 m6, .int .i64 len] none = some (msgO (los6 c r m4 m6 len) d, none) := by
  rw [Sys.step hS.h_icmpmap_lost6, F_icmpmap_lost6_eq]
  unfold F_icmpmap_lost6
  have hsd : ∀ k' c' r' : Int, (0 ≤ r' ∧ r' < 4294967296) → S.ev (n + 1) id_icmpmap_said [msgLV k c r d, .int .i64 k', .int .i64 c', .int .i64 r'] none = some (.tup [msgLV k' c' r' d, .bool true], none) := fun k' c' r' h => ev_said hS n k c r k' c' r' d h
  have s1 := hsd 1 0 0 (by omega)
  have s2 := hsd 1 1 0 (by omega)
  have s3 := hsd 1 4 0 (by omega)
  have s4 := hsd 4 1 6 (by omega)
  have hpl := plat_le len
  have hP := ev_plat hS n len
  unfold sid at hs
  have s5 := hsd 2 0 (mtu6O r m4 m6 len) (by unfold mtu6O; split <;> omega)
  (try simp only [guard_merge, or_merge, and_merge, or_pick, and_pick, guard_or, guard_and]); simp only [to_ob]
  by_cases c0 : c = 0
  · subst c0
    simp only [go_sem, ↓reduceIte, reduceCtorEq, upd_ne, back_new (no_at), Nat.reduceAdd, Nat.reduceEqDiff, Nat.reduceMul, Nat.reduceSub, Nat.reduceLeDiff, Nat.reduceLT, Int.reduceToNat, Int.reduceLE, Int.reduceLT, Int.reduceEq, UInt8.reduceOfNat, List.getElem?_map, Int.toNat_natCast, s1, s2, s3, s4]
    rfl
  by_cases c1 : c = 1
  · subst c1
    simp only [go_sem, ↓reduceIte, reduceCtorEq, upd_ne, back_new (no_at), Nat.reduceAdd, Nat.reduceEqDiff, Nat.reduceMul, Nat.reduceSub, Nat.reduceLeDiff, Nat.reduceLT, Int.reduceToNat, Int.reduceLE, Int.reduceLT, Int.reduceEq, UInt8.reduceOfNat, List.getElem?_map, Int.toNat_natCast, s1, s2, s3, s4]
    rfl
  by_cases c5 : c = 5
  · subst c5
    simp only [go_sem, ↓reduceIte, reduceCtorEq, upd_ne, back_new (no_at), Nat.reduceAdd, Nat.reduceEqDiff, Nat.reduceMul, Nat.reduceSub, Nat.reduceLeDiff, Nat.reduceLT, Int.reduceToNat, Int.reduceLE, Int.reduceLT, Int.reduceEq, UInt8.reduceOfNat, List.getElem?_map, Int.toNat_natCast, s1, s2, s3, s4]
    rfl
  by_cases c6 : c = 6
  · subst c6
    simp only [go_sem, ↓reduceIte, reduceCtorEq, upd_ne, back_new (no_at), Nat.reduceAdd, Nat.reduceEqDiff, Nat.reduceMul, Nat.reduceSub, Nat.reduceLeDiff, Nat.reduceLT, Int.reduceToNat, Int.reduceLE, Int.reduceLT, Int.reduceEq, UInt8.reduceOfNat, List.getElem?_map, Int.toNat_natCast, s1, s2, s3, s4]
    rfl
  by_cases c7 : c = 7
  · subst c7
    simp only [go_sem, ↓reduceIte, reduceCtorEq, upd_ne, back_new (no_at), Nat.reduceAdd, Nat.reduceEqDiff, Nat.reduceMul, Nat.reduceSub, Nat.reduceLeDiff, Nat.reduceLT, Int.reduceToNat, Int.reduceLE, Int.reduceLT, Int.reduceEq, UInt8.reduceOfNat, List.getElem?_map, Int.toNat_natCast, s1, s2, s3, s4]
    rfl
  by_cases c8 : c = 8
  · subst c8
    simp only [go_sem, ↓reduceIte, reduceCtorEq, upd_ne, back_new (no_at), Nat.reduceAdd, Nat.reduceEqDiff, Nat.reduceMul, Nat.reduceSub, Nat.reduceLeDiff, Nat.reduceLT, Int.reduceToNat, Int.reduceLE, Int.reduceLT, Int.reduceEq, UInt8.reduceOfNat, List.getElem?_map, Int.toNat_natCast, s1, s2, s3, s4]
    rfl
  by_cases c11 : c = 11
  · subst c11
    simp only [go_sem, ↓reduceIte, reduceCtorEq, upd_ne, back_new (no_at), Nat.reduceAdd, Nat.reduceEqDiff, Nat.reduceMul, Nat.reduceSub, Nat.reduceLeDiff, Nat.reduceLT, Int.reduceToNat, Int.reduceLE, Int.reduceLT, Int.reduceEq, UInt8.reduceOfNat, List.getElem?_map, Int.toNat_natCast, s1, s2, s3, s4]
    rfl
  by_cases c12 : c = 12
  · subst c12
    simp only [go_sem, ↓reduceIte, reduceCtorEq, upd_ne, back_new (no_at), Nat.reduceAdd, Nat.reduceEqDiff, Nat.reduceMul, Nat.reduceSub, Nat.reduceLeDiff, Nat.reduceLT, Int.reduceToNat, Int.reduceLE, Int.reduceLT, Int.reduceEq, UInt8.reduceOfNat, List.getElem?_map, Int.toNat_natCast, s1, s2, s3, s4]
    rfl
  by_cases c9 : c = 9
  · subst c9
    simp only [go_sem, ↓reduceIte, reduceCtorEq, upd_ne, back_new (no_at), Nat.reduceAdd, Nat.reduceEqDiff, Nat.reduceMul, Nat.reduceSub, Nat.reduceLeDiff, Nat.reduceLT, Int.reduceToNat, Int.reduceLE, Int.reduceLT, Int.reduceEq, UInt8.reduceOfNat, List.getElem?_map, Int.toNat_natCast, s1, s2, s3, s4]
    rfl
  by_cases c10 : c = 10
  · subst c10
    simp only [go_sem, ↓reduceIte, reduceCtorEq, upd_ne, back_new (no_at), Nat.reduceAdd, Nat.reduceEqDiff, Nat.reduceMul, Nat.reduceSub, Nat.reduceLeDiff, Nat.reduceLT, Int.reduceToNat, Int.reduceLE, Int.reduceLT, Int.reduceEq, UInt8.reduceOfNat, List.getElem?_map, Int.toNat_natCast, s1, s2, s3, s4]
    rfl
  by_cases c13 : c = 13
  · subst c13
    simp only [go_sem, ↓reduceIte, reduceCtorEq, upd_ne, back_new (no_at), Nat.reduceAdd, Nat.reduceEqDiff, Nat.reduceMul, Nat.reduceSub, Nat.reduceLeDiff, Nat.reduceLT, Int.reduceToNat, Int.reduceLE, Int.reduceLT, Int.reduceEq, UInt8.reduceOfNat, List.getElem?_map, Int.toNat_natCast, s1, s2, s3, s4]
    rfl
  by_cases c15 : c = 15
  · subst c15
    simp only [go_sem, ↓reduceIte, reduceCtorEq, upd_ne, back_new (no_at), Nat.reduceAdd, Nat.reduceEqDiff, Nat.reduceMul, Nat.reduceSub, Nat.reduceLeDiff, Nat.reduceLT, Int.reduceToNat, Int.reduceLE, Int.reduceLT, Int.reduceEq, UInt8.reduceOfNat, List.getElem?_map, Int.toNat_natCast, s1, s2, s3, s4]
    rfl
  by_cases c3 : c = 3
  · subst c3
    simp only [go_sem, ↓reduceIte, reduceCtorEq, upd_ne, back_new (no_at), Nat.reduceAdd, Nat.reduceEqDiff, Nat.reduceMul, Nat.reduceSub, Nat.reduceLeDiff, Nat.reduceLT, Int.reduceToNat, Int.reduceLE, Int.reduceLT, Int.reduceEq, UInt8.reduceOfNat, List.getElem?_map, Int.toNat_natCast, s1, s2, s3, s4]
    rfl
  by_cases c2 : c = 2
  · subst c2
    simp only [go_sem, ↓reduceIte, reduceCtorEq, upd_ne, back_new (no_at), Nat.reduceAdd, Nat.reduceEqDiff, Nat.reduceMul, Nat.reduceSub, Nat.reduceLeDiff, Nat.reduceLT, Int.reduceToNat, Int.reduceLE, Int.reduceLT, Int.reduceEq, UInt8.reduceOfNat, List.getElem?_map, Int.toNat_natCast, s1, s2, s3, s4]
    rfl
  by_cases c4 : c = 4
  · subst c4
    have e1 : bitsOf .and .u32 r 65535 = r % 65536 := by
      rw [show (65535 : Int) = ((2 ^ 16 - 1 : Nat) : Int) from rfl, bits_mask 16 (by omega) (show r ≤ IntKind.u32.max by simp [IntKind.max, IntKind.signed, IntKind.bits]; omega) (by decide)]; rfl
    have e2 : IntKind.i64.wrap (r % 65536) = r % 65536 := wrap_id (by omega) (by omega)
    have e4 : IntKind.i64.wrap (m4 + 20) = m4 + 20 := wrap_id (by omega) (by omega)
    have e5 : IntKind.i64.wrap (plat len + 20) = plat len + 20 := wrap_id (by omega) (by omega)
    have e6 : IntKind.i64.wrap (r % 65536 + 20) = r % 65536 + 20 := wrap_id (by omega) (by omega)
    have mm : ∀ x : Int, (if (if m4 + 20 < (if m6 < x then m6 else x) then m4 + 20 else (if m6 < x then m6 else x)) < 1280 then 1280 else (if m4 + 20 < (if m6 < x then m6 else x) then m4 + 20 else (if m6 < x then m6 else x))) = max (min (min x m6) (m4 + 20)) 1280 := by
      intro x; repeat' split
      all_goals omega
    by_cases c0 : r % 65536 = 0
    · have hO : mtu6O r m4 m6 len = max (min (min (plat len + 20) m6) (m4 + 20)) 1280 := by unfold mtu6O; rw [if_pos c0]
      rw [hO] at s5
      have hL : los6 4 r m4 m6 len = some (2, 0, max (min (min (plat len + 20) m6) (m4 + 20)) 1280) := by rw [← hO]; rfl
      rw [hL]
      simp only [go_sem, ↓reduceIte, reduceCtorEq, upd_ne, back_new (no_at), Nat.reduceAdd, Nat.reduceEqDiff, Nat.reduceMul, Nat.reduceSub, Nat.reduceLeDiff, Nat.reduceLT, Int.reduceToNat, Int.reduceLE, Int.reduceLT, Int.reduceEq, UInt8.reduceOfNat, List.getElem?_map, Int.toNat_natCast, pMinmax, pMinmax2, Option.bind_some, Bool.false_eq_true, if_true, e1, e2, c0, show IntKind.i64.wrap 0 = 0 from rfl, hP, e4, e5, mm, s5, msgO]
    · have hO : mtu6O r m4 m6 len = max (min (min (r % 65536 + 20) m6) (m4 + 20)) 1280 := by unfold mtu6O; rw [if_neg c0]
      rw [hO] at s5
      have hL : los6 4 r m4 m6 len = some (2, 0, max (min (min (r % 65536 + 20) m6) (m4 + 20)) 1280) := by rw [← hO]; rfl
      rw [hL]
      simp only [go_sem, ↓reduceIte, reduceCtorEq, upd_ne, back_new (no_at), Nat.reduceAdd, Nat.reduceEqDiff, Nat.reduceMul, Nat.reduceSub, Nat.reduceLeDiff, Nat.reduceLT, Int.reduceToNat, Int.reduceLE, Int.reduceLT, Int.reduceEq, UInt8.reduceOfNat, List.getElem?_map, Int.toNat_natCast, pMinmax, pMinmax2, Option.bind_some, Bool.false_eq_true, if_true, e1, e2, c0, hP, e4, e6, mm, s5, msgO]
  have hL : los6 c r m4 m6 len = none := by unfold los6; repeat' split
                                            all_goals first | rfl | (exfalso; omega)
  rw [hL]
  simp only [go_sem, ↓reduceIte, reduceCtorEq, upd_ne, back_new (no_at), Nat.reduceAdd, Nat.reduceEqDiff, Nat.reduceMul, Nat.reduceSub, Nat.reduceLeDiff, Nat.reduceLT, Int.reduceToNat, Int.reduceLE, Int.reduceLT, Int.reduceEq, UInt8.reduceOfNat, List.getElem?_map, Int.toNat_natCast, c0, c1, c5, c6, c7, c8, c11, c12, c9, c10, c13, c15, c3, c2, c4, msgO]
theorem ev_to6 (k c r m4 m6 len : Int) (d : List UInt8) (hr : 0 ≤ r ∧ r < 4294967296) : S.ev (n + 3) id_icmpmap_To6 [msgLV k c r d, .int .i64 m4, .int .i64 m6, .int .i64 len] none = some (msgO (to6S k c r m4 m6 len) d, none) := by
  rw [Sys.step hS.h_icmpmap_To6, F_icmpmap_To6_eq]
  unfold F_icmpmap_To6
  have hsd : ∀ k' c' r' : Int, (0 ≤ r' ∧ r' < 4294967296) → S.ev (n + 2) id_icmpmap_said [msgLV k c r d, .int .i64 k', .int .i64 c', .int .i64 r'] none = some (.tup [msgLV k' c' r' d, .bool true], none) := fun k' c' r' h => ev_said hS (n + 1) k c r k' c' r' d h
  have s0 := ev_sides hS (n + 1) m4 m6
  have e1 : IntKind.i64.wrap r = r := wrap_id (by omega) (by omega)
  (try simp only [guard_merge, or_merge, and_merge, or_pick, and_pick, guard_or, guard_and]); simp only [to_ob]
  unfold to6S
  by_cases hs : sid m4 m6
  case neg =>
    rw [decide_eq_false hs] at s0
    rw [if_pos hs]
    simp only [go_sem, ↓reduceIte, reduceCtorEq, upd_ne, back_new (no_at), Nat.reduceAdd, Nat.reduceEqDiff, Nat.reduceMul, Nat.reduceSub, Nat.reduceLeDiff, Nat.reduceLT, Int.reduceToNat, Int.reduceLE, Int.reduceLT, Int.reduceEq, UInt8.reduceOfNat, List.getElem?_map, Int.toNat_natCast, s0, msgO]
  rw [decide_eq_true hs] at s0
  rw [if_neg (not_not_intro hs)]
  by_cases k8 : k = 8
  · subst k8
    by_cases c0 : c = 0
    · subst c0
      have s1 := hsd 128 0 r hr
      simp only [go_sem, ↓reduceIte, reduceCtorEq, upd_ne, back_new (no_at), Nat.reduceAdd, Nat.reduceEqDiff, Nat.reduceMul, Nat.reduceSub, Nat.reduceLeDiff, Nat.reduceLT, Int.reduceToNat, Int.reduceLE, Int.reduceLT, Int.reduceEq, UInt8.reduceOfNat, List.getElem?_map, Int.toNat_natCast, s0, s1, e1, msgO, true_and]
    · simp only [go_sem, ↓reduceIte, reduceCtorEq, upd_ne, back_new (no_at), Nat.reduceAdd, Nat.reduceEqDiff, Nat.reduceMul, Nat.reduceSub, Nat.reduceLeDiff, Nat.reduceLT, Int.reduceToNat, Int.reduceLE, Int.reduceLT, Int.reduceEq, UInt8.reduceOfNat, List.getElem?_map, Int.toNat_natCast, s0, c0, msgO, true_and]
  by_cases k0 : k = 0
  · subst k0
    by_cases c0 : c = 0
    · subst c0
      have s1 := hsd 129 0 r hr
      simp only [go_sem, ↓reduceIte, reduceCtorEq, upd_ne, back_new (no_at), Nat.reduceAdd, Nat.reduceEqDiff, Nat.reduceMul, Nat.reduceSub, Nat.reduceLeDiff, Nat.reduceLT, Int.reduceToNat, Int.reduceLE, Int.reduceLT, Int.reduceEq, UInt8.reduceOfNat, List.getElem?_map, Int.toNat_natCast, s0, s1, e1, msgO, true_and]
    · simp only [go_sem, ↓reduceIte, reduceCtorEq, upd_ne, back_new (no_at), Nat.reduceAdd, Nat.reduceEqDiff, Nat.reduceMul, Nat.reduceSub, Nat.reduceLeDiff, Nat.reduceLT, Int.reduceToNat, Int.reduceLE, Int.reduceLT, Int.reduceEq, UInt8.reduceOfNat, List.getElem?_map, Int.toNat_natCast, s0, c0, msgO, true_and]
  by_cases k3 : k = 3
  · subst k3
    have hl := ev_lost6 hS n 3 c r m4 m6 len d hr hs
    have hx : ∀ X : Option (Int × Int × Int), ∃ m b, msgO X d = .tup [m, .bool b] ∧ ∃ k' c' r' d', m = msgLV k' c' r' d' := fun X => by
      cases X with
      | none => exact ⟨_, _, rfl, _, _, _, _, rfl⟩
      | some q => obtain ⟨x, y, z⟩ := q; exact ⟨_, _, rfl, _, _, _, _, rfl⟩
    obtain ⟨m, b, hm, k', c', r', d', rfl⟩ := hx (los6 c r m4 m6 len)
    rw [hm] at hl
    have g1 : ¬ ((3 : Int) = 8 ∧ c = 0) := by omega
    have g2 : ¬ ((3 : Int) = 0 ∧ c = 0) := by omega
    rw [if_neg g1, if_neg g2, if_pos rfl, hm]
    simp only [go_sem, ↓reduceIte, reduceCtorEq, upd_ne, back_new (no_at), Nat.reduceAdd, Nat.reduceEqDiff, Nat.reduceMul, Nat.reduceSub, Nat.reduceLeDiff, Nat.reduceLT, Int.reduceToNat, Int.reduceLE, Int.reduceLT, Int.reduceEq, UInt8.reduceOfNat, List.getElem?_map, Int.toNat_natCast, s0, hl]
  by_cases k11 : k = 11
  · subst k11
    by_cases c0 : c = 0
    · subst c0
      have s1 := hsd 3 0 0 (by omega)
      simp only [go_sem, ↓reduceIte, reduceCtorEq, upd_ne, back_new (no_at), Nat.reduceAdd, Nat.reduceEqDiff, Nat.reduceMul, Nat.reduceSub, Nat.reduceLeDiff, Nat.reduceLT, Int.reduceToNat, Int.reduceLE, Int.reduceLT, Int.reduceEq, UInt8.reduceOfNat, List.getElem?_map, Int.toNat_natCast, s0, s1, msgO, true_and]
    · by_cases c1 : c = 1
      · subst c1
        have s1 := hsd 3 1 0 (by omega)
        simp only [go_sem, ↓reduceIte, reduceCtorEq, upd_ne, back_new (no_at), Nat.reduceAdd, Nat.reduceEqDiff, Nat.reduceMul, Nat.reduceSub, Nat.reduceLeDiff, Nat.reduceLT, Int.reduceToNat, Int.reduceLE, Int.reduceLT, Int.reduceEq, UInt8.reduceOfNat, List.getElem?_map, Int.toNat_natCast, s0, s1, msgO, true_and]
      · simp only [go_sem, ↓reduceIte, reduceCtorEq, upd_ne, back_new (no_at), Nat.reduceAdd, Nat.reduceEqDiff, Nat.reduceMul, Nat.reduceSub, Nat.reduceLeDiff, Nat.reduceLT, Int.reduceToNat, Int.reduceLE, Int.reduceLT, Int.reduceEq, UInt8.reduceOfNat, List.getElem?_map, Int.toNat_natCast, s0, c0, c1, msgO, true_and]
  by_cases k12 : k = 12
  · subst k12
    have e2 : Int.fdiv r (2 ^ min 24 32) = r / 16777216 := by rw [show min 24 32 = 24 from rfl, Int.fdiv_eq_ediv_of_nonneg _ (by decide)]; rfl
    have e3 : IntKind.i64.wrap (r / 16777216) = r / 16777216 := wrap_id (by omega) (by omega)
    have hp := ev_poi6 hS (n + 1) (r / 16777216)
    by_cases cc : c = 0 ∨ c = 2
    · cases hq : poi6 (r / 16777216) with
      | none =>
        rw [hq] at hp
        rcases cc with rfl | rfl <;> simp only [go_sem, ↓reduceIte, reduceCtorEq, upd_ne, back_new (no_at), Nat.reduceAdd, Nat.reduceEqDiff, Nat.reduceMul, Nat.reduceSub, Nat.reduceLeDiff, Nat.reduceLT, Int.reduceToNat, Int.reduceLE, Int.reduceLT, Int.reduceEq, UInt8.reduceOfNat, List.getElem?_map, Int.toNat_natCast, s0, e2, e3, hp, hq, msgO, true_and, Option.map_none]
      | some y =>
        rw [hq] at hp
        have hy := poi6_le hq
        have s1 := hsd 4 0 y (by omega)
        rcases cc with rfl | rfl <;> simp only [go_sem, ↓reduceIte, reduceCtorEq, upd_ne, back_new (no_at), Nat.reduceAdd, Nat.reduceEqDiff, Nat.reduceMul, Nat.reduceSub, Nat.reduceLeDiff, Nat.reduceLT, Int.reduceToNat, Int.reduceLE, Int.reduceLT, Int.reduceEq, UInt8.reduceOfNat, List.getElem?_map, Int.toNat_natCast, s0, e2, e3, hp, hq, s1, msgO, true_and, Option.map_some]
    · have c0 : ¬ c = 0 := fun h => cc (.inl h)
      have c2 : ¬ c = 2 := fun h => cc (.inr h)
      simp only [go_sem, ↓reduceIte, reduceCtorEq, upd_ne, back_new (no_at), Nat.reduceAdd, Nat.reduceEqDiff, Nat.reduceMul, Nat.reduceSub, Nat.reduceLeDiff, Nat.reduceLT, Int.reduceToNat, Int.reduceLE, Int.reduceLT, Int.reduceEq, UInt8.reduceOfNat, List.getElem?_map, Int.toNat_natCast, s0, c0, c2, msgO, true_and]
  simp only [go_sem, ↓reduceIte, reduceCtorEq, upd_ne, back_new (no_at), Nat.reduceAdd, Nat.reduceEqDiff, Nat.reduceMul, Nat.reduceSub, Nat.reduceLeDiff, Nat.reduceLT, Int.reduceToNat, Int.reduceLE, Int.reduceLT, Int.reduceEq, UInt8.reduceOfNat, List.getElem?_map, Int.toNat_natCast, s0, k8, k0, k3, k11, k12, msgO, false_and]
theorem ev_lost4 (k c r : Int) (d : List UInt8) : S.ev (n + 2) id_icmpmap_lost4 [msgLV k c r d] none = some (msgO (los4 c) d, none) := by
  rw [Sys.step hS.h_icmpmap_lost4, F_icmpmap_lost4_eq]
  unfold F_icmpmap_lost4
  have hsd : ∀ k' c' r' : Int, (0 ≤ r' ∧ r' < 4294967296) → S.ev (n + 1) id_icmpmap_said [msgLV k c r d, .int .i64 k', .int .i64 c', .int .i64 r'] none = some (.tup [msgLV k' c' r' d, .bool true], none) := fun k' c' r' h => ev_said hS n k c r k' c' r' d h
  have s1 := hsd 3 1 0 (by omega)
  have s2 := hsd 3 10 0 (by omega)
  have s3 := hsd 3 3 0 (by omega)
  (try simp only [guard_merge, or_merge, and_merge, or_pick, and_pick, guard_or, guard_and]); simp only [to_ob]
  by_cases c0 : c = 0
  · subst c0
    simp only [go_sem, ↓reduceIte, reduceCtorEq, upd_ne, back_new (no_at), Nat.reduceAdd, Nat.reduceEqDiff, Nat.reduceMul, Nat.reduceSub, Nat.reduceLeDiff, Nat.reduceLT, Int.reduceToNat, Int.reduceLE, Int.reduceLT, Int.reduceEq, UInt8.reduceOfNat, List.getElem?_map, Int.toNat_natCast, s1, s2, s3]
    rfl
  by_cases c2 : c = 2
  · subst c2
    simp only [go_sem, ↓reduceIte, reduceCtorEq, upd_ne, back_new (no_at), Nat.reduceAdd, Nat.reduceEqDiff, Nat.reduceMul, Nat.reduceSub, Nat.reduceLeDiff, Nat.reduceLT, Int.reduceToNat, Int.reduceLE, Int.reduceLT, Int.reduceEq, UInt8.reduceOfNat, List.getElem?_map, Int.toNat_natCast, s1, s2, s3]
    rfl
  by_cases c3 : c = 3
  · subst c3
    simp only [go_sem, ↓reduceIte, reduceCtorEq, upd_ne, back_new (no_at), Nat.reduceAdd, Nat.reduceEqDiff, Nat.reduceMul, Nat.reduceSub, Nat.reduceLeDiff, Nat.reduceLT, Int.reduceToNat, Int.reduceLE, Int.reduceLT, Int.reduceEq, UInt8.reduceOfNat, List.getElem?_map, Int.toNat_natCast, s1, s2, s3]
    rfl
  by_cases c1 : c = 1
  · subst c1
    simp only [go_sem, ↓reduceIte, reduceCtorEq, upd_ne, back_new (no_at), Nat.reduceAdd, Nat.reduceEqDiff, Nat.reduceMul, Nat.reduceSub, Nat.reduceLeDiff, Nat.reduceLT, Int.reduceToNat, Int.reduceLE, Int.reduceLT, Int.reduceEq, UInt8.reduceOfNat, List.getElem?_map, Int.toNat_natCast, s1, s2, s3]
    rfl
  by_cases c4 : c = 4
  · subst c4
    simp only [go_sem, ↓reduceIte, reduceCtorEq, upd_ne, back_new (no_at), Nat.reduceAdd, Nat.reduceEqDiff, Nat.reduceMul, Nat.reduceSub, Nat.reduceLeDiff, Nat.reduceLT, Int.reduceToNat, Int.reduceLE, Int.reduceLT, Int.reduceEq, UInt8.reduceOfNat, List.getElem?_map, Int.toNat_natCast, s1, s2, s3]
    rfl
  have hL : los4 c = none := by unfold los4; repeat' split
                                all_goals first | rfl | (exfalso; omega)
  rw [hL]
  simp only [go_sem, ↓reduceIte, reduceCtorEq, upd_ne, back_new (no_at), Nat.reduceAdd, Nat.reduceEqDiff, Nat.reduceMul, Nat.reduceSub, Nat.reduceLeDiff, Nat.reduceLT, Int.reduceToNat, Int.reduceLE, Int.reduceLT, Int.reduceEq, UInt8.reduceOfNat, List.getElem?_map, Int.toNat_natCast, c0, c2, c3, c1, c4, msgO]
theorem ev_to4 (k c r m4 m6 : Int) (d : List UInt8) (hr : 0 ≤ r ∧ r < 4294967296) : S.ev (n + 3) id_icmpmap_To4 [msgLV k c r d, .int .i64 m4, .int .i64 m6] none = some (msgO (to4S k c r m4 m6) d, none) := by
  rw [Sys.step hS.h_icmpmap_To4, F_icmpmap_To4_eq]
  unfold F_icmpmap_To4
  have hsd : ∀ k' c' r' : Int, (0 ≤ r' ∧ r' < 4294967296) → S.ev (n + 2) id_icmpmap_said [msgLV k c r d, .int .i64 k', .int .i64 c', .int .i64 r'] none = some (.tup [msgLV k' c' r' d, .bool true], none) := fun k' c' r' h => ev_said hS (n + 1) k c r k' c' r' d h
  have s0 := ev_sides hS (n + 1) m4 m6
  have e1 : IntKind.i64.wrap r = r := wrap_id (by omega) (by omega)
  (try simp only [guard_merge, or_merge, and_merge, or_pick, and_pick, guard_or, guard_and]); simp only [to_ob]
  unfold to4S
  by_cases hs : sid m4 m6
  case neg =>
    rw [decide_eq_false hs] at s0
    rw [if_pos hs]
    simp only [go_sem, ↓reduceIte, reduceCtorEq, upd_ne, back_new (no_at), Nat.reduceAdd, Nat.reduceEqDiff, Nat.reduceMul, Nat.reduceSub, Nat.reduceLeDiff, Nat.reduceLT, Int.reduceToNat, Int.reduceLE, Int.reduceLT, Int.reduceEq, UInt8.reduceOfNat, List.getElem?_map, Int.toNat_natCast, s0, msgO]
  rw [decide_eq_true hs] at s0
  rw [if_neg (not_not_intro hs)]
  unfold sid at hs
  by_cases k128 : k = 128
  · subst k128
    by_cases c0 : c = 0
    · subst c0
      have s1 := hsd 8 0 r hr
      simp only [go_sem, ↓reduceIte, reduceCtorEq, upd_ne, back_new (no_at), Nat.reduceAdd, Nat.reduceEqDiff, Nat.reduceMul, Nat.reduceSub, Nat.reduceLeDiff, Nat.reduceLT, Int.reduceToNat, Int.reduceLE, Int.reduceLT, Int.reduceEq, UInt8.reduceOfNat, List.getElem?_map, Int.toNat_natCast, s0, s1, e1, msgO, true_and]
    · simp only [go_sem, ↓reduceIte, reduceCtorEq, upd_ne, back_new (no_at), Nat.reduceAdd, Nat.reduceEqDiff, Nat.reduceMul, Nat.reduceSub, Nat.reduceLeDiff, Nat.reduceLT, Int.reduceToNat, Int.reduceLE, Int.reduceLT, Int.reduceEq, UInt8.reduceOfNat, List.getElem?_map, Int.toNat_natCast, s0, c0, msgO, true_and]
  by_cases k129 : k = 129
  · subst k129
    by_cases c0 : c = 0
    · subst c0
      have s1 := hsd 0 0 r hr
      simp only [go_sem, ↓reduceIte, reduceCtorEq, upd_ne, back_new (no_at), Nat.reduceAdd, Nat.reduceEqDiff, Nat.reduceMul, Nat.reduceSub, Nat.reduceLeDiff, Nat.reduceLT, Int.reduceToNat, Int.reduceLE, Int.reduceLT, Int.reduceEq, UInt8.reduceOfNat, List.getElem?_map, Int.toNat_natCast, s0, s1, e1, msgO, true_and]
    · simp only [go_sem, ↓reduceIte, reduceCtorEq, upd_ne, back_new (no_at), Nat.reduceAdd, Nat.reduceEqDiff, Nat.reduceMul, Nat.reduceSub, Nat.reduceLeDiff, Nat.reduceLT, Int.reduceToNat, Int.reduceLE, Int.reduceLT, Int.reduceEq, UInt8.reduceOfNat, List.getElem?_map, Int.toNat_natCast, s0, c0, msgO, true_and]
  by_cases k1 : k = 1
  · subst k1
    have hl := ev_lost4 hS n 1 c r d
    have hx : ∀ X : Option (Int × Int × Int), ∃ m b, msgO X d = .tup [m, .bool b] ∧ ∃ k' c' r' d', m = msgLV k' c' r' d' := fun X => by
      cases X with
      | none => exact ⟨_, _, rfl, _, _, _, _, rfl⟩
      | some q => obtain ⟨x, y, z⟩ := q; exact ⟨_, _, rfl, _, _, _, _, rfl⟩
    obtain ⟨m, b, hm, k', c', r', d', rfl⟩ := hx (los4 c)
    rw [hm] at hl
    have g1 : ¬ ((1 : Int) = 128 ∧ c = 0) := by omega
    have g2 : ¬ ((1 : Int) = 129 ∧ c = 0) := by omega
    rw [if_neg g1, if_neg g2, if_pos rfl, hm]
    simp only [go_sem, ↓reduceIte, reduceCtorEq, upd_ne, back_new (no_at), Nat.reduceAdd, Nat.reduceEqDiff, Nat.reduceMul, Nat.reduceSub, Nat.reduceLeDiff, Nat.reduceLT, Int.reduceToNat, Int.reduceLE, Int.reduceLT, Int.reduceEq, UInt8.reduceOfNat, List.getElem?_map, Int.toNat_natCast, s0, hl]
  by_cases k2 : k = 2
  · subst k2
    by_cases c0 : c = 0
    · subst c0
      have e4 : IntKind.i64.wrap (r - 20) = r - 20 := wrap_id (by omega) (by omega)
      have e5 : IntKind.i64.wrap (m6 - 20) = m6 - 20 := wrap_id (by omega) (by omega)
      have m1 : (if m4 < r - 20 then m4 else r - 20) = min (r - 20) m4 := by split <;> omega
      have m2 : (if m6 - 20 < min (r - 20) m4 then m6 - 20 else min (r - 20) m4) = min (min (r - 20) m4) (m6 - 20) := by split <;> omega
      have m3 : (if min (min (r - 20) m4) (m6 - 20) < 68 then 68 else min (min (r - 20) m4) (m6 - 20)) = max (min (min (r - 20) m4) (m6 - 20)) 68 := by split <;> omega
      have m5 : (if 65535 < max (min (min (r - 20) m4) (m6 - 20)) 68 then 65535 else max (min (min (r - 20) m4) (m6 - 20)) 68) = mtu4O r m4 m6 := by unfold mtu4O; split <;> omega
      have s1 := hsd 3 4 (mtu4O r m4 m6) (by unfold mtu4O; omega)
      simp only [go_sem, ↓reduceIte, reduceCtorEq, upd_ne, back_new (no_at), Nat.reduceAdd, Nat.reduceEqDiff, Nat.reduceMul, Nat.reduceSub, Nat.reduceLeDiff, Nat.reduceLT, Int.reduceToNat, Int.reduceLE, Int.reduceLT, Int.reduceEq, UInt8.reduceOfNat, List.getElem?_map, Int.toNat_natCast, pMinmax, pMinmax2, Option.bind_some, Bool.false_eq_true, if_true, s0, e1, e4, e5, m1, m2, m3, m5, s1, msgO, true_and]
    · simp only [go_sem, ↓reduceIte, reduceCtorEq, upd_ne, back_new (no_at), Nat.reduceAdd, Nat.reduceEqDiff, Nat.reduceMul, Nat.reduceSub, Nat.reduceLeDiff, Nat.reduceLT, Int.reduceToNat, Int.reduceLE, Int.reduceLT, Int.reduceEq, UInt8.reduceOfNat, List.getElem?_map, Int.toNat_natCast, s0, c0, msgO, true_and]
  by_cases k3 : k = 3
  · subst k3
    by_cases c0 : c = 0
    · subst c0
      have s1 := hsd 11 0 0 (by omega)
      simp only [go_sem, ↓reduceIte, reduceCtorEq, upd_ne, back_new (no_at), Nat.reduceAdd, Nat.reduceEqDiff, Nat.reduceMul, Nat.reduceSub, Nat.reduceLeDiff, Nat.reduceLT, Int.reduceToNat, Int.reduceLE, Int.reduceLT, Int.reduceEq, UInt8.reduceOfNat, List.getElem?_map, Int.toNat_natCast, s0, s1, msgO, true_and]
    · by_cases c1 : c = 1
      · subst c1
        have s1 := hsd 11 1 0 (by omega)
        simp only [go_sem, ↓reduceIte, reduceCtorEq, upd_ne, back_new (no_at), Nat.reduceAdd, Nat.reduceEqDiff, Nat.reduceMul, Nat.reduceSub, Nat.reduceLeDiff, Nat.reduceLT, Int.reduceToNat, Int.reduceLE, Int.reduceLT, Int.reduceEq, UInt8.reduceOfNat, List.getElem?_map, Int.toNat_natCast, s0, s1, msgO, true_and]
      · simp only [go_sem, ↓reduceIte, reduceCtorEq, upd_ne, back_new (no_at), Nat.reduceAdd, Nat.reduceEqDiff, Nat.reduceMul, Nat.reduceSub, Nat.reduceLeDiff, Nat.reduceLT, Int.reduceToNat, Int.reduceLE, Int.reduceLT, Int.reduceEq, UInt8.reduceOfNat, List.getElem?_map, Int.toNat_natCast, s0, c0, c1, msgO, true_and]
  by_cases k4 : k = 4
  · subst k4
    have hp := ev_poi4 hS (n + 1) r hr
    by_cases c0 : c = 0
    · subst c0
      cases hq : poi4 r with
      | none =>
        rw [hq] at hp
        simp only [go_sem, ↓reduceIte, reduceCtorEq, upd_ne, back_new (no_at), Nat.reduceAdd, Nat.reduceEqDiff, Nat.reduceMul, Nat.reduceSub, Nat.reduceLeDiff, Nat.reduceLT, Int.reduceToNat, Int.reduceLE, Int.reduceLT, Int.reduceEq, UInt8.reduceOfNat, List.getElem?_map, Int.toNat_natCast, s0, hp, hq, msgO, true_and, Option.map_none]
      | some y =>
        rw [hq] at hp
        have hy := poi4_le hq
        have s1 := hsd 12 0 (y * 16777216) (by omega)
        have e2 : IntKind.i64.wrap (y * 2 ^ min 24 64) = y * 16777216 := by rw [show min 24 64 = 24 from rfl, wrap_id (by omega) (by omega)]; omega
        simp only [go_sem, ↓reduceIte, reduceCtorEq, upd_ne, back_new (no_at), Nat.reduceAdd, Nat.reduceEqDiff, Nat.reduceMul, Nat.reduceSub, Nat.reduceLeDiff, Nat.reduceLT, Int.reduceToNat, Int.reduceLE, Int.reduceLT, Int.reduceEq, UInt8.reduceOfNat, List.getElem?_map, Int.toNat_natCast, s0, hp, hq, s1, e2, msgO, true_and, Option.map_some]
    · by_cases c1 : c = 1
      · subst c1
        have s1 := hsd 3 2 0 (by omega)
        simp only [go_sem, ↓reduceIte, reduceCtorEq, upd_ne, back_new (no_at), Nat.reduceAdd, Nat.reduceEqDiff, Nat.reduceMul, Nat.reduceSub, Nat.reduceLeDiff, Nat.reduceLT, Int.reduceToNat, Int.reduceLE, Int.reduceLT, Int.reduceEq, UInt8.reduceOfNat, List.getElem?_map, Int.toNat_natCast, s0, s1, msgO, true_and]
      · simp only [go_sem, ↓reduceIte, reduceCtorEq, upd_ne, back_new (no_at), Nat.reduceAdd, Nat.reduceEqDiff, Nat.reduceMul, Nat.reduceSub, Nat.reduceLeDiff, Nat.reduceLT, Int.reduceToNat, Int.reduceLE, Int.reduceLT, Int.reduceEq, UInt8.reduceOfNat, List.getElem?_map, Int.toNat_natCast, s0, c0, c1, msgO, true_and]
  simp only [go_sem, ↓reduceIte, reduceCtorEq, upd_ne, back_new (no_at), Nat.reduceAdd, Nat.reduceEqDiff, Nat.reduceMul, Nat.reduceSub, Nat.reduceLeDiff, Nat.reduceLT, Int.reduceToNat, Int.reduceLE, Int.reduceLT, Int.reduceEq, UInt8.reduceOfNat, List.getElem?_map, Int.toNat_natCast, s0, k128, k129, k1, k2, k3, k4, msgO, false_and]
end
end Go.Ev

/- Layer 15: an error is carried over. -/
namespace Go.Ev
set_option linter.unusedSimpArgs false
set_option linter.unusedVariables false
set_option maxRecDepth 10000
set_option maxHeartbeats 8000000
/-! What Inside6 takes. -/
def f6 (s : List UInt8) : Bool := decide ((k6 s).2.2.1 = 44)
def i6 (s : List UInt8) : Int := if f6 s = true then ((fi6 (k6 s).2.2.2 : Nat) : Int) else 0
def a6 (s : List UInt8) : Int := if f6 s = true then ((fa6 (k6 s).2.2.2 : Nat) : Int) else 0
def m6 (s : List UInt8) : Bool := f6 s && fm6 (k6 s).2.2.2
def p6 (s : List UInt8) : Int := if f6 s = true then ((bAt (k6 s).2.2.2 0 : Nat) : Int) else (k6 s).2.2.1
def d6 (s : List UInt8) : List UInt8 := dD6 (k6 s)
def c6 (s : List UInt8) : Nat := cl6 s (k6 s)
theorem mk6_eq (s : List UInt8) : mk6 s (k6 s) = ip6LV (pcl6 s) (pfl6 s) (bAt s 7 : Nat) (pfr6 s) (pto6 s) (extsLV (k6 s).2.1) (f6 s) (i6 s) (a6 s) (m6 s) (p6 s) (d6 s) := by
  unfold mk6 f6 i6 a6 m6 p6 d6 dD6 f6
  by_cases h : (k6 s).2.2.1 = 44
  · simp only [h, if_true, decide_true, Bool.true_and]
  · simp only [h, if_false, decide_false, Bool.false_and, Bool.false_eq_true]
structure In6 (s : List UInt8) : Prop where
  h40 : 40 ≤ s.length
  hv : bAt s 0 / 16 = 6
  hk : (k6 s).1 = 0
  h8 : f6 s = true → 8 ≤ (k6 s).2.2.2.length
  hd : min 8 (c6 s) ≤ (d6 s).length
theorem iK6_zero {s : List UInt8} : iK6 s = 0 ↔ In6 s := by
  unfold iK6 iR6
  constructor
  · intro h
    split at h; · omega
    split at h; · omega
    split at h
    · rename_i h3; omega
    split at h; · omega
    split at h; · omega
    rename_i h1 h2 h3 h4 h5
    refine ⟨by omega, by omega, Classical.not_not.1 h3, fun q => ?_, ?_⟩
    · have : (k6 s).2.2.1 = 44 := of_decide_eq_true q
      apply Classical.byContradiction
      intro q2
      exact h4 ⟨this, by omega⟩
    · unfold c6 d6; omega
  · intro h
    have h1 := h.h40; have h2 := h.hv; have h5 := h.hd
    unfold c6 d6 at h5
    rw [if_neg (by omega), if_neg (by omega), if_neg (fun q => q h.hk), if_neg ?_, if_neg (by omega)]
    rintro ⟨q1, q2⟩
    have := h.h8 (decide_eq_true q1)
    omega
theorem In6.lv {s : List UInt8} (h : In6 s) : iLV6 s = ip6LV (pcl6 s) (pfl6 s) (bAt s 7 : Nat) (pfr6 s) (pto6 s) (extsLV (k6 s).2.1) (f6 s) (i6 s) (a6 s) (m6 s) (p6 s) (d6 s) := by
  unfold iLV6; rw [if_pos (iK6_zero.2 h), mk6_eq]
theorem In6.cl {s : List UInt8} (h : In6 s) : iC6 s = (c6 s : Int) := by unfold iC6; rw [if_pos (iK6_zero.2 h)]; rfl
theorem In6.fr {s : List UInt8} (h : In6 s) : (pfr6 s).length = 16 := by have := h.h40; unfold pfr6; simp; omega
theorem In6.to {s : List UInt8} (h : In6 s) : (pto6 s).length = 16 := by have := h.h40; unfold pto6; simp; omega
theorem pcl6_le (s : List UInt8) : 0 ≤ pcl6 s ∧ pcl6 s ≤ 255 := by unfold pcl6; omega
theorem i6_le (s : List UInt8) : 0 ≤ i6 s ∧ i6 s < 4294967296 := by
  unfold i6
  have h : fi6 (k6 s).2.2.2 < 4294967296 := num4_lt _
  split <;> omega
theorem a6_le (s : List UInt8) : 0 ≤ a6 s ∧ a6 s ≤ 65528 ∧ a6 s % 8 = 0 := by
  unfold a6 fa6
  have h := wAt_le (k6 s).2.2.2 2
  split <;> omega
theorem d6_le (s : List UInt8) : (d6 s).length ≤ c6 s ∧ c6 s ≤ 65535 := by
  unfold d6 c6 cl6
  have h1 : (k6 s).2.2.2.length ≤ (th6 s).length := chC_rest _ _ _ _
  have h2 : (dD6 (k6 s)).length ≤ (k6 s).2.2.2.length := by unfold dD6; split <;> simp
  have h3 : (th6 s).length ≤ wAt s 4 := by unfold th6; rw [List.length_take]; omega
  have h4 := wAt_le s 4
  omega
theorem ex6_le (s : List UInt8) : (k6 s).2.1.length ≤ 8 := chC_len _ _ _ _
/-! Carried over. -/
def isF6 (k : Int) : Bool := decide (1 ≤ k ∧ k ≤ 127)
def carO (x : Option ((Int × Int × Int) × List UInt8)) : LV := match x with
  | some ((k, c, r), d) => .tup [msgLV k c r d, .bool true]
  | none => .tup [msgLV 0 0 0 [], .bool false]
def ca6 (k c r : Int) (d : List UInt8) (mt4 mt6 : Int) (a b : List UInt8) (p q : Int) : Option ((Int × Int × Int) × List UInt8) :=
  if iK4 d ≠ 0 ∨ isF4 k = false then none else
  if q6K (bAt d 9 : Nat) (pat4 d) (pmo4 d) (wAt d 2 - n4 d) p q ≠ 0 then none else
  (to6S k c r mt4 mt6 (wAt d 2 : Nat)).map fun x => (x, (q6B (bAt d 1 : Nat) (wAt d 4 : Nat) (bAt d 8 : Nat) (bAt d 9 : Nat) (pat4 d) (pmo4 d) (pfr4 d) (pto4 d) (pda4 d) a b (wAt d 2 - n4 d) p q).take 1232)
def ca4 (k c r : Int) (d : List UInt8) (mt4 mt6 : Int) (a b : List UInt8) (p q : Int) : Option ((Int × Int × Int) × List UInt8) :=
  if iK6 d ≠ 0 ∨ isF6 k = false then none else
  if q4K (p6 d) (a6 d) (c6 d) p q ≠ 0 then none else
  (to4S k c r mt4 mt6).map fun x => (x, (q4B (pcl6 d) (bAt d 7 : Nat) (p6 d) (a6 d) (f6 d) (m6 d) (i6 d) (pfr6 d) (pto6 d) (d6 d) a b (c6 d) p q).take (min 576 mt4 - 28).toNat)
theorem to6S_sid {k c r a b l : Int} {x : Int × Int × Int} (h : to6S k c r a b l = some x) : sid a b := by
  apply Classical.byContradiction
  intro q; unfold to6S at h; rw [if_pos q] at h; cases h
theorem to4S_sid {k c r a b : Int} {x : Int × Int × Int} (h : to4S k c r a b = some x) : sid a b := by
  apply Classical.byContradiction
  intro q; unfold to4S at h; rw [if_pos q] at h; cases h
section
variable {S : Sys} (hS : Has S) (n : Nat)
include hS
theorem ev_failure6 (k c r : Int) (d : List UInt8) : S.ev (n + 1) id_icmp6_Failure [msgLV k c r d] none = some (.bool (isF6 k), none) := by
  rw [Sys.step hS.h_icmp6_Failure, F_icmp6_Failure_eq]
  unfold F_icmp6_Failure isF6
  (try simp only [guard_merge, or_merge, and_merge, or_pick, and_pick, guard_or, guard_and]); simp only [to_ob]
  simp only [go_sem, ↓reduceIte, reduceCtorEq, upd_ne, back_new (no_at), Nat.reduceAdd, Nat.reduceEqDiff, Nat.reduceMul, Nat.reduceSub, Nat.reduceLeDiff, Nat.reduceLT, Int.reduceToNat, Int.reduceLE, Int.reduceLT, Int.reduceEq, UInt8.reduceOfNat]
  rw [← Bool.decide_and]
theorem ev_carry6 {k c r : Int} {d : List UInt8} {mt4 mt6 : Int} {a b : List UInt8} {p q : Int} (hd : d.length ≤ 100000) (hr : 0 ≤ r ∧ r < 4294967296) (ha : a.length = 16) (hb : b.length = 16) :
    S.ev (n + 7) id_fault_Carry6 [msgLV k c r d, .int .i64 mt4, .int .i64 mt6, .agg [.bytes a, .int .i64 p], .agg [.bytes b, .int .i64 q]] none = some (carO (ca6 k c r d mt4 mt6 a b p q), none) := by
  rw [Sys.step hS.h_fault_Carry6, F_fault_Carry6_eq]
  unfold F_fault_Carry6
  have h1 := ev_inside4 hS (n + 2) d (by omega)
  have hf := ev_failure4 hS (n + 5) k c r d
  unfold ca6
  (try simp only [guard_merge, or_merge, and_merge, or_pick, and_pick, guard_or, guard_and]); simp only [to_ob]
  by_cases k0 : iK4 d = 0
  case neg =>
    unfold iLV4 iC4 at h1
    rw [if_neg k0, if_neg k0] at h1
    unfold fE at h1
    rw [if_neg k0] at h1
    rw [if_pos (.inl k0)]
    simp only [go_sem, ↓reduceIte, reduceCtorEq, upd_ne, back_new (no_at), Nat.reduceAdd, Nat.reduceEqDiff, Nat.reduceMul, Nat.reduceSub, Nat.reduceLeDiff, Nat.reduceLT, Int.reduceToNat, Int.reduceLE, Int.reduceLT, Int.reduceEq, UInt8.reduceOfNat, List.getElem?_map, Int.toNat_natCast, h1, carO]
  have hI := iK4_zero.1 k0
  have hC : iC4 d = ((wAt d 2 - n4 d : Nat) : Int) := by unfold iC4; rw [if_pos k0]
  have hL : iLV4 d = ip4LV (bAt d 1) (wAt d 4) (bAt d 8) (bAt d 9) (pat4 d) (pdf4 d) (pmo4 d) (pfr4 d) (pto4 d) (pop4 d) (pda4 d) := by unfold iLV4; rw [if_pos k0]
  have hfr := hI.fr
  have hto := hI.to
  have hop := hI.op
  have hn20 := hI.hn
  have hnl := hI.hl
  have hna := hI.ha
  have hdl := pda4_len d
  have hat := hI.at
  have hb1 := bAt_le d 1
  have hb8 := bAt_le d 8
  have hw4 := wAt_le d 4
  have hw2 := wAt_le d 2
  rw [hC, hL, k0] at h1
  cases hk : isF4 k with
  | false =>
    rw [hk] at hf
    rw [if_pos (.inr rfl)]
    simp only [go_sem, ↓reduceIte, reduceCtorEq, upd_ne, back_new (no_at), Nat.reduceAdd, Nat.reduceEqDiff, Nat.reduceMul, Nat.reduceSub, Nat.reduceLeDiff, Nat.reduceLT, Int.reduceToNat, Int.reduceLE, Int.reduceLT, Int.reduceEq, UInt8.reduceOfNat, List.getElem?_map, Int.toNat_natCast, h1, hf, hfr, hto, carO, fE]
  | true =>
    rw [hk] at hf
    rw [if_neg (by simp [k0])]
    have e1 : IntKind.i64.wrap (20 + ((pop4 d).length : Int)) = ((n4 d : Nat) : Int) := by rw [wrap_id (by omega) (by omega)]; omega
    have e2 : IntKind.i64.wrap (((n4 d : Nat) : Int) + ((wAt d 2 - n4 d : Nat) : Int)) = ((wAt d 2 : Nat) : Int) := by rw [wrap_id (by omega) (by omega)]; omega
    have hT := ev_to6 hS (n + 3) k c r mt4 mt6 (wAt d 2 : Nat) d hr
    have hq' := ev_quote6 hS n (tos := (bAt d 1 : Nat)) (id := (wAt d 4 : Nat)) (ttl := (bAt d 8 : Nat)) (pt := (bAt d 9 : Nat)) (at' := pat4 d) (df := pdf4 d) (mo := pmo4 d) (fr := pfr4 d) (to := pto4 d) (op := pop4 d) (da := pda4 d) (a := a) (b := b) (claim := wAt d 2 - n4 d) (p := p) (q := q) hfr hto ha hb (by omega) (by omega) (by omega) hat (by omega) (by omega)
    unfold q6R at hq'
    generalize q6K (bAt d 9 : Nat) (pat4 d) (pmo4 d) (wAt d 2 - n4 d) p q = K at *
    generalize hQ : q6B (bAt d 1 : Nat) (wAt d 4 : Nat) (bAt d 8 : Nat) (bAt d 9 : Nat) (pat4 d) (pmo4 d) (pfr4 d) (pto4 d) (pda4 d) a b (wAt d 2 - n4 d) p q = Q at *
    have mm : (if (1232 : Int) < (Q.length : Int) then 1232 else (Q.length : Int)) = ((min Q.length 1232 : Nat) : Int) := by split <;> omega
    have ml : min Q.length 1232 ≤ Q.length := Nat.min_le_left _ _
    have mt : Q.take (min Q.length 1232) = Q.take 1232 := by
      by_cases c : Q.length ≤ 1232
      · rw [Nat.min_eq_left c, List.take_length, List.take_of_length_le c]
      · rw [Nat.min_eq_right (by omega)]
    by_cases kk : K = 0
    · subst kk
      rw [if_pos rfl] at hq'
      rw [if_neg (by simp)]
      cases hX : to6S k c r mt4 mt6 (wAt d 2 : Nat) with
      | none =>
        rw [hX] at hT
        unfold msgO at hT
        simp only [go_sem, ↓reduceIte, reduceCtorEq, upd_ne, back_new (no_at), Nat.reduceAdd, Nat.reduceEqDiff, Nat.reduceMul, Nat.reduceSub, Nat.reduceLeDiff, Nat.reduceLT, Int.reduceToNat, Int.reduceLE, Int.reduceLT, Int.reduceEq, UInt8.reduceOfNat, List.getElem?_map, Int.toNat_natCast, h1, hf, hfr, hto, ha, hb, e1, e2, hT, hq', carO, fE, Option.map_none]
      | some x =>
        obtain ⟨k', c', r'⟩ := x
        rw [hX] at hT
        unfold msgO at hT
        simp only [go_sem, ↓reduceIte, reduceCtorEq, upd_ne, back_new (no_at), Nat.reduceAdd, Nat.reduceEqDiff, Nat.reduceMul, Nat.reduceSub, Nat.reduceLeDiff, Nat.reduceLT, Int.reduceToNat, Int.reduceLE, Int.reduceLT, Int.reduceEq, UInt8.reduceOfNat, List.getElem?_map, Int.toNat_natCast, pMinmax, pMinmax2, Option.bind_some, Bool.false_eq_true, h1, hf, hfr, hto, ha, hb, e1, e2, hT, hq', mm, ml, mt, carO, fE, Option.map_some, Nat.sub_zero, List.drop_zero]
    · rw [if_neg kk] at hq'
      rw [if_pos kk]
      unfold fE at hq'
      rw [if_neg kk] at hq'
      cases hX : to6S k c r mt4 mt6 (wAt d 2 : Nat) with
      | none =>
        rw [hX] at hT
        unfold msgO at hT
        simp only [go_sem, ↓reduceIte, reduceCtorEq, upd_ne, back_new (no_at), Nat.reduceAdd, Nat.reduceEqDiff, Nat.reduceMul, Nat.reduceSub, Nat.reduceLeDiff, Nat.reduceLT, Int.reduceToNat, Int.reduceLE, Int.reduceLT, Int.reduceEq, UInt8.reduceOfNat, List.getElem?_map, Int.toNat_natCast, h1, hf, hfr, hto, ha, hb, e1, e2, hT, hq', carO, fE]
      | some x =>
        obtain ⟨k', c', r'⟩ := x
        rw [hX] at hT
        unfold msgO at hT
        simp only [go_sem, ↓reduceIte, reduceCtorEq, upd_ne, back_new (no_at), Nat.reduceAdd, Nat.reduceEqDiff, Nat.reduceMul, Nat.reduceSub, Nat.reduceLeDiff, Nat.reduceLT, Int.reduceToNat, Int.reduceLE, Int.reduceLT, Int.reduceEq, UInt8.reduceOfNat, List.getElem?_map, Int.toNat_natCast, h1, hf, hfr, hto, ha, hb, e1, e2, hT, hq', carO, fE]
theorem ev_carry4 {k c r : Int} {d : List UInt8} {mt4 mt6 : Int} {a b : List UInt8} {p q : Int} (hd : d.length ≤ 100000) (hr : 0 ≤ r ∧ r < 4294967296) (ha : a.length = 4) (hb : b.length = 4) :
    S.ev (n + 7) id_fault_Carry4 [msgLV k c r d, .int .i64 mt4, .int .i64 mt6, .agg [.bytes a, .int .i64 p], .agg [.bytes b, .int .i64 q]] none = some (carO (ca4 k c r d mt4 mt6 a b p q), none) := by
  rw [Sys.step hS.h_fault_Carry4, F_fault_Carry4_eq]
  unfold F_fault_Carry4
  have h1 := ev_inside6 hS (n + 2) d (by omega)
  have hf := ev_failure6 hS (n + 5) k c r d
  unfold ca4
  (try simp only [guard_merge, or_merge, and_merge, or_pick, and_pick, guard_or, guard_and]); simp only [to_ob]
  by_cases k0 : iK6 d = 0
  case neg =>
    unfold iLV6 iC6 at h1
    rw [if_neg k0, if_neg k0] at h1
    unfold fE at h1
    rw [if_neg k0] at h1
    rw [if_pos (.inl k0)]
    simp only [go_sem, ↓reduceIte, reduceCtorEq, upd_ne, back_new (no_at), Nat.reduceAdd, Nat.reduceEqDiff, Nat.reduceMul, Nat.reduceSub, Nat.reduceLeDiff, Nat.reduceLT, Int.reduceToNat, Int.reduceLE, Int.reduceLT, Int.reduceEq, UInt8.reduceOfNat, List.getElem?_map, Int.toNat_natCast, h1, carO]
  have hI := iK6_zero.1 k0
  have hfr := hI.fr
  have hto := hI.to
  have hdl := d6_le d
  have hat := a6_le d
  have hid := i6_le d
  have hcl := pcl6_le d
  have hb7 := bAt_le d 7
  rw [hI.cl, hI.lv, k0] at h1
  cases hk : isF6 k with
  | false =>
    rw [hk] at hf
    rw [if_pos (.inr rfl)]
    simp only [go_sem, ↓reduceIte, reduceCtorEq, upd_ne, back_new (no_at), Nat.reduceAdd, Nat.reduceEqDiff, Nat.reduceMul, Nat.reduceSub, Nat.reduceLeDiff, Nat.reduceLT, Int.reduceToNat, Int.reduceLE, Int.reduceLT, Int.reduceEq, UInt8.reduceOfNat, List.getElem?_map, Int.toNat_natCast, h1, hf, hfr, hto, carO, fE]
  | true =>
    rw [hk] at hf
    rw [if_neg (by simp [k0])]
    have hT := ev_to4 hS (n + 3) k c r mt4 mt6 d hr
    have hq' := ev_quote4 hS n (cl := pcl6 d) (fl := pfl6 d) (ho := (bAt d 7 : Nat)) (fr := pfr6 d) (to := pto6 d) (ex := (k6 d).2.1) (fg := f6 d) (id := i6 d) (at' := a6 d) (mo := m6 d) (pt := p6 d) (da := d6 d) (a := a) (b := b) (claim := c6 d) (p := p) (q := q) hfr hto ha hb hcl (by omega) hid hat hdl.1 hdl.2
    unfold q4R at hq'
    generalize q4K (p6 d) (a6 d) (c6 d) p q = K at *
    generalize q4B (pcl6 d) (bAt d 7 : Nat) (p6 d) (a6 d) (f6 d) (m6 d) (i6 d) (pfr6 d) (pto6 d) (d6 d) a b (c6 d) p q = Q at *
    by_cases kk : K = 0
    · subst kk
      rw [if_pos rfl] at hq'
      rw [if_neg (by simp)]
      cases hX : to4S k c r mt4 mt6 with
      | none =>
        rw [hX] at hT
        unfold msgO at hT
        simp only [go_sem, ↓reduceIte, reduceCtorEq, upd_ne, back_new (no_at), Nat.reduceAdd, Nat.reduceEqDiff, Nat.reduceMul, Nat.reduceSub, Nat.reduceLeDiff, Nat.reduceLT, Int.reduceToNat, Int.reduceLE, Int.reduceLT, Int.reduceEq, UInt8.reduceOfNat, List.getElem?_map, Int.toNat_natCast, h1, hf, hfr, hto, ha, hb, hT, hq', carO, fE, Option.map_none]
      | some x =>
        have hs := to4S_sid hX
        unfold sid at hs
        obtain ⟨k', c', r'⟩ := x
        rw [hX] at hT
        unfold msgO at hT
        have m1 : (if mt4 < 576 then mt4 else 576) = min 576 mt4 := by split <;> omega
        have e3 : IntKind.i64.wrap (min 576 mt4 - 20) = min 576 mt4 - 20 := wrap_id (by omega) (by omega)
        have e4 : IntKind.i64.wrap (min 576 mt4 - 20 - 8) = (((min 576 mt4 - 28).toNat : Nat) : Int) := by rw [wrap_id (by omega) (by omega)]; omega
        generalize (min 576 mt4 - 28).toNat = R at *
        have mm : (if (R : Int) < (Q.length : Int) then (R : Int) else (Q.length : Int)) = ((min Q.length R : Nat) : Int) := by split <;> omega
        have ml : min Q.length R ≤ Q.length := Nat.min_le_left _ _
        have mt : Q.take (min Q.length R) = Q.take R := by
          by_cases c : Q.length ≤ R
          · rw [Nat.min_eq_left c, List.take_length, List.take_of_length_le c]
          · rw [Nat.min_eq_right (by omega)]
        simp only [go_sem, ↓reduceIte, reduceCtorEq, upd_ne, back_new (no_at), Nat.reduceAdd, Nat.reduceEqDiff, Nat.reduceMul, Nat.reduceSub, Nat.reduceLeDiff, Nat.reduceLT, Int.reduceToNat, Int.reduceLE, Int.reduceLT, Int.reduceEq, UInt8.reduceOfNat, List.getElem?_map, Int.toNat_natCast, pMinmax, pMinmax2, Option.bind_some, Bool.false_eq_true, h1, hf, hfr, hto, ha, hb, hT, hq', m1, e3, e4, mm, ml, mt, carO, fE, Option.map_some, Nat.sub_zero, List.drop_zero]
    · rw [if_neg kk] at hq'
      rw [if_pos kk]
      unfold fE at hq'
      rw [if_neg kk] at hq'
      cases hX : to4S k c r mt4 mt6 with
      | none =>
        rw [hX] at hT
        unfold msgO at hT
        simp only [go_sem, ↓reduceIte, reduceCtorEq, upd_ne, back_new (no_at), Nat.reduceAdd, Nat.reduceEqDiff, Nat.reduceMul, Nat.reduceSub, Nat.reduceLeDiff, Nat.reduceLT, Int.reduceToNat, Int.reduceLE, Int.reduceLT, Int.reduceEq, UInt8.reduceOfNat, List.getElem?_map, Int.toNat_natCast, h1, hf, hfr, hto, ha, hb, hT, hq', carO, fE]
      | some x =>
        obtain ⟨k', c', r'⟩ := x
        rw [hX] at hT
        unfold msgO at hT
        simp only [go_sem, ↓reduceIte, reduceCtorEq, upd_ne, back_new (no_at), Nat.reduceAdd, Nat.reduceEqDiff, Nat.reduceMul, Nat.reduceSub, Nat.reduceLeDiff, Nat.reduceLT, Int.reduceToNat, Int.reduceLE, Int.reduceLT, Int.reduceEq, UInt8.reduceOfNat, List.getElem?_map, Int.toNat_natCast, h1, hf, hfr, hto, ha, hb, hT, hq', carO, fE]
end
end Go.Ev

/- Layer 15: an error of the gateway's own, where there is one. -/
namespace Go.Ev
set_option linter.unusedSimpArgs false
set_option linter.unusedVariables false
set_option maxRecDepth 10000
set_option maxHeartbeats 8000000
section
variable {S : Sys} (hS : Has S) (n : Nat)
include hS
theorem ev_own4_ok {s : List UInt8} {tos i0 ttl pt : Int} {df mo : Bool} {fr to op da a : List UInt8} {k c r id id' : Int} {md : List UInt8} {mtu : Nat} {q : List UInt8}
    (hp : S.ev (n + 4) id_ip4_Parse [.str s] none = some (.tup [ip4LV tos i0 ttl pt 0 df mo fr to op da, .nili], none)) (hfr : fr.length = 4) (hto : to.length = 4) (ha : a.length = 4)
    (hk : isF4 k = true) (hc : 0 ≤ c ∧ c ≤ 255) (hr : 0 ≤ r ∧ r < 4294967296) (hm : S.ev (n + 4) id_class_Martian4 [.bytes fr] none = some (.bool false, none)) (hpt : ¬ pt = 1)
    (hmtu : 68 ≤ mtu ∧ mtu ≤ 65535) (hl : 20 + op.length + da.length ≤ s.length) (hs : s.length ≤ 100000) (hop : op.length ≤ 40)
    (hbo : begO (20 + op.length + da.length) (20 + op.length) ((min 576 mtu : Nat) - 28 : Int) = true) (hq : (s.take (20 + op.length + da.length)).take (begN (20 + op.length + da.length) (20 + op.length) ((min 576 mtu : Nat) - 28 : Int)) = q)
    (hid : bitsOf .and .i64 id 65535 = id') (hi : I64 id')
    (hw : why4 0 id' 64 1 0 false [] (im4B k c r q) = 0) :
    S.ev (n + 5) id_fault_Own4 [msgLV k c r md, .str s, .bytes a, .int .i64 id, .int .i64 (mtu : Int)] none = some (.tup [.str (by4 0 id' 64 1 0 false false a fr [] (im4B k c r q)), .bool true], none) := by
  rw [Sys.step hS.h_fault_Own4, F_fault_Own4_eq]
  unfold F_fault_Own4
  have hk' : 0 ≤ k ∧ k ≤ 255 := by unfold isF4 at hk; have := of_decide_eq_true hk; omega
  have hf := ev_failure4 hS (n + 3) k c r md
  rw [hk] at hf
  have hql : q.length ≤ 100000 := by rw [← hq, List.length_take, List.length_take]; omega
  have hB := ev_icmp4B hS (n + 1) (k := k) (c := c) (r := r) (d := q) hk' hc hr hql
  have hbl : (im4B k c r q).length = 8 + q.length := by unfold im4B; simp only [List.length_append, beB_len]; omega
  have hby := ev_bytes4 hS (n + 1) (tos := 0) (id := id') (ttl := 64) (pt := 1) (at' := 0) (df := false) (mo := false) (fr := a) (to := fr) (op := []) (da := im4B k c r q) ⟨by unfold I64; omega, hi, by unfold I64; omega, by unfold I64; omega, by unfold I64; omega, ha, hfr, by simp, by omega⟩
  unfold by4R at hby
  rw [if_pos hw, hw] at hby
  have hg := ev_beginning hS (n + 3) (s.take (20 + op.length + da.length)) (20 + op.length) ((min 576 mtu : Nat) - 28 : Int) (by rw [List.length_take]; omega) (by omega)
  rw [show (s.take (20 + op.length + da.length)).length = 20 + op.length + da.length by rw [List.length_take]; omega, hbo, hq] at hg
  generalize im4B k c r q = IB at *
  have b1 : ¬ (mtu : Int) < 68 := by omega
  have b2 : ¬ 65535 < (mtu : Int) := by omega
  have e1 : IntKind.i64.wrap (20 + (op.length : Int)) = ((20 + op.length : Nat) : Int) := by rw [wrap_id (by omega) (by omega)]; omega
  have e2 : IntKind.i64.wrap (((20 + op.length : Nat) : Int) + (da.length : Int)) = ((20 + op.length + da.length : Nat) : Int) := by rw [wrap_id (by omega) (by omega)]; omega
  have hmm : (if (mtu : Int) < 576 then (mtu : Int) else 576) = ((min 576 mtu : Nat) : Int) := by split <;> omega
  have e3 : IntKind.i64.wrap (((min 576 mtu : Nat) : Int) - 20) = ((min 576 mtu : Nat) : Int) - 20 := wrap_id (by omega) (by omega)
  have e4 : IntKind.i64.wrap (((min 576 mtu : Nat) : Int) - 20 - 8) = ((min 576 mtu : Nat) : Int) - 28 := by rw [wrap_id (by omega) (by omega)]; omega
  (try simp only [guard_merge, or_merge, and_merge, or_pick, and_pick, guard_or, guard_and]); simp only [to_ob]
  simp only [go_sem, ↓reduceIte, reduceCtorEq, upd_ne, back_new (no_at), Nat.reduceAdd, Nat.reduceEqDiff, Nat.reduceMul, Nat.reduceSub, Nat.reduceLeDiff, Nat.reduceLT, Int.reduceToNat, Int.reduceLE, Int.reduceLT, Int.reduceEq, UInt8.reduceOfNat, List.getElem?_map, Int.toNat_natCast, pMinmax, pMinmax2, Option.bind_some, Bool.false_eq_true, hp, hf, hm, hpt, hfr, hto, ha, b1, b2, e1, e2, e3, e4, hmm, hl, hg, hB, hid, hby, fE, Nat.sub_zero, List.drop_zero]
end
end Go.Ev

/- Layer 2, the document's: words. -/
namespace Go.Ev
set_option linter.unusedSimpArgs false
set_option linter.unusedVariables false
set_option maxRecDepth 4000
set_option maxHeartbeats 2000000
section
variable {S : Sys} (hS : Has S) (n : Nat)
include hS
theorem ev_Words (s : List UInt8) (hs : s.length ≤ 1000000) : S.ev (n + 1) id_interpreterref02_Words [.str s] none = some (.lst none (intsLV (wordsN s)), none) := by
  rw [Sys.step hS.h_interpreterref02_Words, F_interpreterref02_Words_eq]
  unfold F_interpreterref02_Words
  (try simp only [guard_merge, or_merge, and_merge, or_pick, and_pick, guard_or, guard_and]); simp only [to_ob]
  have e1 : Int.tmod (s.length : Int) 2 = ((s.length % 2 : Nat) : Int) := by rw [Int.tmod_eq_emod_of_nonneg (by omega)]; omega
  by_cases hpar : s.length % 2 = 1
  · have hq : ((s.length % 2 : Nat) : Int) = 1 := by omega
    have hms : s.length + (0 + 1) ≤ maxStr := by unfold maxStr; omega
    simp only [go_sem, ↓reduceIte, reduceCtorEq, upd_ne, back_new (no_at), Nat.reduceAdd, Nat.reduceEqDiff, Nat.reduceMul, Nat.reduceSub, Nat.reduceLeDiff, Nat.reduceLT, Int.reduceToNat, Int.reduceLE, Int.reduceLT, Int.reduceEq, UInt8.reduceOfNat, ↓e_sadd, e1, hq, hms]
    have hw := wordsN_odd s hpar
    have hlen : (s ++ [0]).length % 2 = 0 := by simp; omega
    have hle : (s ++ [0]).length ≤ 1000001 := by simp; omega
    generalize s ++ [0] = t at hw hlen hle
    rw [← hw]
    refine while_rule (fun k q => ∃ i : Nat, q = ([.lst (some (3, 1)) (intsLV (wordsN (t.take (2 * i)))), .int .i64 ((2 * i : Nat) : Int)], upd noSlots 3 (.tag 1 i 1)) ∧ 2 * (i + k) = t.length) (t.length / 2) ⟨0, by simp [wordsN], by omega⟩ ?_
    rintro k q ⟨i, rfl, hi⟩
    simp only [go_sem, ↓reduceIte, reduceCtorEq, upd_ne, back_new (no_at), Nat.reduceAdd, Nat.reduceEqDiff, Nat.reduceMul, Nat.reduceSub, Nat.reduceLeDiff, Nat.reduceLT, Int.reduceToNat, Int.reduceLE, Int.reduceLT, Int.reduceEq, UInt8.reduceOfNat]
    refine nxt_ite (fun h => ?_) (fun h => ?_)
    · have hlt : 2 * i < t.length := by omega
      obtain ⟨a, ha⟩ : ∃ a, t[2 * i]? = some a := ⟨t[2 * i], by simp [hlt]⟩
      have hlt2 : 2 * i + 1 < t.length := by omega
      obtain ⟨b, hb⟩ : ∃ b, t[2 * i + 1]? = some b := ⟨t[2 * i + 1], by simp [hlt2]⟩
      have hal := a.toNat_lt
      have hbl := b.toNat_lt
      have e2 : IntKind.i64.wrap (a.toNat : Int) = (a.toNat : Int) := wrap_id (by omega) (by omega)
      have e3 : IntKind.i64.wrap (b.toNat : Int) = (b.toNat : Int) := wrap_id (by omega) (by omega)
      have e4 : IntKind.i64.wrap (256 * (a.toNat : Int)) = ((256 * a.toNat : Nat) : Int) := by rw [wrap_id (by omega) (by omega)]; omega
      have e5 : IntKind.i64.wrap (((2 * i : Nat) : Int) + 1) = ((2 * i + 1 : Nat) : Int) := by rw [wrap_id (by omega) (by omega)]; omega
      have e6 : IntKind.i64.wrap (((256 * a.toNat : Nat) : Int) + (b.toNat : Int)) = ((256 * a.toNat + b.toNat : Nat) : Int) := by rw [wrap_id (by omega) (by omega)]; omega
      have e7 : IntKind.i64.wrap (((2 * i : Nat) : Int) + 2) = ((2 * (i + 1) : Nat) : Int) := by rw [wrap_id (by omega) (by omega)]; omega
      have hwl : (wordsN (t.take (2 * i))).length = i := by rw [wordsN_len, List.length_take]; omega
      have hap := wAppend_tag (e := 1) (by' := 8) (d := 32) (t := 3) (g := 1) (n := i) (sz := 1) (sl := upd noSlots 3 (.tag 1 i 1)) (l := intsLV (wordsN (t.take (2 * i)))) (new := [.int .i64 ((256 * a.toNat + b.toNat : Nat) : Int)]) upd_same (by simp [hwl]) rfl (ints_flat _) (by simp [flatLen]) (by simp) (by simp [hwl]; omega)
      simp only [go_sem, ↓reduceIte, reduceCtorEq, upd_ne, back_new (no_at), Nat.reduceAdd, Nat.reduceEqDiff, Nat.reduceMul, Nat.reduceSub, Nat.reduceLeDiff, Nat.reduceLT, Int.reduceToNat, Int.reduceLE, Int.reduceLT, Int.reduceEq, UInt8.reduceOfNat, List.getElem?_map, Int.toNat_natCast, ha, hb, e2, e3, e4, e5, e6, e7, hap]
      refine ⟨k - 1, by omega, i + 1, ?_, by omega⟩
      rw [wordsN_take t i a b ha hb]
      simp
    · rw [List.take_of_length_le (by omega)]
      simp only [go_sem, ↓reduceIte, reduceCtorEq, upd_ne, back_new (no_at), Nat.reduceAdd, Nat.reduceEqDiff, Nat.reduceMul, Nat.reduceSub, Nat.reduceLeDiff, Nat.reduceLT, Int.reduceToNat, Int.reduceLE, Int.reduceLT, Int.reduceEq, UInt8.reduceOfNat, Nxt, exIf]
  · have hq : ¬ ((s.length % 2 : Nat) : Int) = 1 := by omega
    simp only [go_sem, ↓reduceIte, reduceCtorEq, upd_ne, back_new (no_at), Nat.reduceAdd, Nat.reduceEqDiff, Nat.reduceMul, Nat.reduceSub, Nat.reduceLeDiff, Nat.reduceLT, Int.reduceToNat, Int.reduceLE, Int.reduceLT, Int.reduceEq, UInt8.reduceOfNat, e1, hq]
    have hlen : s.length % 2 = 0 := by omega
    have hle : s.length ≤ 1000001 := by omega
    generalize s = t at hlen hle
    refine while_rule (fun k q => ∃ i : Nat, q = ([.lst (some (3, 1)) (intsLV (wordsN (t.take (2 * i)))), .int .i64 ((2 * i : Nat) : Int)], upd noSlots 3 (.tag 1 i 1)) ∧ 2 * (i + k) = t.length) (t.length / 2) ⟨0, by simp [wordsN], by omega⟩ ?_
    rintro k q ⟨i, rfl, hi⟩
    simp only [go_sem, ↓reduceIte, reduceCtorEq, upd_ne, back_new (no_at), Nat.reduceAdd, Nat.reduceEqDiff, Nat.reduceMul, Nat.reduceSub, Nat.reduceLeDiff, Nat.reduceLT, Int.reduceToNat, Int.reduceLE, Int.reduceLT, Int.reduceEq, UInt8.reduceOfNat]
    refine nxt_ite (fun h => ?_) (fun h => ?_)
    · have hlt : 2 * i < t.length := by omega
      obtain ⟨a, ha⟩ : ∃ a, t[2 * i]? = some a := ⟨t[2 * i], by simp [hlt]⟩
      have hlt2 : 2 * i + 1 < t.length := by omega
      obtain ⟨b, hb⟩ : ∃ b, t[2 * i + 1]? = some b := ⟨t[2 * i + 1], by simp [hlt2]⟩
      have hal := a.toNat_lt
      have hbl := b.toNat_lt
      have e2 : IntKind.i64.wrap (a.toNat : Int) = (a.toNat : Int) := wrap_id (by omega) (by omega)
      have e3 : IntKind.i64.wrap (b.toNat : Int) = (b.toNat : Int) := wrap_id (by omega) (by omega)
      have e4 : IntKind.i64.wrap (256 * (a.toNat : Int)) = ((256 * a.toNat : Nat) : Int) := by rw [wrap_id (by omega) (by omega)]; omega
      have e5 : IntKind.i64.wrap (((2 * i : Nat) : Int) + 1) = ((2 * i + 1 : Nat) : Int) := by rw [wrap_id (by omega) (by omega)]; omega
      have e6 : IntKind.i64.wrap (((256 * a.toNat : Nat) : Int) + (b.toNat : Int)) = ((256 * a.toNat + b.toNat : Nat) : Int) := by rw [wrap_id (by omega) (by omega)]; omega
      have e7 : IntKind.i64.wrap (((2 * i : Nat) : Int) + 2) = ((2 * (i + 1) : Nat) : Int) := by rw [wrap_id (by omega) (by omega)]; omega
      have hwl : (wordsN (t.take (2 * i))).length = i := by rw [wordsN_len, List.length_take]; omega
      have hap := wAppend_tag (e := 1) (by' := 8) (d := 32) (t := 3) (g := 1) (n := i) (sz := 1) (sl := upd noSlots 3 (.tag 1 i 1)) (l := intsLV (wordsN (t.take (2 * i)))) (new := [.int .i64 ((256 * a.toNat + b.toNat : Nat) : Int)]) upd_same (by simp [hwl]) rfl (ints_flat _) (by simp [flatLen]) (by simp) (by simp [hwl]; omega)
      simp only [go_sem, ↓reduceIte, reduceCtorEq, upd_ne, back_new (no_at), Nat.reduceAdd, Nat.reduceEqDiff, Nat.reduceMul, Nat.reduceSub, Nat.reduceLeDiff, Nat.reduceLT, Int.reduceToNat, Int.reduceLE, Int.reduceLT, Int.reduceEq, UInt8.reduceOfNat, List.getElem?_map, Int.toNat_natCast, ha, hb, e2, e3, e4, e5, e6, e7, hap]
      refine ⟨k - 1, by omega, i + 1, ?_, by omega⟩
      rw [wordsN_take t i a b ha hb]
      simp
    · rw [List.take_of_length_le (by omega)]
      simp only [go_sem, ↓reduceIte, reduceCtorEq, upd_ne, back_new (no_at), Nat.reduceAdd, Nat.reduceEqDiff, Nat.reduceMul, Nat.reduceSub, Nat.reduceLeDiff, Nat.reduceLT, Int.reduceToNat, Int.reduceLE, Int.reduceLT, Int.reduceEq, UInt8.reduceOfNat, Nxt, exIf]
end
end Go.Ev

/- Layer 2, the document's: totals. -/
namespace Go.Ev
set_option linter.unusedSimpArgs false
set_option linter.unusedVariables false
set_option maxRecDepth 4000
set_option maxHeartbeats 2000000
section
variable {S : Sys} (hS : Has S) (n : Nat)
include hS
theorem ev_Total (l : List Nat) (h1 : ∀ w ∈ l, w ≤ 65535) (h2 : l.length ≤ 1000000) : S.ev (n + 1) id_interpreterref02_Total [.lst none (intsLV l)] none = some (.int .i64 (ones l.sum : Nat), none) := by
  rw [Sys.step hS.h_interpreterref02_Total, F_interpreterref02_Total_eq]
  unfold F_interpreterref02_Total
  (try simp only [guard_merge, or_merge, and_merge, or_pick, and_pick, guard_or, guard_and]); simp only [to_ob]
  simp only [go_sem, ↓reduceIte, reduceCtorEq, upd_ne, back_new (no_at), Nat.reduceAdd, Nat.reduceEqDiff, Nat.reduceMul, Nat.reduceSub, Nat.reduceLeDiff, Nat.reduceLT, Int.reduceToNat, Int.reduceLE, Int.reduceLT, Int.reduceEq, UInt8.reduceOfNat]
  have hsum : ∀ i, (l.take i).sum ≤ 65535 * i := by
    intro i
    induction i with
    | zero => simp
    | succ i ih =>
      rw [List.take_add_one]
      cases hc : l[i]? with
      | none => simp; omega
      | some w =>
        have := h1 w (List.mem_of_getElem? hc)
        simp; omega
  have hs : l.sum ≤ 65535 * l.length := by have := hsum l.length; rwa [List.take_length] at this
  refine while_rule (fun k q => ∃ i : Nat, q = ([.int .i64 ((l.take i).sum : Nat), .int .i64 (i : Int)], noSlots) ∧ i + k = l.length) l.length ⟨0, by simp, by simp⟩ ?_
  rintro k q ⟨i, rfl, hi⟩
  simp only [go_sem, ↓reduceIte, reduceCtorEq, upd_ne, back_new (no_at), Nat.reduceAdd, Nat.reduceEqDiff, Nat.reduceMul, Nat.reduceSub, Nat.reduceLeDiff, Nat.reduceLT, Int.reduceToNat, Int.reduceLE, Int.reduceLT, Int.reduceEq, UInt8.reduceOfNat, List.length_map]
  refine nxt_ite (fun h => ?_) (fun h => ?_)
  · have hlt : i < l.length := by omega
    obtain ⟨w, hw⟩ : ∃ w, l[i]? = some w := ⟨l[i], by simp [hlt]⟩
    have := h1 w (List.mem_of_getElem? hw)
    have hb := hsum i
    have e1 : IntKind.i64.wrap (((l.take i).sum : Nat) + (w : Int)) = ((l.take (i + 1)).sum : Nat) := by
      rw [wrap_id (by omega) (by omega), List.take_add_one, hw]; simp
    have e2 : IntKind.i64.wrap ((i : Int) + 1) = ((i + 1 : Nat) : Int) := by rw [wrap_id (by omega) (by omega)]; omega
    simp only [go_sem, ↓reduceIte, reduceCtorEq, upd_ne, back_new (no_at), Nat.reduceAdd, Nat.reduceEqDiff, Nat.reduceMul, Nat.reduceSub, Nat.reduceLeDiff, Nat.reduceLT, Int.reduceToNat, Int.reduceLE, Int.reduceLT, Int.reduceEq, UInt8.reduceOfNat, List.getElem?_map, Int.toNat_natCast, hw, e1, e2]
    exact ⟨k - 1, by omega, i + 1, rfl, by omega⟩
  · rw [List.take_of_length_le (by omega)]
    simp only [go_sem, ↓reduceIte, reduceCtorEq, upd_ne, back_new (no_at), Nat.reduceAdd, Nat.reduceEqDiff, Nat.reduceMul, Nat.reduceSub, Nat.reduceLeDiff, Nat.reduceLT, Int.reduceToNat, Int.reduceLE, Int.reduceLT, Int.reduceEq, UInt8.reduceOfNat, Nxt, exIf]
    refine while_rule (fun k q => ∃ x : Nat, q = ([.int .i64 (x : Int)], noSlots) ∧ k = x ∧ ones x = ones l.sum ∧ x ≤ 9223372036854775807) l.sum ⟨_, rfl, rfl, rfl, by omega⟩ ?_
    rintro k q ⟨x, rfl, rfl, hx, hb⟩
    simp only [go_sem, ↓reduceIte, reduceCtorEq, upd_ne, back_new (no_at), Nat.reduceAdd, Nat.reduceEqDiff, Nat.reduceMul, Nat.reduceSub, Nat.reduceLeDiff, Nat.reduceLT, Int.reduceToNat, Int.reduceLE, Int.reduceLT, Int.reduceEq, UInt8.reduceOfNat]
    refine nxt_ite (fun h => ?_) (fun h => ?_)
    · have e1 : IntKind.i64.wrap (Int.tdiv (k : Int) 65536) = ((k / 65536 : Nat) : Int) := by
        rw [show Int.tdiv (k : Int) 65536 = ((k / 65536 : Nat) : Int) from rfl, wrap_id (by omega) (by omega)]
      have e2 : Int.tmod (k : Int) 65536 = ((k % 65536 : Nat) : Int) := rfl
      have e3 : IntKind.i64.wrap (((k / 65536 : Nat) : Int) + ((k % 65536 : Nat) : Int)) = ((k / 65536 + k % 65536 : Nat) : Int) := by
        rw [wrap_id (by omega) (by omega)]; omega
      have hk : 65535 < k := by omega
      simp only [go_sem, ↓reduceIte, reduceCtorEq, upd_ne, back_new (no_at), Nat.reduceAdd, Nat.reduceEqDiff, Nat.reduceMul, Nat.reduceSub, Nat.reduceLeDiff, Nat.reduceLT, Int.reduceToNat, Int.reduceLE, Int.reduceLT, Int.reduceEq, UInt8.reduceOfNat, e1, e2, e3]
      exact ⟨_, by omega, _, rfl, rfl, by rw [ones_step hk, hx], by omega⟩
    · have hk : k ≤ 65535 := by omega
      simp only [go_sem, ↓reduceIte, reduceCtorEq, upd_ne, back_new (no_at), Nat.reduceAdd, Nat.reduceEqDiff, Nat.reduceMul, Nat.reduceSub, Nat.reduceLeDiff, Nat.reduceLT, Int.reduceToNat, Int.reduceLE, Int.reduceLT, Int.reduceEq, UInt8.reduceOfNat, Nxt, exIf]
      rw [← hx, ones_small hk]
theorem ev_rOf (s : List UInt8) (hs : s.length ≤ 1000000) : S.ev (n + 2) id_interpreterref02_Of [.str s] none = some (.int .i64 (65535 - (ones (sumAt 0 s) : Nat)), none) := by
  rw [Sys.step hS.h_interpreterref02_Of, F_interpreterref02_Of_eq]
  unfold F_interpreterref02_Of
  have h1 := ev_Words hS n s hs
  have h2 := ev_Total hS n (wordsN s) (wordsN_le s) (by rw [wordsN_len]; omega)
  rw [wordsN_sum] at h2
  have ho := ones_le (sumAt 0 s)
  have e1 : IntKind.i64.wrap (65535 - ((ones (sumAt 0 s) : Nat) : Int)) = 65535 - ((ones (sumAt 0 s) : Nat) : Int) := wrap_id (by omega) (by omega)
  (try simp only [guard_merge, or_merge, and_merge, or_pick, and_pick, guard_or, guard_and]); simp only [to_ob]
  simp only [go_sem, ↓reduceIte, reduceCtorEq, upd_ne, back_new (no_at), Nat.reduceAdd, Nat.reduceEqDiff, Nat.reduceMul, Nat.reduceSub, Nat.reduceLeDiff, Nat.reduceLT, Int.reduceToNat, Int.reduceLE, Int.reduceLT, Int.reduceEq, UInt8.reduceOfNat, h1, h2, e1]
end
end Go.Ev

/- Layer 3: the document's bytes. -/
namespace Go.Ev
set_option linter.unusedSimpArgs false
set_option linter.unusedVariables false
set_option maxRecDepth 4000
set_option maxHeartbeats 4000000
section
variable {S : Sys} (hS : Has S) (n : Nat)
include hS
theorem ev_within (x m : Int) : S.ev (n + 1) id_interpreterref03_within [.int .i64 x, .int .i64 m] none = some (.bool (decide (0 ≤ x ∧ x ≤ m)), none) := by
  rw [Sys.step hS.h_interpreterref03_within, F_interpreterref03_within_eq]
  unfold F_interpreterref03_within
  (try simp only [guard_merge, or_merge, and_merge, or_pick, and_pick, guard_or, guard_and]); simp only [to_ob]
  by_cases h1 : 0 ≤ x <;> by_cases h2 : x ≤ m <;> simp only [go_sem, ↓reduceIte, reduceCtorEq, upd_ne, back_new (no_at), Nat.reduceAdd, Nat.reduceEqDiff, Nat.reduceMul, Nat.reduceSub, Nat.reduceLeDiff, Nat.reduceLT, Int.reduceToNat, Int.reduceLE, Int.reduceLT, Int.reduceEq, UInt8.reduceOfNat, h1, h2]
theorem ev_Why3 {tos id ttl pt at' : Int} {df mo : Bool} {fr to op da : List UInt8} (hfr : fr.length = 4) (hto : to.length = 4) (hop : op.length ≤ 140737488351232) (hda : da.length ≤ 140737488351232) :
    S.ev (n + 2) id_interpreterref03_Why [ip4LV tos id ttl pt at' df mo fr to op da] none = some (.int .i64 (why4 tos id ttl pt at' mo op da), none) := by
  rw [Sys.step hS.h_interpreterref03_Why, F_interpreterref03_Why_eq]
  unfold F_interpreterref03_Why
  have hw := ev_within hS n
  (try simp only [guard_merge, or_merge, and_merge, or_pick, and_pick, guard_or, guard_and]); simp only [to_ob]
  unfold why4
  have e1 : Int.tmod (op.length : Int) 4 = ((op.length % 4 : Nat) : Int) := rfl
  have e2 : Int.tmod (da.length : Int) 8 = ((da.length % 8 : Nat) : Int) := rfl
  by_cases c1 : okB tos ∧ okB ttl ∧ okB pt ∧ (0 ≤ id ∧ id ≤ 65535) ∧ (0 ≤ at' ∧ at' ≤ 65528) ∧ Int.tmod at' 8 = 0
  · rw [if_pos c1]
    obtain ⟨⟨a1, a2⟩, ⟨a3, a4⟩, ⟨a5, a6⟩, ⟨c14, c15⟩, ⟨c16, c17⟩, c18⟩ := c1
    by_cases k1 : op.length ≤ 40
    · have k1' : ¬ 40 < (op.length : Int) := by omega
      have k5 : IntKind.i64.wrap (IntKind.i64.wrap (IntKind.i64.wrap (20 + (op.length : Int)) + at') + (da.length : Int)) = 20 + (op.length : Int) + at' + da.length := by
        rw [wrap_id (n := 20 + (op.length : Int)) (by omega) (by omega), wrap_id (n := 20 + (op.length : Int) + at') (by omega) (by omega), wrap_id (by omega) (by omega)]
      by_cases k2 : op.length % 4 = 0
      · have k2' : ((op.length % 4 : Nat) : Int) = 0 := by omega
        by_cases k6 : 20 + (op.length : Int) + at' + da.length ≤ 65535
        · have k6' : ¬ 65535 < 20 + (op.length : Int) + at' + da.length := by omega
          cases mo
          · simp only [go_sem, ↓reduceIte, reduceCtorEq, upd_ne, back_new (no_at), Nat.reduceAdd, Nat.reduceEqDiff, Nat.reduceMul, Nat.reduceSub, Nat.reduceLeDiff, Nat.reduceLT, Int.reduceToNat, Int.reduceLE, Int.reduceLT, Int.reduceEq, UInt8.reduceOfNat, hw, hfr, hto, a1, a2, a3, a4, a5, a6, c14, c15, c16, c17, c18, e1, e2, k1, k1', k2, k2', k5, k6, k6', false_implies]
          · by_cases k3 : da.length = 0
            · have k3' : (da.length : Int) = 0 := by omega
              simp only [go_sem, ↓reduceIte, reduceCtorEq, upd_ne, back_new (no_at), Nat.reduceAdd, Nat.reduceEqDiff, Nat.reduceMul, Nat.reduceSub, Nat.reduceLeDiff, Nat.reduceLT, Int.reduceToNat, Int.reduceLE, Int.reduceLT, Int.reduceEq, UInt8.reduceOfNat, hw, hfr, hto, a1, a2, a3, a4, a5, a6, c14, c15, c16, c17, c18, e1, e2, k1, k1', k2, k2', k3, k3', true_implies]
            · have k3' : ¬ (da.length : Int) = 0 := by omega
              by_cases k4 : da.length % 8 = 0
              · have k4' : ((da.length % 8 : Nat) : Int) = 0 := by omega
                simp only [go_sem, ↓reduceIte, reduceCtorEq, upd_ne, back_new (no_at), Nat.reduceAdd, Nat.reduceEqDiff, Nat.reduceMul, Nat.reduceSub, Nat.reduceLeDiff, Nat.reduceLT, Int.reduceToNat, Int.reduceLE, Int.reduceLT, Int.reduceEq, UInt8.reduceOfNat, hw, hfr, hto, a1, a2, a3, a4, a5, a6, c14, c15, c16, c17, c18, e1, e2, k1, k1', k2, k2', k3, k3', k4, k4', k5, k6, k6', true_implies]
              · have k4' : ¬ ((da.length % 8 : Nat) : Int) = 0 := by omega
                simp only [go_sem, ↓reduceIte, reduceCtorEq, upd_ne, back_new (no_at), Nat.reduceAdd, Nat.reduceEqDiff, Nat.reduceMul, Nat.reduceSub, Nat.reduceLeDiff, Nat.reduceLT, Int.reduceToNat, Int.reduceLE, Int.reduceLT, Int.reduceEq, UInt8.reduceOfNat, hw, hfr, hto, a1, a2, a3, a4, a5, a6, c14, c15, c16, c17, c18, e1, e2, k1, k1', k2, k2', k3, k3', k4, k4', true_implies]
        · have k6' : 65535 < 20 + (op.length : Int) + at' + da.length := by omega
          cases mo
          · simp only [go_sem, ↓reduceIte, reduceCtorEq, upd_ne, back_new (no_at), Nat.reduceAdd, Nat.reduceEqDiff, Nat.reduceMul, Nat.reduceSub, Nat.reduceLeDiff, Nat.reduceLT, Int.reduceToNat, Int.reduceLE, Int.reduceLT, Int.reduceEq, UInt8.reduceOfNat, hw, hfr, hto, a1, a2, a3, a4, a5, a6, c14, c15, c16, c17, c18, e1, e2, k1, k1', k2, k2', k5, k6, k6', false_implies]
          · by_cases k3 : da.length = 0
            · have k3' : (da.length : Int) = 0 := by omega
              simp only [go_sem, ↓reduceIte, reduceCtorEq, upd_ne, back_new (no_at), Nat.reduceAdd, Nat.reduceEqDiff, Nat.reduceMul, Nat.reduceSub, Nat.reduceLeDiff, Nat.reduceLT, Int.reduceToNat, Int.reduceLE, Int.reduceLT, Int.reduceEq, UInt8.reduceOfNat, hw, hfr, hto, a1, a2, a3, a4, a5, a6, c14, c15, c16, c17, c18, e1, e2, k1, k1', k2, k2', k3, k3', true_implies]
            · have k3' : ¬ (da.length : Int) = 0 := by omega
              by_cases k4 : da.length % 8 = 0
              · have k4' : ((da.length % 8 : Nat) : Int) = 0 := by omega
                simp only [go_sem, ↓reduceIte, reduceCtorEq, upd_ne, back_new (no_at), Nat.reduceAdd, Nat.reduceEqDiff, Nat.reduceMul, Nat.reduceSub, Nat.reduceLeDiff, Nat.reduceLT, Int.reduceToNat, Int.reduceLE, Int.reduceLT, Int.reduceEq, UInt8.reduceOfNat, hw, hfr, hto, a1, a2, a3, a4, a5, a6, c14, c15, c16, c17, c18, e1, e2, k1, k1', k2, k2', k3, k3', k4, k4', k5, k6, k6', true_implies]
              · have k4' : ¬ ((da.length % 8 : Nat) : Int) = 0 := by omega
                simp only [go_sem, ↓reduceIte, reduceCtorEq, upd_ne, back_new (no_at), Nat.reduceAdd, Nat.reduceEqDiff, Nat.reduceMul, Nat.reduceSub, Nat.reduceLeDiff, Nat.reduceLT, Int.reduceToNat, Int.reduceLE, Int.reduceLT, Int.reduceEq, UInt8.reduceOfNat, hw, hfr, hto, a1, a2, a3, a4, a5, a6, c14, c15, c16, c17, c18, e1, e2, k1, k1', k2, k2', k3, k3', k4, k4', true_implies]
      · have k2' : ¬ ((op.length % 4 : Nat) : Int) = 0 := by omega
        simp only [go_sem, ↓reduceIte, reduceCtorEq, upd_ne, back_new (no_at), Nat.reduceAdd, Nat.reduceEqDiff, Nat.reduceMul, Nat.reduceSub, Nat.reduceLeDiff, Nat.reduceLT, Int.reduceToNat, Int.reduceLE, Int.reduceLT, Int.reduceEq, UInt8.reduceOfNat, hw, hfr, hto, a1, a2, a3, a4, a5, a6, c14, c15, c16, c17, c18, e1, e2, k1, k1', k2, k2']
    · have k1' : 40 < (op.length : Int) := by omega
      simp only [go_sem, ↓reduceIte, reduceCtorEq, upd_ne, back_new (no_at), Nat.reduceAdd, Nat.reduceEqDiff, Nat.reduceMul, Nat.reduceSub, Nat.reduceLeDiff, Nat.reduceLT, Int.reduceToNat, Int.reduceLE, Int.reduceLT, Int.reduceEq, UInt8.reduceOfNat, hw, hfr, hto, a1, a2, a3, a4, a5, a6, c14, c15, c16, c17, c18, e1, e2, k1, k1']
  · rw [if_neg c1]
    by_cases b1 : okB tos
    · by_cases b2 : okB ttl
      · by_cases b3 : okB pt
        · by_cases b4 : 0 ≤ id ∧ id ≤ 65535
          · by_cases b5 : 0 ≤ at' ∧ at' ≤ 65528
            · have b6 : ¬ Int.tmod at' 8 = 0 := fun h => c1 ⟨b1, b2, b3, b4, b5, h⟩
              simp only [go_sem, ↓reduceIte, reduceCtorEq, upd_ne, back_new (no_at), Nat.reduceAdd, Nat.reduceEqDiff, Nat.reduceMul, Nat.reduceSub, Nat.reduceLeDiff, Nat.reduceLT, Int.reduceToNat, Int.reduceLE, Int.reduceLT, Int.reduceEq, UInt8.reduceOfNat, hw, hfr, hto, decide_eq_true b1, decide_eq_true b2, decide_eq_true b3, decide_eq_true b4, decide_eq_true b5, b6]
            · simp only [go_sem, ↓reduceIte, reduceCtorEq, upd_ne, back_new (no_at), Nat.reduceAdd, Nat.reduceEqDiff, Nat.reduceMul, Nat.reduceSub, Nat.reduceLeDiff, Nat.reduceLT, Int.reduceToNat, Int.reduceLE, Int.reduceLT, Int.reduceEq, UInt8.reduceOfNat, hw, hfr, hto, decide_eq_true b1, decide_eq_true b2, decide_eq_true b3, decide_eq_true b4, decide_eq_false b5]
          · simp only [go_sem, ↓reduceIte, reduceCtorEq, upd_ne, back_new (no_at), Nat.reduceAdd, Nat.reduceEqDiff, Nat.reduceMul, Nat.reduceSub, Nat.reduceLeDiff, Nat.reduceLT, Int.reduceToNat, Int.reduceLE, Int.reduceLT, Int.reduceEq, UInt8.reduceOfNat, hw, hfr, hto, decide_eq_true b1, decide_eq_true b2, decide_eq_true b3, decide_eq_false b4]
        · simp only [go_sem, ↓reduceIte, reduceCtorEq, upd_ne, back_new (no_at), Nat.reduceAdd, Nat.reduceEqDiff, Nat.reduceMul, Nat.reduceSub, Nat.reduceLeDiff, Nat.reduceLT, Int.reduceToNat, Int.reduceLE, Int.reduceLT, Int.reduceEq, UInt8.reduceOfNat, hw, hfr, hto, decide_eq_true b1, decide_eq_true b2, decide_eq_false b3]
      · simp only [go_sem, ↓reduceIte, reduceCtorEq, upd_ne, back_new (no_at), Nat.reduceAdd, Nat.reduceEqDiff, Nat.reduceMul, Nat.reduceSub, Nat.reduceLeDiff, Nat.reduceLT, Int.reduceToNat, Int.reduceLE, Int.reduceLT, Int.reduceEq, UInt8.reduceOfNat, hw, hfr, hto, decide_eq_true b1, decide_eq_false b2]
    · simp only [go_sem, ↓reduceIte, reduceCtorEq, upd_ne, back_new (no_at), Nat.reduceAdd, Nat.reduceEqDiff, Nat.reduceMul, Nat.reduceSub, Nat.reduceLeDiff, Nat.reduceLT, Int.reduceToNat, Int.reduceLE, Int.reduceLT, Int.reduceEq, UInt8.reduceOfNat, hw, hfr, hto, decide_eq_false b1]
end
end Go.Ev

/- Layer 1, the document's reader: so many bytes of a text, as a number. -/
namespace Go.Ev
set_option linter.unusedSimpArgs false
set_option linter.unusedVariables false
set_option maxRecDepth 4000
set_option maxHeartbeats 2000000

section
variable {S : Sys} (hS : Has S) (n : Nat)
include hS
theorem ev_rText (s : List UInt8) (a m : Nat) (h : a + m ≤ s.length) (hs : s.length ≤ 140737488351232) :
    S.ev (n + 1) id_interpreterref01_Reader_Text [.ptr 0 0 [] 0, .int .i64 (m : Int)] (some (rdLV s a)) = some (.tup [.str ((s.drop a).take m), .int .i64 0], some (rdLV s (a + m))) := by
  rw [Sys.step hS.h_interpreterref01_Reader_Text, F_interpreterref01_Reader_Text_eq]
  unfold F_interpreterref01_Reader_Text
  (try simp only [guard_merge, or_merge, and_merge, or_pick, and_pick, guard_or, guard_and]); simp only [to_ob]
  have f1 : ¬ (m : Int) < 0 := by omega
  have f2 : ¬ (s.length : Int) < (m : Int) := by omega
  have e1 : IntKind.i64.wrap ((s.length : Int) - (m : Int)) = ((s.length - m : Nat) : Int) := by rw [wrap_id (by omega) (by omega)]; omega
  have f3 : ¬ ((s.length - m : Nat) : Int) < (a : Int) := by omega
  simp only [go_sem, ↓reduceIte, reduceCtorEq, upd_ne, back_new (no_at), Nat.reduceAdd, Nat.reduceEqDiff, Nat.reduceMul, Nat.reduceSub, Nat.reduceLeDiff, Nat.reduceLT, Int.reduceToNat, Int.reduceLE, Int.reduceLT, Int.reduceEq, UInt8.reduceOfNat, f1, f2, e1, f3]
  refine while_rule (fun k q => ∃ i : Nat, i + k = m ∧ q = ([.str ((s.drop a).take i), .int .i64 (i : Int)], upd noSlots 0 (.obj 0 (rdLV s (a + i))))) m ⟨0, by omega, by simp⟩ ?_
  rintro k q ⟨i, hi, rfl⟩
  simp only [go_sem, ↓reduceIte, reduceCtorEq, upd_ne, back_new (no_at), Nat.reduceAdd, Nat.reduceEqDiff, Nat.reduceMul, Nat.reduceSub, Nat.reduceLeDiff, Nat.reduceLT, Int.reduceToNat, Int.reduceLE, Int.reduceLT, Int.reduceEq, UInt8.reduceOfNat]
  refine nxt_ite (fun h => ?_) (fun h => ?_)
  · have hlt : a + i < s.length := by omega
    obtain ⟨c, hc⟩ : ∃ c, s[a + i]? = some c := ⟨s[a + i], by simp [hlt]⟩
    have e2 : IntKind.i64.wrap (((a + i : Nat) : Int) + 1) = ((a + i + 1 : Nat) : Int) := by rw [wrap_id (by omega) (by omega)]; omega
    have e3 : IntKind.i64.wrap ((i : Int) + 1) = ((i + 1 : Nat) : Int) := by rw [wrap_id (by omega) (by omega)]; omega
    have f4 : a + i + 1 ≤ s.length := by omega
    have f5 : a + i ≤ a + i + 1 := by omega
    have e4 : (s.drop (a + i)).take (a + i + 1 - (a + i)) = [c] := by rw [show a + i + 1 - (a + i) = 1 by omega, drop_take_one hc]
    have f6 : min i (s.length - a) + (0 + 1) ≤ maxStr := by unfold maxStr; omega
    have f6' : min i (s.length - a) + 1 ≤ maxStr := by unfold maxStr; omega
    simp only [go_sem, ↓reduceIte, reduceCtorEq, upd_ne, back_new (no_at), Nat.reduceAdd, Nat.reduceEqDiff, Nat.reduceMul, Nat.reduceSub, Nat.reduceLeDiff, Nat.reduceLT, Int.reduceToNat, Int.reduceLE, Int.reduceLT, Int.reduceEq, UInt8.reduceOfNat, List.getElem?_map, Int.toNat_natCast, ↓e_sadd, e2, e3, f4, f5, e4, f6, f6', List.length_take, List.length_drop]
    exact ⟨k - 1, by omega, i + 1, by omega, by rw [drop_take_snoc hc]; rfl⟩
  · obtain rfl : i = m := by omega
    simp only [go_sem, ↓reduceIte, reduceCtorEq, upd_ne, back_new (no_at), Nat.reduceAdd, Nat.reduceEqDiff, Nat.reduceMul, Nat.reduceSub, Nat.reduceLeDiff, Nat.reduceLT, Int.reduceToNat, Int.reduceLE, Int.reduceLT, Int.reduceEq, UInt8.reduceOfNat, Nxt, exIf]
theorem ev_rNumber (s : List UInt8) (a m : Nat) (h : a + m ≤ s.length) (hm : m ≤ 4) (hs : s.length ≤ 140737488351232) :
    S.ev (n + 2) id_interpreterref01_Reader_Number [.ptr 0 0 [] 0, .int .i64 (m : Int)] (some (rdLV s a)) = some (.tup [.int .i64 ((numN ((s.drop a).take m) : Nat) : Int), .int .i64 0], some (rdLV s (a + m))) := by
  rw [Sys.step hS.h_interpreterref01_Reader_Number, F_interpreterref01_Reader_Number_eq]
  unfold F_interpreterref01_Reader_Number
  have ht := ev_rText hS n s a m h hs
  (try simp only [guard_merge, or_merge, and_merge, or_pick, and_pick, guard_or, guard_and]); simp only [to_ob]
  simp only [go_sem, ↓reduceIte, reduceCtorEq, upd_ne, back_new (no_at), Nat.reduceAdd, Nat.reduceEqDiff, Nat.reduceMul, Nat.reduceSub, Nat.reduceLeDiff, Nat.reduceLT, Int.reduceToNat, Int.reduceLE, Int.reduceLT, Int.reduceEq, UInt8.reduceOfNat, ht]
  have hul : ((s.drop a).take m).length = m := by rw [List.length_take, List.length_drop]; omega
  generalize (s.drop a).take m = u at *
  refine while_rule (fun k q => ∃ i : Nat, i + k = m ∧ q = ([.int .i64 ((numN (u.take i) : Nat) : Int), .int .i64 (i : Int)], upd noSlots 0 (.obj 0 (rdLV s (a + m))))) m ⟨0, by omega, by simp [numN]⟩ ?_
  rintro k q ⟨i, hi, rfl⟩
  simp only [go_sem, ↓reduceIte, reduceCtorEq, upd_ne, back_new (no_at), Nat.reduceAdd, Nat.reduceEqDiff, Nat.reduceMul, Nat.reduceSub, Nat.reduceLeDiff, Nat.reduceLT, Int.reduceToNat, Int.reduceLE, Int.reduceLT, Int.reduceEq, UInt8.reduceOfNat, hul]
  refine nxt_ite (fun h => ?_) (fun h => ?_)
  · have hlt : i < u.length := by omega
    obtain ⟨c, hc⟩ : ∃ c, u[i]? = some c := ⟨u[i], by simp [hlt]⟩
    have htk : u.take (i + 1) = u.take i ++ [c] := by rw [List.take_add_one, hc]; rfl
    have hb := numN_lt (u.take i)
    have hb2 : 256 ^ (u.take i).length ≤ 256 ^ 3 := Nat.pow_le_pow_right (by decide) (by rw [List.length_take]; omega)
    have hb3 : (256 : Nat) ^ 3 = 16777216 := by decide
    have hcl := c.toNat_lt
    have e1 : IntKind.i64.wrap (((numN (u.take i) : Nat) : Int) * 256) = ((numN (u.take i) * 256 : Nat) : Int) := by rw [wrap_id (by omega) (by omega)]; omega
    have e2 : IntKind.i64.wrap (c.toNat : Int) = (c.toNat : Int) := wrap_id (by omega) (by omega)
    have e3 : IntKind.i64.wrap (((numN (u.take i) * 256 : Nat) : Int) + (c.toNat : Int)) = ((numN (u.take i) * 256 + c.toNat : Nat) : Int) := by rw [wrap_id (by omega) (by omega)]; omega
    have e4 : IntKind.i64.wrap ((i : Int) + 1) = ((i + 1 : Nat) : Int) := by rw [wrap_id (by omega) (by omega)]; omega
    simp only [go_sem, ↓reduceIte, reduceCtorEq, upd_ne, back_new (no_at), Nat.reduceAdd, Nat.reduceEqDiff, Nat.reduceMul, Nat.reduceSub, Nat.reduceLeDiff, Nat.reduceLT, Int.reduceToNat, Int.reduceLE, Int.reduceLT, Int.reduceEq, UInt8.reduceOfNat, List.getElem?_map, Int.toNat_natCast, hc, e1, e2, e3, e4]
    exact ⟨k - 1, by omega, i + 1, by omega, by rw [htk, numN_snoc]⟩
  · obtain rfl : i = m := by omega
    rw [List.take_of_length_le (by omega)]
    simp only [go_sem, ↓reduceIte, reduceCtorEq, upd_ne, back_new (no_at), Nat.reduceAdd, Nat.reduceEqDiff, Nat.reduceMul, Nat.reduceSub, Nat.reduceLeDiff, Nat.reduceLT, Int.reduceToNat, Int.reduceLE, Int.reduceLT, Int.reduceEq, UInt8.reduceOfNat, Nxt, exIf]
end
end Go.Ev

/- Layer 3, the document's: bytes parsed. -/
namespace Go.Ev
set_option linter.unusedSimpArgs false
set_option linter.unusedVariables false
set_option maxRecDepth 4000
set_option maxHeartbeats 4000000
section
variable {S : Sys} (hS : Has S) (n : Nat)
include hS
theorem ev_number3 (s : List UInt8) (i : Nat) (h : i + 2 ≤ s.length) (hs : s.length ≤ 140737488351232) : S.ev (n + 3) id_interpreterref03_number [.str s, .int .i64 (i : Int)] none = some (.int .i64 (wAt s i : Nat), none) := by
  rw [Sys.step hS.h_interpreterref03_number, F_interpreterref03_number_eq]
  unfold F_interpreterref03_number
  have ht : S.ev (n + 2) id_interpreterref01_Reader_Number [.ptr 0 0 [] 0, .int .i64 2] (some (rdLV s i)) = some (.tup [.int .i64 ((numN ((s.drop i).take 2) : Nat) : Int), .int .i64 0], some (rdLV s (i + 2))) := ev_rNumber hS n s i 2 h (by omega) hs
  rw [numN_two h] at ht
  simp only [to_ob]
  simp only [go_sem, ↓reduceIte, reduceCtorEq, upd_ne, back_new (no_at), Nat.reduceAdd, Nat.reduceEqDiff, Nat.reduceMul, Nat.reduceSub, Nat.reduceLeDiff, Nat.reduceLT, Int.reduceToNat, Int.reduceLE, Int.reduceLT, Int.reduceEq, UInt8.reduceOfNat, ht]
theorem ev_rparse3 (s : List UInt8) (hs : s.length ≤ 1000000) : S.ev (n + 4) id_interpreterref03_Parse [.str s] none = some (.tup [pLV4 s, .int .i64 (pK4 s)], none) := by
  rw [Sys.step hS.h_interpreterref03_Parse, F_interpreterref03_Parse_eq]
  unfold F_interpreterref03_Parse
  (try simp only [guard_merge, or_merge, and_merge, or_pick, and_pick, guard_or, guard_and]); simp only [to_ob]
  unfold pLV4 pK4
  by_cases c1 : s.length < 20
  · have c1' : (s.length : Int) < 20 := by omega
    simp only [go_sem, ↓reduceIte, reduceCtorEq, upd_ne, back_new (no_at), Nat.reduceAdd, Nat.reduceEqDiff, Nat.reduceMul, Nat.reduceSub, Nat.reduceLeDiff, Nat.reduceLT, Int.reduceToNat, Int.reduceLE, Int.reduceLT, Int.reduceEq, UInt8.reduceOfNat, c1, c1']
  · have c1' : ¬ (s.length : Int) < 20 := by omega
    have g0 := get_def (s := s) (i := 0) (by omega)
    have hb0 := bAt_le s 0
    have e1 : IntKind.i64.wrap ((s.getD 0 0).toNat : Int) = ((bAt s 0 : Nat) : Int) := wrap_id (by omega) (by unfold bAt at hb0; omega)
    have e2 : IntKind.i64.wrap (4 * IntKind.i64.wrap (((bAt s 0 : Nat) : Int) - 64)) = 4 * (((bAt s 0 : Nat) : Int) - 64) := by
      rw [wrap_id (n := ((bAt s 0 : Nat) : Int) - 64) (by omega) (by omega), wrap_id (by omega) (by omega)]
    by_cases c2 : bAt s 0 / 16 ≠ 4 ∨ n4 s < 20
    · rw [if_neg c1, if_pos c2]
      by_cases c2a : 4 * (((bAt s 0 : Nat) : Int) - 64) < 20
      · simp only [go_sem, ↓reduceIte, reduceCtorEq, upd_ne, back_new (no_at), Nat.reduceAdd, Nat.reduceEqDiff, Nat.reduceMul, Nat.reduceSub, Nat.reduceLeDiff, Nat.reduceLT, Int.reduceToNat, Int.reduceLE, Int.reduceLT, Int.reduceEq, UInt8.reduceOfNat, List.getElem?_map, Int.toNat_natCast, c1', c2a, g0, byteLV, e1, e2]
      · have c2b : 60 < 4 * (((bAt s 0 : Nat) : Int) - 64) := by unfold n4 at c2; omega
        simp only [go_sem, ↓reduceIte, reduceCtorEq, upd_ne, back_new (no_at), Nat.reduceAdd, Nat.reduceEqDiff, Nat.reduceMul, Nat.reduceSub, Nat.reduceLeDiff, Nat.reduceLT, Int.reduceToNat, Int.reduceLE, Int.reduceLT, Int.reduceEq, UInt8.reduceOfNat, List.getElem?_map, Int.toNat_natCast, c1', c2a, c2b, g0, byteLV, e1, e2]
    · have hn : 4 * (((bAt s 0 : Nat) : Int) - 64) = ((n4 s : Nat) : Int) := by unfold n4 at c2 ⊢; omega
      rw [hn] at e2
      have c2a : ¬ ((n4 s : Nat) : Int) < 20 := by omega
      have c2b : ¬ 60 < ((n4 s : Nat) : Int) := by unfold n4; omega
      by_cases c3 : s.length < n4 s
      · have c3' : (s.length : Int) < ((n4 s : Nat) : Int) := by omega
        simp only [go_sem, ↓reduceIte, reduceCtorEq, upd_ne, back_new (no_at), Nat.reduceAdd, Nat.reduceEqDiff, Nat.reduceMul, Nat.reduceSub, Nat.reduceLeDiff, Nat.reduceLT, Int.reduceToNat, Int.reduceLE, Int.reduceLT, Int.reduceEq, UInt8.reduceOfNat, List.getElem?_map, Int.toNat_natCast, c1, c1', c2, c2a, c2b, c3, c3', g0, byteLV, e1, e2]
      · have c3' : ¬ (s.length : Int) < ((n4 s : Nat) : Int) := by omega
        have c3'' : n4 s ≤ s.length := by omega
        have hr := ev_rOf hS (n + 1) (s.take (n4 s)) (by rw [List.length_take]; omega)
        have hr : S.ev (n + 3) id_interpreterref02_Of [.str (s.take (n4 s))] none = some (.int .i64 (sumS (s.take (n4 s))), none) := hr
        by_cases c4 : sumS (s.take (n4 s)) = 0
        · have t2 : S.ev (n + 3) id_interpreterref03_number [.str s, .int .i64 2] none = some (.int .i64 (wAt s 2 : Nat), none) := ev_number3 hS n s 2 (by omega) (by omega)
          have t6 : S.ev (n + 3) id_interpreterref03_number [.str s, .int .i64 6] none = some (.int .i64 (wAt s 6 : Nat), none) := ev_number3 hS n s 6 (by omega) (by omega)
          have t4 : S.ev (n + 3) id_interpreterref03_number [.str s, .int .i64 4] none = some (.int .i64 (wAt s 4 : Nat), none) := ev_number3 hS n s 4 (by omega) (by omega)
          by_cases c5 : wAt s 2 < n4 s
          · have c5' : ((wAt s 2 : Nat) : Int) < ((n4 s : Nat) : Int) := by omega
            simp only [go_sem, ↓reduceIte, reduceCtorEq, upd_ne, back_new (no_at), Nat.reduceAdd, Nat.reduceEqDiff, Nat.reduceMul, Nat.reduceSub, Nat.reduceLeDiff, Nat.reduceLT, Int.reduceToNat, Int.reduceLE, Int.reduceLT, Int.reduceEq, UInt8.reduceOfNat, List.getElem?_map, Int.toNat_natCast, Nat.sub_zero, c1, c1', c2, c2a, c2b, c3, c3', c3'', c4, hr, t2, t6, c5, c5', g0, byteLV, e1, e2]
          · have c5' : ¬ ((wAt s 2 : Nat) : Int) < ((n4 s : Nat) : Int) := by omega
            have c5'' : n4 s ≤ wAt s 2 := by omega
            by_cases c6 : s.length < wAt s 2
            · have c6' : (s.length : Int) < ((wAt s 2 : Nat) : Int) := by omega
              simp only [go_sem, ↓reduceIte, reduceCtorEq, upd_ne, back_new (no_at), Nat.reduceAdd, Nat.reduceEqDiff, Nat.reduceMul, Nat.reduceSub, Nat.reduceLeDiff, Nat.reduceLT, Int.reduceToNat, Int.reduceLE, Int.reduceLT, Int.reduceEq, UInt8.reduceOfNat, List.getElem?_map, Int.toNat_natCast, Nat.sub_zero, c1, c1', c2, c2a, c2b, c3, c3', c3'', c4, hr, t2, t6, c5, c5', c6, c6', g0, byteLV, e1, e2]
            · have c6' : ¬ (s.length : Int) < ((wAt s 2 : Nat) : Int) := by omega
              have c6'' : wAt s 2 ≤ s.length := by omega
              have g1 := get_def (s := s) (i := 1) (by omega)
              have g8 := get_def (s := s) (i := 8) (by omega)
              have g9 := get_def (s := s) (i := 9) (by omega)
              have hb1 := bAt_le s 1
              have hb8 := bAt_le s 8
              have hb9 := bAt_le s 9
              have hw6 := wAt_le s 6
              have w1 : IntKind.i64.wrap ((s.getD 1 0).toNat : Int) = ((bAt s 1 : Nat) : Int) := wrap_id (by omega) (by unfold bAt at hb1; omega)
              have w8 : IntKind.i64.wrap ((s.getD 8 0).toNat : Int) = ((bAt s 8 : Nat) : Int) := wrap_id (by omega) (by unfold bAt at hb8; omega)
              have w9 : IntKind.i64.wrap ((s.getD 9 0).toNat : Int) = ((bAt s 9 : Nat) : Int) := wrap_id (by omega) (by unfold bAt at hb9; omega)
              have f1 : IntKind.i64.wrap (Int.tmod ((wAt s 6 : Nat) : Int) 8192 * 8) = pat4 s := by
                rw [show Int.tmod ((wAt s 6 : Nat) : Int) 8192 = ((wAt s 6 % 8192 : Nat) : Int) from rfl, wrap_id (by omega) (by omega)]; unfold pat4; omega
              have f2 : IntKind.i64.wrap (Int.tdiv ((wAt s 6 : Nat) : Int) 16384) = ((wAt s 6 / 16384 : Nat) : Int) := by
                rw [show Int.tdiv ((wAt s 6 : Nat) : Int) 16384 = ((wAt s 6 / 16384 : Nat) : Int) from rfl, wrap_id (by omega) (by omega)]
              have f3 : IntKind.i64.wrap (Int.tdiv ((wAt s 6 : Nat) : Int) 8192) = ((wAt s 6 / 8192 : Nat) : Int) := by
                rw [show Int.tdiv ((wAt s 6 : Nat) : Int) 8192 = ((wAt s 6 / 8192 : Nat) : Int) from rfl, wrap_id (by omega) (by omega)]
              have f4 : decide (Int.tmod ((wAt s 6 / 16384 : Nat) : Int) 2 = 1) = pdf4 s := by
                rw [show Int.tmod ((wAt s 6 / 16384 : Nat) : Int) 2 = ((wAt s 6 / 16384 % 2 : Nat) : Int) from rfl]; unfold pdf4; exact decide_eq_decide.2 (by omega)
              have f5 : decide (Int.tmod ((wAt s 6 / 8192 : Nat) : Int) 2 = 1) = pmo4 s := by
                rw [show Int.tmod ((wAt s 6 / 8192 : Nat) : Int) 2 = ((wAt s 6 / 8192 % 2 : Nat) : Int) from rfl]; unfold pmo4; exact decide_eq_decide.2 (by omega)
              have l20 : 20 ≤ n4 s := by omega
              have hlf : (pfr4 s).length = 4 := by unfold pfr4; simp; omega
              have hlt : (pto4 s).length = 4 := by unfold pto4; simp; omega
              have hwy := ev_Why3 hS (n + 1) (tos := (bAt s 1 : Nat)) (id := (wAt s 4 : Nat)) (ttl := (bAt s 8 : Nat)) (pt := (bAt s 9 : Nat)) (at' := pat4 s) (df := pdf4 s) (mo := pmo4 s) (op := pop4 s) (da := pda4 s) hlf hlt (by unfold pop4; simp; omega) (by unfold pda4; simp; omega)
              have hwy : S.ev (n + 3) id_interpreterref03_Why [ip4LV (bAt s 1 : Nat) (wAt s 4 : Nat) (bAt s 8 : Nat) (bAt s 9 : Nat) (pat4 s) (pdf4 s) (pmo4 s) (pfr4 s) (pto4 s) (pop4 s) (pda4 s)] none = some (.int .i64 (pwhy4 s), none) := hwy
              have v3 : (s.drop 20).take (n4 s - 20) = pop4 s := rfl
              have v4 : (s.drop (n4 s)).take (wAt s 2 - n4 s) = pda4 s := rfl
              simp only [go_sem, ↓reduceIte, reduceCtorEq, upd_ne, back_new (no_at), Nat.reduceAdd, Nat.reduceEqDiff, Nat.reduceMul, Nat.reduceSub, Nat.reduceLeDiff, Nat.reduceLT, Int.reduceToNat, Int.reduceLE, Int.reduceLT, Int.reduceEq, UInt8.reduceOfNat, List.getElem?_map, Int.toNat_natCast, Nat.sub_zero, c1, c1', c2, c2a, c2b, c3, c3', c3'', c4, hr, t2, t6, t4, c5, c5', c5'', c6, c6', c6'', l20, g0, g1, g8, g9, byteLV, e1, e2, w1, w8, w9, f1, f2, f3, f4, f5, v3, v4]
              have r0 : ([0, 0, 0, 0] : List UInt8) = List.replicate (4 - 0) 0 := rfl
              refine while_rule (fun k q => ∃ i : Nat, i + k = 4 ∧ q = ([.int .i64 (i : Int)], upd (upd (upd noSlots 2 (.obj 1 z4LV)) 4 (.obj 1 z4LV)) 8 (.obj 1 (ip4LV (bAt s 1 : Nat) (wAt s 4 : Nat) (bAt s 8 : Nat) (bAt s 9 : Nat) (pat4 s) (pdf4 s) (pmo4 s) ((pfr4 s).take i ++ List.replicate (4 - i) 0) ((pto4 s).take i ++ List.replicate (4 - i) 0) (pop4 s) (pda4 s))))) 4 ⟨0, rfl, by simp⟩ ?_
              rintro k q ⟨i, hi, rfl⟩
              simp only [go_sem, ↓reduceIte, reduceCtorEq, upd_ne, back_new (no_at), Nat.reduceAdd, Nat.reduceEqDiff, Nat.reduceMul, Nat.reduceSub, Nat.reduceLeDiff, Nat.reduceLT, Int.reduceToNat, Int.reduceLE, Int.reduceLT, Int.reduceEq, UInt8.reduceOfNat]
              refine nxt_ite (fun h => ?_) (fun h => ?_)
              · have hi4 : i < 4 := by omega
                have ga := get_def (s := s) (i := 12 + i) (by omega)
                have gb := get_def (s := s) (i := 16 + i) (by omega)
                have i1 : IntKind.i64.wrap (12 + (i : Int)) = ((12 + i : Nat) : Int) := by rw [wrap_id (by omega) (by omega)]; omega
                have i2 : IntKind.i64.wrap (16 + (i : Int)) = ((16 + i : Nat) : Int) := by rw [wrap_id (by omega) (by omega)]; omega
                have i3 : IntKind.i64.wrap ((i : Int) + 1) = ((i + 1 : Nat) : Int) := by rw [wrap_id (by omega) (by omega)]; omega
                have hla : ((pfr4 s).take i ++ List.replicate (4 - i) 0).length = 4 := by rw [List.length_append, List.length_take, List.length_replicate]; omega
                have hlb : ((pto4 s).take i ++ List.replicate (4 - i) 0).length = 4 := by rw [List.length_append, List.length_take, List.length_replicate]; omega
                obtain ⟨ca, hca⟩ : ∃ c0, ((pfr4 s).take i ++ List.replicate (4 - i) 0)[i]? = some c0 := ⟨_, List.getElem?_eq_getElem (by omega)⟩
                obtain ⟨cb, hcb⟩ : ∃ c0, ((pto4 s).take i ++ List.replicate (4 - i) 0)[i]? = some c0 := ⟨_, List.getElem?_eq_getElem (by omega)⟩
                have sa := set_mid hlf hi4 (sub_get (s := s) (a := 12) (m := 4) hi4 (by omega))
                have sb := set_mid hlt hi4 (sub_get (s := s) (a := 16) (m := 4) hi4 (by omega))
                have hla2 : ((pfr4 s).take (i + 1) ++ List.replicate (4 - (i + 1)) 0).length = 4 := by rw [List.length_append, List.length_take, List.length_replicate]; omega
                simp only [go_sem, ↓reduceIte, reduceCtorEq, upd_ne, back_new (no_at), Nat.reduceAdd, Nat.reduceEqDiff, Nat.reduceMul, Nat.reduceSub, Nat.reduceLeDiff, Nat.reduceLT, Int.reduceToNat, Int.reduceLE, Int.reduceLT, Int.reduceEq, UInt8.reduceOfNat, List.getElem?_map, Int.toNat_natCast, ga, gb, i1, i2, i3, hla, hlb, hla2, hca, hcb, sa, sb, hi4, byteLV, u8_lt, UInt8.ofNat_toNat, Nat.mul_one, eq_self]
                exact ⟨k - 1, by omega, i + 1, by omega, rfl⟩
              · obtain rfl : i = 4 := by omega
                have ta : (pfr4 s).take 4 ++ List.replicate (4 - 4) 0 = pfr4 s := by rw [List.take_of_length_le (by omega)]; simp
                have tb : (pto4 s).take 4 ++ List.replicate (4 - 4) 0 = pto4 s := by rw [List.take_of_length_le (by omega)]; simp
                rw [ta, tb]
                by_cases c7 : wAt s 6 < 32768
                · have c7' : ¬ 32768 ≤ ((wAt s 6 : Nat) : Int) := by omega
                  have c7'' : ¬ 32768 ≤ wAt s 6 := by omega
                  by_cases c8 : pwhy4 s = 0
                  · rw [c8] at hwy
                    simp only [go_sem, ↓reduceIte, reduceCtorEq, upd_ne, back_new (no_at), Nat.reduceAdd, Nat.reduceEqDiff, Nat.reduceMul, Nat.reduceSub, Nat.reduceLeDiff, Nat.reduceLT, Int.reduceToNat, Int.reduceLE, Int.reduceLT, Int.reduceEq, UInt8.reduceOfNat, Nxt, exIf, c7', c7'', hwy, hlf, hlt, c8]
                  · simp only [go_sem, ↓reduceIte, reduceCtorEq, upd_ne, back_new (no_at), Nat.reduceAdd, Nat.reduceEqDiff, Nat.reduceMul, Nat.reduceSub, Nat.reduceLeDiff, Nat.reduceLT, Int.reduceToNat, Int.reduceLE, Int.reduceLT, Int.reduceEq, UInt8.reduceOfNat, Nxt, exIf, c7', c7'', hwy, hlf, hlt, c8]
                · have c7' : 32768 ≤ ((wAt s 6 : Nat) : Int) := by omega
                  have c7'' : 32768 ≤ wAt s 6 := by omega
                  simp only [go_sem, ↓reduceIte, reduceCtorEq, upd_ne, back_new (no_at), Nat.reduceAdd, Nat.reduceEqDiff, Nat.reduceMul, Nat.reduceSub, Nat.reduceLeDiff, Nat.reduceLT, Int.reduceToNat, Int.reduceLE, Int.reduceLT, Int.reduceEq, UInt8.reduceOfNat, Nxt, exIf, c7', c7'', hlf, hlt]
        · simp only [go_sem, ↓reduceIte, reduceCtorEq, upd_ne, back_new (no_at), Nat.reduceAdd, Nat.reduceEqDiff, Nat.reduceMul, Nat.reduceSub, Nat.reduceLeDiff, Nat.reduceLT, Int.reduceToNat, Int.reduceLE, Int.reduceLT, Int.reduceEq, UInt8.reduceOfNat, List.getElem?_map, Int.toNat_natCast, Nat.sub_zero, c1, c1', c2, c2a, c2b, c3, c3', c3'', c4, hr, g0, byteLV, e1, e2]
end
end Go.Ev

/- Layer 15: the law is awake. -/
namespace Go.Ev
set_option linter.unusedSimpArgs false
set_option linter.unusedVariables false
set_option maxRecDepth 10000
set_option maxHeartbeats 8000000
theorem g_ok {k : Nat} (hk : k ≤ 5000) : Ok4 0 0 9 17 0 false [] (List.replicate k 120) := ⟨by omega, by omega, by omega, by omega, by omega, rfl, by simp, by simp, by simp, by rw [List.length_replicate]; simp; omega⟩
theorem g_fit {k : Nat} (hk : k ≤ 5000) : FitIp4 0 0 9 17 0 [192, 0, 2, 1] [192, 0, 2, 2] [] (List.replicate k 120) := ⟨by unfold I64; omega, by unfold I64; omega, by unfold I64; omega, by unfold I64; omega, by unfold I64; omega, rfl, rfl, by simp, by rw [List.length_replicate]; omega⟩
/-- What Inside4 says of the beginning of a packet's bytes. -/
theorem inside_by4 {tos id ttl pt at' : Int} {df mo : Bool} {fr to op da : List UInt8} (ok : Ok4 tos id ttl pt at' mo op da) (hfr : fr.length = 4) (hto : to.length = 4) {j : Nat} (hj : 20 + op.length + min 8 da.length ≤ j) (hjl : j ≤ 20 + op.length + da.length) :
    iK4 ((by4 tos id ttl pt at' df mo fr to op da).take j) = 0 ∧ iC4 ((by4 tos id ttl pt at' df mo fr to op da).take j) = (da.length : Int) ∧
    iLV4 ((by4 tos id ttl pt at' df mo fr to op da).take j) = ip4LV tos id ttl pt at' df mo fr to op (da.take (j - (20 + op.length))) := by
  obtain ⟨p1, p2, p3, p4⟩ := parse_by4 (df := df) ok hfr hto []
  have hlen := by4_len (tos := tos) (id := id) (ttl := ttl) (pt := pt) (at' := at') (df := df) (mo := mo) (op := op) (da := da) hfr hto
  rw [List.append_nil] at p1 p2 p3 p4
  generalize by4 tos id ttl pt at' df mo fr to op da = B at *
  obtain ⟨c1, c2, c3⟩ := inside_cut p1 (j := j) (by rw [p2, p3, show 20 + op.length + da.length - (20 + op.length) = da.length by omega]; exact hj) (by omega)
  refine ⟨c1, by rw [c2, p2, p3]; omega, ?_⟩
  rw [c3, p2]
  unfold pLV4 at p4
  rw [if_pos (pK4_zero.2 p1)] at p4
  simp only [LV.agg.injEq, List.cons.injEq, LV.int.injEq, LV.bool.injEq, LV.bytes.injEq, LV.str.injEq, true_and, and_true] at p4
  obtain ⟨q1, q2, q3, q4, q5, q6, q7, q8, q9, q10, q11⟩ := p4
  rw [q1, q2, q3, q4, q5, q6, q7, q8, q9, q10, q11]
section
variable {S : Sys} (hS : Has S) (n : Nat)
include hS
theorem ev_parse_by4 {tos id ttl pt at' : Int} {df mo : Bool} {fr to op da : List UInt8} (ok : Ok4 tos id ttl pt at' mo op da) (hfr : fr.length = 4) (hto : to.length = 4) :
    S.ev (n + 4) id_ip4_Parse [.str (by4 tos id ttl pt at' df mo fr to op da)] none = some (.tup [ip4LV tos id ttl pt at' df mo fr to op da, .nili], none) ∧
    S.ev (n + 4) id_interpreterref03_Parse [.str (by4 tos id ttl pt at' df mo fr to op da)] none = some (.tup [ip4LV tos id ttl pt at' df mo fr to op da, .int .i64 0], none) := by
  obtain ⟨p1, p2, p3, p4⟩ := parse_by4 (df := df) ok hfr hto []
  have hlen := by4_len (tos := tos) (id := id) (ttl := ttl) (pt := pt) (at' := at') (df := df) (mo := mo) (op := op) (da := da) hfr hto
  have k1 := ok.kop
  have k2 := ok.kall
  have k3 := ok.kat
  rw [List.append_nil] at p1 p2 p3 p4
  constructor
  · rw [ev_parse4 hS n _ (by omega), p4, pK4_zero.2 p1]; rfl
  · rw [ev_rparse3 hS n _ (by omega), p4, pK4_zero.2 p1]
end
end Go.Ev

/- Layer 3: the document's bytes. -/
namespace Go.Ev
set_option linter.unusedSimpArgs false
set_option linter.unusedVariables false
set_option maxRecDepth 4000
set_option maxHeartbeats 4000000
section
variable {S : Sys} (hS : Has S) (n : Nat)
include hS
theorem ev_rbytes3_ff {tos id ttl pt at' : Int} {fr to op da : List UInt8} (hf : FitIp4 tos id ttl pt at' fr to op da) (hd : da.length ≤ 400000) :
    S.ev (n + 3) id_interpreterref03_Bytes [ip4LV tos id ttl pt at' false false fr to op da] none = some (.tup [.str (by4R tos id ttl pt at' false false fr to op da), .int .i64 (why4 tos id ttl pt at' false op da)], none) := by
  rw [Sys.step hS.h_interpreterref03_Bytes, F_interpreterref03_Bytes_eq]
  unfold F_interpreterref03_Bytes
  have hfr := hf.hfr
  have hto := hf.hto
  have hw := ev_Why3 hS (n) (tos := tos) (id := id) (ttl := ttl) (pt := pt) (at' := at') (df := false) (mo := false) hfr hto hf.hop hf.hda
  (try simp only [guard_merge, or_merge, and_merge, or_pick, and_pick, guard_or, guard_and]); simp only [to_ob]
  unfold by4R
  by_cases c : why4 tos id ttl pt at' false op da = 0
  · have ok := why4_zero.1 c
    obtain ⟨o1, o2, o3, o4, o5, o6, o7, o8, o9, o10⟩ := ok
    rw [c] at hw
    obtain ⟨tos, rfl⟩ := Int.eq_ofNat_of_zero_le o1.1
    obtain ⟨ttl, rfl⟩ := Int.eq_ofNat_of_zero_le o2.1
    obtain ⟨pt, rfl⟩ := Int.eq_ofNat_of_zero_le o3.1
    obtain ⟨id, rfl⟩ := Int.eq_ofNat_of_zero_le o4.1
    obtain ⟨at', rfl⟩ := Int.eq_ofNat_of_zero_le o5.1
    have e1 : IntKind.i64.wrap (Int.tdiv (at' : Int) 8) = ((at' / 8 : Nat) : Int) := by
      rw [show Int.tdiv (at' : Int) 8 = ((at' / 8 : Nat) : Int) from rfl, wrap_id (by omega) (by omega)]
    have e2 : IntKind.i64.wrap (20 + (op.length : Int)) = ((20 + op.length : Nat) : Int) := by rw [wrap_id (by omega) (by omega)]; omega
    have e3 : IntKind.i64.wrap (Int.tdiv ((20 + op.length : Nat) : Int) 4) = (((20 + op.length) / 4 : Nat) : Int) := by
      rw [show Int.tdiv ((20 + op.length : Nat) : Int) 4 = (((20 + op.length) / 4 : Nat) : Int) from rfl, wrap_id (by omega) (by omega)]
    have e4 : IntKind.i64.wrap (64 + (((20 + op.length) / 4 : Nat) : Int)) = ((64 + (20 + op.length) / 4 : Nat) : Int) := by rw [wrap_id (by omega) (by omega)]; omega
    have e5 : IntKind.i64.wrap (((20 + op.length : Nat) : Int) + (da.length : Int)) = ((20 + op.length + da.length : Nat) : Int) := by rw [wrap_id (by omega) (by omega)]; omega
    have d1 := div256 (x := 20 + op.length + da.length) (by omega)
    have d2 := div256 (x := id) (by omega)
    have f1 : IntKind.i64.wrap (((at' / 8 : Nat) : Int) + 8192) = ((at' / 8 + 8192 : Nat) : Int) := by rw [wrap_id (by omega) (by omega)]; omega
    have f2 : IntKind.i64.wrap (((at' / 8 : Nat) : Int) + 16384) = ((at' / 8 + 16384 : Nat) : Int) := by rw [wrap_id (by omega) (by omega)]; omega
    have f3 : IntKind.i64.wrap (((at' / 8 + 8192 : Nat) : Int) + 16384) = ((at' / 8 + 8192 + 16384 : Nat) : Int) := by rw [wrap_id (by omega) (by omega)]; omega
    have d3 := div256 (x := at' / 8) (by omega)
    have d4 := div256 (x := at' / 8 + 8192) (by omega)
    have d5 := div256 (x := at' / 8 + 16384) (by omega)
    have d6 := div256 (x := at' / 8 + 8192 + 16384) (by omega)
    have hx := sumS_le (hd4 tos id ttl pt at' false false op da ++ (fr ++ (to ++ op)))
    have hx : 0 ≤ x4 tos id ttl pt at' false false fr to op da ∧ x4 tos id ttl pt at' false false fr to op da ≤ 65535 := hx
    have hat4 : at4 at' false false = at' / 8 := by unfold at4; rw [Int.toNat_natCast, if_neg Bool.false_ne_true, if_neg Bool.false_ne_true]; omega
    obtain ⟨A, hAA⟩ : ∃ A, A = at' / 8 := ⟨_, rfl⟩
    rw [← hAA] at hat4
    simp only [← hAA] at e1 f1 f2 f3 d3 d4 d5 d6
    simp only [go_sem, ↓reduceIte, reduceCtorEq, upd_ne, back_new (no_at), Nat.reduceAdd, Nat.reduceEqDiff, Nat.reduceMul, Nat.reduceSub, Nat.reduceLeDiff, Nat.reduceLT, Int.reduceToNat, Int.reduceLE, Int.reduceLT, Int.reduceEq, UInt8.reduceOfNat, hw, c, hfr, hto, e1, e2, e3, e4, e5, f1, f2, f3, d1, d2, d3, mod256, u8w, u8_ofNat_mod, e_cBslM, u8_lt, UInt8.ofNat_toNat, cBytes_eq]
    generalize hH : ([UInt8.ofNat (64 + (20 + op.length) / 4), UInt8.ofNat tos, UInt8.ofNat ((20 + op.length + da.length) / 256), UInt8.ofNat (20 + op.length + da.length), UInt8.ofNat (id / 256), UInt8.ofNat id, UInt8.ofNat (A / 256), UInt8.ofNat A, UInt8.ofNat ttl, UInt8.ofNat pt, 0, 0] : List UInt8) = H
    have hHl : H.length = 12 := by rw [← hH]; rfl
    refine while_rule (fun k q => ∃ i : Nat, i + k = 4 ∧ q = ([.arr 70 (1 + i) [] 0 0 (12 + i), .int .i64 (i : Int)], upd noSlots 70 (.obj (1 + i) (.bytes (H ++ fr.take i))))) 4 ⟨0, rfl, by simp⟩ ?_
    rintro k q ⟨i, hi, rfl⟩
    simp only [go_sem, ↓reduceIte, reduceCtorEq, upd_ne, back_new (no_at), Nat.reduceAdd, Nat.reduceEqDiff, Nat.reduceMul, Nat.reduceSub, Nat.reduceLeDiff, Nat.reduceLT, Int.reduceToNat, Int.reduceLE, Int.reduceLT, Int.reduceEq, UInt8.reduceOfNat]
    refine nxt_ite (fun h => ?_) (fun h => ?_)
    · have hlt : i < fr.length := by omega
      obtain ⟨b, hb⟩ : ∃ b, fr[i]? = some b := ⟨fr[i], by simp [hlt]⟩
      have htk : fr.take (i + 1) = fr.take i ++ [b] := by rw [List.take_add_one, hb]; rfl
      have hlen : (H ++ fr.take i).length = 12 + i := by rw [List.length_append, List.length_take]; omega
      have hA := wApp_arr (d := 81) (t := 70) (g := 1 + i) (sl := noSlots) (b := H ++ fr.take i) (s := [b]) (by simp; omega)
      rw [hlen] at hA
      simp only [List.map_cons, List.map_nil, byteLV, List.length_cons, List.length_nil] at hA
      have i1 : IntKind.i64.wrap ((i : Int) + 1) = ((i + 1 : Nat) : Int) := by rw [wrap_id (by omega) (by omega)]; omega
      have i2 : i < 4 := by omega
      simp only [go_sem, ↓reduceIte, reduceCtorEq, upd_ne, back_new (no_at), Nat.reduceAdd, Nat.reduceEqDiff, Nat.reduceMul, Nat.reduceSub, Nat.reduceLeDiff, Nat.reduceLT, Int.reduceToNat, Int.reduceLE, Int.reduceLT, Int.reduceEq, UInt8.reduceOfNat, List.getElem?_map, Int.toNat_natCast, hfr, hb, byteLV, hA, i1, i2]
      refine ⟨k - 1, by omega, i + 1, by omega, ?_⟩
      rw [htk, ← List.append_assoc, show 1 + (i + 1) = 1 + i + 1 by omega, show 12 + (i + 1) = 12 + i + 1 by omega]
    · obtain rfl : i = 4 := by omega
      have hf4 : fr.take 4 = fr := List.take_of_length_le (by omega)
      rw [hf4]
      simp only [go_sem, ↓reduceIte, reduceCtorEq, upd_ne, back_new (no_at), Nat.reduceAdd, Nat.reduceEqDiff, Nat.reduceMul, Nat.reduceSub, Nat.reduceLeDiff, Nat.reduceLT, Int.reduceToNat, Int.reduceLE, Int.reduceLT, Int.reduceEq, UInt8.reduceOfNat, Nxt, exIf]
      refine while_rule (fun k q => ∃ i : Nat, i + k = 4 ∧ q = ([.arr 70 (5 + i) [] 0 0 (16 + i), .int .i64 (i : Int)], upd noSlots 70 (.obj (5 + i) (.bytes (H ++ fr ++ to.take i))))) 4 ⟨0, rfl, by simp⟩ ?_
      rintro k q ⟨i, hi, rfl⟩
      simp only [go_sem, ↓reduceIte, reduceCtorEq, upd_ne, back_new (no_at), Nat.reduceAdd, Nat.reduceEqDiff, Nat.reduceMul, Nat.reduceSub, Nat.reduceLeDiff, Nat.reduceLT, Int.reduceToNat, Int.reduceLE, Int.reduceLT, Int.reduceEq, UInt8.reduceOfNat]
      refine nxt_ite (fun h => ?_) (fun h => ?_)
      · have hlt : i < to.length := by omega
        obtain ⟨b, hb⟩ : ∃ b, to[i]? = some b := ⟨to[i], by simp [hlt]⟩
        have htk : to.take (i + 1) = to.take i ++ [b] := by rw [List.take_add_one, hb]; rfl
        have hlen : (H ++ fr ++ to.take i).length = 16 + i := by rw [List.length_append, List.length_append, List.length_take]; omega
        have hA := wApp_arr (d := 92) (t := 70) (g := 5 + i) (sl := noSlots) (b := H ++ fr ++ to.take i) (s := [b]) (by rw [hlen]; simp; omega)
        rw [hlen] at hA
        simp only [List.map_cons, List.map_nil, byteLV, List.length_cons, List.length_nil] at hA
        have i1 : IntKind.i64.wrap ((i : Int) + 1) = ((i + 1 : Nat) : Int) := by rw [wrap_id (by omega) (by omega)]; omega
        have i2 : i < 4 := by omega
        simp only [go_sem, ↓reduceIte, reduceCtorEq, upd_ne, back_new (no_at), Nat.reduceAdd, Nat.reduceEqDiff, Nat.reduceMul, Nat.reduceSub, Nat.reduceLeDiff, Nat.reduceLT, Int.reduceToNat, Int.reduceLE, Int.reduceLT, Int.reduceEq, UInt8.reduceOfNat, List.getElem?_map, Int.toNat_natCast, hto, hb, byteLV, hA, i1, i2]
        refine ⟨k - 1, by omega, i + 1, by omega, ?_⟩
        rw [htk, ← List.append_assoc, show 5 + (i + 1) = 5 + i + 1 by omega, show 16 + (i + 1) = 16 + i + 1 by omega]
      · obtain rfl : i = 4 := by omega
        have ht4 : to.take 4 = to := List.take_of_length_le (by omega)
        rw [ht4]
        have hHf : (H ++ fr ++ to).length = 20 := by simp; omega
        have hB := wApp_str (d := 96) (t := 70) (g := 9) (sl := noSlots) (b := H ++ fr ++ to) (s := op) (by omega)
        rw [hHf] at hB
        simp only [go_sem, ↓reduceIte, reduceCtorEq, upd_ne, back_new (no_at), Nat.reduceAdd, Nat.reduceEqDiff, Nat.reduceMul, Nat.reduceSub, Nat.reduceLeDiff, Nat.reduceLT, Int.reduceToNat, Int.reduceLE, Int.reduceLT, Int.reduceEq, UInt8.reduceOfNat, Nxt, exIf, hB]
        obtain ⟨z, hz⟩ := Int.eq_ofNat_of_zero_le hx.1
        have hL : (H ++ fr ++ to ++ op).length = 20 + op.length := by rw [List.length_append]; omega
        have hsum : sumAt 0 (H ++ fr ++ to ++ op) = sumAt 0 (hd4 tos id ttl pt at' false false op da ++ (fr ++ (to ++ op))) := by
          rw [← hH, show hd4 tos id ttl pt at' false false op da = [UInt8.ofNat (64 + (20 + op.length) / 4), UInt8.ofNat tos, UInt8.ofNat ((20 + op.length + da.length) / 256), UInt8.ofNat (20 + op.length + da.length), UInt8.ofNat (id / 256), UInt8.ofNat id, UInt8.ofNat (A / 256), UInt8.ofNat A, UInt8.ofNat ttl, UInt8.ofNat pt] by unfold hd4; rw [hat4]; simp only [beB1, beB2, Int.toNat_natCast, List.cons_append, List.nil_append]]
          have hsz := sum_zeros (h := [UInt8.ofNat (64 + (20 + op.length) / 4), UInt8.ofNat tos, UInt8.ofNat ((20 + op.length + da.length) / 256), UInt8.ofNat (20 + op.length + da.length), UInt8.ofNat (id / 256), UInt8.ofNat id, UInt8.ofNat (A / 256), UInt8.ofNat A, UInt8.ofNat ttl, UInt8.ofNat pt]) (r := fr ++ (to ++ op)) (by simp only [List.length_cons, List.length_nil])
          simp only [List.cons_append, List.nil_append, List.append_assoc] at hsz ⊢
          exact hsz
        have ho := ev_rOf hS n (H ++ fr ++ to ++ op) (by omega)
        have ho : S.ev (n + 2) id_interpreterref02_Of [.str (H ++ fr ++ to ++ op)] none = some (.int .i64 (z : Int), none) := by
          rw [ho, hsum, ← hz]; unfold x4 sumS; exact rfl
        have hby : by4 tos id ttl pt at' false false fr to op da = ((H ++ fr ++ to ++ op).set 10 (UInt8.ofNat (z / 256))).set 11 (UInt8.ofNat z) ++ da := by
          unfold by4
          rw [hz, ← hH, show hd4 tos id ttl pt at' false false op da = [UInt8.ofNat (64 + (20 + op.length) / 4), UInt8.ofNat tos, UInt8.ofNat ((20 + op.length + da.length) / 256), UInt8.ofNat (20 + op.length + da.length), UInt8.ofNat (id / 256), UInt8.ofNat id, UInt8.ofNat (A / 256), UInt8.ofNat A, UInt8.ofNat ttl, UInt8.ofNat pt] by unfold hd4; rw [hat4]; simp only [beB1, beB2, Int.toNat_natCast, List.cons_append, List.nil_append]]
          simp only [beB2, Int.toNat_natCast, List.cons_append, List.nil_append, List.append_assoc, List.set_cons_succ, List.set_cons_zero]
        have d7 := div256 (x := z) (by omega)
        rw [hby]
        generalize H ++ fr ++ to ++ op = B at *
        have g10 : B[10]? = some B[10] := List.getElem?_eq_getElem (by omega)
        have g11 : (B.set 10 (UInt8.ofNat (z / 256)))[11]? = some B[11] := by rw [List.getElem?_set_ne (by omega)]; exact List.getElem?_eq_getElem (by omega)
        generalize B[10] = b10 at *
        generalize B[11] = b11 at *
        have l1 : 10 < 20 + op.length := by omega
        have l2 : 11 < 20 + op.length := by omega
        have l3 : (((B.set 10 (UInt8.ofNat (z / 256))).set 11 (UInt8.ofNat z))).take (20 + op.length) = (B.set 10 (UInt8.ofNat (z / 256))).set 11 (UInt8.ofNat z) := List.take_of_length_le (by simp; omega)
        have l4 : B.take (20 + op.length) = B := List.take_of_length_le (by omega)
        have l5 : 20 + op.length + da.length ≤ maxStr := by unfold maxStr; omega
        simp only [go_sem, ↓reduceIte, reduceCtorEq, upd_ne, back_new (no_at), Nat.reduceAdd, Nat.reduceEqDiff, Nat.reduceMul, Nat.reduceSub, Nat.reduceLeDiff, Nat.reduceLT, Int.reduceToNat, Int.reduceLE, Int.reduceLT, Int.reduceEq, UInt8.reduceOfNat, List.getElem?_map, Int.toNat_natCast, ho, hL, g10, g11, l1, l2, l3, l4, l5, byteLV, d7, mod256, u8w, u8_ofNat_mod, u8_lt, UInt8.ofNat_toNat, Nat.le_refl]
  · simp only [go_sem, ↓reduceIte, reduceCtorEq, upd_ne, back_new (no_at), Nat.reduceAdd, Nat.reduceEqDiff, Nat.reduceMul, Nat.reduceSub, Nat.reduceLeDiff, Nat.reduceLT, Int.reduceToNat, Int.reduceLE, Int.reduceLT, Int.reduceEq, UInt8.reduceOfNat, hw, c, hfr, hto]
theorem ev_rbytes3_ft {tos id ttl pt at' : Int} {fr to op da : List UInt8} (hf : FitIp4 tos id ttl pt at' fr to op da) (hd : da.length ≤ 400000) :
    S.ev (n + 3) id_interpreterref03_Bytes [ip4LV tos id ttl pt at' false true fr to op da] none = some (.tup [.str (by4R tos id ttl pt at' false true fr to op da), .int .i64 (why4 tos id ttl pt at' true op da)], none) := by
  rw [Sys.step hS.h_interpreterref03_Bytes, F_interpreterref03_Bytes_eq]
  unfold F_interpreterref03_Bytes
  have hfr := hf.hfr
  have hto := hf.hto
  have hw := ev_Why3 hS (n) (tos := tos) (id := id) (ttl := ttl) (pt := pt) (at' := at') (df := false) (mo := true) hfr hto hf.hop hf.hda
  (try simp only [guard_merge, or_merge, and_merge, or_pick, and_pick, guard_or, guard_and]); simp only [to_ob]
  unfold by4R
  by_cases c : why4 tos id ttl pt at' true op da = 0
  · have ok := why4_zero.1 c
    obtain ⟨o1, o2, o3, o4, o5, o6, o7, o8, o9, o10⟩ := ok
    rw [c] at hw
    obtain ⟨tos, rfl⟩ := Int.eq_ofNat_of_zero_le o1.1
    obtain ⟨ttl, rfl⟩ := Int.eq_ofNat_of_zero_le o2.1
    obtain ⟨pt, rfl⟩ := Int.eq_ofNat_of_zero_le o3.1
    obtain ⟨id, rfl⟩ := Int.eq_ofNat_of_zero_le o4.1
    obtain ⟨at', rfl⟩ := Int.eq_ofNat_of_zero_le o5.1
    have e1 : IntKind.i64.wrap (Int.tdiv (at' : Int) 8) = ((at' / 8 : Nat) : Int) := by
      rw [show Int.tdiv (at' : Int) 8 = ((at' / 8 : Nat) : Int) from rfl, wrap_id (by omega) (by omega)]
    have e2 : IntKind.i64.wrap (20 + (op.length : Int)) = ((20 + op.length : Nat) : Int) := by rw [wrap_id (by omega) (by omega)]; omega
    have e3 : IntKind.i64.wrap (Int.tdiv ((20 + op.length : Nat) : Int) 4) = (((20 + op.length) / 4 : Nat) : Int) := by
      rw [show Int.tdiv ((20 + op.length : Nat) : Int) 4 = (((20 + op.length) / 4 : Nat) : Int) from rfl, wrap_id (by omega) (by omega)]
    have e4 : IntKind.i64.wrap (64 + (((20 + op.length) / 4 : Nat) : Int)) = ((64 + (20 + op.length) / 4 : Nat) : Int) := by rw [wrap_id (by omega) (by omega)]; omega
    have e5 : IntKind.i64.wrap (((20 + op.length : Nat) : Int) + (da.length : Int)) = ((20 + op.length + da.length : Nat) : Int) := by rw [wrap_id (by omega) (by omega)]; omega
    have d1 := div256 (x := 20 + op.length + da.length) (by omega)
    have d2 := div256 (x := id) (by omega)
    have f1 : IntKind.i64.wrap (((at' / 8 : Nat) : Int) + 8192) = ((at' / 8 + 8192 : Nat) : Int) := by rw [wrap_id (by omega) (by omega)]; omega
    have f2 : IntKind.i64.wrap (((at' / 8 : Nat) : Int) + 16384) = ((at' / 8 + 16384 : Nat) : Int) := by rw [wrap_id (by omega) (by omega)]; omega
    have f3 : IntKind.i64.wrap (((at' / 8 + 8192 : Nat) : Int) + 16384) = ((at' / 8 + 8192 + 16384 : Nat) : Int) := by rw [wrap_id (by omega) (by omega)]; omega
    have d3 := div256 (x := at' / 8) (by omega)
    have d4 := div256 (x := at' / 8 + 8192) (by omega)
    have d5 := div256 (x := at' / 8 + 16384) (by omega)
    have d6 := div256 (x := at' / 8 + 8192 + 16384) (by omega)
    have hx := sumS_le (hd4 tos id ttl pt at' false true op da ++ (fr ++ (to ++ op)))
    have hx : 0 ≤ x4 tos id ttl pt at' false true fr to op da ∧ x4 tos id ttl pt at' false true fr to op da ≤ 65535 := hx
    have hat4 : at4 at' false true = at' / 8 + 8192 := by unfold at4; rw [Int.toNat_natCast, if_neg Bool.false_ne_true, if_pos rfl]
    obtain ⟨A, hAA⟩ : ∃ A, A = at' / 8 + 8192 := ⟨_, rfl⟩
    rw [← hAA] at hat4
    simp only [← hAA] at e1 f1 f2 f3 d3 d4 d5 d6
    simp only [go_sem, ↓reduceIte, reduceCtorEq, upd_ne, back_new (no_at), Nat.reduceAdd, Nat.reduceEqDiff, Nat.reduceMul, Nat.reduceSub, Nat.reduceLeDiff, Nat.reduceLT, Int.reduceToNat, Int.reduceLE, Int.reduceLT, Int.reduceEq, UInt8.reduceOfNat, hw, c, hfr, hto, e1, e2, e3, e4, e5, f1, f2, f3, d1, d2, d4, mod256, u8w, u8_ofNat_mod, e_cBslM, u8_lt, UInt8.ofNat_toNat, cBytes_eq]
    generalize hH : ([UInt8.ofNat (64 + (20 + op.length) / 4), UInt8.ofNat tos, UInt8.ofNat ((20 + op.length + da.length) / 256), UInt8.ofNat (20 + op.length + da.length), UInt8.ofNat (id / 256), UInt8.ofNat id, UInt8.ofNat (A / 256), UInt8.ofNat A, UInt8.ofNat ttl, UInt8.ofNat pt, 0, 0] : List UInt8) = H
    have hHl : H.length = 12 := by rw [← hH]; rfl
    refine while_rule (fun k q => ∃ i : Nat, i + k = 4 ∧ q = ([.arr 70 (1 + i) [] 0 0 (12 + i), .int .i64 (i : Int)], upd noSlots 70 (.obj (1 + i) (.bytes (H ++ fr.take i))))) 4 ⟨0, rfl, by simp⟩ ?_
    rintro k q ⟨i, hi, rfl⟩
    simp only [go_sem, ↓reduceIte, reduceCtorEq, upd_ne, back_new (no_at), Nat.reduceAdd, Nat.reduceEqDiff, Nat.reduceMul, Nat.reduceSub, Nat.reduceLeDiff, Nat.reduceLT, Int.reduceToNat, Int.reduceLE, Int.reduceLT, Int.reduceEq, UInt8.reduceOfNat]
    refine nxt_ite (fun h => ?_) (fun h => ?_)
    · have hlt : i < fr.length := by omega
      obtain ⟨b, hb⟩ : ∃ b, fr[i]? = some b := ⟨fr[i], by simp [hlt]⟩
      have htk : fr.take (i + 1) = fr.take i ++ [b] := by rw [List.take_add_one, hb]; rfl
      have hlen : (H ++ fr.take i).length = 12 + i := by rw [List.length_append, List.length_take]; omega
      have hA := wApp_arr (d := 81) (t := 70) (g := 1 + i) (sl := noSlots) (b := H ++ fr.take i) (s := [b]) (by simp; omega)
      rw [hlen] at hA
      simp only [List.map_cons, List.map_nil, byteLV, List.length_cons, List.length_nil] at hA
      have i1 : IntKind.i64.wrap ((i : Int) + 1) = ((i + 1 : Nat) : Int) := by rw [wrap_id (by omega) (by omega)]; omega
      have i2 : i < 4 := by omega
      simp only [go_sem, ↓reduceIte, reduceCtorEq, upd_ne, back_new (no_at), Nat.reduceAdd, Nat.reduceEqDiff, Nat.reduceMul, Nat.reduceSub, Nat.reduceLeDiff, Nat.reduceLT, Int.reduceToNat, Int.reduceLE, Int.reduceLT, Int.reduceEq, UInt8.reduceOfNat, List.getElem?_map, Int.toNat_natCast, hfr, hb, byteLV, hA, i1, i2]
      refine ⟨k - 1, by omega, i + 1, by omega, ?_⟩
      rw [htk, ← List.append_assoc, show 1 + (i + 1) = 1 + i + 1 by omega, show 12 + (i + 1) = 12 + i + 1 by omega]
    · obtain rfl : i = 4 := by omega
      have hf4 : fr.take 4 = fr := List.take_of_length_le (by omega)
      rw [hf4]
      simp only [go_sem, ↓reduceIte, reduceCtorEq, upd_ne, back_new (no_at), Nat.reduceAdd, Nat.reduceEqDiff, Nat.reduceMul, Nat.reduceSub, Nat.reduceLeDiff, Nat.reduceLT, Int.reduceToNat, Int.reduceLE, Int.reduceLT, Int.reduceEq, UInt8.reduceOfNat, Nxt, exIf]
      refine while_rule (fun k q => ∃ i : Nat, i + k = 4 ∧ q = ([.arr 70 (5 + i) [] 0 0 (16 + i), .int .i64 (i : Int)], upd noSlots 70 (.obj (5 + i) (.bytes (H ++ fr ++ to.take i))))) 4 ⟨0, rfl, by simp⟩ ?_
      rintro k q ⟨i, hi, rfl⟩
      simp only [go_sem, ↓reduceIte, reduceCtorEq, upd_ne, back_new (no_at), Nat.reduceAdd, Nat.reduceEqDiff, Nat.reduceMul, Nat.reduceSub, Nat.reduceLeDiff, Nat.reduceLT, Int.reduceToNat, Int.reduceLE, Int.reduceLT, Int.reduceEq, UInt8.reduceOfNat]
      refine nxt_ite (fun h => ?_) (fun h => ?_)
      · have hlt : i < to.length := by omega
        obtain ⟨b, hb⟩ : ∃ b, to[i]? = some b := ⟨to[i], by simp [hlt]⟩
        have htk : to.take (i + 1) = to.take i ++ [b] := by rw [List.take_add_one, hb]; rfl
        have hlen : (H ++ fr ++ to.take i).length = 16 + i := by rw [List.length_append, List.length_append, List.length_take]; omega
        have hA := wApp_arr (d := 92) (t := 70) (g := 5 + i) (sl := noSlots) (b := H ++ fr ++ to.take i) (s := [b]) (by rw [hlen]; simp; omega)
        rw [hlen] at hA
        simp only [List.map_cons, List.map_nil, byteLV, List.length_cons, List.length_nil] at hA
        have i1 : IntKind.i64.wrap ((i : Int) + 1) = ((i + 1 : Nat) : Int) := by rw [wrap_id (by omega) (by omega)]; omega
        have i2 : i < 4 := by omega
        simp only [go_sem, ↓reduceIte, reduceCtorEq, upd_ne, back_new (no_at), Nat.reduceAdd, Nat.reduceEqDiff, Nat.reduceMul, Nat.reduceSub, Nat.reduceLeDiff, Nat.reduceLT, Int.reduceToNat, Int.reduceLE, Int.reduceLT, Int.reduceEq, UInt8.reduceOfNat, List.getElem?_map, Int.toNat_natCast, hto, hb, byteLV, hA, i1, i2]
        refine ⟨k - 1, by omega, i + 1, by omega, ?_⟩
        rw [htk, ← List.append_assoc, show 5 + (i + 1) = 5 + i + 1 by omega, show 16 + (i + 1) = 16 + i + 1 by omega]
      · obtain rfl : i = 4 := by omega
        have ht4 : to.take 4 = to := List.take_of_length_le (by omega)
        rw [ht4]
        have hHf : (H ++ fr ++ to).length = 20 := by simp; omega
        have hB := wApp_str (d := 96) (t := 70) (g := 9) (sl := noSlots) (b := H ++ fr ++ to) (s := op) (by omega)
        rw [hHf] at hB
        simp only [go_sem, ↓reduceIte, reduceCtorEq, upd_ne, back_new (no_at), Nat.reduceAdd, Nat.reduceEqDiff, Nat.reduceMul, Nat.reduceSub, Nat.reduceLeDiff, Nat.reduceLT, Int.reduceToNat, Int.reduceLE, Int.reduceLT, Int.reduceEq, UInt8.reduceOfNat, Nxt, exIf, hB]
        obtain ⟨z, hz⟩ := Int.eq_ofNat_of_zero_le hx.1
        have hL : (H ++ fr ++ to ++ op).length = 20 + op.length := by rw [List.length_append]; omega
        have hsum : sumAt 0 (H ++ fr ++ to ++ op) = sumAt 0 (hd4 tos id ttl pt at' false true op da ++ (fr ++ (to ++ op))) := by
          rw [← hH, show hd4 tos id ttl pt at' false true op da = [UInt8.ofNat (64 + (20 + op.length) / 4), UInt8.ofNat tos, UInt8.ofNat ((20 + op.length + da.length) / 256), UInt8.ofNat (20 + op.length + da.length), UInt8.ofNat (id / 256), UInt8.ofNat id, UInt8.ofNat (A / 256), UInt8.ofNat A, UInt8.ofNat ttl, UInt8.ofNat pt] by unfold hd4; rw [hat4]; simp only [beB1, beB2, Int.toNat_natCast, List.cons_append, List.nil_append]]
          have hsz := sum_zeros (h := [UInt8.ofNat (64 + (20 + op.length) / 4), UInt8.ofNat tos, UInt8.ofNat ((20 + op.length + da.length) / 256), UInt8.ofNat (20 + op.length + da.length), UInt8.ofNat (id / 256), UInt8.ofNat id, UInt8.ofNat (A / 256), UInt8.ofNat A, UInt8.ofNat ttl, UInt8.ofNat pt]) (r := fr ++ (to ++ op)) (by simp only [List.length_cons, List.length_nil])
          simp only [List.cons_append, List.nil_append, List.append_assoc] at hsz ⊢
          exact hsz
        have ho := ev_rOf hS n (H ++ fr ++ to ++ op) (by omega)
        have ho : S.ev (n + 2) id_interpreterref02_Of [.str (H ++ fr ++ to ++ op)] none = some (.int .i64 (z : Int), none) := by
          rw [ho, hsum, ← hz]; unfold x4 sumS; exact rfl
        have hby : by4 tos id ttl pt at' false true fr to op da = ((H ++ fr ++ to ++ op).set 10 (UInt8.ofNat (z / 256))).set 11 (UInt8.ofNat z) ++ da := by
          unfold by4
          rw [hz, ← hH, show hd4 tos id ttl pt at' false true op da = [UInt8.ofNat (64 + (20 + op.length) / 4), UInt8.ofNat tos, UInt8.ofNat ((20 + op.length + da.length) / 256), UInt8.ofNat (20 + op.length + da.length), UInt8.ofNat (id / 256), UInt8.ofNat id, UInt8.ofNat (A / 256), UInt8.ofNat A, UInt8.ofNat ttl, UInt8.ofNat pt] by unfold hd4; rw [hat4]; simp only [beB1, beB2, Int.toNat_natCast, List.cons_append, List.nil_append]]
          simp only [beB2, Int.toNat_natCast, List.cons_append, List.nil_append, List.append_assoc, List.set_cons_succ, List.set_cons_zero]
        have d7 := div256 (x := z) (by omega)
        rw [hby]
        generalize H ++ fr ++ to ++ op = B at *
        have g10 : B[10]? = some B[10] := List.getElem?_eq_getElem (by omega)
        have g11 : (B.set 10 (UInt8.ofNat (z / 256)))[11]? = some B[11] := by rw [List.getElem?_set_ne (by omega)]; exact List.getElem?_eq_getElem (by omega)
        generalize B[10] = b10 at *
        generalize B[11] = b11 at *
        have l1 : 10 < 20 + op.length := by omega
        have l2 : 11 < 20 + op.length := by omega
        have l3 : (((B.set 10 (UInt8.ofNat (z / 256))).set 11 (UInt8.ofNat z))).take (20 + op.length) = (B.set 10 (UInt8.ofNat (z / 256))).set 11 (UInt8.ofNat z) := List.take_of_length_le (by simp; omega)
        have l4 : B.take (20 + op.length) = B := List.take_of_length_le (by omega)
        have l5 : 20 + op.length + da.length ≤ maxStr := by unfold maxStr; omega
        simp only [go_sem, ↓reduceIte, reduceCtorEq, upd_ne, back_new (no_at), Nat.reduceAdd, Nat.reduceEqDiff, Nat.reduceMul, Nat.reduceSub, Nat.reduceLeDiff, Nat.reduceLT, Int.reduceToNat, Int.reduceLE, Int.reduceLT, Int.reduceEq, UInt8.reduceOfNat, List.getElem?_map, Int.toNat_natCast, ho, hL, g10, g11, l1, l2, l3, l4, l5, byteLV, d7, mod256, u8w, u8_ofNat_mod, u8_lt, UInt8.ofNat_toNat, Nat.le_refl]
  · simp only [go_sem, ↓reduceIte, reduceCtorEq, upd_ne, back_new (no_at), Nat.reduceAdd, Nat.reduceEqDiff, Nat.reduceMul, Nat.reduceSub, Nat.reduceLeDiff, Nat.reduceLT, Int.reduceToNat, Int.reduceLE, Int.reduceLT, Int.reduceEq, UInt8.reduceOfNat, hw, c, hfr, hto]
theorem ev_rbytes3_tf {tos id ttl pt at' : Int} {fr to op da : List UInt8} (hf : FitIp4 tos id ttl pt at' fr to op da) (hd : da.length ≤ 400000) :
    S.ev (n + 3) id_interpreterref03_Bytes [ip4LV tos id ttl pt at' true false fr to op da] none = some (.tup [.str (by4R tos id ttl pt at' true false fr to op da), .int .i64 (why4 tos id ttl pt at' false op da)], none) := by
  rw [Sys.step hS.h_interpreterref03_Bytes, F_interpreterref03_Bytes_eq]
  unfold F_interpreterref03_Bytes
  have hfr := hf.hfr
  have hto := hf.hto
  have hw := ev_Why3 hS (n) (tos := tos) (id := id) (ttl := ttl) (pt := pt) (at' := at') (df := true) (mo := false) hfr hto hf.hop hf.hda
  (try simp only [guard_merge, or_merge, and_merge, or_pick, and_pick, guard_or, guard_and]); simp only [to_ob]
  unfold by4R
  by_cases c : why4 tos id ttl pt at' false op da = 0
  · have ok := why4_zero.1 c
    obtain ⟨o1, o2, o3, o4, o5, o6, o7, o8, o9, o10⟩ := ok
    rw [c] at hw
    obtain ⟨tos, rfl⟩ := Int.eq_ofNat_of_zero_le o1.1
    obtain ⟨ttl, rfl⟩ := Int.eq_ofNat_of_zero_le o2.1
    obtain ⟨pt, rfl⟩ := Int.eq_ofNat_of_zero_le o3.1
    obtain ⟨id, rfl⟩ := Int.eq_ofNat_of_zero_le o4.1
    obtain ⟨at', rfl⟩ := Int.eq_ofNat_of_zero_le o5.1
    have e1 : IntKind.i64.wrap (Int.tdiv (at' : Int) 8) = ((at' / 8 : Nat) : Int) := by
      rw [show Int.tdiv (at' : Int) 8 = ((at' / 8 : Nat) : Int) from rfl, wrap_id (by omega) (by omega)]
    have e2 : IntKind.i64.wrap (20 + (op.length : Int)) = ((20 + op.length : Nat) : Int) := by rw [wrap_id (by omega) (by omega)]; omega
    have e3 : IntKind.i64.wrap (Int.tdiv ((20 + op.length : Nat) : Int) 4) = (((20 + op.length) / 4 : Nat) : Int) := by
      rw [show Int.tdiv ((20 + op.length : Nat) : Int) 4 = (((20 + op.length) / 4 : Nat) : Int) from rfl, wrap_id (by omega) (by omega)]
    have e4 : IntKind.i64.wrap (64 + (((20 + op.length) / 4 : Nat) : Int)) = ((64 + (20 + op.length) / 4 : Nat) : Int) := by rw [wrap_id (by omega) (by omega)]; omega
    have e5 : IntKind.i64.wrap (((20 + op.length : Nat) : Int) + (da.length : Int)) = ((20 + op.length + da.length : Nat) : Int) := by rw [wrap_id (by omega) (by omega)]; omega
    have d1 := div256 (x := 20 + op.length + da.length) (by omega)
    have d2 := div256 (x := id) (by omega)
    have f1 : IntKind.i64.wrap (((at' / 8 : Nat) : Int) + 8192) = ((at' / 8 + 8192 : Nat) : Int) := by rw [wrap_id (by omega) (by omega)]; omega
    have f2 : IntKind.i64.wrap (((at' / 8 : Nat) : Int) + 16384) = ((at' / 8 + 16384 : Nat) : Int) := by rw [wrap_id (by omega) (by omega)]; omega
    have f3 : IntKind.i64.wrap (((at' / 8 + 8192 : Nat) : Int) + 16384) = ((at' / 8 + 8192 + 16384 : Nat) : Int) := by rw [wrap_id (by omega) (by omega)]; omega
    have d3 := div256 (x := at' / 8) (by omega)
    have d4 := div256 (x := at' / 8 + 8192) (by omega)
    have d5 := div256 (x := at' / 8 + 16384) (by omega)
    have d6 := div256 (x := at' / 8 + 8192 + 16384) (by omega)
    have hx := sumS_le (hd4 tos id ttl pt at' true false op da ++ (fr ++ (to ++ op)))
    have hx : 0 ≤ x4 tos id ttl pt at' true false fr to op da ∧ x4 tos id ttl pt at' true false fr to op da ≤ 65535 := hx
    have hat4 : at4 at' true false = at' / 8 + 16384 := by unfold at4; rw [Int.toNat_natCast, if_pos rfl, if_neg Bool.false_ne_true]
    obtain ⟨A, hAA⟩ : ∃ A, A = at' / 8 + 16384 := ⟨_, rfl⟩
    rw [← hAA] at hat4
    simp only [← hAA] at e1 f1 f2 f3 d3 d4 d5 d6
    simp only [go_sem, ↓reduceIte, reduceCtorEq, upd_ne, back_new (no_at), Nat.reduceAdd, Nat.reduceEqDiff, Nat.reduceMul, Nat.reduceSub, Nat.reduceLeDiff, Nat.reduceLT, Int.reduceToNat, Int.reduceLE, Int.reduceLT, Int.reduceEq, UInt8.reduceOfNat, hw, c, hfr, hto, e1, e2, e3, e4, e5, f1, f2, f3, d1, d2, d5, mod256, u8w, u8_ofNat_mod, e_cBslM, u8_lt, UInt8.ofNat_toNat, cBytes_eq]
    generalize hH : ([UInt8.ofNat (64 + (20 + op.length) / 4), UInt8.ofNat tos, UInt8.ofNat ((20 + op.length + da.length) / 256), UInt8.ofNat (20 + op.length + da.length), UInt8.ofNat (id / 256), UInt8.ofNat id, UInt8.ofNat (A / 256), UInt8.ofNat A, UInt8.ofNat ttl, UInt8.ofNat pt, 0, 0] : List UInt8) = H
    have hHl : H.length = 12 := by rw [← hH]; rfl
    refine while_rule (fun k q => ∃ i : Nat, i + k = 4 ∧ q = ([.arr 70 (1 + i) [] 0 0 (12 + i), .int .i64 (i : Int)], upd noSlots 70 (.obj (1 + i) (.bytes (H ++ fr.take i))))) 4 ⟨0, rfl, by simp⟩ ?_
    rintro k q ⟨i, hi, rfl⟩
    simp only [go_sem, ↓reduceIte, reduceCtorEq, upd_ne, back_new (no_at), Nat.reduceAdd, Nat.reduceEqDiff, Nat.reduceMul, Nat.reduceSub, Nat.reduceLeDiff, Nat.reduceLT, Int.reduceToNat, Int.reduceLE, Int.reduceLT, Int.reduceEq, UInt8.reduceOfNat]
    refine nxt_ite (fun h => ?_) (fun h => ?_)
    · have hlt : i < fr.length := by omega
      obtain ⟨b, hb⟩ : ∃ b, fr[i]? = some b := ⟨fr[i], by simp [hlt]⟩
      have htk : fr.take (i + 1) = fr.take i ++ [b] := by rw [List.take_add_one, hb]; rfl
      have hlen : (H ++ fr.take i).length = 12 + i := by rw [List.length_append, List.length_take]; omega
      have hA := wApp_arr (d := 81) (t := 70) (g := 1 + i) (sl := noSlots) (b := H ++ fr.take i) (s := [b]) (by simp; omega)
      rw [hlen] at hA
      simp only [List.map_cons, List.map_nil, byteLV, List.length_cons, List.length_nil] at hA
      have i1 : IntKind.i64.wrap ((i : Int) + 1) = ((i + 1 : Nat) : Int) := by rw [wrap_id (by omega) (by omega)]; omega
      have i2 : i < 4 := by omega
      simp only [go_sem, ↓reduceIte, reduceCtorEq, upd_ne, back_new (no_at), Nat.reduceAdd, Nat.reduceEqDiff, Nat.reduceMul, Nat.reduceSub, Nat.reduceLeDiff, Nat.reduceLT, Int.reduceToNat, Int.reduceLE, Int.reduceLT, Int.reduceEq, UInt8.reduceOfNat, List.getElem?_map, Int.toNat_natCast, hfr, hb, byteLV, hA, i1, i2]
      refine ⟨k - 1, by omega, i + 1, by omega, ?_⟩
      rw [htk, ← List.append_assoc, show 1 + (i + 1) = 1 + i + 1 by omega, show 12 + (i + 1) = 12 + i + 1 by omega]
    · obtain rfl : i = 4 := by omega
      have hf4 : fr.take 4 = fr := List.take_of_length_le (by omega)
      rw [hf4]
      simp only [go_sem, ↓reduceIte, reduceCtorEq, upd_ne, back_new (no_at), Nat.reduceAdd, Nat.reduceEqDiff, Nat.reduceMul, Nat.reduceSub, Nat.reduceLeDiff, Nat.reduceLT, Int.reduceToNat, Int.reduceLE, Int.reduceLT, Int.reduceEq, UInt8.reduceOfNat, Nxt, exIf]
      refine while_rule (fun k q => ∃ i : Nat, i + k = 4 ∧ q = ([.arr 70 (5 + i) [] 0 0 (16 + i), .int .i64 (i : Int)], upd noSlots 70 (.obj (5 + i) (.bytes (H ++ fr ++ to.take i))))) 4 ⟨0, rfl, by simp⟩ ?_
      rintro k q ⟨i, hi, rfl⟩
      simp only [go_sem, ↓reduceIte, reduceCtorEq, upd_ne, back_new (no_at), Nat.reduceAdd, Nat.reduceEqDiff, Nat.reduceMul, Nat.reduceSub, Nat.reduceLeDiff, Nat.reduceLT, Int.reduceToNat, Int.reduceLE, Int.reduceLT, Int.reduceEq, UInt8.reduceOfNat]
      refine nxt_ite (fun h => ?_) (fun h => ?_)
      · have hlt : i < to.length := by omega
        obtain ⟨b, hb⟩ : ∃ b, to[i]? = some b := ⟨to[i], by simp [hlt]⟩
        have htk : to.take (i + 1) = to.take i ++ [b] := by rw [List.take_add_one, hb]; rfl
        have hlen : (H ++ fr ++ to.take i).length = 16 + i := by rw [List.length_append, List.length_append, List.length_take]; omega
        have hA := wApp_arr (d := 92) (t := 70) (g := 5 + i) (sl := noSlots) (b := H ++ fr ++ to.take i) (s := [b]) (by rw [hlen]; simp; omega)
        rw [hlen] at hA
        simp only [List.map_cons, List.map_nil, byteLV, List.length_cons, List.length_nil] at hA
        have i1 : IntKind.i64.wrap ((i : Int) + 1) = ((i + 1 : Nat) : Int) := by rw [wrap_id (by omega) (by omega)]; omega
        have i2 : i < 4 := by omega
        simp only [go_sem, ↓reduceIte, reduceCtorEq, upd_ne, back_new (no_at), Nat.reduceAdd, Nat.reduceEqDiff, Nat.reduceMul, Nat.reduceSub, Nat.reduceLeDiff, Nat.reduceLT, Int.reduceToNat, Int.reduceLE, Int.reduceLT, Int.reduceEq, UInt8.reduceOfNat, List.getElem?_map, Int.toNat_natCast, hto, hb, byteLV, hA, i1, i2]
        refine ⟨k - 1, by omega, i + 1, by omega, ?_⟩
        rw [htk, ← List.append_assoc, show 5 + (i + 1) = 5 + i + 1 by omega, show 16 + (i + 1) = 16 + i + 1 by omega]
      · obtain rfl : i = 4 := by omega
        have ht4 : to.take 4 = to := List.take_of_length_le (by omega)
        rw [ht4]
        have hHf : (H ++ fr ++ to).length = 20 := by simp; omega
        have hB := wApp_str (d := 96) (t := 70) (g := 9) (sl := noSlots) (b := H ++ fr ++ to) (s := op) (by omega)
        rw [hHf] at hB
        simp only [go_sem, ↓reduceIte, reduceCtorEq, upd_ne, back_new (no_at), Nat.reduceAdd, Nat.reduceEqDiff, Nat.reduceMul, Nat.reduceSub, Nat.reduceLeDiff, Nat.reduceLT, Int.reduceToNat, Int.reduceLE, Int.reduceLT, Int.reduceEq, UInt8.reduceOfNat, Nxt, exIf, hB]
        obtain ⟨z, hz⟩ := Int.eq_ofNat_of_zero_le hx.1
        have hL : (H ++ fr ++ to ++ op).length = 20 + op.length := by rw [List.length_append]; omega
        have hsum : sumAt 0 (H ++ fr ++ to ++ op) = sumAt 0 (hd4 tos id ttl pt at' true false op da ++ (fr ++ (to ++ op))) := by
          rw [← hH, show hd4 tos id ttl pt at' true false op da = [UInt8.ofNat (64 + (20 + op.length) / 4), UInt8.ofNat tos, UInt8.ofNat ((20 + op.length + da.length) / 256), UInt8.ofNat (20 + op.length + da.length), UInt8.ofNat (id / 256), UInt8.ofNat id, UInt8.ofNat (A / 256), UInt8.ofNat A, UInt8.ofNat ttl, UInt8.ofNat pt] by unfold hd4; rw [hat4]; simp only [beB1, beB2, Int.toNat_natCast, List.cons_append, List.nil_append]]
          have hsz := sum_zeros (h := [UInt8.ofNat (64 + (20 + op.length) / 4), UInt8.ofNat tos, UInt8.ofNat ((20 + op.length + da.length) / 256), UInt8.ofNat (20 + op.length + da.length), UInt8.ofNat (id / 256), UInt8.ofNat id, UInt8.ofNat (A / 256), UInt8.ofNat A, UInt8.ofNat ttl, UInt8.ofNat pt]) (r := fr ++ (to ++ op)) (by simp only [List.length_cons, List.length_nil])
          simp only [List.cons_append, List.nil_append, List.append_assoc] at hsz ⊢
          exact hsz
        have ho := ev_rOf hS n (H ++ fr ++ to ++ op) (by omega)
        have ho : S.ev (n + 2) id_interpreterref02_Of [.str (H ++ fr ++ to ++ op)] none = some (.int .i64 (z : Int), none) := by
          rw [ho, hsum, ← hz]; unfold x4 sumS; exact rfl
        have hby : by4 tos id ttl pt at' true false fr to op da = ((H ++ fr ++ to ++ op).set 10 (UInt8.ofNat (z / 256))).set 11 (UInt8.ofNat z) ++ da := by
          unfold by4
          rw [hz, ← hH, show hd4 tos id ttl pt at' true false op da = [UInt8.ofNat (64 + (20 + op.length) / 4), UInt8.ofNat tos, UInt8.ofNat ((20 + op.length + da.length) / 256), UInt8.ofNat (20 + op.length + da.length), UInt8.ofNat (id / 256), UInt8.ofNat id, UInt8.ofNat (A / 256), UInt8.ofNat A, UInt8.ofNat ttl, UInt8.ofNat pt] by unfold hd4; rw [hat4]; simp only [beB1, beB2, Int.toNat_natCast, List.cons_append, List.nil_append]]
          simp only [beB2, Int.toNat_natCast, List.cons_append, List.nil_append, List.append_assoc, List.set_cons_succ, List.set_cons_zero]
        have d7 := div256 (x := z) (by omega)
        rw [hby]
        generalize H ++ fr ++ to ++ op = B at *
        have g10 : B[10]? = some B[10] := List.getElem?_eq_getElem (by omega)
        have g11 : (B.set 10 (UInt8.ofNat (z / 256)))[11]? = some B[11] := by rw [List.getElem?_set_ne (by omega)]; exact List.getElem?_eq_getElem (by omega)
        generalize B[10] = b10 at *
        generalize B[11] = b11 at *
        have l1 : 10 < 20 + op.length := by omega
        have l2 : 11 < 20 + op.length := by omega
        have l3 : (((B.set 10 (UInt8.ofNat (z / 256))).set 11 (UInt8.ofNat z))).take (20 + op.length) = (B.set 10 (UInt8.ofNat (z / 256))).set 11 (UInt8.ofNat z) := List.take_of_length_le (by simp; omega)
        have l4 : B.take (20 + op.length) = B := List.take_of_length_le (by omega)
        have l5 : 20 + op.length + da.length ≤ maxStr := by unfold maxStr; omega
        simp only [go_sem, ↓reduceIte, reduceCtorEq, upd_ne, back_new (no_at), Nat.reduceAdd, Nat.reduceEqDiff, Nat.reduceMul, Nat.reduceSub, Nat.reduceLeDiff, Nat.reduceLT, Int.reduceToNat, Int.reduceLE, Int.reduceLT, Int.reduceEq, UInt8.reduceOfNat, List.getElem?_map, Int.toNat_natCast, ho, hL, g10, g11, l1, l2, l3, l4, l5, byteLV, d7, mod256, u8w, u8_ofNat_mod, u8_lt, UInt8.ofNat_toNat, Nat.le_refl]
  · simp only [go_sem, ↓reduceIte, reduceCtorEq, upd_ne, back_new (no_at), Nat.reduceAdd, Nat.reduceEqDiff, Nat.reduceMul, Nat.reduceSub, Nat.reduceLeDiff, Nat.reduceLT, Int.reduceToNat, Int.reduceLE, Int.reduceLT, Int.reduceEq, UInt8.reduceOfNat, hw, c, hfr, hto]
theorem ev_rbytes3_tt {tos id ttl pt at' : Int} {fr to op da : List UInt8} (hf : FitIp4 tos id ttl pt at' fr to op da) (hd : da.length ≤ 400000) :
    S.ev (n + 3) id_interpreterref03_Bytes [ip4LV tos id ttl pt at' true true fr to op da] none = some (.tup [.str (by4R tos id ttl pt at' true true fr to op da), .int .i64 (why4 tos id ttl pt at' true op da)], none) := by
  rw [Sys.step hS.h_interpreterref03_Bytes, F_interpreterref03_Bytes_eq]
  unfold F_interpreterref03_Bytes
  have hfr := hf.hfr
  have hto := hf.hto
  have hw := ev_Why3 hS (n) (tos := tos) (id := id) (ttl := ttl) (pt := pt) (at' := at') (df := true) (mo := true) hfr hto hf.hop hf.hda
  (try simp only [guard_merge, or_merge, and_merge, or_pick, and_pick, guard_or, guard_and]); simp only [to_ob]
  unfold by4R
  by_cases c : why4 tos id ttl pt at' true op da = 0
  · have ok := why4_zero.1 c
    obtain ⟨o1, o2, o3, o4, o5, o6, o7, o8, o9, o10⟩ := ok
    rw [c] at hw
    obtain ⟨tos, rfl⟩ := Int.eq_ofNat_of_zero_le o1.1
    obtain ⟨ttl, rfl⟩ := Int.eq_ofNat_of_zero_le o2.1
    obtain ⟨pt, rfl⟩ := Int.eq_ofNat_of_zero_le o3.1
    obtain ⟨id, rfl⟩ := Int.eq_ofNat_of_zero_le o4.1
    obtain ⟨at', rfl⟩ := Int.eq_ofNat_of_zero_le o5.1
    have e1 : IntKind.i64.wrap (Int.tdiv (at' : Int) 8) = ((at' / 8 : Nat) : Int) := by
      rw [show Int.tdiv (at' : Int) 8 = ((at' / 8 : Nat) : Int) from rfl, wrap_id (by omega) (by omega)]
    have e2 : IntKind.i64.wrap (20 + (op.length : Int)) = ((20 + op.length : Nat) : Int) := by rw [wrap_id (by omega) (by omega)]; omega
    have e3 : IntKind.i64.wrap (Int.tdiv ((20 + op.length : Nat) : Int) 4) = (((20 + op.length) / 4 : Nat) : Int) := by
      rw [show Int.tdiv ((20 + op.length : Nat) : Int) 4 = (((20 + op.length) / 4 : Nat) : Int) from rfl, wrap_id (by omega) (by omega)]
    have e4 : IntKind.i64.wrap (64 + (((20 + op.length) / 4 : Nat) : Int)) = ((64 + (20 + op.length) / 4 : Nat) : Int) := by rw [wrap_id (by omega) (by omega)]; omega
    have e5 : IntKind.i64.wrap (((20 + op.length : Nat) : Int) + (da.length : Int)) = ((20 + op.length + da.length : Nat) : Int) := by rw [wrap_id (by omega) (by omega)]; omega
    have d1 := div256 (x := 20 + op.length + da.length) (by omega)
    have d2 := div256 (x := id) (by omega)
    have f1 : IntKind.i64.wrap (((at' / 8 : Nat) : Int) + 8192) = ((at' / 8 + 8192 : Nat) : Int) := by rw [wrap_id (by omega) (by omega)]; omega
    have f2 : IntKind.i64.wrap (((at' / 8 : Nat) : Int) + 16384) = ((at' / 8 + 16384 : Nat) : Int) := by rw [wrap_id (by omega) (by omega)]; omega
    have f3 : IntKind.i64.wrap (((at' / 8 + 8192 : Nat) : Int) + 16384) = ((at' / 8 + 8192 + 16384 : Nat) : Int) := by rw [wrap_id (by omega) (by omega)]; omega
    have d3 := div256 (x := at' / 8) (by omega)
    have d4 := div256 (x := at' / 8 + 8192) (by omega)
    have d5 := div256 (x := at' / 8 + 16384) (by omega)
    have d6 := div256 (x := at' / 8 + 8192 + 16384) (by omega)
    have hx := sumS_le (hd4 tos id ttl pt at' true true op da ++ (fr ++ (to ++ op)))
    have hx : 0 ≤ x4 tos id ttl pt at' true true fr to op da ∧ x4 tos id ttl pt at' true true fr to op da ≤ 65535 := hx
    have hat4 : at4 at' true true = at' / 8 + 8192 + 16384 := by unfold at4; rw [Int.toNat_natCast, if_pos rfl, if_pos rfl]
    obtain ⟨A, hAA⟩ : ∃ A, A = at' / 8 + 8192 + 16384 := ⟨_, rfl⟩
    rw [← hAA] at hat4
    simp only [← hAA] at e1 f1 f2 f3 d3 d4 d5 d6
    simp only [go_sem, ↓reduceIte, reduceCtorEq, upd_ne, back_new (no_at), Nat.reduceAdd, Nat.reduceEqDiff, Nat.reduceMul, Nat.reduceSub, Nat.reduceLeDiff, Nat.reduceLT, Int.reduceToNat, Int.reduceLE, Int.reduceLT, Int.reduceEq, UInt8.reduceOfNat, hw, c, hfr, hto, e1, e2, e3, e4, e5, f1, f2, f3, d1, d2, d6, mod256, u8w, u8_ofNat_mod, e_cBslM, u8_lt, UInt8.ofNat_toNat, cBytes_eq]
    generalize hH : ([UInt8.ofNat (64 + (20 + op.length) / 4), UInt8.ofNat tos, UInt8.ofNat ((20 + op.length + da.length) / 256), UInt8.ofNat (20 + op.length + da.length), UInt8.ofNat (id / 256), UInt8.ofNat id, UInt8.ofNat (A / 256), UInt8.ofNat A, UInt8.ofNat ttl, UInt8.ofNat pt, 0, 0] : List UInt8) = H
    have hHl : H.length = 12 := by rw [← hH]; rfl
    refine while_rule (fun k q => ∃ i : Nat, i + k = 4 ∧ q = ([.arr 70 (1 + i) [] 0 0 (12 + i), .int .i64 (i : Int)], upd noSlots 70 (.obj (1 + i) (.bytes (H ++ fr.take i))))) 4 ⟨0, rfl, by simp⟩ ?_
    rintro k q ⟨i, hi, rfl⟩
    simp only [go_sem, ↓reduceIte, reduceCtorEq, upd_ne, back_new (no_at), Nat.reduceAdd, Nat.reduceEqDiff, Nat.reduceMul, Nat.reduceSub, Nat.reduceLeDiff, Nat.reduceLT, Int.reduceToNat, Int.reduceLE, Int.reduceLT, Int.reduceEq, UInt8.reduceOfNat]
    refine nxt_ite (fun h => ?_) (fun h => ?_)
    · have hlt : i < fr.length := by omega
      obtain ⟨b, hb⟩ : ∃ b, fr[i]? = some b := ⟨fr[i], by simp [hlt]⟩
      have htk : fr.take (i + 1) = fr.take i ++ [b] := by rw [List.take_add_one, hb]; rfl
      have hlen : (H ++ fr.take i).length = 12 + i := by rw [List.length_append, List.length_take]; omega
      have hA := wApp_arr (d := 81) (t := 70) (g := 1 + i) (sl := noSlots) (b := H ++ fr.take i) (s := [b]) (by simp; omega)
      rw [hlen] at hA
      simp only [List.map_cons, List.map_nil, byteLV, List.length_cons, List.length_nil] at hA
      have i1 : IntKind.i64.wrap ((i : Int) + 1) = ((i + 1 : Nat) : Int) := by rw [wrap_id (by omega) (by omega)]; omega
      have i2 : i < 4 := by omega
      simp only [go_sem, ↓reduceIte, reduceCtorEq, upd_ne, back_new (no_at), Nat.reduceAdd, Nat.reduceEqDiff, Nat.reduceMul, Nat.reduceSub, Nat.reduceLeDiff, Nat.reduceLT, Int.reduceToNat, Int.reduceLE, Int.reduceLT, Int.reduceEq, UInt8.reduceOfNat, List.getElem?_map, Int.toNat_natCast, hfr, hb, byteLV, hA, i1, i2]
      refine ⟨k - 1, by omega, i + 1, by omega, ?_⟩
      rw [htk, ← List.append_assoc, show 1 + (i + 1) = 1 + i + 1 by omega, show 12 + (i + 1) = 12 + i + 1 by omega]
    · obtain rfl : i = 4 := by omega
      have hf4 : fr.take 4 = fr := List.take_of_length_le (by omega)
      rw [hf4]
      simp only [go_sem, ↓reduceIte, reduceCtorEq, upd_ne, back_new (no_at), Nat.reduceAdd, Nat.reduceEqDiff, Nat.reduceMul, Nat.reduceSub, Nat.reduceLeDiff, Nat.reduceLT, Int.reduceToNat, Int.reduceLE, Int.reduceLT, Int.reduceEq, UInt8.reduceOfNat, Nxt, exIf]
      refine while_rule (fun k q => ∃ i : Nat, i + k = 4 ∧ q = ([.arr 70 (5 + i) [] 0 0 (16 + i), .int .i64 (i : Int)], upd noSlots 70 (.obj (5 + i) (.bytes (H ++ fr ++ to.take i))))) 4 ⟨0, rfl, by simp⟩ ?_
      rintro k q ⟨i, hi, rfl⟩
      simp only [go_sem, ↓reduceIte, reduceCtorEq, upd_ne, back_new (no_at), Nat.reduceAdd, Nat.reduceEqDiff, Nat.reduceMul, Nat.reduceSub, Nat.reduceLeDiff, Nat.reduceLT, Int.reduceToNat, Int.reduceLE, Int.reduceLT, Int.reduceEq, UInt8.reduceOfNat]
      refine nxt_ite (fun h => ?_) (fun h => ?_)
      · have hlt : i < to.length := by omega
        obtain ⟨b, hb⟩ : ∃ b, to[i]? = some b := ⟨to[i], by simp [hlt]⟩
        have htk : to.take (i + 1) = to.take i ++ [b] := by rw [List.take_add_one, hb]; rfl
        have hlen : (H ++ fr ++ to.take i).length = 16 + i := by rw [List.length_append, List.length_append, List.length_take]; omega
        have hA := wApp_arr (d := 92) (t := 70) (g := 5 + i) (sl := noSlots) (b := H ++ fr ++ to.take i) (s := [b]) (by rw [hlen]; simp; omega)
        rw [hlen] at hA
        simp only [List.map_cons, List.map_nil, byteLV, List.length_cons, List.length_nil] at hA
        have i1 : IntKind.i64.wrap ((i : Int) + 1) = ((i + 1 : Nat) : Int) := by rw [wrap_id (by omega) (by omega)]; omega
        have i2 : i < 4 := by omega
        simp only [go_sem, ↓reduceIte, reduceCtorEq, upd_ne, back_new (no_at), Nat.reduceAdd, Nat.reduceEqDiff, Nat.reduceMul, Nat.reduceSub, Nat.reduceLeDiff, Nat.reduceLT, Int.reduceToNat, Int.reduceLE, Int.reduceLT, Int.reduceEq, UInt8.reduceOfNat, List.getElem?_map, Int.toNat_natCast, hto, hb, byteLV, hA, i1, i2]
        refine ⟨k - 1, by omega, i + 1, by omega, ?_⟩
        rw [htk, ← List.append_assoc, show 5 + (i + 1) = 5 + i + 1 by omega, show 16 + (i + 1) = 16 + i + 1 by omega]
      · obtain rfl : i = 4 := by omega
        have ht4 : to.take 4 = to := List.take_of_length_le (by omega)
        rw [ht4]
        have hHf : (H ++ fr ++ to).length = 20 := by simp; omega
        have hB := wApp_str (d := 96) (t := 70) (g := 9) (sl := noSlots) (b := H ++ fr ++ to) (s := op) (by omega)
        rw [hHf] at hB
        simp only [go_sem, ↓reduceIte, reduceCtorEq, upd_ne, back_new (no_at), Nat.reduceAdd, Nat.reduceEqDiff, Nat.reduceMul, Nat.reduceSub, Nat.reduceLeDiff, Nat.reduceLT, Int.reduceToNat, Int.reduceLE, Int.reduceLT, Int.reduceEq, UInt8.reduceOfNat, Nxt, exIf, hB]
        obtain ⟨z, hz⟩ := Int.eq_ofNat_of_zero_le hx.1
        have hL : (H ++ fr ++ to ++ op).length = 20 + op.length := by rw [List.length_append]; omega
        have hsum : sumAt 0 (H ++ fr ++ to ++ op) = sumAt 0 (hd4 tos id ttl pt at' true true op da ++ (fr ++ (to ++ op))) := by
          rw [← hH, show hd4 tos id ttl pt at' true true op da = [UInt8.ofNat (64 + (20 + op.length) / 4), UInt8.ofNat tos, UInt8.ofNat ((20 + op.length + da.length) / 256), UInt8.ofNat (20 + op.length + da.length), UInt8.ofNat (id / 256), UInt8.ofNat id, UInt8.ofNat (A / 256), UInt8.ofNat A, UInt8.ofNat ttl, UInt8.ofNat pt] by unfold hd4; rw [hat4]; simp only [beB1, beB2, Int.toNat_natCast, List.cons_append, List.nil_append]]
          have hsz := sum_zeros (h := [UInt8.ofNat (64 + (20 + op.length) / 4), UInt8.ofNat tos, UInt8.ofNat ((20 + op.length + da.length) / 256), UInt8.ofNat (20 + op.length + da.length), UInt8.ofNat (id / 256), UInt8.ofNat id, UInt8.ofNat (A / 256), UInt8.ofNat A, UInt8.ofNat ttl, UInt8.ofNat pt]) (r := fr ++ (to ++ op)) (by simp only [List.length_cons, List.length_nil])
          simp only [List.cons_append, List.nil_append, List.append_assoc] at hsz ⊢
          exact hsz
        have ho := ev_rOf hS n (H ++ fr ++ to ++ op) (by omega)
        have ho : S.ev (n + 2) id_interpreterref02_Of [.str (H ++ fr ++ to ++ op)] none = some (.int .i64 (z : Int), none) := by
          rw [ho, hsum, ← hz]; unfold x4 sumS; exact rfl
        have hby : by4 tos id ttl pt at' true true fr to op da = ((H ++ fr ++ to ++ op).set 10 (UInt8.ofNat (z / 256))).set 11 (UInt8.ofNat z) ++ da := by
          unfold by4
          rw [hz, ← hH, show hd4 tos id ttl pt at' true true op da = [UInt8.ofNat (64 + (20 + op.length) / 4), UInt8.ofNat tos, UInt8.ofNat ((20 + op.length + da.length) / 256), UInt8.ofNat (20 + op.length + da.length), UInt8.ofNat (id / 256), UInt8.ofNat id, UInt8.ofNat (A / 256), UInt8.ofNat A, UInt8.ofNat ttl, UInt8.ofNat pt] by unfold hd4; rw [hat4]; simp only [beB1, beB2, Int.toNat_natCast, List.cons_append, List.nil_append]]
          simp only [beB2, Int.toNat_natCast, List.cons_append, List.nil_append, List.append_assoc, List.set_cons_succ, List.set_cons_zero]
        have d7 := div256 (x := z) (by omega)
        rw [hby]
        generalize H ++ fr ++ to ++ op = B at *
        have g10 : B[10]? = some B[10] := List.getElem?_eq_getElem (by omega)
        have g11 : (B.set 10 (UInt8.ofNat (z / 256)))[11]? = some B[11] := by rw [List.getElem?_set_ne (by omega)]; exact List.getElem?_eq_getElem (by omega)
        generalize B[10] = b10 at *
        generalize B[11] = b11 at *
        have l1 : 10 < 20 + op.length := by omega
        have l2 : 11 < 20 + op.length := by omega
        have l3 : (((B.set 10 (UInt8.ofNat (z / 256))).set 11 (UInt8.ofNat z))).take (20 + op.length) = (B.set 10 (UInt8.ofNat (z / 256))).set 11 (UInt8.ofNat z) := List.take_of_length_le (by simp; omega)
        have l4 : B.take (20 + op.length) = B := List.take_of_length_le (by omega)
        have l5 : 20 + op.length + da.length ≤ maxStr := by unfold maxStr; omega
        simp only [go_sem, ↓reduceIte, reduceCtorEq, upd_ne, back_new (no_at), Nat.reduceAdd, Nat.reduceEqDiff, Nat.reduceMul, Nat.reduceSub, Nat.reduceLeDiff, Nat.reduceLT, Int.reduceToNat, Int.reduceLE, Int.reduceLT, Int.reduceEq, UInt8.reduceOfNat, List.getElem?_map, Int.toNat_natCast, ho, hL, g10, g11, l1, l2, l3, l4, l5, byteLV, d7, mod256, u8w, u8_ofNat_mod, u8_lt, UInt8.ofNat_toNat, Nat.le_refl]
  · simp only [go_sem, ↓reduceIte, reduceCtorEq, upd_ne, back_new (no_at), Nat.reduceAdd, Nat.reduceEqDiff, Nat.reduceMul, Nat.reduceSub, Nat.reduceLeDiff, Nat.reduceLT, Int.reduceToNat, Int.reduceLE, Int.reduceLT, Int.reduceEq, UInt8.reduceOfNat, hw, c, hfr, hto]
theorem ev_rbytes3 {tos id ttl pt at' : Int} {df mo : Bool} {fr to op da : List UInt8} (hf : FitIp4 tos id ttl pt at' fr to op da) (hd : da.length ≤ 400000) :
    S.ev (n + 3) id_interpreterref03_Bytes [ip4LV tos id ttl pt at' df mo fr to op da] none = some (.tup [.str (by4R tos id ttl pt at' df mo fr to op da), .int .i64 (why4 tos id ttl pt at' mo op da)], none) := by
  cases df
  · cases mo
    · exact ev_rbytes3_ff hS n hf hd
    · exact ev_rbytes3_ft hS n hf hd
  · cases mo
    · exact ev_rbytes3_tf hS n hf hd
    · exact ev_rbytes3_tt hS n hf hd
end
end Go.Ev

/- Layer 15: the law is awake. -/
namespace Go.Ev
set_option linter.unusedSimpArgs false
set_option linter.unusedVariables false
set_option maxRecDepth 10000
set_option maxHeartbeats 8000000
theorem upF_take {d : List UInt8} {i : Nat} {o w : List UInt8} {none : Bool} (h : 4 ≤ i) : (upF d i o w none).take 4 = d.take 4 := by
  unfold upF
  split
  · rfl
  · split
    · rfl
    · rw [List.take_append_of_le_length (by rw [List.length_take]; omega), List.take_take, Nat.min_eq_left h]
theorem poF_ports {udp : Bool} {d o w : List UInt8} {p q : Nat} (h : 4 ≤ d.length) : (poF udp d o w p q).take 4 = beB 2 p ++ beB 2 q := by
  have hx : (beB 2 p ++ (beB 2 q ++ d.drop 4)).take 4 = beB 2 p ++ beB 2 q := by simp [beB2]
  unfold poF
  rw [if_neg (by omega)]
  split
  · rw [upF_take (by omega), hx]
  · rw [upF_take (by omega), hx]
section
variable {S : Sys} (hS : Has S) (n : Nat)
include hS
theorem ev_awake15 : S.ev (n + 7) id_interpreterlaw15_awake [] none = some (.bool true, none) := by
  rw [Sys.step hS.h_interpreterlaw15_awake, F_interpreterlaw15_awake_eq]
  unfold F_interpreterlaw15_awake
  have h1 : S.ev (n + 6) id_interpreterlaw15_gram [.int .i64 600] none = _ := ev_gram hS (n + 4) 600 (by omega)
  have h0 : S.ev (n + 6) id_interpreterlaw15_gram [.int .i64 0] none = _ := ev_gram hS (n + 4) 0 (by omega)
  have ok := g_ok (k := 600) (by omega)
  have h2 := ev_rbytes3 hS (n + 3) (df := false) (mo := false) (g_fit (k := 600) (by omega)) (by rw [List.length_replicate]; omega)
  unfold by4R at h2
  rw [if_pos (why4_zero.2 ok), why4_zero.2 ok] at h2
  have hBl := by4_len (tos := 0) (id := 0) (ttl := 9) (pt := 17) (at' := 0) (df := false) (mo := false) (fr := [192, 0, 2, 1]) (to := [192, 0, 2, 2]) (op := []) (da := List.replicate 600 120) rfl rfl
  have hp := (ev_parse_by4 hS (n + 1) (df := false) ok (fr := [192, 0, 2, 1]) (to := [192, 0, 2, 2]) rfl rfl).1
  have hi := inside_by4 (df := false) ok (fr := [192, 0, 2, 1]) (to := [192, 0, 2, 2]) rfl rfl (j := 548) (by simp) (by simp)
  have hDl : (List.replicate 600 (120 : UInt8)).length = 600 := List.length_replicate
  have hm := ev_martian4 hS (n + 4) 192 0 2 1
  rw [decide_eq_false (by decide)] at hm
  generalize hB : by4 0 0 9 17 0 false false [192, 0, 2, 1] [192, 0, 2, 2] [] (List.replicate 600 120) = B at *
  generalize hD : List.replicate 600 (120 : UInt8) = D at *
  rw [hDl] at hBl
  have hBl : B.length = 620 := by rw [hBl]; rfl
  have hQl : (B.take 548).length = 548 := by rw [List.length_take]; omega
  generalize hQ : B.take 548 = Q at *
  have hIl : (im4B 11 0 0 Q).length = 556 := by unfold im4B; simp only [List.length_append, beB_len]; omega
  have hId : (im4B 11 0 0 Q).drop 8 = Q := by unfold im4B; simp [beB1, beB2, beB, List.range_succ]
  have ok2 : Ok4 0 5 64 1 0 false [] (im4B 11 0 0 Q) := ⟨by omega, by omega, by omega, by omega, by omega, rfl, by simp, by simp, by simp, by rw [hIl]; simp⟩
  have h3 := ev_own4_ok hS (n + 1) (s := B) (tos := 0) (i0 := 0) (ttl := 9) (pt := 17) (df := false) (mo := false) (fr := [192, 0, 2, 1]) (to := [192, 0, 2, 2]) (op := []) (da := D) (a := [192, 0, 2, 9]) (k := 11) (c := 0) (r := 0) (id := 5) (id' := 5) (md := []) (mtu := 1500) (q := Q)
    hp rfl rfl rfl rfl (by omega) (by omega) hm (by omega) (by omega) (by rw [hDl, hBl]; simp) (by omega) (by simp) (by rw [hDl]; decide) (by rw [hDl, ← hQ, List.take_take]; rfl) rfl (by unfold I64; omega) (why4_zero.2 ok2)
  have h4 := (ev_parse_by4 hS (n + 2) (df := false) ok2 (fr := [192, 0, 2, 9]) (to := [192, 0, 2, 1]) rfl rfl).2
  have hSl := by4_len (tos := 0) (id := 5) (ttl := 64) (pt := 1) (at' := 0) (df := false) (mo := false) (fr := [192, 0, 2, 9]) (to := [192, 0, 2, 1]) (op := []) (da := im4B 11 0 0 Q) rfl rfl
  rw [hIl] at hSl
  have hSl : (by4 0 5 64 1 0 false false [192, 0, 2, 9] [192, 0, 2, 1] [] (im4B 11 0 0 Q)).length = 576 := by rw [hSl]; rfl
  have h5 := ev_inside4 hS (n + 2) Q (by omega)
  rw [hi.1, hi.2.1, hi.2.2, hDl] at h5
  have hD2 : (D.take (548 - (20 + ([] : List UInt8).length))).length = 528 := by rw [List.length_take, hDl]; rfl
  generalize D.take (548 - (20 + ([] : List UInt8).length)) = D2 at *
  have h6 := ev_quote6w hS n (tos := 0) (id := 0) (ttl := 9) (pt := 17) (df := false) (fr := [192, 0, 2, 1]) (to := [192, 0, 2, 2]) (op := []) (da := D2) (a := List.replicate 16 0) (b := List.replicate 16 0) (claim := 600) (p := 1) (q := 2) rfl rfl rfl rfl (by omega) (by omega) (by omega) (by omega) (by omega) (by omega) (by omega) (by omega)
  have hpo := poF_ports (udp := decide ((17 : Int) = 17)) (d := D2) (o := [192, 0, 2, 1] ++ [192, 0, 2, 2]) (w := List.replicate 16 0 ++ List.replicate 16 0) (p := 1) (q := 2) (by omega)
  have hpl := @poF_len (decide ((17 : Int) = 17)) D2 ([192, 0, 2, 1] ++ [192, 0, 2, 2]) (List.replicate 16 0 ++ List.replicate 16 0) 1 2
  generalize poF (decide ((17 : Int) = 17)) D2 ([192, 0, 2, 1] ++ [192, 0, 2, 2]) (List.replicate 16 0 ++ List.replicate 16 0) 1 2 = PO at *
  have hTl : (beB 4 (1610612736 + Int.toNat 0 * 1048576) ++ (beB 2 600 ++ (beB 1 (Int.toNat 17) ++ (beB 1 (Int.toNat 9) ++ (List.replicate 16 0 ++ (List.replicate 16 0 ++ PO)))))).length = 568 := by
    simp only [List.length_append, beB_len, List.length_replicate]; omega
  have hTd : ((beB 4 (1610612736 + Int.toNat 0 * 1048576) ++ (beB 2 600 ++ (beB 1 (Int.toNat 17) ++ (beB 1 (Int.toNat 9) ++ (List.replicate 16 0 ++ (List.replicate 16 0 ++ PO)))))).drop 40).take 4 = [0, 1, 0, 2] := by
    rw [show (beB 4 (1610612736 + Int.toNat 0 * 1048576) ++ (beB 2 600 ++ (beB 1 (Int.toNat 17) ++ (beB 1 (Int.toNat 9) ++ (List.replicate 16 0 ++ (List.replicate 16 0 ++ PO)))))) = (beB 4 (1610612736 + Int.toNat 0 * 1048576) ++ (beB 2 600 ++ (beB 1 (Int.toNat 17) ++ (beB 1 (Int.toNat 9) ++ (List.replicate 16 0 ++ List.replicate 16 0))))) ++ PO by simp only [List.append_assoc]]
    rw [List.drop_left' (by simp only [List.length_append, beB_len, List.length_replicate]), hpo]
    rfl
  have h6 : S.ev (n + 6) id_fault_Quote6 [ip4LV 0 0 9 17 0 false false [192, 0, 2, 1] [192, 0, 2, 2] [] D2, .int .i64 600, .agg [.bytes [0, 0, 0, 0, 0, 0, 0, 0, 0, 0, 0, 0, 0, 0, 0, 0], .int .i64 1], .agg [.bytes [0, 0, 0, 0, 0, 0, 0, 0, 0, 0, 0, 0, 0, 0, 0, 0], .int .i64 2]] none = _ := h6
  generalize beB 4 (1610612736 + Int.toNat 0 * 1048576) ++ (beB 2 600 ++ (beB 1 (Int.toNat 17) ++ (beB 1 (Int.toNat 9) ++ (List.replicate 16 0 ++ (List.replicate 16 0 ++ PO))))) = T at *
  have h3 : S.ev (n + 6) id_fault_Own4 [.agg [.int .i64 11, .int .i64 0, .int .u32 0, .str []], .str B, .bytes [192, 0, 2, 9], .int .i64 5, .int .i64 1500] none = _ := h3
  generalize by4 0 5 64 1 0 false false [192, 0, 2, 9] [192, 0, 2, 1] [] (im4B 11 0 0 Q) = SS at *
  generalize im4B 11 0 0 Q = IB at *
  have n1 : ((600 : Nat) : Int) = 600 := rfl
  have n2 : ((576 : Nat) : Int) = 576 := rfl
  have n3 : ((556 : Nat) : Int) = 556 := rfl
  have n4 : ((528 : Nat) : Int) = 528 := rfl
  have n5 : ((568 : Nat) : Int) = 568 := rfl
  rw [n1] at h5
  have t8 : (IB.drop 8).take (556 - 8) = Q := by rw [hId]; exact List.take_of_length_le (by omega)
  have t9 : Q.take 548 = Q := List.take_of_length_le (by omega)
  have z0 : List.replicate 0 (120 : UInt8) = [] := rfl
  (try simp only [guard_merge, or_merge, and_merge, or_pick, and_pick, guard_or, guard_and]); simp only [to_ob]
  simp only [go_sem, ↓reduceIte, reduceCtorEq, upd_ne, back_new (no_at), Nat.reduceAdd, Nat.reduceEqDiff, Nat.reduceMul, Nat.reduceSub, Nat.reduceLeDiff, Nat.reduceLT, Int.reduceToNat, Int.reduceLE, Int.reduceLT, Int.reduceEq, UInt8.reduceOfNat, List.getElem?_map, Int.toNat_natCast, -List.reduceReplicate, z0, h0, h1, h2, h3, h4, h5, h6, hBl, hSl, hIl, hD2, hTl, hQ, hId, hTd, t8, t9, n1, n2, n3, n4, n5, fE, Nat.sub_zero, List.drop_zero, List.length_cons, List.length_nil, decide_true, beq_self_eq_true, Bool.and_self, Bool.not_true, Bool.false_eq_true]
end
end Go.Ev

/- Layer 15: FaultCut. -/
namespace Go.Ev
set_option linter.unusedSimpArgs false
set_option linter.unusedVariables false
set_option maxRecDepth 10000
set_option maxHeartbeats 8000000
theorem fit_msg {v : LV} (h : fitV (.agg [.int .i64, .int .i64, .int .u32, .str]) v) : ∃ k c r d, v = msgLV k c r d ∧ I64 k ∧ I64 c ∧ (0 ≤ r ∧ r < 4294967296) ∧ d.length ≤ 140737488351232 := by
  obtain ⟨vs, rfl, q0⟩ := fit_agg' h; clear h
  obtain ⟨a, r, e, g1, q1⟩ := fit_cons q0; clear q0; subst e; obtain ⟨k, rfl, h1⟩ := fit_i64 g1; clear g1
  obtain ⟨a, r, e, g2, q2⟩ := fit_cons q1; clear q1; subst e; obtain ⟨c, rfl, h2⟩ := fit_i64 g2; clear g2
  obtain ⟨a, r, e, g3, q3⟩ := fit_cons q2; clear q2; subst e; obtain ⟨x, rfl, h3⟩ := fit_u32 g3; clear g3
  obtain ⟨a, r, e, g4, q4⟩ := fit_cons q3; clear q3; subst e; obtain ⟨d, rfl, h4⟩ := fit_str g4; clear g4
  obtain rfl := fit_nil q4
  exact ⟨k, c, x, d, rfl, h1, h2, by omega, h4⟩
theorem fit_t {m : Nat} {v : LV} (h : fitV (.agg [.bytes m, .int .i64]) v) : ∃ a p, v = .agg [.bytes a, .int .i64 p] ∧ a.length = m ∧ I64 p := by
  obtain ⟨vs, rfl, q0⟩ := fit_agg' h; clear h
  obtain ⟨a, r, e, g1, q1⟩ := fit_cons q0; clear q0; subst e; obtain ⟨a, rfl, h1⟩ := fit_bytes g1; clear g1
  obtain ⟨x, r, e, g2, q2⟩ := fit_cons q1; clear q1; subst e; obtain ⟨p, rfl, h2⟩ := fit_i64 g2; clear g2
  obtain rfl := fit_nil q2
  exact ⟨a, p, rfl, h1, h2⟩
theorem los6_kind {c r a b l : Int} {x : Int × Int × Int} (h : los6 c r a b l = some x) : isF6 x.1 = true := by
  unfold los6 at h
  repeat' split at h
  all_goals first | (obtain rfl := Option.some.inj h; rfl) | cases h
theorem los4_kind {c : Int} {x : Int × Int × Int} (h : los4 c = some x) : isF4 x.1 = true := by
  unfold los4 at h
  repeat' split at h
  all_goals first | (obtain rfl := Option.some.inj h; rfl) | cases h
theorem to6S_kind {k c r a b l : Int} {x : Int × Int × Int} (hk : isF4 k = true) (h : to6S k c r a b l = some x) : isF6 x.1 = true := by
  have hk := of_decide_eq_true hk
  unfold to6S at h
  split at h; · cases h
  split at h; · omega
  split at h; · omega
  split at h; · exact los6_kind h
  split at h; · obtain rfl := Option.some.inj h; rfl
  split at h
  · obtain ⟨y, _, rfl⟩ := Option.map_eq_some_iff.1 h; rfl
  · cases h
theorem to4S_kind {k c r a b : Int} {x : Int × Int × Int} (hk : isF6 k = true) (h : to4S k c r a b = some x) : isF4 x.1 = true := by
  have hk := of_decide_eq_true hk
  unfold to4S at h
  split at h; · cases h
  split at h; · omega
  split at h; · omega
  split at h; · exact los4_kind h
  split at h; · obtain rfl := Option.some.inj h; rfl
  split at h; · obtain rfl := Option.some.inj h; rfl
  split at h
  · obtain ⟨y, _, rfl⟩ := Option.map_eq_some_iff.1 h; rfl
  split at h; · obtain rfl := Option.some.inj h; rfl
  cases h
theorem ca6_some {k c r : Int} {d : List UInt8} {mt4 mt6 : Int} {a b : List UInt8} {p q : Int} {x : Int × Int × Int} {Q : List UInt8} (ha : a.length = 16) (hb : b.length = 16) (h : ca6 k c r d mt4 mt6 a b p q = some (x, Q)) :
    isF4 k = true ∧ isF6 x.1 = true ∧ 40 ≤ Q.length ∧ Q.length ≤ 1232 := by
  unfold ca6 at h
  split at h; · cases h
  rename_i h1
  split at h; · cases h
  have hk : isF4 k = true := by cases e : isF4 k with | true => rfl | false => exact absurd (.inr e) h1
  obtain ⟨y, hy, h⟩ := Option.map_eq_some_iff.1 h
  simp only [Prod.mk.injEq] at h
  obtain ⟨rfl, rfl⟩ := h
  refine ⟨hk, to6S_kind hk hy, ?_⟩
  have hl : 40 ≤ (q6B (bAt d 1 : Nat) (wAt d 4 : Nat) (bAt d 8 : Nat) (bAt d 9 : Nat) (pat4 d) (pmo4 d) (pfr4 d) (pto4 d) (pda4 d) a b (wAt d 2 - n4 d) p q).length := by
    unfold q6B q6H; simp only [List.length_append, beB_len]; omega
  rw [List.length_take]
  omega
theorem ca4_some {k c r : Int} {d : List UInt8} {mt4 mt6 : Int} {a b : List UInt8} {p q : Int} {x : Int × Int × Int} {Q : List UInt8} (ha : a.length = 4) (hb : b.length = 4) (h : ca4 k c r d mt4 mt6 a b p q = some (x, Q)) :
    isF6 k = true ∧ isF4 x.1 = true ∧ 20 ≤ Q.length ∧ Q.length ≤ 548 ∧ (Q.length : Int) ≤ mt4 - 28 ∧ sid mt4 mt6 := by
  unfold ca4 at h
  split at h; · cases h
  rename_i h1
  split at h; · cases h
  have hk : isF6 k = true := by cases e : isF6 k with | true => rfl | false => exact absurd (.inr e) h1
  obtain ⟨y, hy, h⟩ := Option.map_eq_some_iff.1 h
  simp only [Prod.mk.injEq] at h
  obtain ⟨rfl, rfl⟩ := h
  have hs := to4S_sid hy
  refine ⟨hk, to4S_kind hk hy, ?_⟩
  have hl : 20 ≤ (q4B (pcl6 d) (bAt d 7 : Nat) (p6 d) (a6 d) (f6 d) (m6 d) (i6 d) (pfr6 d) (pto6 d) (d6 d) a b (c6 d) p q).length := by
    unfold q4B q4H; simp only [List.length_append, List.length_cons, beB_len]; omega
  rw [List.length_take]
  have hs' := hs
  unfold sid at hs
  refine ⟨?_, ?_, ?_, hs'⟩ <;> omega
section
variable {S : Sys} (hS : Has S) (n : Nat)
include hS
theorem ev_FaultCut {vs : List LV} (h : fitVL [.agg [.int .i64, .int .i64, .int .u32, .str], .agg [.int .i64, .int .i64, .int .u32, .str], .int .i64, .int .i64, .agg [.bytes 16, .int .i64], .agg [.bytes 16, .int .i64], .agg [.bytes 4, .int .i64], .agg [.bytes 4, .int .i64]] vs) :
    S.ev (n + 8) id_interpreterlaw15_FaultCut vs none = some (.bool true, none) := by
  obtain ⟨x, r, e, g1, q1⟩ := fit_cons h; clear h; subst e; obtain ⟨k, c, rr, d, rfl, hk, hc, hr, hd⟩ := fit_msg g1; clear g1
  obtain ⟨x, r, e, g2, q2⟩ := fit_cons q1; clear q1; subst e; obtain ⟨k', c', rr', d', rfl, hk', hc', hr', hd'⟩ := fit_msg g2; clear g2
  obtain ⟨x, r, e, g3, q3⟩ := fit_cons q2; clear q2; subst e; obtain ⟨mt4, rfl, hm4⟩ := fit_i64 g3; clear g3
  obtain ⟨x, r, e, g4, q4⟩ := fit_cons q3; clear q3; subst e; obtain ⟨mt6, rfl, hm6⟩ := fit_i64 g4; clear g4
  obtain ⟨x, r, e, g5, q5⟩ := fit_cons q4; clear q4; subst e; obtain ⟨a, p, rfl, ha, hp⟩ := fit_t g5; clear g5
  obtain ⟨x, r, e, g6, q6⟩ := fit_cons q5; clear q5; subst e; obtain ⟨b, q, rfl, hb, hq⟩ := fit_t g6; clear g6
  obtain ⟨x, r, e, g7, q7⟩ := fit_cons q6; clear q6; subst e; obtain ⟨a4, p4, rfl, ha4, hp4⟩ := fit_t g7; clear g7
  obtain ⟨x, r, e, g8, q8⟩ := fit_cons q7; clear q7; subst e; obtain ⟨b4, q4, rfl, hb4, hq4⟩ := fit_t g8; clear g8
  obtain rfl := fit_nil q8
  rw [Sys.step hS.h_interpreterlaw15_FaultCut, F_interpreterlaw15_FaultCut_eq]
  unfold F_interpreterlaw15_FaultCut
  have hw := ev_awake15 hS n
  (try simp only [guard_merge, or_merge, and_merge, or_pick, and_pick, guard_or, guard_and]); simp only [to_ob]
  by_cases c1 : 70000 < (d.length : Int)
  · simp only [go_sem, ↓reduceIte, reduceCtorEq, upd_ne, back_new (no_at), Nat.reduceAdd, Nat.reduceEqDiff, Nat.reduceMul, Nat.reduceSub, Nat.reduceLeDiff, Nat.reduceLT, Int.reduceToNat, Int.reduceLE, Int.reduceLT, Int.reduceEq, UInt8.reduceOfNat, List.getElem?_map, Int.toNat_natCast, hw, ha, hb, ha4, hb4, c1]
  by_cases c2 : 70000 < (d'.length : Int)
  · simp only [go_sem, ↓reduceIte, reduceCtorEq, upd_ne, back_new (no_at), Nat.reduceAdd, Nat.reduceEqDiff, Nat.reduceMul, Nat.reduceSub, Nat.reduceLeDiff, Nat.reduceLT, Int.reduceToNat, Int.reduceLE, Int.reduceLT, Int.reduceEq, UInt8.reduceOfNat, List.getElem?_map, Int.toNat_natCast, hw, ha, hb, ha4, hb4, c1, c2]
  have h1 := ev_carry6 hS n (k := k) (c := c) (r := rr) (d := d) (mt4 := mt4) (mt6 := mt6) (a := a) (b := b) (p := p) (q := q) (by omega) hr ha hb
  have h2 := ev_carry4 hS n (k := k') (c := c') (r := rr') (d := d') (mt4 := mt4) (mt6 := mt6) (a := a4) (b := b4) (p := p4) (q := q4) (by omega) hr' ha4 hb4
  have f1 := ev_failure4 hS (n + 6) k c rr d
  have f2 := ev_failure6 hS (n + 6) k' c' rr' d'
  have two : ∀ X, X = true → (X : Bool) = true := fun _ h => h
  -- the second half
  cases hX : ca4 k' c' rr' d' mt4 mt6 a4 b4 p4 q4 with
  | none =>
    rw [hX] at h2
    unfold carO at h2
    cases hY : ca6 k c rr d mt4 mt6 a b p q with
    | none =>
      rw [hY] at h1
      unfold carO at h1
      simp only [go_sem, ↓reduceIte, reduceCtorEq, upd_ne, back_new (no_at), Nat.reduceAdd, Nat.reduceEqDiff, Nat.reduceMul, Nat.reduceSub, Nat.reduceLeDiff, Nat.reduceLT, Int.reduceToNat, Int.reduceLE, Int.reduceLT, Int.reduceEq, UInt8.reduceOfNat, List.getElem?_map, Int.toNat_natCast, hw, ha, hb, ha4, hb4, c1, c2, h1, h2]
    | some y =>
      obtain ⟨⟨yk, yc, yr⟩, Q⟩ := y
      obtain ⟨s1, s2, s3, s4⟩ := ca6_some ha hb hY
      rw [hY] at h1
      unfold carO at h1
      rw [s1] at f1
      have f3 := ev_failure6 hS (n + 6) yk yc yr Q
      rw [s2] at f3
      have l1 : ¬ (1232 : Int) < (Q.length : Int) := by omega
      have l2 : ¬ (Q.length : Int) < 40 := by omega
      simp only [go_sem, ↓reduceIte, reduceCtorEq, upd_ne, back_new (no_at), Nat.reduceAdd, Nat.reduceEqDiff, Nat.reduceMul, Nat.reduceSub, Nat.reduceLeDiff, Nat.reduceLT, Int.reduceToNat, Int.reduceLE, Int.reduceLT, Int.reduceEq, UInt8.reduceOfNat, List.getElem?_map, Int.toNat_natCast, hw, ha, hb, ha4, hb4, c1, c2, h1, h2, f1, f3, l1, l2]
  | some z =>
    obtain ⟨⟨zk, zc, zr⟩, Z⟩ := z
    obtain ⟨t1, t2, t3, t4, t5, t6⟩ := ca4_some ha4 hb4 hX
    unfold sid at t6
    rw [hX] at h2
    unfold carO at h2
    rw [t1] at f2
    have f4 := ev_failure4 hS (n + 6) zk zc zr Z
    rw [t2] at f4
    have l3 : (20 : Int) ≤ (Z.length : Int) := by omega
    have l4 : (Z.length : Int) ≤ 548 := by omega
    have e28 : IntKind.i64.wrap (mt4 - 28) = mt4 - 28 := wrap_id (by omega) (by omega)
    cases hY : ca6 k c rr d mt4 mt6 a b p q with
    | none =>
      rw [hY] at h1
      unfold carO at h1
      simp only [go_sem, ↓reduceIte, reduceCtorEq, upd_ne, back_new (no_at), Nat.reduceAdd, Nat.reduceEqDiff, Nat.reduceMul, Nat.reduceSub, Nat.reduceLeDiff, Nat.reduceLT, Int.reduceToNat, Int.reduceLE, Int.reduceLT, Int.reduceEq, UInt8.reduceOfNat, List.getElem?_map, Int.toNat_natCast, hw, ha, hb, ha4, hb4, c1, c2, h1, h2, f2, f4, l3, l4, t5, e28]
    | some y =>
      obtain ⟨⟨yk, yc, yr⟩, Q⟩ := y
      obtain ⟨s1, s2, s3, s4⟩ := ca6_some ha hb hY
      rw [hY] at h1
      unfold carO at h1
      rw [s1] at f1
      have f3 := ev_failure6 hS (n + 6) yk yc yr Q
      rw [s2] at f3
      have l1 : ¬ (1232 : Int) < (Q.length : Int) := by omega
      have l2 : ¬ (Q.length : Int) < 40 := by omega
      simp only [go_sem, ↓reduceIte, reduceCtorEq, upd_ne, back_new (no_at), Nat.reduceAdd, Nat.reduceEqDiff, Nat.reduceMul, Nat.reduceSub, Nat.reduceLeDiff, Nat.reduceLT, Int.reduceToNat, Int.reduceLE, Int.reduceLT, Int.reduceEq, UInt8.reduceOfNat, List.getElem?_map, Int.toNat_natCast, hw, ha, hb, ha4, hb4, c1, c2, h1, h2, f1, f2, f3, f4, l1, l2, l3, l4, t5, e28]
end
end Go.Ev
