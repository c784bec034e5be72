/- Part 7 of a proof: what the functions yield. It stands by itself; no condition. -/
import Derived.Test.YtgellbiecjifbaaGreatE6
import Derived.Test.YtgellbiecjifbaaGreatE5
namespace Go.Ev
set_option linter.unusedSimpArgs false
set_option linter.unusedVariables false
set_option maxRecDepth 10000
set_option maxHeartbeats 16000000
theorem poi4_le {r y : Int} (h : poi4 r = some y) : 0 ≤ y ∧ y ≤ 16 := by
  unfold poi4 at h
  repeat' split at h
  all_goals first | (obtain rfl := Option.some.inj h; omega) | simp at h
theorem poi6_le {r y : Int} (h : poi6 r = some y) : 0 ≤ y ∧ y ≤ 24 := by
  unfold poi6 at h
  repeat' split at h
  all_goals first | (obtain rfl := Option.some.inj h; omega) | simp at h
section
variable {S : Sys} (hS : Has S) (n : Nat)
include hS
theorem ev_lost6 (k c r m4 m6 len : Int) (d : List UInt8) (hr : 0 ≤ r ∧ r < 4294967296) (hs : sid m4 m6) : S.ev (n + 2) id_icmpmap_lost6 [msgLV k c r d, .int .i64 m4, .int .i64 m6, .int .i64 len] none = some (msgO (los6 c r m4 m6 len) d, none) := by
  rw [Sys.step hS.h_icmpmap_lost6, F_icmpmap_lost6_eq]
  unfold F_icmpmap_lost6 F_icmpmap_lost6_k3 F_icmpmap_lost6_k1 F_icmpmap_lost6_k2 F_icmpmap_lost6_k4
  have hsd : ∀ k' c' r' : Int, (0 ≤ r' ∧ r' < 4294967296) → S.ev (n + 1) id_icmpmap_said [msgLV k c r d, .int .i64 k', .int .i64 c', .int .i64 r'] none = some (.tup [msgLV k' c' r' d, .bool true], none) := fun k' c' r' h => ev_said hS n k c r k' c' r' d h
  have s1 := hsd 1 0 0 (by omega)
  have s2 := hsd 1 1 0 (by omega)
  have s3 := hsd 1 4 0 (by omega)
  have s4 := hsd 4 1 6 (by omega)
  have hpl := plat_le len
  have hP := ev_plat hS n len
  unfold sid at hs
  have s5 := hsd 2 0 (mtu6O r m4 m6 len) (by unfold mtu6O; split <;> omega)
  (try simp only [guard_merge, or_merge, and_merge, or_pick, and_pick, guard_or, guard_and]); simp only [to_ob]
  by_cases c0 : c = 0
  · subst c0
    simp only [go_sem, ↓reduceIte, reduceCtorEq, upd_ne, back_new (no_at), Nat.reduceAdd, Nat.reduceEqDiff, Nat.reduceMul, Nat.reduceSub, Nat.reduceLeDiff, Nat.reduceLT, Int.reduceToNat, Int.reduceLE, Int.reduceLT, Int.reduceEq, UInt8.reduceOfNat, List.getElem?_map, Int.toNat_natCast, s1, s2, s3, s4]
    rfl
  by_cases c1 : c = 1
  · subst c1
    simp only [go_sem, ↓reduceIte, reduceCtorEq, upd_ne, back_new (no_at), Nat.reduceAdd, Nat.reduceEqDiff, Nat.reduceMul, Nat.reduceSub, Nat.reduceLeDiff, Nat.reduceLT, Int.reduceToNat, Int.reduceLE, Int.reduceLT, Int.reduceEq, UInt8.reduceOfNat, List.getElem?_map, Int.toNat_natCast, s1, s2, s3, s4]
    rfl
  by_cases c5 : c = 5
  · subst c5
    simp only [go_sem, ↓reduceIte, reduceCtorEq, upd_ne, back_new (no_at), Nat.reduceAdd, Nat.reduceEqDiff, Nat.reduceMul, Nat.reduceSub, Nat.reduceLeDiff, Nat.reduceLT, Int.reduceToNat, Int.reduceLE, Int.reduceLT, Int.reduceEq, UInt8.reduceOfNat, List.getElem?_map, Int.toNat_natCast, s1, s2, s3, s4]
    rfl
  by_cases c6 : c = 6
  · subst c6
    simp only [go_sem, ↓reduceIte, reduceCtorEq, upd_ne, back_new (no_at), Nat.reduceAdd, Nat.reduceEqDiff, Nat.reduceMul, Nat.reduceSub, Nat.reduceLeDiff, Nat.reduceLT, Int.reduceToNat, Int.reduceLE, Int.reduceLT, Int.reduceEq, UInt8.reduceOfNat, List.getElem?_map, Int.toNat_natCast, s1, s2, s3, s4]
    rfl
  by_cases c7 : c = 7
  · subst c7
    simp only [go_sem, ↓reduceIte, reduceCtorEq, upd_ne, back_new (no_at), Nat.reduceAdd, Nat.reduceEqDiff, Nat.reduceMul, Nat.reduceSub, Nat.reduceLeDiff, Nat.reduceLT, Int.reduceToNat, Int.reduceLE, Int.reduceLT, Int.reduceEq, UInt8.reduceOfNat, List.getElem?_map, Int.toNat_natCast, s1, s2, s3, s4]
    rfl
  by_cases c8 : c = 8
  · subst c8
    simp only [go_sem, ↓reduceIte, reduceCtorEq, upd_ne, back_new (no_at), Nat.reduceAdd, Nat.reduceEqDiff, Nat.reduceMul, Nat.reduceSub, Nat.reduceLeDiff, Nat.reduceLT, Int.reduceToNat, Int.reduceLE, Int.reduceLT, Int.reduceEq, UInt8.reduceOfNat, List.getElem?_map, Int.toNat_natCast, s1, s2, s3, s4]
    rfl
  by_cases c11 : c = 11
  · subst c11
    simp only [go_sem, ↓reduceIte, reduceCtorEq, upd_ne, back_new (no_at), Nat.reduceAdd, Nat.reduceEqDiff, Nat.reduceMul, Nat.reduceSub, Nat.reduceLeDiff, Nat.reduceLT, Int.reduceToNat, Int.reduceLE, Int.reduceLT, Int.reduceEq, UInt8.reduceOfNat, List.getElem?_map, Int.toNat_natCast, s1, s2, s3, s4]
    rfl
  by_cases c12 : c = 12
  · subst c12
    simp only [go_sem, ↓reduceIte, reduceCtorEq, upd_ne, back_new (no_at), Nat.reduceAdd, Nat.reduceEqDiff, Nat.reduceMul, Nat.reduceSub, Nat.reduceLeDiff, Nat.reduceLT, Int.reduceToNat, Int.reduceLE, Int.reduceLT, Int.reduceEq, UInt8.reduceOfNat, List.getElem?_map, Int.toNat_natCast, s1, s2, s3, s4]
    rfl
  by_cases c9 : c = 9
  · subst c9
    simp only [go_sem, ↓reduceIte, reduceCtorEq, upd_ne, back_new (no_at), Nat.reduceAdd, Nat.reduceEqDiff, Nat.reduceMul, Nat.reduceSub, Nat.reduceLeDiff, Nat.reduceLT, Int.reduceToNat, Int.reduceLE, Int.reduceLT, Int.reduceEq, UInt8.reduceOfNat, List.getElem?_map, Int.toNat_natCast, s1, s2, s3, s4]
    rfl
  by_cases c10 : c = 10
  · subst c10
    simp only [go_sem, ↓reduceIte, reduceCtorEq, upd_ne, back_new (no_at), Nat.reduceAdd, Nat.reduceEqDiff, Nat.reduceMul, Nat.reduceSub, Nat.reduceLeDiff, Nat.reduceLT, Int.reduceToNat, Int.reduceLE, Int.reduceLT, Int.reduceEq, UInt8.reduceOfNat, List.getElem?_map, Int.toNat_natCast, s1, s2, s3, s4]
    rfl
  by_cases c13 : c = 13
  · subst c13
    simp only [go_sem, ↓reduceIte, reduceCtorEq, upd_ne, back_new (no_at), Nat.reduceAdd, Nat.reduceEqDiff, Nat.reduceMul, Nat.reduceSub, Nat.reduceLeDiff, Nat.reduceLT, Int.reduceToNat, Int.reduceLE, Int.reduceLT, Int.reduceEq, UInt8.reduceOfNat, List.getElem?_map, Int.toNat_natCast, s1, s2, s3, s4]
    rfl
  by_cases c15 : c = 15
  · subst c15
    simp only [go_sem, ↓reduceIte, reduceCtorEq, upd_ne, back_new (no_at), Nat.reduceAdd, Nat.reduceEqDiff, Nat.reduceMul, Nat.reduceSub, Nat.reduceLeDiff, Nat.reduceLT, Int.reduceToNat, Int.reduceLE, Int.reduceLT, Int.reduceEq, UInt8.reduceOfNat, List.getElem?_map, Int.toNat_natCast, s1, s2, s3, s4]
    rfl
  by_cases c3 : c = 3
  · subst c3
    simp only [go_sem, ↓reduceIte, reduceCtorEq, upd_ne, back_new (no_at), Nat.reduceAdd, Nat.reduceEqDiff, Nat.reduceMul, Nat.reduceSub, Nat.reduceLeDiff, Nat.reduceLT, Int.reduceToNat, Int.reduceLE, Int.reduceLT, Int.reduceEq, UInt8.reduceOfNat, List.getElem?_map, Int.toNat_natCast, s1, s2, s3, s4]
    rfl
  by_cases c2 : c = 2
  · subst c2
    simp only [go_sem, ↓reduceIte, reduceCtorEq, upd_ne, back_new (no_at), Nat.reduceAdd, Nat.reduceEqDiff, Nat.reduceMul, Nat.reduceSub, Nat.reduceLeDiff, Nat.reduceLT, Int.reduceToNat, Int.reduceLE, Int.reduceLT, Int.reduceEq, UInt8.reduceOfNat, List.getElem?_map, Int.toNat_natCast, s1, s2, s3, s4]
    rfl
  by_cases c4 : c = 4
  · subst c4
    have e1 : bitsOf .and .u32 r 65535 = r % 65536 := by
      rw [show (65535 : Int) = ((2 ^ 16 - 1 : Nat) : Int) from rfl, bits_mask 16 (by omega) (show r ≤ IntKind.u32.max by simp [IntKind.max, IntKind.signed, IntKind.bits]; omega) (by decide)]; rfl
    have e2 : IntKind.i64.wrap (r % 65536) = r % 65536 := wrap_id (by omega) (by omega)
    have e4 : IntKind.i64.wrap (m4 + 20) = m4 + 20 := wrap_id (by omega) (by omega)
    have e5 : IntKind.i64.wrap (plat len + 20) = plat len + 20 := wrap_id (by omega) (by omega)
    have e6 : IntKind.i64.wrap (r % 65536 + 20) = r % 65536 + 20 := wrap_id (by omega) (by omega)
    have mm : ∀ x : Int, (if (if m4 + 20 < (if m6 < x then m6 else x) then m4 + 20 else (if m6 < x then m6 else x)) < 1280 then 1280 else (if m4 + 20 < (if m6 < x then m6 else x) then m4 + 20 else (if m6 < x then m6 else x))) = max (min (min x m6) (m4 + 20)) 1280 := by
      intro x; repeat' split
      all_goals omega
    by_cases c0 : r % 65536 = 0
    · have hO : mtu6O r m4 m6 len = max (min (min (plat len + 20) m6) (m4 + 20)) 1280 := by unfold mtu6O; rw [if_pos c0]
      rw [hO] at s5
      have hL : los6 4 r m4 m6 len = some (2, 0, max (min (min (plat len + 20) m6) (m4 + 20)) 1280) := by rw [← hO]; rfl
      rw [hL]
      simp only [go_sem, ↓reduceIte, reduceCtorEq, upd_ne, back_new (no_at), Nat.reduceAdd, Nat.reduceEqDiff, Nat.reduceMul, Nat.reduceSub, Nat.reduceLeDiff, Nat.reduceLT, Int.reduceToNat, Int.reduceLE, Int.reduceLT, Int.reduceEq, UInt8.reduceOfNat, List.getElem?_map, Int.toNat_natCast, pMinmax, pMinmax2, Option.bind_some, Bool.false_eq_true, if_true, e1, e2, c0, show IntKind.i64.wrap 0 = 0 from rfl, hP, e4, e5, mm, s5, msgO]
    · have hO : mtu6O r m4 m6 len = max (min (min (r % 65536 + 20) m6) (m4 + 20)) 1280 := by unfold mtu6O; rw [if_neg c0]
      rw [hO] at s5
      have hL : los6 4 r m4 m6 len = some (2, 0, max (min (min (r % 65536 + 20) m6) (m4 + 20)) 1280) := by rw [← hO]; rfl
      rw [hL]
      simp only [go_sem, ↓reduceIte, reduceCtorEq, upd_ne, back_new (no_at), Nat.reduceAdd, Nat.reduceEqDiff, Nat.reduceMul, Nat.reduceSub, Nat.reduceLeDiff, Nat.reduceLT, Int.reduceToNat, Int.reduceLE, Int.reduceLT, Int.reduceEq, UInt8.reduceOfNat, List.getElem?_map, Int.toNat_natCast, pMinmax, pMinmax2, Option.bind_some, Bool.false_eq_true, if_true, e1, e2, c0, hP, e4, e6, mm, s5, msgO]
  have hL : los6 c r m4 m6 len = none := by unfold los6; repeat' split
                                            all_goals first | rfl | (exfalso; omega)
  rw [hL]
  simp only [go_sem, ↓reduceIte, reduceCtorEq, upd_ne, back_new (no_at), Nat.reduceAdd, Nat.reduceEqDiff, Nat.reduceMul, Nat.reduceSub, Nat.reduceLeDiff, Nat.reduceLT, Int.reduceToNat, Int.reduceLE, Int.reduceLT, Int.reduceEq, UInt8.reduceOfNat, List.getElem?_map, Int.toNat_natCast, c0, c1, c5, c6, c7, c8, c11, c12, c9, c10, c13, c15, c3, c2, c4, msgO]
theorem ev_to6 (k c r m4 m6 len : Int) (d : List UInt8) (hr : 0 ≤ r ∧ r < 4294967296) : S.ev (n + 3) id_icmpmap_To6 [msgLV k c r d, .int .i64 m4, .int .i64 m6, .int .i64 len] none = some (msgO (to6S k c r m4 m6 len) d, none) := by
  rw [Sys.step hS.h_icmpmap_To6, F_icmpmap_To6_eq]
  unfold F_icmpmap_To6 F_icmpmap_To6_k1
  have hsd : ∀ k' c' r' : Int, (0 ≤ r' ∧ r' < 4294967296) → S.ev (n + 2) id_icmpmap_said [msgLV k c r d, .int .i64 k', .int .i64 c', .int .i64 r'] none = some (.tup [msgLV k' c' r' d, .bool true], none) := fun k' c' r' h => ev_said hS (n + 1) k c r k' c' r' d h
  have s0 := ev_sides hS (n + 1) m4 m6
  have e1 : IntKind.i64.wrap r = r := wrap_id (by omega) (by omega)
  (try simp only [guard_merge, or_merge, and_merge, or_pick, and_pick, guard_or, guard_and]); simp only [to_ob]
  unfold to6S
  by_cases hs : sid m4 m6
  case neg =>
    rw [decide_eq_false hs] at s0
    rw [if_pos hs]
    simp only [go_sem, ↓reduceIte, reduceCtorEq, upd_ne, back_new (no_at), Nat.reduceAdd, Nat.reduceEqDiff, Nat.reduceMul, Nat.reduceSub, Nat.reduceLeDiff, Nat.reduceLT, Int.reduceToNat, Int.reduceLE, Int.reduceLT, Int.reduceEq, UInt8.reduceOfNat, List.getElem?_map, Int.toNat_natCast, s0, msgO]
  rw [decide_eq_true hs] at s0
  rw [if_neg (not_not_intro hs)]
  by_cases k8 : k = 8
  · subst k8
    by_cases c0 : c = 0
    · subst c0
      have s1 := hsd 128 0 r hr
      simp only [go_sem, ↓reduceIte, reduceCtorEq, upd_ne, back_new (no_at), Nat.reduceAdd, Nat.reduceEqDiff, Nat.reduceMul, Nat.reduceSub, Nat.reduceLeDiff, Nat.reduceLT, Int.reduceToNat, Int.reduceLE, Int.reduceLT, Int.reduceEq, UInt8.reduceOfNat, List.getElem?_map, Int.toNat_natCast, s0, s1, e1, msgO, true_and]
    · simp only [go_sem, ↓reduceIte, reduceCtorEq, upd_ne, back_new (no_at), Nat.reduceAdd, Nat.reduceEqDiff, Nat.reduceMul, Nat.reduceSub, Nat.reduceLeDiff, Nat.reduceLT, Int.reduceToNat, Int.reduceLE, Int.reduceLT, Int.reduceEq, UInt8.reduceOfNat, List.getElem?_map, Int.toNat_natCast, s0, c0, msgO, true_and]
  by_cases k0 : k = 0
  · subst k0
    by_cases c0 : c = 0
    · subst c0
      have s1 := hsd 129 0 r hr
      simp only [go_sem, ↓reduceIte, reduceCtorEq, upd_ne, back_new (no_at), Nat.reduceAdd, Nat.reduceEqDiff, Nat.reduceMul, Nat.reduceSub, Nat.reduceLeDiff, Nat.reduceLT, Int.reduceToNat, Int.reduceLE, Int.reduceLT, Int.reduceEq, UInt8.reduceOfNat, List.getElem?_map, Int.toNat_natCast, s0, s1, e1, msgO, true_and]
    · simp only [go_sem, ↓reduceIte, reduceCtorEq, upd_ne, back_new (no_at), Nat.reduceAdd, Nat.reduceEqDiff, Nat.reduceMul, Nat.reduceSub, Nat.reduceLeDiff, Nat.reduceLT, Int.reduceToNat, Int.reduceLE, Int.reduceLT, Int.reduceEq, UInt8.reduceOfNat, List.getElem?_map, Int.toNat_natCast, s0, c0, msgO, true_and]
  by_cases k3 : k = 3
  · subst k3
    have hl := ev_lost6 hS n 3 c r m4 m6 len d hr hs
    have hx : ∀ X : Option (Int × Int × Int), ∃ m b, msgO X d = .tup [m, .bool b] ∧ ∃ k' c' r' d', m = msgLV k' c' r' d' := fun X => by
      cases X with
      | none => exact ⟨_, _, rfl, _, _, _, _, rfl⟩
      | some q => obtain ⟨x, y, z⟩ := q; exact ⟨_, _, rfl, _, _, _, _, rfl⟩
    obtain ⟨m, b, hm, k', c', r', d', rfl⟩ := hx (los6 c r m4 m6 len)
    rw [hm] at hl
    have g1 : ¬ ((3 : Int) = 8 ∧ c = 0) := by omega
    have g2 : ¬ ((3 : Int) = 0 ∧ c = 0) := by omega
    rw [if_neg g1, if_neg g2, if_pos rfl, hm]
    simp only [go_sem, ↓reduceIte, reduceCtorEq, upd_ne, back_new (no_at), Nat.reduceAdd, Nat.reduceEqDiff, Nat.reduceMul, Nat.reduceSub, Nat.reduceLeDiff, Nat.reduceLT, Int.reduceToNat, Int.reduceLE, Int.reduceLT, Int.reduceEq, UInt8.reduceOfNat, List.getElem?_map, Int.toNat_natCast, s0, hl]
  by_cases k11 : k = 11
  · subst k11
    by_cases c0 : c = 0
    · subst c0
      have s1 := hsd 3 0 0 (by omega)
      simp only [go_sem, ↓reduceIte, reduceCtorEq, upd_ne, back_new (no_at), Nat.reduceAdd, Nat.reduceEqDiff, Nat.reduceMul, Nat.reduceSub, Nat.reduceLeDiff, Nat.reduceLT, Int.reduceToNat, Int.reduceLE, Int.reduceLT, Int.reduceEq, UInt8.reduceOfNat, List.getElem?_map, Int.toNat_natCast, s0, s1, msgO, true_and]
    · by_cases c1 : c = 1
      · subst c1
        have s1 := hsd 3 1 0 (by omega)
        simp only [go_sem, ↓reduceIte, reduceCtorEq, upd_ne, back_new (no_at), Nat.reduceAdd, Nat.reduceEqDiff, Nat.reduceMul, Nat.reduceSub, Nat.reduceLeDiff, Nat.reduceLT, Int.reduceToNat, Int.reduceLE, Int.reduceLT, Int.reduceEq, UInt8.reduceOfNat, List.getElem?_map, Int.toNat_natCast, s0, s1, msgO, true_and]
      · simp only [go_sem, ↓reduceIte, reduceCtorEq, upd_ne, back_new (no_at), Nat.reduceAdd, Nat.reduceEqDiff, Nat.reduceMul, Nat.reduceSub, Nat.reduceLeDiff, Nat.reduceLT, Int.reduceToNat, Int.reduceLE, Int.reduceLT, Int.reduceEq, UInt8.reduceOfNat, List.getElem?_map, Int.toNat_natCast, s0, c0, c1, msgO, true_and]
  by_cases k12 : k = 12
  · subst k12
    have e2 : Int.fdiv r (2 ^ min 24 32) = r / 16777216 := by rw [show min 24 32 = 24 from rfl, Int.fdiv_eq_ediv_of_nonneg _ (by decide)]; rfl
    have e3 : IntKind.i64.wrap (r / 16777216) = r / 16777216 := wrap_id (by omega) (by omega)
    have hp := ev_poi6 hS (n + 1) (r / 16777216)
    by_cases cc : c = 0 ∨ c = 2
    · cases hq : poi6 (r / 16777216) with
      | none =>
        rw [hq] at hp
        rcases cc with rfl | rfl <;> simp only [go_sem, ↓reduceIte, reduceCtorEq, upd_ne, back_new (no_at), Nat.reduceAdd, Nat.reduceEqDiff, Nat.reduceMul, Nat.reduceSub, Nat.reduceLeDiff, Nat.reduceLT, Int.reduceToNat, Int.reduceLE, Int.reduceLT, Int.reduceEq, UInt8.reduceOfNat, List.getElem?_map, Int.toNat_natCast, s0, e2, e3, hp, hq, msgO, true_and, Option.map_none]
      | some y =>
        rw [hq] at hp
        have hy := poi6_le hq
        have s1 := hsd 4 0 y (by omega)
        rcases cc with rfl | rfl <;> simp only [go_sem, ↓reduceIte, reduceCtorEq, upd_ne, back_new (no_at), Nat.reduceAdd, Nat.reduceEqDiff, Nat.reduceMul, Nat.reduceSub, Nat.reduceLeDiff, Nat.reduceLT, Int.reduceToNat, Int.reduceLE, Int.reduceLT, Int.reduceEq, UInt8.reduceOfNat, List.getElem?_map, Int.toNat_natCast, s0, e2, e3, hp, hq, s1, msgO, true_and, Option.map_some]
    · have c0 : ¬ c = 0 := fun h => cc (.inl h)
      have c2 : ¬ c = 2 := fun h => cc (.inr h)
      simp only [go_sem, ↓reduceIte, reduceCtorEq, upd_ne, back_new (no_at), Nat.reduceAdd, Nat.reduceEqDiff, Nat.reduceMul, Nat.reduceSub, Nat.reduceLeDiff, Nat.reduceLT, Int.reduceToNat, Int.reduceLE, Int.reduceLT, Int.reduceEq, UInt8.reduceOfNat, List.getElem?_map, Int.toNat_natCast, s0, c0, c2, msgO, true_and]
  simp only [go_sem, ↓reduceIte, reduceCtorEq, upd_ne, back_new (no_at), Nat.reduceAdd, Nat.reduceEqDiff, Nat.reduceMul, Nat.reduceSub, Nat.reduceLeDiff, Nat.reduceLT, Int.reduceToNat, Int.reduceLE, Int.reduceLT, Int.reduceEq, UInt8.reduceOfNat, List.getElem?_map, Int.toNat_natCast, s0, k8, k0, k3, k11, k12, msgO, false_and]
theorem ev_lost4 (k c r : Int) (d : List UInt8) : S.ev (n + 2) id_icmpmap_lost4 [msgLV k c r d] none = some (msgO (los4 c) d, none) := by
  rw [Sys.step hS.h_icmpmap_lost4, F_icmpmap_lost4_eq]
  unfold F_icmpmap_lost4 F_icmpmap_lost4_k2 F_icmpmap_lost4_k1
  have hsd : ∀ k' c' r' : Int, (0 ≤ r' ∧ r' < 4294967296) → S.ev (n + 1) id_icmpmap_said [msgLV k c r d, .int .i64 k', .int .i64 c', .int .i64 r'] none = some (.tup [msgLV k' c' r' d, .bool true], none) := fun k' c' r' h => ev_said hS n k c r k' c' r' d h
  have s1 := hsd 3 1 0 (by omega)
  have s2 := hsd 3 10 0 (by omega)
  have s3 := hsd 3 3 0 (by omega)
  (try simp only [guard_merge, or_merge, and_merge, or_pick, and_pick, guard_or, guard_and]); simp only [to_ob]
  by_cases c0 : c = 0
  · subst c0
    simp only [go_sem, ↓reduceIte, reduceCtorEq, upd_ne, back_new (no_at), Nat.reduceAdd, Nat.reduceEqDiff, Nat.reduceMul, Nat.reduceSub, Nat.reduceLeDiff, Nat.reduceLT, Int.reduceToNat, Int.reduceLE, Int.reduceLT, Int.reduceEq, UInt8.reduceOfNat, List.getElem?_map, Int.toNat_natCast, s1, s2, s3]
    rfl
  by_cases c2 : c = 2
  · subst c2
    simp only [go_sem, ↓reduceIte, reduceCtorEq, upd_ne, back_new (no_at), Nat.reduceAdd, Nat.reduceEqDiff, Nat.reduceMul, Nat.reduceSub, Nat.reduceLeDiff, Nat.reduceLT, Int.reduceToNat, Int.reduceLE, Int.reduceLT, Int.reduceEq, UInt8.reduceOfNat, List.getElem?_map, Int.toNat_natCast, s1, s2, s3]
    rfl
  by_cases c3 : c = 3
  · subst c3
    simp only [go_sem, ↓reduceIte, reduceCtorEq, upd_ne, back_new (no_at), Nat.reduceAdd, Nat.reduceEqDiff, Nat.reduceMul, Nat.reduceSub, Nat.reduceLeDiff, Nat.reduceLT, Int.reduceToNat, Int.reduceLE, Int.reduceLT, Int.reduceEq, UInt8.reduceOfNat, List.getElem?_map, Int.toNat_natCast, s1, s2, s3]
    rfl
  by_cases c1 : c = 1
  · subst c1
    simp only [go_sem, ↓reduceIte, reduceCtorEq, upd_ne, back_new (no_at), Nat.reduceAdd, Nat.reduceEqDiff, Nat.reduceMul, Nat.reduceSub, Nat.reduceLeDiff, Nat.reduceLT, Int.reduceToNat, Int.reduceLE, Int.reduceLT, Int.reduceEq, UInt8.reduceOfNat, List.getElem?_map, Int.toNat_natCast, s1, s2, s3]
    rfl
  by_cases c4 : c = 4
  · subst c4
    simp only [go_sem, ↓reduceIte, reduceCtorEq, upd_ne, back_new (no_at), Nat.reduceAdd, Nat.reduceEqDiff, Nat.reduceMul, Nat.reduceSub, Nat.reduceLeDiff, Nat.reduceLT, Int.reduceToNat, Int.reduceLE, Int.reduceLT, Int.reduceEq, UInt8.reduceOfNat, List.getElem?_map, Int.toNat_natCast, s1, s2, s3]
    rfl
  have hL : los4 c = none := by unfold los4; repeat' split
                                all_goals first | rfl | (exfalso; omega)
  rw [hL]
  simp only [go_sem, ↓reduceIte, reduceCtorEq, upd_ne, back_new (no_at), Nat.reduceAdd, Nat.reduceEqDiff, Nat.reduceMul, Nat.reduceSub, Nat.reduceLeDiff, Nat.reduceLT, Int.reduceToNat, Int.reduceLE, Int.reduceLT, Int.reduceEq, UInt8.reduceOfNat, List.getElem?_map, Int.toNat_natCast, c0, c2, c3, c1, c4, msgO]
theorem ev_to4 (k c r m4 m6 : Int) (d : List UInt8) (hr : 0 ≤ r ∧ r < 4294967296) : S.ev (n + 3) id_icmpmap_To4 [msgLV k c r d, .int .i64 m4, .int .i64 m6] none = some (msgO (to4S k c r m4 m6) d, none) := by
  rw [Sys.step hS.h_icmpmap_To4, F_icmpmap_To4_eq]
  unfold F_icmpmap_To4 F_icmpmap_To4_k1
  have hsd : ∀ k' c' r' : Int, (0 ≤ r' ∧ r' < 4294967296) → S.ev (n + 2) id_icmpmap_said [msgLV k c r d, .int .i64 k', .int .i64 c', .int .i64 r'] none = some (.tup [msgLV k' c' r' d, .bool true], none) := fun k' c' r' h => ev_said hS (n + 1) k c r k' c' r' d h
  have s0 := ev_sides hS (n + 1) m4 m6
  have e1 : IntKind.i64.wrap r = r := wrap_id (by omega) (by omega)
  (try simp only [guard_merge, or_merge, and_merge, or_pick, and_pick, guard_or, guard_and]); simp only [to_ob]
  unfold to4S
  by_cases hs : sid m4 m6
  case neg =>
    rw [decide_eq_false hs] at s0
    rw [if_pos hs]
    simp only [go_sem, ↓reduceIte, reduceCtorEq, upd_ne, back_new (no_at), Nat.reduceAdd, Nat.reduceEqDiff, Nat.reduceMul, Nat.reduceSub, Nat.reduceLeDiff, Nat.reduceLT, Int.reduceToNat, Int.reduceLE, Int.reduceLT, Int.reduceEq, UInt8.reduceOfNat, List.getElem?_map, Int.toNat_natCast, s0, msgO]
  rw [decide_eq_true hs] at s0
  rw [if_neg (not_not_intro hs)]
  unfold sid at hs
  by_cases k128 : k = 128
  · subst k128
    by_cases c0 : c = 0
    · subst c0
      have s1 := hsd 8 0 r hr
      simp only [go_sem, ↓reduceIte, reduceCtorEq, upd_ne, back_new (no_at), Nat.reduceAdd, Nat.reduceEqDiff, Nat.reduceMul, Nat.reduceSub, Nat.reduceLeDiff, Nat.reduceLT, Int.reduceToNat, Int.reduceLE, Int.reduceLT, Int.reduceEq, UInt8.reduceOfNat, List.getElem?_map, Int.toNat_natCast, s0, s1, e1, msgO, true_and]
    · simp only [go_sem, ↓reduceIte, reduceCtorEq, upd_ne, back_new (no_at), Nat.reduceAdd, Nat.reduceEqDiff, Nat.reduceMul, Nat.reduceSub, Nat.reduceLeDiff, Nat.reduceLT, Int.reduceToNat, Int.reduceLE, Int.reduceLT, Int.reduceEq, UInt8.reduceOfNat, List.getElem?_map, Int.toNat_natCast, s0, c0, msgO, true_and]
  by_cases k129 : k = 129
  · subst k129
    by_cases c0 : c = 0
    · subst c0
      have s1 := hsd 0 0 r hr
      simp only [go_sem, ↓reduceIte, reduceCtorEq, upd_ne, back_new (no_at), Nat.reduceAdd, Nat.reduceEqDiff, Nat.reduceMul, Nat.reduceSub, Nat.reduceLeDiff, Nat.reduceLT, Int.reduceToNat, Int.reduceLE, Int.reduceLT, Int.reduceEq, UInt8.reduceOfNat, List.getElem?_map, Int.toNat_natCast, s0, s1, e1, msgO, true_and]
    · simp only [go_sem, ↓reduceIte, reduceCtorEq, upd_ne, back_new (no_at), Nat.reduceAdd, Nat.reduceEqDiff, Nat.reduceMul, Nat.reduceSub, Nat.reduceLeDiff, Nat.reduceLT, Int.reduceToNat, Int.reduceLE, Int.reduceLT, Int.reduceEq, UInt8.reduceOfNat, List.getElem?_map, Int.toNat_natCast, s0, c0, msgO, true_and]
  by_cases k1 : k = 1
  · subst k1
    have hl := ev_lost4 hS n 1 c r d
    have hx : ∀ X : Option (Int × Int × Int), ∃ m b, msgO X d = .tup [m, .bool b] ∧ ∃ k' c' r' d', m = msgLV k' c' r' d' := fun X => by
      cases X with
      | none => exact ⟨_, _, rfl, _, _, _, _, rfl⟩
      | some q => obtain ⟨x, y, z⟩ := q; exact ⟨_, _, rfl, _, _, _, _, rfl⟩
    obtain ⟨m, b, hm, k', c', r', d', rfl⟩ := hx (los4 c)
    rw [hm] at hl
    have g1 : ¬ ((1 : Int) = 128 ∧ c = 0) := by omega
    have g2 : ¬ ((1 : Int) = 129 ∧ c = 0) := by omega
    rw [if_neg g1, if_neg g2, if_pos rfl, hm]
    simp only [go_sem, ↓reduceIte, reduceCtorEq, upd_ne, back_new (no_at), Nat.reduceAdd, Nat.reduceEqDiff, Nat.reduceMul, Nat.reduceSub, Nat.reduceLeDiff, Nat.reduceLT, Int.reduceToNat, Int.reduceLE, Int.reduceLT, Int.reduceEq, UInt8.reduceOfNat, List.getElem?_map, Int.toNat_natCast, s0, hl]
  by_cases k2 : k = 2
  · subst k2
    by_cases c0 : c = 0
    · subst c0
      have e4 : IntKind.i64.wrap (r - 20) = r - 20 := wrap_id (by omega) (by omega)
      have e5 : IntKind.i64.wrap (m6 - 20) = m6 - 20 := wrap_id (by omega) (by omega)
      have m1 : (if m4 < r - 20 then m4 else r - 20) = min (r - 20) m4 := by split <;> omega
      have m2 : (if m6 - 20 < min (r - 20) m4 then m6 - 20 else min (r - 20) m4) = min (min (r - 20) m4) (m6 - 20) := by split <;> omega
      have m3 : (if min (min (r - 20) m4) (m6 - 20) < 68 then 68 else min (min (r - 20) m4) (m6 - 20)) = max (min (min (r - 20) m4) (m6 - 20)) 68 := by split <;> omega
      have m5 : (if 65535 < max (min (min (r - 20) m4) (m6 - 20)) 68 then 65535 else max (min (min (r - 20) m4) (m6 - 20)) 68) = mtu4O r m4 m6 := by unfold mtu4O; split <;> omega
      have s1 := hsd 3 4 (mtu4O r m4 m6) (by unfold mtu4O; omega)
      simp only [go_sem, ↓reduceIte, reduceCtorEq, upd_ne, back_new (no_at), Nat.reduceAdd, Nat.reduceEqDiff, Nat.reduceMul, Nat.reduceSub, Nat.reduceLeDiff, Nat.reduceLT, Int.reduceToNat, Int.reduceLE, Int.reduceLT, Int.reduceEq, UInt8.reduceOfNat, List.getElem?_map, Int.toNat_natCast, pMinmax, pMinmax2, Option.bind_some, Bool.false_eq_true, if_true, s0, e1, e4, e5, m1, m2, m3, m5, s1, msgO, true_and]
    · simp only [go_sem, ↓reduceIte, reduceCtorEq, upd_ne, back_new (no_at), Nat.reduceAdd, Nat.reduceEqDiff, Nat.reduceMul, Nat.reduceSub, Nat.reduceLeDiff, Nat.reduceLT, Int.reduceToNat, Int.reduceLE, Int.reduceLT, Int.reduceEq, UInt8.reduceOfNat, List.getElem?_map, Int.toNat_natCast, s0, c0, msgO, true_and]
  by_cases k3 : k = 3
  · subst k3
    by_cases c0 : c = 0
    · subst c0
      have s1 := hsd 11 0 0 (by omega)
      simp only [go_sem, ↓reduceIte, reduceCtorEq, upd_ne, back_new (no_at), Nat.reduceAdd, Nat.reduceEqDiff, Nat.reduceMul, Nat.reduceSub, Nat.reduceLeDiff, Nat.reduceLT, Int.reduceToNat, Int.reduceLE, Int.reduceLT, Int.reduceEq, UInt8.reduceOfNat, List.getElem?_map, Int.toNat_natCast, s0, s1, msgO, true_and]
    · by_cases c1 : c = 1
      · subst c1
        have s1 := hsd 11 1 0 (by omega)
        simp only [go_sem, ↓reduceIte, reduceCtorEq, upd_ne, back_new (no_at), Nat.reduceAdd, Nat.reduceEqDiff, Nat.reduceMul, Nat.reduceSub, Nat.reduceLeDiff, Nat.reduceLT, Int.reduceToNat, Int.reduceLE, Int.reduceLT, Int.reduceEq, UInt8.reduceOfNat, List.getElem?_map, Int.toNat_natCast, s0, s1, msgO, true_and]
      · simp only [go_sem, ↓reduceIte, reduceCtorEq, upd_ne, back_new (no_at), Nat.reduceAdd, Nat.reduceEqDiff, Nat.reduceMul, Nat.reduceSub, Nat.reduceLeDiff, Nat.reduceLT, Int.reduceToNat, Int.reduceLE, Int.reduceLT, Int.reduceEq, UInt8.reduceOfNat, List.getElem?_map, Int.toNat_natCast, s0, c0, c1, msgO, true_and]
  by_cases k4 : k = 4
  · subst k4
    have hp := ev_poi4 hS (n + 1) r hr
    by_cases c0 : c = 0
    · subst c0
      cases hq : poi4 r with
      | none =>
        rw [hq] at hp
        simp only [go_sem, ↓reduceIte, reduceCtorEq, upd_ne, back_new (no_at), Nat.reduceAdd, Nat.reduceEqDiff, Nat.reduceMul, Nat.reduceSub, Nat.reduceLeDiff, Nat.reduceLT, Int.reduceToNat, Int.reduceLE, Int.reduceLT, Int.reduceEq, UInt8.reduceOfNat, List.getElem?_map, Int.toNat_natCast, s0, hp, hq, msgO, true_and, Option.map_none]
      | some y =>
        rw [hq] at hp
        have hy := poi4_le hq
        have s1 := hsd 12 0 (y * 16777216) (by omega)
        have e2 : IntKind.i64.wrap (y * 2 ^ min 24 64) = y * 16777216 := by rw [show min 24 64 = 24 from rfl, wrap_id (by omega) (by omega)]; omega
        simp only [go_sem, ↓reduceIte, reduceCtorEq, upd_ne, back_new (no_at), Nat.reduceAdd, Nat.reduceEqDiff, Nat.reduceMul, Nat.reduceSub, Nat.reduceLeDiff, Nat.reduceLT, Int.reduceToNat, Int.reduceLE, Int.reduceLT, Int.reduceEq, UInt8.reduceOfNat, List.getElem?_map, Int.toNat_natCast, s0, hp, hq, s1, e2, msgO, true_and, Option.map_some]
    · by_cases c1 : c = 1
      · subst c1
        have s1 := hsd 3 2 0 (by omega)
        simp only [go_sem, ↓reduceIte, reduceCtorEq, upd_ne, back_new (no_at), Nat.reduceAdd, Nat.reduceEqDiff, Nat.reduceMul, Nat.reduceSub, Nat.reduceLeDiff, Nat.reduceLT, Int.reduceToNat, Int.reduceLE, Int.reduceLT, Int.reduceEq, UInt8.reduceOfNat, List.getElem?_map, Int.toNat_natCast, s0, s1, msgO, true_and]
      · simp only [go_sem, ↓reduceIte, reduceCtorEq, upd_ne, back_new (no_at), Nat.reduceAdd, Nat.reduceEqDiff, Nat.reduceMul, Nat.reduceSub, Nat.reduceLeDiff, Nat.reduceLT, Int.reduceToNat, Int.reduceLE, Int.reduceLT, Int.reduceEq, UInt8.reduceOfNat, List.getElem?_map, Int.toNat_natCast, s0, c0, c1, msgO, true_and]
  simp only [go_sem, ↓reduceIte, reduceCtorEq, upd_ne, back_new (no_at), Nat.reduceAdd, Nat.reduceEqDiff, Nat.reduceMul, Nat.reduceSub, Nat.reduceLeDiff, Nat.reduceLT, Int.reduceToNat, Int.reduceLE, Int.reduceLT, Int.reduceEq, UInt8.reduceOfNat, List.getElem?_map, Int.toNat_natCast, s0, k128, k129, k1, k2, k3, k4, msgO, false_and]
end
end Go.Ev

namespace Go.Ev
set_option linter.unusedSimpArgs false
set_option linter.unusedVariables false
set_option maxRecDepth 10000
set_option maxHeartbeats 8000000
def carO (x : Option ((Int × Int × Int) × List UInt8)) : LV := match x with
  | some ((k, c, r), d) => .tup [msgLV k c r d, .bool true]
  | none => .tup [msgLV 0 0 0 [], .bool false]
def ca6 (k c r : Int) (d : List UInt8) (mt4 mt6 : Int) (a b : List UInt8) (p q : Int) : Option ((Int × Int × Int) × List UInt8) :=
  if iK4 d ≠ 0 ∨ isF4 k = false then none else
  if q6K (bAt d 9 : Nat) (pat4 d) (pmo4 d) (wAt d 2 - n4 d) p q ≠ 0 then none else
  (to6S k c r mt4 mt6 (wAt d 2 : Nat)).map fun x => (x, (q6B (bAt d 1 : Nat) (wAt d 4 : Nat) (bAt d 8 : Nat) (bAt d 9 : Nat) (pat4 d) (pmo4 d) (pfr4 d) (pto4 d) (pda4 d) a b (wAt d 2 - n4 d) p q).take 1232)
def ca4 (k c r : Int) (d : List UInt8) (mt4 mt6 : Int) (a b : List UInt8) (p q : Int) : Option ((Int × Int × Int) × List UInt8) :=
  if iK6 d ≠ 0 ∨ isF6 k = false then none else
  if q4K (p6 d) (a6 d) (c6 d) p q ≠ 0 then none else
  (to4S k c r mt4 mt6).map fun x => (x, (q4B (pcl6 d) (bAt d 7 : Nat) (p6 d) (a6 d) (f6 d) (m6 d) (i6 d) (pfr6 d) (pto6 d) (d6 d) a b (c6 d) p q).take (min 576 mt4 - 28).toNat)
theorem to6S_sid {k c r a b l : Int} {x : Int × Int × Int} (h : to6S k c r a b l = some x) : sid a b := by
  apply Classical.byContradiction
  intro q; unfold to6S at h; rw [if_pos q] at h; cases h
theorem to4S_sid {k c r a b : Int} {x : Int × Int × Int} (h : to4S k c r a b = some x) : sid a b := by
  apply Classical.byContradiction
  intro q; unfold to4S at h; rw [if_pos q] at h; cases h
section
variable {S : Sys} (hS : Has S) (n : Nat)
include hS
theorem ev_carry6 {k c r : Int} {d : List UInt8} {mt4 mt6 : Int} {a b : List UInt8} {p q : Int} (hd : d.length ≤ 100000) (hr : 0 ≤ r ∧ r < 4294967296) (ha : a.length = 16) (hb : b.length = 16) :
    S.ev (n + 7) id_fault_Carry6 [msgLV k c r d, .int .i64 mt4, .int .i64 mt6, .agg [.bytes a, .int .i64 p], .agg [.bytes b, .int .i64 q]] none = some (carO (ca6 k c r d mt4 mt6 a b p q), none) := by
  rw [Sys.step hS.h_fault_Carry6, F_fault_Carry6_eq]
  unfold F_fault_Carry6
  have h1 := ev_inside4 hS (n + 2) d (by omega)
  have hf := ev_failure4 hS (n + 5) k c r d
  unfold ca6
  (try simp only [guard_merge, or_merge, and_merge, or_pick, and_pick, guard_or, guard_and]); simp only [to_ob]
  by_cases k0 : iK4 d = 0
  case neg =>
    unfold iLV4 iC4 at h1
    rw [if_neg k0, if_neg k0] at h1
    unfold fE at h1
    rw [if_neg k0] at h1
    rw [if_pos (.inl k0)]
    simp only [go_sem, ↓reduceIte, reduceCtorEq, upd_ne, back_new (no_at), Nat.reduceAdd, Nat.reduceEqDiff, Nat.reduceMul, Nat.reduceSub, Nat.reduceLeDiff, Nat.reduceLT, Int.reduceToNat, Int.reduceLE, Int.reduceLT, Int.reduceEq, UInt8.reduceOfNat, List.getElem?_map, Int.toNat_natCast, h1, carO]
  have hI := iK4_zero.1 k0
  have hC : iC4 d = ((wAt d 2 - n4 d : Nat) : Int) := by unfold iC4; rw [if_pos k0]
  have hL : iLV4 d = ip4LV (bAt d 1) (wAt d 4) (bAt d 8) (bAt d 9) (pat4 d) (pdf4 d) (pmo4 d) (pfr4 d) (pto4 d) (pop4 d) (pda4 d) := by unfold iLV4; rw [if_pos k0]
  have hfr := hI.fr
  have hto := hI.to
  have hop := hI.op
  have hn20 := hI.hn
  have hnl := hI.hl
  have hna := hI.ha
  have hdl := pda4_len d
  have hat := hI.at
  have hb1 := bAt_le d 1
  have hb8 := bAt_le d 8
  have hw4 := wAt_le d 4
  have hw2 := wAt_le d 2
  rw [hC, hL, k0] at h1
  cases hk : isF4 k with
  | false =>
    rw [hk] at hf
    rw [if_pos (.inr rfl)]
    simp only [go_sem, ↓reduceIte, reduceCtorEq, upd_ne, back_new (no_at), Nat.reduceAdd, Nat.reduceEqDiff, Nat.reduceMul, Nat.reduceSub, Nat.reduceLeDiff, Nat.reduceLT, Int.reduceToNat, Int.reduceLE, Int.reduceLT, Int.reduceEq, UInt8.reduceOfNat, List.getElem?_map, Int.toNat_natCast, h1, hf, hfr, hto, carO, fE]
  | true =>
    rw [hk] at hf
    rw [if_neg (by simp [k0])]
    have e1 : IntKind.i64.wrap (20 + ((pop4 d).length : Int)) = ((n4 d : Nat) : Int) := by rw [wrap_id (by omega) (by omega)]; omega
    have e2 : IntKind.i64.wrap (((n4 d : Nat) : Int) + ((wAt d 2 - n4 d : Nat) : Int)) = ((wAt d 2 : Nat) : Int) := by rw [wrap_id (by omega) (by omega)]; omega
    have hT := ev_to6 hS (n + 3) k c r mt4 mt6 (wAt d 2 : Nat) d hr
    have hq' := ev_quote6 hS n (tos := (bAt d 1 : Nat)) (id := (wAt d 4 : Nat)) (ttl := (bAt d 8 : Nat)) (pt := (bAt d 9 : Nat)) (at' := pat4 d) (df := pdf4 d) (mo := pmo4 d) (fr := pfr4 d) (to := pto4 d) (op := pop4 d) (da := pda4 d) (a := a) (b := b) (claim := wAt d 2 - n4 d) (p := p) (q := q) hfr hto ha hb (by omega) (by omega) (by omega) hat (by omega) (by omega)
    unfold q6R at hq'
    generalize q6K (bAt d 9 : Nat) (pat4 d) (pmo4 d) (wAt d 2 - n4 d) p q = K at *
    generalize hQ : q6B (bAt d 1 : Nat) (wAt d 4 : Nat) (bAt d 8 : Nat) (bAt d 9 : Nat) (pat4 d) (pmo4 d) (pfr4 d) (pto4 d) (pda4 d) a b (wAt d 2 - n4 d) p q = Q at *
    have mm : (if (1232 : Int) < (Q.length : Int) then 1232 else (Q.length : Int)) = ((min Q.length 1232 : Nat) : Int) := by split <;> omega
    have ml : min Q.length 1232 ≤ Q.length := Nat.min_le_left _ _
    have mt : Q.take (min Q.length 1232) = Q.take 1232 := by
      by_cases c : Q.length ≤ 1232
      · rw [Nat.min_eq_left c, List.take_length, List.take_of_length_le c]
      · rw [Nat.min_eq_right (by omega)]
    by_cases kk : K = 0
    · subst kk
      rw [if_pos rfl] at hq'
      rw [if_neg (by simp)]
      cases hX : to6S k c r mt4 mt6 (wAt d 2 : Nat) with
      | none =>
        rw [hX] at hT
        unfold msgO at hT
        simp only [go_sem, ↓reduceIte, reduceCtorEq, upd_ne, back_new (no_at), Nat.reduceAdd, Nat.reduceEqDiff, Nat.reduceMul, Nat.reduceSub, Nat.reduceLeDiff, Nat.reduceLT, Int.reduceToNat, Int.reduceLE, Int.reduceLT, Int.reduceEq, UInt8.reduceOfNat, List.getElem?_map, Int.toNat_natCast, h1, hf, hfr, hto, ha, hb, e1, e2, hT, hq', carO, fE, Option.map_none]
      | some x =>
        obtain ⟨k', c', r'⟩ := x
        rw [hX] at hT
        unfold msgO at hT
        simp only [go_sem, ↓reduceIte, reduceCtorEq, upd_ne, back_new (no_at), Nat.reduceAdd, Nat.reduceEqDiff, Nat.reduceMul, Nat.reduceSub, Nat.reduceLeDiff, Nat.reduceLT, Int.reduceToNat, Int.reduceLE, Int.reduceLT, Int.reduceEq, UInt8.reduceOfNat, List.getElem?_map, Int.toNat_natCast, pMinmax, pMinmax2, Option.bind_some, Bool.false_eq_true, h1, hf, hfr, hto, ha, hb, e1, e2, hT, hq', mm, ml, mt, carO, fE, Option.map_some, Nat.sub_zero, List.drop_zero]
    · rw [if_neg kk] at hq'
      rw [if_pos kk]
      unfold fE at hq'
      rw [if_neg kk] at hq'
      cases hX : to6S k c r mt4 mt6 (wAt d 2 : Nat) with
      | none =>
        rw [hX] at hT
        unfold msgO at hT
        simp only [go_sem, ↓reduceIte, reduceCtorEq, upd_ne, back_new (no_at), Nat.reduceAdd, Nat.reduceEqDiff, Nat.reduceMul, Nat.reduceSub, Nat.reduceLeDiff, Nat.reduceLT, Int.reduceToNat, Int.reduceLE, Int.reduceLT, Int.reduceEq, UInt8.reduceOfNat, List.getElem?_map, Int.toNat_natCast, h1, hf, hfr, hto, ha, hb, e1, e2, hT, hq', carO, fE]
      | some x =>
        obtain ⟨k', c', r'⟩ := x
        rw [hX] at hT
        unfold msgO at hT
        simp only [go_sem, ↓reduceIte, reduceCtorEq, upd_ne, back_new (no_at), Nat.reduceAdd, Nat.reduceEqDiff, Nat.reduceMul, Nat.reduceSub, Nat.reduceLeDiff, Nat.reduceLT, Int.reduceToNat, Int.reduceLE, Int.reduceLT, Int.reduceEq, UInt8.reduceOfNat, List.getElem?_map, Int.toNat_natCast, h1, hf, hfr, hto, ha, hb, e1, e2, hT, hq', carO, fE]
theorem ev_carry4 {k c r : Int} {d : List UInt8} {mt4 mt6 : Int} {a b : List UInt8} {p q : Int} (hd : d.length ≤ 100000) (hr : 0 ≤ r ∧ r < 4294967296) (ha : a.length = 4) (hb : b.length = 4) :
    S.ev (n + 7) id_fault_Carry4 [msgLV k c r d, .int .i64 mt4, .int .i64 mt6, .agg [.bytes a, .int .i64 p], .agg [.bytes b, .int .i64 q]] none = some (carO (ca4 k c r d mt4 mt6 a b p q), none) := by
  rw [Sys.step hS.h_fault_Carry4, F_fault_Carry4_eq]
  unfold F_fault_Carry4
  have h1 := ev_inside6 hS (n + 2) d (by omega)
  have hf := ev_failure6 hS (n + 5) k c r d
  unfold ca4
  (try simp only [guard_merge, or_merge, and_merge, or_pick, and_pick, guard_or, guard_and]); simp only [to_ob]
  by_cases k0 : iK6 d = 0
  case neg =>
    unfold iLV6 iC6 at h1
    rw [if_neg k0, if_neg k0] at h1
    unfold fE at h1
    rw [if_neg k0] at h1
    rw [if_pos (.inl k0)]
    simp only [go_sem, ↓reduceIte, reduceCtorEq, upd_ne, back_new (no_at), Nat.reduceAdd, Nat.reduceEqDiff, Nat.reduceMul, Nat.reduceSub, Nat.reduceLeDiff, Nat.reduceLT, Int.reduceToNat, Int.reduceLE, Int.reduceLT, Int.reduceEq, UInt8.reduceOfNat, List.getElem?_map, Int.toNat_natCast, h1, carO]
  have hI := iK6_zero.1 k0
  have hfr := hI.fr
  have hto := hI.to
  have hdl := d6_le d
  have hat := a6_le d
  have hid := i6_le d
  have hcl := pcl6_le d
  have hb7 := bAt_le d 7
  rw [hI.cl, hI.lv, k0] at h1
  cases hk : isF6 k with
  | false =>
    rw [hk] at hf
    rw [if_pos (.inr rfl)]
    simp only [go_sem, ↓reduceIte, reduceCtorEq, upd_ne, back_new (no_at), Nat.reduceAdd, Nat.reduceEqDiff, Nat.reduceMul, Nat.reduceSub, Nat.reduceLeDiff, Nat.reduceLT, Int.reduceToNat, Int.reduceLE, Int.reduceLT, Int.reduceEq, UInt8.reduceOfNat, List.getElem?_map, Int.toNat_natCast, h1, hf, hfr, hto, carO, fE]
  | true =>
    rw [hk] at hf
    rw [if_neg (by simp [k0])]
    have hT := ev_to4 hS (n + 3) k c r mt4 mt6 d hr
    have hq' := ev_quote4 hS n (cl := pcl6 d) (fl := pfl6 d) (ho := (bAt d 7 : Nat)) (fr := pfr6 d) (to := pto6 d) (ex := (k6 d).2.1) (fg := f6 d) (id := i6 d) (at' := a6 d) (mo := m6 d) (pt := p6 d) (da := d6 d) (a := a) (b := b) (claim := c6 d) (p := p) (q := q) hfr hto ha hb hcl (by omega) hid hat hdl.1 hdl.2
    unfold q4R at hq'
    generalize q4K (p6 d) (a6 d) (c6 d) p q = K at *
    generalize q4B (pcl6 d) (bAt d 7 : Nat) (p6 d) (a6 d) (f6 d) (m6 d) (i6 d) (pfr6 d) (pto6 d) (d6 d) a b (c6 d) p q = Q at *
    by_cases kk : K = 0
    · subst kk
      rw [if_pos rfl] at hq'
      rw [if_neg (by simp)]
      cases hX : to4S k c r mt4 mt6 with
      | none =>
        rw [hX] at hT
        unfold msgO at hT
        simp only [go_sem, ↓reduceIte, reduceCtorEq, upd_ne, back_new (no_at), Nat.reduceAdd, Nat.reduceEqDiff, Nat.reduceMul, Nat.reduceSub, Nat.reduceLeDiff, Nat.reduceLT, Int.reduceToNat, Int.reduceLE, Int.reduceLT, Int.reduceEq, UInt8.reduceOfNat, List.getElem?_map, Int.toNat_natCast, h1, hf, hfr, hto, ha, hb, hT, hq', carO, fE, Option.map_none]
      | some x =>
        have hs := to4S_sid hX
        unfold sid at hs
        obtain ⟨k', c', r'⟩ := x
        rw [hX] at hT
        unfold msgO at hT
        have m1 : (if mt4 < 576 then mt4 else 576) = min 576 mt4 := by split <;> omega
        have e3 : IntKind.i64.wrap (min 576 mt4 - 20) = min 576 mt4 - 20 := wrap_id (by omega) (by omega)
        have e4 : IntKind.i64.wrap (min 576 mt4 - 20 - 8) = (((min 576 mt4 - 28).toNat : Nat) : Int) := by rw [wrap_id (by omega) (by omega)]; omega
        generalize (min 576 mt4 - 28).toNat = R at *
        have mm : (if (R : Int) < (Q.length : Int) then (R : Int) else (Q.length : Int)) = ((min Q.length R : Nat) : Int) := by split <;> omega
        have ml : min Q.length R ≤ Q.length := Nat.min_le_left _ _
        have mt : Q.take (min Q.length R) = Q.take R := by
          by_cases c : Q.length ≤ R
          · rw [Nat.min_eq_left c, List.take_length, List.take_of_length_le c]
          · rw [Nat.min_eq_right (by omega)]
        simp only [go_sem, ↓reduceIte, reduceCtorEq, upd_ne, back_new (no_at), Nat.reduceAdd, Nat.reduceEqDiff, Nat.reduceMul, Nat.reduceSub, Nat.reduceLeDiff, Nat.reduceLT, Int.reduceToNat, Int.reduceLE, Int.reduceLT, Int.reduceEq, UInt8.reduceOfNat, List.getElem?_map, Int.toNat_natCast, pMinmax, pMinmax2, Option.bind_some, Bool.false_eq_true, h1, hf, hfr, hto, ha, hb, hT, hq', m1, e3, e4, mm, ml, mt, carO, fE, Option.map_some, Nat.sub_zero, List.drop_zero]
    · rw [if_neg kk] at hq'
      rw [if_pos kk]
      unfold fE at hq'
      rw [if_neg kk] at hq'
      cases hX : to4S k c r mt4 mt6 with
      | none =>
        rw [hX] at hT
        unfold msgO at hT
        simp only [go_sem, ↓reduceIte, reduceCtorEq, upd_ne, back_new (no_at), Nat.reduceAdd, Nat.reduceEqDiff, Nat.reduceMul, Nat.reduceSub, Nat.reduceLeDiff, Nat.reduceLT, Int.reduceToNat, Int.reduceLE, Int.reduceLT, Int.reduceEq, UInt8.reduceOfNat, List.getElem?_map, Int.toNat_natCast, h1, hf, hfr, hto, ha, hb, hT, hq', carO, fE]
      | some x =>
        obtain ⟨k', c', r'⟩ := x
        rw [hX] at hT
        unfold msgO at hT
        simp only [go_sem, ↓reduceIte, reduceCtorEq, upd_ne, back_new (no_at), Nat.reduceAdd, Nat.reduceEqDiff, Nat.reduceMul, Nat.reduceSub, Nat.reduceLeDiff, Nat.reduceLT, Int.reduceToNat, Int.reduceLE, Int.reduceLT, Int.reduceEq, UInt8.reduceOfNat, List.getElem?_map, Int.toNat_natCast, h1, hf, hfr, hto, ha, hb, hT, hq', carO, fE]
end
end Go.Ev

namespace Go.Ev
set_option linter.unusedSimpArgs false
set_option linter.unusedVariables false
set_option maxRecDepth 10000
set_option maxHeartbeats 8000000
def lsr (l : Int) : List Int → Int → Int
  | [], x => x
  | y :: r, x => lsr l r (if y < l then y else x)
def RL : List Int := [68, 296, 508, 1006, 1492, 2002, 4352, 8166, 17914, 32000, 65535]
theorem lsr_RL (l : Int) : lsr l RL 68 = plat l := by
  unfold RL plat
  simp only [lsr]
  repeat' split
  all_goals omega
abbrev lnLV (x : Int × Int × Int × Int × Int) : LV := .agg [.int .i64 x.1, .int .i64 x.2.1, .int .i64 x.2.2.1, .int .i64 x.2.2.2.1, .int .i64 x.2.2.2.2]
abbrev l5 (a b c d e : Int) : LV := .agg [.int .i64 a, .int .i64 b, .int .i64 c, .int .i64 d, .int .i64 e]
def LB (r : Int) : List (Int × Int × Int × Int × Int) := [(8, 0, 128, 0, r), (0, 0, 129, 0, r), (3, 3, 1, 4, 0), (3, 2, 4, 1, 6), (11, 0, 3, 0, 0), (11, 1, 3, 1, 0)]
def ZL : List Int := [0, 1, 5, 6, 7, 8, 11, 12]
def OL : List Int := [9, 10, 13, 15]
def LN (r : Int) : List (Int × Int × Int × Int × Int) := LB r ++ (ZL.map fun z => (3, z, 1, 0, 0)) ++ (OL.map fun z => (3, z, 1, 1, 0))
theorem ln_flat (l : List (Int × Int × Int × Int × Int)) : ((l.map lnLV).all fun v => decide (flatLen v = 5)) = true := by
  rw [List.all_eq_true]
  intro v hv
  obtain ⟨e, _, rfl⟩ := List.mem_map.1 hv
  rfl
def fnd (k c : Int) (l : List (Int × Int × Int × Int × Int)) : Option (Int × Int × Int × Int × Int) := l.find? fun x => decide (k = x.1) && decide (c = x.2.1)
section
variable {S : Sys} (hS : Has S) (n : Nat)
include hS
theorem ev_rplat (l : Int) : S.ev (n + 1) id_interpreterref14_Plateau [.int .i64 l] none = some (.int .i64 (plat l), none) := by
  rw [Sys.step hS.h_interpreterref14_Plateau, F_interpreterref14_Plateau_eq, ← lsr_RL]
  unfold F_interpreterref14_Plateau
  have hL : [LV.int .i64 68, .int .i64 296, .int .i64 508, .int .i64 1006, .int .i64 1492, .int .i64 2002, .int .i64 4352, .int .i64 8166, .int .i64 17914, .int .i64 32000, .int .i64 65535] = RL.map (fun x => LV.int .i64 x) := rfl
  have hl : RL.length = 11 := rfl
  have hps : pslL (RL.map (fun x => LV.int .i64 x)) = some (RL.map (fun x => LV.int .i64 x)) := rfl
  (try simp only [guard_merge, or_merge, and_merge, or_pick, and_pick, guard_or, guard_and]); simp only [to_ob]
  simp only [go_sem, ↓reduceIte, reduceCtorEq, upd_ne, back_new (no_at), Nat.reduceAdd, Nat.reduceEqDiff, Nat.reduceMul, Nat.reduceSub, Nat.reduceLeDiff, Nat.reduceLT, Int.reduceToNat, Int.reduceLE, Int.reduceLT, Int.reduceEq, UInt8.reduceOfNat, hL, hps, List.length_map]
  generalize RL = L at *
  refine while_rule (fun k q => ∃ (x : Int) (i : Nat), q = ([LV.int .i64 x, LV.int .i64 (i : Int)], noSlots) ∧ i + k = L.length ∧ lsr l (L.drop i) x = lsr l L 68) L.length ⟨68, 0, rfl, by omega, rfl⟩ ?_
  rintro k q ⟨x, i, rfl, hi, hr⟩
  by_cases h : i < L.length
  · have h' : (i : Int) < (L.length : Int) := by omega
    obtain ⟨y, hx⟩ : ∃ y, L[i]? = some y := ⟨L[i], by simp [h]⟩
    have hd : L.drop i = y :: L.drop (i + 1) := by
      rw [List.drop_eq_getElem_cons h]; congr 1; rw [List.getElem?_eq_getElem h] at hx; exact Option.some.inj hx
    rw [hd] at hr
    have e1 : IntKind.i64.wrap ((i : Int) + 1) = ((i + 1 : Nat) : Int) := by rw [wrap_id (by omega) (by omega)]; omega
    by_cases c : y < l
    · have hr : lsr l (L.drop (i + 1)) y = lsr l L 68 := by rw [← hr]; exact congrArg _ (if_pos c).symm
      simp only [go_sem, ↓reduceIte, reduceCtorEq, upd_ne, back_new (no_at), Nat.reduceAdd, Nat.reduceEqDiff, Nat.reduceMul, Nat.reduceSub, Nat.reduceLeDiff, Nat.reduceLT, Int.reduceToNat, Int.reduceLE, Int.reduceLT, Int.reduceEq, UInt8.reduceOfNat, List.getElem?_map, Int.toNat_natCast, h', hx, c, e1, Option.map_some]
      exact ⟨k - 1, by omega, y, i + 1, rfl, by omega, hr⟩
    · have hr : lsr l (L.drop (i + 1)) x = lsr l L 68 := by rw [← hr]; exact congrArg _ (if_neg c).symm
      simp only [go_sem, ↓reduceIte, reduceCtorEq, upd_ne, back_new (no_at), Nat.reduceAdd, Nat.reduceEqDiff, Nat.reduceMul, Nat.reduceSub, Nat.reduceLeDiff, Nat.reduceLT, Int.reduceToNat, Int.reduceLE, Int.reduceLT, Int.reduceEq, UInt8.reduceOfNat, List.getElem?_map, Int.toNat_natCast, h', hx, c, e1, Option.map_some]
      exact ⟨k - 1, by omega, x, i + 1, rfl, by omega, hr⟩
  · have h' : ¬ (i : Int) < (L.length : Int) := by omega
    rw [List.drop_of_length_le (by omega)] at hr
    have hr : x = lsr l L 68 := hr
    simp only [go_sem, ↓reduceIte, reduceCtorEq, upd_ne, back_new (no_at), Nat.reduceAdd, Nat.reduceEqDiff, Nat.reduceMul, Nat.reduceSub, Nat.reduceLeDiff, Nat.reduceLT, Int.reduceToNat, Int.reduceLE, Int.reduceLT, Int.reduceEq, UInt8.reduceOfNat, List.getElem?_map, Int.toNat_natCast, h', Nxt, exIf, hr]
theorem ev_bounds (a b : Int) : S.ev (n + 1) id_interpreterref14_bounds [.int .i64 a, .int .i64 b] none = some (.bool (decide (sid a b)), none) := by
  rw [Sys.step hS.h_interpreterref14_bounds, F_interpreterref14_bounds_eq]
  unfold F_interpreterref14_bounds sid
  (try simp only [guard_merge, or_merge, and_merge, or_pick, and_pick, guard_or, guard_and]); simp only [to_ob]
  simp only [go_sem, ↓reduceIte, reduceCtorEq, upd_ne, back_new (no_at), Nat.reduceAdd, Nat.reduceEqDiff, Nat.reduceMul, Nat.reduceSub, Nat.reduceLeDiff, Nat.reduceLT, Int.reduceToNat, Int.reduceLE, Int.reduceLT, Int.reduceEq, UInt8.reduceOfNat, Bool.decide_and, Bool.and_assoc]
  rw [← Bool.decide_and, ← Bool.decide_and, ← Bool.decide_and]
theorem ev_lines6 (r : Int) : S.ev (n + 1) id_interpreterref14_lines6 [.int .i64 r] none = some (.lst none ((LN r).map lnLV), none) := by
  rw [Sys.step hS.h_interpreterref14_lines6, F_interpreterref14_lines6_eq]
  unfold F_interpreterref14_lines6
  have hZ : [LV.int .i64 0, .int .i64 1, .int .i64 5, .int .i64 6, .int .i64 7, .int .i64 8, .int .i64 11, .int .i64 12] = ZL.map (fun x => LV.int .i64 x) := rfl
  have hO : [LV.int .i64 9, .int .i64 10, .int .i64 13, .int .i64 15] = OL.map (fun x => LV.int .i64 x) := rfl
  have hz : ZL.length = 8 := rfl
  have hpZ : pslL (ZL.map (fun x => LV.int .i64 x)) = some (ZL.map (fun x => LV.int .i64 x)) := rfl
  have hpO : pslL (OL.map (fun x => LV.int .i64 x)) = some (OL.map (fun x => LV.int .i64 x)) := rfl
  have ho : OL.length = 4 := rfl
  have hb : (LB r).length = 6 := rfl
  have hbs : cBslT (LV.agg [.int .i64 0, .int .i64 0, .int .i64 0, .int .i64 0, .int .i64 0]) 6 [(0, l5 8 0 128 0 r), (1, l5 0 0 129 0 r), (2, l5 3 3 1 4 0), (3, l5 3 2 4 1 6), (4, l5 11 0 3 0 0), (5, l5 11 1 3 1 0)] 16 noSlots = some (.lst (some (16, 1)) ((LB r).map lnLV), upd noSlots 16 (.tag 1 6 5)) := rfl
  have hap : ∀ (m : Nat) (D : Nat) (l : List (Int × Int × Int × Int × Int)) (a b c e f : Int), l.length = m → m ≤ 100 → wAppend 5 40 D (upd noSlots 16 (.tag 1 m 5)) (.lst (some (16, 1)) (l.map lnLV)) (.lst none [l5 a b c e f]) = some (.lst (some (16, 1)) ((l ++ [(a, b, c, e, f)]).map lnLV), upd (upd noSlots 16 (.tag 1 m 5)) 16 (.tag 1 (m + 1) 5)) := fun m D l a b c e f h h2 => by
    have := wAppend_tag (e := 5) (by' := 40) (d := D) (t := 16) (g := 1) (n := m) (sz := 5) (sl := upd noSlots 16 (.tag 1 m 5)) (l := l.map lnLV) (new := [l5 a b c e f]) upd_same (by simp [h]) rfl (ln_flat _) rfl (by simp) (by simp [h]; omega)
    rw [this]; simp
  unfold LN
  (try simp only [guard_merge, or_merge, and_merge, or_pick, and_pick, guard_or, guard_and]); simp only [to_ob]
  simp only [go_sem, ↓reduceIte, reduceCtorEq, upd_ne, back_new (no_at), Nat.reduceAdd, Nat.reduceEqDiff, Nat.reduceMul, Nat.reduceSub, Nat.reduceLeDiff, Nat.reduceLT, Int.reduceToNat, Int.reduceLE, Int.reduceLT, Int.reduceEq, UInt8.reduceOfNat, hZ, hO, hpZ, hpO, hbs, List.length_map, hz, ho]
  generalize hLB : LB r = B at *
  generalize ZL = Z at *
  generalize OL = O at *
  refine while_rule (fun k q => ∃ i : Nat, i + k = 8 ∧ q = ([LV.lst (some (16, 1)) ((B ++ (Z.map fun z => (3, z, 1, 0, 0)).take i).map lnLV), LV.int .i64 (i : Int)], upd noSlots 16 (.tag 1 (6 + i) 5))) 8 ⟨0, rfl, by simp⟩ ?_
  rintro k q ⟨i, hi, rfl⟩
  by_cases h : i < 8
  · have h' : (i : Int) < ((8 : Nat) : Int) := by omega
    obtain ⟨z, hz⟩ : ∃ z, Z[i]? = some z := ⟨Z[i], by simp [hz, h]⟩
    have e1 : IntKind.i64.wrap ((i : Int) + 1) = ((i + 1 : Nat) : Int) := by rw [wrap_id (by omega) (by omega)]; omega
    have ht : (Z.map fun z => ((3 : Int), z, (1 : Int), (0 : Int), (0 : Int))).take (i + 1) = (Z.map fun z => (3, z, 1, 0, 0)).take i ++ [(3, z, 1, 0, 0)] := by rw [List.take_add_one]; simp [hz]
    have ha := fun D => hap (6 + i) D (B ++ (Z.map fun z => ((3 : Int), z, (1 : Int), (0 : Int), (0 : Int))).take i) 3 z 1 0 0 (by simp; omega) (by omega)
    simp only [go_sem, ↓reduceIte, reduceCtorEq, upd_ne, back_new (no_at), Nat.reduceAdd, Nat.reduceEqDiff, Nat.reduceMul, Nat.reduceSub, Nat.reduceLeDiff, Nat.reduceLT, Int.reduceToNat, Int.reduceLE, Int.reduceLT, Int.reduceEq, UInt8.reduceOfNat, List.getElem?_map, Int.toNat_natCast, h', hz, e1, ha, Option.map_some]
    exact ⟨k - 1, by omega, i + 1, by omega, by rw [ht, List.append_assoc, Nat.add_assoc]⟩
  · have h' : ¬ (i : Int) < ((8 : Nat) : Int) := by omega
    rw [List.take_of_length_le (by simp; omega), show 6 + i = 14 by omega]
    simp only [go_sem, ↓reduceIte, reduceCtorEq, upd_ne, back_new (no_at), Nat.reduceAdd, Nat.reduceEqDiff, Nat.reduceMul, Nat.reduceSub, Nat.reduceLeDiff, Nat.reduceLT, Int.reduceToNat, Int.reduceLE, Int.reduceLT, Int.reduceEq, UInt8.reduceOfNat, List.getElem?_map, Int.toNat_natCast, h', Nxt, exIf]
    have hC : (B ++ Z.map fun z => ((3 : Int), z, (1 : Int), (0 : Int), (0 : Int))).length = 14 := by simp [hb, hz]
    generalize (B ++ Z.map fun z => ((3 : Int), z, (1 : Int), (0 : Int), (0 : Int))) = C at *
    clear hi h
    refine while_rule (fun k q => ∃ i : Nat, i + k = 4 ∧ q = ([LV.lst (some (16, 1)) ((C ++ (O.map fun z => (3, z, 1, 1, 0)).take i).map lnLV), LV.int .i64 (i : Int)], upd noSlots 16 (.tag 1 (14 + i) 5))) 4 ⟨0, rfl, by simp [getL]⟩ ?_
    rintro k q ⟨i, hi, rfl⟩
    by_cases h : i < 4
    · have h' : (i : Int) < ((4 : Nat) : Int) := by omega
      obtain ⟨z, hz⟩ : ∃ z, O[i]? = some z := ⟨O[i], by simp [ho, h]⟩
      have e1 : IntKind.i64.wrap ((i : Int) + 1) = ((i + 1 : Nat) : Int) := by rw [wrap_id (by omega) (by omega)]; omega
      have ht : (O.map fun z => ((3 : Int), z, (1 : Int), (1 : Int), (0 : Int))).take (i + 1) = (O.map fun z => (3, z, 1, 1, 0)).take i ++ [(3, z, 1, 1, 0)] := by rw [List.take_add_one]; simp [hz]
      have ha := fun D => hap (14 + i) D (C ++ (O.map fun z => ((3 : Int), z, (1 : Int), (1 : Int), (0 : Int))).take i) 3 z 1 1 0 (by simp; omega) (by omega)
      simp only [go_sem, ↓reduceIte, reduceCtorEq, upd_ne, back_new (no_at), Nat.reduceAdd, Nat.reduceEqDiff, Nat.reduceMul, Nat.reduceSub, Nat.reduceLeDiff, Nat.reduceLT, Int.reduceToNat, Int.reduceLE, Int.reduceLT, Int.reduceEq, UInt8.reduceOfNat, List.getElem?_map, Int.toNat_natCast, h', hz, e1, ha, Option.map_some]
      exact ⟨k - 1, by omega, i + 1, by omega, by rw [ht, List.append_assoc, Nat.add_assoc]⟩
    · have h' : ¬ (i : Int) < ((4 : Nat) : Int) := by omega
      rw [List.take_of_length_le (by simp; omega)]
      simp only [go_sem, ↓reduceIte, reduceCtorEq, upd_ne, back_new (no_at), Nat.reduceAdd, Nat.reduceEqDiff, Nat.reduceMul, Nat.reduceSub, Nat.reduceLeDiff, Nat.reduceLT, Int.reduceToNat, Int.reduceLE, Int.reduceLT, Int.reduceEq, UInt8.reduceOfNat, List.getElem?_map, Int.toNat_natCast, h', Nxt, exIf]
theorem ev_find (l : List (Int × Int × Int × Int × Int)) (k' c r : Int) (d : List UInt8) (hl : l.length ≤ 1000) : S.ev (n + 1) id_interpreterref14_find [.lst none (l.map lnLV), msgLV k' c r d] none =
    some (match fnd k' c l with | some x => .tup [lnLV x, .bool true] | none => .tup [lnLV (0, 0, 0, 0, 0), .bool false], none) := by
  rw [Sys.step hS.h_interpreterref14_find, F_interpreterref14_find_eq]
  unfold F_interpreterref14_find
  (try simp only [guard_merge, or_merge, and_merge, or_pick, and_pick, guard_or, guard_and]); simp only [to_ob]
  simp only [go_sem, ↓reduceIte, reduceCtorEq, upd_ne, back_new (no_at), Nat.reduceAdd, Nat.reduceEqDiff, Nat.reduceMul, Nat.reduceSub, Nat.reduceLeDiff, Nat.reduceLT, Int.reduceToNat, Int.reduceLE, Int.reduceLT, Int.reduceEq, UInt8.reduceOfNat, List.length_map]
  refine while_rule (fun k q => ∃ i : Nat, i + k = l.length ∧ q = ([LV.bool false, LV.int .i64 (i : Int)], upd noSlots 4 (.obj 1 (lnLV (0, 0, 0, 0, 0)))) ∧ fnd k' c (l.drop i) = fnd k' c l) l.length ⟨0, by omega, rfl, rfl⟩ ?_
  rintro k q ⟨i, hi, rfl, hr⟩
  by_cases h : i < l.length
  · have h' : (i : Int) < (l.length : Int) := by omega
    obtain ⟨x, hx⟩ : ∃ x, l[i]? = some x := ⟨l[i], by simp [h]⟩
    have hd : l.drop i = x :: l.drop (i + 1) := by
      rw [List.drop_eq_getElem_cons h]; congr 1; rw [List.getElem?_eq_getElem h] at hx; exact Option.some.inj hx
    rw [hd] at hr
    have e1 : IntKind.i64.wrap ((i : Int) + 1) = ((i + 1 : Nat) : Int) := by rw [wrap_id (by omega) (by omega)]; omega
    have hno : ¬ (x.1 = k' ∧ x.2.1 = c) → fnd k' c (x :: l.drop (i + 1)) = fnd k' c (l.drop (i + 1)) := fun hn => by
      unfold fnd; exact List.find?_cons_of_neg (by simp only [Bool.and_eq_true, decide_eq_true_eq]; exact fun h => hn ⟨h.1.symm, h.2.symm⟩)
    by_cases c1 : x.1 = k'
    · by_cases c2 : x.2.1 = c
      · have hr : fnd k' c l = some x := by rw [← hr]; unfold fnd; exact List.find?_cons_of_pos (by simp [c1, c2])
        subst c1
        subst c2
        simp only [go_sem, ↓reduceIte, reduceCtorEq, upd_ne, back_new (no_at), Nat.reduceAdd, Nat.reduceEqDiff, Nat.reduceMul, Nat.reduceSub, Nat.reduceLeDiff, Nat.reduceLT, Int.reduceToNat, Int.reduceLE, Int.reduceLT, Int.reduceEq, UInt8.reduceOfNat, List.getElem?_map, Int.toNat_natCast, h', hx, e1, Option.map_some, Nxt, exIf, hr]
      · rw [hno (fun h => c2 h.2)] at hr
        simp only [go_sem, ↓reduceIte, reduceCtorEq, upd_ne, back_new (no_at), Nat.reduceAdd, Nat.reduceEqDiff, Nat.reduceMul, Nat.reduceSub, Nat.reduceLeDiff, Nat.reduceLT, Int.reduceToNat, Int.reduceLE, Int.reduceLT, Int.reduceEq, UInt8.reduceOfNat, List.getElem?_map, Int.toNat_natCast, h', hx, c1, c2, e1, Option.map_some]
        exact ⟨k - 1, by omega, i + 1, by omega, rfl, hr⟩
    · rw [hno (fun h => c1 h.1)] at hr
      simp only [go_sem, ↓reduceIte, reduceCtorEq, upd_ne, back_new (no_at), Nat.reduceAdd, Nat.reduceEqDiff, Nat.reduceMul, Nat.reduceSub, Nat.reduceLeDiff, Nat.reduceLT, Int.reduceToNat, Int.reduceLE, Int.reduceLT, Int.reduceEq, UInt8.reduceOfNat, List.getElem?_map, Int.toNat_natCast, h', hx, c1, e1, Option.map_some]
      exact ⟨k - 1, by omega, i + 1, by omega, rfl, hr⟩
  · have h' : ¬ (i : Int) < (l.length : Int) := by omega
    rw [List.drop_of_length_le (by omega)] at hr
    have hr : fnd k' c l = none := hr.symm
    simp only [go_sem, ↓reduceIte, reduceCtorEq, upd_ne, back_new (no_at), Nat.reduceAdd, Nat.reduceEqDiff, Nat.reduceMul, Nat.reduceSub, Nat.reduceLeDiff, Nat.reduceLT, Int.reduceToNat, Int.reduceLE, Int.reduceLT, Int.reduceEq, UInt8.reduceOfNat, List.getElem?_map, Int.toNat_natCast, h', Nxt, exIf, hr]
end
end Go.Ev

namespace Go.Ev
set_option linter.unusedSimpArgs false
set_option linter.unusedVariables false
set_option maxRecDepth 10000
set_option maxHeartbeats 16000000
abbrev out3 (x : Int × Int × Int × Int × Int) : Int × Int × Int := (x.2.2.1, x.2.2.2.1, x.2.2.2.2)
theorem LN_eq (r : Int) : LN r = [(8, 0, 128, 0, r), (0, 0, 129, 0, r), (3, 3, 1, 4, 0), (3, 2, 4, 1, 6), (11, 0, 3, 0, 0), (11, 1, 3, 1, 0), (3, 0, 1, 0, 0), (3, 1, 1, 0, 0), (3, 5, 1, 0, 0), (3, 6, 1, 0, 0), (3, 7, 1, 0, 0), (3, 8, 1, 0, 0), (3, 11, 1, 0, 0), (3, 12, 1, 0, 0), (3, 9, 1, 1, 0), (3, 10, 1, 1, 0), (3, 13, 1, 1, 0), (3, 15, 1, 1, 0)] := rfl
theorem fnd6 {k c r m4 m6 len : Int} (hs : sid m4 m6) (h1 : ¬ (k = 3 ∧ c = 4)) (h2 : ¬ (k = 12 ∧ (c = 0 ∨ c = 2))) : to6S k c r m4 m6 len = (fnd k c (LN r)).map out3 := by
  unfold to6S
  rw [if_neg (not_not_intro hs), LN_eq, if_neg h2]
  unfold fnd los6
  by_cases k8 : k = 8
  · subst k8
    by_cases c0 : c = 0
    · subst c0; rfl
    · simp [c0]
  by_cases k0 : k = 0
  · subst k0
    by_cases c0 : c = 0
    · subst c0; rfl
    · simp [c0]
  by_cases k11 : k = 11
  · subst k11
    by_cases c0 : c = 0
    · subst c0; rfl
    by_cases c1 : c = 1
    · subst c1; rfl
    · simp [c0, c1]
  by_cases k3 : k = 3
  · subst k3
    have c4 : ¬ c = 4 := fun h => h1 ⟨rfl, h⟩
    by_cases q : c = 0; · subst q; rfl
    by_cases q1 : c = 1; · subst q1; rfl
    by_cases q2 : c = 2; · subst q2; rfl
    by_cases q3 : c = 3; · subst q3; rfl
    by_cases q5 : c = 5; · subst q5; rfl
    by_cases q6 : c = 6; · subst q6; rfl
    by_cases q7 : c = 7; · subst q7; rfl
    by_cases q8 : c = 8; · subst q8; rfl
    by_cases q9 : c = 9; · subst q9; rfl
    by_cases q10 : c = 10; · subst q10; rfl
    by_cases q11 : c = 11; · subst q11; rfl
    by_cases q12 : c = 12; · subst q12; rfl
    by_cases q13 : c = 13; · subst q13; rfl
    by_cases q15 : c = 15; · subst q15; rfl
    simp [q, q1, q2, q3, c4, q5, q6, q7, q8, q9, q10, q11, q12, q13, q15]
  simp [k8, k0, k11, k3]
theorem mtu_cases {a m4 m6 : Int} (h6 : 1280 ≤ m6) : (m6 < a + 20 ∧ m4 + 20 < m6 ∧ m4 + 20 < 1280 ∧ max (min (min (a + 20) m6) (m4 + 20)) 1280 = 1280) ∨ (m6 < a + 20 ∧ m4 + 20 < m6 ∧ ¬ m4 + 20 < 1280 ∧ max (min (min (a + 20) m6) (m4 + 20)) 1280 = m4 + 20) ∨ (m6 < a + 20 ∧ ¬ m4 + 20 < m6 ∧ ¬ m6 < 1280 ∧ max (min (min (a + 20) m6) (m4 + 20)) 1280 = m6) ∨ (¬ m6 < a + 20 ∧ m4 + 20 < a + 20 ∧ m4 + 20 < 1280 ∧ max (min (min (a + 20) m6) (m4 + 20)) 1280 = 1280) ∨ (¬ m6 < a + 20 ∧ m4 + 20 < a + 20 ∧ ¬ m4 + 20 < 1280 ∧ max (min (min (a + 20) m6) (m4 + 20)) 1280 = m4 + 20) ∨ (¬ m6 < a + 20 ∧ ¬ m4 + 20 < a + 20 ∧ a + 20 < 1280 ∧ max (min (min (a + 20) m6) (m4 + 20)) 1280 = 1280) ∨ (¬ m6 < a + 20 ∧ ¬ m4 + 20 < a + 20 ∧ ¬ a + 20 < 1280 ∧ max (min (min (a + 20) m6) (m4 + 20)) 1280 = a + 20) := by
  by_cases b1 : m6 < a + 20
  · by_cases b2 : m4 + 20 < m6
    · by_cases b3 : m4 + 20 < 1280
      · exact .inl ⟨b1, b2, b3, by omega⟩
      · exact .inr (.inl ⟨b1, b2, b3, by omega⟩)
    · exact .inr (.inr (.inl ⟨b1, b2, by omega, by omega⟩))
  · by_cases b2 : m4 + 20 < a + 20
    · by_cases b3 : m4 + 20 < 1280
      · exact .inr (.inr (.inr (.inl ⟨b1, b2, b3, by omega⟩)))
      · exact .inr (.inr (.inr (.inr (.inl ⟨b1, b2, b3, by omega⟩))))
    · by_cases b3 : a + 20 < 1280
      · exact .inr (.inr (.inr (.inr (.inr (.inl ⟨b1, b2, b3, by omega⟩)))))
      · exact .inr (.inr (.inr (.inr (.inr (.inr ⟨b1, b2, b3, by omega⟩)))))
def TL : List Int := [0, 1, 4, 4, -1, -1, -1, -1, 7, 6, -1, -1, 8, 8, 8, 8, 24, 24, 24, 24]
theorem TL_tab : ∀ p : Fin 20, poi6 ((p.val : Nat) : Int) = if TL.getD p.val 0 < 0 then none else some (TL.getD p.val 0) := by decide
section
variable {S : Sys} (hS : Has S) (n : Nat)
include hS
theorem ev_rto6 (k c r m4 m6 len : Int) (d : List UInt8) (hr : 0 ≤ r ∧ r < 4294967296) : S.ev (n + 3) id_interpreterref14_To6 [msgLV k c r d, .int .i64 m4, .int .i64 m6, .int .i64 len] none = some (msgO (to6S k c r m4 m6 len) d, none) := by
  rw [Sys.step hS.h_interpreterref14_To6, F_interpreterref14_To6_eq]
  unfold F_interpreterref14_To6 F_interpreterref14_To6_k1 F_interpreterref14_To6_k2
  have s0 := ev_bounds hS (n + 1) m4 m6
  have e1 : IntKind.i64.wrap r = r := wrap_id (by omega) (by omega)
  (try simp only [guard_merge, or_merge, and_merge, or_pick, and_pick, guard_or, guard_and]); simp only [to_ob]
  by_cases hs : sid m4 m6
  case neg =>
    rw [decide_eq_false hs] at s0
    rw [show to6S k c r m4 m6 len = none by unfold to6S; rw [if_pos hs]]
    simp only [go_sem, ↓reduceIte, reduceCtorEq, upd_ne, back_new (no_at), Nat.reduceAdd, Nat.reduceEqDiff, Nat.reduceMul, Nat.reduceSub, Nat.reduceLeDiff, Nat.reduceLT, Int.reduceToNat, Int.reduceLE, Int.reduceLT, Int.reduceEq, UInt8.reduceOfNat, List.getElem?_map, Int.toNat_natCast, s0, msgO]
  rw [decide_eq_true hs] at s0
  by_cases h1 : k = 3 ∧ c = 4
  · obtain ⟨rfl, rfl⟩ := h1
    have hP := ev_rplat hS (n + 1) len
    have hpl := plat_le len
    have hX : to6S 3 4 r m4 m6 len = some (2, 0, mtu6O r m4 m6 len) := by unfold to6S; rw [if_neg (not_not_intro hs)]; rfl
    unfold sid at hs
    unfold mtu6O at hX
    rw [hX]
    have e2 : IntKind.i64.wrap (Int.tmod r 65536) = r % 65536 := by rw [Int.tmod_eq_emod_of_nonneg hr.1, wrap_id (by omega) (by omega)]
    have e4 : IntKind.i64.wrap (m4 + 20) = m4 + 20 := wrap_id (by omega) (by omega)
    have eu : ∀ x : Int, 0 ≤ x ∧ x ≤ 1000000 → IntKind.u32.wrap x = x := fun x h => by obtain ⟨X, rfl⟩ := Int.eq_ofNat_of_zero_le h.1; exact wrap_u32 (by omega)
    have go : ∀ a : Int, 0 ≤ a ∧ a ≤ 65535 → IntKind.i64.wrap (a + 20) = a + 20 := fun a h => wrap_id (by omega) (by omega)
    have u0 := eu 1280 (by omega)
    have u1 := eu m6 (by omega)
    have u2 := eu (m4 + 20) (by omega)
    by_cases z : r % 65536 = 0
    · rw [if_pos z]
      have g := go (plat len) (by omega)
      have u3 := eu (plat len + 20) (by omega)
      generalize plat len = a at *
      rcases mtu_cases (a := a) (m4 := m4) (m6 := m6) (by omega) with ⟨b1, b2, b3, hM⟩ | ⟨b1, b2, b3, hM⟩ | ⟨b1, b2, b3, hM⟩ | ⟨b1, b2, b3, hM⟩ | ⟨b1, b2, b3, hM⟩ | ⟨b1, b2, b3, hM⟩ | ⟨b1, b2, b3, hM⟩ <;> rw [hM] <;>
        simp only [go_sem, ↓reduceIte, reduceCtorEq, upd_ne, back_new (no_at), Nat.reduceAdd, Nat.reduceEqDiff, Nat.reduceMul, Nat.reduceSub, Nat.reduceLeDiff, Nat.reduceLT, Int.reduceToNat, Int.reduceLE, Int.reduceLT, Int.reduceEq, UInt8.reduceOfNat, List.getElem?_map, Int.toNat_natCast, s0, e2, e4, z, hP, g, u0, u1, u2, u3, b1, b2, b3, msgO]
    · rw [if_neg z]
      have g := go (r % 65536) (by omega)
      have u3 := eu (r % 65536 + 20) (by omega)
      have hz : r % 65536 ≤ 65535 ∧ 0 ≤ r % 65536 := by omega
      generalize r % 65536 = a at *
      rcases mtu_cases (a := a) (m4 := m4) (m6 := m6) (by omega) with ⟨b1, b2, b3, hM⟩ | ⟨b1, b2, b3, hM⟩ | ⟨b1, b2, b3, hM⟩ | ⟨b1, b2, b3, hM⟩ | ⟨b1, b2, b3, hM⟩ | ⟨b1, b2, b3, hM⟩ | ⟨b1, b2, b3, hM⟩ <;> rw [hM] <;>
        simp only [go_sem, ↓reduceIte, reduceCtorEq, upd_ne, back_new (no_at), Nat.reduceAdd, Nat.reduceEqDiff, Nat.reduceMul, Nat.reduceSub, Nat.reduceLeDiff, Nat.reduceLT, Int.reduceToNat, Int.reduceLE, Int.reduceLT, Int.reduceEq, UInt8.reduceOfNat, List.getElem?_map, Int.toNat_natCast, s0, e2, e4, z, g, u0, u1, u2, u3, b1, b2, b3, msgO]
  by_cases h2 : k = 12 ∧ (c = 0 ∨ c = 2)
  · obtain ⟨rfl, cc⟩ := h2
    have hX : to6S 12 c r m4 m6 len = (poi6 (r / 16777216)).map fun n => (4, 0, n) := by
      unfold to6S; rw [if_neg (not_not_intro hs), if_neg (by omega), if_neg (by omega), if_neg (by omega), if_neg (by omega), if_pos ⟨rfl, cc⟩]
    rw [hX]
    obtain ⟨P, hP⟩ := Int.eq_ofNat_of_zero_le (show 0 ≤ r / 16777216 by omega)
    have e3 : IntKind.u32.wrap (Int.tdiv r 16777216) = (P : Int) := by rw [Int.tdiv_eq_ediv_of_nonneg hr.1, hP]; exact wrap_u32 (by omega)
    have e5 : IntKind.i64.wrap (P : Int) = (P : Int) := wrap_id (by omega) (by omega)
    have hL : [LV.int .i64 0, .int .i64 1, .int .i64 4, .int .i64 4, .int .i64 (-1), .int .i64 (-1), .int .i64 (-1), .int .i64 (-1), .int .i64 7, .int .i64 6, .int .i64 (-1), .int .i64 (-1), .int .i64 8, .int .i64 8, .int .i64 8, .int .i64 8, .int .i64 24, .int .i64 24, .int .i64 24, .int .i64 24] = TL.map (fun x => LV.int .i64 x) := rfl
    have hps : pslL (TL.map (fun x => LV.int .i64 x)) = some (TL.map (fun x => LV.int .i64 x)) := rfl
    have hl : TL.length = 20 := rfl
    rw [hP]
    by_cases hp : P < 20
    · have hq := TL_tab ⟨P, hp⟩
      have hx : TL[P]? = some (TL.getD P 0) := by rw [List.getD_eq_getElem?_getD, List.getElem?_eq_getElem (by omega)]; rfl
      have hp' : ¬ (20 : Int) ≤ (P : Int) := by omega
      have hle : ∀ x ∈ TL, x ≤ 24 := by decide
      have hu : TL.getD P 0 ≤ 24 := hle _ (List.mem_of_getElem? hx)
      simp only at hq
      generalize TL = L at *
      generalize L.getD P 0 = t at *
      by_cases ht : t < 0
      · rw [if_pos ht] at hq
        rcases cc with rfl | rfl <;> simp only [go_sem, ↓reduceIte, reduceCtorEq, upd_ne, back_new (no_at), Nat.reduceAdd, Nat.reduceEqDiff, Nat.reduceMul, Nat.reduceSub, Nat.reduceLeDiff, Nat.reduceLT, Int.reduceToNat, Int.reduceLE, Int.reduceLT, Int.reduceEq, UInt8.reduceOfNat, List.getElem?_map, Int.toNat_natCast, s0, e3, e5, hL, hps, hl, List.length_map, Int.cast_ofNat_Int, hx, hp', ht, hq, msgO, true_and, Option.map_none, Option.map_some]
      · rw [if_neg ht] at hq
        have e6 : IntKind.u32.wrap t = t := by obtain ⟨X, rfl⟩ := Int.eq_ofNat_of_zero_le (show 0 ≤ t by omega); exact wrap_u32 (by omega)
        rcases cc with rfl | rfl <;> simp only [go_sem, ↓reduceIte, reduceCtorEq, upd_ne, back_new (no_at), Nat.reduceAdd, Nat.reduceEqDiff, Nat.reduceMul, Nat.reduceSub, Nat.reduceLeDiff, Nat.reduceLT, Int.reduceToNat, Int.reduceLE, Int.reduceLT, Int.reduceEq, UInt8.reduceOfNat, List.getElem?_map, Int.toNat_natCast, s0, e3, e5, e6, hL, hps, hl, List.length_map, Int.cast_ofNat_Int, hx, hp', ht, hq, msgO, true_and, Option.map_none, Option.map_some]
    · have hq : poi6 (P : Int) = none := by unfold poi6; repeat' split
                                            all_goals first | rfl | (exfalso; omega)
      have hp' : (20 : Int) ≤ (P : Int) := by omega
      generalize TL = L at *
      rcases cc with rfl | rfl <;> simp only [go_sem, ↓reduceIte, reduceCtorEq, upd_ne, back_new (no_at), Nat.reduceAdd, Nat.reduceEqDiff, Nat.reduceMul, Nat.reduceSub, Nat.reduceLeDiff, Nat.reduceLT, Int.reduceToNat, Int.reduceLE, Int.reduceLT, Int.reduceEq, UInt8.reduceOfNat, List.getElem?_map, Int.toNat_natCast, s0, e3, e5, hL, hps, hl, List.length_map, Int.cast_ofNat_Int, hp', hq, msgO, true_and, Option.map_none, Option.map_some]
  have hl := ev_lines6 hS (n + 1) r
  have hf := ev_find hS (n + 1) (LN r) k c r d (by show 18 ≤ 1000; omega)
  rw [fnd6 hs h1 h2]
  have hz : ∀ x, fnd k c (LN r) = some x → 0 ≤ x.2.2.2.2 ∧ x.2.2.2.2 < 4294967296 := fun x hx => by
    have h := List.mem_of_find?_eq_some hx
    rw [LN_eq] at h
    simp only [List.mem_cons, List.not_mem_nil, or_false] at h
    rcases h with rfl | rfl | rfl | rfl | rfl | rfl | rfl | rfl | rfl | rfl | rfl | rfl | rfl | rfl | rfl | rfl | rfl | rfl <;> first | exact hr | exact ⟨by decide, by decide⟩
  generalize LN r = L at *
  have f1 : ∀ h : k = 3, ¬ c = 4 := fun h q => h1 ⟨h, q⟩
  have f2 : ∀ h : k = 12, ¬ c = 0 := fun h q => h2 ⟨h, .inl q⟩
  have f3 : ∀ h : k = 12, ¬ c = 2 := fun h q => h2 ⟨h, .inr q⟩
  cases hq : fnd k c L with
  | none =>
    rw [hq] at hf
    by_cases k3 : k = 3
    · subst k3
      simp only [go_sem, ↓reduceIte, reduceCtorEq, upd_ne, back_new (no_at), Nat.reduceAdd, Nat.reduceEqDiff, Nat.reduceMul, Nat.reduceSub, Nat.reduceLeDiff, Nat.reduceLT, Int.reduceToNat, Int.reduceLE, Int.reduceLT, Int.reduceEq, UInt8.reduceOfNat, List.getElem?_map, Int.toNat_natCast, s0, e1, hl, hf, f1 rfl, msgO, Option.map_none]
    by_cases k12 : k = 12
    · subst k12
      simp only [go_sem, ↓reduceIte, reduceCtorEq, upd_ne, back_new (no_at), Nat.reduceAdd, Nat.reduceEqDiff, Nat.reduceMul, Nat.reduceSub, Nat.reduceLeDiff, Nat.reduceLT, Int.reduceToNat, Int.reduceLE, Int.reduceLT, Int.reduceEq, UInt8.reduceOfNat, List.getElem?_map, Int.toNat_natCast, s0, e1, hl, hf, f2 rfl, f3 rfl, msgO, Option.map_none]
    simp only [go_sem, ↓reduceIte, reduceCtorEq, upd_ne, back_new (no_at), Nat.reduceAdd, Nat.reduceEqDiff, Nat.reduceMul, Nat.reduceSub, Nat.reduceLeDiff, Nat.reduceLT, Int.reduceToNat, Int.reduceLE, Int.reduceLT, Int.reduceEq, UInt8.reduceOfNat, List.getElem?_map, Int.toNat_natCast, s0, e1, hl, hf, k3, k12, msgO, Option.map_none]
  | some x =>
    rw [hq] at hf
    have h := hz x hq
    have e6 : IntKind.u32.wrap x.2.2.2.2 = x.2.2.2.2 := by obtain ⟨X, hX⟩ := Int.eq_ofNat_of_zero_le h.1; rw [hX]; exact wrap_u32 (by omega)
    by_cases k3 : k = 3
    · subst k3
      simp only [go_sem, ↓reduceIte, reduceCtorEq, upd_ne, back_new (no_at), Nat.reduceAdd, Nat.reduceEqDiff, Nat.reduceMul, Nat.reduceSub, Nat.reduceLeDiff, Nat.reduceLT, Int.reduceToNat, Int.reduceLE, Int.reduceLT, Int.reduceEq, UInt8.reduceOfNat, List.getElem?_map, Int.toNat_natCast, s0, e1, e6, hl, hf, f1 rfl, msgO, Option.map_some]
    by_cases k12 : k = 12
    · subst k12
      simp only [go_sem, ↓reduceIte, reduceCtorEq, upd_ne, back_new (no_at), Nat.reduceAdd, Nat.reduceEqDiff, Nat.reduceMul, Nat.reduceSub, Nat.reduceLeDiff, Nat.reduceLT, Int.reduceToNat, Int.reduceLE, Int.reduceLT, Int.reduceEq, UInt8.reduceOfNat, List.getElem?_map, Int.toNat_natCast, s0, e1, e6, hl, hf, f2 rfl, f3 rfl, msgO, Option.map_some]
    simp only [go_sem, ↓reduceIte, reduceCtorEq, upd_ne, back_new (no_at), Nat.reduceAdd, Nat.reduceEqDiff, Nat.reduceMul, Nat.reduceSub, Nat.reduceLeDiff, Nat.reduceLT, Int.reduceToNat, Int.reduceLE, Int.reduceLT, Int.reduceEq, UInt8.reduceOfNat, List.getElem?_map, Int.toNat_natCast, s0, e1, e6, hl, hf, k3, k12, msgO, Option.map_some]
end
end Go.Ev

namespace Go.Ev
set_option linter.unusedSimpArgs false
set_option linter.unusedVariables false
set_option maxRecDepth 10000
set_option maxHeartbeats 16000000
def LF (r : Int) : List (Int × Int × Int × Int × Int) := [(128, 0, 8, 0, r), (129, 0, 0, 0, r), (1, 0, 3, 1, 0), (1, 2, 3, 1, 0), (1, 3, 3, 1, 0), (1, 1, 3, 10, 0), (1, 4, 3, 3, 0), (3, 0, 11, 0, 0), (3, 1, 11, 1, 0), (4, 1, 3, 2, 0)]
theorem fnd4 {k c r m4 m6 : Int} (hs : sid m4 m6) (h1 : ¬ (k = 2 ∧ c = 0)) (h2 : ¬ (k = 4 ∧ c = 0)) : to4S k c r m4 m6 = (fnd k c (LF r)).map out3 := by
  unfold to4S
  rw [if_neg (not_not_intro hs), if_neg h1, if_neg h2]
  unfold fnd los4 LF
  by_cases k8 : k = 128
  · subst k8
    by_cases c0 : c = 0
    · subst c0; rfl
    · simp [c0]
  by_cases k0 : k = 129
  · subst k0
    by_cases c0 : c = 0
    · subst c0; rfl
    · simp [c0]
  by_cases k1 : k = 1
  · subst k1
    by_cases q : c = 0; · subst q; rfl
    by_cases q1 : c = 1; · subst q1; rfl
    by_cases q2 : c = 2; · subst q2; rfl
    by_cases q3 : c = 3; · subst q3; rfl
    by_cases q4 : c = 4; · subst q4; rfl
    simp [q, q1, q2, q3, q4]
  by_cases k3 : k = 3
  · subst k3
    by_cases c0 : c = 0
    · subst c0; rfl
    by_cases c1 : c = 1
    · subst c1; rfl
    · simp [c0, c1]
  by_cases k4 : k = 4
  · subst k4
    by_cases c1 : c = 1
    · subst c1; rfl
    · simp [c1]
  simp [k8, k0, k1, k3, k4]
theorem mtu4_cases {r m4 m6 : Int} (h4 : 68 ≤ m4 ∧ m4 ≤ 65535) (h6 : 1280 ≤ m6) : (m4 < r - 20 ∧ m6 - 20 < m4 ∧ ¬ m6 - 20 < 68 ∧ ¬ 65535 < m6 - 20 ∧ mtu4O r m4 m6 = m6 - 20) ∨ (m4 < r - 20 ∧ ¬ m6 - 20 < m4 ∧ ¬ m4 < 68 ∧ ¬ 65535 < m4 ∧ mtu4O r m4 m6 = m4) ∨ (¬ m4 < r - 20 ∧ m6 - 20 < r - 20 ∧ ¬ m6 - 20 < 68 ∧ ¬ 65535 < m6 - 20 ∧ mtu4O r m4 m6 = m6 - 20) ∨ (¬ m4 < r - 20 ∧ ¬ m6 - 20 < r - 20 ∧ r - 20 < 68 ∧ ¬ (65535 : Int) < 68 ∧ mtu4O r m4 m6 = 68) ∨ (¬ m4 < r - 20 ∧ ¬ m6 - 20 < r - 20 ∧ ¬ r - 20 < 68 ∧ ¬ 65535 < r - 20 ∧ mtu4O r m4 m6 = r - 20) := by
  unfold mtu4O
  by_cases b1 : m4 < r - 20
  · by_cases b2 : m6 - 20 < m4
    · exact .inl ⟨b1, b2, by omega, by omega, by omega⟩
    · exact .inr (.inl ⟨b1, b2, by omega, by omega, by omega⟩)
  · by_cases b2 : m6 - 20 < r - 20
    · exact .inr (.inr (.inl ⟨b1, b2, by omega, by omega, by omega⟩))
    · by_cases b3 : r - 20 < 68
      · exact .inr (.inr (.inr (.inl ⟨b1, b2, b3, by omega, by omega⟩)))
      · exact .inr (.inr (.inr (.inr ⟨b1, b2, b3, by omega, by omega⟩)))
section
variable {S : Sys} (hS : Has S) (n : Nat)
include hS
theorem ev_rto4 (k c r m4 m6 : Int) (d : List UInt8) (hr : 0 ≤ r ∧ r < 4294967296) : S.ev (n + 3) id_interpreterref14_To4 [msgLV k c r d, .int .i64 m4, .int .i64 m6] none = some (msgO (to4S k c r m4 m6) d, none) := by
  rw [Sys.step hS.h_interpreterref14_To4, F_interpreterref14_To4_eq]
  unfold F_interpreterref14_To4 F_interpreterref14_To4_k2 F_interpreterref14_To4_k1 F_interpreterref14_To4_k5 F_interpreterref14_To4_k4 F_interpreterref14_To4_k3
  have s0 := ev_bounds hS (n + 1) m4 m6
  have e1 : IntKind.i64.wrap r = r := wrap_id (by omega) (by omega)
  have eu : ∀ x : Int, 0 ≤ x ∧ x < 4294967296 → IntKind.u32.wrap x = x := fun x h => by obtain ⟨X, rfl⟩ := Int.eq_ofNat_of_zero_le h.1; exact wrap_u32 (by omega)
  (try simp only [guard_merge, or_merge, and_merge, or_pick, and_pick, guard_or, guard_and]); simp only [to_ob]
  by_cases hs : sid m4 m6
  case neg =>
    rw [decide_eq_false hs] at s0
    rw [show to4S k c r m4 m6 = none by unfold to4S; rw [if_pos hs]]
    simp only [go_sem, ↓reduceIte, reduceCtorEq, upd_ne, back_new (no_at), Nat.reduceAdd, Nat.reduceEqDiff, Nat.reduceMul, Nat.reduceSub, Nat.reduceLeDiff, Nat.reduceLT, Int.reduceToNat, Int.reduceLE, Int.reduceLT, Int.reduceEq, UInt8.reduceOfNat, List.getElem?_map, Int.toNat_natCast, s0, msgO]
  rw [decide_eq_true hs] at s0
  by_cases h1 : k = 2 ∧ c = 0
  · obtain ⟨rfl, rfl⟩ := h1
    have hX : to4S 2 0 r m4 m6 = some (3, 4, mtu4O r m4 m6) := by unfold to4S; rw [if_neg (not_not_intro hs)]; rfl
    unfold sid at hs
    rw [hX]
    have e2 : IntKind.i64.wrap (r - 20) = r - 20 := wrap_id (by omega) (by omega)
    have e4 : IntKind.i64.wrap (m6 - 20) = m6 - 20 := wrap_id (by omega) (by omega)
    have u0 := eu 68 (by omega)
    have u1 := eu m4 (by omega)
    have u2 := eu (m6 - 20) (by omega)
    rcases mtu4_cases (r := r) (m4 := m4) (m6 := m6) ⟨by omega, by omega⟩ (by omega) with ⟨b1, b2, b3, b4, hM⟩ | ⟨b1, b2, b3, b4, hM⟩ | ⟨b1, b2, b3, b4, hM⟩ | ⟨b1, b2, b3, b4, hM⟩ | ⟨b1, b2, b3, b4, hM⟩ <;> rw [hM]
    · simp only [go_sem, ↓reduceIte, reduceCtorEq, upd_ne, back_new (no_at), Nat.reduceAdd, Nat.reduceEqDiff, Nat.reduceMul, Nat.reduceSub, Nat.reduceLeDiff, Nat.reduceLT, Int.reduceToNat, Int.reduceLE, Int.reduceLT, Int.reduceEq, UInt8.reduceOfNat, List.getElem?_map, Int.toNat_natCast, s0, e1, e2, e4, u0, u1, u2, b1, b2, b3, b4, msgO]
    · simp only [go_sem, ↓reduceIte, reduceCtorEq, upd_ne, back_new (no_at), Nat.reduceAdd, Nat.reduceEqDiff, Nat.reduceMul, Nat.reduceSub, Nat.reduceLeDiff, Nat.reduceLT, Int.reduceToNat, Int.reduceLE, Int.reduceLT, Int.reduceEq, UInt8.reduceOfNat, List.getElem?_map, Int.toNat_natCast, s0, e1, e2, e4, u0, u1, u2, b1, b2, b3, b4, msgO]
    · simp only [go_sem, ↓reduceIte, reduceCtorEq, upd_ne, back_new (no_at), Nat.reduceAdd, Nat.reduceEqDiff, Nat.reduceMul, Nat.reduceSub, Nat.reduceLeDiff, Nat.reduceLT, Int.reduceToNat, Int.reduceLE, Int.reduceLT, Int.reduceEq, UInt8.reduceOfNat, List.getElem?_map, Int.toNat_natCast, s0, e1, e2, e4, u0, u1, u2, b1, b2, b3, b4, msgO]
    · simp only [go_sem, ↓reduceIte, reduceCtorEq, upd_ne, back_new (no_at), Nat.reduceAdd, Nat.reduceEqDiff, Nat.reduceMul, Nat.reduceSub, Nat.reduceLeDiff, Nat.reduceLT, Int.reduceToNat, Int.reduceLE, Int.reduceLT, Int.reduceEq, UInt8.reduceOfNat, List.getElem?_map, Int.toNat_natCast, s0, e1, e2, e4, u0, u1, u2, b1, b2, b3, b4, msgO]
    · have u3 := eu (r - 20) (by omega)
      simp only [go_sem, ↓reduceIte, reduceCtorEq, upd_ne, back_new (no_at), Nat.reduceAdd, Nat.reduceEqDiff, Nat.reduceMul, Nat.reduceSub, Nat.reduceLeDiff, Nat.reduceLT, Int.reduceToNat, Int.reduceLE, Int.reduceLT, Int.reduceEq, UInt8.reduceOfNat, List.getElem?_map, Int.toNat_natCast, s0, e1, e2, e4, u0, u1, u2, u3, b1, b2, b3, b4, msgO]
  by_cases h2 : k = 4 ∧ c = 0
  · obtain ⟨rfl, rfl⟩ := h2
    have hX : to4S 4 0 r m4 m6 = (poi4 r).map fun n => (12, 0, n * 16777216) := by unfold to4S; rw [if_neg (not_not_intro hs)]; rfl
    rw [hX]
    have mu : ∀ p : Int, 0 ≤ p ∧ p ≤ 39 → IntKind.u32.wrap (p * 16777216) = p * 16777216 := fun p h => eu _ (by omega)
    by_cases c1 : r ≤ 1
    · have hq : poi4 r = some r := by unfold poi4; rw [if_pos (by omega)]
      have n0 : ¬ r < 0 := by omega
      have w1 := eu r (by omega)
      have w2 := mu r (by omega)
      simp only [go_sem, ↓reduceIte, reduceCtorEq, upd_ne, back_new (no_at), Nat.reduceAdd, Nat.reduceEqDiff, Nat.reduceMul, Nat.reduceSub, Nat.reduceLeDiff, Nat.reduceLT, Int.reduceToNat, Int.reduceLE, Int.reduceLT, Int.reduceEq, UInt8.reduceOfNat, List.getElem?_map, Int.toNat_natCast, s0, e1, c1, n0, w1, w2, hq, msgO, Option.map_some]
    by_cases c4 : r = 4
    · subst c4
      simp only [go_sem, ↓reduceIte, reduceCtorEq, upd_ne, back_new (no_at), Nat.reduceAdd, Nat.reduceEqDiff, Nat.reduceMul, Nat.reduceSub, Nat.reduceLeDiff, Nat.reduceLT, Int.reduceToNat, Int.reduceLE, Int.reduceLT, Int.reduceEq, UInt8.reduceOfNat, List.getElem?_map, Int.toNat_natCast, s0, eu 2 (by omega), mu 2 (by omega), show poi4 4 = some 2 from rfl, msgO, Option.map_some]
    by_cases c5 : r = 5
    · subst c5
      simp only [go_sem, ↓reduceIte, reduceCtorEq, upd_ne, back_new (no_at), Nat.reduceAdd, Nat.reduceEqDiff, Nat.reduceMul, Nat.reduceSub, Nat.reduceLeDiff, Nat.reduceLT, Int.reduceToNat, Int.reduceLE, Int.reduceLT, Int.reduceEq, UInt8.reduceOfNat, List.getElem?_map, Int.toNat_natCast, s0, eu 2 (by omega), mu 2 (by omega), show poi4 5 = some 2 from rfl, msgO, Option.map_some]
    by_cases c6 : r = 6
    · subst c6
      simp only [go_sem, ↓reduceIte, reduceCtorEq, upd_ne, back_new (no_at), Nat.reduceAdd, Nat.reduceEqDiff, Nat.reduceMul, Nat.reduceSub, Nat.reduceLeDiff, Nat.reduceLT, Int.reduceToNat, Int.reduceLE, Int.reduceLT, Int.reduceEq, UInt8.reduceOfNat, List.getElem?_map, Int.toNat_natCast, s0, eu 9 (by omega), mu 9 (by omega), show poi4 6 = some 9 from rfl, msgO, Option.map_some]
    by_cases c7 : r = 7
    · subst c7
      simp only [go_sem, ↓reduceIte, reduceCtorEq, upd_ne, back_new (no_at), Nat.reduceAdd, Nat.reduceEqDiff, Nat.reduceMul, Nat.reduceSub, Nat.reduceLeDiff, Nat.reduceLT, Int.reduceToNat, Int.reduceLE, Int.reduceLT, Int.reduceEq, UInt8.reduceOfNat, List.getElem?_map, Int.toNat_natCast, s0, eu 8 (by omega), mu 8 (by omega), show poi4 7 = some 8 from rfl, msgO, Option.map_some]
    have hq : poi4 r = if 8 ≤ r ∧ r ≤ 23 then some 12 else if 24 ≤ r ∧ r ≤ 39 then some 16 else none := by
      unfold poi4; rw [if_neg (by omega), if_neg (by omega), if_neg c6, if_neg c7]
    rw [hq]
    by_cases g1 : 8 ≤ r
    · by_cases g2 : r < 24
      · rw [if_pos (by omega)]
        simp only [go_sem, ↓reduceIte, reduceCtorEq, upd_ne, back_new (no_at), Nat.reduceAdd, Nat.reduceEqDiff, Nat.reduceMul, Nat.reduceSub, Nat.reduceLeDiff, Nat.reduceLT, Int.reduceToNat, Int.reduceLE, Int.reduceLT, Int.reduceEq, UInt8.reduceOfNat, List.getElem?_map, Int.toNat_natCast, s0, eu 12 (by omega), mu 12 (by omega), c1, c4, c5, c6, c7, g1, g2, msgO, Option.map_some]
      · have g3 : 24 ≤ r := by omega
        rw [if_neg (by omega)]
        by_cases g4 : r < 40
        · rw [if_pos (by omega)]
          simp only [go_sem, ↓reduceIte, reduceCtorEq, upd_ne, back_new (no_at), Nat.reduceAdd, Nat.reduceEqDiff, Nat.reduceMul, Nat.reduceSub, Nat.reduceLeDiff, Nat.reduceLT, Int.reduceToNat, Int.reduceLE, Int.reduceLT, Int.reduceEq, UInt8.reduceOfNat, List.getElem?_map, Int.toNat_natCast, s0, eu 16 (by omega), mu 16 (by omega), c1, c4, c5, c6, c7, g1, g2, g3, g4, msgO, Option.map_some]
        · rw [if_neg (by omega)]
          simp only [go_sem, ↓reduceIte, reduceCtorEq, upd_ne, back_new (no_at), Nat.reduceAdd, Nat.reduceEqDiff, Nat.reduceMul, Nat.reduceSub, Nat.reduceLeDiff, Nat.reduceLT, Int.reduceToNat, Int.reduceLE, Int.reduceLT, Int.reduceEq, UInt8.reduceOfNat, List.getElem?_map, Int.toNat_natCast, s0, c1, c4, c5, c6, c7, g1, g2, g3, g4, msgO, Option.map_none]
    · have g3 : ¬ 24 ≤ r := by omega
      rw [if_neg (by omega), if_neg (by omega)]
      simp only [go_sem, ↓reduceIte, reduceCtorEq, upd_ne, back_new (no_at), Nat.reduceAdd, Nat.reduceEqDiff, Nat.reduceMul, Nat.reduceSub, Nat.reduceLeDiff, Nat.reduceLT, Int.reduceToNat, Int.reduceLE, Int.reduceLT, Int.reduceEq, UInt8.reduceOfNat, List.getElem?_map, Int.toNat_natCast, s0, c1, c4, c5, c6, c7, g1, g3, msgO, Option.map_none]
  have hf := ev_find hS (n + 1) (LF r) k c r d (by show 10 ≤ 1000; omega)
  rw [fnd4 hs h1 h2]
  have hz : ∀ x, fnd k c (LF r) = some x → 0 ≤ x.2.2.2.2 ∧ x.2.2.2.2 < 4294967296 := fun x hx => by
    have h := List.mem_of_find?_eq_some hx
    unfold LF at h
    simp only [List.mem_cons, List.not_mem_nil, or_false] at h
    rcases h with rfl | rfl | rfl | rfl | rfl | rfl | rfl | rfl | rfl | rfl <;> first | exact hr | exact ⟨by decide, by decide⟩
  have hL : [l5 128 0 8 0 r, l5 129 0 0 0 r, l5 1 0 3 1 0, l5 1 2 3 1 0, l5 1 3 3 1 0, l5 1 1 3 10 0, l5 1 4 3 3 0, l5 3 0 11 0 0, l5 3 1 11 1 0, l5 4 1 3 2 0] = (LF r).map lnLV := rfl
  have hps : pslL ((LF r).map lnLV) = some ((LF r).map lnLV) := rfl
  generalize LF r = L at *
  have f1 : ∀ h : k = 2, ¬ c = 0 := fun h q => h1 ⟨h, q⟩
  have f2 : ∀ h : k = 4, ¬ c = 0 := fun h q => h2 ⟨h, q⟩
  cases hq : fnd k c L with
  | none =>
    rw [hq] at hf
    by_cases k3 : k = 2
    · subst k3
      simp only [go_sem, ↓reduceIte, reduceCtorEq, upd_ne, back_new (no_at), Nat.reduceAdd, Nat.reduceEqDiff, Nat.reduceMul, Nat.reduceSub, Nat.reduceLeDiff, Nat.reduceLT, Int.reduceToNat, Int.reduceLE, Int.reduceLT, Int.reduceEq, UInt8.reduceOfNat, List.getElem?_map, Int.toNat_natCast, s0, e1, hL, hps, hf, f1 rfl, msgO, Option.map_none]
    by_cases k12 : k = 4
    · subst k12
      simp only [go_sem, ↓reduceIte, reduceCtorEq, upd_ne, back_new (no_at), Nat.reduceAdd, Nat.reduceEqDiff, Nat.reduceMul, Nat.reduceSub, Nat.reduceLeDiff, Nat.reduceLT, Int.reduceToNat, Int.reduceLE, Int.reduceLT, Int.reduceEq, UInt8.reduceOfNat, List.getElem?_map, Int.toNat_natCast, s0, e1, hL, hps, hf, f2 rfl, msgO, Option.map_none]
    simp only [go_sem, ↓reduceIte, reduceCtorEq, upd_ne, back_new (no_at), Nat.reduceAdd, Nat.reduceEqDiff, Nat.reduceMul, Nat.reduceSub, Nat.reduceLeDiff, Nat.reduceLT, Int.reduceToNat, Int.reduceLE, Int.reduceLT, Int.reduceEq, UInt8.reduceOfNat, List.getElem?_map, Int.toNat_natCast, s0, e1, hL, hps, hf, k3, k12, msgO, Option.map_none]
  | some x =>
    rw [hq] at hf
    have h := hz x hq
    have e6 : IntKind.u32.wrap x.2.2.2.2 = x.2.2.2.2 := eu _ h
    by_cases k3 : k = 2
    · subst k3
      simp only [go_sem, ↓reduceIte, reduceCtorEq, upd_ne, back_new (no_at), Nat.reduceAdd, Nat.reduceEqDiff, Nat.reduceMul, Nat.reduceSub, Nat.reduceLeDiff, Nat.reduceLT, Int.reduceToNat, Int.reduceLE, Int.reduceLT, Int.reduceEq, UInt8.reduceOfNat, List.getElem?_map, Int.toNat_natCast, s0, e1, e6, hL, hps, hf, f1 rfl, msgO, Option.map_some]
    by_cases k12 : k = 4
    · subst k12
      simp only [go_sem, ↓reduceIte, reduceCtorEq, upd_ne, back_new (no_at), Nat.reduceAdd, Nat.reduceEqDiff, Nat.reduceMul, Nat.reduceSub, Nat.reduceLeDiff, Nat.reduceLT, Int.reduceToNat, Int.reduceLE, Int.reduceLT, Int.reduceEq, UInt8.reduceOfNat, List.getElem?_map, Int.toNat_natCast, s0, e1, e6, hL, hps, hf, f2 rfl, msgO, Option.map_some]
    simp only [go_sem, ↓reduceIte, reduceCtorEq, upd_ne, back_new (no_at), Nat.reduceAdd, Nat.reduceEqDiff, Nat.reduceMul, Nat.reduceSub, Nat.reduceLeDiff, Nat.reduceLT, Int.reduceToNat, Int.reduceLE, Int.reduceLT, Int.reduceEq, UInt8.reduceOfNat, List.getElem?_map, Int.toNat_natCast, s0, e1, e6, hL, hps, hf, k3, k12, msgO, Option.map_some]
end
end Go.Ev

namespace Go.Ev
set_option linter.unusedSimpArgs false
set_option linter.unusedVariables false
set_option maxRecDepth 10000
set_option maxHeartbeats 8000000
section
variable {S : Sys} (hS : Has S) (n : Nat)
include hS
theorem ev_rfailure4 (k c r : Int) (d : List UInt8) : S.ev (n + 1) id_interpreterref07_Failure [msgLV k c r d] none = some (.bool (isF4 k), none) := by
  rw [Sys.step hS.h_interpreterref07_Failure, F_interpreterref07_Failure_eq]
  unfold F_interpreterref07_Failure isF4
  (try simp only [guard_merge, or_merge, and_merge, or_pick, and_pick, guard_or, guard_and]); simp only [to_ob]
  by_cases h3 : k = 3
  · subst h3; simp only [go_sem, ↓reduceIte, reduceCtorEq, upd_ne, back_new (no_at), Nat.reduceAdd, Nat.reduceEqDiff, Nat.reduceMul, Nat.reduceSub, Nat.reduceLeDiff, Nat.reduceLT, Int.reduceToNat, Int.reduceLE, Int.reduceLT, Int.reduceEq, UInt8.reduceOfNat]
  by_cases h4 : k = 4
  · subst h4; simp only [go_sem, ↓reduceIte, reduceCtorEq, upd_ne, back_new (no_at), Nat.reduceAdd, Nat.reduceEqDiff, Nat.reduceMul, Nat.reduceSub, Nat.reduceLeDiff, Nat.reduceLT, Int.reduceToNat, Int.reduceLE, Int.reduceLT, Int.reduceEq, UInt8.reduceOfNat]
  by_cases h5 : k = 5
  · subst h5; simp only [go_sem, ↓reduceIte, reduceCtorEq, upd_ne, back_new (no_at), Nat.reduceAdd, Nat.reduceEqDiff, Nat.reduceMul, Nat.reduceSub, Nat.reduceLeDiff, Nat.reduceLT, Int.reduceToNat, Int.reduceLE, Int.reduceLT, Int.reduceEq, UInt8.reduceOfNat]
  by_cases h11 : k = 11
  · subst h11; simp only [go_sem, ↓reduceIte, reduceCtorEq, upd_ne, back_new (no_at), Nat.reduceAdd, Nat.reduceEqDiff, Nat.reduceMul, Nat.reduceSub, Nat.reduceLeDiff, Nat.reduceLT, Int.reduceToNat, Int.reduceLE, Int.reduceLT, Int.reduceEq, UInt8.reduceOfNat]
  by_cases h12 : k = 12
  · subst h12; simp only [go_sem, ↓reduceIte, reduceCtorEq, upd_ne, back_new (no_at), Nat.reduceAdd, Nat.reduceEqDiff, Nat.reduceMul, Nat.reduceSub, Nat.reduceLeDiff, Nat.reduceLT, Int.reduceToNat, Int.reduceLE, Int.reduceLT, Int.reduceEq, UInt8.reduceOfNat]
  simp only [go_sem, ↓reduceIte, reduceCtorEq, upd_ne, back_new (no_at), Nat.reduceAdd, Nat.reduceEqDiff, Nat.reduceMul, Nat.reduceSub, Nat.reduceLeDiff, Nat.reduceLT, Int.reduceToNat, Int.reduceLE, Int.reduceLT, Int.reduceEq, UInt8.reduceOfNat, h3, h4, h5, h11, h12]
theorem ev_rfailure6 (k c r : Int) (d : List UInt8) : S.ev (n + 1) id_interpreterref08_Failure [msgLV k c r d] none = some (.bool (isF6 k), none) := by
  rw [Sys.step hS.h_interpreterref08_Failure, F_interpreterref08_Failure_eq]
  unfold F_interpreterref08_Failure isF6
  (try simp only [guard_merge, or_merge, and_merge, or_pick, and_pick, guard_or, guard_and]); simp only [to_ob]
  simp only [go_sem, ↓reduceIte, reduceCtorEq, upd_ne, back_new (no_at), Nat.reduceAdd, Nat.reduceEqDiff, Nat.reduceMul, Nat.reduceSub, Nat.reduceLeDiff, Nat.reduceLT, Int.reduceToNat, Int.reduceLE, Int.reduceLT, Int.reduceEq, UInt8.reduceOfNat]
  rw [← Bool.decide_and, show decide (0 < k ∧ k < 128) = decide (1 ≤ k ∧ k ≤ 127) from decide_eq_decide.2 (by omega)]
theorem ev_rcarry6 {k c r : Int} {d : List UInt8} {mt4 mt6 : Int} {a b : List UInt8} {p q : Int} (hd : d.length ≤ 100000) (hr : 0 ≤ r ∧ r < 4294967296) (ha : a.length = 16) (hb : b.length = 16) :
    S.ev (n + 7) id_interpreterref15_Carry6 [msgLV k c r d, .int .i64 mt4, .int .i64 mt6, .agg [.bytes a, .int .i64 p], .agg [.bytes b, .int .i64 q]] none = some (carO (ca6 k c r d mt4 mt6 a b p q), none) := by
  rw [Sys.step hS.h_interpreterref15_Carry6, F_interpreterref15_Carry6_eq]
  unfold F_interpreterref15_Carry6
  have h1 := ev_rinside4 hS (n + 2) d (by omega)
  have hf := ev_rfailure4 hS (n + 5) k c r d
  unfold ca6
  (try simp only [guard_merge, or_merge, and_merge, or_pick, and_pick, guard_or, guard_and]); simp only [to_ob]
  by_cases k0 : iK4 d = 0
  case neg =>
    unfold iLV4 iC4 at h1
    rw [if_neg k0, if_neg k0] at h1
    rw [if_pos (.inl k0)]
    simp only [go_sem, ↓reduceIte, reduceCtorEq, upd_ne, back_new (no_at), Nat.reduceAdd, Nat.reduceEqDiff, Nat.reduceMul, Nat.reduceSub, Nat.reduceLeDiff, Nat.reduceLT, Int.reduceToNat, Int.reduceLE, Int.reduceLT, Int.reduceEq, UInt8.reduceOfNat, List.getElem?_map, Int.toNat_natCast, h1, k0, carO]
  have hI := iK4_zero.1 k0
  have hC : iC4 d = ((wAt d 2 - n4 d : Nat) : Int) := by unfold iC4; rw [if_pos k0]
  have hL : iLV4 d = ip4LV (bAt d 1) (wAt d 4) (bAt d 8) (bAt d 9) (pat4 d) (pdf4 d) (pmo4 d) (pfr4 d) (pto4 d) (pop4 d) (pda4 d) := by unfold iLV4; rw [if_pos k0]
  have hfr := hI.fr
  have hto := hI.to
  have hop := hI.op
  have hn20 := hI.hn
  have hnl := hI.hl
  have hna := hI.ha
  have hdl := pda4_len d
  have hat := hI.at
  have hb1 := bAt_le d 1
  have hb8 := bAt_le d 8
  have hw4 := wAt_le d 4
  have hw2 := wAt_le d 2
  rw [hC, hL, k0] at h1
  cases hk : isF4 k with
  | false =>
    rw [hk] at hf
    rw [if_pos (.inr rfl)]
    simp only [go_sem, ↓reduceIte, reduceCtorEq, upd_ne, back_new (no_at), Nat.reduceAdd, Nat.reduceEqDiff, Nat.reduceMul, Nat.reduceSub, Nat.reduceLeDiff, Nat.reduceLT, Int.reduceToNat, Int.reduceLE, Int.reduceLT, Int.reduceEq, UInt8.reduceOfNat, List.getElem?_map, Int.toNat_natCast, h1, hf, hfr, hto, carO]
  | true =>
    rw [hk] at hf
    rw [if_neg (by simp [k0])]
    have e1 : IntKind.i64.wrap (20 + ((pop4 d).length : Int)) = ((n4 d : Nat) : Int) := by rw [wrap_id (by omega) (by omega)]; omega
    have e2 : IntKind.i64.wrap (((n4 d : Nat) : Int) + ((wAt d 2 - n4 d : Nat) : Int)) = ((wAt d 2 : Nat) : Int) := by rw [wrap_id (by omega) (by omega)]; omega
    have hT := ev_rto6 hS (n + 3) k c r mt4 mt6 (wAt d 2 : Nat) d hr
    have hq' := ev_rquote6 hS n (tos := (bAt d 1 : Nat)) (id := (wAt d 4 : Nat)) (ttl := (bAt d 8 : Nat)) (pt := (bAt d 9 : Nat)) (at' := pat4 d) (df := pdf4 d) (mo := pmo4 d) (fr := pfr4 d) (to := pto4 d) (op := pop4 d) (da := pda4 d) (a := a) (b := b) (claim := wAt d 2 - n4 d) (p := p) (q := q) hfr hto ha hb (by omega) (by omega) (by omega) hat (by omega) (by omega)
    unfold rq6R at hq'
    generalize q6K (bAt d 9 : Nat) (pat4 d) (pmo4 d) (wAt d 2 - n4 d) p q = K at *
    generalize hQ : q6B (bAt d 1 : Nat) (wAt d 4 : Nat) (bAt d 8 : Nat) (bAt d 9 : Nat) (pat4 d) (pmo4 d) (pfr4 d) (pto4 d) (pda4 d) a b (wAt d 2 - n4 d) p q = Q at *
    by_cases kk : K = 0
    · subst kk
      rw [if_pos rfl] at hq'
      rw [if_neg (by simp)]
      cases hX : to6S k c r mt4 mt6 (wAt d 2 : Nat) with
      | none =>
        rw [hX] at hT
        unfold msgO at hT
        simp only [go_sem, ↓reduceIte, reduceCtorEq, upd_ne, back_new (no_at), Nat.reduceAdd, Nat.reduceEqDiff, Nat.reduceMul, Nat.reduceSub, Nat.reduceLeDiff, Nat.reduceLT, Int.reduceToNat, Int.reduceLE, Int.reduceLT, Int.reduceEq, UInt8.reduceOfNat, List.getElem?_map, Int.toNat_natCast, h1, hf, hfr, hto, ha, hb, e1, e2, hT, hq', carO, Option.map_none]
      | some x =>
        obtain ⟨k', c', r'⟩ := x
        rw [hX] at hT
        unfold msgO at hT
        by_cases hl : Q.length ≤ 1232
        · have hl' : ¬ (1232 : Int) < (Q.length : Int) := by omega
          rw [List.take_of_length_le hl]
          simp only [go_sem, ↓reduceIte, reduceCtorEq, upd_ne, back_new (no_at), Nat.reduceAdd, Nat.reduceEqDiff, Nat.reduceMul, Nat.reduceSub, Nat.reduceLeDiff, Nat.reduceLT, Int.reduceToNat, Int.reduceLE, Int.reduceLT, Int.reduceEq, UInt8.reduceOfNat, List.getElem?_map, Int.toNat_natCast, h1, hf, hfr, hto, ha, hb, e1, e2, hT, hq', hl', carO, Option.map_some, Nat.sub_zero, List.drop_zero]
        · have hl' : (1232 : Int) < (Q.length : Int) := by omega
          have hl2 : 1232 ≤ Q.length := by omega
          simp only [go_sem, ↓reduceIte, reduceCtorEq, upd_ne, back_new (no_at), Nat.reduceAdd, Nat.reduceEqDiff, Nat.reduceMul, Nat.reduceSub, Nat.reduceLeDiff, Nat.reduceLT, Int.reduceToNat, Int.reduceLE, Int.reduceLT, Int.reduceEq, UInt8.reduceOfNat, List.getElem?_map, Int.toNat_natCast, h1, hf, hfr, hto, ha, hb, e1, e2, hT, hq', hl', hl2, carO, Option.map_some, Nat.sub_zero, List.drop_zero]
    · rw [if_neg kk] at hq'
      rw [if_pos kk]
      cases hX : to6S k c r mt4 mt6 (wAt d 2 : Nat) with
      | none =>
        rw [hX] at hT
        unfold msgO at hT
        simp only [go_sem, ↓reduceIte, reduceCtorEq, upd_ne, back_new (no_at), Nat.reduceAdd, Nat.reduceEqDiff, Nat.reduceMul, Nat.reduceSub, Nat.reduceLeDiff, Nat.reduceLT, Int.reduceToNat, Int.reduceLE, Int.reduceLT, Int.reduceEq, UInt8.reduceOfNat, List.getElem?_map, Int.toNat_natCast, h1, hf, hfr, hto, ha, hb, e1, e2, hT, hq', kk, carO]
      | some x =>
        obtain ⟨k', c', r'⟩ := x
        rw [hX] at hT
        unfold msgO at hT
        simp only [go_sem, ↓reduceIte, reduceCtorEq, upd_ne, back_new (no_at), Nat.reduceAdd, Nat.reduceEqDiff, Nat.reduceMul, Nat.reduceSub, Nat.reduceLeDiff, Nat.reduceLT, Int.reduceToNat, Int.reduceLE, Int.reduceLT, Int.reduceEq, UInt8.reduceOfNat, List.getElem?_map, Int.toNat_natCast, h1, hf, hfr, hto, ha, hb, e1, e2, hT, hq', kk, carO]
theorem ev_rcarry4 {k c r : Int} {d : List UInt8} {mt4 mt6 : Int} {a b : List UInt8} {p q : Int} (hd : d.length ≤ 100000) (hr : 0 ≤ r ∧ r < 4294967296) (ha : a.length = 4) (hb : b.length = 4) :
    S.ev (n + 7) id_interpreterref15_Carry4 [msgLV k c r d, .int .i64 mt4, .int .i64 mt6, .agg [.bytes a, .int .i64 p], .agg [.bytes b, .int .i64 q]] none = some (carO (ca4 k c r d mt4 mt6 a b p q), none) := by
  rw [Sys.step hS.h_interpreterref15_Carry4, F_interpreterref15_Carry4_eq]
  unfold F_interpreterref15_Carry4
  have h1 := ev_rinside6 hS (n + 2) d (by omega)
  have hf := ev_rfailure6 hS (n + 5) k c r d
  unfold ca4
  (try simp only [guard_merge, or_merge, and_merge, or_pick, and_pick, guard_or, guard_and]); simp only [to_ob]
  by_cases k0 : iK6 d = 0
  case neg =>
    unfold iLV6 iC6 at h1
    rw [if_neg k0, if_neg k0] at h1
    rw [if_pos (.inl k0)]
    simp only [go_sem, ↓reduceIte, reduceCtorEq, upd_ne, back_new (no_at), Nat.reduceAdd, Nat.reduceEqDiff, Nat.reduceMul, Nat.reduceSub, Nat.reduceLeDiff, Nat.reduceLT, Int.reduceToNat, Int.reduceLE, Int.reduceLT, Int.reduceEq, UInt8.reduceOfNat, List.getElem?_map, Int.toNat_natCast, h1, k0, carO]
  have hI := iK6_zero.1 k0
  have hfr := hI.fr
  have hto := hI.to
  have hdl := d6_le d
  have hat := a6_le d
  have hid := i6_le d
  have hcl := pcl6_le d
  have hb7 := bAt_le d 7
  rw [hI.cl, hI.lv, k0] at h1
  cases hk : isF6 k with
  | false =>
    rw [hk] at hf
    rw [if_pos (.inr rfl)]
    simp only [go_sem, ↓reduceIte, reduceCtorEq, upd_ne, back_new (no_at), Nat.reduceAdd, Nat.reduceEqDiff, Nat.reduceMul, Nat.reduceSub, Nat.reduceLeDiff, Nat.reduceLT, Int.reduceToNat, Int.reduceLE, Int.reduceLT, Int.reduceEq, UInt8.reduceOfNat, List.getElem?_map, Int.toNat_natCast, h1, hf, hfr, hto, carO]
  | true =>
    rw [hk] at hf
    rw [if_neg (by simp [k0])]
    have hT := ev_rto4 hS (n + 3) k c r mt4 mt6 d hr
    have hq' := ev_rquote4 hS n (cl := pcl6 d) (fl := pfl6 d) (ho := (bAt d 7 : Nat)) (fr := pfr6 d) (to := pto6 d) (ex := (k6 d).2.1) (fg := f6 d) (id := i6 d) (at' := a6 d) (mo := m6 d) (pt := p6 d) (da := d6 d) (a := a) (b := b) (claim := c6 d) (p := p) (q := q) hfr hto ha hb hcl (by omega) hid hat hdl.1 hdl.2
    unfold rq4R at hq'
    generalize q4K (p6 d) (a6 d) (c6 d) p q = K at *
    generalize q4B (pcl6 d) (bAt d 7 : Nat) (p6 d) (a6 d) (f6 d) (m6 d) (i6 d) (pfr6 d) (pto6 d) (d6 d) a b (c6 d) p q = Q at *
    by_cases kk : K = 0
    · subst kk
      rw [if_pos rfl] at hq'
      rw [if_neg (by simp)]
      cases hX : to4S k c r mt4 mt6 with
      | none =>
        rw [hX] at hT
        unfold msgO at hT
        simp only [go_sem, ↓reduceIte, reduceCtorEq, upd_ne, back_new (no_at), Nat.reduceAdd, Nat.reduceEqDiff, Nat.reduceMul, Nat.reduceSub, Nat.reduceLeDiff, Nat.reduceLT, Int.reduceToNat, Int.reduceLE, Int.reduceLT, Int.reduceEq, UInt8.reduceOfNat, List.getElem?_map, Int.toNat_natCast, h1, hf, hfr, hto, ha, hb, hT, hq', carO, Option.map_none]
      | some x =>
        have hs := to4S_sid hX
        unfold sid at hs
        obtain ⟨k', c', r'⟩ := x
        rw [hX] at hT
        unfold msgO at hT
        have e3 : IntKind.i64.wrap (mt4 - 28) = mt4 - 28 := wrap_id (by omega) (by omega)
        by_cases hm : 548 < mt4 - 28
        · rw [show (min 576 mt4 - 28).toNat = 548 by omega]
          by_cases hl : Q.length ≤ 548
          · have hl' : ¬ (548 : Int) < (Q.length : Int) := by omega
            rw [List.take_of_length_le hl]
            simp only [go_sem, ↓reduceIte, reduceCtorEq, upd_ne, back_new (no_at), Nat.reduceAdd, Nat.reduceEqDiff, Nat.reduceMul, Nat.reduceSub, Nat.reduceLeDiff, Nat.reduceLT, Int.reduceToNat, Int.reduceLE, Int.reduceLT, Int.reduceEq, UInt8.reduceOfNat, List.getElem?_map, Int.toNat_natCast, h1, hf, hfr, hto, ha, hb, e3, hT, hq', hm, hl', carO, Option.map_some, Nat.sub_zero, List.drop_zero]
          · have hl' : (548 : Int) < (Q.length : Int) := by omega
            have hl2 : 548 ≤ Q.length := by omega
            simp only [go_sem, ↓reduceIte, reduceCtorEq, upd_ne, back_new (no_at), Nat.reduceAdd, Nat.reduceEqDiff, Nat.reduceMul, Nat.reduceSub, Nat.reduceLeDiff, Nat.reduceLT, Int.reduceToNat, Int.reduceLE, Int.reduceLT, Int.reduceEq, UInt8.reduceOfNat, List.getElem?_map, Int.toNat_natCast, h1, hf, hfr, hto, ha, hb, e3, hT, hq', hm, hl', hl2, carO, Option.map_some, Nat.sub_zero, List.drop_zero]
        · rw [show (min 576 mt4 - 28).toNat = (mt4 - 28).toNat by omega]
          obtain ⟨R, hR⟩ := Int.eq_ofNat_of_zero_le (show 0 ≤ mt4 - 28 by omega)
          rw [hR] at e3 hm ⊢
          rw [Int.toNat_natCast]
          have e4 : IntKind.i64.wrap (mt4 - 28) = (R : Int) := by rw [hR]; exact e3
          by_cases hl : Q.length ≤ R
          · have hl' : ¬ (R : Int) < (Q.length : Int) := by omega
            rw [List.take_of_length_le hl]
            simp only [go_sem, ↓reduceIte, reduceCtorEq, upd_ne, back_new (no_at), Nat.reduceAdd, Nat.reduceEqDiff, Nat.reduceMul, Nat.reduceSub, Nat.reduceLeDiff, Nat.reduceLT, Int.reduceToNat, Int.reduceLE, Int.reduceLT, Int.reduceEq, UInt8.reduceOfNat, List.getElem?_map, Int.toNat_natCast, h1, hf, hfr, hto, ha, hb, e4, hT, hq', hm, hl', carO, Option.map_some, Nat.sub_zero, List.drop_zero]
          · have hl' : (R : Int) < (Q.length : Int) := by omega
            have hl2 : R ≤ Q.length := by omega
            simp only [go_sem, ↓reduceIte, reduceCtorEq, upd_ne, back_new (no_at), Nat.reduceAdd, Nat.reduceEqDiff, Nat.reduceMul, Nat.reduceSub, Nat.reduceLeDiff, Nat.reduceLT, Int.reduceToNat, Int.reduceLE, Int.reduceLT, Int.reduceEq, UInt8.reduceOfNat, List.getElem?_map, Int.toNat_natCast, h1, hf, hfr, hto, ha, hb, e4, hT, hq', hm, hl', hl2, carO, Option.map_some, Nat.sub_zero, List.drop_zero]
    · rw [if_neg kk] at hq'
      rw [if_pos kk]
      cases hX : to4S k c r mt4 mt6 with
      | none =>
        rw [hX] at hT
        unfold msgO at hT
        simp only [go_sem, ↓reduceIte, reduceCtorEq, upd_ne, back_new (no_at), Nat.reduceAdd, Nat.reduceEqDiff, Nat.reduceMul, Nat.reduceSub, Nat.reduceLeDiff, Nat.reduceLT, Int.reduceToNat, Int.reduceLE, Int.reduceLT, Int.reduceEq, UInt8.reduceOfNat, List.getElem?_map, Int.toNat_natCast, h1, hf, hfr, hto, ha, hb, hT, hq', kk, carO]
      | some x =>
        obtain ⟨k', c', r'⟩ := x
        rw [hX] at hT
        unfold msgO at hT
        simp only [go_sem, ↓reduceIte, reduceCtorEq, upd_ne, back_new (no_at), Nat.reduceAdd, Nat.reduceEqDiff, Nat.reduceMul, Nat.reduceSub, Nat.reduceLeDiff, Nat.reduceLT, Int.reduceToNat, Int.reduceLE, Int.reduceLT, Int.reduceEq, UInt8.reduceOfNat, List.getElem?_map, Int.toNat_natCast, h1, hf, hfr, hto, ha, hb, hT, hq', kk, carO]
end
end Go.Ev

namespace Go.Ev
set_option linter.unusedSimpArgs false
set_option linter.unusedVariables false
set_option maxRecDepth 10000
set_option maxHeartbeats 8000000
section
variable {S : Sys} (hS : Has S) (n : Nat)
include hS
theorem ev_own4_ok {s : List UInt8} {tos i0 ttl pt : Int} {df mo : Bool} {fr to op da a : List UInt8} {k c r id id' : Int} {md : List UInt8} {mtu : Nat} {q : List UInt8}
    (hp : S.ev (n + 4) id_ip4_Parse [.str s] none = some (.tup [ip4LV tos i0 ttl pt 0 df mo fr to op da, .nili], none)) (hfr : fr.length = 4) (hto : to.length = 4) (ha : a.length = 4)
    (hk : isF4 k = true) (hc : 0 ≤ c ∧ c ≤ 255) (hr : 0 ≤ r ∧ r < 4294967296) (hm : S.ev (n + 4) id_class_Martian4 [.bytes fr] none = some (.bool false, none)) (hpt : ¬ pt = 1)
    (hmtu : 68 ≤ mtu ∧ mtu ≤ 65535) (hl : 20 + op.length + da.length ≤ s.length) (hs : s.length ≤ 100000) (hop : op.length ≤ 40)
    (hbo : begO (20 + op.length + da.length) (20 + op.length) ((min 576 mtu : Nat) - 28 : Int) = true) (hq : (s.take (20 + op.length + da.length)).take (begN (20 + op.length + da.length) (20 + op.length) ((min 576 mtu : Nat) - 28 : Int)) = q)
    (hid : bitsOf .and .i64 id 65535 = id') (hi : I64 id')
    (hw : why4 0 id' 64 1 0 false [] (im4B k c r q) = 0) :
    S.ev (n + 5) id_fault_Own4 [msgLV k c r md, .str s, .bytes a, .int .i64 id, .int .i64 (mtu : Int)] none = some (.tup [.str (by4 0 id' 64 1 0 false false a fr [] (im4B k c r q)), .bool true], none) := by
  rw [Sys.step hS.h_fault_Own4, F_fault_Own4_eq]
  unfold F_fault_Own4
  have hk' : 0 ≤ k ∧ k ≤ 255 := by unfold isF4 at hk; have := of_decide_eq_true hk; omega
  have hf := ev_failure4 hS (n + 3) k c r md
  rw [hk] at hf
  have hql : q.length ≤ 100000 := by rw [← hq, List.length_take, List.length_take]; omega
  have hB := ev_icmp4B hS (n + 1) (k := k) (c := c) (r := r) (d := q) hk' hc hr hql
  have hbl : (im4B k c r q).length = 8 + q.length := by unfold im4B; simp only [List.length_append, beB_len]; omega
  have hby := ev_bytes4 hS (n + 1) (tos := 0) (id := id') (ttl := 64) (pt := 1) (at' := 0) (df := false) (mo := false) (fr := a) (to := fr) (op := []) (da := im4B k c r q) ⟨by unfold I64; omega, hi, by unfold I64; omega, by unfold I64; omega, by unfold I64; omega, ha, hfr, by simp, by omega⟩
  unfold by4R at hby
  rw [if_pos hw, hw] at hby
  have hg := ev_beginning hS (n + 3) (s.take (20 + op.length + da.length)) (20 + op.length) ((min 576 mtu : Nat) - 28 : Int) (by rw [List.length_take]; omega) (by omega)
  rw [show (s.take (20 + op.length + da.length)).length = 20 + op.length + da.length by rw [List.length_take]; omega, hbo, hq] at hg
  generalize im4B k c r q = IB at *
  have b1 : ¬ (mtu : Int) < 68 := by omega
  have b2 : ¬ 65535 < (mtu : Int) := by omega
  have e1 : IntKind.i64.wrap (20 + (op.length : Int)) = ((20 + op.length : Nat) : Int) := by rw [wrap_id (by omega) (by omega)]; omega
  have e2 : IntKind.i64.wrap (((20 + op.length : Nat) : Int) + (da.length : Int)) = ((20 + op.length + da.length : Nat) : Int) := by rw [wrap_id (by omega) (by omega)]; omega
  have hmm : (if (mtu : Int) < 576 then (mtu : Int) else 576) = ((min 576 mtu : Nat) : Int) := by split <;> omega
  have e3 : IntKind.i64.wrap (((min 576 mtu : Nat) : Int) - 20) = ((min 576 mtu : Nat) : Int) - 20 := wrap_id (by omega) (by omega)
  have e4 : IntKind.i64.wrap (((min 576 mtu : Nat) : Int) - 20 - 8) = ((min 576 mtu : Nat) : Int) - 28 := by rw [wrap_id (by omega) (by omega)]; omega
  (try simp only [guard_merge, or_merge, and_merge, or_pick, and_pick, guard_or, guard_and]); simp only [to_ob]
  simp only [go_sem, ↓reduceIte, reduceCtorEq, upd_ne, back_new (no_at), Nat.reduceAdd, Nat.reduceEqDiff, Nat.reduceMul, Nat.reduceSub, Nat.reduceLeDiff, Nat.reduceLT, Int.reduceToNat, Int.reduceLE, Int.reduceLT, Int.reduceEq, UInt8.reduceOfNat, List.getElem?_map, Int.toNat_natCast, pMinmax, pMinmax2, Option.bind_some, Bool.false_eq_true, hp, hf, hm, hpt, hfr, hto, ha, b1, b2, e1, e2, e3, e4, hmm, hl, hg, hB, hid, hby, fE, Nat.sub_zero, List.drop_zero]
end
end Go.Ev

namespace Go.Ev
set_option linter.unusedSimpArgs false
set_option linter.unusedVariables false
set_option maxRecDepth 10000
set_option maxHeartbeats 8000000
theorem g_ok {k : Nat} (hk : k ≤ 5000) : Ok4 0 0 9 17 0 false [] (List.replicate k 120) := ⟨by omega, by omega, by omega, by omega, by omega, rfl, by simp, by simp, by simp, by rw [List.length_replicate]; simp; omega⟩
theorem g_fit {k : Nat} (hk : k ≤ 5000) : FitIp4 0 0 9 17 0 [192, 0, 2, 1] [192, 0, 2, 2] [] (List.replicate k 120) := ⟨by unfold I64; omega, by unfold I64; omega, by unfold I64; omega, by unfold I64; omega, by unfold I64; omega, rfl, rfl, by simp, by rw [List.length_replicate]; omega⟩
theorem inside_by4 {tos id ttl pt at' : Int} {df mo : Bool} {fr to op da : List UInt8} (ok : Ok4 tos id ttl pt at' mo op da) (hfr : fr.length = 4) (hto : to.length = 4) {j : Nat} (hj : 20 + op.length + min 8 da.length ≤ j) (hjl : j ≤ 20 + op.length + da.length) :
    iK4 ((by4 tos id ttl pt at' df mo fr to op da).take j) = 0 ∧ iC4 ((by4 tos id ttl pt at' df mo fr to op da).take j) = (da.length : Int) ∧
    iLV4 ((by4 tos id ttl pt at' df mo fr to op da).take j) = ip4LV tos id ttl pt at' df mo fr to op (da.take (j - (20 + op.length))) := by
  obtain ⟨p1, p2, p3, p4⟩ := parse_by4 (df := df) ok hfr hto []
  have hlen := by4_len (tos := tos) (id := id) (ttl := ttl) (pt := pt) (at' := at') (df := df) (mo := mo) (op := op) (da := da) hfr hto
  rw [List.append_nil] at p1 p2 p3 p4
  generalize by4 tos id ttl pt at' df mo fr to op da = B at *
  obtain ⟨c1, c2, c3⟩ := inside_cut p1 (j := j) (by rw [p2, p3, show 20 + op.length + da.length - (20 + op.length) = da.length by omega]; exact hj) (by omega)
  refine ⟨c1, by rw [c2, p2, p3]; omega, ?_⟩
  rw [c3, p2]
  unfold pLV4 at p4
  rw [if_pos (pK4_zero.2 p1)] at p4
  simp only [LV.agg.injEq, List.cons.injEq, LV.int.injEq, LV.bool.injEq, LV.bytes.injEq, LV.str.injEq, true_and, and_true] at p4
  obtain ⟨q1, q2, q3, q4, q5, q6, q7, q8, q9, q10, q11⟩ := p4
  rw [q1, q2, q3, q4, q5, q6, q7, q8, q9, q10, q11]
section
variable {S : Sys} (hS : Has S) (n : Nat)
include hS
theorem ev_parse_by4 {tos id ttl pt at' : Int} {df mo : Bool} {fr to op da : List UInt8} (ok : Ok4 tos id ttl pt at' mo op da) (hfr : fr.length = 4) (hto : to.length = 4) :
    S.ev (n + 4) id_ip4_Parse [.str (by4 tos id ttl pt at' df mo fr to op da)] none = some (.tup [ip4LV tos id ttl pt at' df mo fr to op da, .nili], none) ∧
    S.ev (n + 4) id_interpreterref03_Parse [.str (by4 tos id ttl pt at' df mo fr to op da)] none = some (.tup [ip4LV tos id ttl pt at' df mo fr to op da, .int .i64 0], none) := by
  obtain ⟨p1, p2, p3, p4⟩ := parse_by4 (df := df) ok hfr hto []
  have hlen := by4_len (tos := tos) (id := id) (ttl := ttl) (pt := pt) (at' := at') (df := df) (mo := mo) (op := op) (da := da) hfr hto
  have k1 := ok.kop
  have k2 := ok.kall
  have k3 := ok.kat
  rw [List.append_nil] at p1 p2 p3 p4
  constructor
  · rw [ev_parse4 hS n _ (by omega), p4, pK4_zero.2 p1]; rfl
  · rw [ev_rparse3 hS n _ (by omega), p4, pK4_zero.2 p1]
end
end Go.Ev

namespace Go.Ev
set_option linter.unusedSimpArgs false
set_option linter.unusedVariables false
set_option maxRecDepth 4000
set_option maxHeartbeats 4000000
section
variable {S : Sys} (hS : Has S) (n : Nat)
include hS
theorem ev_rbytes3_ff {tos id ttl pt at' : Int} {fr to op da : List UInt8} (hf : FitIp4 tos id ttl pt at' fr to op da) (hd : da.length ≤ 400000) :
    S.ev (n + 3) id_interpreterref03_Bytes [ip4LV tos id ttl pt at' false false fr to op da] none = some (.tup [.str (by4R tos id ttl pt at' false false fr to op da), .int .i64 (why4 tos id ttl pt at' false op da)], none) := by
  rw [Sys.step hS.h_interpreterref03_Bytes, F_interpreterref03_Bytes_eq]
  unfold F_interpreterref03_Bytes F_interpreterref03_Bytes_k3 F_interpreterref03_Bytes_k2 F_interpreterref03_Bytes_k4 F_interpreterref03_Bytes_k1
  have hfr := hf.hfr
  have hto := hf.hto
  have hw := ev_Why3 hS (n) (tos := tos) (id := id) (ttl := ttl) (pt := pt) (at' := at') (df := false) (mo := false) hfr hto hf.hop hf.hda
  (try simp only [guard_merge, or_merge, and_merge, or_pick, and_pick, guard_or, guard_and]); simp only [to_ob]
  unfold by4R
  by_cases c : why4 tos id ttl pt at' false op da = 0
  · have ok := why4_zero.1 c
    obtain ⟨o1, o2, o3, o4, o5, o6, o7, o8, o9, o10⟩ := ok
    rw [c] at hw
    obtain ⟨tos, rfl⟩ := Int.eq_ofNat_of_zero_le o1.1
    obtain ⟨ttl, rfl⟩ := Int.eq_ofNat_of_zero_le o2.1
    obtain ⟨pt, rfl⟩ := Int.eq_ofNat_of_zero_le o3.1
    obtain ⟨id, rfl⟩ := Int.eq_ofNat_of_zero_le o4.1
    obtain ⟨at', rfl⟩ := Int.eq_ofNat_of_zero_le o5.1
    have e1 : IntKind.i64.wrap (Int.tdiv (at' : Int) 8) = ((at' / 8 : Nat) : Int) := by
      rw [show Int.tdiv (at' : Int) 8 = ((at' / 8 : Nat) : Int) from rfl, wrap_id (by omega) (by omega)]
    have e2 : IntKind.i64.wrap (20 + (op.length : Int)) = ((20 + op.length : Nat) : Int) := by rw [wrap_id (by omega) (by omega)]; omega
    have e3 : IntKind.i64.wrap (Int.tdiv ((20 + op.length : Nat) : Int) 4) = (((20 + op.length) / 4 : Nat) : Int) := by
      rw [show Int.tdiv ((20 + op.length : Nat) : Int) 4 = (((20 + op.length) / 4 : Nat) : Int) from rfl, wrap_id (by omega) (by omega)]
    have e4 : IntKind.i64.wrap (64 + (((20 + op.length) / 4 : Nat) : Int)) = ((64 + (20 + op.length) / 4 : Nat) : Int) := by rw [wrap_id (by omega) (by omega)]; omega
    have e5 : IntKind.i64.wrap (((20 + op.length : Nat) : Int) + (da.length : Int)) = ((20 + op.length + da.length : Nat) : Int) := by rw [wrap_id (by omega) (by omega)]; omega
    have d1 := div256 (x := 20 + op.length + da.length) (by omega)
    have d2 := div256 (x := id) (by omega)
    have f1 : IntKind.i64.wrap (((at' / 8 : Nat) : Int) + 8192) = ((at' / 8 + 8192 : Nat) : Int) := by rw [wrap_id (by omega) (by omega)]; omega
    have f2 : IntKind.i64.wrap (((at' / 8 : Nat) : Int) + 16384) = ((at' / 8 + 16384 : Nat) : Int) := by rw [wrap_id (by omega) (by omega)]; omega
    have f3 : IntKind.i64.wrap (((at' / 8 + 8192 : Nat) : Int) + 16384) = ((at' / 8 + 8192 + 16384 : Nat) : Int) := by rw [wrap_id (by omega) (by omega)]; omega
    have d3 := div256 (x := at' / 8) (by omega)
    have d4 := div256 (x := at' / 8 + 8192) (by omega)
    have d5 := div256 (x := at' / 8 + 16384) (by omega)
    have d6 := div256 (x := at' / 8 + 8192 + 16384) (by omega)
    have hx := sumS_le (hd4 tos id ttl pt at' false false op da ++ (fr ++ (to ++ op)))
    have hx : 0 ≤ x4 tos id ttl pt at' false false fr to op da ∧ x4 tos id ttl pt at' false false fr to op da ≤ 65535 := hx
    have hat4 : at4 at' false false = at' / 8 := by unfold at4; rw [Int.toNat_natCast, if_neg Bool.false_ne_true, if_neg Bool.false_ne_true]; omega
    obtain ⟨A, hAA⟩ : ∃ A, A = at' / 8 := ⟨_, rfl⟩
    rw [← hAA] at hat4
    simp only [← hAA] at e1 f1 f2 f3 d3 d4 d5 d6
    simp only [go_sem, ↓reduceIte, reduceCtorEq, upd_ne, back_new (no_at), Nat.reduceAdd, Nat.reduceEqDiff, Nat.reduceMul, Nat.reduceSub, Nat.reduceLeDiff, Nat.reduceLT, Int.reduceToNat, Int.reduceLE, Int.reduceLT, Int.reduceEq, UInt8.reduceOfNat, hw, c, hfr, hto, e1, e2, e3, e4, e5, f1, f2, f3, d1, d2, d3, mod256, u8w, u8_ofNat_mod, e_cBslM, u8_lt, UInt8.ofNat_toNat, cBytes_eq]
    generalize hH : ([UInt8.ofNat (64 + (20 + op.length) / 4), UInt8.ofNat tos, UInt8.ofNat ((20 + op.length + da.length) / 256), UInt8.ofNat (20 + op.length + da.length), UInt8.ofNat (id / 256), UInt8.ofNat id, UInt8.ofNat (A / 256), UInt8.ofNat A, UInt8.ofNat ttl, UInt8.ofNat pt, 0, 0] : List UInt8) = H
    have hHl : H.length = 12 := by rw [← hH]; rfl
    refine while_rule (fun k q => ∃ i : Nat, i + k = 4 ∧ q = ([.arr 70 (1 + i) [] 0 0 (12 + i), .int .i64 (i : Int)], upd noSlots 70 (.obj (1 + i) (.bytes (H ++ fr.take i))))) 4 ⟨0, rfl, by simp⟩ ?_
    rintro k q ⟨i, hi, rfl⟩
    simp only [go_sem, ↓reduceIte, reduceCtorEq, upd_ne, back_new (no_at), Nat.reduceAdd, Nat.reduceEqDiff, Nat.reduceMul, Nat.reduceSub, Nat.reduceLeDiff, Nat.reduceLT, Int.reduceToNat, Int.reduceLE, Int.reduceLT, Int.reduceEq, UInt8.reduceOfNat]
    refine nxt_ite (fun h => ?_) (fun h => ?_)
    · have hlt : i < fr.length := by omega
      obtain ⟨b, hb⟩ : ∃ b, fr[i]? = some b := ⟨fr[i], by simp [hlt]⟩
      have htk : fr.take (i + 1) = fr.take i ++ [b] := by rw [List.take_add_one, hb]; rfl
      have hlen : (H ++ fr.take i).length = 12 + i := by rw [List.length_append, List.length_take]; omega
      have hA := wApp_arr (d := 81) (t := 70) (g := 1 + i) (sl := noSlots) (b := H ++ fr.take i) (s := [b]) (by simp; omega)
      rw [hlen] at hA
      simp only [List.map_cons, List.map_nil, byteLV, List.length_cons, List.length_nil] at hA
      have i1 : IntKind.i64.wrap ((i : Int) + 1) = ((i + 1 : Nat) : Int) := by rw [wrap_id (by omega) (by omega)]; omega
      have i2 : i < 4 := by omega
      simp only [go_sem, ↓reduceIte, reduceCtorEq, upd_ne, back_new (no_at), Nat.reduceAdd, Nat.reduceEqDiff, Nat.reduceMul, Nat.reduceSub, Nat.reduceLeDiff, Nat.reduceLT, Int.reduceToNat, Int.reduceLE, Int.reduceLT, Int.reduceEq, UInt8.reduceOfNat, List.getElem?_map, Int.toNat_natCast, hfr, hb, byteLV, hA, i1, i2]
      refine ⟨k - 1, by omega, i + 1, by omega, ?_⟩
      rw [htk, ← List.append_assoc, show 1 + (i + 1) = 1 + i + 1 by omega, show 12 + (i + 1) = 12 + i + 1 by omega]
    · obtain rfl : i = 4 := by omega
      have hf4 : fr.take 4 = fr := List.take_of_length_le (by omega)
      rw [hf4]
      simp only [go_sem, ↓reduceIte, reduceCtorEq, upd_ne, back_new (no_at), Nat.reduceAdd, Nat.reduceEqDiff, Nat.reduceMul, Nat.reduceSub, Nat.reduceLeDiff, Nat.reduceLT, Int.reduceToNat, Int.reduceLE, Int.reduceLT, Int.reduceEq, UInt8.reduceOfNat, Nxt, exIf]
      refine while_rule (fun k q => ∃ i : Nat, i + k = 4 ∧ q = ([.arr 70 (5 + i) [] 0 0 (16 + i), .int .i64 (i : Int)], upd noSlots 70 (.obj (5 + i) (.bytes (H ++ fr ++ to.take i))))) 4 ⟨0, rfl, by simp⟩ ?_
      rintro k q ⟨i, hi, rfl⟩
      simp only [go_sem, ↓reduceIte, reduceCtorEq, upd_ne, back_new (no_at), Nat.reduceAdd, Nat.reduceEqDiff, Nat.reduceMul, Nat.reduceSub, Nat.reduceLeDiff, Nat.reduceLT, Int.reduceToNat, Int.reduceLE, Int.reduceLT, Int.reduceEq, UInt8.reduceOfNat]
      refine nxt_ite (fun h => ?_) (fun h => ?_)
      · have hlt : i < to.length := by omega
        obtain ⟨b, hb⟩ : ∃ b, to[i]? = some b := ⟨to[i], by simp [hlt]⟩
        have htk : to.take (i + 1) = to.take i ++ [b] := by rw [List.take_add_one, hb]; rfl
        have hlen : (H ++ fr ++ to.take i).length = 16 + i := by rw [List.length_append, List.length_append, List.length_take]; omega
        have hA := wApp_arr (d := 92) (t := 70) (g := 5 + i) (sl := noSlots) (b := H ++ fr ++ to.take i) (s := [b]) (by rw [hlen]; simp; omega)
        rw [hlen] at hA
        simp only [List.map_cons, List.map_nil, byteLV, List.length_cons, List.length_nil] at hA
        have i1 : IntKind.i64.wrap ((i : Int) + 1) = ((i + 1 : Nat) : Int) := by rw [wrap_id (by omega) (by omega)]; omega
        have i2 : i < 4 := by omega
        simp only [go_sem, ↓reduceIte, reduceCtorEq, upd_ne, back_new (no_at), Nat.reduceAdd, Nat.reduceEqDiff, Nat.reduceMul, Nat.reduceSub, Nat.reduceLeDiff, Nat.reduceLT, Int.reduceToNat, Int.reduceLE, Int.reduceLT, Int.reduceEq, UInt8.reduceOfNat, List.getElem?_map, Int.toNat_natCast, hto, hb, byteLV, hA, i1, i2]
        refine ⟨k - 1, by omega, i + 1, by omega, ?_⟩
        rw [htk, ← List.append_assoc, show 5 + (i + 1) = 5 + i + 1 by omega, show 16 + (i + 1) = 16 + i + 1 by omega]
      · obtain rfl : i = 4 := by omega
        have ht4 : to.take 4 = to := List.take_of_length_le (by omega)
        rw [ht4]
        have hHf : (H ++ fr ++ to).length = 20 := by simp; omega
        have hB := wApp_str (d := 96) (t := 70) (g := 9) (sl := noSlots) (b := H ++ fr ++ to) (s := op) (by omega)
        rw [hHf] at hB
        simp only [go_sem, ↓reduceIte, reduceCtorEq, upd_ne, back_new (no_at), Nat.reduceAdd, Nat.reduceEqDiff, Nat.reduceMul, Nat.reduceSub, Nat.reduceLeDiff, Nat.reduceLT, Int.reduceToNat, Int.reduceLE, Int.reduceLT, Int.reduceEq, UInt8.reduceOfNat, Nxt, exIf, hB]
        obtain ⟨z, hz⟩ := Int.eq_ofNat_of_zero_le hx.1
        have hL : (H ++ fr ++ to ++ op).length = 20 + op.length := by rw [List.length_append]; omega
        have hsum : sumAt 0 (H ++ fr ++ to ++ op) = sumAt 0 (hd4 tos id ttl pt at' false false op da ++ (fr ++ (to ++ op))) := by
          rw [← hH, show hd4 tos id ttl pt at' false false op da = [UInt8.ofNat (64 + (20 + op.length) / 4), UInt8.ofNat tos, UInt8.ofNat ((20 + op.length + da.length) / 256), UInt8.ofNat (20 + op.length + da.length), UInt8.ofNat (id / 256), UInt8.ofNat id, UInt8.ofNat (A / 256), UInt8.ofNat A, UInt8.ofNat ttl, UInt8.ofNat pt] by unfold hd4; rw [hat4]; simp only [beB1, beB2, Int.toNat_natCast, List.cons_append, List.nil_append]]
          have hsz := sum_zeros (h := [UInt8.ofNat (64 + (20 + op.length) / 4), UInt8.ofNat tos, UInt8.ofNat ((20 + op.length + da.length) / 256), UInt8.ofNat (20 + op.length + da.length), UInt8.ofNat (id / 256), UInt8.ofNat id, UInt8.ofNat (A / 256), UInt8.ofNat A, UInt8.ofNat ttl, UInt8.ofNat pt]) (r := fr ++ (to ++ op)) (by simp only [List.length_cons, List.length_nil])
          simp only [List.cons_append, List.nil_append, List.append_assoc] at hsz ⊢
          exact hsz
        have ho := ev_rOf hS n (H ++ fr ++ to ++ op) (by omega)
        have ho : S.ev (n + 2) id_interpreterref02_Of [.str (H ++ fr ++ to ++ op)] none = some (.int .i64 (z : Int), none) := by
          rw [ho, hsum, ← hz]; unfold x4 sumS; exact rfl
        have hby : by4 tos id ttl pt at' false false fr to op da = ((H ++ fr ++ to ++ op).set 10 (UInt8.ofNat (z / 256))).set 11 (UInt8.ofNat z) ++ da := by
          unfold by4
          rw [hz, ← hH, show hd4 tos id ttl pt at' false false op da = [UInt8.ofNat (64 + (20 + op.length) / 4), UInt8.ofNat tos, UInt8.ofNat ((20 + op.length + da.length) / 256), UInt8.ofNat (20 + op.length + da.length), UInt8.ofNat (id / 256), UInt8.ofNat id, UInt8.ofNat (A / 256), UInt8.ofNat A, UInt8.ofNat ttl, UInt8.ofNat pt] by unfold hd4; rw [hat4]; simp only [beB1, beB2, Int.toNat_natCast, List.cons_append, List.nil_append]]
          simp only [beB2, Int.toNat_natCast, List.cons_append, List.nil_append, List.append_assoc, List.set_cons_succ, List.set_cons_zero]
        have d7 := div256 (x := z) (by omega)
        rw [hby]
        generalize H ++ fr ++ to ++ op = B at *
        have g10 : B[10]? = some B[10] := List.getElem?_eq_getElem (by omega)
        have g11 : (B.set 10 (UInt8.ofNat (z / 256)))[11]? = some B[11] := by rw [List.getElem?_set_ne (by omega)]; exact List.getElem?_eq_getElem (by omega)
        generalize B[10] = b10 at *
        generalize B[11] = b11 at *
        have l1 : 10 < 20 + op.length := by omega
        have l2 : 11 < 20 + op.length := by omega
        have l3 : (((B.set 10 (UInt8.ofNat (z / 256))).set 11 (UInt8.ofNat z))).take (20 + op.length) = (B.set 10 (UInt8.ofNat (z / 256))).set 11 (UInt8.ofNat z) := List.take_of_length_le (by simp; omega)
        have l4 : B.take (20 + op.length) = B := List.take_of_length_le (by omega)
        have l5 : 20 + op.length + da.length ≤ maxStr := by unfold maxStr; omega
        simp only [go_sem, ↓reduceIte, reduceCtorEq, upd_ne, back_new (no_at), Nat.reduceAdd, Nat.reduceEqDiff, Nat.reduceMul, Nat.reduceSub, Nat.reduceLeDiff, Nat.reduceLT, Int.reduceToNat, Int.reduceLE, Int.reduceLT, Int.reduceEq, UInt8.reduceOfNat, List.getElem?_map, Int.toNat_natCast, ho, hL, g10, g11, l1, l2, l3, l4, l5, byteLV, d7, mod256, u8w, u8_ofNat_mod, u8_lt, UInt8.ofNat_toNat, Nat.le_refl]
  · simp only [go_sem, ↓reduceIte, reduceCtorEq, upd_ne, back_new (no_at), Nat.reduceAdd, Nat.reduceEqDiff, Nat.reduceMul, Nat.reduceSub, Nat.reduceLeDiff, Nat.reduceLT, Int.reduceToNat, Int.reduceLE, Int.reduceLT, Int.reduceEq, UInt8.reduceOfNat, hw, c, hfr, hto]
theorem ev_rbytes3_ft {tos id ttl pt at' : Int} {fr to op da : List UInt8} (hf : FitIp4 tos id ttl pt at' fr to op da) (hd : da.length ≤ 400000) :
    S.ev (n + 3) id_interpreterref03_Bytes [ip4LV tos id ttl pt at' false true fr to op da] none = some (.tup [.str (by4R tos id ttl pt at' false true fr to op da), .int .i64 (why4 tos id ttl pt at' true op da)], none) := by
  rw [Sys.step hS.h_interpreterref03_Bytes, F_interpreterref03_Bytes_eq]
  unfold F_interpreterref03_Bytes F_interpreterref03_Bytes_k3 F_interpreterref03_Bytes_k2 F_interpreterref03_Bytes_k4 F_interpreterref03_Bytes_k1
  have hfr := hf.hfr
  have hto := hf.hto
  have hw := ev_Why3 hS (n) (tos := tos) (id := id) (ttl := ttl) (pt := pt) (at' := at') (df := false) (mo := true) hfr hto hf.hop hf.hda
  (try simp only [guard_merge, or_merge, and_merge, or_pick, and_pick, guard_or, guard_and]); simp only [to_ob]
  unfold by4R
  by_cases c : why4 tos id ttl pt at' true op da = 0
  · have ok := why4_zero.1 c
    obtain ⟨o1, o2, o3, o4, o5, o6, o7, o8, o9, o10⟩ := ok
    rw [c] at hw
    obtain ⟨tos, rfl⟩ := Int.eq_ofNat_of_zero_le o1.1
    obtain ⟨ttl, rfl⟩ := Int.eq_ofNat_of_zero_le o2.1
    obtain ⟨pt, rfl⟩ := Int.eq_ofNat_of_zero_le o3.1
    obtain ⟨id, rfl⟩ := Int.eq_ofNat_of_zero_le o4.1
    obtain ⟨at', rfl⟩ := Int.eq_ofNat_of_zero_le o5.1
    have e1 : IntKind.i64.wrap (Int.tdiv (at' : Int) 8) = ((at' / 8 : Nat) : Int) := by
      rw [show Int.tdiv (at' : Int) 8 = ((at' / 8 : Nat) : Int) from rfl, wrap_id (by omega) (by omega)]
    have e2 : IntKind.i64.wrap (20 + (op.length : Int)) = ((20 + op.length : Nat) : Int) := by rw [wrap_id (by omega) (by omega)]; omega
    have e3 : IntKind.i64.wrap (Int.tdiv ((20 + op.length : Nat) : Int) 4) = (((20 + op.length) / 4 : Nat) : Int) := by
      rw [show Int.tdiv ((20 + op.length : Nat) : Int) 4 = (((20 + op.length) / 4 : Nat) : Int) from rfl, wrap_id (by omega) (by omega)]
    have e4 : IntKind.i64.wrap (64 + (((20 + op.length) / 4 : Nat) : Int)) = ((64 + (20 + op.length) / 4 : Nat) : Int) := by rw [wrap_id (by omega) (by omega)]; omega
    have e5 : IntKind.i64.wrap (((20 + op.length : Nat) : Int) + (da.length : Int)) = ((20 + op.length + da.length : Nat) : Int) := by rw [wrap_id (by omega) (by omega)]; omega
    have d1 := div256 (x := 20 + op.length + da.length) (by omega)
    have d2 := div256 (x := id) (by omega)
    have f1 : IntKind.i64.wrap (((at' / 8 : Nat) : Int) + 8192) = ((at' / 8 + 8192 : Nat) : Int) := by rw [wrap_id (by omega) (by omega)]; omega
    have f2 : IntKind.i64.wrap (((at' / 8 : Nat) : Int) + 16384) = ((at' / 8 + 16384 : Nat) : Int) := by rw [wrap_id (by omega) (by omega)]; omega
    have f3 : IntKind.i64.wrap (((at' / 8 + 8192 : Nat) : Int) + 16384) = ((at' / 8 + 8192 + 16384 : Nat) : Int) := by rw [wrap_id (by omega) (by omega)]; omega
    have d3 := div256 (x := at' / 8) (by omega)
    have d4 := div256 (x := at' / 8 + 8192) (by omega)
    have d5 := div256 (x := at' / 8 + 16384) (by omega)
    have d6 := div256 (x := at' / 8 + 8192 + 16384) (by omega)
    have hx := sumS_le (hd4 tos id ttl pt at' false true op da ++ (fr ++ (to ++ op)))
    have hx : 0 ≤ x4 tos id ttl pt at' false true fr to op da ∧ x4 tos id ttl pt at' false true fr to op da ≤ 65535 := hx
    have hat4 : at4 at' false true = at' / 8 + 8192 := by unfold at4; rw [Int.toNat_natCast, if_neg Bool.false_ne_true, if_pos rfl]
    obtain ⟨A, hAA⟩ : ∃ A, A = at' / 8 + 8192 := ⟨_, rfl⟩
    rw [← hAA] at hat4
    simp only [← hAA] at e1 f1 f2 f3 d3 d4 d5 d6
    simp only [go_sem, ↓reduceIte, reduceCtorEq, upd_ne, back_new (no_at), Nat.reduceAdd, Nat.reduceEqDiff, Nat.reduceMul, Nat.reduceSub, Nat.reduceLeDiff, Nat.reduceLT, Int.reduceToNat, Int.reduceLE, Int.reduceLT, Int.reduceEq, UInt8.reduceOfNat, hw, c, hfr, hto, e1, e2, e3, e4, e5, f1, f2, f3, d1, d2, d4, mod256, u8w, u8_ofNat_mod, e_cBslM, u8_lt, UInt8.ofNat_toNat, cBytes_eq]
    generalize hH : ([UInt8.ofNat (64 + (20 + op.length) / 4), UInt8.ofNat tos, UInt8.ofNat ((20 + op.length + da.length) / 256), UInt8.ofNat (20 + op.length + da.length), UInt8.ofNat (id / 256), UInt8.ofNat id, UInt8.ofNat (A / 256), UInt8.ofNat A, UInt8.ofNat ttl, UInt8.ofNat pt, 0, 0] : List UInt8) = H
    have hHl : H.length = 12 := by rw [← hH]; rfl
    refine while_rule (fun k q => ∃ i : Nat, i + k = 4 ∧ q = ([.arr 70 (1 + i) [] 0 0 (12 + i), .int .i64 (i : Int)], upd noSlots 70 (.obj (1 + i) (.bytes (H ++ fr.take i))))) 4 ⟨0, rfl, by simp⟩ ?_
    rintro k q ⟨i, hi, rfl⟩
    simp only [go_sem, ↓reduceIte, reduceCtorEq, upd_ne, back_new (no_at), Nat.reduceAdd, Nat.reduceEqDiff, Nat.reduceMul, Nat.reduceSub, Nat.reduceLeDiff, Nat.reduceLT, Int.reduceToNat, Int.reduceLE, Int.reduceLT, Int.reduceEq, UInt8.reduceOfNat]
    refine nxt_ite (fun h => ?_) (fun h => ?_)
    · have hlt : i < fr.length := by omega
      obtain ⟨b, hb⟩ : ∃ b, fr[i]? = some b := ⟨fr[i], by simp [hlt]⟩
      have htk : fr.take (i + 1) = fr.take i ++ [b] := by rw [List.take_add_one, hb]; rfl
      have hlen : (H ++ fr.take i).length = 12 + i := by rw [List.length_append, List.length_take]; omega
      have hA := wApp_arr (d := 81) (t := 70) (g := 1 + i) (sl := noSlots) (b := H ++ fr.take i) (s := [b]) (by simp; omega)
      rw [hlen] at hA
      simp only [List.map_cons, List.map_nil, byteLV, List.length_cons, List.length_nil] at hA
      have i1 : IntKind.i64.wrap ((i : Int) + 1) = ((i + 1 : Nat) : Int) := by rw [wrap_id (by omega) (by omega)]; omega
      have i2 : i < 4 := by omega
      simp only [go_sem, ↓reduceIte, reduceCtorEq, upd_ne, back_new (no_at), Nat.reduceAdd, Nat.reduceEqDiff, Nat.reduceMul, Nat.reduceSub, Nat.reduceLeDiff, Nat.reduceLT, Int.reduceToNat, Int.reduceLE, Int.reduceLT, Int.reduceEq, UInt8.reduceOfNat, List.getElem?_map, Int.toNat_natCast, hfr, hb, byteLV, hA, i1, i2]
      refine ⟨k - 1, by omega, i + 1, by omega, ?_⟩
      rw [htk, ← List.append_assoc, show 1 + (i + 1) = 1 + i + 1 by omega, show 12 + (i + 1) = 12 + i + 1 by omega]
    · obtain rfl : i = 4 := by omega
      have hf4 : fr.take 4 = fr := List.take_of_length_le (by omega)
      rw [hf4]
      simp only [go_sem, ↓reduceIte, reduceCtorEq, upd_ne, back_new (no_at), Nat.reduceAdd, Nat.reduceEqDiff, Nat.reduceMul, Nat.reduceSub, Nat.reduceLeDiff, Nat.reduceLT, Int.reduceToNat, Int.reduceLE, Int.reduceLT, Int.reduceEq, UInt8.reduceOfNat, Nxt, exIf]
      refine while_rule (fun k q => ∃ i : Nat, i + k = 4 ∧ q = ([.arr 70 (5 + i) [] 0 0 (16 + i), .int .i64 (i : Int)], upd noSlots 70 (.obj (5 + i) (.bytes (H ++ fr ++ to.take i))))) 4 ⟨0, rfl, by simp⟩ ?_
      rintro k q ⟨i, hi, rfl⟩
      simp only [go_sem, ↓reduceIte, reduceCtorEq, upd_ne, back_new (no_at), Nat.reduceAdd, Nat.reduceEqDiff, Nat.reduceMul, Nat.reduceSub, Nat.reduceLeDiff, Nat.reduceLT, Int.reduceToNat, Int.reduceLE, Int.reduceLT, Int.reduceEq, UInt8.reduceOfNat]
      refine nxt_ite (fun h => ?_) (fun h => ?_)
      · have hlt : i < to.length := by omega
        obtain ⟨b, hb⟩ : ∃ b, to[i]? = some b := ⟨to[i], by simp [hlt]⟩
        have htk : to.take (i + 1) = to.take i ++ [b] := by rw [List.take_add_one, hb]; rfl
        have hlen : (H ++ fr ++ to.take i).length = 16 + i := by rw [List.length_append, List.length_append, List.length_take]; omega
        have hA := wApp_arr (d := 92) (t := 70) (g := 5 + i) (sl := noSlots) (b := H ++ fr ++ to.take i) (s := [b]) (by rw [hlen]; simp; omega)
        rw [hlen] at hA
        simp only [List.map_cons, List.map_nil, byteLV, List.length_cons, List.length_nil] at hA
        have i1 : IntKind.i64.wrap ((i : Int) + 1) = ((i + 1 : Nat) : Int) := by rw [wrap_id (by omega) (by omega)]; omega
        have i2 : i < 4 := by omega
        simp only [go_sem, ↓reduceIte, reduceCtorEq, upd_ne, back_new (no_at), Nat.reduceAdd, Nat.reduceEqDiff, Nat.reduceMul, Nat.reduceSub, Nat.reduceLeDiff, Nat.reduceLT, Int.reduceToNat, Int.reduceLE, Int.reduceLT, Int.reduceEq, UInt8.reduceOfNat, List.getElem?_map, Int.toNat_natCast, hto, hb, byteLV, hA, i1, i2]
        refine ⟨k - 1, by omega, i + 1, by omega, ?_⟩
        rw [htk, ← List.append_assoc, show 5 + (i + 1) = 5 + i + 1 by omega, show 16 + (i + 1) = 16 + i + 1 by omega]
      · obtain rfl : i = 4 := by omega
        have ht4 : to.take 4 = to := List.take_of_length_le (by omega)
        rw [ht4]
        have hHf : (H ++ fr ++ to).length = 20 := by simp; omega
        have hB := wApp_str (d := 96) (t := 70) (g := 9) (sl := noSlots) (b := H ++ fr ++ to) (s := op) (by omega)
        rw [hHf] at hB
        simp only [go_sem, ↓reduceIte, reduceCtorEq, upd_ne, back_new (no_at), Nat.reduceAdd, Nat.reduceEqDiff, Nat.reduceMul, Nat.reduceSub, Nat.reduceLeDiff, Nat.reduceLT, Int.reduceToNat, Int.reduceLE, Int.reduceLT, Int.reduceEq, UInt8.reduceOfNat, Nxt, exIf, hB]
        obtain ⟨z, hz⟩ := Int.eq_ofNat_of_zero_le hx.1
        have hL : (H ++ fr ++ to ++ op).length = 20 + op.length := by rw [List.length_append]; omega
        have hsum : sumAt 0 (H ++ fr ++ to ++ op) = sumAt 0 (hd4 tos id ttl pt at' false true op da ++ (fr ++ (to ++ op))) := by
          rw [← hH, show hd4 tos id ttl pt at' false true op da = [UInt8.ofNat (64 + (20 + op.length) / 4), UInt8.ofNat tos, UInt8.ofNat ((20 + op.length + da.length) / 256), UInt8.ofNat (20 + op.length + da.length), UInt8.ofNat (id / 256), UInt8.ofNat id, UInt8.ofNat (A / 256), UInt8.ofNat A, UInt8.ofNat ttl, UInt8.ofNat pt] by unfold hd4; rw [hat4]; simp only [beB1, beB2, Int.toNat_natCast, List.cons_append, List.nil_append]]
          have hsz := sum_zeros (h := [UInt8.ofNat (64 + (20 + op.length) / 4), UInt8.ofNat tos, UInt8.ofNat ((20 + op.length + da.length) / 256), UInt8.ofNat (20 + op.length + da.length), UInt8.ofNat (id / 256), UInt8.ofNat id, UInt8.ofNat (A / 256), UInt8.ofNat A, UInt8.ofNat ttl, UInt8.ofNat pt]) (r := fr ++ (to ++ op)) (by simp only [List.length_cons, List.length_nil])
          simp only [List.cons_append, List.nil_append, List.append_assoc] at hsz ⊢
          exact hsz
        have ho := ev_rOf hS n (H ++ fr ++ to ++ op) (by omega)
        have ho : S.ev (n + 2) id_interpreterref02_Of [.str (H ++ fr ++ to ++ op)] none = some (.int .i64 (z : Int), none) := by
          rw [ho, hsum, ← hz]; unfold x4 sumS; exact rfl
        have hby : by4 tos id ttl pt at' false true fr to op da = ((H ++ fr ++ to ++ op).set 10 (UInt8.ofNat (z / 256))).set 11 (UInt8.ofNat z) ++ da := by
          unfold by4
          rw [hz, ← hH, show hd4 tos id ttl pt at' false true op da = [UInt8.ofNat (64 + (20 + op.length) / 4), UInt8.ofNat tos, UInt8.ofNat ((20 + op.length + da.length) / 256), UInt8.ofNat (20 + op.length + da.length), UInt8.ofNat (id / 256), UInt8.ofNat id, UInt8.ofNat (A / 256), UInt8.ofNat A, UInt8.ofNat ttl, UInt8.ofNat pt] by unfold hd4; rw [hat4]; simp only [beB1, beB2, Int.toNat_natCast, List.cons_append, List.nil_append]]
          simp only [beB2, Int.toNat_natCast, List.cons_append, List.nil_append, List.append_assoc, List.set_cons_succ, List.set_cons_zero]
        have d7 := div256 (x := z) (by omega)
        rw [hby]
        generalize H ++ fr ++ to ++ op = B at *
        have g10 : B[10]? = some B[10] := List.getElem?_eq_getElem (by omega)
        have g11 : (B.set 10 (UInt8.ofNat (z / 256)))[11]? = some B[11] := by rw [List.getElem?_set_ne (by omega)]; exact List.getElem?_eq_getElem (by omega)
        generalize B[10] = b10 at *
        generalize B[11] = b11 at *
        have l1 : 10 < 20 + op.length := by omega
        have l2 : 11 < 20 + op.length := by omega
        have l3 : (((B.set 10 (UInt8.ofNat (z / 256))).set 11 (UInt8.ofNat z))).take (20 + op.length) = (B.set 10 (UInt8.ofNat (z / 256))).set 11 (UInt8.ofNat z) := List.take_of_length_le (by simp; omega)
        have l4 : B.take (20 + op.length) = B := List.take_of_length_le (by omega)
        have l5 : 20 + op.length + da.length ≤ maxStr := by unfold maxStr; omega
        simp only [go_sem, ↓reduceIte, reduceCtorEq, upd_ne, back_new (no_at), Nat.reduceAdd, Nat.reduceEqDiff, Nat.reduceMul, Nat.reduceSub, Nat.reduceLeDiff, Nat.reduceLT, Int.reduceToNat, Int.reduceLE, Int.reduceLT, Int.reduceEq, UInt8.reduceOfNat, List.getElem?_map, Int.toNat_natCast, ho, hL, g10, g11, l1, l2, l3, l4, l5, byteLV, d7, mod256, u8w, u8_ofNat_mod, u8_lt, UInt8.ofNat_toNat, Nat.le_refl]
  · simp only [go_sem, ↓reduceIte, reduceCtorEq, upd_ne, back_new (no_at), Nat.reduceAdd, Nat.reduceEqDiff, Nat.reduceMul, Nat.reduceSub, Nat.reduceLeDiff, Nat.reduceLT, Int.reduceToNat, Int.reduceLE, Int.reduceLT, Int.reduceEq, UInt8.reduceOfNat, hw, c, hfr, hto]
theorem ev_rbytes3_tf {tos id ttl pt at' : Int} {fr to op da : List UInt8} (hf : FitIp4 tos id ttl pt at' fr to op da) (hd : da.length ≤ 400000) :
    S.ev (n + 3) id_interpreterref03_Bytes [ip4LV tos id ttl pt at' true false fr to op da] none = some (.tup [.str (by4R tos id ttl pt at' true false fr to op da), .int .i64 (why4 tos id ttl pt at' false op da)], none) := by
  rw [Sys.step hS.h_interpreterref03_Bytes, F_interpreterref03_Bytes_eq]
  unfold F_interpreterref03_Bytes F_interpreterref03_Bytes_k3 F_interpreterref03_Bytes_k2 F_interpreterref03_Bytes_k4 F_interpreterref03_Bytes_k1
  have hfr := hf.hfr
  have hto := hf.hto
  have hw := ev_Why3 hS (n) (tos := tos) (id := id) (ttl := ttl) (pt := pt) (at' := at') (df := true) (mo := false) hfr hto hf.hop hf.hda
  (try simp only [guard_merge, or_merge, and_merge, or_pick, and_pick, guard_or, guard_and]); simp only [to_ob]
  unfold by4R
  by_cases c : why4 tos id ttl pt at' false op da = 0
  · have ok := why4_zero.1 c
    obtain ⟨o1, o2, o3, o4, o5, o6, o7, o8, o9, o10⟩ := ok
    rw [c] at hw
    obtain ⟨tos, rfl⟩ := Int.eq_ofNat_of_zero_le o1.1
    obtain ⟨ttl, rfl⟩ := Int.eq_ofNat_of_zero_le o2.1
    obtain ⟨pt, rfl⟩ := Int.eq_ofNat_of_zero_le o3.1
    obtain ⟨id, rfl⟩ := Int.eq_ofNat_of_zero_le o4.1
    obtain ⟨at', rfl⟩ := Int.eq_ofNat_of_zero_le o5.1
    have e1 : IntKind.i64.wrap (Int.tdiv (at' : Int) 8) = ((at' / 8 : Nat) : Int) := by
      rw [show Int.tdiv (at' : Int) 8 = ((at' / 8 : Nat) : Int) from rfl, wrap_id (by omega) (by omega)]
    have e2 : IntKind.i64.wrap (20 + (op.length : Int)) = ((20 + op.length : Nat) : Int) := by rw [wrap_id (by omega) (by omega)]; omega
    have e3 : IntKind.i64.wrap (Int.tdiv ((20 + op.length : Nat) : Int) 4) = (((20 + op.length) / 4 : Nat) : Int) := by
      rw [show Int.tdiv ((20 + op.length : Nat) : Int) 4 = (((20 + op.length) / 4 : Nat) : Int) from rfl, wrap_id (by omega) (by omega)]
    have e4 : IntKind.i64.wrap (64 + (((20 + op.length) / 4 : Nat) : Int)) = ((64 + (20 + op.length) / 4 : Nat) : Int) := by rw [wrap_id (by omega) (by omega)]; omega
    have e5 : IntKind.i64.wrap (((20 + op.length : Nat) : Int) + (da.length : Int)) = ((20 + op.length + da.length : Nat) : Int) := by rw [wrap_id (by omega) (by omega)]; omega
    have d1 := div256 (x := 20 + op.length + da.length) (by omega)
    have d2 := div256 (x := id) (by omega)
    have f1 : IntKind.i64.wrap (((at' / 8 : Nat) : Int) + 8192) = ((at' / 8 + 8192 : Nat) : Int) := by rw [wrap_id (by omega) (by omega)]; omega
    have f2 : IntKind.i64.wrap (((at' / 8 : Nat) : Int) + 16384) = ((at' / 8 + 16384 : Nat) : Int) := by rw [wrap_id (by omega) (by omega)]; omega
    have f3 : IntKind.i64.wrap (((at' / 8 + 8192 : Nat) : Int) + 16384) = ((at' / 8 + 8192 + 16384 : Nat) : Int) := by rw [wrap_id (by omega) (by omega)]; omega
    have d3 := div256 (x := at' / 8) (by omega)
    have d4 := div256 (x := at' / 8 + 8192) (by omega)
    have d5 := div256 (x := at' / 8 + 16384) (by omega)
    have d6 := div256 (x := at' / 8 + 8192 + 16384) (by omega)
    have hx := sumS_le (hd4 tos id ttl pt at' true false op da ++ (fr ++ (to ++ op)))
    have hx : 0 ≤ x4 tos id ttl pt at' true false fr to op da ∧ x4 tos id ttl pt at' true false fr to op da ≤ 65535 := hx
    have hat4 : at4 at' true false = at' / 8 + 16384 := by unfold at4; rw [Int.toNat_natCast, if_pos rfl, if_neg Bool.false_ne_true]
    obtain ⟨A, hAA⟩ : ∃ A, A = at' / 8 + 16384 := ⟨_, rfl⟩
    rw [← hAA] at hat4
    simp only [← hAA] at e1 f1 f2 f3 d3 d4 d5 d6
    simp only [go_sem, ↓reduceIte, reduceCtorEq, upd_ne, back_new (no_at), Nat.reduceAdd, Nat.reduceEqDiff, Nat.reduceMul, Nat.reduceSub, Nat.reduceLeDiff, Nat.reduceLT, Int.reduceToNat, Int.reduceLE, Int.reduceLT, Int.reduceEq, UInt8.reduceOfNat, hw, c, hfr, hto, e1, e2, e3, e4, e5, f1, f2, f3, d1, d2, d5, mod256, u8w, u8_ofNat_mod, e_cBslM, u8_lt, UInt8.ofNat_toNat, cBytes_eq]
    generalize hH : ([UInt8.ofNat (64 + (20 + op.length) / 4), UInt8.ofNat tos, UInt8.ofNat ((20 + op.length + da.length) / 256), UInt8.ofNat (20 + op.length + da.length), UInt8.ofNat (id / 256), UInt8.ofNat id, UInt8.ofNat (A / 256), UInt8.ofNat A, UInt8.ofNat ttl, UInt8.ofNat pt, 0, 0] : List UInt8) = H
    have hHl : H.length = 12 := by rw [← hH]; rfl
    refine while_rule (fun k q => ∃ i : Nat, i + k = 4 ∧ q = ([.arr 70 (1 + i) [] 0 0 (12 + i), .int .i64 (i : Int)], upd noSlots 70 (.obj (1 + i) (.bytes (H ++ fr.take i))))) 4 ⟨0, rfl, by simp⟩ ?_
    rintro k q ⟨i, hi, rfl⟩
    simp only [go_sem, ↓reduceIte, reduceCtorEq, upd_ne, back_new (no_at), Nat.reduceAdd, Nat.reduceEqDiff, Nat.reduceMul, Nat.reduceSub, Nat.reduceLeDiff, Nat.reduceLT, Int.reduceToNat, Int.reduceLE, Int.reduceLT, Int.reduceEq, UInt8.reduceOfNat]
    refine nxt_ite (fun h => ?_) (fun h => ?_)
    · have hlt : i < fr.length := by omega
      obtain ⟨b, hb⟩ : ∃ b, fr[i]? = some b := ⟨fr[i], by simp [hlt]⟩
      have htk : fr.take (i + 1) = fr.take i ++ [b] := by rw [List.take_add_one, hb]; rfl
      have hlen : (H ++ fr.take i).length = 12 + i := by rw [List.length_append, List.length_take]; omega
      have hA := wApp_arr (d := 81) (t := 70) (g := 1 + i) (sl := noSlots) (b := H ++ fr.take i) (s := [b]) (by simp; omega)
      rw [hlen] at hA
      simp only [List.map_cons, List.map_nil, byteLV, List.length_cons, List.length_nil] at hA
      have i1 : IntKind.i64.wrap ((i : Int) + 1) = ((i + 1 : Nat) : Int) := by rw [wrap_id (by omega) (by omega)]; omega
      have i2 : i < 4 := by omega
      simp only [go_sem, ↓reduceIte, reduceCtorEq, upd_ne, back_new (no_at), Nat.reduceAdd, Nat.reduceEqDiff, Nat.reduceMul, Nat.reduceSub, Nat.reduceLeDiff, Nat.reduceLT, Int.reduceToNat, Int.reduceLE, Int.reduceLT, Int.reduceEq, UInt8.reduceOfNat, List.getElem?_map, Int.toNat_natCast, hfr, hb, byteLV, hA, i1, i2]
      refine ⟨k - 1, by omega, i + 1, by omega, ?_⟩
      rw [htk, ← List.append_assoc, show 1 + (i + 1) = 1 + i + 1 by omega, show 12 + (i + 1) = 12 + i + 1 by omega]
    · obtain rfl : i = 4 := by omega
      have hf4 : fr.take 4 = fr := List.take_of_length_le (by omega)
      rw [hf4]
      simp only [go_sem, ↓reduceIte, reduceCtorEq, upd_ne, back_new (no_at), Nat.reduceAdd, Nat.reduceEqDiff, Nat.reduceMul, Nat.reduceSub, Nat.reduceLeDiff, Nat.reduceLT, Int.reduceToNat, Int.reduceLE, Int.reduceLT, Int.reduceEq, UInt8.reduceOfNat, Nxt, exIf]
      refine while_rule (fun k q => ∃ i : Nat, i + k = 4 ∧ q = ([.arr 70 (5 + i) [] 0 0 (16 + i), .int .i64 (i : Int)], upd noSlots 70 (.obj (5 + i) (.bytes (H ++ fr ++ to.take i))))) 4 ⟨0, rfl, by simp⟩ ?_
      rintro k q ⟨i, hi, rfl⟩
      simp only [go_sem, ↓reduceIte, reduceCtorEq, upd_ne, back_new (no_at), Nat.reduceAdd, Nat.reduceEqDiff, Nat.reduceMul, Nat.reduceSub, Nat.reduceLeDiff, Nat.reduceLT, Int.reduceToNat, Int.reduceLE, Int.reduceLT, Int.reduceEq, UInt8.reduceOfNat]
      refine nxt_ite (fun h => ?_) (fun h => ?_)
      · have hlt : i < to.length := by omega
        obtain ⟨b, hb⟩ : ∃ b, to[i]? = some b := ⟨to[i], by simp [hlt]⟩
        have htk : to.take (i + 1) = to.take i ++ [b] := by rw [List.take_add_one, hb]; rfl
        have hlen : (H ++ fr ++ to.take i).length = 16 + i := by rw [List.length_append, List.length_append, List.length_take]; omega
        have hA := wApp_arr (d := 92) (t := 70) (g := 5 + i) (sl := noSlots) (b := H ++ fr ++ to.take i) (s := [b]) (by rw [hlen]; simp; omega)
        rw [hlen] at hA
        simp only [List.map_cons, List.map_nil, byteLV, List.length_cons, List.length_nil] at hA
        have i1 : IntKind.i64.wrap ((i : Int) + 1) = ((i + 1 : Nat) : Int) := by rw [wrap_id (by omega) (by omega)]; omega
        have i2 : i < 4 := by omega
        simp only [go_sem, ↓reduceIte, reduceCtorEq, upd_ne, back_new (no_at), Nat.reduceAdd, Nat.reduceEqDiff, Nat.reduceMul, Nat.reduceSub, Nat.reduceLeDiff, Nat.reduceLT, Int.reduceToNat, Int.reduceLE, Int.reduceLT, Int.reduceEq, UInt8.reduceOfNat, List.getElem?_map, Int.toNat_natCast, hto, hb, byteLV, hA, i1, i2]
        refine ⟨k - 1, by omega, i + 1, by omega, ?_⟩
        rw [htk, ← List.append_assoc, show 5 + (i + 1) = 5 + i + 1 by omega, show 16 + (i + 1) = 16 + i + 1 by omega]
      · obtain rfl : i = 4 := by omega
        have ht4 : to.take 4 = to := List.take_of_length_le (by omega)
        rw [ht4]
        have hHf : (H ++ fr ++ to).length = 20 := by simp; omega
        have hB := wApp_str (d := 96) (t := 70) (g := 9) (sl := noSlots) (b := H ++ fr ++ to) (s := op) (by omega)
        rw [hHf] at hB
        simp only [go_sem, ↓reduceIte, reduceCtorEq, upd_ne, back_new (no_at), Nat.reduceAdd, Nat.reduceEqDiff, Nat.reduceMul, Nat.reduceSub, Nat.reduceLeDiff, Nat.reduceLT, Int.reduceToNat, Int.reduceLE, Int.reduceLT, Int.reduceEq, UInt8.reduceOfNat, Nxt, exIf, hB]
        obtain ⟨z, hz⟩ := Int.eq_ofNat_of_zero_le hx.1
        have hL : (H ++ fr ++ to ++ op).length = 20 + op.length := by rw [List.length_append]; omega
        have hsum : sumAt 0 (H ++ fr ++ to ++ op) = sumAt 0 (hd4 tos id ttl pt at' true false op da ++ (fr ++ (to ++ op))) := by
          rw [← hH, show hd4 tos id ttl pt at' true false op da = [UInt8.ofNat (64 + (20 + op.length) / 4), UInt8.ofNat tos, UInt8.ofNat ((20 + op.length + da.length) / 256), UInt8.ofNat (20 + op.length + da.length), UInt8.ofNat (id / 256), UInt8.ofNat id, UInt8.ofNat (A / 256), UInt8.ofNat A, UInt8.ofNat ttl, UInt8.ofNat pt] by unfold hd4; rw [hat4]; simp only [beB1, beB2, Int.toNat_natCast, List.cons_append, List.nil_append]]
          have hsz := sum_zeros (h := [UInt8.ofNat (64 + (20 + op.length) / 4), UInt8.ofNat tos, UInt8.ofNat ((20 + op.length + da.length) / 256), UInt8.ofNat (20 + op.length + da.length), UInt8.ofNat (id / 256), UInt8.ofNat id, UInt8.ofNat (A / 256), UInt8.ofNat A, UInt8.ofNat ttl, UInt8.ofNat pt]) (r := fr ++ (to ++ op)) (by simp only [List.length_cons, List.length_nil])
          simp only [List.cons_append, List.nil_append, List.append_assoc] at hsz ⊢
          exact hsz
        have ho := ev_rOf hS n (H ++ fr ++ to ++ op) (by omega)
        have ho : S.ev (n + 2) id_interpreterref02_Of [.str (H ++ fr ++ to ++ op)] none = some (.int .i64 (z : Int), none) := by
          rw [ho, hsum, ← hz]; unfold x4 sumS; exact rfl
        have hby : by4 tos id ttl pt at' true false fr to op da = ((H ++ fr ++ to ++ op).set 10 (UInt8.ofNat (z / 256))).set 11 (UInt8.ofNat z) ++ da := by
          unfold by4
          rw [hz, ← hH, show hd4 tos id ttl pt at' true false op da = [UInt8.ofNat (64 + (20 + op.length) / 4), UInt8.ofNat tos, UInt8.ofNat ((20 + op.length + da.length) / 256), UInt8.ofNat (20 + op.length + da.length), UInt8.ofNat (id / 256), UInt8.ofNat id, UInt8.ofNat (A / 256), UInt8.ofNat A, UInt8.ofNat ttl, UInt8.ofNat pt] by unfold hd4; rw [hat4]; simp only [beB1, beB2, Int.toNat_natCast, List.cons_append, List.nil_append]]
          simp only [beB2, Int.toNat_natCast, List.cons_append, List.nil_append, List.append_assoc, List.set_cons_succ, List.set_cons_zero]
        have d7 := div256 (x := z) (by omega)
        rw [hby]
        generalize H ++ fr ++ to ++ op = B at *
        have g10 : B[10]? = some B[10] := List.getElem?_eq_getElem (by omega)
        have g11 : (B.set 10 (UInt8.ofNat (z / 256)))[11]? = some B[11] := by rw [List.getElem?_set_ne (by omega)]; exact List.getElem?_eq_getElem (by omega)
        generalize B[10] = b10 at *
        generalize B[11] = b11 at *
        have l1 : 10 < 20 + op.length := by omega
        have l2 : 11 < 20 + op.length := by omega
        have l3 : (((B.set 10 (UInt8.ofNat (z / 256))).set 11 (UInt8.ofNat z))).take (20 + op.length) = (B.set 10 (UInt8.ofNat (z / 256))).set 11 (UInt8.ofNat z) := List.take_of_length_le (by simp; omega)
        have l4 : B.take (20 + op.length) = B := List.take_of_length_le (by omega)
        have l5 : 20 + op.length + da.length ≤ maxStr := by unfold maxStr; omega
        simp only [go_sem, ↓reduceIte, reduceCtorEq, upd_ne, back_new (no_at), Nat.reduceAdd, Nat.reduceEqDiff, Nat.reduceMul, Nat.reduceSub, Nat.reduceLeDiff, Nat.reduceLT, Int.reduceToNat, Int.reduceLE, Int.reduceLT, Int.reduceEq, UInt8.reduceOfNat, List.getElem?_map, Int.toNat_natCast, ho, hL, g10, g11, l1, l2, l3, l4, l5, byteLV, d7, mod256, u8w, u8_ofNat_mod, u8_lt, UInt8.ofNat_toNat, Nat.le_refl]
  · simp only [go_sem, ↓reduceIte, reduceCtorEq, upd_ne, back_new (no_at), Nat.reduceAdd, Nat.reduceEqDiff, Nat.reduceMul, Nat.reduceSub, Nat.reduceLeDiff, Nat.reduceLT, Int.reduceToNat, Int.reduceLE, Int.reduceLT, Int.reduceEq, UInt8.reduceOfNat, hw, c, hfr, hto]
theorem ev_rbytes3_tt {tos id ttl pt at' : Int} {fr to op da : List UInt8} (hf : FitIp4 tos id ttl pt at' fr to op da) (hd : da.length ≤ 400000) :
    S.ev (n + 3) id_interpreterref03_Bytes [ip4LV tos id ttl pt at' true true fr to op da] none = some (.tup [.str (by4R tos id ttl pt at' true true fr to op da), .int .i64 (why4 tos id ttl pt at' true op da)], none) := by
  rw [Sys.step hS.h_interpreterref03_Bytes, F_interpreterref03_Bytes_eq]
  unfold F_interpreterref03_Bytes F_interpreterref03_Bytes_k3 F_interpreterref03_Bytes_k2 F_interpreterref03_Bytes_k4 F_interpreterref03_Bytes_k1
  have hfr := hf.hfr
  have hto := hf.hto
  have hw := ev_Why3 hS (n) (tos := tos) (id := id) (ttl := ttl) (pt := pt) (at' := at') (df := true) (mo := true) hfr hto hf.hop hf.hda
  (try simp only [guard_merge, or_merge, and_merge, or_pick, and_pick, guard_or, guard_and]); simp only [to_ob]
  unfold by4R
  by_cases c : why4 tos id ttl pt at' true op da = 0
  · have ok := why4_zero.1 c
    obtain ⟨o1, o2, o3, o4, o5, o6, o7, o8, o9, o10⟩ := ok
    rw [c] at hw
    obtain ⟨tos, rfl⟩ := Int.eq_ofNat_of_zero_le o1.1
    obtain ⟨ttl, rfl⟩ := Int.eq_ofNat_of_zero_le o2.1
    obtain ⟨pt, rfl⟩ := Int.eq_ofNat_of_zero_le o3.1
    obtain ⟨id, rfl⟩ := Int.eq_ofNat_of_zero_le o4.1
    obtain ⟨at', rfl⟩ := Int.eq_ofNat_of_zero_le o5.1
    have e1 : IntKind.i64.wrap (Int.tdiv (at' : Int) 8) = ((at' / 8 : Nat) : Int) := by
      rw [show Int.tdiv (at' : Int) 8 = ((at' / 8 : Nat) : Int) from rfl, wrap_id (by omega) (by omega)]
    have e2 : IntKind.i64.wrap (20 + (op.length : Int)) = ((20 + op.length : Nat) : Int) := by rw [wrap_id (by omega) (by omega)]; omega
    have e3 : IntKind.i64.wrap (Int.tdiv ((20 + op.length : Nat) : Int) 4) = (((20 + op.length) / 4 : Nat) : Int) := by
      rw [show Int.tdiv ((20 + op.length : Nat) : Int) 4 = (((20 + op.length) / 4 : Nat) : Int) from rfl, wrap_id (by omega) (by omega)]
    have e4 : IntKind.i64.wrap (64 + (((20 + op.length) / 4 : Nat) : Int)) = ((64 + (20 + op.length) / 4 : Nat) : Int) := by rw [wrap_id (by omega) (by omega)]; omega
    have e5 : IntKind.i64.wrap (((20 + op.length : Nat) : Int) + (da.length : Int)) = ((20 + op.length + da.length : Nat) : Int) := by rw [wrap_id (by omega) (by omega)]; omega
    have d1 := div256 (x := 20 + op.length + da.length) (by omega)
    have d2 := div256 (x := id) (by omega)
    have f1 : IntKind.i64.wrap (((at' / 8 : Nat) : Int) + 8192) = ((at' / 8 + 8192 : Nat) : Int) := by rw [wrap_id (by omega) (by omega)]; omega
    have f2 : IntKind.i64.wrap (((at' / 8 : Nat) : Int) + 16384) = ((at' / 8 + 16384 : Nat) : Int) := by rw [wrap_id (by omega) (by omega)]; omega
    have f3 : IntKind.i64.wrap (((at' / 8 + 8192 : Nat) : Int) + 16384) = ((at' / 8 + 8192 + 16384 : Nat) : Int) := by rw [wrap_id (by omega) (by omega)]; omega
    have d3 := div256 (x := at' / 8) (by omega)
    have d4 := div256 (x := at' / 8 + 8192) (by omega)
    have d5 := div256 (x := at' / 8 + 16384) (by omega)
    have d6 := div256 (x := at' / 8 + 8192 + 16384) (by omega)
    have hx := sumS_le (hd4 tos id ttl pt at' true true op da ++ (fr ++ (to ++ op)))
    have hx : 0 ≤ x4 tos id ttl pt at' true true fr to op da ∧ x4 tos id ttl pt at' true true fr to op da ≤ 65535 := hx
    have hat4 : at4 at' true true = at' / 8 + 8192 + 16384 := by unfold at4; rw [Int.toNat_natCast, if_pos rfl, if_pos rfl]
    obtain ⟨A, hAA⟩ : ∃ A, A = at' / 8 + 8192 + 16384 := ⟨_, rfl⟩
    rw [← hAA] at hat4
    simp only [← hAA] at e1 f1 f2 f3 d3 d4 d5 d6
    simp only [go_sem, ↓reduceIte, reduceCtorEq, upd_ne, back_new (no_at), Nat.reduceAdd, Nat.reduceEqDiff, Nat.reduceMul, Nat.reduceSub, Nat.reduceLeDiff, Nat.reduceLT, Int.reduceToNat, Int.reduceLE, Int.reduceLT, Int.reduceEq, UInt8.reduceOfNat, hw, c, hfr, hto, e1, e2, e3, e4, e5, f1, f2, f3, d1, d2, d6, mod256, u8w, u8_ofNat_mod, e_cBslM, u8_lt, UInt8.ofNat_toNat, cBytes_eq]
    generalize hH : ([UInt8.ofNat (64 + (20 + op.length) / 4), UInt8.ofNat tos, UInt8.ofNat ((20 + op.length + da.length) / 256), UInt8.ofNat (20 + op.length + da.length), UInt8.ofNat (id / 256), UInt8.ofNat id, UInt8.ofNat (A / 256), UInt8.ofNat A, UInt8.ofNat ttl, UInt8.ofNat pt, 0, 0] : List UInt8) = H
    have hHl : H.length = 12 := by rw [← hH]; rfl
    refine while_rule (fun k q => ∃ i : Nat, i + k = 4 ∧ q = ([.arr 70 (1 + i) [] 0 0 (12 + i), .int .i64 (i : Int)], upd noSlots 70 (.obj (1 + i) (.bytes (H ++ fr.take i))))) 4 ⟨0, rfl, by simp⟩ ?_
    rintro k q ⟨i, hi, rfl⟩
    simp only [go_sem, ↓reduceIte, reduceCtorEq, upd_ne, back_new (no_at), Nat.reduceAdd, Nat.reduceEqDiff, Nat.reduceMul, Nat.reduceSub, Nat.reduceLeDiff, Nat.reduceLT, Int.reduceToNat, Int.reduceLE, Int.reduceLT, Int.reduceEq, UInt8.reduceOfNat]
    refine nxt_ite (fun h => ?_) (fun h => ?_)
    · have hlt : i < fr.length := by omega
      obtain ⟨b, hb⟩ : ∃ b, fr[i]? = some b := ⟨fr[i], by simp [hlt]⟩
      have htk : fr.take (i + 1) = fr.take i ++ [b] := by rw [List.take_add_one, hb]; rfl
      have hlen : (H ++ fr.take i).length = 12 + i := by rw [List.length_append, List.length_take]; omega
      have hA := wApp_arr (d := 81) (t := 70) (g := 1 + i) (sl := noSlots) (b := H ++ fr.take i) (s := [b]) (by simp; omega)
      rw [hlen] at hA
      simp only [List.map_cons, List.map_nil, byteLV, List.length_cons, List.length_nil] at hA
      have i1 : IntKind.i64.wrap ((i : Int) + 1) = ((i + 1 : Nat) : Int) := by rw [wrap_id (by omega) (by omega)]; omega
      have i2 : i < 4 := by omega
      simp only [go_sem, ↓reduceIte, reduceCtorEq, upd_ne, back_new (no_at), Nat.reduceAdd, Nat.reduceEqDiff, Nat.reduceMul, Nat.reduceSub, Nat.reduceLeDiff, Nat.reduceLT, Int.reduceToNat, Int.reduceLE, Int.reduceLT, Int.reduceEq, UInt8.reduceOfNat, List.getElem?_map, Int.toNat_natCast, hfr, hb, byteLV, hA, i1, i2]
      refine ⟨k - 1, by omega, i + 1, by omega, ?_⟩
      rw [htk, ← List.append_assoc, show 1 + (i + 1) = 1 + i + 1 by omega, show 12 + (i + 1) = 12 + i + 1 by omega]
    · obtain rfl : i = 4 := by omega
      have hf4 : fr.take 4 = fr := List.take_of_length_le (by omega)
      rw [hf4]
      simp only [go_sem, ↓reduceIte, reduceCtorEq, upd_ne, back_new (no_at), Nat.reduceAdd, Nat.reduceEqDiff, Nat.reduceMul, Nat.reduceSub, Nat.reduceLeDiff, Nat.reduceLT, Int.reduceToNat, Int.reduceLE, Int.reduceLT, Int.reduceEq, UInt8.reduceOfNat, Nxt, exIf]
      refine while_rule (fun k q => ∃ i : Nat, i + k = 4 ∧ q = ([.arr 70 (5 + i) [] 0 0 (16 + i), .int .i64 (i : Int)], upd noSlots 70 (.obj (5 + i) (.bytes (H ++ fr ++ to.take i))))) 4 ⟨0, rfl, by simp⟩ ?_
      rintro k q ⟨i, hi, rfl⟩
      simp only [go_sem, ↓reduceIte, reduceCtorEq, upd_ne, back_new (no_at), Nat.reduceAdd, Nat.reduceEqDiff, Nat.reduceMul, Nat.reduceSub, Nat.reduceLeDiff, Nat.reduceLT, Int.reduceToNat, Int.reduceLE, Int.reduceLT, Int.reduceEq, UInt8.reduceOfNat]
      refine nxt_ite (fun h => ?_) (fun h => ?_)
      · have hlt : i < to.length := by omega
        obtain ⟨b, hb⟩ : ∃ b, to[i]? = some b := ⟨to[i], by simp [hlt]⟩
        have htk : to.take (i + 1) = to.take i ++ [b] := by rw [List.take_add_one, hb]; rfl
        have hlen : (H ++ fr ++ to.take i).length = 16 + i := by rw [List.length_append, List.length_append, List.length_take]; omega
        have hA := wApp_arr (d := 92) (t := 70) (g := 5 + i) (sl := noSlots) (b := H ++ fr ++ to.take i) (s := [b]) (by rw [hlen]; simp; omega)
        rw [hlen] at hA
        simp only [List.map_cons, List.map_nil, byteLV, List.length_cons, List.length_nil] at hA
        have i1 : IntKind.i64.wrap ((i : Int) + 1) = ((i + 1 : Nat) : Int) := by rw [wrap_id (by omega) (by omega)]; omega
        have i2 : i < 4 := by omega
        simp only [go_sem, ↓reduceIte, reduceCtorEq, upd_ne, back_new (no_at), Nat.reduceAdd, Nat.reduceEqDiff, Nat.reduceMul, Nat.reduceSub, Nat.reduceLeDiff, Nat.reduceLT, Int.reduceToNat, Int.reduceLE, Int.reduceLT, Int.reduceEq, UInt8.reduceOfNat, List.getElem?_map, Int.toNat_natCast, hto, hb, byteLV, hA, i1, i2]
        refine ⟨k - 1, by omega, i + 1, by omega, ?_⟩
        rw [htk, ← List.append_assoc, show 5 + (i + 1) = 5 + i + 1 by omega, show 16 + (i + 1) = 16 + i + 1 by omega]
      · obtain rfl : i = 4 := by omega
        have ht4 : to.take 4 = to := List.take_of_length_le (by omega)
        rw [ht4]
        have hHf : (H ++ fr ++ to).length = 20 := by simp; omega
        have hB := wApp_str (d := 96) (t := 70) (g := 9) (sl := noSlots) (b := H ++ fr ++ to) (s := op) (by omega)
        rw [hHf] at hB
        simp only [go_sem, ↓reduceIte, reduceCtorEq, upd_ne, back_new (no_at), Nat.reduceAdd, Nat.reduceEqDiff, Nat.reduceMul, Nat.reduceSub, Nat.reduceLeDiff, Nat.reduceLT, Int.reduceToNat, Int.reduceLE, Int.reduceLT, Int.reduceEq, UInt8.reduceOfNat, Nxt, exIf, hB]
        obtain ⟨z, hz⟩ := Int.eq_ofNat_of_zero_le hx.1
        have hL : (H ++ fr ++ to ++ op).length = 20 + op.length := by rw [List.length_append]; omega
        have hsum : sumAt 0 (H ++ fr ++ to ++ op) = sumAt 0 (hd4 tos id ttl pt at' true true op da ++ (fr ++ (to ++ op))) := by
          rw [← hH, show hd4 tos id ttl pt at' true true op da = [UInt8.ofNat (64 + (20 + op.length) / 4), UInt8.ofNat tos, UInt8.ofNat ((20 + op.length + da.length) / 256), UInt8.ofNat (20 + op.length + da.length), UInt8.ofNat (id / 256), UInt8.ofNat id, UInt8.ofNat (A / 256), UInt8.ofNat A, UInt8.ofNat ttl, UInt8.ofNat pt] by unfold hd4; rw [hat4]; simp only [beB1, beB2, Int.toNat_natCast, List.cons_append, List.nil_append]]
          have hsz := sum_zeros (h := [UInt8.ofNat (64 + (20 + op.length) / 4), UInt8.ofNat tos, UInt8.ofNat ((20 + op.length + da.length) / 256), UInt8.ofNat (20 + op.length + da.length), UInt8.ofNat (id / 256), UInt8.ofNat id, UInt8.ofNat (A / 256), UInt8.ofNat A, UInt8.ofNat ttl, UInt8.ofNat pt]) (r := fr ++ (to ++ op)) (by simp only [List.length_cons, List.length_nil])
          simp only [List.cons_append, List.nil_append, List.append_assoc] at hsz ⊢
          exact hsz
        have ho := ev_rOf hS n (H ++ fr ++ to ++ op) (by omega)
        have ho : S.ev (n + 2) id_interpreterref02_Of [.str (H ++ fr ++ to ++ op)] none = some (.int .i64 (z : Int), none) := by
          rw [ho, hsum, ← hz]; unfold x4 sumS; exact rfl
        have hby : by4 tos id ttl pt at' true true fr to op da = ((H ++ fr ++ to ++ op).set 10 (UInt8.ofNat (z / 256))).set 11 (UInt8.ofNat z) ++ da := by
          unfold by4
          rw [hz, ← hH, show hd4 tos id ttl pt at' true true op da = [UInt8.ofNat (64 + (20 + op.length) / 4), UInt8.ofNat tos, UInt8.ofNat ((20 + op.length + da.length) / 256), UInt8.ofNat (20 + op.length + da.length), UInt8.ofNat (id / 256), UInt8.ofNat id, UInt8.ofNat (A / 256), UInt8.ofNat A, UInt8.ofNat ttl, UInt8.ofNat pt] by unfold hd4; rw [hat4]; simp only [beB1, beB2, Int.toNat_natCast, List.cons_append, List.nil_append]]
          simp only [beB2, Int.toNat_natCast, List.cons_append, List.nil_append, List.append_assoc, List.set_cons_succ, List.set_cons_zero]
        have d7 := div256 (x := z) (by omega)
        rw [hby]
        generalize H ++ fr ++ to ++ op = B at *
        have g10 : B[10]? = some B[10] := List.getElem?_eq_getElem (by omega)
        have g11 : (B.set 10 (UInt8.ofNat (z / 256)))[11]? = some B[11] := by rw [List.getElem?_set_ne (by omega)]; exact List.getElem?_eq_getElem (by omega)
        generalize B[10] = b10 at *
        generalize B[11] = b11 at *
        have l1 : 10 < 20 + op.length := by omega
        have l2 : 11 < 20 + op.length := by omega
        have l3 : (((B.set 10 (UInt8.ofNat (z / 256))).set 11 (UInt8.ofNat z))).take (20 + op.length) = (B.set 10 (UInt8.ofNat (z / 256))).set 11 (UInt8.ofNat z) := List.take_of_length_le (by simp; omega)
        have l4 : B.take (20 + op.length) = B := List.take_of_length_le (by omega)
        have l5 : 20 + op.length + da.length ≤ maxStr := by unfold maxStr; omega
        simp only [go_sem, ↓reduceIte, reduceCtorEq, upd_ne, back_new (no_at), Nat.reduceAdd, Nat.reduceEqDiff, Nat.reduceMul, Nat.reduceSub, Nat.reduceLeDiff, Nat.reduceLT, Int.reduceToNat, Int.reduceLE, Int.reduceLT, Int.reduceEq, UInt8.reduceOfNat, List.getElem?_map, Int.toNat_natCast, ho, hL, g10, g11, l1, l2, l3, l4, l5, byteLV, d7, mod256, u8w, u8_ofNat_mod, u8_lt, UInt8.ofNat_toNat, Nat.le_refl]
  · simp only [go_sem, ↓reduceIte, reduceCtorEq, upd_ne, back_new (no_at), Nat.reduceAdd, Nat.reduceEqDiff, Nat.reduceMul, Nat.reduceSub, Nat.reduceLeDiff, Nat.reduceLT, Int.reduceToNat, Int.reduceLE, Int.reduceLT, Int.reduceEq, UInt8.reduceOfNat, hw, c, hfr, hto]
theorem ev_rbytes3 {tos id ttl pt at' : Int} {df mo : Bool} {fr to op da : List UInt8} (hf : FitIp4 tos id ttl pt at' fr to op da) (hd : da.length ≤ 400000) :
    S.ev (n + 3) id_interpreterref03_Bytes [ip4LV tos id ttl pt at' df mo fr to op da] none = some (.tup [.str (by4R tos id ttl pt at' df mo fr to op da), .int .i64 (why4 tos id ttl pt at' mo op da)], none) := by
  cases df
  · cases mo
    · exact ev_rbytes3_ff hS n hf hd
    · exact ev_rbytes3_ft hS n hf hd
  · cases mo
    · exact ev_rbytes3_tf hS n hf hd
    · exact ev_rbytes3_tt hS n hf hd
end
end Go.Ev

namespace Go.Ev
set_option linter.unusedSimpArgs false
set_option linter.unusedVariables false
set_option maxRecDepth 10000
set_option maxHeartbeats 8000000
theorem upF_take {d : List UInt8} {i : Nat} {o w : List UInt8} {none : Bool} (h : 4 ≤ i) : (upF d i o w none).take 4 = d.take 4 := by
  unfold upF
  split
  · rfl
  · split
    · rfl
    · rw [List.take_append_of_le_length (by rw [List.length_take]; omega), List.take_take, Nat.min_eq_left h]
theorem poF_ports {udp : Bool} {d o w : List UInt8} {p q : Nat} (h : 4 ≤ d.length) : (poF udp d o w p q).take 4 = beB 2 p ++ beB 2 q := by
  have hx : (beB 2 p ++ (beB 2 q ++ d.drop 4)).take 4 = beB 2 p ++ beB 2 q := by simp [beB2]
  unfold poF
  rw [if_neg (by omega)]
  split
  · rw [upF_take (by omega), hx]
  · rw [upF_take (by omega), hx]
section
variable {S : Sys} (hS : Has S) (n : Nat)
include hS
theorem ev_awake15 : S.ev (n + 7) id_interpreterlaw15_awake [] none = some (.bool true, none) := by
  rw [Sys.step hS.h_interpreterlaw15_awake, F_interpreterlaw15_awake_eq]
  unfold F_interpreterlaw15_awake
  have h1 : S.ev (n + 6) id_interpreterlaw15_gram [.int .i64 600] none = _ := ev_gram hS (n + 4) 600 (by omega)
  have h0 : S.ev (n + 6) id_interpreterlaw15_gram [.int .i64 0] none = _ := ev_gram hS (n + 4) 0 (by omega)
  have ok := g_ok (k := 600) (by omega)
  have h2 := ev_rbytes3 hS (n + 3) (df := false) (mo := false) (g_fit (k := 600) (by omega)) (by rw [List.length_replicate]; omega)
  unfold by4R at h2
  rw [if_pos (why4_zero.2 ok), why4_zero.2 ok] at h2
  have hBl := by4_len (tos := 0) (id := 0) (ttl := 9) (pt := 17) (at' := 0) (df := false) (mo := false) (fr := [192, 0, 2, 1]) (to := [192, 0, 2, 2]) (op := []) (da := List.replicate 600 120) rfl rfl
  have hp := (ev_parse_by4 hS (n + 1) (df := false) ok (fr := [192, 0, 2, 1]) (to := [192, 0, 2, 2]) rfl rfl).1
  have hi := inside_by4 (df := false) ok (fr := [192, 0, 2, 1]) (to := [192, 0, 2, 2]) rfl rfl (j := 548) (by simp) (by simp)
  have hDl : (List.replicate 600 (120 : UInt8)).length = 600 := List.length_replicate
  have hm := ev_martian4 hS (n + 4) 192 0 2 1
  rw [decide_eq_false (by decide)] at hm
  generalize hB : by4 0 0 9 17 0 false false [192, 0, 2, 1] [192, 0, 2, 2] [] (List.replicate 600 120) = B at *
  generalize hD : List.replicate 600 (120 : UInt8) = D at *
  rw [hDl] at hBl
  have hBl : B.length = 620 := by rw [hBl]; rfl
  have hQl : (B.take 548).length = 548 := by rw [List.length_take]; omega
  generalize hQ : B.take 548 = Q at *
  have hIl : (im4B 11 0 0 Q).length = 556 := by unfold im4B; simp only [List.length_append, beB_len]; omega
  have hId : (im4B 11 0 0 Q).drop 8 = Q := by unfold im4B; simp [beB1, beB2, beB, List.range_succ]
  have ok2 : Ok4 0 5 64 1 0 false [] (im4B 11 0 0 Q) := ⟨by omega, by omega, by omega, by omega, by omega, rfl, by simp, by simp, by simp, by rw [hIl]; simp⟩
  have h3 := ev_own4_ok hS (n + 1) (s := B) (tos := 0) (i0 := 0) (ttl := 9) (pt := 17) (df := false) (mo := false) (fr := [192, 0, 2, 1]) (to := [192, 0, 2, 2]) (op := []) (da := D) (a := [192, 0, 2, 9]) (k := 11) (c := 0) (r := 0) (id := 5) (id' := 5) (md := []) (mtu := 1500) (q := Q)
    hp rfl rfl rfl rfl (by omega) (by omega) hm (by omega) (by omega) (by rw [hDl, hBl]; simp) (by omega) (by simp) (by rw [hDl]; decide) (by rw [hDl, ← hQ, List.take_take]; rfl) rfl (by unfold I64; omega) (why4_zero.2 ok2)
  have h4 := (ev_parse_by4 hS (n + 2) (df := false) ok2 (fr := [192, 0, 2, 9]) (to := [192, 0, 2, 1]) rfl rfl).2
  have hSl := by4_len (tos := 0) (id := 5) (ttl := 64) (pt := 1) (at' := 0) (df := false) (mo := false) (fr := [192, 0, 2, 9]) (to := [192, 0, 2, 1]) (op := []) (da := im4B 11 0 0 Q) rfl rfl
  rw [hIl] at hSl
  have hSl : (by4 0 5 64 1 0 false false [192, 0, 2, 9] [192, 0, 2, 1] [] (im4B 11 0 0 Q)).length = 576 := by rw [hSl]; rfl
  have h5 := ev_inside4 hS (n + 2) Q (by omega)
  rw [hi.1, hi.2.1, hi.2.2, hDl] at h5
  have hD2 : (D.take (548 - (20 + ([] : List UInt8).length))).length = 528 := by rw [List.length_take, hDl]; rfl
  generalize D.take (548 - (20 + ([] : List UInt8).length)) = D2 at *
  have h6 := ev_quote6w hS n (tos := 0) (id := 0) (ttl := 9) (pt := 17) (df := false) (fr := [192, 0, 2, 1]) (to := [192, 0, 2, 2]) (op := []) (da := D2) (a := List.replicate 16 0) (b := List.replicate 16 0) (claim := 600) (p := 1) (q := 2) rfl rfl rfl rfl (by omega) (by omega) (by omega) (by omega) (by omega) (by omega) (by omega) (by omega)
  have hpo := poF_ports (udp := decide ((17 : Int) = 17)) (d := D2) (o := [192, 0, 2, 1] ++ [192, 0, 2, 2]) (w := List.replicate 16 0 ++ List.replicate 16 0) (p := 1) (q := 2) (by omega)
  have hpl := @poF_len (decide ((17 : Int) = 17)) D2 ([192, 0, 2, 1] ++ [192, 0, 2, 2]) (List.replicate 16 0 ++ List.replicate 16 0) 1 2
  generalize poF (decide ((17 : Int) = 17)) D2 ([192, 0, 2, 1] ++ [192, 0, 2, 2]) (List.replicate 16 0 ++ List.replicate 16 0) 1 2 = PO at *
  have hTl : (beB 4 (1610612736 + Int.toNat 0 * 1048576) ++ (beB 2 600 ++ (beB 1 (Int.toNat 17) ++ (beB 1 (Int.toNat 9) ++ (List.replicate 16 0 ++ (List.replicate 16 0 ++ PO)))))).length = 568 := by
    simp only [List.length_append, beB_len, List.length_replicate]; omega
  have hTd : ((beB 4 (1610612736 + Int.toNat 0 * 1048576) ++ (beB 2 600 ++ (beB 1 (Int.toNat 17) ++ (beB 1 (Int.toNat 9) ++ (List.replicate 16 0 ++ (List.replicate 16 0 ++ PO)))))).drop 40).take 4 = [0, 1, 0, 2] := by
    rw [show (beB 4 (1610612736 + Int.toNat 0 * 1048576) ++ (beB 2 600 ++ (beB 1 (Int.toNat 17) ++ (beB 1 (Int.toNat 9) ++ (List.replicate 16 0 ++ (List.replicate 16 0 ++ PO)))))) = (beB 4 (1610612736 + Int.toNat 0 * 1048576) ++ (beB 2 600 ++ (beB 1 (Int.toNat 17) ++ (beB 1 (Int.toNat 9) ++ (List.replicate 16 0 ++ List.replicate 16 0))))) ++ PO by simp only [List.append_assoc]]
    rw [List.drop_left' (by simp only [List.length_append, beB_len, List.length_replicate]), hpo]
    rfl
  have h6 : S.ev (n + 6) id_fault_Quote6 [ip4LV 0 0 9 17 0 false false [192, 0, 2, 1] [192, 0, 2, 2] [] D2, .int .i64 600, .agg [.bytes [0, 0, 0, 0, 0, 0, 0, 0, 0, 0, 0, 0, 0, 0, 0, 0], .int .i64 1], .agg [.bytes [0, 0, 0, 0, 0, 0, 0, 0, 0, 0, 0, 0, 0, 0, 0, 0], .int .i64 2]] none = _ := h6
  generalize beB 4 (1610612736 + Int.toNat 0 * 1048576) ++ (beB 2 600 ++ (beB 1 (Int.toNat 17) ++ (beB 1 (Int.toNat 9) ++ (List.replicate 16 0 ++ (List.replicate 16 0 ++ PO))))) = T at *
  have h3 : S.ev (n + 6) id_fault_Own4 [.agg [.int .i64 11, .int .i64 0, .int .u32 0, .str []], .str B, .bytes [192, 0, 2, 9], .int .i64 5, .int .i64 1500] none = _ := h3
  generalize by4 0 5 64 1 0 false false [192, 0, 2, 9] [192, 0, 2, 1] [] (im4B 11 0 0 Q) = SS at *
  generalize im4B 11 0 0 Q = IB at *
  have n1 : ((600 : Nat) : Int) = 600 := rfl
  have n2 : ((576 : Nat) : Int) = 576 := rfl
  have n3 : ((556 : Nat) : Int) = 556 := rfl
  have n4 : ((528 : Nat) : Int) = 528 := rfl
  have n5 : ((568 : Nat) : Int) = 568 := rfl
  rw [n1] at h5
  have t8 : (IB.drop 8).take (556 - 8) = Q := by rw [hId]; exact List.take_of_length_le (by omega)
  have t9 : Q.take 548 = Q := List.take_of_length_le (by omega)
  have z0 : List.replicate 0 (120 : UInt8) = [] := rfl
  (try simp only [guard_merge, or_merge, and_merge, or_pick, and_pick, guard_or, guard_and]); simp only [to_ob]
  simp only [go_sem, ↓reduceIte, reduceCtorEq, upd_ne, back_new (no_at), Nat.reduceAdd, Nat.reduceEqDiff, Nat.reduceMul, Nat.reduceSub, Nat.reduceLeDiff, Nat.reduceLT, Int.reduceToNat, Int.reduceLE, Int.reduceLT, Int.reduceEq, UInt8.reduceOfNat, List.getElem?_map, Int.toNat_natCast, -List.reduceReplicate, z0, h0, h1, h2, h3, h4, h5, h6, hBl, hSl, hIl, hD2, hTl, hQ, hId, hTd, t8, t9, n1, n2, n3, n4, n5, fE, Nat.sub_zero, List.drop_zero, List.length_cons, List.length_nil, decide_true, beq_self_eq_true, Bool.and_self, Bool.not_true, Bool.false_eq_true]
end
end Go.Ev

namespace Go.Ev
set_option linter.unusedSimpArgs false
set_option linter.unusedVariables false
set_option maxRecDepth 10000
set_option maxHeartbeats 8000000
section
variable {S : Sys} (hS : Has S) (n : Nat)
include hS
theorem ev_FaultCarries {vs : List LV} (h : fitVL [.agg [.int .i64, .int .i64, .int .u32, .str], .agg [.int .i64, .int .i64, .int .u32, .str], .int .i64, .int .i64, .agg [.bytes 16, .int .i64], .agg [.bytes 16, .int .i64], .agg [.bytes 4, .int .i64], .agg [.bytes 4, .int .i64]] vs) :
    S.ev (n + 8) id_interpreterlaw15_FaultCarries vs none = some (.bool true, none) := by
  obtain ⟨x, r, e, g1, q1⟩ := fit_cons h; clear h; subst e; obtain ⟨k, c, rr, d, rfl, hk, hc, hr, hd⟩ := fit_msg g1; clear g1
  obtain ⟨x, r, e, g2, q2⟩ := fit_cons q1; clear q1; subst e; obtain ⟨k', c', rr', d', rfl, hk', hc', hr', hd'⟩ := fit_msg g2; clear g2
  obtain ⟨x, r, e, g3, q3⟩ := fit_cons q2; clear q2; subst e; obtain ⟨mt4, rfl, hm4⟩ := fit_i64 g3; clear g3
  obtain ⟨x, r, e, g4, q4⟩ := fit_cons q3; clear q3; subst e; obtain ⟨mt6, rfl, hm6⟩ := fit_i64 g4; clear g4
  obtain ⟨x, r, e, g5, q5⟩ := fit_cons q4; clear q4; subst e; obtain ⟨a, p, rfl, ha, hp⟩ := fit_t g5; clear g5
  obtain ⟨x, r, e, g6, q6⟩ := fit_cons q5; clear q5; subst e; obtain ⟨b, q, rfl, hb, hq⟩ := fit_t g6; clear g6
  obtain ⟨x, r, e, g7, q7⟩ := fit_cons q6; clear q6; subst e; obtain ⟨a4, p4, rfl, ha4, hp4⟩ := fit_t g7; clear g7
  obtain ⟨x, r, e, g8, q8⟩ := fit_cons q7; clear q7; subst e; obtain ⟨b4, q4, rfl, hb4, hq4⟩ := fit_t g8; clear g8
  obtain rfl := fit_nil q8
  rw [Sys.step hS.h_interpreterlaw15_FaultCarries, F_interpreterlaw15_FaultCarries_eq]
  unfold F_interpreterlaw15_FaultCarries
  have hw := ev_awake15 hS n
  (try simp only [guard_merge, or_merge, and_merge, or_pick, and_pick, guard_or, guard_and]); simp only [to_ob]
  by_cases c1 : 70000 < (d.length : Int)
  · simp only [go_sem, ↓reduceIte, reduceCtorEq, upd_ne, back_new (no_at), Nat.reduceAdd, Nat.reduceEqDiff, Nat.reduceMul, Nat.reduceSub, Nat.reduceLeDiff, Nat.reduceLT, Int.reduceToNat, Int.reduceLE, Int.reduceLT, Int.reduceEq, UInt8.reduceOfNat, List.getElem?_map, Int.toNat_natCast, hw, ha, hb, ha4, hb4, c1]
  by_cases c2 : 70000 < (d'.length : Int)
  · simp only [go_sem, ↓reduceIte, reduceCtorEq, upd_ne, back_new (no_at), Nat.reduceAdd, Nat.reduceEqDiff, Nat.reduceMul, Nat.reduceSub, Nat.reduceLeDiff, Nat.reduceLT, Int.reduceToNat, Int.reduceLE, Int.reduceLT, Int.reduceEq, UInt8.reduceOfNat, List.getElem?_map, Int.toNat_natCast, hw, ha, hb, ha4, hb4, c1, c2]
  have h1 := ev_carry6 hS n (k := k) (c := c) (r := rr) (d := d) (mt4 := mt4) (mt6 := mt6) (a := a) (b := b) (p := p) (q := q) (by omega) hr ha hb
  have h2 := ev_carry4 hS n (k := k') (c := c') (r := rr') (d := d') (mt4 := mt4) (mt6 := mt6) (a := a4) (b := b4) (p := p4) (q := q4) (by omega) hr' ha4 hb4
  have h3 := ev_rcarry6 hS n (k := k) (c := c) (r := rr) (d := d) (mt4 := mt4) (mt6 := mt6) (a := a) (b := b) (p := p) (q := q) (by omega) hr ha hb
  have h4 := ev_rcarry4 hS n (k := k') (c := c') (r := rr') (d := d') (mt4 := mt4) (mt6 := mt6) (a := a4) (b := b4) (p := p4) (q := q4) (by omega) hr' ha4 hb4
  have hf : ∀ X, ∃ k c r d b, carO X = .tup [msgLV k c r d, .bool b] := fun X => by
    cases X with
    | none => exact ⟨_, _, _, _, _, rfl⟩
    | some x => obtain ⟨⟨k, c, r⟩, d⟩ := x; exact ⟨_, _, _, _, _, rfl⟩
  obtain ⟨xk, xc, xr, xd, xb, hx⟩ := hf (ca6 k c rr d mt4 mt6 a b p q)
  obtain ⟨yk, yc, yr, yd, yb, hy⟩ := hf (ca4 k' c' rr' d' mt4 mt6 a4 b4 p4 q4)
  rw [hx] at h1 h3
  rw [hy] at h2 h4
  simp only [go_sem, ↓reduceIte, reduceCtorEq, upd_ne, back_new (no_at), Nat.reduceAdd, Nat.reduceEqDiff, Nat.reduceMul, Nat.reduceSub, Nat.reduceLeDiff, Nat.reduceLT, Int.reduceToNat, Int.reduceLE, Int.reduceLT, Int.reduceEq, UInt8.reduceOfNat, List.getElem?_map, Int.toNat_natCast, hw, ha, hb, ha4, hb4, c1, c2, h1, h2, h3, h4, beq_self_eq_true, Bool.and_self]
end
end Go.Ev
