/- Part 7 of a proof: what the functions yield. It stands by itself; no condition. -/
import Derived.Test.YtbdkfdkmefebnaaE6
/- Layer 15, the document's: the packet that is quoted, of IPv4. -/
namespace Go.Ev
set_option linter.unusedSimpArgs false
set_option linter.unusedVariables false
set_option maxRecDepth 10000
set_option maxHeartbeats 8000000
section
variable {S : Sys} (hS : Has S) (n : Nat)
include hS
theorem ev_number15 (s : List UInt8) (i : Nat) (h : i + 2 ≤ s.length) (hs : s.length ≤ 140737488351232) : S.ev (n + 3) id_interpreterref15_number [.str s, .int .i64 (i : Int), .int .i64 2] none = some (.int .i64 (wAt s i : Nat), none) := by
  rw [Sys.step hS.h_interpreterref15_number, F_interpreterref15_number_eq]
  unfold F_interpreterref15_number
  have ht : S.ev (n + 2) id_interpreterref01_Reader_Number [.ptr 0 0 [] 0, .int .i64 2] (some (rdLV s i)) = some (.tup [.int .i64 ((numN ((s.drop i).take 2) : Nat) : Int), .int .i64 0], some (rdLV s (i + 2))) := ev_rNumber hS n s i 2 h (by omega) hs
  rw [numN_two h] at ht
  simp only [to_ob]
  simp only [go_sem, ↓reduceIte, reduceCtorEq, upd_ne, back_new (no_at), Nat.reduceAdd, Nat.reduceEqDiff, Nat.reduceMul, Nat.reduceSub, Nat.reduceLeDiff, Nat.reduceLT, Int.reduceToNat, Int.reduceLE, Int.reduceLT, Int.reduceEq, UInt8.reduceOfNat, ht]
theorem ev_little (d : List UInt8) (c : Int) : S.ev (n + 1) id_interpreterref15_little [.str d, .int .i64 c] none = some (.bool (decide ((d.length : Int) < min 8 c)), none) := by
  rw [Sys.step hS.h_interpreterref15_little, F_interpreterref15_little_eq]
  unfold F_interpreterref15_little
  (try simp only [guard_merge, or_merge, and_merge, or_pick, and_pick, guard_or, guard_and]); simp only [to_ob]
  by_cases h1 : (d.length : Int) < 8 <;> by_cases h2 : (d.length : Int) < c
  · rw [decide_eq_true (p := (d.length : Int) < min 8 c) (by omega)]; simp only [go_sem, ↓reduceIte, reduceCtorEq, upd_ne, back_new (no_at), Nat.reduceAdd, Nat.reduceEqDiff, Nat.reduceMul, Nat.reduceSub, Nat.reduceLeDiff, Nat.reduceLT, Int.reduceToNat, Int.reduceLE, Int.reduceLT, Int.reduceEq, UInt8.reduceOfNat, h1, h2]
  · rw [decide_eq_false (p := (d.length : Int) < min 8 c) (by omega)]; simp only [go_sem, ↓reduceIte, reduceCtorEq, upd_ne, back_new (no_at), Nat.reduceAdd, Nat.reduceEqDiff, Nat.reduceMul, Nat.reduceSub, Nat.reduceLeDiff, Nat.reduceLT, Int.reduceToNat, Int.reduceLE, Int.reduceLT, Int.reduceEq, UInt8.reduceOfNat, h1, h2]
  · rw [decide_eq_false (p := (d.length : Int) < min 8 c) (by omega)]; simp only [go_sem, ↓reduceIte, reduceCtorEq, upd_ne, back_new (no_at), Nat.reduceAdd, Nat.reduceEqDiff, Nat.reduceMul, Nat.reduceSub, Nat.reduceLeDiff, Nat.reduceLT, Int.reduceToNat, Int.reduceLE, Int.reduceLT, Int.reduceEq, UInt8.reduceOfNat, h1, h2]
  · rw [decide_eq_false (p := (d.length : Int) < min 8 c) (by omega)]; simp only [go_sem, ↓reduceIte, reduceCtorEq, upd_ne, back_new (no_at), Nat.reduceAdd, Nat.reduceEqDiff, Nat.reduceMul, Nat.reduceSub, Nat.reduceLeDiff, Nat.reduceLT, Int.reduceToNat, Int.reduceLE, Int.reduceLT, Int.reduceEq, UInt8.reduceOfNat, h1, h2]
theorem ev_rinside4 (s : List UInt8) (hs : s.length ≤ 1000000) : S.ev (n + 4) id_interpreterref15_Inside4 [.str s] none = some (.tup [iLV4 s, .int .i64 (iC4 s), .int .i64 (iK4 s)], none) := by
  rw [Sys.step hS.h_interpreterref15_Inside4, F_interpreterref15_Inside4_eq]
  unfold F_interpreterref15_Inside4
  (try simp only [guard_merge, or_merge, and_merge, or_pick, and_pick, guard_or, guard_and]); simp only [to_ob]
  unfold iLV4 iC4 iK4
  by_cases c1 : s.length < 20
  · have c1' : (s.length : Int) < 20 := by omega
    simp only [go_sem, ↓reduceIte, reduceCtorEq, upd_ne, back_new (no_at), Nat.reduceAdd, Nat.reduceEqDiff, Nat.reduceMul, Nat.reduceSub, Nat.reduceLeDiff, Nat.reduceLT, Int.reduceToNat, Int.reduceLE, Int.reduceLT, Int.reduceEq, UInt8.reduceOfNat, c1, c1']
  · have c1' : ¬ (s.length : Int) < 20 := by omega
    have g0 := get_def (s := s) (i := 0) (by omega)
    have hb0 := bAt_le s 0
    have e1 : IntKind.i64.wrap ((s.getD 0 0).toNat : Int) = ((bAt s 0 : Nat) : Int) := wrap_id (by omega) (by unfold bAt at hb0; omega)
    have e2 : IntKind.i64.wrap (4 * IntKind.i64.wrap (((bAt s 0 : Nat) : Int) - 64)) = 4 * (((bAt s 0 : Nat) : Int) - 64) := by
      rw [wrap_id (n := ((bAt s 0 : Nat) : Int) - 64) (by omega) (by omega), wrap_id (by omega) (by omega)]
    by_cases c2 : bAt s 0 / 16 ≠ 4 ∨ n4 s < 20
    · rw [if_neg c1, if_pos c2]
      by_cases c2a : 4 * (((bAt s 0 : Nat) : Int) - 64) < 20
      · simp only [go_sem, ↓reduceIte, reduceCtorEq, upd_ne, back_new (no_at), Nat.reduceAdd, Nat.reduceEqDiff, Nat.reduceMul, Nat.reduceSub, Nat.reduceLeDiff, Nat.reduceLT, Int.reduceToNat, Int.reduceLE, Int.reduceLT, Int.reduceEq, UInt8.reduceOfNat, List.getElem?_map, Int.toNat_natCast, c1', c2a, g0, byteLV, e1, e2]
      · have c2b : 60 < 4 * (((bAt s 0 : Nat) : Int) - 64) := by unfold n4 at c2; omega
        simp only [go_sem, ↓reduceIte, reduceCtorEq, upd_ne, back_new (no_at), Nat.reduceAdd, Nat.reduceEqDiff, Nat.reduceMul, Nat.reduceSub, Nat.reduceLeDiff, Nat.reduceLT, Int.reduceToNat, Int.reduceLE, Int.reduceLT, Int.reduceEq, UInt8.reduceOfNat, List.getElem?_map, Int.toNat_natCast, c1', c2a, c2b, g0, byteLV, e1, e2]
    · have hn : 4 * (((bAt s 0 : Nat) : Int) - 64) = ((n4 s : Nat) : Int) := by unfold n4 at c2 ⊢; omega
      rw [hn] at e2
      have c2a : ¬ ((n4 s : Nat) : Int) < 20 := by omega
      have c2b : ¬ 60 < ((n4 s : Nat) : Int) := by unfold n4; omega
      by_cases c3 : s.length < n4 s
      · have c3' : (s.length : Int) < ((n4 s : Nat) : Int) := by omega
        simp only [go_sem, ↓reduceIte, reduceCtorEq, upd_ne, back_new (no_at), Nat.reduceAdd, Nat.reduceEqDiff, Nat.reduceMul, Nat.reduceSub, Nat.reduceLeDiff, Nat.reduceLT, Int.reduceToNat, Int.reduceLE, Int.reduceLT, Int.reduceEq, UInt8.reduceOfNat, List.getElem?_map, Int.toNat_natCast, c1, c1', c2, c2a, c2b, c3, c3', g0, byteLV, e1, e2]
      · have c3' : ¬ (s.length : Int) < ((n4 s : Nat) : Int) := by omega
        have c3'' : n4 s ≤ s.length := by omega
        have hr := ev_rOf hS (n + 1) (s.take (n4 s)) (by rw [List.length_take]; omega)
        have hr : S.ev (n + 3) id_interpreterref02_Of [.str (s.take (n4 s))] none = some (.int .i64 (sumS (s.take (n4 s))), none) := hr
        by_cases c4 : sumS (s.take (n4 s)) = 0
        · have t2 : S.ev (n + 3) id_interpreterref15_number [.str s, .int .i64 2, .int .i64 2] none = some (.int .i64 (wAt s 2 : Nat), none) := ev_number15 hS n s 2 (by omega) (by omega)
          have t6 : S.ev (n + 3) id_interpreterref15_number [.str s, .int .i64 6, .int .i64 2] none = some (.int .i64 (wAt s 6 : Nat), none) := ev_number15 hS n s 6 (by omega) (by omega)
          have t4 : S.ev (n + 3) id_interpreterref15_number [.str s, .int .i64 4, .int .i64 2] none = some (.int .i64 (wAt s 4 : Nat), none) := ev_number15 hS n s 4 (by omega) (by omega)
          have c4n : ¬ (sumS (s.take (n4 s)) ≠ 0) := fun h => h c4
          have hw6 := wAt_le s 6
          have hw2 := wAt_le s 2
          have f1 : IntKind.i64.wrap (Int.tmod ((wAt s 6 : Nat) : Int) 8192 * 8) = pat4 s := by
            rw [show Int.tmod ((wAt s 6 : Nat) : Int) 8192 = ((wAt s 6 % 8192 : Nat) : Int) from rfl, wrap_id (by omega) (by omega)]; unfold pat4; omega
          have f2 : IntKind.i64.wrap (Int.tdiv ((wAt s 6 : Nat) : Int) 16384) = ((wAt s 6 / 16384 : Nat) : Int) := by
            rw [show Int.tdiv ((wAt s 6 : Nat) : Int) 16384 = ((wAt s 6 / 16384 : Nat) : Int) from rfl, wrap_id (by omega) (by omega)]
          have f3 : IntKind.i64.wrap (Int.tdiv ((wAt s 6 : Nat) : Int) 8192) = ((wAt s 6 / 8192 : Nat) : Int) := by
            rw [show Int.tdiv ((wAt s 6 : Nat) : Int) 8192 = ((wAt s 6 / 8192 : Nat) : Int) from rfl, wrap_id (by omega) (by omega)]
          have f5 : decide (Int.tmod ((wAt s 6 / 8192 : Nat) : Int) 2 = 1) = pmo4 s := by
            rw [show Int.tmod ((wAt s 6 / 8192 : Nat) : Int) 2 = ((wAt s 6 / 8192 % 2 : Nat) : Int) from rfl]; unfold pmo4; exact decide_eq_decide.2 (by omega)
          have f6 : IntKind.i64.wrap (pat4 s + ((wAt s 2 : Nat) : Int)) = ((wAt s 6 % 8192 * 8 + wAt s 2 : Nat) : Int) := by unfold pat4; rw [wrap_id (by omega) (by omega)]; omega
          by_cases c5 : wAt s 2 < n4 s ∨ 32768 ≤ wAt s 6 ∨ 65535 < wAt s 6 % 8192 * 8 + wAt s 2
          · rw [if_neg c1, if_neg c2, if_neg c3, if_neg c4n, if_pos c5]
            by_cases d1 : ((wAt s 2 : Nat) : Int) < ((n4 s : Nat) : Int) <;> by_cases d2 : 32768 ≤ ((wAt s 6 : Nat) : Int) <;> by_cases d3 : 65535 < ((wAt s 6 % 8192 * 8 + wAt s 2 : Nat) : Int) <;> first | (exfalso; omega) |
              simp only [go_sem, ↓reduceIte, reduceCtorEq, upd_ne, back_new (no_at), Nat.reduceAdd, Nat.reduceEqDiff, Nat.reduceMul, Nat.reduceSub, Nat.reduceLeDiff, Nat.reduceLT, Int.reduceToNat, Int.reduceLE, Int.reduceLT, Int.reduceEq, UInt8.reduceOfNat, List.getElem?_map, Int.toNat_natCast, Nat.sub_zero, c1', c2a, c2b, c3', c3'', c4, hr, t2, t6, f1, f6, d1, d2, d3, g0, byteLV, e1, e2]
          · have d1 : ¬ ((wAt s 2 : Nat) : Int) < ((n4 s : Nat) : Int) := by omega
            have d2 : ¬ 32768 ≤ ((wAt s 6 : Nat) : Int) := by omega
            have d3 : ¬ 65535 < ((wAt s 6 % 8192 * 8 + wAt s 2 : Nat) : Int) := by omega
            have d3' : ¬ 65535 < wAt s 6 % 8192 * 8 + wAt s 2 := by omega
            have f4 : decide (((wAt s 6 / 16384 : Nat) : Int) = 1) = pdf4 s := by unfold pdf4; exact decide_eq_decide.2 (by omega)
            have b1 : IntKind.i64.wrap (((wAt s 2 : Nat) : Int) - ((n4 s : Nat) : Int)) = ((wAt s 2 - n4 s : Nat) : Int) := by rw [wrap_id (by omega) (by omega)]; omega
            have hsh := ev_little hS (n + 2) (pda4 s) ((wAt s 2 - n4 s : Nat) : Int)
            rw [if_neg c1, if_neg c2, if_neg c3, if_neg c4n, if_neg c5]
            have g1 := get_def (s := s) (i := 1) (by omega)
            have g8 := get_def (s := s) (i := 8) (by omega)
            have g9 := get_def (s := s) (i := 9) (by omega)
            have hb1 := bAt_le s 1
            have hb8 := bAt_le s 8
            have hb9 := bAt_le s 9
            have w1 : IntKind.i64.wrap ((s.getD 1 0).toNat : Int) = ((bAt s 1 : Nat) : Int) := wrap_id (by omega) (by unfold bAt at hb1; omega)
            have w8 : IntKind.i64.wrap ((s.getD 8 0).toNat : Int) = ((bAt s 8 : Nat) : Int) := wrap_id (by omega) (by unfold bAt at hb8; omega)
            have w9 : IntKind.i64.wrap ((s.getD 9 0).toNat : Int) = ((bAt s 9 : Nat) : Int) := wrap_id (by omega) (by unfold bAt at hb9; omega)
            have l20 : 20 ≤ n4 s := by omega
            have hlf : (pfr4 s).length = 4 := by unfold pfr4; simp; omega
            have hlt : (pto4 s).length = 4 := by unfold pto4; simp; omega
            have v3 : (s.drop 20).take (n4 s - 20) = pop4 s := rfl
            have v7 : (s.drop (n4 s)).take (s.length - n4 s) = s.drop (n4 s) := List.take_of_length_le (by simp)
            by_cases p1 : ((wAt s 2 - n4 s : Nat) : Int) < ((s.length - n4 s : Nat) : Int)
            · have v8 : (s.drop (n4 s)).take (wAt s 2 - n4 s) = pda4 s := rfl
              have m1 : wAt s 2 - n4 s ≤ s.length - n4 s := by omega
              by_cases c6 : (pda4 s).length < min 8 (wAt s 2 - n4 s)
              · rw [decide_eq_true (by omega)] at hsh
                rw [if_pos c6]
                simp only [go_sem, ↓reduceIte, reduceCtorEq, upd_ne, back_new (no_at), Nat.reduceAdd, Nat.reduceEqDiff, Nat.reduceMul, Nat.reduceSub, Nat.reduceLeDiff, Nat.reduceLT, Int.reduceToNat, Int.reduceLE, Int.reduceLT, Int.reduceEq, UInt8.reduceOfNat, List.getElem?_map, Int.toNat_natCast, Nat.sub_zero, c1', c2a, c2b, c3', c3'', c4, hr, t2, t6, t4, d1, d2, d3, d3', p1, g0, g1, g8, g9, byteLV, e1, e2, w1, w8, w9, f1, f2, f3, f4, f5, f6, b1, l20, v3, v7, v8, m1, List.length_drop, hsh]
              rw [decide_eq_false (by omega)] at hsh
              rw [if_neg c6]
              simp only [go_sem, ↓reduceIte, reduceCtorEq, upd_ne, back_new (no_at), Nat.reduceAdd, Nat.reduceEqDiff, Nat.reduceMul, Nat.reduceSub, Nat.reduceLeDiff, Nat.reduceLT, Int.reduceToNat, Int.reduceLE, Int.reduceLT, Int.reduceEq, UInt8.reduceOfNat, List.getElem?_map, Int.toNat_natCast, Nat.sub_zero, c1', c2a, c2b, c3', c3'', c4, hr, t2, t6, t4, d1, d2, d3, d3', p1, g0, g1, g8, g9, byteLV, e1, e2, w1, w8, w9, f1, f2, f3, f4, f5, f6, b1, l20, v3, v7, v8, m1, List.length_drop, hsh]
              refine while_rule (fun k q => ∃ i : Nat, i + k = 4 ∧ q = ([.int .i64 (i : Int)], upd (upd (upd noSlots 2 (.obj 1 z4LV)) 5 (.obj 1 z4LV)) 10 (.obj 1 (ip4LV (bAt s 1 : Nat) (wAt s 4 : Nat) (bAt s 8 : Nat) (bAt s 9 : Nat) (pat4 s) (pdf4 s) (pmo4 s) ((pfr4 s).take i ++ List.replicate (4 - i) 0) ((pto4 s).take i ++ List.replicate (4 - i) 0) (pop4 s) (pda4 s))))) 4 ⟨0, rfl, by simp⟩ ?_
              rintro k q ⟨i, hi, rfl⟩
              simp only [go_sem, ↓reduceIte, reduceCtorEq, upd_ne, back_new (no_at), Nat.reduceAdd, Nat.reduceEqDiff, Nat.reduceMul, Nat.reduceSub, Nat.reduceLeDiff, Nat.reduceLT, Int.reduceToNat, Int.reduceLE, Int.reduceLT, Int.reduceEq, UInt8.reduceOfNat]
              refine nxt_ite (fun h => ?_) (fun h => ?_)
              · have hi4 : i < 4 := by omega
                have ga := get_def (s := s) (i := 12 + i) (by omega)
                have gb := get_def (s := s) (i := 16 + i) (by omega)
                have i1 : IntKind.i64.wrap (12 + (i : Int)) = ((12 + i : Nat) : Int) := by rw [wrap_id (by omega) (by omega)]; omega
                have i2 : IntKind.i64.wrap (16 + (i : Int)) = ((16 + i : Nat) : Int) := by rw [wrap_id (by omega) (by omega)]; omega
                have i3 : IntKind.i64.wrap ((i : Int) + 1) = ((i + 1 : Nat) : Int) := by rw [wrap_id (by omega) (by omega)]; omega
                have hla : ((pfr4 s).take i ++ List.replicate (4 - i) 0).length = 4 := by rw [List.length_append, List.length_take, List.length_replicate]; omega
                have hlb : ((pto4 s).take i ++ List.replicate (4 - i) 0).length = 4 := by rw [List.length_append, List.length_take, List.length_replicate]; omega
                obtain ⟨ca, hca⟩ : ∃ c0, ((pfr4 s).take i ++ List.replicate (4 - i) 0)[i]? = some c0 := ⟨_, List.getElem?_eq_getElem (by omega)⟩
                obtain ⟨cb, hcb⟩ : ∃ c0, ((pto4 s).take i ++ List.replicate (4 - i) 0)[i]? = some c0 := ⟨_, List.getElem?_eq_getElem (by omega)⟩
                have sa := set_mid hlf hi4 (sub_get (s := s) (a := 12) (m := 4) hi4 (by omega))
                have sb := set_mid hlt hi4 (sub_get (s := s) (a := 16) (m := 4) hi4 (by omega))
                have hla2 : ((pfr4 s).take (i + 1) ++ List.replicate (4 - (i + 1)) 0).length = 4 := by rw [List.length_append, List.length_take, List.length_replicate]; omega
                simp only [go_sem, ↓reduceIte, reduceCtorEq, upd_ne, back_new (no_at), Nat.reduceAdd, Nat.reduceEqDiff, Nat.reduceMul, Nat.reduceSub, Nat.reduceLeDiff, Nat.reduceLT, Int.reduceToNat, Int.reduceLE, Int.reduceLT, Int.reduceEq, UInt8.reduceOfNat, List.getElem?_map, Int.toNat_natCast, ga, gb, i1, i2, i3, hla, hlb, hla2, hca, hcb, sa, sb, hi4, byteLV, u8_lt, UInt8.ofNat_toNat, Nat.mul_one, eq_self]
                exact ⟨k - 1, by omega, i + 1, by omega, rfl⟩
              · obtain rfl : i = 4 := by omega
                have ta : (pfr4 s).take 4 ++ List.replicate (4 - 4) 0 = pfr4 s := by rw [List.take_of_length_le (by omega)]; simp
                have tb : (pto4 s).take 4 ++ List.replicate (4 - 4) 0 = pto4 s := by rw [List.take_of_length_le (by omega)]; simp
                rw [ta, tb]
                simp only [go_sem, ↓reduceIte, reduceCtorEq, upd_ne, back_new (no_at), Nat.reduceAdd, Nat.reduceEqDiff, Nat.reduceMul, Nat.reduceSub, Nat.reduceLeDiff, Nat.reduceLT, Int.reduceToNat, Int.reduceLE, Int.reduceLT, Int.reduceEq, UInt8.reduceOfNat, Nxt, exIf, hlf, hlt, b1]
            · have v8 : s.drop (n4 s) = pda4 s := (List.take_of_length_le (by simp; omega)).symm
              have v9 : (pda4 s).length = s.length - n4 s := by rw [← v8]; simp
              have v10 : (pda4 s).take (s.length - n4 s) = pda4 s := List.take_of_length_le (by omega)
              by_cases c6 : (pda4 s).length < min 8 (wAt s 2 - n4 s)
              · rw [decide_eq_true (by omega)] at hsh
                rw [if_pos c6]
                simp only [go_sem, ↓reduceIte, reduceCtorEq, upd_ne, back_new (no_at), Nat.reduceAdd, Nat.reduceEqDiff, Nat.reduceMul, Nat.reduceSub, Nat.reduceLeDiff, Nat.reduceLT, Int.reduceToNat, Int.reduceLE, Int.reduceLT, Int.reduceEq, UInt8.reduceOfNat, List.getElem?_map, Int.toNat_natCast, Nat.sub_zero, c1', c2a, c2b, c3', c3'', c4, hr, t2, t6, t4, d1, d2, d3, d3', p1, g0, g1, g8, g9, byteLV, e1, e2, w1, w8, w9, f1, f2, f3, f4, f5, f6, b1, l20, v3, v8, v9, v10, hsh]
              rw [decide_eq_false (by omega)] at hsh
              rw [if_neg c6]
              simp only [go_sem, ↓reduceIte, reduceCtorEq, upd_ne, back_new (no_at), Nat.reduceAdd, Nat.reduceEqDiff, Nat.reduceMul, Nat.reduceSub, Nat.reduceLeDiff, Nat.reduceLT, Int.reduceToNat, Int.reduceLE, Int.reduceLT, Int.reduceEq, UInt8.reduceOfNat, List.getElem?_map, Int.toNat_natCast, Nat.sub_zero, c1', c2a, c2b, c3', c3'', c4, hr, t2, t6, t4, d1, d2, d3, d3', p1, g0, g1, g8, g9, byteLV, e1, e2, w1, w8, w9, f1, f2, f3, f4, f5, f6, b1, l20, v3, v8, v9, v10, hsh]
              refine while_rule (fun k q => ∃ i : Nat, i + k = 4 ∧ q = ([.int .i64 (i : Int)], upd (upd (upd noSlots 2 (.obj 1 z4LV)) 5 (.obj 1 z4LV)) 10 (.obj 1 (ip4LV (bAt s 1 : Nat) (wAt s 4 : Nat) (bAt s 8 : Nat) (bAt s 9 : Nat) (pat4 s) (pdf4 s) (pmo4 s) ((pfr4 s).take i ++ List.replicate (4 - i) 0) ((pto4 s).take i ++ List.replicate (4 - i) 0) (pop4 s) (pda4 s))))) 4 ⟨0, rfl, by simp⟩ ?_
              rintro k q ⟨i, hi, rfl⟩
              simp only [go_sem, ↓reduceIte, reduceCtorEq, upd_ne, back_new (no_at), Nat.reduceAdd, Nat.reduceEqDiff, Nat.reduceMul, Nat.reduceSub, Nat.reduceLeDiff, Nat.reduceLT, Int.reduceToNat, Int.reduceLE, Int.reduceLT, Int.reduceEq, UInt8.reduceOfNat]
              refine nxt_ite (fun h => ?_) (fun h => ?_)
              · have hi4 : i < 4 := by omega
                have ga := get_def (s := s) (i := 12 + i) (by omega)
                have gb := get_def (s := s) (i := 16 + i) (by omega)
                have i1 : IntKind.i64.wrap (12 + (i : Int)) = ((12 + i : Nat) : Int) := by rw [wrap_id (by omega) (by omega)]; omega
                have i2 : IntKind.i64.wrap (16 + (i : Int)) = ((16 + i : Nat) : Int) := by rw [wrap_id (by omega) (by omega)]; omega
                have i3 : IntKind.i64.wrap ((i : Int) + 1) = ((i + 1 : Nat) : Int) := by rw [wrap_id (by omega) (by omega)]; omega
                have hla : ((pfr4 s).take i ++ List.replicate (4 - i) 0).length = 4 := by rw [List.length_append, List.length_take, List.length_replicate]; omega
                have hlb : ((pto4 s).take i ++ List.replicate (4 - i) 0).length = 4 := by rw [List.length_append, List.length_take, List.length_replicate]; omega
                obtain ⟨ca, hca⟩ : ∃ c0, ((pfr4 s).take i ++ List.replicate (4 - i) 0)[i]? = some c0 := ⟨_, List.getElem?_eq_getElem (by omega)⟩
                obtain ⟨cb, hcb⟩ : ∃ c0, ((pto4 s).take i ++ List.replicate (4 - i) 0)[i]? = some c0 := ⟨_, List.getElem?_eq_getElem (by omega)⟩
                have sa := set_mid hlf hi4 (sub_get (s := s) (a := 12) (m := 4) hi4 (by omega))
                have sb := set_mid hlt hi4 (sub_get (s := s) (a := 16) (m := 4) hi4 (by omega))
                have hla2 : ((pfr4 s).take (i + 1) ++ List.replicate (4 - (i + 1)) 0).length = 4 := by rw [List.length_append, List.length_take, List.length_replicate]; omega
                simp only [go_sem, ↓reduceIte, reduceCtorEq, upd_ne, back_new (no_at), Nat.reduceAdd, Nat.reduceEqDiff, Nat.reduceMul, Nat.reduceSub, Nat.reduceLeDiff, Nat.reduceLT, Int.reduceToNat, Int.reduceLE, Int.reduceLT, Int.reduceEq, UInt8.reduceOfNat, List.getElem?_map, Int.toNat_natCast, ga, gb, i1, i2, i3, hla, hlb, hla2, hca, hcb, sa, sb, hi4, byteLV, u8_lt, UInt8.ofNat_toNat, Nat.mul_one, eq_self]
                exact ⟨k - 1, by omega, i + 1, by omega, rfl⟩
              · obtain rfl : i = 4 := by omega
                have ta : (pfr4 s).take 4 ++ List.replicate (4 - 4) 0 = pfr4 s := by rw [List.take_of_length_le (by omega)]; simp
                have tb : (pto4 s).take 4 ++ List.replicate (4 - 4) 0 = pto4 s := by rw [List.take_of_length_le (by omega)]; simp
                rw [ta, tb]
                simp only [go_sem, ↓reduceIte, reduceCtorEq, upd_ne, back_new (no_at), Nat.reduceAdd, Nat.reduceEqDiff, Nat.reduceMul, Nat.reduceSub, Nat.reduceLeDiff, Nat.reduceLT, Int.reduceToNat, Int.reduceLE, Int.reduceLT, Int.reduceEq, UInt8.reduceOfNat, Nxt, exIf, hlf, hlt, b1]
        · simp only [go_sem, ↓reduceIte, reduceCtorEq, upd_ne, back_new (no_at), Nat.reduceAdd, Nat.reduceEqDiff, Nat.reduceMul, Nat.reduceSub, Nat.reduceLeDiff, Nat.reduceLT, Int.reduceToNat, Int.reduceLE, Int.reduceLT, Int.reduceEq, UInt8.reduceOfNat, List.getElem?_map, Int.toNat_natCast, Nat.sub_zero, c1, c1', c2, c2a, c2b, c3, c3', c3'', c4, hr, g0, byteLV, e1, e2]
end
end Go.Ev

/- Layer 15: the packet that is quoted, of IPv6. -/
namespace Go.Ev
set_option linter.unusedSimpArgs false
set_option linter.unusedVariables false
set_option maxRecDepth 10000
set_option maxHeartbeats 8000000
def th6 (s : List UInt8) : List UInt8 := (s.drop 40).take (wAt s 4)
def dD6 (k : ChR) : List UInt8 := if k.2.2.1 = 44 then k.2.2.2.drop 8 else k.2.2.2
def cl6 (s : List UInt8) (k : ChR) : Nat := wAt s 4 - ((th6 s).length - (dD6 k).length)
def iR6 (s : List UInt8) (k : ChR) : Int :=
  if k.1 ≠ 0 then k.1 else if k.2.2.1 = 44 ∧ k.2.2.2.length < 8 then 7 else if (dD6 k).length < min 8 (cl6 s k) then 7 else 0
def iK6 (s : List UInt8) : Int := if s.length < 40 then 7 else if bAt s 0 / 16 ≠ 6 then 8 else iR6 s (k6 s)
def iLV6 (s : List UInt8) : LV := if iK6 s = 0 then mk6 s (k6 s) else z6LV
def iC6 (s : List UInt8) : Int := if iK6 s = 0 then ((cl6 s (k6 s) : Nat) : Int) else 0
section
variable {S : Sys} (hS : Has S) (n : Nat)
include hS
theorem ev_inside6 (s : List UInt8) (hs : s.length ≤ 140737488351232) : S.ev (n + 4) id_fault_Inside6 [.str s] none = some (.tup [iLV6 s, .int .i64 (iC6 s), fE (iK6 s)], none) := by
  rw [Sys.step hS.h_fault_Inside6, F_fault_Inside6_eq]
  unfold F_fault_Inside6
  have hfa := ev_faultF hS (n + 2)
  (try simp only [guard_merge, or_merge, and_merge, or_pick, and_pick, guard_or, guard_and]); simp only [to_ob]
  unfold iLV6 iC6 iK6
  by_cases c1 : s.length < 40
  · have c1' : (s.length : Int) < 40 := by omega
    simp only [go_sem, ↓reduceIte, reduceCtorEq, upd_ne, back_new (no_at), Nat.reduceAdd, Nat.reduceEqDiff, Nat.reduceMul, Nat.reduceSub, Nat.reduceLeDiff, Nat.reduceLT, Int.reduceToNat, Int.reduceLE, Int.reduceLT, Int.reduceEq, UInt8.reduceOfNat, c1, c1', hfa, fE]
  · have c1' : ¬ (s.length : Int) < 40 := by omega
    have g0 := get_def (s := s) (i := 0) (by omega)
    have hb0 := bAt_le s 0
    have e4 : Int.fdiv ((s.getD 0 0).toNat : Int) (2 ^ min 4 8) = ((bAt s 0 / 16 : Nat) : Int) := by
      rw [show min 4 8 = 4 from rfl, Int.fdiv_eq_ediv_of_nonneg _ (by decide)]; rfl
    by_cases c2 : bAt s 0 / 16 ≠ 6
    · have c2' : ¬ ((bAt s 0 / 16 : Nat) : Int) = 6 := by omega
      simp only [go_sem, ↓reduceIte, reduceCtorEq, upd_ne, back_new (no_at), Nat.reduceAdd, Nat.reduceEqDiff, Nat.reduceMul, Nat.reduceSub, Nat.reduceLeDiff, Nat.reduceLT, Int.reduceToNat, Int.reduceLE, Int.reduceLT, Int.reduceEq, UInt8.reduceOfNat, List.getElem?_map, Int.toNat_natCast, c1, c1', c2, c2', hfa, fE, g0, byteLV, e4]
    · have c2' : ((bAt s 0 / 16 : Nat) : Int) = 6 := by omega
      have g4 := get_def (s := s) (i := 4) (by omega)
      have g5 := get_def (s := s) (i := 5) (by omega)
      have g6 := get_def (s := s) (i := 6) (by omega)
      have g7 := get_def (s := s) (i := 7) (by omega)
      have hb4 := (s.getD 4 0).toNat_lt
      have hb5 := (s.getD 5 0).toNat_lt
      have hb6 := bAt_le s 6
      have hb7 := bAt_le s 7
      have hw4 := wAt_le s 4
      have q1 : IntKind.i64.wrap ((s.getD 4 0).toNat : Int) = ((s.getD 4 0).toNat : Int) := wrap_id (by omega) (by omega)
      have q2 : IntKind.i64.wrap ((s.getD 5 0).toNat : Int) = ((s.getD 5 0).toNat : Int) := wrap_id (by omega) (by omega)
      have q3 : IntKind.i64.wrap (((s.getD 4 0).toNat : Int) * 2 ^ min 8 64) = (((s.getD 4 0).toNat * 256 : Nat) : Int) := by
        rw [show min 8 64 = 8 from rfl, wrap_id (by omega) (by omega)]; omega
      have q4 : bitsOf .or .i64 (((s.getD 4 0).toNat * 256 : Nat) : Int) ((s.getD 5 0).toNat : Int) = ((wAt s 4 : Nat) : Int) := w16_or _ _
      have q5 : IntKind.i64.wrap (40 + ((wAt s 4 : Nat) : Int)) = ((40 + wAt s 4 : Nat) : Int) := by rw [wrap_id (by omega) (by omega)]; omega
      have q6 : IntKind.i64.wrap ((s.getD 6 0).toNat : Int) = ((bAt s 6 : Nat) : Int) := wrap_id (by omega) (by unfold bAt at hb6; omega)
      have q7 : IntKind.i64.wrap ((s.getD 7 0).toNat : Int) = ((bAt s 7 : Nat) : Int) := wrap_id (by omega) (by unfold bAt at hb7; omega)
      have hmm : (if ((40 + wAt s 4 : Nat) : Int) < (s.length : Int) then ((40 + wAt s 4 : Nat) : Int) else (s.length : Int)) = ((min s.length (40 + wAt s 4) : Nat) : Int) := by split <;> omega
      have m1 : 40 ≤ min s.length (40 + wAt s 4) := by omega
      have m2 : min s.length (40 + wAt s 4) ≤ s.length := by omega
      have m3 : (s.drop 40).take (min s.length (40 + wAt s 4) - 40) = th6 s := by
        unfold th6
        by_cases q : s.length ≤ 40 + wAt s 4
        · rw [Nat.min_eq_left q, List.take_of_length_le (by simp), List.take_of_length_le (by simp; omega)]
        · rw [Nat.min_eq_right (by omega), show 40 + wAt s 4 - 40 = wAt s 4 by omega]
      have htl : (th6 s).length ≤ wAt s 4 := by unfold th6; rw [List.length_take]; omega
      have hN := ev_New hS (n + 2) s
      have hU := ev_U32 hS n s 0 (by omega) hs
      simp only [Nat.zero_add, List.drop_zero] at hU
      have hx := num4_lt s
      have d1 : Int.fdiv ((numN (s.take 4) : Nat) : Int) (2 ^ min 20 64) = ((numN (s.take 4) / 1048576 : Nat) : Int) := by
        rw [show min 20 64 = 20 from rfl, Int.fdiv_eq_ediv_of_nonneg _ (by decide)]; rfl
      have d2 : bitsOf .and .i64 ((numN (s.take 4) / 1048576 : Nat) : Int) 255 = pcl6 s := by
        rw [show (255 : Int) = ((2 ^ 8 - 1 : Nat) : Int) from rfl, bits_mask 8 (by omega) (show ((numN (s.take 4) / 1048576 : Nat) : Int) ≤ 9223372036854775807 by omega) (by decide)]
        rfl
      have d3 : bitsOf .and .i64 ((numN (s.take 4) : Nat) : Int) 1048575 = pfl6 s := by
        rw [show (1048575 : Int) = ((2 ^ 20 - 1 : Nat) : Int) from rfl, bits_mask 20 (by omega) (show ((numN (s.take 4) : Nat) : Int) ≤ 9223372036854775807 by omega) (by decide)]
        rfl
      have hlf : (pfr6 s).length = 16 := by unfold pfr6; simp; omega
      have hlt : (pto6 s).length = 16 := by unfold pto6; simp; omega
      have v5 : (s.drop 8).take 16 = pfr6 s := rfl
      have v6 : (s.drop 24).take 16 = pto6 s := rfl
      have l8 : 8 ≤ s.length := by omega
      have l24 : 24 ≤ s.length := by omega
      have t8 : (s.drop 8).take (s.length - 8) = s.drop 8 := List.take_of_length_le (by simp)
      have t24 : (s.drop 24).take (s.length - 24) = s.drop 24 := List.take_of_length_le (by simp)
      have hC : S.ev (n + 3) id_ip6_Chain [.int .i64 ((bAt s 6 : Nat) : Int), .str (th6 s)] none = some (chLV (k6 s), none) := ev_chain6 hS (n + 1) _ _ (by omega)
      have hkl : (k6 s).2.2.2.length ≤ (th6 s).length := chC_rest _ _ _ _
      rw [if_neg c1, if_neg c2]
      unfold chLV at hC
      unfold mk6 iR6 cl6 dD6
      rcases hks : k6 s with ⟨kc, kl, kp, kr⟩
      rw [hks] at hC hkl
      dsimp only at hC hkl ⊢
      generalize min s.length (40 + wAt s 4) = B at *
      have k1 : ∀ sl : Slots, wCopy (upd sl 12 (.obj 1 (ip6LV (pcl6 s) (pfl6 s) (bAt s 7 : Nat) y16 y16 (.lst none (kl.map extLV)) false 0 0 false kp kr))) (.arr 12 1 [3] 3 0 16) (.str (s.drop 8)) = _ := fun sl => wc3 rfl (by rw [List.length_drop]; omega)
      have k2 : ∀ sl : Slots, wCopy (upd sl 12 (.obj 1 (ip6LV (pcl6 s) (pfl6 s) (bAt s 7 : Nat) (pfr6 s) y16 (.lst none (kl.map extLV)) false 0 0 false kp kr))) (.arr 12 1 [4] 19 0 16) (.str (s.drop 24)) = _ := fun sl => wc4 hlf rfl (by rw [List.length_drop]; omega)
      by_cases c4 : kc = 0
      case neg =>
        simp only [go_sem, ↓reduceIte, reduceCtorEq, upd_ne, back_new (no_at), Nat.reduceAdd, Nat.reduceEqDiff, Nat.reduceMul, Nat.reduceSub, Nat.reduceLeDiff, Nat.reduceLT, Int.reduceToNat, Int.reduceLE, Int.reduceLT, Int.reduceEq, UInt8.reduceOfNat, List.getElem?_map, Int.toNat_natCast, Nat.sub_zero, pMinmax, pMinmax2, Option.bind_some, c1', c2', c4, hC, fE, g0, g4, g5, g6, byteLV, e4, q1, q2, q3, q4, q5, q6, hmm, m1, m2, m3, Bool.false_eq_true]
      subst c4
      rw [show fE 0 = .nili from rfl] at hC
      by_cases c5 : kp = 44
      · subst c5
        by_cases c6 : kr.length < 8
        · have c6' : (kr.length : Int) < 8 := by omega
          simp only [go_sem, ↓reduceIte, reduceCtorEq, upd_ne, back_new (no_at), Nat.reduceAdd, Nat.reduceEqDiff, Nat.reduceMul, Nat.reduceSub, Nat.reduceLeDiff, Nat.reduceLT, Int.reduceToNat, Int.reduceLE, Int.reduceLT, Int.reduceEq, UInt8.reduceOfNat, List.getElem?_map, Int.toNat_natCast, Nat.sub_zero, pMinmax, pMinmax2, Option.bind_some, c1', c2', c6, c6', hfa, hN, hU, hC, fE, g0, g4, g5, g6, g7, byteLV, e4, q1, q2, q3, q4, q5, q6, q7, d1, d2, d3, k1, k2, v5, v6, hlf, hlt, l8, l24, t8, t24, hmm, m1, m2, m3, Bool.false_eq_true]
        · have c6' : ¬ (kr.length : Int) < 8 := by omega
          have h0 := get_def (s := kr) (i := 0) (by omega)
          have h2 := get_def (s := kr) (i := 2) (by omega)
          have h3 := get_def (s := kr) (i := 3) (by omega)
          have i0 := bAt_le kr 0
          have i2 := (kr.getD 2 0).toNat_lt
          have i3 := (kr.getD 3 0).toNat_lt
          have hw2 := wAt_le kr 2
          have r1 : IntKind.i64.wrap ((kr.getD 2 0).toNat : Int) = ((kr.getD 2 0).toNat : Int) := wrap_id (by omega) (by omega)
          have r2 : IntKind.i64.wrap ((kr.getD 3 0).toNat : Int) = ((kr.getD 3 0).toNat : Int) := wrap_id (by omega) (by omega)
          have r3 : IntKind.i64.wrap (((kr.getD 2 0).toNat : Int) * 2 ^ min 8 64) = (((kr.getD 2 0).toNat * 256 : Nat) : Int) := by
            rw [show min 8 64 = 8 from rfl, wrap_id (by omega) (by omega)]; omega
          have r4 : bitsOf .or .i64 (((kr.getD 2 0).toNat * 256 : Nat) : Int) ((kr.getD 3 0).toNat : Int) = ((wAt kr 2 : Nat) : Int) := w16_or _ _
          have r5 : IntKind.i64.wrap ((kr.getD 0 0).toNat : Int) = ((bAt kr 0 : Nat) : Int) := wrap_id (by omega) (by unfold bAt at i0; omega)
          have r6 : bitsOf .andNot .i64 ((wAt kr 2 : Nat) : Int) 7 = ((fa6 kr : Nat) : Int) := andNot7 _ hw2
          have r7 : bitsOf .and .i64 ((wAt kr 2 : Nat) : Int) 1 = ((wAt kr 2 % 2 : Nat) : Int) := by
            rw [show (1 : Int) = ((2 ^ 1 - 1 : Nat) : Int) from rfl, bits_mask 1 (by omega) (show ((wAt kr 2 : Nat) : Int) ≤ 9223372036854775807 by omega) (by decide)]
            rfl
          have r8 : (!decide (((wAt kr 2 % 2 : Nat) : Int) = 0)) = fm6 kr := by
            unfold fm6
            rw [← decide_not]
            exact decide_eq_decide.2 (by omega)
          have r8' : (decide (¬ ((wAt kr 2 % 2 : Nat) : Int) = 0)) = fm6 kr := by rw [← r8]; simp
          have hN2 := ev_New hS (n + 2) (kr.drop 4)
          have hU2 := ev_U32 hS n (kr.drop 4) 0 (by rw [List.length_drop]; omega) (by rw [List.length_drop]; omega)
          simp only [Nat.zero_add, List.drop_zero] at hU2
          have hU2 : S.ev (n + 3) id_num_Reader_U32 [.ptr 0 0 [] 0] (some (nrLV (kr.drop 4) 0)) = some (.tup [.int .i64 ((fi6 kr : Nat) : Int), .nili], some (nrLV (kr.drop 4) 4)) := hU2
          have hfi : fi6 kr < 4294967296 := num4_lt (kr.drop 4)
          have r9 : IntKind.u32.wrap ((fi6 kr : Nat) : Int) = ((fi6 kr : Nat) : Int) := wrap_u32 hfi
          have n4' : 4 ≤ kr.length := by omega
          have n8' : 8 ≤ kr.length := by omega
          have u4 : (kr.drop 4).take (kr.length - 4) = kr.drop 4 := List.take_of_length_le (by simp)
          have u8' : (kr.drop 8).take (kr.length - 8) = kr.drop 8 := List.take_of_length_le (by simp)
          have hdl : (kr.drop 8).length = kr.length - 8 := by simp
          have z1 : IntKind.i64.wrap (((th6 s).length : Int) - ((kr.length - 8 : Nat) : Int)) = (((th6 s).length - (kr.length - 8) : Nat) : Int) := by rw [wrap_id (by omega) (by omega)]; omega
          have z2 : IntKind.i64.wrap (((wAt s 4 : Nat) : Int) - (((th6 s).length - (kr.length - 8) : Nat) : Int)) = ((wAt s 4 - ((th6 s).length - (kr.length - 8)) : Nat) : Int) := by rw [wrap_id (by omega) (by omega)]; omega
          have hsh := ev_short hS (n + 2) (kr.drop 8) ((wAt s 4 - ((th6 s).length - (kr.length - 8)) : Nat) : Int)
          rw [hdl] at hsh
          simp only [if_true, hdl, ne_eq, not_true_eq_false, if_false, true_and, if_neg c6]
          by_cases c7 : kr.length - 8 < min 8 (wAt s 4 - ((th6 s).length - (kr.length - 8)))
          · rw [decide_eq_true (by omega)] at hsh
            simp only [if_pos c7, Int.reduceEq, if_false]
            simp only [go_sem, ↓reduceIte, reduceCtorEq, upd_ne, back_new (no_at), Nat.reduceAdd, Nat.reduceEqDiff, Nat.reduceMul, Nat.reduceSub, Nat.reduceLeDiff, Nat.reduceLT, Int.reduceToNat, Int.reduceLE, Int.reduceLT, Int.reduceEq, UInt8.reduceOfNat, List.getElem?_map, Int.toNat_natCast, Nat.sub_zero, pMinmax, pMinmax2, Option.bind_some, c1', c2', hfa, hN, hU, hC, fE, g0, g4, g5, g6, g7, byteLV, e4, q1, q2, q3, q4, q5, q6, q7, d1, d2, d3, k1, k2, v5, v6, hlf, hlt, l8, l24, t8, t24, hmm, m1, m2, m3, Bool.false_eq_true, c6', hN2, hU2, h0, h2, h3, r1, r2, r3, r4, r5, r6, r7, r8, r8', r9, n4', n8', u4, u8', hdl, z1, z2, hsh]
          · rw [decide_eq_false (by omega)] at hsh
            simp only [if_neg c7, if_true]
            simp only [go_sem, ↓reduceIte, reduceCtorEq, upd_ne, back_new (no_at), Nat.reduceAdd, Nat.reduceEqDiff, Nat.reduceMul, Nat.reduceSub, Nat.reduceLeDiff, Nat.reduceLT, Int.reduceToNat, Int.reduceLE, Int.reduceLT, Int.reduceEq, UInt8.reduceOfNat, List.getElem?_map, Int.toNat_natCast, Nat.sub_zero, pMinmax, pMinmax2, Option.bind_some, c1', c2', hfa, hN, hU, hC, fE, g0, g4, g5, g6, g7, byteLV, e4, q1, q2, q3, q4, q5, q6, q7, d1, d2, d3, k1, k2, v5, v6, hlf, hlt, l8, l24, t8, t24, hmm, m1, m2, m3, Bool.false_eq_true, c6', hN2, hU2, h0, h2, h3, r1, r2, r3, r4, r5, r6, r7, r8, r8', r9, n4', n8', u4, u8', hdl, z1, z2, hsh]
      · have z1 : IntKind.i64.wrap (((th6 s).length : Int) - (kr.length : Int)) = (((th6 s).length - kr.length : Nat) : Int) := by rw [wrap_id (by omega) (by omega)]; omega
        have z2 : IntKind.i64.wrap (((wAt s 4 : Nat) : Int) - (((th6 s).length - kr.length : Nat) : Int)) = ((wAt s 4 - ((th6 s).length - kr.length) : Nat) : Int) := by rw [wrap_id (by omega) (by omega)]; omega
        have hsh := ev_short hS (n + 2) kr ((wAt s 4 - ((th6 s).length - kr.length) : Nat) : Int)
        have c6n : ¬ (kp = 44 ∧ kr.length < 8) := fun h => c5 h.1
        simp only [if_neg c5, ne_eq, not_true_eq_false, if_false, if_neg c6n]
        by_cases c7 : kr.length < min 8 (wAt s 4 - ((th6 s).length - kr.length))
        · rw [decide_eq_true (by omega)] at hsh
          simp only [if_pos c7, Int.reduceEq, if_false]
          simp only [go_sem, ↓reduceIte, reduceCtorEq, upd_ne, back_new (no_at), Nat.reduceAdd, Nat.reduceEqDiff, Nat.reduceMul, Nat.reduceSub, Nat.reduceLeDiff, Nat.reduceLT, Int.reduceToNat, Int.reduceLE, Int.reduceLT, Int.reduceEq, UInt8.reduceOfNat, List.getElem?_map, Int.toNat_natCast, Nat.sub_zero, pMinmax, pMinmax2, Option.bind_some, c1', c2', hfa, hN, hU, hC, fE, g0, g4, g5, g6, g7, byteLV, e4, q1, q2, q3, q4, q5, q6, q7, d1, d2, d3, k1, k2, v5, v6, hlf, hlt, l8, l24, t8, t24, hmm, m1, m2, m3, Bool.false_eq_true, c5, z1, z2, hsh]
        · rw [decide_eq_false (by omega)] at hsh
          simp only [if_neg c7, if_true]
          simp only [go_sem, ↓reduceIte, reduceCtorEq, upd_ne, back_new (no_at), Nat.reduceAdd, Nat.reduceEqDiff, Nat.reduceMul, Nat.reduceSub, Nat.reduceLeDiff, Nat.reduceLT, Int.reduceToNat, Int.reduceLE, Int.reduceLT, Int.reduceEq, UInt8.reduceOfNat, List.getElem?_map, Int.toNat_natCast, Nat.sub_zero, pMinmax, pMinmax2, Option.bind_some, c1', c2', hfa, hN, hU, hC, fE, g0, g4, g5, g6, g7, byteLV, e4, q1, q2, q3, q4, q5, q6, q7, d1, d2, d3, k1, k2, v5, v6, hlf, hlt, l8, l24, t8, t24, hmm, m1, m2, m3, Bool.false_eq_true, c5, z1, z2, hsh]
end
end Go.Ev

/- Layer 15, the document's: the packet that is quoted, of IPv6. -/
namespace Go.Ev
set_option linter.unusedSimpArgs false
set_option linter.unusedVariables false
set_option maxRecDepth 10000
set_option maxHeartbeats 16000000
section
variable {S : Sys} (hS : Has S) (n : Nat)
include hS
theorem ev_number15m (s : List UInt8) (i m : Nat) (h : i + m ≤ s.length) (hm : m ≤ 4) (hs : s.length ≤ 140737488351232) : S.ev (n + 3) id_interpreterref15_number [.str s, .int .i64 (i : Int), .int .i64 (m : Int)] none = some (.int .i64 ((numN ((s.drop i).take m) : Nat) : Int), none) := by
  rw [Sys.step hS.h_interpreterref15_number, F_interpreterref15_number_eq]
  unfold F_interpreterref15_number
  have ht := ev_rNumber hS n s i m h hm hs
  simp only [to_ob]
  simp only [go_sem, ↓reduceIte, reduceCtorEq, upd_ne, back_new (no_at), Nat.reduceAdd, Nat.reduceEqDiff, Nat.reduceMul, Nat.reduceSub, Nat.reduceLeDiff, Nat.reduceLT, Int.reduceToNat, Int.reduceLE, Int.reduceLT, Int.reduceEq, UInt8.reduceOfNat, ht]
theorem ev_rinside6 (s : List UInt8) (hs : s.length ≤ 1000000) : S.ev (n + 4) id_interpreterref15_Inside6 [.str s] none = some (.tup [iLV6 s, .int .i64 (iC6 s), .int .i64 (iK6 s)], none) := by
  rw [Sys.step hS.h_interpreterref15_Inside6, F_interpreterref15_Inside6_eq]
  unfold F_interpreterref15_Inside6
  (try simp only [guard_merge, or_merge, and_merge, or_pick, and_pick, guard_or, guard_and]); simp only [to_ob]
  unfold iLV6 iC6 iK6
  by_cases c1 : s.length < 40
  · have c1' : (s.length : Int) < 40 := by omega
    simp only [go_sem, ↓reduceIte, reduceCtorEq, upd_ne, back_new (no_at), Nat.reduceAdd, Nat.reduceEqDiff, Nat.reduceMul, Nat.reduceSub, Nat.reduceLeDiff, Nat.reduceLT, Int.reduceToNat, Int.reduceLE, Int.reduceLT, Int.reduceEq, UInt8.reduceOfNat, c1, c1']
  · have c1' : ¬ (s.length : Int) < 40 := by omega
    have g0 := get_def (s := s) (i := 0) (by omega)
    have hb0 := bAt_le s 0
    have e4 : IntKind.u8.wrap (Int.tdiv ((s.getD 0 0).toNat : Int) 16) = ((bAt s 0 / 16 : Nat) : Int) := by
      rw [show Int.tdiv ((s.getD 0 0).toNat : Int) 16 = ((bAt s 0 / 16 : Nat) : Int) from rfl, u8_wrap]; congr 1; omega
    by_cases c2 : bAt s 0 / 16 ≠ 6
    · have c2' : ¬ ((bAt s 0 / 16 : Nat) : Int) = 6 := by omega
      simp only [go_sem, ↓reduceIte, reduceCtorEq, upd_ne, back_new (no_at), Nat.reduceAdd, Nat.reduceEqDiff, Nat.reduceMul, Nat.reduceSub, Nat.reduceLeDiff, Nat.reduceLT, Int.reduceToNat, Int.reduceLE, Int.reduceLT, Int.reduceEq, UInt8.reduceOfNat, List.getElem?_map, Int.toNat_natCast, c1, c1', c2, c2', g0, byteLV, e4]
    · have c2' : ((bAt s 0 / 16 : Nat) : Int) = 6 := by omega
      have g6 := get_def (s := s) (i := 6) (by omega)
      have g7 := get_def (s := s) (i := 7) (by omega)
      have hb6 := bAt_le s 6
      have hb7 := bAt_le s 7
      have hw4 := wAt_le s 4
      have q4 : S.ev (n + 3) id_interpreterref15_number [.str s, .int .i64 4, .int .i64 2] none = some (.int .i64 ((wAt s 4 : Nat) : Int), none) := ev_number15 hS n s 4 (by omega) (by omega)
      have q6 : IntKind.i64.wrap ((s.getD 6 0).toNat : Int) = ((bAt s 6 : Nat) : Int) := wrap_id (by omega) (by unfold bAt at hb6; omega)
      have q7 : IntKind.i64.wrap ((s.getD 7 0).toNat : Int) = ((bAt s 7 : Nat) : Int) := wrap_id (by omega) (by unfold bAt at hb7; omega)
      have hU : S.ev (n + 3) id_interpreterref15_number [.str s, .int .i64 0, .int .i64 4] none = some (.int .i64 ((numN (s.take 4) : Nat) : Int), none) := by
        have := ev_number15m hS n s 0 4 (by omega) (by omega) (by omega)
        rw [List.drop_zero] at this
        exact this
      have hx := num4_lt s
      have d1 : IntKind.i64.wrap (Int.tdiv ((numN (s.take 4) : Nat) : Int) 1048576) = ((numN (s.take 4) / 1048576 : Nat) : Int) := by
        rw [show Int.tdiv ((numN (s.take 4) : Nat) : Int) 1048576 = ((numN (s.take 4) / 1048576 : Nat) : Int) from rfl, wrap_id (by omega) (by omega)]
      have d2 : Int.tmod ((numN (s.take 4) / 1048576 : Nat) : Int) 256 = pcl6 s := rfl
      have d3 : Int.tmod ((numN (s.take 4) : Nat) : Int) 1048576 = pfl6 s := rfl
      have hlf : (pfr6 s).length = 16 := by unfold pfr6; simp; omega
      have hlt : (pto6 s).length = 16 := by unfold pto6; simp; omega
      have l40 : 40 ≤ s.length := by omega
      have htl : (th6 s).length ≤ wAt s 4 := by unfold th6; rw [List.length_take]; omega
      have hC : S.ev (n + 3) id_interpreterref04_Chain [.int .i64 ((bAt s 6 : Nat) : Int), .str (th6 s)] none = some (chLV' (k6 s), none) := ev_rchain6 hS (n + 2) _ _ (by omega)
      have hkl : (k6 s).2.2.2.length ≤ (th6 s).length := chC_rest _ _ _ _
      have t40 : (s.drop 40).take (s.length - 40) = s.drop 40 := List.take_of_length_le (by simp)
      rw [if_neg c1, if_neg c2]
      unfold chLV' at hC
      unfold mk6 iR6 cl6 dD6
      rcases hks : k6 s with ⟨kc, kl, kp, kr⟩
      rw [hks] at hC hkl
      dsimp only at hC hkl ⊢
      by_cases p1 : ((wAt s 4 : Nat) : Int) < ((s.length - 40 : Nat) : Int)
      · have v7 : (s.drop 40).take (wAt s 4) = th6 s := rfl
        have m1 : wAt s 4 ≤ s.length - 40 := by omega
        have thl : (th6 s).length = wAt s 4 := by unfold th6; rw [List.length_take, List.length_drop]; omega
        by_cases c4 : kc = 0
        case neg =>
          simp only [go_sem, ↓reduceIte, reduceCtorEq, upd_ne, back_new (no_at), Nat.reduceAdd, Nat.reduceEqDiff, Nat.reduceMul, Nat.reduceSub, Nat.reduceLeDiff, Nat.reduceLT, Int.reduceToNat, Int.reduceLE, Int.reduceLT, Int.reduceEq, UInt8.reduceOfNat, List.getElem?_map, Int.toNat_natCast, Nat.sub_zero, c1', c2', p1, t40, v7, hC, hU, g0, g6, g7, byteLV, e4, q4, q6, q7, d1, d2, d3, hlf, hlt, l40, m1, c4, List.length_drop]
        subst c4
        simp only [go_sem, ↓reduceIte, reduceCtorEq, upd_ne, back_new (no_at), Nat.reduceAdd, Nat.reduceEqDiff, Nat.reduceMul, Nat.reduceSub, Nat.reduceLeDiff, Nat.reduceLT, Int.reduceToNat, Int.reduceLE, Int.reduceLT, Int.reduceEq, UInt8.reduceOfNat, List.getElem?_map, Int.toNat_natCast, Nat.sub_zero, c1', c2', p1, t40, v7, hC, hU, g0, g6, g7, byteLV, e4, q4, q6, q7, d1, d2, d3, hlf, hlt, l40, m1, List.length_drop]
        refine while_rule (fun k q => ∃ i : Nat, i + k = 16 ∧ q = ([.int .i64 (i : Int)], upd (upd (upd noSlots 2 (.obj 1 (ip6LV 0 0 0 y16 y16 .nils false 0 0 false 0 []))) 5 (.obj 1 z6LV)) 13 (.obj 1 (ip6LV (pcl6 s) (pfl6 s) (bAt s 7 : Nat) ((pfr6 s).take i ++ List.replicate (16 - i) 0) ((pto6 s).take i ++ List.replicate (16 - i) 0) (.lst none (kl.map extLV)) false 0 0 false kp kr)))) 16 ⟨0, rfl, by simp⟩ ?_
        rintro k q ⟨i, hi, rfl⟩
        simp only [go_sem, ↓reduceIte, reduceCtorEq, upd_ne, back_new (no_at), Nat.reduceAdd, Nat.reduceEqDiff, Nat.reduceMul, Nat.reduceSub, Nat.reduceLeDiff, Nat.reduceLT, Int.reduceToNat, Int.reduceLE, Int.reduceLT, Int.reduceEq, UInt8.reduceOfNat]
        refine nxt_ite (fun h => ?_) (fun h => ?_)
        · have hi4 : i < 16 := by omega
          have ga := get_def (s := s) (i := 8 + i) (by omega)
          have gb := get_def (s := s) (i := 24 + i) (by omega)
          have i1 : IntKind.i64.wrap (8 + (i : Int)) = ((8 + i : Nat) : Int) := by rw [wrap_id (by omega) (by omega)]; omega
          have i2 : IntKind.i64.wrap (24 + (i : Int)) = ((24 + i : Nat) : Int) := by rw [wrap_id (by omega) (by omega)]; omega
          have i3 : IntKind.i64.wrap ((i : Int) + 1) = ((i + 1 : Nat) : Int) := by rw [wrap_id (by omega) (by omega)]; omega
          have hla : ((pfr6 s).take i ++ List.replicate (16 - i) 0).length = 16 := by rw [List.length_append, List.length_take, List.length_replicate]; omega
          have hlb : ((pto6 s).take i ++ List.replicate (16 - i) 0).length = 16 := by rw [List.length_append, List.length_take, List.length_replicate]; omega
          have hla2 : ((pfr6 s).take (i + 1) ++ List.replicate (16 - (i + 1)) 0).length = 16 := by rw [List.length_append, List.length_take, List.length_replicate]; omega
          obtain ⟨ca, hca⟩ : ∃ c0, ((pfr6 s).take i ++ List.replicate (16 - i) 0)[i]? = some c0 := ⟨_, List.getElem?_eq_getElem (by omega)⟩
          obtain ⟨cb, hcb⟩ : ∃ c0, ((pto6 s).take i ++ List.replicate (16 - i) 0)[i]? = some c0 := ⟨_, List.getElem?_eq_getElem (by omega)⟩
          have sa := set_mid hlf hi4 (sub_get (s := s) (a := 8) (m := 16) hi4 (by omega))
          have sb := set_mid hlt hi4 (sub_get (s := s) (a := 24) (m := 16) hi4 (by omega))
          simp only [go_sem, ↓reduceIte, reduceCtorEq, upd_ne, back_new (no_at), Nat.reduceAdd, Nat.reduceEqDiff, Nat.reduceMul, Nat.reduceSub, Nat.reduceLeDiff, Nat.reduceLT, Int.reduceToNat, Int.reduceLE, Int.reduceLT, Int.reduceEq, UInt8.reduceOfNat, List.getElem?_map, Int.toNat_natCast, ga, gb, i1, i2, i3, hla, hlb, hla2, hca, hcb, sa, sb, hi4, byteLV, u8_lt, UInt8.ofNat_toNat, Nat.mul_one, eq_self]
          exact ⟨k - 1, by omega, i + 1, by omega, rfl⟩
        · obtain rfl : i = 16 := by omega
          have ta : (pfr6 s).take 16 ++ List.replicate (16 - 16) 0 = pfr6 s := by rw [List.take_of_length_le (by omega)]; simp
          have tb : (pto6 s).take 16 ++ List.replicate (16 - 16) 0 = pto6 s := by rw [List.take_of_length_le (by omega)]; simp
          rw [ta, tb]
          by_cases c5 : kp = 44
          · subst c5
            by_cases c6 : kr.length < 8
            · have c6' : (kr.length : Int) < 8 := by omega
              simp only [go_sem, ↓reduceIte, reduceCtorEq, upd_ne, back_new (no_at), Nat.reduceAdd, Nat.reduceEqDiff, Nat.reduceMul, Nat.reduceSub, Nat.reduceLeDiff, Nat.reduceLT, Int.reduceToNat, Int.reduceLE, Int.reduceLT, Int.reduceEq, UInt8.reduceOfNat, List.getElem?_map, Int.toNat_natCast, Nxt, exIf, Nat.sub_zero, c6, c6', hlf, hlt]
            · have c6' : ¬ (kr.length : Int) < 8 := by omega
              have h0 := get_def (s := kr) (i := 0) (by omega)
              have h3 := get_def (s := kr) (i := 3) (by omega)
              have i0 := bAt_le kr 0
              have i3 := (kr.getD 3 0).toNat_lt
              have hw2 := wAt_le kr 2
              have r1 : S.ev (n + 3) id_interpreterref15_number [.str kr, .int .i64 2, .int .i64 2] none = some (.int .i64 ((wAt kr 2 : Nat) : Int), none) := ev_number15 hS n kr 2 (by omega) (by omega)
              have r2 : S.ev (n + 3) id_interpreterref15_number [.str kr, .int .i64 4, .int .i64 4] none = some (.int .i64 ((fi6 kr : Nat) : Int), none) := ev_number15m hS n kr 4 4 (by omega) (by omega) (by omega)
              have r5 : IntKind.i64.wrap ((kr.getD 0 0).toNat : Int) = ((bAt kr 0 : Nat) : Int) := wrap_id (by omega) (by unfold bAt at i0; omega)
              have r6 : IntKind.i64.wrap (IntKind.i64.wrap (Int.tdiv ((wAt kr 2 : Nat) : Int) 8) * 8) = ((fa6 kr : Nat) : Int) := by
                rw [show Int.tdiv ((wAt kr 2 : Nat) : Int) 8 = ((wAt kr 2 / 8 : Nat) : Int) from rfl, wrap_id (n := ((wAt kr 2 / 8 : Nat) : Int)) (by omega) (by omega), wrap_id (by omega) (by omega)]
                unfold fa6; omega
              have r8 : (decide (Int.tmod ((kr.getD 3 0).toNat : Int) 2 = 1)) = fm6 kr := by
                unfold fm6
                rw [show Int.tmod ((kr.getD 3 0).toNat : Int) 2 = (((kr.getD 3 0).toNat % 2 : Nat) : Int) from rfl]
                apply decide_eq_decide.2
                show (((kr.getD 3 0).toNat % 2 : Nat) : Int) = 1 ↔ (256 * (kr.getD 2 0).toNat + (kr.getD 3 0).toNat) % 2 = 1
                omega
              have hfi : fi6 kr < 4294967296 := num4_lt (kr.drop 4)
              have r9 : IntKind.u32.wrap ((fi6 kr : Nat) : Int) = ((fi6 kr : Nat) : Int) := wrap_u32 hfi
              have m8 : 8 ≤ kr.length := by omega
              have u8' : (kr.drop 8).take (kr.length - 8) = kr.drop 8 := List.take_of_length_le (by simp)
              have hdl : (kr.drop 8).length = kr.length - 8 := by simp
              have z1 : IntKind.i64.wrap (((wAt s 4 : Nat) : Int) - (((th6 s).length : Nat) : Int)) = ((wAt s 4 - (th6 s).length : Nat) : Int) := by rw [wrap_id (by omega) (by omega)]; omega
              have z2 : IntKind.i64.wrap (((wAt s 4 - (th6 s).length : Nat) : Int) + ((kr.length - 8 : Nat) : Int)) = ((wAt s 4 - ((th6 s).length - (kr.length - 8)) : Nat) : Int) := by rw [wrap_id (by omega) (by omega)]; omega
              have hsh := ev_little hS (n + 2) (kr.drop 8) ((wAt s 4 - ((th6 s).length - (kr.length - 8)) : Nat) : Int)
              rw [hdl] at hsh
              simp only [if_true, hdl, ne_eq, not_true_eq_false, if_false, true_and, if_neg c6]
              by_cases c7 : kr.length - 8 < min 8 (wAt s 4 - ((th6 s).length - (kr.length - 8)))
              · rw [decide_eq_true (by omega)] at hsh
                simp only [if_pos c7, Int.reduceEq, if_false]
                simp only [go_sem, ↓reduceIte, reduceCtorEq, upd_ne, back_new (no_at), Nat.reduceAdd, Nat.reduceEqDiff, Nat.reduceMul, Nat.reduceSub, Nat.reduceLeDiff, Nat.reduceLT, Int.reduceToNat, Int.reduceLE, Int.reduceLT, Int.reduceEq, UInt8.reduceOfNat, List.getElem?_map, Int.toNat_natCast, Nxt, exIf, Nat.sub_zero, c6', h0, h3, byteLV, hlf, hlt, r1, r2, r5, r6, r8, r9, m8, u8', hdl, z1, z2, hsh]
              · rw [decide_eq_false (by omega)] at hsh
                simp only [if_neg c7, if_true]
                simp only [go_sem, ↓reduceIte, reduceCtorEq, upd_ne, back_new (no_at), Nat.reduceAdd, Nat.reduceEqDiff, Nat.reduceMul, Nat.reduceSub, Nat.reduceLeDiff, Nat.reduceLT, Int.reduceToNat, Int.reduceLE, Int.reduceLT, Int.reduceEq, UInt8.reduceOfNat, List.getElem?_map, Int.toNat_natCast, Nxt, exIf, Nat.sub_zero, c6', h0, h3, byteLV, hlf, hlt, r1, r2, r5, r6, r8, r9, m8, u8', hdl, z1, z2, hsh]
          · have z1 : IntKind.i64.wrap (((wAt s 4 : Nat) : Int) - (((th6 s).length : Nat) : Int)) = ((wAt s 4 - (th6 s).length : Nat) : Int) := by rw [wrap_id (by omega) (by omega)]; omega
            have z2 : IntKind.i64.wrap (((wAt s 4 - (th6 s).length : Nat) : Int) + (kr.length : Int)) = ((wAt s 4 - ((th6 s).length - kr.length) : Nat) : Int) := by rw [wrap_id (by omega) (by omega)]; omega
            have hsh := ev_little hS (n + 2) kr ((wAt s 4 - ((th6 s).length - kr.length) : Nat) : Int)
            have c6n : ¬ (kp = 44 ∧ kr.length < 8) := fun h => c5 h.1
            simp only [if_neg c5, ne_eq, not_true_eq_false, if_false, if_neg c6n]
            by_cases c7 : kr.length < min 8 (wAt s 4 - ((th6 s).length - kr.length))
            · rw [decide_eq_true (by omega)] at hsh
              simp only [if_pos c7, Int.reduceEq, if_false]
              simp only [go_sem, ↓reduceIte, reduceCtorEq, upd_ne, back_new (no_at), Nat.reduceAdd, Nat.reduceEqDiff, Nat.reduceMul, Nat.reduceSub, Nat.reduceLeDiff, Nat.reduceLT, Int.reduceToNat, Int.reduceLE, Int.reduceLT, Int.reduceEq, UInt8.reduceOfNat, List.getElem?_map, Int.toNat_natCast, Nxt, exIf, Nat.sub_zero, c5, hlf, hlt, z1, z2, hsh]
            · rw [decide_eq_false (by omega)] at hsh
              simp only [if_neg c7, if_true]
              simp only [go_sem, ↓reduceIte, reduceCtorEq, upd_ne, back_new (no_at), Nat.reduceAdd, Nat.reduceEqDiff, Nat.reduceMul, Nat.reduceSub, Nat.reduceLeDiff, Nat.reduceLT, Int.reduceToNat, Int.reduceLE, Int.reduceLT, Int.reduceEq, UInt8.reduceOfNat, List.getElem?_map, Int.toNat_natCast, Nxt, exIf, Nat.sub_zero, c5, hlf, hlt, z1, z2, hsh]
      · have v7 : s.drop 40 = th6 s := (List.take_of_length_le (by simp; omega)).symm
        have t40 : (th6 s).take (s.length - 40) = th6 s := by rw [← v7]; exact t40
        have m1 : (th6 s).length = s.length - 40 := by rw [← v7]; simp
        by_cases c4 : kc = 0
        case neg =>
          simp only [go_sem, ↓reduceIte, reduceCtorEq, upd_ne, back_new (no_at), Nat.reduceAdd, Nat.reduceEqDiff, Nat.reduceMul, Nat.reduceSub, Nat.reduceLeDiff, Nat.reduceLT, Int.reduceToNat, Int.reduceLE, Int.reduceLT, Int.reduceEq, UInt8.reduceOfNat, List.getElem?_map, Int.toNat_natCast, Nat.sub_zero, c1', c2', p1, t40, v7, hC, hU, g0, g6, g7, byteLV, e4, q4, q6, q7, d1, d2, d3, hlf, hlt, l40, m1, c4, List.length_drop]
        subst c4
        simp only [go_sem, ↓reduceIte, reduceCtorEq, upd_ne, back_new (no_at), Nat.reduceAdd, Nat.reduceEqDiff, Nat.reduceMul, Nat.reduceSub, Nat.reduceLeDiff, Nat.reduceLT, Int.reduceToNat, Int.reduceLE, Int.reduceLT, Int.reduceEq, UInt8.reduceOfNat, List.getElem?_map, Int.toNat_natCast, Nat.sub_zero, c1', c2', p1, t40, v7, hC, hU, g0, g6, g7, byteLV, e4, q4, q6, q7, d1, d2, d3, hlf, hlt, l40, m1, List.length_drop]
        refine while_rule (fun k q => ∃ i : Nat, i + k = 16 ∧ q = ([.int .i64 (i : Int)], upd (upd (upd noSlots 2 (.obj 1 (ip6LV 0 0 0 y16 y16 .nils false 0 0 false 0 []))) 5 (.obj 1 z6LV)) 13 (.obj 1 (ip6LV (pcl6 s) (pfl6 s) (bAt s 7 : Nat) ((pfr6 s).take i ++ List.replicate (16 - i) 0) ((pto6 s).take i ++ List.replicate (16 - i) 0) (.lst none (kl.map extLV)) false 0 0 false kp kr)))) 16 ⟨0, rfl, by simp⟩ ?_
        rintro k q ⟨i, hi, rfl⟩
        simp only [go_sem, ↓reduceIte, reduceCtorEq, upd_ne, back_new (no_at), Nat.reduceAdd, Nat.reduceEqDiff, Nat.reduceMul, Nat.reduceSub, Nat.reduceLeDiff, Nat.reduceLT, Int.reduceToNat, Int.reduceLE, Int.reduceLT, Int.reduceEq, UInt8.reduceOfNat]
        refine nxt_ite (fun h => ?_) (fun h => ?_)
        · have hi4 : i < 16 := by omega
          have ga := get_def (s := s) (i := 8 + i) (by omega)
          have gb := get_def (s := s) (i := 24 + i) (by omega)
          have i1 : IntKind.i64.wrap (8 + (i : Int)) = ((8 + i : Nat) : Int) := by rw [wrap_id (by omega) (by omega)]; omega
          have i2 : IntKind.i64.wrap (24 + (i : Int)) = ((24 + i : Nat) : Int) := by rw [wrap_id (by omega) (by omega)]; omega
          have i3 : IntKind.i64.wrap ((i : Int) + 1) = ((i + 1 : Nat) : Int) := by rw [wrap_id (by omega) (by omega)]; omega
          have hla : ((pfr6 s).take i ++ List.replicate (16 - i) 0).length = 16 := by rw [List.length_append, List.length_take, List.length_replicate]; omega
          have hlb : ((pto6 s).take i ++ List.replicate (16 - i) 0).length = 16 := by rw [List.length_append, List.length_take, List.length_replicate]; omega
          have hla2 : ((pfr6 s).take (i + 1) ++ List.replicate (16 - (i + 1)) 0).length = 16 := by rw [List.length_append, List.length_take, List.length_replicate]; omega
          obtain ⟨ca, hca⟩ : ∃ c0, ((pfr6 s).take i ++ List.replicate (16 - i) 0)[i]? = some c0 := ⟨_, List.getElem?_eq_getElem (by omega)⟩
          obtain ⟨cb, hcb⟩ : ∃ c0, ((pto6 s).take i ++ List.replicate (16 - i) 0)[i]? = some c0 := ⟨_, List.getElem?_eq_getElem (by omega)⟩
          have sa := set_mid hlf hi4 (sub_get (s := s) (a := 8) (m := 16) hi4 (by omega))
          have sb := set_mid hlt hi4 (sub_get (s := s) (a := 24) (m := 16) hi4 (by omega))
          simp only [go_sem, ↓reduceIte, reduceCtorEq, upd_ne, back_new (no_at), Nat.reduceAdd, Nat.reduceEqDiff, Nat.reduceMul, Nat.reduceSub, Nat.reduceLeDiff, Nat.reduceLT, Int.reduceToNat, Int.reduceLE, Int.reduceLT, Int.reduceEq, UInt8.reduceOfNat, List.getElem?_map, Int.toNat_natCast, ga, gb, i1, i2, i3, hla, hlb, hla2, hca, hcb, sa, sb, hi4, byteLV, u8_lt, UInt8.ofNat_toNat, Nat.mul_one, eq_self]
          exact ⟨k - 1, by omega, i + 1, by omega, rfl⟩
        · obtain rfl : i = 16 := by omega
          have ta : (pfr6 s).take 16 ++ List.replicate (16 - 16) 0 = pfr6 s := by rw [List.take_of_length_le (by omega)]; simp
          have tb : (pto6 s).take 16 ++ List.replicate (16 - 16) 0 = pto6 s := by rw [List.take_of_length_le (by omega)]; simp
          rw [ta, tb]
          simp only [← m1]
          by_cases c5 : kp = 44
          · subst c5
            by_cases c6 : kr.length < 8
            · have c6' : (kr.length : Int) < 8 := by omega
              simp only [go_sem, ↓reduceIte, reduceCtorEq, upd_ne, back_new (no_at), Nat.reduceAdd, Nat.reduceEqDiff, Nat.reduceMul, Nat.reduceSub, Nat.reduceLeDiff, Nat.reduceLT, Int.reduceToNat, Int.reduceLE, Int.reduceLT, Int.reduceEq, UInt8.reduceOfNat, List.getElem?_map, Int.toNat_natCast, Nxt, exIf, Nat.sub_zero, c6, c6', hlf, hlt]
            · have c6' : ¬ (kr.length : Int) < 8 := by omega
              have h0 := get_def (s := kr) (i := 0) (by omega)
              have h3 := get_def (s := kr) (i := 3) (by omega)
              have i0 := bAt_le kr 0
              have i3 := (kr.getD 3 0).toNat_lt
              have hw2 := wAt_le kr 2
              have r1 : S.ev (n + 3) id_interpreterref15_number [.str kr, .int .i64 2, .int .i64 2] none = some (.int .i64 ((wAt kr 2 : Nat) : Int), none) := ev_number15 hS n kr 2 (by omega) (by omega)
              have r2 : S.ev (n + 3) id_interpreterref15_number [.str kr, .int .i64 4, .int .i64 4] none = some (.int .i64 ((fi6 kr : Nat) : Int), none) := ev_number15m hS n kr 4 4 (by omega) (by omega) (by omega)
              have r5 : IntKind.i64.wrap ((kr.getD 0 0).toNat : Int) = ((bAt kr 0 : Nat) : Int) := wrap_id (by omega) (by unfold bAt at i0; omega)
              have r6 : IntKind.i64.wrap (IntKind.i64.wrap (Int.tdiv ((wAt kr 2 : Nat) : Int) 8) * 8) = ((fa6 kr : Nat) : Int) := by
                rw [show Int.tdiv ((wAt kr 2 : Nat) : Int) 8 = ((wAt kr 2 / 8 : Nat) : Int) from rfl, wrap_id (n := ((wAt kr 2 / 8 : Nat) : Int)) (by omega) (by omega), wrap_id (by omega) (by omega)]
                unfold fa6; omega
              have r8 : (decide (Int.tmod ((kr.getD 3 0).toNat : Int) 2 = 1)) = fm6 kr := by
                unfold fm6
                rw [show Int.tmod ((kr.getD 3 0).toNat : Int) 2 = (((kr.getD 3 0).toNat % 2 : Nat) : Int) from rfl]
                apply decide_eq_decide.2
                show (((kr.getD 3 0).toNat % 2 : Nat) : Int) = 1 ↔ (256 * (kr.getD 2 0).toNat + (kr.getD 3 0).toNat) % 2 = 1
                omega
              have hfi : fi6 kr < 4294967296 := num4_lt (kr.drop 4)
              have r9 : IntKind.u32.wrap ((fi6 kr : Nat) : Int) = ((fi6 kr : Nat) : Int) := wrap_u32 hfi
              have m8 : 8 ≤ kr.length := by omega
              have u8' : (kr.drop 8).take (kr.length - 8) = kr.drop 8 := List.take_of_length_le (by simp)
              have hdl : (kr.drop 8).length = kr.length - 8 := by simp
              have z1 : IntKind.i64.wrap (((wAt s 4 : Nat) : Int) - (((th6 s).length : Nat) : Int)) = ((wAt s 4 - (th6 s).length : Nat) : Int) := by rw [wrap_id (by omega) (by omega)]; omega
              have z2 : IntKind.i64.wrap (((wAt s 4 - (th6 s).length : Nat) : Int) + ((kr.length - 8 : Nat) : Int)) = ((wAt s 4 - ((th6 s).length - (kr.length - 8)) : Nat) : Int) := by rw [wrap_id (by omega) (by omega)]; omega
              have hsh := ev_little hS (n + 2) (kr.drop 8) ((wAt s 4 - ((th6 s).length - (kr.length - 8)) : Nat) : Int)
              rw [hdl] at hsh
              simp only [if_true, hdl, ne_eq, not_true_eq_false, if_false, true_and, if_neg c6]
              by_cases c7 : kr.length - 8 < min 8 (wAt s 4 - ((th6 s).length - (kr.length - 8)))
              · rw [decide_eq_true (by omega)] at hsh
                simp only [if_pos c7, Int.reduceEq, if_false]
                simp only [go_sem, ↓reduceIte, reduceCtorEq, upd_ne, back_new (no_at), Nat.reduceAdd, Nat.reduceEqDiff, Nat.reduceMul, Nat.reduceSub, Nat.reduceLeDiff, Nat.reduceLT, Int.reduceToNat, Int.reduceLE, Int.reduceLT, Int.reduceEq, UInt8.reduceOfNat, List.getElem?_map, Int.toNat_natCast, Nxt, exIf, Nat.sub_zero, c6', h0, h3, byteLV, hlf, hlt, r1, r2, r5, r6, r8, r9, m8, u8', hdl, z1, z2, hsh]
              · rw [decide_eq_false (by omega)] at hsh
                simp only [if_neg c7, if_true]
                simp only [go_sem, ↓reduceIte, reduceCtorEq, upd_ne, back_new (no_at), Nat.reduceAdd, Nat.reduceEqDiff, Nat.reduceMul, Nat.reduceSub, Nat.reduceLeDiff, Nat.reduceLT, Int.reduceToNat, Int.reduceLE, Int.reduceLT, Int.reduceEq, UInt8.reduceOfNat, List.getElem?_map, Int.toNat_natCast, Nxt, exIf, Nat.sub_zero, c6', h0, h3, byteLV, hlf, hlt, r1, r2, r5, r6, r8, r9, m8, u8', hdl, z1, z2, hsh]
          · have z1 : IntKind.i64.wrap (((wAt s 4 : Nat) : Int) - (((th6 s).length : Nat) : Int)) = ((wAt s 4 - (th6 s).length : Nat) : Int) := by rw [wrap_id (by omega) (by omega)]; omega
            have z2 : IntKind.i64.wrap (((wAt s 4 - (th6 s).length : Nat) : Int) + (kr.length : Int)) = ((wAt s 4 - ((th6 s).length - kr.length) : Nat) : Int) := by rw [wrap_id (by omega) (by omega)]; omega
            have hsh := ev_little hS (n + 2) kr ((wAt s 4 - ((th6 s).length - kr.length) : Nat) : Int)
            have c6n : ¬ (kp = 44 ∧ kr.length < 8) := fun h => c5 h.1
            simp only [if_neg c5, ne_eq, not_true_eq_false, if_false, if_neg c6n]
            by_cases c7 : kr.length < min 8 (wAt s 4 - ((th6 s).length - kr.length))
            · rw [decide_eq_true (by omega)] at hsh
              simp only [if_pos c7, Int.reduceEq, if_false]
              simp only [go_sem, ↓reduceIte, reduceCtorEq, upd_ne, back_new (no_at), Nat.reduceAdd, Nat.reduceEqDiff, Nat.reduceMul, Nat.reduceSub, Nat.reduceLeDiff, Nat.reduceLT, Int.reduceToNat, Int.reduceLE, Int.reduceLT, Int.reduceEq, UInt8.reduceOfNat, List.getElem?_map, Int.toNat_natCast, Nxt, exIf, Nat.sub_zero, c5, hlf, hlt, z1, z2, hsh]
            · rw [decide_eq_false (by omega)] at hsh
              simp only [if_neg c7, if_true]
              simp only [go_sem, ↓reduceIte, reduceCtorEq, upd_ne, back_new (no_at), Nat.reduceAdd, Nat.reduceEqDiff, Nat.reduceMul, Nat.reduceSub, Nat.reduceLeDiff, Nat.reduceLT, Int.reduceToNat, Int.reduceLE, Int.reduceLT, Int.reduceEq, UInt8.reduceOfNat, List.getElem?_map, Int.toNat_natCast, Nxt, exIf, Nat.sub_zero, c5, hlf, hlt, z1, z2, hsh]
end
end Go.Ev

/- Layer 15: small functions of an error of the gateway's own. -/
namespace Go.Ev
set_option linter.unusedSimpArgs false
set_option linter.unusedVariables false
set_option maxRecDepth 10000
set_option maxHeartbeats 8000000
abbrev msgLV (k c r : Int) (d : List UInt8) : LV := .agg [.int .i64 k, .int .i64 c, .int .u32 r, .str d]
def isF4 (k : Int) : Bool := decide (k = 3 ∨ k = 4 ∨ k = 5 ∨ k = 11 ∨ k = 12)
def begN (l head : Nat) (room : Int) : Nat := (min (l : Int) room).toNat
def begO (l head : Nat) (room : Int) : Bool := decide (((min (head + 8) l : Nat) : Int) ≤ min (l : Int) room)
def im4H (k c r : Int) : List UInt8 := beB 1 k.toNat ++ beB 1 c.toNat
def im4S (k c r : Int) (d : List UInt8) : Int := sumS (beB 1 k.toNat ++ (beB 1 c.toNat ++ (0 :: 0 :: (beB 4 r.toNat ++ d))))
def im4B (k c r : Int) (d : List UInt8) : List UInt8 := beB 1 k.toNat ++ (beB 1 c.toNat ++ (beB 2 (im4S k c r d).toNat ++ (beB 4 r.toNat ++ d)))
section
variable {S : Sys} (hS : Has S) (n : Nat)
include hS
theorem ev_bigF (x : Int) (m : Nat) (hm : m = 1 ∨ m = 2 ∨ m = 4) (hx : 0 ≤ x ∧ x < ((256 ^ m : Nat) : Int)) (h64 : I64 x) : S.ev (n + 2) id_fault_big [.int .i64 x, .int .i64 (m : Int)] none = some (.str (beB m x.toNat), none) := by
  rw [Sys.step hS.h_fault_big, F_fault_big_eq]
  unfold F_fault_big
  have h1 := ev_Big hS n x m hm h64
  unfold bigR at h1
  rw [if_pos hx] at h1
  (try simp only [guard_merge, or_merge, and_merge, or_pick, and_pick, guard_or, guard_and]); simp only [to_ob]
  simp only [go_sem, ↓reduceIte, reduceCtorEq, upd_ne, back_new (no_at), Nat.reduceAdd, Nat.reduceEqDiff, Nat.reduceMul, Nat.reduceSub, Nat.reduceLeDiff, Nat.reduceLT, Int.reduceToNat, Int.reduceLE, Int.reduceLT, Int.reduceEq, UInt8.reduceOfNat, h1]
theorem ev_failure4 (k c r : Int) (d : List UInt8) : S.ev (n + 1) id_icmp4_Failure [msgLV k c r d] none = some (.bool (isF4 k), none) := by
  rw [Sys.step hS.h_icmp4_Failure, F_icmp4_Failure_eq]
  unfold F_icmp4_Failure isF4
  (try simp only [guard_merge, or_merge, and_merge, or_pick, and_pick, guard_or, guard_and]); simp only [to_ob]
  by_cases h3 : k = 3
  · subst h3; simp only [go_sem, ↓reduceIte, reduceCtorEq, upd_ne, back_new (no_at), Nat.reduceAdd, Nat.reduceEqDiff, Nat.reduceMul, Nat.reduceSub, Nat.reduceLeDiff, Nat.reduceLT, Int.reduceToNat, Int.reduceLE, Int.reduceLT, Int.reduceEq, UInt8.reduceOfNat]
  by_cases h4 : k = 4
  · subst h4; simp only [go_sem, ↓reduceIte, reduceCtorEq, upd_ne, back_new (no_at), Nat.reduceAdd, Nat.reduceEqDiff, Nat.reduceMul, Nat.reduceSub, Nat.reduceLeDiff, Nat.reduceLT, Int.reduceToNat, Int.reduceLE, Int.reduceLT, Int.reduceEq, UInt8.reduceOfNat]
  by_cases h5 : k = 5
  · subst h5; simp only [go_sem, ↓reduceIte, reduceCtorEq, upd_ne, back_new (no_at), Nat.reduceAdd, Nat.reduceEqDiff, Nat.reduceMul, Nat.reduceSub, Nat.reduceLeDiff, Nat.reduceLT, Int.reduceToNat, Int.reduceLE, Int.reduceLT, Int.reduceEq, UInt8.reduceOfNat]
  by_cases h11 : k = 11
  · subst h11; simp only [go_sem, ↓reduceIte, reduceCtorEq, upd_ne, back_new (no_at), Nat.reduceAdd, Nat.reduceEqDiff, Nat.reduceMul, Nat.reduceSub, Nat.reduceLeDiff, Nat.reduceLT, Int.reduceToNat, Int.reduceLE, Int.reduceLT, Int.reduceEq, UInt8.reduceOfNat]
  by_cases h12 : k = 12
  · subst h12; simp only [go_sem, ↓reduceIte, reduceCtorEq, upd_ne, back_new (no_at), Nat.reduceAdd, Nat.reduceEqDiff, Nat.reduceMul, Nat.reduceSub, Nat.reduceLeDiff, Nat.reduceLT, Int.reduceToNat, Int.reduceLE, Int.reduceLT, Int.reduceEq, UInt8.reduceOfNat]
  simp only [go_sem, ↓reduceIte, reduceCtorEq, upd_ne, back_new (no_at), Nat.reduceAdd, Nat.reduceEqDiff, Nat.reduceMul, Nat.reduceSub, Nat.reduceLeDiff, Nat.reduceLT, Int.reduceToNat, Int.reduceLE, Int.reduceLT, Int.reduceEq, UInt8.reduceOfNat, h3, h4, h5, h11, h12]
theorem ev_beginning (s : List UInt8) (head : Nat) (room : Int) (hs : s.length ≤ 140737488351232) (hh : head ≤ 1000000) :
    S.ev (n + 1) id_fault_beginning [.str s, .int .i64 (head : Int), .int .i64 room] none = some (.tup [.str (s.take (begN s.length head room)), .bool (begO s.length head room)], none) := by
  rw [Sys.step hS.h_fault_beginning, F_fault_beginning_eq]
  unfold F_fault_beginning begN begO
  have m1 : (if room < (s.length : Int) then room else (s.length : Int)) = min (s.length : Int) room := by split <;> omega
  have m2 : (if min (s.length : Int) room < 0 then 0 else min (s.length : Int) room) = ((min (s.length : Int) room).toNat : Int) := by split <;> omega
  have e1 : IntKind.i64.wrap ((head : Int) + 8) = ((head + 8 : Nat) : Int) := by rw [wrap_id (by omega) (by omega)]; omega
  have m3 : (if (s.length : Int) < ((head + 8 : Nat) : Int) then (s.length : Int) else ((head + 8 : Nat) : Int)) = ((min (head + 8) s.length : Nat) : Int) := by split <;> omega
  have c1 : (min (s.length : Int) room).toNat ≤ s.length := by omega
  (try simp only [guard_merge, or_merge, and_merge, or_pick, and_pick, guard_or, guard_and]); simp only [to_ob]
  simp only [go_sem, ↓reduceIte, reduceCtorEq, upd_ne, back_new (no_at), Nat.reduceAdd, Nat.reduceEqDiff, Nat.reduceMul, Nat.reduceSub, Nat.reduceLeDiff, Nat.reduceLT, Int.reduceToNat, Int.reduceLE, Int.reduceLT, Int.reduceEq, UInt8.reduceOfNat, List.getElem?_map, Int.toNat_natCast, pMinmax, pMinmax2, Option.bind_some, Bool.false_eq_true, if_true, m1, m2, m3, e1, c1, Nat.sub_zero, List.drop_zero]
theorem ev_same15 (c d : Int) : S.ev (n + 1) id_interpreterlaw15_same [fE c, .int .i64 d] none = some (.bool (decide (c = d)), none) := by
  rw [Sys.step hS.h_interpreterlaw15_same, F_interpreterlaw15_same_eq]
  unfold F_interpreterlaw15_same fE
  (try simp only [guard_merge, or_merge, and_merge, or_pick, and_pick, guard_or, guard_and]); simp only [to_ob]
  by_cases hc : c = 0
  · by_cases hd : d = 0
    · simp only [go_sem, ↓reduceIte, reduceCtorEq, upd_ne, back_new (no_at), Nat.reduceAdd, Nat.reduceEqDiff, Nat.reduceMul, Nat.reduceSub, Nat.reduceLeDiff, Nat.reduceLT, Int.reduceToNat, Int.reduceLE, Int.reduceLT, Int.reduceEq, UInt8.reduceOfNat, hc, hd]
    · have : ¬ (0 : Int) = d := fun e => hd e.symm
      simp only [go_sem, ↓reduceIte, reduceCtorEq, upd_ne, back_new (no_at), Nat.reduceAdd, Nat.reduceEqDiff, Nat.reduceMul, Nat.reduceSub, Nat.reduceLeDiff, Nat.reduceLT, Int.reduceToNat, Int.reduceLE, Int.reduceLT, Int.reduceEq, UInt8.reduceOfNat, hc, hd, this]
  · by_cases hd : d = 0
    · have : ¬ c = d := fun e => hc (e.trans hd)
      simp only [go_sem, ↓reduceIte, reduceCtorEq, upd_ne, back_new (no_at), Nat.reduceAdd, Nat.reduceEqDiff, Nat.reduceMul, Nat.reduceSub, Nat.reduceLeDiff, Nat.reduceLT, Int.reduceToNat, Int.reduceLE, Int.reduceLT, Int.reduceEq, UInt8.reduceOfNat, hc, hd, this]
    · simp only [go_sem, ↓reduceIte, reduceCtorEq, upd_ne, back_new (no_at), Nat.reduceAdd, Nat.reduceEqDiff, Nat.reduceMul, Nat.reduceSub, Nat.reduceLeDiff, Nat.reduceLT, Int.reduceToNat, Int.reduceLE, Int.reduceLT, Int.reduceEq, UInt8.reduceOfNat, hc, hd]
theorem ev_gram (k : Nat) (hk : k ≤ 5000) : S.ev (n + 2) id_interpreterlaw15_gram [.int .i64 (k : Int)] none = some (ip4LV 0 0 9 17 0 false false [192, 0, 2, 1] [192, 0, 2, 2] [] (List.replicate k 120), none) := by
  rw [Sys.step hS.h_interpreterlaw15_gram, F_interpreterlaw15_gram_eq]
  unfold F_interpreterlaw15_gram
  have hr : S.ev (n + 1) id_strings_Repeat [.str [120], .int .i64 (k : Int)] none = some (.str (repL [120] k), none) := hS.x_rep.ev n (by omega) (by simp; omega)
  rw [repL_eq] at hr
  (try simp only [guard_merge, or_merge, and_merge, or_pick, and_pick, guard_or, guard_and]); simp only [to_ob]
  simp only [go_sem, ↓reduceIte, reduceCtorEq, upd_ne, back_new (no_at), Nat.reduceAdd, Nat.reduceEqDiff, Nat.reduceMul, Nat.reduceSub, Nat.reduceLeDiff, Nat.reduceLT, Int.reduceToNat, Int.reduceLE, Int.reduceLT, Int.reduceEq, UInt8.reduceOfNat, hr]
theorem ev_martian4 (a b c d : UInt8) : S.ev (n + 1) id_class_Martian4 [.bytes [a, b, c, d]] none = some (.bool (decide (a.toNat = 0 ∨ a.toNat = 127 ∨ 224 ≤ a.toNat ∨ (a.toNat = 169 ∧ b.toNat = 254))), none) := by
  rw [Sys.step hS.h_class_Martian4, F_class_Martian4_eq]
  unfold F_class_Martian4
  (try simp only [guard_merge, or_merge, and_merge, or_pick, and_pick, guard_or, guard_and]); simp only [to_ob]
  by_cases h1 : (a.toNat : Int) = 0 <;> by_cases h2 : (a.toNat : Int) = 127 <;> by_cases h3 : (224 : Int) ≤ (a.toNat : Int) <;> by_cases h4 : (a.toNat : Int) = 169 <;> by_cases h5 : (b.toNat : Int) = 254 <;>
    first
    | (exfalso; omega)
    | (rw [decide_eq_true (p := a.toNat = 0 ∨ a.toNat = 127 ∨ 224 ≤ a.toNat ∨ (a.toNat = 169 ∧ b.toNat = 254)) (by omega)]; simp only [go_sem, ↓reduceIte, reduceCtorEq, upd_ne, back_new (no_at), Nat.reduceAdd, Nat.reduceEqDiff, Nat.reduceMul, Nat.reduceSub, Nat.reduceLeDiff, Nat.reduceLT, Int.reduceToNat, Int.reduceLE, Int.reduceLT, Int.reduceEq, UInt8.reduceOfNat, byteLV, h1, h2, h3, h4, h5, List.length_cons, List.length_nil, List.getElem?_cons_zero, List.getElem?_cons_succ])
    | (rw [decide_eq_false (p := a.toNat = 0 ∨ a.toNat = 127 ∨ 224 ≤ a.toNat ∨ (a.toNat = 169 ∧ b.toNat = 254)) (by omega)]; simp only [go_sem, ↓reduceIte, reduceCtorEq, upd_ne, back_new (no_at), Nat.reduceAdd, Nat.reduceEqDiff, Nat.reduceMul, Nat.reduceSub, Nat.reduceLeDiff, Nat.reduceLT, Int.reduceToNat, Int.reduceLE, Int.reduceLT, Int.reduceEq, UInt8.reduceOfNat, byteLV, h1, h2, h3, h4, h5, List.length_cons, List.length_nil, List.getElem?_cons_zero, List.getElem?_cons_succ])
theorem ev_icmp4B {k c r : Int} {d : List UInt8} (hk : 0 ≤ k ∧ k ≤ 255) (hc : 0 ≤ c ∧ c ≤ 255) (hr : 0 ≤ r ∧ r < 4294967296) (hd : d.length ≤ 100000) :
    S.ev (n + 3) id_icmp4_Bytes [msgLV k c r d] none = some (.tup [.str (im4B k c r d), .nili], none) := by
  rw [Sys.step hS.h_icmp4_Bytes, F_icmp4_Bytes_eq]
  unfold F_icmp4_Bytes
  have hx := sumS_le (beB 1 k.toNat ++ (beB 1 c.toNat ++ (0 :: 0 :: (beB 4 r.toNat ++ d))))
  have b1 : S.ev (n + 2) id_num_Big [.int .i64 k, .int .i64 1] none = some (bigR k 1, none) := ev_Big hS (n + 1) k 1 (by omega) ⟨by omega, by omega⟩
  have b2 : S.ev (n + 2) id_num_Big [.int .i64 c, .int .i64 1] none = some (bigR c 1, none) := ev_Big hS (n + 1) c 1 (by omega) ⟨by omega, by omega⟩
  have b3 : S.ev (n + 2) id_num_Big [.int .i64 r, .int .i64 4] none = some (bigR r 4, none) := ev_Big hS (n + 1) r 4 (by omega) ⟨by omega, by omega⟩
  have b4 : S.ev (n + 2) id_num_Big [.int .i64 (im4S k c r d), .int .i64 2] none = some (bigR (im4S k c r d) 2, none) := ev_Big hS (n + 1) _ 2 (by omega) ⟨by unfold im4S; omega, by unfold im4S; omega⟩
  have ho := ev_Of hS n [beB 1 k.toNat, beB 1 c.toNat, [0, 0], beB 4 r.toNat, d] (by simp) (by simp [beB_len]; omega)
  unfold bigR at b1 b2 b3 b4
  rw [if_pos (by omega)] at b1 b2
  rw [if_pos (by omega)] at b3
  rw [if_pos (by unfold im4S; omega)] at b4
  have e1 : IntKind.i64.wrap r = r := wrap_id (by omega) (by omega)
  simp only [List.map_cons, List.map_nil, List.flatten_cons, List.flatten_nil, List.append_nil, List.cons_append, List.nil_append] at ho
  have ho : S.ev (n + 2) id_sum_Of [.lst none [.str (beB 1 k.toNat), .str (beB 1 c.toNat), .str [0, 0], .str (beB 4 r.toNat), .str d]] none = some (.int .i64 (im4S k c r d), none) := ho
  have hl := beB_len
  (try simp only [guard_merge, or_merge, and_merge, or_pick, and_pick, guard_or, guard_and]); simp only [to_ob]
  unfold im4B
  simp only [go_sem, ↓reduceIte, reduceCtorEq, upd_ne, back_new (no_at), Nat.reduceAdd, Nat.reduceEqDiff, Nat.reduceMul, Nat.reduceSub, Nat.reduceLeDiff, Nat.reduceLT, Int.reduceToNat, Int.reduceLE, Int.reduceLT, Int.reduceEq, UInt8.reduceOfNat, b1, b2, b3, b4, ho, e1, hl, List.append_assoc, List.length_append]
  repeat rw [if_pos (by unfold maxStr; omega)]
end
end Go.Ev

/- Layer 15: an error of the gateway's own, where there is one. -/
namespace Go.Ev
set_option linter.unusedSimpArgs false
set_option linter.unusedVariables false
set_option maxRecDepth 10000
set_option maxHeartbeats 8000000
section
variable {S : Sys} (hS : Has S) (n : Nat)
include hS
theorem ev_own4_ok {s : List UInt8} {tos i0 ttl pt : Int} {df mo : Bool} {fr to op da a : List UInt8} {k c r id id' : Int} {md : List UInt8} {mtu : Nat} {q : List UInt8}
    (hp : S.ev (n + 4) id_ip4_Parse [.str s] none = some (.tup [ip4LV tos i0 ttl pt 0 df mo fr to op da, .nili], none)) (hfr : fr.length = 4) (hto : to.length = 4) (ha : a.length = 4)
    (hk : isF4 k = true) (hc : 0 ≤ c ∧ c ≤ 255) (hr : 0 ≤ r ∧ r < 4294967296) (hm : S.ev (n + 4) id_class_Martian4 [.bytes fr] none = some (.bool false, none)) (hpt : ¬ pt = 1)
    (hmtu : 68 ≤ mtu ∧ mtu ≤ 65535) (hl : 20 + op.length + da.length ≤ s.length) (hs : s.length ≤ 100000) (hop : op.length ≤ 40)
    (hbo : begO (20 + op.length + da.length) (20 + op.length) ((min 576 mtu : Nat) - 28 : Int) = true) (hq : (s.take (20 + op.length + da.length)).take (begN (20 + op.length + da.length) (20 + op.length) ((min 576 mtu : Nat) - 28 : Int)) = q)
    (hid : bitsOf .and .i64 id 65535 = id') (hi : I64 id')
    (hw : why4 0 id' 64 1 0 false [] (im4B k c r q) = 0) :
    S.ev (n + 5) id_fault_Own4 [msgLV k c r md, .str s, .bytes a, .int .i64 id, .int .i64 (mtu : Int)] none = some (.tup [.str (by4 0 id' 64 1 0 false false a fr [] (im4B k c r q)), .bool true], none) := by
  rw [Sys.step hS.h_fault_Own4, F_fault_Own4_eq]
  unfold F_fault_Own4
  have hk' : 0 ≤ k ∧ k ≤ 255 := by unfold isF4 at hk; have := of_decide_eq_true hk; omega
  have hf := ev_failure4 hS (n + 3) k c r md
  rw [hk] at hf
  have hql : q.length ≤ 100000 := by rw [← hq, List.length_take, List.length_take]; omega
  have hB := ev_icmp4B hS (n + 1) (k := k) (c := c) (r := r) (d := q) hk' hc hr hql
  have hbl : (im4B k c r q).length = 8 + q.length := by unfold im4B; simp only [List.length_append, beB_len]; omega
  have hby := ev_bytes4 hS (n + 1) (tos := 0) (id := id') (ttl := 64) (pt := 1) (at' := 0) (df := false) (mo := false) (fr := a) (to := fr) (op := []) (da := im4B k c r q) ⟨by unfold I64; omega, hi, by unfold I64; omega, by unfold I64; omega, by unfold I64; omega, ha, hfr, by simp, by omega⟩
  unfold by4R at hby
  rw [if_pos hw, hw] at hby
  have hg := ev_beginning hS (n + 3) (s.take (20 + op.length + da.length)) (20 + op.length) ((min 576 mtu : Nat) - 28 : Int) (by rw [List.length_take]; omega) (by omega)
  rw [show (s.take (20 + op.length + da.length)).length = 20 + op.length + da.length by rw [List.length_take]; omega, hbo, hq] at hg
  generalize im4B k c r q = IB at *
  have b1 : ¬ (mtu : Int) < 68 := by omega
  have b2 : ¬ 65535 < (mtu : Int) := by omega
  have e1 : IntKind.i64.wrap (20 + (op.length : Int)) = ((20 + op.length : Nat) : Int) := by rw [wrap_id (by omega) (by omega)]; omega
  have e2 : IntKind.i64.wrap (((20 + op.length : Nat) : Int) + (da.length : Int)) = ((20 + op.length + da.length : Nat) : Int) := by rw [wrap_id (by omega) (by omega)]; omega
  have hmm : (if (mtu : Int) < 576 then (mtu : Int) else 576) = ((min 576 mtu : Nat) : Int) := by split <;> omega
  have e3 : IntKind.i64.wrap (((min 576 mtu : Nat) : Int) - 20) = ((min 576 mtu : Nat) : Int) - 20 := wrap_id (by omega) (by omega)
  have e4 : IntKind.i64.wrap (((min 576 mtu : Nat) : Int) - 20 - 8) = ((min 576 mtu : Nat) : Int) - 28 := by rw [wrap_id (by omega) (by omega)]; omega
  (try simp only [guard_merge, or_merge, and_merge, or_pick, and_pick, guard_or, guard_and]); simp only [to_ob]
  simp only [go_sem, ↓reduceIte, reduceCtorEq, upd_ne, back_new (no_at), Nat.reduceAdd, Nat.reduceEqDiff, Nat.reduceMul, Nat.reduceSub, Nat.reduceLeDiff, Nat.reduceLT, Int.reduceToNat, Int.reduceLE, Int.reduceLT, Int.reduceEq, UInt8.reduceOfNat, List.getElem?_map, Int.toNat_natCast, pMinmax, pMinmax2, Option.bind_some, Bool.false_eq_true, hp, hf, hm, hpt, hfr, hto, ha, b1, b2, e1, e2, e3, e4, hmm, hl, hg, hB, hid, hby, fE, Nat.sub_zero, List.drop_zero]
end
end Go.Ev

/- Layer 15, plain: a packet's beginning is quoted. -/
namespace Go.Ev
set_option linter.unusedSimpArgs false
set_option linter.unusedVariables false
set_option maxRecDepth 10000
set_option maxHeartbeats 8000000
theorem getD_take {s : List UInt8} {i j : Nat} (h : i < j) : (s.take j).getD i 0 = s.getD i 0 := by
  simp [List.getD, List.getElem?_take, h]
theorem bAt_take {s : List UInt8} {i j : Nat} (h : i < j) : bAt (s.take j) i = bAt s i := by unfold bAt; rw [getD_take h]
theorem wAt_take {s : List UInt8} {i j : Nat} (h : i + 1 < j) : wAt (s.take j) i = wAt s i := by unfold wAt; rw [getD_take (by omega), getD_take h]
theorem inside_cut {s : List UInt8} (h : Par4 s) {j : Nat} (hj : n4 s + min 8 (wAt s 2 - n4 s) ≤ j) (hjl : j ≤ s.length) :
    iK4 (s.take j) = 0 ∧ iC4 (s.take j) = ((wAt s 2 - n4 s : Nat) : Int) ∧
    iLV4 (s.take j) = ip4LV (bAt s 1) (wAt s 4) (bAt s 8) (bAt s 9) (pat4 s) (pdf4 s) (pmo4 s) (pfr4 s) (pto4 s) (pop4 s) ((pda4 s).take (j - n4 s)) := by
  have h20 := h.hn
  have hlen : (s.take j).length = j := by rw [List.length_take]; omega
  have b0 : bAt (s.take j) 0 = bAt s 0 := bAt_take (by omega)
  have b1 : bAt (s.take j) 1 = bAt s 1 := bAt_take (by omega)
  have b8 : bAt (s.take j) 8 = bAt s 8 := bAt_take (by omega)
  have b9 : bAt (s.take j) 9 = bAt s 9 := bAt_take (by omega)
  have w2 : wAt (s.take j) 2 = wAt s 2 := wAt_take (by omega)
  have w4 : wAt (s.take j) 4 = wAt s 4 := wAt_take (by omega)
  have w6 : wAt (s.take j) 6 = wAt s 6 := wAt_take (by omega)
  have hn : n4 (s.take j) = n4 s := by unfold n4; rw [b0]
  have hda : pda4 (s.take j) = (pda4 s).take (j - n4 s) := by
    unfold pda4
    rw [hn, w2, List.drop_take, List.take_take, List.take_take, Nat.min_comm]
  have hop : pop4 (s.take j) = pop4 s := by
    unfold pop4
    rw [hn, List.drop_take, List.take_take, Nat.min_eq_left (by omega)]
  have hfr : pfr4 (s.take j) = pfr4 s := by unfold pfr4; rw [List.drop_take, List.take_take, Nat.min_eq_left (by omega)]
  have hto : pto4 (s.take j) = pto4 s := by unfold pto4; rw [List.drop_take, List.take_take, Nat.min_eq_left (by omega)]
  have hat : pat4 (s.take j) = pat4 s := by unfold pat4; rw [w6]
  have hdf : pdf4 (s.take j) = pdf4 s := by unfold pdf4; rw [w6]
  have hmo : pmo4 (s.take j) = pmo4 s := by unfold pmo4; rw [w6]
  have ok := why4_zero.1 h.hw
  have hall := ok.kall
  have hl := h.hl
  have ha := h.ha
  have hal := h.hal
  have hpl : (pda4 s).length = wAt s 2 - n4 s := by unfold pda4; rw [List.length_take, List.length_drop]; omega
  have hol : (pop4 s).length = n4 s - 20 := by unfold pop4; rw [List.length_take, List.length_drop]; omega
  have hcl : ((pda4 s).take (j - n4 s)).length = min (j - n4 s) (wAt s 2 - n4 s) := by rw [List.length_take, hpl]
  have hk : iK4 (s.take j) = 0 := by
    unfold iK4
    rw [hn, b0, w2, w6, hda, hcl, hlen, List.take_take, Nat.min_eq_left (show n4 s ≤ j by omega)]
    have hv := h.hv
    have hb := h.hb
    have hall' : wAt s 6 % 8192 * 8 + wAt s 2 ≤ 65535 := by unfold pat4 at hall; omega
    rw [if_neg (by omega), if_neg (by omega), if_neg (by omega), if_neg (fun q => q h.hs), if_neg (by omega), if_neg (by omega)]
  refine ⟨hk, ?_, ?_⟩
  · unfold iC4; rw [if_pos hk, w2, hn]
  · unfold iLV4; rw [if_pos hk, b1, w4, b8, b9, hat, hdf, hmo, hfr, hto, hop, hda]
end Go.Ev

/- Layer 2: a sum when a piece changes. -/
namespace Go.Ev
set_option linter.unusedSimpArgs false
set_option linter.unusedVariables false
set_option maxRecDepth 4000
set_option maxHeartbeats 1000000
def turn (u : UInt8) (s : List UInt8) : List UInt8 := s.map (· ^^^ u)
theorem turn_len (u : UInt8) (s : List UInt8) : (turn u s).length = s.length := by simp [turn]
theorem turn_get {u : UInt8} {s : List UInt8} {i : Nat} {c : UInt8} (h : s[i]? = some c) : (turn u s)[i]? = some (c ^^^ u) := by simp [turn, h]
theorem not_tab : ∀ c : Fin 256, c.val ^^^ 255 = 255 - c.val := by decide +kernel
theorem turn_sum : ∀ (s : List UInt8), s.length % 2 = 0 → sumAt 0 (turn 255 s) + sumAt 0 s = 65535 * (s.length / 2)
  | [], _ => rfl
  | [_], h => by simp at h
  | a :: b :: s, h => by
    have hi := turn_sum s (by simp at h; omega)
    have h1 : (a ^^^ 255).toNat = 255 - a.toNat := by rw [UInt8.toNat_xor]; exact not_tab ⟨a.toNat, a.toNat_lt⟩
    have h2 : (b ^^^ 255).toNat = 255 - b.toNat := by rw [UInt8.toNat_xor]; exact not_tab ⟨b.toNat, b.toNat_lt⟩
    have ha := a.toNat_lt
    have hb := b.toNat_lt
    have e : turn 255 (a :: b :: s) = (a ^^^ 255) :: (b ^^^ 255) :: turn 255 s := rfl
    rw [e]
    simp only [sumAt, sumAt_two, h1, h2, List.length_cons]
    simp
    omega
section
variable {S : Sys} (hS : Has S) (n : Nat)
include hS
theorem ev_addT (u : UInt8) (m p : Nat) (s : List UInt8) (hb : m + 65280 * s.length ≤ 9223372036854775807) (hp : p + s.length ≤ 9223372036854775806) :
    S.ev (n + 1) id_sum_add [.int .i64 (m : Int), .int .i64 (p : Int), .str s, .int .u8 (u.toNat : Int)] none = some (.int .i64 (m + sumAt p (turn u s) : Nat), none) := by
  rw [Sys.step hS.h_sum_add, F_sum_add_eq]
  unfold F_sum_add
  (try simp only [guard_merge, or_merge, and_merge, or_pick, and_pick, guard_or, guard_and]); simp only [to_ob]
  simp only [go_sem, ↓reduceIte, reduceCtorEq, upd_ne, back_new (no_at), Nat.reduceAdd, Nat.reduceEqDiff, Nat.reduceMul, Nat.reduceSub, Nat.reduceLeDiff, Nat.reduceLT, Int.reduceToNat, Int.reduceLE, Int.reduceLT, Int.reduceEq, UInt8.reduceOfNat]
  refine while_rule (fun k q => ∃ x i : Nat, q = ([.int .i64 (x : Int), .int .i64 (i : Int)], noSlots) ∧ i + k = s.length ∧ x + sumAt (p + i) ((turn u s).drop i) = m + sumAt p (turn u s)) s.length ⟨m, 0, rfl, by simp, by simp⟩ ?_
  rintro k q ⟨x, i, rfl, hi, hx⟩
  have hle := sumAt_le (turn u s) p
  rw [turn_len] at hle
  have hul := u.toNat_lt
  simp only [go_sem, ↓reduceIte, reduceCtorEq, upd_ne, back_new (no_at), Nat.reduceAdd, Nat.reduceEqDiff, Nat.reduceMul, Nat.reduceSub, Nat.reduceLeDiff, Nat.reduceLT, Int.reduceToNat, Int.reduceLE, Int.reduceLT, Int.reduceEq, UInt8.reduceOfNat]
  refine nxt_ite (fun h => ?_) (fun h => ?_)
  · have hlt : i < s.length := by omega
    obtain ⟨c, hc⟩ : ∃ c, s[i]? = some c := ⟨s[i], by simp [hlt]⟩
    have htc := turn_get (u := u) hc
    have hlt2 : i < (turn u s).length := by rw [turn_len]; exact hlt
    have hd : (turn u s).drop i = (c ^^^ u) :: (turn u s).drop (i + 1) := by
      rw [List.drop_eq_getElem_cons hlt2]; congr 1; simpa [hlt2] using htc
    have hcl := c.toNat_lt
    have hcu := (c ^^^ u).toNat_lt
    rw [hd] at hx
    simp only [sumAt] at hx
    have e0 : bitsOf .xor .u8 (c.toNat : Int) (u.toNat : Int) = ((c ^^^ u).toNat : Int) := by
      rw [bits_xor_nat (by simp [IntKind.max, IntKind.signed, IntKind.bits]; omega) (by simp [IntKind.max, IntKind.signed, IntKind.bits]; omega), UInt8.toNat_xor]
    generalize (c ^^^ u) = d at *
    have e1 : IntKind.i64.wrap (d.toNat : Int) = (d.toNat : Int) := wrap_id (by omega) (by omega)
    have e2 : IntKind.i64.wrap ((p : Int) + (i : Int)) = ((p + i : Nat) : Int) := by rw [wrap_id (by omega) (by omega)]; omega
    have e3 : Int.tmod ((p + i : Nat) : Int) 2 = (((p + i) % 2 : Nat) : Int) := by
      rw [Int.tmod_eq_emod_of_nonneg (by omega)]; omega
    have e4 : IntKind.i64.wrap ((d.toNat : Int) * 2 ^ min 8 64) = ((d.toNat * 256 : Nat) : Int) := by
      rw [show min 8 64 = 8 from rfl, wrap_id (by omega) (by omega)]; omega
    have e6 : IntKind.i64.wrap ((i : Int) + 1) = ((i + 1 : Nat) : Int) := by rw [wrap_id (by omega) (by omega)]; omega
    simp only [go_sem, ↓reduceIte, reduceCtorEq, upd_ne, back_new (no_at), Nat.reduceAdd, Nat.reduceEqDiff, Nat.reduceMul, Nat.reduceSub, Nat.reduceLeDiff, Nat.reduceLT, Int.reduceToNat, Int.reduceLE, Int.reduceLT, Int.reduceEq, UInt8.reduceOfNat, List.getElem?_map, Int.toNat_natCast, hc, e0, e1, e2, e3, e4, e6]
    by_cases hpar : (p + i) % 2 = 0
    · rw [if_pos hpar] at hx
      have e5 : IntKind.i64.wrap ((x : Int) + ((d.toNat * 256 : Nat) : Int)) = ((x + d.toNat * 256 : Nat) : Int) := by
        rw [wrap_id (by omega) (by omega)]; omega
      have hq : (((p + i) % 2 : Nat) : Int) = 0 := by omega
      simp only [go_sem, ↓reduceIte, reduceCtorEq, upd_ne, back_new (no_at), Nat.reduceAdd, Nat.reduceEqDiff, Nat.reduceMul, Nat.reduceSub, Nat.reduceLeDiff, Nat.reduceLT, Int.reduceToNat, Int.reduceLE, Int.reduceLT, Int.reduceEq, UInt8.reduceOfNat, hq, e5]
      exact ⟨k - 1, by omega, _, i + 1, rfl, by omega, by rw [show p + (i + 1) = p + i + 1 by omega]; omega⟩
    · rw [if_neg hpar] at hx
      have e5 : IntKind.i64.wrap ((x : Int) + (d.toNat : Int)) = ((x + d.toNat : Nat) : Int) := by
        rw [wrap_id (by omega) (by omega)]; omega
      have hq : ¬ (((p + i) % 2 : Nat) : Int) = 0 := by omega
      simp only [go_sem, ↓reduceIte, reduceCtorEq, upd_ne, back_new (no_at), Nat.reduceAdd, Nat.reduceEqDiff, Nat.reduceMul, Nat.reduceSub, Nat.reduceLeDiff, Nat.reduceLT, Int.reduceToNat, Int.reduceLE, Int.reduceLT, Int.reduceEq, UInt8.reduceOfNat, hq, e5]
      exact ⟨k - 1, by omega, _, i + 1, rfl, by omega, by rw [show p + (i + 1) = p + i + 1 by omega]; omega⟩
  · rw [List.drop_eq_nil_of_le (by rw [turn_len]; omega)] at hx
    simp only [sumAt, Nat.add_zero] at hx
    simp only [go_sem, ↓reduceIte, reduceCtorEq, upd_ne, back_new (no_at), Nat.reduceAdd, Nat.reduceEqDiff, Nat.reduceMul, Nat.reduceSub, Nat.reduceLeDiff, Nat.reduceLT, Int.reduceToNat, Int.reduceLE, Int.reduceLT, Int.reduceEq, UInt8.reduceOfNat, Nxt, exIf, hx]
theorem ev_even (s : List UInt8) (h : s.length % 2 = 0) : S.ev (n + 1) id_sum_even [.str s] none = some (.str s, none) := by
  rw [Sys.step hS.h_sum_even, F_sum_even_eq]
  unfold F_sum_even
  have e1 : Int.tmod (s.length : Int) 2 = ((s.length % 2 : Nat) : Int) := rfl
  have e2 : ¬ ((s.length % 2 : Nat) : Int) = 1 := by omega
  (try simp only [guard_merge, or_merge, and_merge, or_pick, and_pick, guard_or, guard_and]); simp only [to_ob]
  simp only [go_sem, ↓reduceIte, reduceCtorEq, upd_ne, back_new (no_at), Nat.reduceAdd, Nat.reduceEqDiff, Nat.reduceMul, Nat.reduceSub, Nat.reduceLeDiff, Nat.reduceLT, Int.reduceToNat, Int.reduceLE, Int.reduceLT, Int.reduceEq, UInt8.reduceOfNat, e1, e2]
theorem ev_Update (x : Nat) (o w : List UInt8) (hx : x ≤ 65535) (ho : o.length % 2 = 0) (h1 : o.length ≤ 1000000) (h2 : w.length ≤ 1000000) :
    S.ev (n + 2) id_sum_Update [.int .i64 (x : Int), .str o, .str w] none = some (.int .i64 (65535 - (ones (ones (65535 - x + sumAt 0 (turn 255 o)) + sumAt 0 w) : Nat)), none) := by
  rw [Sys.step hS.h_sum_Update, F_sum_Update_eq]
  unfold F_sum_Update
  have l1 := sumAt_le (turn 255 o) 0
  rw [turn_len] at l1
  have l2 := sumAt_le w 0
  have l3 := ones_le (65535 - x + sumAt 0 (turn 255 o))
  have l4 := ones_le (ones (65535 - x + sumAt 0 (turn 255 o)) + sumAt 0 w)
  have a1 := ev_even hS n o ho
  have a2 : S.ev (n + 1) id_sum_add [.int .i64 ((65535 - x : Nat) : Int), .int .i64 0, .str o, .int .u8 255] none = some (.int .i64 (65535 - x + sumAt 0 (turn 255 o) : Nat), none) := ev_addT hS n 255 (65535 - x) 0 o (by omega) (by omega)
  have a3 := ev_fold hS n (65535 - x + sumAt 0 (turn 255 o)) (by omega)
  have a4 : S.ev (n + 1) id_sum_add [.int .i64 (ones (65535 - x + sumAt 0 (turn 255 o)) : Nat), .int .i64 0, .str w, .int .u8 0] none = some (.int .i64 (ones (65535 - x + sumAt 0 (turn 255 o)) + sumAt 0 w : Nat), none) := ev_add hS n _ 0 w (by omega) (by omega)
  have a5 := ev_fold hS n (ones (65535 - x + sumAt 0 (turn 255 o)) + sumAt 0 w) (by omega)
  have e1 : bitsOf .and .i64 (x : Int) 65535 = (x : Int) := by
    rw [show (65535 : Int) = ((2 ^ 16 - 1 : Nat) : Int) from rfl, bits_mask 16 (by omega) (by simp [IntKind.max, IntKind.signed, IntKind.bits]; omega) (by decide)]
    show (x : Int) % ((65536 : Nat) : Int) = x
    omega
  have e2 : IntKind.i64.wrap (65535 - (x : Int)) = ((65535 - x : Nat) : Int) := by rw [wrap_id (by omega) (by omega)]; omega
  have e3 : IntKind.i64.wrap (65535 - ((ones (ones (65535 - x + sumAt 0 (turn 255 o)) + sumAt 0 w) : Nat) : Int)) = 65535 - ((ones (ones (65535 - x + sumAt 0 (turn 255 o)) + sumAt 0 w) : Nat) : Int) := wrap_id (by omega) (by omega)
  (try simp only [guard_merge, or_merge, and_merge, or_pick, and_pick, guard_or, guard_and]); simp only [to_ob]
  simp only [go_sem, ↓reduceIte, reduceCtorEq, upd_ne, back_new (no_at), Nat.reduceAdd, Nat.reduceEqDiff, Nat.reduceMul, Nat.reduceSub, Nat.reduceLeDiff, Nat.reduceLT, Int.reduceToNat, Int.reduceLE, Int.reduceLT, Int.reduceEq, UInt8.reduceOfNat, a1, a2, a3, a4, a5, e1, e2, e3]
end
end Go.Ev

/- Layer 15: what is quoted over the other family: sums, ports. -/
namespace Go.Ev
set_option linter.unusedSimpArgs false
set_option linter.unusedVariables false
set_option maxRecDepth 10000
set_option maxHeartbeats 8000000
def updN (x : Nat) (o w : List UInt8) : Nat := 65535 - ones (ones (65535 - x + sumAt 0 (turn 255 o)) + sumAt 0 w)
def upY (x : Nat) (o w : List UInt8) (none : Bool) : Nat := if none = true ∧ updN x o w = 0 then 65535 else updN x o w
def upF (d : List UInt8) (i : Nat) (o w : List UInt8) (none : Bool) : List UInt8 :=
  if d.length < i + 2 then d else if none = true ∧ wAt d i = 0 then d else d.take i ++ (beB 2 (upY (wAt d i) o w none) ++ d.drop (i + 2))
def poF (udp : Bool) (d o w : List UInt8) (p q : Nat) : List UInt8 :=
  if d.length < 4 then d else if udp = true then upF (beB 2 p ++ (beB 2 q ++ d.drop 4)) 6 (o ++ d.take 4) (w ++ (beB 2 p ++ beB 2 q)) true else upF (beB 2 p ++ (beB 2 q ++ d.drop 4)) 16 (o ++ d.take 4) (w ++ (beB 2 p ++ beB 2 q)) false
section
variable {S : Sys} (hS : Has S) (n : Nat)
include hS
theorem ev_upd (d : List UInt8) (i : Nat) (o w : List UInt8) (none : Bool) (hd : d.length ≤ 1000000) (hi : i ≤ 1000) (ho : o.length % 2 = 0) (h1 : o.length ≤ 1000000) (h2 : w.length ≤ 1000000) :
    S.ev (n + 3) id_fault_update [.str d, .int .i64 (i : Int), .str o, .str w, .bool none] Option.none = some (.str (upF d i o w none), Option.none) := by
  rw [Sys.step hS.h_fault_update, F_fault_update_eq]
  unfold F_fault_update
  have e1 : IntKind.i64.wrap ((i : Int) + 2) = ((i + 2 : Nat) : Int) := by rw [wrap_id (by omega) (by omega)]; omega
  (try simp only [guard_merge, or_merge, and_merge, or_pick, and_pick, guard_or, guard_and]); simp only [to_ob]
  unfold upF
  by_cases c1 : d.length < i + 2
  · have c1' : (d.length : Int) < ((i + 2 : Nat) : Int) := by omega
    simp only [go_sem, ↓reduceIte, reduceCtorEq, upd_ne, back_new (no_at), Nat.reduceAdd, Nat.reduceEqDiff, Nat.reduceMul, Nat.reduceSub, Nat.reduceLeDiff, Nat.reduceLT, Int.reduceToNat, Int.reduceLE, Int.reduceLT, Int.reduceEq, UInt8.reduceOfNat, c1, c1', e1]
  · have c1' : ¬ (d.length : Int) < ((i + 2 : Nat) : Int) := by omega
    have ga := get_def (s := d) (i := i) (by omega)
    have gb := get_def (s := d) (i := i + 1) (by omega)
    have hal := (d.getD i 0).toNat_lt
    have hbl := (d.getD (i + 1) 0).toNat_lt
    have f1 : IntKind.i64.wrap ((d.getD i 0).toNat : Int) = ((d.getD i 0).toNat : Int) := wrap_id (by omega) (by omega)
    have f2 : IntKind.i64.wrap ((d.getD (i + 1) 0).toNat : Int) = ((d.getD (i + 1) 0).toNat : Int) := wrap_id (by omega) (by omega)
    have f3 : IntKind.i64.wrap ((i : Int) + 1) = ((i + 1 : Nat) : Int) := by rw [wrap_id (by omega) (by omega)]; omega
    have f4 : IntKind.i64.wrap (((d.getD i 0).toNat : Int) * 2 ^ min 8 64) = (((d.getD i 0).toNat * 256 : Nat) : Int) := by
      rw [show min 8 64 = 8 from rfl, wrap_id (by omega) (by omega)]; omega
    have f5 : bitsOf .or .i64 ((((d.getD i 0).toNat * 256 : Nat)) : Int) ((d.getD (i + 1) 0).toNat : Int) = ((wAt d i : Nat) : Int) := w16_or _ _
    have hw := wAt_le d i
    have hu := ev_Update hS n (wAt d i) o w hw ho h1 h2
    have hon := ones_le (ones (65535 - wAt d i + sumAt 0 (turn 255 o)) + sumAt 0 w)
    have hu : S.ev (n + 2) id_sum_Update [.int .i64 ((wAt d i : Nat) : Int), .str o, .str w] Option.none = some (.int .i64 ((updN (wAt d i) o w : Nat) : Int), Option.none) := by
      rw [hu]; unfold updN; congr 3; omega
    have hul : updN (wAt d i) o w ≤ 65535 := by unfold updN; omega
    have g1 : S.ev (n + 2) id_fault_big [.int .i64 ((updN (wAt d i) o w : Nat) : Int), .int .i64 2] Option.none = some (.str (beB 2 (updN (wAt d i) o w)), Option.none) := ev_bigF hS n _ 2 (by omega) (lt2 (by omega) (by omega)) ⟨by omega, by omega⟩
    have g2 : S.ev (n + 2) id_fault_big [.int .i64 65535, .int .i64 2] Option.none = some (.str (beB 2 65535), Option.none) := ev_bigF hS n 65535 2 (by omega) (lt2 (by omega) (by omega)) ⟨by omega, by omega⟩
    have l1 : i ≤ d.length := by omega
    have l2 : i + 2 ≤ d.length := by omega
    have t1 : (d.drop (i + 2)).take (d.length - (i + 2)) = d.drop (i + 2) := List.take_of_length_le (by simp)
    have hl := beB_len
    have m1 : ∀ y, i ≤ 2000 → i + y ≤ 2000000 → i + y ≤ maxStr := fun y _ h => by unfold maxStr; omega
    have hlt : (d.take i).length = i := by rw [List.length_take]; omega
    unfold upY
    generalize hU : updN (wAt d i) o w = U at *
    have x1 : i + 2 ≤ maxStr := by unfold maxStr; omega
    have x2 : i + 2 + (d.length - (i + 2)) ≤ maxStr := by unfold maxStr; omega
    cases none
    · simp only [go_sem, ↓reduceIte, reduceCtorEq, upd_ne, back_new (no_at), Nat.reduceAdd, Nat.reduceEqDiff, Nat.reduceMul, Nat.reduceSub, Nat.reduceLeDiff, Nat.reduceLT, Int.reduceToNat, Int.reduceLE, Int.reduceLT, Int.reduceEq, UInt8.reduceOfNat, List.getElem?_map, Int.toNat_natCast, c1, c1', e1, ga, gb, byteLV, f1, f2, f3, f4, f5, hu, g1, l1, l2, t1, hl, hlt, x1, x2, List.length_append, List.length_drop, List.append_assoc, Nat.sub_zero, List.drop_zero, false_and, Bool.false_eq_true]
    · by_cases c2 : wAt d i = 0
      · have c2' : ((wAt d i : Nat) : Int) = 0 := by omega
        simp only [go_sem, ↓reduceIte, reduceCtorEq, upd_ne, back_new (no_at), Nat.reduceAdd, Nat.reduceEqDiff, Nat.reduceMul, Nat.reduceSub, Nat.reduceLeDiff, Nat.reduceLT, Int.reduceToNat, Int.reduceLE, Int.reduceLT, Int.reduceEq, UInt8.reduceOfNat, List.getElem?_map, Int.toNat_natCast, c1, c1', e1, ga, gb, byteLV, f1, f2, f3, f4, f5, c2, c2', true_and]
      · have c2' : ¬ ((wAt d i : Nat) : Int) = 0 := by omega
        by_cases c3 : U = 0
        · have c3' : ((U : Nat) : Int) = 0 := by omega
          simp only [go_sem, ↓reduceIte, reduceCtorEq, upd_ne, back_new (no_at), Nat.reduceAdd, Nat.reduceEqDiff, Nat.reduceMul, Nat.reduceSub, Nat.reduceLeDiff, Nat.reduceLT, Int.reduceToNat, Int.reduceLE, Int.reduceLT, Int.reduceEq, UInt8.reduceOfNat, List.getElem?_map, Int.toNat_natCast, c1, c1', e1, ga, gb, byteLV, f1, f2, f3, f4, f5, c2, c2', c3, c3', hu, g2, l1, l2, t1, hl, hlt, x1, x2, List.length_append, List.length_drop, List.append_assoc, Nat.sub_zero, List.drop_zero, true_and]
        · have c3' : ¬ ((U : Nat) : Int) = 0 := by omega
          simp only [go_sem, ↓reduceIte, reduceCtorEq, upd_ne, back_new (no_at), Nat.reduceAdd, Nat.reduceEqDiff, Nat.reduceMul, Nat.reduceSub, Nat.reduceLeDiff, Nat.reduceLT, Int.reduceToNat, Int.reduceLE, Int.reduceLT, Int.reduceEq, UInt8.reduceOfNat, List.getElem?_map, Int.toNat_natCast, c1, c1', e1, ga, gb, byteLV, f1, f2, f3, f4, f5, c2, c2', c3, c3', hu, g1, l1, l2, t1, hl, hlt, x1, x2, List.length_append, List.length_drop, List.append_assoc, Nat.sub_zero, List.drop_zero, true_and]
end
end Go.Ev

/- Layer 15: ports, and what an IPv4 packet's data turn to. -/
namespace Go.Ev
set_option linter.unusedSimpArgs false
set_option linter.unusedVariables false
set_option maxRecDepth 10000
set_option maxHeartbeats 8000000
theorem upF_len {d : List UInt8} {i : Nat} {o w : List UInt8} {none : Bool} : (upF d i o w none).length = d.length := by
  unfold upF
  split
  · rfl
  · split
    · rfl
    · simp only [List.length_append, beB_len, List.length_take, List.length_drop]; omega
theorem poF_len {udp : Bool} {d o w : List UInt8} {p q : Nat} : (poF udp d o w p q).length = d.length := by
  unfold poF
  split
  · rfl
  · split
    · rw [upF_len]; simp only [List.length_append, beB_len, List.length_drop]; omega
    · rw [upF_len]; simp only [List.length_append, beB_len, List.length_drop]; omega
section
variable {S : Sys} (hS : Has S) (n : Nat)
include hS
theorem ev_ported (pt : Int) (d o w : List UInt8) (p q : Nat) (hd : d.length ≤ 900000) (ho : o.length % 2 = 0) (h1 : o.length ≤ 1000) (h2 : w.length ≤ 1000) (hp : p ≤ 65535) (hq : q ≤ 65535) :
    S.ev (n + 4) id_fault_ported [.int .i64 pt, .str d, .str o, .str w, .int .i64 (p : Int), .int .i64 (q : Int)] none = some (.str (poF (decide (pt = 17)) d o w p q), none) := by
  rw [Sys.step hS.h_fault_ported, F_fault_ported_eq]
  unfold F_fault_ported
  (try simp only [guard_merge, or_merge, and_merge, or_pick, and_pick, guard_or, guard_and]); simp only [to_ob]
  unfold poF
  by_cases c1 : d.length < 4
  · have c1' : (d.length : Int) < 4 := by omega
    simp only [go_sem, ↓reduceIte, reduceCtorEq, upd_ne, back_new (no_at), Nat.reduceAdd, Nat.reduceEqDiff, Nat.reduceMul, Nat.reduceSub, Nat.reduceLeDiff, Nat.reduceLT, Int.reduceToNat, Int.reduceLE, Int.reduceLT, Int.reduceEq, UInt8.reduceOfNat, c1, c1']
  · have c1' : ¬ (d.length : Int) < 4 := by omega
    have g1 : S.ev (n + 3) id_fault_big [.int .i64 (p : Int), .int .i64 2] none = some (.str (beB 2 p), none) := ev_bigF hS (n + 1) p 2 (by omega) (lt2 (by omega) (by omega)) ⟨by omega, by omega⟩
    have g2 : S.ev (n + 3) id_fault_big [.int .i64 (q : Int), .int .i64 2] none = some (.str (beB 2 q), none) := ev_bigF hS (n + 1) q 2 (by omega) (lt2 (by omega) (by omega)) ⟨by omega, by omega⟩
    have hl := beB_len
    have l1 : 4 ≤ d.length := by omega
    have t1 : (d.drop 4).take (d.length - 4) = d.drop 4 := List.take_of_length_le (by simp)
    have hl4 : (d.take 4).length = 4 := by rw [List.length_take]; omega
    have x1 : 2 + 2 ≤ maxStr := by decide
    have x2 : 4 + (d.length - 4) ≤ maxStr := by unfold maxStr; omega
    have x3 : o.length + 4 ≤ maxStr := by unfold maxStr; omega
    have x4 : w.length + 4 ≤ maxStr := by unfold maxStr; omega
    have u1 := ev_upd hS n (beB 2 p ++ (beB 2 q ++ d.drop 4)) 6 (o ++ d.take 4) (w ++ (beB 2 p ++ beB 2 q)) true (by simp only [List.length_append, beB_len, List.length_drop]; omega) (by omega) (by simp only [List.length_append, hl4]; omega) (by simp only [List.length_append, hl4]; omega) (by simp only [List.length_append, beB_len]; omega)
    have u1 : S.ev (n + 3) id_fault_update [.str (beB 2 p ++ (beB 2 q ++ d.drop 4)), .int .i64 6, .str (o ++ d.take 4), .str (w ++ (beB 2 p ++ beB 2 q)), .bool true] none = _ := u1
    have u2 := ev_upd hS n (beB 2 p ++ (beB 2 q ++ d.drop 4)) 16 (o ++ d.take 4) (w ++ (beB 2 p ++ beB 2 q)) false (by simp only [List.length_append, beB_len, List.length_drop]; omega) (by omega) (by simp only [List.length_append, hl4]; omega) (by simp only [List.length_append, hl4]; omega) (by simp only [List.length_append, beB_len]; omega)
    have u2 : S.ev (n + 3) id_fault_update [.str (beB 2 p ++ (beB 2 q ++ d.drop 4)), .int .i64 16, .str (o ++ d.take 4), .str (w ++ (beB 2 p ++ beB 2 q)), .bool false] none = _ := u2
    by_cases c2 : pt = 17
    · simp only [go_sem, ↓reduceIte, reduceCtorEq, upd_ne, back_new (no_at), Nat.reduceAdd, Nat.reduceEqDiff, Nat.reduceMul, Nat.reduceSub, Nat.reduceLeDiff, Nat.reduceLT, Int.reduceToNat, Int.reduceLE, Int.reduceLT, Int.reduceEq, UInt8.reduceOfNat, List.getElem?_map, Int.toNat_natCast, c1, c1', c2, g1, g2, u1, l1, t1, hl, hl4, x1, x2, x3, x4, List.length_append, List.length_drop, List.append_assoc, Nat.sub_zero, List.drop_zero, decide_true]
    · simp only [go_sem, ↓reduceIte, reduceCtorEq, upd_ne, back_new (no_at), Nat.reduceAdd, Nat.reduceEqDiff, Nat.reduceMul, Nat.reduceSub, Nat.reduceLeDiff, Nat.reduceLT, Int.reduceToNat, Int.reduceLE, Int.reduceLT, Int.reduceEq, UInt8.reduceOfNat, List.getElem?_map, Int.toNat_natCast, c1, c1', c2, g1, g2, u2, l1, t1, hl, hl4, x1, x2, x3, x4, List.length_append, List.length_drop, List.append_assoc, Nat.sub_zero, List.drop_zero, decide_false, Bool.false_eq_true]
/-- Of TCP and UDP. -/
theorem ev_turn6p {tos id ttl pt at' : Int} {df mo : Bool} {fr to op da a b : List UInt8} {claim : Int} {p q : Nat} (hfr : fr.length = 4) (hto : to.length = 4) (ha : a.length = 16) (hb : b.length = 16) (hat : ¬ 0 < at') (hpt : pt = 6 ∨ pt = 17) (hd : da.length ≤ 900000) (hp : p ≤ 65535) (hq : q ≤ 65535) :
    S.ev (n + 5) id_fault_turn6 [ip4LV tos id ttl pt at' df mo fr to op da, .int .i64 claim, .agg [.bytes a, .int .i64 (p : Int)], .agg [.bytes b, .int .i64 (q : Int)]] none = some (.str (poF (decide (pt = 17)) da (fr ++ to) (a ++ b) p q), none) := by
  rw [Sys.step hS.h_fault_turn6, F_fault_turn6_eq]
  unfold F_fault_turn6
  have hP := ev_ported hS n pt da (fr ++ to) (a ++ b) p q hd (by simp [hfr, hto]) (by simp [hfr, hto]) (by simp [ha, hb]) hp hq
  have x1 : 4 + 4 ≤ maxStr := by decide
  have x2 : 16 + 16 ≤ maxStr := by decide
  have t1 : fr.take 4 = fr := List.take_of_length_le (by omega)
  have t2 : to.take 4 = to := List.take_of_length_le (by omega)
  have t3 : a.take 16 = a := List.take_of_length_le (by omega)
  have t4 : b.take 16 = b := List.take_of_length_le (by omega)
  (try simp only [guard_merge, or_merge, and_merge, or_pick, and_pick, guard_or, guard_and]); simp only [to_ob]
  rcases hpt with rfl | rfl
  · simp only [go_sem, ↓reduceIte, reduceCtorEq, upd_ne, back_new (no_at), Nat.reduceAdd, Nat.reduceEqDiff, Nat.reduceMul, Nat.reduceSub, Nat.reduceLeDiff, Nat.reduceLT, Int.reduceToNat, Int.reduceLE, Int.reduceLT, Int.reduceEq, UInt8.reduceOfNat, List.getElem?_map, Int.toNat_natCast, hfr, hto, ha, hb, hat, hP, x1, x2, t1, t2, t3, t4, toBytes_byteLV, List.length_append]
  · simp only [go_sem, ↓reduceIte, reduceCtorEq, upd_ne, back_new (no_at), Nat.reduceAdd, Nat.reduceEqDiff, Nat.reduceMul, Nat.reduceSub, Nat.reduceLeDiff, Nat.reduceLT, Int.reduceToNat, Int.reduceLE, Int.reduceLT, Int.reduceEq, UInt8.reduceOfNat, List.getElem?_map, Int.toNat_natCast, hfr, hto, ha, hb, hat, hP, x1, x2, t1, t2, t3, t4, toBytes_byteLV, List.length_append]
end
end Go.Ev

/- Layer 15: a whole packet of TCP or UDP is quoted over IPv6. -/
namespace Go.Ev
set_option linter.unusedSimpArgs false
set_option linter.unusedVariables false
set_option maxRecDepth 10000
set_option maxHeartbeats 8000000
def inB (m : Int) (l : List Int) : Bool := l.all fun x => decide (0 ≤ x ∧ x ≤ m)
theorem or6F {c : Nat} (hc : c ≤ 255) : 1610612736 ||| c * 1048576 = 1610612736 + c * 1048576 := by
  rw [show 1610612736 = 1536 <<< 20 by rfl, show c * 1048576 = c <<< 20 by simp [Nat.shiftLeft_eq], ← Nat.shiftLeft_or_distrib, show 1536 = 6 <<< 8 by rfl, ← Nat.shiftLeft_add_eq_or_of_lt (by omega)]
  simp only [Nat.shiftLeft_eq]
  omega
section
variable {S : Sys} (hS : Has S) (n : Nat)
include hS
theorem ev_withinF (m : Int) (l : List Int) (hl : l.length ≤ 1000) : S.ev (n + 1) id_fault_within [.int .i64 m, .lst none (l.map fun x => LV.int .i64 x)] none = some (.bool (inB m l), none) := by
  rw [Sys.step hS.h_fault_within, F_fault_within_eq]
  unfold F_fault_within
  (try simp only [guard_merge, or_merge, and_merge, or_pick, and_pick, guard_or, guard_and]); simp only [to_ob]
  simp only [go_sem, ↓reduceIte, reduceCtorEq, upd_ne, back_new (no_at), Nat.reduceAdd, Nat.reduceEqDiff, Nat.reduceMul, Nat.reduceSub, Nat.reduceLeDiff, Nat.reduceLT, Int.reduceToNat, Int.reduceLE, Int.reduceLT, Int.reduceEq, UInt8.reduceOfNat, List.length_map]
  refine while_rule (fun k q => ∃ i : Nat, q = ([.bool false, .int .i64 (i : Int)], noSlots) ∧ i + k = l.length ∧ inB m (l.drop i) = inB m l) l.length ⟨0, rfl, by omega, rfl⟩ ?_
  rintro k q ⟨i, rfl, hi, hr⟩
  by_cases h : i < l.length
  · have h' : (i : Int) < (l.length : Int) := by omega
    obtain ⟨x, hx⟩ : ∃ x, l[i]? = some x := ⟨l[i], by simp [h]⟩
    have hd : l.drop i = x :: l.drop (i + 1) := by
      rw [List.drop_eq_getElem_cons h]; congr 1; rw [List.getElem?_eq_getElem h] at hx; exact Option.some.inj hx
    rw [hd] at hr
    have hc : inB m (x :: l.drop (i + 1)) = (decide (0 ≤ x ∧ x ≤ m) && inB m (l.drop (i + 1))) := rfl
    rw [hc] at hr
    have e1 : IntKind.i64.wrap ((i : Int) + 1) = ((i + 1 : Nat) : Int) := by rw [wrap_id (by omega) (by omega)]; omega
    by_cases c1 : x < 0
    · rw [decide_eq_false (by omega), Bool.false_and] at hr
      rw [← hr]
      simp only [go_sem, ↓reduceIte, reduceCtorEq, upd_ne, back_new (no_at), Nat.reduceAdd, Nat.reduceEqDiff, Nat.reduceMul, Nat.reduceSub, Nat.reduceLeDiff, Nat.reduceLT, Int.reduceToNat, Int.reduceLE, Int.reduceLT, Int.reduceEq, UInt8.reduceOfNat, List.getElem?_map, Int.toNat_natCast, h', hx, c1, Option.map_some, Nxt, exIf]
    · by_cases c2 : m < x
      · rw [decide_eq_false (by omega), Bool.false_and] at hr
        rw [← hr]
        simp only [go_sem, ↓reduceIte, reduceCtorEq, upd_ne, back_new (no_at), Nat.reduceAdd, Nat.reduceEqDiff, Nat.reduceMul, Nat.reduceSub, Nat.reduceLeDiff, Nat.reduceLT, Int.reduceToNat, Int.reduceLE, Int.reduceLT, Int.reduceEq, UInt8.reduceOfNat, List.getElem?_map, Int.toNat_natCast, h', hx, c1, c2, Option.map_some, Nxt, exIf]
      · rw [decide_eq_true (by omega), Bool.true_and] at hr
        simp only [go_sem, ↓reduceIte, reduceCtorEq, upd_ne, back_new (no_at), Nat.reduceAdd, Nat.reduceEqDiff, Nat.reduceMul, Nat.reduceSub, Nat.reduceLeDiff, Nat.reduceLT, Int.reduceToNat, Int.reduceLE, Int.reduceLT, Int.reduceEq, UInt8.reduceOfNat, List.getElem?_map, Int.toNat_natCast, h', hx, c1, c2, Option.map_some, e1]
        exact ⟨k - 1, by omega, i + 1, rfl, by omega, hr⟩
  · have h' : ¬ (i : Int) < (l.length : Int) := by omega
    rw [List.drop_of_length_le (by omega)] at hr
    rw [← hr]
    simp only [go_sem, ↓reduceIte, reduceCtorEq, upd_ne, back_new (no_at), Nat.reduceAdd, Nat.reduceEqDiff, Nat.reduceMul, Nat.reduceSub, Nat.reduceLeDiff, Nat.reduceLT, Int.reduceToNat, Int.reduceLE, Int.reduceLT, Int.reduceEq, UInt8.reduceOfNat, List.getElem?_map, Int.toNat_natCast, h', Nxt, exIf]
    rfl
theorem ev_proto17 (x : Int) (hx : x = 6 ∨ x = 17) : S.ev (n + 1) id_head46_Proto [.int .i64 x] none = some (.tup [.int .i64 x, .bool true], none) := by
  rw [Sys.step hS.h_head46_Proto, F_head46_Proto_eq]
  unfold F_head46_Proto
  (try simp only [guard_merge, or_merge, and_merge, or_pick, and_pick, guard_or, guard_and]); simp only [to_ob]
  rcases hx with rfl | rfl <;> simp only [go_sem, ↓reduceIte, reduceCtorEq, upd_ne, back_new (no_at), Nat.reduceAdd, Nat.reduceEqDiff, Nat.reduceMul, Nat.reduceSub, Nat.reduceLeDiff, Nat.reduceLT, Int.reduceToNat, Int.reduceLE, Int.reduceLT, Int.reduceEq, UInt8.reduceOfNat]
/-- Whole, of TCP or UDP. -/
theorem ev_quote6w {tos id ttl pt : Int} {df : Bool} {fr to op da a b : List UInt8} {claim p q : Nat} (hfr : fr.length = 4) (hto : to.length = 4) (ha : a.length = 16) (hb : b.length = 16) (hpt : pt = 6 ∨ pt = 17)
    (ht : 0 ≤ tos ∧ tos ≤ 255) (htl : 0 ≤ ttl ∧ ttl ≤ 255) (hi : 0 ≤ id ∧ id ≤ 65535) (hd : da.length ≤ claim) (hc : claim ≤ 65535) (hp : p ≤ 65535) (hq : q ≤ 65535) :
    S.ev (n + 6) id_fault_Quote6 [ip4LV tos id ttl pt 0 df false fr to op da, .int .i64 (claim : Int), .agg [.bytes a, .int .i64 (p : Int)], .agg [.bytes b, .int .i64 (q : Int)]] none =
      some (.tup [.str (beB 4 (1610612736 + tos.toNat * 1048576) ++ (beB 2 claim ++ (beB 1 pt.toNat ++ (beB 1 ttl.toNat ++ (a ++ (b ++ poF (decide (pt = 17)) da (fr ++ to) (a ++ b) p q)))))), .nili], none) := by
  rw [Sys.step hS.h_fault_Quote6, F_fault_Quote6_eq]
  unfold F_fault_Quote6
  have hP := ev_proto17 hS (n + 4) pt hpt
  have hT := ev_turn6p hS n (tos := tos) (id := id) (ttl := ttl) (pt := pt) (at' := 0) (df := df) (mo := false) (fr := fr) (to := to) (op := op) (da := da) (a := a) (b := b) (claim := (claim : Int)) (p := p) (q := q) hfr hto ha hb (by omega) hpt (by omega) hp hq
  have w1 : S.ev (n + 5) id_fault_within [.int .i64 255, .lst none [.int .i64 tos, .int .i64 ttl]] none = some (.bool true, none) := by
    have h := ev_withinF hS (n + 4) 255 [tos, ttl] (by simp)
    rw [show inB 255 [tos, ttl] = true by simp [inB]; omega] at h
    exact h
  have w2 : S.ev (n + 5) id_fault_within [.int .i64 65535, .lst none [.int .i64 id, .int .i64 (p : Int), .int .i64 (q : Int)]] none = some (.bool true, none) := by
    have h := ev_withinF hS (n + 4) 65535 [id, (p : Int), (q : Int)] (by simp)
    rw [show inB 65535 [id, (p : Int), (q : Int)] = true by simp [inB]; omega] at h
    exact h
  have w3 : S.ev (n + 5) id_fault_within [.int .i64 65528, .lst none [.int .i64 0]] none = some (.bool true, none) := by
    have h := ev_withinF hS (n + 4) 65528 [0] (by simp)
    exact h
  obtain ⟨T, rfl⟩ := Int.eq_ofNat_of_zero_le ht.1
  have g1 : S.ev (n + 5) id_fault_big [.int .i64 ((1610612736 + T * 1048576 : Nat) : Int), .int .i64 4] none = some (.str (beB 4 (1610612736 + T * 1048576)), none) := ev_bigF hS (n + 3) _ 4 (by omega) (by omega) ⟨by omega, by omega⟩
  have g2 : S.ev (n + 5) id_fault_big [.int .i64 (claim : Int), .int .i64 2] none = some (.str (beB 2 claim), none) := ev_bigF hS (n + 3) claim 2 (by omega) (lt2 (by omega) (by omega)) ⟨by omega, by omega⟩
  have g3 : S.ev (n + 5) id_fault_big [.int .i64 pt, .int .i64 1] none = some (.str (beB 1 pt.toNat), none) := ev_bigF hS (n + 3) pt 1 (by omega) (lt1 (by omega) (by omega)) ⟨by omega, by omega⟩
  have g4 : S.ev (n + 5) id_fault_big [.int .i64 ttl, .int .i64 1] none = some (.str (beB 1 ttl.toNat), none) := ev_bigF hS (n + 3) ttl 1 (by omega) (lt1 (by omega) (by omega)) ⟨by omega, by omega⟩
  have s1 : IntKind.i64.wrap ((T : Int) * 2 ^ min 20 64) = ((T * 1048576 : Nat) : Int) := by
    rw [show min 20 64 = 20 from rfl, wrap_id (by omega) (by omega)]; omega
  have s2 : bitsOf .or .i64 1610612736 ((T * 1048576 : Nat) : Int) = ((1610612736 + T * 1048576 : Nat) : Int) := by
    rw [show (1610612736 : Int) = ((1610612736 : Nat) : Int) from rfl, bits_or_nat (by decide) (by simp [IntKind.max, IntKind.signed, IntKind.bits]; omega), or6F (by omega)]
  have c1 : ¬ (claim : Int) < (da.length : Int) := by omega
  have c2 : ¬ 65535 < (claim : Int) := by omega
  have hl := beB_len
  have hpl := @poF_len (decide (pt = 17)) da (fr ++ to) (a ++ b) p q
  have t3 : a.take 16 = a := List.take_of_length_le (by omega)
  have t4 : b.take 16 = b := List.take_of_length_le (by omega)
  have x1 : 4 + 2 ≤ maxStr := by decide
  have x2 : 6 + 1 ≤ maxStr := by decide
  have x3 : 7 + 1 ≤ maxStr := by decide
  have x4 : 8 + 16 ≤ maxStr := by decide
  have x5 : 24 + 16 ≤ maxStr := by decide
  have x6 : 40 + da.length ≤ maxStr := by unfold maxStr; omega
  generalize poF (decide (pt = 17)) da (fr ++ to) (a ++ b) p q = PO at *
  (try simp only [guard_merge, or_merge, and_merge, or_pick, and_pick, guard_or, guard_and]); simp only [to_ob]
  rw [Int.toNat_natCast]
  simp only [go_sem, ↓reduceIte, reduceCtorEq, upd_ne, back_new (no_at), Nat.reduceAdd, Nat.reduceEqDiff, Nat.reduceMul, Nat.reduceSub, Nat.reduceLeDiff, Nat.reduceLT, Int.reduceToNat, Int.reduceLE, Int.reduceLT, Int.reduceEq, UInt8.reduceOfNat, List.getElem?_map, Int.toNat_natCast, hfr, hto, ha, hb, hP, hT, w1, w2, w3, g1, g2, g3, g4, s1, s2, c1, c2, hl, hpl, t3, t4, toBytes_byteLV, x1, x2, x3, x4, x5, x6, List.length_append, List.append_assoc, List.append_nil, List.length_nil, Nat.add_zero, Int.zero_tmod]
end
end Go.Ev

/- Layer 15: the law is awake. -/
namespace Go.Ev
set_option linter.unusedSimpArgs false
set_option linter.unusedVariables false
set_option maxRecDepth 10000
set_option maxHeartbeats 8000000
theorem g_ok {k : Nat} (hk : k ≤ 5000) : Ok4 0 0 9 17 0 false [] (List.replicate k 120) := ⟨by omega, by omega, by omega, by omega, by omega, rfl, by simp, by simp, by simp, by rw [List.length_replicate]; simp; omega⟩
theorem g_fit {k : Nat} (hk : k ≤ 5000) : FitIp4 0 0 9 17 0 [192, 0, 2, 1] [192, 0, 2, 2] [] (List.replicate k 120) := ⟨by unfold I64; omega, by unfold I64; omega, by unfold I64; omega, by unfold I64; omega, by unfold I64; omega, rfl, rfl, by simp, by rw [List.length_replicate]; omega⟩
/-- What Inside4 says of the beginning of a packet's bytes. -/
theorem inside_by4 {tos id ttl pt at' : Int} {df mo : Bool} {fr to op da : List UInt8} (ok : Ok4 tos id ttl pt at' mo op da) (hfr : fr.length = 4) (hto : to.length = 4) {j : Nat} (hj : 20 + op.length + min 8 da.length ≤ j) (hjl : j ≤ 20 + op.length + da.length) :
    iK4 ((by4 tos id ttl pt at' df mo fr to op da).take j) = 0 ∧ iC4 ((by4 tos id ttl pt at' df mo fr to op da).take j) = (da.length : Int) ∧
    iLV4 ((by4 tos id ttl pt at' df mo fr to op da).take j) = ip4LV tos id ttl pt at' df mo fr to op (da.take (j - (20 + op.length))) := by
  obtain ⟨p1, p2, p3, p4⟩ := parse_by4 (df := df) ok hfr hto []
  have hlen := by4_len (tos := tos) (id := id) (ttl := ttl) (pt := pt) (at' := at') (df := df) (mo := mo) (op := op) (da := da) hfr hto
  rw [List.append_nil] at p1 p2 p3 p4
  generalize by4 tos id ttl pt at' df mo fr to op da = B at *
  obtain ⟨c1, c2, c3⟩ := inside_cut p1 (j := j) (by rw [p2, p3, show 20 + op.length + da.length - (20 + op.length) = da.length by omega]; exact hj) (by omega)
  refine ⟨c1, by rw [c2, p2, p3]; omega, ?_⟩
  rw [c3, p2]
  unfold pLV4 at p4
  rw [if_pos (pK4_zero.2 p1)] at p4
  simp only [LV.agg.injEq, List.cons.injEq, LV.int.injEq, LV.bool.injEq, LV.bytes.injEq, LV.str.injEq, true_and, and_true] at p4
  obtain ⟨q1, q2, q3, q4, q5, q6, q7, q8, q9, q10, q11⟩ := p4
  rw [q1, q2, q3, q4, q5, q6, q7, q8, q9, q10, q11]
section
variable {S : Sys} (hS : Has S) (n : Nat)
include hS
theorem ev_parse_by4 {tos id ttl pt at' : Int} {df mo : Bool} {fr to op da : List UInt8} (ok : Ok4 tos id ttl pt at' mo op da) (hfr : fr.length = 4) (hto : to.length = 4) :
    S.ev (n + 4) id_ip4_Parse [.str (by4 tos id ttl pt at' df mo fr to op da)] none = some (.tup [ip4LV tos id ttl pt at' df mo fr to op da, .nili], none) ∧
    S.ev (n + 4) id_interpreterref03_Parse [.str (by4 tos id ttl pt at' df mo fr to op da)] none = some (.tup [ip4LV tos id ttl pt at' df mo fr to op da, .int .i64 0], none) := by
  obtain ⟨p1, p2, p3, p4⟩ := parse_by4 (df := df) ok hfr hto []
  have hlen := by4_len (tos := tos) (id := id) (ttl := ttl) (pt := pt) (at' := at') (df := df) (mo := mo) (op := op) (da := da) hfr hto
  have k1 := ok.kop
  have k2 := ok.kall
  have k3 := ok.kat
  rw [List.append_nil] at p1 p2 p3 p4
  constructor
  · rw [ev_parse4 hS n _ (by omega), p4, pK4_zero.2 p1]; rfl
  · rw [ev_rparse3 hS n _ (by omega), p4, pK4_zero.2 p1]
end
end Go.Ev

/- Layer 15: the law is awake. -/
namespace Go.Ev
set_option linter.unusedSimpArgs false
set_option linter.unusedVariables false
set_option maxRecDepth 10000
set_option maxHeartbeats 8000000
theorem upF_take {d : List UInt8} {i : Nat} {o w : List UInt8} {none : Bool} (h : 4 ≤ i) : (upF d i o w none).take 4 = d.take 4 := by
  unfold upF
  split
  · rfl
  · split
    · rfl
    · rw [List.take_append_of_le_length (by rw [List.length_take]; omega), List.take_take, Nat.min_eq_left h]
theorem poF_ports {udp : Bool} {d o w : List UInt8} {p q : Nat} (h : 4 ≤ d.length) : (poF udp d o w p q).take 4 = beB 2 p ++ beB 2 q := by
  have hx : (beB 2 p ++ (beB 2 q ++ d.drop 4)).take 4 = beB 2 p ++ beB 2 q := by simp [beB2]
  unfold poF
  rw [if_neg (by omega)]
  split
  · rw [upF_take (by omega), hx]
  · rw [upF_take (by omega), hx]
section
variable {S : Sys} (hS : Has S) (n : Nat)
include hS
theorem ev_awake15 : S.ev (n + 7) id_interpreterlaw15_awake [] none = some (.bool true, none) := by
  rw [Sys.step hS.h_interpreterlaw15_awake, F_interpreterlaw15_awake_eq]
  unfold F_interpreterlaw15_awake
  have h1 : S.ev (n + 6) id_interpreterlaw15_gram [.int .i64 600] none = _ := ev_gram hS (n + 4) 600 (by omega)
  have h0 : S.ev (n + 6) id_interpreterlaw15_gram [.int .i64 0] none = _ := ev_gram hS (n + 4) 0 (by omega)
  have ok := g_ok (k := 600) (by omega)
  have h2 := ev_rbytes3 hS (n + 3) (df := false) (mo := false) (g_fit (k := 600) (by omega)) (by rw [List.length_replicate]; omega)
  unfold by4R at h2
  rw [if_pos (why4_zero.2 ok), why4_zero.2 ok] at h2
  have hBl := by4_len (tos := 0) (id := 0) (ttl := 9) (pt := 17) (at' := 0) (df := false) (mo := false) (fr := [192, 0, 2, 1]) (to := [192, 0, 2, 2]) (op := []) (da := List.replicate 600 120) rfl rfl
  have hp := (ev_parse_by4 hS (n + 1) (df := false) ok (fr := [192, 0, 2, 1]) (to := [192, 0, 2, 2]) rfl rfl).1
  have hi := inside_by4 (df := false) ok (fr := [192, 0, 2, 1]) (to := [192, 0, 2, 2]) rfl rfl (j := 548) (by simp) (by simp)
  have hDl : (List.replicate 600 (120 : UInt8)).length = 600 := List.length_replicate
  have hm := ev_martian4 hS (n + 4) 192 0 2 1
  rw [decide_eq_false (by decide)] at hm
  generalize hB : by4 0 0 9 17 0 false false [192, 0, 2, 1] [192, 0, 2, 2] [] (List.replicate 600 120) = B at *
  generalize hD : List.replicate 600 (120 : UInt8) = D at *
  rw [hDl] at hBl
  have hBl : B.length = 620 := by rw [hBl]; rfl
  have hQl : (B.take 548).length = 548 := by rw [List.length_take]; omega
  generalize hQ : B.take 548 = Q at *
  have hIl : (im4B 11 0 0 Q).length = 556 := by unfold im4B; simp only [List.length_append, beB_len]; omega
  have hId : (im4B 11 0 0 Q).drop 8 = Q := by unfold im4B; simp [beB1, beB2, beB, List.range_succ]
  have ok2 : Ok4 0 5 64 1 0 false [] (im4B 11 0 0 Q) := ⟨by omega, by omega, by omega, by omega, by omega, rfl, by simp, by simp, by simp, by rw [hIl]; simp⟩
  have h3 := ev_own4_ok hS (n + 1) (s := B) (tos := 0) (i0 := 0) (ttl := 9) (pt := 17) (df := false) (mo := false) (fr := [192, 0, 2, 1]) (to := [192, 0, 2, 2]) (op := []) (da := D) (a := [192, 0, 2, 9]) (k := 11) (c := 0) (r := 0) (id := 5) (id' := 5) (md := []) (mtu := 1500) (q := Q)
    hp rfl rfl rfl rfl (by omega) (by omega) hm (by omega) (by omega) (by rw [hDl, hBl]; simp) (by omega) (by simp) (by rw [hDl]; decide) (by rw [hDl, ← hQ, List.take_take]; rfl) rfl (by unfold I64; omega) (why4_zero.2 ok2)
  have h4 := (ev_parse_by4 hS (n + 2) (df := false) ok2 (fr := [192, 0, 2, 9]) (to := [192, 0, 2, 1]) rfl rfl).2
  have hSl := by4_len (tos := 0) (id := 5) (ttl := 64) (pt := 1) (at' := 0) (df := false) (mo := false) (fr := [192, 0, 2, 9]) (to := [192, 0, 2, 1]) (op := []) (da := im4B 11 0 0 Q) rfl rfl
  rw [hIl] at hSl
  have hSl : (by4 0 5 64 1 0 false false [192, 0, 2, 9] [192, 0, 2, 1] [] (im4B 11 0 0 Q)).length = 576 := by rw [hSl]; rfl
  have h5 := ev_inside4 hS (n + 2) Q (by omega)
  rw [hi.1, hi.2.1, hi.2.2, hDl] at h5
  have hD2 : (D.take (548 - (20 + ([] : List UInt8).length))).length = 528 := by rw [List.length_take, hDl]; rfl
  generalize D.take (548 - (20 + ([] : List UInt8).length)) = D2 at *
  have h6 := ev_quote6w hS n (tos := 0) (id := 0) (ttl := 9) (pt := 17) (df := false) (fr := [192, 0, 2, 1]) (to := [192, 0, 2, 2]) (op := []) (da := D2) (a := List.replicate 16 0) (b := List.replicate 16 0) (claim := 600) (p := 1) (q := 2) rfl rfl rfl rfl (by omega) (by omega) (by omega) (by omega) (by omega) (by omega) (by omega) (by omega)
  have hpo := poF_ports (udp := decide ((17 : Int) = 17)) (d := D2) (o := [192, 0, 2, 1] ++ [192, 0, 2, 2]) (w := List.replicate 16 0 ++ List.replicate 16 0) (p := 1) (q := 2) (by omega)
  have hpl := @poF_len (decide ((17 : Int) = 17)) D2 ([192, 0, 2, 1] ++ [192, 0, 2, 2]) (List.replicate 16 0 ++ List.replicate 16 0) 1 2
  generalize poF (decide ((17 : Int) = 17)) D2 ([192, 0, 2, 1] ++ [192, 0, 2, 2]) (List.replicate 16 0 ++ List.replicate 16 0) 1 2 = PO at *
  have hTl : (beB 4 (1610612736 + Int.toNat 0 * 1048576) ++ (beB 2 600 ++ (beB 1 (Int.toNat 17) ++ (beB 1 (Int.toNat 9) ++ (List.replicate 16 0 ++ (List.replicate 16 0 ++ PO)))))).length = 568 := by
    simp only [List.length_append, beB_len, List.length_replicate]; omega
  have hTd : ((beB 4 (1610612736 + Int.toNat 0 * 1048576) ++ (beB 2 600 ++ (beB 1 (Int.toNat 17) ++ (beB 1 (Int.toNat 9) ++ (List.replicate 16 0 ++ (List.replicate 16 0 ++ PO)))))).drop 40).take 4 = [0, 1, 0, 2] := by
    rw [show (beB 4 (1610612736 + Int.toNat 0 * 1048576) ++ (beB 2 600 ++ (beB 1 (Int.toNat 17) ++ (beB 1 (Int.toNat 9) ++ (List.replicate 16 0 ++ (List.replicate 16 0 ++ PO)))))) = (beB 4 (1610612736 + Int.toNat 0 * 1048576) ++ (beB 2 600 ++ (beB 1 (Int.toNat 17) ++ (beB 1 (Int.toNat 9) ++ (List.replicate 16 0 ++ List.replicate 16 0))))) ++ PO by simp only [List.append_assoc]]
    rw [List.drop_left' (by simp only [List.length_append, beB_len, List.length_replicate]), hpo]
    rfl
  have h6 : S.ev (n + 6) id_fault_Quote6 [ip4LV 0 0 9 17 0 false false [192, 0, 2, 1] [192, 0, 2, 2] [] D2, .int .i64 600, .agg [.bytes [0, 0, 0, 0, 0, 0, 0, 0, 0, 0, 0, 0, 0, 0, 0, 0], .int .i64 1], .agg [.bytes [0, 0, 0, 0, 0, 0, 0, 0, 0, 0, 0, 0, 0, 0, 0, 0], .int .i64 2]] none = _ := h6
  generalize beB 4 (1610612736 + Int.toNat 0 * 1048576) ++ (beB 2 600 ++ (beB 1 (Int.toNat 17) ++ (beB 1 (Int.toNat 9) ++ (List.replicate 16 0 ++ (List.replicate 16 0 ++ PO))))) = T at *
  have h3 : S.ev (n + 6) id_fault_Own4 [.agg [.int .i64 11, .int .i64 0, .int .u32 0, .str []], .str B, .bytes [192, 0, 2, 9], .int .i64 5, .int .i64 1500] none = _ := h3
  generalize by4 0 5 64 1 0 false false [192, 0, 2, 9] [192, 0, 2, 1] [] (im4B 11 0 0 Q) = SS at *
  generalize im4B 11 0 0 Q = IB at *
  have n1 : ((600 : Nat) : Int) = 600 := rfl
  have n2 : ((576 : Nat) : Int) = 576 := rfl
  have n3 : ((556 : Nat) : Int) = 556 := rfl
  have n4 : ((528 : Nat) : Int) = 528 := rfl
  have n5 : ((568 : Nat) : Int) = 568 := rfl
  rw [n1] at h5
  have t8 : (IB.drop 8).take (556 - 8) = Q := by rw [hId]; exact List.take_of_length_le (by omega)
  have t9 : Q.take 548 = Q := List.take_of_length_le (by omega)
  have z0 : List.replicate 0 (120 : UInt8) = [] := rfl
  (try simp only [guard_merge, or_merge, and_merge, or_pick, and_pick, guard_or, guard_and]); simp only [to_ob]
  simp only [go_sem, ↓reduceIte, reduceCtorEq, upd_ne, back_new (no_at), Nat.reduceAdd, Nat.reduceEqDiff, Nat.reduceMul, Nat.reduceSub, Nat.reduceLeDiff, Nat.reduceLT, Int.reduceToNat, Int.reduceLE, Int.reduceLT, Int.reduceEq, UInt8.reduceOfNat, List.getElem?_map, Int.toNat_natCast, -List.reduceReplicate, z0, h0, h1, h2, h3, h4, h5, h6, hBl, hSl, hIl, hD2, hTl, hQ, hId, hTd, t8, t9, n1, n2, n3, n4, n5, fE, Nat.sub_zero, List.drop_zero, List.length_cons, List.length_nil, decide_true, beq_self_eq_true, Bool.and_self, Bool.not_true, Bool.false_eq_true]
end
end Go.Ev

/- Layer 15: FaultInside. -/
namespace Go.Ev
set_option linter.unusedSimpArgs false
set_option linter.unusedVariables false
set_option maxRecDepth 10000
set_option maxHeartbeats 8000000
section
variable {S : Sys} (hS : Has S) (n : Nat)
include hS
theorem ev_SameF {cl fl ho : Int} {fr to : List UInt8} {ex : List (Int × List UInt8)} {fg : Bool} {id at' : Int} {mo : Bool} {pt : Int} {da : List UInt8} (hfr : fr.length = 16) (hto : to.length = 16) (hl : ex.length ≤ 140737488351232) :
    S.ev (n + 1) id_interpreterref04_Same [ip6LV cl fl ho fr to (extsLV ex) fg id at' mo pt da, ip6LV cl fl ho fr to (extsLV ex) fg id at' mo pt da] none = some (.bool true, none) := by
  rw [Sys.step hS.h_interpreterref04_Same, F_interpreterref04_Same_eq]
  unfold F_interpreterref04_Same
  (try simp only [guard_merge, or_merge, and_merge, or_pick, and_pick, guard_or, guard_and]); simp only [to_ob]
  simp only [go_sem, ↓reduceIte, reduceCtorEq, upd_ne, back_new (no_at), Nat.reduceAdd, Nat.reduceEqDiff, Nat.reduceMul, Nat.reduceSub, Nat.reduceLeDiff, Nat.reduceLT, Int.reduceToNat, Int.reduceLE, Int.reduceLT, Int.reduceEq, UInt8.reduceOfNat, hfr, hto, List.length_map]
  refine while_rule (fun k q => ∃ i : Nat, q = ([.bool false, .int .i64 (i : Int)], noSlots) ∧ i + k = ex.length) ex.length ⟨0, rfl, by simp⟩ ?_
  rintro k q ⟨i, rfl, hi⟩
  simp only [go_sem, ↓reduceIte, reduceCtorEq, upd_ne, back_new (no_at), Nat.reduceAdd, Nat.reduceEqDiff, Nat.reduceMul, Nat.reduceSub, Nat.reduceLeDiff, Nat.reduceLT, Int.reduceToNat, Int.reduceLE, Int.reduceLT, Int.reduceEq, UInt8.reduceOfNat, hfr, hto, List.length_map]
  refine nxt_ite (fun h => ?_) (fun h => ?_)
  · have hlt : i < ex.length := by omega
    obtain ⟨e, he⟩ : ∃ e, ex[i]? = some e := ⟨ex[i], by simp [hlt]⟩
    have e1 : IntKind.i64.wrap ((i : Int) + 1) = ((i + 1 : Nat) : Int) := by rw [wrap_id (by omega) (by omega)]; omega
    simp only [go_sem, ↓reduceIte, reduceCtorEq, upd_ne, back_new (no_at), Nat.reduceAdd, Nat.reduceEqDiff, Nat.reduceMul, Nat.reduceSub, Nat.reduceLeDiff, Nat.reduceLT, Int.reduceToNat, Int.reduceLE, Int.reduceLT, Int.reduceEq, UInt8.reduceOfNat, List.getElem?_map, Int.toNat_natCast, he, e1, hfr, hto]
    exact ⟨k - 1, by omega, i + 1, rfl, by omega⟩
  · simp only [go_sem, ↓reduceIte, reduceCtorEq, upd_ne, back_new (no_at), Nat.reduceAdd, Nat.reduceEqDiff, Nat.reduceMul, Nat.reduceSub, Nat.reduceLeDiff, Nat.reduceLT, Int.reduceToNat, Int.reduceLE, Int.reduceLT, Int.reduceEq, UInt8.reduceOfNat, hfr, hto, Nxt, exIf, beq_self_eq_true]
omit hS in
theorem iLV6_form (s : List UInt8) : ∃ (cl fl ho : Int) (fr to : List UInt8) (ex : List (Int × List UInt8)) (fg : Bool) (id at' : Int) (mo : Bool) (pt : Int) (da : List UInt8), iLV6 s = ip6LV cl fl ho fr to (extsLV ex) fg id at' mo pt da ∧ fr.length = 16 ∧ to.length = 16 ∧ ex.length ≤ 140737488351232 := by
  unfold iLV6
  by_cases h : iK6 s = 0
  · have h40 : 40 ≤ s.length := by
      apply Classical.byContradiction
      intro q; unfold iK6 at h; rw [if_pos (by omega)] at h; omega
    have h1 : (pfr6 s).length = 16 := by unfold pfr6; simp; omega
    have h2 : (pto6 s).length = 16 := by unfold pto6; simp; omega
    have hl := chC_len 8 true ((bAt s 6 : Nat) : Int) ((s.drop 40).take (wAt s 4))
    rw [if_pos h]
    unfold mk6
    split
    · exact ⟨_, _, _, _, _, _, _, _, _, _, _, _, rfl, h1, h2, by unfold k6; omega⟩
    · exact ⟨_, _, _, _, _, _, _, _, _, _, _, _, rfl, h1, h2, by unfold k6; omega⟩
  · rw [if_neg h]
    exact ⟨0, 0, 0, y16, y16, [], false, 0, 0, false, 0, [], rfl, rfl, rfl, by simp⟩
omit hS in
theorem iLV4_form (s : List UInt8) : ∃ (tos id ttl pt at' : Int) (df mo : Bool) (fr to op da : List UInt8), iLV4 s = ip4LV tos id ttl pt at' df mo fr to op da ∧ fr.length = 4 ∧ to.length = 4 := by
  unfold iLV4
  by_cases h : iK4 s = 0
  · have h20 : 20 ≤ s.length := by
      apply Classical.byContradiction
      intro q; unfold iK4 at h; rw [if_pos (by omega)] at h; omega
    rw [if_pos h]
    exact ⟨_, _, _, _, _, _, _, _, _, _, _, rfl, by unfold pfr4; simp; omega, by unfold pto4; simp; omega⟩
  · rw [if_neg h]
    exact ⟨_, _, _, _, _, _, _, _, _, _, _, rfl, rfl, rfl⟩
theorem ev_FaultInside {vs : List LV} (h : fitVL [.str] vs) : S.ev (n + 8) id_interpreterlaw15_FaultInside vs none = some (.bool true, none) := by
  obtain ⟨a, r, e, g1, q1⟩ := fit_cons h; clear h; subst e; obtain ⟨s, rfl, hs⟩ := fit_str g1; clear g1
  obtain rfl := fit_nil q1
  rw [Sys.step hS.h_interpreterlaw15_FaultInside, F_interpreterlaw15_FaultInside_eq]
  unfold F_interpreterlaw15_FaultInside
  have ha := ev_awake15 hS n
  have hsm := ev_same15 hS (n + 6)
  (try simp only [guard_merge, or_merge, and_merge, or_pick, and_pick, guard_or, guard_and]); simp only [to_ob]
  by_cases c : 70000 < (s.length : Int)
  · simp only [go_sem, ↓reduceIte, reduceCtorEq, upd_ne, back_new (no_at), Nat.reduceAdd, Nat.reduceEqDiff, Nat.reduceMul, Nat.reduceSub, Nat.reduceLeDiff, Nat.reduceLT, Int.reduceToNat, Int.reduceLE, Int.reduceLT, Int.reduceEq, UInt8.reduceOfNat, ha, c]
  · have h1 := ev_inside4 hS (n + 3) s (by omega)
    have h2 := ev_rinside4 hS (n + 3) s (by omega)
    have h3 := ev_inside6 hS (n + 3) s (by omega)
    have h4 := ev_rinside6 hS (n + 3) s (by omega)
    obtain ⟨cl, fl, ho, fr, to, ex, fg, id, at', mo, pt, da, e6, hfr, hto, hex⟩ := iLV6_form s
    obtain ⟨tos, i4, ttl, p4, a4, df, m4, f4, t4, op, d4, e4, hf4, ht4⟩ := iLV4_form s
    have h5 := ev_SameF hS (n + 6) (cl := cl) (fl := fl) (ho := ho) (fr := fr) (to := to) (ex := ex) (fg := fg) (id := id) (at' := at') (mo := mo) (pt := pt) (da := da) hfr hto hex
    rw [e4] at h1 h2
    rw [e6] at h3 h4
    have f1 := @fe_ag
    have f2 := @fe_st
    have f3 := @fe_pl
    have f4 := @fe_fl
    have f5 := @fe_ps
    generalize iK4 s = K4 at *
    generalize iK6 s = K6 at *
    generalize iC4 s = C4 at *
    generalize iC6 s = C6 at *
    simp only [go_sem, ↓reduceIte, reduceCtorEq, upd_ne, back_new (no_at), Nat.reduceAdd, Nat.reduceEqDiff, Nat.reduceMul, Nat.reduceSub, Nat.reduceLeDiff, Nat.reduceLT, Int.reduceToNat, Int.reduceLE, Int.reduceLT, Int.reduceEq, UInt8.reduceOfNat, ha, c, h1, h2, h3, h4, h5, hsm, hfr, hto, hf4, ht4, f1, f2, f3, f4, f5, decide_true, beq_self_eq_true, Bool.and_self, l_call]
end
end Go.Ev
