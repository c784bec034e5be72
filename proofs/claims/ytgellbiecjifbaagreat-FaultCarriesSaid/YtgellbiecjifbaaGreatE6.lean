/- Part 6 of a proof: what the functions yield. It stands by itself; no condition. -/
import Derived.Test.YtgellbiecjifbaaGreatE5
namespace Go.Ev
set_option linter.unusedSimpArgs false
set_option linter.unusedVariables false
set_option maxRecDepth 10000
set_option maxHeartbeats 8000000
def trG (pt at' e : Int) (d O W P Q : List UInt8) (k0 k1 k2 k3 p q : Nat) : List UInt8 :=
  if at' ≠ 0 then d else if (pt = 6 ∨ pt = 17) ∧ 4 ≤ d.length then poF (decide (pt = 17)) d O W p q else
  if pt ≠ e ∨ d.length < 8 ∨ bAt d 1 ≠ 0 then d else if bAt d 0 = k0 then ecF d P Q k1 p else if bAt d 0 = k2 then ecF d P Q k3 p else d
theorem trG_tn6 {pt at' : Int} {d fr to a b P : List UInt8} {p q : Nat} {claim : Nat} (h : 0 ≤ at') : trG pt at' 1 d (fr ++ to) (a ++ b) [] (ps6 a b 58 claim) 8 128 0 129 p q = tn6 pt at' d fr to a b claim p q := by
  unfold trG tn6 isE4 k46
  by_cases c0 : at' = 0
  · subst c0
    rw [if_neg (show ¬ ((0 : Int) ≠ 0) by simp), if_neg (show ¬ (0 : Int) < 0 by simp)]
    by_cases c1 : pt = 6 ∨ pt = 17
    · rw [if_pos c1]
      by_cases c2 : 4 ≤ d.length
      · rw [if_pos ⟨c1, c2⟩]
      · rw [if_neg (fun h => c2 h.2), if_pos (by omega)]
        unfold poF; rw [if_pos (by omega)]
    · rw [if_neg c1, if_neg (fun h => c1 h.1)]
      by_cases c2 : pt = 1
      · subst c2
        by_cases c3 : 8 ≤ d.length
        · by_cases c4 : bAt d 1 = 0
          · rw [if_neg (by omega)]
            by_cases c5 : bAt d 0 = 8
            · rw [if_pos c5, if_pos (by simp [c3, c4, c5]), if_pos c5]
            · by_cases c6 : bAt d 0 = 0
              · rw [if_neg c5, if_pos c6, if_pos (by simp [c3, c4, c6]), if_neg c5]
              · rw [if_neg c5, if_neg c6, if_neg (by simp [c5, c6])]
          · rw [if_pos (by omega), if_neg (by simp [c4])]
        · rw [if_pos (by omega), if_neg (by simp [c3])]
      · rw [if_pos (by omega), if_neg (fun h => c2 h.1)]
  · rw [if_pos c0, if_pos (by omega)]
theorem trG_tn4 {pt at' : Int} {d fr to a b P : List UInt8} {p q : Nat} {claim : Nat} (h : 0 ≤ at') : trG pt at' 58 d (fr ++ to) (a ++ b) (ps6 fr to 58 claim) [] 128 8 129 0 p q = tn4 pt at' d fr to a b claim p q := by
  unfold trG tn4 isE6 k64
  by_cases c0 : at' = 0
  · subst c0
    rw [if_neg (show ¬ ((0 : Int) ≠ 0) by simp), if_neg (show ¬ (0 : Int) < 0 by simp)]
    by_cases c1 : pt = 6 ∨ pt = 17
    · rw [if_pos c1]
      by_cases c2 : 4 ≤ d.length
      · rw [if_pos ⟨c1, c2⟩]
      · rw [if_neg (fun h => c2 h.2), if_pos (by omega)]
        unfold poF; rw [if_pos (by omega)]
    · rw [if_neg c1, if_neg (fun h => c1 h.1)]
      by_cases c2 : pt = 58
      · subst c2
        by_cases c3 : 8 ≤ d.length
        · by_cases c4 : bAt d 1 = 0
          · rw [if_neg (by omega)]
            by_cases c5 : bAt d 0 = 128
            · rw [if_pos c5, if_pos (by simp [c3, c4, c5]), if_pos c5]
            · by_cases c6 : bAt d 0 = 129
              · rw [if_neg c5, if_pos c6, if_pos (by simp [c3, c4, c6]), if_neg c5]
              · rw [if_neg c5, if_neg c6, if_neg (by simp [c5, c6])]
          · rw [if_pos (by omega), if_neg (by simp [c4])]
        · rw [if_pos (by omega), if_neg (by simp [c3])]
      · rw [if_pos (by omega), if_neg (fun h => c2 h.1)]
  · rw [if_pos c0, if_pos (by omega)]
section
variable {S : Sys} (hS : Has S) (n : Nat)
include hS
theorem ev_rsums (d : List UInt8) (i : Nat) (o w : List UInt8) (none : Bool) (hd : d.length ≤ 1000000) (hi : i ≤ 1000) (ho : o.length % 2 = 0) (h1 : o.length ≤ 100000) (h2 : w.length ≤ 100000) (h3 : w ≠ []) :
    S.ev (n + 4) id_interpreterref15_sums [.str d, .int .i64 (i : Int), .str o, .str w, .bool none] Option.none = some (.str (upF d i o w none), Option.none) := by
  rw [Sys.step hS.h_interpreterref15_sums, F_interpreterref15_sums_eq]
  unfold F_interpreterref15_sums
  have e1 : IntKind.i64.wrap ((i : Int) + 2) = ((i + 2 : Nat) : Int) := by rw [wrap_id (by omega) (by omega)]; omega
  (try simp only [guard_merge, or_merge, and_merge, or_pick, and_pick, guard_or, guard_and]); simp only [to_ob]
  unfold upF
  by_cases c1 : d.length < i + 2
  · have c1' : (d.length : Int) < ((i + 2 : Nat) : Int) := by omega
    simp only [go_sem, ↓reduceIte, reduceCtorEq, upd_ne, back_new (no_at), Nat.reduceAdd, Nat.reduceEqDiff, Nat.reduceMul, Nat.reduceSub, Nat.reduceLeDiff, Nat.reduceLT, Int.reduceToNat, Int.reduceLE, Int.reduceLT, Int.reduceEq, UInt8.reduceOfNat, c1, c1', e1]
  · have c1' : ¬ (d.length : Int) < ((i + 2 : Nat) : Int) := by omega
    have hN := ev_number15 hS n d i (by omega) (by omega)
    have hw := wAt_le d i
    have hu := ev_rUpdate hS (n + 1) (wAt d i) o w hw ho h1 h2 h3
    have hul : updN (wAt d i) o w ≤ 65535 := by unfold updN; omega
    have g1 : S.ev (n + 3) id_interpreterref15_put [.int .i64 ((updN (wAt d i) o w : Nat) : Int), .int .i64 2] Option.none = some (.str (beB 2 (updN (wAt d i) o w)), Option.none) := ev_put15 hS (n + 1) _ 2 (by omega) (by omega)
    have g2 : S.ev (n + 3) id_interpreterref15_put [.int .i64 65535, .int .i64 2] Option.none = some (.str (beB 2 65535), Option.none) := ev_put15 hS (n + 1) 65535 2 (by omega) (by omega)
    have l1 : i ≤ d.length := by omega
    have l2 : i + 2 ≤ d.length := by omega
    have t1 : (d.drop (i + 2)).take (d.length - (i + 2)) = d.drop (i + 2) := List.take_of_length_le (by simp)
    have hl := beB_len
    have hlt : (d.take i).length = i := by rw [List.length_take]; omega
    unfold upY
    generalize hU : updN (wAt d i) o w = U at *
    have x1 : i + 2 ≤ maxStr := by unfold maxStr; omega
    have x2 : i + 2 + (d.length - (i + 2)) ≤ maxStr := by unfold maxStr; omega
    cases none
    · simp only [go_sem, ↓reduceIte, reduceCtorEq, upd_ne, back_new (no_at), Nat.reduceAdd, Nat.reduceEqDiff, Nat.reduceMul, Nat.reduceSub, Nat.reduceLeDiff, Nat.reduceLT, Int.reduceToNat, Int.reduceLE, Int.reduceLT, Int.reduceEq, UInt8.reduceOfNat, List.getElem?_map, Int.toNat_natCast, c1, c1', e1, hN, hu, g1, l1, l2, t1, hl, hlt, x1, x2, List.length_append, List.length_drop, List.append_assoc, Nat.sub_zero, List.drop_zero, false_and, Bool.false_eq_true]
    · by_cases c2 : wAt d i = 0
      · have c2' : ((wAt d i : Nat) : Int) = 0 := by omega
        simp only [go_sem, ↓reduceIte, reduceCtorEq, upd_ne, back_new (no_at), Nat.reduceAdd, Nat.reduceEqDiff, Nat.reduceMul, Nat.reduceSub, Nat.reduceLeDiff, Nat.reduceLT, Int.reduceToNat, Int.reduceLE, Int.reduceLT, Int.reduceEq, UInt8.reduceOfNat, List.getElem?_map, Int.toNat_natCast, c1, c1', e1, hN, c2, c2', true_and]
      · have c2' : ¬ ((wAt d i : Nat) : Int) = 0 := by omega
        by_cases c3 : U = 0
        · have c3' : ((U : Nat) : Int) = 0 := by omega
          simp only [go_sem, ↓reduceIte, reduceCtorEq, upd_ne, back_new (no_at), Nat.reduceAdd, Nat.reduceEqDiff, Nat.reduceMul, Nat.reduceSub, Nat.reduceLeDiff, Nat.reduceLT, Int.reduceToNat, Int.reduceLE, Int.reduceLT, Int.reduceEq, UInt8.reduceOfNat, List.getElem?_map, Int.toNat_natCast, c1, c1', e1, hN, c2, c2', c3, c3', hu, g2, l1, l2, t1, hl, hlt, x1, x2, List.length_append, List.length_drop, List.append_assoc, Nat.sub_zero, List.drop_zero, true_and]
        · have c3' : ¬ ((U : Nat) : Int) = 0 := by omega
          simp only [go_sem, ↓reduceIte, reduceCtorEq, upd_ne, back_new (no_at), Nat.reduceAdd, Nat.reduceEqDiff, Nat.reduceMul, Nat.reduceSub, Nat.reduceLeDiff, Nat.reduceLT, Int.reduceToNat, Int.reduceLE, Int.reduceLT, Int.reduceEq, UInt8.reduceOfNat, List.getElem?_map, Int.toNat_natCast, c1, c1', e1, hN, c2, c2', c3, c3', hu, g1, l1, l2, t1, hl, hlt, x1, x2, List.length_append, List.length_drop, List.append_assoc, Nat.sub_zero, List.drop_zero, true_and]
theorem ev_rturn (pt at' e : Int) (d O W P Q : List UInt8) (k0 k1 k2 k3 p q : Nat) (hd : d.length ≤ 900000) (hO : O.length % 2 = 0) (hO1 : O.length ≤ 1000) (hW : W.length ≤ 1000) (hP : P.length % 2 = 0) (hP1 : P.length ≤ 1000) (hQ : Q.length ≤ 1000) (hp : p ≤ 65535) (hq : q ≤ 65535) (h1 : k1 ≤ 255) (h3 : k3 ≤ 255) :
    S.ev (n + 5) id_interpreterref15_turn [.int .i64 pt, .int .i64 at', .int .i64 e, .str d, .str O, .str W, .str P, .str Q, .agg [.int .i64 (k0 : Int), .int .i64 (k1 : Int), .int .i64 (k2 : Int), .int .i64 (k3 : Int)], .int .i64 (p : Int), .int .i64 (q : Int)] none =
      some (.str (trG pt at' e d O W P Q k0 k1 k2 k3 p q), none) := by
  rw [Sys.step hS.h_interpreterref15_turn, F_interpreterref15_turn_eq]
  unfold F_interpreterref15_turn F_interpreterref15_turn_k1
  have hl := beB_len
  have gp : S.ev (n + 4) id_interpreterref15_put [.int .i64 (p : Int), .int .i64 2] none = some (.str (beB 2 p), none) := ev_put15 hS (n + 2) p 2 (by omega) (by omega)
  have gq : S.ev (n + 4) id_interpreterref15_put [.int .i64 (q : Int), .int .i64 2] none = some (.str (beB 2 q), none) := ev_put15 hS (n + 2) q 2 (by omega) (by omega)
  have gk1 : S.ev (n + 4) id_interpreterref15_put [.int .i64 (k1 : Int), .int .i64 1] none = some (.str (beB 1 k1), none) := ev_put15 hS (n + 2) k1 1 (by omega) (by omega)
  have gk3 : S.ev (n + 4) id_interpreterref15_put [.int .i64 (k3 : Int), .int .i64 1] none = some (.str (beB 1 k3), none) := ev_put15 hS (n + 2) k3 1 (by omega) (by omega)
  have g0 : S.ev (n + 4) id_interpreterref15_put [.int .i64 0, .int .i64 1] none = some (.str [0], none) := ev_put15 hS (n + 2) 0 1 (by omega) (by omega)
  (try simp only [guard_merge, or_merge, and_merge, or_pick, and_pick, guard_or, guard_and]); simp only [to_ob]
  unfold trG
  by_cases c0 : at' = 0
  case neg => simp only [go_sem, ↓reduceIte, reduceCtorEq, upd_ne, back_new (no_at), Nat.reduceAdd, Nat.reduceEqDiff, Nat.reduceMul, Nat.reduceSub, Nat.reduceLeDiff, Nat.reduceLT, Int.reduceToNat, Int.reduceLE, Int.reduceLT, Int.reduceEq, UInt8.reduceOfNat, List.getElem?_map, Int.toNat_natCast, c0, ne_eq, not_false_eq_true]
  subst c0
  rw [if_neg (show ¬ ((0 : Int) ≠ 0) by simp)]
  by_cases c1 : (pt = 6 ∨ pt = 17) ∧ 4 ≤ d.length
  · rw [if_pos c1]
    obtain ⟨c1, c4⟩ := c1
    have c4' : (4 : Int) ≤ (d.length : Int) := by omega
    unfold poF
    rw [if_neg (by omega)]
    have t1 : (d.drop 4).take (d.length - 4) = d.drop 4 := List.take_of_length_le (by simp)
    have hl4 : (d.take 4).length = 4 := by rw [List.length_take]; omega
    have x1 : 2 + 2 ≤ maxStr := by decide
    have x2 : 4 + (d.length - 4) ≤ maxStr := by unfold maxStr; omega
    have x3 : O.length + 4 ≤ maxStr := by unfold maxStr; omega
    have x4 : W.length + 4 ≤ maxStr := by unfold maxStr; omega
    have t2 : (beB 2 p ++ (beB 2 q ++ d.drop 4)).take 4 = beB 2 p ++ beB 2 q := by
      rw [← List.append_assoc, List.take_left' (by simp [beB_len])]
    have u1 := ev_rsums hS n (beB 2 p ++ (beB 2 q ++ d.drop 4)) 6 (O ++ d.take 4) (W ++ (beB 2 p ++ beB 2 q)) true (by simp only [List.length_append, beB_len, List.length_drop]; omega) (by omega) (by simp only [List.length_append, hl4]; omega) (by simp only [List.length_append, hl4]; omega) (by simp only [List.length_append, beB_len]; omega) (fun h => by simpa [beB_len] using congrArg List.length h)
    have u1 : S.ev (n + 4) id_interpreterref15_sums [.str (beB 2 p ++ (beB 2 q ++ d.drop 4)), .int .i64 6, .str (O ++ d.take 4), .str (W ++ (beB 2 p ++ beB 2 q)), .bool true] none = _ := u1
    have u2 := ev_rsums hS n (beB 2 p ++ (beB 2 q ++ d.drop 4)) 16 (O ++ d.take 4) (W ++ (beB 2 p ++ beB 2 q)) false (by simp only [List.length_append, beB_len, List.length_drop]; omega) (by omega) (by simp only [List.length_append, hl4]; omega) (by simp only [List.length_append, hl4]; omega) (by simp only [List.length_append, beB_len]; omega) (fun h => by simpa [beB_len] using congrArg List.length h)
    have u2 : S.ev (n + 4) id_interpreterref15_sums [.str (beB 2 p ++ (beB 2 q ++ d.drop 4)), .int .i64 16, .str (O ++ d.take 4), .str (W ++ (beB 2 p ++ beB 2 q)), .bool false] none = _ := u2
    have y1 : 4 ≤ 2 + (2 + (d.length - 4)) := by omega
    rcases c1 with rfl | rfl
    · simp only [go_sem, ↓reduceIte, reduceCtorEq, upd_ne, back_new (no_at), Nat.reduceAdd, Nat.reduceEqDiff, Nat.reduceMul, Nat.reduceSub, Nat.reduceLeDiff, Nat.reduceLT, Int.reduceToNat, Int.reduceLE, Int.reduceLT, Int.reduceEq, UInt8.reduceOfNat, List.getElem?_map, Int.toNat_natCast, c4, c4', gp, gq, u2, t1, t2, hl, hl4, x1, x2, x3, x4, y1, List.length_append, List.length_drop, List.append_assoc, Nat.sub_zero, List.drop_zero, decide_true, decide_false, Bool.false_eq_true]
    · simp only [go_sem, ↓reduceIte, reduceCtorEq, upd_ne, back_new (no_at), Nat.reduceAdd, Nat.reduceEqDiff, Nat.reduceMul, Nat.reduceSub, Nat.reduceLeDiff, Nat.reduceLT, Int.reduceToNat, Int.reduceLE, Int.reduceLT, Int.reduceEq, UInt8.reduceOfNat, List.getElem?_map, Int.toNat_natCast, c4, c4', gp, gq, u1, t1, t2, hl, hl4, x1, x2, x3, x4, y1, List.length_append, List.length_drop, List.append_assoc, Nat.sub_zero, List.drop_zero, decide_true]
  rw [if_neg c1]
  by_cases c6 : pt = 6 ∨ pt = 17
  · have c4 : ¬ (4 : Int) ≤ (d.length : Int) := by omega
    have c8 : (d.length : Int) < 8 := by omega
    rw [if_pos (show pt ≠ e ∨ d.length < 8 ∨ bAt d 1 ≠ 0 by omega)]
    by_cases he : pt = e
    · subst he
      rcases c6 with rfl | rfl <;> simp only [go_sem, ↓reduceIte, reduceCtorEq, upd_ne, back_new (no_at), Nat.reduceAdd, Nat.reduceEqDiff, Nat.reduceMul, Nat.reduceSub, Nat.reduceLeDiff, Nat.reduceLT, Int.reduceToNat, Int.reduceLE, Int.reduceLT, Int.reduceEq, UInt8.reduceOfNat, List.getElem?_map, Int.toNat_natCast, c4, c8]
    · rcases c6 with rfl | rfl <;> simp only [go_sem, ↓reduceIte, reduceCtorEq, upd_ne, back_new (no_at), Nat.reduceAdd, Nat.reduceEqDiff, Nat.reduceMul, Nat.reduceSub, Nat.reduceLeDiff, Nat.reduceLT, Int.reduceToNat, Int.reduceLE, Int.reduceLT, Int.reduceEq, UInt8.reduceOfNat, List.getElem?_map, Int.toNat_natCast, c4, c8, he]
  have c6a : ¬ pt = 6 := fun h => c6 (.inl h)
  have c6b : ¬ pt = 17 := fun h => c6 (.inr h)
  by_cases he : pt = e
  case neg =>
    rw [if_pos (.inl he)]
    simp only [go_sem, ↓reduceIte, reduceCtorEq, upd_ne, back_new (no_at), Nat.reduceAdd, Nat.reduceEqDiff, Nat.reduceMul, Nat.reduceSub, Nat.reduceLeDiff, Nat.reduceLT, Int.reduceToNat, Int.reduceLE, Int.reduceLT, Int.reduceEq, UInt8.reduceOfNat, List.getElem?_map, Int.toNat_natCast, c6a, c6b, he]
  subst he
  by_cases c8 : d.length < 8
  · have c8' : (d.length : Int) < 8 := by omega
    rw [if_pos (.inr (.inl c8))]
    simp only [go_sem, ↓reduceIte, reduceCtorEq, upd_ne, back_new (no_at), Nat.reduceAdd, Nat.reduceEqDiff, Nat.reduceMul, Nat.reduceSub, Nat.reduceLeDiff, Nat.reduceLT, Int.reduceToNat, Int.reduceLE, Int.reduceLT, Int.reduceEq, UInt8.reduceOfNat, List.getElem?_map, Int.toNat_natCast, c6a, c6b, c8']
  have c8' : ¬ (d.length : Int) < 8 := by omega
  have g0' := get_def (s := d) (i := 0) (by omega)
  have g1' := get_def (s := d) (i := 1) (by omega)
  have b0 : (d.getD 0 0).toNat = bAt d 0 := rfl
  have b1 : (d.getD 1 0).toNat = bAt d 1 := rfl
  have hb0 := bAt_le d 0
  have e0 : IntKind.i64.wrap ((bAt d 0 : Nat) : Int) = ((bAt d 0 : Nat) : Int) := wrap_id (by omega) (by omega)
  by_cases c9 : bAt d 1 = 0
  case neg =>
    have c9' : ¬ ((bAt d 1 : Nat) : Int) = 0 := by omega
    rw [if_pos (.inr (.inr c9))]
    simp only [go_sem, ↓reduceIte, reduceCtorEq, upd_ne, back_new (no_at), Nat.reduceAdd, Nat.reduceEqDiff, Nat.reduceMul, Nat.reduceSub, Nat.reduceLeDiff, Nat.reduceLT, Int.reduceToNat, Int.reduceLE, Int.reduceLT, Int.reduceEq, UInt8.reduceOfNat, List.getElem?_map, Int.toNat_natCast, c6a, c6b, c8', g1', byteLV, b1, c9']
  have c9' : ((bAt d 1 : Nat) : Int) = 0 := by omega
  have l2 : 2 ≤ d.length := by omega
  have l4 : 4 ≤ d.length := by omega
  have l6 : 6 ≤ d.length := by omega
  have t1 : (d.drop 6).take (d.length - 6) = d.drop 6 := List.take_of_length_le (by simp)
  have m1 : (d.take 2).length = 2 := by rw [List.length_take]; omega
  have m2 : ((d.drop 4).take 2).length = 2 := by rw [List.length_take, List.length_drop]; omega
  have m3 : ((d.drop 2).take 2).length = 2 := by rw [List.length_take, List.length_drop]; omega
  have x1 : 2 + 2 ≤ maxStr := by decide
  have x2 : 1 + 1 ≤ maxStr := by decide
  have x3 : 4 + 2 ≤ maxStr := by decide
  have x4 : 6 + (d.length - 6) ≤ maxStr := by unfold maxStr; omega
  have x5 : P.length + 4 ≤ maxStr := by unfold maxStr; omega
  have x6 : Q.length + 2 ≤ maxStr := by unfold maxStr; omega
  have x7 : Q.length + 2 + 2 ≤ maxStr := by unfold maxStr; omega
  have y1 : 2 ≤ 1 + (2 + (2 + (d.length - 6)) + 1) := by omega
  have y2 : 6 ≤ 1 + (2 + (2 + (d.length - 6)) + 1) := by omega
  have n1 : ∀ k : Nat, ¬ (k : Int) < 0 := fun k => by omega
  have s1 : ∀ k, (beB 1 k ++ (0 :: ((d.drop 2).take 2 ++ (beB 2 p ++ d.drop 6)))).take 2 = beB 1 k ++ [0] := fun k => by
    rw [show beB 1 k ++ (0 :: ((d.drop 2).take 2 ++ (beB 2 p ++ d.drop 6))) = (beB 1 k ++ [0]) ++ ((d.drop 2).take 2 ++ (beB 2 p ++ d.drop 6)) by simp, List.take_left' (by simp [beB_len])]
  have s2 : ∀ k, ((beB 1 k ++ (0 :: ((d.drop 2).take 2 ++ (beB 2 p ++ d.drop 6)))).drop 4).take 2 = beB 2 p := fun k => by
    rw [show beB 1 k ++ (0 :: ((d.drop 2).take 2 ++ (beB 2 p ++ d.drop 6))) = (beB 1 k ++ 0 :: (d.drop 2).take 2) ++ (beB 2 p ++ d.drop 6) by simp, List.drop_left' (by simp [beB_len]; omega), List.take_left' (by simp [beB_len])]
  have i0 : pr.idxAddr (some 4) 1 (.box (.agg [.int .i64 (k0 : Int), .int .i64 (k1 : Int), .int .i64 (k2 : Int), .int .i64 (k3 : Int)])) (.int .i64 0) = some (.box (.int .i64 (k0 : Int))) := by rw [pr_idxAddr]; rfl
  have i1 : pr.idxAddr (some 4) 1 (.box (.agg [.int .i64 (k0 : Int), .int .i64 (k1 : Int), .int .i64 (k2 : Int), .int .i64 (k3 : Int)])) (.int .i64 1) = some (.box (.int .i64 (k1 : Int))) := by rw [pr_idxAddr]; rfl
  have i2 : pr.idxAddr (some 4) 1 (.box (.agg [.int .i64 (k0 : Int), .int .i64 (k1 : Int), .int .i64 (k2 : Int), .int .i64 (k3 : Int)])) (.int .i64 2) = some (.box (.int .i64 (k2 : Int))) := by rw [pr_idxAddr]; rfl
  have i3 : pr.idxAddr (some 4) 1 (.box (.agg [.int .i64 (k0 : Int), .int .i64 (k1 : Int), .int .i64 (k2 : Int), .int .i64 (k3 : Int)])) (.int .i64 3) = some (.box (.int .i64 (k3 : Int))) := by rw [pr_idxAddr]; rfl
  by_cases d0 : bAt d 0 = k0
  · subst d0
    rw [if_neg (show ¬ (pt ≠ pt ∨ d.length < 8 ∨ bAt d 1 ≠ 0) by omega), if_pos rfl]
    unfold ecF
    have u1 := ev_rsums hS n (ecD d k1 p) 2 (P ++ (d.take 2 ++ (d.drop 4).take 2)) (Q ++ (beB 1 k1 ++ (0 :: beB 2 p))) false (by rw [ecD_len (by omega)]; omega) (by omega) (by simp only [List.length_append, m1, m2]; omega) (by simp only [List.length_append, m1, m2]; omega) (by simp only [List.length_append, List.length_cons, beB_len]; omega) (fun h => by simpa using congrArg List.length h)
    unfold ecD at u1 ⊢
    have u1 : S.ev (n + 4) id_interpreterref15_sums [.str (beB 1 k1 ++ (0 :: ((d.drop 2).take 2 ++ (beB 2 p ++ d.drop 6)))), .int .i64 2, .str (P ++ (d.take 2 ++ (d.drop 4).take 2)), .str (Q ++ (beB 1 k1 ++ (0 :: beB 2 p))), .bool false] none = _ := u1
    simp only [go_sem, ↓reduceIte, reduceCtorEq, upd_ne, back_new (no_at), Nat.reduceAdd, Nat.reduceEqDiff, Nat.reduceMul, Nat.reduceSub, Nat.reduceLeDiff, Nat.reduceLT, Int.reduceToNat, Int.reduceLE, Int.reduceLT, Int.reduceEq, UInt8.reduceOfNat, List.getElem?_map, Int.toNat_natCast, c6a, c6b, c8', g0', g1', byteLV, b0, b1, c9', e0, i0, i1, n1, gk1, g0, gp, hl, l2, l4, l6, t1, m1, m2, m3, x1, x2, x3, x4, x5, x6, x7, y1, y2, s1, s2, u1, List.length_append, List.length_drop, List.length_cons, List.length_nil, List.append_assoc, List.cons_append, List.nil_append, Nat.sub_zero, List.drop_zero]
  · have d0' : ¬ ((bAt d 0 : Nat) : Int) = (k0 : Int) := by omega
    by_cases d2 : bAt d 0 = k2
    · subst d2
      rw [if_neg (show ¬ (pt ≠ pt ∨ d.length < 8 ∨ bAt d 1 ≠ 0) by omega), if_neg d0, if_pos rfl]
      unfold ecF
      have u1 := ev_rsums hS n (ecD d k3 p) 2 (P ++ (d.take 2 ++ (d.drop 4).take 2)) (Q ++ (beB 1 k3 ++ (0 :: beB 2 p))) false (by rw [ecD_len (by omega)]; omega) (by omega) (by simp only [List.length_append, m1, m2]; omega) (by simp only [List.length_append, m1, m2]; omega) (by simp only [List.length_append, List.length_cons, beB_len]; omega) (fun h => by simpa using congrArg List.length h)
      unfold ecD at u1 ⊢
      have u1 : S.ev (n + 4) id_interpreterref15_sums [.str (beB 1 k3 ++ (0 :: ((d.drop 2).take 2 ++ (beB 2 p ++ d.drop 6)))), .int .i64 2, .str (P ++ (d.take 2 ++ (d.drop 4).take 2)), .str (Q ++ (beB 1 k3 ++ (0 :: beB 2 p))), .bool false] none = _ := u1
      simp only [go_sem, ↓reduceIte, reduceCtorEq, upd_ne, back_new (no_at), Nat.reduceAdd, Nat.reduceEqDiff, Nat.reduceMul, Nat.reduceSub, Nat.reduceLeDiff, Nat.reduceLT, Int.reduceToNat, Int.reduceLE, Int.reduceLT, Int.reduceEq, UInt8.reduceOfNat, List.getElem?_map, Int.toNat_natCast, c6a, c6b, c8', g0', g1', byteLV, b0, b1, c9', e0, i0, i2, i3, d0', n1, gk3, g0, gp, hl, l2, l4, l6, t1, m1, m2, m3, x1, x2, x3, x4, x5, x6, x7, y1, y2, s1, s2, u1, List.length_append, List.length_drop, List.length_cons, List.length_nil, List.append_assoc, List.cons_append, List.nil_append, Nat.sub_zero, List.drop_zero]
    · have d2' : ¬ ((bAt d 0 : Nat) : Int) = (k2 : Int) := by omega
      rw [if_neg (show ¬ (pt ≠ pt ∨ d.length < 8 ∨ bAt d 1 ≠ 0) by omega), if_neg d0, if_neg d2]
      simp only [go_sem, ↓reduceIte, reduceCtorEq, upd_ne, back_new (no_at), Nat.reduceAdd, Nat.reduceEqDiff, Nat.reduceMul, Nat.reduceSub, Nat.reduceLeDiff, Nat.reduceLT, Int.reduceToNat, Int.reduceLE, Int.reduceLT, Int.reduceEq, UInt8.reduceOfNat, List.getElem?_map, Int.toNat_natCast, c6a, c6b, c8', g0', g1', byteLV, b0, b1, c9', e0, i0, i2, d0', d2']
end
end Go.Ev

namespace Go.Ev
set_option linter.unusedSimpArgs false
set_option linter.unusedVariables false
set_option maxRecDepth 10000
set_option maxHeartbeats 8000000
section
variable {S : Sys} (hS : Has S) (n : Nat)
include hS
theorem ev_turn6 {tos id ttl pt at' : Int} {df mo : Bool} {fr to op da a b : List UInt8} {claim p q : Nat} (hfr : fr.length = 4) (hto : to.length = 4) (ha : a.length = 16) (hb : b.length = 16) (hd : da.length ≤ 900000) (hc : claim < 4294967296) (hp : p ≤ 65535) (hq : q ≤ 65535) :
    S.ev (n + 5) id_fault_turn6 [ip4LV tos id ttl pt at' df mo fr to op da, .int .i64 (claim : Int), .agg [.bytes a, .int .i64 (p : Int)], .agg [.bytes b, .int .i64 (q : Int)]] none = some (.str (tn6 pt at' da fr to a b claim p q), none) := by
  unfold tn6
  by_cases c0 : 0 < at'
  · rw [if_pos c0, Sys.step hS.h_fault_turn6, F_fault_turn6_eq]
    unfold F_fault_turn6
    (try simp only [guard_merge, or_merge, and_merge, or_pick, and_pick, guard_or, guard_and]); simp only [to_ob]
    simp only [go_sem, ↓reduceIte, reduceCtorEq, upd_ne, back_new (no_at), Nat.reduceAdd, Nat.reduceEqDiff, Nat.reduceMul, Nat.reduceSub, Nat.reduceLeDiff, Nat.reduceLT, Int.reduceToNat, Int.reduceLE, Int.reduceLT, Int.reduceEq, UInt8.reduceOfNat, List.getElem?_map, Int.toNat_natCast, hfr, hto, ha, hb, c0]
  rw [if_neg c0]
  by_cases c1 : pt = 6 ∨ pt = 17
  · rw [if_pos c1]
    exact ev_turn6p hS n hfr hto ha hb c0 c1 hd hp hq
  rw [if_neg c1]
  have c6 : ¬ pt = 6 := fun h => c1 (.inl h)
  have c17 : ¬ pt = 17 := fun h => c1 (.inr h)
  rw [Sys.step hS.h_fault_turn6, F_fault_turn6_eq]
  unfold F_fault_turn6
  (try simp only [guard_merge, or_merge, and_merge, or_pick, and_pick, guard_or, guard_and]); simp only [to_ob]
  by_cases c2 : pt = 1
  case neg => simp only [go_sem, ↓reduceIte, reduceCtorEq, upd_ne, back_new (no_at), Nat.reduceAdd, Nat.reduceEqDiff, Nat.reduceMul, Nat.reduceSub, Nat.reduceLeDiff, Nat.reduceLT, Int.reduceToNat, Int.reduceLE, Int.reduceLT, Int.reduceEq, UInt8.reduceOfNat, List.getElem?_map, Int.toNat_natCast, hfr, hto, ha, hb, c0, c6, c17, c2]
  unfold isE4
  by_cases c3 : (da.length : Int) < 8
  · have c3' : ¬ (8 : Int) ≤ (da.length : Int) := by omega
    rw [if_neg (by rw [decide_eq_false (by omega)]; simp)]
    simp only [go_sem, ↓reduceIte, reduceCtorEq, upd_ne, back_new (no_at), Nat.reduceAdd, Nat.reduceEqDiff, Nat.reduceMul, Nat.reduceSub, Nat.reduceLeDiff, Nat.reduceLT, Int.reduceToNat, Int.reduceLE, Int.reduceLT, Int.reduceEq, UInt8.reduceOfNat, List.getElem?_map, Int.toNat_natCast, hfr, hto, ha, hb, c0, c2, c3, c3']
  have c3' : (8 : Int) ≤ (da.length : Int) := by omega
  rw [decide_eq_true (p := 8 ≤ da.length) (by omega), Bool.true_and]
  have g0 := get_def (s := da) (i := 0) (by omega)
  have g1 := get_def (s := da) (i := 1) (by omega)
  have b0 : (da.getD 0 0).toNat = bAt da 0 := rfl
  have b1 : (da.getD 1 0).toNat = bAt da 1 := rfl
  have hps := ev_Pseudo6 hS (n + 1) a b 58 claim ha hb (by omega) hc
  have hps : S.ev (n + 4) id_sum_Pseudo6 [.bytes a, .bytes b, .int .i64 58, .int .i64 (claim : Int)] none = _ := hps
  have e1 : ∀ k : Nat, k ≤ 255 → S.ev (n + 4) id_fault_echoed [.str da, .str [], .str (ps6 a b 58 claim), .int .i64 (k : Int), .int .i64 (p : Int)] none = some (.str (ecF da [] (ps6 a b 58 claim) k p), none) := fun k hk =>
    ev_echoed hS n da [] (ps6 a b 58 claim) k p (by omega) hd (by simp) (by simp) (by rw [ps6_len]; omega) hk hp
  have e128 : S.ev (n + 4) id_fault_echoed [.str da, .str [], .str (ps6 a b 58 claim), .int .i64 128, .int .i64 (p : Int)] none = _ := e1 128 (by omega)
  have e129 : S.ev (n + 4) id_fault_echoed [.str da, .str [], .str (ps6 a b 58 claim), .int .i64 129, .int .i64 (p : Int)] none = _ := e1 129 (by omega)
  by_cases d8 : bAt da 0 = 8
  · by_cases d1 : bAt da 1 = 0
    · rw [if_pos ⟨c2, by simp [d8, d1]⟩, show k46 (bAt da 0) = 128 by unfold k46; rw [if_pos d8]]
      simp only [go_sem, ↓reduceIte, reduceCtorEq, upd_ne, back_new (no_at), Nat.reduceAdd, Nat.reduceEqDiff, Nat.reduceMul, Nat.reduceSub, Nat.reduceLeDiff, Nat.reduceLT, Int.reduceToNat, Int.reduceLE, Int.reduceLT, Int.reduceEq, UInt8.reduceOfNat, List.getElem?_map, Int.toNat_natCast, hfr, hto, ha, hb, c0, c2, c3, c3', g0, g1, byteLV, b0, b1, d8, d1, hps, e128, Int.cast_ofNat_Int, Int.natCast_zero]
    · have d1' : ¬ ((bAt da 1 : Nat) : Int) = 0 := by omega
      rw [if_neg (by simp [d1])]
      simp only [go_sem, ↓reduceIte, reduceCtorEq, upd_ne, back_new (no_at), Nat.reduceAdd, Nat.reduceEqDiff, Nat.reduceMul, Nat.reduceSub, Nat.reduceLeDiff, Nat.reduceLT, Int.reduceToNat, Int.reduceLE, Int.reduceLT, Int.reduceEq, UInt8.reduceOfNat, List.getElem?_map, Int.toNat_natCast, hfr, hto, ha, hb, c0, c2, c3, c3', g0, g1, byteLV, b0, b1, d8, d1', hps, e128, Int.cast_ofNat_Int, Int.natCast_zero]
  · have d8' : ¬ ((bAt da 0 : Nat) : Int) = 8 := by omega
    by_cases d0 : bAt da 0 = 0
    · by_cases d1 : bAt da 1 = 0
      · rw [if_pos ⟨c2, by simp [d0, d1]⟩, show k46 (bAt da 0) = 129 by unfold k46; rw [if_neg d8]]
        simp only [go_sem, ↓reduceIte, reduceCtorEq, upd_ne, back_new (no_at), Nat.reduceAdd, Nat.reduceEqDiff, Nat.reduceMul, Nat.reduceSub, Nat.reduceLeDiff, Nat.reduceLT, Int.reduceToNat, Int.reduceLE, Int.reduceLT, Int.reduceEq, UInt8.reduceOfNat, List.getElem?_map, Int.toNat_natCast, hfr, hto, ha, hb, c0, c2, c3, c3', g0, g1, byteLV, b0, b1, d0, d1, hps, e129, Int.cast_ofNat_Int, Int.natCast_zero]
      · have d1' : ¬ ((bAt da 1 : Nat) : Int) = 0 := by omega
        rw [if_neg (by simp [d1])]
        simp only [go_sem, ↓reduceIte, reduceCtorEq, upd_ne, back_new (no_at), Nat.reduceAdd, Nat.reduceEqDiff, Nat.reduceMul, Nat.reduceSub, Nat.reduceLeDiff, Nat.reduceLT, Int.reduceToNat, Int.reduceLE, Int.reduceLT, Int.reduceEq, UInt8.reduceOfNat, List.getElem?_map, Int.toNat_natCast, hfr, hto, ha, hb, c0, c2, c3, c3', g0, g1, byteLV, b0, b1, d0, d1', hps, e128, Int.cast_ofNat_Int, Int.natCast_zero]
    · have d0' : ¬ ((bAt da 0 : Nat) : Int) = 0 := by omega
      rw [if_neg (by simp [d8, d0])]
      simp only [go_sem, ↓reduceIte, reduceCtorEq, upd_ne, back_new (no_at), Nat.reduceAdd, Nat.reduceEqDiff, Nat.reduceMul, Nat.reduceSub, Nat.reduceLeDiff, Nat.reduceLT, Int.reduceToNat, Int.reduceLE, Int.reduceLT, Int.reduceEq, UInt8.reduceOfNat, List.getElem?_map, Int.toNat_natCast, hfr, hto, ha, hb, c0, c2, c3, c3', g0, g1, byteLV, b0, b1, d8', d0', hps, e128, Int.cast_ofNat_Int, Int.natCast_zero]
end
end Go.Ev

namespace Go.Ev
set_option linter.unusedSimpArgs false
set_option linter.unusedVariables false
set_option maxRecDepth 10000
set_option maxHeartbeats 8000000
def inB (m : Int) (l : List Int) : Bool := l.all fun x => decide (0 ≤ x ∧ x ≤ m)
theorem or6F {c : Nat} (hc : c ≤ 255) : 1610612736 ||| c * 1048576 = 1610612736 + c * 1048576 := by
  rw [show 1610612736 = 1536 <<< 20 by rfl, show c * 1048576 = c <<< 20 by simp [Nat.shiftLeft_eq], ← Nat.shiftLeft_or_distrib, show 1536 = 6 <<< 8 by rfl, ← Nat.shiftLeft_add_eq_or_of_lt (by omega)]
  simp only [Nat.shiftLeft_eq]
  omega
section
variable {S : Sys} (hS : Has S) (n : Nat)
include hS
theorem ev_withinF (m : Int) (l : List Int) (hl : l.length ≤ 1000) : S.ev (n + 1) id_fault_within [.int .i64 m, .lst none (l.map fun x => LV.int .i64 x)] none = some (.bool (inB m l), none) := by
  rw [Sys.step hS.h_fault_within, F_fault_within_eq]
  unfold F_fault_within
  (try simp only [guard_merge, or_merge, and_merge, or_pick, and_pick, guard_or, guard_and]); simp only [to_ob]
  simp only [go_sem, ↓reduceIte, reduceCtorEq, upd_ne, back_new (no_at), Nat.reduceAdd, Nat.reduceEqDiff, Nat.reduceMul, Nat.reduceSub, Nat.reduceLeDiff, Nat.reduceLT, Int.reduceToNat, Int.reduceLE, Int.reduceLT, Int.reduceEq, UInt8.reduceOfNat, List.length_map]
  refine while_rule (fun k q => ∃ i : Nat, q = ([.bool false, .int .i64 (i : Int)], noSlots) ∧ i + k = l.length ∧ inB m (l.drop i) = inB m l) l.length ⟨0, rfl, by omega, rfl⟩ ?_
  rintro k q ⟨i, rfl, hi, hr⟩
  by_cases h : i < l.length
  · have h' : (i : Int) < (l.length : Int) := by omega
    obtain ⟨x, hx⟩ : ∃ x, l[i]? = some x := ⟨l[i], by simp [h]⟩
    have hd : l.drop i = x :: l.drop (i + 1) := by
      rw [List.drop_eq_getElem_cons h]; congr 1; rw [List.getElem?_eq_getElem h] at hx; exact Option.some.inj hx
    rw [hd] at hr
    have hc : inB m (x :: l.drop (i + 1)) = (decide (0 ≤ x ∧ x ≤ m) && inB m (l.drop (i + 1))) := rfl
    rw [hc] at hr
    have e1 : IntKind.i64.wrap ((i : Int) + 1) = ((i + 1 : Nat) : Int) := by rw [wrap_id (by omega) (by omega)]; omega
    by_cases c1 : x < 0
    · rw [decide_eq_false (by omega), Bool.false_and] at hr
      rw [← hr]
      simp only [go_sem, ↓reduceIte, reduceCtorEq, upd_ne, back_new (no_at), Nat.reduceAdd, Nat.reduceEqDiff, Nat.reduceMul, Nat.reduceSub, Nat.reduceLeDiff, Nat.reduceLT, Int.reduceToNat, Int.reduceLE, Int.reduceLT, Int.reduceEq, UInt8.reduceOfNat, List.getElem?_map, Int.toNat_natCast, h', hx, c1, Option.map_some, Nxt, exIf]
    · by_cases c2 : m < x
      · rw [decide_eq_false (by omega), Bool.false_and] at hr
        rw [← hr]
        simp only [go_sem, ↓reduceIte, reduceCtorEq, upd_ne, back_new (no_at), Nat.reduceAdd, Nat.reduceEqDiff, Nat.reduceMul, Nat.reduceSub, Nat.reduceLeDiff, Nat.reduceLT, Int.reduceToNat, Int.reduceLE, Int.reduceLT, Int.reduceEq, UInt8.reduceOfNat, List.getElem?_map, Int.toNat_natCast, h', hx, c1, c2, Option.map_some, Nxt, exIf]
      · rw [decide_eq_true (by omega), Bool.true_and] at hr
        simp only [go_sem, ↓reduceIte, reduceCtorEq, upd_ne, back_new (no_at), Nat.reduceAdd, Nat.reduceEqDiff, Nat.reduceMul, Nat.reduceSub, Nat.reduceLeDiff, Nat.reduceLT, Int.reduceToNat, Int.reduceLE, Int.reduceLT, Int.reduceEq, UInt8.reduceOfNat, List.getElem?_map, Int.toNat_natCast, h', hx, c1, c2, Option.map_some, e1]
        exact ⟨k - 1, by omega, i + 1, rfl, by omega, hr⟩
  · have h' : ¬ (i : Int) < (l.length : Int) := by omega
    rw [List.drop_of_length_le (by omega)] at hr
    rw [← hr]
    simp only [go_sem, ↓reduceIte, reduceCtorEq, upd_ne, back_new (no_at), Nat.reduceAdd, Nat.reduceEqDiff, Nat.reduceMul, Nat.reduceSub, Nat.reduceLeDiff, Nat.reduceLT, Int.reduceToNat, Int.reduceLE, Int.reduceLT, Int.reduceEq, UInt8.reduceOfNat, List.getElem?_map, Int.toNat_natCast, h', Nxt, exIf]
    rfl
theorem ev_proto17 (x : Int) (hx : x = 6 ∨ x = 17) : S.ev (n + 1) id_head46_Proto [.int .i64 x] none = some (.tup [.int .i64 x, .bool true], none) := by
  rw [Sys.step hS.h_head46_Proto, F_head46_Proto_eq]
  unfold F_head46_Proto F_head46_Proto_k1
  (try simp only [guard_merge, or_merge, and_merge, or_pick, and_pick, guard_or, guard_and]); simp only [to_ob]
  rcases hx with rfl | rfl <;> simp only [go_sem, ↓reduceIte, reduceCtorEq, upd_ne, back_new (no_at), Nat.reduceAdd, Nat.reduceEqDiff, Nat.reduceMul, Nat.reduceSub, Nat.reduceLeDiff, Nat.reduceLT, Int.reduceToNat, Int.reduceLE, Int.reduceLT, Int.reduceEq, UInt8.reduceOfNat]
theorem ev_quote6w {tos id ttl pt : Int} {df : Bool} {fr to op da a b : List UInt8} {claim p q : Nat} (hfr : fr.length = 4) (hto : to.length = 4) (ha : a.length = 16) (hb : b.length = 16) (hpt : pt = 6 ∨ pt = 17)
    (ht : 0 ≤ tos ∧ tos ≤ 255) (htl : 0 ≤ ttl ∧ ttl ≤ 255) (hi : 0 ≤ id ∧ id ≤ 65535) (hd : da.length ≤ claim) (hc : claim ≤ 65535) (hp : p ≤ 65535) (hq : q ≤ 65535) :
    S.ev (n + 6) id_fault_Quote6 [ip4LV tos id ttl pt 0 df false fr to op da, .int .i64 (claim : Int), .agg [.bytes a, .int .i64 (p : Int)], .agg [.bytes b, .int .i64 (q : Int)]] none =
      some (.tup [.str (beB 4 (1610612736 + tos.toNat * 1048576) ++ (beB 2 claim ++ (beB 1 pt.toNat ++ (beB 1 ttl.toNat ++ (a ++ (b ++ poF (decide (pt = 17)) da (fr ++ to) (a ++ b) p q)))))), .nili], none) := by
  rw [Sys.step hS.h_fault_Quote6, F_fault_Quote6_eq]
  unfold F_fault_Quote6
  have hP := ev_proto17 hS (n + 4) pt hpt
  have hT := ev_turn6p hS n (tos := tos) (id := id) (ttl := ttl) (pt := pt) (at' := 0) (df := df) (mo := false) (fr := fr) (to := to) (op := op) (da := da) (a := a) (b := b) (claim := (claim : Int)) (p := p) (q := q) hfr hto ha hb (by omega) hpt (by omega) hp hq
  have w1 : S.ev (n + 5) id_fault_within [.int .i64 255, .lst none [.int .i64 tos, .int .i64 ttl]] none = some (.bool true, none) := by
    have h := ev_withinF hS (n + 4) 255 [tos, ttl] (by simp)
    rw [show inB 255 [tos, ttl] = true by simp [inB]; omega] at h
    exact h
  have w2 : S.ev (n + 5) id_fault_within [.int .i64 65535, .lst none [.int .i64 id, .int .i64 (p : Int), .int .i64 (q : Int)]] none = some (.bool true, none) := by
    have h := ev_withinF hS (n + 4) 65535 [id, (p : Int), (q : Int)] (by simp)
    rw [show inB 65535 [id, (p : Int), (q : Int)] = true by simp [inB]; omega] at h
    exact h
  have w3 : S.ev (n + 5) id_fault_within [.int .i64 65528, .lst none [.int .i64 0]] none = some (.bool true, none) := by
    have h := ev_withinF hS (n + 4) 65528 [0] (by simp)
    exact h
  obtain ⟨T, rfl⟩ := Int.eq_ofNat_of_zero_le ht.1
  have g1 : S.ev (n + 5) id_fault_big [.int .i64 ((1610612736 + T * 1048576 : Nat) : Int), .int .i64 4] none = some (.str (beB 4 (1610612736 + T * 1048576)), none) := ev_bigF hS (n + 3) _ 4 (by omega) (by omega) ⟨by omega, by omega⟩
  have g2 : S.ev (n + 5) id_fault_big [.int .i64 (claim : Int), .int .i64 2] none = some (.str (beB 2 claim), none) := ev_bigF hS (n + 3) claim 2 (by omega) (lt2 (by omega) (by omega)) ⟨by omega, by omega⟩
  have g3 : S.ev (n + 5) id_fault_big [.int .i64 pt, .int .i64 1] none = some (.str (beB 1 pt.toNat), none) := ev_bigF hS (n + 3) pt 1 (by omega) (lt1 (by omega) (by omega)) ⟨by omega, by omega⟩
  have g4 : S.ev (n + 5) id_fault_big [.int .i64 ttl, .int .i64 1] none = some (.str (beB 1 ttl.toNat), none) := ev_bigF hS (n + 3) ttl 1 (by omega) (lt1 (by omega) (by omega)) ⟨by omega, by omega⟩
  have s1 : IntKind.i64.wrap ((T : Int) * 2 ^ min 20 64) = ((T * 1048576 : Nat) : Int) := by
    rw [show min 20 64 = 20 from rfl, wrap_id (by omega) (by omega)]; omega
  have s2 : bitsOf .or .i64 1610612736 ((T * 1048576 : Nat) : Int) = ((1610612736 + T * 1048576 : Nat) : Int) := by
    rw [show (1610612736 : Int) = ((1610612736 : Nat) : Int) from rfl, bits_or_nat (by decide) (by simp [IntKind.max, IntKind.signed, IntKind.bits]; omega), or6F (by omega)]
  have c1 : ¬ (claim : Int) < (da.length : Int) := by omega
  have c2 : ¬ 65535 < (claim : Int) := by omega
  have hl := beB_len
  have hpl := @poF_len (decide (pt = 17)) da (fr ++ to) (a ++ b) p q
  have t3 : a.take 16 = a := List.take_of_length_le (by omega)
  have t4 : b.take 16 = b := List.take_of_length_le (by omega)
  have x1 : 4 + 2 ≤ maxStr := by decide
  have x2 : 6 + 1 ≤ maxStr := by decide
  have x3 : 7 + 1 ≤ maxStr := by decide
  have x4 : 8 + 16 ≤ maxStr := by decide
  have x5 : 24 + 16 ≤ maxStr := by decide
  have x6 : 40 + da.length ≤ maxStr := by unfold maxStr; omega
  generalize poF (decide (pt = 17)) da (fr ++ to) (a ++ b) p q = PO at *
  (try simp only [guard_merge, or_merge, and_merge, or_pick, and_pick, guard_or, guard_and]); simp only [to_ob]
  rw [Int.toNat_natCast]
  simp only [go_sem, ↓reduceIte, reduceCtorEq, upd_ne, back_new (no_at), Nat.reduceAdd, Nat.reduceEqDiff, Nat.reduceMul, Nat.reduceSub, Nat.reduceLeDiff, Nat.reduceLT, Int.reduceToNat, Int.reduceLE, Int.reduceLT, Int.reduceEq, UInt8.reduceOfNat, List.getElem?_map, Int.toNat_natCast, hfr, hto, ha, hb, hP, hT, w1, w2, w3, g1, g2, g3, g4, s1, s2, c1, c2, hl, hpl, t3, t4, toBytes_byteLV, x1, x2, x3, x4, x5, x6, List.length_append, List.append_assoc, List.append_nil, List.length_nil, Nat.add_zero, Int.zero_tmod]
end
end Go.Ev

namespace Go.Ev
set_option linter.unusedSimpArgs false
set_option linter.unusedVariables false
set_option maxRecDepth 10000
set_option maxHeartbeats 8000000
def proto46 (x : Int) : Int × Bool := if x = 1 then (58, true) else if x ≤ 0 ∨ x = 2 ∨ x = 43 ∨ x = 44 ∨ x = 58 ∨ x = 60 ∨ 255 < x then (0, false) else (x, true)
theorem proto46_le (x : Int) : 0 ≤ (proto46 x).1 ∧ (proto46 x).1 ≤ 255 := by unfold proto46; repeat' split
                                                                             all_goals constructor <;> dsimp only <;> omega
def isF (at' : Int) (mo : Bool) : Bool := mo || decide (at' ≠ 0)
def q6N (at' : Int) (mo : Bool) (claim : Nat) : Nat := claim + if isF at' mo = true then 8 else 0
def pOk (p q : Int) : Prop := 0 ≤ p ∧ p ≤ 65535 ∧ 0 ≤ q ∧ q ≤ 65535
instance (p q : Int) : Decidable (pOk p q) := by unfold pOk; infer_instance
def q6K (pt at' : Int) (mo : Bool) (claim : Nat) (p q : Int) : Int :=
  if ¬ pOk p q then 13 else if (proto46 pt).2 = false then 10 else if 65535 < q6N at' mo claim then 3 else 0
def pcQ (pr : Nat) (at' : Int) (mo : Bool) (id : Int) : List UInt8 := beB 1 pr ++ (0 :: (beB 2 (at' + if mo = true then 1 else 0 : Int).toNat ++ beB 4 id.toNat))
def q6H (tos ttl pt at' : Int) (mo : Bool) (claim : Nat) : List UInt8 :=
  beB 4 (1610612736 + tos.toNat * 1048576) ++ (beB 2 (q6N at' mo claim) ++ (beB 1 (if isF at' mo = true then 44 else (proto46 pt).1.toNat) ++ beB 1 ttl.toNat))
def q6A (id pt at' : Int) (mo : Bool) : List UInt8 := if isF at' mo = true then pcQ (proto46 pt).1.toNat at' mo id else []
def q6B (tos id ttl pt at' : Int) (mo : Bool) (fr to da a b : List UInt8) (claim : Nat) (p q : Int) : List UInt8 :=
  q6H tos ttl pt at' mo claim ++ (a ++ (b ++ (q6A id pt at' mo ++ tn6 pt at' da fr to a b claim p.toNat q.toNat)))
def q6R (tos id ttl pt at' : Int) (mo : Bool) (fr to da a b : List UInt8) (claim : Nat) (p q : Int) : LV :=
  .tup [.str (if q6K pt at' mo claim p q = 0 then q6B tos id ttl pt at' mo fr to da a b claim p q else []), fE (q6K pt at' mo claim p q)]
section
variable {S : Sys} (hS : Has S) (n : Nat)
include hS
theorem ev_proto4 (x : Int) : S.ev (n + 1) id_head46_Proto [.int .i64 x] none = some (.tup [.int .i64 (proto46 x).1, .bool (proto46 x).2], none) := by
  rw [Sys.step hS.h_head46_Proto, F_head46_Proto_eq]
  unfold F_head46_Proto F_head46_Proto_k1
  (try simp only [guard_merge, or_merge, and_merge, or_pick, and_pick, guard_or, guard_and]); simp only [to_ob]
  simp only [go_sem, ↓reduceIte, reduceCtorEq, upd_ne, back_new (no_at), Nat.reduceAdd, Nat.reduceEqDiff, Nat.reduceMul, Nat.reduceSub, Nat.reduceLeDiff, Nat.reduceLT, Int.reduceToNat, Int.reduceLE, Int.reduceLT, Int.reduceEq, UInt8.reduceOfNat]
  unfold proto46
  repeat' split
  all_goals first | rfl | omega
theorem ev_quote6 {tos id ttl pt at' : Int} {df mo : Bool} {fr to op da a b : List UInt8} {claim : Nat} {p q : Int} (hfr : fr.length = 4) (hto : to.length = 4) (ha : a.length = 16) (hb : b.length = 16)
    (ht : 0 ≤ tos ∧ tos ≤ 255) (htl : 0 ≤ ttl ∧ ttl ≤ 255) (hi : 0 ≤ id ∧ id ≤ 65535) (hat : 0 ≤ at' ∧ at' ≤ 65528 ∧ at' % 8 = 0) (hd : da.length ≤ claim) (hc : claim ≤ 65535) :
    S.ev (n + 6) id_fault_Quote6 [ip4LV tos id ttl pt at' df mo fr to op da, .int .i64 (claim : Int), .agg [.bytes a, .int .i64 p], .agg [.bytes b, .int .i64 q]] none =
      some (q6R tos id ttl pt at' mo fr to da a b claim p q, none) := by
  have hP := ev_proto4 hS (n + 4) pt
  have hPl := proto46_le pt
  have hfa := ev_faultF hS (n + 4)
  have w1 : S.ev (n + 5) id_fault_within [.int .i64 255, .lst none [.int .i64 tos, .int .i64 ttl]] none = some (.bool true, none) := by
    have h := ev_withinF hS (n + 4) 255 [tos, ttl] (by simp)
    rw [show inB 255 [tos, ttl] = true by simp [inB]; omega] at h
    exact h
  have w2 : S.ev (n + 5) id_fault_within [.int .i64 65535, .lst none [.int .i64 id, .int .i64 p, .int .i64 q]] none = some (.bool (decide (pOk p q)), none) := by
    have h := ev_withinF hS (n + 4) 65535 [id, p, q] (by simp)
    rw [show inB 65535 [id, p, q] = decide (pOk p q) from by rw [Bool.eq_iff_iff, decide_eq_true_iff]; unfold inB pOk; simp only [List.all_cons, List.all_nil, Bool.and_eq_true, decide_eq_true_eq, and_true]; omega] at h
    exact h
  have w3 : S.ev (n + 5) id_fault_within [.int .i64 65528, .lst none [.int .i64 at']] none = some (.bool true, none) := by
    have h := ev_withinF hS (n + 4) 65528 [at'] (by simp)
    rw [show inB 65528 [at'] = true by simp [inB]; omega] at h
    exact h
  obtain ⟨T, rfl⟩ := Int.eq_ofNat_of_zero_le ht.1
  obtain ⟨I, rfl⟩ := Int.eq_ofNat_of_zero_le hi.1
  obtain ⟨L, rfl⟩ := Int.eq_ofNat_of_zero_le htl.1
  obtain ⟨A, rfl⟩ := Int.eq_ofNat_of_zero_le hat.1
  have c0 : Int.tmod (A : Int) 8 = 0 := by rw [Int.tmod_eq_emod_of_nonneg (by omega)]; omega
  have c1 : ¬ (claim : Int) < (da.length : Int) := by omega
  have e8 : IntKind.i64.wrap ((claim : Int) + 8) = ((claim + 8 : Nat) : Int) := by rw [wrap_id (by omega) (by omega)]; omega
  unfold q6R q6K
  by_cases cp : pOk p q
  case neg =>
    rw [if_pos cp, if_neg (by omega)]
    rw [decide_eq_false cp] at w2
    rw [Sys.step hS.h_fault_Quote6, F_fault_Quote6_eq]
    unfold F_fault_Quote6
    (try simp only [guard_merge, or_merge, and_merge, or_pick, and_pick, guard_or, guard_and]); simp only [to_ob]
    cases mo with
    | true => simp only [go_sem, ↓reduceIte, reduceCtorEq, upd_ne, back_new (no_at), Nat.reduceAdd, Nat.reduceEqDiff, Nat.reduceMul, Nat.reduceSub, Nat.reduceLeDiff, Nat.reduceLT, Int.reduceToNat, Int.reduceLE, Int.reduceLT, Int.reduceEq, UInt8.reduceOfNat, List.getElem?_map, Int.toNat_natCast, hfr, hto, ha, hb, hP, w1, w2, w3, e8, hfa, fE]
    | false =>
      by_cases cA : ((A : Nat) : Int) = 0
      · have w3' := w3
        rw [cA] at w3'
        simp only [go_sem, ↓reduceIte, reduceCtorEq, upd_ne, back_new (no_at), Nat.reduceAdd, Nat.reduceEqDiff, Nat.reduceMul, Nat.reduceSub, Nat.reduceLeDiff, Nat.reduceLT, Int.reduceToNat, Int.reduceLE, Int.reduceLT, Int.reduceEq, UInt8.reduceOfNat, List.getElem?_map, Int.toNat_natCast, hfr, hto, ha, hb, hP, w1, w2, w3, e8, hfa, fE, cA, w3']
      · simp only [go_sem, ↓reduceIte, reduceCtorEq, upd_ne, back_new (no_at), Nat.reduceAdd, Nat.reduceEqDiff, Nat.reduceMul, Nat.reduceSub, Nat.reduceLeDiff, Nat.reduceLT, Int.reduceToNat, Int.reduceLE, Int.reduceLT, Int.reduceEq, UInt8.reduceOfNat, List.getElem?_map, Int.toNat_natCast, hfr, hto, ha, hb, hP, w1, w2, w3, e8, hfa, fE, cA]
  rw [if_neg (not_not_intro cp)]
  rw [decide_eq_true cp] at w2
  obtain ⟨p1, p2, q1, q2⟩ := cp
  obtain ⟨p, rfl⟩ := Int.eq_ofNat_of_zero_le p1
  obtain ⟨q, rfl⟩ := Int.eq_ofNat_of_zero_le q1
  by_cases cr : (proto46 pt).2 = false
  · rw [if_pos cr, if_neg (by omega)]
    rw [cr] at hP
    rw [Sys.step hS.h_fault_Quote6, F_fault_Quote6_eq]
    unfold F_fault_Quote6
    (try simp only [guard_merge, or_merge, and_merge, or_pick, and_pick, guard_or, guard_and]); simp only [to_ob]
    cases mo with
    | true => simp only [go_sem, ↓reduceIte, reduceCtorEq, upd_ne, back_new (no_at), Nat.reduceAdd, Nat.reduceEqDiff, Nat.reduceMul, Nat.reduceSub, Nat.reduceLeDiff, Nat.reduceLT, Int.reduceToNat, Int.reduceLE, Int.reduceLT, Int.reduceEq, UInt8.reduceOfNat, List.getElem?_map, Int.toNat_natCast, hfr, hto, ha, hb, hP, w1, w2, w3, e8, hfa, fE, c0, c1]
    | false =>
      by_cases cA : ((A : Nat) : Int) = 0
      · have w3' := w3
        rw [cA] at w3'
        simp only [go_sem, ↓reduceIte, reduceCtorEq, upd_ne, back_new (no_at), Nat.reduceAdd, Nat.reduceEqDiff, Nat.reduceMul, Nat.reduceSub, Nat.reduceLeDiff, Nat.reduceLT, Int.reduceToNat, Int.reduceLE, Int.reduceLT, Int.reduceEq, UInt8.reduceOfNat, List.getElem?_map, Int.toNat_natCast, hfr, hto, ha, hb, hP, w1, w2, w3, e8, hfa, fE, c0, c1, cA, w3', Int.zero_tmod]
      · simp only [go_sem, ↓reduceIte, reduceCtorEq, upd_ne, back_new (no_at), Nat.reduceAdd, Nat.reduceEqDiff, Nat.reduceMul, Nat.reduceSub, Nat.reduceLeDiff, Nat.reduceLT, Int.reduceToNat, Int.reduceLE, Int.reduceLT, Int.reduceEq, UInt8.reduceOfNat, List.getElem?_map, Int.toNat_natCast, hfr, hto, ha, hb, hP, w1, w2, w3, e8, hfa, fE, c0, c1, cA]
  rw [if_neg cr]
  have cr : (proto46 pt).2 = true := by simpa using cr
  rw [cr] at hP
  have hT := ev_turn6 hS n (tos := (T : Int)) (id := (I : Int)) (ttl := (L : Int)) (pt := pt) (at' := (A : Int)) (df := df) (mo := mo) (fr := fr) (to := to) (op := op) (da := da) (a := a) (b := b) (claim := claim) (p := p) (q := q) hfr hto ha hb (by omega) (by omega) (by omega) (by omega)
  have hTl := @tn6_len pt (A : Int) da fr to a b claim p q
  generalize hPP : (proto46 pt).1 = PP at *
  obtain ⟨P, rfl⟩ := Int.eq_ofNat_of_zero_le hPl.1
  have g1 : S.ev (n + 5) id_fault_big [.int .i64 ((1610612736 + T * 1048576 : Nat) : Int), .int .i64 4] none = some (.str (beB 4 (1610612736 + T * 1048576)), none) := ev_bigF hS (n + 3) _ 4 (by omega) (by omega) ⟨by omega, by omega⟩
  have g2 : ∀ x : Nat, x ≤ 65535 → S.ev (n + 5) id_fault_big [.int .i64 (x : Int), .int .i64 2] none = some (.str (beB 2 x), none) := fun x hx => ev_bigF hS (n + 3) x 2 (by omega) (lt2 (by omega) (by omega)) ⟨by omega, by omega⟩
  have g3 : ∀ x : Nat, x ≤ 255 → S.ev (n + 5) id_fault_big [.int .i64 (x : Int), .int .i64 1] none = some (.str (beB 1 x), none) := fun x hx => ev_bigF hS (n + 3) x 1 (by omega) (lt1 (by omega) (by omega)) ⟨by omega, by omega⟩
  have g4 : S.ev (n + 5) id_fault_big [.int .i64 (I : Int), .int .i64 4] none = some (.str (beB 4 I), none) := ev_bigF hS (n + 3) _ 4 (by omega) (by omega) ⟨by omega, by omega⟩
  have g44 : S.ev (n + 5) id_fault_big [.int .i64 44, .int .i64 1] none = some (.str (beB 1 44), none) := g3 44 (by omega)
  have gP := g3 P (by omega)
  have gL := g3 L (by omega)
  have gA := g2 A (by omega)
  have gA1 := g2 (A + 1) (by omega)
  have s1 : IntKind.i64.wrap ((T : Int) * 2 ^ min 20 64) = ((T * 1048576 : Nat) : Int) := by
    rw [show min 20 64 = 20 from rfl, wrap_id (by omega) (by omega)]; omega
  have s2 : bitsOf .or .i64 1610612736 ((T * 1048576 : Nat) : Int) = ((1610612736 + T * 1048576 : Nat) : Int) := by
    rw [show (1610612736 : Int) = ((1610612736 : Nat) : Int) from rfl, bits_or_nat (by decide) (by simp [IntKind.max, IntKind.signed, IntKind.bits]; omega), or6F (by omega)]
  have s3 : IntKind.i64.wrap ((A : Int) + 1) = ((A + 1 : Nat) : Int) := by rw [wrap_id (by omega) (by omega)]; omega
  have hl := beB_len
  have t3 : a.take 16 = a := List.take_of_length_le (by omega)
  have t4 : b.take 16 = b := List.take_of_length_le (by omega)
  have x1 : 4 + 2 ≤ maxStr := by decide
  have x2 : 6 + 1 ≤ maxStr := by decide
  have x3 : 7 + 1 ≤ maxStr := by decide
  have x4 : 8 + 16 ≤ maxStr := by decide
  have x5 : 24 + 16 ≤ maxStr := by decide
  have x6 : 40 + da.length ≤ maxStr := by unfold maxStr; omega
  have x7 : 48 + da.length ≤ maxStr := by unfold maxStr; omega
  have x8 : 40 + 8 ≤ maxStr := by decide
  have x9 : 1 + 1 ≤ maxStr := by decide
  have x10 : 2 + 2 ≤ maxStr := by decide
  have x11 : 4 + 4 ≤ maxStr := by decide
  unfold q6B q6H q6A pcQ isF q6N
  rw [Sys.step hS.h_fault_Quote6, F_fault_Quote6_eq]
  unfold F_fault_Quote6
  (try simp only [guard_merge, or_merge, and_merge, or_pick, and_pick, guard_or, guard_and]); simp only [to_ob]
  rw [hPP]
  unfold isF
  simp only [Int.toNat_natCast]
  by_cases cf : (mo || decide (((A : Nat) : Int) ≠ 0)) = true
  · rw [cf]
    simp only [if_true]
    have gn := g2 (claim + 8)
    by_cases cl : 65535 < claim + 8
    · have cl' : (65535 : Int) < ((claim + 8 : Nat) : Int) := by omega
      rw [if_pos cl, if_neg (by omega)]
      cases mo with
      | true => simp only [go_sem, ↓reduceIte, reduceCtorEq, upd_ne, back_new (no_at), Nat.reduceAdd, Nat.reduceEqDiff, Nat.reduceMul, Nat.reduceSub, Nat.reduceLeDiff, Nat.reduceLT, Int.reduceToNat, Int.reduceLE, Int.reduceLT, Int.reduceEq, UInt8.reduceOfNat, List.getElem?_map, Int.toNat_natCast, hfr, hto, ha, hb, hP, w1, w2, w3, e8, hfa, fE, c0, c1, cl']
      | false =>
        have cA : ¬ ((A : Nat) : Int) = 0 := by simpa using cf
        simp only [go_sem, ↓reduceIte, reduceCtorEq, upd_ne, back_new (no_at), Nat.reduceAdd, Nat.reduceEqDiff, Nat.reduceMul, Nat.reduceSub, Nat.reduceLeDiff, Nat.reduceLT, Int.reduceToNat, Int.reduceLE, Int.reduceLT, Int.reduceEq, UInt8.reduceOfNat, List.getElem?_map, Int.toNat_natCast, hfr, hto, ha, hb, hP, w1, w2, w3, e8, hfa, fE, c0, c1, cA, cl']
    · have cl' : ¬ (65535 : Int) < ((claim + 8 : Nat) : Int) := by omega
      have gn := gn (by omega)
      rw [if_neg cl, if_pos rfl]
      generalize tn6 pt (A : Int) da fr to a b claim p q = TN at *
      cases mo with
      | true => simp only [go_sem, ↓reduceIte, reduceCtorEq, upd_ne, back_new (no_at), Nat.reduceAdd, Nat.reduceEqDiff, Nat.reduceMul, Nat.reduceSub, Nat.reduceLeDiff, Nat.reduceLT, Int.reduceToNat, Int.reduceLE, Int.reduceLT, Int.reduceEq, UInt8.reduceOfNat, List.getElem?_map, Int.toNat_natCast, hfr, hto, ha, hb, hP, w1, w2, w3, e8, hfa, fE, c0, c1, cl', g1, g4, g44, gP, gL, gA1, gn, s1, s2, s3, hl, t3, t4, x1, x2, x3, x4, x5, x7, x8, x9, x10, x11, hT, hTl, toBytes_byteLV, List.length_append, List.length_cons, List.append_assoc, List.cons_append, List.nil_append, Int.toNat_natCast, show ((A : Int) + 1).toNat = A + 1 by omega]
      | false =>
        have cA : ¬ ((A : Nat) : Int) = 0 := by simpa using cf
        simp only [go_sem, ↓reduceIte, reduceCtorEq, upd_ne, back_new (no_at), Nat.reduceAdd, Nat.reduceEqDiff, Nat.reduceMul, Nat.reduceSub, Nat.reduceLeDiff, Nat.reduceLT, Int.reduceToNat, Int.reduceLE, Int.reduceLT, Int.reduceEq, UInt8.reduceOfNat, List.getElem?_map, Int.toNat_natCast, hfr, hto, ha, hb, hP, w1, w2, w3, e8, hfa, fE, c0, c1, cA, cl', g1, g4, g44, gP, gL, gA, gn, s1, s2, s3, hl, t3, t4, x1, x2, x3, x4, x5, x7, x8, x9, x10, x11, hT, hTl, toBytes_byteLV, List.length_append, List.length_cons, List.append_assoc, List.cons_append, List.nil_append, Int.toNat_natCast, Int.add_zero]
  · have cf : (mo || decide (((A : Nat) : Int) ≠ 0)) = false := by simpa using cf
    rw [cf]
    simp only [Bool.or_eq_false_iff] at cf
    obtain ⟨rfl, cA⟩ := cf
    have cA : A = 0 := by simpa using cA
    subst cA
    have gn := g2 claim (by omega)
    have cl' : ¬ (65535 : Int) < (claim : Int) := by omega
    simp only [Bool.false_eq_true, if_false, Nat.add_zero]
    have c65 : ¬ 65535 < claim := by omega
    rw [if_neg c65, if_pos rfl]
    rw [show ((0 : Nat) : Int) = 0 from rfl] at *
    generalize tn6 pt 0 da fr to a b claim p q = TN at *
    simp only [go_sem, ↓reduceIte, reduceCtorEq, upd_ne, back_new (no_at), Nat.reduceAdd, Nat.reduceEqDiff, Nat.reduceMul, Nat.reduceSub, Nat.reduceLeDiff, Nat.reduceLT, Int.reduceToNat, Int.reduceLE, Int.reduceLT, Int.reduceEq, UInt8.reduceOfNat, List.getElem?_map, Int.toNat_natCast, hfr, hto, ha, hb, hP, w1, w2, w3, e8, hfa, fE, c0, c1, cl', g1, gP, gL, gn, s1, s2, hl, t3, t4, x1, x2, x3, x4, x5, x6, hT, hTl, toBytes_byteLV, List.length_append, List.length_cons, List.length_nil, Nat.add_zero, List.append_assoc, List.append_nil, List.nil_append, Int.toNat_natCast, Int.zero_tmod]
end
end Go.Ev

namespace Go.Ev
set_option linter.unusedSimpArgs false
set_option linter.unusedVariables false
set_option maxRecDepth 10000
set_option maxHeartbeats 8000000
def rq6R (tos id ttl pt at' : Int) (mo : Bool) (fr to da a b : List UInt8) (claim : Nat) (p q : Int) : LV :=
  .tup [.str (if q6K pt at' mo claim p q = 0 then q6B tos id ttl pt at' mo fr to da a b claim p q else []), .int .i64 (q6K pt at' mo claim p q)]
section
variable {S : Sys} (hS : Has S) (n : Nat)
include hS
theorem ev_rbound (m : Int) (l : List Int) (hl : l.length ≤ 1000) : S.ev (n + 1) id_interpreterref15_bound [.int .i64 m, .lst none (l.map fun x => LV.int .i64 x)] none = some (.bool (inB m l), none) := by
  rw [Sys.step hS.h_interpreterref15_bound, F_interpreterref15_bound_eq]
  unfold F_interpreterref15_bound
  (try simp only [guard_merge, or_merge, and_merge, or_pick, and_pick, guard_or, guard_and]); simp only [to_ob]
  simp only [go_sem, ↓reduceIte, reduceCtorEq, upd_ne, back_new (no_at), Nat.reduceAdd, Nat.reduceEqDiff, Nat.reduceMul, Nat.reduceSub, Nat.reduceLeDiff, Nat.reduceLT, Int.reduceToNat, Int.reduceLE, Int.reduceLT, Int.reduceEq, UInt8.reduceOfNat, List.length_map]
  refine while_rule (fun k q => ∃ i : Nat, q = ([.bool false, .int .i64 (i : Int)], noSlots) ∧ i + k = l.length ∧ inB m (l.drop i) = inB m l) l.length ⟨0, rfl, by omega, rfl⟩ ?_
  rintro k q ⟨i, rfl, hi, hr⟩
  by_cases h : i < l.length
  · have h' : (i : Int) < (l.length : Int) := by omega
    obtain ⟨x, hx⟩ : ∃ x, l[i]? = some x := ⟨l[i], by simp [h]⟩
    have hd : l.drop i = x :: l.drop (i + 1) := by
      rw [List.drop_eq_getElem_cons h]; congr 1; rw [List.getElem?_eq_getElem h] at hx; exact Option.some.inj hx
    rw [hd] at hr
    have hc : inB m (x :: l.drop (i + 1)) = (decide (0 ≤ x ∧ x ≤ m) && inB m (l.drop (i + 1))) := rfl
    rw [hc] at hr
    have e1 : IntKind.i64.wrap ((i : Int) + 1) = ((i + 1 : Nat) : Int) := by rw [wrap_id (by omega) (by omega)]; omega
    by_cases c1 : x < 0
    · rw [decide_eq_false (by omega), Bool.false_and] at hr
      rw [← hr]
      simp only [go_sem, ↓reduceIte, reduceCtorEq, upd_ne, back_new (no_at), Nat.reduceAdd, Nat.reduceEqDiff, Nat.reduceMul, Nat.reduceSub, Nat.reduceLeDiff, Nat.reduceLT, Int.reduceToNat, Int.reduceLE, Int.reduceLT, Int.reduceEq, UInt8.reduceOfNat, List.getElem?_map, Int.toNat_natCast, h', hx, c1, Option.map_some, Nxt, exIf]
    · by_cases c2 : m < x
      · rw [decide_eq_false (by omega), Bool.false_and] at hr
        rw [← hr]
        simp only [go_sem, ↓reduceIte, reduceCtorEq, upd_ne, back_new (no_at), Nat.reduceAdd, Nat.reduceEqDiff, Nat.reduceMul, Nat.reduceSub, Nat.reduceLeDiff, Nat.reduceLT, Int.reduceToNat, Int.reduceLE, Int.reduceLT, Int.reduceEq, UInt8.reduceOfNat, List.getElem?_map, Int.toNat_natCast, h', hx, c1, c2, Option.map_some, Nxt, exIf]
      · rw [decide_eq_true (by omega), Bool.true_and] at hr
        simp only [go_sem, ↓reduceIte, reduceCtorEq, upd_ne, back_new (no_at), Nat.reduceAdd, Nat.reduceEqDiff, Nat.reduceMul, Nat.reduceSub, Nat.reduceLeDiff, Nat.reduceLT, Int.reduceToNat, Int.reduceLE, Int.reduceLT, Int.reduceEq, UInt8.reduceOfNat, List.getElem?_map, Int.toNat_natCast, h', hx, c1, c2, Option.map_some, e1]
        exact ⟨k - 1, by omega, i + 1, rfl, by omega, hr⟩
  · have h' : ¬ (i : Int) < (l.length : Int) := by omega
    rw [List.drop_of_length_le (by omega)] at hr
    rw [← hr]
    simp only [go_sem, ↓reduceIte, reduceCtorEq, upd_ne, back_new (no_at), Nat.reduceAdd, Nat.reduceEqDiff, Nat.reduceMul, Nat.reduceSub, Nat.reduceLeDiff, Nat.reduceLT, Int.reduceToNat, Int.reduceLE, Int.reduceLT, Int.reduceEq, UInt8.reduceOfNat, List.getElem?_map, Int.toNat_natCast, h', Nxt, exIf]
    rfl
theorem ev_rproto4 (x : Int) : S.ev (n + 1) id_interpreterref12_Proto [.int .i64 x] none = some (.tup [.int .i64 (proto46 x).1, .bool (proto46 x).2], none) := by
  rw [Sys.step hS.h_interpreterref12_Proto, F_interpreterref12_Proto_eq]
  unfold F_interpreterref12_Proto
  (try simp only [guard_merge, or_merge, and_merge, or_pick, and_pick, guard_or, guard_and]); simp only [to_ob]
  simp only [go_sem, ↓reduceIte, reduceCtorEq, upd_ne, back_new (no_at), Nat.reduceAdd, Nat.reduceEqDiff, Nat.reduceMul, Nat.reduceSub, Nat.reduceLeDiff, Nat.reduceLT, Int.reduceToNat, Int.reduceLE, Int.reduceLT, Int.reduceEq, UInt8.reduceOfNat]
  unfold proto46
  repeat' split
  all_goals first | rfl | omega
theorem ev_rquote6 {tos id ttl pt at' : Int} {df mo : Bool} {fr to op da a b : List UInt8} {claim : Nat} {p q : Int} (hfr : fr.length = 4) (hto : to.length = 4) (ha : a.length = 16) (hb : b.length = 16)
    (ht : 0 ≤ tos ∧ tos ≤ 255) (htl : 0 ≤ ttl ∧ ttl ≤ 255) (hi : 0 ≤ id ∧ id ≤ 65535) (hat : 0 ≤ at' ∧ at' ≤ 65528 ∧ at' % 8 = 0) (hd : da.length ≤ claim) (hc : claim ≤ 65535) :
    S.ev (n + 6) id_interpreterref15_Quote6 [ip4LV tos id ttl pt at' df mo fr to op da, .int .i64 (claim : Int), .agg [.bytes a, .int .i64 p], .agg [.bytes b, .int .i64 q]] none =
      some (rq6R tos id ttl pt at' mo fr to da a b claim p q, none) := by
  have hP := ev_rproto4 hS (n + 4) pt
  have hPl := proto46_le pt
  have w1 : S.ev (n + 5) id_interpreterref15_bound [.int .i64 255, .lst none [.int .i64 tos, .int .i64 ttl]] none = some (.bool true, none) := by
    have h := ev_rbound hS (n + 4) 255 [tos, ttl] (by simp)
    rw [show inB 255 [tos, ttl] = true by simp [inB]; omega] at h
    exact h
  have w2 : S.ev (n + 5) id_interpreterref15_bound [.int .i64 65535, .lst none [.int .i64 id, .int .i64 p, .int .i64 q]] none = some (.bool (decide (pOk p q)), none) := by
    have h := ev_rbound hS (n + 4) 65535 [id, p, q] (by simp)
    rw [show inB 65535 [id, p, q] = decide (pOk p q) from by rw [Bool.eq_iff_iff, decide_eq_true_iff]; unfold inB pOk; simp only [List.all_cons, List.all_nil, Bool.and_eq_true, decide_eq_true_eq, and_true]; omega] at h
    exact h
  have w3 : S.ev (n + 5) id_interpreterref15_bound [.int .i64 65528, .lst none [.int .i64 at']] none = some (.bool true, none) := by
    have h := ev_rbound hS (n + 4) 65528 [at'] (by simp)
    rw [show inB 65528 [at'] = true by simp [inB]; omega] at h
    exact h
  obtain ⟨T, rfl⟩ := Int.eq_ofNat_of_zero_le ht.1
  obtain ⟨I, rfl⟩ := Int.eq_ofNat_of_zero_le hi.1
  obtain ⟨L, rfl⟩ := Int.eq_ofNat_of_zero_le htl.1
  obtain ⟨A, rfl⟩ := Int.eq_ofNat_of_zero_le hat.1
  have c0 : Int.tmod (A : Int) 8 = 0 := by rw [Int.tmod_eq_emod_of_nonneg (by omega)]; omega
  have c1 : ¬ (claim : Int) < (da.length : Int) := by omega
  have e8 : IntKind.i64.wrap ((claim : Int) + 8) = ((claim + 8 : Nat) : Int) := by rw [wrap_id (by omega) (by omega)]; omega
  unfold rq6R q6K
  by_cases cp : pOk p q
  case neg =>
    rw [if_pos cp, if_neg (by omega)]
    rw [decide_eq_false cp] at w2
    rw [Sys.step hS.h_interpreterref15_Quote6, F_interpreterref15_Quote6_eq]
    unfold F_interpreterref15_Quote6
    (try simp only [guard_merge, or_merge, and_merge, or_pick, and_pick, guard_or, guard_and]); simp only [to_ob]
    cases mo with
    | true => simp only [go_sem, ↓reduceIte, reduceCtorEq, upd_ne, back_new (no_at), Nat.reduceAdd, Nat.reduceEqDiff, Nat.reduceMul, Nat.reduceSub, Nat.reduceLeDiff, Nat.reduceLT, Int.reduceToNat, Int.reduceLE, Int.reduceLT, Int.reduceEq, UInt8.reduceOfNat, List.getElem?_map, Int.toNat_natCast, hfr, hto, ha, hb, hP, w1, w2, w3, e8]
    | false =>
      by_cases cA : ((A : Nat) : Int) = 0
      · have w3' := w3
        rw [cA] at w3'
        simp only [go_sem, ↓reduceIte, reduceCtorEq, upd_ne, back_new (no_at), Nat.reduceAdd, Nat.reduceEqDiff, Nat.reduceMul, Nat.reduceSub, Nat.reduceLeDiff, Nat.reduceLT, Int.reduceToNat, Int.reduceLE, Int.reduceLT, Int.reduceEq, UInt8.reduceOfNat, List.getElem?_map, Int.toNat_natCast, hfr, hto, ha, hb, hP, w1, w2, w3, e8, cA, w3']
      · simp only [go_sem, ↓reduceIte, reduceCtorEq, upd_ne, back_new (no_at), Nat.reduceAdd, Nat.reduceEqDiff, Nat.reduceMul, Nat.reduceSub, Nat.reduceLeDiff, Nat.reduceLT, Int.reduceToNat, Int.reduceLE, Int.reduceLT, Int.reduceEq, UInt8.reduceOfNat, List.getElem?_map, Int.toNat_natCast, hfr, hto, ha, hb, hP, w1, w2, w3, e8, cA]
  rw [if_neg (not_not_intro cp)]
  rw [decide_eq_true cp] at w2
  obtain ⟨p1, p2, q1, q2⟩ := cp
  obtain ⟨p, rfl⟩ := Int.eq_ofNat_of_zero_le p1
  obtain ⟨q, rfl⟩ := Int.eq_ofNat_of_zero_le q1
  by_cases cr : (proto46 pt).2 = false
  · rw [if_pos cr, if_neg (by omega)]
    rw [cr] at hP
    rw [Sys.step hS.h_interpreterref15_Quote6, F_interpreterref15_Quote6_eq]
    unfold F_interpreterref15_Quote6
    (try simp only [guard_merge, or_merge, and_merge, or_pick, and_pick, guard_or, guard_and]); simp only [to_ob]
    cases mo with
    | true => simp only [go_sem, ↓reduceIte, reduceCtorEq, upd_ne, back_new (no_at), Nat.reduceAdd, Nat.reduceEqDiff, Nat.reduceMul, Nat.reduceSub, Nat.reduceLeDiff, Nat.reduceLT, Int.reduceToNat, Int.reduceLE, Int.reduceLT, Int.reduceEq, UInt8.reduceOfNat, List.getElem?_map, Int.toNat_natCast, hfr, hto, ha, hb, hP, w1, w2, w3, e8, c0, c1]
    | false =>
      by_cases cA : ((A : Nat) : Int) = 0
      · have w3' := w3
        rw [cA] at w3'
        simp only [go_sem, ↓reduceIte, reduceCtorEq, upd_ne, back_new (no_at), Nat.reduceAdd, Nat.reduceEqDiff, Nat.reduceMul, Nat.reduceSub, Nat.reduceLeDiff, Nat.reduceLT, Int.reduceToNat, Int.reduceLE, Int.reduceLT, Int.reduceEq, UInt8.reduceOfNat, List.getElem?_map, Int.toNat_natCast, hfr, hto, ha, hb, hP, w1, w2, w3, e8, c0, c1, cA, w3', Int.zero_tmod]
      · simp only [go_sem, ↓reduceIte, reduceCtorEq, upd_ne, back_new (no_at), Nat.reduceAdd, Nat.reduceEqDiff, Nat.reduceMul, Nat.reduceSub, Nat.reduceLeDiff, Nat.reduceLT, Int.reduceToNat, Int.reduceLE, Int.reduceLT, Int.reduceEq, UInt8.reduceOfNat, List.getElem?_map, Int.toNat_natCast, hfr, hto, ha, hb, hP, w1, w2, w3, e8, c0, c1, cA]
  rw [if_neg cr]
  have cr : (proto46 pt).2 = true := by simpa using cr
  rw [cr] at hP
  have hT : S.ev (n + 5) id_interpreterref15_turn [.int .i64 pt, .int .i64 (A : Int), .int .i64 1, .str da, .str (fr ++ to), .str (a ++ b), .str [], .str (ps6 a b 58 claim), .agg [.int .i64 8, .int .i64 128, .int .i64 0, .int .i64 129], .int .i64 (p : Int), .int .i64 (q : Int)] none = some (.str (tn6 pt (A : Int) da fr to a b claim p q), none) := by
    have h := ev_rturn hS n pt (A : Int) 1 da (fr ++ to) (a ++ b) [] (ps6 a b 58 claim) 8 128 0 129 p q (by omega) (by simp only [List.length_append]; omega) (by simp only [List.length_append]; omega) (by simp only [List.length_append]; omega) (by simp) (by simp) (by rw [ps6_len]; omega) (by omega) (by omega) (by omega) (by omega)
    rw [trG_tn6 (P := []) (by omega)] at h
    exact h
  have hps : S.ev (n + 5) id_interpreterref02_Pseudo6 [.bytes a, .bytes b, .int .i64 58, .int .i64 (claim : Int)] none = some (.str (ps6 a b 58 claim), none) := ev_rPseudo6 hS (n + 2) a b 58 claim ha hb (by omega) (by omega)
  have g0 : S.ev (n + 5) id_interpreterref15_put [.int .i64 0, .int .i64 1] none = some (.str [0], none) := ev_put15 hS (n + 3) 0 1 (by omega) (by omega)
  have u1 : fr.take 4 = fr := List.take_of_length_le (by omega)
  have u2 : to.take 4 = to := List.take_of_length_le (by omega)
  have hTl := @tn6_len pt (A : Int) da fr to a b claim p q
  generalize hPP : (proto46 pt).1 = PP at *
  obtain ⟨P, rfl⟩ := Int.eq_ofNat_of_zero_le hPl.1
  have g1 : S.ev (n + 5) id_interpreterref15_put [.int .i64 ((1610612736 + T * 1048576 : Nat) : Int), .int .i64 4] none = some (.str (beB 4 (1610612736 + T * 1048576)), none) := ev_put15 hS (n + 3) _ 4 (by omega) (by omega)
  have g2 : ∀ x : Nat, x ≤ 65535 → S.ev (n + 5) id_interpreterref15_put [.int .i64 (x : Int), .int .i64 2] none = some (.str (beB 2 x), none) := fun x hx => ev_put15 hS (n + 3) x 2 (by omega) (by omega)
  have g3 : ∀ x : Nat, x ≤ 255 → S.ev (n + 5) id_interpreterref15_put [.int .i64 (x : Int), .int .i64 1] none = some (.str (beB 1 x), none) := fun x hx => ev_put15 hS (n + 3) x 1 (by omega) (by omega)
  have g4 : S.ev (n + 5) id_interpreterref15_put [.int .i64 (I : Int), .int .i64 4] none = some (.str (beB 4 I), none) := ev_put15 hS (n + 3) _ 4 (by omega) (by omega)
  have g44 : S.ev (n + 5) id_interpreterref15_put [.int .i64 44, .int .i64 1] none = some (.str (beB 1 44), none) := g3 44 (by omega)
  have gP := g3 P (by omega)
  have gL := g3 L (by omega)
  have gA := g2 A (by omega)
  have gA1 := g2 (A + 1) (by omega)
  have s1 : IntKind.i64.wrap ((T : Int) * 1048576) = ((T * 1048576 : Nat) : Int) := by rw [wrap_id (by omega) (by omega)]; omega
  have s2 : IntKind.i64.wrap (1610612736 + ((T * 1048576 : Nat) : Int)) = ((1610612736 + T * 1048576 : Nat) : Int) := by rw [wrap_id (by omega) (by omega)]; omega
  have y1 : 4 + 4 ≤ maxStr := by decide
  have y2 : 16 + 16 ≤ maxStr := by decide
  have y3 : 8 + 32 ≤ maxStr := by decide
  have y4 : 40 + 1 ≤ maxStr := by decide
  have y5 : 41 + 1 ≤ maxStr := by decide
  have y6 : 42 + 2 ≤ maxStr := by decide
  have y7 : 44 + 4 ≤ maxStr := by decide
  have s3 : IntKind.i64.wrap ((A : Int) + 1) = ((A + 1 : Nat) : Int) := by rw [wrap_id (by omega) (by omega)]; omega
  have hl := beB_len
  have t3 : a.take 16 = a := List.take_of_length_le (by omega)
  have t4 : b.take 16 = b := List.take_of_length_le (by omega)
  have x1 : 4 + 2 ≤ maxStr := by decide
  have x2 : 6 + 1 ≤ maxStr := by decide
  have x3 : 7 + 1 ≤ maxStr := by decide
  have x4 : 8 + 16 ≤ maxStr := by decide
  have x5 : 24 + 16 ≤ maxStr := by decide
  have x6 : 40 + da.length ≤ maxStr := by unfold maxStr; omega
  have x7 : 48 + da.length ≤ maxStr := by unfold maxStr; omega
  have x8 : 40 + 8 ≤ maxStr := by decide
  have x9 : 1 + 1 ≤ maxStr := by decide
  have x10 : 2 + 2 ≤ maxStr := by decide
  have x11 : 4 + 4 ≤ maxStr := by decide
  unfold q6B q6H q6A pcQ isF q6N
  rw [Sys.step hS.h_interpreterref15_Quote6, F_interpreterref15_Quote6_eq]
  unfold F_interpreterref15_Quote6
  (try simp only [guard_merge, or_merge, and_merge, or_pick, and_pick, guard_or, guard_and]); simp only [to_ob]
  rw [hPP]
  unfold isF
  simp only [Int.toNat_natCast]
  by_cases cf : (mo || decide (((A : Nat) : Int) ≠ 0)) = true
  · rw [cf]
    simp only [if_true]
    have gn := g2 (claim + 8)
    by_cases cl : 65535 < claim + 8
    · have cl' : (65527 : Int) < (claim : Int) := by omega
      have cq : ¬ (65535 : Int) < (claim : Int) := by omega
      rw [if_pos cl, if_neg (by omega)]
      cases mo with
      | true => simp only [go_sem, ↓reduceIte, reduceCtorEq, upd_ne, back_new (no_at), Nat.reduceAdd, Nat.reduceEqDiff, Nat.reduceMul, Nat.reduceSub, Nat.reduceLeDiff, Nat.reduceLT, Int.reduceToNat, Int.reduceLE, Int.reduceLT, Int.reduceEq, UInt8.reduceOfNat, List.getElem?_map, Int.toNat_natCast, hfr, hto, ha, hb, hP, w1, w2, w3, e8, c0, c1, cl', cq]
      | false =>
        have cA : ¬ ((A : Nat) : Int) = 0 := by simpa using cf
        simp only [go_sem, ↓reduceIte, reduceCtorEq, upd_ne, back_new (no_at), Nat.reduceAdd, Nat.reduceEqDiff, Nat.reduceMul, Nat.reduceSub, Nat.reduceLeDiff, Nat.reduceLT, Int.reduceToNat, Int.reduceLE, Int.reduceLT, Int.reduceEq, UInt8.reduceOfNat, List.getElem?_map, Int.toNat_natCast, hfr, hto, ha, hb, hP, w1, w2, w3, e8, c0, c1, cA, cl', cq]
    · have cl' : ¬ (65527 : Int) < (claim : Int) := by omega
      have cq : ¬ (65535 : Int) < (claim : Int) := by omega
      have gn := gn (by omega)
      rw [if_neg cl, if_pos rfl]
      generalize tn6 pt (A : Int) da fr to a b claim p q = TN at *
      cases mo with
      | true => simp only [go_sem, ↓reduceIte, reduceCtorEq, upd_ne, back_new (no_at), Nat.reduceAdd, Nat.reduceEqDiff, Nat.reduceMul, Nat.reduceSub, Nat.reduceLeDiff, Nat.reduceLT, Int.reduceToNat, Int.reduceLE, Int.reduceLT, Int.reduceEq, UInt8.reduceOfNat, List.getElem?_map, Int.toNat_natCast, hfr, hto, ha, hb, hP, w1, w2, w3, e8, c0, c1, cl', cq, g1, g4, g44, gP, gL, gA1, gn, s1, s2, s3, hl, t3, t4, u1, u2, hps, g0, y1, y2, y3, y4, y5, y6, y7, x1, x2, x3, x4, x5, x7, x8, x9, x10, x11, hT, hTl, toBytes_byteLV, List.length_append, List.length_cons, List.append_assoc, List.cons_append, List.nil_append, Int.toNat_natCast, show ((A : Int) + 1).toNat = A + 1 by omega]
      | false =>
        have cA : ¬ ((A : Nat) : Int) = 0 := by simpa using cf
        simp only [go_sem, ↓reduceIte, reduceCtorEq, upd_ne, back_new (no_at), Nat.reduceAdd, Nat.reduceEqDiff, Nat.reduceMul, Nat.reduceSub, Nat.reduceLeDiff, Nat.reduceLT, Int.reduceToNat, Int.reduceLE, Int.reduceLT, Int.reduceEq, UInt8.reduceOfNat, List.getElem?_map, Int.toNat_natCast, hfr, hto, ha, hb, hP, w1, w2, w3, e8, c0, c1, cA, cl', cq, g1, g4, g44, gP, gL, gA, gn, s1, s2, s3, hl, t3, t4, u1, u2, hps, g0, y1, y2, y3, y4, y5, y6, y7, x1, x2, x3, x4, x5, x7, x8, x9, x10, x11, hT, hTl, toBytes_byteLV, List.length_append, List.length_cons, List.append_assoc, List.cons_append, List.nil_append, Int.toNat_natCast, Int.add_zero]
  · have cf : (mo || decide (((A : Nat) : Int) ≠ 0)) = false := by simpa using cf
    rw [cf]
    simp only [Bool.or_eq_false_iff] at cf
    obtain ⟨rfl, cA⟩ := cf
    have cA : A = 0 := by simpa using cA
    subst cA
    have gn := g2 claim (by omega)
    have cl' : ¬ (65535 : Int) < (claim : Int) := by omega
    have cq := cl'
    simp only [Bool.false_eq_true, if_false, Nat.add_zero]
    have c65 : ¬ 65535 < claim := by omega
    rw [if_neg c65, if_pos rfl]
    rw [show ((0 : Nat) : Int) = 0 from rfl] at *
    generalize tn6 pt 0 da fr to a b claim p q = TN at *
    simp only [go_sem, ↓reduceIte, reduceCtorEq, upd_ne, back_new (no_at), Nat.reduceAdd, Nat.reduceEqDiff, Nat.reduceMul, Nat.reduceSub, Nat.reduceLeDiff, Nat.reduceLT, Int.reduceToNat, Int.reduceLE, Int.reduceLT, Int.reduceEq, UInt8.reduceOfNat, List.getElem?_map, Int.toNat_natCast, hfr, hto, ha, hb, hP, w1, w2, w3, e8, c0, c1, cl', cq, g1, gP, gL, gn, s1, s2, hl, t3, t4, u1, u2, hps, g0, y1, y2, y3, y4, y5, y6, y7, x1, x2, x3, x4, x5, x6, hT, hTl, toBytes_byteLV, List.length_append, List.length_cons, List.length_nil, Nat.add_zero, List.append_assoc, List.append_nil, List.nil_append, Int.toNat_natCast, Int.zero_tmod]
end
end Go.Ev

namespace Go.Ev
set_option linter.unusedSimpArgs false
set_option linter.unusedVariables false
set_option maxRecDepth 10000
set_option maxHeartbeats 16000000
def proto64 (x : Int) : Int × Bool := if x = 58 then (1, true) else if x ≤ 2 ∨ x = 43 ∨ x = 44 ∨ x = 60 ∨ 255 < x then (0, false) else (x, true)
theorem proto64_le (x : Int) : 0 ≤ (proto64 x).1 ∧ (proto64 x).1 ≤ 255 := by unfold proto64; repeat' split
                                                                             all_goals constructor <;> dsimp only <;> omega
def q4K (pt at' : Int) (claim : Nat) (p q : Int) : Int :=
  if ¬ pOk p q then 13 else if (proto64 pt).2 = false then 10 else if 65515 - at' < claim then 3 else 0
def q4I (fg : Bool) (id : Int) : Nat := if fg = true then id.toNat % 65536 else 0
def q4D (fg : Bool) (claim : Nat) : Bool := !fg && decide (1240 < claim)
def q4H (cl ho pt at' : Int) (fg mo : Bool) (id : Int) (claim : Nat) : List UInt8 :=
  69 :: (beB 1 cl.toNat ++ (beB 2 (20 + claim) ++ (beB 2 (q4I fg id) ++ (beB 2 (at4 at' (q4D fg claim) mo) ++ (beB 1 ho.toNat ++ beB 1 (proto64 pt).1.toNat)))))
def q4X (cl ho pt at' : Int) (fg mo : Bool) (id : Int) (claim : Nat) (a b : List UInt8) : Int := sumS (q4H cl ho pt at' fg mo id claim ++ (a ++ b))
def q4B (cl ho pt at' : Int) (fg mo : Bool) (id : Int) (fr to da a b : List UInt8) (claim : Nat) (p q : Int) : List UInt8 :=
  q4H cl ho pt at' fg mo id claim ++ (beB 2 (q4X cl ho pt at' fg mo id claim a b).toNat ++ (a ++ (b ++ tn4 pt at' da fr to a b claim p.toNat q.toNat)))
def q4R (cl ho pt at' : Int) (fg mo : Bool) (id : Int) (fr to da a b : List UInt8) (claim : Nat) (p q : Int) : LV :=
  .tup [.str (if q4K pt at' claim p q = 0 then q4B cl ho pt at' fg mo id fr to da a b claim p q else []), fE (q4K pt at' claim p q)]
section
variable {S : Sys} (hS : Has S) (n : Nat)
include hS
theorem ev_proto6 (x : Int) : S.ev (n + 1) id_head64_Proto [.int .i64 x] none = some (.tup [.int .i64 (proto64 x).1, .bool (proto64 x).2], none) := by
  rw [Sys.step hS.h_head64_Proto, F_head64_Proto_eq]
  unfold F_head64_Proto F_head64_Proto_k1
  (try simp only [guard_merge, or_merge, and_merge, or_pick, and_pick, guard_or, guard_and]); simp only [to_ob]
  simp only [go_sem, ↓reduceIte, reduceCtorEq, upd_ne, back_new (no_at), Nat.reduceAdd, Nat.reduceEqDiff, Nat.reduceMul, Nat.reduceSub, Nat.reduceLeDiff, Nat.reduceLT, Int.reduceToNat, Int.reduceLE, Int.reduceLT, Int.reduceEq, UInt8.reduceOfNat]
  unfold proto64
  repeat' split
  all_goals first | rfl | omega
variable {cl fl ho : Int} {fr to : List UInt8} {ex : List (Int × List UInt8)} {fg : Bool} {id at' : Int} {mo : Bool} {pt : Int} {da a b : List UInt8} {claim : Nat} {p q : Int}
theorem ev_quote4 (hfr : fr.length = 16) (hto : to.length = 16) (ha : a.length = 4) (hb : b.length = 4)
    (ht : 0 ≤ cl ∧ cl ≤ 255) (htl : 0 ≤ ho ∧ ho ≤ 255) (hi : 0 ≤ id ∧ id < 4294967296) (hat : 0 ≤ at' ∧ at' ≤ 65528 ∧ at' % 8 = 0) (hd : da.length ≤ claim) (hc : claim ≤ 65535) :
    S.ev (n + 6) id_fault_Quote4 [ip6LV cl fl ho fr to (extsLV ex) fg id at' mo pt da, .int .i64 (claim : Int), .agg [.bytes a, .int .i64 p], .agg [.bytes b, .int .i64 q]] none =
      some (q4R cl ho pt at' fg mo id fr to da a b claim p q, none) := by
  have hP := ev_proto6 hS (n + 4) pt
  have hPl := proto64_le pt
  have hfa := ev_faultF hS (n + 4)
  have w1 : S.ev (n + 5) id_fault_within [.int .i64 255, .lst none [.int .i64 cl, .int .i64 ho]] none = some (.bool true, none) := by
    have h := ev_withinF hS (n + 4) 255 [cl, ho] (by simp)
    rw [show inB 255 [cl, ho] = true by simp [inB]; omega] at h
    exact h
  have w2 : S.ev (n + 5) id_fault_within [.int .i64 65535, .lst none [.int .i64 p, .int .i64 q]] none = some (.bool (decide (pOk p q)), none) := by
    have h := ev_withinF hS (n + 4) 65535 [p, q] (by simp)
    rw [show inB 65535 [p, q] = decide (pOk p q) from by rw [Bool.eq_iff_iff, decide_eq_true_iff]; unfold inB pOk; simp only [List.all_cons, List.all_nil, Bool.and_eq_true, decide_eq_true_eq, and_true]; omega] at h
    exact h
  have w3 : S.ev (n + 5) id_fault_within [.int .i64 65528, .lst none [.int .i64 at']] none = some (.bool true, none) := by
    have h := ev_withinF hS (n + 4) 65528 [at'] (by simp)
    rw [show inB 65528 [at'] = true by simp [inB]; omega] at h
    exact h
  obtain ⟨T, rfl⟩ := Int.eq_ofNat_of_zero_le ht.1
  obtain ⟨I, rfl⟩ := Int.eq_ofNat_of_zero_le hi.1
  obtain ⟨L, rfl⟩ := Int.eq_ofNat_of_zero_le htl.1
  obtain ⟨A, rfl⟩ := Int.eq_ofNat_of_zero_le hat.1
  have c0 : Int.tmod (A : Int) 8 = 0 := by rw [Int.tmod_eq_emod_of_nonneg (by omega)]; omega
  have c1 : ¬ (claim : Int) < (da.length : Int) := by omega
  have eA : IntKind.i64.wrap (65515 - (A : Int)) = 65515 - (A : Int) := wrap_id (by omega) (by omega)
  unfold q4R q4K
  rw [Sys.step hS.h_fault_Quote4, F_fault_Quote4_eq]
  unfold F_fault_Quote4 F_fault_Quote4_k2 F_fault_Quote4_k1
  (try simp only [guard_merge, or_merge, and_merge, or_pick, and_pick, guard_or, guard_and]); simp only [to_ob]
  by_cases cp : pOk p q
  case neg =>
    rw [if_pos cp, if_neg (show ¬ (13 : Int) = 0 by omega)]
    rw [decide_eq_false cp] at w2
    simp only [go_sem, ↓reduceIte, reduceCtorEq, upd_ne, back_new (no_at), Nat.reduceAdd, Nat.reduceEqDiff, Nat.reduceMul, Nat.reduceSub, Nat.reduceLeDiff, Nat.reduceLT, Int.reduceToNat, Int.reduceLE, Int.reduceLT, Int.reduceEq, UInt8.reduceOfNat, List.getElem?_map, Int.toNat_natCast, hfr, hto, ha, hb, hP, w1, w2, w3, hfa, fE]
  rw [if_neg (not_not_intro cp)]
  rw [decide_eq_true cp] at w2
  obtain ⟨p1, p2, q1, q2⟩ := cp
  obtain ⟨p, rfl⟩ := Int.eq_ofNat_of_zero_le p1
  obtain ⟨q, rfl⟩ := Int.eq_ofNat_of_zero_le q1
  by_cases cr : (proto64 pt).2 = false
  · rw [if_pos cr, if_neg (show ¬ (10 : Int) = 0 by omega)]
    rw [cr] at hP
    simp only [go_sem, ↓reduceIte, reduceCtorEq, upd_ne, back_new (no_at), Nat.reduceAdd, Nat.reduceEqDiff, Nat.reduceMul, Nat.reduceSub, Nat.reduceLeDiff, Nat.reduceLT, Int.reduceToNat, Int.reduceLE, Int.reduceLT, Int.reduceEq, UInt8.reduceOfNat, List.getElem?_map, Int.toNat_natCast, hfr, hto, ha, hb, hP, w1, w2, w3, hfa, fE, c0, c1]
  rw [if_neg cr]
  have cr : (proto64 pt).2 = true := by simpa using cr
  rw [cr] at hP
  by_cases cl3 : 65515 - (A : Int) < (claim : Int)
  · rw [if_pos cl3, if_neg (show ¬ (3 : Int) = 0 by omega)]
    simp only [go_sem, ↓reduceIte, reduceCtorEq, upd_ne, back_new (no_at), Nat.reduceAdd, Nat.reduceEqDiff, Nat.reduceMul, Nat.reduceSub, Nat.reduceLeDiff, Nat.reduceLT, Int.reduceToNat, Int.reduceLE, Int.reduceLT, Int.reduceEq, UInt8.reduceOfNat, List.getElem?_map, Int.toNat_natCast, hfr, hto, ha, hb, hP, w1, w2, w3, hfa, fE, c0, c1, eA, cl3]
  rw [if_neg cl3, if_pos rfl]
  have hT := ev_turn4 hS n (cl := (T : Int)) (fl := fl) (ho := (L : Int)) (fr := fr) (to := to) (ex := ex) (fg := fg) (id := (I : Int)) (at' := (A : Int)) (mo := mo) (pt := pt) (da := da) (a := a) (b := b) (claim := claim) (p := p) (q := q) hfr hto ha hb (by omega) (by omega) (by omega) (by omega)
  have hTl := @tn4_len pt (A : Int) da fr to a b claim p q
  have hH : ∀ g m, (q4H (T : Int) (L : Int) pt (A : Int) g m (I : Int) claim).length = 10 := fun g m => by unfold q4H; simp only [List.length_cons, List.length_append, beB_len]
  have hx := sumS_le (q4H (T : Int) (L : Int) pt (A : Int) fg mo (I : Int) claim ++ (a ++ b))
  have hO : ∀ g m, S.ev (n + 5) id_sum_Of [.lst none [.str (q4H (T : Int) (L : Int) pt (A : Int) g m (I : Int) claim), .str (a ++ b)]] none = some (.int .i64 (q4X (T : Int) (L : Int) pt (A : Int) g m (I : Int) claim a b), none) := fun g m => by
    have h := ev_Of hS (n + 3) [q4H (T : Int) (L : Int) pt (A : Int) g m (I : Int) claim, a ++ b] (by simp) (by simp only [List.flatten_cons, List.flatten_nil, List.append_nil, List.length_append, hH]; omega)
    simp only [List.map_cons, List.map_nil, List.flatten_cons, List.flatten_nil, List.append_nil] at h
    exact h
  have g2 : ∀ x : Nat, x ≤ 65535 → S.ev (n + 5) id_fault_big [.int .i64 (x : Int), .int .i64 2] none = some (.str (beB 2 x), none) := fun x hx => ev_bigF hS (n + 3) x 2 (by omega) (lt2 (by omega) (by omega)) ⟨by omega, by omega⟩
  have g3 : ∀ x : Nat, x ≤ 255 → S.ev (n + 5) id_fault_big [.int .i64 (x : Int), .int .i64 1] none = some (.str (beB 1 x), none) := fun x hx => ev_bigF hS (n + 3) x 1 (by omega) (lt1 (by omega) (by omega)) ⟨by omega, by omega⟩
  have gX : ∀ g m, S.ev (n + 5) id_fault_big [.int .i64 (q4X (T : Int) (L : Int) pt (A : Int) g m (I : Int) claim a b), .int .i64 2] none = some (.str (beB 2 (q4X (T : Int) (L : Int) pt (A : Int) g m (I : Int) claim a b).toNat), none) := fun g m => by
    have hx := sumS_le (q4H (T : Int) (L : Int) pt (A : Int) g m (I : Int) claim ++ (a ++ b))
    exact ev_bigF hS (n + 3) _ 2 (by omega) (by unfold q4X; exact ⟨hx.1, by have := hx.2; simp; omega⟩) ⟨by unfold q4X; omega, by unfold q4X; omega⟩
  unfold q4B
  simp only [Int.toNat_natCast]
  generalize tn4 pt (A : Int) da fr to a b claim p q = TN at *
  generalize hPP : (proto64 pt).1 = PP at *
  obtain ⟨P, rfl⟩ := Int.eq_ofNat_of_zero_le hPl.1
  have gP := g3 P (by omega)
  have gL := g3 L (by omega)
  have gT := g3 T (by omega)
  have gC := g2 (20 + claim) (by omega)
  have gI := g2 (I % 65536) (by omega)
  have g0 : S.ev (n + 5) id_fault_big [.int .i64 0, .int .i64 2] none = some (.str (beB 2 0), none) := g2 0 (by omega)
  have a7 : A / 8 < 8192 := by omega
  have gA0 := g2 (A / 8) (by omega)
  have gA1 := g2 (A / 8 + 8192) (by omega)
  have gA2 := g2 (A / 8 + 16384) (by omega)
  have gA3 := g2 (A / 8 + 16384 + 8192) (by omega)
  have e20 : IntKind.i64.wrap (20 + (claim : Int)) = ((20 + claim : Nat) : Int) := by rw [wrap_id (by omega) (by omega)]; omega
  have eq : IntKind.i64.wrap (Int.tdiv (A : Int) 8) = ((A / 8 : Nat) : Int) := by rw [Int.tdiv_eq_ediv_of_nonneg (by omega), wrap_id (by omega) (by omega)]; omega
  have f1 : bitsOf .or .i64 ((A / 8 : Nat) : Int) 16384 = ((A / 8 + 16384 : Nat) : Int) := by
    rw [show (16384 : Int) = ((16384 : Nat) : Int) from rfl, bits_or_nat (by simp [IntKind.max, IntKind.signed, IntKind.bits]; omega) (by decide), or_df a7]
  have f2 : bitsOf .or .i64 ((A / 8 : Nat) : Int) 8192 = ((A / 8 + 8192 : Nat) : Int) := by
    rw [show (8192 : Int) = ((8192 : Nat) : Int) from rfl, bits_or_nat (by simp [IntKind.max, IntKind.signed, IntKind.bits]; omega) (by decide), or_mo a7]
  have f3 : bitsOf .or .i64 ((A / 8 + 16384 : Nat) : Int) 8192 = ((A / 8 + 16384 + 8192 : Nat) : Int) := by
    rw [show (8192 : Int) = ((8192 : Nat) : Int) from rfl, bits_or_nat (by simp [IntKind.max, IntKind.signed, IntKind.bits]; omega) (by decide), or_dm a7]
  have f4 : bitsOf .and .u32 (I : Int) 65535 = ((I % 65536 : Nat) : Int) := by
    rw [show (65535 : Int) = ((2 ^ 16 - 1 : Nat) : Int) from rfl, bits_mask 16 (by omega) (show (I : Int) ≤ IntKind.u32.max by simp [IntKind.max, IntKind.signed, IntKind.bits]; omega) (by decide)]; rfl
  have f5 : IntKind.i64.wrap ((I % 65536 : Nat) : Int) = ((I % 65536 : Nat) : Int) := wrap_id (by omega) (by omega)
  have hl := beB_len
  have t3 : a.take 4 = a := List.take_of_length_le (by omega)
  have t4 : b.take 4 = b := List.take_of_length_le (by omega)
  have x1 : 1 + 1 ≤ maxStr := by decide
  have x2 : 2 + 2 ≤ maxStr := by decide
  have x3 : 4 + 2 ≤ maxStr := by decide
  have x4 : 6 + 2 ≤ maxStr := by decide
  have x5 : 8 + 1 ≤ maxStr := by decide
  have x6 : 9 + 1 ≤ maxStr := by decide
  have x7 : 4 + 4 ≤ maxStr := by decide
  have x8 : 10 + 2 ≤ maxStr := by decide
  have x9 : 12 + 8 ≤ maxStr := by decide
  have x10 : 20 + da.length ≤ maxStr := by unfold maxStr; omega
  have x11 : 12 + 4 ≤ maxStr := by decide
  have x12 : 16 + 4 ≤ maxStr := by decide
  have hHe : ∀ g m w, at4 (A : Int) (q4D g claim) m = w → ∀ i, q4I g (I : Int) = i → q4H (T : Int) (L : Int) pt (A : Int) g m (I : Int) claim = 69 :: (beB 1 T ++ (beB 2 (20 + claim) ++ (beB 2 i ++ (beB 2 w ++ (beB 1 L ++ beB 1 P))))) := fun g m w hw i hi => by
    unfold q4H; rw [hw, hi, hPP, Int.toNat_natCast, Int.toNat_natCast, Int.toNat_natCast]
  cases fg with
  | true =>
    cases mo with
    | true =>
      have hO := hO true true
      have gX := gX true true
      have hHe := hHe true true (A / 8 + 8192) (by unfold at4 q4D; simp) (I % 65536) (by unfold q4I; simp)
      generalize q4X (T : Int) (L : Int) pt (A : Int) true true (I : Int) claim a b = X at *
      rw [hHe] at hO ⊢
      simp only [go_sem, ↓reduceIte, reduceCtorEq, upd_ne, back_new (no_at), Nat.reduceAdd, Nat.reduceEqDiff, Nat.reduceMul, Nat.reduceSub, Nat.reduceLeDiff, Nat.reduceLT, Int.reduceToNat, Int.reduceLE, Int.reduceLT, Int.reduceEq, UInt8.reduceOfNat, List.getElem?_map, Int.toNat_natCast, hfr, hto, ha, hb, hP, w1, w2, w3, hfa, fE, c0, c1, eA, cl3, eq, f2, f4, f5, e20, gP, gL, gT, gC, gI, gA1, hO, gX, hl, t3, t4, x1, x2, x3, x4, x5, x6, x7, x8, x9, x10, x11, x12, hT, hTl, toBytes_byteLV, List.length_append, List.length_cons, List.length_nil, List.append_assoc, List.cons_append, List.nil_append]
    | false =>
      have hO := hO true false
      have gX := gX true false
      have hHe := hHe true false (A / 8) (by unfold at4 q4D; simp) (I % 65536) (by unfold q4I; simp)
      generalize q4X (T : Int) (L : Int) pt (A : Int) true false (I : Int) claim a b = X at *
      rw [hHe] at hO ⊢
      simp only [go_sem, ↓reduceIte, reduceCtorEq, upd_ne, back_new (no_at), Nat.reduceAdd, Nat.reduceEqDiff, Nat.reduceMul, Nat.reduceSub, Nat.reduceLeDiff, Nat.reduceLT, Int.reduceToNat, Int.reduceLE, Int.reduceLT, Int.reduceEq, UInt8.reduceOfNat, List.getElem?_map, Int.toNat_natCast, hfr, hto, ha, hb, hP, w1, w2, w3, hfa, fE, c0, c1, eA, cl3, eq, f2, f4, f5, e20, gP, gL, gT, gC, gI, gA0, hO, gX, hl, t3, t4, x1, x2, x3, x4, x5, x6, x7, x8, x9, x10, x11, x12, hT, hTl, toBytes_byteLV, List.length_append, List.length_cons, List.length_nil, List.append_assoc, List.cons_append, List.nil_append]
  | false =>
    by_cases cb : 1240 < claim
    · have cb' : (1240 : Int) < (claim : Int) := by omega
      cases mo with
      | true =>
        have hO := hO false true
        have gX := gX false true
        have hHe := hHe false true (A / 8 + 16384 + 8192) (by unfold at4 q4D; simp [cb]) 0 (by unfold q4I; simp)
        generalize q4X (T : Int) (L : Int) pt (A : Int) false true (I : Int) claim a b = X at *
        rw [hHe] at hO ⊢
        simp only [go_sem, ↓reduceIte, reduceCtorEq, upd_ne, back_new (no_at), Nat.reduceAdd, Nat.reduceEqDiff, Nat.reduceMul, Nat.reduceSub, Nat.reduceLeDiff, Nat.reduceLT, Int.reduceToNat, Int.reduceLE, Int.reduceLT, Int.reduceEq, UInt8.reduceOfNat, List.getElem?_map, Int.toNat_natCast, hfr, hto, ha, hb, hP, w1, w2, w3, hfa, fE, c0, c1, eA, cl3, cb', eq, f1, f2, f3, f4, f5, e20, gP, gL, gT, gC, g0, gA3, hO, gX, hl, t3, t4, x1, x2, x3, x4, x5, x6, x7, x8, x9, x10, x11, x12, hT, hTl, toBytes_byteLV, List.length_append, List.length_cons, List.length_nil, List.append_assoc, List.cons_append, List.nil_append]
      | false =>
        have hO := hO false false
        have gX := gX false false
        have hHe := hHe false false (A / 8 + 16384) (by unfold at4 q4D; simp [cb]) 0 (by unfold q4I; simp)
        generalize q4X (T : Int) (L : Int) pt (A : Int) false false (I : Int) claim a b = X at *
        rw [hHe] at hO ⊢
        simp only [go_sem, ↓reduceIte, reduceCtorEq, upd_ne, back_new (no_at), Nat.reduceAdd, Nat.reduceEqDiff, Nat.reduceMul, Nat.reduceSub, Nat.reduceLeDiff, Nat.reduceLT, Int.reduceToNat, Int.reduceLE, Int.reduceLT, Int.reduceEq, UInt8.reduceOfNat, List.getElem?_map, Int.toNat_natCast, hfr, hto, ha, hb, hP, w1, w2, w3, hfa, fE, c0, c1, eA, cl3, cb', eq, f1, f2, f3, f4, f5, e20, gP, gL, gT, gC, g0, gA2, hO, gX, hl, t3, t4, x1, x2, x3, x4, x5, x6, x7, x8, x9, x10, x11, x12, hT, hTl, toBytes_byteLV, List.length_append, List.length_cons, List.length_nil, List.append_assoc, List.cons_append, List.nil_append]
    · have cb' : ¬ (1240 : Int) < (claim : Int) := by omega
      cases mo with
      | true =>
        have hO := hO false true
        have gX := gX false true
        have hHe := hHe false true (A / 8 + 8192) (by unfold at4 q4D; simp [cb]) 0 (by unfold q4I; simp)
        generalize q4X (T : Int) (L : Int) pt (A : Int) false true (I : Int) claim a b = X at *
        rw [hHe] at hO ⊢
        simp only [go_sem, ↓reduceIte, reduceCtorEq, upd_ne, back_new (no_at), Nat.reduceAdd, Nat.reduceEqDiff, Nat.reduceMul, Nat.reduceSub, Nat.reduceLeDiff, Nat.reduceLT, Int.reduceToNat, Int.reduceLE, Int.reduceLT, Int.reduceEq, UInt8.reduceOfNat, List.getElem?_map, Int.toNat_natCast, hfr, hto, ha, hb, hP, w1, w2, w3, hfa, fE, c0, c1, eA, cl3, cb', eq, f1, f2, f3, f4, f5, e20, gP, gL, gT, gC, g0, gA1, hO, gX, hl, t3, t4, x1, x2, x3, x4, x5, x6, x7, x8, x9, x10, x11, x12, hT, hTl, toBytes_byteLV, List.length_append, List.length_cons, List.length_nil, List.append_assoc, List.cons_append, List.nil_append]
      | false =>
        have hO := hO false false
        have gX := gX false false
        have hHe := hHe false false (A / 8) (by unfold at4 q4D; simp [cb]) 0 (by unfold q4I; simp)
        generalize q4X (T : Int) (L : Int) pt (A : Int) false false (I : Int) claim a b = X at *
        rw [hHe] at hO ⊢
        simp only [go_sem, ↓reduceIte, reduceCtorEq, upd_ne, back_new (no_at), Nat.reduceAdd, Nat.reduceEqDiff, Nat.reduceMul, Nat.reduceSub, Nat.reduceLeDiff, Nat.reduceLT, Int.reduceToNat, Int.reduceLE, Int.reduceLT, Int.reduceEq, UInt8.reduceOfNat, List.getElem?_map, Int.toNat_natCast, hfr, hto, ha, hb, hP, w1, w2, w3, hfa, fE, c0, c1, eA, cl3, cb', eq, f1, f2, f3, f4, f5, e20, gP, gL, gT, gC, g0, gA0, hO, gX, hl, t3, t4, x1, x2, x3, x4, x5, x6, x7, x8, x9, x10, x11, x12, hT, hTl, toBytes_byteLV, List.length_append, List.length_cons, List.length_nil, List.append_assoc, List.cons_append, List.nil_append]
end
end Go.Ev

namespace Go.Ev
set_option linter.unusedSimpArgs false
set_option linter.unusedVariables false
set_option maxRecDepth 10000
set_option maxHeartbeats 16000000
def rq4R (cl ho pt at' : Int) (fg mo : Bool) (id : Int) (fr to da a b : List UInt8) (claim : Nat) (p q : Int) : LV :=
  .tup [.str (if q4K pt at' claim p q = 0 then q4B cl ho pt at' fg mo id fr to da a b claim p q else []), .int .i64 (q4K pt at' claim p q)]
section
variable {S : Sys} (hS : Has S) (n : Nat)
include hS
theorem ev_rproto6 (x : Int) : S.ev (n + 1) id_interpreterref13_Proto [.int .i64 x] none = some (.tup [.int .i64 (proto64 x).1, .bool (proto64 x).2], none) := by
  rw [Sys.step hS.h_interpreterref13_Proto, F_interpreterref13_Proto_eq]
  unfold F_interpreterref13_Proto
  (try simp only [guard_merge, or_merge, and_merge, or_pick, and_pick, guard_or, guard_and]); simp only [to_ob]
  simp only [go_sem, ↓reduceIte, reduceCtorEq, upd_ne, back_new (no_at), Nat.reduceAdd, Nat.reduceEqDiff, Nat.reduceMul, Nat.reduceSub, Nat.reduceLeDiff, Nat.reduceLT, Int.reduceToNat, Int.reduceLE, Int.reduceLT, Int.reduceEq, UInt8.reduceOfNat]
  unfold proto64
  repeat' split
  all_goals first | rfl | omega
variable {cl fl ho : Int} {fr to : List UInt8} {ex : List (Int × List UInt8)} {fg : Bool} {id at' : Int} {mo : Bool} {pt : Int} {da a b : List UInt8} {claim : Nat} {p q : Int}
theorem ev_rquote4 (hfr : fr.length = 16) (hto : to.length = 16) (ha : a.length = 4) (hb : b.length = 4)
    (ht : 0 ≤ cl ∧ cl ≤ 255) (htl : 0 ≤ ho ∧ ho ≤ 255) (hi : 0 ≤ id ∧ id < 4294967296) (hat : 0 ≤ at' ∧ at' ≤ 65528 ∧ at' % 8 = 0) (hd : da.length ≤ claim) (hc : claim ≤ 65535) :
    S.ev (n + 6) id_interpreterref15_Quote4 [ip6LV cl fl ho fr to (extsLV ex) fg id at' mo pt da, .int .i64 (claim : Int), .agg [.bytes a, .int .i64 p], .agg [.bytes b, .int .i64 q]] none =
      some (rq4R cl ho pt at' fg mo id fr to da a b claim p q, none) := by
  have hP := ev_rproto6 hS (n + 4) pt
  have hPl := proto64_le pt
  have w1 : S.ev (n + 5) id_interpreterref15_bound [.int .i64 255, .lst none [.int .i64 cl, .int .i64 ho]] none = some (.bool true, none) := by
    have h := ev_rbound hS (n + 4) 255 [cl, ho] (by simp)
    rw [show inB 255 [cl, ho] = true by simp [inB]; omega] at h
    exact h
  have w2 : S.ev (n + 5) id_interpreterref15_bound [.int .i64 65535, .lst none [.int .i64 p, .int .i64 q]] none = some (.bool (decide (pOk p q)), none) := by
    have h := ev_rbound hS (n + 4) 65535 [p, q] (by simp)
    rw [show inB 65535 [p, q] = decide (pOk p q) from by rw [Bool.eq_iff_iff, decide_eq_true_iff]; unfold inB pOk; simp only [List.all_cons, List.all_nil, Bool.and_eq_true, decide_eq_true_eq, and_true]; omega] at h
    exact h
  have w3 : S.ev (n + 5) id_interpreterref15_bound [.int .i64 65528, .lst none [.int .i64 at']] none = some (.bool true, none) := by
    have h := ev_rbound hS (n + 4) 65528 [at'] (by simp)
    rw [show inB 65528 [at'] = true by simp [inB]; omega] at h
    exact h
  obtain ⟨T, rfl⟩ := Int.eq_ofNat_of_zero_le ht.1
  obtain ⟨I, rfl⟩ := Int.eq_ofNat_of_zero_le hi.1
  obtain ⟨L, rfl⟩ := Int.eq_ofNat_of_zero_le htl.1
  obtain ⟨A, rfl⟩ := Int.eq_ofNat_of_zero_le hat.1
  have c0 : Int.tmod (A : Int) 8 = 0 := by rw [Int.tmod_eq_emod_of_nonneg (by omega)]; omega
  have c1 : ¬ (claim : Int) < (da.length : Int) := by omega
  have eA : IntKind.i64.wrap (65515 - (A : Int)) = 65515 - (A : Int) := wrap_id (by omega) (by omega)
  unfold rq4R q4K
  rw [Sys.step hS.h_interpreterref15_Quote4, F_interpreterref15_Quote4_eq]
  unfold F_interpreterref15_Quote4 F_interpreterref15_Quote4_k2 F_interpreterref15_Quote4_k1
  (try simp only [guard_merge, or_merge, and_merge, or_pick, and_pick, guard_or, guard_and]); simp only [to_ob]
  by_cases cp : pOk p q
  case neg =>
    rw [if_pos cp, if_neg (show ¬ (13 : Int) = 0 by omega)]
    rw [decide_eq_false cp] at w2
    simp only [go_sem, ↓reduceIte, reduceCtorEq, upd_ne, back_new (no_at), Nat.reduceAdd, Nat.reduceEqDiff, Nat.reduceMul, Nat.reduceSub, Nat.reduceLeDiff, Nat.reduceLT, Int.reduceToNat, Int.reduceLE, Int.reduceLT, Int.reduceEq, UInt8.reduceOfNat, List.getElem?_map, Int.toNat_natCast, hfr, hto, ha, hb, hP, w1, w2, w3]
  rw [if_neg (not_not_intro cp)]
  rw [decide_eq_true cp] at w2
  obtain ⟨p1, p2, q1, q2⟩ := cp
  obtain ⟨p, rfl⟩ := Int.eq_ofNat_of_zero_le p1
  obtain ⟨q, rfl⟩ := Int.eq_ofNat_of_zero_le q1
  by_cases cr : (proto64 pt).2 = false
  · rw [if_pos cr, if_neg (show ¬ (10 : Int) = 0 by omega)]
    rw [cr] at hP
    simp only [go_sem, ↓reduceIte, reduceCtorEq, upd_ne, back_new (no_at), Nat.reduceAdd, Nat.reduceEqDiff, Nat.reduceMul, Nat.reduceSub, Nat.reduceLeDiff, Nat.reduceLT, Int.reduceToNat, Int.reduceLE, Int.reduceLT, Int.reduceEq, UInt8.reduceOfNat, List.getElem?_map, Int.toNat_natCast, hfr, hto, ha, hb, hP, w1, w2, w3, c0, c1]
  rw [if_neg cr]
  have cr : (proto64 pt).2 = true := by simpa using cr
  rw [cr] at hP
  by_cases cl3 : 65515 - (A : Int) < (claim : Int)
  · rw [if_pos cl3, if_neg (show ¬ (3 : Int) = 0 by omega)]
    simp only [go_sem, ↓reduceIte, reduceCtorEq, upd_ne, back_new (no_at), Nat.reduceAdd, Nat.reduceEqDiff, Nat.reduceMul, Nat.reduceSub, Nat.reduceLeDiff, Nat.reduceLT, Int.reduceToNat, Int.reduceLE, Int.reduceLT, Int.reduceEq, UInt8.reduceOfNat, List.getElem?_map, Int.toNat_natCast, hfr, hto, ha, hb, hP, w1, w2, w3, c0, c1, eA, cl3]
  rw [if_neg cl3, if_pos rfl]
  have hT : S.ev (n + 5) id_interpreterref15_turn [.int .i64 pt, .int .i64 (A : Int), .int .i64 58, .str da, .str (fr ++ to), .str (a ++ b), .str (ps6 fr to 58 claim), .str [], .agg [.int .i64 128, .int .i64 8, .int .i64 129, .int .i64 0], .int .i64 (p : Int), .int .i64 (q : Int)] none = some (.str (tn4 pt (A : Int) da fr to a b claim p q), none) := by
    have h := ev_rturn hS n pt (A : Int) 58 da (fr ++ to) (a ++ b) (ps6 fr to 58 claim) [] 128 8 129 0 p q (by omega) (by simp only [List.length_append]; omega) (by simp only [List.length_append]; omega) (by simp only [List.length_append]; omega) (by rw [ps6_len]; omega) (by rw [ps6_len]; omega) (by simp) (by omega) (by omega) (by omega) (by omega)
    rw [trG_tn4 (P := []) (by omega)] at h
    exact h
  have hps : S.ev (n + 5) id_interpreterref02_Pseudo6 [.bytes fr, .bytes to, .int .i64 58, .int .i64 (claim : Int)] none = some (.str (ps6 fr to 58 claim), none) := ev_rPseudo6 hS (n + 2) fr to 58 claim hfr hto (by omega) (by omega)
  have u1 : fr.take 16 = fr := List.take_of_length_le (by omega)
  have u2 : to.take 16 = to := List.take_of_length_le (by omega)
  have hTl := @tn4_len pt (A : Int) da fr to a b claim p q
  have hH : ∀ g m, (q4H (T : Int) (L : Int) pt (A : Int) g m (I : Int) claim).length = 10 := fun g m => by unfold q4H; simp only [List.length_cons, List.length_append, beB_len]
  have hx := sumS_le (q4H (T : Int) (L : Int) pt (A : Int) fg mo (I : Int) claim ++ (a ++ b))
  have hO : ∀ g m, S.ev (n + 5) id_interpreterref02_Of [.str (q4H (T : Int) (L : Int) pt (A : Int) g m (I : Int) claim ++ ([0, 0] ++ (a ++ b)))] none = some (.int .i64 (q4X (T : Int) (L : Int) pt (A : Int) g m (I : Int) claim a b), none) := fun g m => by
    have h := ev_rOf hS (n + 3) (q4H (T : Int) (L : Int) pt (A : Int) g m (I : Int) claim ++ ([0, 0] ++ (a ++ b))) (by simp only [List.length_append, hH, ha, hb, List.length_cons, List.length_nil]; omega)
    rw [h]
    unfold q4X sumS
    rw [sumAt_append, sumAt_append, sumAt_append (q4H _ _ _ _ _ _ _ _)]
    rw [hH, show sumAt (0 + 10) [0, 0] = 0 from rfl, show 0 + 10 + [(0 : UInt8), 0].length = (0 + 10) + 2 from rfl, sumAt_two, Nat.zero_add (sumAt _ _)]
  have g2 : ∀ x : Nat, x ≤ 65535 → S.ev (n + 5) id_interpreterref15_put [.int .i64 (x : Int), .int .i64 2] none = some (.str (beB 2 x), none) := fun x hx => ev_put15 hS (n + 3) x 2 (by omega) (by omega)
  have g3 : ∀ x : Nat, x ≤ 255 → S.ev (n + 5) id_interpreterref15_put [.int .i64 (x : Int), .int .i64 1] none = some (.str (beB 1 x), none) := fun x hx => ev_put15 hS (n + 3) x 1 (by omega) (by omega)
  have gX : ∀ g m, S.ev (n + 5) id_interpreterref15_put [.int .i64 (q4X (T : Int) (L : Int) pt (A : Int) g m (I : Int) claim a b), .int .i64 2] none = some (.str (beB 2 (q4X (T : Int) (L : Int) pt (A : Int) g m (I : Int) claim a b).toNat), none) := fun g m => by
    have hx := sumS_le (q4H (T : Int) (L : Int) pt (A : Int) g m (I : Int) claim ++ (a ++ b))
    have h := ev_put15 hS (n + 3) (q4X (T : Int) (L : Int) pt (A : Int) g m (I : Int) claim a b).toNat 2 (by unfold q4X; omega) (by omega)
    rw [Int.toNat_of_nonneg (by unfold q4X; exact hx.1)] at h
    exact h
  unfold q4B
  simp only [Int.toNat_natCast]
  generalize tn4 pt (A : Int) da fr to a b claim p q = TN at *
  generalize hPP : (proto64 pt).1 = PP at *
  obtain ⟨P, rfl⟩ := Int.eq_ofNat_of_zero_le hPl.1
  have gP := g3 P (by omega)
  have gL := g3 L (by omega)
  have gT := g3 T (by omega)
  have gC := g2 (20 + claim) (by omega)
  have gI := g2 (I % 65536) (by omega)
  have g0 : S.ev (n + 5) id_interpreterref15_put [.int .i64 0, .int .i64 2] none = some (.str [0, 0], none) := g2 0 (by omega)
  have g69 : S.ev (n + 5) id_interpreterref15_put [.int .i64 69, .int .i64 1] none = some (.str [69], none) := g3 69 (by omega)
  have z2 : beB 2 0 = [0, 0] := rfl
  have a7 : A / 8 < 8192 := by omega
  have gA0 := g2 (A / 8) (by omega)
  have gA1 := g2 (A / 8 + 8192) (by omega)
  have gA2 := g2 (A / 8 + 16384) (by omega)
  have gA3 := g2 (A / 8 + 16384 + 8192) (by omega)
  have e20 : IntKind.i64.wrap (20 + (claim : Int)) = ((20 + claim : Nat) : Int) := by rw [wrap_id (by omega) (by omega)]; omega
  have eq : IntKind.i64.wrap (Int.tdiv (A : Int) 8) = ((A / 8 : Nat) : Int) := by rw [Int.tdiv_eq_ediv_of_nonneg (by omega), wrap_id (by omega) (by omega)]; omega
  have f1 : IntKind.i64.wrap (((A / 8 : Nat) : Int) + 16384) = ((A / 8 + 16384 : Nat) : Int) := by rw [wrap_id (by omega) (by omega)]; omega
  have f2 : IntKind.i64.wrap (((A / 8 : Nat) : Int) + 8192) = ((A / 8 + 8192 : Nat) : Int) := by rw [wrap_id (by omega) (by omega)]; omega
  have f3 : IntKind.i64.wrap (((A / 8 + 16384 : Nat) : Int) + 8192) = ((A / 8 + 16384 + 8192 : Nat) : Int) := by rw [wrap_id (by omega) (by omega)]; omega
  have f4 : Int.tmod (I : Int) 65536 = ((I % 65536 : Nat) : Int) := rfl
  have f5 : IntKind.i64.wrap ((I % 65536 : Nat) : Int) = ((I % 65536 : Nat) : Int) := wrap_id (by omega) (by omega)
  have hl := beB_len
  have t3 : a.take 4 = a := List.take_of_length_le (by omega)
  have t4 : b.take 4 = b := List.take_of_length_le (by omega)
  have x1 : 1 + 1 ≤ maxStr := by decide
  have x2 : 2 + 2 ≤ maxStr := by decide
  have x3 : 4 + 2 ≤ maxStr := by decide
  have x4 : 6 + 2 ≤ maxStr := by decide
  have x5 : 8 + 1 ≤ maxStr := by decide
  have x6 : 9 + 1 ≤ maxStr := by decide
  have x7 : 4 + 4 ≤ maxStr := by decide
  have x8 : 10 + 2 ≤ maxStr := by decide
  have x9 : 12 + 8 ≤ maxStr := by decide
  have x10 : 20 + da.length ≤ maxStr := by unfold maxStr; omega
  have x11 : 12 + 4 ≤ maxStr := by decide
  have x12 : 16 + 4 ≤ maxStr := by decide
  have y : ∀ m : Nat, m ≤ 1000 → m ≤ maxStr := fun m h => by unfold maxStr; omega
  have hHe : ∀ g m w, at4 (A : Int) (q4D g claim) m = w → ∀ i, q4I g (I : Int) = i → q4H (T : Int) (L : Int) pt (A : Int) g m (I : Int) claim = 69 :: (beB 1 T ++ (beB 2 (20 + claim) ++ (beB 2 i ++ (beB 2 w ++ (beB 1 L ++ beB 1 P))))) := fun g m w hw i hi => by
    unfold q4H; rw [hw, hi, hPP, Int.toNat_natCast, Int.toNat_natCast, Int.toNat_natCast]
  cases fg with
  | true =>
    cases mo with
    | true =>
      have hO := hO true true
      have gX := gX true true
      have hHe := hHe true true (A / 8 + 8192) (by unfold at4 q4D; simp) (I % 65536) (by unfold q4I; simp)
      generalize q4X (T : Int) (L : Int) pt (A : Int) true true (I : Int) claim a b = X at *
      rw [hHe] at hO ⊢
      simp only [z2, List.cons_append, List.append_assoc, List.nil_append] at hO
      simp only [go_sem, ↓reduceIte, reduceCtorEq, upd_ne, back_new (no_at), Nat.reduceAdd, Nat.reduceEqDiff, Nat.reduceMul, Nat.reduceSub, Nat.reduceLeDiff, Nat.reduceLT, Int.reduceToNat, Int.reduceLE, Int.reduceLT, Int.reduceEq, UInt8.reduceOfNat, List.getElem?_map, Int.toNat_natCast, hfr, hto, ha, hb, hP, w1, w2, w3, c0, c1, eA, cl3, eq, f2, f4, f5, e20, gP, gL, gT, gC, gI, gA1, hO, gX, hl, t3, t4, u1, u2, hps, g0, g69, z2, y, x1, x2, x3, x4, x5, x6, x7, x8, x9, x10, x11, x12, hT, hTl, toBytes_byteLV, List.length_append, List.length_cons, List.length_nil, List.append_assoc, List.cons_append, List.nil_append]
    | false =>
      have hO := hO true false
      have gX := gX true false
      have hHe := hHe true false (A / 8) (by unfold at4 q4D; simp) (I % 65536) (by unfold q4I; simp)
      generalize q4X (T : Int) (L : Int) pt (A : Int) true false (I : Int) claim a b = X at *
      rw [hHe] at hO ⊢
      simp only [z2, List.cons_append, List.append_assoc, List.nil_append] at hO
      simp only [go_sem, ↓reduceIte, reduceCtorEq, upd_ne, back_new (no_at), Nat.reduceAdd, Nat.reduceEqDiff, Nat.reduceMul, Nat.reduceSub, Nat.reduceLeDiff, Nat.reduceLT, Int.reduceToNat, Int.reduceLE, Int.reduceLT, Int.reduceEq, UInt8.reduceOfNat, List.getElem?_map, Int.toNat_natCast, hfr, hto, ha, hb, hP, w1, w2, w3, c0, c1, eA, cl3, eq, f2, f4, f5, e20, gP, gL, gT, gC, gI, gA0, hO, gX, hl, t3, t4, u1, u2, hps, g0, g69, z2, y, x1, x2, x3, x4, x5, x6, x7, x8, x9, x10, x11, x12, hT, hTl, toBytes_byteLV, List.length_append, List.length_cons, List.length_nil, List.append_assoc, List.cons_append, List.nil_append]
  | false =>
    by_cases cb : 1240 < claim
    · have cb' : (1240 : Int) < (claim : Int) := by omega
      cases mo with
      | true =>
        have hO := hO false true
        have gX := gX false true
        have hHe := hHe false true (A / 8 + 16384 + 8192) (by unfold at4 q4D; simp [cb]) 0 (by unfold q4I; simp)
        generalize q4X (T : Int) (L : Int) pt (A : Int) false true (I : Int) claim a b = X at *
        rw [hHe] at hO ⊢
        simp only [z2, List.cons_append, List.append_assoc, List.nil_append] at hO
        simp only [go_sem, ↓reduceIte, reduceCtorEq, upd_ne, back_new (no_at), Nat.reduceAdd, Nat.reduceEqDiff, Nat.reduceMul, Nat.reduceSub, Nat.reduceLeDiff, Nat.reduceLT, Int.reduceToNat, Int.reduceLE, Int.reduceLT, Int.reduceEq, UInt8.reduceOfNat, List.getElem?_map, Int.toNat_natCast, hfr, hto, ha, hb, hP, w1, w2, w3, c0, c1, eA, cl3, cb', eq, f1, f2, f3, f4, f5, e20, gP, gL, gT, gC, g0, gA3, hO, gX, hl, t3, t4, u1, u2, hps, g0, g69, z2, y, x1, x2, x3, x4, x5, x6, x7, x8, x9, x10, x11, x12, hT, hTl, toBytes_byteLV, List.length_append, List.length_cons, List.length_nil, List.append_assoc, List.cons_append, List.nil_append]
      | false =>
        have hO := hO false false
        have gX := gX false false
        have hHe := hHe false false (A / 8 + 16384) (by unfold at4 q4D; simp [cb]) 0 (by unfold q4I; simp)
        generalize q4X (T : Int) (L : Int) pt (A : Int) false false (I : Int) claim a b = X at *
        rw [hHe] at hO ⊢
        simp only [z2, List.cons_append, List.append_assoc, List.nil_append] at hO
        simp only [go_sem, ↓reduceIte, reduceCtorEq, upd_ne, back_new (no_at), Nat.reduceAdd, Nat.reduceEqDiff, Nat.reduceMul, Nat.reduceSub, Nat.reduceLeDiff, Nat.reduceLT, Int.reduceToNat, Int.reduceLE, Int.reduceLT, Int.reduceEq, UInt8.reduceOfNat, List.getElem?_map, Int.toNat_natCast, hfr, hto, ha, hb, hP, w1, w2, w3, c0, c1, eA, cl3, cb', eq, f1, f2, f3, f4, f5, e20, gP, gL, gT, gC, g0, gA2, hO, gX, hl, t3, t4, u1, u2, hps, g0, g69, z2, y, x1, x2, x3, x4, x5, x6, x7, x8, x9, x10, x11, x12, hT, hTl, toBytes_byteLV, List.length_append, List.length_cons, List.length_nil, List.append_assoc, List.cons_append, List.nil_append]
    · have cb' : ¬ (1240 : Int) < (claim : Int) := by omega
      cases mo with
      | true =>
        have hO := hO false true
        have gX := gX false true
        have hHe := hHe false true (A / 8 + 8192) (by unfold at4 q4D; simp [cb]) 0 (by unfold q4I; simp)
        generalize q4X (T : Int) (L : Int) pt (A : Int) false true (I : Int) claim a b = X at *
        rw [hHe] at hO ⊢
        simp only [z2, List.cons_append, List.append_assoc, List.nil_append] at hO
        simp only [go_sem, ↓reduceIte, reduceCtorEq, upd_ne, back_new (no_at), Nat.reduceAdd, Nat.reduceEqDiff, Nat.reduceMul, Nat.reduceSub, Nat.reduceLeDiff, Nat.reduceLT, Int.reduceToNat, Int.reduceLE, Int.reduceLT, Int.reduceEq, UInt8.reduceOfNat, List.getElem?_map, Int.toNat_natCast, hfr, hto, ha, hb, hP, w1, w2, w3, c0, c1, eA, cl3, cb', eq, f1, f2, f3, f4, f5, e20, gP, gL, gT, gC, g0, gA1, hO, gX, hl, t3, t4, u1, u2, hps, g0, g69, z2, y, x1, x2, x3, x4, x5, x6, x7, x8, x9, x10, x11, x12, hT, hTl, toBytes_byteLV, List.length_append, List.length_cons, List.length_nil, List.append_assoc, List.cons_append, List.nil_append]
      | false =>
        have hO := hO false false
        have gX := gX false false
        have hHe := hHe false false (A / 8) (by unfold at4 q4D; simp [cb]) 0 (by unfold q4I; simp)
        generalize q4X (T : Int) (L : Int) pt (A : Int) false false (I : Int) claim a b = X at *
        rw [hHe] at hO ⊢
        simp only [z2, List.cons_append, List.append_assoc, List.nil_append] at hO
        simp only [go_sem, ↓reduceIte, reduceCtorEq, upd_ne, back_new (no_at), Nat.reduceAdd, Nat.reduceEqDiff, Nat.reduceMul, Nat.reduceSub, Nat.reduceLeDiff, Nat.reduceLT, Int.reduceToNat, Int.reduceLE, Int.reduceLT, Int.reduceEq, UInt8.reduceOfNat, List.getElem?_map, Int.toNat_natCast, hfr, hto, ha, hb, hP, w1, w2, w3, c0, c1, eA, cl3, cb', eq, f1, f2, f3, f4, f5, e20, gP, gL, gT, gC, g0, gA0, hO, gX, hl, t3, t4, u1, u2, hps, g0, g69, z2, y, x1, x2, x3, x4, x5, x6, x7, x8, x9, x10, x11, x12, hT, hTl, toBytes_byteLV, List.length_append, List.length_cons, List.length_nil, List.append_assoc, List.cons_append, List.nil_append]
end
end Go.Ev

namespace Go.Ev
set_option linter.unusedSimpArgs false
set_option linter.unusedVariables false
set_option maxRecDepth 4000
set_option maxHeartbeats 2000000
def tagL (t : Nat) : List LV → LV
  | [] => .nils
  | x :: l => .lst (some (t, 1)) (x :: l)
def tagS (t sz : Nat) : List LV → Slots
  | [] => noSlots
  | x :: l => upd noSlots t (.tag 1 (l.length + 1) sz)
section
variable {t e by' : Nat} {l : List LV} {x : LV} {sl : Slots} {R : Type} {K : LV → Option R}
theorem wApp_tag (hl : (l.all fun v => decide (flatLen v = e)) = true) (hx : flatLen x = e) (hb : (l.length + 1) * by' ≤ 1099511627776) :
    wAppend e by' t (tagS t e l) (tagL t l) (.lst none [x]) = some (tagL t (l ++ [x]), tagS t e (l ++ [x])) := by
  have hn : (([x] : List LV).all fun v => decide (flatLen v = e)) = true := by simp [hx]
  cases l with
  | nil =>
    simp only [tagL, tagS, wAppend, newEls, hn, if_true, Option.bind_some]
    rw [if_neg (by simp), if_pos (by simpa using hb)]
    rfl
  | cons y l =>
    simp only [tagL, tagS, wAppend, newEls, hn, if_true, Option.bind_some, upd_same]
    rw [if_neg (by simp), if_pos ⟨trivial, rfl, trivial, hl, by simpa using hb⟩]
    simp only [upd_upd, List.cons_append, List.length_append, List.length_cons, List.length_nil]
theorem tg_len : ob (pr.len false (tagL t l)) K = K (.int .i64 (l.length : Int)) := by
  cases l with
  | nil => exact e_lenN
  | cons y l => exact e_lenL
theorem tg_ag : LV.isAgg (tagL t l) = false := by cases l <;> exact Eq.trans rfl rfl
theorem tg_st : stor (tagL t l) = true := by cases l <;> exact Eq.trans rfl rfl
theorem tg_pl : plainRes (tagL t l) = true := by cases l <;> exact Eq.trans rfl rfl
theorem tg_fl : flatLen (tagL t l) = 1 := by cases l <;> simp only [tagL, flatLen]
theorem tg_ps : psl (tagL t l) = some (.lst none l) := by cases l <;> simp only [tagL, psl]
theorem tg_sv : sealV sl (tagL t l) = some (.lst none l) := by cases l <;> simp only [tagL, sealV, psl]
theorem tg_ov : outV none sl (tagL t l) = some (.lst none l) := by cases l <;> simp only [tagL, outV, sealV, psl]
theorem tg_rf : refOk (tagS t e l) (tagL t l) = true := by
  cases l with
  | nil => simp only [tagL, refOk]
  | cons y l => simp only [tagL, tagS, refOk, upd_same]
theorem tg_bk : back noSlots (tagS t e l) = tagS t e l := by
  cases l with
  | nil => exact back_self
  | cons y l => exact c_bktag
theorem ext_flat (l : List (Int × List UInt8)) : ((l.map extLV).all fun v => decide (flatLen v = 2)) = true := by
  rw [List.all_eq_true]
  intro v hv
  obtain ⟨w, _, rfl⟩ := List.mem_map.1 hv
  simp [flatLen, sumLen]
end
attribute [go_sem ↓] tg_len tg_ag tg_st tg_pl tg_fl tg_ps tg_sv tg_ov tg_rf tg_bk
end Go.Ev

namespace Go.Ev
set_option linter.unusedSimpArgs false
set_option linter.unusedVariables false
set_option maxRecDepth 4000
set_option maxHeartbeats 2000000
abbrev nrLV (s : List UInt8) (a : Nat) : LV := .agg [.str s, .int .i64 (a : Int), .nilp]
theorem shl_or (x : Nat) (c : UInt8) (hx : x ≤ 4294967296) : bitsOf .or .i64 (((x * 256 : Nat)) : Int) (c.toNat : Int) = ((x * 256 + c.toNat : Nat) : Int) := by
  have hc := c.toNat_lt
  rw [bits_or_nat (by simp [IntKind.max, IntKind.signed, IntKind.bits]; omega) (by simp [IntKind.max, IntKind.signed, IntKind.bits]; omega)]
  congr 1
  rw [show x * 256 = x <<< 8 by rw [Nat.shiftLeft_eq], ← Nat.shiftLeft_add_eq_or_of_lt hc]
section
variable {S : Sys} (hS : Has S) (n : Nat)
include hS
theorem ev_nText (s : List UInt8) (a m : Nat) (h : a + m ≤ s.length) (hs : s.length ≤ 140737488351232) :
    S.ev (n + 1) id_num_Reader_Text [.ptr 0 0 [] 0, .int .i64 (m : Int)] (some (nrLV s a)) = some (.tup [.str ((s.drop a).take m), .nili], some (nrLV s (a + m))) := by
  rw [Sys.step hS.h_num_Reader_Text, F_num_Reader_Text_eq]
  unfold F_num_Reader_Text
  (try simp only [guard_merge, or_merge, and_merge, or_pick, and_pick, guard_or, guard_and]); simp only [to_ob]
  have f1 : ¬ (m : Int) < 0 := by omega
  have e1 : IntKind.i64.wrap ((s.length : Int) - (a : Int)) = ((s.length - a : Nat) : Int) := by rw [wrap_id (by omega) (by omega)]; omega
  have f2 : ¬ ((s.length - a : Nat) : Int) < (m : Int) := by omega
  have e2 : IntKind.i64.wrap ((a : Int) + (m : Int)) = ((a + m : Nat) : Int) := by rw [wrap_id (by omega) (by omega)]; omega
  have f3 : a ≤ a + m := by omega
  have f4 : a + m - a = m := by omega
  simp only [go_sem, ↓reduceIte, reduceCtorEq, upd_ne, back_new (no_at), Nat.reduceAdd, Nat.reduceEqDiff, Nat.reduceMul, Nat.reduceSub, Nat.reduceLeDiff, Nat.reduceLT, Int.reduceToNat, Int.reduceLE, Int.reduceLT, Int.reduceEq, UInt8.reduceOfNat, f1, e1, f2, e2, f3, f4, h]
theorem ev_nNumber (s : List UInt8) (a m : Nat) (h : a + m ≤ s.length) (hm : m ≤ 4) (hs : s.length ≤ 140737488351232) :
    S.ev (n + 2) id_num_Reader_number [.ptr 0 0 [] 0, .int .i64 (m : Int)] (some (nrLV s a)) = some (.tup [.int .i64 ((numN ((s.drop a).take m) : Nat) : Int), .nili], some (nrLV s (a + m))) := by
  rw [Sys.step hS.h_num_Reader_number, F_num_Reader_number_eq]
  unfold F_num_Reader_number
  have ht := ev_nText hS n s a m h hs
  (try simp only [guard_merge, or_merge, and_merge, or_pick, and_pick, guard_or, guard_and]); simp only [to_ob]
  simp only [go_sem, ↓reduceIte, reduceCtorEq, upd_ne, back_new (no_at), Nat.reduceAdd, Nat.reduceEqDiff, Nat.reduceMul, Nat.reduceSub, Nat.reduceLeDiff, Nat.reduceLT, Int.reduceToNat, Int.reduceLE, Int.reduceLT, Int.reduceEq, UInt8.reduceOfNat, ht]
  have hul : ((s.drop a).take m).length = m := by rw [List.length_take, List.length_drop]; omega
  generalize (s.drop a).take m = u at *
  refine while_rule (fun k q => ∃ i : Nat, i + k = m ∧ q = ([.int .i64 ((numN (u.take i) : Nat) : Int), .int .i64 (i : Int)], upd noSlots 0 (.obj 0 (nrLV s (a + m))))) m ⟨0, by omega, by simp [numN]⟩ ?_
  rintro k q ⟨i, hi, rfl⟩
  simp only [go_sem, ↓reduceIte, reduceCtorEq, upd_ne, back_new (no_at), Nat.reduceAdd, Nat.reduceEqDiff, Nat.reduceMul, Nat.reduceSub, Nat.reduceLeDiff, Nat.reduceLT, Int.reduceToNat, Int.reduceLE, Int.reduceLT, Int.reduceEq, UInt8.reduceOfNat, hul]
  refine nxt_ite (fun h => ?_) (fun h => ?_)
  · have hlt : i < u.length := by omega
    obtain ⟨c, hc⟩ : ∃ c, u[i]? = some c := ⟨u[i], by simp [hlt]⟩
    have htk : u.take (i + 1) = u.take i ++ [c] := by rw [List.take_add_one, hc]; rfl
    have hb := numN_lt (u.take i)
    have hb2 : 256 ^ (u.take i).length ≤ 256 ^ 3 := Nat.pow_le_pow_right (by decide) (by rw [List.length_take]; omega)
    have hb3 : (256 : Nat) ^ 3 = 16777216 := by decide
    have hcl := c.toNat_lt
    have e1 : IntKind.i64.wrap (((numN (u.take i) : Nat) : Int) * 2 ^ min 8 64) = ((numN (u.take i) * 256 : Nat) : Int) := by rw [show min 8 64 = 8 from rfl, wrap_id (by omega) (by omega)]; omega
    have e2 : IntKind.i64.wrap (c.toNat : Int) = (c.toNat : Int) := wrap_id (by omega) (by omega)
    have e3 := shl_or (numN (u.take i)) c (by omega)
    have e4 : IntKind.i64.wrap ((i : Int) + 1) = ((i + 1 : Nat) : Int) := by rw [wrap_id (by omega) (by omega)]; omega
    simp only [go_sem, ↓reduceIte, reduceCtorEq, upd_ne, back_new (no_at), Nat.reduceAdd, Nat.reduceEqDiff, Nat.reduceMul, Nat.reduceSub, Nat.reduceLeDiff, Nat.reduceLT, Int.reduceToNat, Int.reduceLE, Int.reduceLT, Int.reduceEq, UInt8.reduceOfNat, List.getElem?_map, Int.toNat_natCast, hc, e1, e2, e3, e4]
    exact ⟨k - 1, by omega, i + 1, by omega, by rw [htk, numN_snoc]⟩
  · obtain rfl : i = m := by omega
    rw [List.take_of_length_le (by omega)]
    simp only [go_sem, ↓reduceIte, reduceCtorEq, upd_ne, back_new (no_at), Nat.reduceAdd, Nat.reduceEqDiff, Nat.reduceMul, Nat.reduceSub, Nat.reduceLeDiff, Nat.reduceLT, Int.reduceToNat, Int.reduceLE, Int.reduceLT, Int.reduceEq, UInt8.reduceOfNat, Nxt, exIf]
theorem ev_U32 (s : List UInt8) (a : Nat) (h : a + 4 ≤ s.length) (hs : s.length ≤ 140737488351232) :
    S.ev (n + 3) id_num_Reader_U32 [.ptr 0 0 [] 0] (some (nrLV s a)) = some (.tup [.int .i64 ((numN ((s.drop a).take 4) : Nat) : Int), .nili], some (nrLV s (a + 4))) := by
  rw [Sys.step hS.h_num_Reader_U32, F_num_Reader_U32_eq]
  unfold F_num_Reader_U32
  have ht : S.ev (n + 2) id_num_Reader_number [.ptr 0 0 [] 0, .int .i64 4] (some (nrLV s a)) = some (.tup [.int .i64 ((numN ((s.drop a).take 4) : Nat) : Int), .nili], some (nrLV s (a + 4))) := ev_nNumber hS n s a 4 h (by omega) hs
  (try simp only [guard_merge, or_merge, and_merge, or_pick, and_pick, guard_or, guard_and]); simp only [to_ob]
  simp only [go_sem, ↓reduceIte, reduceCtorEq, upd_ne, back_new (no_at), Nat.reduceAdd, Nat.reduceEqDiff, Nat.reduceMul, Nat.reduceSub, Nat.reduceLeDiff, Nat.reduceLT, Int.reduceToNat, Int.reduceLE, Int.reduceLT, Int.reduceEq, UInt8.reduceOfNat, ht]
theorem ev_New (s : List UInt8) : S.ev (n + 1) id_num_New [.str s] none = some (.fresh (nrLV s 0), none) := by
  rw [Sys.step hS.h_num_New, F_num_New_eq]
  unfold F_num_New
  (try simp only [guard_merge, or_merge, and_merge, or_pick, and_pick, guard_or, guard_and]); simp only [to_ob]
  simp only [go_sem, ↓reduceIte, reduceCtorEq, upd_ne, back_new (no_at), Nat.reduceAdd, Nat.reduceEqDiff, Nat.reduceMul, Nat.reduceSub, Nat.reduceLeDiff, Nat.reduceLT, Int.reduceToNat, Int.reduceLE, Int.reduceLT, Int.reduceEq, UInt8.reduceOfNat, Int.natCast_zero]
  try rfl
end
end Go.Ev

namespace Go.Ev
set_option linter.unusedSimpArgs false
set_option linter.unusedVariables false
set_option maxRecDepth 4000
set_option maxHeartbeats 4000000
abbrev ChR := Int × List (Int × List UInt8) × Int × List UInt8
abbrev isE (k : Int) : Prop := (k = 0 ∨ k = 43) ∨ k = 60
def sz6 (s : List UInt8) : Nat := 8 * (1 + bAt s 1)
def chC : Nat → Bool → Int → List UInt8 → ChR
  | 0, first, next, s => if isE next then (if next = 0 ∧ first = false then (8, [], 0, []) else (3, [], 0, [])) else (0, [], next, s)
  | k + 1, first, next, s =>
    if isE next then
      if next = 0 ∧ first = false then (8, [], 0, [])
      else if s.length < sz6 s then (7, [], 0, [])
      else
        let r := chC k false ((bAt s 0 : Nat) : Int) (s.drop (sz6 s))
        if r.1 = 0 then (0, (next, (s.drop 2).take (sz6 s - 2)) :: r.2.1, r.2.2) else r
    else (0, [], next, s)
def chP (acc : List (Int × List UInt8)) (r : ChR) : ChR := if r.1 = 0 then (0, acc ++ r.2.1, r.2.2) else r
theorem chC_err : ∀ (k : Nat) (f : Bool) (next : Int) (s : List UInt8), (chC k f next s).1 ≠ 0 → chC k f next s = ((chC k f next s).1, [], 0, [])
  | 0, f, next, s => by
    unfold chC
    split
    · split <;> simp
    · simp
  | k + 1, f, next, s => by
    unfold chC
    split
    · split
      · simp
      · split
        · simp
        · simp only
          split
          · simp
          · rename_i h
            intro _
            exact chC_err k false _ _ h
    · simp
theorem chP_nil (k : Nat) (f : Bool) (next : Int) (s : List UInt8) : chP [] (chC k f next s) = chC k f next s := by
  unfold chP
  split
  · rename_i h
    rw [List.nil_append, ← h]
  · rfl
theorem chP_step {acc : List (Int × List UInt8)} {k : Nat} {f : Bool} {next : Int} {s : List UInt8} (h1 : isE next) (h2 : ¬ (next = 0 ∧ f = false)) (h3 : ¬ s.length < sz6 s) :
    chP acc (chC (k + 1) f next s) = chP (acc ++ [(next, (s.drop 2).take (sz6 s - 2))]) (chC k false ((bAt s 0 : Nat) : Int) (s.drop (sz6 s))) := by
  rw [chC, if_pos h1, if_neg h2, if_neg h3]
  generalize chC k false ((bAt s 0 : Nat) : Int) (s.drop (sz6 s)) = r
  unfold chP
  by_cases h : r.1 = 0
  · simp only [h, if_true, List.append_assoc, List.cons_append, List.nil_append]
  · simp only [h, if_false]
def chLV (r : ChR) : LV := .tup [extsLV r.2.1, .int .i64 r.2.2.1, .str r.2.2.2, fE r.1]
def chLV' (r : ChR) : LV := .tup [extsLV r.2.1, .int .i64 r.2.2.1, .str r.2.2.2, .int .i64 r.1]
section
variable {S : Sys} (hS : Has S) (n : Nat)
include hS
theorem ev_fault6 (c : Int) : S.ev (n + 1) id_ip6_fault [.int .i64 c] none = some (faultLV c, none) := by
  rw [Sys.step hS.h_ip6_fault, F_ip6_fault_eq]
  unfold F_ip6_fault
  simp only [to_ob]
  simp only [go_sem, ↓reduceIte, reduceCtorEq, upd_ne, back_new (no_at), Nat.reduceAdd, Nat.reduceEqDiff, Nat.reduceMul, Nat.reduceSub, Nat.reduceLeDiff, Nat.reduceLT, Int.reduceToNat, Int.reduceLE, Int.reduceLT, Int.reduceEq, UInt8.reduceOfNat]
theorem ev_extends (k : Int) : S.ev (n + 1) id_ip6_extends [.int .i64 k] none = some (.bool (decide (isE k)), none) := by
  rw [Sys.step hS.h_ip6_extends, F_ip6_extends_eq]
  unfold F_ip6_extends
  (try simp only [guard_merge, or_merge, and_merge, or_pick, and_pick, guard_or, guard_and]); simp only [to_ob]
  by_cases h1 : k = 0 <;> by_cases h2 : k = 43 <;> by_cases h3 : k = 60 <;> simp only [go_sem, ↓reduceIte, reduceCtorEq, upd_ne, back_new (no_at), Nat.reduceAdd, Nat.reduceEqDiff, Nat.reduceMul, Nat.reduceSub, Nat.reduceLeDiff, Nat.reduceLT, Int.reduceToNat, Int.reduceLE, Int.reduceLT, Int.reduceEq, UInt8.reduceOfNat, h1, h2, h3] <;> first | rfl | simp [h1, h2, h3]
theorem ev_chain6 (next : Int) (s : List UInt8) (hs : s.length ≤ 140737488351232) : S.ev (n + 2) id_ip6_Chain [.int .i64 next, .str s] none = some (chLV (chC 8 true next s), none) := by
  rw [Sys.step hS.h_ip6_Chain, F_ip6_Chain_eq]
  unfold F_ip6_Chain F_ip6_Chain_k2 F_ip6_Chain_k1
  have hx := ev_extends hS n
  have hfa := ev_fault6 hS n
  (try simp only [guard_merge, or_merge, and_merge, or_pick, and_pick, guard_or, guard_and]); simp only [to_ob]
  refine while_rule (fun k q => ∃ (acc : List (Int × List UInt8)) (next' : Int) (t : List UInt8), q = ([tagL 49 (acc.map extLV), .int .i64 0, .str [], .nili, .int .i64 next', .str t], tagS 49 2 (acc.map extLV)) ∧ acc.length + k = 8 ∧ t.length ≤ s.length ∧ chP acc (chC k acc.isEmpty next' t) = chC 8 true next s) 8 ⟨[], next, s, rfl, rfl, Nat.le_refl _, chP_nil _ _ _ _⟩ ?_
  rintro k q ⟨acc, next', t, rfl, hk, ht, hr⟩
  by_cases c1 : isE next'
  · have c1' : decide (isE next') = true := decide_eq_true c1
    by_cases c2 : next' = 0 ∧ acc.isEmpty = false
    · have c2' := c2
      obtain ⟨rfl, c2x⟩ := c2'
      have c2a : 0 < (acc.length : Int) := by
        cases acc with
        | nil => simp at c2x
        | cons x l => simp only [List.length_cons]; omega
      have hr : chC 8 true next s = (8, [], 0, []) := by
        rw [← hr]
        cases k with
        | zero => rw [chC, if_pos c1, if_pos c2]; rfl
        | succ k => rw [chC, if_pos c1, if_pos c2]; rfl
      rw [hr]
      by_cases c3 : 2 ≤ t.length
      · have c3' : 2 ≤ (t.length : Int) := by omega
        have g1 := get_def (s := t) (i := 1) (by omega)
        simp only [go_sem, ↓reduceIte, reduceCtorEq, upd_ne, back_new (no_at), Nat.reduceAdd, Nat.reduceEqDiff, Nat.reduceMul, Nat.reduceSub, Nat.reduceLeDiff, Nat.reduceLT, Int.reduceToNat, Int.reduceLE, Int.reduceLT, Int.reduceEq, UInt8.reduceOfNat, List.getElem?_map, Int.toNat_natCast, hx, hfa, c1', c2a, c3', g1, List.length_map, Nxt, exIf, chLV, fE]
        try rfl
      · have c3' : ¬ 2 ≤ (t.length : Int) := by omega
        simp only [go_sem, ↓reduceIte, reduceCtorEq, upd_ne, back_new (no_at), Nat.reduceAdd, Nat.reduceEqDiff, Nat.reduceMul, Nat.reduceSub, Nat.reduceLeDiff, Nat.reduceLT, Int.reduceToNat, Int.reduceLE, Int.reduceLT, Int.reduceEq, UInt8.reduceOfNat, List.getElem?_map, Int.toNat_natCast, hx, hfa, c1', c2a, c3', List.length_map, Nxt, exIf, chLV, fE]
        try rfl
    · have c2b : ¬ (next' = 0 ∧ 0 < (acc.length : Int)) := by
        rintro ⟨h1, h2⟩
        apply c2
        refine ⟨h1, ?_⟩
        cases acc with
        | nil => simp at h2
        | cons x l => rfl
      have hd : (andK (.bool (decide (next' = 0))) (some (.bool (decide (0 < (acc.length : Int)))))) = some (.bool false) := by
        by_cases h : next' = 0
        · have : ¬ 0 < (acc.length : Int) := fun q => c2b ⟨h, q⟩
          rw [decide_eq_true h, decide_eq_false this]; rfl
        · rw [decide_eq_false h]; rfl
      cases k with
      | zero =>
        have c4 : 8 ≤ (acc.length : Int) := by omega
        have hr : chC 8 true next s = (3, [], 0, []) := by
          rw [← hr, chC, if_pos c1, if_neg c2]; rfl
        rw [hr]
        by_cases c3 : 2 ≤ t.length
        · have c3' : 2 ≤ (t.length : Int) := by omega
          have g1 := get_def (s := t) (i := 1) (by omega)
          simp only [go_sem, ↓reduceIte, reduceCtorEq, upd_ne, back_new (no_at), Nat.reduceAdd, Nat.reduceEqDiff, Nat.reduceMul, Nat.reduceSub, Nat.reduceLeDiff, Nat.reduceLT, Int.reduceToNat, Int.reduceLE, Int.reduceLT, Int.reduceEq, UInt8.reduceOfNat, List.getElem?_map, Int.toNat_natCast, hx, hfa, c1', hd, c4, c3', g1, List.length_map, Nxt, exIf, chLV, fE]
          try rfl
        · have c3' : ¬ 2 ≤ (t.length : Int) := by omega
          simp only [go_sem, ↓reduceIte, reduceCtorEq, upd_ne, back_new (no_at), Nat.reduceAdd, Nat.reduceEqDiff, Nat.reduceMul, Nat.reduceSub, Nat.reduceLeDiff, Nat.reduceLT, Int.reduceToNat, Int.reduceLE, Int.reduceLT, Int.reduceEq, UInt8.reduceOfNat, List.getElem?_map, Int.toNat_natCast, hx, hfa, c1', hd, c4, c3', List.length_map, Nxt, exIf, chLV, fE]
          try rfl
      | succ k =>
        have c4 : ¬ 8 ≤ (acc.length : Int) := by omega
        by_cases c3 : 2 ≤ t.length
        · have c3' : 2 ≤ (t.length : Int) := by omega
          have g0 := get_def (s := t) (i := 0) (by omega)
          have g1 := get_def (s := t) (i := 1) (by omega)
          have hb1 := bAt_le t 1
          have hb0 := bAt_le t 0
          have e1 : IntKind.i64.wrap ((t.getD 1 0).toNat : Int) = ((bAt t 1 : Nat) : Int) := wrap_id (by omega) (by unfold bAt at hb1; omega)
          have e0 : IntKind.i64.wrap ((t.getD 0 0).toNat : Int) = ((bAt t 0 : Nat) : Int) := wrap_id (by omega) (by unfold bAt at hb0; omega)
          have e2 : IntKind.i64.wrap (8 + IntKind.i64.wrap (((bAt t 1 : Nat) : Int) * 8)) = ((sz6 t : Nat) : Int) := by
            rw [wrap_id (n := ((bAt t 1 : Nat) : Int) * 8) (by omega) (by omega), wrap_id (by omega) (by omega)]; unfold sz6; omega
          by_cases c5 : t.length < sz6 t
          · have c5' : (t.length : Int) < ((sz6 t : Nat) : Int) := by omega
            have hr : chC 8 true next s = (7, [], 0, []) := by
              rw [← hr, chC, if_pos c1, if_neg c2, if_pos c5]; rfl
            rw [hr]
            simp only [go_sem, ↓reduceIte, reduceCtorEq, upd_ne, back_new (no_at), Nat.reduceAdd, Nat.reduceEqDiff, Nat.reduceMul, Nat.reduceSub, Nat.reduceLeDiff, Nat.reduceLT, Int.reduceToNat, Int.reduceLE, Int.reduceLT, Int.reduceEq, UInt8.reduceOfNat, List.getElem?_map, Int.toNat_natCast, hx, hfa, c1', hd, c4, c3', g1, byteLV, e1, e2, c5', List.length_map, Nxt, exIf, chLV, fE]
            try rfl
          · have c5' : ¬ (t.length : Int) < ((sz6 t : Nat) : Int) := by omega
            have l1 : sz6 t ≤ t.length := by omega
            have l2 : 2 ≤ sz6 t := by unfold sz6; omega
            have ha := wApp_tag (t := 49) (by' := 24) (ext_flat acc) (show flatLen (extLV (next', (t.drop 2).take (sz6 t - 2))) = 2 by simp [flatLen, sumLen]) (by simp; omega)
            have hm : acc.map extLV ++ [extLV (next', (t.drop 2).take (sz6 t - 2))] = (acc ++ [(next', (t.drop 2).take (sz6 t - 2))]).map extLV := by simp
            rw [hm] at ha
            simp only [go_sem, ↓reduceIte, reduceCtorEq, upd_ne, back_new (no_at), Nat.reduceAdd, Nat.reduceEqDiff, Nat.reduceMul, Nat.reduceSub, Nat.reduceLeDiff, Nat.reduceLT, Int.reduceToNat, Int.reduceLE, Int.reduceLT, Int.reduceEq, UInt8.reduceOfNat, List.getElem?_map, Int.toNat_natCast, hx, hfa, c1', hd, c4, c3', g0, g1, byteLV, e0, e1, e2, c5', l1, l2, ha, List.length_map, Nat.le_refl]
            refine ⟨k, by omega, acc ++ [(next', (t.drop 2).take (sz6 t - 2))], ((bAt t 0 : Nat) : Int), t.drop (sz6 t), ?_, by simp; omega, by simp; omega, ?_⟩
            · rfl
            · rw [← hr, chP_step c1 c2 c5]
              congr 2
              cases acc <;> rfl
        · have c3' : ¬ 2 ≤ (t.length : Int) := by omega
          have c5 : t.length < sz6 t := by unfold sz6; omega
          have c5' : (t.length : Int) < 8 := by omega
          have hr : chC 8 true next s = (7, [], 0, []) := by
            rw [← hr, chC, if_pos c1, if_neg c2, if_pos c5]; rfl
          rw [hr]
          simp only [go_sem, ↓reduceIte, reduceCtorEq, upd_ne, back_new (no_at), Nat.reduceAdd, Nat.reduceEqDiff, Nat.reduceMul, Nat.reduceSub, Nat.reduceLeDiff, Nat.reduceLT, Int.reduceToNat, Int.reduceLE, Int.reduceLT, Int.reduceEq, UInt8.reduceOfNat, List.getElem?_map, Int.toNat_natCast, hx, hfa, c1', hd, c4, c3', c5', List.length_map, Nxt, exIf, chLV, fE]
          try rfl
  · have c1' : decide (isE next') = false := decide_eq_false c1
    have hr : chC 8 true next s = (0, acc, next', t) := by
      rw [← hr]
      cases k with
      | zero => rw [chC, if_neg c1]; simp [chP]
      | succ k => rw [chC, if_neg c1]; simp [chP]
    rw [hr]
    simp only [go_sem, ↓reduceIte, reduceCtorEq, upd_ne, back_new (no_at), Nat.reduceAdd, Nat.reduceEqDiff, Nat.reduceMul, Nat.reduceSub, Nat.reduceLeDiff, Nat.reduceLT, Int.reduceToNat, Int.reduceLE, Int.reduceLT, Int.reduceEq, UInt8.reduceOfNat, List.getElem?_map, Int.toNat_natCast, hx, c1', Nxt, exIf, chLV, fE]
    try rfl
end
end Go.Ev

namespace Go.Ev
set_option linter.unusedSimpArgs false
set_option linter.unusedVariables false
set_option maxRecDepth 4000
set_option maxHeartbeats 8000000
abbrev y16 : List UInt8 := [0, 0, 0, 0, 0, 0, 0, 0, 0, 0, 0, 0, 0, 0, 0, 0]
abbrev z6LV : LV := ip6LV 0 0 0 y16 y16 (.lst none []) false 0 0 false 0 []
def k6 (s : List UInt8) : ChR := chC 8 true ((bAt s 6 : Nat) : Int) ((s.drop 40).take (wAt s 4))
def okF6 (mo : Bool) (at' : Nat) (da : List UInt8) : Prop := (mo = true → da.length ≠ 0 ∧ da.length % 8 = 0) ∧ at' + da.length ≤ 65535
instance (mo : Bool) (at' : Nat) (da : List UInt8) : Decidable (okF6 mo at' da) := by unfold okF6; infer_instance
def fa6 (r : List UInt8) : Nat := wAt r 2 / 8 * 8
def fm6 (r : List UInt8) : Bool := decide (wAt r 2 % 2 = 1)
def fi6 (r : List UInt8) : Nat := numN ((r.drop 4).take 4)
def kF6 (r : List UInt8) : Int := if r.length < 8 then 7 else if okF6 (fm6 r) (fa6 r) (r.drop 8) then 0 else 8
def kR6 (k : ChR) : Int := if k.1 ≠ 0 then k.1 else if k.2.2.1 ≠ 44 then 0 else kF6 k.2.2.2
def pK6 (s : List UInt8) : Int :=
  if s.length < 40 then 7 else if bAt s 0 / 16 ≠ 6 then 8 else if s.length < 40 + wAt s 4 then 7 else kR6 (k6 s)
def pcl6 (s : List UInt8) : Int := ((numN (s.take 4) / 1048576 % 256 : Nat) : Int)
def pfl6 (s : List UInt8) : Int := ((numN (s.take 4) % 1048576 : Nat) : Int)
def pfr6 (s : List UInt8) : List UInt8 := (s.drop 8).take 16
def pto6 (s : List UInt8) : List UInt8 := (s.drop 24).take 16
def mk6 (s : List UInt8) (k : ChR) : LV :=
  if k.2.2.1 = 44 then ip6LV (pcl6 s) (pfl6 s) (bAt s 7 : Nat) (pfr6 s) (pto6 s) (extsLV k.2.1) true (fi6 k.2.2.2 : Nat) (fa6 k.2.2.2 : Nat) (fm6 k.2.2.2) (bAt k.2.2.2 0 : Nat) (k.2.2.2.drop 8)
  else ip6LV (pcl6 s) (pfl6 s) (bAt s 7 : Nat) (pfr6 s) (pto6 s) (extsLV k.2.1) false 0 0 false k.2.2.1 k.2.2.2
def pLV6 (s : List UInt8) : LV := if pK6 s = 0 then mk6 s (k6 s) else z6LV
theorem wc3 {sl : Slots} {t g : Nat} {cl fl ho : Int} {fr to : List UInt8} {ex : LV} {fg : Bool} {id at' : Int} {mo : Bool} {pt : Int} {da s : List UInt8} (hf : fr.length = 16) (hs : 16 ≤ s.length) :
    wCopy (upd sl t (.obj g (ip6LV cl fl ho fr to ex fg id at' mo pt da))) (.arr t g [3] 3 0 16) (.str s) = some (.int .i64 16, upd (upd sl t (.obj g (ip6LV cl fl ho fr to ex fg id at' mo pt da))) t (.obj g (ip6LV cl fl ho (s.take 16) to ex fg id at' mo pt da))) := by
  have h1 : min s.length 16 = 16 := by omega
  have h2 : fr.drop 16 = [] := List.drop_eq_nil_of_le (by omega)
  have hg : getPath (ip6LV cl fl ho fr to ex fg id at' mo pt da) [3] = some (.bytes fr, 3) := by simp only [go_sem, ↓reduceIte, reduceCtorEq, upd_ne, back_new (no_at), Nat.reduceAdd, Nat.reduceEqDiff, Nat.reduceMul, Nat.reduceSub, Nat.reduceLeDiff, Nat.reduceLT, Int.reduceToNat, Int.reduceLE, Int.reduceLT, Int.reduceEq, UInt8.reduceOfNat]
  have hp : setPath (ip6LV cl fl ho fr to ex fg id at' mo pt da) [3] (.bytes (s.take 16)) = some (ip6LV cl fl ho (s.take 16) to ex fg id at' mo pt da) := by simp only [go_sem, ↓reduceIte, reduceCtorEq, upd_ne, back_new (no_at), Nat.reduceAdd, Nat.reduceEqDiff, Nat.reduceMul, Nat.reduceSub, Nat.reduceLeDiff, Nat.reduceLT, Int.reduceToNat, Int.reduceLE, Int.reduceLT, Int.reduceEq, UInt8.reduceOfNat]
  unfold wCopy
  simp only [upd_same, if_true, hg]
  rw [if_pos ⟨trivial, by omega⟩]
  simp only [h1, Option.bind_some, List.take_zero, List.nil_append, Nat.zero_add, h2, List.append_nil, hp, Option.map_some]
  rfl
theorem wc4 {sl : Slots} {t g : Nat} {cl fl ho : Int} {fr to : List UInt8} {ex : LV} {fg : Bool} {id at' : Int} {mo : Bool} {pt : Int} {da s : List UInt8} (hf : fr.length = 16) (ht : to.length = 16) (hs : 16 ≤ s.length) :
    wCopy (upd sl t (.obj g (ip6LV cl fl ho fr to ex fg id at' mo pt da))) (.arr t g [4] 19 0 16) (.str s) = some (.int .i64 16, upd (upd sl t (.obj g (ip6LV cl fl ho fr to ex fg id at' mo pt da))) t (.obj g (ip6LV cl fl ho fr (s.take 16) ex fg id at' mo pt da))) := by
  have h1 : min s.length 16 = 16 := by omega
  have h2 : to.drop 16 = [] := List.drop_eq_nil_of_le (by omega)
  have hg : getPath (ip6LV cl fl ho fr to ex fg id at' mo pt da) [4] = some (.bytes to, 19) := by simp only [go_sem, ↓reduceIte, reduceCtorEq, upd_ne, back_new (no_at), Nat.reduceAdd, Nat.reduceEqDiff, Nat.reduceMul, Nat.reduceSub, Nat.reduceLeDiff, Nat.reduceLT, Int.reduceToNat, Int.reduceLE, Int.reduceLT, Int.reduceEq, UInt8.reduceOfNat, hf]
  have hp : setPath (ip6LV cl fl ho fr to ex fg id at' mo pt da) [4] (.bytes (s.take 16)) = some (ip6LV cl fl ho fr (s.take 16) ex fg id at' mo pt da) := by simp only [go_sem, ↓reduceIte, reduceCtorEq, upd_ne, back_new (no_at), Nat.reduceAdd, Nat.reduceEqDiff, Nat.reduceMul, Nat.reduceSub, Nat.reduceLeDiff, Nat.reduceLT, Int.reduceToNat, Int.reduceLE, Int.reduceLT, Int.reduceEq, UInt8.reduceOfNat]
  unfold wCopy
  simp only [upd_same, if_true, hg]
  rw [if_pos ⟨trivial, by omega⟩]
  simp only [h1, Option.bind_some, List.take_zero, List.nil_append, Nat.zero_add, h2, List.append_nil, hp, Option.map_some]
  rfl
theorem andNot7 (x : Nat) (h : x ≤ 65535) : bitsOf .andNot .i64 (x : Int) 7 = ((x / 8 * 8 : Nat) : Int) := by
  rw [show (7 : Int) = ((7 : Nat) : Int) from rfl]
  unfold bitsOf
  rw [ofInt_nat, ofInt_nat]
  simp only [BitVec.toNat_and, BitVec.toNat_not, BitVec.toNat_ofNat]
  have e : x % 2 ^ IntKind.i64.bits &&& (2 ^ IntKind.i64.bits - 1 - 7 % 2 ^ IntKind.i64.bits) = x / 8 * 8 := by
    rw [show IntKind.i64.bits = 64 from rfl, Nat.mod_eq_of_lt (by omega), show 2 ^ 64 - 1 - 7 % 2 ^ 64 = (2 ^ 61 - 1) * 2 ^ 3 by decide]
    apply Nat.eq_of_testBit_eq
    intro i
    rw [Nat.testBit_and, Nat.testBit_mul_two_pow, Nat.testBit_two_pow_sub_one, show x / 8 * 8 = (x / 2 ^ 3) * 2 ^ 3 from rfl, Nat.testBit_mul_two_pow, Nat.testBit_div_two_pow]
    by_cases h3 : 3 ≤ i
    · by_cases h4 : i - 3 < 61
      · simp [h3, h4, show i - 3 + 3 = i by omega]
      · have h5 : x.testBit i = false := Nat.testBit_lt_two_pow (by have : 2 ^ 64 ≤ 2 ^ i := Nat.pow_le_pow_right (by decide) (by omega)
                                                                    omega)
        simp [h3, h4, h5, show i - 3 + 3 = i by omega]
    · simp [h3]
  rw [e]
  exact wrap_id (by omega) (by omega)
theorem wrap_u32 {x : Nat} (h : x < 4294967296) : IntKind.u32.wrap (x : Int) = (x : Int) := by
  simp only [IntKind.wrap, IntKind.bits, IntKind.signed]
  simp
  omega
end Go.Ev

namespace Go.Ev
set_option linter.unusedSimpArgs false
set_option linter.unusedVariables false
set_option maxRecDepth 10000
set_option maxHeartbeats 8000000
theorem chC_rest : ∀ (k : Nat) (f : Bool) (nx : Int) (u : List UInt8), (chC k f nx u).2.2.2.length ≤ u.length
  | 0, f, nx, u => by unfold chC; split <;> (try split) <;> simp
  | k + 1, f, nx, u => by
    unfold chC
    split
    · split
      · simp
      · split
        · simp
        · have := chC_rest k false ((bAt u 0 : Nat) : Int) (u.drop (sz6 u))
          rw [List.length_drop] at this
          simp only
          split <;> (try simp only) <;> omega
    · simp
theorem chC_len : ∀ (k : Nat) (f : Bool) (nx : Int) (u : List UInt8), (chC k f nx u).2.1.length ≤ k
  | 0, f, nx, u => by unfold chC; split <;> (try split) <;> simp
  | k + 1, f, nx, u => by
    unfold chC
    split
    · split
      · simp
      · split
        · simp
        · have := chC_len k false ((bAt u 0 : Nat) : Int) (u.drop (sz6 u))
          simp only
          split <;> (try simp only [List.length_cons]) <;> omega
    · simp
end Go.Ev

namespace Go.Ev
set_option linter.unusedSimpArgs false
set_option linter.unusedVariables false
set_option maxRecDepth 10000
set_option maxHeartbeats 8000000
def th6 (s : List UInt8) : List UInt8 := (s.drop 40).take (wAt s 4)
def dD6 (k : ChR) : List UInt8 := if k.2.2.1 = 44 then k.2.2.2.drop 8 else k.2.2.2
def cl6 (s : List UInt8) (k : ChR) : Nat := wAt s 4 - ((th6 s).length - (dD6 k).length)
def iR6 (s : List UInt8) (k : ChR) : Int :=
  if k.1 ≠ 0 then k.1 else if k.2.2.1 = 44 ∧ k.2.2.2.length < 8 then 7 else if (dD6 k).length < min 8 (cl6 s k) then 7 else 0
def iK6 (s : List UInt8) : Int := if s.length < 40 then 7 else if bAt s 0 / 16 ≠ 6 then 8 else iR6 s (k6 s)
def iLV6 (s : List UInt8) : LV := if iK6 s = 0 then mk6 s (k6 s) else z6LV
def iC6 (s : List UInt8) : Int := if iK6 s = 0 then ((cl6 s (k6 s) : Nat) : Int) else 0
section
variable {S : Sys} (hS : Has S) (n : Nat)
include hS
theorem ev_inside6 (s : List UInt8) (hs : s.length ≤ 140737488351232) : S.ev (n + 4) id_fault_Inside6 [.str s] none = some (.tup [iLV6 s, .int .i64 (iC6 s), fE (iK6 s)], none) := by
  rw [Sys.step hS.h_fault_Inside6, F_fault_Inside6_eq]
  unfold F_fault_Inside6 F_fault_Inside6_k1
  have hfa := ev_faultF hS (n + 2)
  (try simp only [guard_merge, or_merge, and_merge, or_pick, and_pick, guard_or, guard_and]); simp only [to_ob]
  unfold iLV6 iC6 iK6
  by_cases c1 : s.length < 40
  · have c1' : (s.length : Int) < 40 := by omega
    simp only [go_sem, ↓reduceIte, reduceCtorEq, upd_ne, back_new (no_at), Nat.reduceAdd, Nat.reduceEqDiff, Nat.reduceMul, Nat.reduceSub, Nat.reduceLeDiff, Nat.reduceLT, Int.reduceToNat, Int.reduceLE, Int.reduceLT, Int.reduceEq, UInt8.reduceOfNat, c1, c1', hfa, fE]
  · have c1' : ¬ (s.length : Int) < 40 := by omega
    have g0 := get_def (s := s) (i := 0) (by omega)
    have hb0 := bAt_le s 0
    have e4 : Int.fdiv ((s.getD 0 0).toNat : Int) (2 ^ min 4 8) = ((bAt s 0 / 16 : Nat) : Int) := by
      rw [show min 4 8 = 4 from rfl, Int.fdiv_eq_ediv_of_nonneg _ (by decide)]; rfl
    by_cases c2 : bAt s 0 / 16 ≠ 6
    · have c2' : ¬ ((bAt s 0 / 16 : Nat) : Int) = 6 := by omega
      simp only [go_sem, ↓reduceIte, reduceCtorEq, upd_ne, back_new (no_at), Nat.reduceAdd, Nat.reduceEqDiff, Nat.reduceMul, Nat.reduceSub, Nat.reduceLeDiff, Nat.reduceLT, Int.reduceToNat, Int.reduceLE, Int.reduceLT, Int.reduceEq, UInt8.reduceOfNat, List.getElem?_map, Int.toNat_natCast, c1, c1', c2, c2', hfa, fE, g0, byteLV, e4]
    · have c2' : ((bAt s 0 / 16 : Nat) : Int) = 6 := by omega
      have g4 := get_def (s := s) (i := 4) (by omega)
      have g5 := get_def (s := s) (i := 5) (by omega)
      have g6 := get_def (s := s) (i := 6) (by omega)
      have g7 := get_def (s := s) (i := 7) (by omega)
      have hb4 := (s.getD 4 0).toNat_lt
      have hb5 := (s.getD 5 0).toNat_lt
      have hb6 := bAt_le s 6
      have hb7 := bAt_le s 7
      have hw4 := wAt_le s 4
      have q1 : IntKind.i64.wrap ((s.getD 4 0).toNat : Int) = ((s.getD 4 0).toNat : Int) := wrap_id (by omega) (by omega)
      have q2 : IntKind.i64.wrap ((s.getD 5 0).toNat : Int) = ((s.getD 5 0).toNat : Int) := wrap_id (by omega) (by omega)
      have q3 : IntKind.i64.wrap (((s.getD 4 0).toNat : Int) * 2 ^ min 8 64) = (((s.getD 4 0).toNat * 256 : Nat) : Int) := by
        rw [show min 8 64 = 8 from rfl, wrap_id (by omega) (by omega)]; omega
      have q4 : bitsOf .or .i64 (((s.getD 4 0).toNat * 256 : Nat) : Int) ((s.getD 5 0).toNat : Int) = ((wAt s 4 : Nat) : Int) := w16_or _ _
      have q5 : IntKind.i64.wrap (40 + ((wAt s 4 : Nat) : Int)) = ((40 + wAt s 4 : Nat) : Int) := by rw [wrap_id (by omega) (by omega)]; omega
      have q6 : IntKind.i64.wrap ((s.getD 6 0).toNat : Int) = ((bAt s 6 : Nat) : Int) := wrap_id (by omega) (by unfold bAt at hb6; omega)
      have q7 : IntKind.i64.wrap ((s.getD 7 0).toNat : Int) = ((bAt s 7 : Nat) : Int) := wrap_id (by omega) (by unfold bAt at hb7; omega)
      have hmm : (if ((40 + wAt s 4 : Nat) : Int) < (s.length : Int) then ((40 + wAt s 4 : Nat) : Int) else (s.length : Int)) = ((min s.length (40 + wAt s 4) : Nat) : Int) := by split <;> omega
      have m1 : 40 ≤ min s.length (40 + wAt s 4) := by omega
      have m2 : min s.length (40 + wAt s 4) ≤ s.length := by omega
      have m3 : (s.drop 40).take (min s.length (40 + wAt s 4) - 40) = th6 s := by
        unfold th6
        by_cases q : s.length ≤ 40 + wAt s 4
        · rw [Nat.min_eq_left q, List.take_of_length_le (by simp), List.take_of_length_le (by simp; omega)]
        · rw [Nat.min_eq_right (by omega), show 40 + wAt s 4 - 40 = wAt s 4 by omega]
      have htl : (th6 s).length ≤ wAt s 4 := by unfold th6; rw [List.length_take]; omega
      have hN := ev_New hS (n + 2) s
      have hU := ev_U32 hS n s 0 (by omega) hs
      simp only [Nat.zero_add, List.drop_zero] at hU
      have hx := num4_lt s
      have d1 : Int.fdiv ((numN (s.take 4) : Nat) : Int) (2 ^ min 20 64) = ((numN (s.take 4) / 1048576 : Nat) : Int) := by
        rw [show min 20 64 = 20 from rfl, Int.fdiv_eq_ediv_of_nonneg _ (by decide)]; rfl
      have d2 : bitsOf .and .i64 ((numN (s.take 4) / 1048576 : Nat) : Int) 255 = pcl6 s := by
        rw [show (255 : Int) = ((2 ^ 8 - 1 : Nat) : Int) from rfl, bits_mask 8 (by omega) (show ((numN (s.take 4) / 1048576 : Nat) : Int) ≤ 9223372036854775807 by omega) (by decide)]
        rfl
      have d3 : bitsOf .and .i64 ((numN (s.take 4) : Nat) : Int) 1048575 = pfl6 s := by
        rw [show (1048575 : Int) = ((2 ^ 20 - 1 : Nat) : Int) from rfl, bits_mask 20 (by omega) (show ((numN (s.take 4) : Nat) : Int) ≤ 9223372036854775807 by omega) (by decide)]
        rfl
      have hlf : (pfr6 s).length = 16 := by unfold pfr6; simp; omega
      have hlt : (pto6 s).length = 16 := by unfold pto6; simp; omega
      have v5 : (s.drop 8).take 16 = pfr6 s := rfl
      have v6 : (s.drop 24).take 16 = pto6 s := rfl
      have l8 : 8 ≤ s.length := by omega
      have l24 : 24 ≤ s.length := by omega
      have t8 : (s.drop 8).take (s.length - 8) = s.drop 8 := List.take_of_length_le (by simp)
      have t24 : (s.drop 24).take (s.length - 24) = s.drop 24 := List.take_of_length_le (by simp)
      have hC : S.ev (n + 3) id_ip6_Chain [.int .i64 ((bAt s 6 : Nat) : Int), .str (th6 s)] none = some (chLV (k6 s), none) := ev_chain6 hS (n + 1) _ _ (by omega)
      have hkl : (k6 s).2.2.2.length ≤ (th6 s).length := chC_rest _ _ _ _
      rw [if_neg c1, if_neg c2]
      unfold chLV at hC
      unfold mk6 iR6 cl6 dD6
      rcases hks : k6 s with ⟨kc, kl, kp, kr⟩
      rw [hks] at hC hkl
      dsimp only at hC hkl ⊢
      generalize min s.length (40 + wAt s 4) = B at *
      have k1 : ∀ sl : Slots, wCopy (upd sl 12 (.obj 1 (ip6LV (pcl6 s) (pfl6 s) (bAt s 7 : Nat) y16 y16 (.lst none (kl.map extLV)) false 0 0 false kp kr))) (.arr 12 1 [3] 3 0 16) (.str (s.drop 8)) = _ := fun sl => wc3 rfl (by rw [List.length_drop]; omega)
      have k2 : ∀ sl : Slots, wCopy (upd sl 12 (.obj 1 (ip6LV (pcl6 s) (pfl6 s) (bAt s 7 : Nat) (pfr6 s) y16 (.lst none (kl.map extLV)) false 0 0 false kp kr))) (.arr 12 1 [4] 19 0 16) (.str (s.drop 24)) = _ := fun sl => wc4 hlf rfl (by rw [List.length_drop]; omega)
      by_cases c4 : kc = 0
      case neg =>
        simp only [go_sem, ↓reduceIte, reduceCtorEq, upd_ne, back_new (no_at), Nat.reduceAdd, Nat.reduceEqDiff, Nat.reduceMul, Nat.reduceSub, Nat.reduceLeDiff, Nat.reduceLT, Int.reduceToNat, Int.reduceLE, Int.reduceLT, Int.reduceEq, UInt8.reduceOfNat, List.getElem?_map, Int.toNat_natCast, Nat.sub_zero, pMinmax, pMinmax2, Option.bind_some, c1', c2', c4, hC, fE, g0, g4, g5, g6, byteLV, e4, q1, q2, q3, q4, q5, q6, hmm, m1, m2, m3, Bool.false_eq_true]
      subst c4
      rw [show fE 0 = .nili from rfl] at hC
      by_cases c5 : kp = 44
      · subst c5
        by_cases c6 : kr.length < 8
        · have c6' : (kr.length : Int) < 8 := by omega
          simp only [go_sem, ↓reduceIte, reduceCtorEq, upd_ne, back_new (no_at), Nat.reduceAdd, Nat.reduceEqDiff, Nat.reduceMul, Nat.reduceSub, Nat.reduceLeDiff, Nat.reduceLT, Int.reduceToNat, Int.reduceLE, Int.reduceLT, Int.reduceEq, UInt8.reduceOfNat, List.getElem?_map, Int.toNat_natCast, Nat.sub_zero, pMinmax, pMinmax2, Option.bind_some, c1', c2', c6, c6', hfa, hN, hU, hC, fE, g0, g4, g5, g6, g7, byteLV, e4, q1, q2, q3, q4, q5, q6, q7, d1, d2, d3, k1, k2, v5, v6, hlf, hlt, l8, l24, t8, t24, hmm, m1, m2, m3, Bool.false_eq_true]
        · have c6' : ¬ (kr.length : Int) < 8 := by omega
          have h0 := get_def (s := kr) (i := 0) (by omega)
          have h2 := get_def (s := kr) (i := 2) (by omega)
          have h3 := get_def (s := kr) (i := 3) (by omega)
          have i0 := bAt_le kr 0
          have i2 := (kr.getD 2 0).toNat_lt
          have i3 := (kr.getD 3 0).toNat_lt
          have hw2 := wAt_le kr 2
          have r1 : IntKind.i64.wrap ((kr.getD 2 0).toNat : Int) = ((kr.getD 2 0).toNat : Int) := wrap_id (by omega) (by omega)
          have r2 : IntKind.i64.wrap ((kr.getD 3 0).toNat : Int) = ((kr.getD 3 0).toNat : Int) := wrap_id (by omega) (by omega)
          have r3 : IntKind.i64.wrap (((kr.getD 2 0).toNat : Int) * 2 ^ min 8 64) = (((kr.getD 2 0).toNat * 256 : Nat) : Int) := by
            rw [show min 8 64 = 8 from rfl, wrap_id (by omega) (by omega)]; omega
          have r4 : bitsOf .or .i64 (((kr.getD 2 0).toNat * 256 : Nat) : Int) ((kr.getD 3 0).toNat : Int) = ((wAt kr 2 : Nat) : Int) := w16_or _ _
          have r5 : IntKind.i64.wrap ((kr.getD 0 0).toNat : Int) = ((bAt kr 0 : Nat) : Int) := wrap_id (by omega) (by unfold bAt at i0; omega)
          have r6 : bitsOf .andNot .i64 ((wAt kr 2 : Nat) : Int) 7 = ((fa6 kr : Nat) : Int) := andNot7 _ hw2
          have r7 : bitsOf .and .i64 ((wAt kr 2 : Nat) : Int) 1 = ((wAt kr 2 % 2 : Nat) : Int) := by
            rw [show (1 : Int) = ((2 ^ 1 - 1 : Nat) : Int) from rfl, bits_mask 1 (by omega) (show ((wAt kr 2 : Nat) : Int) ≤ 9223372036854775807 by omega) (by decide)]
            rfl
          have r8 : (!decide (((wAt kr 2 % 2 : Nat) : Int) = 0)) = fm6 kr := by
            unfold fm6
            rw [← decide_not]
            exact decide_eq_decide.2 (by omega)
          have r8' : (decide (¬ ((wAt kr 2 % 2 : Nat) : Int) = 0)) = fm6 kr := by rw [← r8]; simp
          have hN2 := ev_New hS (n + 2) (kr.drop 4)
          have hU2 := ev_U32 hS n (kr.drop 4) 0 (by rw [List.length_drop]; omega) (by rw [List.length_drop]; omega)
          simp only [Nat.zero_add, List.drop_zero] at hU2
          have hU2 : S.ev (n + 3) id_num_Reader_U32 [.ptr 0 0 [] 0] (some (nrLV (kr.drop 4) 0)) = some (.tup [.int .i64 ((fi6 kr : Nat) : Int), .nili], some (nrLV (kr.drop 4) 4)) := hU2
          have hfi : fi6 kr < 4294967296 := num4_lt (kr.drop 4)
          have r9 : IntKind.u32.wrap ((fi6 kr : Nat) : Int) = ((fi6 kr : Nat) : Int) := wrap_u32 hfi
          have n4' : 4 ≤ kr.length := by omega
          have n8' : 8 ≤ kr.length := by omega
          have u4 : (kr.drop 4).take (kr.length - 4) = kr.drop 4 := List.take_of_length_le (by simp)
          have u8' : (kr.drop 8).take (kr.length - 8) = kr.drop 8 := List.take_of_length_le (by simp)
          have hdl : (kr.drop 8).length = kr.length - 8 := by simp
          have z1 : IntKind.i64.wrap (((th6 s).length : Int) - ((kr.length - 8 : Nat) : Int)) = (((th6 s).length - (kr.length - 8) : Nat) : Int) := by rw [wrap_id (by omega) (by omega)]; omega
          have z2 : IntKind.i64.wrap (((wAt s 4 : Nat) : Int) - (((th6 s).length - (kr.length - 8) : Nat) : Int)) = ((wAt s 4 - ((th6 s).length - (kr.length - 8)) : Nat) : Int) := by rw [wrap_id (by omega) (by omega)]; omega
          have hsh := ev_short hS (n + 2) (kr.drop 8) ((wAt s 4 - ((th6 s).length - (kr.length - 8)) : Nat) : Int)
          rw [hdl] at hsh
          simp only [if_true, hdl, ne_eq, not_true_eq_false, if_false, true_and, if_neg c6]
          by_cases c7 : kr.length - 8 < min 8 (wAt s 4 - ((th6 s).length - (kr.length - 8)))
          · rw [decide_eq_true (by omega)] at hsh
            simp only [if_pos c7, Int.reduceEq, if_false]
            simp only [go_sem, ↓reduceIte, reduceCtorEq, upd_ne, back_new (no_at), Nat.reduceAdd, Nat.reduceEqDiff, Nat.reduceMul, Nat.reduceSub, Nat.reduceLeDiff, Nat.reduceLT, Int.reduceToNat, Int.reduceLE, Int.reduceLT, Int.reduceEq, UInt8.reduceOfNat, List.getElem?_map, Int.toNat_natCast, Nat.sub_zero, pMinmax, pMinmax2, Option.bind_some, c1', c2', hfa, hN, hU, hC, fE, g0, g4, g5, g6, g7, byteLV, e4, q1, q2, q3, q4, q5, q6, q7, d1, d2, d3, k1, k2, v5, v6, hlf, hlt, l8, l24, t8, t24, hmm, m1, m2, m3, Bool.false_eq_true, c6', hN2, hU2, h0, h2, h3, r1, r2, r3, r4, r5, r6, r7, r8, r8', r9, n4', n8', u4, u8', hdl, z1, z2, hsh]
          · rw [decide_eq_false (by omega)] at hsh
            simp only [if_neg c7, if_true]
            simp only [go_sem, ↓reduceIte, reduceCtorEq, upd_ne, back_new (no_at), Nat.reduceAdd, Nat.reduceEqDiff, Nat.reduceMul, Nat.reduceSub, Nat.reduceLeDiff, Nat.reduceLT, Int.reduceToNat, Int.reduceLE, Int.reduceLT, Int.reduceEq, UInt8.reduceOfNat, List.getElem?_map, Int.toNat_natCast, Nat.sub_zero, pMinmax, pMinmax2, Option.bind_some, c1', c2', hfa, hN, hU, hC, fE, g0, g4, g5, g6, g7, byteLV, e4, q1, q2, q3, q4, q5, q6, q7, d1, d2, d3, k1, k2, v5, v6, hlf, hlt, l8, l24, t8, t24, hmm, m1, m2, m3, Bool.false_eq_true, c6', hN2, hU2, h0, h2, h3, r1, r2, r3, r4, r5, r6, r7, r8, r8', r9, n4', n8', u4, u8', hdl, z1, z2, hsh]
      · have z1 : IntKind.i64.wrap (((th6 s).length : Int) - (kr.length : Int)) = (((th6 s).length - kr.length : Nat) : Int) := by rw [wrap_id (by omega) (by omega)]; omega
        have z2 : IntKind.i64.wrap (((wAt s 4 : Nat) : Int) - (((th6 s).length - kr.length : Nat) : Int)) = ((wAt s 4 - ((th6 s).length - kr.length) : Nat) : Int) := by rw [wrap_id (by omega) (by omega)]; omega
        have hsh := ev_short hS (n + 2) kr ((wAt s 4 - ((th6 s).length - kr.length) : Nat) : Int)
        have c6n : ¬ (kp = 44 ∧ kr.length < 8) := fun h => c5 h.1
        simp only [if_neg c5, ne_eq, not_true_eq_false, if_false, if_neg c6n]
        by_cases c7 : kr.length < min 8 (wAt s 4 - ((th6 s).length - kr.length))
        · rw [decide_eq_true (by omega)] at hsh
          simp only [if_pos c7, Int.reduceEq, if_false]
          simp only [go_sem, ↓reduceIte, reduceCtorEq, upd_ne, back_new (no_at), Nat.reduceAdd, Nat.reduceEqDiff, Nat.reduceMul, Nat.reduceSub, Nat.reduceLeDiff, Nat.reduceLT, Int.reduceToNat, Int.reduceLE, Int.reduceLT, Int.reduceEq, UInt8.reduceOfNat, List.getElem?_map, Int.toNat_natCast, Nat.sub_zero, pMinmax, pMinmax2, Option.bind_some, c1', c2', hfa, hN, hU, hC, fE, g0, g4, g5, g6, g7, byteLV, e4, q1, q2, q3, q4, q5, q6, q7, d1, d2, d3, k1, k2, v5, v6, hlf, hlt, l8, l24, t8, t24, hmm, m1, m2, m3, Bool.false_eq_true, c5, z1, z2, hsh]
        · rw [decide_eq_false (by omega)] at hsh
          simp only [if_neg c7, if_true]
          simp only [go_sem, ↓reduceIte, reduceCtorEq, upd_ne, back_new (no_at), Nat.reduceAdd, Nat.reduceEqDiff, Nat.reduceMul, Nat.reduceSub, Nat.reduceLeDiff, Nat.reduceLT, Int.reduceToNat, Int.reduceLE, Int.reduceLT, Int.reduceEq, UInt8.reduceOfNat, List.getElem?_map, Int.toNat_natCast, Nat.sub_zero, pMinmax, pMinmax2, Option.bind_some, c1', c2', hfa, hN, hU, hC, fE, g0, g4, g5, g6, g7, byteLV, e4, q1, q2, q3, q4, q5, q6, q7, d1, d2, d3, k1, k2, v5, v6, hlf, hlt, l8, l24, t8, t24, hmm, m1, m2, m3, Bool.false_eq_true, c5, z1, z2, hsh]
end
end Go.Ev

namespace Go.Ev
set_option linter.unusedSimpArgs false
set_option linter.unusedVariables false
set_option maxRecDepth 4000
set_option maxHeartbeats 4000000
section
variable {S : Sys} (hS : Has S) (n : Nat)
include hS
theorem ev_rchain6 (next : Int) (s : List UInt8) (hs : s.length ≤ 140737488351232) : S.ev (n + 1) id_interpreterref04_Chain [.int .i64 next, .str s] none = some (chLV' (chC 8 true next s), none) := by
  rw [Sys.step hS.h_interpreterref04_Chain, F_interpreterref04_Chain_eq]
  unfold F_interpreterref04_Chain
  (try simp only [guard_merge, or_merge, and_merge, or_pick, and_pick, guard_or, guard_and]); simp only [to_ob]
  simp only [go_sem, ↓reduceIte, reduceCtorEq, upd_ne, back_new (no_at), Nat.reduceAdd, Nat.reduceEqDiff, Nat.reduceMul, Nat.reduceSub, Nat.reduceLeDiff, Nat.reduceLT, Int.reduceToNat, Int.reduceLE, Int.reduceLT, Int.reduceEq, UInt8.reduceOfNat]
  refine while_rule (fun k q => ∃ (acc : List (Int × List UInt8)) (next' : Int) (t : List UInt8), q = ([.nils, .int .i64 0, .str [], .int .i64 0, .lst (some (8, 1)) (acc.map extLV), .int .i64 next', .str t], upd noSlots 8 (.tag 1 acc.length 2)) ∧ acc.length + k = 8 ∧ t.length ≤ s.length ∧ chP acc (chC k acc.isEmpty next' t) = chC 8 true next s) 8 ⟨[], next, s, rfl, rfl, Nat.le_refl _, chP_nil _ _ _ _⟩ ?_
  rintro k q ⟨acc, next', t, rfl, hk, ht, hr⟩
  by_cases c1 : isE next'
  · by_cases c2 : next' = 0 ∧ acc.isEmpty = false
    · have c2' := c2
      obtain ⟨rfl, c2x⟩ := c2'
      have c2a : 0 < (acc.length : Int) := by
        cases acc with
        | nil => simp at c2x
        | cons x l => simp only [List.length_cons]; omega
      have hr : chC 8 true next s = (8, [], 0, []) := by
        rw [← hr]
        cases k with
        | zero => rw [chC, if_pos c1, if_pos c2]; rfl
        | succ k => rw [chC, if_pos c1, if_pos c2]; rfl
      rw [hr]
      simp only [go_sem, ↓reduceIte, reduceCtorEq, upd_ne, back_new (no_at), Nat.reduceAdd, Nat.reduceEqDiff, Nat.reduceMul, Nat.reduceSub, Nat.reduceLeDiff, Nat.reduceLT, Int.reduceToNat, Int.reduceLE, Int.reduceLT, Int.reduceEq, UInt8.reduceOfNat, List.getElem?_map, Int.toNat_natCast, c2a, List.length_map, Nxt, exIf, chLV']
      try rfl
    · have c2b : ¬ (next' = 0 ∧ 0 < (acc.length : Int)) := by
        rintro ⟨h1, h2⟩
        apply c2
        refine ⟨h1, ?_⟩
        cases acc with
        | nil => simp at h2
        | cons x l => rfl
      have hzz : ((next' = 0) = True ∧ ¬ 0 < (acc.length : Int)) ∨ (¬ next' = 0 ∧ (next' = 43 ∨ next' = 60)) := by
        by_cases h : next' = 0
        · exact Or.inl ⟨eq_true h, fun q => c2b ⟨h, q⟩⟩
        · refine Or.inr ⟨h, ?_⟩
          rcases c1 with (q | q) | q
          · exact absurd q h
          · exact Or.inl q
          · exact Or.inr q
      rcases hzz with ⟨hz, hz2⟩ | ⟨hz, hz2⟩
      · cases k with
        | zero =>
          have c4 : (acc.length : Int) = 8 := by omega
          have hr : chC 8 true next s = (3, [], 0, []) := by
            rw [← hr, chC, if_pos c1, if_neg c2]; rfl
          rw [hr]
          first | (exfalso; omega) | simp only [go_sem, ↓reduceIte, reduceCtorEq, upd_ne, back_new (no_at), Nat.reduceAdd, Nat.reduceEqDiff, Nat.reduceMul, Nat.reduceSub, Nat.reduceLeDiff, Nat.reduceLT, Int.reduceToNat, Int.reduceLE, Int.reduceLT, Int.reduceEq, UInt8.reduceOfNat, List.getElem?_map, Int.toNat_natCast, hz, hz2, c4, List.length_map, Nxt, exIf, chLV']
          try rfl
        | succ k =>
          have c4 : ¬ (acc.length : Int) = 8 := by omega
          by_cases c3 : t.length < 8
          · have c3' : (t.length : Int) < 8 := by omega
            have c5 : t.length < sz6 t := by unfold sz6; omega
            have hr : chC 8 true next s = (7, [], 0, []) := by
              rw [← hr, chC, if_pos c1, if_neg c2, if_pos c5]; rfl
            rw [hr]
            simp only [go_sem, ↓reduceIte, reduceCtorEq, upd_ne, back_new (no_at), Nat.reduceAdd, Nat.reduceEqDiff, Nat.reduceMul, Nat.reduceSub, Nat.reduceLeDiff, Nat.reduceLT, Int.reduceToNat, Int.reduceLE, Int.reduceLT, Int.reduceEq, UInt8.reduceOfNat, List.getElem?_map, Int.toNat_natCast, hz, hz2, c4, c3', List.length_map, Nxt, exIf, chLV']
            try rfl
          · have c3' : ¬ (t.length : Int) < 8 := by omega
            have g0 := get_def (s := t) (i := 0) (by omega)
            have g1 := get_def (s := t) (i := 1) (by omega)
            have hb1 := bAt_le t 1
            have hb0 := bAt_le t 0
            have e1 : IntKind.i64.wrap ((t.getD 1 0).toNat : Int) = ((bAt t 1 : Nat) : Int) := wrap_id (by omega) (by unfold bAt at hb1; omega)
            have e0 : IntKind.i64.wrap ((t.getD 0 0).toNat : Int) = ((bAt t 0 : Nat) : Int) := wrap_id (by omega) (by unfold bAt at hb0; omega)
            have e2 : IntKind.i64.wrap (8 * IntKind.i64.wrap (1 + ((bAt t 1 : Nat) : Int))) = ((sz6 t : Nat) : Int) := by
              rw [wrap_id (n := 1 + ((bAt t 1 : Nat) : Int)) (by omega) (by omega), wrap_id (by omega) (by omega)]; unfold sz6; omega
            by_cases c5 : t.length < sz6 t
            · have c5' : (t.length : Int) < ((sz6 t : Nat) : Int) := by omega
              have hr : chC 8 true next s = (7, [], 0, []) := by
                rw [← hr, chC, if_pos c1, if_neg c2, if_pos c5]; rfl
              rw [hr]
              simp only [go_sem, ↓reduceIte, reduceCtorEq, upd_ne, back_new (no_at), Nat.reduceAdd, Nat.reduceEqDiff, Nat.reduceMul, Nat.reduceSub, Nat.reduceLeDiff, Nat.reduceLT, Int.reduceToNat, Int.reduceLE, Int.reduceLT, Int.reduceEq, UInt8.reduceOfNat, List.getElem?_map, Int.toNat_natCast, hz, hz2, c4, c3', g1, byteLV, e1, e2, c5', List.length_map, Nxt, exIf, chLV']
              try rfl
            · have c5' : ¬ (t.length : Int) < ((sz6 t : Nat) : Int) := by omega
              have l1 : sz6 t ≤ t.length := by omega
              have l2 : 2 ≤ sz6 t := by unfold sz6; omega
              have ha := wAppend_tag (e := 2) (by' := 24) (d := 55) (t := 8) (g := 1) (n := acc.length) (sz := 2) (sl := upd noSlots 8 (.tag 1 acc.length 2)) (l := acc.map extLV) (new := [extLV (next', (t.drop 2).take (sz6 t - 2))]) upd_same (by simp) rfl (ext_flat acc) (by simp [flatLen, sumLen]) (by simp) (by simp; omega)
              have hm : acc.map extLV ++ [extLV (next', (t.drop 2).take (sz6 t - 2))] = (acc ++ [(next', (t.drop 2).take (sz6 t - 2))]).map extLV := by simp
              rw [hm, upd_upd] at ha
              simp only [go_sem, ↓reduceIte, reduceCtorEq, upd_ne, back_new (no_at), Nat.reduceAdd, Nat.reduceEqDiff, Nat.reduceMul, Nat.reduceSub, Nat.reduceLeDiff, Nat.reduceLT, Int.reduceToNat, Int.reduceLE, Int.reduceLT, Int.reduceEq, UInt8.reduceOfNat, List.getElem?_map, Int.toNat_natCast, hz, hz2, c4, c3', g0, g1, byteLV, e0, e1, e2, c5', l1, l2, ha, List.length_map, Nat.le_refl]
              refine ⟨k, by omega, acc ++ [(next', (t.drop 2).take (sz6 t - 2))], ((bAt t 0 : Nat) : Int), t.drop (sz6 t), ?_, by simp; omega, by simp; omega, ?_⟩
              · simp
              · rw [← hr, chP_step c1 c2 c5]
                congr 2
                cases acc <;> rfl
      · cases k with
        | zero =>
          have c4 : (acc.length : Int) = 8 := by omega
          have hr : chC 8 true next s = (3, [], 0, []) := by
            rw [← hr, chC, if_pos c1, if_neg c2]; rfl
          rw [hr]
          first | (exfalso; omega) | simp only [go_sem, ↓reduceIte, reduceCtorEq, upd_ne, back_new (no_at), Nat.reduceAdd, Nat.reduceEqDiff, Nat.reduceMul, Nat.reduceSub, Nat.reduceLeDiff, Nat.reduceLT, Int.reduceToNat, Int.reduceLE, Int.reduceLT, Int.reduceEq, UInt8.reduceOfNat, List.getElem?_map, Int.toNat_natCast, hz, hz2, c4, List.length_map, Nxt, exIf, chLV']
          try rfl
        | succ k =>
          have c4 : ¬ (acc.length : Int) = 8 := by omega
          by_cases c3 : t.length < 8
          · have c3' : (t.length : Int) < 8 := by omega
            have c5 : t.length < sz6 t := by unfold sz6; omega
            have hr : chC 8 true next s = (7, [], 0, []) := by
              rw [← hr, chC, if_pos c1, if_neg c2, if_pos c5]; rfl
            rw [hr]
            simp only [go_sem, ↓reduceIte, reduceCtorEq, upd_ne, back_new (no_at), Nat.reduceAdd, Nat.reduceEqDiff, Nat.reduceMul, Nat.reduceSub, Nat.reduceLeDiff, Nat.reduceLT, Int.reduceToNat, Int.reduceLE, Int.reduceLT, Int.reduceEq, UInt8.reduceOfNat, List.getElem?_map, Int.toNat_natCast, hz, hz2, c4, c3', List.length_map, Nxt, exIf, chLV']
            try rfl
          · have c3' : ¬ (t.length : Int) < 8 := by omega
            have g0 := get_def (s := t) (i := 0) (by omega)
            have g1 := get_def (s := t) (i := 1) (by omega)
            have hb1 := bAt_le t 1
            have hb0 := bAt_le t 0
            have e1 : IntKind.i64.wrap ((t.getD 1 0).toNat : Int) = ((bAt t 1 : Nat) : Int) := wrap_id (by omega) (by unfold bAt at hb1; omega)
            have e0 : IntKind.i64.wrap ((t.getD 0 0).toNat : Int) = ((bAt t 0 : Nat) : Int) := wrap_id (by omega) (by unfold bAt at hb0; omega)
            have e2 : IntKind.i64.wrap (8 * IntKind.i64.wrap (1 + ((bAt t 1 : Nat) : Int))) = ((sz6 t : Nat) : Int) := by
              rw [wrap_id (n := 1 + ((bAt t 1 : Nat) : Int)) (by omega) (by omega), wrap_id (by omega) (by omega)]; unfold sz6; omega
            by_cases c5 : t.length < sz6 t
            · have c5' : (t.length : Int) < ((sz6 t : Nat) : Int) := by omega
              have hr : chC 8 true next s = (7, [], 0, []) := by
                rw [← hr, chC, if_pos c1, if_neg c2, if_pos c5]; rfl
              rw [hr]
              simp only [go_sem, ↓reduceIte, reduceCtorEq, upd_ne, back_new (no_at), Nat.reduceAdd, Nat.reduceEqDiff, Nat.reduceMul, Nat.reduceSub, Nat.reduceLeDiff, Nat.reduceLT, Int.reduceToNat, Int.reduceLE, Int.reduceLT, Int.reduceEq, UInt8.reduceOfNat, List.getElem?_map, Int.toNat_natCast, hz, hz2, c4, c3', g1, byteLV, e1, e2, c5', List.length_map, Nxt, exIf, chLV']
              try rfl
            · have c5' : ¬ (t.length : Int) < ((sz6 t : Nat) : Int) := by omega
              have l1 : sz6 t ≤ t.length := by omega
              have l2 : 2 ≤ sz6 t := by unfold sz6; omega
              have ha := wAppend_tag (e := 2) (by' := 24) (d := 55) (t := 8) (g := 1) (n := acc.length) (sz := 2) (sl := upd noSlots 8 (.tag 1 acc.length 2)) (l := acc.map extLV) (new := [extLV (next', (t.drop 2).take (sz6 t - 2))]) upd_same (by simp) rfl (ext_flat acc) (by simp [flatLen, sumLen]) (by simp) (by simp; omega)
              have hm : acc.map extLV ++ [extLV (next', (t.drop 2).take (sz6 t - 2))] = (acc ++ [(next', (t.drop 2).take (sz6 t - 2))]).map extLV := by simp
              rw [hm, upd_upd] at ha
              simp only [go_sem, ↓reduceIte, reduceCtorEq, upd_ne, back_new (no_at), Nat.reduceAdd, Nat.reduceEqDiff, Nat.reduceMul, Nat.reduceSub, Nat.reduceLeDiff, Nat.reduceLT, Int.reduceToNat, Int.reduceLE, Int.reduceLT, Int.reduceEq, UInt8.reduceOfNat, List.getElem?_map, Int.toNat_natCast, hz, hz2, c4, c3', g0, g1, byteLV, e0, e1, e2, c5', l1, l2, ha, List.length_map, Nat.le_refl]
              refine ⟨k, by omega, acc ++ [(next', (t.drop 2).take (sz6 t - 2))], ((bAt t 0 : Nat) : Int), t.drop (sz6 t), ?_, by simp; omega, by simp; omega, ?_⟩
              · simp
              · rw [← hr, chP_step c1 c2 c5]
                congr 2
                cases acc <;> rfl
  · have hr : chC 8 true next s = (0, acc, next', t) := by
      rw [← hr]
      cases k with
      | zero => rw [chC, if_neg c1]; simp [chP]
      | succ k => rw [chC, if_neg c1]; simp [chP]
    have h1 : ¬ next' = 0 := fun h => c1 (Or.inl (Or.inl h))
    have h2 : ¬ next' = 43 := fun h => c1 (Or.inl (Or.inr h))
    have h3 : ¬ next' = 60 := fun h => c1 (Or.inr h)
    rw [hr]
    simp only [go_sem, ↓reduceIte, reduceCtorEq, upd_ne, back_new (no_at), Nat.reduceAdd, Nat.reduceEqDiff, Nat.reduceMul, Nat.reduceSub, Nat.reduceLeDiff, Nat.reduceLT, Int.reduceToNat, Int.reduceLE, Int.reduceLT, Int.reduceEq, UInt8.reduceOfNat, List.getElem?_map, Int.toNat_natCast, h1, h2, h3, Nxt, exIf, chLV']
    try rfl
end
end Go.Ev

namespace Go.Ev
set_option linter.unusedSimpArgs false
set_option linter.unusedVariables false
set_option maxRecDepth 10000
set_option maxHeartbeats 16000000
section
variable {S : Sys} (hS : Has S) (n : Nat)
include hS
theorem ev_number15m (s : List UInt8) (i m : Nat) (h : i + m ≤ s.length) (hm : m ≤ 4) (hs : s.length ≤ 140737488351232) : S.ev (n + 3) id_interpreterref15_number [.str s, .int .i64 (i : Int), .int .i64 (m : Int)] none = some (.int .i64 ((numN ((s.drop i).take m) : Nat) : Int), none) := by
  rw [Sys.step hS.h_interpreterref15_number, F_interpreterref15_number_eq]
  unfold F_interpreterref15_number
  have ht := ev_rNumber hS n s i m h hm hs
  simp only [to_ob]
  simp only [go_sem, ↓reduceIte, reduceCtorEq, upd_ne, back_new (no_at), Nat.reduceAdd, Nat.reduceEqDiff, Nat.reduceMul, Nat.reduceSub, Nat.reduceLeDiff, Nat.reduceLT, Int.reduceToNat, Int.reduceLE, Int.reduceLT, Int.reduceEq, UInt8.reduceOfNat, ht]
theorem ev_rinside6 (s : List UInt8) (hs : s.length ≤ 1000000) : S.ev (n + 4) id_interpreterref15_Inside6 [.str s] none = some (.tup [iLV6 s, .int .i64 (iC6 s), .int .i64 (iK6 s)], none) := by
  rw [Sys.step hS.h_interpreterref15_Inside6, F_interpreterref15_Inside6_eq]
  unfold F_interpreterref15_Inside6 F_interpreterref15_Inside6_k1
  (try simp only [guard_merge, or_merge, and_merge, or_pick, and_pick, guard_or, guard_and]); simp only [to_ob]
  unfold iLV6 iC6 iK6
  by_cases c1 : s.length < 40
  · have c1' : (s.length : Int) < 40 := by omega
    simp only [go_sem, ↓reduceIte, reduceCtorEq, upd_ne, back_new (no_at), Nat.reduceAdd, Nat.reduceEqDiff, Nat.reduceMul, Nat.reduceSub, Nat.reduceLeDiff, Nat.reduceLT, Int.reduceToNat, Int.reduceLE, Int.reduceLT, Int.reduceEq, UInt8.reduceOfNat, c1, c1']
  · have c1' : ¬ (s.length : Int) < 40 := by omega
    have g0 := get_def (s := s) (i := 0) (by omega)
    have hb0 := bAt_le s 0
    have e4 : IntKind.u8.wrap (Int.tdiv ((s.getD 0 0).toNat : Int) 16) = ((bAt s 0 / 16 : Nat) : Int) := by
      rw [show Int.tdiv ((s.getD 0 0).toNat : Int) 16 = ((bAt s 0 / 16 : Nat) : Int) from rfl, u8_wrap]; congr 1; omega
    by_cases c2 : bAt s 0 / 16 ≠ 6
    · have c2' : ¬ ((bAt s 0 / 16 : Nat) : Int) = 6 := by omega
      simp only [go_sem, ↓reduceIte, reduceCtorEq, upd_ne, back_new (no_at), Nat.reduceAdd, Nat.reduceEqDiff, Nat.reduceMul, Nat.reduceSub, Nat.reduceLeDiff, Nat.reduceLT, Int.reduceToNat, Int.reduceLE, Int.reduceLT, Int.reduceEq, UInt8.reduceOfNat, List.getElem?_map, Int.toNat_natCast, c1, c1', c2, c2', g0, byteLV, e4]
    · have c2' : ((bAt s 0 / 16 : Nat) : Int) = 6 := by omega
      have g6 := get_def (s := s) (i := 6) (by omega)
      have g7 := get_def (s := s) (i := 7) (by omega)
      have hb6 := bAt_le s 6
      have hb7 := bAt_le s 7
      have hw4 := wAt_le s 4
      have q4 : S.ev (n + 3) id_interpreterref15_number [.str s, .int .i64 4, .int .i64 2] none = some (.int .i64 ((wAt s 4 : Nat) : Int), none) := ev_number15 hS n s 4 (by omega) (by omega)
      have q6 : IntKind.i64.wrap ((s.getD 6 0).toNat : Int) = ((bAt s 6 : Nat) : Int) := wrap_id (by omega) (by unfold bAt at hb6; omega)
      have q7 : IntKind.i64.wrap ((s.getD 7 0).toNat : Int) = ((bAt s 7 : Nat) : Int) := wrap_id (by omega) (by unfold bAt at hb7; omega)
      have hU : S.ev (n + 3) id_interpreterref15_number [.str s, .int .i64 0, .int .i64 4] none = some (.int .i64 ((numN (s.take 4) : Nat) : Int), none) := by
        have := ev_number15m hS n s 0 4 (by omega) (by omega) (by omega)
        rw [List.drop_zero] at this
        exact this
      have hx := num4_lt s
      have d1 : IntKind.i64.wrap (Int.tdiv ((numN (s.take 4) : Nat) : Int) 1048576) = ((numN (s.take 4) / 1048576 : Nat) : Int) := by
        rw [show Int.tdiv ((numN (s.take 4) : Nat) : Int) 1048576 = ((numN (s.take 4) / 1048576 : Nat) : Int) from rfl, wrap_id (by omega) (by omega)]
      have d2 : Int.tmod ((numN (s.take 4) / 1048576 : Nat) : Int) 256 = pcl6 s := rfl
      have d3 : Int.tmod ((numN (s.take 4) : Nat) : Int) 1048576 = pfl6 s := rfl
      have hlf : (pfr6 s).length = 16 := by unfold pfr6; simp; omega
      have hlt : (pto6 s).length = 16 := by unfold pto6; simp; omega
      have l40 : 40 ≤ s.length := by omega
      have htl : (th6 s).length ≤ wAt s 4 := by unfold th6; rw [List.length_take]; omega
      have hC : S.ev (n + 3) id_interpreterref04_Chain [.int .i64 ((bAt s 6 : Nat) : Int), .str (th6 s)] none = some (chLV' (k6 s), none) := ev_rchain6 hS (n + 2) _ _ (by omega)
      have hkl : (k6 s).2.2.2.length ≤ (th6 s).length := chC_rest _ _ _ _
      have t40 : (s.drop 40).take (s.length - 40) = s.drop 40 := List.take_of_length_le (by simp)
      rw [if_neg c1, if_neg c2]
      unfold chLV' at hC
      unfold mk6 iR6 cl6 dD6
      rcases hks : k6 s with ⟨kc, kl, kp, kr⟩
      rw [hks] at hC hkl
      dsimp only at hC hkl ⊢
      by_cases p1 : ((wAt s 4 : Nat) : Int) < ((s.length - 40 : Nat) : Int)
      · have v7 : (s.drop 40).take (wAt s 4) = th6 s := rfl
        have m1 : wAt s 4 ≤ s.length - 40 := by omega
        have thl : (th6 s).length = wAt s 4 := by unfold th6; rw [List.length_take, List.length_drop]; omega
        by_cases c4 : kc = 0
        case neg =>
          simp only [go_sem, ↓reduceIte, reduceCtorEq, upd_ne, back_new (no_at), Nat.reduceAdd, Nat.reduceEqDiff, Nat.reduceMul, Nat.reduceSub, Nat.reduceLeDiff, Nat.reduceLT, Int.reduceToNat, Int.reduceLE, Int.reduceLT, Int.reduceEq, UInt8.reduceOfNat, List.getElem?_map, Int.toNat_natCast, Nat.sub_zero, c1', c2', p1, t40, v7, hC, hU, g0, g6, g7, byteLV, e4, q4, q6, q7, d1, d2, d3, hlf, hlt, l40, m1, c4, List.length_drop]
        subst c4
        simp only [go_sem, ↓reduceIte, reduceCtorEq, upd_ne, back_new (no_at), Nat.reduceAdd, Nat.reduceEqDiff, Nat.reduceMul, Nat.reduceSub, Nat.reduceLeDiff, Nat.reduceLT, Int.reduceToNat, Int.reduceLE, Int.reduceLT, Int.reduceEq, UInt8.reduceOfNat, List.getElem?_map, Int.toNat_natCast, Nat.sub_zero, c1', c2', p1, t40, v7, hC, hU, g0, g6, g7, byteLV, e4, q4, q6, q7, d1, d2, d3, hlf, hlt, l40, m1, List.length_drop]
        refine while_rule (fun k q => ∃ i : Nat, i + k = 16 ∧ q = ([.int .i64 (i : Int)], upd (upd (upd noSlots 2 (.obj 1 (ip6LV 0 0 0 y16 y16 .nils false 0 0 false 0 []))) 5 (.obj 1 z6LV)) 13 (.obj 1 (ip6LV (pcl6 s) (pfl6 s) (bAt s 7 : Nat) ((pfr6 s).take i ++ List.replicate (16 - i) 0) ((pto6 s).take i ++ List.replicate (16 - i) 0) (.lst none (kl.map extLV)) false 0 0 false kp kr)))) 16 ⟨0, rfl, by simp⟩ ?_
        rintro k q ⟨i, hi, rfl⟩
        simp only [go_sem, ↓reduceIte, reduceCtorEq, upd_ne, back_new (no_at), Nat.reduceAdd, Nat.reduceEqDiff, Nat.reduceMul, Nat.reduceSub, Nat.reduceLeDiff, Nat.reduceLT, Int.reduceToNat, Int.reduceLE, Int.reduceLT, Int.reduceEq, UInt8.reduceOfNat]
        refine nxt_ite (fun h => ?_) (fun h => ?_)
        · have hi4 : i < 16 := by omega
          have ga := get_def (s := s) (i := 8 + i) (by omega)
          have gb := get_def (s := s) (i := 24 + i) (by omega)
          have i1 : IntKind.i64.wrap (8 + (i : Int)) = ((8 + i : Nat) : Int) := by rw [wrap_id (by omega) (by omega)]; omega
          have i2 : IntKind.i64.wrap (24 + (i : Int)) = ((24 + i : Nat) : Int) := by rw [wrap_id (by omega) (by omega)]; omega
          have i3 : IntKind.i64.wrap ((i : Int) + 1) = ((i + 1 : Nat) : Int) := by rw [wrap_id (by omega) (by omega)]; omega
          have hla : ((pfr6 s).take i ++ List.replicate (16 - i) 0).length = 16 := by rw [List.length_append, List.length_take, List.length_replicate]; omega
          have hlb : ((pto6 s).take i ++ List.replicate (16 - i) 0).length = 16 := by rw [List.length_append, List.length_take, List.length_replicate]; omega
          have hla2 : ((pfr6 s).take (i + 1) ++ List.replicate (16 - (i + 1)) 0).length = 16 := by rw [List.length_append, List.length_take, List.length_replicate]; omega
          obtain ⟨ca, hca⟩ : ∃ c0, ((pfr6 s).take i ++ List.replicate (16 - i) 0)[i]? = some c0 := ⟨_, List.getElem?_eq_getElem (by omega)⟩
          obtain ⟨cb, hcb⟩ : ∃ c0, ((pto6 s).take i ++ List.replicate (16 - i) 0)[i]? = some c0 := ⟨_, List.getElem?_eq_getElem (by omega)⟩
          have sa := set_mid hlf hi4 (sub_get (s := s) (a := 8) (m := 16) hi4 (by omega))
          have sb := set_mid hlt hi4 (sub_get (s := s) (a := 24) (m := 16) hi4 (by omega))
          simp only [go_sem, ↓reduceIte, reduceCtorEq, upd_ne, back_new (no_at), Nat.reduceAdd, Nat.reduceEqDiff, Nat.reduceMul, Nat.reduceSub, Nat.reduceLeDiff, Nat.reduceLT, Int.reduceToNat, Int.reduceLE, Int.reduceLT, Int.reduceEq, UInt8.reduceOfNat, List.getElem?_map, Int.toNat_natCast, ga, gb, i1, i2, i3, hla, hlb, hla2, hca, hcb, sa, sb, hi4, byteLV, u8_lt, UInt8.ofNat_toNat, Nat.mul_one, eq_self]
          exact ⟨k - 1, by omega, i + 1, by omega, rfl⟩
        · obtain rfl : i = 16 := by omega
          have ta : (pfr6 s).take 16 ++ List.replicate (16 - 16) 0 = pfr6 s := by rw [List.take_of_length_le (by omega)]; simp
          have tb : (pto6 s).take 16 ++ List.replicate (16 - 16) 0 = pto6 s := by rw [List.take_of_length_le (by omega)]; simp
          rw [ta, tb]
          by_cases c5 : kp = 44
          · subst c5
            by_cases c6 : kr.length < 8
            · have c6' : (kr.length : Int) < 8 := by omega
              simp only [go_sem, ↓reduceIte, reduceCtorEq, upd_ne, back_new (no_at), Nat.reduceAdd, Nat.reduceEqDiff, Nat.reduceMul, Nat.reduceSub, Nat.reduceLeDiff, Nat.reduceLT, Int.reduceToNat, Int.reduceLE, Int.reduceLT, Int.reduceEq, UInt8.reduceOfNat, List.getElem?_map, Int.toNat_natCast, Nxt, exIf, Nat.sub_zero, c6, c6', hlf, hlt]
            · have c6' : ¬ (kr.length : Int) < 8 := by omega
              have h0 := get_def (s := kr) (i := 0) (by omega)
              have h3 := get_def (s := kr) (i := 3) (by omega)
              have i0 := bAt_le kr 0
              have i3 := (kr.getD 3 0).toNat_lt
              have hw2 := wAt_le kr 2
              have r1 : S.ev (n + 3) id_interpreterref15_number [.str kr, .int .i64 2, .int .i64 2] none = some (.int .i64 ((wAt kr 2 : Nat) : Int), none) := ev_number15 hS n kr 2 (by omega) (by omega)
              have r2 : S.ev (n + 3) id_interpreterref15_number [.str kr, .int .i64 4, .int .i64 4] none = some (.int .i64 ((fi6 kr : Nat) : Int), none) := ev_number15m hS n kr 4 4 (by omega) (by omega) (by omega)
              have r5 : IntKind.i64.wrap ((kr.getD 0 0).toNat : Int) = ((bAt kr 0 : Nat) : Int) := wrap_id (by omega) (by unfold bAt at i0; omega)
              have r6 : IntKind.i64.wrap (IntKind.i64.wrap (Int.tdiv ((wAt kr 2 : Nat) : Int) 8) * 8) = ((fa6 kr : Nat) : Int) := by
                rw [show Int.tdiv ((wAt kr 2 : Nat) : Int) 8 = ((wAt kr 2 / 8 : Nat) : Int) from rfl, wrap_id (n := ((wAt kr 2 / 8 : Nat) : Int)) (by omega) (by omega), wrap_id (by omega) (by omega)]
                unfold fa6; omega
              have r8 : (decide (Int.tmod ((kr.getD 3 0).toNat : Int) 2 = 1)) = fm6 kr := by
                unfold fm6
                rw [show Int.tmod ((kr.getD 3 0).toNat : Int) 2 = (((kr.getD 3 0).toNat % 2 : Nat) : Int) from rfl]
                apply decide_eq_decide.2
                show (((kr.getD 3 0).toNat % 2 : Nat) : Int) = 1 ↔ (256 * (kr.getD 2 0).toNat + (kr.getD 3 0).toNat) % 2 = 1
                omega
              have hfi : fi6 kr < 4294967296 := num4_lt (kr.drop 4)
              have r9 : IntKind.u32.wrap ((fi6 kr : Nat) : Int) = ((fi6 kr : Nat) : Int) := wrap_u32 hfi
              have m8 : 8 ≤ kr.length := by omega
              have u8' : (kr.drop 8).take (kr.length - 8) = kr.drop 8 := List.take_of_length_le (by simp)
              have hdl : (kr.drop 8).length = kr.length - 8 := by simp
              have z1 : IntKind.i64.wrap (((wAt s 4 : Nat) : Int) - (((th6 s).length : Nat) : Int)) = ((wAt s 4 - (th6 s).length : Nat) : Int) := by rw [wrap_id (by omega) (by omega)]; omega
              have z2 : IntKind.i64.wrap (((wAt s 4 - (th6 s).length : Nat) : Int) + ((kr.length - 8 : Nat) : Int)) = ((wAt s 4 - ((th6 s).length - (kr.length - 8)) : Nat) : Int) := by rw [wrap_id (by omega) (by omega)]; omega
              have hsh := ev_little hS (n + 2) (kr.drop 8) ((wAt s 4 - ((th6 s).length - (kr.length - 8)) : Nat) : Int)
              rw [hdl] at hsh
              simp only [if_true, hdl, ne_eq, not_true_eq_false, if_false, true_and, if_neg c6]
              by_cases c7 : kr.length - 8 < min 8 (wAt s 4 - ((th6 s).length - (kr.length - 8)))
              · rw [decide_eq_true (by omega)] at hsh
                simp only [if_pos c7, Int.reduceEq, if_false]
                simp only [go_sem, ↓reduceIte, reduceCtorEq, upd_ne, back_new (no_at), Nat.reduceAdd, Nat.reduceEqDiff, Nat.reduceMul, Nat.reduceSub, Nat.reduceLeDiff, Nat.reduceLT, Int.reduceToNat, Int.reduceLE, Int.reduceLT, Int.reduceEq, UInt8.reduceOfNat, List.getElem?_map, Int.toNat_natCast, Nxt, exIf, Nat.sub_zero, c6', h0, h3, byteLV, hlf, hlt, r1, r2, r5, r6, r8, r9, m8, u8', hdl, z1, z2, hsh]
              · rw [decide_eq_false (by omega)] at hsh
                simp only [if_neg c7, if_true]
                simp only [go_sem, ↓reduceIte, reduceCtorEq, upd_ne, back_new (no_at), Nat.reduceAdd, Nat.reduceEqDiff, Nat.reduceMul, Nat.reduceSub, Nat.reduceLeDiff, Nat.reduceLT, Int.reduceToNat, Int.reduceLE, Int.reduceLT, Int.reduceEq, UInt8.reduceOfNat, List.getElem?_map, Int.toNat_natCast, Nxt, exIf, Nat.sub_zero, c6', h0, h3, byteLV, hlf, hlt, r1, r2, r5, r6, r8, r9, m8, u8', hdl, z1, z2, hsh]
          · have z1 : IntKind.i64.wrap (((wAt s 4 : Nat) : Int) - (((th6 s).length : Nat) : Int)) = ((wAt s 4 - (th6 s).length : Nat) : Int) := by rw [wrap_id (by omega) (by omega)]; omega
            have z2 : IntKind.i64.wrap (((wAt s 4 - (th6 s).length : Nat) : Int) + (kr.length : Int)) = ((wAt s 4 - ((th6 s).length - kr.length) : Nat) : Int) := by rw [wrap_id (by omega) (by omega)]; omega
            have hsh := ev_little hS (n + 2) kr ((wAt s 4 - ((th6 s).length - kr.length) : Nat) : Int)
            have c6n : ¬ (kp = 44 ∧ kr.length < 8) := fun h => c5 h.1
            simp only [if_neg c5, ne_eq, not_true_eq_false, if_false, if_neg c6n]
            by_cases c7 : kr.length < min 8 (wAt s 4 - ((th6 s).length - kr.length))
            · rw [decide_eq_true (by omega)] at hsh
              simp only [if_pos c7, Int.reduceEq, if_false]
              simp only [go_sem, ↓reduceIte, reduceCtorEq, upd_ne, back_new (no_at), Nat.reduceAdd, Nat.reduceEqDiff, Nat.reduceMul, Nat.reduceSub, Nat.reduceLeDiff, Nat.reduceLT, Int.reduceToNat, Int.reduceLE, Int.reduceLT, Int.reduceEq, UInt8.reduceOfNat, List.getElem?_map, Int.toNat_natCast, Nxt, exIf, Nat.sub_zero, c5, hlf, hlt, z1, z2, hsh]
            · rw [decide_eq_false (by omega)] at hsh
              simp only [if_neg c7, if_true]
              simp only [go_sem, ↓reduceIte, reduceCtorEq, upd_ne, back_new (no_at), Nat.reduceAdd, Nat.reduceEqDiff, Nat.reduceMul, Nat.reduceSub, Nat.reduceLeDiff, Nat.reduceLT, Int.reduceToNat, Int.reduceLE, Int.reduceLT, Int.reduceEq, UInt8.reduceOfNat, List.getElem?_map, Int.toNat_natCast, Nxt, exIf, Nat.sub_zero, c5, hlf, hlt, z1, z2, hsh]
      · have v7 : s.drop 40 = th6 s := (List.take_of_length_le (by simp; omega)).symm
        have t40 : (th6 s).take (s.length - 40) = th6 s := by rw [← v7]; exact t40
        have m1 : (th6 s).length = s.length - 40 := by rw [← v7]; simp
        by_cases c4 : kc = 0
        case neg =>
          simp only [go_sem, ↓reduceIte, reduceCtorEq, upd_ne, back_new (no_at), Nat.reduceAdd, Nat.reduceEqDiff, Nat.reduceMul, Nat.reduceSub, Nat.reduceLeDiff, Nat.reduceLT, Int.reduceToNat, Int.reduceLE, Int.reduceLT, Int.reduceEq, UInt8.reduceOfNat, List.getElem?_map, Int.toNat_natCast, Nat.sub_zero, c1', c2', p1, t40, v7, hC, hU, g0, g6, g7, byteLV, e4, q4, q6, q7, d1, d2, d3, hlf, hlt, l40, m1, c4, List.length_drop]
        subst c4
        simp only [go_sem, ↓reduceIte, reduceCtorEq, upd_ne, back_new (no_at), Nat.reduceAdd, Nat.reduceEqDiff, Nat.reduceMul, Nat.reduceSub, Nat.reduceLeDiff, Nat.reduceLT, Int.reduceToNat, Int.reduceLE, Int.reduceLT, Int.reduceEq, UInt8.reduceOfNat, List.getElem?_map, Int.toNat_natCast, Nat.sub_zero, c1', c2', p1, t40, v7, hC, hU, g0, g6, g7, byteLV, e4, q4, q6, q7, d1, d2, d3, hlf, hlt, l40, m1, List.length_drop]
        refine while_rule (fun k q => ∃ i : Nat, i + k = 16 ∧ q = ([.int .i64 (i : Int)], upd (upd (upd noSlots 2 (.obj 1 (ip6LV 0 0 0 y16 y16 .nils false 0 0 false 0 []))) 5 (.obj 1 z6LV)) 13 (.obj 1 (ip6LV (pcl6 s) (pfl6 s) (bAt s 7 : Nat) ((pfr6 s).take i ++ List.replicate (16 - i) 0) ((pto6 s).take i ++ List.replicate (16 - i) 0) (.lst none (kl.map extLV)) false 0 0 false kp kr)))) 16 ⟨0, rfl, by simp⟩ ?_
        rintro k q ⟨i, hi, rfl⟩
        simp only [go_sem, ↓reduceIte, reduceCtorEq, upd_ne, back_new (no_at), Nat.reduceAdd, Nat.reduceEqDiff, Nat.reduceMul, Nat.reduceSub, Nat.reduceLeDiff, Nat.reduceLT, Int.reduceToNat, Int.reduceLE, Int.reduceLT, Int.reduceEq, UInt8.reduceOfNat]
        refine nxt_ite (fun h => ?_) (fun h => ?_)
        · have hi4 : i < 16 := by omega
          have ga := get_def (s := s) (i := 8 + i) (by omega)
          have gb := get_def (s := s) (i := 24 + i) (by omega)
          have i1 : IntKind.i64.wrap (8 + (i : Int)) = ((8 + i : Nat) : Int) := by rw [wrap_id (by omega) (by omega)]; omega
          have i2 : IntKind.i64.wrap (24 + (i : Int)) = ((24 + i : Nat) : Int) := by rw [wrap_id (by omega) (by omega)]; omega
          have i3 : IntKind.i64.wrap ((i : Int) + 1) = ((i + 1 : Nat) : Int) := by rw [wrap_id (by omega) (by omega)]; omega
          have hla : ((pfr6 s).take i ++ List.replicate (16 - i) 0).length = 16 := by rw [List.length_append, List.length_take, List.length_replicate]; omega
          have hlb : ((pto6 s).take i ++ List.replicate (16 - i) 0).length = 16 := by rw [List.length_append, List.length_take, List.length_replicate]; omega
          have hla2 : ((pfr6 s).take (i + 1) ++ List.replicate (16 - (i + 1)) 0).length = 16 := by rw [List.length_append, List.length_take, List.length_replicate]; omega
          obtain ⟨ca, hca⟩ : ∃ c0, ((pfr6 s).take i ++ List.replicate (16 - i) 0)[i]? = some c0 := ⟨_, List.getElem?_eq_getElem (by omega)⟩
          obtain ⟨cb, hcb⟩ : ∃ c0, ((pto6 s).take i ++ List.replicate (16 - i) 0)[i]? = some c0 := ⟨_, List.getElem?_eq_getElem (by omega)⟩
          have sa := set_mid hlf hi4 (sub_get (s := s) (a := 8) (m := 16) hi4 (by omega))
          have sb := set_mid hlt hi4 (sub_get (s := s) (a := 24) (m := 16) hi4 (by omega))
          simp only [go_sem, ↓reduceIte, reduceCtorEq, upd_ne, back_new (no_at), Nat.reduceAdd, Nat.reduceEqDiff, Nat.reduceMul, Nat.reduceSub, Nat.reduceLeDiff, Nat.reduceLT, Int.reduceToNat, Int.reduceLE, Int.reduceLT, Int.reduceEq, UInt8.reduceOfNat, List.getElem?_map, Int.toNat_natCast, ga, gb, i1, i2, i3, hla, hlb, hla2, hca, hcb, sa, sb, hi4, byteLV, u8_lt, UInt8.ofNat_toNat, Nat.mul_one, eq_self]
          exact ⟨k - 1, by omega, i + 1, by omega, rfl⟩
        · obtain rfl : i = 16 := by omega
          have ta : (pfr6 s).take 16 ++ List.replicate (16 - 16) 0 = pfr6 s := by rw [List.take_of_length_le (by omega)]; simp
          have tb : (pto6 s).take 16 ++ List.replicate (16 - 16) 0 = pto6 s := by rw [List.take_of_length_le (by omega)]; simp
          rw [ta, tb]
          simp only [← m1]
          by_cases c5 : kp = 44
          · subst c5
            by_cases c6 : kr.length < 8
            · have c6' : (kr.length : Int) < 8 := by omega
              simp only [go_sem, ↓reduceIte, reduceCtorEq, upd_ne, back_new (no_at), Nat.reduceAdd, Nat.reduceEqDiff, Nat.reduceMul, Nat.reduceSub, Nat.reduceLeDiff, Nat.reduceLT, Int.reduceToNat, Int.reduceLE, Int.reduceLT, Int.reduceEq, UInt8.reduceOfNat, List.getElem?_map, Int.toNat_natCast, Nxt, exIf, Nat.sub_zero, c6, c6', hlf, hlt]
            · have c6' : ¬ (kr.length : Int) < 8 := by omega
              have h0 := get_def (s := kr) (i := 0) (by omega)
              have h3 := get_def (s := kr) (i := 3) (by omega)
              have i0 := bAt_le kr 0
              have i3 := (kr.getD 3 0).toNat_lt
              have hw2 := wAt_le kr 2
              have r1 : S.ev (n + 3) id_interpreterref15_number [.str kr, .int .i64 2, .int .i64 2] none = some (.int .i64 ((wAt kr 2 : Nat) : Int), none) := ev_number15 hS n kr 2 (by omega) (by omega)
              have r2 : S.ev (n + 3) id_interpreterref15_number [.str kr, .int .i64 4, .int .i64 4] none = some (.int .i64 ((fi6 kr : Nat) : Int), none) := ev_number15m hS n kr 4 4 (by omega) (by omega) (by omega)
              have r5 : IntKind.i64.wrap ((kr.getD 0 0).toNat : Int) = ((bAt kr 0 : Nat) : Int) := wrap_id (by omega) (by unfold bAt at i0; omega)
              have r6 : IntKind.i64.wrap (IntKind.i64.wrap (Int.tdiv ((wAt kr 2 : Nat) : Int) 8) * 8) = ((fa6 kr : Nat) : Int) := by
                rw [show Int.tdiv ((wAt kr 2 : Nat) : Int) 8 = ((wAt kr 2 / 8 : Nat) : Int) from rfl, wrap_id (n := ((wAt kr 2 / 8 : Nat) : Int)) (by omega) (by omega), wrap_id (by omega) (by omega)]
                unfold fa6; omega
              have r8 : (decide (Int.tmod ((kr.getD 3 0).toNat : Int) 2 = 1)) = fm6 kr := by
                unfold fm6
                rw [show Int.tmod ((kr.getD 3 0).toNat : Int) 2 = (((kr.getD 3 0).toNat % 2 : Nat) : Int) from rfl]
                apply decide_eq_decide.2
                show (((kr.getD 3 0).toNat % 2 : Nat) : Int) = 1 ↔ (256 * (kr.getD 2 0).toNat + (kr.getD 3 0).toNat) % 2 = 1
                omega
              have hfi : fi6 kr < 4294967296 := num4_lt (kr.drop 4)
              have r9 : IntKind.u32.wrap ((fi6 kr : Nat) : Int) = ((fi6 kr : Nat) : Int) := wrap_u32 hfi
              have m8 : 8 ≤ kr.length := by omega
              have u8' : (kr.drop 8).take (kr.length - 8) = kr.drop 8 := List.take_of_length_le (by simp)
              have hdl : (kr.drop 8).length = kr.length - 8 := by simp
              have z1 : IntKind.i64.wrap (((wAt s 4 : Nat) : Int) - (((th6 s).length : Nat) : Int)) = ((wAt s 4 - (th6 s).length : Nat) : Int) := by rw [wrap_id (by omega) (by omega)]; omega
              have z2 : IntKind.i64.wrap (((wAt s 4 - (th6 s).length : Nat) : Int) + ((kr.length - 8 : Nat) : Int)) = ((wAt s 4 - ((th6 s).length - (kr.length - 8)) : Nat) : Int) := by rw [wrap_id (by omega) (by omega)]; omega
              have hsh := ev_little hS (n + 2) (kr.drop 8) ((wAt s 4 - ((th6 s).length - (kr.length - 8)) : Nat) : Int)
              rw [hdl] at hsh
              simp only [if_true, hdl, ne_eq, not_true_eq_false, if_false, true_and, if_neg c6]
              by_cases c7 : kr.length - 8 < min 8 (wAt s 4 - ((th6 s).length - (kr.length - 8)))
              · rw [decide_eq_true (by omega)] at hsh
                simp only [if_pos c7, Int.reduceEq, if_false]
                simp only [go_sem, ↓reduceIte, reduceCtorEq, upd_ne, back_new (no_at), Nat.reduceAdd, Nat.reduceEqDiff, Nat.reduceMul, Nat.reduceSub, Nat.reduceLeDiff, Nat.reduceLT, Int.reduceToNat, Int.reduceLE, Int.reduceLT, Int.reduceEq, UInt8.reduceOfNat, List.getElem?_map, Int.toNat_natCast, Nxt, exIf, Nat.sub_zero, c6', h0, h3, byteLV, hlf, hlt, r1, r2, r5, r6, r8, r9, m8, u8', hdl, z1, z2, hsh]
              · rw [decide_eq_false (by omega)] at hsh
                simp only [if_neg c7, if_true]
                simp only [go_sem, ↓reduceIte, reduceCtorEq, upd_ne, back_new (no_at), Nat.reduceAdd, Nat.reduceEqDiff, Nat.reduceMul, Nat.reduceSub, Nat.reduceLeDiff, Nat.reduceLT, Int.reduceToNat, Int.reduceLE, Int.reduceLT, Int.reduceEq, UInt8.reduceOfNat, List.getElem?_map, Int.toNat_natCast, Nxt, exIf, Nat.sub_zero, c6', h0, h3, byteLV, hlf, hlt, r1, r2, r5, r6, r8, r9, m8, u8', hdl, z1, z2, hsh]
          · have z1 : IntKind.i64.wrap (((wAt s 4 : Nat) : Int) - (((th6 s).length : Nat) : Int)) = ((wAt s 4 - (th6 s).length : Nat) : Int) := by rw [wrap_id (by omega) (by omega)]; omega
            have z2 : IntKind.i64.wrap (((wAt s 4 - (th6 s).length : Nat) : Int) + (kr.length : Int)) = ((wAt s 4 - ((th6 s).length - kr.length) : Nat) : Int) := by rw [wrap_id (by omega) (by omega)]; omega
            have hsh := ev_little hS (n + 2) kr ((wAt s 4 - ((th6 s).length - kr.length) : Nat) : Int)
            have c6n : ¬ (kp = 44 ∧ kr.length < 8) := fun h => c5 h.1
            simp only [if_neg c5, ne_eq, not_true_eq_false, if_false, if_neg c6n]
            by_cases c7 : kr.length < min 8 (wAt s 4 - ((th6 s).length - kr.length))
            · rw [decide_eq_true (by omega)] at hsh
              simp only [if_pos c7, Int.reduceEq, if_false]
              simp only [go_sem, ↓reduceIte, reduceCtorEq, upd_ne, back_new (no_at), Nat.reduceAdd, Nat.reduceEqDiff, Nat.reduceMul, Nat.reduceSub, Nat.reduceLeDiff, Nat.reduceLT, Int.reduceToNat, Int.reduceLE, Int.reduceLT, Int.reduceEq, UInt8.reduceOfNat, List.getElem?_map, Int.toNat_natCast, Nxt, exIf, Nat.sub_zero, c5, hlf, hlt, z1, z2, hsh]
            · rw [decide_eq_false (by omega)] at hsh
              simp only [if_neg c7, if_true]
              simp only [go_sem, ↓reduceIte, reduceCtorEq, upd_ne, back_new (no_at), Nat.reduceAdd, Nat.reduceEqDiff, Nat.reduceMul, Nat.reduceSub, Nat.reduceLeDiff, Nat.reduceLT, Int.reduceToNat, Int.reduceLE, Int.reduceLT, Int.reduceEq, UInt8.reduceOfNat, List.getElem?_map, Int.toNat_natCast, Nxt, exIf, Nat.sub_zero, c5, hlf, hlt, z1, z2, hsh]
end
end Go.Ev

namespace Go.Ev
set_option linter.unusedSimpArgs false
set_option linter.unusedVariables false
set_option maxRecDepth 4000
set_option maxHeartbeats 2000000
theorem sum_in {h r : List UInt8} {x : Nat} (hh : h.length % 2 = 0) (hx : x < 65536) : sumAt 0 (h ++ (UInt8.ofNat (x / 256) :: UInt8.ofNat x :: r)) = sumAt 0 (h ++ r) + x := by
  simp only [sumAt_append, sumAt]
  rw [show 0 + h.length + 1 + 1 = 0 + h.length + 2 by omega, sumAt_two, if_pos (by omega), if_neg (by omega)]
  simp only [UInt8.toNat_ofNat']
  omega
theorem right_in {h r : List UInt8} {x : Nat} (hh : h.length % 2 = 0) (hx : x = (sumS (h ++ r)).toNat) : sumS (h ++ (UInt8.ofNat (x / 256) :: UInt8.ofNat x :: r)) = 0 := by
  have h1 := ones_le (sumAt 0 (h ++ r))
  have h2 : x = 65535 - ones (sumAt 0 (h ++ r)) := by rw [hx]; unfold sumS; omega
  rw [sumS_zero, sum_in hh (by omega), h2]
  rcases right_of0 (t := sumAt 0 (h ++ r)) with h | h
  · exact h
  · exact h.2.elim
def H4 (b0 tos all id A ttl pt x : Nat) : List UInt8 :=
  [UInt8.ofNat b0, UInt8.ofNat tos, UInt8.ofNat (all / 256), UInt8.ofNat all, UInt8.ofNat (id / 256), UInt8.ofNat id, UInt8.ofNat (A / 256), UInt8.ofNat A, UInt8.ofNat ttl, UInt8.ofNat pt, UInt8.ofNat (x / 256), UInt8.ofNat x]
theorem by4_eq (tos id ttl pt at' : Int) (df mo : Bool) (fr to op da : List UInt8) : by4 tos id ttl pt at' df mo fr to op da =
    H4 (64 + (20 + op.length) / 4) tos.toNat (20 + op.length + da.length) id.toNat (at4 at' df mo) ttl.toNat pt.toNat (x4 tos id ttl pt at' df mo fr to op da).toNat ++ (fr ++ (to ++ (op ++ da))) := by
  unfold by4 hd4 H4
  simp only [beB1, beB2, List.cons_append, List.nil_append, List.append_assoc]
theorem hd4_eq (tos id ttl pt at' : Int) (df mo : Bool) (op da : List UInt8) : hd4 tos id ttl pt at' df mo op da =
    (H4 (64 + (20 + op.length) / 4) tos.toNat (20 + op.length + da.length) id.toNat (at4 at' df mo) ttl.toNat pt.toNat 0).take 10 := by
  unfold hd4 H4
  simp only [beB1, beB2, List.cons_append, List.nil_append, List.take_succ_cons, List.take_zero]
theorem by4_len {tos id ttl pt at' : Int} {df mo : Bool} {fr to op da : List UInt8} (hfr : fr.length = 4) (hto : to.length = 4) : (by4 tos id ttl pt at' df mo fr to op da).length = 20 + op.length + da.length := by
  rw [by4_eq]; simp only [H4, List.length_append, List.length_cons, List.length_nil]; omega
theorem len4 {s : List UInt8} (h : s.length = 4) : ∃ a b c d, s = [a, b, c, d] := by
  match s, h with
  | [a, b, c, d], _ => exact ⟨a, b, c, d, rfl⟩
theorem by4_right {tos id ttl pt at' : Int} {df mo : Bool} {fr to op da : List UInt8} : sumS (H4 (64 + (20 + op.length) / 4) tos.toNat (20 + op.length + da.length) id.toNat (at4 at' df mo) ttl.toNat pt.toNat (x4 tos id ttl pt at' df mo fr to op da).toNat ++ (fr ++ (to ++ op))) = 0 := by
  have h := right_in (h := hd4 tos id ttl pt at' df mo op da) (r := fr ++ (to ++ op)) (x := (x4 tos id ttl pt at' df mo fr to op da).toNat) (by simp only [hd4, List.length_append, beB_len]) rfl
  rw [← h, hd4_eq]
  rfl
theorem at4_lt {a : Nat} {df mo : Bool} (h : a ≤ 65528) : at4 (a : Int) df mo < 32768 := by
  unfold at4
  rw [Int.toNat_natCast]
  cases df <;> cases mo <;> simp <;> omega
theorem at4_df {a : Nat} {df mo : Bool} (h : a ≤ 65528) : decide (at4 (a : Int) df mo / 16384 % 2 = 1) = df := by
  unfold at4
  rw [Int.toNat_natCast]
  cases df <;> cases mo <;> simp <;> omega
theorem at4_mo {a : Nat} {df mo : Bool} (h : a ≤ 65528) : decide (at4 (a : Int) df mo / 8192 % 2 = 1) = mo := by
  unfold at4
  rw [Int.toNat_natCast]
  cases df <;> cases mo <;> simp <;> omega
theorem at4_at {a : Nat} {df mo : Bool} (h : a ≤ 65528) (h8 : a % 8 = 0) : at4 (a : Int) df mo % 8192 * 8 = a := by
  unfold at4
  rw [Int.toNat_natCast]
  cases df <;> cases mo <;> simp <;> omega
structure Par4 (s : List UInt8) : Prop where
  h20 : 20 ≤ s.length
  hv : bAt s 0 / 16 = 4
  hn : 20 ≤ n4 s
  hl : n4 s ≤ s.length
  hs : sumS (s.take (n4 s)) = 0
  ha : n4 s ≤ wAt s 2
  hal : wAt s 2 ≤ s.length
  hb : wAt s 6 < 32768
  hw : pwhy4 s = 0
theorem pK4_zero {s : List UInt8} : pK4 s = 0 ↔ Par4 s := by
  unfold pK4
  constructor
  · intro h
    split at h
    · simp at h
    rename_i h1
    split at h
    · simp at h
    rename_i h2
    split at h
    · simp at h
    rename_i h3
    split at h
    · simp at h
    rename_i h4
    split at h
    · simp at h
    rename_i h5
    split at h
    · simp at h
    rename_i h6
    split at h
    · simp at h
    rename_i h7
    have h7a : ¬ 32768 ≤ wAt s 6 := fun q => h7 (Or.inl q)
    have h7b : pwhy4 s = 0 := Classical.byContradiction fun q => h7 (Or.inr q)
    have h2a : bAt s 0 / 16 = 4 := Classical.byContradiction fun q => h2 (Or.inl q)
    have h2b : ¬ n4 s < 20 := fun q => h2 (Or.inr q)
    exact ⟨by omega, h2a, by omega, by omega, Classical.byContradiction fun q => h4 q, by omega, by omega, by omega, h7b⟩
  · intro h
    have := h.h20; have := h.hv; have := h.hn; have := h.hl; have := h.ha; have := h.hal; have := h.hb
    rw [if_neg (by omega), if_neg (by omega), if_neg (by omega), if_neg (fun q => q h.hs), if_neg (by omega), if_neg (by omega), if_neg (fun q => by rcases q with q | q; omega; exact q h.hw)]
theorem parse_by4 {tos id ttl pt at' : Int} {df mo : Bool} {fr to op da : List UInt8} (ok : Ok4 tos id ttl pt at' mo op da) (hfr : fr.length = 4) (hto : to.length = 4) (t : List UInt8) :
    Par4 (by4 tos id ttl pt at' df mo fr to op da ++ t) ∧ n4 (by4 tos id ttl pt at' df mo fr to op da ++ t) = 20 + op.length ∧ wAt (by4 tos id ttl pt at' df mo fr to op da ++ t) 2 = 20 + op.length + da.length ∧
    pLV4 (by4 tos id ttl pt at' df mo fr to op da ++ t) = ip4LV tos id ttl pt at' df mo fr to op da := by
  have hlen := by4_len (tos := tos) (id := id) (ttl := ttl) (pt := pt) (at' := at') (df := df) (mo := mo) (fr := fr) (to := to) (op := op) (da := da) hfr hto
  have hright := by4_right (tos := tos) (id := id) (ttl := ttl) (pt := pt) (at' := at') (df := df) (mo := mo) (fr := fr) (to := to) (op := op) (da := da)
  have heq := by4_eq tos id ttl pt at' df mo fr to op da
  have hwz := why4_zero.2 ok
  obtain ⟨⟨o1, o1'⟩, ⟨o2, o2'⟩, ⟨o3, o3'⟩, ⟨o4, o4'⟩, ⟨o5, o5'⟩, o6, o7, o8, o9, o10⟩ := ok
  obtain ⟨tos, rfl⟩ := nat_of o1
  obtain ⟨ttl, rfl⟩ := nat_of o2
  obtain ⟨pt, rfl⟩ := nat_of o3
  obtain ⟨id, rfl⟩ := nat_of o4
  obtain ⟨a, rfl⟩ := nat_of o5
  generalize (x4 (tos : Int) id ttl pt a df mo fr to op da).toNat = x at *
  generalize hY : by4 (tos : Int) id ttl pt a df mo fr to op da = Y at *
  have o6 : ((a % 8 : Nat) : Int) = 0 := o6
  have hA1 := at4_lt (a := a) (df := df) (mo := mo) (by omega)
  have hA2 := at4_df (a := a) (df := df) (mo := mo) (by omega)
  have hA3 := at4_mo (a := a) (df := df) (mo := mo) (by omega)
  have hA4 := at4_at (a := a) (df := df) (mo := mo) (by omega) (by omega)
  generalize at4 (a : Int) df mo = A at *
  simp only [Int.toNat_natCast] at heq hright
  obtain ⟨f0, f1, f2, f3, rfl⟩ := len4 hfr
  obtain ⟨t0, t1, t2, t3, rfl⟩ := len4 hto
  have h0 : bAt (Y ++ t) 0 = 64 + (20 + op.length) / 4 := by
    rw [heq]; simp only [H4, List.cons_append, List.nil_append, bAt0, UInt8.toNat_ofNat']; omega
  have h1 : bAt (Y ++ t) 1 = tos := by
    rw [heq]; simp only [H4, List.cons_append, List.nil_append, bAt0, bAts, UInt8.toNat_ofNat']; omega
  have h8 : bAt (Y ++ t) 8 = ttl := by
    rw [heq]; simp only [H4, List.cons_append, List.nil_append, bAt0, bAts, UInt8.toNat_ofNat']; omega
  have h9 : bAt (Y ++ t) 9 = pt := by
    rw [heq]; simp only [H4, List.cons_append, List.nil_append, bAt0, bAts, UInt8.toNat_ofNat']; omega
  have h2 : wAt (Y ++ t) 2 = 20 + op.length + da.length := by
    rw [heq]; simp only [H4, List.cons_append, List.nil_append, wAt0, wAts]; exact w16_beB (by omega)
  have h4 : wAt (Y ++ t) 4 = id := by
    rw [heq]; simp only [H4, List.cons_append, List.nil_append, wAt0, wAts]; exact w16_beB (by omega)
  have h6 : wAt (Y ++ t) 6 = A := by
    rw [heq]; simp only [H4, List.cons_append, List.nil_append, wAt0, wAts]; exact w16_beB (by omega)
  have hn : n4 (Y ++ t) = 20 + op.length := by unfold n4; rw [h0]; omega
  have p1 : pat4 (Y ++ t) = (a : Int) := by unfold pat4; rw [h6, hA4]
  have p2 : pdf4 (Y ++ t) = df := by unfold pdf4; rw [h6]; exact hA2
  have p3 : pmo4 (Y ++ t) = mo := by unfold pmo4; rw [h6]; exact hA3
  have p4 : pop4 (Y ++ t) = op := by
    unfold pop4; rw [hn, heq]; simp only [H4, List.cons_append, List.nil_append, List.drop_succ_cons, List.drop_zero]
    rw [show 20 + op.length - 20 = op.length by omega, List.append_assoc, List.take_left']; rfl
  have p5 : pda4 (Y ++ t) = da := by
    unfold pda4; rw [hn, h2, heq]; simp only [H4, List.cons_append, List.nil_append]
    rw [show 20 + op.length = op.length + 20 by omega]
    simp only [List.drop_succ_cons]
    rw [List.append_assoc, List.drop_left', show op.length + 20 + da.length - (op.length + 20) = da.length by omega, List.take_left']
    · rfl
    · rfl
  have p6 : pfr4 (Y ++ t) = [f0, f1, f2, f3] := by
    unfold pfr4; rw [heq]; rfl
  have p7 : pto4 (Y ++ t) = [t0, t1, t2, t3] := by
    unfold pto4; rw [heq]; rfl
  have hw : pwhy4 (Y ++ t) = 0 := by unfold pwhy4; rw [h1, h4, h8, h9, p1, p3, p4, p5]; exact hwz
  have htk : (Y ++ t).take (20 + op.length) = H4 (64 + (20 + op.length) / 4) tos (20 + op.length + da.length) id A ttl pt x ++ ([f0, f1, f2, f3] ++ ([t0, t1, t2, t3] ++ op)) := by
    rw [heq]; simp only [H4, List.cons_append, List.nil_append]
    rw [show 20 + op.length = op.length + 20 by omega]
    simp only [List.take_succ_cons]
    rw [List.append_assoc, List.take_left']; rfl
  have hP : Par4 (Y ++ t) := ⟨by rw [List.length_append]; omega, by omega, by omega, by rw [List.length_append]; omega, by rw [hn, htk]; exact hright, by omega, by rw [List.length_append]; omega, by omega, hw⟩
  refine ⟨hP, hn, h2, ?_⟩
  unfold pLV4
  rw [if_pos (pK4_zero.2 hP), h1, h4, h8, h9, p1, p2, p3, p4, p5, p6, p7]
end Go.Ev

namespace Go.Ev
set_option linter.unusedSimpArgs false
set_option linter.unusedVariables false
set_option maxRecDepth 10000
set_option maxHeartbeats 8000000
theorem getD_take {s : List UInt8} {i j : Nat} (h : i < j) : (s.take j).getD i 0 = s.getD i 0 := by
  simp [List.getD, List.getElem?_take, h]
theorem bAt_take {s : List UInt8} {i j : Nat} (h : i < j) : bAt (s.take j) i = bAt s i := by unfold bAt; rw [getD_take h]
theorem wAt_take {s : List UInt8} {i j : Nat} (h : i + 1 < j) : wAt (s.take j) i = wAt s i := by unfold wAt; rw [getD_take (by omega), getD_take h]
theorem inside_cut {s : List UInt8} (h : Par4 s) {j : Nat} (hj : n4 s + min 8 (wAt s 2 - n4 s) ≤ j) (hjl : j ≤ s.length) :
    iK4 (s.take j) = 0 ∧ iC4 (s.take j) = ((wAt s 2 - n4 s : Nat) : Int) ∧
    iLV4 (s.take j) = ip4LV (bAt s 1) (wAt s 4) (bAt s 8) (bAt s 9) (pat4 s) (pdf4 s) (pmo4 s) (pfr4 s) (pto4 s) (pop4 s) ((pda4 s).take (j - n4 s)) := by
  have h20 := h.hn
  have hlen : (s.take j).length = j := by rw [List.length_take]; omega
  have b0 : bAt (s.take j) 0 = bAt s 0 := bAt_take (by omega)
  have b1 : bAt (s.take j) 1 = bAt s 1 := bAt_take (by omega)
  have b8 : bAt (s.take j) 8 = bAt s 8 := bAt_take (by omega)
  have b9 : bAt (s.take j) 9 = bAt s 9 := bAt_take (by omega)
  have w2 : wAt (s.take j) 2 = wAt s 2 := wAt_take (by omega)
  have w4 : wAt (s.take j) 4 = wAt s 4 := wAt_take (by omega)
  have w6 : wAt (s.take j) 6 = wAt s 6 := wAt_take (by omega)
  have hn : n4 (s.take j) = n4 s := by unfold n4; rw [b0]
  have hda : pda4 (s.take j) = (pda4 s).take (j - n4 s) := by
    unfold pda4
    rw [hn, w2, List.drop_take, List.take_take, List.take_take, Nat.min_comm]
  have hop : pop4 (s.take j) = pop4 s := by
    unfold pop4
    rw [hn, List.drop_take, List.take_take, Nat.min_eq_left (by omega)]
  have hfr : pfr4 (s.take j) = pfr4 s := by unfold pfr4; rw [List.drop_take, List.take_take, Nat.min_eq_left (by omega)]
  have hto : pto4 (s.take j) = pto4 s := by unfold pto4; rw [List.drop_take, List.take_take, Nat.min_eq_left (by omega)]
  have hat : pat4 (s.take j) = pat4 s := by unfold pat4; rw [w6]
  have hdf : pdf4 (s.take j) = pdf4 s := by unfold pdf4; rw [w6]
  have hmo : pmo4 (s.take j) = pmo4 s := by unfold pmo4; rw [w6]
  have ok := why4_zero.1 h.hw
  have hall := ok.kall
  have hl := h.hl
  have ha := h.ha
  have hal := h.hal
  have hpl : (pda4 s).length = wAt s 2 - n4 s := by unfold pda4; rw [List.length_take, List.length_drop]; omega
  have hol : (pop4 s).length = n4 s - 20 := by unfold pop4; rw [List.length_take, List.length_drop]; omega
  have hcl : ((pda4 s).take (j - n4 s)).length = min (j - n4 s) (wAt s 2 - n4 s) := by rw [List.length_take, hpl]
  have hk : iK4 (s.take j) = 0 := by
    unfold iK4
    rw [hn, b0, w2, w6, hda, hcl, hlen, List.take_take, Nat.min_eq_left (show n4 s ≤ j by omega)]
    have hv := h.hv
    have hb := h.hb
    have hall' : wAt s 6 % 8192 * 8 + wAt s 2 ≤ 65535 := by unfold pat4 at hall; omega
    rw [if_neg (by omega), if_neg (by omega), if_neg (by omega), if_neg (fun q => q h.hs), if_neg (by omega), if_neg (by omega)]
  refine ⟨hk, ?_, ?_⟩
  · unfold iC4; rw [if_pos hk, w2, hn]
  · unfold iLV4; rw [if_pos hk, b1, w4, b8, b9, hat, hdf, hmo, hfr, hto, hop, hda]
end Go.Ev

namespace Go.Ev
set_option linter.unusedSimpArgs false
set_option linter.unusedVariables false
set_option maxRecDepth 10000
set_option maxHeartbeats 8000000
structure In4 (s : List UInt8) : Prop where
  h20 : 20 ≤ s.length
  hv : bAt s 0 / 16 = 4
  hn : 20 ≤ n4 s
  hl : n4 s ≤ s.length
  hs : sumS (s.take (n4 s)) = 0
  ha : n4 s ≤ wAt s 2
  hb : wAt s 6 < 32768
  hc : wAt s 6 % 8192 * 8 + wAt s 2 ≤ 65535
  hd : min 8 (wAt s 2 - n4 s) ≤ (pda4 s).length
theorem iK4_zero {s : List UInt8} : iK4 s = 0 ↔ In4 s := by
  unfold iK4
  constructor
  · intro h
    split at h; · omega
    split at h; · omega
    split at h; · omega
    split at h; · omega
    split at h; · omega
    split at h; · omega
    rename_i h1 h2 h3 h4 h5 h6
    exact ⟨by omega, by omega, by omega, by omega, Classical.not_not.1 h4, by omega, by omega, by omega, by omega⟩
  · intro h
    have h1 := h.h20; have h2 := h.hv; have h3 := h.hn; have h4 := h.hl; have h5 := h.hs; have h6 := h.ha; have h7 := h.hb; have h8 := h.hc; have h9 := h.hd
    rw [if_neg (by omega), if_neg (by omega), if_neg (by omega), if_neg (fun q => q h5), if_neg (by omega), if_neg (by omega)]
theorem In4.fr {s : List UInt8} (h : In4 s) : (pfr4 s).length = 4 := by have := h.h20; unfold pfr4; simp; omega
theorem In4.to {s : List UInt8} (h : In4 s) : (pto4 s).length = 4 := by have := h.h20; unfold pto4; simp; omega
theorem In4.op {s : List UInt8} (h : In4 s) : (pop4 s).length = n4 s - 20 := by have := h.hl; unfold pop4; rw [List.length_take, List.length_drop]; omega
theorem pda4_len (s : List UInt8) : (pda4 s).length = min (wAt s 2 - n4 s) (s.length - n4 s) := by unfold pda4; rw [List.length_take, List.length_drop]
theorem In4.at {s : List UInt8} (h : In4 s) : 0 ≤ pat4 s ∧ pat4 s ≤ 65528 ∧ pat4 s % 8 = 0 := by unfold pat4; have := h.hc; omega
theorem In4.cut {s : List UInt8} (h : In4 s) {j : Nat} (hj : n4 s + 8 ≤ j) (hjl : j ≤ n4 s + (pda4 s).length) :
    iK4 (s.take j) = 0 ∧ iC4 (s.take j) = ((wAt s 2 - n4 s : Nat) : Int) ∧
    iLV4 (s.take j) = ip4LV (bAt s 1) (wAt s 4) (bAt s 8) (bAt s 9) (pat4 s) (pdf4 s) (pmo4 s) (pfr4 s) (pto4 s) (pop4 s) ((pda4 s).take (j - n4 s)) := by
  have h20 := h.hn
  have hpl := pda4_len s
  have hlen : (s.take j).length = j := by rw [List.length_take]; omega
  have b0 : bAt (s.take j) 0 = bAt s 0 := bAt_take (by omega)
  have b1 : bAt (s.take j) 1 = bAt s 1 := bAt_take (by omega)
  have b8 : bAt (s.take j) 8 = bAt s 8 := bAt_take (by omega)
  have b9 : bAt (s.take j) 9 = bAt s 9 := bAt_take (by omega)
  have w2 : wAt (s.take j) 2 = wAt s 2 := wAt_take (by omega)
  have w4 : wAt (s.take j) 4 = wAt s 4 := wAt_take (by omega)
  have w6 : wAt (s.take j) 6 = wAt s 6 := wAt_take (by omega)
  have hn : n4 (s.take j) = n4 s := by unfold n4; rw [b0]
  have hda : pda4 (s.take j) = (pda4 s).take (j - n4 s) := by
    unfold pda4
    rw [hn, w2, List.drop_take, List.take_take, List.take_take, Nat.min_comm]
  have hop : pop4 (s.take j) = pop4 s := by
    unfold pop4
    rw [hn, List.drop_take, List.take_take, Nat.min_eq_left (by omega)]
  have hfr : pfr4 (s.take j) = pfr4 s := by unfold pfr4; rw [List.drop_take, List.take_take, Nat.min_eq_left (by omega)]
  have hto : pto4 (s.take j) = pto4 s := by unfold pto4; rw [List.drop_take, List.take_take, Nat.min_eq_left (by omega)]
  have hat : pat4 (s.take j) = pat4 s := by unfold pat4; rw [w6]
  have hdf : pdf4 (s.take j) = pdf4 s := by unfold pdf4; rw [w6]
  have hmo : pmo4 (s.take j) = pmo4 s := by unfold pmo4; rw [w6]
  have hcl : ((pda4 s).take (j - n4 s)).length = j - n4 s := by rw [List.length_take]; omega
  have hk : iK4 (s.take j) = 0 := by
    unfold iK4
    rw [hn, b0, w2, w6, hda, hcl, hlen, List.take_take, Nat.min_eq_left (show n4 s ≤ j by omega)]
    have k1 := h.hv; have k2 := h.hb; have k3 := h.hc; have k4 := h.ha
    rw [if_neg (by omega), if_neg (by omega), if_neg (by omega), if_neg (fun q => q h.hs), if_neg (by omega), if_neg (by omega)]
  refine ⟨hk, ?_, ?_⟩
  · unfold iC4; rw [if_pos hk, w2, hn]
  · unfold iLV4; rw [if_pos hk, b1, w4, b8, b9, hat, hdf, hmo, hfr, hto, hop, hda]
theorem upF_cut {X : List UInt8} {m i : Nat} {o w : List UInt8} {none : Bool} (h : i + 2 ≤ m) (hm : m ≤ X.length) : upF (X.take m) i o w none = (upF X i o w none).take m := by
  unfold upF
  rw [List.length_take, Nat.min_eq_left hm, if_neg (by omega), if_neg (show ¬ X.length < i + 2 by omega), wAt_take (by omega)]
  split
  · rfl
  · rw [List.take_take, Nat.min_eq_left (show i ≤ m by omega)]
    rw [List.take_append, List.take_append, List.length_take, Nat.min_eq_left (show i ≤ X.length by omega), beB_len, List.take_of_length_le (l := X.take i) (by rw [List.length_take]; omega), List.take_of_length_le (l := beB 2 _) (by rw [beB_len]; omega), List.drop_take]
    congr 3
theorem upF_short {X : List UInt8} {m i : Nat} {o w : List UInt8} {none : Bool} (h : m ≤ i) (hm : m ≤ X.length) : upF (X.take m) i o w none = (upF X i o w none).take m := by
  unfold upF
  rw [List.length_take, Nat.min_eq_left hm, if_pos (by omega)]
  split
  · rfl
  · split
    · rfl
    · rw [List.take_append_of_le_length (by rw [List.length_take]; omega), List.take_take, Nat.min_eq_left h]
theorem port_cut {d : List UInt8} {m p q : Nat} (h : 4 ≤ m) : beB 2 p ++ (beB 2 q ++ (d.take m).drop 4) = (beB 2 p ++ (beB 2 q ++ d.drop 4)).take m := by
  rw [List.take_append, List.take_append, beB_len, beB_len, List.take_of_length_le (l := beB 2 p) (by rw [beB_len]; omega), List.take_of_length_le (l := beB 2 q) (by rw [beB_len]; omega), List.drop_take]
  congr 3
theorem ecD_cut {d : List UInt8} {m k id : Nat} (h : 8 ≤ m) (hm : m ≤ d.length) : ecD (d.take m) k id = (ecD d k id).take m := by
  unfold ecD
  have e1 : ((d.take m).drop 2).take 2 = (d.drop 2).take 2 := by rw [List.drop_take, List.take_take, Nat.min_eq_left (by omega)]
  rw [e1, List.drop_take, List.take_append, List.take_of_length_le (l := beB 1 k) (by rw [beB_len]; omega), beB_len]
  congr 1
  obtain ⟨m, rfl⟩ : ∃ j, m = j + 8 := ⟨m - 8, by omega⟩
  have e2 : ((d.drop 2).take 2).length = 2 := by rw [List.length_take, List.length_drop]; omega
  rw [show m + 8 - 1 = (m + 6) + 1 by omega, List.take_succ_cons, List.take_append, List.take_append, List.take_of_length_le (l := (d.drop 2).take 2) (by rw [List.length_take]; omega), List.take_of_length_le (l := beB 2 id) (by rw [beB_len, e2]; omega)]
  rw [e2, beB_len]
  congr 4
theorem isE4_cut {d : List UInt8} {m : Nat} (h : 8 ≤ m) (hm : m ≤ d.length) : isE4 (d.take m) = isE4 d := by
  unfold isE4
  rw [bAt_take (by omega), bAt_take (by omega), List.length_take, Nat.min_eq_left hm, decide_eq_true h, decide_eq_true (show 8 ≤ d.length by omega)]
theorem tn6_cut {pt at' : Int} {d fr to a b : List UInt8} {claim p q m : Nat} (h : 8 ≤ m) (hm : m ≤ d.length) (hn : ¬ (pt = 6 ∧ m = 17 ∧ at' = 0)) (hat : 0 ≤ at') :
    tn6 pt at' (d.take m) fr to a b claim p q = (tn6 pt at' d fr to a b claim p q).take m := by
  unfold tn6
  split
  · rfl
  · rename_i ha
    split
    · rename_i hp
      unfold poF
      rw [List.length_take, Nat.min_eq_left hm, if_neg (by omega), if_neg (show ¬ d.length < 4 by omega), List.take_take, Nat.min_eq_left (show 4 ≤ m by omega), port_cut (by omega)]
      have hX : (beB 2 p ++ (beB 2 q ++ d.drop 4)).length = d.length := by simp only [List.length_append, beB_len, List.length_drop]; omega
      generalize beB 2 p ++ (beB 2 q ++ d.drop 4) = X at *
      split
      · exact upF_cut (by omega) (by omega)
      · rename_i hu
        have hu : ¬ pt = 17 := by simpa using hu
        by_cases c : m ≤ 16
        · exact upF_short c (by omega)
        · exact upF_cut (by omega) (by omega)
    · rw [isE4_cut h hm, bAt_take (by omega)]
      split
      · unfold ecF
        rw [ecD_cut h hm, List.take_take, Nat.min_eq_left (show 2 ≤ m by omega), List.drop_take, List.take_take, Nat.min_eq_left (show 2 ≤ m - 4 by omega)]
        exact upF_cut (by omega) (by rw [ecD_len (by omega)]; exact hm)
      · rfl
end Go.Ev

namespace Go.Ev
set_option linter.unusedSimpArgs false
set_option linter.unusedVariables false
set_option maxRecDepth 10000
set_option maxHeartbeats 8000000
def f6 (s : List UInt8) : Bool := decide ((k6 s).2.2.1 = 44)
def i6 (s : List UInt8) : Int := if f6 s = true then ((fi6 (k6 s).2.2.2 : Nat) : Int) else 0
def a6 (s : List UInt8) : Int := if f6 s = true then ((fa6 (k6 s).2.2.2 : Nat) : Int) else 0
def m6 (s : List UInt8) : Bool := f6 s && fm6 (k6 s).2.2.2
def p6 (s : List UInt8) : Int := if f6 s = true then ((bAt (k6 s).2.2.2 0 : Nat) : Int) else (k6 s).2.2.1
def d6 (s : List UInt8) : List UInt8 := dD6 (k6 s)
def c6 (s : List UInt8) : Nat := cl6 s (k6 s)
theorem mk6_eq (s : List UInt8) : mk6 s (k6 s) = ip6LV (pcl6 s) (pfl6 s) (bAt s 7 : Nat) (pfr6 s) (pto6 s) (extsLV (k6 s).2.1) (f6 s) (i6 s) (a6 s) (m6 s) (p6 s) (d6 s) := by
  unfold mk6 f6 i6 a6 m6 p6 d6 dD6 f6
  by_cases h : (k6 s).2.2.1 = 44
  · simp only [h, if_true, decide_true, Bool.true_and]
  · simp only [h, if_false, decide_false, Bool.false_and, Bool.false_eq_true]
structure In6 (s : List UInt8) : Prop where
  h40 : 40 ≤ s.length
  hv : bAt s 0 / 16 = 6
  hk : (k6 s).1 = 0
  h8 : f6 s = true → 8 ≤ (k6 s).2.2.2.length
  hd : min 8 (c6 s) ≤ (d6 s).length
theorem iK6_zero {s : List UInt8} : iK6 s = 0 ↔ In6 s := by
  unfold iK6 iR6
  constructor
  · intro h
    split at h; · omega
    split at h; · omega
    split at h
    · rename_i h3; omega
    split at h; · omega
    split at h; · omega
    rename_i h1 h2 h3 h4 h5
    refine ⟨by omega, by omega, Classical.not_not.1 h3, fun q => ?_, ?_⟩
    · have : (k6 s).2.2.1 = 44 := of_decide_eq_true q
      apply Classical.byContradiction
      intro q2
      exact h4 ⟨this, by omega⟩
    · unfold c6 d6; omega
  · intro h
    have h1 := h.h40; have h2 := h.hv; have h5 := h.hd
    unfold c6 d6 at h5
    rw [if_neg (by omega), if_neg (by omega), if_neg (fun q => q h.hk), if_neg ?_, if_neg (by omega)]
    rintro ⟨q1, q2⟩
    have := h.h8 (decide_eq_true q1)
    omega
theorem In6.lv {s : List UInt8} (h : In6 s) : iLV6 s = ip6LV (pcl6 s) (pfl6 s) (bAt s 7 : Nat) (pfr6 s) (pto6 s) (extsLV (k6 s).2.1) (f6 s) (i6 s) (a6 s) (m6 s) (p6 s) (d6 s) := by
  unfold iLV6; rw [if_pos (iK6_zero.2 h), mk6_eq]
theorem In6.cl {s : List UInt8} (h : In6 s) : iC6 s = (c6 s : Int) := by unfold iC6; rw [if_pos (iK6_zero.2 h)]; rfl
theorem In6.fr {s : List UInt8} (h : In6 s) : (pfr6 s).length = 16 := by have := h.h40; unfold pfr6; simp; omega
theorem In6.to {s : List UInt8} (h : In6 s) : (pto6 s).length = 16 := by have := h.h40; unfold pto6; simp; omega
theorem pcl6_le (s : List UInt8) : 0 ≤ pcl6 s ∧ pcl6 s ≤ 255 := by unfold pcl6; omega
theorem i6_le (s : List UInt8) : 0 ≤ i6 s ∧ i6 s < 4294967296 := by
  unfold i6
  have h : fi6 (k6 s).2.2.2 < 4294967296 := num4_lt _
  split <;> omega
theorem a6_le (s : List UInt8) : 0 ≤ a6 s ∧ a6 s ≤ 65528 ∧ a6 s % 8 = 0 := by
  unfold a6 fa6
  have h := wAt_le (k6 s).2.2.2 2
  split <;> omega
theorem d6_le (s : List UInt8) : (d6 s).length ≤ c6 s ∧ c6 s ≤ 65535 := by
  unfold d6 c6 cl6
  have h1 : (k6 s).2.2.2.length ≤ (th6 s).length := chC_rest _ _ _ _
  have h2 : (dD6 (k6 s)).length ≤ (k6 s).2.2.2.length := by unfold dD6; split <;> simp
  have h3 : (th6 s).length ≤ wAt s 4 := by unfold th6; rw [List.length_take]; omega
  have h4 := wAt_le s 4
  omega
theorem ex6_le (s : List UInt8) : (k6 s).2.1.length ≤ 8 := chC_len _ _ _ _
end Go.Ev

namespace Go.Ev
set_option linter.unusedSimpArgs false
set_option linter.unusedVariables false
set_option maxRecDepth 10000
set_option maxHeartbeats 8000000
def isF6 (k : Int) : Bool := decide (1 ≤ k ∧ k ≤ 127)
section
variable {S : Sys} (hS : Has S) (n : Nat)
include hS
theorem ev_failure6 (k c r : Int) (d : List UInt8) : S.ev (n + 1) id_icmp6_Failure [msgLV k c r d] none = some (.bool (isF6 k), none) := by
  rw [Sys.step hS.h_icmp6_Failure, F_icmp6_Failure_eq]
  unfold F_icmp6_Failure isF6
  (try simp only [guard_merge, or_merge, and_merge, or_pick, and_pick, guard_or, guard_and]); simp only [to_ob]
  simp only [go_sem, ↓reduceIte, reduceCtorEq, upd_ne, back_new (no_at), Nat.reduceAdd, Nat.reduceEqDiff, Nat.reduceMul, Nat.reduceSub, Nat.reduceLeDiff, Nat.reduceLT, Int.reduceToNat, Int.reduceLE, Int.reduceLT, Int.reduceEq, UInt8.reduceOfNat]
  rw [← Bool.decide_and]
end
end Go.Ev

namespace Go.Ev
set_option linter.unusedSimpArgs false
set_option linter.unusedVariables false
set_option maxRecDepth 10000
set_option maxHeartbeats 8000000
def plat (l : Int) : Int := if 65535 < l then 65535 else if 32000 < l then 32000 else if 17914 < l then 17914 else if 8166 < l then 8166 else if 4352 < l then 4352 else if 2002 < l then 2002 else if 1492 < l then 1492 else if 1006 < l then 1006 else if 508 < l then 508 else if 296 < l then 296 else 68
def sid (m4 m6 : Int) : Prop := 68 ≤ m4 ∧ m4 ≤ 65535 ∧ 1280 ≤ m6 ∧ m6 ≤ 65575
instance (a b : Int) : Decidable (sid a b) := by unfold sid; infer_instance
def poi6 (n : Int) : Option Int := if n = 0 ∨ n = 1 then some n else if n = 2 ∨ n = 3 then some 4 else if n = 8 then some 7 else if n = 9 then some 6 else if 12 ≤ n ∧ n ≤ 15 then some 8 else if 16 ≤ n ∧ n ≤ 19 then some 24 else none
def poi4 (n : Int) : Option Int := if n = 0 ∨ n = 1 then some n else if n = 4 ∨ n = 5 then some 2 else if n = 6 then some 9 else if n = 7 then some 8 else if 8 ≤ n ∧ n ≤ 23 then some 12 else if 24 ≤ n ∧ n ≤ 39 then some 16 else none
def mtu6O (r m4 m6 len : Int) : Int := max (min (min ((if r % 65536 = 0 then plat len else r % 65536) + 20) m6) (m4 + 20)) 1280
def los6 (c r m4 m6 len : Int) : Option (Int × Int × Int) :=
  if c = 0 ∨ c = 1 ∨ c = 5 ∨ c = 6 ∨ c = 7 ∨ c = 8 ∨ c = 11 ∨ c = 12 then some (1, 0, 0) else if c = 9 ∨ c = 10 ∨ c = 13 ∨ c = 15 then some (1, 1, 0) else
  if c = 3 then some (1, 4, 0) else if c = 2 then some (4, 1, 6) else if c = 4 then some (2, 0, mtu6O r m4 m6 len) else none
def to6S (k c r m4 m6 len : Int) : Option (Int × Int × Int) :=
  if ¬ sid m4 m6 then none else if k = 8 ∧ c = 0 then some (128, 0, r) else if k = 0 ∧ c = 0 then some (129, 0, r) else if k = 3 then los6 c r m4 m6 len else
  if k = 11 ∧ (c = 0 ∨ c = 1) then some (3, c, 0) else if k = 12 ∧ (c = 0 ∨ c = 2) then (poi6 (r / 16777216)).map fun n => (4, 0, n) else none
def los4 (c : Int) : Option (Int × Int × Int) := if c = 0 ∨ c = 2 ∨ c = 3 then some (3, 1, 0) else if c = 1 then some (3, 10, 0) else if c = 4 then some (3, 3, 0) else none
def mtu4O (r m4 m6 : Int) : Int := min (max (min (min (r - 20) m4) (m6 - 20)) 68) 65535
def to4S (k c r m4 m6 : Int) : Option (Int × Int × Int) :=
  if ¬ sid m4 m6 then none else if k = 128 ∧ c = 0 then some (8, 0, r) else if k = 129 ∧ c = 0 then some (0, 0, r) else if k = 1 then los4 c else
  if k = 2 ∧ c = 0 then some (3, 4, mtu4O r m4 m6) else if k = 3 ∧ (c = 0 ∨ c = 1) then some (11, c, 0) else if k = 4 ∧ c = 0 then (poi4 r).map fun n => (12, 0, n * 16777216) else if k = 4 ∧ c = 1 then some (3, 2, 0) else none
def msgO (x : Option (Int × Int × Int)) (d : List UInt8) : LV := match x with
  | some (k, c, r) => .tup [msgLV k c r d, .bool true]
  | none => .tup [msgLV 0 0 0 [], .bool false]
theorem plat_le (l : Int) : 68 ≤ plat l ∧ plat l ≤ 65535 := by unfold plat; repeat' split
                                                               all_goals omega
def PL : List Int := [65535, 32000, 17914, 8166, 4352, 2002, 1492, 1006, 508, 296]
def srch (l : Int) : List Int → Int
  | [] => 68
  | x :: r => if x < l then x else srch l r
theorem srch_PL (l : Int) : srch l PL = plat l := rfl
section
variable {S : Sys} (hS : Has S) (n : Nat)
include hS
theorem ev_plat (l : Int) : S.ev (n + 1) id_icmpmap_Plateau [.int .i64 l] none = some (.int .i64 (plat l), none) := by
  rw [Sys.step hS.h_icmpmap_Plateau, F_icmpmap_Plateau_eq, ← srch_PL]
  unfold F_icmpmap_Plateau
  have hL : [LV.int .i64 65535, .int .i64 32000, .int .i64 17914, .int .i64 8166, .int .i64 4352, .int .i64 2002, .int .i64 1492, .int .i64 1006, .int .i64 508, .int .i64 296] = PL.map (fun x => LV.int .i64 x) := rfl
  have hl : PL.length = 10 := rfl
  have hps : pslL (PL.map (fun x => LV.int .i64 x)) = some (PL.map (fun x => LV.int .i64 x)) := rfl
  (try simp only [guard_merge, or_merge, and_merge, or_pick, and_pick, guard_or, guard_and]); simp only [to_ob]
  simp only [go_sem, ↓reduceIte, reduceCtorEq, upd_ne, back_new (no_at), Nat.reduceAdd, Nat.reduceEqDiff, Nat.reduceMul, Nat.reduceSub, Nat.reduceLeDiff, Nat.reduceLT, Int.reduceToNat, Int.reduceLE, Int.reduceLT, Int.reduceEq, UInt8.reduceOfNat, hL, hps, List.length_map]
  generalize PL = L at *
  refine while_rule (fun k q => ∃ i : Nat, q = ([LV.int .i64 0, LV.int .i64 (i : Int)], noSlots) ∧ i + k = L.length ∧ srch l (L.drop i) = srch l L) L.length ⟨0, rfl, by omega, rfl⟩ ?_
  rintro k q ⟨i, rfl, hi, hr⟩
  by_cases h : i < L.length
  · have h' : (i : Int) < (L.length : Int) := by omega
    obtain ⟨x, hx⟩ : ∃ x, L[i]? = some x := ⟨L[i], by simp [h]⟩
    have hd : L.drop i = x :: L.drop (i + 1) := by
      rw [List.drop_eq_getElem_cons h]; congr 1; rw [List.getElem?_eq_getElem h] at hx; exact Option.some.inj hx
    rw [hd] at hr
    have e1 : IntKind.i64.wrap ((i : Int) + 1) = ((i + 1 : Nat) : Int) := by rw [wrap_id (by omega) (by omega)]; omega
    by_cases c : x < l
    · have hr : x = srch l L := by rw [← hr]; unfold srch; rw [if_pos c]
      simp only [go_sem, ↓reduceIte, reduceCtorEq, upd_ne, back_new (no_at), Nat.reduceAdd, Nat.reduceEqDiff, Nat.reduceMul, Nat.reduceSub, Nat.reduceLeDiff, Nat.reduceLT, Int.reduceToNat, Int.reduceLE, Int.reduceLT, Int.reduceEq, UInt8.reduceOfNat, List.getElem?_map, Int.toNat_natCast, h', hx, c, Option.map_some, Nxt, exIf]
      rw [hr]
    · have hr : srch l (L.drop (i + 1)) = srch l L := by rw [← hr]; exact (if_neg c).symm
      simp only [go_sem, ↓reduceIte, reduceCtorEq, upd_ne, back_new (no_at), Nat.reduceAdd, Nat.reduceEqDiff, Nat.reduceMul, Nat.reduceSub, Nat.reduceLeDiff, Nat.reduceLT, Int.reduceToNat, Int.reduceLE, Int.reduceLT, Int.reduceEq, UInt8.reduceOfNat, List.getElem?_map, Int.toNat_natCast, h', hx, c, e1, Option.map_some]
      exact ⟨k - 1, by omega, i + 1, rfl, by omega, hr⟩
  · have h' : ¬ (i : Int) < (L.length : Int) := by omega
    rw [List.drop_of_length_le (by omega)] at hr
    simp only [go_sem, ↓reduceIte, reduceCtorEq, upd_ne, back_new (no_at), Nat.reduceAdd, Nat.reduceEqDiff, Nat.reduceMul, Nat.reduceSub, Nat.reduceLeDiff, Nat.reduceLT, Int.reduceToNat, Int.reduceLE, Int.reduceLT, Int.reduceEq, UInt8.reduceOfNat, List.getElem?_map, Int.toNat_natCast, h', Nxt, exIf]
    rw [← hr]
    rfl
theorem ev_sides (a b : Int) : S.ev (n + 1) id_icmpmap_sides [.int .i64 a, .int .i64 b] none = some (.bool (decide (sid a b)), none) := by
  rw [Sys.step hS.h_icmpmap_sides, F_icmpmap_sides_eq]
  unfold F_icmpmap_sides sid
  (try simp only [guard_merge, or_merge, and_merge, or_pick, and_pick, guard_or, guard_and]); simp only [to_ob]
  simp only [go_sem, ↓reduceIte, reduceCtorEq, upd_ne, back_new (no_at), Nat.reduceAdd, Nat.reduceEqDiff, Nat.reduceMul, Nat.reduceSub, Nat.reduceLeDiff, Nat.reduceLT, Int.reduceToNat, Int.reduceLE, Int.reduceLT, Int.reduceEq, UInt8.reduceOfNat, Bool.decide_and, Bool.and_assoc]
  rw [← Bool.decide_and, ← Bool.decide_and, ← Bool.decide_and]
theorem ev_poi6 (x : Int) : S.ev (n + 1) id_icmpmap_pointer6 [.int .i64 x] none = some (match poi6 x with | some y => .tup [.int .i64 y, .bool true] | none => .tup [.int .i64 0, .bool false], none) := by
  rw [Sys.step hS.h_icmpmap_pointer6, F_icmpmap_pointer6_eq]
  unfold F_icmpmap_pointer6
  (try simp only [guard_merge, or_merge, and_merge, or_pick, and_pick, guard_or, guard_and]); simp only [to_ob]
  simp only [go_sem, ↓reduceIte, reduceCtorEq, upd_ne, back_new (no_at), Nat.reduceAdd, Nat.reduceEqDiff, Nat.reduceMul, Nat.reduceSub, Nat.reduceLeDiff, Nat.reduceLT, Int.reduceToNat, Int.reduceLE, Int.reduceLT, Int.reduceEq, UInt8.reduceOfNat]
  unfold poi6
  repeat' split
  all_goals first | rfl | omega | simp_all
theorem ev_poi4 (x : Int) (hx : 0 ≤ x ∧ x < 4294967296) : S.ev (n + 1) id_icmpmap_pointer4 [.int .u32 x] none = some (match poi4 x with | some y => .tup [.int .i64 y, .bool true] | none => .tup [.int .i64 0, .bool false], none) := by
  rw [Sys.step hS.h_icmpmap_pointer4, F_icmpmap_pointer4_eq]
  unfold F_icmpmap_pointer4
  have e1 : IntKind.i64.wrap x = x := wrap_id (by omega) (by omega)
  (try simp only [guard_merge, or_merge, and_merge, or_pick, and_pick, guard_or, guard_and]); simp only [to_ob]
  simp only [go_sem, ↓reduceIte, reduceCtorEq, upd_ne, back_new (no_at), Nat.reduceAdd, Nat.reduceEqDiff, Nat.reduceMul, Nat.reduceSub, Nat.reduceLeDiff, Nat.reduceLT, Int.reduceToNat, Int.reduceLE, Int.reduceLT, Int.reduceEq, UInt8.reduceOfNat, e1]
  unfold poi4
  repeat' split
  all_goals first | rfl | omega | simp_all
theorem ev_said (k c r k' c' r' : Int) (d : List UInt8) (h : 0 ≤ r' ∧ r' < 4294967296) : S.ev (n + 1) id_icmpmap_said [msgLV k c r d, .int .i64 k', .int .i64 c', .int .i64 r'] none = some (.tup [msgLV k' c' r' d, .bool true], none) := by
  rw [Sys.step hS.h_icmpmap_said, F_icmpmap_said_eq]
  unfold F_icmpmap_said
  have e1 : IntKind.u32.wrap r' = r' := by obtain ⟨R, rfl⟩ := Int.eq_ofNat_of_zero_le h.1; exact wrap_u32 (by omega)
  (try simp only [guard_merge, or_merge, and_merge, or_pick, and_pick, guard_or, guard_and]); simp only [to_ob]
  simp only [go_sem, ↓reduceIte, reduceCtorEq, upd_ne, back_new (no_at), Nat.reduceAdd, Nat.reduceEqDiff, Nat.reduceMul, Nat.reduceSub, Nat.reduceLeDiff, Nat.reduceLT, Int.reduceToNat, Int.reduceLE, Int.reduceLT, Int.reduceEq, UInt8.reduceOfNat, e1]
end
end Go.Ev
