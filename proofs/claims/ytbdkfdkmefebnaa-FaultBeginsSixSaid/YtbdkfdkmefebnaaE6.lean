/- Part 6 of a proof: what the functions yield. It stands by itself; no condition. -/
import Derived.Test.YtbdkfdkmefebnaaE5
namespace Go.Ev
set_option linter.unusedSimpArgs false
set_option linter.unusedVariables false
set_option maxRecDepth 10000
set_option maxHeartbeats 8000000
structure In4 (s : List UInt8) : Prop where
  h20 : 20 ≤ s.length
  hv : bAt s 0 / 16 = 4
  hn : 20 ≤ n4 s
  hl : n4 s ≤ s.length
  hs : sumS (s.take (n4 s)) = 0
  ha : n4 s ≤ wAt s 2
  hb : wAt s 6 < 32768
  hc : wAt s 6 % 8192 * 8 + wAt s 2 ≤ 65535
  hd : min 8 (wAt s 2 - n4 s) ≤ (pda4 s).length
theorem iK4_zero {s : List UInt8} : iK4 s = 0 ↔ In4 s := by
  unfold iK4
  constructor
  · intro h
    split at h; · omega
    split at h; · omega
    split at h; · omega
    split at h; · omega
    split at h; · omega
    split at h; · omega
    rename_i h1 h2 h3 h4 h5 h6
    exact ⟨by omega, by omega, by omega, by omega, Classical.not_not.1 h4, by omega, by omega, by omega, by omega⟩
  · intro h
    have h1 := h.h20; have h2 := h.hv; have h3 := h.hn; have h4 := h.hl; have h5 := h.hs; have h6 := h.ha; have h7 := h.hb; have h8 := h.hc; have h9 := h.hd
    rw [if_neg (by omega), if_neg (by omega), if_neg (by omega), if_neg (fun q => q h5), if_neg (by omega), if_neg (by omega)]
theorem In4.fr {s : List UInt8} (h : In4 s) : (pfr4 s).length = 4 := by have := h.h20; unfold pfr4; simp; omega
theorem In4.to {s : List UInt8} (h : In4 s) : (pto4 s).length = 4 := by have := h.h20; unfold pto4; simp; omega
theorem In4.op {s : List UInt8} (h : In4 s) : (pop4 s).length = n4 s - 20 := by have := h.hl; unfold pop4; rw [List.length_take, List.length_drop]; omega
theorem pda4_len (s : List UInt8) : (pda4 s).length = min (wAt s 2 - n4 s) (s.length - n4 s) := by unfold pda4; rw [List.length_take, List.length_drop]
theorem In4.at {s : List UInt8} (h : In4 s) : 0 ≤ pat4 s ∧ pat4 s ≤ 65528 ∧ pat4 s % 8 = 0 := by unfold pat4; have := h.hc; omega
theorem In4.cut {s : List UInt8} (h : In4 s) {j : Nat} (hj : n4 s + 8 ≤ j) (hjl : j ≤ n4 s + (pda4 s).length) :
    iK4 (s.take j) = 0 ∧ iC4 (s.take j) = ((wAt s 2 - n4 s : Nat) : Int) ∧
    iLV4 (s.take j) = ip4LV (bAt s 1) (wAt s 4) (bAt s 8) (bAt s 9) (pat4 s) (pdf4 s) (pmo4 s) (pfr4 s) (pto4 s) (pop4 s) ((pda4 s).take (j - n4 s)) := by
  have h20 := h.hn
  have hpl := pda4_len s
  have hlen : (s.take j).length = j := by rw [List.length_take]; omega
  have b0 : bAt (s.take j) 0 = bAt s 0 := bAt_take (by omega)
  have b1 : bAt (s.take j) 1 = bAt s 1 := bAt_take (by omega)
  have b8 : bAt (s.take j) 8 = bAt s 8 := bAt_take (by omega)
  have b9 : bAt (s.take j) 9 = bAt s 9 := bAt_take (by omega)
  have w2 : wAt (s.take j) 2 = wAt s 2 := wAt_take (by omega)
  have w4 : wAt (s.take j) 4 = wAt s 4 := wAt_take (by omega)
  have w6 : wAt (s.take j) 6 = wAt s 6 := wAt_take (by omega)
  have hn : n4 (s.take j) = n4 s := by unfold n4; rw [b0]
  have hda : pda4 (s.take j) = (pda4 s).take (j - n4 s) := by
    unfold pda4
    rw [hn, w2, List.drop_take, List.take_take, List.take_take, Nat.min_comm]
  have hop : pop4 (s.take j) = pop4 s := by
    unfold pop4
    rw [hn, List.drop_take, List.take_take, Nat.min_eq_left (by omega)]
  have hfr : pfr4 (s.take j) = pfr4 s := by unfold pfr4; rw [List.drop_take, List.take_take, Nat.min_eq_left (by omega)]
  have hto : pto4 (s.take j) = pto4 s := by unfold pto4; rw [List.drop_take, List.take_take, Nat.min_eq_left (by omega)]
  have hat : pat4 (s.take j) = pat4 s := by unfold pat4; rw [w6]
  have hdf : pdf4 (s.take j) = pdf4 s := by unfold pdf4; rw [w6]
  have hmo : pmo4 (s.take j) = pmo4 s := by unfold pmo4; rw [w6]
  have hcl : ((pda4 s).take (j - n4 s)).length = j - n4 s := by rw [List.length_take]; omega
  have hk : iK4 (s.take j) = 0 := by
    unfold iK4
    rw [hn, b0, w2, w6, hda, hcl, hlen, List.take_take, Nat.min_eq_left (show n4 s ≤ j by omega)]
    have k1 := h.hv; have k2 := h.hb; have k3 := h.hc; have k4 := h.ha
    rw [if_neg (by omega), if_neg (by omega), if_neg (by omega), if_neg (fun q => q h.hs), if_neg (by omega), if_neg (by omega)]
  refine ⟨hk, ?_, ?_⟩
  · unfold iC4; rw [if_pos hk, w2, hn]
  · unfold iLV4; rw [if_pos hk, b1, w4, b8, b9, hat, hdf, hmo, hfr, hto, hop, hda]
theorem upF_cut {X : List UInt8} {m i : Nat} {o w : List UInt8} {none : Bool} (h : i + 2 ≤ m) (hm : m ≤ X.length) : upF (X.take m) i o w none = (upF X i o w none).take m := by
  unfold upF
  rw [List.length_take, Nat.min_eq_left hm, if_neg (by omega), if_neg (show ¬ X.length < i + 2 by omega), wAt_take (by omega)]
  split
  · rfl
  · rw [List.take_take, Nat.min_eq_left (show i ≤ m by omega)]
    rw [List.take_append, List.take_append, List.length_take, Nat.min_eq_left (show i ≤ X.length by omega), beB_len, List.take_of_length_le (l := X.take i) (by rw [List.length_take]; omega), List.take_of_length_le (l := beB 2 _) (by rw [beB_len]; omega), List.drop_take]
    congr 3
theorem upF_short {X : List UInt8} {m i : Nat} {o w : List UInt8} {none : Bool} (h : m ≤ i) (hm : m ≤ X.length) : upF (X.take m) i o w none = (upF X i o w none).take m := by
  unfold upF
  rw [List.length_take, Nat.min_eq_left hm, if_pos (by omega)]
  split
  · rfl
  · split
    · rfl
    · rw [List.take_append_of_le_length (by rw [List.length_take]; omega), List.take_take, Nat.min_eq_left h]
theorem port_cut {d : List UInt8} {m p q : Nat} (h : 4 ≤ m) : beB 2 p ++ (beB 2 q ++ (d.take m).drop 4) = (beB 2 p ++ (beB 2 q ++ d.drop 4)).take m := by
  rw [List.take_append, List.take_append, beB_len, beB_len, List.take_of_length_le (l := beB 2 p) (by rw [beB_len]; omega), List.take_of_length_le (l := beB 2 q) (by rw [beB_len]; omega), List.drop_take]
  congr 3
theorem ecD_cut {d : List UInt8} {m k id : Nat} (h : 8 ≤ m) (hm : m ≤ d.length) : ecD (d.take m) k id = (ecD d k id).take m := by
  unfold ecD
  have e1 : ((d.take m).drop 2).take 2 = (d.drop 2).take 2 := by rw [List.drop_take, List.take_take, Nat.min_eq_left (by omega)]
  rw [e1, List.drop_take, List.take_append, List.take_of_length_le (l := beB 1 k) (by rw [beB_len]; omega), beB_len]
  congr 1
  obtain ⟨m, rfl⟩ : ∃ j, m = j + 8 := ⟨m - 8, by omega⟩
  have e2 : ((d.drop 2).take 2).length = 2 := by rw [List.length_take, List.length_drop]; omega
  rw [show m + 8 - 1 = (m + 6) + 1 by omega, List.take_succ_cons, List.take_append, List.take_append, List.take_of_length_le (l := (d.drop 2).take 2) (by rw [List.length_take]; omega), List.take_of_length_le (l := beB 2 id) (by rw [beB_len, e2]; omega)]
  rw [e2, beB_len]
  congr 4
theorem isE4_cut {d : List UInt8} {m : Nat} (h : 8 ≤ m) (hm : m ≤ d.length) : isE4 (d.take m) = isE4 d := by
  unfold isE4
  rw [bAt_take (by omega), bAt_take (by omega), List.length_take, Nat.min_eq_left hm, decide_eq_true h, decide_eq_true (show 8 ≤ d.length by omega)]
theorem tn6_cut {pt at' : Int} {d fr to a b : List UInt8} {claim p q m : Nat} (h : 8 ≤ m) (hm : m ≤ d.length) (hn : ¬ (pt = 6 ∧ m = 17 ∧ at' = 0)) (hat : 0 ≤ at') :
    tn6 pt at' (d.take m) fr to a b claim p q = (tn6 pt at' d fr to a b claim p q).take m := by
  unfold tn6
  split
  · rfl
  · rename_i ha
    split
    · rename_i hp
      unfold poF
      rw [List.length_take, Nat.min_eq_left hm, if_neg (by omega), if_neg (show ¬ d.length < 4 by omega), List.take_take, Nat.min_eq_left (show 4 ≤ m by omega), port_cut (by omega)]
      have hX : (beB 2 p ++ (beB 2 q ++ d.drop 4)).length = d.length := by simp only [List.length_append, beB_len, List.length_drop]; omega
      generalize beB 2 p ++ (beB 2 q ++ d.drop 4) = X at *
      split
      · exact upF_cut (by omega) (by omega)
      · rename_i hu
        have hu : ¬ pt = 17 := by simpa using hu
        by_cases c : m ≤ 16
        · exact upF_short c (by omega)
        · exact upF_cut (by omega) (by omega)
    · rw [isE4_cut h hm, bAt_take (by omega)]
      split
      · unfold ecF
        rw [ecD_cut h hm, List.take_take, Nat.min_eq_left (show 2 ≤ m by omega), List.drop_take, List.take_take, Nat.min_eq_left (show 2 ≤ m - 4 by omega)]
        exact upF_cut (by omega) (by rw [ecD_len (by omega)]; exact hm)
      · rfl
end Go.Ev

namespace Go.Ev
set_option linter.unusedSimpArgs false
set_option linter.unusedVariables false
set_option maxRecDepth 10000
set_option maxHeartbeats 8000000
def k64 (x : Nat) : Nat := if x = 128 then 8 else 0
def isE6 (d : List UInt8) : Bool := decide (8 ≤ d.length) && (decide (bAt d 0 = 128 ∨ bAt d 0 = 129) && decide (bAt d 1 = 0))
def tn4 (pt at' : Int) (d fr to a b : List UInt8) (claim p q : Nat) : List UInt8 :=
  if 0 < at' then d else if pt = 6 ∨ pt = 17 then poF (decide (pt = 17)) d (fr ++ to) (a ++ b) p q else
  if pt = 58 ∧ isE6 d = true then ecF d (ps6 fr to 58 claim) [] (k64 (bAt d 0)) p else d
theorem tn4_len {pt at' : Int} {d fr to a b : List UInt8} {claim p q : Nat} : (tn4 pt at' d fr to a b claim p q).length = d.length := by
  unfold tn4
  split
  · rfl
  · split
    · exact poF_len
    · split
      · rename_i h
        have := h.2
        unfold isE6 at this
        simp only [Bool.and_eq_true, decide_eq_true_eq] at this
        exact ecF_len (by omega)
      · rfl
section
variable {S : Sys} (hS : Has S) (n : Nat)
include hS
theorem ev_turn4 {cl fl ho : Int} {fr to : List UInt8} {ex : List (Int × List UInt8)} {fg : Bool} {id at' : Int} {mo : Bool} {pt : Int} {da a b : List UInt8} {claim p q : Nat} (hfr : fr.length = 16) (hto : to.length = 16) (ha : a.length = 4) (hb : b.length = 4) (hd : da.length ≤ 900000) (hc : claim < 4294967296) (hp : p ≤ 65535) (hq : q ≤ 65535) :
    S.ev (n + 5) id_fault_turn4 [ip6LV cl fl ho fr to (extsLV ex) fg id at' mo pt da, .int .i64 (claim : Int), .agg [.bytes a, .int .i64 (p : Int)], .agg [.bytes b, .int .i64 (q : Int)]] none = some (.str (tn4 pt at' da fr to a b claim p q), none) := by
  unfold tn4
  rw [Sys.step hS.h_fault_turn4, F_fault_turn4_eq]
  unfold F_fault_turn4
  (try simp only [guard_merge, or_merge, and_merge, or_pick, and_pick, guard_or, guard_and]); simp only [to_ob]
  by_cases c0 : 0 < at'
  · rw [if_pos c0]
    simp only [go_sem, ↓reduceIte, reduceCtorEq, upd_ne, back_new (no_at), Nat.reduceAdd, Nat.reduceEqDiff, Nat.reduceMul, Nat.reduceSub, Nat.reduceLeDiff, Nat.reduceLT, Int.reduceToNat, Int.reduceLE, Int.reduceLT, Int.reduceEq, UInt8.reduceOfNat, List.getElem?_map, Int.toNat_natCast, hfr, hto, ha, hb, c0]
  rw [if_neg c0]
  by_cases c1 : pt = 6 ∨ pt = 17
  · rw [if_pos c1]
    have hP := ev_ported hS n pt da (fr ++ to) (a ++ b) p q hd (by simp [hfr, hto]) (by simp [hfr, hto]) (by simp [ha, hb]) hp hq
    have x1 : 4 + 4 ≤ maxStr := by decide
    have x2 : 16 + 16 ≤ maxStr := by decide
    have t1 : fr.take 16 = fr := List.take_of_length_le (by omega)
    have t2 : to.take 16 = to := List.take_of_length_le (by omega)
    have t3 : a.take 4 = a := List.take_of_length_le (by omega)
    have t4 : b.take 4 = b := List.take_of_length_le (by omega)
    rcases c1 with rfl | rfl
    · simp only [go_sem, ↓reduceIte, reduceCtorEq, upd_ne, back_new (no_at), Nat.reduceAdd, Nat.reduceEqDiff, Nat.reduceMul, Nat.reduceSub, Nat.reduceLeDiff, Nat.reduceLT, Int.reduceToNat, Int.reduceLE, Int.reduceLT, Int.reduceEq, UInt8.reduceOfNat, List.getElem?_map, Int.toNat_natCast, hfr, hto, ha, hb, c0, hP, x1, x2, t1, t2, t3, t4, toBytes_byteLV, List.length_append]
    · simp only [go_sem, ↓reduceIte, reduceCtorEq, upd_ne, back_new (no_at), Nat.reduceAdd, Nat.reduceEqDiff, Nat.reduceMul, Nat.reduceSub, Nat.reduceLeDiff, Nat.reduceLT, Int.reduceToNat, Int.reduceLE, Int.reduceLT, Int.reduceEq, UInt8.reduceOfNat, List.getElem?_map, Int.toNat_natCast, hfr, hto, ha, hb, c0, hP, x1, x2, t1, t2, t3, t4, toBytes_byteLV, List.length_append]
  rw [if_neg c1]
  have c6 : ¬ pt = 6 := fun h => c1 (.inl h)
  have c17 : ¬ pt = 17 := fun h => c1 (.inr h)
  by_cases c2 : pt = 58
  case neg =>
    rw [if_neg (fun h => c2 h.1)]
    simp only [go_sem, ↓reduceIte, reduceCtorEq, upd_ne, back_new (no_at), Nat.reduceAdd, Nat.reduceEqDiff, Nat.reduceMul, Nat.reduceSub, Nat.reduceLeDiff, Nat.reduceLT, Int.reduceToNat, Int.reduceLE, Int.reduceLT, Int.reduceEq, UInt8.reduceOfNat, List.getElem?_map, Int.toNat_natCast, hfr, hto, ha, hb, c0, c6, c17, c2]
  unfold isE6
  by_cases c3 : (da.length : Int) < 8
  · have c3' : ¬ (8 : Int) ≤ (da.length : Int) := by omega
    rw [if_neg (by rw [decide_eq_false (by omega)]; simp)]
    simp only [go_sem, ↓reduceIte, reduceCtorEq, upd_ne, back_new (no_at), Nat.reduceAdd, Nat.reduceEqDiff, Nat.reduceMul, Nat.reduceSub, Nat.reduceLeDiff, Nat.reduceLT, Int.reduceToNat, Int.reduceLE, Int.reduceLT, Int.reduceEq, UInt8.reduceOfNat, List.getElem?_map, Int.toNat_natCast, hfr, hto, ha, hb, c0, c2, c3, c3']
  have c3' : (8 : Int) ≤ (da.length : Int) := by omega
  rw [decide_eq_true (p := 8 ≤ da.length) (by omega), Bool.true_and]
  have g0 := get_def (s := da) (i := 0) (by omega)
  have g1 := get_def (s := da) (i := 1) (by omega)
  have b0 : (da.getD 0 0).toNat = bAt da 0 := rfl
  have b1 : (da.getD 1 0).toNat = bAt da 1 := rfl
  have hps := ev_Pseudo6 hS (n + 1) fr to 58 claim hfr hto (by omega) hc
  have hps : S.ev (n + 4) id_sum_Pseudo6 [.bytes fr, .bytes to, .int .i64 58, .int .i64 (claim : Int)] none = _ := hps
  have e1 : ∀ k : Nat, k ≤ 255 → S.ev (n + 4) id_fault_echoed [.str da, .str (ps6 fr to 58 claim), .str [], .int .i64 (k : Int), .int .i64 (p : Int)] none = some (.str (ecF da (ps6 fr to 58 claim) [] k p), none) := fun k hk =>
    ev_echoed hS n da (ps6 fr to 58 claim) [] k p (by omega) hd (by rw [ps6_len]; omega) (by rw [ps6_len]; omega) (by simp) hk hp
  have e8 : S.ev (n + 4) id_fault_echoed [.str da, .str (ps6 fr to 58 claim), .str [], .int .i64 8, .int .i64 (p : Int)] none = _ := e1 8 (by omega)
  have e0 : S.ev (n + 4) id_fault_echoed [.str da, .str (ps6 fr to 58 claim), .str [], .int .i64 0, .int .i64 (p : Int)] none = _ := e1 0 (by omega)
  by_cases d8 : bAt da 0 = 128
  · by_cases d1 : bAt da 1 = 0
    · rw [if_pos ⟨c2, by simp [d8, d1]⟩, show k64 (bAt da 0) = 8 by unfold k64; rw [if_pos d8]]
      simp only [go_sem, ↓reduceIte, reduceCtorEq, upd_ne, back_new (no_at), Nat.reduceAdd, Nat.reduceEqDiff, Nat.reduceMul, Nat.reduceSub, Nat.reduceLeDiff, Nat.reduceLT, Int.reduceToNat, Int.reduceLE, Int.reduceLT, Int.reduceEq, UInt8.reduceOfNat, List.getElem?_map, Int.toNat_natCast, hfr, hto, ha, hb, c0, c2, c3, c3', g0, g1, byteLV, b0, b1, d8, d1, hps, e8, Int.cast_ofNat_Int, Int.natCast_zero]
    · have d1' : ¬ ((bAt da 1 : Nat) : Int) = 0 := by omega
      rw [if_neg (by simp [d1])]
      simp only [go_sem, ↓reduceIte, reduceCtorEq, upd_ne, back_new (no_at), Nat.reduceAdd, Nat.reduceEqDiff, Nat.reduceMul, Nat.reduceSub, Nat.reduceLeDiff, Nat.reduceLT, Int.reduceToNat, Int.reduceLE, Int.reduceLT, Int.reduceEq, UInt8.reduceOfNat, List.getElem?_map, Int.toNat_natCast, hfr, hto, ha, hb, c0, c2, c3, c3', g0, g1, byteLV, b0, b1, d8, d1', hps, e8, Int.cast_ofNat_Int, Int.natCast_zero]
  · have d8' : ¬ ((bAt da 0 : Nat) : Int) = 128 := by omega
    by_cases d0 : bAt da 0 = 129
    · by_cases d1 : bAt da 1 = 0
      · rw [if_pos ⟨c2, by simp [d0, d1]⟩, show k64 (bAt da 0) = 0 by unfold k64; rw [if_neg d8]]
        simp only [go_sem, ↓reduceIte, reduceCtorEq, upd_ne, back_new (no_at), Nat.reduceAdd, Nat.reduceEqDiff, Nat.reduceMul, Nat.reduceSub, Nat.reduceLeDiff, Nat.reduceLT, Int.reduceToNat, Int.reduceLE, Int.reduceLT, Int.reduceEq, UInt8.reduceOfNat, List.getElem?_map, Int.toNat_natCast, hfr, hto, ha, hb, c0, c2, c3, c3', g0, g1, byteLV, b0, b1, d0, d1, hps, e0, Int.cast_ofNat_Int, Int.natCast_zero]
      · have d1' : ¬ ((bAt da 1 : Nat) : Int) = 0 := by omega
        rw [if_neg (by simp [d1])]
        simp only [go_sem, ↓reduceIte, reduceCtorEq, upd_ne, back_new (no_at), Nat.reduceAdd, Nat.reduceEqDiff, Nat.reduceMul, Nat.reduceSub, Nat.reduceLeDiff, Nat.reduceLT, Int.reduceToNat, Int.reduceLE, Int.reduceLT, Int.reduceEq, UInt8.reduceOfNat, List.getElem?_map, Int.toNat_natCast, hfr, hto, ha, hb, c0, c2, c3, c3', g0, g1, byteLV, b0, b1, d0, d1', hps, e0, Int.cast_ofNat_Int, Int.natCast_zero]
    · have d0' : ¬ ((bAt da 0 : Nat) : Int) = 129 := by omega
      rw [if_neg (by simp [d8, d0])]
      simp only [go_sem, ↓reduceIte, reduceCtorEq, upd_ne, back_new (no_at), Nat.reduceAdd, Nat.reduceEqDiff, Nat.reduceMul, Nat.reduceSub, Nat.reduceLeDiff, Nat.reduceLT, Int.reduceToNat, Int.reduceLE, Int.reduceLT, Int.reduceEq, UInt8.reduceOfNat, List.getElem?_map, Int.toNat_natCast, hfr, hto, ha, hb, c0, c2, c3, c3', g0, g1, byteLV, b0, b1, d8', d0', hps, e0, Int.cast_ofNat_Int, Int.natCast_zero]
end
end Go.Ev

namespace Go.Ev
set_option linter.unusedSimpArgs false
set_option linter.unusedVariables false
set_option maxRecDepth 10000
set_option maxHeartbeats 16000000
def proto64 (x : Int) : Int × Bool := if x = 58 then (1, true) else if x ≤ 2 ∨ x = 43 ∨ x = 44 ∨ x = 60 ∨ 255 < x then (0, false) else (x, true)
theorem proto64_le (x : Int) : 0 ≤ (proto64 x).1 ∧ (proto64 x).1 ≤ 255 := by unfold proto64; repeat' split
                                                                             all_goals constructor <;> dsimp only <;> omega
def q4K (pt at' : Int) (claim : Nat) (p q : Int) : Int :=
  if ¬ pOk p q then 13 else if (proto64 pt).2 = false then 10 else if 65515 - at' < claim then 3 else 0
def q4I (fg : Bool) (id : Int) : Nat := if fg = true then id.toNat % 65536 else 0
def q4D (fg : Bool) (claim : Nat) : Bool := !fg && decide (1240 < claim)
def q4H (cl ho pt at' : Int) (fg mo : Bool) (id : Int) (claim : Nat) : List UInt8 :=
  69 :: (beB 1 cl.toNat ++ (beB 2 (20 + claim) ++ (beB 2 (q4I fg id) ++ (beB 2 (at4 at' (q4D fg claim) mo) ++ (beB 1 ho.toNat ++ beB 1 (proto64 pt).1.toNat)))))
def q4X (cl ho pt at' : Int) (fg mo : Bool) (id : Int) (claim : Nat) (a b : List UInt8) : Int := sumS (q4H cl ho pt at' fg mo id claim ++ (a ++ b))
def q4B (cl ho pt at' : Int) (fg mo : Bool) (id : Int) (fr to da a b : List UInt8) (claim : Nat) (p q : Int) : List UInt8 :=
  q4H cl ho pt at' fg mo id claim ++ (beB 2 (q4X cl ho pt at' fg mo id claim a b).toNat ++ (a ++ (b ++ tn4 pt at' da fr to a b claim p.toNat q.toNat)))
def q4R (cl ho pt at' : Int) (fg mo : Bool) (id : Int) (fr to da a b : List UInt8) (claim : Nat) (p q : Int) : LV :=
  .tup [.str (if q4K pt at' claim p q = 0 then q4B cl ho pt at' fg mo id fr to da a b claim p q else []), fE (q4K pt at' claim p q)]
section
variable {S : Sys} (hS : Has S) (n : Nat)
include hS
theorem ev_proto6 (x : Int) : S.ev (n + 1) id_head64_Proto [.int .i64 x] none = some (.tup [.int .i64 (proto64 x).1, .bool (proto64 x).2], none) := by
  rw [Sys.step hS.h_head64_Proto, F_head64_Proto_eq]
  unfold F_head64_Proto
  (try simp only [guard_merge, or_merge, and_merge, or_pick, and_pick, guard_or, guard_and]); simp only [to_ob]
  simp only [go_sem, ↓reduceIte, reduceCtorEq, upd_ne, back_new (no_at), Nat.reduceAdd, Nat.reduceEqDiff, Nat.reduceMul, Nat.reduceSub, Nat.reduceLeDiff, Nat.reduceLT, Int.reduceToNat, Int.reduceLE, Int.reduceLT, Int.reduceEq, UInt8.reduceOfNat]
  unfold proto64
  repeat' split
  all_goals first | rfl | omega
variable {cl fl ho : Int} {fr to : List UInt8} {ex : List (Int × List UInt8)} {fg : Bool} {id at' : Int} {mo : Bool} {pt : Int} {da a b : List UInt8} {claim : Nat} {p q : Int}
theorem ev_quote4 (hfr : fr.length = 16) (hto : to.length = 16) (ha : a.length = 4) (hb : b.length = 4)
    (ht : 0 ≤ cl ∧ cl ≤ 255) (htl : 0 ≤ ho ∧ ho ≤ 255) (hi : 0 ≤ id ∧ id < 4294967296) (hat : 0 ≤ at' ∧ at' ≤ 65528 ∧ at' % 8 = 0) (hd : da.length ≤ claim) (hc : claim ≤ 65535) :
    S.ev (n + 6) id_fault_Quote4 [ip6LV cl fl ho fr to (extsLV ex) fg id at' mo pt da, .int .i64 (claim : Int), .agg [.bytes a, .int .i64 p], .agg [.bytes b, .int .i64 q]] none =
      some (q4R cl ho pt at' fg mo id fr to da a b claim p q, none) := by
  have hP := ev_proto6 hS (n + 4) pt
  have hPl := proto64_le pt
  have hfa := ev_faultF hS (n + 4)
  have w1 : S.ev (n + 5) id_fault_within [.int .i64 255, .lst none [.int .i64 cl, .int .i64 ho]] none = some (.bool true, none) := by
    have h := ev_withinF hS (n + 4) 255 [cl, ho] (by simp)
    rw [show inB 255 [cl, ho] = true by simp [inB]; omega] at h
    exact h
  have w2 : S.ev (n + 5) id_fault_within [.int .i64 65535, .lst none [.int .i64 p, .int .i64 q]] none = some (.bool (decide (pOk p q)), none) := by
    have h := ev_withinF hS (n + 4) 65535 [p, q] (by simp)
    rw [show inB 65535 [p, q] = decide (pOk p q) from by rw [Bool.eq_iff_iff, decide_eq_true_iff]; unfold inB pOk; simp only [List.all_cons, List.all_nil, Bool.and_eq_true, decide_eq_true_eq, and_true]; omega] at h
    exact h
  have w3 : S.ev (n + 5) id_fault_within [.int .i64 65528, .lst none [.int .i64 at']] none = some (.bool true, none) := by
    have h := ev_withinF hS (n + 4) 65528 [at'] (by simp)
    rw [show inB 65528 [at'] = true by simp [inB]; omega] at h
    exact h
  obtain ⟨T, rfl⟩ := Int.eq_ofNat_of_zero_le ht.1
  obtain ⟨I, rfl⟩ := Int.eq_ofNat_of_zero_le hi.1
  obtain ⟨L, rfl⟩ := Int.eq_ofNat_of_zero_le htl.1
  obtain ⟨A, rfl⟩ := Int.eq_ofNat_of_zero_le hat.1
  have c0 : Int.tmod (A : Int) 8 = 0 := by rw [Int.tmod_eq_emod_of_nonneg (by omega)]; omega
  have c1 : ¬ (claim : Int) < (da.length : Int) := by omega
  have eA : IntKind.i64.wrap (65515 - (A : Int)) = 65515 - (A : Int) := wrap_id (by omega) (by omega)
  unfold q4R q4K
  rw [Sys.step hS.h_fault_Quote4, F_fault_Quote4_eq]
  unfold F_fault_Quote4
  (try simp only [guard_merge, or_merge, and_merge, or_pick, and_pick, guard_or, guard_and]); simp only [to_ob]
  by_cases cp : pOk p q
  case neg =>
    rw [if_pos cp, if_neg (show ¬ (13 : Int) = 0 by omega)]
    rw [decide_eq_false cp] at w2
    simp only [go_sem, ↓reduceIte, reduceCtorEq, upd_ne, back_new (no_at), Nat.reduceAdd, Nat.reduceEqDiff, Nat.reduceMul, Nat.reduceSub, Nat.reduceLeDiff, Nat.reduceLT, Int.reduceToNat, Int.reduceLE, Int.reduceLT, Int.reduceEq, UInt8.reduceOfNat, List.getElem?_map, Int.toNat_natCast, hfr, hto, ha, hb, hP, w1, w2, w3, hfa, fE]
  rw [if_neg (not_not_intro cp)]
  rw [decide_eq_true cp] at w2
  obtain ⟨p1, p2, q1, q2⟩ := cp
  obtain ⟨p, rfl⟩ := Int.eq_ofNat_of_zero_le p1
  obtain ⟨q, rfl⟩ := Int.eq_ofNat_of_zero_le q1
  by_cases cr : (proto64 pt).2 = false
  · rw [if_pos cr, if_neg (show ¬ (10 : Int) = 0 by omega)]
    rw [cr] at hP
    simp only [go_sem, ↓reduceIte, reduceCtorEq, upd_ne, back_new (no_at), Nat.reduceAdd, Nat.reduceEqDiff, Nat.reduceMul, Nat.reduceSub, Nat.reduceLeDiff, Nat.reduceLT, Int.reduceToNat, Int.reduceLE, Int.reduceLT, Int.reduceEq, UInt8.reduceOfNat, List.getElem?_map, Int.toNat_natCast, hfr, hto, ha, hb, hP, w1, w2, w3, hfa, fE, c0, c1]
  rw [if_neg cr]
  have cr : (proto64 pt).2 = true := by simpa using cr
  rw [cr] at hP
  by_cases cl3 : 65515 - (A : Int) < (claim : Int)
  · rw [if_pos cl3, if_neg (show ¬ (3 : Int) = 0 by omega)]
    simp only [go_sem, ↓reduceIte, reduceCtorEq, upd_ne, back_new (no_at), Nat.reduceAdd, Nat.reduceEqDiff, Nat.reduceMul, Nat.reduceSub, Nat.reduceLeDiff, Nat.reduceLT, Int.reduceToNat, Int.reduceLE, Int.reduceLT, Int.reduceEq, UInt8.reduceOfNat, List.getElem?_map, Int.toNat_natCast, hfr, hto, ha, hb, hP, w1, w2, w3, hfa, fE, c0, c1, eA, cl3]
  rw [if_neg cl3, if_pos rfl]
  have hT := ev_turn4 hS n (cl := (T : Int)) (fl := fl) (ho := (L : Int)) (fr := fr) (to := to) (ex := ex) (fg := fg) (id := (I : Int)) (at' := (A : Int)) (mo := mo) (pt := pt) (da := da) (a := a) (b := b) (claim := claim) (p := p) (q := q) hfr hto ha hb (by omega) (by omega) (by omega) (by omega)
  have hTl := @tn4_len pt (A : Int) da fr to a b claim p q
  have hH : ∀ g m, (q4H (T : Int) (L : Int) pt (A : Int) g m (I : Int) claim).length = 10 := fun g m => by unfold q4H; simp only [List.length_cons, List.length_append, beB_len]
  have hx := sumS_le (q4H (T : Int) (L : Int) pt (A : Int) fg mo (I : Int) claim ++ (a ++ b))
  have hO : ∀ g m, S.ev (n + 5) id_sum_Of [.lst none [.str (q4H (T : Int) (L : Int) pt (A : Int) g m (I : Int) claim), .str (a ++ b)]] none = some (.int .i64 (q4X (T : Int) (L : Int) pt (A : Int) g m (I : Int) claim a b), none) := fun g m => by
    have h := ev_Of hS (n + 3) [q4H (T : Int) (L : Int) pt (A : Int) g m (I : Int) claim, a ++ b] (by simp) (by simp only [List.flatten_cons, List.flatten_nil, List.append_nil, List.length_append, hH]; omega)
    simp only [List.map_cons, List.map_nil, List.flatten_cons, List.flatten_nil, List.append_nil] at h
    exact h
  have g2 : ∀ x : Nat, x ≤ 65535 → S.ev (n + 5) id_fault_big [.int .i64 (x : Int), .int .i64 2] none = some (.str (beB 2 x), none) := fun x hx => ev_bigF hS (n + 3) x 2 (by omega) (lt2 (by omega) (by omega)) ⟨by omega, by omega⟩
  have g3 : ∀ x : Nat, x ≤ 255 → S.ev (n + 5) id_fault_big [.int .i64 (x : Int), .int .i64 1] none = some (.str (beB 1 x), none) := fun x hx => ev_bigF hS (n + 3) x 1 (by omega) (lt1 (by omega) (by omega)) ⟨by omega, by omega⟩
  have gX : ∀ g m, S.ev (n + 5) id_fault_big [.int .i64 (q4X (T : Int) (L : Int) pt (A : Int) g m (I : Int) claim a b), .int .i64 2] none = some (.str (beB 2 (q4X (T : Int) (L : Int) pt (A : Int) g m (I : Int) claim a b).toNat), none) := fun g m => by
    have hx := sumS_le (q4H (T : Int) (L : Int) pt (A : Int) g m (I : Int) claim ++ (a ++ b))
    exact ev_bigF hS (n + 3) _ 2 (by omega) (by unfold q4X; exact ⟨hx.1, by have := hx.2; simp; omega⟩) ⟨by unfold q4X; omega, by unfold q4X; omega⟩
  unfold q4B
  simp only [Int.toNat_natCast]
  generalize tn4 pt (A : Int) da fr to a b claim p q = TN at *
  generalize hPP : (proto64 pt).1 = PP at *
  obtain ⟨P, rfl⟩ := Int.eq_ofNat_of_zero_le hPl.1
  have gP := g3 P (by omega)
  have gL := g3 L (by omega)
  have gT := g3 T (by omega)
  have gC := g2 (20 + claim) (by omega)
  have gI := g2 (I % 65536) (by omega)
  have g0 : S.ev (n + 5) id_fault_big [.int .i64 0, .int .i64 2] none = some (.str (beB 2 0), none) := g2 0 (by omega)
  have a7 : A / 8 < 8192 := by omega
  have gA0 := g2 (A / 8) (by omega)
  have gA1 := g2 (A / 8 + 8192) (by omega)
  have gA2 := g2 (A / 8 + 16384) (by omega)
  have gA3 := g2 (A / 8 + 16384 + 8192) (by omega)
  have e20 : IntKind.i64.wrap (20 + (claim : Int)) = ((20 + claim : Nat) : Int) := by rw [wrap_id (by omega) (by omega)]; omega
  have eq : IntKind.i64.wrap (Int.tdiv (A : Int) 8) = ((A / 8 : Nat) : Int) := by rw [Int.tdiv_eq_ediv_of_nonneg (by omega), wrap_id (by omega) (by omega)]; omega
  have f1 : bitsOf .or .i64 ((A / 8 : Nat) : Int) 16384 = ((A / 8 + 16384 : Nat) : Int) := by
    rw [show (16384 : Int) = ((16384 : Nat) : Int) from rfl, bits_or_nat (by simp [IntKind.max, IntKind.signed, IntKind.bits]; omega) (by decide), or_df a7]
  have f2 : bitsOf .or .i64 ((A / 8 : Nat) : Int) 8192 = ((A / 8 + 8192 : Nat) : Int) := by
    rw [show (8192 : Int) = ((8192 : Nat) : Int) from rfl, bits_or_nat (by simp [IntKind.max, IntKind.signed, IntKind.bits]; omega) (by decide), or_mo a7]
  have f3 : bitsOf .or .i64 ((A / 8 + 16384 : Nat) : Int) 8192 = ((A / 8 + 16384 + 8192 : Nat) : Int) := by
    rw [show (8192 : Int) = ((8192 : Nat) : Int) from rfl, bits_or_nat (by simp [IntKind.max, IntKind.signed, IntKind.bits]; omega) (by decide), or_dm a7]
  have f4 : bitsOf .and .u32 (I : Int) 65535 = ((I % 65536 : Nat) : Int) := by
    rw [show (65535 : Int) = ((2 ^ 16 - 1 : Nat) : Int) from rfl, bits_mask 16 (by omega) (show (I : Int) ≤ IntKind.u32.max by simp [IntKind.max, IntKind.signed, IntKind.bits]; omega) (by decide)]; rfl
  have f5 : IntKind.i64.wrap ((I % 65536 : Nat) : Int) = ((I % 65536 : Nat) : Int) := wrap_id (by omega) (by omega)
  have hl := beB_len
  have t3 : a.take 4 = a := List.take_of_length_le (by omega)
  have t4 : b.take 4 = b := List.take_of_length_le (by omega)
  have x1 : 1 + 1 ≤ maxStr := by decide
  have x2 : 2 + 2 ≤ maxStr := by decide
  have x3 : 4 + 2 ≤ maxStr := by decide
  have x4 : 6 + 2 ≤ maxStr := by decide
  have x5 : 8 + 1 ≤ maxStr := by decide
  have x6 : 9 + 1 ≤ maxStr := by decide
  have x7 : 4 + 4 ≤ maxStr := by decide
  have x8 : 10 + 2 ≤ maxStr := by decide
  have x9 : 12 + 8 ≤ maxStr := by decide
  have x10 : 20 + da.length ≤ maxStr := by unfold maxStr; omega
  have x11 : 12 + 4 ≤ maxStr := by decide
  have x12 : 16 + 4 ≤ maxStr := by decide
  have hHe : ∀ g m w, at4 (A : Int) (q4D g claim) m = w → ∀ i, q4I g (I : Int) = i → q4H (T : Int) (L : Int) pt (A : Int) g m (I : Int) claim = 69 :: (beB 1 T ++ (beB 2 (20 + claim) ++ (beB 2 i ++ (beB 2 w ++ (beB 1 L ++ beB 1 P))))) := fun g m w hw i hi => by
    unfold q4H; rw [hw, hi, hPP, Int.toNat_natCast, Int.toNat_natCast, Int.toNat_natCast]
  cases fg with
  | true =>
    cases mo with
    | true =>
      have hO := hO true true
      have gX := gX true true
      have hHe := hHe true true (A / 8 + 8192) (by unfold at4 q4D; simp) (I % 65536) (by unfold q4I; simp)
      generalize q4X (T : Int) (L : Int) pt (A : Int) true true (I : Int) claim a b = X at *
      rw [hHe] at hO ⊢
      simp only [go_sem, ↓reduceIte, reduceCtorEq, upd_ne, back_new (no_at), Nat.reduceAdd, Nat.reduceEqDiff, Nat.reduceMul, Nat.reduceSub, Nat.reduceLeDiff, Nat.reduceLT, Int.reduceToNat, Int.reduceLE, Int.reduceLT, Int.reduceEq, UInt8.reduceOfNat, List.getElem?_map, Int.toNat_natCast, hfr, hto, ha, hb, hP, w1, w2, w3, hfa, fE, c0, c1, eA, cl3, eq, f2, f4, f5, e20, gP, gL, gT, gC, gI, gA1, hO, gX, hl, t3, t4, x1, x2, x3, x4, x5, x6, x7, x8, x9, x10, x11, x12, hT, hTl, toBytes_byteLV, List.length_append, List.length_cons, List.length_nil, List.append_assoc, List.cons_append, List.nil_append]
    | false =>
      have hO := hO true false
      have gX := gX true false
      have hHe := hHe true false (A / 8) (by unfold at4 q4D; simp) (I % 65536) (by unfold q4I; simp)
      generalize q4X (T : Int) (L : Int) pt (A : Int) true false (I : Int) claim a b = X at *
      rw [hHe] at hO ⊢
      simp only [go_sem, ↓reduceIte, reduceCtorEq, upd_ne, back_new (no_at), Nat.reduceAdd, Nat.reduceEqDiff, Nat.reduceMul, Nat.reduceSub, Nat.reduceLeDiff, Nat.reduceLT, Int.reduceToNat, Int.reduceLE, Int.reduceLT, Int.reduceEq, UInt8.reduceOfNat, List.getElem?_map, Int.toNat_natCast, hfr, hto, ha, hb, hP, w1, w2, w3, hfa, fE, c0, c1, eA, cl3, eq, f2, f4, f5, e20, gP, gL, gT, gC, gI, gA0, hO, gX, hl, t3, t4, x1, x2, x3, x4, x5, x6, x7, x8, x9, x10, x11, x12, hT, hTl, toBytes_byteLV, List.length_append, List.length_cons, List.length_nil, List.append_assoc, List.cons_append, List.nil_append]
  | false =>
    by_cases cb : 1240 < claim
    · have cb' : (1240 : Int) < (claim : Int) := by omega
      cases mo with
      | true =>
        have hO := hO false true
        have gX := gX false true
        have hHe := hHe false true (A / 8 + 16384 + 8192) (by unfold at4 q4D; simp [cb]) 0 (by unfold q4I; simp)
        generalize q4X (T : Int) (L : Int) pt (A : Int) false true (I : Int) claim a b = X at *
        rw [hHe] at hO ⊢
        simp only [go_sem, ↓reduceIte, reduceCtorEq, upd_ne, back_new (no_at), Nat.reduceAdd, Nat.reduceEqDiff, Nat.reduceMul, Nat.reduceSub, Nat.reduceLeDiff, Nat.reduceLT, Int.reduceToNat, Int.reduceLE, Int.reduceLT, Int.reduceEq, UInt8.reduceOfNat, List.getElem?_map, Int.toNat_natCast, hfr, hto, ha, hb, hP, w1, w2, w3, hfa, fE, c0, c1, eA, cl3, cb', eq, f1, f2, f3, f4, f5, e20, gP, gL, gT, gC, g0, gA3, hO, gX, hl, t3, t4, x1, x2, x3, x4, x5, x6, x7, x8, x9, x10, x11, x12, hT, hTl, toBytes_byteLV, List.length_append, List.length_cons, List.length_nil, List.append_assoc, List.cons_append, List.nil_append]
      | false =>
        have hO := hO false false
        have gX := gX false false
        have hHe := hHe false false (A / 8 + 16384) (by unfold at4 q4D; simp [cb]) 0 (by unfold q4I; simp)
        generalize q4X (T : Int) (L : Int) pt (A : Int) false false (I : Int) claim a b = X at *
        rw [hHe] at hO ⊢
        simp only [go_sem, ↓reduceIte, reduceCtorEq, upd_ne, back_new (no_at), Nat.reduceAdd, Nat.reduceEqDiff, Nat.reduceMul, Nat.reduceSub, Nat.reduceLeDiff, Nat.reduceLT, Int.reduceToNat, Int.reduceLE, Int.reduceLT, Int.reduceEq, UInt8.reduceOfNat, List.getElem?_map, Int.toNat_natCast, hfr, hto, ha, hb, hP, w1, w2, w3, hfa, fE, c0, c1, eA, cl3, cb', eq, f1, f2, f3, f4, f5, e20, gP, gL, gT, gC, g0, gA2, hO, gX, hl, t3, t4, x1, x2, x3, x4, x5, x6, x7, x8, x9, x10, x11, x12, hT, hTl, toBytes_byteLV, List.length_append, List.length_cons, List.length_nil, List.append_assoc, List.cons_append, List.nil_append]
    · have cb' : ¬ (1240 : Int) < (claim : Int) := by omega
      cases mo with
      | true =>
        have hO := hO false true
        have gX := gX false true
        have hHe := hHe false true (A / 8 + 8192) (by unfold at4 q4D; simp [cb]) 0 (by unfold q4I; simp)
        generalize q4X (T : Int) (L : Int) pt (A : Int) false true (I : Int) claim a b = X at *
        rw [hHe] at hO ⊢
        simp only [go_sem, ↓reduceIte, reduceCtorEq, upd_ne, back_new (no_at), Nat.reduceAdd, Nat.reduceEqDiff, Nat.reduceMul, Nat.reduceSub, Nat.reduceLeDiff, Nat.reduceLT, Int.reduceToNat, Int.reduceLE, Int.reduceLT, Int.reduceEq, UInt8.reduceOfNat, List.getElem?_map, Int.toNat_natCast, hfr, hto, ha, hb, hP, w1, w2, w3, hfa, fE, c0, c1, eA, cl3, cb', eq, f1, f2, f3, f4, f5, e20, gP, gL, gT, gC, g0, gA1, hO, gX, hl, t3, t4, x1, x2, x3, x4, x5, x6, x7, x8, x9, x10, x11, x12, hT, hTl, toBytes_byteLV, List.length_append, List.length_cons, List.length_nil, List.append_assoc, List.cons_append, List.nil_append]
      | false =>
        have hO := hO false false
        have gX := gX false false
        have hHe := hHe false false (A / 8) (by unfold at4 q4D; simp [cb]) 0 (by unfold q4I; simp)
        generalize q4X (T : Int) (L : Int) pt (A : Int) false false (I : Int) claim a b = X at *
        rw [hHe] at hO ⊢
        simp only [go_sem, ↓reduceIte, reduceCtorEq, upd_ne, back_new (no_at), Nat.reduceAdd, Nat.reduceEqDiff, Nat.reduceMul, Nat.reduceSub, Nat.reduceLeDiff, Nat.reduceLT, Int.reduceToNat, Int.reduceLE, Int.reduceLT, Int.reduceEq, UInt8.reduceOfNat, List.getElem?_map, Int.toNat_natCast, hfr, hto, ha, hb, hP, w1, w2, w3, hfa, fE, c0, c1, eA, cl3, cb', eq, f1, f2, f3, f4, f5, e20, gP, gL, gT, gC, g0, gA0, hO, gX, hl, t3, t4, x1, x2, x3, x4, x5, x6, x7, x8, x9, x10, x11, x12, hT, hTl, toBytes_byteLV, List.length_append, List.length_cons, List.length_nil, List.append_assoc, List.cons_append, List.nil_append]
end
end Go.Ev

namespace Go.Ev
set_option linter.unusedSimpArgs false
set_option linter.unusedVariables false
set_option maxRecDepth 10000
set_option maxHeartbeats 8000000
def th6 (s : List UInt8) : List UInt8 := (s.drop 40).take (wAt s 4)
def dD6 (k : ChR) : List UInt8 := if k.2.2.1 = 44 then k.2.2.2.drop 8 else k.2.2.2
def cl6 (s : List UInt8) (k : ChR) : Nat := wAt s 4 - ((th6 s).length - (dD6 k).length)
def iR6 (s : List UInt8) (k : ChR) : Int :=
  if k.1 ≠ 0 then k.1 else if k.2.2.1 = 44 ∧ k.2.2.2.length < 8 then 7 else if (dD6 k).length < min 8 (cl6 s k) then 7 else 0
def iK6 (s : List UInt8) : Int := if s.length < 40 then 7 else if bAt s 0 / 16 ≠ 6 then 8 else iR6 s (k6 s)
def iLV6 (s : List UInt8) : LV := if iK6 s = 0 then mk6 s (k6 s) else z6LV
def iC6 (s : List UInt8) : Int := if iK6 s = 0 then ((cl6 s (k6 s) : Nat) : Int) else 0
section
variable {S : Sys} (hS : Has S) (n : Nat)
include hS
theorem ev_inside6 (s : List UInt8) (hs : s.length ≤ 140737488351232) : S.ev (n + 4) id_fault_Inside6 [.str s] none = some (.tup [iLV6 s, .int .i64 (iC6 s), fE (iK6 s)], none) := by
  rw [Sys.step hS.h_fault_Inside6, F_fault_Inside6_eq]
  unfold F_fault_Inside6
  have hfa := ev_faultF hS (n + 2)
  (try simp only [guard_merge, or_merge, and_merge, or_pick, and_pick, guard_or, guard_and]); simp only [to_ob]
  unfold iLV6 iC6 iK6
  by_cases c1 : s.length < 40
  · have c1' : (s.length : Int) < 40 := by omega
    simp only [go_sem, ↓reduceIte, reduceCtorEq, upd_ne, back_new (no_at), Nat.reduceAdd, Nat.reduceEqDiff, Nat.reduceMul, Nat.reduceSub, Nat.reduceLeDiff, Nat.reduceLT, Int.reduceToNat, Int.reduceLE, Int.reduceLT, Int.reduceEq, UInt8.reduceOfNat, c1, c1', hfa, fE]
  · have c1' : ¬ (s.length : Int) < 40 := by omega
    have g0 := get_def (s := s) (i := 0) (by omega)
    have hb0 := bAt_le s 0
    have e4 : Int.fdiv ((s.getD 0 0).toNat : Int) (2 ^ min 4 8) = ((bAt s 0 / 16 : Nat) : Int) := by
      rw [show min 4 8 = 4 from rfl, Int.fdiv_eq_ediv_of_nonneg _ (by decide)]; rfl
    by_cases c2 : bAt s 0 / 16 ≠ 6
    · have c2' : ¬ ((bAt s 0 / 16 : Nat) : Int) = 6 := by omega
      simp only [go_sem, ↓reduceIte, reduceCtorEq, upd_ne, back_new (no_at), Nat.reduceAdd, Nat.reduceEqDiff, Nat.reduceMul, Nat.reduceSub, Nat.reduceLeDiff, Nat.reduceLT, Int.reduceToNat, Int.reduceLE, Int.reduceLT, Int.reduceEq, UInt8.reduceOfNat, List.getElem?_map, Int.toNat_natCast, c1, c1', c2, c2', hfa, fE, g0, byteLV, e4]
    · have c2' : ((bAt s 0 / 16 : Nat) : Int) = 6 := by omega
      have g4 := get_def (s := s) (i := 4) (by omega)
      have g5 := get_def (s := s) (i := 5) (by omega)
      have g6 := get_def (s := s) (i := 6) (by omega)
      have g7 := get_def (s := s) (i := 7) (by omega)
      have hb4 := (s.getD 4 0).toNat_lt
      have hb5 := (s.getD 5 0).toNat_lt
      have hb6 := bAt_le s 6
      have hb7 := bAt_le s 7
      have hw4 := wAt_le s 4
      have q1 : IntKind.i64.wrap ((s.getD 4 0).toNat : Int) = ((s.getD 4 0).toNat : Int) := wrap_id (by omega) (by omega)
      have q2 : IntKind.i64.wrap ((s.getD 5 0).toNat : Int) = ((s.getD 5 0).toNat : Int) := wrap_id (by omega) (by omega)
      have q3 : IntKind.i64.wrap (((s.getD 4 0).toNat : Int) * 2 ^ min 8 64) = (((s.getD 4 0).toNat * 256 : Nat) : Int) := by
        rw [show min 8 64 = 8 from rfl, wrap_id (by omega) (by omega)]; omega
      have q4 : bitsOf .or .i64 (((s.getD 4 0).toNat * 256 : Nat) : Int) ((s.getD 5 0).toNat : Int) = ((wAt s 4 : Nat) : Int) := w16_or _ _
      have q5 : IntKind.i64.wrap (40 + ((wAt s 4 : Nat) : Int)) = ((40 + wAt s 4 : Nat) : Int) := by rw [wrap_id (by omega) (by omega)]; omega
      have q6 : IntKind.i64.wrap ((s.getD 6 0).toNat : Int) = ((bAt s 6 : Nat) : Int) := wrap_id (by omega) (by unfold bAt at hb6; omega)
      have q7 : IntKind.i64.wrap ((s.getD 7 0).toNat : Int) = ((bAt s 7 : Nat) : Int) := wrap_id (by omega) (by unfold bAt at hb7; omega)
      have hmm : (if ((40 + wAt s 4 : Nat) : Int) < (s.length : Int) then ((40 + wAt s 4 : Nat) : Int) else (s.length : Int)) = ((min s.length (40 + wAt s 4) : Nat) : Int) := by split <;> omega
      have m1 : 40 ≤ min s.length (40 + wAt s 4) := by omega
      have m2 : min s.length (40 + wAt s 4) ≤ s.length := by omega
      have m3 : (s.drop 40).take (min s.length (40 + wAt s 4) - 40) = th6 s := by
        unfold th6
        by_cases q : s.length ≤ 40 + wAt s 4
        · rw [Nat.min_eq_left q, List.take_of_length_le (by simp), List.take_of_length_le (by simp; omega)]
        · rw [Nat.min_eq_right (by omega), show 40 + wAt s 4 - 40 = wAt s 4 by omega]
      have htl : (th6 s).length ≤ wAt s 4 := by unfold th6; rw [List.length_take]; omega
      have hN := ev_New hS (n + 2) s
      have hU := ev_U32 hS n s 0 (by omega) hs
      simp only [Nat.zero_add, List.drop_zero] at hU
      have hx := num4_lt s
      have d1 : Int.fdiv ((numN (s.take 4) : Nat) : Int) (2 ^ min 20 64) = ((numN (s.take 4) / 1048576 : Nat) : Int) := by
        rw [show min 20 64 = 20 from rfl, Int.fdiv_eq_ediv_of_nonneg _ (by decide)]; rfl
      have d2 : bitsOf .and .i64 ((numN (s.take 4) / 1048576 : Nat) : Int) 255 = pcl6 s := by
        rw [show (255 : Int) = ((2 ^ 8 - 1 : Nat) : Int) from rfl, bits_mask 8 (by omega) (show ((numN (s.take 4) / 1048576 : Nat) : Int) ≤ 9223372036854775807 by omega) (by decide)]
        rfl
      have d3 : bitsOf .and .i64 ((numN (s.take 4) : Nat) : Int) 1048575 = pfl6 s := by
        rw [show (1048575 : Int) = ((2 ^ 20 - 1 : Nat) : Int) from rfl, bits_mask 20 (by omega) (show ((numN (s.take 4) : Nat) : Int) ≤ 9223372036854775807 by omega) (by decide)]
        rfl
      have hlf : (pfr6 s).length = 16 := by unfold pfr6; simp; omega
      have hlt : (pto6 s).length = 16 := by unfold pto6; simp; omega
      have v5 : (s.drop 8).take 16 = pfr6 s := rfl
      have v6 : (s.drop 24).take 16 = pto6 s := rfl
      have l8 : 8 ≤ s.length := by omega
      have l24 : 24 ≤ s.length := by omega
      have t8 : (s.drop 8).take (s.length - 8) = s.drop 8 := List.take_of_length_le (by simp)
      have t24 : (s.drop 24).take (s.length - 24) = s.drop 24 := List.take_of_length_le (by simp)
      have hC : S.ev (n + 3) id_ip6_Chain [.int .i64 ((bAt s 6 : Nat) : Int), .str (th6 s)] none = some (chLV (k6 s), none) := ev_chain6 hS (n + 1) _ _ (by omega)
      have hkl : (k6 s).2.2.2.length ≤ (th6 s).length := chC_rest _ _ _ _
      rw [if_neg c1, if_neg c2]
      unfold chLV at hC
      unfold mk6 iR6 cl6 dD6
      rcases hks : k6 s with ⟨kc, kl, kp, kr⟩
      rw [hks] at hC hkl
      dsimp only at hC hkl ⊢
      generalize min s.length (40 + wAt s 4) = B at *
      have k1 : ∀ sl : Slots, wCopy (upd sl 12 (.obj 1 (ip6LV (pcl6 s) (pfl6 s) (bAt s 7 : Nat) y16 y16 (.lst none (kl.map extLV)) false 0 0 false kp kr))) (.arr 12 1 [3] 3 0 16) (.str (s.drop 8)) = _ := fun sl => wc3 rfl (by rw [List.length_drop]; omega)
      have k2 : ∀ sl : Slots, wCopy (upd sl 12 (.obj 1 (ip6LV (pcl6 s) (pfl6 s) (bAt s 7 : Nat) (pfr6 s) y16 (.lst none (kl.map extLV)) false 0 0 false kp kr))) (.arr 12 1 [4] 19 0 16) (.str (s.drop 24)) = _ := fun sl => wc4 hlf rfl (by rw [List.length_drop]; omega)
      by_cases c4 : kc = 0
      case neg =>
        simp only [go_sem, ↓reduceIte, reduceCtorEq, upd_ne, back_new (no_at), Nat.reduceAdd, Nat.reduceEqDiff, Nat.reduceMul, Nat.reduceSub, Nat.reduceLeDiff, Nat.reduceLT, Int.reduceToNat, Int.reduceLE, Int.reduceLT, Int.reduceEq, UInt8.reduceOfNat, List.getElem?_map, Int.toNat_natCast, Nat.sub_zero, pMinmax, pMinmax2, Option.bind_some, c1', c2', c4, hC, fE, g0, g4, g5, g6, byteLV, e4, q1, q2, q3, q4, q5, q6, hmm, m1, m2, m3, Bool.false_eq_true]
      subst c4
      rw [show fE 0 = .nili from rfl] at hC
      by_cases c5 : kp = 44
      · subst c5
        by_cases c6 : kr.length < 8
        · have c6' : (kr.length : Int) < 8 := by omega
          simp only [go_sem, ↓reduceIte, reduceCtorEq, upd_ne, back_new (no_at), Nat.reduceAdd, Nat.reduceEqDiff, Nat.reduceMul, Nat.reduceSub, Nat.reduceLeDiff, Nat.reduceLT, Int.reduceToNat, Int.reduceLE, Int.reduceLT, Int.reduceEq, UInt8.reduceOfNat, List.getElem?_map, Int.toNat_natCast, Nat.sub_zero, pMinmax, pMinmax2, Option.bind_some, c1', c2', c6, c6', hfa, hN, hU, hC, fE, g0, g4, g5, g6, g7, byteLV, e4, q1, q2, q3, q4, q5, q6, q7, d1, d2, d3, k1, k2, v5, v6, hlf, hlt, l8, l24, t8, t24, hmm, m1, m2, m3, Bool.false_eq_true]
        · have c6' : ¬ (kr.length : Int) < 8 := by omega
          have h0 := get_def (s := kr) (i := 0) (by omega)
          have h2 := get_def (s := kr) (i := 2) (by omega)
          have h3 := get_def (s := kr) (i := 3) (by omega)
          have i0 := bAt_le kr 0
          have i2 := (kr.getD 2 0).toNat_lt
          have i3 := (kr.getD 3 0).toNat_lt
          have hw2 := wAt_le kr 2
          have r1 : IntKind.i64.wrap ((kr.getD 2 0).toNat : Int) = ((kr.getD 2 0).toNat : Int) := wrap_id (by omega) (by omega)
          have r2 : IntKind.i64.wrap ((kr.getD 3 0).toNat : Int) = ((kr.getD 3 0).toNat : Int) := wrap_id (by omega) (by omega)
          have r3 : IntKind.i64.wrap (((kr.getD 2 0).toNat : Int) * 2 ^ min 8 64) = (((kr.getD 2 0).toNat * 256 : Nat) : Int) := by
            rw [show min 8 64 = 8 from rfl, wrap_id (by omega) (by omega)]; omega
          have r4 : bitsOf .or .i64 (((kr.getD 2 0).toNat * 256 : Nat) : Int) ((kr.getD 3 0).toNat : Int) = ((wAt kr 2 : Nat) : Int) := w16_or _ _
          have r5 : IntKind.i64.wrap ((kr.getD 0 0).toNat : Int) = ((bAt kr 0 : Nat) : Int) := wrap_id (by omega) (by unfold bAt at i0; omega)
          have r6 : bitsOf .andNot .i64 ((wAt kr 2 : Nat) : Int) 7 = ((fa6 kr : Nat) : Int) := andNot7 _ hw2
          have r7 : bitsOf .and .i64 ((wAt kr 2 : Nat) : Int) 1 = ((wAt kr 2 % 2 : Nat) : Int) := by
            rw [show (1 : Int) = ((2 ^ 1 - 1 : Nat) : Int) from rfl, bits_mask 1 (by omega) (show ((wAt kr 2 : Nat) : Int) ≤ 9223372036854775807 by omega) (by decide)]
            rfl
          have r8 : (!decide (((wAt kr 2 % 2 : Nat) : Int) = 0)) = fm6 kr := by
            unfold fm6
            rw [← decide_not]
            exact decide_eq_decide.2 (by omega)
          have r8' : (decide (¬ ((wAt kr 2 % 2 : Nat) : Int) = 0)) = fm6 kr := by rw [← r8]; simp
          have hN2 := ev_New hS (n + 2) (kr.drop 4)
          have hU2 := ev_U32 hS n (kr.drop 4) 0 (by rw [List.length_drop]; omega) (by rw [List.length_drop]; omega)
          simp only [Nat.zero_add, List.drop_zero] at hU2
          have hU2 : S.ev (n + 3) id_num_Reader_U32 [.ptr 0 0 [] 0] (some (nrLV (kr.drop 4) 0)) = some (.tup [.int .i64 ((fi6 kr : Nat) : Int), .nili], some (nrLV (kr.drop 4) 4)) := hU2
          have hfi : fi6 kr < 4294967296 := num4_lt (kr.drop 4)
          have r9 : IntKind.u32.wrap ((fi6 kr : Nat) : Int) = ((fi6 kr : Nat) : Int) := wrap_u32 hfi
          have n4' : 4 ≤ kr.length := by omega
          have n8' : 8 ≤ kr.length := by omega
          have u4 : (kr.drop 4).take (kr.length - 4) = kr.drop 4 := List.take_of_length_le (by simp)
          have u8' : (kr.drop 8).take (kr.length - 8) = kr.drop 8 := List.take_of_length_le (by simp)
          have hdl : (kr.drop 8).length = kr.length - 8 := by simp
          have z1 : IntKind.i64.wrap (((th6 s).length : Int) - ((kr.length - 8 : Nat) : Int)) = (((th6 s).length - (kr.length - 8) : Nat) : Int) := by rw [wrap_id (by omega) (by omega)]; omega
          have z2 : IntKind.i64.wrap (((wAt s 4 : Nat) : Int) - (((th6 s).length - (kr.length - 8) : Nat) : Int)) = ((wAt s 4 - ((th6 s).length - (kr.length - 8)) : Nat) : Int) := by rw [wrap_id (by omega) (by omega)]; omega
          have hsh := ev_short hS (n + 2) (kr.drop 8) ((wAt s 4 - ((th6 s).length - (kr.length - 8)) : Nat) : Int)
          rw [hdl] at hsh
          simp only [if_true, hdl, ne_eq, not_true_eq_false, if_false, true_and, if_neg c6]
          by_cases c7 : kr.length - 8 < min 8 (wAt s 4 - ((th6 s).length - (kr.length - 8)))
          · rw [decide_eq_true (by omega)] at hsh
            simp only [if_pos c7, Int.reduceEq, if_false]
            simp only [go_sem, ↓reduceIte, reduceCtorEq, upd_ne, back_new (no_at), Nat.reduceAdd, Nat.reduceEqDiff, Nat.reduceMul, Nat.reduceSub, Nat.reduceLeDiff, Nat.reduceLT, Int.reduceToNat, Int.reduceLE, Int.reduceLT, Int.reduceEq, UInt8.reduceOfNat, List.getElem?_map, Int.toNat_natCast, Nat.sub_zero, pMinmax, pMinmax2, Option.bind_some, c1', c2', hfa, hN, hU, hC, fE, g0, g4, g5, g6, g7, byteLV, e4, q1, q2, q3, q4, q5, q6, q7, d1, d2, d3, k1, k2, v5, v6, hlf, hlt, l8, l24, t8, t24, hmm, m1, m2, m3, Bool.false_eq_true, c6', hN2, hU2, h0, h2, h3, r1, r2, r3, r4, r5, r6, r7, r8, r8', r9, n4', n8', u4, u8', hdl, z1, z2, hsh]
          · rw [decide_eq_false (by omega)] at hsh
            simp only [if_neg c7, if_true]
            simp only [go_sem, ↓reduceIte, reduceCtorEq, upd_ne, back_new (no_at), Nat.reduceAdd, Nat.reduceEqDiff, Nat.reduceMul, Nat.reduceSub, Nat.reduceLeDiff, Nat.reduceLT, Int.reduceToNat, Int.reduceLE, Int.reduceLT, Int.reduceEq, UInt8.reduceOfNat, List.getElem?_map, Int.toNat_natCast, Nat.sub_zero, pMinmax, pMinmax2, Option.bind_some, c1', c2', hfa, hN, hU, hC, fE, g0, g4, g5, g6, g7, byteLV, e4, q1, q2, q3, q4, q5, q6, q7, d1, d2, d3, k1, k2, v5, v6, hlf, hlt, l8, l24, t8, t24, hmm, m1, m2, m3, Bool.false_eq_true, c6', hN2, hU2, h0, h2, h3, r1, r2, r3, r4, r5, r6, r7, r8, r8', r9, n4', n8', u4, u8', hdl, z1, z2, hsh]
      · have z1 : IntKind.i64.wrap (((th6 s).length : Int) - (kr.length : Int)) = (((th6 s).length - kr.length : Nat) : Int) := by rw [wrap_id (by omega) (by omega)]; omega
        have z2 : IntKind.i64.wrap (((wAt s 4 : Nat) : Int) - (((th6 s).length - kr.length : Nat) : Int)) = ((wAt s 4 - ((th6 s).length - kr.length) : Nat) : Int) := by rw [wrap_id (by omega) (by omega)]; omega
        have hsh := ev_short hS (n + 2) kr ((wAt s 4 - ((th6 s).length - kr.length) : Nat) : Int)
        have c6n : ¬ (kp = 44 ∧ kr.length < 8) := fun h => c5 h.1
        simp only [if_neg c5, ne_eq, not_true_eq_false, if_false, if_neg c6n]
        by_cases c7 : kr.length < min 8 (wAt s 4 - ((th6 s).length - kr.length))
        · rw [decide_eq_true (by omega)] at hsh
          simp only [if_pos c7, Int.reduceEq, if_false]
          simp only [go_sem, ↓reduceIte, reduceCtorEq, upd_ne, back_new (no_at), Nat.reduceAdd, Nat.reduceEqDiff, Nat.reduceMul, Nat.reduceSub, Nat.reduceLeDiff, Nat.reduceLT, Int.reduceToNat, Int.reduceLE, Int.reduceLT, Int.reduceEq, UInt8.reduceOfNat, List.getElem?_map, Int.toNat_natCast, Nat.sub_zero, pMinmax, pMinmax2, Option.bind_some, c1', c2', hfa, hN, hU, hC, fE, g0, g4, g5, g6, g7, byteLV, e4, q1, q2, q3, q4, q5, q6, q7, d1, d2, d3, k1, k2, v5, v6, hlf, hlt, l8, l24, t8, t24, hmm, m1, m2, m3, Bool.false_eq_true, c5, z1, z2, hsh]
        · rw [decide_eq_false (by omega)] at hsh
          simp only [if_neg c7, if_true]
          simp only [go_sem, ↓reduceIte, reduceCtorEq, upd_ne, back_new (no_at), Nat.reduceAdd, Nat.reduceEqDiff, Nat.reduceMul, Nat.reduceSub, Nat.reduceLeDiff, Nat.reduceLT, Int.reduceToNat, Int.reduceLE, Int.reduceLT, Int.reduceEq, UInt8.reduceOfNat, List.getElem?_map, Int.toNat_natCast, Nat.sub_zero, pMinmax, pMinmax2, Option.bind_some, c1', c2', hfa, hN, hU, hC, fE, g0, g4, g5, g6, g7, byteLV, e4, q1, q2, q3, q4, q5, q6, q7, d1, d2, d3, k1, k2, v5, v6, hlf, hlt, l8, l24, t8, t24, hmm, m1, m2, m3, Bool.false_eq_true, c5, z1, z2, hsh]
end
end Go.Ev

namespace Go.Ev
set_option linter.unusedSimpArgs false
set_option linter.unusedVariables false
set_option maxRecDepth 10000
set_option maxHeartbeats 8000000
def f6 (s : List UInt8) : Bool := decide ((k6 s).2.2.1 = 44)
def i6 (s : List UInt8) : Int := if f6 s = true then ((fi6 (k6 s).2.2.2 : Nat) : Int) else 0
def a6 (s : List UInt8) : Int := if f6 s = true then ((fa6 (k6 s).2.2.2 : Nat) : Int) else 0
def m6 (s : List UInt8) : Bool := f6 s && fm6 (k6 s).2.2.2
def p6 (s : List UInt8) : Int := if f6 s = true then ((bAt (k6 s).2.2.2 0 : Nat) : Int) else (k6 s).2.2.1
def d6 (s : List UInt8) : List UInt8 := dD6 (k6 s)
def c6 (s : List UInt8) : Nat := cl6 s (k6 s)
theorem mk6_eq (s : List UInt8) : mk6 s (k6 s) = ip6LV (pcl6 s) (pfl6 s) (bAt s 7 : Nat) (pfr6 s) (pto6 s) (extsLV (k6 s).2.1) (f6 s) (i6 s) (a6 s) (m6 s) (p6 s) (d6 s) := by
  unfold mk6 f6 i6 a6 m6 p6 d6 dD6 f6
  by_cases h : (k6 s).2.2.1 = 44
  · simp only [h, if_true, decide_true, Bool.true_and]
  · simp only [h, if_false, decide_false, Bool.false_and, Bool.false_eq_true]
structure In6 (s : List UInt8) : Prop where
  h40 : 40 ≤ s.length
  hv : bAt s 0 / 16 = 6
  hk : (k6 s).1 = 0
  h8 : f6 s = true → 8 ≤ (k6 s).2.2.2.length
  hd : min 8 (c6 s) ≤ (d6 s).length
theorem iK6_zero {s : List UInt8} : iK6 s = 0 ↔ In6 s := by
  unfold iK6 iR6
  constructor
  · intro h
    split at h; · omega
    split at h; · omega
    split at h
    · rename_i h3; omega
    split at h; · omega
    split at h; · omega
    rename_i h1 h2 h3 h4 h5
    refine ⟨by omega, by omega, Classical.not_not.1 h3, fun q => ?_, ?_⟩
    · have : (k6 s).2.2.1 = 44 := of_decide_eq_true q
      apply Classical.byContradiction
      intro q2
      exact h4 ⟨this, by omega⟩
    · unfold c6 d6; omega
  · intro h
    have h1 := h.h40; have h2 := h.hv; have h5 := h.hd
    unfold c6 d6 at h5
    rw [if_neg (by omega), if_neg (by omega), if_neg (fun q => q h.hk), if_neg ?_, if_neg (by omega)]
    rintro ⟨q1, q2⟩
    have := h.h8 (decide_eq_true q1)
    omega
theorem In6.lv {s : List UInt8} (h : In6 s) : iLV6 s = ip6LV (pcl6 s) (pfl6 s) (bAt s 7 : Nat) (pfr6 s) (pto6 s) (extsLV (k6 s).2.1) (f6 s) (i6 s) (a6 s) (m6 s) (p6 s) (d6 s) := by
  unfold iLV6; rw [if_pos (iK6_zero.2 h), mk6_eq]
theorem In6.cl {s : List UInt8} (h : In6 s) : iC6 s = (c6 s : Int) := by unfold iC6; rw [if_pos (iK6_zero.2 h)]; rfl
theorem In6.fr {s : List UInt8} (h : In6 s) : (pfr6 s).length = 16 := by have := h.h40; unfold pfr6; simp; omega
theorem In6.to {s : List UInt8} (h : In6 s) : (pto6 s).length = 16 := by have := h.h40; unfold pto6; simp; omega
theorem pcl6_le (s : List UInt8) : 0 ≤ pcl6 s ∧ pcl6 s ≤ 255 := by unfold pcl6; omega
theorem i6_le (s : List UInt8) : 0 ≤ i6 s ∧ i6 s < 4294967296 := by
  unfold i6
  have h : fi6 (k6 s).2.2.2 < 4294967296 := num4_lt _
  split <;> omega
theorem a6_le (s : List UInt8) : 0 ≤ a6 s ∧ a6 s ≤ 65528 ∧ a6 s % 8 = 0 := by
  unfold a6 fa6
  have h := wAt_le (k6 s).2.2.2 2
  split <;> omega
theorem d6_le (s : List UInt8) : (d6 s).length ≤ c6 s ∧ c6 s ≤ 65535 := by
  unfold d6 c6 cl6
  have h1 : (k6 s).2.2.2.length ≤ (th6 s).length := chC_rest _ _ _ _
  have h2 : (dD6 (k6 s)).length ≤ (k6 s).2.2.2.length := by unfold dD6; split <;> simp
  have h3 : (th6 s).length ≤ wAt s 4 := by unfold th6; rw [List.length_take]; omega
  have h4 := wAt_le s 4
  omega
theorem ex6_le (s : List UInt8) : (k6 s).2.1.length ≤ 8 := chC_len _ _ _ _
end Go.Ev

namespace Go.Ev
set_option linter.unusedSimpArgs false
set_option linter.unusedVariables false
set_option maxRecDepth 10000
set_option maxHeartbeats 8000000
theorem beBq4 (x : Nat) : beB 4 x = [UInt8.ofNat (x / 16777216), UInt8.ofNat (x / 65536), UInt8.ofNat (x / 256), UInt8.ofNat x] := by simp [beB, List.range_succ]
theorem numNq4 {x : Nat} (h : x < 4294967296) : numN (beB 4 x) = x := by
  rw [beBq4]
  simp only [numN, List.foldl_cons, List.foldl_nil, UInt8.toNat_ofNat']
  omega
theorem headQ {x n nx ho : Nat} {a b bd : List UInt8} (hx : x < 4294967296) (hn : n ≤ 65535) (hnx : nx ≤ 255) (hho : ho ≤ 255) (ha : a.length = 16) (hb : b.length = 16) (hbd : bd.length ≤ n)
    {Y : List UInt8} (hY : Y = beB 4 x ++ (beB 2 n ++ (beB 1 nx ++ beB 1 ho)) ++ (a ++ (b ++ bd))) :
    bAt Y 0 = x / 16777216 ∧ wAt Y 4 = n ∧ bAt Y 6 = nx ∧ bAt Y 7 = ho ∧ numN (Y.take 4) = x ∧ pfr6 Y = a ∧ pto6 Y = b ∧ (Y.drop 40).take n = bd ∧ Y.length = 40 + bd.length := by
  have hl8 : (beB 4 x ++ (beB 2 n ++ (beB 1 nx ++ beB 1 ho))).length = 8 := by simp only [List.length_append, beB_len]
  have e8 : ∀ u : List UInt8, (beB 4 x ++ (beB 2 n ++ (beB 1 nx ++ beB 1 ho)) ++ u).drop 8 = u := fun u => List.drop_left' hl8
  have hx4 : (beB 4 x ++ (beB 2 n ++ (beB 1 nx ++ beB 1 ho)) ++ (a ++ (b ++ bd))).take 4 = beB 4 x := by
    rw [List.append_assoc]; exact List.take_left' (beB_len _ _)
  subst hY
  refine ⟨?_, ?_, ?_, ?_, ?_, ?_, ?_, ?_, ?_⟩
  · simp only [beB1, beB2, beBq4, List.cons_append, List.nil_append, bAt0, UInt8.toNat_ofNat']; omega
  · simp only [beB1, beB2, beBq4, List.cons_append, List.nil_append, wAt0, wAts]; exact w16_beB (by omega)
  · simp only [beB1, beB2, beBq4, List.cons_append, List.nil_append, bAt0, bAts, UInt8.toNat_ofNat']; omega
  · simp only [beB1, beB2, beBq4, List.cons_append, List.nil_append, bAt0, bAts, UInt8.toNat_ofNat']; omega
  · rw [hx4]; exact numNq4 hx
  · unfold pfr6
    rw [e8, List.take_left' ha]
  · unfold pto6
    rw [show 24 = 8 + 16 by rfl, ← List.drop_drop, e8, List.drop_left' ha, List.take_left' hb]
  · rw [show 40 = 8 + (16 + 16) by rfl, ← List.drop_drop, ← List.drop_drop, e8, List.drop_left' ha, List.drop_left' hb, List.take_of_length_le hbd]
  · rw [List.length_append, hl8, List.length_append, List.length_append]; omega
theorem pieceQ {id a : Nat} {mo : Bool} {pr : Nat} {T : List UInt8} (hid : id < 4294967296) (ha : a ≤ 65528) (ha8 : a % 8 = 0) (hpr : pr ≤ 255) :
    bAt (pcQ pr (a : Int) mo (id : Int) ++ T) 0 = pr ∧ fa6 (pcQ pr (a : Int) mo (id : Int) ++ T) = a ∧ fm6 (pcQ pr (a : Int) mo (id : Int) ++ T) = mo ∧ fi6 (pcQ pr (a : Int) mo (id : Int) ++ T) = id ∧
    (pcQ pr (a : Int) mo (id : Int) ++ T).drop 8 = T ∧ (pcQ pr (a : Int) mo (id : Int)).length = 8 := by
  have hsum : (((a : Int) + if mo = true then 1 else 0 : Int)).toNat = a + if mo = true then 1 else 0 := by split <;> omega
  have hl : (pcQ pr (a : Int) mo (id : Int)).length = 8 := by unfold pcQ; simp only [List.length_append, List.length_cons, beB_len]
  have hw : wAt (pcQ pr (a : Int) mo (id : Int) ++ T) 2 = a + if mo = true then 1 else 0 := by
    unfold pcQ
    rw [hsum]
    simp only [beB1, beB2, List.cons_append, List.nil_append, wAt0, wAts]
    exact w16_beB (by split <;> omega)
  refine ⟨?_, ?_, ?_, ?_, List.drop_left' hl, hl⟩
  · simp only [pcQ, beB1, List.cons_append, List.nil_append, bAt0, UInt8.toNat_ofNat']; omega
  · unfold fa6; rw [hw]; split <;> omega
  · unfold fm6; rw [hw]
    cases mo
    · rw [if_neg Bool.false_ne_true]; exact decide_eq_false (by omega)
    · rw [if_pos rfl]; exact decide_eq_true (by omega)
  · unfold fi6
    rw [show ((pcQ pr (a : Int) mo (id : Int) ++ T).drop 4).take 4 = beB 4 id by simp only [pcQ, beB1, beB2, beBq4, List.cons_append, List.nil_append, Int.toNat_natCast]; rfl]
    exact numNq4 hid
theorem chC_go {k : Nat} {f : Bool} {n : Int} {s : List UInt8} (h : ¬ isE n) : chC k f n s = (0, [], n, s) := by
  cases k <;> rw [chC, if_neg h]
theorem proto46_ok {x : Int} (h : (proto46 x).2 = true) : ¬ isE (proto46 x).1 ∧ (proto46 x).1 ≠ 44 ∧ (proto64 (proto46 x).1) = (x, true) ∧ x ≠ 58 ∧ x ≠ 0 ∧ (proto46 x).1 = if x = 1 then 58 else x := by
  unfold proto46 at *
  by_cases h1 : x = 1
  · subst h1; refine ⟨by decide, by decide, by decide, by decide, by decide, rfl⟩
  · rw [if_neg h1] at h ⊢
    split at h
    · cases h
    · rename_i h2
      rw [if_neg h2]
      dsimp only
      refine ⟨by unfold isE; omega, by omega, ?_, by omega, by omega, (if_neg h1).symm⟩
      unfold proto64
      rw [if_neg (by omega), if_neg (by omega)]
theorem inside_q6 {tos id ttl pt at' : Nat} {mo : Bool} {T a b : List UInt8} {claim : Nat} (ht : tos ≤ 255) (htl : ttl ≤ 255) (hi : id ≤ 65535) (hat : at' ≤ 65528) (hat8 : at' % 8 = 0) (ha : a.length = 16) (hb : b.length = 16)
    (hp : (proto46 pt).2 = true) (hn : q6N (at' : Int) mo claim ≤ 65535) (hT : T.length ≤ claim) (hm : min 8 claim ≤ T.length)
    {Y : List UInt8} (hY : Y = q6H (tos : Int) (ttl : Int) pt (at' : Int) mo claim ++ (a ++ (b ++ (q6A (id : Int) pt (at' : Int) mo ++ T)))) :
    iK6 Y = 0 ∧ iC6 Y = (claim : Int) ∧ iLV6 Y = ip6LV (tos : Int) 0 (ttl : Int) a b (extsLV []) (isF (at' : Int) mo) (if isF (at' : Int) mo = true then (id : Int) else 0) (at' : Int) mo (proto46 pt).1 T := by
  obtain ⟨g1, g2, g3, g4, g5, g6⟩ := proto46_ok hp
  have hPl := proto46_le pt
  have hA : (q6A (id : Int) pt (at' : Int) mo).length = if isF (at' : Int) mo = true then 8 else 0 := by
    unfold q6A
    cases isF (at' : Int) mo
    · rfl
    · rw [if_pos rfl, if_pos rfl]; unfold pcQ; simp only [List.length_append, List.length_cons, beB_len]
  have hbd : (q6A (id : Int) pt (at' : Int) mo ++ T).length ≤ q6N (at' : Int) mo claim := by rw [List.length_append, hA]; unfold q6N; omega
  have hnx : (if isF (at' : Int) mo = true then 44 else (proto46 pt).1.toNat) ≤ 255 := by split <;> omega
  unfold q6H at hY
  simp only [Int.toNat_natCast] at hY
  obtain ⟨e1, e2, e3, e4, e5, e6, e7, e8, e9⟩ := headQ (by omega) hn hnx htl ha hb hbd hY
  have hth : th6 Y = q6A (id : Int) pt (at' : Int) mo ++ T := by unfold th6; rw [e2, e8]
  have hk : k6 Y = (0, [], (if isF (at' : Int) mo = true then 44 else (proto46 pt).1), q6A (id : Int) pt (at' : Int) mo ++ T) := by
    unfold k6
    rw [e2, e8, e3]
    have : (((if isF (at' : Int) mo = true then 44 else (proto46 pt).1.toNat) : Nat) : Int) = if isF (at' : Int) mo = true then 44 else (proto46 pt).1 := by split <;> omega
    rw [this]
    exact chC_go (by split; · decide
                     · exact g1)
  have hcl : pcl6 Y = (tos : Int) := by unfold pcl6; rw [e5]; omega
  have hfl : pfl6 Y = 0 := by unfold pfl6; rw [e5]; omega
  have hf : f6 Y = isF (at' : Int) mo := by
    unfold f6; rw [hk]
    cases isF (at' : Int) mo
    · exact decide_eq_false (by simpa using g2)
    · rfl
  have hd : d6 Y = T := by
    unfold d6 dD6; rw [hk]
    cases hfg : isF (at' : Int) mo
    · unfold q6A; rw [hfg]; simp [g2]
    · unfold q6A; rw [hfg]
      simp only [if_true]
      exact (pieceQ (by omega) hat hat8 (by omega)).2.2.2.2.1
  have hc : c6 Y = claim := by
    have hd' : dD6 (k6 Y) = T := hd
    unfold c6 cl6
    rw [hd', hth, e2, List.length_append, hA]
    unfold q6N
    omega
  have hIn : In6 Y := by
    refine ⟨by omega, by rw [e1]; omega, by rw [hk], fun q => ?_, by rw [hc, hd]; exact hm⟩
    rw [hf] at q
    rw [hk]
    rw [List.length_append, hA, if_pos q]
    omega
  have hz : isF (at' : Int) mo = false → at' = 0 ∧ mo = false := fun h => by
    unfold isF at h
    simp only [Bool.or_eq_false_iff, decide_eq_false_iff_not, Classical.not_not] at h
    exact ⟨by omega, h.1⟩
  refine ⟨iK6_zero.2 hIn, by rw [hIn.cl, hc], ?_⟩
  rw [hIn.lv, hcl, hfl, e4, e6, e7, hf, hd, hk]
  have hi6 : i6 Y = if isF (at' : Int) mo = true then (id : Int) else 0 := by
    unfold i6; rw [hf, hk]
    cases hfg : isF (at' : Int) mo
    · rfl
    · unfold q6A; rw [hfg]
      simp only [if_true]
      rw [(pieceQ (by omega) hat hat8 (by omega)).2.2.2.1]
  have ha6 : a6 Y = (at' : Int) := by
    unfold a6; rw [hf, hk]
    cases hfg : isF (at' : Int) mo
    · simp [(hz hfg).1]
    · unfold q6A; rw [hfg]
      simp only [if_true]
      rw [(pieceQ (by omega) hat hat8 (by omega)).2.1]
  have hm6 : m6 Y = mo := by
    unfold m6; rw [hf, hk]
    cases hfg : isF (at' : Int) mo
    · simp [(hz hfg).2]
    · unfold q6A; rw [hfg]
      simp only [if_true, Bool.true_and]
      rw [(pieceQ (by omega) hat hat8 (by omega)).2.2.1]
  have hp6 : p6 Y = (proto46 pt).1 := by
    unfold p6; rw [hf, hk]
    cases hfg : isF (at' : Int) mo
    · rfl
    · unfold q6A; rw [hfg]
      simp only [if_true]
      rw [(pieceQ (by omega) hat hat8 (by omega)).1]
      omega
  rw [hi6, ha6, hm6, hp6]
end Go.Ev

namespace Go.Ev
set_option linter.unusedSimpArgs false
set_option linter.unusedVariables false
set_option maxRecDepth 10000
set_option maxHeartbeats 8000000
theorem bd6_app {ex : List (Int × List UInt8)} {fg : Bool} {id at' : Int} {mo : Bool} {pt : Int} (da : List UInt8) : bd6 ex fg id at' mo pt da = bd6 ex fg id at' mo pt [] ++ da := by
  unfold bd6
  cases fg
  · rw [if_neg Bool.false_ne_true, if_neg Bool.false_ne_true]; exact exB_app ex pt da
  · rw [if_pos rfl, if_pos rfl, exB_app ex 44 (pcB id at' mo pt da), exB_app ex 44 (pcB id at' mo pt [])]
    unfold pcB
    simp only [List.append_assoc, List.cons_append, List.append_nil]
theorem inside_p6 {cl fl ho : Int} {fr to : List UInt8} {ex : List (Int × List UInt8)} {fg : Bool} {id at' : Int} {mo : Bool} {pt : Int} {da : List UInt8} (ok : Ok6 cl fl ho ex fg id at' mo pt da) (hid : 0 ≤ id ∧ id ≤ 4294967295)
    (hfr : fr.length = 16) (hto : to.length = 16) {T : List UInt8} (hT : T.length ≤ da.length) (hm : min 8 da.length ≤ T.length) {Y : List UInt8}
    (hY : Y = beB 4 (1610612736 + cl.toNat * 1048576 + fl.toNat) ++ (beB 2 (bd6 ex fg id at' mo pt da).length ++ (beB 1 (nxE ex (if fg = true then 44 else pt)).toNat ++ beB 1 ho.toNat)) ++ (fr ++ (to ++ bd6 ex fg id at' mo pt T))) :
    iK6 Y = 0 ∧ iC6 Y = (da.length : Int) ∧ iLV6 Y = ip6LV cl fl ho fr to (extsLV ex) fg id at' mo pt T := by
  obtain ⟨⟨⟨a1, a2⟩, ⟨a3, a4⟩, ⟨a5, a6'⟩, ⟨a7, a8⟩, ⟨a9, a10⟩, a11⟩, ⟨b1, b2⟩, ⟨c1, c2⟩, d1, d2, d3⟩ := ok
  obtain ⟨cl, rfl⟩ := Int.eq_ofNat_of_zero_le a1
  obtain ⟨fl, rfl⟩ := Int.eq_ofNat_of_zero_le a3
  obtain ⟨ho, rfl⟩ := Int.eq_ofNat_of_zero_le a5
  obtain ⟨pt, rfl⟩ := Int.eq_ofNat_of_zero_le a7
  obtain ⟨a, rfl⟩ := Int.eq_ofNat_of_zero_le a9
  obtain ⟨id, rfl⟩ := Int.eq_ofNat_of_zero_le hid.1
  have a11 : ((a % 8 : Nat) : Int) = 0 := a11
  have hbl := bd6_len (ex := ex) (fg := fg) (id := id) (at' := a) (mo := mo) (pt := pt) (da := da)
  have hbT := bd6_len (ex := ex) (fg := fg) (id := id) (at' := a) (mo := mo) (pt := pt) (da := T)
  have hdl : bh6 ex fg T + da.length = bh6 ex fg da + T.length := by unfold bh6; omega
  have hp : ¬ isE (if fg = true then 44 else (pt : Int)) ∧ 0 ≤ (if fg = true then 44 else (pt : Int)) ∧ (if fg = true then 44 else (pt : Int)) ≤ 255 := by
    cases fg
    · rw [if_neg Bool.false_ne_true]; exact ⟨(b2 rfl).1, by omega, by omega⟩
    · rw [if_pos rfl]; exact ⟨by decide, by omega, by omega⟩
  have hnx := nxE_rg b1 hp.2
  have hch := fun b => chain_exB ex 8 true (if fg = true then 44 else (pt : Int)) b b1 c1 d1 hp.1 hp.2
  simp only [Int.toNat_natCast] at hY
  obtain ⟨e1, e2, e3, e4, e5, e6, e7, e8, e9⟩ := headQ (by omega) (by omega) (by omega) (by omega) hfr hto (by omega) hY
  have hk : k6 Y = (0, ex, (if fg = true then 44 else (pt : Int)), (if fg = true then pcB id a mo pt T else T)) := by
    unfold k6
    rw [e2, e8, e3, Int.toNat_of_nonneg hnx.1]
    unfold bd6
    cases fg
    · exact hch _
    · exact hch _
  have hth : th6 Y = bd6 ex fg (id : Int) (a : Int) mo (pt : Int) T := by unfold th6; rw [e2, e8]
  obtain ⟨w1, w2, w3, w4, w5, w6⟩ := piece6 (id := id) (a := a) (mo := mo) (pt := pt) (da := T) (by omega) (by omega) (by omega) (by omega)
  have hf : f6 Y = fg := by
    unfold f6; rw [hk]
    cases fg
    · have := (b2 rfl).2; exact decide_eq_false (by simpa using this)
    · rfl
  have hd : d6 Y = T := by
    unfold d6 dD6; rw [hk]
    cases fg
    · have := (b2 rfl).2; rw [if_neg Bool.false_ne_true, if_neg Bool.false_ne_true, if_neg (by simpa using this)]
    · rw [if_pos rfl, if_pos rfl, if_pos rfl]; exact w5
  have hc : c6 Y = da.length := by
    have hd' : dD6 (k6 Y) = T := hd
    unfold c6 cl6
    rw [hd', hth, e2, hbT, hbl]
    unfold bh6
    omega
  have hIn : In6 Y := by
    refine ⟨by omega, by rw [e1]; omega, by rw [hk], fun q => ?_, by rw [hc, hd]; exact hm⟩
    rw [hf] at q
    rw [hk]
    simp only [q, if_true]
    omega
  refine ⟨iK6_zero.2 hIn, by rw [hIn.cl, hc], ?_⟩
  rw [hIn.lv]
  have hcl : pcl6 Y = (cl : Int) := by unfold pcl6; rw [e5]; omega
  have hfl : pfl6 Y = (fl : Int) := by unfold pfl6; rw [e5]; omega
  rw [hcl, hfl, e4, e6, e7, hf, hd]
  have hx : (k6 Y).2.1 = ex := by rw [hk]
  rw [hx]
  unfold i6 a6 m6 p6
  rw [hf, hk]
  cases fg
  · have c2' := c2
    rw [if_neg Bool.false_ne_true] at c2'
    simp only [Bool.false_eq_true, if_false, Bool.false_and]
    obtain ⟨r1, r2, r3⟩ := c2'
    rw [r1, r2, r3]
  · simp only [if_true, Bool.true_and]
    rw [w1, w2, w3, w4]
theorem tn4_cut {pt at' : Int} {d fr to a b : List UInt8} {claim p q m : Nat} (h : 8 ≤ m) (hm : m ≤ d.length) (hn : ¬ (pt = 6 ∧ m = 17 ∧ at' = 0)) (hat : 0 ≤ at') :
    tn4 pt at' (d.take m) fr to a b claim p q = (tn4 pt at' d fr to a b claim p q).take m := by
  have e6 : isE6 (d.take m) = isE6 d := by
    unfold isE6
    rw [bAt_take (by omega), bAt_take (by omega), List.length_take, Nat.min_eq_left hm, decide_eq_true h, decide_eq_true (show 8 ≤ d.length by omega)]
  unfold tn4
  split
  · rfl
  · rename_i ha
    split
    · rename_i hp
      unfold poF
      rw [List.length_take, Nat.min_eq_left hm, if_neg (by omega), if_neg (show ¬ d.length < 4 by omega), List.take_take, Nat.min_eq_left (show 4 ≤ m by omega), port_cut (by omega)]
      have hX : (beB 2 p ++ (beB 2 q ++ d.drop 4)).length = d.length := by simp only [List.length_append, beB_len, List.length_drop]; omega
      generalize beB 2 p ++ (beB 2 q ++ d.drop 4) = X at *
      split
      · exact upF_cut (by omega) (by omega)
      · rename_i hu
        have hu : ¬ pt = 17 := by simpa using hu
        by_cases c : m ≤ 16
        · exact upF_short c (by omega)
        · exact upF_cut (by omega) (by omega)
    · rw [e6, bAt_take (by omega)]
      split
      · unfold ecF
        rw [ecD_cut h hm, List.take_take, Nat.min_eq_left (show 2 ≤ m by omega), List.drop_take, List.take_take, Nat.min_eq_left (show 2 ≤ m - 4 by omega)]
        exact upF_cut (by omega) (by rw [ecD_len (by omega)]; exact hm)
      · rfl
theorem quote4_cut {cl ho pt at' : Int} {fg mo : Bool} {id : Int} {fr to d a b : List UInt8} {claim m : Nat} {p q : Int} (ha : a.length = 4) (hb : b.length = 4) (h : 8 ≤ m) (hm : m ≤ d.length) (hat : 0 ≤ at') :
    ∃ t u : List UInt8, q4R cl ho pt at' fg mo id fr to d a b claim p q = .tup [.str t, fE (q4K pt at' claim p q)] ∧ q4R cl ho pt at' fg mo id fr to (d.take m) a b claim p q = .tup [.str u, fE (q4K pt at' claim p q)] ∧
      u.length ≤ t.length ∧ (¬ (pt = 6 ∧ m = 17 ∧ at' = 0) → t.take u.length = u) := by
  unfold q4R
  refine ⟨_, _, rfl, rfl, ?_⟩
  split
  · unfold q4B
    have h1 := @tn4_len pt at' d fr to a b claim p.toNat q.toNat
    have h2 := @tn4_len pt at' (d.take m) fr to a b claim p.toNat q.toNat
    have h3 : (d.take m).length = m := by rw [List.length_take]; omega
    generalize q4H cl ho pt at' fg mo id claim = H
    generalize beB 2 (q4X cl ho pt at' fg mo id claim a b).toNat = A
    refine ⟨by simp only [List.length_append]; omega, fun hn => ?_⟩
    have h4 := tn4_cut (pt := pt) (at' := at') (d := d) (fr := fr) (to := to) (a := a) (b := b) (claim := claim) (p := p.toNat) (q := q.toNat) h hm hn hat
    rw [h4]
    generalize tn4 pt at' d fr to a b claim p.toNat q.toNat = T at *
    have h5 : (T.take m).length = m := by rw [List.length_take]; omega
    rw [← List.append_assoc, ← List.append_assoc, ← List.append_assoc, ← List.append_assoc, ← List.append_assoc, ← List.append_assoc, List.length_append, h5]
    rw [List.take_append, List.take_of_length_le (by omega)]
    congr 2
    omega
  · exact ⟨Nat.le_refl _, fun _ => rfl⟩
end Go.Ev

namespace Go.Ev
set_option linter.unusedSimpArgs false
set_option linter.unusedVariables false
set_option maxRecDepth 4000
set_option maxHeartbeats 8000000
section
variable {S : Sys} (hS : Has S) (n : Nat)
variable {cl fl ho : Int} {fr to : List UInt8} {ex : List (Int × List UInt8)} {fg : Bool} {id at' : Int} {mo : Bool} {pt : Int} {da : List UInt8}
include hS
theorem ev_bound4 (x m : Int) : S.ev (n + 1) id_interpreterref04_bound [.int .i64 x, .int .i64 m] none = some (.bool (decide (0 ≤ x ∧ x ≤ m)), none) := by
  rw [Sys.step hS.h_interpreterref04_bound, F_interpreterref04_bound_eq]
  unfold F_interpreterref04_bound
  (try simp only [guard_merge, or_merge, and_merge, or_pick, and_pick, guard_or, guard_and]); simp only [to_ob]
  by_cases h1 : 0 ≤ x <;> by_cases h2 : x ≤ m <;> simp only [go_sem, ↓reduceIte, reduceCtorEq, upd_ne, back_new (no_at), Nat.reduceAdd, Nat.reduceEqDiff, Nat.reduceMul, Nat.reduceSub, Nat.reduceLeDiff, Nat.reduceLT, Int.reduceToNat, Int.reduceLE, Int.reduceLT, Int.reduceEq, UInt8.reduceOfNat, h1, h2]
theorem ev_Why6 (hfr : fr.length = 16) (hto : to.length = 16) (sm : SmE ex) (hda : da.length ≤ 1000000) :
    S.ev (n + 2) id_interpreterref04_Why [ip6LV cl fl ho fr to (extsLV ex) fg id at' mo pt da] none = some (.int .i64 (why6 cl fl ho ex fg id at' mo pt da), none) := by
  rw [Sys.step hS.h_interpreterref04_Why, F_interpreterref04_Why_eq]
  unfold F_interpreterref04_Why
  have hw := ev_bound4 hS n
  have hl := sm.n
  (try simp only [guard_merge, or_merge, and_merge, or_pick, and_pick, guard_or, guard_and]); simp only [to_ob]
  unfold why6
  by_cases c1 : rg6 cl fl ho at' pt
  · rw [if_pos c1]
    obtain ⟨⟨a1, a2⟩, ⟨a3, a4⟩, ⟨a5, a6⟩, ⟨a7, a8⟩, ⟨a9, a10⟩, a11⟩ := c1
    simp only [go_sem, ↓reduceIte, reduceCtorEq, upd_ne, back_new (no_at), Nat.reduceAdd, Nat.reduceEqDiff, Nat.reduceMul, Nat.reduceSub, Nat.reduceLeDiff, Nat.reduceLT, Int.reduceToNat, Int.reduceLE, Int.reduceLT, Int.reduceEq, UInt8.reduceOfNat, hfr, hto, hw, a1, a2, a3, a4, a5, a6, a7, a8, a9, a10, a11]
    refine while_rule (fun k q => ∃ i : Nat, q = ([.int .i64 0, .int .i64 ((da.length + szE (ex.take i) : Nat) : Int), .int .i64 (i : Int)], noSlots) ∧ i + k = ex.length ∧ kB (ex.drop i) = kB ex) ex.length ⟨0, by simp [szE], by simp, by simp⟩ ?_
    rintro k q ⟨i, rfl, hi, hr⟩
    simp only [go_sem, ↓reduceIte, reduceCtorEq, upd_ne, back_new (no_at), Nat.reduceAdd, Nat.reduceEqDiff, Nat.reduceMul, Nat.reduceSub, Nat.reduceLeDiff, Nat.reduceLT, Int.reduceToNat, Int.reduceLE, Int.reduceLT, Int.reduceEq, UInt8.reduceOfNat, hfr, hto, List.length_map]
    refine nxt_ite (fun h => ?_) (fun h => ?_)
    · have hlt : i < ex.length := by omega
      obtain ⟨e, he⟩ : ∃ e, ex[i]? = some e := ⟨ex[i], by simp [hlt]⟩
      have hd := drop_ex he
      have htk : ex.take (i + 1) = ex.take i ++ [e] := by rw [List.take_add_one, he]; rfl
      have heb := sm.b e (List.mem_of_getElem? he)
      have hsz := szE_le (ex.take i) fun x hx => sm.b x (List.mem_of_mem_take hx)
      rw [List.length_take] at hsz
      have e1 : IntKind.i64.wrap ((i : Int) + 1) = ((i + 1 : Nat) : Int) := by rw [wrap_id (by omega) (by omega)]; omega
      have e2 : IntKind.i64.wrap (IntKind.i64.wrap (((da.length + szE (ex.take i) : Nat) : Int) + 2) + (e.2.length : Int)) = ((da.length + szE (ex.take (i + 1)) : Nat) : Int) := by
        rw [wrap_id (n := ((da.length + szE (ex.take i) : Nat) : Int) + 2) (by omega) (by omega), wrap_id (by omega) (by omega), htk, szE_app]
        simp only [szE]
        omega
      by_cases h1 : isE e.1
      · have hok : kB (ex.drop (i + 1)) = kB ex := by rw [← hr, hd]; simp only [kB, List.all_cons, decide_eq_true h1, Bool.true_and]
        by_cases z1 : e.1 = 0
        · simp only [go_sem, ↓reduceIte, reduceCtorEq, upd_ne, back_new (no_at), Nat.reduceAdd, Nat.reduceEqDiff, Nat.reduceMul, Nat.reduceSub, Nat.reduceLeDiff, Nat.reduceLT, Int.reduceToNat, Int.reduceLE, Int.reduceLT, Int.reduceEq, UInt8.reduceOfNat, List.getElem?_map, Int.toNat_natCast, he, e1, e2, z1, hfr, hto]
          exact ⟨k - 1, by omega, i + 1, rfl, by omega, hok⟩
        · by_cases z2 : e.1 = 43
          · simp only [go_sem, ↓reduceIte, reduceCtorEq, upd_ne, back_new (no_at), Nat.reduceAdd, Nat.reduceEqDiff, Nat.reduceMul, Nat.reduceSub, Nat.reduceLeDiff, Nat.reduceLT, Int.reduceToNat, Int.reduceLE, Int.reduceLT, Int.reduceEq, UInt8.reduceOfNat, List.getElem?_map, Int.toNat_natCast, he, e1, e2, z2, hfr, hto]
            exact ⟨k - 1, by omega, i + 1, rfl, by omega, hok⟩
          · have z3 : e.1 = 60 := by
              rcases h1 with (h1 | h1) | h1
              · exact absurd h1 z1
              · exact absurd h1 z2
              · exact h1
            simp only [go_sem, ↓reduceIte, reduceCtorEq, upd_ne, back_new (no_at), Nat.reduceAdd, Nat.reduceEqDiff, Nat.reduceMul, Nat.reduceSub, Nat.reduceLeDiff, Nat.reduceLT, Int.reduceToNat, Int.reduceLE, Int.reduceLT, Int.reduceEq, UInt8.reduceOfNat, List.getElem?_map, Int.toNat_natCast, he, e1, e2, z3, hfr, hto]
            exact ⟨k - 1, by omega, i + 1, rfl, by omega, hok⟩
      · have hk : kB ex = false := by rw [← hr, hd]; simp only [kB, List.all_cons, decide_eq_false h1, Bool.false_and]
        have hk' : ¬ kd6 ex fg pt := fun q => by have := q.1; rw [hk] at this; simp at this
        have z1 : ¬ e.1 = 0 := fun h => h1 (Or.inl (Or.inl h))
        have z2 : ¬ e.1 = 43 := fun h => h1 (Or.inl (Or.inr h))
        have z3 : ¬ e.1 = 60 := fun h => h1 (Or.inr h)
        rw [if_neg hk']
        simp only [go_sem, ↓reduceIte, reduceCtorEq, upd_ne, back_new (no_at), Nat.reduceAdd, Nat.reduceEqDiff, Nat.reduceMul, Nat.reduceSub, Nat.reduceLeDiff, Nat.reduceLT, Int.reduceToNat, Int.reduceLE, Int.reduceLT, Int.reduceEq, UInt8.reduceOfNat, List.getElem?_map, Int.toNat_natCast, he, z1, z2, z3, hfr, hto, Nxt, exIf]
    · obtain rfl : i = ex.length := by omega
      rw [List.drop_eq_nil_of_le (by omega)] at hr
      have hk : kB ex = true := by rw [← hr]; rfl
      rw [List.take_of_length_le (by omega)]
      have hsz := szE_le ex sm.b
      simp only [go_sem, ↓reduceIte, reduceCtorEq, upd_ne, back_new (no_at), Nat.reduceAdd, Nat.reduceEqDiff, Nat.reduceMul, Nat.reduceSub, Nat.reduceLeDiff, Nat.reduceLT, Int.reduceToNat, Int.reduceLE, Int.reduceLT, Int.reduceEq, UInt8.reduceOfNat, hfr, hto, Nxt, exIf, List.length_map]
      have go2 : ∀ (R : Type) (rest : LV → Option R) (v : Option R), True := fun _ _ _ => trivial
      have bad : ¬ kd6 ex fg pt → fg = false ∧ (isE pt ∨ pt = 44) := by
        intro h
        cases fg
        · refine ⟨rfl, ?_⟩
          by_cases h2 : isE pt
          · exact Or.inl h2
          · refine Or.inr (Classical.byContradiction fun h3 => h ⟨hk, fun _ => ⟨h2, h3⟩⟩)
        · exact absurd ⟨hk, fun q => by simp at q⟩ h
      by_cases c2 : kd6 ex fg pt
      · rw [if_pos c2]
        have c2b : fg = true ∨ (fg = false ∧ ¬ pt = 0 ∧ ¬ pt = 43 ∧ ¬ pt = 44 ∧ ¬ pt = 60) := by
          cases fg
          · obtain ⟨h1, h2⟩ := c2.2 rfl
            exact Or.inr ⟨rfl, fun h => h1 (Or.inl (Or.inl h)), fun h => h1 (Or.inl (Or.inr h)), h2, fun h => h1 (Or.inr h)⟩
          · exact Or.inl rfl
        have loop2 : ∀ (K : List LV × Slots → Option (LV × Option LV)) (stepf : List LV × Slots → Option ((List LV × Slots) ⊕ (Ex × List LV × Slots))), True := fun _ _ => trivial
        have e2 : ∀ b : Nat, Int.tmod (b : Int) 8 = ((b % 8 : Nat) : Int) := fun b => rfl
        have w8 : IntKind.i64.wrap (((da.length + szE ex : Nat) : Int) + 8) = ((da.length + szE ex + 8 : Nat) : Int) := by rw [wrap_id (by omega) (by omega)]; omega
        have wat : IntKind.i64.wrap (at' + (da.length : Int)) = at' + (da.length : Int) := wrap_id (by omega) (by omega)
        have hbh : bh6 ex fg da = da.length + szE ex + if fg = true then 8 else 0 := by unfold bh6; omega
        rcases c2b with hfg | ⟨hfg, p1, p2, p3, p4⟩
        · subst hfg
          simp only [go_sem, ↓reduceIte, reduceCtorEq, upd_ne, back_new (no_at), Nat.reduceAdd, Nat.reduceEqDiff, Nat.reduceMul, Nat.reduceSub, Nat.reduceLeDiff, Nat.reduceLT, Int.reduceToNat, Int.reduceLE, Int.reduceLT, Int.reduceEq, UInt8.reduceOfNat, hfr, hto, Nxt, exIf, List.length_map]
          refine while_rule (fun k q => ∃ i : Nat, q = ([.int .i64 0, .int .i64 (i : Int)], noSlots) ∧ i + k = ex.length ∧ fB (decide (i = 0)) (ex.drop i) = fB true ex) ex.length ⟨0, rfl, by simp, by simp⟩ ?_
          rintro k q ⟨i, rfl, hi, hr⟩
          simp only [go_sem, ↓reduceIte, reduceCtorEq, upd_ne, back_new (no_at), Nat.reduceAdd, Nat.reduceEqDiff, Nat.reduceMul, Nat.reduceSub, Nat.reduceLeDiff, Nat.reduceLT, Int.reduceToNat, Int.reduceLE, Int.reduceLT, Int.reduceEq, UInt8.reduceOfNat, hfr, hto, List.length_map]
          refine nxt_ite (fun h => ?_) (fun h => ?_)
          · have hlt : i < ex.length := by omega
            obtain ⟨e, he⟩ : ∃ e, ex[i]? = some e := ⟨ex[i], by simp [hlt]⟩
            have hd := drop_ex he
            have heb := sm.b e (List.mem_of_getElem? he)
            have e1 : IntKind.i64.wrap ((i : Int) + 1) = ((i + 1 : Nat) : Int) := by rw [wrap_id (by omega) (by omega)]; omega
            have e3 : IntKind.i64.wrap ((e.2.length : Int) + 2) = ((e.2.length + 2 : Nat) : Int) := by rw [wrap_id (by omega) (by omega)]; omega
            have hbad : ¬ fE1 (decide (i = 0)) e → ¬ fm6' ex true id at' mo da := fun q p => by
              have hf : fB true ex = false := by rw [← hr, hd]; simp only [fB, decide_eq_false q, Bool.false_and]
              have := p.1; rw [hf] at this; simp at this
            have hgood : fE1 (decide (i = 0)) e → fB (decide (i + 1 = 0)) (ex.drop (i + 1)) = fB true ex := fun q => by
              rw [← hr, hd]; simp only [fB, decide_eq_true q, Bool.true_and]
              rw [show decide (i + 1 = 0) = false from decide_eq_false (by omega)]
            by_cases f1 : e.2.length % 8 = 6
            · have g1 : (((e.2.length + 2) % 8 : Nat) : Int) = 0 := by omega
              have g0 : ¬ ((e.2.length + 2 : Nat) : Int) < 8 := by omega
              by_cases f2 : e.2.length ≤ 2046
              · have g2 : ¬ 2048 < ((e.2.length + 2 : Nat) : Int) := by omega
                by_cases f3 : e.1 = 0
                · by_cases f4 : i = 0
                  · have g4 : ¬ 0 < (i : Int) := by omega
                    simp only [go_sem, ↓reduceIte, reduceCtorEq, upd_ne, back_new (no_at), Nat.reduceAdd, Nat.reduceEqDiff, Nat.reduceMul, Nat.reduceSub, Nat.reduceLeDiff, Nat.reduceLT, Int.reduceToNat, Int.reduceLE, Int.reduceLT, Int.reduceEq, UInt8.reduceOfNat, List.getElem?_map, Int.toNat_natCast, he, e1, e2, e3, g0, g1, g2, f3, g4, hfr, hto]
                    exact ⟨k - 1, by omega, i + 1, rfl, by omega, hgood ⟨f1, f2, fun _ => decide_eq_true f4⟩⟩
                  · have g4 : 0 < (i : Int) := by omega
                    rw [if_neg (hbad fun q => f4 (of_decide_eq_true (q.2.2 f3)))]
                    simp only [go_sem, ↓reduceIte, reduceCtorEq, upd_ne, back_new (no_at), Nat.reduceAdd, Nat.reduceEqDiff, Nat.reduceMul, Nat.reduceSub, Nat.reduceLeDiff, Nat.reduceLT, Int.reduceToNat, Int.reduceLE, Int.reduceLT, Int.reduceEq, UInt8.reduceOfNat, List.getElem?_map, Int.toNat_natCast, he, e1, e2, e3, g0, g1, g2, f3, g4, hfr, hto, Nxt, exIf]
                · simp only [go_sem, ↓reduceIte, reduceCtorEq, upd_ne, back_new (no_at), Nat.reduceAdd, Nat.reduceEqDiff, Nat.reduceMul, Nat.reduceSub, Nat.reduceLeDiff, Nat.reduceLT, Int.reduceToNat, Int.reduceLE, Int.reduceLT, Int.reduceEq, UInt8.reduceOfNat, List.getElem?_map, Int.toNat_natCast, he, e1, e2, e3, g0, g1, g2, f3, hfr, hto]
                  exact ⟨k - 1, by omega, i + 1, rfl, by omega, hgood ⟨f1, f2, fun q => absurd q f3⟩⟩
              · have g2 : 2048 < ((e.2.length + 2 : Nat) : Int) := by omega
                rw [if_neg (hbad fun q => f2 q.2.1)]
                simp only [go_sem, ↓reduceIte, reduceCtorEq, upd_ne, back_new (no_at), Nat.reduceAdd, Nat.reduceEqDiff, Nat.reduceMul, Nat.reduceSub, Nat.reduceLeDiff, Nat.reduceLT, Int.reduceToNat, Int.reduceLE, Int.reduceLT, Int.reduceEq, UInt8.reduceOfNat, List.getElem?_map, Int.toNat_natCast, he, e1, e2, e3, g0, g1, g2, hfr, hto, Nxt, exIf]
            · rw [if_neg (hbad fun q => f1 q.1)]
              by_cases g0 : ((e.2.length + 2 : Nat) : Int) < 8
              · simp only [go_sem, ↓reduceIte, reduceCtorEq, upd_ne, back_new (no_at), Nat.reduceAdd, Nat.reduceEqDiff, Nat.reduceMul, Nat.reduceSub, Nat.reduceLeDiff, Nat.reduceLT, Int.reduceToNat, Int.reduceLE, Int.reduceLT, Int.reduceEq, UInt8.reduceOfNat, List.getElem?_map, Int.toNat_natCast, he, e1, e2, e3, g0, hfr, hto, Nxt, exIf]
              · have g1 : ¬ (((e.2.length + 2) % 8 : Nat) : Int) = 0 := by omega
                simp only [go_sem, ↓reduceIte, reduceCtorEq, upd_ne, back_new (no_at), Nat.reduceAdd, Nat.reduceEqDiff, Nat.reduceMul, Nat.reduceSub, Nat.reduceLeDiff, Nat.reduceLT, Int.reduceToNat, Int.reduceLE, Int.reduceLT, Int.reduceEq, UInt8.reduceOfNat, List.getElem?_map, Int.toNat_natCast, he, e1, e2, e3, g0, g1, hfr, hto, Nxt, exIf]
          · rw [List.drop_eq_nil_of_le (by omega)] at hr
            have hkf : fB true ex = true := by rw [← hr]; cases decide (i = 0) <;> rfl
            by_cases c3 : pc6 mo da
            · have c3' : fm6' ex true id at' mo da := ⟨hkf, by rw [if_pos rfl]; exact c3⟩
              rw [if_pos c3']
              have hmo : mo = false ∨ (mo = true ∧ ¬ (da.length : Int) = 0 ∧ ((da.length % 8 : Nat) : Int) = 0) := by
                cases mo
                · exact Or.inl rfl
                · have := c3 rfl; exact Or.inr ⟨rfl, by omega, by omega⟩
              rw [hbh, if_pos rfl]
              rcases hmo with hmo | ⟨hmo, m1, m2⟩
              · subst hmo
                by_cases t1 : ex.length ≤ 8
                · have t1' : ¬ 8 < (ex.length : Int) := by omega
                  by_cases t2 : at' + (da.length : Int) ≤ 65535
                  · have t2' : ¬ 65535 < at' + (da.length : Int) := by omega
                    by_cases t3 : da.length + szE ex + 8 ≤ 65535
                    · have t3' : ¬ (65535 : Int) < ((da.length + szE ex + 8 : Nat) : Int) := by omega
                      simp only [go_sem, ↓reduceIte, reduceCtorEq, upd_ne, back_new (no_at), Nat.reduceAdd, Nat.reduceEqDiff, Nat.reduceMul, Nat.reduceSub, Nat.reduceLeDiff, Nat.reduceLT, Int.reduceToNat, Int.reduceLE, Int.reduceLT, Int.reduceEq, UInt8.reduceOfNat, hfr, hto, Nxt, exIf, e2, w8, wat, t1, t1', t2, t2', t3, t3', List.length_map, Nat.add_zero]
                    · have t3' : (65535 : Int) < ((da.length + szE ex + 8 : Nat) : Int) := by omega
                      simp only [go_sem, ↓reduceIte, reduceCtorEq, upd_ne, back_new (no_at), Nat.reduceAdd, Nat.reduceEqDiff, Nat.reduceMul, Nat.reduceSub, Nat.reduceLeDiff, Nat.reduceLT, Int.reduceToNat, Int.reduceLE, Int.reduceLT, Int.reduceEq, UInt8.reduceOfNat, hfr, hto, Nxt, exIf, e2, w8, wat, t1, t1', t2, t2', t3, t3', List.length_map, Nat.add_zero]
                  · have t2' : 65535 < at' + (da.length : Int) := by omega
                    simp only [go_sem, ↓reduceIte, reduceCtorEq, upd_ne, back_new (no_at), Nat.reduceAdd, Nat.reduceEqDiff, Nat.reduceMul, Nat.reduceSub, Nat.reduceLeDiff, Nat.reduceLT, Int.reduceToNat, Int.reduceLE, Int.reduceLT, Int.reduceEq, UInt8.reduceOfNat, hfr, hto, Nxt, exIf, e2, w8, wat, t1, t1', t2, t2', List.length_map, Nat.add_zero]
                · have t1' : 8 < (ex.length : Int) := by omega
                  simp only [go_sem, ↓reduceIte, reduceCtorEq, upd_ne, back_new (no_at), Nat.reduceAdd, Nat.reduceEqDiff, Nat.reduceMul, Nat.reduceSub, Nat.reduceLeDiff, Nat.reduceLT, Int.reduceToNat, Int.reduceLE, Int.reduceLT, Int.reduceEq, UInt8.reduceOfNat, hfr, hto, Nxt, exIf, e2, w8, wat, t1, t1', List.length_map, Nat.add_zero]
              · subst hmo
                by_cases t1 : ex.length ≤ 8
                · have t1' : ¬ 8 < (ex.length : Int) := by omega
                  by_cases t2 : at' + (da.length : Int) ≤ 65535
                  · have t2' : ¬ 65535 < at' + (da.length : Int) := by omega
                    by_cases t3 : da.length + szE ex + 8 ≤ 65535
                    · have t3' : ¬ (65535 : Int) < ((da.length + szE ex + 8 : Nat) : Int) := by omega
                      simp only [go_sem, ↓reduceIte, reduceCtorEq, upd_ne, back_new (no_at), Nat.reduceAdd, Nat.reduceEqDiff, Nat.reduceMul, Nat.reduceSub, Nat.reduceLeDiff, Nat.reduceLT, Int.reduceToNat, Int.reduceLE, Int.reduceLT, Int.reduceEq, UInt8.reduceOfNat, hfr, hto, Nxt, exIf, e2, m1, m2, w8, wat, t1, t1', t2, t2', t3, t3', List.length_map, Nat.add_zero]
                    · have t3' : (65535 : Int) < ((da.length + szE ex + 8 : Nat) : Int) := by omega
                      simp only [go_sem, ↓reduceIte, reduceCtorEq, upd_ne, back_new (no_at), Nat.reduceAdd, Nat.reduceEqDiff, Nat.reduceMul, Nat.reduceSub, Nat.reduceLeDiff, Nat.reduceLT, Int.reduceToNat, Int.reduceLE, Int.reduceLT, Int.reduceEq, UInt8.reduceOfNat, hfr, hto, Nxt, exIf, e2, m1, m2, w8, wat, t1, t1', t2, t2', t3, t3', List.length_map, Nat.add_zero]
                  · have t2' : 65535 < at' + (da.length : Int) := by omega
                    simp only [go_sem, ↓reduceIte, reduceCtorEq, upd_ne, back_new (no_at), Nat.reduceAdd, Nat.reduceEqDiff, Nat.reduceMul, Nat.reduceSub, Nat.reduceLeDiff, Nat.reduceLT, Int.reduceToNat, Int.reduceLE, Int.reduceLT, Int.reduceEq, UInt8.reduceOfNat, hfr, hto, Nxt, exIf, e2, m1, m2, w8, wat, t1, t1', t2, t2', List.length_map, Nat.add_zero]
                · have t1' : 8 < (ex.length : Int) := by omega
                  simp only [go_sem, ↓reduceIte, reduceCtorEq, upd_ne, back_new (no_at), Nat.reduceAdd, Nat.reduceEqDiff, Nat.reduceMul, Nat.reduceSub, Nat.reduceLeDiff, Nat.reduceLT, Int.reduceToNat, Int.reduceLE, Int.reduceLT, Int.reduceEq, UInt8.reduceOfNat, hfr, hto, Nxt, exIf, e2, m1, m2, w8, wat, t1, t1', List.length_map, Nat.add_zero]
            · have c3' : ¬ fm6' ex true id at' mo da := fun h => by have := h.2; rw [if_pos rfl] at this; exact c3 this
              rw [if_neg c3']
              have hmo : mo = true := by cases mo; exact absurd (fun h => by simp at h) c3; rfl
              subst hmo
              by_cases m1 : da.length = 0
              · have m1' : (da.length : Int) = 0 := by omega
                simp only [go_sem, ↓reduceIte, reduceCtorEq, upd_ne, back_new (no_at), Nat.reduceAdd, Nat.reduceEqDiff, Nat.reduceMul, Nat.reduceSub, Nat.reduceLeDiff, Nat.reduceLT, Int.reduceToNat, Int.reduceLE, Int.reduceLT, Int.reduceEq, UInt8.reduceOfNat, hfr, hto, Nxt, exIf, e2, m1']
              · have m1' : ¬ (da.length : Int) = 0 := by omega
                have m2 : ¬ ((da.length % 8 : Nat) : Int) = 0 := fun h => c3 fun _ => ⟨m1, by omega⟩
                simp only [go_sem, ↓reduceIte, reduceCtorEq, upd_ne, back_new (no_at), Nat.reduceAdd, Nat.reduceEqDiff, Nat.reduceMul, Nat.reduceSub, Nat.reduceLeDiff, Nat.reduceLT, Int.reduceToNat, Int.reduceLE, Int.reduceLT, Int.reduceEq, UInt8.reduceOfNat, hfr, hto, Nxt, exIf, e2, m1', m2]
        · subst hfg
          simp only [go_sem, ↓reduceIte, reduceCtorEq, upd_ne, back_new (no_at), Nat.reduceAdd, Nat.reduceEqDiff, Nat.reduceMul, Nat.reduceSub, Nat.reduceLeDiff, Nat.reduceLT, Int.reduceToNat, Int.reduceLE, Int.reduceLT, Int.reduceEq, UInt8.reduceOfNat, hfr, hto, Nxt, exIf, p1, p2, p3, p4, List.length_map]
          refine while_rule (fun k q => ∃ i : Nat, q = ([.int .i64 0, .int .i64 (i : Int)], noSlots) ∧ i + k = ex.length ∧ fB (decide (i = 0)) (ex.drop i) = fB true ex) ex.length ⟨0, rfl, by simp, by simp⟩ ?_
          rintro k q ⟨i, rfl, hi, hr⟩
          simp only [go_sem, ↓reduceIte, reduceCtorEq, upd_ne, back_new (no_at), Nat.reduceAdd, Nat.reduceEqDiff, Nat.reduceMul, Nat.reduceSub, Nat.reduceLeDiff, Nat.reduceLT, Int.reduceToNat, Int.reduceLE, Int.reduceLT, Int.reduceEq, UInt8.reduceOfNat, hfr, hto, List.length_map]
          refine nxt_ite (fun h => ?_) (fun h => ?_)
          · have hlt : i < ex.length := by omega
            obtain ⟨e, he⟩ : ∃ e, ex[i]? = some e := ⟨ex[i], by simp [hlt]⟩
            have hd := drop_ex he
            have heb := sm.b e (List.mem_of_getElem? he)
            have e1 : IntKind.i64.wrap ((i : Int) + 1) = ((i + 1 : Nat) : Int) := by rw [wrap_id (by omega) (by omega)]; omega
            have e3 : IntKind.i64.wrap ((e.2.length : Int) + 2) = ((e.2.length + 2 : Nat) : Int) := by rw [wrap_id (by omega) (by omega)]; omega
            have hbad : ¬ fE1 (decide (i = 0)) e → ¬ fm6' ex false id at' mo da := fun q p => by
              have hf : fB true ex = false := by rw [← hr, hd]; simp only [fB, decide_eq_false q, Bool.false_and]
              have := p.1; rw [hf] at this; simp at this
            have hgood : fE1 (decide (i = 0)) e → fB (decide (i + 1 = 0)) (ex.drop (i + 1)) = fB true ex := fun q => by
              rw [← hr, hd]; simp only [fB, decide_eq_true q, Bool.true_and]
              rw [show decide (i + 1 = 0) = false from decide_eq_false (by omega)]
            by_cases f1 : e.2.length % 8 = 6
            · have g1 : (((e.2.length + 2) % 8 : Nat) : Int) = 0 := by omega
              have g0 : ¬ ((e.2.length + 2 : Nat) : Int) < 8 := by omega
              by_cases f2 : e.2.length ≤ 2046
              · have g2 : ¬ 2048 < ((e.2.length + 2 : Nat) : Int) := by omega
                by_cases f3 : e.1 = 0
                · by_cases f4 : i = 0
                  · have g4 : ¬ 0 < (i : Int) := by omega
                    simp only [go_sem, ↓reduceIte, reduceCtorEq, upd_ne, back_new (no_at), Nat.reduceAdd, Nat.reduceEqDiff, Nat.reduceMul, Nat.reduceSub, Nat.reduceLeDiff, Nat.reduceLT, Int.reduceToNat, Int.reduceLE, Int.reduceLT, Int.reduceEq, UInt8.reduceOfNat, List.getElem?_map, Int.toNat_natCast, he, e1, e2, e3, g0, g1, g2, f3, g4, hfr, hto]
                    exact ⟨k - 1, by omega, i + 1, rfl, by omega, hgood ⟨f1, f2, fun _ => decide_eq_true f4⟩⟩
                  · have g4 : 0 < (i : Int) := by omega
                    rw [if_neg (hbad fun q => f4 (of_decide_eq_true (q.2.2 f3)))]
                    simp only [go_sem, ↓reduceIte, reduceCtorEq, upd_ne, back_new (no_at), Nat.reduceAdd, Nat.reduceEqDiff, Nat.reduceMul, Nat.reduceSub, Nat.reduceLeDiff, Nat.reduceLT, Int.reduceToNat, Int.reduceLE, Int.reduceLT, Int.reduceEq, UInt8.reduceOfNat, List.getElem?_map, Int.toNat_natCast, he, e1, e2, e3, g0, g1, g2, f3, g4, hfr, hto, Nxt, exIf]
                · simp only [go_sem, ↓reduceIte, reduceCtorEq, upd_ne, back_new (no_at), Nat.reduceAdd, Nat.reduceEqDiff, Nat.reduceMul, Nat.reduceSub, Nat.reduceLeDiff, Nat.reduceLT, Int.reduceToNat, Int.reduceLE, Int.reduceLT, Int.reduceEq, UInt8.reduceOfNat, List.getElem?_map, Int.toNat_natCast, he, e1, e2, e3, g0, g1, g2, f3, hfr, hto]
                  exact ⟨k - 1, by omega, i + 1, rfl, by omega, hgood ⟨f1, f2, fun q => absurd q f3⟩⟩
              · have g2 : 2048 < ((e.2.length + 2 : Nat) : Int) := by omega
                rw [if_neg (hbad fun q => f2 q.2.1)]
                simp only [go_sem, ↓reduceIte, reduceCtorEq, upd_ne, back_new (no_at), Nat.reduceAdd, Nat.reduceEqDiff, Nat.reduceMul, Nat.reduceSub, Nat.reduceLeDiff, Nat.reduceLT, Int.reduceToNat, Int.reduceLE, Int.reduceLT, Int.reduceEq, UInt8.reduceOfNat, List.getElem?_map, Int.toNat_natCast, he, e1, e2, e3, g0, g1, g2, hfr, hto, Nxt, exIf]
            · rw [if_neg (hbad fun q => f1 q.1)]
              by_cases g0 : ((e.2.length + 2 : Nat) : Int) < 8
              · simp only [go_sem, ↓reduceIte, reduceCtorEq, upd_ne, back_new (no_at), Nat.reduceAdd, Nat.reduceEqDiff, Nat.reduceMul, Nat.reduceSub, Nat.reduceLeDiff, Nat.reduceLT, Int.reduceToNat, Int.reduceLE, Int.reduceLT, Int.reduceEq, UInt8.reduceOfNat, List.getElem?_map, Int.toNat_natCast, he, e1, e2, e3, g0, hfr, hto, Nxt, exIf]
              · have g1 : ¬ (((e.2.length + 2) % 8 : Nat) : Int) = 0 := by omega
                simp only [go_sem, ↓reduceIte, reduceCtorEq, upd_ne, back_new (no_at), Nat.reduceAdd, Nat.reduceEqDiff, Nat.reduceMul, Nat.reduceSub, Nat.reduceLeDiff, Nat.reduceLT, Int.reduceToNat, Int.reduceLE, Int.reduceLT, Int.reduceEq, UInt8.reduceOfNat, List.getElem?_map, Int.toNat_natCast, he, e1, e2, e3, g0, g1, hfr, hto, Nxt, exIf]
          · rw [List.drop_eq_nil_of_le (by omega)] at hr
            have hkf : fB true ex = true := by rw [← hr]; cases decide (i = 0) <;> rfl
            by_cases d1 : id = 0
            · by_cases d2 : at' = 0
              · cases mo
                · have c3' : fm6' ex false id at' false da := ⟨hkf, by rw [if_neg Bool.false_ne_true]; exact ⟨d1, d2, rfl⟩⟩
                  rw [if_pos c3', hbh, if_neg Bool.false_ne_true]
                  subst d1
                  subst d2
                  by_cases t1 : ex.length ≤ 8
                  · have t1' : ¬ 8 < (ex.length : Int) := by omega
                    by_cases t2 : 0 + (da.length : Int) ≤ 65535
                    · have t2' : ¬ 65535 < 0 + (da.length : Int) := by omega
                      by_cases t3 : da.length + szE ex ≤ 65535
                      · have t3' : ¬ (65535 : Int) < ((da.length + szE ex : Nat) : Int) := by omega
                        simp only [go_sem, ↓reduceIte, reduceCtorEq, upd_ne, back_new (no_at), Nat.reduceAdd, Nat.reduceEqDiff, Nat.reduceMul, Nat.reduceSub, Nat.reduceLeDiff, Nat.reduceLT, Int.reduceToNat, Int.reduceLE, Int.reduceLT, Int.reduceEq, UInt8.reduceOfNat, hfr, hto, Nxt, exIf, e2, w8, wat, t1, t1', t2, t2', t3, t3', List.length_map, Nat.add_zero]
                      · have t3' : (65535 : Int) < ((da.length + szE ex : Nat) : Int) := by omega
                        simp only [go_sem, ↓reduceIte, reduceCtorEq, upd_ne, back_new (no_at), Nat.reduceAdd, Nat.reduceEqDiff, Nat.reduceMul, Nat.reduceSub, Nat.reduceLeDiff, Nat.reduceLT, Int.reduceToNat, Int.reduceLE, Int.reduceLT, Int.reduceEq, UInt8.reduceOfNat, hfr, hto, Nxt, exIf, e2, w8, wat, t1, t1', t2, t2', t3, t3', List.length_map, Nat.add_zero]
                    · have t2' : 65535 < 0 + (da.length : Int) := by omega
                      simp only [go_sem, ↓reduceIte, reduceCtorEq, upd_ne, back_new (no_at), Nat.reduceAdd, Nat.reduceEqDiff, Nat.reduceMul, Nat.reduceSub, Nat.reduceLeDiff, Nat.reduceLT, Int.reduceToNat, Int.reduceLE, Int.reduceLT, Int.reduceEq, UInt8.reduceOfNat, hfr, hto, Nxt, exIf, e2, w8, wat, t1, t1', t2, t2', List.length_map, Nat.add_zero]
                  · have t1' : 8 < (ex.length : Int) := by omega
                    simp only [go_sem, ↓reduceIte, reduceCtorEq, upd_ne, back_new (no_at), Nat.reduceAdd, Nat.reduceEqDiff, Nat.reduceMul, Nat.reduceSub, Nat.reduceLeDiff, Nat.reduceLT, Int.reduceToNat, Int.reduceLE, Int.reduceLT, Int.reduceEq, UInt8.reduceOfNat, hfr, hto, Nxt, exIf, e2, w8, wat, t1, t1', List.length_map, Nat.add_zero]
                · have c3' : ¬ fm6' ex false id at' true da := fun h => by have := h.2; rw [if_neg Bool.false_ne_true] at this; simp at this
                  rw [if_neg c3']
                  simp only [go_sem, ↓reduceIte, reduceCtorEq, upd_ne, back_new (no_at), Nat.reduceAdd, Nat.reduceEqDiff, Nat.reduceMul, Nat.reduceSub, Nat.reduceLeDiff, Nat.reduceLT, Int.reduceToNat, Int.reduceLE, Int.reduceLT, Int.reduceEq, UInt8.reduceOfNat, hfr, hto, Nxt, exIf, e2, d1, d2]
              · have c3' : ¬ fm6' ex false id at' mo da := fun h => by have := h.2; rw [if_neg Bool.false_ne_true] at this; exact d2 this.2.1
                rw [if_neg c3']
                simp only [go_sem, ↓reduceIte, reduceCtorEq, upd_ne, back_new (no_at), Nat.reduceAdd, Nat.reduceEqDiff, Nat.reduceMul, Nat.reduceSub, Nat.reduceLeDiff, Nat.reduceLT, Int.reduceToNat, Int.reduceLE, Int.reduceLT, Int.reduceEq, UInt8.reduceOfNat, hfr, hto, Nxt, exIf, e2, d1, d2]
            · have c3' : ¬ fm6' ex false id at' mo da := fun h => by have := h.2; rw [if_neg Bool.false_ne_true] at this; exact d1 this.1
              rw [if_neg c3']
              simp only [go_sem, ↓reduceIte, reduceCtorEq, upd_ne, back_new (no_at), Nat.reduceAdd, Nat.reduceEqDiff, Nat.reduceMul, Nat.reduceSub, Nat.reduceLeDiff, Nat.reduceLT, Int.reduceToNat, Int.reduceLE, Int.reduceLT, Int.reduceEq, UInt8.reduceOfNat, hfr, hto, Nxt, exIf, e2, d1]
      · obtain ⟨hfg, hp⟩ := bad c2
        rw [if_neg c2]
        subst hfg
        by_cases p1 : pt = 0
        · subst p1; simp only [go_sem, ↓reduceIte, reduceCtorEq, upd_ne, back_new (no_at), Nat.reduceAdd, Nat.reduceEqDiff, Nat.reduceMul, Nat.reduceSub, Nat.reduceLeDiff, Nat.reduceLT, Int.reduceToNat, Int.reduceLE, Int.reduceLT, Int.reduceEq, UInt8.reduceOfNat, hfr, hto, Nxt, exIf]
        · by_cases p2 : pt = 43
          · subst p2; simp only [go_sem, ↓reduceIte, reduceCtorEq, upd_ne, back_new (no_at), Nat.reduceAdd, Nat.reduceEqDiff, Nat.reduceMul, Nat.reduceSub, Nat.reduceLeDiff, Nat.reduceLT, Int.reduceToNat, Int.reduceLE, Int.reduceLT, Int.reduceEq, UInt8.reduceOfNat, hfr, hto, Nxt, exIf]
          · by_cases p3 : pt = 44
            · subst p3; simp only [go_sem, ↓reduceIte, reduceCtorEq, upd_ne, back_new (no_at), Nat.reduceAdd, Nat.reduceEqDiff, Nat.reduceMul, Nat.reduceSub, Nat.reduceLeDiff, Nat.reduceLT, Int.reduceToNat, Int.reduceLE, Int.reduceLT, Int.reduceEq, UInt8.reduceOfNat, hfr, hto, Nxt, exIf]
            · have p4 : pt = 60 := by
                rcases hp with ((h | h) | h) | h
                · exact absurd h p1
                · exact absurd h p2
                · exact h
                · exact absurd h p3
              subst p4; simp only [go_sem, ↓reduceIte, reduceCtorEq, upd_ne, back_new (no_at), Nat.reduceAdd, Nat.reduceEqDiff, Nat.reduceMul, Nat.reduceSub, Nat.reduceLeDiff, Nat.reduceLT, Int.reduceToNat, Int.reduceLE, Int.reduceLT, Int.reduceEq, UInt8.reduceOfNat, hfr, hto, Nxt, exIf]
  · rw [if_neg c1]
    by_cases b1 : 0 ≤ cl ∧ cl ≤ 255
    · by_cases b2 : 0 ≤ fl ∧ fl ≤ 1048575
      · by_cases b3 : 0 ≤ ho ∧ ho ≤ 255
        · by_cases b4 : 0 ≤ pt ∧ pt ≤ 255
          · by_cases b5 : 0 ≤ at' ∧ at' ≤ 65528
            · have b6 : ¬ Int.tmod at' 8 = 0 := fun h => c1 ⟨b1, b2, b3, b4, b5, h⟩
              simp only [go_sem, ↓reduceIte, reduceCtorEq, upd_ne, back_new (no_at), Nat.reduceAdd, Nat.reduceEqDiff, Nat.reduceMul, Nat.reduceSub, Nat.reduceLeDiff, Nat.reduceLT, Int.reduceToNat, Int.reduceLE, Int.reduceLT, Int.reduceEq, UInt8.reduceOfNat, hw, hfr, hto, decide_eq_true b1, decide_eq_true b2, decide_eq_true b3, decide_eq_true b4, decide_eq_true b5, b6]
            · simp only [go_sem, ↓reduceIte, reduceCtorEq, upd_ne, back_new (no_at), Nat.reduceAdd, Nat.reduceEqDiff, Nat.reduceMul, Nat.reduceSub, Nat.reduceLeDiff, Nat.reduceLT, Int.reduceToNat, Int.reduceLE, Int.reduceLT, Int.reduceEq, UInt8.reduceOfNat, hw, hfr, hto, decide_eq_true b1, decide_eq_true b2, decide_eq_true b3, decide_eq_true b4, decide_eq_false b5]
          · simp only [go_sem, ↓reduceIte, reduceCtorEq, upd_ne, back_new (no_at), Nat.reduceAdd, Nat.reduceEqDiff, Nat.reduceMul, Nat.reduceSub, Nat.reduceLeDiff, Nat.reduceLT, Int.reduceToNat, Int.reduceLE, Int.reduceLT, Int.reduceEq, UInt8.reduceOfNat, hw, hfr, hto, decide_eq_true b1, decide_eq_true b2, decide_eq_true b3, decide_eq_false b4]
        · simp only [go_sem, ↓reduceIte, reduceCtorEq, upd_ne, back_new (no_at), Nat.reduceAdd, Nat.reduceEqDiff, Nat.reduceMul, Nat.reduceSub, Nat.reduceLeDiff, Nat.reduceLT, Int.reduceToNat, Int.reduceLE, Int.reduceLT, Int.reduceEq, UInt8.reduceOfNat, hw, hfr, hto, decide_eq_true b1, decide_eq_true b2, decide_eq_false b3]
      · simp only [go_sem, ↓reduceIte, reduceCtorEq, upd_ne, back_new (no_at), Nat.reduceAdd, Nat.reduceEqDiff, Nat.reduceMul, Nat.reduceSub, Nat.reduceLeDiff, Nat.reduceLT, Int.reduceToNat, Int.reduceLE, Int.reduceLT, Int.reduceEq, UInt8.reduceOfNat, hw, hfr, hto, decide_eq_true b1, decide_eq_false b2]
    · simp only [go_sem, ↓reduceIte, reduceCtorEq, upd_ne, back_new (no_at), Nat.reduceAdd, Nat.reduceEqDiff, Nat.reduceMul, Nat.reduceSub, Nat.reduceLeDiff, Nat.reduceLT, Int.reduceToNat, Int.reduceLE, Int.reduceLT, Int.reduceEq, UInt8.reduceOfNat, hw, hfr, hto, decide_eq_false b1]
end
end Go.Ev

namespace Go.Ev
set_option linter.unusedSimpArgs false
set_option linter.unusedVariables false
set_option maxRecDepth 4000
set_option maxHeartbeats 8000000
theorem beB_succ (i x : Nat) : beB (i + 1) x = UInt8.ofNat (x / 256 ^ i) :: beB i x := by
  unfold beB
  rw [List.range_succ_eq_map, List.map_cons, List.map_map]
  congr 1
  apply List.map_congr_left
  intro j hj
  simp only [Function.comp]
  rw [show i + 1 - 1 - (j + 1) = i - 1 - j by omega]
theorem ints_flat' (l : List LV) (h : ∀ v ∈ l, ∃ k : Int, v = .int .i64 k) : (l.all fun v => decide (flatLen v = 1)) = true := by
  rw [List.all_eq_true]
  intro v hv
  obtain ⟨k, rfl⟩ := h v hv
  simp [flatLen]
abbrev kindsL (ex : List (Int × List UInt8)) : List LV := ex.map fun e => LV.int .i64 e.1
theorem kinds_flat (ex : List (Int × List UInt8)) : ((kindsL ex).all fun v => decide (flatLen v = 1)) = true :=
  ints_flat' _ fun v hv => by obtain ⟨e, _, rfl⟩ := List.mem_map.1 hv; exact ⟨_, rfl⟩
theorem kinds_get {ex : List (Int × List UInt8)} {p : Int} {t : List LV} {i : Nat} (h : i < ex.length) : (kindsL ex ++ .int .i64 p :: t)[i + 1]? = some (.int .i64 (nxE (ex.drop (i + 1)) p)) := by
  rcases Nat.lt_or_ge (i + 1) ex.length with h1 | h1
  · rw [List.getElem?_append_left (by simpa using h1)]
    rw [List.drop_eq_getElem_cons h1]
    simp [h1, nxE]
  · rw [List.getElem?_append_right (by simpa using h1), List.drop_eq_nil_of_le h1]
    simp [show i + 1 - ex.length = 0 by omega, nxE]
theorem kinds_get0 {ex : List (Int × List UInt8)} {p : Int} {t : List LV} : (kindsL ex ++ .int .i64 p :: t)[0]? = some (.int .i64 (nxE ex p)) := by
  cases ex with
  | nil => rfl
  | cons e l => rfl
section
variable {S : Sys} (hS : Has S) (n : Nat)
include hS
theorem ev_Put (x m : Nat) (hx : x ≤ 9223372036854775807) (hm : m ≤ 8) : S.ev (n + 1) id_interpreterref01_Put [.int .i64 (x : Int), .int .i64 (m : Int)] none = some (.str (beB m x), none) := by
  rw [Sys.step hS.h_interpreterref01_Put, F_interpreterref01_Put_eq]
  unfold F_interpreterref01_Put
  (try simp only [guard_merge, or_merge, and_merge, or_pick, and_pick, guard_or, guard_and]); simp only [to_ob]
  simp only [go_sem, ↓reduceIte, reduceCtorEq, upd_ne, back_new (no_at), Nat.reduceAdd, Nat.reduceEqDiff, Nat.reduceMul, Nat.reduceSub, Nat.reduceLeDiff, Nat.reduceLT, Int.reduceToNat, Int.reduceLE, Int.reduceLT, Int.reduceEq, UInt8.reduceOfNat]
  refine while_rule (fun k q => ∃ i : Nat, i + k = m ∧ q = ([.str (beB i x), .int .i64 ((x / 256 ^ i : Nat) : Int), .int .i64 (i : Int)], noSlots)) m ⟨0, by omega, by simp [beB]⟩ ?_
  rintro k q ⟨i, hi, rfl⟩
  simp only [go_sem, ↓reduceIte, reduceCtorEq, upd_ne, back_new (no_at), Nat.reduceAdd, Nat.reduceEqDiff, Nat.reduceMul, Nat.reduceSub, Nat.reduceLeDiff, Nat.reduceLT, Int.reduceToNat, Int.reduceLE, Int.reduceLT, Int.reduceEq, UInt8.reduceOfNat]
  refine nxt_ite (fun h => ?_) (fun h => ?_)
  · have hd : x / 256 ^ i ≤ x := Nat.div_le_self _ _
    have hd2 : x / 256 ^ i / 256 ≤ x / 256 ^ i := Nat.div_le_self _ _
    have e1 : IntKind.i64.wrap ((i : Int) + 1) = ((i + 1 : Nat) : Int) := by rw [wrap_id (by omega) (by omega)]; omega
    have e2 : IntKind.u8.wrap (Int.tmod ((x / 256 ^ i : Nat) : Int) 256) = ((UInt8.ofNat (x / 256 ^ i)).toNat : Int) := by
      rw [mod256, u8w, u8_ofNat_mod]
    have e3 : IntKind.i64.wrap (Int.tdiv ((x / 256 ^ i : Nat) : Int) 256) = ((x / 256 ^ (i + 1) : Nat) : Int) := by
      rw [show Int.tdiv ((x / 256 ^ i : Nat) : Int) 256 = ((x / 256 ^ i / 256 : Nat) : Int) from rfl, wrap_id (by omega) (by omega), Nat.div_div_eq_div_mul, Nat.pow_succ]
    have m1 : 1 + i ≤ maxStr := by unfold maxStr; omega
    have m2 : 0 + 1 + i ≤ maxStr := by unfold maxStr; omega
    simp only [go_sem, ↓reduceIte, reduceCtorEq, upd_ne, back_new (no_at), Nat.reduceAdd, Nat.reduceEqDiff, Nat.reduceMul, Nat.reduceSub, Nat.reduceLeDiff, Nat.reduceLT, Int.reduceToNat, Int.reduceLE, Int.reduceLT, Int.reduceEq, UInt8.reduceOfNat, List.getElem?_map, Int.toNat_natCast, ↓e_sadd, e1, e2, e3, u8_lt, UInt8.ofNat_toNat, beB_len, m1, m2, byteLV]
    exact ⟨k - 1, by omega, i + 1, by omega, by rw [beB_succ]⟩
  · obtain rfl : i = m := by omega
    simp only [go_sem, ↓reduceIte, reduceCtorEq, upd_ne, back_new (no_at), Nat.reduceAdd, Nat.reduceEqDiff, Nat.reduceMul, Nat.reduceSub, Nat.reduceLeDiff, Nat.reduceLT, Int.reduceToNat, Int.reduceLE, Int.reduceLT, Int.reduceEq, UInt8.reduceOfNat, Nxt, exIf]
theorem ev_put4 (x m : Nat) (hx : x ≤ 9223372036854775807) (hm : m ≤ 8) : S.ev (n + 2) id_interpreterref04_put [.int .i64 (x : Int), .int .i64 (m : Int)] none = some (.str (beB m x), none) := by
  rw [Sys.step hS.h_interpreterref04_put, F_interpreterref04_put_eq]
  unfold F_interpreterref04_put
  have h := ev_Put hS n x m hx hm
  (try simp only [guard_merge, or_merge, and_merge, or_pick, and_pick, guard_or, guard_and]); simp only [to_ob]
  simp only [go_sem, ↓reduceIte, reduceCtorEq, upd_ne, back_new (no_at), Nat.reduceAdd, Nat.reduceEqDiff, Nat.reduceMul, Nat.reduceSub, Nat.reduceLeDiff, Nat.reduceLT, Int.reduceToNat, Int.reduceLE, Int.reduceLT, Int.reduceEq, UInt8.reduceOfNat, h]
theorem ev_p41 {x : Int} (h : 0 ≤ x) (h1 : x < 256) : S.ev (n + 2) id_interpreterref04_put [.int .i64 x, .int .i64 1] none = some (.str (beB 1 x.toNat), none) := by
  obtain ⟨y, rfl⟩ := nat_of h
  exact ev_put4 hS n y 1 (by omega) (by omega)
theorem ev_p42 {x : Int} (h : 0 ≤ x) (h1 : x < 65536) : S.ev (n + 2) id_interpreterref04_put [.int .i64 x, .int .i64 2] none = some (.str (beB 2 x.toNat), none) := by
  obtain ⟨y, rfl⟩ := nat_of h
  exact ev_put4 hS n y 2 (by omega) (by omega)
theorem ev_p44 {x : Int} (h : 0 ≤ x) (h1 : x < 4294967296) : S.ev (n + 2) id_interpreterref04_put [.int .i64 x, .int .i64 4] none = some (.str (beB 4 x.toNat), none) := by
  obtain ⟨y, rfl⟩ := nat_of h
  exact ev_put4 hS n y 4 (by omega) (by omega)
theorem ev_rbytes6_tt {cl fl ho : Int} {fr to : List UInt8} {ex : List (Int × List UInt8)} {id at' : Int} {pt : Int} {da : List UInt8} (hf : FitIp6 cl fl ho fr to ex id at' pt da) (sm : SmE ex) (hdl : da.length ≤ 1000000) (c : why6 cl fl ho ex true id at' true pt da = 0) :
    S.ev (n + 3) id_interpreterref04_Bytes [ip6LV cl fl ho fr to (extsLV ex) true id at' true pt da] none = some (.tup [.str (by6 cl fl ho fr to ex true id at' true pt da), .int .i64 0], none) := by
  rw [Sys.step hS.h_interpreterref04_Bytes, F_interpreterref04_Bytes_eq]
  unfold F_interpreterref04_Bytes
  have hfr := hf.hfr
  have hto := hf.hto
  have hw := ev_Why6 hS n (cl := cl) (fl := fl) (ho := ho) (fr := fr) (to := to) (ex := ex) (fg := true) (id := id) (at' := at') (mo := true) (pt := pt) (da := da) hfr hto sm hdl
  rw [c] at hw
  have ok := why6_zero.1 c
  obtain ⟨⟨⟨a1, a2⟩, ⟨a3, a4⟩, ⟨a5, a6⟩, ⟨a7, a8⟩, ⟨a9, a10⟩, a11⟩, ok2, ok3, ok4, ok5, ok6⟩ := ok
  have hkb := ok2.1
  have hfb := fB_le ex true ok3.1
  have hid := hf.hid
  (try simp only [guard_merge, or_merge, and_merge, or_pick, and_pick, guard_or, guard_and]); simp only [to_ob]
  unfold by6 bd6
  simp only [Bool.false_eq_true, if_true, if_false]
  unfold bh6 at ok6
  simp only [Bool.false_eq_true, if_true, if_false] at ok6
  have b1 := ev_p41 hS n (x := pt) (by omega) (by omega)
  have b0 : S.ev (n + 2) id_interpreterref04_put [.int .i64 0, .int .i64 1] none = some (.str [0], none) := ev_p41 hS n (x := 0) (by omega) (by omega)
  have b2 := ev_p42 hS n (x := at' + 1) (by omega) (by omega)
  have b3 := ev_p44 hS n (x := id) (by omega) (by omega)
  have b4 := ev_p41 hS n (x := ho) (by omega) (by omega)
  obtain ⟨cl, rfl⟩ := Int.eq_ofNat_of_zero_le a1
  obtain ⟨fl, rfl⟩ := Int.eq_ofNat_of_zero_le a3
  have b5 := ev_p44 hS n (x := ((1610612736 + cl * 1048576 + fl : Nat) : Int)) (by omega) (by omega)
  have w1 : IntKind.i64.wrap id = id := wrap_id (by omega) (by omega)
  have w2 : IntKind.i64.wrap (at' + 1) = at' + 1 := wrap_id (by omega) (by omega)
  have w4 : IntKind.i64.wrap (IntKind.i64.wrap (1610612736 + IntKind.i64.wrap ((cl : Int) * 1048576)) + (fl : Int)) = ((1610612736 + cl * 1048576 + fl : Nat) : Int) := by
    rw [wrap_id (n := (cl : Int) * 1048576) (by omega) (by omega), wrap_id (n := 1610612736 + (cl : Int) * 1048576) (by omega) (by omega), wrap_id (by omega) (by omega)]; omega
  have hl := beB_len
  have m0 : ∀ k : Nat, k ≤ 1000000 → k ≤ maxStr := fun k h => by unfold maxStr; omega
  simp only [go_sem, ↓reduceIte, reduceCtorEq, upd_ne, back_new (no_at), Nat.reduceAdd, Nat.reduceEqDiff, Nat.reduceMul, Nat.reduceSub, Nat.reduceLeDiff, Nat.reduceLT, Int.reduceToNat, Int.reduceLE, Int.reduceLT, Int.reduceEq, UInt8.reduceOfNat, hw, c, hfr, hto]
  refine while_rule (fun k q => ∃ i : Nat, q = ([.lst (some (5, 1)) (kindsL (ex.take i)), .int .i64 (i : Int)], upd noSlots 5 (.tag 1 i 1)) ∧ i + k = ex.length) ex.length ⟨0, rfl, by omega⟩ ?_
  rintro k q ⟨i, rfl, hi⟩
  simp only [go_sem, ↓reduceIte, reduceCtorEq, upd_ne, back_new (no_at), Nat.reduceAdd, Nat.reduceEqDiff, Nat.reduceMul, Nat.reduceSub, Nat.reduceLeDiff, Nat.reduceLT, Int.reduceToNat, Int.reduceLE, Int.reduceLT, Int.reduceEq, UInt8.reduceOfNat, hfr, hto, List.length_map]
  refine nxt_ite (fun h => ?_) (fun h => ?_)
  · have hlt : i < ex.length := by omega
    obtain ⟨e, he⟩ : ∃ e, ex[i]? = some e := ⟨ex[i], by simp [hlt]⟩
    have htk : ex.take (i + 1) = ex.take i ++ [e] := by rw [List.take_add_one, he]; rfl
    have e1 : IntKind.i64.wrap ((i : Int) + 1) = ((i + 1 : Nat) : Int) := by rw [wrap_id (by omega) (by omega)]; omega
    have ha := wAppend_tag (e := 1) (by' := 8) (d := 33) (t := 5) (g := 1) (n := i) (sz := 1) (sl := upd noSlots 5 (.tag 1 i 1)) (l := kindsL (ex.take i)) (new := [.int .i64 e.1]) upd_same (by simp; omega) rfl (kinds_flat _) (by simp [flatLen]) (by simp) (by simp; omega)
    rw [upd_upd, show kindsL (ex.take i) ++ [.int .i64 e.1] = kindsL (ex.take (i + 1)) by rw [htk]; simp] at ha
    simp only [go_sem, ↓reduceIte, reduceCtorEq, upd_ne, back_new (no_at), Nat.reduceAdd, Nat.reduceEqDiff, Nat.reduceMul, Nat.reduceSub, Nat.reduceLeDiff, Nat.reduceLT, Int.reduceToNat, Int.reduceLE, Int.reduceLT, Int.reduceEq, UInt8.reduceOfNat, List.getElem?_map, Int.toNat_natCast, he, e1, ha, hfr, hto]
    exact ⟨k - 1, by omega, i + 1, rfl, by omega⟩
  obtain rfl : i = ex.length := by omega
  rw [List.take_of_length_le (by omega)]
  simp only [go_sem, ↓reduceIte, reduceCtorEq, upd_ne, back_new (no_at), Nat.reduceAdd, Nat.reduceEqDiff, Nat.reduceMul, Nat.reduceSub, Nat.reduceLeDiff, Nat.reduceLT, Int.reduceToNat, Int.reduceLE, Int.reduceLT, Int.reduceEq, UInt8.reduceOfNat, hfr, hto, Nxt, exIf]
  have ha1 := wAppend_tag (e := 1) (by' := 8) (d := 38) (t := 5) (g := 1) (n := ex.length) (sz := 1) (sl := upd noSlots 5 (.tag 1 ex.length 1)) (l := kindsL ex) (new := [.int .i64 44]) upd_same (by simp) rfl (kinds_flat _) (by simp [flatLen]) (by simp) (by simp; omega)
  have hk2 : ((kindsL ex ++ [LV.int .i64 44]).all fun v => decide (flatLen v = 1)) = true := ints_flat' _ fun v hv => by
    rcases List.mem_append.1 hv with h | h
    · obtain ⟨e, _, rfl⟩ := List.mem_map.1 h; exact ⟨_, rfl⟩
    · simp at h; exact ⟨_, h⟩
  have ha2 := wAppend_tag (e := 1) (by' := 8) (d := 43) (t := 5) (g := 1) (n := ex.length + 1) (sz := 1) (sl := upd noSlots 5 (.tag 1 (ex.length + 1) 1)) (l := kindsL ex ++ [LV.int .i64 44]) (new := [.int .i64 pt]) upd_same (by simp) rfl hk2 (by simp [flatLen]) (by simp) (by simp; omega)
  rw [upd_upd] at ha1 ha2
  simp only [List.length_cons, List.length_nil, Nat.zero_add, List.append_assoc, List.cons_append, List.nil_append] at ha1 ha2
  simp only [go_sem, ↓reduceIte, reduceCtorEq, upd_ne, back_new (no_at), Nat.reduceAdd, Nat.reduceEqDiff, Nat.reduceMul, Nat.reduceSub, Nat.reduceLeDiff, Nat.reduceLT, Int.reduceToNat, Int.reduceLE, Int.reduceLT, Int.reduceEq, UInt8.reduceOfNat, hfr, hto, ha1, ha2]
  have hNr : 0 ≤ (44 : Int) ∧ (44 : Int) ≤ 255 := by omega
  have hXl := exB_len ex 44 []
  simp only [List.length_nil, Nat.add_zero] at hXl
  refine while_rule (fun k q => ∃ (i : Nat) (u : List UInt8), q = ([.str u, .int .i64 (i : Int)], upd noSlots 5 (.tag 1 (ex.length + 1 + 1) 1)) ∧ i + k = ex.length ∧ u ++ exB (ex.drop i) 44 [] = exB ex 44 []) ex.length ⟨0, [], rfl, by omega, by simp⟩ ?_
  rintro k q ⟨i, u, rfl, hi, hu⟩
  have hul : u.length ≤ szE ex := by have := congrArg List.length hu; rw [List.length_append, hXl] at this; omega
  simp only [go_sem, ↓reduceIte, reduceCtorEq, upd_ne, back_new (no_at), Nat.reduceAdd, Nat.reduceEqDiff, Nat.reduceMul, Nat.reduceSub, Nat.reduceLeDiff, Nat.reduceLT, Int.reduceToNat, Int.reduceLE, Int.reduceLT, Int.reduceEq, UInt8.reduceOfNat, hfr, hto, List.length_map]
  refine nxt_ite (fun h => ?_) (fun h => ?_)
  · have hlt : i < ex.length := by omega
    obtain ⟨e, he⟩ : ∃ e, ex[i]? = some e := ⟨ex[i], by simp [hlt]⟩
    have hd := drop_ex he
    have hem := List.mem_of_getElem? he
    have heb := hfb e hem
    have hnr := nxE_rg (p := 44) (kB_drop (i := i + 1) hkb) hNr
    have e1 : IntKind.i64.wrap ((i : Int) + 1) = ((i + 1 : Nat) : Int) := by rw [wrap_id (by omega) (by omega)]; omega
    have hg := kinds_get (p := 44) (t := [.int .i64 pt]) hlt
    have j3 : IntKind.i64.wrap (IntKind.i64.wrap (Int.tdiv (IntKind.i64.wrap ((e.2.length : Int) + 2)) 8) - 1) = ((e.2.length / 8 : Nat) : Int) := by
      rw [show IntKind.i64.wrap ((e.2.length : Int) + 2) = ((e.2.length + 2 : Nat) : Int) by rw [wrap_id (by omega) (by omega)]; omega, show Int.tdiv ((e.2.length + 2 : Nat) : Int) 8 = (((e.2.length + 2) / 8 : Nat) : Int) from rfl, wrap_id (n := (((e.2.length + 2) / 8 : Nat) : Int)) (by omega) (by omega), wrap_id (by omega) (by omega)]; omega
    have c1 := ev_p41 hS n (x := nxE (ex.drop (i + 1)) 44) (by omega) (by omega)
    have c2 := ev_p41 hS n (x := ((e.2.length / 8 : Nat) : Int)) (by omega) (by omega)
    simp only [Int.toNat_natCast] at c2
    have m1 : u.length + 1 ≤ maxStr := m0 _ (by omega)
    have m2 : u.length + 2 ≤ maxStr := m0 _ (by omega)
    have m3 : u.length + (2 + e.2.length) ≤ maxStr := m0 _ (by omega)
    have m5 : u.length + (1 + 1) ≤ maxStr := m0 _ (by omega)
    have m6 : u.length + (1 + (1 + e.2.length)) ≤ maxStr := m0 _ (by omega)
    have m7 : u.length + 1 + 1 ≤ maxStr := m0 _ (by omega)
    have m8 : u.length + 1 + 1 + e.2.length ≤ maxStr := m0 _ (by omega)
    simp only [go_sem, ↓reduceIte, reduceCtorEq, upd_ne, back_new (no_at), Nat.reduceAdd, Nat.reduceEqDiff, Nat.reduceMul, Nat.reduceSub, Nat.reduceLeDiff, Nat.reduceLT, Int.reduceToNat, Int.reduceLE, Int.reduceLT, Int.reduceEq, UInt8.reduceOfNat, List.getElem?_map, Int.toNat_natCast, ↓e_sadd, he, e1, hg, j3, c1, c2, hl, hfr, hto, m1, m2, m3, m5, m6, m7, m8, List.length_append]
    refine ⟨k - 1, by omega, i + 1, _, rfl, by omega, ?_⟩
    rw [← hu, hd]
    simp only [exB, List.append_assoc]
  obtain rfl : i = ex.length := by omega
  rw [List.drop_eq_nil_of_le (by omega)] at hu
  simp only [exB, List.append_nil] at hu
  subst hu
  simp only [go_sem, ↓reduceIte, reduceCtorEq, upd_ne, back_new (no_at), Nat.reduceAdd, Nat.reduceEqDiff, Nat.reduceMul, Nat.reduceSub, Nat.reduceLeDiff, Nat.reduceLT, Int.reduceToNat, Int.reduceLE, Int.reduceLT, Int.reduceEq, UInt8.reduceOfNat, hfr, hto, Nxt, exIf]
  have n1 : szE ex + 1 ≤ maxStr := m0 _ (by omega)
  have n2 : szE ex + 1 + 1 ≤ maxStr := m0 _ (by omega)
  have n3 : szE ex + 1 + 1 + 2 ≤ maxStr := m0 _ (by omega)
  have n4 : szE ex + 1 + 1 + 2 + 4 ≤ maxStr := m0 _ (by omega)
  have n5 : szE ex + 1 + 1 + 2 + 4 + da.length ≤ maxStr := m0 _ (by omega)
  have n6 : szE ex + (0 + 1) ≤ maxStr := m0 _ (by omega)
  have n7 : szE ex + da.length ≤ maxStr := m0 _ (by omega)
  have n8 : szE ex + 1 + (0 + 1) ≤ maxStr := m0 _ (by omega)
  simp only [go_sem, ↓reduceIte, reduceCtorEq, upd_ne, back_new (no_at), Nat.reduceAdd, Nat.reduceEqDiff, Nat.reduceMul, Nat.reduceSub, Nat.reduceLeDiff, Nat.reduceLT, Int.reduceToNat, Int.reduceLE, Int.reduceLT, Int.reduceEq, UInt8.reduceOfNat, List.getElem?_map, Int.toNat_natCast, ↓e_sadd, b0, b1, b2, b3, w1, w2, hfr, hto, hl, hXl, n1, n2, n3, n4, n5, n6, n7, n8, List.length_append]
  have hnx := nxE_rg (p := 44) hkb hNr
  have hg0 := kinds_get0 (ex := ex) (p := 44) (t := [.int .i64 pt])
  have c3 := ev_p41 hS n (x := nxE ex 44) (by omega) (by omega)
  have adr : ∀ (T a : List UInt8) (i : Nat) (b : UInt8), a[i]? = some b → T ++ a.take i ++ [b] = T ++ a.take (i + 1) := fun T a i b h => by rw [List.take_add_one, h, List.append_assoc]; rfl
  have m20 : 4 + 2 ≤ maxStr := m0 _ (by omega)
  have m21 : 4 + 2 + 1 ≤ maxStr := m0 _ (by omega)
  have m22 : 4 + 2 + 1 + 1 ≤ maxStr := m0 _ (by omega)
  have m23 : 6 ≤ maxStr := m0 _ (by omega)
  have m24 : 7 ≤ maxStr := m0 _ (by omega)
  have m25 : 8 ≤ maxStr := m0 _ (by omega)
  have m26 : 6 + 1 ≤ maxStr := m0 _ (by omega)
  have m27 : 6 + 1 + 1 ≤ maxStr := m0 _ (by omega)
  have hBL : (exB ex 44 [] ++ beB 1 pt.toNat ++ [0] ++ beB 2 (at' + 1).toNat ++ beB 4 id.toNat ++ da).length = szE ex + 1 + 1 + 2 + 4 + da.length := by simp only [List.length_append, hXl, hl, List.length_cons, List.length_nil]
  have b6 := ev_p42 hS n (x := ((szE ex + 1 + 1 + 2 + 4 + da.length : Nat) : Int)) (by omega) (by omega)
  simp only [Int.toNat_natCast] at b5 b6
  simp only [go_sem, ↓reduceIte, reduceCtorEq, upd_ne, back_new (no_at), Nat.reduceAdd, Nat.reduceEqDiff, Nat.reduceMul, Nat.reduceSub, Nat.reduceLeDiff, Nat.reduceLT, Int.reduceToNat, Int.reduceLE, Int.reduceLT, Int.reduceEq, UInt8.reduceOfNat, List.getElem?_map, Int.toNat_natCast, ↓e_sadd, w4, b4, b5, b6, c3, hg0, hfr, hto, hl, hBL, m20, m21, m22, m23, m24, m25, m26, m27, List.length_append, Int.toNat_natCast]
  generalize hT : beB 4 (1610612736 + cl * 1048576 + fl) ++ beB 2 (szE ex + 1 + 1 + 2 + 4 + da.length) ++ beB 1 (nxE ex 44).toNat ++ beB 1 ho.toNat = T
  have hTl : T.length = 8 := by rw [← hT]; simp only [List.length_append, hl]
  refine while_rule (fun k q => ∃ i : Nat, q = ([.str (T ++ fr.take i), .int .i64 (i : Int)], upd noSlots 5 (.tag 1 (ex.length + 1 + 1) 1)) ∧ i + k = 16) 16 ⟨0, by simp, by omega⟩ ?_
  rintro k q ⟨i, rfl, hi⟩
  simp only [go_sem, ↓reduceIte, reduceCtorEq, upd_ne, back_new (no_at), Nat.reduceAdd, Nat.reduceEqDiff, Nat.reduceMul, Nat.reduceSub, Nat.reduceLeDiff, Nat.reduceLT, Int.reduceToNat, Int.reduceLE, Int.reduceLT, Int.reduceEq, UInt8.reduceOfNat, hfr, hto]
  refine nxt_ite (fun h => ?_) (fun h => ?_)
  · have hlt : i < fr.length := by omega
    obtain ⟨b, hb⟩ : ∃ b, fr[i]? = some b := ⟨fr[i], by simp [hlt]⟩
    have e1 : IntKind.i64.wrap ((i : Int) + 1) = ((i + 1 : Nat) : Int) := by rw [wrap_id (by omega) (by omega)]; omega
    have i2 : i < 16 := by omega
    have m1 : 8 + min i 16 + 1 ≤ maxStr := m0 _ (by omega)
    have m2 : 8 + min i 16 + (0 + 1) ≤ maxStr := m0 _ (by omega)
    simp only [go_sem, ↓reduceIte, reduceCtorEq, upd_ne, back_new (no_at), Nat.reduceAdd, Nat.reduceEqDiff, Nat.reduceMul, Nat.reduceSub, Nat.reduceLeDiff, Nat.reduceLT, Int.reduceToNat, Int.reduceLE, Int.reduceLT, Int.reduceEq, UInt8.reduceOfNat, List.getElem?_map, Int.toNat_natCast, ↓e_sadd, hfr, hto, hb, i2, e1, byteLV, u8_lt, UInt8.ofNat_toNat, hTl, m1, m2, List.length_append, List.length_take, adr T fr i b hb]
    exact ⟨k - 1, by omega, i + 1, rfl, by omega⟩
  obtain rfl : i = 16 := by omega
  rw [List.take_of_length_le (by omega)]
  simp only [go_sem, ↓reduceIte, reduceCtorEq, upd_ne, back_new (no_at), Nat.reduceAdd, Nat.reduceEqDiff, Nat.reduceMul, Nat.reduceSub, Nat.reduceLeDiff, Nat.reduceLT, Int.reduceToNat, Int.reduceLE, Int.reduceLT, Int.reduceEq, UInt8.reduceOfNat, hfr, hto, Nxt, exIf]
  refine while_rule (fun k q => ∃ i : Nat, q = ([.str (T ++ fr ++ to.take i), .int .i64 (i : Int)], upd noSlots 5 (.tag 1 (ex.length + 1 + 1) 1)) ∧ i + k = 16) 16 ⟨0, by simp, by omega⟩ ?_
  rintro k q ⟨i, rfl, hi⟩
  simp only [go_sem, ↓reduceIte, reduceCtorEq, upd_ne, back_new (no_at), Nat.reduceAdd, Nat.reduceEqDiff, Nat.reduceMul, Nat.reduceSub, Nat.reduceLeDiff, Nat.reduceLT, Int.reduceToNat, Int.reduceLE, Int.reduceLT, Int.reduceEq, UInt8.reduceOfNat, hfr, hto]
  refine nxt_ite (fun h => ?_) (fun h => ?_)
  · have hlt : i < to.length := by omega
    obtain ⟨b, hb⟩ : ∃ b, to[i]? = some b := ⟨to[i], by simp [hlt]⟩
    have e1 : IntKind.i64.wrap ((i : Int) + 1) = ((i + 1 : Nat) : Int) := by rw [wrap_id (by omega) (by omega)]; omega
    have i2 : i < 16 := by omega
    have m1 : 8 + 16 + min i 16 + 1 ≤ maxStr := m0 _ (by omega)
    have m2 : 8 + 16 + min i 16 + (0 + 1) ≤ maxStr := m0 _ (by omega)
    have m3 : 24 + min i 16 + 1 ≤ maxStr := m0 _ (by omega)
    simp only [go_sem, ↓reduceIte, reduceCtorEq, upd_ne, back_new (no_at), Nat.reduceAdd, Nat.reduceEqDiff, Nat.reduceMul, Nat.reduceSub, Nat.reduceLeDiff, Nat.reduceLT, Int.reduceToNat, Int.reduceLE, Int.reduceLT, Int.reduceEq, UInt8.reduceOfNat, List.getElem?_map, Int.toNat_natCast, ↓e_sadd, hfr, hto, hb, i2, e1, byteLV, u8_lt, UInt8.ofNat_toNat, hTl, m1, m2, m3, List.length_append, List.length_take, adr (T ++ fr) to i b hb]
    exact ⟨k - 1, by omega, i + 1, rfl, by omega⟩
  obtain rfl : i = 16 := by omega
  rw [List.take_of_length_le (by omega)]
  have m30 : 8 + 16 + 16 + (szE ex + 1 + 1 + 2 + 4 + da.length) ≤ maxStr := m0 _ (by omega)
  have m31 : 40 + (szE ex + 1 + 1 + 2 + 4 + da.length) ≤ maxStr := m0 _ (by omega)
  simp only [go_sem, ↓reduceIte, reduceCtorEq, upd_ne, back_new (no_at), Nat.reduceAdd, Nat.reduceEqDiff, Nat.reduceMul, Nat.reduceSub, Nat.reduceLeDiff, Nat.reduceLT, Int.reduceToNat, Int.reduceLE, Int.reduceLT, Int.reduceEq, UInt8.reduceOfNat, ↓e_sadd, hfr, hto, Nxt, exIf, hTl, hBL, m30, m31, List.length_append]
  rw [← hT, show exB ex 44 (pcB id at' true pt da) = exB ex 44 [] ++ beB 1 pt.toNat ++ [0] ++ beB 2 (at' + 1).toNat ++ beB 4 id.toNat ++ da by rw [exB_app ex 44]; unfold pcB; rw [if_pos rfl, show (at' + 1).toNat = at'.toNat + 1 by omega]; simp only [List.append_assoc, List.cons_append, List.nil_append], hBL]
  simp only [List.append_assoc]
theorem ev_rbytes6_tf {cl fl ho : Int} {fr to : List UInt8} {ex : List (Int × List UInt8)} {id at' : Int} {pt : Int} {da : List UInt8} (hf : FitIp6 cl fl ho fr to ex id at' pt da) (sm : SmE ex) (hdl : da.length ≤ 1000000) (c : why6 cl fl ho ex true id at' false pt da = 0) :
    S.ev (n + 3) id_interpreterref04_Bytes [ip6LV cl fl ho fr to (extsLV ex) true id at' false pt da] none = some (.tup [.str (by6 cl fl ho fr to ex true id at' false pt da), .int .i64 0], none) := by
  rw [Sys.step hS.h_interpreterref04_Bytes, F_interpreterref04_Bytes_eq]
  unfold F_interpreterref04_Bytes
  have hfr := hf.hfr
  have hto := hf.hto
  have hw := ev_Why6 hS n (cl := cl) (fl := fl) (ho := ho) (fr := fr) (to := to) (ex := ex) (fg := true) (id := id) (at' := at') (mo := false) (pt := pt) (da := da) hfr hto sm hdl
  rw [c] at hw
  have ok := why6_zero.1 c
  obtain ⟨⟨⟨a1, a2⟩, ⟨a3, a4⟩, ⟨a5, a6⟩, ⟨a7, a8⟩, ⟨a9, a10⟩, a11⟩, ok2, ok3, ok4, ok5, ok6⟩ := ok
  have hkb := ok2.1
  have hfb := fB_le ex true ok3.1
  have hid := hf.hid
  (try simp only [guard_merge, or_merge, and_merge, or_pick, and_pick, guard_or, guard_and]); simp only [to_ob]
  unfold by6 bd6
  simp only [Bool.false_eq_true, if_true, if_false]
  unfold bh6 at ok6
  simp only [Bool.false_eq_true, if_true, if_false] at ok6
  have b1 := ev_p41 hS n (x := pt) (by omega) (by omega)
  have b0 : S.ev (n + 2) id_interpreterref04_put [.int .i64 0, .int .i64 1] none = some (.str [0], none) := ev_p41 hS n (x := 0) (by omega) (by omega)
  have b2 := ev_p42 hS n (x := at') (by omega) (by omega)
  have b3 := ev_p44 hS n (x := id) (by omega) (by omega)
  have b4 := ev_p41 hS n (x := ho) (by omega) (by omega)
  obtain ⟨cl, rfl⟩ := Int.eq_ofNat_of_zero_le a1
  obtain ⟨fl, rfl⟩ := Int.eq_ofNat_of_zero_le a3
  have b5 := ev_p44 hS n (x := ((1610612736 + cl * 1048576 + fl : Nat) : Int)) (by omega) (by omega)
  have w1 : IntKind.i64.wrap id = id := wrap_id (by omega) (by omega)
  have w2 : IntKind.i64.wrap (at' + 1) = at' + 1 := wrap_id (by omega) (by omega)
  have w4 : IntKind.i64.wrap (IntKind.i64.wrap (1610612736 + IntKind.i64.wrap ((cl : Int) * 1048576)) + (fl : Int)) = ((1610612736 + cl * 1048576 + fl : Nat) : Int) := by
    rw [wrap_id (n := (cl : Int) * 1048576) (by omega) (by omega), wrap_id (n := 1610612736 + (cl : Int) * 1048576) (by omega) (by omega), wrap_id (by omega) (by omega)]; omega
  have hl := beB_len
  have m0 : ∀ k : Nat, k ≤ 1000000 → k ≤ maxStr := fun k h => by unfold maxStr; omega
  simp only [go_sem, ↓reduceIte, reduceCtorEq, upd_ne, back_new (no_at), Nat.reduceAdd, Nat.reduceEqDiff, Nat.reduceMul, Nat.reduceSub, Nat.reduceLeDiff, Nat.reduceLT, Int.reduceToNat, Int.reduceLE, Int.reduceLT, Int.reduceEq, UInt8.reduceOfNat, hw, c, hfr, hto]
  refine while_rule (fun k q => ∃ i : Nat, q = ([.lst (some (5, 1)) (kindsL (ex.take i)), .int .i64 (i : Int)], upd noSlots 5 (.tag 1 i 1)) ∧ i + k = ex.length) ex.length ⟨0, rfl, by omega⟩ ?_
  rintro k q ⟨i, rfl, hi⟩
  simp only [go_sem, ↓reduceIte, reduceCtorEq, upd_ne, back_new (no_at), Nat.reduceAdd, Nat.reduceEqDiff, Nat.reduceMul, Nat.reduceSub, Nat.reduceLeDiff, Nat.reduceLT, Int.reduceToNat, Int.reduceLE, Int.reduceLT, Int.reduceEq, UInt8.reduceOfNat, hfr, hto, List.length_map]
  refine nxt_ite (fun h => ?_) (fun h => ?_)
  · have hlt : i < ex.length := by omega
    obtain ⟨e, he⟩ : ∃ e, ex[i]? = some e := ⟨ex[i], by simp [hlt]⟩
    have htk : ex.take (i + 1) = ex.take i ++ [e] := by rw [List.take_add_one, he]; rfl
    have e1 : IntKind.i64.wrap ((i : Int) + 1) = ((i + 1 : Nat) : Int) := by rw [wrap_id (by omega) (by omega)]; omega
    have ha := wAppend_tag (e := 1) (by' := 8) (d := 33) (t := 5) (g := 1) (n := i) (sz := 1) (sl := upd noSlots 5 (.tag 1 i 1)) (l := kindsL (ex.take i)) (new := [.int .i64 e.1]) upd_same (by simp; omega) rfl (kinds_flat _) (by simp [flatLen]) (by simp) (by simp; omega)
    rw [upd_upd, show kindsL (ex.take i) ++ [.int .i64 e.1] = kindsL (ex.take (i + 1)) by rw [htk]; simp] at ha
    simp only [go_sem, ↓reduceIte, reduceCtorEq, upd_ne, back_new (no_at), Nat.reduceAdd, Nat.reduceEqDiff, Nat.reduceMul, Nat.reduceSub, Nat.reduceLeDiff, Nat.reduceLT, Int.reduceToNat, Int.reduceLE, Int.reduceLT, Int.reduceEq, UInt8.reduceOfNat, List.getElem?_map, Int.toNat_natCast, he, e1, ha, hfr, hto]
    exact ⟨k - 1, by omega, i + 1, rfl, by omega⟩
  obtain rfl : i = ex.length := by omega
  rw [List.take_of_length_le (by omega)]
  simp only [go_sem, ↓reduceIte, reduceCtorEq, upd_ne, back_new (no_at), Nat.reduceAdd, Nat.reduceEqDiff, Nat.reduceMul, Nat.reduceSub, Nat.reduceLeDiff, Nat.reduceLT, Int.reduceToNat, Int.reduceLE, Int.reduceLT, Int.reduceEq, UInt8.reduceOfNat, hfr, hto, Nxt, exIf]
  have ha1 := wAppend_tag (e := 1) (by' := 8) (d := 38) (t := 5) (g := 1) (n := ex.length) (sz := 1) (sl := upd noSlots 5 (.tag 1 ex.length 1)) (l := kindsL ex) (new := [.int .i64 44]) upd_same (by simp) rfl (kinds_flat _) (by simp [flatLen]) (by simp) (by simp; omega)
  have hk2 : ((kindsL ex ++ [LV.int .i64 44]).all fun v => decide (flatLen v = 1)) = true := ints_flat' _ fun v hv => by
    rcases List.mem_append.1 hv with h | h
    · obtain ⟨e, _, rfl⟩ := List.mem_map.1 h; exact ⟨_, rfl⟩
    · simp at h; exact ⟨_, h⟩
  have ha2 := wAppend_tag (e := 1) (by' := 8) (d := 43) (t := 5) (g := 1) (n := ex.length + 1) (sz := 1) (sl := upd noSlots 5 (.tag 1 (ex.length + 1) 1)) (l := kindsL ex ++ [LV.int .i64 44]) (new := [.int .i64 pt]) upd_same (by simp) rfl hk2 (by simp [flatLen]) (by simp) (by simp; omega)
  rw [upd_upd] at ha1 ha2
  simp only [List.length_cons, List.length_nil, Nat.zero_add, List.append_assoc, List.cons_append, List.nil_append] at ha1 ha2
  simp only [go_sem, ↓reduceIte, reduceCtorEq, upd_ne, back_new (no_at), Nat.reduceAdd, Nat.reduceEqDiff, Nat.reduceMul, Nat.reduceSub, Nat.reduceLeDiff, Nat.reduceLT, Int.reduceToNat, Int.reduceLE, Int.reduceLT, Int.reduceEq, UInt8.reduceOfNat, hfr, hto, ha1, ha2]
  have hNr : 0 ≤ (44 : Int) ∧ (44 : Int) ≤ 255 := by omega
  have hXl := exB_len ex 44 []
  simp only [List.length_nil, Nat.add_zero] at hXl
  refine while_rule (fun k q => ∃ (i : Nat) (u : List UInt8), q = ([.str u, .int .i64 (i : Int)], upd noSlots 5 (.tag 1 (ex.length + 1 + 1) 1)) ∧ i + k = ex.length ∧ u ++ exB (ex.drop i) 44 [] = exB ex 44 []) ex.length ⟨0, [], rfl, by omega, by simp⟩ ?_
  rintro k q ⟨i, u, rfl, hi, hu⟩
  have hul : u.length ≤ szE ex := by have := congrArg List.length hu; rw [List.length_append, hXl] at this; omega
  simp only [go_sem, ↓reduceIte, reduceCtorEq, upd_ne, back_new (no_at), Nat.reduceAdd, Nat.reduceEqDiff, Nat.reduceMul, Nat.reduceSub, Nat.reduceLeDiff, Nat.reduceLT, Int.reduceToNat, Int.reduceLE, Int.reduceLT, Int.reduceEq, UInt8.reduceOfNat, hfr, hto, List.length_map]
  refine nxt_ite (fun h => ?_) (fun h => ?_)
  · have hlt : i < ex.length := by omega
    obtain ⟨e, he⟩ : ∃ e, ex[i]? = some e := ⟨ex[i], by simp [hlt]⟩
    have hd := drop_ex he
    have hem := List.mem_of_getElem? he
    have heb := hfb e hem
    have hnr := nxE_rg (p := 44) (kB_drop (i := i + 1) hkb) hNr
    have e1 : IntKind.i64.wrap ((i : Int) + 1) = ((i + 1 : Nat) : Int) := by rw [wrap_id (by omega) (by omega)]; omega
    have hg := kinds_get (p := 44) (t := [.int .i64 pt]) hlt
    have j3 : IntKind.i64.wrap (IntKind.i64.wrap (Int.tdiv (IntKind.i64.wrap ((e.2.length : Int) + 2)) 8) - 1) = ((e.2.length / 8 : Nat) : Int) := by
      rw [show IntKind.i64.wrap ((e.2.length : Int) + 2) = ((e.2.length + 2 : Nat) : Int) by rw [wrap_id (by omega) (by omega)]; omega, show Int.tdiv ((e.2.length + 2 : Nat) : Int) 8 = (((e.2.length + 2) / 8 : Nat) : Int) from rfl, wrap_id (n := (((e.2.length + 2) / 8 : Nat) : Int)) (by omega) (by omega), wrap_id (by omega) (by omega)]; omega
    have c1 := ev_p41 hS n (x := nxE (ex.drop (i + 1)) 44) (by omega) (by omega)
    have c2 := ev_p41 hS n (x := ((e.2.length / 8 : Nat) : Int)) (by omega) (by omega)
    simp only [Int.toNat_natCast] at c2
    have m1 : u.length + 1 ≤ maxStr := m0 _ (by omega)
    have m2 : u.length + 2 ≤ maxStr := m0 _ (by omega)
    have m3 : u.length + (2 + e.2.length) ≤ maxStr := m0 _ (by omega)
    have m5 : u.length + (1 + 1) ≤ maxStr := m0 _ (by omega)
    have m6 : u.length + (1 + (1 + e.2.length)) ≤ maxStr := m0 _ (by omega)
    have m7 : u.length + 1 + 1 ≤ maxStr := m0 _ (by omega)
    have m8 : u.length + 1 + 1 + e.2.length ≤ maxStr := m0 _ (by omega)
    simp only [go_sem, ↓reduceIte, reduceCtorEq, upd_ne, back_new (no_at), Nat.reduceAdd, Nat.reduceEqDiff, Nat.reduceMul, Nat.reduceSub, Nat.reduceLeDiff, Nat.reduceLT, Int.reduceToNat, Int.reduceLE, Int.reduceLT, Int.reduceEq, UInt8.reduceOfNat, List.getElem?_map, Int.toNat_natCast, ↓e_sadd, he, e1, hg, j3, c1, c2, hl, hfr, hto, m1, m2, m3, m5, m6, m7, m8, List.length_append]
    refine ⟨k - 1, by omega, i + 1, _, rfl, by omega, ?_⟩
    rw [← hu, hd]
    simp only [exB, List.append_assoc]
  obtain rfl : i = ex.length := by omega
  rw [List.drop_eq_nil_of_le (by omega)] at hu
  simp only [exB, List.append_nil] at hu
  subst hu
  simp only [go_sem, ↓reduceIte, reduceCtorEq, upd_ne, back_new (no_at), Nat.reduceAdd, Nat.reduceEqDiff, Nat.reduceMul, Nat.reduceSub, Nat.reduceLeDiff, Nat.reduceLT, Int.reduceToNat, Int.reduceLE, Int.reduceLT, Int.reduceEq, UInt8.reduceOfNat, hfr, hto, Nxt, exIf]
  have n1 : szE ex + 1 ≤ maxStr := m0 _ (by omega)
  have n2 : szE ex + 1 + 1 ≤ maxStr := m0 _ (by omega)
  have n3 : szE ex + 1 + 1 + 2 ≤ maxStr := m0 _ (by omega)
  have n4 : szE ex + 1 + 1 + 2 + 4 ≤ maxStr := m0 _ (by omega)
  have n5 : szE ex + 1 + 1 + 2 + 4 + da.length ≤ maxStr := m0 _ (by omega)
  have n6 : szE ex + (0 + 1) ≤ maxStr := m0 _ (by omega)
  have n7 : szE ex + da.length ≤ maxStr := m0 _ (by omega)
  have n8 : szE ex + 1 + (0 + 1) ≤ maxStr := m0 _ (by omega)
  simp only [go_sem, ↓reduceIte, reduceCtorEq, upd_ne, back_new (no_at), Nat.reduceAdd, Nat.reduceEqDiff, Nat.reduceMul, Nat.reduceSub, Nat.reduceLeDiff, Nat.reduceLT, Int.reduceToNat, Int.reduceLE, Int.reduceLT, Int.reduceEq, UInt8.reduceOfNat, List.getElem?_map, Int.toNat_natCast, ↓e_sadd, b0, b1, b2, b3, w1, w2, hfr, hto, hl, hXl, n1, n2, n3, n4, n5, n6, n7, n8, List.length_append]
  have hnx := nxE_rg (p := 44) hkb hNr
  have hg0 := kinds_get0 (ex := ex) (p := 44) (t := [.int .i64 pt])
  have c3 := ev_p41 hS n (x := nxE ex 44) (by omega) (by omega)
  have adr : ∀ (T a : List UInt8) (i : Nat) (b : UInt8), a[i]? = some b → T ++ a.take i ++ [b] = T ++ a.take (i + 1) := fun T a i b h => by rw [List.take_add_one, h, List.append_assoc]; rfl
  have m20 : 4 + 2 ≤ maxStr := m0 _ (by omega)
  have m21 : 4 + 2 + 1 ≤ maxStr := m0 _ (by omega)
  have m22 : 4 + 2 + 1 + 1 ≤ maxStr := m0 _ (by omega)
  have m23 : 6 ≤ maxStr := m0 _ (by omega)
  have m24 : 7 ≤ maxStr := m0 _ (by omega)
  have m25 : 8 ≤ maxStr := m0 _ (by omega)
  have m26 : 6 + 1 ≤ maxStr := m0 _ (by omega)
  have m27 : 6 + 1 + 1 ≤ maxStr := m0 _ (by omega)
  have hBL : (exB ex 44 [] ++ beB 1 pt.toNat ++ [0] ++ beB 2 at'.toNat ++ beB 4 id.toNat ++ da).length = szE ex + 1 + 1 + 2 + 4 + da.length := by simp only [List.length_append, hXl, hl, List.length_cons, List.length_nil]
  have b6 := ev_p42 hS n (x := ((szE ex + 1 + 1 + 2 + 4 + da.length : Nat) : Int)) (by omega) (by omega)
  simp only [Int.toNat_natCast] at b5 b6
  simp only [go_sem, ↓reduceIte, reduceCtorEq, upd_ne, back_new (no_at), Nat.reduceAdd, Nat.reduceEqDiff, Nat.reduceMul, Nat.reduceSub, Nat.reduceLeDiff, Nat.reduceLT, Int.reduceToNat, Int.reduceLE, Int.reduceLT, Int.reduceEq, UInt8.reduceOfNat, List.getElem?_map, Int.toNat_natCast, ↓e_sadd, w4, b4, b5, b6, c3, hg0, hfr, hto, hl, hBL, m20, m21, m22, m23, m24, m25, m26, m27, List.length_append, Int.toNat_natCast]
  generalize hT : beB 4 (1610612736 + cl * 1048576 + fl) ++ beB 2 (szE ex + 1 + 1 + 2 + 4 + da.length) ++ beB 1 (nxE ex 44).toNat ++ beB 1 ho.toNat = T
  have hTl : T.length = 8 := by rw [← hT]; simp only [List.length_append, hl]
  refine while_rule (fun k q => ∃ i : Nat, q = ([.str (T ++ fr.take i), .int .i64 (i : Int)], upd noSlots 5 (.tag 1 (ex.length + 1 + 1) 1)) ∧ i + k = 16) 16 ⟨0, by simp, by omega⟩ ?_
  rintro k q ⟨i, rfl, hi⟩
  simp only [go_sem, ↓reduceIte, reduceCtorEq, upd_ne, back_new (no_at), Nat.reduceAdd, Nat.reduceEqDiff, Nat.reduceMul, Nat.reduceSub, Nat.reduceLeDiff, Nat.reduceLT, Int.reduceToNat, Int.reduceLE, Int.reduceLT, Int.reduceEq, UInt8.reduceOfNat, hfr, hto]
  refine nxt_ite (fun h => ?_) (fun h => ?_)
  · have hlt : i < fr.length := by omega
    obtain ⟨b, hb⟩ : ∃ b, fr[i]? = some b := ⟨fr[i], by simp [hlt]⟩
    have e1 : IntKind.i64.wrap ((i : Int) + 1) = ((i + 1 : Nat) : Int) := by rw [wrap_id (by omega) (by omega)]; omega
    have i2 : i < 16 := by omega
    have m1 : 8 + min i 16 + 1 ≤ maxStr := m0 _ (by omega)
    have m2 : 8 + min i 16 + (0 + 1) ≤ maxStr := m0 _ (by omega)
    simp only [go_sem, ↓reduceIte, reduceCtorEq, upd_ne, back_new (no_at), Nat.reduceAdd, Nat.reduceEqDiff, Nat.reduceMul, Nat.reduceSub, Nat.reduceLeDiff, Nat.reduceLT, Int.reduceToNat, Int.reduceLE, Int.reduceLT, Int.reduceEq, UInt8.reduceOfNat, List.getElem?_map, Int.toNat_natCast, ↓e_sadd, hfr, hto, hb, i2, e1, byteLV, u8_lt, UInt8.ofNat_toNat, hTl, m1, m2, List.length_append, List.length_take, adr T fr i b hb]
    exact ⟨k - 1, by omega, i + 1, rfl, by omega⟩
  obtain rfl : i = 16 := by omega
  rw [List.take_of_length_le (by omega)]
  simp only [go_sem, ↓reduceIte, reduceCtorEq, upd_ne, back_new (no_at), Nat.reduceAdd, Nat.reduceEqDiff, Nat.reduceMul, Nat.reduceSub, Nat.reduceLeDiff, Nat.reduceLT, Int.reduceToNat, Int.reduceLE, Int.reduceLT, Int.reduceEq, UInt8.reduceOfNat, hfr, hto, Nxt, exIf]
  refine while_rule (fun k q => ∃ i : Nat, q = ([.str (T ++ fr ++ to.take i), .int .i64 (i : Int)], upd noSlots 5 (.tag 1 (ex.length + 1 + 1) 1)) ∧ i + k = 16) 16 ⟨0, by simp, by omega⟩ ?_
  rintro k q ⟨i, rfl, hi⟩
  simp only [go_sem, ↓reduceIte, reduceCtorEq, upd_ne, back_new (no_at), Nat.reduceAdd, Nat.reduceEqDiff, Nat.reduceMul, Nat.reduceSub, Nat.reduceLeDiff, Nat.reduceLT, Int.reduceToNat, Int.reduceLE, Int.reduceLT, Int.reduceEq, UInt8.reduceOfNat, hfr, hto]
  refine nxt_ite (fun h => ?_) (fun h => ?_)
  · have hlt : i < to.length := by omega
    obtain ⟨b, hb⟩ : ∃ b, to[i]? = some b := ⟨to[i], by simp [hlt]⟩
    have e1 : IntKind.i64.wrap ((i : Int) + 1) = ((i + 1 : Nat) : Int) := by rw [wrap_id (by omega) (by omega)]; omega
    have i2 : i < 16 := by omega
    have m1 : 8 + 16 + min i 16 + 1 ≤ maxStr := m0 _ (by omega)
    have m2 : 8 + 16 + min i 16 + (0 + 1) ≤ maxStr := m0 _ (by omega)
    have m3 : 24 + min i 16 + 1 ≤ maxStr := m0 _ (by omega)
    simp only [go_sem, ↓reduceIte, reduceCtorEq, upd_ne, back_new (no_at), Nat.reduceAdd, Nat.reduceEqDiff, Nat.reduceMul, Nat.reduceSub, Nat.reduceLeDiff, Nat.reduceLT, Int.reduceToNat, Int.reduceLE, Int.reduceLT, Int.reduceEq, UInt8.reduceOfNat, List.getElem?_map, Int.toNat_natCast, ↓e_sadd, hfr, hto, hb, i2, e1, byteLV, u8_lt, UInt8.ofNat_toNat, hTl, m1, m2, m3, List.length_append, List.length_take, adr (T ++ fr) to i b hb]
    exact ⟨k - 1, by omega, i + 1, rfl, by omega⟩
  obtain rfl : i = 16 := by omega
  rw [List.take_of_length_le (by omega)]
  have m30 : 8 + 16 + 16 + (szE ex + 1 + 1 + 2 + 4 + da.length) ≤ maxStr := m0 _ (by omega)
  have m31 : 40 + (szE ex + 1 + 1 + 2 + 4 + da.length) ≤ maxStr := m0 _ (by omega)
  simp only [go_sem, ↓reduceIte, reduceCtorEq, upd_ne, back_new (no_at), Nat.reduceAdd, Nat.reduceEqDiff, Nat.reduceMul, Nat.reduceSub, Nat.reduceLeDiff, Nat.reduceLT, Int.reduceToNat, Int.reduceLE, Int.reduceLT, Int.reduceEq, UInt8.reduceOfNat, ↓e_sadd, hfr, hto, Nxt, exIf, hTl, hBL, m30, m31, List.length_append]
  rw [← hT, show exB ex 44 (pcB id at' false pt da) = exB ex 44 [] ++ beB 1 pt.toNat ++ [0] ++ beB 2 at'.toNat ++ beB 4 id.toNat ++ da by rw [exB_app ex 44]; unfold pcB; rw [if_neg Bool.false_ne_true, Nat.add_zero]; simp only [List.append_assoc, List.cons_append, List.nil_append], hBL]
  simp only [List.append_assoc]
theorem ev_rbytes6_n {cl fl ho : Int} {fr to : List UInt8} {ex : List (Int × List UInt8)} {id at' : Int} {mo : Bool} {pt : Int} {da : List UInt8} (hf : FitIp6 cl fl ho fr to ex id at' pt da) (sm : SmE ex) (hdl : da.length ≤ 1000000) (c : why6 cl fl ho ex false id at' mo pt da = 0) :
    S.ev (n + 3) id_interpreterref04_Bytes [ip6LV cl fl ho fr to (extsLV ex) false id at' mo pt da] none = some (.tup [.str (by6 cl fl ho fr to ex false id at' mo pt da), .int .i64 0], none) := by
  rw [Sys.step hS.h_interpreterref04_Bytes, F_interpreterref04_Bytes_eq]
  unfold F_interpreterref04_Bytes
  have hfr := hf.hfr
  have hto := hf.hto
  have hw := ev_Why6 hS n (cl := cl) (fl := fl) (ho := ho) (fr := fr) (to := to) (ex := ex) (fg := false) (id := id) (at' := at') (mo := mo) (pt := pt) (da := da) hfr hto sm hdl
  rw [c] at hw
  have ok := why6_zero.1 c
  obtain ⟨⟨⟨a1, a2⟩, ⟨a3, a4⟩, ⟨a5, a6⟩, ⟨a7, a8⟩, ⟨a9, a10⟩, a11⟩, ok2, ok3, ok4, ok5, ok6⟩ := ok
  have hkb := ok2.1
  have hfb := fB_le ex true ok3.1
  have hid := hf.hid
  (try simp only [guard_merge, or_merge, and_merge, or_pick, and_pick, guard_or, guard_and]); simp only [to_ob]
  unfold by6 bd6
  simp only [Bool.false_eq_true, if_true, if_false]
  unfold bh6 at ok6
  simp only [Bool.false_eq_true, if_true, if_false] at ok6
  have b1 := ev_p41 hS n (x := pt) (by omega) (by omega)
  have b0 : S.ev (n + 2) id_interpreterref04_put [.int .i64 0, .int .i64 1] none = some (.str [0], none) := ev_p41 hS n (x := 0) (by omega) (by omega)
  have b2 := ev_p42 hS n (x := at') (by omega) (by omega)
  have b3 := ev_p44 hS n (x := id) (by omega) (by omega)
  have b4 := ev_p41 hS n (x := ho) (by omega) (by omega)
  obtain ⟨cl, rfl⟩ := Int.eq_ofNat_of_zero_le a1
  obtain ⟨fl, rfl⟩ := Int.eq_ofNat_of_zero_le a3
  have b5 := ev_p44 hS n (x := ((1610612736 + cl * 1048576 + fl : Nat) : Int)) (by omega) (by omega)
  have w1 : IntKind.i64.wrap id = id := wrap_id (by omega) (by omega)
  have w2 : IntKind.i64.wrap (at' + 1) = at' + 1 := wrap_id (by omega) (by omega)
  have w4 : IntKind.i64.wrap (IntKind.i64.wrap (1610612736 + IntKind.i64.wrap ((cl : Int) * 1048576)) + (fl : Int)) = ((1610612736 + cl * 1048576 + fl : Nat) : Int) := by
    rw [wrap_id (n := (cl : Int) * 1048576) (by omega) (by omega), wrap_id (n := 1610612736 + (cl : Int) * 1048576) (by omega) (by omega), wrap_id (by omega) (by omega)]; omega
  have hl := beB_len
  have m0 : ∀ k : Nat, k ≤ 1000000 → k ≤ maxStr := fun k h => by unfold maxStr; omega
  simp only [go_sem, ↓reduceIte, reduceCtorEq, upd_ne, back_new (no_at), Nat.reduceAdd, Nat.reduceEqDiff, Nat.reduceMul, Nat.reduceSub, Nat.reduceLeDiff, Nat.reduceLT, Int.reduceToNat, Int.reduceLE, Int.reduceLT, Int.reduceEq, UInt8.reduceOfNat, hw, c, hfr, hto]
  refine while_rule (fun k q => ∃ i : Nat, q = ([.lst (some (5, 1)) (kindsL (ex.take i)), .int .i64 (i : Int)], upd noSlots 5 (.tag 1 i 1)) ∧ i + k = ex.length) ex.length ⟨0, rfl, by omega⟩ ?_
  rintro k q ⟨i, rfl, hi⟩
  simp only [go_sem, ↓reduceIte, reduceCtorEq, upd_ne, back_new (no_at), Nat.reduceAdd, Nat.reduceEqDiff, Nat.reduceMul, Nat.reduceSub, Nat.reduceLeDiff, Nat.reduceLT, Int.reduceToNat, Int.reduceLE, Int.reduceLT, Int.reduceEq, UInt8.reduceOfNat, hfr, hto, List.length_map]
  refine nxt_ite (fun h => ?_) (fun h => ?_)
  · have hlt : i < ex.length := by omega
    obtain ⟨e, he⟩ : ∃ e, ex[i]? = some e := ⟨ex[i], by simp [hlt]⟩
    have htk : ex.take (i + 1) = ex.take i ++ [e] := by rw [List.take_add_one, he]; rfl
    have e1 : IntKind.i64.wrap ((i : Int) + 1) = ((i + 1 : Nat) : Int) := by rw [wrap_id (by omega) (by omega)]; omega
    have ha := wAppend_tag (e := 1) (by' := 8) (d := 33) (t := 5) (g := 1) (n := i) (sz := 1) (sl := upd noSlots 5 (.tag 1 i 1)) (l := kindsL (ex.take i)) (new := [.int .i64 e.1]) upd_same (by simp; omega) rfl (kinds_flat _) (by simp [flatLen]) (by simp) (by simp; omega)
    rw [upd_upd, show kindsL (ex.take i) ++ [.int .i64 e.1] = kindsL (ex.take (i + 1)) by rw [htk]; simp] at ha
    simp only [go_sem, ↓reduceIte, reduceCtorEq, upd_ne, back_new (no_at), Nat.reduceAdd, Nat.reduceEqDiff, Nat.reduceMul, Nat.reduceSub, Nat.reduceLeDiff, Nat.reduceLT, Int.reduceToNat, Int.reduceLE, Int.reduceLT, Int.reduceEq, UInt8.reduceOfNat, List.getElem?_map, Int.toNat_natCast, he, e1, ha, hfr, hto]
    exact ⟨k - 1, by omega, i + 1, rfl, by omega⟩
  obtain rfl : i = ex.length := by omega
  rw [List.take_of_length_le (by omega)]
  simp only [go_sem, ↓reduceIte, reduceCtorEq, upd_ne, back_new (no_at), Nat.reduceAdd, Nat.reduceEqDiff, Nat.reduceMul, Nat.reduceSub, Nat.reduceLeDiff, Nat.reduceLT, Int.reduceToNat, Int.reduceLE, Int.reduceLT, Int.reduceEq, UInt8.reduceOfNat, hfr, hto, Nxt, exIf]
  have ha1 := wAppend_tag (e := 1) (by' := 8) (d := 43) (t := 5) (g := 1) (n := ex.length) (sz := 1) (sl := upd noSlots 5 (.tag 1 ex.length 1)) (l := kindsL ex) (new := [.int .i64 pt]) upd_same (by simp) rfl (kinds_flat _) (by simp [flatLen]) (by simp) (by simp; omega)
  rw [upd_upd] at ha1
  simp only [List.length_cons, List.length_nil, Nat.zero_add] at ha1
  simp only [go_sem, ↓reduceIte, reduceCtorEq, upd_ne, back_new (no_at), Nat.reduceAdd, Nat.reduceEqDiff, Nat.reduceMul, Nat.reduceSub, Nat.reduceLeDiff, Nat.reduceLT, Int.reduceToNat, Int.reduceLE, Int.reduceLT, Int.reduceEq, UInt8.reduceOfNat, hfr, hto, ha1]
  have hNr : 0 ≤ (pt : Int) ∧ (pt : Int) ≤ 255 := by omega
  have hXl := exB_len ex pt []
  simp only [List.length_nil, Nat.add_zero] at hXl
  refine while_rule (fun k q => ∃ (i : Nat) (u : List UInt8), q = ([.str u, .int .i64 (i : Int)], upd noSlots 5 (.tag 1 (ex.length + 1) 1)) ∧ i + k = ex.length ∧ u ++ exB (ex.drop i) pt [] = exB ex pt []) ex.length ⟨0, [], rfl, by omega, by simp⟩ ?_
  rintro k q ⟨i, u, rfl, hi, hu⟩
  have hul : u.length ≤ szE ex := by have := congrArg List.length hu; rw [List.length_append, hXl] at this; omega
  simp only [go_sem, ↓reduceIte, reduceCtorEq, upd_ne, back_new (no_at), Nat.reduceAdd, Nat.reduceEqDiff, Nat.reduceMul, Nat.reduceSub, Nat.reduceLeDiff, Nat.reduceLT, Int.reduceToNat, Int.reduceLE, Int.reduceLT, Int.reduceEq, UInt8.reduceOfNat, hfr, hto, List.length_map]
  refine nxt_ite (fun h => ?_) (fun h => ?_)
  · have hlt : i < ex.length := by omega
    obtain ⟨e, he⟩ : ∃ e, ex[i]? = some e := ⟨ex[i], by simp [hlt]⟩
    have hd := drop_ex he
    have hem := List.mem_of_getElem? he
    have heb := hfb e hem
    have hnr := nxE_rg (p := pt) (kB_drop (i := i + 1) hkb) hNr
    have e1 : IntKind.i64.wrap ((i : Int) + 1) = ((i + 1 : Nat) : Int) := by rw [wrap_id (by omega) (by omega)]; omega
    have hg := kinds_get (p := pt) (t := []) hlt
    have j3 : IntKind.i64.wrap (IntKind.i64.wrap (Int.tdiv (IntKind.i64.wrap ((e.2.length : Int) + 2)) 8) - 1) = ((e.2.length / 8 : Nat) : Int) := by
      rw [show IntKind.i64.wrap ((e.2.length : Int) + 2) = ((e.2.length + 2 : Nat) : Int) by rw [wrap_id (by omega) (by omega)]; omega, show Int.tdiv ((e.2.length + 2 : Nat) : Int) 8 = (((e.2.length + 2) / 8 : Nat) : Int) from rfl, wrap_id (n := (((e.2.length + 2) / 8 : Nat) : Int)) (by omega) (by omega), wrap_id (by omega) (by omega)]; omega
    have c1 := ev_p41 hS n (x := nxE (ex.drop (i + 1)) pt) (by omega) (by omega)
    have c2 := ev_p41 hS n (x := ((e.2.length / 8 : Nat) : Int)) (by omega) (by omega)
    simp only [Int.toNat_natCast] at c2
    have m1 : u.length + 1 ≤ maxStr := m0 _ (by omega)
    have m2 : u.length + 2 ≤ maxStr := m0 _ (by omega)
    have m3 : u.length + (2 + e.2.length) ≤ maxStr := m0 _ (by omega)
    have m5 : u.length + (1 + 1) ≤ maxStr := m0 _ (by omega)
    have m6 : u.length + (1 + (1 + e.2.length)) ≤ maxStr := m0 _ (by omega)
    have m7 : u.length + 1 + 1 ≤ maxStr := m0 _ (by omega)
    have m8 : u.length + 1 + 1 + e.2.length ≤ maxStr := m0 _ (by omega)
    simp only [go_sem, ↓reduceIte, reduceCtorEq, upd_ne, back_new (no_at), Nat.reduceAdd, Nat.reduceEqDiff, Nat.reduceMul, Nat.reduceSub, Nat.reduceLeDiff, Nat.reduceLT, Int.reduceToNat, Int.reduceLE, Int.reduceLT, Int.reduceEq, UInt8.reduceOfNat, List.getElem?_map, Int.toNat_natCast, ↓e_sadd, he, e1, hg, j3, c1, c2, hl, hfr, hto, m1, m2, m3, m5, m6, m7, m8, List.length_append]
    refine ⟨k - 1, by omega, i + 1, _, rfl, by omega, ?_⟩
    rw [← hu, hd]
    simp only [exB, List.append_assoc]
  obtain rfl : i = ex.length := by omega
  rw [List.drop_eq_nil_of_le (by omega)] at hu
  simp only [exB, List.append_nil] at hu
  subst hu
  simp only [go_sem, ↓reduceIte, reduceCtorEq, upd_ne, back_new (no_at), Nat.reduceAdd, Nat.reduceEqDiff, Nat.reduceMul, Nat.reduceSub, Nat.reduceLeDiff, Nat.reduceLT, Int.reduceToNat, Int.reduceLE, Int.reduceLT, Int.reduceEq, UInt8.reduceOfNat, hfr, hto, Nxt, exIf]
  have n1 : szE ex + 1 ≤ maxStr := m0 _ (by omega)
  have n2 : szE ex + 1 + 1 ≤ maxStr := m0 _ (by omega)
  have n3 : szE ex + 1 + 1 + 2 ≤ maxStr := m0 _ (by omega)
  have n4 : szE ex + 1 + 1 + 2 + 4 ≤ maxStr := m0 _ (by omega)
  have n5 : szE ex + 1 + 1 + 2 + 4 + da.length ≤ maxStr := m0 _ (by omega)
  have n6 : szE ex + (0 + 1) ≤ maxStr := m0 _ (by omega)
  have n7 : szE ex + da.length ≤ maxStr := m0 _ (by omega)
  have n8 : szE ex + 1 + (0 + 1) ≤ maxStr := m0 _ (by omega)
  simp only [go_sem, ↓reduceIte, reduceCtorEq, upd_ne, back_new (no_at), Nat.reduceAdd, Nat.reduceEqDiff, Nat.reduceMul, Nat.reduceSub, Nat.reduceLeDiff, Nat.reduceLT, Int.reduceToNat, Int.reduceLE, Int.reduceLT, Int.reduceEq, UInt8.reduceOfNat, List.getElem?_map, Int.toNat_natCast, ↓e_sadd, b0, b1, b2, b3, w1, w2, hfr, hto, hl, hXl, n1, n2, n3, n4, n5, n6, n7, n8, List.length_append]
  have hnx := nxE_rg (p := pt) hkb hNr
  have hg0 := kinds_get0 (ex := ex) (p := pt) (t := [])
  have c3 := ev_p41 hS n (x := nxE ex pt) (by omega) (by omega)
  have adr : ∀ (T a : List UInt8) (i : Nat) (b : UInt8), a[i]? = some b → T ++ a.take i ++ [b] = T ++ a.take (i + 1) := fun T a i b h => by rw [List.take_add_one, h, List.append_assoc]; rfl
  have m20 : 4 + 2 ≤ maxStr := m0 _ (by omega)
  have m21 : 4 + 2 + 1 ≤ maxStr := m0 _ (by omega)
  have m22 : 4 + 2 + 1 + 1 ≤ maxStr := m0 _ (by omega)
  have m23 : 6 ≤ maxStr := m0 _ (by omega)
  have m24 : 7 ≤ maxStr := m0 _ (by omega)
  have m25 : 8 ≤ maxStr := m0 _ (by omega)
  have m26 : 6 + 1 ≤ maxStr := m0 _ (by omega)
  have m27 : 6 + 1 + 1 ≤ maxStr := m0 _ (by omega)
  have hBL : (exB ex pt [] ++ da).length = szE ex + da.length := by simp only [List.length_append, hXl]
  have b6 := ev_p42 hS n (x := ((szE ex + da.length : Nat) : Int)) (by omega) (by omega)
  simp only [Int.toNat_natCast] at b5 b6
  simp only [go_sem, ↓reduceIte, reduceCtorEq, upd_ne, back_new (no_at), Nat.reduceAdd, Nat.reduceEqDiff, Nat.reduceMul, Nat.reduceSub, Nat.reduceLeDiff, Nat.reduceLT, Int.reduceToNat, Int.reduceLE, Int.reduceLT, Int.reduceEq, UInt8.reduceOfNat, List.getElem?_map, Int.toNat_natCast, ↓e_sadd, w4, b4, b5, b6, c3, hg0, hfr, hto, hl, hBL, m20, m21, m22, m23, m24, m25, m26, m27, List.length_append, Int.toNat_natCast]
  generalize hT : beB 4 (1610612736 + cl * 1048576 + fl) ++ beB 2 (szE ex + da.length) ++ beB 1 (nxE ex pt).toNat ++ beB 1 ho.toNat = T
  have hTl : T.length = 8 := by rw [← hT]; simp only [List.length_append, hl]
  refine while_rule (fun k q => ∃ i : Nat, q = ([.str (T ++ fr.take i), .int .i64 (i : Int)], upd noSlots 5 (.tag 1 (ex.length + 1) 1)) ∧ i + k = 16) 16 ⟨0, by simp, by omega⟩ ?_
  rintro k q ⟨i, rfl, hi⟩
  simp only [go_sem, ↓reduceIte, reduceCtorEq, upd_ne, back_new (no_at), Nat.reduceAdd, Nat.reduceEqDiff, Nat.reduceMul, Nat.reduceSub, Nat.reduceLeDiff, Nat.reduceLT, Int.reduceToNat, Int.reduceLE, Int.reduceLT, Int.reduceEq, UInt8.reduceOfNat, hfr, hto]
  refine nxt_ite (fun h => ?_) (fun h => ?_)
  · have hlt : i < fr.length := by omega
    obtain ⟨b, hb⟩ : ∃ b, fr[i]? = some b := ⟨fr[i], by simp [hlt]⟩
    have e1 : IntKind.i64.wrap ((i : Int) + 1) = ((i + 1 : Nat) : Int) := by rw [wrap_id (by omega) (by omega)]; omega
    have i2 : i < 16 := by omega
    have m1 : 8 + min i 16 + 1 ≤ maxStr := m0 _ (by omega)
    have m2 : 8 + min i 16 + (0 + 1) ≤ maxStr := m0 _ (by omega)
    simp only [go_sem, ↓reduceIte, reduceCtorEq, upd_ne, back_new (no_at), Nat.reduceAdd, Nat.reduceEqDiff, Nat.reduceMul, Nat.reduceSub, Nat.reduceLeDiff, Nat.reduceLT, Int.reduceToNat, Int.reduceLE, Int.reduceLT, Int.reduceEq, UInt8.reduceOfNat, List.getElem?_map, Int.toNat_natCast, ↓e_sadd, hfr, hto, hb, i2, e1, byteLV, u8_lt, UInt8.ofNat_toNat, hTl, m1, m2, List.length_append, List.length_take, adr T fr i b hb]
    exact ⟨k - 1, by omega, i + 1, rfl, by omega⟩
  obtain rfl : i = 16 := by omega
  rw [List.take_of_length_le (by omega)]
  simp only [go_sem, ↓reduceIte, reduceCtorEq, upd_ne, back_new (no_at), Nat.reduceAdd, Nat.reduceEqDiff, Nat.reduceMul, Nat.reduceSub, Nat.reduceLeDiff, Nat.reduceLT, Int.reduceToNat, Int.reduceLE, Int.reduceLT, Int.reduceEq, UInt8.reduceOfNat, hfr, hto, Nxt, exIf]
  refine while_rule (fun k q => ∃ i : Nat, q = ([.str (T ++ fr ++ to.take i), .int .i64 (i : Int)], upd noSlots 5 (.tag 1 (ex.length + 1) 1)) ∧ i + k = 16) 16 ⟨0, by simp, by omega⟩ ?_
  rintro k q ⟨i, rfl, hi⟩
  simp only [go_sem, ↓reduceIte, reduceCtorEq, upd_ne, back_new (no_at), Nat.reduceAdd, Nat.reduceEqDiff, Nat.reduceMul, Nat.reduceSub, Nat.reduceLeDiff, Nat.reduceLT, Int.reduceToNat, Int.reduceLE, Int.reduceLT, Int.reduceEq, UInt8.reduceOfNat, hfr, hto]
  refine nxt_ite (fun h => ?_) (fun h => ?_)
  · have hlt : i < to.length := by omega
    obtain ⟨b, hb⟩ : ∃ b, to[i]? = some b := ⟨to[i], by simp [hlt]⟩
    have e1 : IntKind.i64.wrap ((i : Int) + 1) = ((i + 1 : Nat) : Int) := by rw [wrap_id (by omega) (by omega)]; omega
    have i2 : i < 16 := by omega
    have m1 : 8 + 16 + min i 16 + 1 ≤ maxStr := m0 _ (by omega)
    have m2 : 8 + 16 + min i 16 + (0 + 1) ≤ maxStr := m0 _ (by omega)
    have m3 : 24 + min i 16 + 1 ≤ maxStr := m0 _ (by omega)
    simp only [go_sem, ↓reduceIte, reduceCtorEq, upd_ne, back_new (no_at), Nat.reduceAdd, Nat.reduceEqDiff, Nat.reduceMul, Nat.reduceSub, Nat.reduceLeDiff, Nat.reduceLT, Int.reduceToNat, Int.reduceLE, Int.reduceLT, Int.reduceEq, UInt8.reduceOfNat, List.getElem?_map, Int.toNat_natCast, ↓e_sadd, hfr, hto, hb, i2, e1, byteLV, u8_lt, UInt8.ofNat_toNat, hTl, m1, m2, m3, List.length_append, List.length_take, adr (T ++ fr) to i b hb]
    exact ⟨k - 1, by omega, i + 1, rfl, by omega⟩
  obtain rfl : i = 16 := by omega
  rw [List.take_of_length_le (by omega)]
  have m30 : 8 + 16 + 16 + (szE ex + da.length) ≤ maxStr := m0 _ (by omega)
  have m31 : 40 + (szE ex + da.length) ≤ maxStr := m0 _ (by omega)
  simp only [go_sem, ↓reduceIte, reduceCtorEq, upd_ne, back_new (no_at), Nat.reduceAdd, Nat.reduceEqDiff, Nat.reduceMul, Nat.reduceSub, Nat.reduceLeDiff, Nat.reduceLT, Int.reduceToNat, Int.reduceLE, Int.reduceLT, Int.reduceEq, UInt8.reduceOfNat, ↓e_sadd, hfr, hto, Nxt, exIf, hTl, hBL, m30, m31, List.length_append]
  rw [← hT, show exB ex pt da = exB ex pt [] ++ da from exB_app ex pt da, hBL]
  simp only [List.append_assoc]
theorem ev_rbytes6 {cl fl ho : Int} {fr to : List UInt8} {ex : List (Int × List UInt8)} {fg : Bool} {id at' : Int} {mo : Bool} {pt : Int} {da : List UInt8} (hf : FitIp6 cl fl ho fr to ex id at' pt da) (sm : SmE ex) (hdl : da.length ≤ 1000000) :
    S.ev (n + 3) id_interpreterref04_Bytes [ip6LV cl fl ho fr to (extsLV ex) fg id at' mo pt da] none = some (.tup [.str (by6R cl fl ho fr to ex fg id at' mo pt da), .int .i64 (why6 cl fl ho ex fg id at' mo pt da)], none) := by
  unfold by6R
  by_cases c : why6 cl fl ho ex fg id at' mo pt da = 0
  · rw [if_pos c, c]
    cases fg
    · exact ev_rbytes6_n hS n hf sm hdl c
    · cases mo
      · exact ev_rbytes6_tf hS n hf sm hdl c
      · exact ev_rbytes6_tt hS n hf sm hdl c
  · rw [if_neg c, Sys.step hS.h_interpreterref04_Bytes, F_interpreterref04_Bytes_eq]
    unfold F_interpreterref04_Bytes
    have hfr := hf.hfr
    have hto := hf.hto
    have hw := ev_Why6 hS n (cl := cl) (fl := fl) (ho := ho) (fr := fr) (to := to) (ex := ex) (fg := fg) (id := id) (at' := at') (mo := mo) (pt := pt) (da := da) hfr hto sm hdl
    (try simp only [guard_merge, or_merge, and_merge, or_pick, and_pick, guard_or, guard_and]); simp only [to_ob]
    simp only [go_sem, ↓reduceIte, reduceCtorEq, upd_ne, back_new (no_at), Nat.reduceAdd, Nat.reduceEqDiff, Nat.reduceMul, Nat.reduceSub, Nat.reduceLeDiff, Nat.reduceLT, Int.reduceToNat, Int.reduceLE, Int.reduceLT, Int.reduceEq, UInt8.reduceOfNat, hw, c, hfr, hto]
end
end Go.Ev

namespace Go.Ev
set_option linter.unusedSimpArgs false
set_option linter.unusedVariables false
set_option maxRecDepth 10000
set_option maxHeartbeats 8000000
section
variable {S : Sys} (hS : Has S) (n : Nat)
include hS
theorem ev_own4_ok {s : List UInt8} {tos i0 ttl pt : Int} {df mo : Bool} {fr to op da a : List UInt8} {k c r id id' : Int} {md : List UInt8} {mtu : Nat} {q : List UInt8}
    (hp : S.ev (n + 4) id_ip4_Parse [.str s] none = some (.tup [ip4LV tos i0 ttl pt 0 df mo fr to op da, .nili], none)) (hfr : fr.length = 4) (hto : to.length = 4) (ha : a.length = 4)
    (hk : isF4 k = true) (hc : 0 ≤ c ∧ c ≤ 255) (hr : 0 ≤ r ∧ r < 4294967296) (hm : S.ev (n + 4) id_class_Martian4 [.bytes fr] none = some (.bool false, none)) (hpt : ¬ pt = 1)
    (hmtu : 68 ≤ mtu ∧ mtu ≤ 65535) (hl : 20 + op.length + da.length ≤ s.length) (hs : s.length ≤ 100000) (hop : op.length ≤ 40)
    (hbo : begO (20 + op.length + da.length) (20 + op.length) ((min 576 mtu : Nat) - 28 : Int) = true) (hq : (s.take (20 + op.length + da.length)).take (begN (20 + op.length + da.length) (20 + op.length) ((min 576 mtu : Nat) - 28 : Int)) = q)
    (hid : bitsOf .and .i64 id 65535 = id') (hi : I64 id')
    (hw : why4 0 id' 64 1 0 false [] (im4B k c r q) = 0) :
    S.ev (n + 5) id_fault_Own4 [msgLV k c r md, .str s, .bytes a, .int .i64 id, .int .i64 (mtu : Int)] none = some (.tup [.str (by4 0 id' 64 1 0 false false a fr [] (im4B k c r q)), .bool true], none) := by
  rw [Sys.step hS.h_fault_Own4, F_fault_Own4_eq]
  unfold F_fault_Own4
  have hk' : 0 ≤ k ∧ k ≤ 255 := by unfold isF4 at hk; have := of_decide_eq_true hk; omega
  have hf := ev_failure4 hS (n + 3) k c r md
  rw [hk] at hf
  have hql : q.length ≤ 100000 := by rw [← hq, List.length_take, List.length_take]; omega
  have hB := ev_icmp4B hS (n + 1) (k := k) (c := c) (r := r) (d := q) hk' hc hr hql
  have hbl : (im4B k c r q).length = 8 + q.length := by unfold im4B; simp only [List.length_append, beB_len]; omega
  have hby := ev_bytes4 hS (n + 1) (tos := 0) (id := id') (ttl := 64) (pt := 1) (at' := 0) (df := false) (mo := false) (fr := a) (to := fr) (op := []) (da := im4B k c r q) ⟨by unfold I64; omega, hi, by unfold I64; omega, by unfold I64; omega, by unfold I64; omega, ha, hfr, by simp, by omega⟩
  unfold by4R at hby
  rw [if_pos hw, hw] at hby
  have hg := ev_beginning hS (n + 3) (s.take (20 + op.length + da.length)) (20 + op.length) ((min 576 mtu : Nat) - 28 : Int) (by rw [List.length_take]; omega) (by omega)
  rw [show (s.take (20 + op.length + da.length)).length = 20 + op.length + da.length by rw [List.length_take]; omega, hbo, hq] at hg
  generalize im4B k c r q = IB at *
  have b1 : ¬ (mtu : Int) < 68 := by omega
  have b2 : ¬ 65535 < (mtu : Int) := by omega
  have e1 : IntKind.i64.wrap (20 + (op.length : Int)) = ((20 + op.length : Nat) : Int) := by rw [wrap_id (by omega) (by omega)]; omega
  have e2 : IntKind.i64.wrap (((20 + op.length : Nat) : Int) + (da.length : Int)) = ((20 + op.length + da.length : Nat) : Int) := by rw [wrap_id (by omega) (by omega)]; omega
  have hmm : (if (mtu : Int) < 576 then (mtu : Int) else 576) = ((min 576 mtu : Nat) : Int) := by split <;> omega
  have e3 : IntKind.i64.wrap (((min 576 mtu : Nat) : Int) - 20) = ((min 576 mtu : Nat) : Int) - 20 := wrap_id (by omega) (by omega)
  have e4 : IntKind.i64.wrap (((min 576 mtu : Nat) : Int) - 20 - 8) = ((min 576 mtu : Nat) : Int) - 28 := by rw [wrap_id (by omega) (by omega)]; omega
  (try simp only [guard_merge, or_merge, and_merge, or_pick, and_pick, guard_or, guard_and]); simp only [to_ob]
  simp only [go_sem, ↓reduceIte, reduceCtorEq, upd_ne, back_new (no_at), Nat.reduceAdd, Nat.reduceEqDiff, Nat.reduceMul, Nat.reduceSub, Nat.reduceLeDiff, Nat.reduceLT, Int.reduceToNat, Int.reduceLE, Int.reduceLT, Int.reduceEq, UInt8.reduceOfNat, List.getElem?_map, Int.toNat_natCast, pMinmax, pMinmax2, Option.bind_some, Bool.false_eq_true, hp, hf, hm, hpt, hfr, hto, ha, b1, b2, e1, e2, e3, e4, hmm, hl, hg, hB, hid, hby, fE, Nat.sub_zero, List.drop_zero]
end
end Go.Ev

namespace Go.Ev
set_option linter.unusedSimpArgs false
set_option linter.unusedVariables false
set_option maxRecDepth 4000
set_option maxHeartbeats 2000000
section
variable {S : Sys} (hS : Has S) (n : Nat)
include hS
theorem ev_Words (s : List UInt8) (hs : s.length ≤ 1000000) : S.ev (n + 1) id_interpreterref02_Words [.str s] none = some (.lst none (intsLV (wordsN s)), none) := by
  rw [Sys.step hS.h_interpreterref02_Words, F_interpreterref02_Words_eq]
  unfold F_interpreterref02_Words
  (try simp only [guard_merge, or_merge, and_merge, or_pick, and_pick, guard_or, guard_and]); simp only [to_ob]
  have e1 : Int.tmod (s.length : Int) 2 = ((s.length % 2 : Nat) : Int) := by rw [Int.tmod_eq_emod_of_nonneg (by omega)]; omega
  by_cases hpar : s.length % 2 = 1
  · have hq : ((s.length % 2 : Nat) : Int) = 1 := by omega
    have hms : s.length + (0 + 1) ≤ maxStr := by unfold maxStr; omega
    simp only [go_sem, ↓reduceIte, reduceCtorEq, upd_ne, back_new (no_at), Nat.reduceAdd, Nat.reduceEqDiff, Nat.reduceMul, Nat.reduceSub, Nat.reduceLeDiff, Nat.reduceLT, Int.reduceToNat, Int.reduceLE, Int.reduceLT, Int.reduceEq, UInt8.reduceOfNat, ↓e_sadd, e1, hq, hms]
    have hw := wordsN_odd s hpar
    have hlen : (s ++ [0]).length % 2 = 0 := by simp; omega
    have hle : (s ++ [0]).length ≤ 1000001 := by simp; omega
    generalize s ++ [0] = t at hw hlen hle
    rw [← hw]
    refine while_rule (fun k q => ∃ i : Nat, q = ([.lst (some (3, 1)) (intsLV (wordsN (t.take (2 * i)))), .int .i64 ((2 * i : Nat) : Int)], upd noSlots 3 (.tag 1 i 1)) ∧ 2 * (i + k) = t.length) (t.length / 2) ⟨0, by simp [wordsN], by omega⟩ ?_
    rintro k q ⟨i, rfl, hi⟩
    simp only [go_sem, ↓reduceIte, reduceCtorEq, upd_ne, back_new (no_at), Nat.reduceAdd, Nat.reduceEqDiff, Nat.reduceMul, Nat.reduceSub, Nat.reduceLeDiff, Nat.reduceLT, Int.reduceToNat, Int.reduceLE, Int.reduceLT, Int.reduceEq, UInt8.reduceOfNat]
    refine nxt_ite (fun h => ?_) (fun h => ?_)
    · have hlt : 2 * i < t.length := by omega
      obtain ⟨a, ha⟩ : ∃ a, t[2 * i]? = some a := ⟨t[2 * i], by simp [hlt]⟩
      have hlt2 : 2 * i + 1 < t.length := by omega
      obtain ⟨b, hb⟩ : ∃ b, t[2 * i + 1]? = some b := ⟨t[2 * i + 1], by simp [hlt2]⟩
      have hal := a.toNat_lt
      have hbl := b.toNat_lt
      have e2 : IntKind.i64.wrap (a.toNat : Int) = (a.toNat : Int) := wrap_id (by omega) (by omega)
      have e3 : IntKind.i64.wrap (b.toNat : Int) = (b.toNat : Int) := wrap_id (by omega) (by omega)
      have e4 : IntKind.i64.wrap (256 * (a.toNat : Int)) = ((256 * a.toNat : Nat) : Int) := by rw [wrap_id (by omega) (by omega)]; omega
      have e5 : IntKind.i64.wrap (((2 * i : Nat) : Int) + 1) = ((2 * i + 1 : Nat) : Int) := by rw [wrap_id (by omega) (by omega)]; omega
      have e6 : IntKind.i64.wrap (((256 * a.toNat : Nat) : Int) + (b.toNat : Int)) = ((256 * a.toNat + b.toNat : Nat) : Int) := by rw [wrap_id (by omega) (by omega)]; omega
      have e7 : IntKind.i64.wrap (((2 * i : Nat) : Int) + 2) = ((2 * (i + 1) : Nat) : Int) := by rw [wrap_id (by omega) (by omega)]; omega
      have hwl : (wordsN (t.take (2 * i))).length = i := by rw [wordsN_len, List.length_take]; omega
      have hap := wAppend_tag (e := 1) (by' := 8) (d := 32) (t := 3) (g := 1) (n := i) (sz := 1) (sl := upd noSlots 3 (.tag 1 i 1)) (l := intsLV (wordsN (t.take (2 * i)))) (new := [.int .i64 ((256 * a.toNat + b.toNat : Nat) : Int)]) upd_same (by simp [hwl]) rfl (ints_flat _) (by simp [flatLen]) (by simp) (by simp [hwl]; omega)
      simp only [go_sem, ↓reduceIte, reduceCtorEq, upd_ne, back_new (no_at), Nat.reduceAdd, Nat.reduceEqDiff, Nat.reduceMul, Nat.reduceSub, Nat.reduceLeDiff, Nat.reduceLT, Int.reduceToNat, Int.reduceLE, Int.reduceLT, Int.reduceEq, UInt8.reduceOfNat, List.getElem?_map, Int.toNat_natCast, ha, hb, e2, e3, e4, e5, e6, e7, hap]
      refine ⟨k - 1, by omega, i + 1, ?_, by omega⟩
      rw [wordsN_take t i a b ha hb]
      simp
    · rw [List.take_of_length_le (by omega)]
      simp only [go_sem, ↓reduceIte, reduceCtorEq, upd_ne, back_new (no_at), Nat.reduceAdd, Nat.reduceEqDiff, Nat.reduceMul, Nat.reduceSub, Nat.reduceLeDiff, Nat.reduceLT, Int.reduceToNat, Int.reduceLE, Int.reduceLT, Int.reduceEq, UInt8.reduceOfNat, Nxt, exIf]
  · have hq : ¬ ((s.length % 2 : Nat) : Int) = 1 := by omega
    simp only [go_sem, ↓reduceIte, reduceCtorEq, upd_ne, back_new (no_at), Nat.reduceAdd, Nat.reduceEqDiff, Nat.reduceMul, Nat.reduceSub, Nat.reduceLeDiff, Nat.reduceLT, Int.reduceToNat, Int.reduceLE, Int.reduceLT, Int.reduceEq, UInt8.reduceOfNat, e1, hq]
    have hlen : s.length % 2 = 0 := by omega
    have hle : s.length ≤ 1000001 := by omega
    generalize s = t at hlen hle
    refine while_rule (fun k q => ∃ i : Nat, q = ([.lst (some (3, 1)) (intsLV (wordsN (t.take (2 * i)))), .int .i64 ((2 * i : Nat) : Int)], upd noSlots 3 (.tag 1 i 1)) ∧ 2 * (i + k) = t.length) (t.length / 2) ⟨0, by simp [wordsN], by omega⟩ ?_
    rintro k q ⟨i, rfl, hi⟩
    simp only [go_sem, ↓reduceIte, reduceCtorEq, upd_ne, back_new (no_at), Nat.reduceAdd, Nat.reduceEqDiff, Nat.reduceMul, Nat.reduceSub, Nat.reduceLeDiff, Nat.reduceLT, Int.reduceToNat, Int.reduceLE, Int.reduceLT, Int.reduceEq, UInt8.reduceOfNat]
    refine nxt_ite (fun h => ?_) (fun h => ?_)
    · have hlt : 2 * i < t.length := by omega
      obtain ⟨a, ha⟩ : ∃ a, t[2 * i]? = some a := ⟨t[2 * i], by simp [hlt]⟩
      have hlt2 : 2 * i + 1 < t.length := by omega
      obtain ⟨b, hb⟩ : ∃ b, t[2 * i + 1]? = some b := ⟨t[2 * i + 1], by simp [hlt2]⟩
      have hal := a.toNat_lt
      have hbl := b.toNat_lt
      have e2 : IntKind.i64.wrap (a.toNat : Int) = (a.toNat : Int) := wrap_id (by omega) (by omega)
      have e3 : IntKind.i64.wrap (b.toNat : Int) = (b.toNat : Int) := wrap_id (by omega) (by omega)
      have e4 : IntKind.i64.wrap (256 * (a.toNat : Int)) = ((256 * a.toNat : Nat) : Int) := by rw [wrap_id (by omega) (by omega)]; omega
      have e5 : IntKind.i64.wrap (((2 * i : Nat) : Int) + 1) = ((2 * i + 1 : Nat) : Int) := by rw [wrap_id (by omega) (by omega)]; omega
      have e6 : IntKind.i64.wrap (((256 * a.toNat : Nat) : Int) + (b.toNat : Int)) = ((256 * a.toNat + b.toNat : Nat) : Int) := by rw [wrap_id (by omega) (by omega)]; omega
      have e7 : IntKind.i64.wrap (((2 * i : Nat) : Int) + 2) = ((2 * (i + 1) : Nat) : Int) := by rw [wrap_id (by omega) (by omega)]; omega
      have hwl : (wordsN (t.take (2 * i))).length = i := by rw [wordsN_len, List.length_take]; omega
      have hap := wAppend_tag (e := 1) (by' := 8) (d := 32) (t := 3) (g := 1) (n := i) (sz := 1) (sl := upd noSlots 3 (.tag 1 i 1)) (l := intsLV (wordsN (t.take (2 * i)))) (new := [.int .i64 ((256 * a.toNat + b.toNat : Nat) : Int)]) upd_same (by simp [hwl]) rfl (ints_flat _) (by simp [flatLen]) (by simp) (by simp [hwl]; omega)
      simp only [go_sem, ↓reduceIte, reduceCtorEq, upd_ne, back_new (no_at), Nat.reduceAdd, Nat.reduceEqDiff, Nat.reduceMul, Nat.reduceSub, Nat.reduceLeDiff, Nat.reduceLT, Int.reduceToNat, Int.reduceLE, Int.reduceLT, Int.reduceEq, UInt8.reduceOfNat, List.getElem?_map, Int.toNat_natCast, ha, hb, e2, e3, e4, e5, e6, e7, hap]
      refine ⟨k - 1, by omega, i + 1, ?_, by omega⟩
      rw [wordsN_take t i a b ha hb]
      simp
    · rw [List.take_of_length_le (by omega)]
      simp only [go_sem, ↓reduceIte, reduceCtorEq, upd_ne, back_new (no_at), Nat.reduceAdd, Nat.reduceEqDiff, Nat.reduceMul, Nat.reduceSub, Nat.reduceLeDiff, Nat.reduceLT, Int.reduceToNat, Int.reduceLE, Int.reduceLT, Int.reduceEq, UInt8.reduceOfNat, Nxt, exIf]
end
end Go.Ev

namespace Go.Ev
set_option linter.unusedSimpArgs false
set_option linter.unusedVariables false
set_option maxRecDepth 4000
set_option maxHeartbeats 2000000
section
variable {S : Sys} (hS : Has S) (n : Nat)
include hS
theorem ev_Total (l : List Nat) (h1 : ∀ w ∈ l, w ≤ 65535) (h2 : l.length ≤ 1000000) : S.ev (n + 1) id_interpreterref02_Total [.lst none (intsLV l)] none = some (.int .i64 (ones l.sum : Nat), none) := by
  rw [Sys.step hS.h_interpreterref02_Total, F_interpreterref02_Total_eq]
  unfold F_interpreterref02_Total
  (try simp only [guard_merge, or_merge, and_merge, or_pick, and_pick, guard_or, guard_and]); simp only [to_ob]
  simp only [go_sem, ↓reduceIte, reduceCtorEq, upd_ne, back_new (no_at), Nat.reduceAdd, Nat.reduceEqDiff, Nat.reduceMul, Nat.reduceSub, Nat.reduceLeDiff, Nat.reduceLT, Int.reduceToNat, Int.reduceLE, Int.reduceLT, Int.reduceEq, UInt8.reduceOfNat]
  have hsum : ∀ i, (l.take i).sum ≤ 65535 * i := by
    intro i
    induction i with
    | zero => simp
    | succ i ih =>
      rw [List.take_add_one]
      cases hc : l[i]? with
      | none => simp; omega
      | some w =>
        have := h1 w (List.mem_of_getElem? hc)
        simp; omega
  have hs : l.sum ≤ 65535 * l.length := by have := hsum l.length; rwa [List.take_length] at this
  refine while_rule (fun k q => ∃ i : Nat, q = ([.int .i64 ((l.take i).sum : Nat), .int .i64 (i : Int)], noSlots) ∧ i + k = l.length) l.length ⟨0, by simp, by simp⟩ ?_
  rintro k q ⟨i, rfl, hi⟩
  simp only [go_sem, ↓reduceIte, reduceCtorEq, upd_ne, back_new (no_at), Nat.reduceAdd, Nat.reduceEqDiff, Nat.reduceMul, Nat.reduceSub, Nat.reduceLeDiff, Nat.reduceLT, Int.reduceToNat, Int.reduceLE, Int.reduceLT, Int.reduceEq, UInt8.reduceOfNat, List.length_map]
  refine nxt_ite (fun h => ?_) (fun h => ?_)
  · have hlt : i < l.length := by omega
    obtain ⟨w, hw⟩ : ∃ w, l[i]? = some w := ⟨l[i], by simp [hlt]⟩
    have := h1 w (List.mem_of_getElem? hw)
    have hb := hsum i
    have e1 : IntKind.i64.wrap (((l.take i).sum : Nat) + (w : Int)) = ((l.take (i + 1)).sum : Nat) := by
      rw [wrap_id (by omega) (by omega), List.take_add_one, hw]; simp
    have e2 : IntKind.i64.wrap ((i : Int) + 1) = ((i + 1 : Nat) : Int) := by rw [wrap_id (by omega) (by omega)]; omega
    simp only [go_sem, ↓reduceIte, reduceCtorEq, upd_ne, back_new (no_at), Nat.reduceAdd, Nat.reduceEqDiff, Nat.reduceMul, Nat.reduceSub, Nat.reduceLeDiff, Nat.reduceLT, Int.reduceToNat, Int.reduceLE, Int.reduceLT, Int.reduceEq, UInt8.reduceOfNat, List.getElem?_map, Int.toNat_natCast, hw, e1, e2]
    exact ⟨k - 1, by omega, i + 1, rfl, by omega⟩
  · rw [List.take_of_length_le (by omega)]
    simp only [go_sem, ↓reduceIte, reduceCtorEq, upd_ne, back_new (no_at), Nat.reduceAdd, Nat.reduceEqDiff, Nat.reduceMul, Nat.reduceSub, Nat.reduceLeDiff, Nat.reduceLT, Int.reduceToNat, Int.reduceLE, Int.reduceLT, Int.reduceEq, UInt8.reduceOfNat, Nxt, exIf]
    refine while_rule (fun k q => ∃ x : Nat, q = ([.int .i64 (x : Int)], noSlots) ∧ k = x ∧ ones x = ones l.sum ∧ x ≤ 9223372036854775807) l.sum ⟨_, rfl, rfl, rfl, by omega⟩ ?_
    rintro k q ⟨x, rfl, rfl, hx, hb⟩
    simp only [go_sem, ↓reduceIte, reduceCtorEq, upd_ne, back_new (no_at), Nat.reduceAdd, Nat.reduceEqDiff, Nat.reduceMul, Nat.reduceSub, Nat.reduceLeDiff, Nat.reduceLT, Int.reduceToNat, Int.reduceLE, Int.reduceLT, Int.reduceEq, UInt8.reduceOfNat]
    refine nxt_ite (fun h => ?_) (fun h => ?_)
    · have e1 : IntKind.i64.wrap (Int.tdiv (k : Int) 65536) = ((k / 65536 : Nat) : Int) := by
        rw [show Int.tdiv (k : Int) 65536 = ((k / 65536 : Nat) : Int) from rfl, wrap_id (by omega) (by omega)]
      have e2 : Int.tmod (k : Int) 65536 = ((k % 65536 : Nat) : Int) := rfl
      have e3 : IntKind.i64.wrap (((k / 65536 : Nat) : Int) + ((k % 65536 : Nat) : Int)) = ((k / 65536 + k % 65536 : Nat) : Int) := by
        rw [wrap_id (by omega) (by omega)]; omega
      have hk : 65535 < k := by omega
      simp only [go_sem, ↓reduceIte, reduceCtorEq, upd_ne, back_new (no_at), Nat.reduceAdd, Nat.reduceEqDiff, Nat.reduceMul, Nat.reduceSub, Nat.reduceLeDiff, Nat.reduceLT, Int.reduceToNat, Int.reduceLE, Int.reduceLT, Int.reduceEq, UInt8.reduceOfNat, e1, e2, e3]
      exact ⟨_, by omega, _, rfl, rfl, by rw [ones_step hk, hx], by omega⟩
    · have hk : k ≤ 65535 := by omega
      simp only [go_sem, ↓reduceIte, reduceCtorEq, upd_ne, back_new (no_at), Nat.reduceAdd, Nat.reduceEqDiff, Nat.reduceMul, Nat.reduceSub, Nat.reduceLeDiff, Nat.reduceLT, Int.reduceToNat, Int.reduceLE, Int.reduceLT, Int.reduceEq, UInt8.reduceOfNat, Nxt, exIf]
      rw [← hx, ones_small hk]
theorem ev_rOf (s : List UInt8) (hs : s.length ≤ 1000000) : S.ev (n + 2) id_interpreterref02_Of [.str s] none = some (.int .i64 (65535 - (ones (sumAt 0 s) : Nat)), none) := by
  rw [Sys.step hS.h_interpreterref02_Of, F_interpreterref02_Of_eq]
  unfold F_interpreterref02_Of
  have h1 := ev_Words hS n s hs
  have h2 := ev_Total hS n (wordsN s) (wordsN_le s) (by rw [wordsN_len]; omega)
  rw [wordsN_sum] at h2
  have ho := ones_le (sumAt 0 s)
  have e1 : IntKind.i64.wrap (65535 - ((ones (sumAt 0 s) : Nat) : Int)) = 65535 - ((ones (sumAt 0 s) : Nat) : Int) := wrap_id (by omega) (by omega)
  (try simp only [guard_merge, or_merge, and_merge, or_pick, and_pick, guard_or, guard_and]); simp only [to_ob]
  simp only [go_sem, ↓reduceIte, reduceCtorEq, upd_ne, back_new (no_at), Nat.reduceAdd, Nat.reduceEqDiff, Nat.reduceMul, Nat.reduceSub, Nat.reduceLeDiff, Nat.reduceLT, Int.reduceToNat, Int.reduceLE, Int.reduceLT, Int.reduceEq, UInt8.reduceOfNat, h1, h2, e1]
end
end Go.Ev

namespace Go.Ev
set_option linter.unusedSimpArgs false
set_option linter.unusedVariables false
set_option maxRecDepth 4000
set_option maxHeartbeats 4000000
section
variable {S : Sys} (hS : Has S) (n : Nat)
include hS
theorem ev_within (x m : Int) : S.ev (n + 1) id_interpreterref03_within [.int .i64 x, .int .i64 m] none = some (.bool (decide (0 ≤ x ∧ x ≤ m)), none) := by
  rw [Sys.step hS.h_interpreterref03_within, F_interpreterref03_within_eq]
  unfold F_interpreterref03_within
  (try simp only [guard_merge, or_merge, and_merge, or_pick, and_pick, guard_or, guard_and]); simp only [to_ob]
  by_cases h1 : 0 ≤ x <;> by_cases h2 : x ≤ m <;> simp only [go_sem, ↓reduceIte, reduceCtorEq, upd_ne, back_new (no_at), Nat.reduceAdd, Nat.reduceEqDiff, Nat.reduceMul, Nat.reduceSub, Nat.reduceLeDiff, Nat.reduceLT, Int.reduceToNat, Int.reduceLE, Int.reduceLT, Int.reduceEq, UInt8.reduceOfNat, h1, h2]
theorem ev_Why3 {tos id ttl pt at' : Int} {df mo : Bool} {fr to op da : List UInt8} (hfr : fr.length = 4) (hto : to.length = 4) (hop : op.length ≤ 140737488351232) (hda : da.length ≤ 140737488351232) :
    S.ev (n + 2) id_interpreterref03_Why [ip4LV tos id ttl pt at' df mo fr to op da] none = some (.int .i64 (why4 tos id ttl pt at' mo op da), none) := by
  rw [Sys.step hS.h_interpreterref03_Why, F_interpreterref03_Why_eq]
  unfold F_interpreterref03_Why
  have hw := ev_within hS n
  (try simp only [guard_merge, or_merge, and_merge, or_pick, and_pick, guard_or, guard_and]); simp only [to_ob]
  unfold why4
  have e1 : Int.tmod (op.length : Int) 4 = ((op.length % 4 : Nat) : Int) := rfl
  have e2 : Int.tmod (da.length : Int) 8 = ((da.length % 8 : Nat) : Int) := rfl
  by_cases c1 : okB tos ∧ okB ttl ∧ okB pt ∧ (0 ≤ id ∧ id ≤ 65535) ∧ (0 ≤ at' ∧ at' ≤ 65528) ∧ Int.tmod at' 8 = 0
  · rw [if_pos c1]
    obtain ⟨⟨a1, a2⟩, ⟨a3, a4⟩, ⟨a5, a6⟩, ⟨c14, c15⟩, ⟨c16, c17⟩, c18⟩ := c1
    by_cases k1 : op.length ≤ 40
    · have k1' : ¬ 40 < (op.length : Int) := by omega
      have k5 : IntKind.i64.wrap (IntKind.i64.wrap (IntKind.i64.wrap (20 + (op.length : Int)) + at') + (da.length : Int)) = 20 + (op.length : Int) + at' + da.length := by
        rw [wrap_id (n := 20 + (op.length : Int)) (by omega) (by omega), wrap_id (n := 20 + (op.length : Int) + at') (by omega) (by omega), wrap_id (by omega) (by omega)]
      by_cases k2 : op.length % 4 = 0
      · have k2' : ((op.length % 4 : Nat) : Int) = 0 := by omega
        by_cases k6 : 20 + (op.length : Int) + at' + da.length ≤ 65535
        · have k6' : ¬ 65535 < 20 + (op.length : Int) + at' + da.length := by omega
          cases mo
          · simp only [go_sem, ↓reduceIte, reduceCtorEq, upd_ne, back_new (no_at), Nat.reduceAdd, Nat.reduceEqDiff, Nat.reduceMul, Nat.reduceSub, Nat.reduceLeDiff, Nat.reduceLT, Int.reduceToNat, Int.reduceLE, Int.reduceLT, Int.reduceEq, UInt8.reduceOfNat, hw, hfr, hto, a1, a2, a3, a4, a5, a6, c14, c15, c16, c17, c18, e1, e2, k1, k1', k2, k2', k5, k6, k6', false_implies]
          · by_cases k3 : da.length = 0
            · have k3' : (da.length : Int) = 0 := by omega
              simp only [go_sem, ↓reduceIte, reduceCtorEq, upd_ne, back_new (no_at), Nat.reduceAdd, Nat.reduceEqDiff, Nat.reduceMul, Nat.reduceSub, Nat.reduceLeDiff, Nat.reduceLT, Int.reduceToNat, Int.reduceLE, Int.reduceLT, Int.reduceEq, UInt8.reduceOfNat, hw, hfr, hto, a1, a2, a3, a4, a5, a6, c14, c15, c16, c17, c18, e1, e2, k1, k1', k2, k2', k3, k3', true_implies]
            · have k3' : ¬ (da.length : Int) = 0 := by omega
              by_cases k4 : da.length % 8 = 0
              · have k4' : ((da.length % 8 : Nat) : Int) = 0 := by omega
                simp only [go_sem, ↓reduceIte, reduceCtorEq, upd_ne, back_new (no_at), Nat.reduceAdd, Nat.reduceEqDiff, Nat.reduceMul, Nat.reduceSub, Nat.reduceLeDiff, Nat.reduceLT, Int.reduceToNat, Int.reduceLE, Int.reduceLT, Int.reduceEq, UInt8.reduceOfNat, hw, hfr, hto, a1, a2, a3, a4, a5, a6, c14, c15, c16, c17, c18, e1, e2, k1, k1', k2, k2', k3, k3', k4, k4', k5, k6, k6', true_implies]
              · have k4' : ¬ ((da.length % 8 : Nat) : Int) = 0 := by omega
                simp only [go_sem, ↓reduceIte, reduceCtorEq, upd_ne, back_new (no_at), Nat.reduceAdd, Nat.reduceEqDiff, Nat.reduceMul, Nat.reduceSub, Nat.reduceLeDiff, Nat.reduceLT, Int.reduceToNat, Int.reduceLE, Int.reduceLT, Int.reduceEq, UInt8.reduceOfNat, hw, hfr, hto, a1, a2, a3, a4, a5, a6, c14, c15, c16, c17, c18, e1, e2, k1, k1', k2, k2', k3, k3', k4, k4', true_implies]
        · have k6' : 65535 < 20 + (op.length : Int) + at' + da.length := by omega
          cases mo
          · simp only [go_sem, ↓reduceIte, reduceCtorEq, upd_ne, back_new (no_at), Nat.reduceAdd, Nat.reduceEqDiff, Nat.reduceMul, Nat.reduceSub, Nat.reduceLeDiff, Nat.reduceLT, Int.reduceToNat, Int.reduceLE, Int.reduceLT, Int.reduceEq, UInt8.reduceOfNat, hw, hfr, hto, a1, a2, a3, a4, a5, a6, c14, c15, c16, c17, c18, e1, e2, k1, k1', k2, k2', k5, k6, k6', false_implies]
          · by_cases k3 : da.length = 0
            · have k3' : (da.length : Int) = 0 := by omega
              simp only [go_sem, ↓reduceIte, reduceCtorEq, upd_ne, back_new (no_at), Nat.reduceAdd, Nat.reduceEqDiff, Nat.reduceMul, Nat.reduceSub, Nat.reduceLeDiff, Nat.reduceLT, Int.reduceToNat, Int.reduceLE, Int.reduceLT, Int.reduceEq, UInt8.reduceOfNat, hw, hfr, hto, a1, a2, a3, a4, a5, a6, c14, c15, c16, c17, c18, e1, e2, k1, k1', k2, k2', k3, k3', true_implies]
            · have k3' : ¬ (da.length : Int) = 0 := by omega
              by_cases k4 : da.length % 8 = 0
              · have k4' : ((da.length % 8 : Nat) : Int) = 0 := by omega
                simp only [go_sem, ↓reduceIte, reduceCtorEq, upd_ne, back_new (no_at), Nat.reduceAdd, Nat.reduceEqDiff, Nat.reduceMul, Nat.reduceSub, Nat.reduceLeDiff, Nat.reduceLT, Int.reduceToNat, Int.reduceLE, Int.reduceLT, Int.reduceEq, UInt8.reduceOfNat, hw, hfr, hto, a1, a2, a3, a4, a5, a6, c14, c15, c16, c17, c18, e1, e2, k1, k1', k2, k2', k3, k3', k4, k4', k5, k6, k6', true_implies]
              · have k4' : ¬ ((da.length % 8 : Nat) : Int) = 0 := by omega
                simp only [go_sem, ↓reduceIte, reduceCtorEq, upd_ne, back_new (no_at), Nat.reduceAdd, Nat.reduceEqDiff, Nat.reduceMul, Nat.reduceSub, Nat.reduceLeDiff, Nat.reduceLT, Int.reduceToNat, Int.reduceLE, Int.reduceLT, Int.reduceEq, UInt8.reduceOfNat, hw, hfr, hto, a1, a2, a3, a4, a5, a6, c14, c15, c16, c17, c18, e1, e2, k1, k1', k2, k2', k3, k3', k4, k4', true_implies]
      · have k2' : ¬ ((op.length % 4 : Nat) : Int) = 0 := by omega
        simp only [go_sem, ↓reduceIte, reduceCtorEq, upd_ne, back_new (no_at), Nat.reduceAdd, Nat.reduceEqDiff, Nat.reduceMul, Nat.reduceSub, Nat.reduceLeDiff, Nat.reduceLT, Int.reduceToNat, Int.reduceLE, Int.reduceLT, Int.reduceEq, UInt8.reduceOfNat, hw, hfr, hto, a1, a2, a3, a4, a5, a6, c14, c15, c16, c17, c18, e1, e2, k1, k1', k2, k2']
    · have k1' : 40 < (op.length : Int) := by omega
      simp only [go_sem, ↓reduceIte, reduceCtorEq, upd_ne, back_new (no_at), Nat.reduceAdd, Nat.reduceEqDiff, Nat.reduceMul, Nat.reduceSub, Nat.reduceLeDiff, Nat.reduceLT, Int.reduceToNat, Int.reduceLE, Int.reduceLT, Int.reduceEq, UInt8.reduceOfNat, hw, hfr, hto, a1, a2, a3, a4, a5, a6, c14, c15, c16, c17, c18, e1, e2, k1, k1']
  · rw [if_neg c1]
    by_cases b1 : okB tos
    · by_cases b2 : okB ttl
      · by_cases b3 : okB pt
        · by_cases b4 : 0 ≤ id ∧ id ≤ 65535
          · by_cases b5 : 0 ≤ at' ∧ at' ≤ 65528
            · have b6 : ¬ Int.tmod at' 8 = 0 := fun h => c1 ⟨b1, b2, b3, b4, b5, h⟩
              simp only [go_sem, ↓reduceIte, reduceCtorEq, upd_ne, back_new (no_at), Nat.reduceAdd, Nat.reduceEqDiff, Nat.reduceMul, Nat.reduceSub, Nat.reduceLeDiff, Nat.reduceLT, Int.reduceToNat, Int.reduceLE, Int.reduceLT, Int.reduceEq, UInt8.reduceOfNat, hw, hfr, hto, decide_eq_true b1, decide_eq_true b2, decide_eq_true b3, decide_eq_true b4, decide_eq_true b5, b6]
            · simp only [go_sem, ↓reduceIte, reduceCtorEq, upd_ne, back_new (no_at), Nat.reduceAdd, Nat.reduceEqDiff, Nat.reduceMul, Nat.reduceSub, Nat.reduceLeDiff, Nat.reduceLT, Int.reduceToNat, Int.reduceLE, Int.reduceLT, Int.reduceEq, UInt8.reduceOfNat, hw, hfr, hto, decide_eq_true b1, decide_eq_true b2, decide_eq_true b3, decide_eq_true b4, decide_eq_false b5]
          · simp only [go_sem, ↓reduceIte, reduceCtorEq, upd_ne, back_new (no_at), Nat.reduceAdd, Nat.reduceEqDiff, Nat.reduceMul, Nat.reduceSub, Nat.reduceLeDiff, Nat.reduceLT, Int.reduceToNat, Int.reduceLE, Int.reduceLT, Int.reduceEq, UInt8.reduceOfNat, hw, hfr, hto, decide_eq_true b1, decide_eq_true b2, decide_eq_true b3, decide_eq_false b4]
        · simp only [go_sem, ↓reduceIte, reduceCtorEq, upd_ne, back_new (no_at), Nat.reduceAdd, Nat.reduceEqDiff, Nat.reduceMul, Nat.reduceSub, Nat.reduceLeDiff, Nat.reduceLT, Int.reduceToNat, Int.reduceLE, Int.reduceLT, Int.reduceEq, UInt8.reduceOfNat, hw, hfr, hto, decide_eq_true b1, decide_eq_true b2, decide_eq_false b3]
      · simp only [go_sem, ↓reduceIte, reduceCtorEq, upd_ne, back_new (no_at), Nat.reduceAdd, Nat.reduceEqDiff, Nat.reduceMul, Nat.reduceSub, Nat.reduceLeDiff, Nat.reduceLT, Int.reduceToNat, Int.reduceLE, Int.reduceLT, Int.reduceEq, UInt8.reduceOfNat, hw, hfr, hto, decide_eq_true b1, decide_eq_false b2]
    · simp only [go_sem, ↓reduceIte, reduceCtorEq, upd_ne, back_new (no_at), Nat.reduceAdd, Nat.reduceEqDiff, Nat.reduceMul, Nat.reduceSub, Nat.reduceLeDiff, Nat.reduceLT, Int.reduceToNat, Int.reduceLE, Int.reduceLT, Int.reduceEq, UInt8.reduceOfNat, hw, hfr, hto, decide_eq_false b1]
end
end Go.Ev

namespace Go.Ev
set_option linter.unusedSimpArgs false
set_option linter.unusedVariables false
set_option maxRecDepth 4000
set_option maxHeartbeats 2000000
section
variable {S : Sys} (hS : Has S) (n : Nat)
include hS
theorem ev_rText (s : List UInt8) (a m : Nat) (h : a + m ≤ s.length) (hs : s.length ≤ 140737488351232) :
    S.ev (n + 1) id_interpreterref01_Reader_Text [.ptr 0 0 [] 0, .int .i64 (m : Int)] (some (rdLV s a)) = some (.tup [.str ((s.drop a).take m), .int .i64 0], some (rdLV s (a + m))) := by
  rw [Sys.step hS.h_interpreterref01_Reader_Text, F_interpreterref01_Reader_Text_eq]
  unfold F_interpreterref01_Reader_Text
  (try simp only [guard_merge, or_merge, and_merge, or_pick, and_pick, guard_or, guard_and]); simp only [to_ob]
  have f1 : ¬ (m : Int) < 0 := by omega
  have f2 : ¬ (s.length : Int) < (m : Int) := by omega
  have e1 : IntKind.i64.wrap ((s.length : Int) - (m : Int)) = ((s.length - m : Nat) : Int) := by rw [wrap_id (by omega) (by omega)]; omega
  have f3 : ¬ ((s.length - m : Nat) : Int) < (a : Int) := by omega
  simp only [go_sem, ↓reduceIte, reduceCtorEq, upd_ne, back_new (no_at), Nat.reduceAdd, Nat.reduceEqDiff, Nat.reduceMul, Nat.reduceSub, Nat.reduceLeDiff, Nat.reduceLT, Int.reduceToNat, Int.reduceLE, Int.reduceLT, Int.reduceEq, UInt8.reduceOfNat, f1, f2, e1, f3]
  refine while_rule (fun k q => ∃ i : Nat, i + k = m ∧ q = ([.str ((s.drop a).take i), .int .i64 (i : Int)], upd noSlots 0 (.obj 0 (rdLV s (a + i))))) m ⟨0, by omega, by simp⟩ ?_
  rintro k q ⟨i, hi, rfl⟩
  simp only [go_sem, ↓reduceIte, reduceCtorEq, upd_ne, back_new (no_at), Nat.reduceAdd, Nat.reduceEqDiff, Nat.reduceMul, Nat.reduceSub, Nat.reduceLeDiff, Nat.reduceLT, Int.reduceToNat, Int.reduceLE, Int.reduceLT, Int.reduceEq, UInt8.reduceOfNat]
  refine nxt_ite (fun h => ?_) (fun h => ?_)
  · have hlt : a + i < s.length := by omega
    obtain ⟨c, hc⟩ : ∃ c, s[a + i]? = some c := ⟨s[a + i], by simp [hlt]⟩
    have e2 : IntKind.i64.wrap (((a + i : Nat) : Int) + 1) = ((a + i + 1 : Nat) : Int) := by rw [wrap_id (by omega) (by omega)]; omega
    have e3 : IntKind.i64.wrap ((i : Int) + 1) = ((i + 1 : Nat) : Int) := by rw [wrap_id (by omega) (by omega)]; omega
    have f4 : a + i + 1 ≤ s.length := by omega
    have f5 : a + i ≤ a + i + 1 := by omega
    have e4 : (s.drop (a + i)).take (a + i + 1 - (a + i)) = [c] := by rw [show a + i + 1 - (a + i) = 1 by omega, drop_take_one hc]
    have f6 : min i (s.length - a) + (0 + 1) ≤ maxStr := by unfold maxStr; omega
    have f6' : min i (s.length - a) + 1 ≤ maxStr := by unfold maxStr; omega
    simp only [go_sem, ↓reduceIte, reduceCtorEq, upd_ne, back_new (no_at), Nat.reduceAdd, Nat.reduceEqDiff, Nat.reduceMul, Nat.reduceSub, Nat.reduceLeDiff, Nat.reduceLT, Int.reduceToNat, Int.reduceLE, Int.reduceLT, Int.reduceEq, UInt8.reduceOfNat, List.getElem?_map, Int.toNat_natCast, ↓e_sadd, e2, e3, f4, f5, e4, f6, f6', List.length_take, List.length_drop]
    exact ⟨k - 1, by omega, i + 1, by omega, by rw [drop_take_snoc hc]; rfl⟩
  · obtain rfl : i = m := by omega
    simp only [go_sem, ↓reduceIte, reduceCtorEq, upd_ne, back_new (no_at), Nat.reduceAdd, Nat.reduceEqDiff, Nat.reduceMul, Nat.reduceSub, Nat.reduceLeDiff, Nat.reduceLT, Int.reduceToNat, Int.reduceLE, Int.reduceLT, Int.reduceEq, UInt8.reduceOfNat, Nxt, exIf]
theorem ev_rNumber (s : List UInt8) (a m : Nat) (h : a + m ≤ s.length) (hm : m ≤ 4) (hs : s.length ≤ 140737488351232) :
    S.ev (n + 2) id_interpreterref01_Reader_Number [.ptr 0 0 [] 0, .int .i64 (m : Int)] (some (rdLV s a)) = some (.tup [.int .i64 ((numN ((s.drop a).take m) : Nat) : Int), .int .i64 0], some (rdLV s (a + m))) := by
  rw [Sys.step hS.h_interpreterref01_Reader_Number, F_interpreterref01_Reader_Number_eq]
  unfold F_interpreterref01_Reader_Number
  have ht := ev_rText hS n s a m h hs
  (try simp only [guard_merge, or_merge, and_merge, or_pick, and_pick, guard_or, guard_and]); simp only [to_ob]
  simp only [go_sem, ↓reduceIte, reduceCtorEq, upd_ne, back_new (no_at), Nat.reduceAdd, Nat.reduceEqDiff, Nat.reduceMul, Nat.reduceSub, Nat.reduceLeDiff, Nat.reduceLT, Int.reduceToNat, Int.reduceLE, Int.reduceLT, Int.reduceEq, UInt8.reduceOfNat, ht]
  have hul : ((s.drop a).take m).length = m := by rw [List.length_take, List.length_drop]; omega
  generalize (s.drop a).take m = u at *
  refine while_rule (fun k q => ∃ i : Nat, i + k = m ∧ q = ([.int .i64 ((numN (u.take i) : Nat) : Int), .int .i64 (i : Int)], upd noSlots 0 (.obj 0 (rdLV s (a + m))))) m ⟨0, by omega, by simp [numN]⟩ ?_
  rintro k q ⟨i, hi, rfl⟩
  simp only [go_sem, ↓reduceIte, reduceCtorEq, upd_ne, back_new (no_at), Nat.reduceAdd, Nat.reduceEqDiff, Nat.reduceMul, Nat.reduceSub, Nat.reduceLeDiff, Nat.reduceLT, Int.reduceToNat, Int.reduceLE, Int.reduceLT, Int.reduceEq, UInt8.reduceOfNat, hul]
  refine nxt_ite (fun h => ?_) (fun h => ?_)
  · have hlt : i < u.length := by omega
    obtain ⟨c, hc⟩ : ∃ c, u[i]? = some c := ⟨u[i], by simp [hlt]⟩
    have htk : u.take (i + 1) = u.take i ++ [c] := by rw [List.take_add_one, hc]; rfl
    have hb := numN_lt (u.take i)
    have hb2 : 256 ^ (u.take i).length ≤ 256 ^ 3 := Nat.pow_le_pow_right (by decide) (by rw [List.length_take]; omega)
    have hb3 : (256 : Nat) ^ 3 = 16777216 := by decide
    have hcl := c.toNat_lt
    have e1 : IntKind.i64.wrap (((numN (u.take i) : Nat) : Int) * 256) = ((numN (u.take i) * 256 : Nat) : Int) := by rw [wrap_id (by omega) (by omega)]; omega
    have e2 : IntKind.i64.wrap (c.toNat : Int) = (c.toNat : Int) := wrap_id (by omega) (by omega)
    have e3 : IntKind.i64.wrap (((numN (u.take i) * 256 : Nat) : Int) + (c.toNat : Int)) = ((numN (u.take i) * 256 + c.toNat : Nat) : Int) := by rw [wrap_id (by omega) (by omega)]; omega
    have e4 : IntKind.i64.wrap ((i : Int) + 1) = ((i + 1 : Nat) : Int) := by rw [wrap_id (by omega) (by omega)]; omega
    simp only [go_sem, ↓reduceIte, reduceCtorEq, upd_ne, back_new (no_at), Nat.reduceAdd, Nat.reduceEqDiff, Nat.reduceMul, Nat.reduceSub, Nat.reduceLeDiff, Nat.reduceLT, Int.reduceToNat, Int.reduceLE, Int.reduceLT, Int.reduceEq, UInt8.reduceOfNat, List.getElem?_map, Int.toNat_natCast, hc, e1, e2, e3, e4]
    exact ⟨k - 1, by omega, i + 1, by omega, by rw [htk, numN_snoc]⟩
  · obtain rfl : i = m := by omega
    rw [List.take_of_length_le (by omega)]
    simp only [go_sem, ↓reduceIte, reduceCtorEq, upd_ne, back_new (no_at), Nat.reduceAdd, Nat.reduceEqDiff, Nat.reduceMul, Nat.reduceSub, Nat.reduceLeDiff, Nat.reduceLT, Int.reduceToNat, Int.reduceLE, Int.reduceLT, Int.reduceEq, UInt8.reduceOfNat, Nxt, exIf]
end
end Go.Ev

namespace Go.Ev
set_option linter.unusedSimpArgs false
set_option linter.unusedVariables false
set_option maxRecDepth 4000
set_option maxHeartbeats 4000000
section
variable {S : Sys} (hS : Has S) (n : Nat)
include hS
theorem ev_number3 (s : List UInt8) (i : Nat) (h : i + 2 ≤ s.length) (hs : s.length ≤ 140737488351232) : S.ev (n + 3) id_interpreterref03_number [.str s, .int .i64 (i : Int)] none = some (.int .i64 (wAt s i : Nat), none) := by
  rw [Sys.step hS.h_interpreterref03_number, F_interpreterref03_number_eq]
  unfold F_interpreterref03_number
  have ht : S.ev (n + 2) id_interpreterref01_Reader_Number [.ptr 0 0 [] 0, .int .i64 2] (some (rdLV s i)) = some (.tup [.int .i64 ((numN ((s.drop i).take 2) : Nat) : Int), .int .i64 0], some (rdLV s (i + 2))) := ev_rNumber hS n s i 2 h (by omega) hs
  rw [numN_two h] at ht
  simp only [to_ob]
  simp only [go_sem, ↓reduceIte, reduceCtorEq, upd_ne, back_new (no_at), Nat.reduceAdd, Nat.reduceEqDiff, Nat.reduceMul, Nat.reduceSub, Nat.reduceLeDiff, Nat.reduceLT, Int.reduceToNat, Int.reduceLE, Int.reduceLT, Int.reduceEq, UInt8.reduceOfNat, ht]
theorem ev_rparse3 (s : List UInt8) (hs : s.length ≤ 1000000) : S.ev (n + 4) id_interpreterref03_Parse [.str s] none = some (.tup [pLV4 s, .int .i64 (pK4 s)], none) := by
  rw [Sys.step hS.h_interpreterref03_Parse, F_interpreterref03_Parse_eq]
  unfold F_interpreterref03_Parse
  (try simp only [guard_merge, or_merge, and_merge, or_pick, and_pick, guard_or, guard_and]); simp only [to_ob]
  unfold pLV4 pK4
  by_cases c1 : s.length < 20
  · have c1' : (s.length : Int) < 20 := by omega
    simp only [go_sem, ↓reduceIte, reduceCtorEq, upd_ne, back_new (no_at), Nat.reduceAdd, Nat.reduceEqDiff, Nat.reduceMul, Nat.reduceSub, Nat.reduceLeDiff, Nat.reduceLT, Int.reduceToNat, Int.reduceLE, Int.reduceLT, Int.reduceEq, UInt8.reduceOfNat, c1, c1']
  · have c1' : ¬ (s.length : Int) < 20 := by omega
    have g0 := get_def (s := s) (i := 0) (by omega)
    have hb0 := bAt_le s 0
    have e1 : IntKind.i64.wrap ((s.getD 0 0).toNat : Int) = ((bAt s 0 : Nat) : Int) := wrap_id (by omega) (by unfold bAt at hb0; omega)
    have e2 : IntKind.i64.wrap (4 * IntKind.i64.wrap (((bAt s 0 : Nat) : Int) - 64)) = 4 * (((bAt s 0 : Nat) : Int) - 64) := by
      rw [wrap_id (n := ((bAt s 0 : Nat) : Int) - 64) (by omega) (by omega), wrap_id (by omega) (by omega)]
    by_cases c2 : bAt s 0 / 16 ≠ 4 ∨ n4 s < 20
    · rw [if_neg c1, if_pos c2]
      by_cases c2a : 4 * (((bAt s 0 : Nat) : Int) - 64) < 20
      · simp only [go_sem, ↓reduceIte, reduceCtorEq, upd_ne, back_new (no_at), Nat.reduceAdd, Nat.reduceEqDiff, Nat.reduceMul, Nat.reduceSub, Nat.reduceLeDiff, Nat.reduceLT, Int.reduceToNat, Int.reduceLE, Int.reduceLT, Int.reduceEq, UInt8.reduceOfNat, List.getElem?_map, Int.toNat_natCast, c1', c2a, g0, byteLV, e1, e2]
      · have c2b : 60 < 4 * (((bAt s 0 : Nat) : Int) - 64) := by unfold n4 at c2; omega
        simp only [go_sem, ↓reduceIte, reduceCtorEq, upd_ne, back_new (no_at), Nat.reduceAdd, Nat.reduceEqDiff, Nat.reduceMul, Nat.reduceSub, Nat.reduceLeDiff, Nat.reduceLT, Int.reduceToNat, Int.reduceLE, Int.reduceLT, Int.reduceEq, UInt8.reduceOfNat, List.getElem?_map, Int.toNat_natCast, c1', c2a, c2b, g0, byteLV, e1, e2]
    · have hn : 4 * (((bAt s 0 : Nat) : Int) - 64) = ((n4 s : Nat) : Int) := by unfold n4 at c2 ⊢; omega
      rw [hn] at e2
      have c2a : ¬ ((n4 s : Nat) : Int) < 20 := by omega
      have c2b : ¬ 60 < ((n4 s : Nat) : Int) := by unfold n4; omega
      by_cases c3 : s.length < n4 s
      · have c3' : (s.length : Int) < ((n4 s : Nat) : Int) := by omega
        simp only [go_sem, ↓reduceIte, reduceCtorEq, upd_ne, back_new (no_at), Nat.reduceAdd, Nat.reduceEqDiff, Nat.reduceMul, Nat.reduceSub, Nat.reduceLeDiff, Nat.reduceLT, Int.reduceToNat, Int.reduceLE, Int.reduceLT, Int.reduceEq, UInt8.reduceOfNat, List.getElem?_map, Int.toNat_natCast, c1, c1', c2, c2a, c2b, c3, c3', g0, byteLV, e1, e2]
      · have c3' : ¬ (s.length : Int) < ((n4 s : Nat) : Int) := by omega
        have c3'' : n4 s ≤ s.length := by omega
        have hr := ev_rOf hS (n + 1) (s.take (n4 s)) (by rw [List.length_take]; omega)
        have hr : S.ev (n + 3) id_interpreterref02_Of [.str (s.take (n4 s))] none = some (.int .i64 (sumS (s.take (n4 s))), none) := hr
        by_cases c4 : sumS (s.take (n4 s)) = 0
        · have t2 : S.ev (n + 3) id_interpreterref03_number [.str s, .int .i64 2] none = some (.int .i64 (wAt s 2 : Nat), none) := ev_number3 hS n s 2 (by omega) (by omega)
          have t6 : S.ev (n + 3) id_interpreterref03_number [.str s, .int .i64 6] none = some (.int .i64 (wAt s 6 : Nat), none) := ev_number3 hS n s 6 (by omega) (by omega)
          have t4 : S.ev (n + 3) id_interpreterref03_number [.str s, .int .i64 4] none = some (.int .i64 (wAt s 4 : Nat), none) := ev_number3 hS n s 4 (by omega) (by omega)
          by_cases c5 : wAt s 2 < n4 s
          · have c5' : ((wAt s 2 : Nat) : Int) < ((n4 s : Nat) : Int) := by omega
            simp only [go_sem, ↓reduceIte, reduceCtorEq, upd_ne, back_new (no_at), Nat.reduceAdd, Nat.reduceEqDiff, Nat.reduceMul, Nat.reduceSub, Nat.reduceLeDiff, Nat.reduceLT, Int.reduceToNat, Int.reduceLE, Int.reduceLT, Int.reduceEq, UInt8.reduceOfNat, List.getElem?_map, Int.toNat_natCast, Nat.sub_zero, c1, c1', c2, c2a, c2b, c3, c3', c3'', c4, hr, t2, t6, c5, c5', g0, byteLV, e1, e2]
          · have c5' : ¬ ((wAt s 2 : Nat) : Int) < ((n4 s : Nat) : Int) := by omega
            have c5'' : n4 s ≤ wAt s 2 := by omega
            by_cases c6 : s.length < wAt s 2
            · have c6' : (s.length : Int) < ((wAt s 2 : Nat) : Int) := by omega
              simp only [go_sem, ↓reduceIte, reduceCtorEq, upd_ne, back_new (no_at), Nat.reduceAdd, Nat.reduceEqDiff, Nat.reduceMul, Nat.reduceSub, Nat.reduceLeDiff, Nat.reduceLT, Int.reduceToNat, Int.reduceLE, Int.reduceLT, Int.reduceEq, UInt8.reduceOfNat, List.getElem?_map, Int.toNat_natCast, Nat.sub_zero, c1, c1', c2, c2a, c2b, c3, c3', c3'', c4, hr, t2, t6, c5, c5', c6, c6', g0, byteLV, e1, e2]
            · have c6' : ¬ (s.length : Int) < ((wAt s 2 : Nat) : Int) := by omega
              have c6'' : wAt s 2 ≤ s.length := by omega
              have g1 := get_def (s := s) (i := 1) (by omega)
              have g8 := get_def (s := s) (i := 8) (by omega)
              have g9 := get_def (s := s) (i := 9) (by omega)
              have hb1 := bAt_le s 1
              have hb8 := bAt_le s 8
              have hb9 := bAt_le s 9
              have hw6 := wAt_le s 6
              have w1 : IntKind.i64.wrap ((s.getD 1 0).toNat : Int) = ((bAt s 1 : Nat) : Int) := wrap_id (by omega) (by unfold bAt at hb1; omega)
              have w8 : IntKind.i64.wrap ((s.getD 8 0).toNat : Int) = ((bAt s 8 : Nat) : Int) := wrap_id (by omega) (by unfold bAt at hb8; omega)
              have w9 : IntKind.i64.wrap ((s.getD 9 0).toNat : Int) = ((bAt s 9 : Nat) : Int) := wrap_id (by omega) (by unfold bAt at hb9; omega)
              have f1 : IntKind.i64.wrap (Int.tmod ((wAt s 6 : Nat) : Int) 8192 * 8) = pat4 s := by
                rw [show Int.tmod ((wAt s 6 : Nat) : Int) 8192 = ((wAt s 6 % 8192 : Nat) : Int) from rfl, wrap_id (by omega) (by omega)]; unfold pat4; omega
              have f2 : IntKind.i64.wrap (Int.tdiv ((wAt s 6 : Nat) : Int) 16384) = ((wAt s 6 / 16384 : Nat) : Int) := by
                rw [show Int.tdiv ((wAt s 6 : Nat) : Int) 16384 = ((wAt s 6 / 16384 : Nat) : Int) from rfl, wrap_id (by omega) (by omega)]
              have f3 : IntKind.i64.wrap (Int.tdiv ((wAt s 6 : Nat) : Int) 8192) = ((wAt s 6 / 8192 : Nat) : Int) := by
                rw [show Int.tdiv ((wAt s 6 : Nat) : Int) 8192 = ((wAt s 6 / 8192 : Nat) : Int) from rfl, wrap_id (by omega) (by omega)]
              have f4 : decide (Int.tmod ((wAt s 6 / 16384 : Nat) : Int) 2 = 1) = pdf4 s := by
                rw [show Int.tmod ((wAt s 6 / 16384 : Nat) : Int) 2 = ((wAt s 6 / 16384 % 2 : Nat) : Int) from rfl]; unfold pdf4; exact decide_eq_decide.2 (by omega)
              have f5 : decide (Int.tmod ((wAt s 6 / 8192 : Nat) : Int) 2 = 1) = pmo4 s := by
                rw [show Int.tmod ((wAt s 6 / 8192 : Nat) : Int) 2 = ((wAt s 6 / 8192 % 2 : Nat) : Int) from rfl]; unfold pmo4; exact decide_eq_decide.2 (by omega)
              have l20 : 20 ≤ n4 s := by omega
              have hlf : (pfr4 s).length = 4 := by unfold pfr4; simp; omega
              have hlt : (pto4 s).length = 4 := by unfold pto4; simp; omega
              have hwy := ev_Why3 hS (n + 1) (tos := (bAt s 1 : Nat)) (id := (wAt s 4 : Nat)) (ttl := (bAt s 8 : Nat)) (pt := (bAt s 9 : Nat)) (at' := pat4 s) (df := pdf4 s) (mo := pmo4 s) (op := pop4 s) (da := pda4 s) hlf hlt (by unfold pop4; simp; omega) (by unfold pda4; simp; omega)
              have hwy : S.ev (n + 3) id_interpreterref03_Why [ip4LV (bAt s 1 : Nat) (wAt s 4 : Nat) (bAt s 8 : Nat) (bAt s 9 : Nat) (pat4 s) (pdf4 s) (pmo4 s) (pfr4 s) (pto4 s) (pop4 s) (pda4 s)] none = some (.int .i64 (pwhy4 s), none) := hwy
              have v3 : (s.drop 20).take (n4 s - 20) = pop4 s := rfl
              have v4 : (s.drop (n4 s)).take (wAt s 2 - n4 s) = pda4 s := rfl
              simp only [go_sem, ↓reduceIte, reduceCtorEq, upd_ne, back_new (no_at), Nat.reduceAdd, Nat.reduceEqDiff, Nat.reduceMul, Nat.reduceSub, Nat.reduceLeDiff, Nat.reduceLT, Int.reduceToNat, Int.reduceLE, Int.reduceLT, Int.reduceEq, UInt8.reduceOfNat, List.getElem?_map, Int.toNat_natCast, Nat.sub_zero, c1, c1', c2, c2a, c2b, c3, c3', c3'', c4, hr, t2, t6, t4, c5, c5', c5'', c6, c6', c6'', l20, g0, g1, g8, g9, byteLV, e1, e2, w1, w8, w9, f1, f2, f3, f4, f5, v3, v4]
              have r0 : ([0, 0, 0, 0] : List UInt8) = List.replicate (4 - 0) 0 := rfl
              refine while_rule (fun k q => ∃ i : Nat, i + k = 4 ∧ q = ([.int .i64 (i : Int)], upd (upd (upd noSlots 2 (.obj 1 z4LV)) 4 (.obj 1 z4LV)) 8 (.obj 1 (ip4LV (bAt s 1 : Nat) (wAt s 4 : Nat) (bAt s 8 : Nat) (bAt s 9 : Nat) (pat4 s) (pdf4 s) (pmo4 s) ((pfr4 s).take i ++ List.replicate (4 - i) 0) ((pto4 s).take i ++ List.replicate (4 - i) 0) (pop4 s) (pda4 s))))) 4 ⟨0, rfl, by simp⟩ ?_
              rintro k q ⟨i, hi, rfl⟩
              simp only [go_sem, ↓reduceIte, reduceCtorEq, upd_ne, back_new (no_at), Nat.reduceAdd, Nat.reduceEqDiff, Nat.reduceMul, Nat.reduceSub, Nat.reduceLeDiff, Nat.reduceLT, Int.reduceToNat, Int.reduceLE, Int.reduceLT, Int.reduceEq, UInt8.reduceOfNat]
              refine nxt_ite (fun h => ?_) (fun h => ?_)
              · have hi4 : i < 4 := by omega
                have ga := get_def (s := s) (i := 12 + i) (by omega)
                have gb := get_def (s := s) (i := 16 + i) (by omega)
                have i1 : IntKind.i64.wrap (12 + (i : Int)) = ((12 + i : Nat) : Int) := by rw [wrap_id (by omega) (by omega)]; omega
                have i2 : IntKind.i64.wrap (16 + (i : Int)) = ((16 + i : Nat) : Int) := by rw [wrap_id (by omega) (by omega)]; omega
                have i3 : IntKind.i64.wrap ((i : Int) + 1) = ((i + 1 : Nat) : Int) := by rw [wrap_id (by omega) (by omega)]; omega
                have hla : ((pfr4 s).take i ++ List.replicate (4 - i) 0).length = 4 := by rw [List.length_append, List.length_take, List.length_replicate]; omega
                have hlb : ((pto4 s).take i ++ List.replicate (4 - i) 0).length = 4 := by rw [List.length_append, List.length_take, List.length_replicate]; omega
                obtain ⟨ca, hca⟩ : ∃ c0, ((pfr4 s).take i ++ List.replicate (4 - i) 0)[i]? = some c0 := ⟨_, List.getElem?_eq_getElem (by omega)⟩
                obtain ⟨cb, hcb⟩ : ∃ c0, ((pto4 s).take i ++ List.replicate (4 - i) 0)[i]? = some c0 := ⟨_, List.getElem?_eq_getElem (by omega)⟩
                have sa := set_mid hlf hi4 (sub_get (s := s) (a := 12) (m := 4) hi4 (by omega))
                have sb := set_mid hlt hi4 (sub_get (s := s) (a := 16) (m := 4) hi4 (by omega))
                have hla2 : ((pfr4 s).take (i + 1) ++ List.replicate (4 - (i + 1)) 0).length = 4 := by rw [List.length_append, List.length_take, List.length_replicate]; omega
                simp only [go_sem, ↓reduceIte, reduceCtorEq, upd_ne, back_new (no_at), Nat.reduceAdd, Nat.reduceEqDiff, Nat.reduceMul, Nat.reduceSub, Nat.reduceLeDiff, Nat.reduceLT, Int.reduceToNat, Int.reduceLE, Int.reduceLT, Int.reduceEq, UInt8.reduceOfNat, List.getElem?_map, Int.toNat_natCast, ga, gb, i1, i2, i3, hla, hlb, hla2, hca, hcb, sa, sb, hi4, byteLV, u8_lt, UInt8.ofNat_toNat, Nat.mul_one, eq_self]
                exact ⟨k - 1, by omega, i + 1, by omega, rfl⟩
              · obtain rfl : i = 4 := by omega
                have ta : (pfr4 s).take 4 ++ List.replicate (4 - 4) 0 = pfr4 s := by rw [List.take_of_length_le (by omega)]; simp
                have tb : (pto4 s).take 4 ++ List.replicate (4 - 4) 0 = pto4 s := by rw [List.take_of_length_le (by omega)]; simp
                rw [ta, tb]
                by_cases c7 : wAt s 6 < 32768
                · have c7' : ¬ 32768 ≤ ((wAt s 6 : Nat) : Int) := by omega
                  have c7'' : ¬ 32768 ≤ wAt s 6 := by omega
                  by_cases c8 : pwhy4 s = 0
                  · rw [c8] at hwy
                    simp only [go_sem, ↓reduceIte, reduceCtorEq, upd_ne, back_new (no_at), Nat.reduceAdd, Nat.reduceEqDiff, Nat.reduceMul, Nat.reduceSub, Nat.reduceLeDiff, Nat.reduceLT, Int.reduceToNat, Int.reduceLE, Int.reduceLT, Int.reduceEq, UInt8.reduceOfNat, Nxt, exIf, c7', c7'', hwy, hlf, hlt, c8]
                  · simp only [go_sem, ↓reduceIte, reduceCtorEq, upd_ne, back_new (no_at), Nat.reduceAdd, Nat.reduceEqDiff, Nat.reduceMul, Nat.reduceSub, Nat.reduceLeDiff, Nat.reduceLT, Int.reduceToNat, Int.reduceLE, Int.reduceLT, Int.reduceEq, UInt8.reduceOfNat, Nxt, exIf, c7', c7'', hwy, hlf, hlt, c8]
                · have c7' : 32768 ≤ ((wAt s 6 : Nat) : Int) := by omega
                  have c7'' : 32768 ≤ wAt s 6 := by omega
                  simp only [go_sem, ↓reduceIte, reduceCtorEq, upd_ne, back_new (no_at), Nat.reduceAdd, Nat.reduceEqDiff, Nat.reduceMul, Nat.reduceSub, Nat.reduceLeDiff, Nat.reduceLT, Int.reduceToNat, Int.reduceLE, Int.reduceLT, Int.reduceEq, UInt8.reduceOfNat, Nxt, exIf, c7', c7'', hlf, hlt]
        · simp only [go_sem, ↓reduceIte, reduceCtorEq, upd_ne, back_new (no_at), Nat.reduceAdd, Nat.reduceEqDiff, Nat.reduceMul, Nat.reduceSub, Nat.reduceLeDiff, Nat.reduceLT, Int.reduceToNat, Int.reduceLE, Int.reduceLT, Int.reduceEq, UInt8.reduceOfNat, List.getElem?_map, Int.toNat_natCast, Nat.sub_zero, c1, c1', c2, c2a, c2b, c3, c3', c3'', c4, hr, g0, byteLV, e1, e2]
end
end Go.Ev

namespace Go.Ev
set_option linter.unusedSimpArgs false
set_option linter.unusedVariables false
set_option maxRecDepth 10000
set_option maxHeartbeats 8000000
theorem g_ok {k : Nat} (hk : k ≤ 5000) : Ok4 0 0 9 17 0 false [] (List.replicate k 120) := ⟨by omega, by omega, by omega, by omega, by omega, rfl, by simp, by simp, by simp, by rw [List.length_replicate]; simp; omega⟩
theorem g_fit {k : Nat} (hk : k ≤ 5000) : FitIp4 0 0 9 17 0 [192, 0, 2, 1] [192, 0, 2, 2] [] (List.replicate k 120) := ⟨by unfold I64; omega, by unfold I64; omega, by unfold I64; omega, by unfold I64; omega, by unfold I64; omega, rfl, rfl, by simp, by rw [List.length_replicate]; omega⟩
theorem inside_by4 {tos id ttl pt at' : Int} {df mo : Bool} {fr to op da : List UInt8} (ok : Ok4 tos id ttl pt at' mo op da) (hfr : fr.length = 4) (hto : to.length = 4) {j : Nat} (hj : 20 + op.length + min 8 da.length ≤ j) (hjl : j ≤ 20 + op.length + da.length) :
    iK4 ((by4 tos id ttl pt at' df mo fr to op da).take j) = 0 ∧ iC4 ((by4 tos id ttl pt at' df mo fr to op da).take j) = (da.length : Int) ∧
    iLV4 ((by4 tos id ttl pt at' df mo fr to op da).take j) = ip4LV tos id ttl pt at' df mo fr to op (da.take (j - (20 + op.length))) := by
  obtain ⟨p1, p2, p3, p4⟩ := parse_by4 (df := df) ok hfr hto []
  have hlen := by4_len (tos := tos) (id := id) (ttl := ttl) (pt := pt) (at' := at') (df := df) (mo := mo) (op := op) (da := da) hfr hto
  rw [List.append_nil] at p1 p2 p3 p4
  generalize by4 tos id ttl pt at' df mo fr to op da = B at *
  obtain ⟨c1, c2, c3⟩ := inside_cut p1 (j := j) (by rw [p2, p3, show 20 + op.length + da.length - (20 + op.length) = da.length by omega]; exact hj) (by omega)
  refine ⟨c1, by rw [c2, p2, p3]; omega, ?_⟩
  rw [c3, p2]
  unfold pLV4 at p4
  rw [if_pos (pK4_zero.2 p1)] at p4
  simp only [LV.agg.injEq, List.cons.injEq, LV.int.injEq, LV.bool.injEq, LV.bytes.injEq, LV.str.injEq, true_and, and_true] at p4
  obtain ⟨q1, q2, q3, q4, q5, q6, q7, q8, q9, q10, q11⟩ := p4
  rw [q1, q2, q3, q4, q5, q6, q7, q8, q9, q10, q11]
section
variable {S : Sys} (hS : Has S) (n : Nat)
include hS
theorem ev_parse_by4 {tos id ttl pt at' : Int} {df mo : Bool} {fr to op da : List UInt8} (ok : Ok4 tos id ttl pt at' mo op da) (hfr : fr.length = 4) (hto : to.length = 4) :
    S.ev (n + 4) id_ip4_Parse [.str (by4 tos id ttl pt at' df mo fr to op da)] none = some (.tup [ip4LV tos id ttl pt at' df mo fr to op da, .nili], none) ∧
    S.ev (n + 4) id_interpreterref03_Parse [.str (by4 tos id ttl pt at' df mo fr to op da)] none = some (.tup [ip4LV tos id ttl pt at' df mo fr to op da, .int .i64 0], none) := by
  obtain ⟨p1, p2, p3, p4⟩ := parse_by4 (df := df) ok hfr hto []
  have hlen := by4_len (tos := tos) (id := id) (ttl := ttl) (pt := pt) (at' := at') (df := df) (mo := mo) (op := op) (da := da) hfr hto
  have k1 := ok.kop
  have k2 := ok.kall
  have k3 := ok.kat
  rw [List.append_nil] at p1 p2 p3 p4
  constructor
  · rw [ev_parse4 hS n _ (by omega), p4, pK4_zero.2 p1]; rfl
  · rw [ev_rparse3 hS n _ (by omega), p4, pK4_zero.2 p1]
end
end Go.Ev
