/- Part 6 of a proof: what the functions yield. It stands by itself; no condition. -/
import Derived.Test.YtbdkfdkmefebnaaE5
/- Layer 3, the document's: bytes parsed. -/
namespace Go.Ev
set_option linter.unusedSimpArgs false
set_option linter.unusedVariables false
set_option maxRecDepth 4000
set_option maxHeartbeats 4000000
section
variable {S : Sys} (hS : Has S) (n : Nat)
include hS
theorem ev_number3 (s : List UInt8) (i : Nat) (h : i + 2 ≤ s.length) (hs : s.length ≤ 140737488351232) : S.ev (n + 3) id_interpreterref03_number [.str s, .int .i64 (i : Int)] none = some (.int .i64 (wAt s i : Nat), none) := by
  rw [Sys.step hS.h_interpreterref03_number, F_interpreterref03_number_eq]
  unfold F_interpreterref03_number
  have ht : S.ev (n + 2) id_interpreterref01_Reader_Number [.ptr 0 0 [] 0, .int .i64 2] (some (rdLV s i)) = some (.tup [.int .i64 ((numN ((s.drop i).take 2) : Nat) : Int), .int .i64 0], some (rdLV s (i + 2))) := ev_rNumber hS n s i 2 h (by omega) hs
  rw [numN_two h] at ht
  simp only [to_ob]
  simp only [go_sem, ↓reduceIte, reduceCtorEq, upd_ne, back_new (no_at), Nat.reduceAdd, Nat.reduceEqDiff, Nat.reduceMul, Nat.reduceSub, Nat.reduceLeDiff, Nat.reduceLT, Int.reduceToNat, Int.reduceLE, Int.reduceLT, Int.reduceEq, UInt8.reduceOfNat, ht]
theorem ev_rparse3 (s : List UInt8) (hs : s.length ≤ 1000000) : S.ev (n + 4) id_interpreterref03_Parse [.str s] none = some (.tup [pLV4 s, .int .i64 (pK4 s)], none) := by
  rw [Sys.step hS.h_interpreterref03_Parse, F_interpreterref03_Parse_eq]
  unfold F_interpreterref03_Parse
  (try simp only [guard_merge, or_merge, and_merge, or_pick, and_pick, guard_or, guard_and]); simp only [to_ob]
  unfold pLV4 pK4
  by_cases c1 : s.length < 20
  · have c1' : (s.length : Int) < 20 := by omega
    simp only [go_sem, ↓reduceIte, reduceCtorEq, upd_ne, back_new (no_at), Nat.reduceAdd, Nat.reduceEqDiff, Nat.reduceMul, Nat.reduceSub, Nat.reduceLeDiff, Nat.reduceLT, Int.reduceToNat, Int.reduceLE, Int.reduceLT, Int.reduceEq, UInt8.reduceOfNat, c1, c1']
  · have c1' : ¬ (s.length : Int) < 20 := by omega
    have g0 := get_def (s := s) (i := 0) (by omega)
    have hb0 := bAt_le s 0
    have e1 : IntKind.i64.wrap ((s.getD 0 0).toNat : Int) = ((bAt s 0 : Nat) : Int) := wrap_id (by omega) (by unfold bAt at hb0; omega)
    have e2 : IntKind.i64.wrap (4 * IntKind.i64.wrap (((bAt s 0 : Nat) : Int) - 64)) = 4 * (((bAt s 0 : Nat) : Int) - 64) := by
      rw [wrap_id (n := ((bAt s 0 : Nat) : Int) - 64) (by omega) (by omega), wrap_id (by omega) (by omega)]
    by_cases c2 : bAt s 0 / 16 ≠ 4 ∨ n4 s < 20
    · rw [if_neg c1, if_pos c2]
      by_cases c2a : 4 * (((bAt s 0 : Nat) : Int) - 64) < 20
      · simp only [go_sem, ↓reduceIte, reduceCtorEq, upd_ne, back_new (no_at), Nat.reduceAdd, Nat.reduceEqDiff, Nat.reduceMul, Nat.reduceSub, Nat.reduceLeDiff, Nat.reduceLT, Int.reduceToNat, Int.reduceLE, Int.reduceLT, Int.reduceEq, UInt8.reduceOfNat, List.getElem?_map, Int.toNat_natCast, c1', c2a, g0, byteLV, e1, e2]
      · have c2b : 60 < 4 * (((bAt s 0 : Nat) : Int) - 64) := by unfold n4 at c2; omega
        simp only [go_sem, ↓reduceIte, reduceCtorEq, upd_ne, back_new (no_at), Nat.reduceAdd, Nat.reduceEqDiff, Nat.reduceMul, Nat.reduceSub, Nat.reduceLeDiff, Nat.reduceLT, Int.reduceToNat, Int.reduceLE, Int.reduceLT, Int.reduceEq, UInt8.reduceOfNat, List.getElem?_map, Int.toNat_natCast, c1', c2a, c2b, g0, byteLV, e1, e2]
    · have hn : 4 * (((bAt s 0 : Nat) : Int) - 64) = ((n4 s : Nat) : Int) := by unfold n4 at c2 ⊢; omega
      rw [hn] at e2
      have c2a : ¬ ((n4 s : Nat) : Int) < 20 := by omega
      have c2b : ¬ 60 < ((n4 s : Nat) : Int) := by unfold n4; omega
      by_cases c3 : s.length < n4 s
      · have c3' : (s.length : Int) < ((n4 s : Nat) : Int) := by omega
        simp only [go_sem, ↓reduceIte, reduceCtorEq, upd_ne, back_new (no_at), Nat.reduceAdd, Nat.reduceEqDiff, Nat.reduceMul, Nat.reduceSub, Nat.reduceLeDiff, Nat.reduceLT, Int.reduceToNat, Int.reduceLE, Int.reduceLT, Int.reduceEq, UInt8.reduceOfNat, List.getElem?_map, Int.toNat_natCast, c1, c1', c2, c2a, c2b, c3, c3', g0, byteLV, e1, e2]
      · have c3' : ¬ (s.length : Int) < ((n4 s : Nat) : Int) := by omega
        have c3'' : n4 s ≤ s.length := by omega
        have hr := ev_rOf hS (n + 1) (s.take (n4 s)) (by rw [List.length_take]; omega)
        have hr : S.ev (n + 3) id_interpreterref02_Of [.str (s.take (n4 s))] none = some (.int .i64 (sumS (s.take (n4 s))), none) := hr
        by_cases c4 : sumS (s.take (n4 s)) = 0
        · have t2 : S.ev (n + 3) id_interpreterref03_number [.str s, .int .i64 2] none = some (.int .i64 (wAt s 2 : Nat), none) := ev_number3 hS n s 2 (by omega) (by omega)
          have t6 : S.ev (n + 3) id_interpreterref03_number [.str s, .int .i64 6] none = some (.int .i64 (wAt s 6 : Nat), none) := ev_number3 hS n s 6 (by omega) (by omega)
          have t4 : S.ev (n + 3) id_interpreterref03_number [.str s, .int .i64 4] none = some (.int .i64 (wAt s 4 : Nat), none) := ev_number3 hS n s 4 (by omega) (by omega)
          by_cases c5 : wAt s 2 < n4 s
          · have c5' : ((wAt s 2 : Nat) : Int) < ((n4 s : Nat) : Int) := by omega
            simp only [go_sem, ↓reduceIte, reduceCtorEq, upd_ne, back_new (no_at), Nat.reduceAdd, Nat.reduceEqDiff, Nat.reduceMul, Nat.reduceSub, Nat.reduceLeDiff, Nat.reduceLT, Int.reduceToNat, Int.reduceLE, Int.reduceLT, Int.reduceEq, UInt8.reduceOfNat, List.getElem?_map, Int.toNat_natCast, Nat.sub_zero, c1, c1', c2, c2a, c2b, c3, c3', c3'', c4, hr, t2, t6, c5, c5', g0, byteLV, e1, e2]
          · have c5' : ¬ ((wAt s 2 : Nat) : Int) < ((n4 s : Nat) : Int) := by omega
            have c5'' : n4 s ≤ wAt s 2 := by omega
            by_cases c6 : s.length < wAt s 2
            · have c6' : (s.length : Int) < ((wAt s 2 : Nat) : Int) := by omega
              simp only [go_sem, ↓reduceIte, reduceCtorEq, upd_ne, back_new (no_at), Nat.reduceAdd, Nat.reduceEqDiff, Nat.reduceMul, Nat.reduceSub, Nat.reduceLeDiff, Nat.reduceLT, Int.reduceToNat, Int.reduceLE, Int.reduceLT, Int.reduceEq, UInt8.reduceOfNat, List.getElem?_map, Int.toNat_natCast, Nat.sub_zero, c1, c1', c2, c2a, c2b, c3, c3', c3'', c4, hr, t2, t6, c5, c5', c6, c6', g0, byteLV, e1, e2]
            · have c6' : ¬ (s.length : Int) < ((wAt s 2 : Nat) : Int) := by omega
              have c6'' : wAt s 2 ≤ s.length := by omega
              have g1 := get_def (s := s) (i := 1) (by omega)
              have g8 := get_def (s := s) (i := 8) (by omega)
              have g9 := get_def (s := s) (i := 9) (by omega)
              have hb1 := bAt_le s 1
              have hb8 := bAt_le s 8
              have hb9 := bAt_le s 9
              have hw6 := wAt_le s 6
              have w1 : IntKind.i64.wrap ((s.getD 1 0).toNat : Int) = ((bAt s 1 : Nat) : Int) := wrap_id (by omega) (by unfold bAt at hb1; omega)
              have w8 : IntKind.i64.wrap ((s.getD 8 0).toNat : Int) = ((bAt s 8 : Nat) : Int) := wrap_id (by omega) (by unfold bAt at hb8; omega)
              have w9 : IntKind.i64.wrap ((s.getD 9 0).toNat : Int) = ((bAt s 9 : Nat) : Int) := wrap_id (by omega) (by unfold bAt at hb9; omega)
              have f1 : IntKind.i64.wrap (Int.tmod ((wAt s 6 : Nat) : Int) 8192 * 8) = pat4 s := by
                rw [show Int.tmod ((wAt s 6 : Nat) : Int) 8192 = ((wAt s 6 % 8192 : Nat) : Int) from rfl, wrap_id (by omega) (by omega)]; unfold pat4; omega
              have f2 : IntKind.i64.wrap (Int.tdiv ((wAt s 6 : Nat) : Int) 16384) = ((wAt s 6 / 16384 : Nat) : Int) := by
                rw [show Int.tdiv ((wAt s 6 : Nat) : Int) 16384 = ((wAt s 6 / 16384 : Nat) : Int) from rfl, wrap_id (by omega) (by omega)]
              have f3 : IntKind.i64.wrap (Int.tdiv ((wAt s 6 : Nat) : Int) 8192) = ((wAt s 6 / 8192 : Nat) : Int) := by
                rw [show Int.tdiv ((wAt s 6 : Nat) : Int) 8192 = ((wAt s 6 / 8192 : Nat) : Int) from rfl, wrap_id (by omega) (by omega)]
              have f4 : decide (Int.tmod ((wAt s 6 / 16384 : Nat) : Int) 2 = 1) = pdf4 s := by
                rw [show Int.tmod ((wAt s 6 / 16384 : Nat) : Int) 2 = ((wAt s 6 / 16384 % 2 : Nat) : Int) from rfl]; unfold pdf4; exact decide_eq_decide.2 (by omega)
              have f5 : decide (Int.tmod ((wAt s 6 / 8192 : Nat) : Int) 2 = 1) = pmo4 s := by
                rw [show Int.tmod ((wAt s 6 / 8192 : Nat) : Int) 2 = ((wAt s 6 / 8192 % 2 : Nat) : Int) from rfl]; unfold pmo4; exact decide_eq_decide.2 (by omega)
              have l20 : 20 ≤ n4 s := by omega
              have hlf : (pfr4 s).length = 4 := by unfold pfr4; simp; omega
              have hlt : (pto4 s).length = 4 := by unfold pto4; simp; omega
              have hwy := ev_Why3 hS (n + 1) (tos := (bAt s 1 : Nat)) (id := (wAt s 4 : Nat)) (ttl := (bAt s 8 : Nat)) (pt := (bAt s 9 : Nat)) (at' := pat4 s) (df := pdf4 s) (mo := pmo4 s) (op := pop4 s) (da := pda4 s) hlf hlt (by unfold pop4; simp; omega) (by unfold pda4; simp; omega)
              have hwy : S.ev (n + 3) id_interpreterref03_Why [ip4LV (bAt s 1 : Nat) (wAt s 4 : Nat) (bAt s 8 : Nat) (bAt s 9 : Nat) (pat4 s) (pdf4 s) (pmo4 s) (pfr4 s) (pto4 s) (pop4 s) (pda4 s)] none = some (.int .i64 (pwhy4 s), none) := hwy
              have v3 : (s.drop 20).take (n4 s - 20) = pop4 s := rfl
              have v4 : (s.drop (n4 s)).take (wAt s 2 - n4 s) = pda4 s := rfl
              simp only [go_sem, ↓reduceIte, reduceCtorEq, upd_ne, back_new (no_at), Nat.reduceAdd, Nat.reduceEqDiff, Nat.reduceMul, Nat.reduceSub, Nat.reduceLeDiff, Nat.reduceLT, Int.reduceToNat, Int.reduceLE, Int.reduceLT, Int.reduceEq, UInt8.reduceOfNat, List.getElem?_map, Int.toNat_natCast, Nat.sub_zero, c1, c1', c2, c2a, c2b, c3, c3', c3'', c4, hr, t2, t6, t4, c5, c5', c5'', c6, c6', c6'', l20, g0, g1, g8, g9, byteLV, e1, e2, w1, w8, w9, f1, f2, f3, f4, f5, v3, v4]
              have r0 : ([0, 0, 0, 0] : List UInt8) = List.replicate (4 - 0) 0 := rfl
              refine while_rule (fun k q => ∃ i : Nat, i + k = 4 ∧ q = ([.int .i64 (i : Int)], upd (upd (upd noSlots 2 (.obj 1 z4LV)) 4 (.obj 1 z4LV)) 8 (.obj 1 (ip4LV (bAt s 1 : Nat) (wAt s 4 : Nat) (bAt s 8 : Nat) (bAt s 9 : Nat) (pat4 s) (pdf4 s) (pmo4 s) ((pfr4 s).take i ++ List.replicate (4 - i) 0) ((pto4 s).take i ++ List.replicate (4 - i) 0) (pop4 s) (pda4 s))))) 4 ⟨0, rfl, by simp⟩ ?_
              rintro k q ⟨i, hi, rfl⟩
              simp only [go_sem, ↓reduceIte, reduceCtorEq, upd_ne, back_new (no_at), Nat.reduceAdd, Nat.reduceEqDiff, Nat.reduceMul, Nat.reduceSub, Nat.reduceLeDiff, Nat.reduceLT, Int.reduceToNat, Int.reduceLE, Int.reduceLT, Int.reduceEq, UInt8.reduceOfNat]
              refine nxt_ite (fun h => ?_) (fun h => ?_)
              · have hi4 : i < 4 := by omega
                have ga := get_def (s := s) (i := 12 + i) (by omega)
                have gb := get_def (s := s) (i := 16 + i) (by omega)
                have i1 : IntKind.i64.wrap (12 + (i : Int)) = ((12 + i : Nat) : Int) := by rw [wrap_id (by omega) (by omega)]; omega
                have i2 : IntKind.i64.wrap (16 + (i : Int)) = ((16 + i : Nat) : Int) := by rw [wrap_id (by omega) (by omega)]; omega
                have i3 : IntKind.i64.wrap ((i : Int) + 1) = ((i + 1 : Nat) : Int) := by rw [wrap_id (by omega) (by omega)]; omega
                have hla : ((pfr4 s).take i ++ List.replicate (4 - i) 0).length = 4 := by rw [List.length_append, List.length_take, List.length_replicate]; omega
                have hlb : ((pto4 s).take i ++ List.replicate (4 - i) 0).length = 4 := by rw [List.length_append, List.length_take, List.length_replicate]; omega
                obtain ⟨ca, hca⟩ : ∃ c0, ((pfr4 s).take i ++ List.replicate (4 - i) 0)[i]? = some c0 := ⟨_, List.getElem?_eq_getElem (by omega)⟩
                obtain ⟨cb, hcb⟩ : ∃ c0, ((pto4 s).take i ++ List.replicate (4 - i) 0)[i]? = some c0 := ⟨_, List.getElem?_eq_getElem (by omega)⟩
                have sa := set_mid hlf hi4 (sub_get (s := s) (a := 12) (m := 4) hi4 (by omega))
                have sb := set_mid hlt hi4 (sub_get (s := s) (a := 16) (m := 4) hi4 (by omega))
                have hla2 : ((pfr4 s).take (i + 1) ++ List.replicate (4 - (i + 1)) 0).length = 4 := by rw [List.length_append, List.length_take, List.length_replicate]; omega
                simp only [go_sem, ↓reduceIte, reduceCtorEq, upd_ne, back_new (no_at), Nat.reduceAdd, Nat.reduceEqDiff, Nat.reduceMul, Nat.reduceSub, Nat.reduceLeDiff, Nat.reduceLT, Int.reduceToNat, Int.reduceLE, Int.reduceLT, Int.reduceEq, UInt8.reduceOfNat, List.getElem?_map, Int.toNat_natCast, ga, gb, i1, i2, i3, hla, hlb, hla2, hca, hcb, sa, sb, hi4, byteLV, u8_lt, UInt8.ofNat_toNat, Nat.mul_one, eq_self]
                exact ⟨k - 1, by omega, i + 1, by omega, rfl⟩
              · obtain rfl : i = 4 := by omega
                have ta : (pfr4 s).take 4 ++ List.replicate (4 - 4) 0 = pfr4 s := by rw [List.take_of_length_le (by omega)]; simp
                have tb : (pto4 s).take 4 ++ List.replicate (4 - 4) 0 = pto4 s := by rw [List.take_of_length_le (by omega)]; simp
                rw [ta, tb]
                by_cases c7 : wAt s 6 < 32768
                · have c7' : ¬ 32768 ≤ ((wAt s 6 : Nat) : Int) := by omega
                  have c7'' : ¬ 32768 ≤ wAt s 6 := by omega
                  by_cases c8 : pwhy4 s = 0
                  · rw [c8] at hwy
                    simp only [go_sem, ↓reduceIte, reduceCtorEq, upd_ne, back_new (no_at), Nat.reduceAdd, Nat.reduceEqDiff, Nat.reduceMul, Nat.reduceSub, Nat.reduceLeDiff, Nat.reduceLT, Int.reduceToNat, Int.reduceLE, Int.reduceLT, Int.reduceEq, UInt8.reduceOfNat, Nxt, exIf, c7', c7'', hwy, hlf, hlt, c8]
                  · simp only [go_sem, ↓reduceIte, reduceCtorEq, upd_ne, back_new (no_at), Nat.reduceAdd, Nat.reduceEqDiff, Nat.reduceMul, Nat.reduceSub, Nat.reduceLeDiff, Nat.reduceLT, Int.reduceToNat, Int.reduceLE, Int.reduceLT, Int.reduceEq, UInt8.reduceOfNat, Nxt, exIf, c7', c7'', hwy, hlf, hlt, c8]
                · have c7' : 32768 ≤ ((wAt s 6 : Nat) : Int) := by omega
                  have c7'' : 32768 ≤ wAt s 6 := by omega
                  simp only [go_sem, ↓reduceIte, reduceCtorEq, upd_ne, back_new (no_at), Nat.reduceAdd, Nat.reduceEqDiff, Nat.reduceMul, Nat.reduceSub, Nat.reduceLeDiff, Nat.reduceLT, Int.reduceToNat, Int.reduceLE, Int.reduceLT, Int.reduceEq, UInt8.reduceOfNat, Nxt, exIf, c7', c7'', hlf, hlt]
        · simp only [go_sem, ↓reduceIte, reduceCtorEq, upd_ne, back_new (no_at), Nat.reduceAdd, Nat.reduceEqDiff, Nat.reduceMul, Nat.reduceSub, Nat.reduceLeDiff, Nat.reduceLT, Int.reduceToNat, Int.reduceLE, Int.reduceLT, Int.reduceEq, UInt8.reduceOfNat, List.getElem?_map, Int.toNat_natCast, Nat.sub_zero, c1, c1', c2, c2a, c2b, c3, c3', c3'', c4, hr, g0, byteLV, e1, e2]
end
end Go.Ev

/- Layer 15: the law is awake. -/
namespace Go.Ev
set_option linter.unusedSimpArgs false
set_option linter.unusedVariables false
set_option maxRecDepth 10000
set_option maxHeartbeats 8000000
theorem g_ok {k : Nat} (hk : k ≤ 5000) : Ok4 0 0 9 17 0 false [] (List.replicate k 120) := ⟨by omega, by omega, by omega, by omega, by omega, rfl, by simp, by simp, by simp, by rw [List.length_replicate]; simp; omega⟩
theorem g_fit {k : Nat} (hk : k ≤ 5000) : FitIp4 0 0 9 17 0 [192, 0, 2, 1] [192, 0, 2, 2] [] (List.replicate k 120) := ⟨by unfold I64; omega, by unfold I64; omega, by unfold I64; omega, by unfold I64; omega, by unfold I64; omega, rfl, rfl, by simp, by rw [List.length_replicate]; omega⟩
/-- What Inside4 says of the beginning of a packet's bytes. -/
theorem inside_by4 {tos id ttl pt at' : Int} {df mo : Bool} {fr to op da : List UInt8} (ok : Ok4 tos id ttl pt at' mo op da) (hfr : fr.length = 4) (hto : to.length = 4) {j : Nat} (hj : 20 + op.length + min 8 da.length ≤ j) (hjl : j ≤ 20 + op.length + da.length) :
    iK4 ((by4 tos id ttl pt at' df mo fr to op da).take j) = 0 ∧ iC4 ((by4 tos id ttl pt at' df mo fr to op da).take j) = (da.length : Int) ∧
    iLV4 ((by4 tos id ttl pt at' df mo fr to op da).take j) = ip4LV tos id ttl pt at' df mo fr to op (da.take (j - (20 + op.length))) := by
  obtain ⟨p1, p2, p3, p4⟩ := parse_by4 (df := df) ok hfr hto []
  have hlen := by4_len (tos := tos) (id := id) (ttl := ttl) (pt := pt) (at' := at') (df := df) (mo := mo) (op := op) (da := da) hfr hto
  rw [List.append_nil] at p1 p2 p3 p4
  generalize by4 tos id ttl pt at' df mo fr to op da = B at *
  obtain ⟨c1, c2, c3⟩ := inside_cut p1 (j := j) (by rw [p2, p3, show 20 + op.length + da.length - (20 + op.length) = da.length by omega]; exact hj) (by omega)
  refine ⟨c1, by rw [c2, p2, p3]; omega, ?_⟩
  rw [c3, p2]
  unfold pLV4 at p4
  rw [if_pos (pK4_zero.2 p1)] at p4
  simp only [LV.agg.injEq, List.cons.injEq, LV.int.injEq, LV.bool.injEq, LV.bytes.injEq, LV.str.injEq, true_and, and_true] at p4
  obtain ⟨q1, q2, q3, q4, q5, q6, q7, q8, q9, q10, q11⟩ := p4
  rw [q1, q2, q3, q4, q5, q6, q7, q8, q9, q10, q11]
section
variable {S : Sys} (hS : Has S) (n : Nat)
include hS
theorem ev_parse_by4 {tos id ttl pt at' : Int} {df mo : Bool} {fr to op da : List UInt8} (ok : Ok4 tos id ttl pt at' mo op da) (hfr : fr.length = 4) (hto : to.length = 4) :
    S.ev (n + 4) id_ip4_Parse [.str (by4 tos id ttl pt at' df mo fr to op da)] none = some (.tup [ip4LV tos id ttl pt at' df mo fr to op da, .nili], none) ∧
    S.ev (n + 4) id_interpreterref03_Parse [.str (by4 tos id ttl pt at' df mo fr to op da)] none = some (.tup [ip4LV tos id ttl pt at' df mo fr to op da, .int .i64 0], none) := by
  obtain ⟨p1, p2, p3, p4⟩ := parse_by4 (df := df) ok hfr hto []
  have hlen := by4_len (tos := tos) (id := id) (ttl := ttl) (pt := pt) (at' := at') (df := df) (mo := mo) (op := op) (da := da) hfr hto
  have k1 := ok.kop
  have k2 := ok.kall
  have k3 := ok.kat
  rw [List.append_nil] at p1 p2 p3 p4
  constructor
  · rw [ev_parse4 hS n _ (by omega), p4, pK4_zero.2 p1]; rfl
  · rw [ev_rparse3 hS n _ (by omega), p4, pK4_zero.2 p1]
end
end Go.Ev

/- Layer 3: the document's bytes. -/
namespace Go.Ev
set_option linter.unusedSimpArgs false
set_option linter.unusedVariables false
set_option maxRecDepth 4000
set_option maxHeartbeats 4000000
section
variable {S : Sys} (hS : Has S) (n : Nat)
include hS
theorem ev_rbytes3_ff {tos id ttl pt at' : Int} {fr to op da : List UInt8} (hf : FitIp4 tos id ttl pt at' fr to op da) (hd : da.length ≤ 400000) :
    S.ev (n + 3) id_interpreterref03_Bytes [ip4LV tos id ttl pt at' false false fr to op da] none = some (.tup [.str (by4R tos id ttl pt at' false false fr to op da), .int .i64 (why4 tos id ttl pt at' false op da)], none) := by
  rw [Sys.step hS.h_interpreterref03_Bytes, F_interpreterref03_Bytes_eq]
  unfold F_interpreterref03_Bytes
  have hfr := hf.hfr
  have hto := hf.hto
  have hw := ev_Why3 hS (n) (tos := tos) (id := id) (ttl := ttl) (pt := pt) (at' := at') (df := false) (mo := false) hfr hto hf.hop hf.hda
  (try simp only [guard_merge, or_merge, and_merge, or_pick, and_pick, guard_or, guard_and]); simp only [to_ob]
  unfold by4R
  by_cases c : why4 tos id ttl pt at' false op da = 0
  · have ok := why4_zero.1 c
    obtain ⟨o1, o2, o3, o4, o5, o6, o7, o8, o9, o10⟩ := ok
    rw [c] at hw
    obtain ⟨tos, rfl⟩ := Int.eq_ofNat_of_zero_le o1.1
    obtain ⟨ttl, rfl⟩ := Int.eq_ofNat_of_zero_le o2.1
    obtain ⟨pt, rfl⟩ := Int.eq_ofNat_of_zero_le o3.1
    obtain ⟨id, rfl⟩ := Int.eq_ofNat_of_zero_le o4.1
    obtain ⟨at', rfl⟩ := Int.eq_ofNat_of_zero_le o5.1
    have e1 : IntKind.i64.wrap (Int.tdiv (at' : Int) 8) = ((at' / 8 : Nat) : Int) := by
      rw [show Int.tdiv (at' : Int) 8 = ((at' / 8 : Nat) : Int) from rfl, wrap_id (by omega) (by omega)]
    have e2 : IntKind.i64.wrap (20 + (op.length : Int)) = ((20 + op.length : Nat) : Int) := by rw [wrap_id (by omega) (by omega)]; omega
    have e3 : IntKind.i64.wrap (Int.tdiv ((20 + op.length : Nat) : Int) 4) = (((20 + op.length) / 4 : Nat) : Int) := by
      rw [show Int.tdiv ((20 + op.length : Nat) : Int) 4 = (((20 + op.length) / 4 : Nat) : Int) from rfl, wrap_id (by omega) (by omega)]
    have e4 : IntKind.i64.wrap (64 + (((20 + op.length) / 4 : Nat) : Int)) = ((64 + (20 + op.length) / 4 : Nat) : Int) := by rw [wrap_id (by omega) (by omega)]; omega
    have e5 : IntKind.i64.wrap (((20 + op.length : Nat) : Int) + (da.length : Int)) = ((20 + op.length + da.length : Nat) : Int) := by rw [wrap_id (by omega) (by omega)]; omega
    have d1 := div256 (x := 20 + op.length + da.length) (by omega)
    have d2 := div256 (x := id) (by omega)
    have f1 : IntKind.i64.wrap (((at' / 8 : Nat) : Int) + 8192) = ((at' / 8 + 8192 : Nat) : Int) := by rw [wrap_id (by omega) (by omega)]; omega
    have f2 : IntKind.i64.wrap (((at' / 8 : Nat) : Int) + 16384) = ((at' / 8 + 16384 : Nat) : Int) := by rw [wrap_id (by omega) (by omega)]; omega
    have f3 : IntKind.i64.wrap (((at' / 8 + 8192 : Nat) : Int) + 16384) = ((at' / 8 + 8192 + 16384 : Nat) : Int) := by rw [wrap_id (by omega) (by omega)]; omega
    have d3 := div256 (x := at' / 8) (by omega)
    have d4 := div256 (x := at' / 8 + 8192) (by omega)
    have d5 := div256 (x := at' / 8 + 16384) (by omega)
    have d6 := div256 (x := at' / 8 + 8192 + 16384) (by omega)
    have hx := sumS_le (hd4 tos id ttl pt at' false false op da ++ (fr ++ (to ++ op)))
    have hx : 0 ≤ x4 tos id ttl pt at' false false fr to op da ∧ x4 tos id ttl pt at' false false fr to op da ≤ 65535 := hx
    have hat4 : at4 at' false false = at' / 8 := by unfold at4; rw [Int.toNat_natCast, if_neg Bool.false_ne_true, if_neg Bool.false_ne_true]; omega
    obtain ⟨A, hAA⟩ : ∃ A, A = at' / 8 := ⟨_, rfl⟩
    rw [← hAA] at hat4
    simp only [← hAA] at e1 f1 f2 f3 d3 d4 d5 d6
    simp only [go_sem, ↓reduceIte, reduceCtorEq, upd_ne, back_new (no_at), Nat.reduceAdd, Nat.reduceEqDiff, Nat.reduceMul, Nat.reduceSub, Nat.reduceLeDiff, Nat.reduceLT, Int.reduceToNat, Int.reduceLE, Int.reduceLT, Int.reduceEq, UInt8.reduceOfNat, hw, c, hfr, hto, e1, e2, e3, e4, e5, f1, f2, f3, d1, d2, d3, mod256, u8w, u8_ofNat_mod, e_cBslM, u8_lt, UInt8.ofNat_toNat, cBytes_eq]
    generalize hH : ([UInt8.ofNat (64 + (20 + op.length) / 4), UInt8.ofNat tos, UInt8.ofNat ((20 + op.length + da.length) / 256), UInt8.ofNat (20 + op.length + da.length), UInt8.ofNat (id / 256), UInt8.ofNat id, UInt8.ofNat (A / 256), UInt8.ofNat A, UInt8.ofNat ttl, UInt8.ofNat pt, 0, 0] : List UInt8) = H
    have hHl : H.length = 12 := by rw [← hH]; rfl
    refine while_rule (fun k q => ∃ i : Nat, i + k = 4 ∧ q = ([.arr 70 (1 + i) [] 0 0 (12 + i), .int .i64 (i : Int)], upd noSlots 70 (.obj (1 + i) (.bytes (H ++ fr.take i))))) 4 ⟨0, rfl, by simp⟩ ?_
    rintro k q ⟨i, hi, rfl⟩
    simp only [go_sem, ↓reduceIte, reduceCtorEq, upd_ne, back_new (no_at), Nat.reduceAdd, Nat.reduceEqDiff, Nat.reduceMul, Nat.reduceSub, Nat.reduceLeDiff, Nat.reduceLT, Int.reduceToNat, Int.reduceLE, Int.reduceLT, Int.reduceEq, UInt8.reduceOfNat]
    refine nxt_ite (fun h => ?_) (fun h => ?_)
    · have hlt : i < fr.length := by omega
      obtain ⟨b, hb⟩ : ∃ b, fr[i]? = some b := ⟨fr[i], by simp [hlt]⟩
      have htk : fr.take (i + 1) = fr.take i ++ [b] := by rw [List.take_add_one, hb]; rfl
      have hlen : (H ++ fr.take i).length = 12 + i := by rw [List.length_append, List.length_take]; omega
      have hA := wApp_arr (d := 81) (t := 70) (g := 1 + i) (sl := noSlots) (b := H ++ fr.take i) (s := [b]) (by simp; omega)
      rw [hlen] at hA
      simp only [List.map_cons, List.map_nil, byteLV, List.length_cons, List.length_nil] at hA
      have i1 : IntKind.i64.wrap ((i : Int) + 1) = ((i + 1 : Nat) : Int) := by rw [wrap_id (by omega) (by omega)]; omega
      have i2 : i < 4 := by omega
      simp only [go_sem, ↓reduceIte, reduceCtorEq, upd_ne, back_new (no_at), Nat.reduceAdd, Nat.reduceEqDiff, Nat.reduceMul, Nat.reduceSub, Nat.reduceLeDiff, Nat.reduceLT, Int.reduceToNat, Int.reduceLE, Int.reduceLT, Int.reduceEq, UInt8.reduceOfNat, List.getElem?_map, Int.toNat_natCast, hfr, hb, byteLV, hA, i1, i2]
      refine ⟨k - 1, by omega, i + 1, by omega, ?_⟩
      rw [htk, ← List.append_assoc, show 1 + (i + 1) = 1 + i + 1 by omega, show 12 + (i + 1) = 12 + i + 1 by omega]
    · obtain rfl : i = 4 := by omega
      have hf4 : fr.take 4 = fr := List.take_of_length_le (by omega)
      rw [hf4]
      simp only [go_sem, ↓reduceIte, reduceCtorEq, upd_ne, back_new (no_at), Nat.reduceAdd, Nat.reduceEqDiff, Nat.reduceMul, Nat.reduceSub, Nat.reduceLeDiff, Nat.reduceLT, Int.reduceToNat, Int.reduceLE, Int.reduceLT, Int.reduceEq, UInt8.reduceOfNat, Nxt, exIf]
      refine while_rule (fun k q => ∃ i : Nat, i + k = 4 ∧ q = ([.arr 70 (5 + i) [] 0 0 (16 + i), .int .i64 (i : Int)], upd noSlots 70 (.obj (5 + i) (.bytes (H ++ fr ++ to.take i))))) 4 ⟨0, rfl, by simp⟩ ?_
      rintro k q ⟨i, hi, rfl⟩
      simp only [go_sem, ↓reduceIte, reduceCtorEq, upd_ne, back_new (no_at), Nat.reduceAdd, Nat.reduceEqDiff, Nat.reduceMul, Nat.reduceSub, Nat.reduceLeDiff, Nat.reduceLT, Int.reduceToNat, Int.reduceLE, Int.reduceLT, Int.reduceEq, UInt8.reduceOfNat]
      refine nxt_ite (fun h => ?_) (fun h => ?_)
      · have hlt : i < to.length := by omega
        obtain ⟨b, hb⟩ : ∃ b, to[i]? = some b := ⟨to[i], by simp [hlt]⟩
        have htk : to.take (i + 1) = to.take i ++ [b] := by rw [List.take_add_one, hb]; rfl
        have hlen : (H ++ fr ++ to.take i).length = 16 + i := by rw [List.length_append, List.length_append, List.length_take]; omega
        have hA := wApp_arr (d := 92) (t := 70) (g := 5 + i) (sl := noSlots) (b := H ++ fr ++ to.take i) (s := [b]) (by rw [hlen]; simp; omega)
        rw [hlen] at hA
        simp only [List.map_cons, List.map_nil, byteLV, List.length_cons, List.length_nil] at hA
        have i1 : IntKind.i64.wrap ((i : Int) + 1) = ((i + 1 : Nat) : Int) := by rw [wrap_id (by omega) (by omega)]; omega
        have i2 : i < 4 := by omega
        simp only [go_sem, ↓reduceIte, reduceCtorEq, upd_ne, back_new (no_at), Nat.reduceAdd, Nat.reduceEqDiff, Nat.reduceMul, Nat.reduceSub, Nat.reduceLeDiff, Nat.reduceLT, Int.reduceToNat, Int.reduceLE, Int.reduceLT, Int.reduceEq, UInt8.reduceOfNat, List.getElem?_map, Int.toNat_natCast, hto, hb, byteLV, hA, i1, i2]
        refine ⟨k - 1, by omega, i + 1, by omega, ?_⟩
        rw [htk, ← List.append_assoc, show 5 + (i + 1) = 5 + i + 1 by omega, show 16 + (i + 1) = 16 + i + 1 by omega]
      · obtain rfl : i = 4 := by omega
        have ht4 : to.take 4 = to := List.take_of_length_le (by omega)
        rw [ht4]
        have hHf : (H ++ fr ++ to).length = 20 := by simp; omega
        have hB := wApp_str (d := 96) (t := 70) (g := 9) (sl := noSlots) (b := H ++ fr ++ to) (s := op) (by omega)
        rw [hHf] at hB
        simp only [go_sem, ↓reduceIte, reduceCtorEq, upd_ne, back_new (no_at), Nat.reduceAdd, Nat.reduceEqDiff, Nat.reduceMul, Nat.reduceSub, Nat.reduceLeDiff, Nat.reduceLT, Int.reduceToNat, Int.reduceLE, Int.reduceLT, Int.reduceEq, UInt8.reduceOfNat, Nxt, exIf, hB]
        obtain ⟨z, hz⟩ := Int.eq_ofNat_of_zero_le hx.1
        have hL : (H ++ fr ++ to ++ op).length = 20 + op.length := by rw [List.length_append]; omega
        have hsum : sumAt 0 (H ++ fr ++ to ++ op) = sumAt 0 (hd4 tos id ttl pt at' false false op da ++ (fr ++ (to ++ op))) := by
          rw [← hH, show hd4 tos id ttl pt at' false false op da = [UInt8.ofNat (64 + (20 + op.length) / 4), UInt8.ofNat tos, UInt8.ofNat ((20 + op.length + da.length) / 256), UInt8.ofNat (20 + op.length + da.length), UInt8.ofNat (id / 256), UInt8.ofNat id, UInt8.ofNat (A / 256), UInt8.ofNat A, UInt8.ofNat ttl, UInt8.ofNat pt] by unfold hd4; rw [hat4]; simp only [beB1, beB2, Int.toNat_natCast, List.cons_append, List.nil_append]]
          have hsz := sum_zeros (h := [UInt8.ofNat (64 + (20 + op.length) / 4), UInt8.ofNat tos, UInt8.ofNat ((20 + op.length + da.length) / 256), UInt8.ofNat (20 + op.length + da.length), UInt8.ofNat (id / 256), UInt8.ofNat id, UInt8.ofNat (A / 256), UInt8.ofNat A, UInt8.ofNat ttl, UInt8.ofNat pt]) (r := fr ++ (to ++ op)) (by simp only [List.length_cons, List.length_nil])
          simp only [List.cons_append, List.nil_append, List.append_assoc] at hsz ⊢
          exact hsz
        have ho := ev_rOf hS n (H ++ fr ++ to ++ op) (by omega)
        have ho : S.ev (n + 2) id_interpreterref02_Of [.str (H ++ fr ++ to ++ op)] none = some (.int .i64 (z : Int), none) := by
          rw [ho, hsum, ← hz]; unfold x4 sumS; exact rfl
        have hby : by4 tos id ttl pt at' false false fr to op da = ((H ++ fr ++ to ++ op).set 10 (UInt8.ofNat (z / 256))).set 11 (UInt8.ofNat z) ++ da := by
          unfold by4
          rw [hz, ← hH, show hd4 tos id ttl pt at' false false op da = [UInt8.ofNat (64 + (20 + op.length) / 4), UInt8.ofNat tos, UInt8.ofNat ((20 + op.length + da.length) / 256), UInt8.ofNat (20 + op.length + da.length), UInt8.ofNat (id / 256), UInt8.ofNat id, UInt8.ofNat (A / 256), UInt8.ofNat A, UInt8.ofNat ttl, UInt8.ofNat pt] by unfold hd4; rw [hat4]; simp only [beB1, beB2, Int.toNat_natCast, List.cons_append, List.nil_append]]
          simp only [beB2, Int.toNat_natCast, List.cons_append, List.nil_append, List.append_assoc, List.set_cons_succ, List.set_cons_zero]
        have d7 := div256 (x := z) (by omega)
        rw [hby]
        generalize H ++ fr ++ to ++ op = B at *
        have g10 : B[10]? = some B[10] := List.getElem?_eq_getElem (by omega)
        have g11 : (B.set 10 (UInt8.ofNat (z / 256)))[11]? = some B[11] := by rw [List.getElem?_set_ne (by omega)]; exact List.getElem?_eq_getElem (by omega)
        generalize B[10] = b10 at *
        generalize B[11] = b11 at *
        have l1 : 10 < 20 + op.length := by omega
        have l2 : 11 < 20 + op.length := by omega
        have l3 : (((B.set 10 (UInt8.ofNat (z / 256))).set 11 (UInt8.ofNat z))).take (20 + op.length) = (B.set 10 (UInt8.ofNat (z / 256))).set 11 (UInt8.ofNat z) := List.take_of_length_le (by simp; omega)
        have l4 : B.take (20 + op.length) = B := List.take_of_length_le (by omega)
        have l5 : 20 + op.length + da.length ≤ maxStr := by unfold maxStr; omega
        simp only [go_sem, ↓reduceIte, reduceCtorEq, upd_ne, back_new (no_at), Nat.reduceAdd, Nat.reduceEqDiff, Nat.reduceMul, Nat.reduceSub, Nat.reduceLeDiff, Nat.reduceLT, Int.reduceToNat, Int.reduceLE, Int.reduceLT, Int.reduceEq, UInt8.reduceOfNat, List.getElem?_map, Int.toNat_natCast, ho, hL, g10, g11, l1, l2, l3, l4, l5, byteLV, d7, mod256, u8w, u8_ofNat_mod, u8_lt, UInt8.ofNat_toNat, Nat.le_refl]
  · simp only [go_sem, ↓reduceIte, reduceCtorEq, upd_ne, back_new (no_at), Nat.reduceAdd, Nat.reduceEqDiff, Nat.reduceMul, Nat.reduceSub, Nat.reduceLeDiff, Nat.reduceLT, Int.reduceToNat, Int.reduceLE, Int.reduceLT, Int.reduceEq, UInt8.reduceOfNat, hw, c, hfr, hto]
theorem ev_rbytes3_ft {tos id ttl pt at' : Int} {fr to op da : List UInt8} (hf : FitIp4 tos id ttl pt at' fr to op da) (hd : da.length ≤ 400000) :
    S.ev (n + 3) id_interpreterref03_Bytes [ip4LV tos id ttl pt at' false true fr to op da] none = some (.tup [.str (by4R tos id ttl pt at' false true fr to op da), .int .i64 (why4 tos id ttl pt at' true op da)], none) := by
  rw [Sys.step hS.h_interpreterref03_Bytes, F_interpreterref03_Bytes_eq]
  unfold F_interpreterref03_Bytes
  have hfr := hf.hfr
  have hto := hf.hto
  have hw := ev_Why3 hS (n) (tos := tos) (id := id) (ttl := ttl) (pt := pt) (at' := at') (df := false) (mo := true) hfr hto hf.hop hf.hda
  (try simp only [guard_merge, or_merge, and_merge, or_pick, and_pick, guard_or, guard_and]); simp only [to_ob]
  unfold by4R
  by_cases c : why4 tos id ttl pt at' true op da = 0
  · have ok := why4_zero.1 c
    obtain ⟨o1, o2, o3, o4, o5, o6, o7, o8, o9, o10⟩ := ok
    rw [c] at hw
    obtain ⟨tos, rfl⟩ := Int.eq_ofNat_of_zero_le o1.1
    obtain ⟨ttl, rfl⟩ := Int.eq_ofNat_of_zero_le o2.1
    obtain ⟨pt, rfl⟩ := Int.eq_ofNat_of_zero_le o3.1
    obtain ⟨id, rfl⟩ := Int.eq_ofNat_of_zero_le o4.1
    obtain ⟨at', rfl⟩ := Int.eq_ofNat_of_zero_le o5.1
    have e1 : IntKind.i64.wrap (Int.tdiv (at' : Int) 8) = ((at' / 8 : Nat) : Int) := by
      rw [show Int.tdiv (at' : Int) 8 = ((at' / 8 : Nat) : Int) from rfl, wrap_id (by omega) (by omega)]
    have e2 : IntKind.i64.wrap (20 + (op.length : Int)) = ((20 + op.length : Nat) : Int) := by rw [wrap_id (by omega) (by omega)]; omega
    have e3 : IntKind.i64.wrap (Int.tdiv ((20 + op.length : Nat) : Int) 4) = (((20 + op.length) / 4 : Nat) : Int) := by
      rw [show Int.tdiv ((20 + op.length : Nat) : Int) 4 = (((20 + op.length) / 4 : Nat) : Int) from rfl, wrap_id (by omega) (by omega)]
    have e4 : IntKind.i64.wrap (64 + (((20 + op.length) / 4 : Nat) : Int)) = ((64 + (20 + op.length) / 4 : Nat) : Int) := by rw [wrap_id (by omega) (by omega)]; omega
    have e5 : IntKind.i64.wrap (((20 + op.length : Nat) : Int) + (da.length : Int)) = ((20 + op.length + da.length : Nat) : Int) := by rw [wrap_id (by omega) (by omega)]; omega
    have d1 := div256 (x := 20 + op.length + da.length) (by omega)
    have d2 := div256 (x := id) (by omega)
    have f1 : IntKind.i64.wrap (((at' / 8 : Nat) : Int) + 8192) = ((at' / 8 + 8192 : Nat) : Int) := by rw [wrap_id (by omega) (by omega)]; omega
    have f2 : IntKind.i64.wrap (((at' / 8 : Nat) : Int) + 16384) = ((at' / 8 + 16384 : Nat) : Int) := by rw [wrap_id (by omega) (by omega)]; omega
    have f3 : IntKind.i64.wrap (((at' / 8 + 8192 : Nat) : Int) + 16384) = ((at' / 8 + 8192 + 16384 : Nat) : Int) := by rw [wrap_id (by omega) (by omega)]; omega
    have d3 := div256 (x := at' / 8) (by omega)
    have d4 := div256 (x := at' / 8 + 8192) (by omega)
    have d5 := div256 (x := at' / 8 + 16384) (by omega)
    have d6 := div256 (x := at' / 8 + 8192 + 16384) (by omega)
    have hx := sumS_le (hd4 tos id ttl pt at' false true op da ++ (fr ++ (to ++ op)))
    have hx : 0 ≤ x4 tos id ttl pt at' false true fr to op da ∧ x4 tos id ttl pt at' false true fr to op da ≤ 65535 := hx
    have hat4 : at4 at' false true = at' / 8 + 8192 := by unfold at4; rw [Int.toNat_natCast, if_neg Bool.false_ne_true, if_pos rfl]
    obtain ⟨A, hAA⟩ : ∃ A, A = at' / 8 + 8192 := ⟨_, rfl⟩
    rw [← hAA] at hat4
    simp only [← hAA] at e1 f1 f2 f3 d3 d4 d5 d6
    simp only [go_sem, ↓reduceIte, reduceCtorEq, upd_ne, back_new (no_at), Nat.reduceAdd, Nat.reduceEqDiff, Nat.reduceMul, Nat.reduceSub, Nat.reduceLeDiff, Nat.reduceLT, Int.reduceToNat, Int.reduceLE, Int.reduceLT, Int.reduceEq, UInt8.reduceOfNat, hw, c, hfr, hto, e1, e2, e3, e4, e5, f1, f2, f3, d1, d2, d4, mod256, u8w, u8_ofNat_mod, e_cBslM, u8_lt, UInt8.ofNat_toNat, cBytes_eq]
    generalize hH : ([UInt8.ofNat (64 + (20 + op.length) / 4), UInt8.ofNat tos, UInt8.ofNat ((20 + op.length + da.length) / 256), UInt8.ofNat (20 + op.length + da.length), UInt8.ofNat (id / 256), UInt8.ofNat id, UInt8.ofNat (A / 256), UInt8.ofNat A, UInt8.ofNat ttl, UInt8.ofNat pt, 0, 0] : List UInt8) = H
    have hHl : H.length = 12 := by rw [← hH]; rfl
    refine while_rule (fun k q => ∃ i : Nat, i + k = 4 ∧ q = ([.arr 70 (1 + i) [] 0 0 (12 + i), .int .i64 (i : Int)], upd noSlots 70 (.obj (1 + i) (.bytes (H ++ fr.take i))))) 4 ⟨0, rfl, by simp⟩ ?_
    rintro k q ⟨i, hi, rfl⟩
    simp only [go_sem, ↓reduceIte, reduceCtorEq, upd_ne, back_new (no_at), Nat.reduceAdd, Nat.reduceEqDiff, Nat.reduceMul, Nat.reduceSub, Nat.reduceLeDiff, Nat.reduceLT, Int.reduceToNat, Int.reduceLE, Int.reduceLT, Int.reduceEq, UInt8.reduceOfNat]
    refine nxt_ite (fun h => ?_) (fun h => ?_)
    · have hlt : i < fr.length := by omega
      obtain ⟨b, hb⟩ : ∃ b, fr[i]? = some b := ⟨fr[i], by simp [hlt]⟩
      have htk : fr.take (i + 1) = fr.take i ++ [b] := by rw [List.take_add_one, hb]; rfl
      have hlen : (H ++ fr.take i).length = 12 + i := by rw [List.length_append, List.length_take]; omega
      have hA := wApp_arr (d := 81) (t := 70) (g := 1 + i) (sl := noSlots) (b := H ++ fr.take i) (s := [b]) (by simp; omega)
      rw [hlen] at hA
      simp only [List.map_cons, List.map_nil, byteLV, List.length_cons, List.length_nil] at hA
      have i1 : IntKind.i64.wrap ((i : Int) + 1) = ((i + 1 : Nat) : Int) := by rw [wrap_id (by omega) (by omega)]; omega
      have i2 : i < 4 := by omega
      simp only [go_sem, ↓reduceIte, reduceCtorEq, upd_ne, back_new (no_at), Nat.reduceAdd, Nat.reduceEqDiff, Nat.reduceMul, Nat.reduceSub, Nat.reduceLeDiff, Nat.reduceLT, Int.reduceToNat, Int.reduceLE, Int.reduceLT, Int.reduceEq, UInt8.reduceOfNat, List.getElem?_map, Int.toNat_natCast, hfr, hb, byteLV, hA, i1, i2]
      refine ⟨k - 1, by omega, i + 1, by omega, ?_⟩
      rw [htk, ← List.append_assoc, show 1 + (i + 1) = 1 + i + 1 by omega, show 12 + (i + 1) = 12 + i + 1 by omega]
    · obtain rfl : i = 4 := by omega
      have hf4 : fr.take 4 = fr := List.take_of_length_le (by omega)
      rw [hf4]
      simp only [go_sem, ↓reduceIte, reduceCtorEq, upd_ne, back_new (no_at), Nat.reduceAdd, Nat.reduceEqDiff, Nat.reduceMul, Nat.reduceSub, Nat.reduceLeDiff, Nat.reduceLT, Int.reduceToNat, Int.reduceLE, Int.reduceLT, Int.reduceEq, UInt8.reduceOfNat, Nxt, exIf]
      refine while_rule (fun k q => ∃ i : Nat, i + k = 4 ∧ q = ([.arr 70 (5 + i) [] 0 0 (16 + i), .int .i64 (i : Int)], upd noSlots 70 (.obj (5 + i) (.bytes (H ++ fr ++ to.take i))))) 4 ⟨0, rfl, by simp⟩ ?_
      rintro k q ⟨i, hi, rfl⟩
      simp only [go_sem, ↓reduceIte, reduceCtorEq, upd_ne, back_new (no_at), Nat.reduceAdd, Nat.reduceEqDiff, Nat.reduceMul, Nat.reduceSub, Nat.reduceLeDiff, Nat.reduceLT, Int.reduceToNat, Int.reduceLE, Int.reduceLT, Int.reduceEq, UInt8.reduceOfNat]
      refine nxt_ite (fun h => ?_) (fun h => ?_)
      · have hlt : i < to.length := by omega
        obtain ⟨b, hb⟩ : ∃ b, to[i]? = some b := ⟨to[i], by simp [hlt]⟩
        have htk : to.take (i + 1) = to.take i ++ [b] := by rw [List.take_add_one, hb]; rfl
        have hlen : (H ++ fr ++ to.take i).length = 16 + i := by rw [List.length_append, List.length_append, List.length_take]; omega
        have hA := wApp_arr (d := 92) (t := 70) (g := 5 + i) (sl := noSlots) (b := H ++ fr ++ to.take i) (s := [b]) (by rw [hlen]; simp; omega)
        rw [hlen] at hA
        simp only [List.map_cons, List.map_nil, byteLV, List.length_cons, List.length_nil] at hA
        have i1 : IntKind.i64.wrap ((i : Int) + 1) = ((i + 1 : Nat) : Int) := by rw [wrap_id (by omega) (by omega)]; omega
        have i2 : i < 4 := by omega
        simp only [go_sem, ↓reduceIte, reduceCtorEq, upd_ne, back_new (no_at), Nat.reduceAdd, Nat.reduceEqDiff, Nat.reduceMul, Nat.reduceSub, Nat.reduceLeDiff, Nat.reduceLT, Int.reduceToNat, Int.reduceLE, Int.reduceLT, Int.reduceEq, UInt8.reduceOfNat, List.getElem?_map, Int.toNat_natCast, hto, hb, byteLV, hA, i1, i2]
        refine ⟨k - 1, by omega, i + 1, by omega, ?_⟩
        rw [htk, ← List.append_assoc, show 5 + (i + 1) = 5 + i + 1 by omega, show 16 + (i + 1) = 16 + i + 1 by omega]
      · obtain rfl : i = 4 := by omega
        have ht4 : to.take 4 = to := List.take_of_length_le (by omega)
        rw [ht4]
        have hHf : (H ++ fr ++ to).length = 20 := by simp; omega
        have hB := wApp_str (d := 96) (t := 70) (g := 9) (sl := noSlots) (b := H ++ fr ++ to) (s := op) (by omega)
        rw [hHf] at hB
        simp only [go_sem, ↓reduceIte, reduceCtorEq, upd_ne, back_new (no_at), Nat.reduceAdd, Nat.reduceEqDiff, Nat.reduceMul, Nat.reduceSub, Nat.reduceLeDiff, Nat.reduceLT, Int.reduceToNat, Int.reduceLE, Int.reduceLT, Int.reduceEq, UInt8.reduceOfNat, Nxt, exIf, hB]
        obtain ⟨z, hz⟩ := Int.eq_ofNat_of_zero_le hx.1
        have hL : (H ++ fr ++ to ++ op).length = 20 + op.length := by rw [List.length_append]; omega
        have hsum : sumAt 0 (H ++ fr ++ to ++ op) = sumAt 0 (hd4 tos id ttl pt at' false true op da ++ (fr ++ (to ++ op))) := by
          rw [← hH, show hd4 tos id ttl pt at' false true op da = [UInt8.ofNat (64 + (20 + op.length) / 4), UInt8.ofNat tos, UInt8.ofNat ((20 + op.length + da.length) / 256), UInt8.ofNat (20 + op.length + da.length), UInt8.ofNat (id / 256), UInt8.ofNat id, UInt8.ofNat (A / 256), UInt8.ofNat A, UInt8.ofNat ttl, UInt8.ofNat pt] by unfold hd4; rw [hat4]; simp only [beB1, beB2, Int.toNat_natCast, List.cons_append, List.nil_append]]
          have hsz := sum_zeros (h := [UInt8.ofNat (64 + (20 + op.length) / 4), UInt8.ofNat tos, UInt8.ofNat ((20 + op.length + da.length) / 256), UInt8.ofNat (20 + op.length + da.length), UInt8.ofNat (id / 256), UInt8.ofNat id, UInt8.ofNat (A / 256), UInt8.ofNat A, UInt8.ofNat ttl, UInt8.ofNat pt]) (r := fr ++ (to ++ op)) (by simp only [List.length_cons, List.length_nil])
          simp only [List.cons_append, List.nil_append, List.append_assoc] at hsz ⊢
          exact hsz
        have ho := ev_rOf hS n (H ++ fr ++ to ++ op) (by omega)
        have ho : S.ev (n + 2) id_interpreterref02_Of [.str (H ++ fr ++ to ++ op)] none = some (.int .i64 (z : Int), none) := by
          rw [ho, hsum, ← hz]; unfold x4 sumS; exact rfl
        have hby : by4 tos id ttl pt at' false true fr to op da = ((H ++ fr ++ to ++ op).set 10 (UInt8.ofNat (z / 256))).set 11 (UInt8.ofNat z) ++ da := by
          unfold by4
          rw [hz, ← hH, show hd4 tos id ttl pt at' false true op da = [UInt8.ofNat (64 + (20 + op.length) / 4), UInt8.ofNat tos, UInt8.ofNat ((20 + op.length + da.length) / 256), UInt8.ofNat (20 + op.length + da.length), UInt8.ofNat (id / 256), UInt8.ofNat id, UInt8.ofNat (A / 256), UInt8.ofNat A, UInt8.ofNat ttl, UInt8.ofNat pt] by unfold hd4; rw [hat4]; simp only [beB1, beB2, Int.toNat_natCast, List.cons_append, List.nil_append]]
          simp only [beB2, Int.toNat_natCast, List.cons_append, List.nil_append, List.append_assoc, List.set_cons_succ, List.set_cons_zero]
        have d7 := div256 (x := z) (by omega)
        rw [hby]
        generalize H ++ fr ++ to ++ op = B at *
        have g10 : B[10]? = some B[10] := List.getElem?_eq_getElem (by omega)
        have g11 : (B.set 10 (UInt8.ofNat (z / 256)))[11]? = some B[11] := by rw [List.getElem?_set_ne (by omega)]; exact List.getElem?_eq_getElem (by omega)
        generalize B[10] = b10 at *
        generalize B[11] = b11 at *
        have l1 : 10 < 20 + op.length := by omega
        have l2 : 11 < 20 + op.length := by omega
        have l3 : (((B.set 10 (UInt8.ofNat (z / 256))).set 11 (UInt8.ofNat z))).take (20 + op.length) = (B.set 10 (UInt8.ofNat (z / 256))).set 11 (UInt8.ofNat z) := List.take_of_length_le (by simp; omega)
        have l4 : B.take (20 + op.length) = B := List.take_of_length_le (by omega)
        have l5 : 20 + op.length + da.length ≤ maxStr := by unfold maxStr; omega
        simp only [go_sem, ↓reduceIte, reduceCtorEq, upd_ne, back_new (no_at), Nat.reduceAdd, Nat.reduceEqDiff, Nat.reduceMul, Nat.reduceSub, Nat.reduceLeDiff, Nat.reduceLT, Int.reduceToNat, Int.reduceLE, Int.reduceLT, Int.reduceEq, UInt8.reduceOfNat, List.getElem?_map, Int.toNat_natCast, ho, hL, g10, g11, l1, l2, l3, l4, l5, byteLV, d7, mod256, u8w, u8_ofNat_mod, u8_lt, UInt8.ofNat_toNat, Nat.le_refl]
  · simp only [go_sem, ↓reduceIte, reduceCtorEq, upd_ne, back_new (no_at), Nat.reduceAdd, Nat.reduceEqDiff, Nat.reduceMul, Nat.reduceSub, Nat.reduceLeDiff, Nat.reduceLT, Int.reduceToNat, Int.reduceLE, Int.reduceLT, Int.reduceEq, UInt8.reduceOfNat, hw, c, hfr, hto]
theorem ev_rbytes3_tf {tos id ttl pt at' : Int} {fr to op da : List UInt8} (hf : FitIp4 tos id ttl pt at' fr to op da) (hd : da.length ≤ 400000) :
    S.ev (n + 3) id_interpreterref03_Bytes [ip4LV tos id ttl pt at' true false fr to op da] none = some (.tup [.str (by4R tos id ttl pt at' true false fr to op da), .int .i64 (why4 tos id ttl pt at' false op da)], none) := by
  rw [Sys.step hS.h_interpreterref03_Bytes, F_interpreterref03_Bytes_eq]
  unfold F_interpreterref03_Bytes
  have hfr := hf.hfr
  have hto := hf.hto
  have hw := ev_Why3 hS (n) (tos := tos) (id := id) (ttl := ttl) (pt := pt) (at' := at') (df := true) (mo := false) hfr hto hf.hop hf.hda
  (try simp only [guard_merge, or_merge, and_merge, or_pick, and_pick, guard_or, guard_and]); simp only [to_ob]
  unfold by4R
  by_cases c : why4 tos id ttl pt at' false op da = 0
  · have ok := why4_zero.1 c
    obtain ⟨o1, o2, o3, o4, o5, o6, o7, o8, o9, o10⟩ := ok
    rw [c] at hw
    obtain ⟨tos, rfl⟩ := Int.eq_ofNat_of_zero_le o1.1
    obtain ⟨ttl, rfl⟩ := Int.eq_ofNat_of_zero_le o2.1
    obtain ⟨pt, rfl⟩ := Int.eq_ofNat_of_zero_le o3.1
    obtain ⟨id, rfl⟩ := Int.eq_ofNat_of_zero_le o4.1
    obtain ⟨at', rfl⟩ := Int.eq_ofNat_of_zero_le o5.1
    have e1 : IntKind.i64.wrap (Int.tdiv (at' : Int) 8) = ((at' / 8 : Nat) : Int) := by
      rw [show Int.tdiv (at' : Int) 8 = ((at' / 8 : Nat) : Int) from rfl, wrap_id (by omega) (by omega)]
    have e2 : IntKind.i64.wrap (20 + (op.length : Int)) = ((20 + op.length : Nat) : Int) := by rw [wrap_id (by omega) (by omega)]; omega
    have e3 : IntKind.i64.wrap (Int.tdiv ((20 + op.length : Nat) : Int) 4) = (((20 + op.length) / 4 : Nat) : Int) := by
      rw [show Int.tdiv ((20 + op.length : Nat) : Int) 4 = (((20 + op.length) / 4 : Nat) : Int) from rfl, wrap_id (by omega) (by omega)]
    have e4 : IntKind.i64.wrap (64 + (((20 + op.length) / 4 : Nat) : Int)) = ((64 + (20 + op.length) / 4 : Nat) : Int) := by rw [wrap_id (by omega) (by omega)]; omega
    have e5 : IntKind.i64.wrap (((20 + op.length : Nat) : Int) + (da.length : Int)) = ((20 + op.length + da.length : Nat) : Int) := by rw [wrap_id (by omega) (by omega)]; omega
    have d1 := div256 (x := 20 + op.length + da.length) (by omega)
    have d2 := div256 (x := id) (by omega)
    have f1 : IntKind.i64.wrap (((at' / 8 : Nat) : Int) + 8192) = ((at' / 8 + 8192 : Nat) : Int) := by rw [wrap_id (by omega) (by omega)]; omega
    have f2 : IntKind.i64.wrap (((at' / 8 : Nat) : Int) + 16384) = ((at' / 8 + 16384 : Nat) : Int) := by rw [wrap_id (by omega) (by omega)]; omega
    have f3 : IntKind.i64.wrap (((at' / 8 + 8192 : Nat) : Int) + 16384) = ((at' / 8 + 8192 + 16384 : Nat) : Int) := by rw [wrap_id (by omega) (by omega)]; omega
    have d3 := div256 (x := at' / 8) (by omega)
    have d4 := div256 (x := at' / 8 + 8192) (by omega)
    have d5 := div256 (x := at' / 8 + 16384) (by omega)
    have d6 := div256 (x := at' / 8 + 8192 + 16384) (by omega)
    have hx := sumS_le (hd4 tos id ttl pt at' true false op da ++ (fr ++ (to ++ op)))
    have hx : 0 ≤ x4 tos id ttl pt at' true false fr to op da ∧ x4 tos id ttl pt at' true false fr to op da ≤ 65535 := hx
    have hat4 : at4 at' true false = at' / 8 + 16384 := by unfold at4; rw [Int.toNat_natCast, if_pos rfl, if_neg Bool.false_ne_true]
    obtain ⟨A, hAA⟩ : ∃ A, A = at' / 8 + 16384 := ⟨_, rfl⟩
    rw [← hAA] at hat4
    simp only [← hAA] at e1 f1 f2 f3 d3 d4 d5 d6
    simp only [go_sem, ↓reduceIte, reduceCtorEq, upd_ne, back_new (no_at), Nat.reduceAdd, Nat.reduceEqDiff, Nat.reduceMul, Nat.reduceSub, Nat.reduceLeDiff, Nat.reduceLT, Int.reduceToNat, Int.reduceLE, Int.reduceLT, Int.reduceEq, UInt8.reduceOfNat, hw, c, hfr, hto, e1, e2, e3, e4, e5, f1, f2, f3, d1, d2, d5, mod256, u8w, u8_ofNat_mod, e_cBslM, u8_lt, UInt8.ofNat_toNat, cBytes_eq]
    generalize hH : ([UInt8.ofNat (64 + (20 + op.length) / 4), UInt8.ofNat tos, UInt8.ofNat ((20 + op.length + da.length) / 256), UInt8.ofNat (20 + op.length + da.length), UInt8.ofNat (id / 256), UInt8.ofNat id, UInt8.ofNat (A / 256), UInt8.ofNat A, UInt8.ofNat ttl, UInt8.ofNat pt, 0, 0] : List UInt8) = H
    have hHl : H.length = 12 := by rw [← hH]; rfl
    refine while_rule (fun k q => ∃ i : Nat, i + k = 4 ∧ q = ([.arr 70 (1 + i) [] 0 0 (12 + i), .int .i64 (i : Int)], upd noSlots 70 (.obj (1 + i) (.bytes (H ++ fr.take i))))) 4 ⟨0, rfl, by simp⟩ ?_
    rintro k q ⟨i, hi, rfl⟩
    simp only [go_sem, ↓reduceIte, reduceCtorEq, upd_ne, back_new (no_at), Nat.reduceAdd, Nat.reduceEqDiff, Nat.reduceMul, Nat.reduceSub, Nat.reduceLeDiff, Nat.reduceLT, Int.reduceToNat, Int.reduceLE, Int.reduceLT, Int.reduceEq, UInt8.reduceOfNat]
    refine nxt_ite (fun h => ?_) (fun h => ?_)
    · have hlt : i < fr.length := by omega
      obtain ⟨b, hb⟩ : ∃ b, fr[i]? = some b := ⟨fr[i], by simp [hlt]⟩
      have htk : fr.take (i + 1) = fr.take i ++ [b] := by rw [List.take_add_one, hb]; rfl
      have hlen : (H ++ fr.take i).length = 12 + i := by rw [List.length_append, List.length_take]; omega
      have hA := wApp_arr (d := 81) (t := 70) (g := 1 + i) (sl := noSlots) (b := H ++ fr.take i) (s := [b]) (by simp; omega)
      rw [hlen] at hA
      simp only [List.map_cons, List.map_nil, byteLV, List.length_cons, List.length_nil] at hA
      have i1 : IntKind.i64.wrap ((i : Int) + 1) = ((i + 1 : Nat) : Int) := by rw [wrap_id (by omega) (by omega)]; omega
      have i2 : i < 4 := by omega
      simp only [go_sem, ↓reduceIte, reduceCtorEq, upd_ne, back_new (no_at), Nat.reduceAdd, Nat.reduceEqDiff, Nat.reduceMul, Nat.reduceSub, Nat.reduceLeDiff, Nat.reduceLT, Int.reduceToNat, Int.reduceLE, Int.reduceLT, Int.reduceEq, UInt8.reduceOfNat, List.getElem?_map, Int.toNat_natCast, hfr, hb, byteLV, hA, i1, i2]
      refine ⟨k - 1, by omega, i + 1, by omega, ?_⟩
      rw [htk, ← List.append_assoc, show 1 + (i + 1) = 1 + i + 1 by omega, show 12 + (i + 1) = 12 + i + 1 by omega]
    · obtain rfl : i = 4 := by omega
      have hf4 : fr.take 4 = fr := List.take_of_length_le (by omega)
      rw [hf4]
      simp only [go_sem, ↓reduceIte, reduceCtorEq, upd_ne, back_new (no_at), Nat.reduceAdd, Nat.reduceEqDiff, Nat.reduceMul, Nat.reduceSub, Nat.reduceLeDiff, Nat.reduceLT, Int.reduceToNat, Int.reduceLE, Int.reduceLT, Int.reduceEq, UInt8.reduceOfNat, Nxt, exIf]
      refine while_rule (fun k q => ∃ i : Nat, i + k = 4 ∧ q = ([.arr 70 (5 + i) [] 0 0 (16 + i), .int .i64 (i : Int)], upd noSlots 70 (.obj (5 + i) (.bytes (H ++ fr ++ to.take i))))) 4 ⟨0, rfl, by simp⟩ ?_
      rintro k q ⟨i, hi, rfl⟩
      simp only [go_sem, ↓reduceIte, reduceCtorEq, upd_ne, back_new (no_at), Nat.reduceAdd, Nat.reduceEqDiff, Nat.reduceMul, Nat.reduceSub, Nat.reduceLeDiff, Nat.reduceLT, Int.reduceToNat, Int.reduceLE, Int.reduceLT, Int.reduceEq, UInt8.reduceOfNat]
      refine nxt_ite (fun h => ?_) (fun h => ?_)
      · have hlt : i < to.length := by omega
        obtain ⟨b, hb⟩ : ∃ b, to[i]? = some b := ⟨to[i], by simp [hlt]⟩
        have htk : to.take (i + 1) = to.take i ++ [b] := by rw [List.take_add_one, hb]; rfl
        have hlen : (H ++ fr ++ to.take i).length = 16 + i := by rw [List.length_append, List.length_append, List.length_take]; omega
        have hA := wApp_arr (d := 92) (t := 70) (g := 5 + i) (sl := noSlots) (b := H ++ fr ++ to.take i) (s := [b]) (by rw [hlen]; simp; omega)
        rw [hlen] at hA
        simp only [List.map_cons, List.map_nil, byteLV, List.length_cons, List.length_nil] at hA
        have i1 : IntKind.i64.wrap ((i : Int) + 1) = ((i + 1 : Nat) : Int) := by rw [wrap_id (by omega) (by omega)]; omega
        have i2 : i < 4 := by omega
        simp only [go_sem, ↓reduceIte, reduceCtorEq, upd_ne, back_new (no_at), Nat.reduceAdd, Nat.reduceEqDiff, Nat.reduceMul, Nat.reduceSub, Nat.reduceLeDiff, Nat.reduceLT, Int.reduceToNat, Int.reduceLE, Int.reduceLT, Int.reduceEq, UInt8.reduceOfNat, List.getElem?_map, Int.toNat_natCast, hto, hb, byteLV, hA, i1, i2]
        refine ⟨k - 1, by omega, i + 1, by omega, ?_⟩
        rw [htk, ← List.append_assoc, show 5 + (i + 1) = 5 + i + 1 by omega, show 16 + (i + 1) = 16 + i + 1 by omega]
      · obtain rfl : i = 4 := by omega
        have ht4 : to.take 4 = to := List.take_of_length_le (by omega)
        rw [ht4]
        have hHf : (H ++ fr ++ to).length = 20 := by simp; omega
        have hB := wApp_str (d := 96) (t := 70) (g := 9) (sl := noSlots) (b := H ++ fr ++ to) (s := op) (by omega)
        rw [hHf] at hB
        simp only [go_sem, ↓reduceIte, reduceCtorEq, upd_ne, back_new (no_at), Nat.reduceAdd, Nat.reduceEqDiff, Nat.reduceMul, Nat.reduceSub, Nat.reduceLeDiff, Nat.reduceLT, Int.reduceToNat, Int.reduceLE, Int.reduceLT, Int.reduceEq, UInt8.reduceOfNat, Nxt, exIf, hB]
        obtain ⟨z, hz⟩ := Int.eq_ofNat_of_zero_le hx.1
        have hL : (H ++ fr ++ to ++ op).length = 20 + op.length := by rw [List.length_append]; omega
        have hsum : sumAt 0 (H ++ fr ++ to ++ op) = sumAt 0 (hd4 tos id ttl pt at' true false op da ++ (fr ++ (to ++ op))) := by
          rw [← hH, show hd4 tos id ttl pt at' true false op da = [UInt8.ofNat (64 + (20 + op.length) / 4), UInt8.ofNat tos, UInt8.ofNat ((20 + op.length + da.length) / 256), UInt8.ofNat (20 + op.length + da.length), UInt8.ofNat (id / 256), UInt8.ofNat id, UInt8.ofNat (A / 256), UInt8.ofNat A, UInt8.ofNat ttl, UInt8.ofNat pt] by unfold hd4; rw [hat4]; simp only [beB1, beB2, Int.toNat_natCast, List.cons_append, List.nil_append]]
          have hsz := sum_zeros (h := [UInt8.ofNat (64 + (20 + op.length) / 4), UInt8.ofNat tos, UInt8.ofNat ((20 + op.length + da.length) / 256), UInt8.ofNat (20 + op.length + da.length), UInt8.ofNat (id / 256), UInt8.ofNat id, UInt8.ofNat (A / 256), UInt8.ofNat A, UInt8.ofNat ttl, UInt8.ofNat pt]) (r := fr ++ (to ++ op)) (by simp only [List.length_cons, List.length_nil])
          simp only [List.cons_append, List.nil_append, List.append_assoc] at hsz ⊢
          exact hsz
        have ho := ev_rOf hS n (H ++ fr ++ to ++ op) (by omega)
        have ho : S.ev (n + 2) id_interpreterref02_Of [.str (H ++ fr ++ to ++ op)] none = some (.int .i64 (z : Int), none) := by
          rw [ho, hsum, ← hz]; unfold x4 sumS; exact rfl
        have hby : by4 tos id ttl pt at' true false fr to op da = ((H ++ fr ++ to ++ op).set 10 (UInt8.ofNat (z / 256))).set 11 (UInt8.ofNat z) ++ da := by
          unfold by4
          rw [hz, ← hH, show hd4 tos id ttl pt at' true false op da = [UInt8.ofNat (64 + (20 + op.length) / 4), UInt8.ofNat tos, UInt8.ofNat ((20 + op.length + da.length) / 256), UInt8.ofNat (20 + op.length + da.length), UInt8.ofNat (id / 256), UInt8.ofNat id, UInt8.ofNat (A / 256), UInt8.ofNat A, UInt8.ofNat ttl, UInt8.ofNat pt] by unfold hd4; rw [hat4]; simp only [beB1, beB2, Int.toNat_natCast, List.cons_append, List.nil_append]]
          simp only [beB2, Int.toNat_natCast, List.cons_append, List.nil_append, List.append_assoc, List.set_cons_succ, List.set_cons_zero]
        have d7 := div256 (x := z) (by omega)
        rw [hby]
        generalize H ++ fr ++ to ++ op = B at *
        have g10 : B[10]? = some B[10] := List.getElem?_eq_getElem (by omega)
        have g11 : (B.set 10 (UInt8.ofNat (z / 256)))[11]? = some B[11] := by rw [List.getElem?_set_ne (by omega)]; exact List.getElem?_eq_getElem (by omega)
        generalize B[10] = b10 at *
        generalize B[11] = b11 at *
        have l1 : 10 < 20 + op.length := by omega
        have l2 : 11 < 20 + op.length := by omega
        have l3 : (((B.set 10 (UInt8.ofNat (z / 256))).set 11 (UInt8.ofNat z))).take (20 + op.length) = (B.set 10 (UInt8.ofNat (z / 256))).set 11 (UInt8.ofNat z) := List.take_of_length_le (by simp; omega)
        have l4 : B.take (20 + op.length) = B := List.take_of_length_le (by omega)
        have l5 : 20 + op.length + da.length ≤ maxStr := by unfold maxStr; omega
        simp only [go_sem, ↓reduceIte, reduceCtorEq, upd_ne, back_new (no_at), Nat.reduceAdd, Nat.reduceEqDiff, Nat.reduceMul, Nat.reduceSub, Nat.reduceLeDiff, Nat.reduceLT, Int.reduceToNat, Int.reduceLE, Int.reduceLT, Int.reduceEq, UInt8.reduceOfNat, List.getElem?_map, Int.toNat_natCast, ho, hL, g10, g11, l1, l2, l3, l4, l5, byteLV, d7, mod256, u8w, u8_ofNat_mod, u8_lt, UInt8.ofNat_toNat, Nat.le_refl]
  · simp only [go_sem, ↓reduceIte, reduceCtorEq, upd_ne, back_new (no_at), Nat.reduceAdd, Nat.reduceEqDiff, Nat.reduceMul, Nat.reduceSub, Nat.reduceLeDiff, Nat.reduceLT, Int.reduceToNat, Int.reduceLE, Int.reduceLT, Int.reduceEq, UInt8.reduceOfNat, hw, c, hfr, hto]
theorem ev_rbytes3_tt {tos id ttl pt at' : Int} {fr to op da : List UInt8} (hf : FitIp4 tos id ttl pt at' fr to op da) (hd : da.length ≤ 400000) :
    S.ev (n + 3) id_interpreterref03_Bytes [ip4LV tos id ttl pt at' true true fr to op da] none = some (.tup [.str (by4R tos id ttl pt at' true true fr to op da), .int .i64 (why4 tos id ttl pt at' true op da)], none) := by
  rw [Sys.step hS.h_interpreterref03_Bytes, F_interpreterref03_Bytes_eq]
  unfold F_interpreterref03_Bytes
  have hfr := hf.hfr
  have hto := hf.hto
  have hw := ev_Why3 hS (n) (tos := tos) (id := id) (ttl := ttl) (pt := pt) (at' := at') (df := true) (mo := true) hfr hto hf.hop hf.hda
  (try simp only [guard_merge, or_merge, and_merge, or_pick, and_pick, guard_or, guard_and]); simp only [to_ob]
  unfold by4R
  by_cases c : why4 tos id ttl pt at' true op da = 0
  · have ok := why4_zero.1 c
    obtain ⟨o1, o2, o3, o4, o5, o6, o7, o8, o9, o10⟩ := ok
    rw [c] at hw
    obtain ⟨tos, rfl⟩ := Int.eq_ofNat_of_zero_le o1.1
    obtain ⟨ttl, rfl⟩ := Int.eq_ofNat_of_zero_le o2.1
    obtain ⟨pt, rfl⟩ := Int.eq_ofNat_of_zero_le o3.1
    obtain ⟨id, rfl⟩ := Int.eq_ofNat_of_zero_le o4.1
    obtain ⟨at', rfl⟩ := Int.eq_ofNat_of_zero_le o5.1
    have e1 : IntKind.i64.wrap (Int.tdiv (at' : Int) 8) = ((at' / 8 : Nat) : Int) := by
      rw [show Int.tdiv (at' : Int) 8 = ((at' / 8 : Nat) : Int) from rfl, wrap_id (by omega) (by omega)]
    have e2 : IntKind.i64.wrap (20 + (op.length : Int)) = ((20 + op.length : Nat) : Int) := by rw [wrap_id (by omega) (by omega)]; omega
    have e3 : IntKind.i64.wrap (Int.tdiv ((20 + op.length : Nat) : Int) 4) = (((20 + op.length) / 4 : Nat) : Int) := by
      rw [show Int.tdiv ((20 + op.length : Nat) : Int) 4 = (((20 + op.length) / 4 : Nat) : Int) from rfl, wrap_id (by omega) (by omega)]
    have e4 : IntKind.i64.wrap (64 + (((20 + op.length) / 4 : Nat) : Int)) = ((64 + (20 + op.length) / 4 : Nat) : Int) := by rw [wrap_id (by omega) (by omega)]; omega
    have e5 : IntKind.i64.wrap (((20 + op.length : Nat) : Int) + (da.length : Int)) = ((20 + op.length + da.length : Nat) : Int) := by rw [wrap_id (by omega) (by omega)]; omega
    have d1 := div256 (x := 20 + op.length + da.length) (by omega)
    have d2 := div256 (x := id) (by omega)
    have f1 : IntKind.i64.wrap (((at' / 8 : Nat) : Int) + 8192) = ((at' / 8 + 8192 : Nat) : Int) := by rw [wrap_id (by omega) (by omega)]; omega
    have f2 : IntKind.i64.wrap (((at' / 8 : Nat) : Int) + 16384) = ((at' / 8 + 16384 : Nat) : Int) := by rw [wrap_id (by omega) (by omega)]; omega
    have f3 : IntKind.i64.wrap (((at' / 8 + 8192 : Nat) : Int) + 16384) = ((at' / 8 + 8192 + 16384 : Nat) : Int) := by rw [wrap_id (by omega) (by omega)]; omega
    have d3 := div256 (x := at' / 8) (by omega)
    have d4 := div256 (x := at' / 8 + 8192) (by omega)
    have d5 := div256 (x := at' / 8 + 16384) (by omega)
    have d6 := div256 (x := at' / 8 + 8192 + 16384) (by omega)
    have hx := sumS_le (hd4 tos id ttl pt at' true true op da ++ (fr ++ (to ++ op)))
    have hx : 0 ≤ x4 tos id ttl pt at' true true fr to op da ∧ x4 tos id ttl pt at' true true fr to op da ≤ 65535 := hx
    have hat4 : at4 at' true true = at' / 8 + 8192 + 16384 := by unfold at4; rw [Int.toNat_natCast, if_pos rfl, if_pos rfl]
    obtain ⟨A, hAA⟩ : ∃ A, A = at' / 8 + 8192 + 16384 := ⟨_, rfl⟩
    rw [← hAA] at hat4
    simp only [← hAA] at e1 f1 f2 f3 d3 d4 d5 d6
    simp only [go_sem, ↓reduceIte, reduceCtorEq, upd_ne, back_new (no_at), Nat.reduceAdd, Nat.reduceEqDiff, Nat.reduceMul, Nat.reduceSub, Nat.reduceLeDiff, Nat.reduceLT, Int.reduceToNat, Int.reduceLE, Int.reduceLT, Int.reduceEq, UInt8.reduceOfNat, hw, c, hfr, hto, e1, e2, e3, e4, e5, f1, f2, f3, d1, d2, d6, mod256, u8w, u8_ofNat_mod, e_cBslM, u8_lt, UInt8.ofNat_toNat, cBytes_eq]
    generalize hH : ([UInt8.ofNat (64 + (20 + op.length) / 4), UInt8.ofNat tos, UInt8.ofNat ((20 + op.length + da.length) / 256), UInt8.ofNat (20 + op.length + da.length), UInt8.ofNat (id / 256), UInt8.ofNat id, UInt8.ofNat (A / 256), UInt8.ofNat A, UInt8.ofNat ttl, UInt8.ofNat pt, 0, 0] : List UInt8) = H
    have hHl : H.length = 12 := by rw [← hH]; rfl
    refine while_rule (fun k q => ∃ i : Nat, i + k = 4 ∧ q = ([.arr 70 (1 + i) [] 0 0 (12 + i), .int .i64 (i : Int)], upd noSlots 70 (.obj (1 + i) (.bytes (H ++ fr.take i))))) 4 ⟨0, rfl, by simp⟩ ?_
    rintro k q ⟨i, hi, rfl⟩
    simp only [go_sem, ↓reduceIte, reduceCtorEq, upd_ne, back_new (no_at), Nat.reduceAdd, Nat.reduceEqDiff, Nat.reduceMul, Nat.reduceSub, Nat.reduceLeDiff, Nat.reduceLT, Int.reduceToNat, Int.reduceLE, Int.reduceLT, Int.reduceEq, UInt8.reduceOfNat]
    refine nxt_ite (fun h => ?_) (fun h => ?_)
    · have hlt : i < fr.length := by omega
      obtain ⟨b, hb⟩ : ∃ b, fr[i]? = some b := ⟨fr[i], by simp [hlt]⟩
      have htk : fr.take (i + 1) = fr.take i ++ [b] := by rw [List.take_add_one, hb]; rfl
      have hlen : (H ++ fr.take i).length = 12 + i := by rw [List.length_append, List.length_take]; omega
      have hA := wApp_arr (d := 81) (t := 70) (g := 1 + i) (sl := noSlots) (b := H ++ fr.take i) (s := [b]) (by simp; omega)
      rw [hlen] at hA
      simp only [List.map_cons, List.map_nil, byteLV, List.length_cons, List.length_nil] at hA
      have i1 : IntKind.i64.wrap ((i : Int) + 1) = ((i + 1 : Nat) : Int) := by rw [wrap_id (by omega) (by omega)]; omega
      have i2 : i < 4 := by omega
      simp only [go_sem, ↓reduceIte, reduceCtorEq, upd_ne, back_new (no_at), Nat.reduceAdd, Nat.reduceEqDiff, Nat.reduceMul, Nat.reduceSub, Nat.reduceLeDiff, Nat.reduceLT, Int.reduceToNat, Int.reduceLE, Int.reduceLT, Int.reduceEq, UInt8.reduceOfNat, List.getElem?_map, Int.toNat_natCast, hfr, hb, byteLV, hA, i1, i2]
      refine ⟨k - 1, by omega, i + 1, by omega, ?_⟩
      rw [htk, ← List.append_assoc, show 1 + (i + 1) = 1 + i + 1 by omega, show 12 + (i + 1) = 12 + i + 1 by omega]
    · obtain rfl : i = 4 := by omega
      have hf4 : fr.take 4 = fr := List.take_of_length_le (by omega)
      rw [hf4]
      simp only [go_sem, ↓reduceIte, reduceCtorEq, upd_ne, back_new (no_at), Nat.reduceAdd, Nat.reduceEqDiff, Nat.reduceMul, Nat.reduceSub, Nat.reduceLeDiff, Nat.reduceLT, Int.reduceToNat, Int.reduceLE, Int.reduceLT, Int.reduceEq, UInt8.reduceOfNat, Nxt, exIf]
      refine while_rule (fun k q => ∃ i : Nat, i + k = 4 ∧ q = ([.arr 70 (5 + i) [] 0 0 (16 + i), .int .i64 (i : Int)], upd noSlots 70 (.obj (5 + i) (.bytes (H ++ fr ++ to.take i))))) 4 ⟨0, rfl, by simp⟩ ?_
      rintro k q ⟨i, hi, rfl⟩
      simp only [go_sem, ↓reduceIte, reduceCtorEq, upd_ne, back_new (no_at), Nat.reduceAdd, Nat.reduceEqDiff, Nat.reduceMul, Nat.reduceSub, Nat.reduceLeDiff, Nat.reduceLT, Int.reduceToNat, Int.reduceLE, Int.reduceLT, Int.reduceEq, UInt8.reduceOfNat]
      refine nxt_ite (fun h => ?_) (fun h => ?_)
      · have hlt : i < to.length := by omega
        obtain ⟨b, hb⟩ : ∃ b, to[i]? = some b := ⟨to[i], by simp [hlt]⟩
        have htk : to.take (i + 1) = to.take i ++ [b] := by rw [List.take_add_one, hb]; rfl
        have hlen : (H ++ fr ++ to.take i).length = 16 + i := by rw [List.length_append, List.length_append, List.length_take]; omega
        have hA := wApp_arr (d := 92) (t := 70) (g := 5 + i) (sl := noSlots) (b := H ++ fr ++ to.take i) (s := [b]) (by rw [hlen]; simp; omega)
        rw [hlen] at hA
        simp only [List.map_cons, List.map_nil, byteLV, List.length_cons, List.length_nil] at hA
        have i1 : IntKind.i64.wrap ((i : Int) + 1) = ((i + 1 : Nat) : Int) := by rw [wrap_id (by omega) (by omega)]; omega
        have i2 : i < 4 := by omega
        simp only [go_sem, ↓reduceIte, reduceCtorEq, upd_ne, back_new (no_at), Nat.reduceAdd, Nat.reduceEqDiff, Nat.reduceMul, Nat.reduceSub, Nat.reduceLeDiff, Nat.reduceLT, Int.reduceToNat, Int.reduceLE, Int.reduceLT, Int.reduceEq, UInt8.reduceOfNat, List.getElem?_map, Int.toNat_natCast, hto, hb, byteLV, hA, i1, i2]
        refine ⟨k - 1, by omega, i + 1, by omega, ?_⟩
        rw [htk, ← List.append_assoc, show 5 + (i + 1) = 5 + i + 1 by omega, show 16 + (i + 1) = 16 + i + 1 by omega]
      · obtain rfl : i = 4 := by omega
        have ht4 : to.take 4 = to := List.take_of_length_le (by omega)
        rw [ht4]
        have hHf : (H ++ fr ++ to).length = 20 := by simp; omega
        have hB := wApp_str (d := 96) (t := 70) (g := 9) (sl := noSlots) (b := H ++ fr ++ to) (s := op) (by omega)
        rw [hHf] at hB
        simp only [go_sem, ↓reduceIte, reduceCtorEq, upd_ne, back_new (no_at), Nat.reduceAdd, Nat.reduceEqDiff, Nat.reduceMul, Nat.reduceSub, Nat.reduceLeDiff, Nat.reduceLT, Int.reduceToNat, Int.reduceLE, Int.reduceLT, Int.reduceEq, UInt8.reduceOfNat, Nxt, exIf, hB]
        obtain ⟨z, hz⟩ := Int.eq_ofNat_of_zero_le hx.1
        have hL : (H ++ fr ++ to ++ op).length = 20 + op.length := by rw [List.length_append]; omega
        have hsum : sumAt 0 (H ++ fr ++ to ++ op) = sumAt 0 (hd4 tos id ttl pt at' true true op da ++ (fr ++ (to ++ op))) := by
          rw [← hH, show hd4 tos id ttl pt at' true true op da = [UInt8.ofNat (64 + (20 + op.length) / 4), UInt8.ofNat tos, UInt8.ofNat ((20 + op.length + da.length) / 256), UInt8.ofNat (20 + op.length + da.length), UInt8.ofNat (id / 256), UInt8.ofNat id, UInt8.ofNat (A / 256), UInt8.ofNat A, UInt8.ofNat ttl, UInt8.ofNat pt] by unfold hd4; rw [hat4]; simp only [beB1, beB2, Int.toNat_natCast, List.cons_append, List.nil_append]]
          have hsz := sum_zeros (h := [UInt8.ofNat (64 + (20 + op.length) / 4), UInt8.ofNat tos, UInt8.ofNat ((20 + op.length + da.length) / 256), UInt8.ofNat (20 + op.length + da.length), UInt8.ofNat (id / 256), UInt8.ofNat id, UInt8.ofNat (A / 256), UInt8.ofNat A, UInt8.ofNat ttl, UInt8.ofNat pt]) (r := fr ++ (to ++ op)) (by simp only [List.length_cons, List.length_nil])
          simp only [List.cons_append, List.nil_append, List.append_assoc] at hsz ⊢
          exact hsz
        have ho := ev_rOf hS n (H ++ fr ++ to ++ op) (by omega)
        have ho : S.ev (n + 2) id_interpreterref02_Of [.str (H ++ fr ++ to ++ op)] none = some (.int .i64 (z : Int), none) := by
          rw [ho, hsum, ← hz]; unfold x4 sumS; exact rfl
        have hby : by4 tos id ttl pt at' true true fr to op da = ((H ++ fr ++ to ++ op).set 10 (UInt8.ofNat (z / 256))).set 11 (UInt8.ofNat z) ++ da := by
          unfold by4
          rw [hz, ← hH, show hd4 tos id ttl pt at' true true op da = [UInt8.ofNat (64 + (20 + op.length) / 4), UInt8.ofNat tos, UInt8.ofNat ((20 + op.length + da.length) / 256), UInt8.ofNat (20 + op.length + da.length), UInt8.ofNat (id / 256), UInt8.ofNat id, UInt8.ofNat (A / 256), UInt8.ofNat A, UInt8.ofNat ttl, UInt8.ofNat pt] by unfold hd4; rw [hat4]; simp only [beB1, beB2, Int.toNat_natCast, List.cons_append, List.nil_append]]
          simp only [beB2, Int.toNat_natCast, List.cons_append, List.nil_append, List.append_assoc, List.set_cons_succ, List.set_cons_zero]
        have d7 := div256 (x := z) (by omega)
        rw [hby]
        generalize H ++ fr ++ to ++ op = B at *
        have g10 : B[10]? = some B[10] := List.getElem?_eq_getElem (by omega)
        have g11 : (B.set 10 (UInt8.ofNat (z / 256)))[11]? = some B[11] := by rw [List.getElem?_set_ne (by omega)]; exact List.getElem?_eq_getElem (by omega)
        generalize B[10] = b10 at *
        generalize B[11] = b11 at *
        have l1 : 10 < 20 + op.length := by omega
        have l2 : 11 < 20 + op.length := by omega
        have l3 : (((B.set 10 (UInt8.ofNat (z / 256))).set 11 (UInt8.ofNat z))).take (20 + op.length) = (B.set 10 (UInt8.ofNat (z / 256))).set 11 (UInt8.ofNat z) := List.take_of_length_le (by simp; omega)
        have l4 : B.take (20 + op.length) = B := List.take_of_length_le (by omega)
        have l5 : 20 + op.length + da.length ≤ maxStr := by unfold maxStr; omega
        simp only [go_sem, ↓reduceIte, reduceCtorEq, upd_ne, back_new (no_at), Nat.reduceAdd, Nat.reduceEqDiff, Nat.reduceMul, Nat.reduceSub, Nat.reduceLeDiff, Nat.reduceLT, Int.reduceToNat, Int.reduceLE, Int.reduceLT, Int.reduceEq, UInt8.reduceOfNat, List.getElem?_map, Int.toNat_natCast, ho, hL, g10, g11, l1, l2, l3, l4, l5, byteLV, d7, mod256, u8w, u8_ofNat_mod, u8_lt, UInt8.ofNat_toNat, Nat.le_refl]
  · simp only [go_sem, ↓reduceIte, reduceCtorEq, upd_ne, back_new (no_at), Nat.reduceAdd, Nat.reduceEqDiff, Nat.reduceMul, Nat.reduceSub, Nat.reduceLeDiff, Nat.reduceLT, Int.reduceToNat, Int.reduceLE, Int.reduceLT, Int.reduceEq, UInt8.reduceOfNat, hw, c, hfr, hto]
theorem ev_rbytes3 {tos id ttl pt at' : Int} {df mo : Bool} {fr to op da : List UInt8} (hf : FitIp4 tos id ttl pt at' fr to op da) (hd : da.length ≤ 400000) :
    S.ev (n + 3) id_interpreterref03_Bytes [ip4LV tos id ttl pt at' df mo fr to op da] none = some (.tup [.str (by4R tos id ttl pt at' df mo fr to op da), .int .i64 (why4 tos id ttl pt at' mo op da)], none) := by
  cases df
  · cases mo
    · exact ev_rbytes3_ff hS n hf hd
    · exact ev_rbytes3_ft hS n hf hd
  · cases mo
    · exact ev_rbytes3_tf hS n hf hd
    · exact ev_rbytes3_tt hS n hf hd
end
end Go.Ev

/- Layer 15: the law is awake. -/
namespace Go.Ev
set_option linter.unusedSimpArgs false
set_option linter.unusedVariables false
set_option maxRecDepth 10000
set_option maxHeartbeats 8000000
theorem upF_take {d : List UInt8} {i : Nat} {o w : List UInt8} {none : Bool} (h : 4 ≤ i) : (upF d i o w none).take 4 = d.take 4 := by
  unfold upF
  split
  · rfl
  · split
    · rfl
    · rw [List.take_append_of_le_length (by rw [List.length_take]; omega), List.take_take, Nat.min_eq_left h]
theorem poF_ports {udp : Bool} {d o w : List UInt8} {p q : Nat} (h : 4 ≤ d.length) : (poF udp d o w p q).take 4 = beB 2 p ++ beB 2 q := by
  have hx : (beB 2 p ++ (beB 2 q ++ d.drop 4)).take 4 = beB 2 p ++ beB 2 q := by simp [beB2]
  unfold poF
  rw [if_neg (by omega)]
  split
  · rw [upF_take (by omega), hx]
  · rw [upF_take (by omega), hx]
section
variable {S : Sys} (hS : Has S) (n : Nat)
include hS
theorem ev_awake15 : S.ev (n + 7) id_interpreterlaw15_awake [] none = some (.bool true, none) := by
  rw [Sys.step hS.h_interpreterlaw15_awake, F_interpreterlaw15_awake_eq]
  unfold F_interpreterlaw15_awake
  have h1 : S.ev (n + 6) id_interpreterlaw15_gram [.int .i64 600] none = _ := ev_gram hS (n + 4) 600 (by omega)
  have h0 : S.ev (n + 6) id_interpreterlaw15_gram [.int .i64 0] none = _ := ev_gram hS (n + 4) 0 (by omega)
  have ok := g_ok (k := 600) (by omega)
  have h2 := ev_rbytes3 hS (n + 3) (df := false) (mo := false) (g_fit (k := 600) (by omega)) (by rw [List.length_replicate]; omega)
  unfold by4R at h2
  rw [if_pos (why4_zero.2 ok), why4_zero.2 ok] at h2
  have hBl := by4_len (tos := 0) (id := 0) (ttl := 9) (pt := 17) (at' := 0) (df := false) (mo := false) (fr := [192, 0, 2, 1]) (to := [192, 0, 2, 2]) (op := []) (da := List.replicate 600 120) rfl rfl
  have hp := (ev_parse_by4 hS (n + 1) (df := false) ok (fr := [192, 0, 2, 1]) (to := [192, 0, 2, 2]) rfl rfl).1
  have hi := inside_by4 (df := false) ok (fr := [192, 0, 2, 1]) (to := [192, 0, 2, 2]) rfl rfl (j := 548) (by simp) (by simp)
  have hDl : (List.replicate 600 (120 : UInt8)).length = 600 := List.length_replicate
  have hm := ev_martian4 hS (n + 4) 192 0 2 1
  rw [decide_eq_false (by decide)] at hm
  generalize hB : by4 0 0 9 17 0 false false [192, 0, 2, 1] [192, 0, 2, 2] [] (List.replicate 600 120) = B at *
  generalize hD : List.replicate 600 (120 : UInt8) = D at *
  rw [hDl] at hBl
  have hBl : B.length = 620 := by rw [hBl]; rfl
  have hQl : (B.take 548).length = 548 := by rw [List.length_take]; omega
  generalize hQ : B.take 548 = Q at *
  have hIl : (im4B 11 0 0 Q).length = 556 := by unfold im4B; simp only [List.length_append, beB_len]; omega
  have hId : (im4B 11 0 0 Q).drop 8 = Q := by unfold im4B; simp [beB1, beB2, beB, List.range_succ]
  have ok2 : Ok4 0 5 64 1 0 false [] (im4B 11 0 0 Q) := ⟨by omega, by omega, by omega, by omega, by omega, rfl, by simp, by simp, by simp, by rw [hIl]; simp⟩
  have h3 := ev_own4_ok hS (n + 1) (s := B) (tos := 0) (i0 := 0) (ttl := 9) (pt := 17) (df := false) (mo := false) (fr := [192, 0, 2, 1]) (to := [192, 0, 2, 2]) (op := []) (da := D) (a := [192, 0, 2, 9]) (k := 11) (c := 0) (r := 0) (id := 5) (id' := 5) (md := []) (mtu := 1500) (q := Q)
    hp rfl rfl rfl rfl (by omega) (by omega) hm (by omega) (by omega) (by rw [hDl, hBl]; simp) (by omega) (by simp) (by rw [hDl]; decide) (by rw [hDl, ← hQ, List.take_take]; rfl) rfl (by unfold I64; omega) (why4_zero.2 ok2)
  have h4 := (ev_parse_by4 hS (n + 2) (df := false) ok2 (fr := [192, 0, 2, 9]) (to := [192, 0, 2, 1]) rfl rfl).2
  have hSl := by4_len (tos := 0) (id := 5) (ttl := 64) (pt := 1) (at' := 0) (df := false) (mo := false) (fr := [192, 0, 2, 9]) (to := [192, 0, 2, 1]) (op := []) (da := im4B 11 0 0 Q) rfl rfl
  rw [hIl] at hSl
  have hSl : (by4 0 5 64 1 0 false false [192, 0, 2, 9] [192, 0, 2, 1] [] (im4B 11 0 0 Q)).length = 576 := by rw [hSl]; rfl
  have h5 := ev_inside4 hS (n + 2) Q (by omega)
  rw [hi.1, hi.2.1, hi.2.2, hDl] at h5
  have hD2 : (D.take (548 - (20 + ([] : List UInt8).length))).length = 528 := by rw [List.length_take, hDl]; rfl
  generalize D.take (548 - (20 + ([] : List UInt8).length)) = D2 at *
  have h6 := ev_quote6w hS n (tos := 0) (id := 0) (ttl := 9) (pt := 17) (df := false) (fr := [192, 0, 2, 1]) (to := [192, 0, 2, 2]) (op := []) (da := D2) (a := List.replicate 16 0) (b := List.replicate 16 0) (claim := 600) (p := 1) (q := 2) rfl rfl rfl rfl (by omega) (by omega) (by omega) (by omega) (by omega) (by omega) (by omega) (by omega)
  have hpo := poF_ports (udp := decide ((17 : Int) = 17)) (d := D2) (o := [192, 0, 2, 1] ++ [192, 0, 2, 2]) (w := List.replicate 16 0 ++ List.replicate 16 0) (p := 1) (q := 2) (by omega)
  have hpl := @poF_len (decide ((17 : Int) = 17)) D2 ([192, 0, 2, 1] ++ [192, 0, 2, 2]) (List.replicate 16 0 ++ List.replicate 16 0) 1 2
  generalize poF (decide ((17 : Int) = 17)) D2 ([192, 0, 2, 1] ++ [192, 0, 2, 2]) (List.replicate 16 0 ++ List.replicate 16 0) 1 2 = PO at *
  have hTl : (beB 4 (1610612736 + Int.toNat 0 * 1048576) ++ (beB 2 600 ++ (beB 1 (Int.toNat 17) ++ (beB 1 (Int.toNat 9) ++ (List.replicate 16 0 ++ (List.replicate 16 0 ++ PO)))))).length = 568 := by
    simp only [List.length_append, beB_len, List.length_replicate]; omega
  have hTd : ((beB 4 (1610612736 + Int.toNat 0 * 1048576) ++ (beB 2 600 ++ (beB 1 (Int.toNat 17) ++ (beB 1 (Int.toNat 9) ++ (List.replicate 16 0 ++ (List.replicate 16 0 ++ PO)))))).drop 40).take 4 = [0, 1, 0, 2] := by
    rw [show (beB 4 (1610612736 + Int.toNat 0 * 1048576) ++ (beB 2 600 ++ (beB 1 (Int.toNat 17) ++ (beB 1 (Int.toNat 9) ++ (List.replicate 16 0 ++ (List.replicate 16 0 ++ PO)))))) = (beB 4 (1610612736 + Int.toNat 0 * 1048576) ++ (beB 2 600 ++ (beB 1 (Int.toNat 17) ++ (beB 1 (Int.toNat 9) ++ (List.replicate 16 0 ++ List.replicate 16 0))))) ++ PO by simp only [List.append_assoc]]
    rw [List.drop_left' (by simp only [List.length_append, beB_len, List.length_replicate]), hpo]
    rfl
  have h6 : S.ev (n + 6) id_fault_Quote6 [ip4LV 0 0 9 17 0 false false [192, 0, 2, 1] [192, 0, 2, 2] [] D2, .int .i64 600, .agg [.bytes [0, 0, 0, 0, 0, 0, 0, 0, 0, 0, 0, 0, 0, 0, 0, 0], .int .i64 1], .agg [.bytes [0, 0, 0, 0, 0, 0, 0, 0, 0, 0, 0, 0, 0, 0, 0, 0], .int .i64 2]] none = _ := h6
  generalize beB 4 (1610612736 + Int.toNat 0 * 1048576) ++ (beB 2 600 ++ (beB 1 (Int.toNat 17) ++ (beB 1 (Int.toNat 9) ++ (List.replicate 16 0 ++ (List.replicate 16 0 ++ PO))))) = T at *
  have h3 : S.ev (n + 6) id_fault_Own4 [.agg [.int .i64 11, .int .i64 0, .int .u32 0, .str []], .str B, .bytes [192, 0, 2, 9], .int .i64 5, .int .i64 1500] none = _ := h3
  generalize by4 0 5 64 1 0 false false [192, 0, 2, 9] [192, 0, 2, 1] [] (im4B 11 0 0 Q) = SS at *
  generalize im4B 11 0 0 Q = IB at *
  have n1 : ((600 : Nat) : Int) = 600 := rfl
  have n2 : ((576 : Nat) : Int) = 576 := rfl
  have n3 : ((556 : Nat) : Int) = 556 := rfl
  have n4 : ((528 : Nat) : Int) = 528 := rfl
  have n5 : ((568 : Nat) : Int) = 568 := rfl
  rw [n1] at h5
  have t8 : (IB.drop 8).take (556 - 8) = Q := by rw [hId]; exact List.take_of_length_le (by omega)
  have t9 : Q.take 548 = Q := List.take_of_length_le (by omega)
  have z0 : List.replicate 0 (120 : UInt8) = [] := rfl
  (try simp only [guard_merge, or_merge, and_merge, or_pick, and_pick, guard_or, guard_and]); simp only [to_ob]
  simp only [go_sem, ↓reduceIte, reduceCtorEq, upd_ne, back_new (no_at), Nat.reduceAdd, Nat.reduceEqDiff, Nat.reduceMul, Nat.reduceSub, Nat.reduceLeDiff, Nat.reduceLT, Int.reduceToNat, Int.reduceLE, Int.reduceLT, Int.reduceEq, UInt8.reduceOfNat, List.getElem?_map, Int.toNat_natCast, -List.reduceReplicate, z0, h0, h1, h2, h3, h4, h5, h6, hBl, hSl, hIl, hD2, hTl, hQ, hId, hTd, t8, t9, n1, n2, n3, n4, n5, fE, Nat.sub_zero, List.drop_zero, List.length_cons, List.length_nil, decide_true, beq_self_eq_true, Bool.and_self, Bool.not_true, Bool.false_eq_true]
end
end Go.Ev

/- Layer 15: FaultKnown. -/
namespace Go.Ev
set_option linter.unusedSimpArgs false
set_option linter.unusedVariables false
set_option maxRecDepth 10000
set_option maxHeartbeats 8000000
theorem inside_short {s : List UInt8} (h : Par4 s) {j : Nat} (hj : n4 s ≤ j) (hj2 : j < n4 s + min 8 (wAt s 2 - n4 s)) : iK4 (s.take j) = 7 := by
  have h20 := h.hn
  have hal := h.hal
  have hlen : (s.take j).length = j := by rw [List.length_take]; omega
  have b0 : bAt (s.take j) 0 = bAt s 0 := bAt_take (by omega)
  have w2 : wAt (s.take j) 2 = wAt s 2 := wAt_take (by omega)
  have w6 : wAt (s.take j) 6 = wAt s 6 := wAt_take (by omega)
  have hn : n4 (s.take j) = n4 s := by unfold n4; rw [b0]
  have hpl := pda4_len (s.take j)
  rw [hn, w2, hlen] at hpl
  have ok := why4_zero.1 h.hw
  have hall := ok.kall
  have hpl2 : (pda4 s).length = wAt s 2 - n4 s := by unfold pda4; rw [List.length_take, List.length_drop]; omega
  have hol : (pop4 s).length = n4 s - 20 := by have := h.hl; unfold pop4; rw [List.length_take, List.length_drop]; omega
  unfold iK4
  rw [hn, b0, w2, w6, hlen, List.take_take, Nat.min_eq_left (show n4 s ≤ j by omega)]
  have k1 := h.hv; have k2 := h.hb; have k4 := h.ha
  have hall' : wAt s 6 % 8192 * 8 + wAt s 2 ≤ 65535 := by unfold pat4 at hall; omega
  rw [if_neg (by omega), if_neg (by omega), if_neg (by omega), if_neg (fun q => q h.hs), if_neg (by omega), if_pos (by omega)]
section
variable {S : Sys} (hS : Has S) (n : Nat)
include hS
theorem ev_FaultKnown {vs : List LV} (h : fitVL [] vs) : S.ev (n + 8) id_interpreterlaw15_FaultKnown vs none = some (.bool true, none) := by
  obtain rfl := fit_nil h
  rw [Sys.step hS.h_interpreterlaw15_FaultKnown, F_interpreterlaw15_FaultKnown_eq]
  unfold F_interpreterlaw15_FaultKnown
  have hw := ev_awake15 hS n
  have hsm := ev_same15 hS (n + 6)
  have h1 : S.ev (n + 7) id_interpreterlaw15_gram [.int .i64 600] none = _ := ev_gram hS (n + 5) 600 (by omega)
  have h2 : S.ev (n + 7) id_interpreterlaw15_gram [.int .i64 80] none = _ := ev_gram hS (n + 5) 80 (by omega)
  -- the first packet
  have lD1 : ((11 : UInt8) :: List.replicate 600 120).length = 601 := by rw [List.length_cons, List.length_replicate]
  have f1 : FitIp4 0 0 9 1 0 [192, 0, 2, 1] [192, 0, 2, 2] [] (11 :: List.replicate 600 120) := ⟨by unfold I64; omega, by unfold I64; omega, by unfold I64; omega, by unfold I64; omega, by unfold I64; omega, rfl, rfl, by simp, by omega⟩
  have ok1 : Ok4 0 0 9 1 0 false [] (11 :: List.replicate 600 120) := ⟨by omega, by omega, by omega, by omega, by omega, rfl, by simp, by simp, by simp, by rw [lD1]; simp⟩
  have b1 := ev_rbytes3 hS (n + 4) (df := false) (mo := false) f1 (by rw [lD1]; omega)
  unfold by4R at b1
  rw [if_pos (why4_zero.2 ok1), why4_zero.2 ok1] at b1
  have p1 := (ev_parse_by4 hS (n + 2) (df := false) ok1 (fr := [192, 0, 2, 1]) (to := [192, 0, 2, 2]) rfl rfl).1
  have o1 := ev_own4_no2 hS (n + 2) (k := 11) (c := 0) (r := 0) (md := []) (a := [9, 0, 0, 0]) (id := 1) (mtu := 1500) p1 rfl rfl (by
    refine .inr (.inr (.inr (.inr (.inr ⟨rfl, .inr ?_⟩))))
    rfl)
  -- the second one
  have lD2 : (List.replicate 80 (120 : UInt8)).length = 80 := List.length_replicate
  have ok2 := g_ok (k := 80) (by omega)
  have b2 := ev_rbytes3 hS (n + 4) (df := false) (mo := false) (g_fit (k := 80) (by omega)) (by rw [lD2]; omega)
  unfold by4R at b2
  rw [if_pos (why4_zero.2 ok2), why4_zero.2 ok2] at b2
  have p2 := (ev_parse_by4 hS (n + 2) (df := false) ok2 (fr := [192, 0, 2, 1]) (to := [192, 0, 2, 2]) rfl rfl).1
  obtain ⟨q1, q2, q3, q4⟩ := parse_by4 (df := false) ok2 (fr := [192, 0, 2, 1]) (to := [192, 0, 2, 2]) rfl rfl []
  rw [List.append_nil] at q1 q2 q3 q4
  have hBl := by4_len (tos := 0) (id := 0) (ttl := 9) (pt := 17) (at' := 0) (df := false) (mo := false) (fr := [192, 0, 2, 1]) (to := [192, 0, 2, 2]) (op := []) (da := List.replicate 80 120) rfl rfl
  rw [lD2] at hBl q3
  have hi := inside_by4 (df := false) ok2 (fr := [192, 0, 2, 1]) (to := [192, 0, 2, 2]) rfl rfl (j := 28) (by rw [lD2]; simp) (by rw [lD2]; simp)
  rw [lD2] at hi
  have o2 := ev_own4_go hS (n + 2) (k := 3) (c := 1) (r := 0) (md := []) (a := [9, 0, 0, 0]) (id := 1) (mtu := 68) p2 rfl rfl rfl (by unfold own4C; decide) (by unfold I64; omega) (by omega) (by rw [lD2, hBl]; simp) (by rw [hBl]; simp) (by simp) (by unfold I64; omega) (bo := true) (by rw [lD2]; decide) rfl
  have o3 := ev_own4_no2 hS (n + 2) (k := 3) (c := 1) (r := 0) (md := []) (a := [9, 0, 0, 0]) (id := 1) (mtu := 67) p2 rfl rfl (.inr (.inr (.inr (.inl (by omega)))))
  rw [if_pos ⟨rfl, by omega⟩] at o2
  generalize by4 0 0 9 17 0 false false [192, 0, 2, 1] [192, 0, 2, 2] [] (List.replicate 80 120) = B at *
  have hBl : B.length = 100 := by rw [hBl]; rfl
  have hn4 : n4 B = 20 := by rw [q2]; rfl
  have hsh := inside_short q1 (j := 27) (by omega) (by rw [hn4, q3]; decide)
  have i1 := ev_inside4 hS (n + 3) (B.take 28) (by rw [List.length_take]; omega)
  have i2 := ev_inside4 hS (n + 3) (B.take 27) (by rw [List.length_take]; omega)
  rw [hi.1, hi.2.1, hi.2.2] at i1
  unfold iLV4 iC4 at i2
  rw [hsh, if_neg (by omega), if_neg (by omega)] at i2
  have hs7 : S.ev (n + 7) id_interpreterlaw15_same [faultLV 7, .int .i64 7] none = some (.bool true, none) := hsm 7 7
  have hDl : ((List.replicate 80 (120 : UInt8)).take (28 - (20 + ([] : List UInt8).length))).length = 8 := by rw [List.length_take, lD2]; rfl
  generalize (List.replicate 80 (120 : UInt8)).take (28 - (20 + ([] : List UInt8).length)) = D8 at *
  generalize hD : List.replicate 600 (120 : UInt8) = D at *
  generalize hE : List.replicate 80 (120 : UInt8) = E at *
  have lD : D.length = 600 := by rw [← hD, List.length_replicate]
  have x1 : 1 + 600 ≤ maxStr := by decide
  have n8 : ((8 : Nat) : Int) = 8 := rfl
  have n80 : ((80 : Nat) : Int) = 80 := rfl
  rw [n80] at i1
  generalize by4 0 0 9 1 0 false false [192, 0, 2, 1] [192, 0, 2, 2] [] (11 :: D) = B1 at *
  have u9 : UInt8.ofNat 9 = 9 := rfl
  unfold no4 at o1 o3
  unfold fE at i1 i2
  (try simp only [guard_merge, or_merge, and_merge, or_pick, and_pick, guard_or, guard_and]); simp only [to_ob]
  simp only [go_sem, ↓reduceIte, reduceCtorEq, upd_ne, back_new (no_at), Nat.reduceAdd, Nat.reduceEqDiff, Nat.reduceMul, Nat.reduceSub, Nat.reduceLeDiff, Nat.reduceLT, Int.reduceToNat, Int.reduceLE, Int.reduceLT, Int.reduceEq, UInt8.reduceOfNat, List.getElem?_map, Int.toNat_natCast, h1, h2, b1, b2, o1, o2, o3, i1, i2, hw, hs7, hBl, hDl, lD, x1, n8, u9, fE, Nat.sub_zero, List.drop_zero, List.length_cons, List.length_nil, decide_true, beq_self_eq_true, Bool.and_self, Bool.not_true, Bool.false_eq_true]
end
end Go.Ev
