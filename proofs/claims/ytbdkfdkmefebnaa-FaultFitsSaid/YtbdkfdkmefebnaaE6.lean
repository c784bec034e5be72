/- Part 6 of a proof: what the functions yield. It stands by itself; no condition. -/
import Derived.Test.YtbdkfdkmefebnaaE5
namespace Go.Ev
set_option linter.unusedSimpArgs false
set_option linter.unusedVariables false
set_option maxRecDepth 4000
set_option maxHeartbeats 4000000
section
variable {S : Sys} (hS : Has S) (n : Nat)
include hS
theorem ev_within (x m : Int) : S.ev (n + 1) id_interpreterref03_within [.int .i64 x, .int .i64 m] none = some (.bool (decide (0 ≤ x ∧ x ≤ m)), none) := by
  rw [Sys.step hS.h_interpreterref03_within, F_interpreterref03_within_eq]
  unfold F_interpreterref03_within
  (try simp only [guard_merge, or_merge, and_merge, or_pick, and_pick, guard_or, guard_and]); simp only [to_ob]
  by_cases h1 : 0 ≤ x <;> by_cases h2 : x ≤ m <;> simp only [go_sem, ↓reduceIte, reduceCtorEq, upd_ne, back_new (no_at), Nat.reduceAdd, Nat.reduceEqDiff, Nat.reduceMul, Nat.reduceSub, Nat.reduceLeDiff, Nat.reduceLT, Int.reduceToNat, Int.reduceLE, Int.reduceLT, Int.reduceEq, UInt8.reduceOfNat, h1, h2]
theorem ev_Why3 {tos id ttl pt at' : Int} {df mo : Bool} {fr to op da : List UInt8} (hfr : fr.length = 4) (hto : to.length = 4) (hop : op.length ≤ 140737488351232) (hda : da.length ≤ 140737488351232) :
    S.ev (n + 2) id_interpreterref03_Why [ip4LV tos id ttl pt at' df mo fr to op da] none = some (.int .i64 (why4 tos id ttl pt at' mo op da), none) := by
  rw [Sys.step hS.h_interpreterref03_Why, F_interpreterref03_Why_eq]
  unfold F_interpreterref03_Why
  have hw := ev_within hS n
  (try simp only [guard_merge, or_merge, and_merge, or_pick, and_pick, guard_or, guard_and]); simp only [to_ob]
  unfold why4
  have e1 : Int.tmod (op.length : Int) 4 = ((op.length % 4 : Nat) : Int) := rfl
  have e2 : Int.tmod (da.length : Int) 8 = ((da.length % 8 : Nat) : Int) := rfl
  by_cases c1 : okB tos ∧ okB ttl ∧ okB pt ∧ (0 ≤ id ∧ id ≤ 65535) ∧ (0 ≤ at' ∧ at' ≤ 65528) ∧ Int.tmod at' 8 = 0
  · rw [if_pos c1]
    obtain ⟨⟨a1, a2⟩, ⟨a3, a4⟩, ⟨a5, a6⟩, ⟨c14, c15⟩, ⟨c16, c17⟩, c18⟩ := c1
    by_cases k1 : op.length ≤ 40
    · have k1' : ¬ 40 < (op.length : Int) := by omega
      have k5 : IntKind.i64.wrap (IntKind.i64.wrap (IntKind.i64.wrap (20 + (op.length : Int)) + at') + (da.length : Int)) = 20 + (op.length : Int) + at' + da.length := by
        rw [wrap_id (n := 20 + (op.length : Int)) (by omega) (by omega), wrap_id (n := 20 + (op.length : Int) + at') (by omega) (by omega), wrap_id (by omega) (by omega)]
      by_cases k2 : op.length % 4 = 0
      · have k2' : ((op.length % 4 : Nat) : Int) = 0 := by omega
        by_cases k6 : 20 + (op.length : Int) + at' + da.length ≤ 65535
        · have k6' : ¬ 65535 < 20 + (op.length : Int) + at' + da.length := by omega
          cases mo
          · simp only [go_sem, ↓reduceIte, reduceCtorEq, upd_ne, back_new (no_at), Nat.reduceAdd, Nat.reduceEqDiff, Nat.reduceMul, Nat.reduceSub, Nat.reduceLeDiff, Nat.reduceLT, Int.reduceToNat, Int.reduceLE, Int.reduceLT, Int.reduceEq, UInt8.reduceOfNat, hw, hfr, hto, a1, a2, a3, a4, a5, a6, c14, c15, c16, c17, c18, e1, e2, k1, k1', k2, k2', k5, k6, k6', false_implies]
          · by_cases k3 : da.length = 0
            · have k3' : (da.length : Int) = 0 := by omega
              simp only [go_sem, ↓reduceIte, reduceCtorEq, upd_ne, back_new (no_at), Nat.reduceAdd, Nat.reduceEqDiff, Nat.reduceMul, Nat.reduceSub, Nat.reduceLeDiff, Nat.reduceLT, Int.reduceToNat, Int.reduceLE, Int.reduceLT, Int.reduceEq, UInt8.reduceOfNat, hw, hfr, hto, a1, a2, a3, a4, a5, a6, c14, c15, c16, c17, c18, e1, e2, k1, k1', k2, k2', k3, k3', true_implies]
            · have k3' : ¬ (da.length : Int) = 0 := by omega
              by_cases k4 : da.length % 8 = 0
              · have k4' : ((da.length % 8 : Nat) : Int) = 0 := by omega
                simp only [go_sem, ↓reduceIte, reduceCtorEq, upd_ne, back_new (no_at), Nat.reduceAdd, Nat.reduceEqDiff, Nat.reduceMul, Nat.reduceSub, Nat.reduceLeDiff, Nat.reduceLT, Int.reduceToNat, Int.reduceLE, Int.reduceLT, Int.reduceEq, UInt8.reduceOfNat, hw, hfr, hto, a1, a2, a3, a4, a5, a6, c14, c15, c16, c17, c18, e1, e2, k1, k1', k2, k2', k3, k3', k4, k4', k5, k6, k6', true_implies]
              · have k4' : ¬ ((da.length % 8 : Nat) : Int) = 0 := by omega
                simp only [go_sem, ↓reduceIte, reduceCtorEq, upd_ne, back_new (no_at), Nat.reduceAdd, Nat.reduceEqDiff, Nat.reduceMul, Nat.reduceSub, Nat.reduceLeDiff, Nat.reduceLT, Int.reduceToNat, Int.reduceLE, Int.reduceLT, Int.reduceEq, UInt8.reduceOfNat, hw, hfr, hto, a1, a2, a3, a4, a5, a6, c14, c15, c16, c17, c18, e1, e2, k1, k1', k2, k2', k3, k3', k4, k4', true_implies]
        · have k6' : 65535 < 20 + (op.length : Int) + at' + da.length := by omega
          cases mo
          · simp only [go_sem, ↓reduceIte, reduceCtorEq, upd_ne, back_new (no_at), Nat.reduceAdd, Nat.reduceEqDiff, Nat.reduceMul, Nat.reduceSub, Nat.reduceLeDiff, Nat.reduceLT, Int.reduceToNat, Int.reduceLE, Int.reduceLT, Int.reduceEq, UInt8.reduceOfNat, hw, hfr, hto, a1, a2, a3, a4, a5, a6, c14, c15, c16, c17, c18, e1, e2, k1, k1', k2, k2', k5, k6, k6', false_implies]
          · by_cases k3 : da.length = 0
            · have k3' : (da.length : Int) = 0 := by omega
              simp only [go_sem, ↓reduceIte, reduceCtorEq, upd_ne, back_new (no_at), Nat.reduceAdd, Nat.reduceEqDiff, Nat.reduceMul, Nat.reduceSub, Nat.reduceLeDiff, Nat.reduceLT, Int.reduceToNat, Int.reduceLE, Int.reduceLT, Int.reduceEq, UInt8.reduceOfNat, hw, hfr, hto, a1, a2, a3, a4, a5, a6, c14, c15, c16, c17, c18, e1, e2, k1, k1', k2, k2', k3, k3', true_implies]
            · have k3' : ¬ (da.length : Int) = 0 := by omega
              by_cases k4 : da.length % 8 = 0
              · have k4' : ((da.length % 8 : Nat) : Int) = 0 := by omega
                simp only [go_sem, ↓reduceIte, reduceCtorEq, upd_ne, back_new (no_at), Nat.reduceAdd, Nat.reduceEqDiff, Nat.reduceMul, Nat.reduceSub, Nat.reduceLeDiff, Nat.reduceLT, Int.reduceToNat, Int.reduceLE, Int.reduceLT, Int.reduceEq, UInt8.reduceOfNat, hw, hfr, hto, a1, a2, a3, a4, a5, a6, c14, c15, c16, c17, c18, e1, e2, k1, k1', k2, k2', k3, k3', k4, k4', k5, k6, k6', true_implies]
              · have k4' : ¬ ((da.length % 8 : Nat) : Int) = 0 := by omega
                simp only [go_sem, ↓reduceIte, reduceCtorEq, upd_ne, back_new (no_at), Nat.reduceAdd, Nat.reduceEqDiff, Nat.reduceMul, Nat.reduceSub, Nat.reduceLeDiff, Nat.reduceLT, Int.reduceToNat, Int.reduceLE, Int.reduceLT, Int.reduceEq, UInt8.reduceOfNat, hw, hfr, hto, a1, a2, a3, a4, a5, a6, c14, c15, c16, c17, c18, e1, e2, k1, k1', k2, k2', k3, k3', k4, k4', true_implies]
      · have k2' : ¬ ((op.length % 4 : Nat) : Int) = 0 := by omega
        simp only [go_sem, ↓reduceIte, reduceCtorEq, upd_ne, back_new (no_at), Nat.reduceAdd, Nat.reduceEqDiff, Nat.reduceMul, Nat.reduceSub, Nat.reduceLeDiff, Nat.reduceLT, Int.reduceToNat, Int.reduceLE, Int.reduceLT, Int.reduceEq, UInt8.reduceOfNat, hw, hfr, hto, a1, a2, a3, a4, a5, a6, c14, c15, c16, c17, c18, e1, e2, k1, k1', k2, k2']
    · have k1' : 40 < (op.length : Int) := by omega
      simp only [go_sem, ↓reduceIte, reduceCtorEq, upd_ne, back_new (no_at), Nat.reduceAdd, Nat.reduceEqDiff, Nat.reduceMul, Nat.reduceSub, Nat.reduceLeDiff, Nat.reduceLT, Int.reduceToNat, Int.reduceLE, Int.reduceLT, Int.reduceEq, UInt8.reduceOfNat, hw, hfr, hto, a1, a2, a3, a4, a5, a6, c14, c15, c16, c17, c18, e1, e2, k1, k1']
  · rw [if_neg c1]
    by_cases b1 : okB tos
    · by_cases b2 : okB ttl
      · by_cases b3 : okB pt
        · by_cases b4 : 0 ≤ id ∧ id ≤ 65535
          · by_cases b5 : 0 ≤ at' ∧ at' ≤ 65528
            · have b6 : ¬ Int.tmod at' 8 = 0 := fun h => c1 ⟨b1, b2, b3, b4, b5, h⟩
              simp only [go_sem, ↓reduceIte, reduceCtorEq, upd_ne, back_new (no_at), Nat.reduceAdd, Nat.reduceEqDiff, Nat.reduceMul, Nat.reduceSub, Nat.reduceLeDiff, Nat.reduceLT, Int.reduceToNat, Int.reduceLE, Int.reduceLT, Int.reduceEq, UInt8.reduceOfNat, hw, hfr, hto, decide_eq_true b1, decide_eq_true b2, decide_eq_true b3, decide_eq_true b4, decide_eq_true b5, b6]
            · simp only [go_sem, ↓reduceIte, reduceCtorEq, upd_ne, back_new (no_at), Nat.reduceAdd, Nat.reduceEqDiff, Nat.reduceMul, Nat.reduceSub, Nat.reduceLeDiff, Nat.reduceLT, Int.reduceToNat, Int.reduceLE, Int.reduceLT, Int.reduceEq, UInt8.reduceOfNat, hw, hfr, hto, decide_eq_true b1, decide_eq_true b2, decide_eq_true b3, decide_eq_true b4, decide_eq_false b5]
          · simp only [go_sem, ↓reduceIte, reduceCtorEq, upd_ne, back_new (no_at), Nat.reduceAdd, Nat.reduceEqDiff, Nat.reduceMul, Nat.reduceSub, Nat.reduceLeDiff, Nat.reduceLT, Int.reduceToNat, Int.reduceLE, Int.reduceLT, Int.reduceEq, UInt8.reduceOfNat, hw, hfr, hto, decide_eq_true b1, decide_eq_true b2, decide_eq_true b3, decide_eq_false b4]
        · simp only [go_sem, ↓reduceIte, reduceCtorEq, upd_ne, back_new (no_at), Nat.reduceAdd, Nat.reduceEqDiff, Nat.reduceMul, Nat.reduceSub, Nat.reduceLeDiff, Nat.reduceLT, Int.reduceToNat, Int.reduceLE, Int.reduceLT, Int.reduceEq, UInt8.reduceOfNat, hw, hfr, hto, decide_eq_true b1, decide_eq_true b2, decide_eq_false b3]
      · simp only [go_sem, ↓reduceIte, reduceCtorEq, upd_ne, back_new (no_at), Nat.reduceAdd, Nat.reduceEqDiff, Nat.reduceMul, Nat.reduceSub, Nat.reduceLeDiff, Nat.reduceLT, Int.reduceToNat, Int.reduceLE, Int.reduceLT, Int.reduceEq, UInt8.reduceOfNat, hw, hfr, hto, decide_eq_true b1, decide_eq_false b2]
    · simp only [go_sem, ↓reduceIte, reduceCtorEq, upd_ne, back_new (no_at), Nat.reduceAdd, Nat.reduceEqDiff, Nat.reduceMul, Nat.reduceSub, Nat.reduceLeDiff, Nat.reduceLT, Int.reduceToNat, Int.reduceLE, Int.reduceLT, Int.reduceEq, UInt8.reduceOfNat, hw, hfr, hto, decide_eq_false b1]
end
end Go.Ev

namespace Go.Ev
set_option linter.unusedSimpArgs false
set_option linter.unusedVariables false
set_option maxRecDepth 4000
set_option maxHeartbeats 2000000
section
variable {S : Sys} (hS : Has S) (n : Nat)
include hS
theorem ev_rText (s : List UInt8) (a m : Nat) (h : a + m ≤ s.length) (hs : s.length ≤ 140737488351232) :
    S.ev (n + 1) id_interpreterref01_Reader_Text [.ptr 0 0 [] 0, .int .i64 (m : Int)] (some (rdLV s a)) = some (.tup [.str ((s.drop a).take m), .int .i64 0], some (rdLV s (a + m))) := by
  rw [Sys.step hS.h_interpreterref01_Reader_Text, F_interpreterref01_Reader_Text_eq]
  unfold F_interpreterref01_Reader_Text
  (try simp only [guard_merge, or_merge, and_merge, or_pick, and_pick, guard_or, guard_and]); simp only [to_ob]
  have f1 : ¬ (m : Int) < 0 := by omega
  have f2 : ¬ (s.length : Int) < (m : Int) := by omega
  have e1 : IntKind.i64.wrap ((s.length : Int) - (m : Int)) = ((s.length - m : Nat) : Int) := by rw [wrap_id (by omega) (by omega)]; omega
  have f3 : ¬ ((s.length - m : Nat) : Int) < (a : Int) := by omega
  simp only [go_sem, ↓reduceIte, reduceCtorEq, upd_ne, back_new (no_at), Nat.reduceAdd, Nat.reduceEqDiff, Nat.reduceMul, Nat.reduceSub, Nat.reduceLeDiff, Nat.reduceLT, Int.reduceToNat, Int.reduceLE, Int.reduceLT, Int.reduceEq, UInt8.reduceOfNat, f1, f2, e1, f3]
  refine while_rule (fun k q => ∃ i : Nat, i + k = m ∧ q = ([.str ((s.drop a).take i), .int .i64 (i : Int)], upd noSlots 0 (.obj 0 (rdLV s (a + i))))) m ⟨0, by omega, by simp⟩ ?_
  rintro k q ⟨i, hi, rfl⟩
  simp only [go_sem, ↓reduceIte, reduceCtorEq, upd_ne, back_new (no_at), Nat.reduceAdd, Nat.reduceEqDiff, Nat.reduceMul, Nat.reduceSub, Nat.reduceLeDiff, Nat.reduceLT, Int.reduceToNat, Int.reduceLE, Int.reduceLT, Int.reduceEq, UInt8.reduceOfNat]
  refine nxt_ite (fun h => ?_) (fun h => ?_)
  · have hlt : a + i < s.length := by omega
    obtain ⟨c, hc⟩ : ∃ c, s[a + i]? = some c := ⟨s[a + i], by simp [hlt]⟩
    have e2 : IntKind.i64.wrap (((a + i : Nat) : Int) + 1) = ((a + i + 1 : Nat) : Int) := by rw [wrap_id (by omega) (by omega)]; omega
    have e3 : IntKind.i64.wrap ((i : Int) + 1) = ((i + 1 : Nat) : Int) := by rw [wrap_id (by omega) (by omega)]; omega
    have f4 : a + i + 1 ≤ s.length := by omega
    have f5 : a + i ≤ a + i + 1 := by omega
    have e4 : (s.drop (a + i)).take (a + i + 1 - (a + i)) = [c] := by rw [show a + i + 1 - (a + i) = 1 by omega, drop_take_one hc]
    have f6 : min i (s.length - a) + (0 + 1) ≤ maxStr := by unfold maxStr; omega
    have f6' : min i (s.length - a) + 1 ≤ maxStr := by unfold maxStr; omega
    simp only [go_sem, ↓reduceIte, reduceCtorEq, upd_ne, back_new (no_at), Nat.reduceAdd, Nat.reduceEqDiff, Nat.reduceMul, Nat.reduceSub, Nat.reduceLeDiff, Nat.reduceLT, Int.reduceToNat, Int.reduceLE, Int.reduceLT, Int.reduceEq, UInt8.reduceOfNat, List.getElem?_map, Int.toNat_natCast, ↓e_sadd, e2, e3, f4, f5, e4, f6, f6', List.length_take, List.length_drop]
    exact ⟨k - 1, by omega, i + 1, by omega, by rw [drop_take_snoc hc]; rfl⟩
  · obtain rfl : i = m := by omega
    simp only [go_sem, ↓reduceIte, reduceCtorEq, upd_ne, back_new (no_at), Nat.reduceAdd, Nat.reduceEqDiff, Nat.reduceMul, Nat.reduceSub, Nat.reduceLeDiff, Nat.reduceLT, Int.reduceToNat, Int.reduceLE, Int.reduceLT, Int.reduceEq, UInt8.reduceOfNat, Nxt, exIf]
theorem ev_rNumber (s : List UInt8) (a m : Nat) (h : a + m ≤ s.length) (hm : m ≤ 4) (hs : s.length ≤ 140737488351232) :
    S.ev (n + 2) id_interpreterref01_Reader_Number [.ptr 0 0 [] 0, .int .i64 (m : Int)] (some (rdLV s a)) = some (.tup [.int .i64 ((numN ((s.drop a).take m) : Nat) : Int), .int .i64 0], some (rdLV s (a + m))) := by
  rw [Sys.step hS.h_interpreterref01_Reader_Number, F_interpreterref01_Reader_Number_eq]
  unfold F_interpreterref01_Reader_Number
  have ht := ev_rText hS n s a m h hs
  (try simp only [guard_merge, or_merge, and_merge, or_pick, and_pick, guard_or, guard_and]); simp only [to_ob]
  simp only [go_sem, ↓reduceIte, reduceCtorEq, upd_ne, back_new (no_at), Nat.reduceAdd, Nat.reduceEqDiff, Nat.reduceMul, Nat.reduceSub, Nat.reduceLeDiff, Nat.reduceLT, Int.reduceToNat, Int.reduceLE, Int.reduceLT, Int.reduceEq, UInt8.reduceOfNat, ht]
  have hul : ((s.drop a).take m).length = m := by rw [List.length_take, List.length_drop]; omega
  generalize (s.drop a).take m = u at *
  refine while_rule (fun k q => ∃ i : Nat, i + k = m ∧ q = ([.int .i64 ((numN (u.take i) : Nat) : Int), .int .i64 (i : Int)], upd noSlots 0 (.obj 0 (rdLV s (a + m))))) m ⟨0, by omega, by simp [numN]⟩ ?_
  rintro k q ⟨i, hi, rfl⟩
  simp only [go_sem, ↓reduceIte, reduceCtorEq, upd_ne, back_new (no_at), Nat.reduceAdd, Nat.reduceEqDiff, Nat.reduceMul, Nat.reduceSub, Nat.reduceLeDiff, Nat.reduceLT, Int.reduceToNat, Int.reduceLE, Int.reduceLT, Int.reduceEq, UInt8.reduceOfNat, hul]
  refine nxt_ite (fun h => ?_) (fun h => ?_)
  · have hlt : i < u.length := by omega
    obtain ⟨c, hc⟩ : ∃ c, u[i]? = some c := ⟨u[i], by simp [hlt]⟩
    have htk : u.take (i + 1) = u.take i ++ [c] := by rw [List.take_add_one, hc]; rfl
    have hb := numN_lt (u.take i)
    have hb2 : 256 ^ (u.take i).length ≤ 256 ^ 3 := Nat.pow_le_pow_right (by decide) (by rw [List.length_take]; omega)
    have hb3 : (256 : Nat) ^ 3 = 16777216 := by decide
    have hcl := c.toNat_lt
    have e1 : IntKind.i64.wrap (((numN (u.take i) : Nat) : Int) * 256) = ((numN (u.take i) * 256 : Nat) : Int) := by rw [wrap_id (by omega) (by omega)]; omega
    have e2 : IntKind.i64.wrap (c.toNat : Int) = (c.toNat : Int) := wrap_id (by omega) (by omega)
    have e3 : IntKind.i64.wrap (((numN (u.take i) * 256 : Nat) : Int) + (c.toNat : Int)) = ((numN (u.take i) * 256 + c.toNat : Nat) : Int) := by rw [wrap_id (by omega) (by omega)]; omega
    have e4 : IntKind.i64.wrap ((i : Int) + 1) = ((i + 1 : Nat) : Int) := by rw [wrap_id (by omega) (by omega)]; omega
    simp only [go_sem, ↓reduceIte, reduceCtorEq, upd_ne, back_new (no_at), Nat.reduceAdd, Nat.reduceEqDiff, Nat.reduceMul, Nat.reduceSub, Nat.reduceLeDiff, Nat.reduceLT, Int.reduceToNat, Int.reduceLE, Int.reduceLT, Int.reduceEq, UInt8.reduceOfNat, List.getElem?_map, Int.toNat_natCast, hc, e1, e2, e3, e4]
    exact ⟨k - 1, by omega, i + 1, by omega, by rw [htk, numN_snoc]⟩
  · obtain rfl : i = m := by omega
    rw [List.take_of_length_le (by omega)]
    simp only [go_sem, ↓reduceIte, reduceCtorEq, upd_ne, back_new (no_at), Nat.reduceAdd, Nat.reduceEqDiff, Nat.reduceMul, Nat.reduceSub, Nat.reduceLeDiff, Nat.reduceLT, Int.reduceToNat, Int.reduceLE, Int.reduceLT, Int.reduceEq, UInt8.reduceOfNat, Nxt, exIf]
end
end Go.Ev

namespace Go.Ev
set_option linter.unusedSimpArgs false
set_option linter.unusedVariables false
set_option maxRecDepth 4000
set_option maxHeartbeats 4000000
section
variable {S : Sys} (hS : Has S) (n : Nat)
include hS
theorem ev_number3 (s : List UInt8) (i : Nat) (h : i + 2 ≤ s.length) (hs : s.length ≤ 140737488351232) : S.ev (n + 3) id_interpreterref03_number [.str s, .int .i64 (i : Int)] none = some (.int .i64 (wAt s i : Nat), none) := by
  rw [Sys.step hS.h_interpreterref03_number, F_interpreterref03_number_eq]
  unfold F_interpreterref03_number
  have ht : S.ev (n + 2) id_interpreterref01_Reader_Number [.ptr 0 0 [] 0, .int .i64 2] (some (rdLV s i)) = some (.tup [.int .i64 ((numN ((s.drop i).take 2) : Nat) : Int), .int .i64 0], some (rdLV s (i + 2))) := ev_rNumber hS n s i 2 h (by omega) hs
  rw [numN_two h] at ht
  simp only [to_ob]
  simp only [go_sem, ↓reduceIte, reduceCtorEq, upd_ne, back_new (no_at), Nat.reduceAdd, Nat.reduceEqDiff, Nat.reduceMul, Nat.reduceSub, Nat.reduceLeDiff, Nat.reduceLT, Int.reduceToNat, Int.reduceLE, Int.reduceLT, Int.reduceEq, UInt8.reduceOfNat, ht]
theorem ev_rparse3 (s : List UInt8) (hs : s.length ≤ 1000000) : S.ev (n + 4) id_interpreterref03_Parse [.str s] none = some (.tup [pLV4 s, .int .i64 (pK4 s)], none) := by
  rw [Sys.step hS.h_interpreterref03_Parse, F_interpreterref03_Parse_eq]
  unfold F_interpreterref03_Parse
  (try simp only [guard_merge, or_merge, and_merge, or_pick, and_pick, guard_or, guard_and]); simp only [to_ob]
  unfold pLV4 pK4
  by_cases c1 : s.length < 20
  · have c1' : (s.length : Int) < 20 := by omega
    simp only [go_sem, ↓reduceIte, reduceCtorEq, upd_ne, back_new (no_at), Nat.reduceAdd, Nat.reduceEqDiff, Nat.reduceMul, Nat.reduceSub, Nat.reduceLeDiff, Nat.reduceLT, Int.reduceToNat, Int.reduceLE, Int.reduceLT, Int.reduceEq, UInt8.reduceOfNat, c1, c1']
  · have c1' : ¬ (s.length : Int) < 20 := by omega
    have g0 := get_def (s := s) (i := 0) (by omega)
    have hb0 := bAt_le s 0
    have e1 : IntKind.i64.wrap ((s.getD 0 0).toNat : Int) = ((bAt s 0 : Nat) : Int) := wrap_id (by omega) (by unfold bAt at hb0; omega)
    have e2 : IntKind.i64.wrap (4 * IntKind.i64.wrap (((bAt s 0 : Nat) : Int) - 64)) = 4 * (((bAt s 0 : Nat) : Int) - 64) := by
      rw [wrap_id (n := ((bAt s 0 : Nat) : Int) - 64) (by omega) (by omega), wrap_id (by omega) (by omega)]
    by_cases c2 : bAt s 0 / 16 ≠ 4 ∨ n4 s < 20
    · rw [if_neg c1, if_pos c2]
      by_cases c2a : 4 * (((bAt s 0 : Nat) : Int) - 64) < 20
      · simp only [go_sem, ↓reduceIte, reduceCtorEq, upd_ne, back_new (no_at), Nat.reduceAdd, Nat.reduceEqDiff, Nat.reduceMul, Nat.reduceSub, Nat.reduceLeDiff, Nat.reduceLT, Int.reduceToNat, Int.reduceLE, Int.reduceLT, Int.reduceEq, UInt8.reduceOfNat, List.getElem?_map, Int.toNat_natCast, c1', c2a, g0, byteLV, e1, e2]
      · have c2b : 60 < 4 * (((bAt s 0 : Nat) : Int) - 64) := by unfold n4 at c2; omega
        simp only [go_sem, ↓reduceIte, reduceCtorEq, upd_ne, back_new (no_at), Nat.reduceAdd, Nat.reduceEqDiff, Nat.reduceMul, Nat.reduceSub, Nat.reduceLeDiff, Nat.reduceLT, Int.reduceToNat, Int.reduceLE, Int.reduceLT, Int.reduceEq, UInt8.reduceOfNat, List.getElem?_map, Int.toNat_natCast, c1', c2a, c2b, g0, byteLV, e1, e2]
    · have hn : 4 * (((bAt s 0 : Nat) : Int) - 64) = ((n4 s : Nat) : Int) := by unfold n4 at c2 ⊢; omega
      rw [hn] at e2
      have c2a : ¬ ((n4 s : Nat) : Int) < 20 := by omega
      have c2b : ¬ 60 < ((n4 s : Nat) : Int) := by unfold n4; omega
      by_cases c3 : s.length < n4 s
      · have c3' : (s.length : Int) < ((n4 s : Nat) : Int) := by omega
        simp only [go_sem, ↓reduceIte, reduceCtorEq, upd_ne, back_new (no_at), Nat.reduceAdd, Nat.reduceEqDiff, Nat.reduceMul, Nat.reduceSub, Nat.reduceLeDiff, Nat.reduceLT, Int.reduceToNat, Int.reduceLE, Int.reduceLT, Int.reduceEq, UInt8.reduceOfNat, List.getElem?_map, Int.toNat_natCast, c1, c1', c2, c2a, c2b, c3, c3', g0, byteLV, e1, e2]
      · have c3' : ¬ (s.length : Int) < ((n4 s : Nat) : Int) := by omega
        have c3'' : n4 s ≤ s.length := by omega
        have hr := ev_rOf hS (n + 1) (s.take (n4 s)) (by rw [List.length_take]; omega)
        have hr : S.ev (n + 3) id_interpreterref02_Of [.str (s.take (n4 s))] none = some (.int .i64 (sumS (s.take (n4 s))), none) := hr
        by_cases c4 : sumS (s.take (n4 s)) = 0
        · have t2 : S.ev (n + 3) id_interpreterref03_number [.str s, .int .i64 2] none = some (.int .i64 (wAt s 2 : Nat), none) := ev_number3 hS n s 2 (by omega) (by omega)
          have t6 : S.ev (n + 3) id_interpreterref03_number [.str s, .int .i64 6] none = some (.int .i64 (wAt s 6 : Nat), none) := ev_number3 hS n s 6 (by omega) (by omega)
          have t4 : S.ev (n + 3) id_interpreterref03_number [.str s, .int .i64 4] none = some (.int .i64 (wAt s 4 : Nat), none) := ev_number3 hS n s 4 (by omega) (by omega)
          by_cases c5 : wAt s 2 < n4 s
          · have c5' : ((wAt s 2 : Nat) : Int) < ((n4 s : Nat) : Int) := by omega
            simp only [go_sem, ↓reduceIte, reduceCtorEq, upd_ne, back_new (no_at), Nat.reduceAdd, Nat.reduceEqDiff, Nat.reduceMul, Nat.reduceSub, Nat.reduceLeDiff, Nat.reduceLT, Int.reduceToNat, Int.reduceLE, Int.reduceLT, Int.reduceEq, UInt8.reduceOfNat, List.getElem?_map, Int.toNat_natCast, Nat.sub_zero, c1, c1', c2, c2a, c2b, c3, c3', c3'', c4, hr, t2, t6, c5, c5', g0, byteLV, e1, e2]
          · have c5' : ¬ ((wAt s 2 : Nat) : Int) < ((n4 s : Nat) : Int) := by omega
            have c5'' : n4 s ≤ wAt s 2 := by omega
            by_cases c6 : s.length < wAt s 2
            · have c6' : (s.length : Int) < ((wAt s 2 : Nat) : Int) := by omega
              simp only [go_sem, ↓reduceIte, reduceCtorEq, upd_ne, back_new (no_at), Nat.reduceAdd, Nat.reduceEqDiff, Nat.reduceMul, Nat.reduceSub, Nat.reduceLeDiff, Nat.reduceLT, Int.reduceToNat, Int.reduceLE, Int.reduceLT, Int.reduceEq, UInt8.reduceOfNat, List.getElem?_map, Int.toNat_natCast, Nat.sub_zero, c1, c1', c2, c2a, c2b, c3, c3', c3'', c4, hr, t2, t6, c5, c5', c6, c6', g0, byteLV, e1, e2]
            · have c6' : ¬ (s.length : Int) < ((wAt s 2 : Nat) : Int) := by omega
              have c6'' : wAt s 2 ≤ s.length := by omega
              have g1 := get_def (s := s) (i := 1) (by omega)
              have g8 := get_def (s := s) (i := 8) (by omega)
              have g9 := get_def (s := s) (i := 9) (by omega)
              have hb1 := bAt_le s 1
              have hb8 := bAt_le s 8
              have hb9 := bAt_le s 9
              have hw6 := wAt_le s 6
              have w1 : IntKind.i64.wrap ((s.getD 1 0).toNat : Int) = ((bAt s 1 : Nat) : Int) := wrap_id (by omega) (by unfold bAt at hb1; omega)
              have w8 : IntKind.i64.wrap ((s.getD 8 0).toNat : Int) = ((bAt s 8 : Nat) : Int) := wrap_id (by omega) (by unfold bAt at hb8; omega)
              have w9 : IntKind.i64.wrap ((s.getD 9 0).toNat : Int) = ((bAt s 9 : Nat) : Int) := wrap_id (by omega) (by unfold bAt at hb9; omega)
              have f1 : IntKind.i64.wrap (Int.tmod ((wAt s 6 : Nat) : Int) 8192 * 8) = pat4 s := by
                rw [show Int.tmod ((wAt s 6 : Nat) : Int) 8192 = ((wAt s 6 % 8192 : Nat) : Int) from rfl, wrap_id (by omega) (by omega)]; unfold pat4; omega
              have f2 : IntKind.i64.wrap (Int.tdiv ((wAt s 6 : Nat) : Int) 16384) = ((wAt s 6 / 16384 : Nat) : Int) := by
                rw [show Int.tdiv ((wAt s 6 : Nat) : Int) 16384 = ((wAt s 6 / 16384 : Nat) : Int) from rfl, wrap_id (by omega) (by omega)]
              have f3 : IntKind.i64.wrap (Int.tdiv ((wAt s 6 : Nat) : Int) 8192) = ((wAt s 6 / 8192 : Nat) : Int) := by
                rw [show Int.tdiv ((wAt s 6 : Nat) : Int) 8192 = ((wAt s 6 / 8192 : Nat) : Int) from rfl, wrap_id (by omega) (by omega)]
              have f4 : decide (Int.tmod ((wAt s 6 / 16384 : Nat) : Int) 2 = 1) = pdf4 s := by
                rw [show Int.tmod ((wAt s 6 / 16384 : Nat) : Int) 2 = ((wAt s 6 / 16384 % 2 : Nat) : Int) from rfl]; unfold pdf4; exact decide_eq_decide.2 (by omega)
              have f5 : decide (Int.tmod ((wAt s 6 / 8192 : Nat) : Int) 2 = 1) = pmo4 s := by
                rw [show Int.tmod ((wAt s 6 / 8192 : Nat) : Int) 2 = ((wAt s 6 / 8192 % 2 : Nat) : Int) from rfl]; unfold pmo4; exact decide_eq_decide.2 (by omega)
              have l20 : 20 ≤ n4 s := by omega
              have hlf : (pfr4 s).length = 4 := by unfold pfr4; simp; omega
              have hlt : (pto4 s).length = 4 := by unfold pto4; simp; omega
              have hwy := ev_Why3 hS (n + 1) (tos := (bAt s 1 : Nat)) (id := (wAt s 4 : Nat)) (ttl := (bAt s 8 : Nat)) (pt := (bAt s 9 : Nat)) (at' := pat4 s) (df := pdf4 s) (mo := pmo4 s) (op := pop4 s) (da := pda4 s) hlf hlt (by unfold pop4; simp; omega) (by unfold pda4; simp; omega)
              have hwy : S.ev (n + 3) id_interpreterref03_Why [ip4LV (bAt s 1 : Nat) (wAt s 4 : Nat) (bAt s 8 : Nat) (bAt s 9 : Nat) (pat4 s) (pdf4 s) (pmo4 s) (pfr4 s) (pto4 s) (pop4 s) (pda4 s)] none = some (.int .i64 (pwhy4 s), none) := hwy
              have v3 : (s.drop 20).take (n4 s - 20) = pop4 s := rfl
              have v4 : (s.drop (n4 s)).take (wAt s 2 - n4 s) = pda4 s := rfl
              simp only [go_sem, ↓reduceIte, reduceCtorEq, upd_ne, back_new (no_at), Nat.reduceAdd, Nat.reduceEqDiff, Nat.reduceMul, Nat.reduceSub, Nat.reduceLeDiff, Nat.reduceLT, Int.reduceToNat, Int.reduceLE, Int.reduceLT, Int.reduceEq, UInt8.reduceOfNat, List.getElem?_map, Int.toNat_natCast, Nat.sub_zero, c1, c1', c2, c2a, c2b, c3, c3', c3'', c4, hr, t2, t6, t4, c5, c5', c5'', c6, c6', c6'', l20, g0, g1, g8, g9, byteLV, e1, e2, w1, w8, w9, f1, f2, f3, f4, f5, v3, v4]
              have r0 : ([0, 0, 0, 0] : List UInt8) = List.replicate (4 - 0) 0 := rfl
              refine while_rule (fun k q => ∃ i : Nat, i + k = 4 ∧ q = ([.int .i64 (i : Int)], upd (upd (upd noSlots 2 (.obj 1 z4LV)) 4 (.obj 1 z4LV)) 8 (.obj 1 (ip4LV (bAt s 1 : Nat) (wAt s 4 : Nat) (bAt s 8 : Nat) (bAt s 9 : Nat) (pat4 s) (pdf4 s) (pmo4 s) ((pfr4 s).take i ++ List.replicate (4 - i) 0) ((pto4 s).take i ++ List.replicate (4 - i) 0) (pop4 s) (pda4 s))))) 4 ⟨0, rfl, by simp⟩ ?_
              rintro k q ⟨i, hi, rfl⟩
              simp only [go_sem, ↓reduceIte, reduceCtorEq, upd_ne, back_new (no_at), Nat.reduceAdd, Nat.reduceEqDiff, Nat.reduceMul, Nat.reduceSub, Nat.reduceLeDiff, Nat.reduceLT, Int.reduceToNat, Int.reduceLE, Int.reduceLT, Int.reduceEq, UInt8.reduceOfNat]
              refine nxt_ite (fun h => ?_) (fun h => ?_)
              · have hi4 : i < 4 := by omega
                have ga := get_def (s := s) (i := 12 + i) (by omega)
                have gb := get_def (s := s) (i := 16 + i) (by omega)
                have i1 : IntKind.i64.wrap (12 + (i : Int)) = ((12 + i : Nat) : Int) := by rw [wrap_id (by omega) (by omega)]; omega
                have i2 : IntKind.i64.wrap (16 + (i : Int)) = ((16 + i : Nat) : Int) := by rw [wrap_id (by omega) (by omega)]; omega
                have i3 : IntKind.i64.wrap ((i : Int) + 1) = ((i + 1 : Nat) : Int) := by rw [wrap_id (by omega) (by omega)]; omega
                have hla : ((pfr4 s).take i ++ List.replicate (4 - i) 0).length = 4 := by rw [List.length_append, List.length_take, List.length_replicate]; omega
                have hlb : ((pto4 s).take i ++ List.replicate (4 - i) 0).length = 4 := by rw [List.length_append, List.length_take, List.length_replicate]; omega
                obtain ⟨ca, hca⟩ : ∃ c0, ((pfr4 s).take i ++ List.replicate (4 - i) 0)[i]? = some c0 := ⟨_, List.getElem?_eq_getElem (by omega)⟩
                obtain ⟨cb, hcb⟩ : ∃ c0, ((pto4 s).take i ++ List.replicate (4 - i) 0)[i]? = some c0 := ⟨_, List.getElem?_eq_getElem (by omega)⟩
                have sa := set_mid hlf hi4 (sub_get (s := s) (a := 12) (m := 4) hi4 (by omega))
                have sb := set_mid hlt hi4 (sub_get (s := s) (a := 16) (m := 4) hi4 (by omega))
                have hla2 : ((pfr4 s).take (i + 1) ++ List.replicate (4 - (i + 1)) 0).length = 4 := by rw [List.length_append, List.length_take, List.length_replicate]; omega
                simp only [go_sem, ↓reduceIte, reduceCtorEq, upd_ne, back_new (no_at), Nat.reduceAdd, Nat.reduceEqDiff, Nat.reduceMul, Nat.reduceSub, Nat.reduceLeDiff, Nat.reduceLT, Int.reduceToNat, Int.reduceLE, Int.reduceLT, Int.reduceEq, UInt8.reduceOfNat, List.getElem?_map, Int.toNat_natCast, ga, gb, i1, i2, i3, hla, hlb, hla2, hca, hcb, sa, sb, hi4, byteLV, u8_lt, UInt8.ofNat_toNat, Nat.mul_one, eq_self]
                exact ⟨k - 1, by omega, i + 1, by omega, rfl⟩
              · obtain rfl : i = 4 := by omega
                have ta : (pfr4 s).take 4 ++ List.replicate (4 - 4) 0 = pfr4 s := by rw [List.take_of_length_le (by omega)]; simp
                have tb : (pto4 s).take 4 ++ List.replicate (4 - 4) 0 = pto4 s := by rw [List.take_of_length_le (by omega)]; simp
                rw [ta, tb]
                by_cases c7 : wAt s 6 < 32768
                · have c7' : ¬ 32768 ≤ ((wAt s 6 : Nat) : Int) := by omega
                  have c7'' : ¬ 32768 ≤ wAt s 6 := by omega
                  by_cases c8 : pwhy4 s = 0
                  · rw [c8] at hwy
                    simp only [go_sem, ↓reduceIte, reduceCtorEq, upd_ne, back_new (no_at), Nat.reduceAdd, Nat.reduceEqDiff, Nat.reduceMul, Nat.reduceSub, Nat.reduceLeDiff, Nat.reduceLT, Int.reduceToNat, Int.reduceLE, Int.reduceLT, Int.reduceEq, UInt8.reduceOfNat, Nxt, exIf, c7', c7'', hwy, hlf, hlt, c8]
                  · simp only [go_sem, ↓reduceIte, reduceCtorEq, upd_ne, back_new (no_at), Nat.reduceAdd, Nat.reduceEqDiff, Nat.reduceMul, Nat.reduceSub, Nat.reduceLeDiff, Nat.reduceLT, Int.reduceToNat, Int.reduceLE, Int.reduceLT, Int.reduceEq, UInt8.reduceOfNat, Nxt, exIf, c7', c7'', hwy, hlf, hlt, c8]
                · have c7' : 32768 ≤ ((wAt s 6 : Nat) : Int) := by omega
                  have c7'' : 32768 ≤ wAt s 6 := by omega
                  simp only [go_sem, ↓reduceIte, reduceCtorEq, upd_ne, back_new (no_at), Nat.reduceAdd, Nat.reduceEqDiff, Nat.reduceMul, Nat.reduceSub, Nat.reduceLeDiff, Nat.reduceLT, Int.reduceToNat, Int.reduceLE, Int.reduceLT, Int.reduceEq, UInt8.reduceOfNat, Nxt, exIf, c7', c7'', hlf, hlt]
        · simp only [go_sem, ↓reduceIte, reduceCtorEq, upd_ne, back_new (no_at), Nat.reduceAdd, Nat.reduceEqDiff, Nat.reduceMul, Nat.reduceSub, Nat.reduceLeDiff, Nat.reduceLT, Int.reduceToNat, Int.reduceLE, Int.reduceLT, Int.reduceEq, UInt8.reduceOfNat, List.getElem?_map, Int.toNat_natCast, Nat.sub_zero, c1, c1', c2, c2a, c2b, c3, c3', c3'', c4, hr, g0, byteLV, e1, e2]
end
end Go.Ev

namespace Go.Ev
set_option linter.unusedSimpArgs false
set_option linter.unusedVariables false
set_option maxRecDepth 10000
set_option maxHeartbeats 8000000
def im6S (ps : List UInt8) (k c r : Int) (d : List UInt8) : Int := sumS (ps ++ (beB 1 k.toNat ++ (beB 1 c.toNat ++ (0 :: 0 :: (beB 4 r.toNat ++ d)))))
def im6B (ps : List UInt8) (k c r : Int) (d : List UInt8) : List UInt8 := beB 1 k.toNat ++ (beB 1 c.toNat ++ (beB 2 (im6S ps k c r d).toNat ++ (beB 4 r.toNat ++ d)))
theorem im4_im6 (k c r : Int) (d : List UInt8) : im4B k c r d = im6B [] k c r d := rfl
theorem im6_len {ps : List UInt8} {k c r : Int} {d : List UInt8} : (im6B ps k c r d).length = 8 + d.length := by unfold im6B; simp only [List.length_append, beB_len]; omega
theorem beB_1 (x : Nat) : beB 1 x = [UInt8.ofNat x] := by simp [beB, List.range_succ]
theorem im6_right {ps : List UInt8} {k c r : Int} {d : List UInt8} (hp : ps.length % 2 = 0) : sumS (ps ++ im6B ps k c r d) = 0 := by
  rw [sumS_zero]
  have hn := sumS_le (ps ++ (beB 1 k.toNat ++ (beB 1 c.toNat ++ (0 :: 0 :: (beB 4 r.toNat ++ d)))))
  have hb : ∀ x : Nat, x < 65536 → (UInt8.ofNat (x / 256)).toNat * 256 + (UInt8.ofNat x).toNat = x := fun x hx => by
    have := w16_beB hx; unfold w16 at this; omega
  have key : sumAt 0 (ps ++ im6B ps k c r d) = sumAt 0 (ps ++ (beB 1 k.toNat ++ (beB 1 c.toNat ++ (0 :: 0 :: (beB 4 r.toNat ++ d))))) + (im6S ps k c r d).toNat := by
    unfold im6B
    have hb := hb (im6S ps k c r d).toNat (by unfold im6S; omega)
    simp only [beB_1, beB2, sumAt_append, List.cons_append, List.nil_append, sumAt]
    simp only [show (0 + ps.length + 1 + 1) % 2 = 0 by omega, show ¬ (0 + ps.length + 1 + 1 + 1) % 2 = 0 by omega, if_true, if_false]
    simp only [UInt8.toNat_zero]
    omega
  rw [key]
  unfold im6S sumS
  generalize sumAt 0 (ps ++ (beB 1 k.toNat ++ (beB 1 c.toNat ++ (0 :: 0 :: (beB 4 r.toNat ++ d))))) = t
  have h1 := ones_le t
  have h2 := (@right_of0 t).resolve_right (fun h => h.2)
  rw [show ((65535 - (ones t : Int))).toNat = 65535 - ones t by omega]
  exact h2
theorem im6_parts {ps : List UInt8} {k c r : Int} {d : List UInt8} (hk : 0 ≤ k ∧ k ≤ 255) (hc : 0 ≤ c ∧ c ≤ 255) (hr : 0 ≤ r ∧ r < 4294967296) :
    ((bAt (im6B ps k c r d) 0 : Nat) : Int) = k ∧ ((bAt (im6B ps k c r d) 1 : Nat) : Int) = c ∧ ((numN (((im6B ps k c r d).drop 4).take 4) : Nat) : Int) = r ∧ (im6B ps k c r d).drop 8 = d := by
  unfold im6B
  have h4 : (beB 4 r.toNat).length = 4 := beB_len _ _
  refine ⟨?_, ?_, ?_, ?_⟩
  · simp only [beB_1, List.cons_append, bAt, List.getD_cons_zero, UInt8.toNat_ofNat']; omega
  · simp only [beB_1, List.cons_append, List.nil_append, bAt, List.getD_cons_succ, List.getD_cons_zero, UInt8.toNat_ofNat']; omega
  · simp only [beB_1, beB2, List.cons_append, List.nil_append, List.drop_succ_cons, List.drop_zero]
    rw [List.take_append_of_le_length (by omega), List.take_of_length_le (by omega), numN_beB4 (by omega)]
    omega
  · simp only [beB_1, beB2, List.cons_append, List.nil_append, List.drop_succ_cons, List.drop_zero]
    rw [List.drop_append_of_le_length (by omega), List.drop_of_length_le (by omega)]
    rfl
section
variable {S : Sys} (hS : Has S) (n : Nat)
include hS
theorem ev_Right2 (a b : List UInt8) (h : a.length + b.length ≤ 140737488351232) : S.ev (n + 3) id_sum_Right [.lst none [.str a, .str b]] none = some (.bool (decide (sumS (a ++ b) = 0)), none) := by
  rw [Sys.step hS.h_sum_Right, F_sum_Right_eq]
  unfold F_sum_Right
  have ho := ev_Of hS n [a, b] (by simp) (by simpa using h)
  simp only [List.map_cons, List.map_nil, List.flatten_cons, List.flatten_nil, List.append_nil] at ho
  (try simp only [guard_merge, or_merge, and_merge, or_pick, and_pick, guard_or, guard_and]); simp only [to_ob]
  simp only [go_sem, ↓reduceIte, reduceCtorEq, upd_ne, back_new (no_at), Nat.reduceAdd, Nat.reduceEqDiff, Nat.reduceMul, Nat.reduceSub, Nat.reduceLeDiff, Nat.reduceLT, Int.reduceToNat, Int.reduceLE, Int.reduceLT, Int.reduceEq, UInt8.reduceOfNat, ho, sumS]
  rfl
theorem ev_icmp4P {s : List UInt8} (hl : 8 ≤ s.length) (hs : s.length ≤ 1000000) (h0 : sumS s = 0) :
    S.ev (n + 4) id_icmp4_Parse [.str s] none = some (.tup [msgLV (bAt s 0 : Nat) (bAt s 1 : Nat) (numN ((s.drop 4).take 4) : Nat) (s.drop 8), .nili], none) := by
  rw [Sys.step hS.h_icmp4_Parse, F_icmp4_Parse_eq]
  unfold F_icmp4_Parse
  have hR := ev_Right1 hS n s (by omega)
  rw [decide_eq_true h0] at hR
  have hN := ev_New hS (n + 2) (s.drop 4)
  have hU := ev_U32 hS n (s.drop 4) 0 (by rw [List.length_drop]; omega) (by rw [List.length_drop]; omega)
  simp only [Nat.zero_add, List.drop_zero] at hU
  have g0 := get_def (s := s) (i := 0) (by omega)
  have g1 := get_def (s := s) (i := 1) (by omega)
  have l0 := (s.getD 0 0).toNat_lt
  have l1 := (s.getD 1 0).toNat_lt
  have e0 : IntKind.i64.wrap ((s.getD 0 0).toNat : Int) = ((bAt s 0 : Nat) : Int) := wrap_id (by omega) (by omega)
  have e1 : IntKind.i64.wrap ((s.getD 1 0).toNat : Int) = ((bAt s 1 : Nat) : Int) := wrap_id (by omega) (by omega)
  have hx : numN ((s.drop 4).take 4) < 4294967296 := num4_lt (s.drop 4)
  have e2 : IntKind.u32.wrap ((numN ((s.drop 4).take 4) : Nat) : Int) = ((numN ((s.drop 4).take 4) : Nat) : Int) := wrap_u32 hx
  have c1 : ¬ (s.length : Int) < 8 := by omega
  have n4' : 4 ≤ s.length := by omega
  have n0' : 0 < s.length := by omega
  have n1' : 1 < s.length := by omega
  (try simp only [guard_merge, or_merge, and_merge, or_pick, and_pick, guard_or, guard_and]); simp only [to_ob]
  simp only [go_sem, ↓reduceIte, reduceCtorEq, upd_ne, back_new (no_at), Nat.reduceAdd, Nat.reduceEqDiff, Nat.reduceMul, Nat.reduceSub, Nat.reduceLeDiff, Nat.reduceLT, Int.reduceToNat, Int.reduceLE, Int.reduceLT, Int.reduceEq, UInt8.reduceOfNat, List.getElem?_map, Int.toNat_natCast, c1, hR, hN, hU, g0, g1, e0, e1, e2, byteLV, n4', n0', n1', hl]
theorem ev_icmp6P {s ps : List UInt8} (hl : 8 ≤ s.length) (hs : s.length ≤ 1000000) (hp : ps.length ≤ 1000) (h0 : sumS (ps ++ s) = 0) :
    S.ev (n + 4) id_icmp6_Parse [.str s, .str ps] none = some (.tup [msgLV (bAt s 0 : Nat) (bAt s 1 : Nat) (numN ((s.drop 4).take 4) : Nat) (s.drop 8), .nili], none) := by
  rw [Sys.step hS.h_icmp6_Parse, F_icmp6_Parse_eq]
  unfold F_icmp6_Parse
  have hR := ev_Right2 hS n ps s (by omega)
  rw [decide_eq_true h0] at hR
  have hN := ev_New hS (n + 2) (s.drop 4)
  have hU := ev_U32 hS n (s.drop 4) 0 (by rw [List.length_drop]; omega) (by rw [List.length_drop]; omega)
  simp only [Nat.zero_add, List.drop_zero] at hU
  have g0 := get_def (s := s) (i := 0) (by omega)
  have g1 := get_def (s := s) (i := 1) (by omega)
  have l0 := (s.getD 0 0).toNat_lt
  have l1 := (s.getD 1 0).toNat_lt
  have e0 : IntKind.i64.wrap ((s.getD 0 0).toNat : Int) = ((bAt s 0 : Nat) : Int) := wrap_id (by omega) (by omega)
  have e1 : IntKind.i64.wrap ((s.getD 1 0).toNat : Int) = ((bAt s 1 : Nat) : Int) := wrap_id (by omega) (by omega)
  have hx : numN ((s.drop 4).take 4) < 4294967296 := num4_lt (s.drop 4)
  have e2 : IntKind.u32.wrap ((numN ((s.drop 4).take 4) : Nat) : Int) = ((numN ((s.drop 4).take 4) : Nat) : Int) := wrap_u32 hx
  have c1 : ¬ (s.length : Int) < 8 := by omega
  have n4' : 4 ≤ s.length := by omega
  have n0' : 0 < s.length := by omega
  have n1' : 1 < s.length := by omega
  (try simp only [guard_merge, or_merge, and_merge, or_pick, and_pick, guard_or, guard_and]); simp only [to_ob]
  simp only [go_sem, ↓reduceIte, reduceCtorEq, upd_ne, back_new (no_at), Nat.reduceAdd, Nat.reduceEqDiff, Nat.reduceMul, Nat.reduceSub, Nat.reduceLeDiff, Nat.reduceLT, Int.reduceToNat, Int.reduceLE, Int.reduceLT, Int.reduceEq, UInt8.reduceOfNat, List.getElem?_map, Int.toNat_natCast, c1, hR, hN, hU, g0, g1, e0, e1, e2, byteLV, n4', n0', n1', hl]
theorem ev_icmp6B {ps : List UInt8} {k c r : Int} {d : List UInt8} (hp : ps.length ≤ 1000) (hk : 0 ≤ k ∧ k ≤ 255) (hc : 0 ≤ c ∧ c ≤ 255) (hr : 0 ≤ r ∧ r < 4294967296) (hd : d.length ≤ 100000) :
    S.ev (n + 3) id_icmp6_Bytes [msgLV k c r d, .str ps] none = some (.tup [.str (im6B ps k c r d), .nili], none) := by
  rw [Sys.step hS.h_icmp6_Bytes, F_icmp6_Bytes_eq]
  unfold F_icmp6_Bytes
  have hx := sumS_le (ps ++ (beB 1 k.toNat ++ (beB 1 c.toNat ++ (0 :: 0 :: (beB 4 r.toNat ++ d)))))
  have b1 : S.ev (n + 2) id_num_Big [.int .i64 k, .int .i64 1] none = some (bigR k 1, none) := ev_Big hS (n + 1) k 1 (by omega) ⟨by omega, by omega⟩
  have b2 : S.ev (n + 2) id_num_Big [.int .i64 c, .int .i64 1] none = some (bigR c 1, none) := ev_Big hS (n + 1) c 1 (by omega) ⟨by omega, by omega⟩
  have b3 : S.ev (n + 2) id_num_Big [.int .i64 r, .int .i64 4] none = some (bigR r 4, none) := ev_Big hS (n + 1) r 4 (by omega) ⟨by omega, by omega⟩
  have b4 : S.ev (n + 2) id_num_Big [.int .i64 (im6S ps k c r d), .int .i64 2] none = some (bigR (im6S ps k c r d) 2, none) := ev_Big hS (n + 1) _ 2 (by omega) ⟨by unfold im6S; omega, by unfold im6S; omega⟩
  have ho := ev_Of hS n [ps, beB 1 k.toNat, beB 1 c.toNat, [0, 0], beB 4 r.toNat, d] (by simp) (by simp [beB_len]; omega)
  unfold bigR at b1 b2 b3 b4
  rw [if_pos (by omega)] at b1 b2
  rw [if_pos (by omega)] at b3
  rw [if_pos (by unfold im6S; omega)] at b4
  have e1 : IntKind.i64.wrap r = r := wrap_id (by omega) (by omega)
  simp only [List.map_cons, List.map_nil, List.flatten_cons, List.flatten_nil, List.append_nil, List.cons_append, List.nil_append] at ho
  have ho : S.ev (n + 2) id_sum_Of [.lst none [.str ps, .str (beB 1 k.toNat), .str (beB 1 c.toNat), .str [0, 0], .str (beB 4 r.toNat), .str d]] none = some (.int .i64 (im6S ps k c r d), none) := ho
  have hl := beB_len
  (try simp only [guard_merge, or_merge, and_merge, or_pick, and_pick, guard_or, guard_and]); simp only [to_ob]
  unfold im6B
  simp only [go_sem, ↓reduceIte, reduceCtorEq, upd_ne, back_new (no_at), Nat.reduceAdd, Nat.reduceEqDiff, Nat.reduceMul, Nat.reduceSub, Nat.reduceLeDiff, Nat.reduceLT, Int.reduceToNat, Int.reduceLE, Int.reduceLT, Int.reduceEq, UInt8.reduceOfNat, b1, b2, b3, b4, ho, e1, hl, List.append_assoc, List.length_append]
  repeat rw [if_pos (by unfold maxStr; omega)]
theorem ev_icmp6B_bad {ps : List UInt8} {k c r : Int} {d : List UInt8} (hk : 0 ≤ k ∧ k ≤ 255) (hc : ¬ (0 ≤ c ∧ c ≤ 255)) (hc2 : I64 c) :
    S.ev (n + 3) id_icmp6_Bytes [msgLV k c r d, .str ps] none = some (.tup [.str [], faultLV 13], none) := by
  rw [Sys.step hS.h_icmp6_Bytes, F_icmp6_Bytes_eq]
  unfold F_icmp6_Bytes
  have b1 : S.ev (n + 2) id_num_Big [.int .i64 k, .int .i64 1] none = some (bigR k 1, none) := ev_Big hS (n + 1) k 1 (by omega) ⟨by omega, by omega⟩
  have b2 : S.ev (n + 2) id_num_Big [.int .i64 c, .int .i64 1] none = some (bigR c 1, none) := ev_Big hS (n + 1) c 1 (by omega) hc2
  unfold bigR at b1 b2
  rw [if_pos (by omega)] at b1
  rw [if_neg (by omega)] at b2
  (try simp only [guard_merge, or_merge, and_merge, or_pick, and_pick, guard_or, guard_and]); simp only [to_ob]
  simp only [go_sem, ↓reduceIte, reduceCtorEq, upd_ne, back_new (no_at), Nat.reduceAdd, Nat.reduceEqDiff, Nat.reduceMul, Nat.reduceSub, Nat.reduceLeDiff, Nat.reduceLT, Int.reduceToNat, Int.reduceLE, Int.reduceLT, Int.reduceEq, UInt8.reduceOfNat, b1, b2]
section
variable {cl fl ho : Int} {fr to : List UInt8} {ex : List (Int × List UInt8)} {fg : Bool} {id at' : Int} {mo : Bool} {pt : Int} {da : List UInt8}
theorem ev_fsize (hfr : fr.length = 16) (hto : to.length = 16) (hl : ex.length ≤ 20) (hb : ∀ e ∈ ex, e.2.length ≤ 140737488351232) (hda : da.length ≤ 140737488351232) :
    S.ev (n + 1) id_fault_size [ip6LV cl fl ho fr to (extsLV ex) fg id at' mo pt da] none = some (.int .i64 ((40 + bh6 ex fg da : Nat) : Int), none) := by
  rw [Sys.step hS.h_fault_size, F_fault_size_eq]
  unfold F_fault_size
  have hsz := szE_le ex hb
  (try simp only [guard_merge, or_merge, and_merge, or_pick, and_pick, guard_or, guard_and]); simp only [to_ob]
  have go : ∀ (b0 : Nat) (i : Nat) (e : Int × List UInt8), b0 ≤ 140737488351340 → ex[i]? = some e → IntKind.i64.wrap (((b0 + szE (ex.take i) : Nat) : Int) + IntKind.i64.wrap ((e.2.length : Int) + 2)) = ((b0 + szE (ex.take (i + 1)) : Nat) : Int) := by
    intro b0 i e hb0 he
    have htk : ex.take (i + 1) = ex.take i ++ [e] := by rw [List.take_add_one, he]; rfl
    have h1 := hb e (List.mem_of_getElem? he)
    have h2 := szE_le (ex.take i) fun x hx => hb x (List.mem_of_mem_take hx)
    rw [List.length_take] at h2
    rw [wrap_id (n := (e.2.length : Int) + 2) (by omega) (by omega), wrap_id (by omega) (by omega), htk, szE_app]
    simp only [szE]
    omega
  have e00 : IntKind.i64.wrap (40 + (da.length : Int)) = ((40 + da.length : Nat) : Int) := by rw [wrap_id (by omega) (by omega)]; omega
  have e0 : IntKind.i64.wrap (((40 + da.length : Nat) : Int) + 8) = ((40 + da.length + 8 : Nat) : Int) := by rw [wrap_id (by omega) (by omega)]; omega
  cases fg
  · simp only [go_sem, ↓reduceIte, reduceCtorEq, upd_ne, back_new (no_at), Nat.reduceAdd, Nat.reduceEqDiff, Nat.reduceMul, Nat.reduceSub, Nat.reduceLeDiff, Nat.reduceLT, Int.reduceToNat, Int.reduceLE, Int.reduceLT, Int.reduceEq, UInt8.reduceOfNat, hfr, hto, e00, List.length_map]
    refine while_rule (fun k q => ∃ i : Nat, q = ([.int .i64 ((40 + da.length + szE (ex.take i) : Nat) : Int), .int .i64 (i : Int)], noSlots) ∧ i + k = ex.length) ex.length ⟨0, by simp [szE], by simp⟩ ?_
    rintro k q ⟨i, rfl, hi⟩
    simp only [go_sem, ↓reduceIte, reduceCtorEq, upd_ne, back_new (no_at), Nat.reduceAdd, Nat.reduceEqDiff, Nat.reduceMul, Nat.reduceSub, Nat.reduceLeDiff, Nat.reduceLT, Int.reduceToNat, Int.reduceLE, Int.reduceLT, Int.reduceEq, UInt8.reduceOfNat]
    refine nxt_ite (fun h => ?_) (fun h => ?_)
    · have hlt : i < ex.length := by omega
      obtain ⟨e, he⟩ : ∃ e, ex[i]? = some e := ⟨ex[i], by simp [hlt]⟩
      have e1 : IntKind.i64.wrap ((i : Int) + 1) = ((i + 1 : Nat) : Int) := by rw [wrap_id (by omega) (by omega)]; omega
      have e2 := go (40 + da.length) i e (by omega) he
      simp only [go_sem, ↓reduceIte, reduceCtorEq, upd_ne, back_new (no_at), Nat.reduceAdd, Nat.reduceEqDiff, Nat.reduceMul, Nat.reduceSub, Nat.reduceLeDiff, Nat.reduceLT, Int.reduceToNat, Int.reduceLE, Int.reduceLT, Int.reduceEq, UInt8.reduceOfNat, List.getElem?_map, Int.toNat_natCast, he, e1, e2]
      exact ⟨k - 1, by omega, i + 1, rfl, by omega⟩
    · rw [List.take_of_length_le (by omega)]
      have : 40 + bh6 ex false da = 40 + da.length + szE ex := by unfold bh6; rw [if_neg Bool.false_ne_true]; omega
      simp only [go_sem, ↓reduceIte, reduceCtorEq, upd_ne, back_new (no_at), Nat.reduceAdd, Nat.reduceEqDiff, Nat.reduceMul, Nat.reduceSub, Nat.reduceLeDiff, Nat.reduceLT, Int.reduceToNat, Int.reduceLE, Int.reduceLT, Int.reduceEq, UInt8.reduceOfNat, Nxt, exIf, this]
  · simp only [go_sem, ↓reduceIte, reduceCtorEq, upd_ne, back_new (no_at), Nat.reduceAdd, Nat.reduceEqDiff, Nat.reduceMul, Nat.reduceSub, Nat.reduceLeDiff, Nat.reduceLT, Int.reduceToNat, Int.reduceLE, Int.reduceLT, Int.reduceEq, UInt8.reduceOfNat, hfr, hto, e00, e0, List.length_map]
    refine while_rule (fun k q => ∃ i : Nat, q = ([.int .i64 ((40 + da.length + 8 + szE (ex.take i) : Nat) : Int), .int .i64 (i : Int)], noSlots) ∧ i + k = ex.length) ex.length ⟨0, by simp [szE], by simp⟩ ?_
    rintro k q ⟨i, rfl, hi⟩
    simp only [go_sem, ↓reduceIte, reduceCtorEq, upd_ne, back_new (no_at), Nat.reduceAdd, Nat.reduceEqDiff, Nat.reduceMul, Nat.reduceSub, Nat.reduceLeDiff, Nat.reduceLT, Int.reduceToNat, Int.reduceLE, Int.reduceLT, Int.reduceEq, UInt8.reduceOfNat]
    refine nxt_ite (fun h => ?_) (fun h => ?_)
    · have hlt : i < ex.length := by omega
      obtain ⟨e, he⟩ : ∃ e, ex[i]? = some e := ⟨ex[i], by simp [hlt]⟩
      have e1 : IntKind.i64.wrap ((i : Int) + 1) = ((i + 1 : Nat) : Int) := by rw [wrap_id (by omega) (by omega)]; omega
      have e2 := go (40 + da.length + 8) i e (by omega) he
      simp only [go_sem, ↓reduceIte, reduceCtorEq, upd_ne, back_new (no_at), Nat.reduceAdd, Nat.reduceEqDiff, Nat.reduceMul, Nat.reduceSub, Nat.reduceLeDiff, Nat.reduceLT, Int.reduceToNat, Int.reduceLE, Int.reduceLT, Int.reduceEq, UInt8.reduceOfNat, List.getElem?_map, Int.toNat_natCast, he, e1, e2]
      exact ⟨k - 1, by omega, i + 1, rfl, by omega⟩
    · rw [List.take_of_length_le (by omega)]
      have : 40 + bh6 ex true da = 40 + da.length + 8 + szE ex := by unfold bh6; rw [if_pos rfl]; omega
      simp only [go_sem, ↓reduceIte, reduceCtorEq, upd_ne, back_new (no_at), Nat.reduceAdd, Nat.reduceEqDiff, Nat.reduceMul, Nat.reduceSub, Nat.reduceLeDiff, Nat.reduceLT, Int.reduceToNat, Int.reduceLE, Int.reduceLT, Int.reduceEq, UInt8.reduceOfNat, Nxt, exIf, this]
end
end
end Go.Ev

namespace Go.Ev
set_option linter.unusedSimpArgs false
set_option linter.unusedVariables false
set_option maxRecDepth 10000
set_option maxHeartbeats 8000000
def isF6 (k : Int) : Bool := decide (1 ≤ k ∧ k ≤ 127)
section
variable {S : Sys} (hS : Has S) (n : Nat)
include hS
theorem ev_failure6 (k c r : Int) (d : List UInt8) : S.ev (n + 1) id_icmp6_Failure [msgLV k c r d] none = some (.bool (isF6 k), none) := by
  rw [Sys.step hS.h_icmp6_Failure, F_icmp6_Failure_eq]
  unfold F_icmp6_Failure isF6
  (try simp only [guard_merge, or_merge, and_merge, or_pick, and_pick, guard_or, guard_and]); simp only [to_ob]
  simp only [go_sem, ↓reduceIte, reduceCtorEq, upd_ne, back_new (no_at), Nat.reduceAdd, Nat.reduceEqDiff, Nat.reduceMul, Nat.reduceSub, Nat.reduceLeDiff, Nat.reduceLT, Int.reduceToNat, Int.reduceLE, Int.reduceLT, Int.reduceEq, UInt8.reduceOfNat]
  rw [← Bool.decide_and]
end
end Go.Ev

namespace Go.Ev
set_option linter.unusedSimpArgs false
set_option linter.unusedVariables false
set_option maxRecDepth 4000
set_option maxHeartbeats 8000000
section
variable {S : Sys} (hS : Has S) (n : Nat)
include hS
theorem ev_pieced {cl fl ho : Int} {fr to : List UInt8} {ex : List LV} {fg : Bool} {id at' : Int} {mo : Bool} {pt : Int} {da : List UInt8} (hfr : fr.length = 16) (hto : to.length = 16) :
    S.ev (n + 1) id_ip6_pieced [ip6LV cl fl ho fr to (.lst none ex) fg id at' mo pt da] none = some (.bool (decide (mo = true → da.length ≠ 0 ∧ da.length % 8 = 0)), none) := by
  rw [Sys.step hS.h_ip6_pieced, F_ip6_pieced_eq]
  unfold F_ip6_pieced
  (try simp only [guard_merge, or_merge, and_merge, or_pick, and_pick, guard_or, guard_and]); simp only [to_ob]
  have e2 : Int.tmod (da.length : Int) 8 = ((da.length % 8 : Nat) : Int) := rfl
  cases mo
  · simp only [go_sem, ↓reduceIte, reduceCtorEq, upd_ne, back_new (no_at), Nat.reduceAdd, Nat.reduceEqDiff, Nat.reduceMul, Nat.reduceSub, Nat.reduceLeDiff, Nat.reduceLT, Int.reduceToNat, Int.reduceLE, Int.reduceLT, Int.reduceEq, UInt8.reduceOfNat, hfr, hto, false_implies]
  · by_cases k3 : da = []
    · subst k3
      simp only [go_sem, ↓reduceIte, reduceCtorEq, upd_ne, back_new (no_at), Nat.reduceAdd, Nat.reduceEqDiff, Nat.reduceMul, Nat.reduceSub, Nat.reduceLeDiff, Nat.reduceLT, Int.reduceToNat, Int.reduceLE, Int.reduceLT, Int.reduceEq, UInt8.reduceOfNat, hfr, hto, true_implies]
    · have k3' : ¬ da.length = 0 := fun h => k3 (List.length_eq_zero_iff.1 h)
      by_cases k4 : da.length % 8 = 0
      · have k4' : ((da.length % 8 : Nat) : Int) = 0 := by omega
        simp only [go_sem, ↓reduceIte, reduceCtorEq, upd_ne, back_new (no_at), Nat.reduceAdd, Nat.reduceEqDiff, Nat.reduceMul, Nat.reduceSub, Nat.reduceLeDiff, Nat.reduceLT, Int.reduceToNat, Int.reduceLE, Int.reduceLT, Int.reduceEq, UInt8.reduceOfNat, hfr, hto, k3, k3', k4, k4', e2, true_implies]
      · have k4' : ¬ ((da.length % 8 : Nat) : Int) = 0 := by omega
        simp only [go_sem, ↓reduceIte, reduceCtorEq, upd_ne, back_new (no_at), Nat.reduceAdd, Nat.reduceEqDiff, Nat.reduceMul, Nat.reduceSub, Nat.reduceLeDiff, Nat.reduceLT, Int.reduceToNat, Int.reduceLE, Int.reduceLT, Int.reduceEq, UInt8.reduceOfNat, hfr, hto, k3, k3', k4, k4', e2, true_implies]
theorem ev_parse6 (s : List UInt8) (hs : s.length ≤ 140737488351232) : S.ev (n + 4) id_ip6_Parse [.str s] none = some (.tup [pLV6 s, fE (pK6 s)], none) := by
  rw [Sys.step hS.h_ip6_Parse, F_ip6_Parse_eq]
  unfold F_ip6_Parse
  have hfa := ev_fault6 hS (n + 2)
  (try simp only [guard_merge, or_merge, and_merge, or_pick, and_pick, guard_or, guard_and]); simp only [to_ob]
  unfold pLV6 pK6
  by_cases c1 : s.length < 40
  · have c1' : (s.length : Int) < 40 := by omega
    simp only [go_sem, ↓reduceIte, reduceCtorEq, upd_ne, back_new (no_at), Nat.reduceAdd, Nat.reduceEqDiff, Nat.reduceMul, Nat.reduceSub, Nat.reduceLeDiff, Nat.reduceLT, Int.reduceToNat, Int.reduceLE, Int.reduceLT, Int.reduceEq, UInt8.reduceOfNat, c1, c1', hfa, fE]
  · have c1' : ¬ (s.length : Int) < 40 := by omega
    have g0 := get_def (s := s) (i := 0) (by omega)
    have hb0 := bAt_le s 0
    have e4 : Int.fdiv ((s.getD 0 0).toNat : Int) (2 ^ min 4 8) = ((bAt s 0 / 16 : Nat) : Int) := by
      rw [show min 4 8 = 4 from rfl, Int.fdiv_eq_ediv_of_nonneg _ (by decide)]; rfl
    by_cases c2 : bAt s 0 / 16 ≠ 6
    · have c2' : ¬ ((bAt s 0 / 16 : Nat) : Int) = 6 := by omega
      simp only [go_sem, ↓reduceIte, reduceCtorEq, upd_ne, back_new (no_at), Nat.reduceAdd, Nat.reduceEqDiff, Nat.reduceMul, Nat.reduceSub, Nat.reduceLeDiff, Nat.reduceLT, Int.reduceToNat, Int.reduceLE, Int.reduceLT, Int.reduceEq, UInt8.reduceOfNat, List.getElem?_map, Int.toNat_natCast, c1, c1', c2, c2', hfa, fE, g0, byteLV, e4]
    · have c2' : ((bAt s 0 / 16 : Nat) : Int) = 6 := by omega
      have g4 := get_def (s := s) (i := 4) (by omega)
      have g5 := get_def (s := s) (i := 5) (by omega)
      have g6 := get_def (s := s) (i := 6) (by omega)
      have g7 := get_def (s := s) (i := 7) (by omega)
      have hb4 := (s.getD 4 0).toNat_lt
      have hb5 := (s.getD 5 0).toNat_lt
      have hb6 := bAt_le s 6
      have hb7 := bAt_le s 7
      have hw4 := wAt_le s 4
      have q1 : IntKind.i64.wrap ((s.getD 4 0).toNat : Int) = ((s.getD 4 0).toNat : Int) := wrap_id (by omega) (by omega)
      have q2 : IntKind.i64.wrap ((s.getD 5 0).toNat : Int) = ((s.getD 5 0).toNat : Int) := wrap_id (by omega) (by omega)
      have q3 : IntKind.i64.wrap (((s.getD 4 0).toNat : Int) * 2 ^ min 8 64) = (((s.getD 4 0).toNat * 256 : Nat) : Int) := by
        rw [show min 8 64 = 8 from rfl, wrap_id (by omega) (by omega)]; omega
      have q4 : bitsOf .or .i64 (((s.getD 4 0).toNat * 256 : Nat) : Int) ((s.getD 5 0).toNat : Int) = ((wAt s 4 : Nat) : Int) := w16_or _ _
      have q5 : IntKind.i64.wrap (40 + ((wAt s 4 : Nat) : Int)) = ((40 + wAt s 4 : Nat) : Int) := by rw [wrap_id (by omega) (by omega)]; omega
      have q6 : IntKind.i64.wrap ((s.getD 6 0).toNat : Int) = ((bAt s 6 : Nat) : Int) := wrap_id (by omega) (by unfold bAt at hb6; omega)
      have q7 : IntKind.i64.wrap ((s.getD 7 0).toNat : Int) = ((bAt s 7 : Nat) : Int) := wrap_id (by omega) (by unfold bAt at hb7; omega)
      by_cases c3 : s.length < 40 + wAt s 4
      · have c3' : (s.length : Int) < ((40 + wAt s 4 : Nat) : Int) := by omega
        simp only [go_sem, ↓reduceIte, reduceCtorEq, upd_ne, back_new (no_at), Nat.reduceAdd, Nat.reduceEqDiff, Nat.reduceMul, Nat.reduceSub, Nat.reduceLeDiff, Nat.reduceLT, Int.reduceToNat, Int.reduceLE, Int.reduceLT, Int.reduceEq, UInt8.reduceOfNat, List.getElem?_map, Int.toNat_natCast, c1, c1', c2, c2', c3, c3', hfa, fE, g0, g4, g5, byteLV, e4, q1, q2, q3, q4, q5]
      · have c3' : ¬ (s.length : Int) < ((40 + wAt s 4 : Nat) : Int) := by omega
        have hN := ev_New hS (n + 2) s
        have hU := ev_U32 hS n s 0 (by omega) hs
        simp only [Nat.zero_add, List.drop_zero] at hU
        have hx := num4_lt s
        have d1 : Int.fdiv ((numN (s.take 4) : Nat) : Int) (2 ^ min 20 64) = ((numN (s.take 4) / 1048576 : Nat) : Int) := by
          rw [show min 20 64 = 20 from rfl, Int.fdiv_eq_ediv_of_nonneg _ (by decide)]; rfl
        have d2 : bitsOf .and .i64 ((numN (s.take 4) / 1048576 : Nat) : Int) 255 = pcl6 s := by
          rw [show (255 : Int) = ((2 ^ 8 - 1 : Nat) : Int) from rfl, bits_mask 8 (by omega) (show ((numN (s.take 4) / 1048576 : Nat) : Int) ≤ 9223372036854775807 by omega) (by decide)]
          rfl
        have d3 : bitsOf .and .i64 ((numN (s.take 4) : Nat) : Int) 1048575 = pfl6 s := by
          rw [show (1048575 : Int) = ((2 ^ 20 - 1 : Nat) : Int) from rfl, bits_mask 20 (by omega) (show ((numN (s.take 4) : Nat) : Int) ≤ 9223372036854775807 by omega) (by decide)]
          rfl
        have k1 : ∀ sl : Slots, wCopy (upd sl 8 (.obj 1 (ip6LV (pcl6 s) (pfl6 s) (bAt s 7 : Nat) y16 y16 (.lst none []) false 0 0 false 0 []))) (.arr 8 1 [3] 3 0 16) (.str (s.drop 8)) = _ := fun sl => wc3 rfl (by rw [List.length_drop]; omega)
        have hlf : (pfr6 s).length = 16 := by unfold pfr6; simp; omega
        have hlt : (pto6 s).length = 16 := by unfold pto6; simp; omega
        have k2 : ∀ sl : Slots, wCopy (upd sl 8 (.obj 1 (ip6LV (pcl6 s) (pfl6 s) (bAt s 7 : Nat) (pfr6 s) y16 (.lst none []) false 0 0 false 0 []))) (.arr 8 1 [4] 19 0 16) (.str (s.drop 24)) = _ := fun sl => wc4 hlf rfl (by rw [List.length_drop]; omega)
        have v5 : (s.drop 8).take 16 = pfr6 s := rfl
        have v6 : (s.drop 24).take 16 = pto6 s := rfl
        have l8 : 8 ≤ s.length := by omega
        have l24 : 24 ≤ s.length := by omega
        have l40 : 40 ≤ 40 + wAt s 4 := by omega
        have l41 : 40 + wAt s 4 ≤ s.length := by omega
        have l42 : 40 + wAt s 4 - 40 = wAt s 4 := by omega
        have t8 : (s.drop 8).take (s.length - 8) = s.drop 8 := List.take_of_length_le (by simp)
        have t24 : (s.drop 24).take (s.length - 24) = s.drop 24 := List.take_of_length_le (by simp)
        have hC : S.ev (n + 3) id_ip6_Chain [.int .i64 ((bAt s 6 : Nat) : Int), .str ((s.drop 40).take (wAt s 4))] none = some (chLV (k6 s), none) := ev_chain6 hS (n + 1) _ _ (by rw [List.length_take]; omega)
        have hkl : (k6 s).1 = 0 → (k6 s).2.2.2.length ≤ 65535 := by
          intro _
          have : ∀ (k : Nat) (f : Bool) (nx : Int) (u : List UInt8), (chC k f nx u).2.2.2.length ≤ u.length := by
            intro k
            induction k with
            | zero => intro f nx u; unfold chC; split <;> (try split) <;> simp
            | succ k ih =>
              intro f nx u
              unfold chC
              split
              · split
                · simp
                · split
                  · simp
                  · have := ih false ((bAt u 0 : Nat) : Int) (u.drop (sz6 u))
                    rw [List.length_drop] at this
                    simp only
                    split <;> (try simp only) <;> omega
              · simp
          refine Nat.le_trans (this _ _ _ _) ?_
          rw [List.length_take]; omega
        unfold chLV at hC
        unfold mk6 kR6
        rcases hks : k6 s with ⟨kc, kl, kp, kr⟩
        rw [hks] at hC hkl
        try dsimp only at hC
        try dsimp only at hkl
        try dsimp only
        by_cases c4 : kc = 0
        · subst c4
          have hkl := hkl rfl
          rw [show fE 0 = .nili from rfl] at hC
          by_cases c5 : kp = 44
          · subst c5
            by_cases c6 : kr.length < 8
            · have c6' : (kr.length : Int) < 8 := by omega
              simp only [go_sem, ↓reduceIte, reduceCtorEq, upd_ne, back_new (no_at), Nat.reduceAdd, Nat.reduceEqDiff, Nat.reduceMul, Nat.reduceSub, Nat.reduceLeDiff, Nat.reduceLT, Int.reduceToNat, Int.reduceLE, Int.reduceLT, Int.reduceEq, UInt8.reduceOfNat, List.getElem?_map, Int.toNat_natCast, Nat.sub_zero, c1, c1', c2, c2', c3, c3', c6, c6', kF6, hfa, hN, hU, hC, fE, g0, g4, g5, g6, g7, byteLV, e4, q1, q2, q3, q4, q5, q6, q7, d1, d2, d3, k1, k2, v5, v6, hlf, hlt, l8, l24, l40, l41, l42, t8, t24, Nat.le_refl]
            · have c6' : ¬ (kr.length : Int) < 8 := by omega
              have h0 := get_def (s := kr) (i := 0) (by omega)
              have h2 := get_def (s := kr) (i := 2) (by omega)
              have h3 := get_def (s := kr) (i := 3) (by omega)
              have i0 := bAt_le kr 0
              have i2 := (kr.getD 2 0).toNat_lt
              have i3 := (kr.getD 3 0).toNat_lt
              have hw2 := wAt_le kr 2
              have r1 : IntKind.i64.wrap ((kr.getD 2 0).toNat : Int) = ((kr.getD 2 0).toNat : Int) := wrap_id (by omega) (by omega)
              have r2 : IntKind.i64.wrap ((kr.getD 3 0).toNat : Int) = ((kr.getD 3 0).toNat : Int) := wrap_id (by omega) (by omega)
              have r3 : IntKind.i64.wrap (((kr.getD 2 0).toNat : Int) * 2 ^ min 8 64) = (((kr.getD 2 0).toNat * 256 : Nat) : Int) := by
                rw [show min 8 64 = 8 from rfl, wrap_id (by omega) (by omega)]; omega
              have r4 : bitsOf .or .i64 (((kr.getD 2 0).toNat * 256 : Nat) : Int) ((kr.getD 3 0).toNat : Int) = ((wAt kr 2 : Nat) : Int) := w16_or _ _
              have r5 : IntKind.i64.wrap ((kr.getD 0 0).toNat : Int) = ((bAt kr 0 : Nat) : Int) := wrap_id (by omega) (by unfold bAt at i0; omega)
              have r6 : bitsOf .andNot .i64 ((wAt kr 2 : Nat) : Int) 7 = ((fa6 kr : Nat) : Int) := andNot7 _ hw2
              have r7 : bitsOf .and .i64 ((wAt kr 2 : Nat) : Int) 1 = ((wAt kr 2 % 2 : Nat) : Int) := by
                rw [show (1 : Int) = ((2 ^ 1 - 1 : Nat) : Int) from rfl, bits_mask 1 (by omega) (show ((wAt kr 2 : Nat) : Int) ≤ 9223372036854775807 by omega) (by decide)]
                rfl
              have r8 : (!decide (((wAt kr 2 % 2 : Nat) : Int) = 0)) = fm6 kr := by
                unfold fm6
                rw [← decide_not]
                exact decide_eq_decide.2 (by omega)
              have r8' : (decide (¬ ((wAt kr 2 % 2 : Nat) : Int) = 0)) = fm6 kr := by rw [← r8]; simp
              have hN2 := ev_New hS (n + 2) (kr.drop 4)
              have hU2 := ev_U32 hS n (kr.drop 4) 0 (by rw [List.length_drop]; omega) (by rw [List.length_drop]; omega)
              simp only [Nat.zero_add, List.drop_zero] at hU2
              have hU2 : S.ev (n + 3) id_num_Reader_U32 [.ptr 0 0 [] 0] (some (nrLV (kr.drop 4) 0)) = some (.tup [.int .i64 ((fi6 kr : Nat) : Int), .nili], some (nrLV (kr.drop 4) 4)) := hU2
              have hfi : fi6 kr < 4294967296 := num4_lt (kr.drop 4)
              have r9 : IntKind.u32.wrap ((fi6 kr : Nat) : Int) = ((fi6 kr : Nat) : Int) := wrap_u32 hfi
              have m4 : 4 ≤ kr.length := by omega
              have m8 : 8 ≤ kr.length := by omega
              have u4 : (kr.drop 4).take (kr.length - 4) = kr.drop 4 := List.take_of_length_le (by simp)
              have u8' : (kr.drop 8).take (kr.length - 8) = kr.drop 8 := List.take_of_length_le (by simp)
              have hP := ev_pieced hS (n + 2) (cl := pcl6 s) (fl := pfl6 s) (ho := (bAt s 7 : Nat)) (ex := kl.map extLV) (fg := true) (id := (fi6 kr : Nat)) (at' := (fa6 kr : Nat)) (mo := fm6 kr) (pt := (bAt kr 0 : Nat)) (da := kr.drop 8) hlf hlt
              have hfa6 : fa6 kr ≤ 65535 := by unfold fa6; omega
              have r10 : IntKind.i64.wrap (65535 - ((fa6 kr : Nat) : Int)) = ((65535 - fa6 kr : Nat) : Int) := by rw [wrap_id (by omega) (by omega)]; omega
              by_cases c7 : (fm6 kr = true → (kr.drop 8).length ≠ 0 ∧ (kr.drop 8).length % 8 = 0)
              · rw [decide_eq_true c7] at hP
                by_cases c8 : fa6 kr + (kr.drop 8).length ≤ 65535
                · have c8' : ¬ ((65535 - fa6 kr : Nat) : Int) < (((kr.drop 8).length : Nat) : Int) := by omega
                  have c9 : okF6 (fm6 kr) (fa6 kr) (kr.drop 8) := ⟨c7, c8⟩
                  simp only [go_sem, ↓reduceIte, reduceCtorEq, upd_ne, back_new (no_at), Nat.reduceAdd, Nat.reduceEqDiff, Nat.reduceMul, Nat.reduceSub, Nat.reduceLeDiff, Nat.reduceLT, Int.reduceToNat, Int.reduceLE, Int.reduceLT, Int.reduceEq, UInt8.reduceOfNat, List.getElem?_map, Int.toNat_natCast, Nat.sub_zero, c1, c1', c2, c2', c3, c3', c6, c6', c8', c9, kF6, hfa, hN, hU, hN2, hU2, hC, hP, fE, g0, g4, g5, g6, g7, h0, h2, h3, byteLV, e4, q1, q2, q3, q4, q5, q6, q7, d1, d2, d3, k1, k2, v5, v6, hlf, hlt, l8, l24, l40, l41, l42, t8, t24, r1, r2, r3, r4, r5, r6, r7, r8, r8', r9, r10, m4, m8, u4, u8', Nat.le_refl]
                · have c8' : ((65535 - fa6 kr : Nat) : Int) < (((kr.drop 8).length : Nat) : Int) := by omega
                  have c9 : ¬ okF6 (fm6 kr) (fa6 kr) (kr.drop 8) := fun h => c8 h.2
                  simp only [go_sem, ↓reduceIte, reduceCtorEq, upd_ne, back_new (no_at), Nat.reduceAdd, Nat.reduceEqDiff, Nat.reduceMul, Nat.reduceSub, Nat.reduceLeDiff, Nat.reduceLT, Int.reduceToNat, Int.reduceLE, Int.reduceLT, Int.reduceEq, UInt8.reduceOfNat, List.getElem?_map, Int.toNat_natCast, Nat.sub_zero, c1, c1', c2, c2', c3, c3', c6, c6', c8', c9, kF6, hfa, hN, hU, hN2, hU2, hC, hP, fE, g0, g4, g5, g6, g7, h0, h2, h3, byteLV, e4, q1, q2, q3, q4, q5, q6, q7, d1, d2, d3, k1, k2, v5, v6, hlf, hlt, l8, l24, l40, l41, l42, t8, t24, r1, r2, r3, r4, r5, r6, r7, r8, r8', r9, r10, m4, m8, u4, u8', Nat.le_refl]
              · rw [decide_eq_false c7] at hP
                have c9 : ¬ okF6 (fm6 kr) (fa6 kr) (kr.drop 8) := fun h => c7 h.1
                simp only [go_sem, ↓reduceIte, reduceCtorEq, upd_ne, back_new (no_at), Nat.reduceAdd, Nat.reduceEqDiff, Nat.reduceMul, Nat.reduceSub, Nat.reduceLeDiff, Nat.reduceLT, Int.reduceToNat, Int.reduceLE, Int.reduceLT, Int.reduceEq, UInt8.reduceOfNat, List.getElem?_map, Int.toNat_natCast, Nat.sub_zero, c1, c1', c2, c2', c3, c3', c6, c6', c9, kF6, hfa, hN, hU, hN2, hU2, hC, hP, fE, g0, g4, g5, g6, g7, h0, h2, h3, byteLV, e4, q1, q2, q3, q4, q5, q6, q7, d1, d2, d3, k1, k2, v5, v6, hlf, hlt, l8, l24, l40, l41, l42, t8, t24, r1, r2, r3, r4, r5, r6, r7, r8, r8', r9, r10, m4, m8, u4, u8', Nat.le_refl]
          · simp only [go_sem, ↓reduceIte, reduceCtorEq, upd_ne, back_new (no_at), Nat.reduceAdd, Nat.reduceEqDiff, Nat.reduceMul, Nat.reduceSub, Nat.reduceLeDiff, Nat.reduceLT, Int.reduceToNat, Int.reduceLE, Int.reduceLT, Int.reduceEq, UInt8.reduceOfNat, List.getElem?_map, Int.toNat_natCast, Nat.sub_zero, c1, c1', c2, c2', c3, c3', c5, hfa, hN, hU, hC, fE, g0, g4, g5, g6, g7, byteLV, e4, q1, q2, q3, q4, q5, q6, q7, d1, d2, d3, k1, k2, v5, v6, hlf, hlt, l8, l24, l40, l41, l42, t8, t24, Nat.le_refl]
        · simp only [fE, if_neg c4] at hC
          simp only [go_sem, ↓reduceIte, reduceCtorEq, upd_ne, back_new (no_at), Nat.reduceAdd, Nat.reduceEqDiff, Nat.reduceMul, Nat.reduceSub, Nat.reduceLeDiff, Nat.reduceLT, Int.reduceToNat, Int.reduceLE, Int.reduceLT, Int.reduceEq, UInt8.reduceOfNat, List.getElem?_map, Int.toNat_natCast, Nat.sub_zero, c1, c1', c2, c2', c3, c3', c4, hfa, hN, hU, hC, fE, g0, g4, g5, g6, g7, byteLV, e4, q1, q2, q3, q4, q5, q6, q7, d1, d2, d3, k1, k2, v5, v6, hlf, hlt, l8, l24, l40, l41, l42, t8, t24, Nat.le_refl]
end
end Go.Ev

namespace Go.Ev
set_option linter.unusedSimpArgs false
set_option linter.unusedVariables false
set_option maxRecDepth 4000
set_option maxHeartbeats 8000000
section
variable {S : Sys} (hS : Has S) (n : Nat)
variable {cl fl ho : Int} {fr to : List UInt8} {ex : List (Int × List UInt8)} {fg : Bool} {id at' : Int} {mo : Bool} {pt : Int} {da : List UInt8}
include hS
theorem ev_within6 (x m : Int) : S.ev (n + 1) id_ip6_within [.int .i64 x, .int .i64 m] none = some (.bool (decide (0 ≤ x ∧ x ≤ m)), none) := by
  rw [Sys.step hS.h_ip6_within, F_ip6_within_eq]
  unfold F_ip6_within
  (try simp only [guard_merge, or_merge, and_merge, or_pick, and_pick, guard_or, guard_and]); simp only [to_ob]
  by_cases h1 : 0 ≤ x <;> by_cases h2 : x ≤ m <;> simp only [go_sem, ↓reduceIte, reduceCtorEq, upd_ne, back_new (no_at), Nat.reduceAdd, Nat.reduceEqDiff, Nat.reduceMul, Nat.reduceSub, Nat.reduceLeDiff, Nat.reduceLT, Int.reduceToNat, Int.reduceLE, Int.reduceLT, Int.reduceEq, UInt8.reduceOfNat, h1, h2]
theorem ev_kinds (hfr : fr.length = 16) (hto : to.length = 16) (hl : ex.length ≤ 140737488351232) :
    S.ev (n + 2) id_ip6_kinds [ip6LV cl fl ho fr to (extsLV ex) fg id at' mo pt da] none = some (.bool (decide (kd6 ex fg pt)), none) := by
  rw [Sys.step hS.h_ip6_kinds, F_ip6_kinds_eq]
  unfold F_ip6_kinds
  have hx := ev_extends hS n
  (try simp only [guard_merge, or_merge, and_merge, or_pick, and_pick, guard_or, guard_and]); simp only [to_ob]
  simp only [go_sem, ↓reduceIte, reduceCtorEq, upd_ne, back_new (no_at), Nat.reduceAdd, Nat.reduceEqDiff, Nat.reduceMul, Nat.reduceSub, Nat.reduceLeDiff, Nat.reduceLT, Int.reduceToNat, Int.reduceLE, Int.reduceLT, Int.reduceEq, UInt8.reduceOfNat, hfr, hto, List.length_map]
  refine while_rule (fun k q => ∃ i : Nat, q = ([.bool false, .int .i64 (i : Int)], noSlots) ∧ i + k = ex.length ∧ kB (ex.drop i) = kB ex) ex.length ⟨0, rfl, by simp, by simp⟩ ?_
  rintro k q ⟨i, rfl, hi, hr⟩
  simp only [go_sem, ↓reduceIte, reduceCtorEq, upd_ne, back_new (no_at), Nat.reduceAdd, Nat.reduceEqDiff, Nat.reduceMul, Nat.reduceSub, Nat.reduceLeDiff, Nat.reduceLT, Int.reduceToNat, Int.reduceLE, Int.reduceLT, Int.reduceEq, UInt8.reduceOfNat]
  refine nxt_ite (fun h => ?_) (fun h => ?_)
  · have hlt : i < ex.length := by omega
    obtain ⟨e, he⟩ : ∃ e, ex[i]? = some e := ⟨ex[i], by simp [hlt]⟩
    have hd := drop_ex he
    have e1 : IntKind.i64.wrap ((i : Int) + 1) = ((i + 1 : Nat) : Int) := by rw [wrap_id (by omega) (by omega)]; omega
    by_cases h1 : isE e.1
    · have h1' : decide (isE e.1) = true := decide_eq_true h1
      simp only [go_sem, ↓reduceIte, reduceCtorEq, upd_ne, back_new (no_at), Nat.reduceAdd, Nat.reduceEqDiff, Nat.reduceMul, Nat.reduceSub, Nat.reduceLeDiff, Nat.reduceLT, Int.reduceToNat, Int.reduceLE, Int.reduceLT, Int.reduceEq, UInt8.reduceOfNat, List.getElem?_map, Int.toNat_natCast, he, hx, h1', e1]
      exact ⟨k - 1, by omega, i + 1, rfl, by omega, by rw [← hr, hd]; simp only [kB, List.all_cons, h1', Bool.true_and]⟩
    · have h1' : decide (isE e.1) = false := decide_eq_false h1
      have hk : kB ex = false := by rw [← hr, hd]; simp only [kB, List.all_cons, h1', Bool.false_and]
      have hk' : ¬ kd6 ex fg pt := fun q => by have := q.1; rw [hk] at this; simp at this
      simp only [go_sem, ↓reduceIte, reduceCtorEq, upd_ne, back_new (no_at), Nat.reduceAdd, Nat.reduceEqDiff, Nat.reduceMul, Nat.reduceSub, Nat.reduceLeDiff, Nat.reduceLT, Int.reduceToNat, Int.reduceLE, Int.reduceLT, Int.reduceEq, UInt8.reduceOfNat, List.getElem?_map, Int.toNat_natCast, he, hx, h1', e1, Nxt, exIf, decide_eq_false hk']
  · rw [List.drop_eq_nil_of_le (by omega)] at hr
    have hk : kB ex = true := by rw [← hr]; rfl
    cases fg
    · by_cases h1 : isE pt
      · have h1' : decide (isE pt) = true := decide_eq_true h1
        have hk' : ¬ kd6 ex false pt := fun q => (q.2 rfl).1 h1
        simp only [go_sem, ↓reduceIte, reduceCtorEq, upd_ne, back_new (no_at), Nat.reduceAdd, Nat.reduceEqDiff, Nat.reduceMul, Nat.reduceSub, Nat.reduceLeDiff, Nat.reduceLT, Int.reduceToNat, Int.reduceLE, Int.reduceLT, Int.reduceEq, UInt8.reduceOfNat, hfr, hto, hx, h1', Nxt, exIf, decide_eq_false hk']
      · have h1' : decide (isE pt) = false := decide_eq_false h1
        by_cases h2 : pt = 44
        · have hk' : ¬ kd6 ex false pt := fun q => (q.2 rfl).2 h2
          simp only [go_sem, ↓reduceIte, reduceCtorEq, upd_ne, back_new (no_at), Nat.reduceAdd, Nat.reduceEqDiff, Nat.reduceMul, Nat.reduceSub, Nat.reduceLeDiff, Nat.reduceLT, Int.reduceToNat, Int.reduceLE, Int.reduceLT, Int.reduceEq, UInt8.reduceOfNat, hfr, hto, hx, h1', Nxt, exIf, decide_eq_false hk']
          simp [h2]
        · have hk' : kd6 ex false pt := ⟨hk, fun _ => ⟨h1, h2⟩⟩
          simp only [go_sem, ↓reduceIte, reduceCtorEq, upd_ne, back_new (no_at), Nat.reduceAdd, Nat.reduceEqDiff, Nat.reduceMul, Nat.reduceSub, Nat.reduceLeDiff, Nat.reduceLT, Int.reduceToNat, Int.reduceLE, Int.reduceLT, Int.reduceEq, UInt8.reduceOfNat, hfr, hto, hx, h1', Nxt, exIf, decide_eq_true hk']
          simp [h2]
    · have hk' : kd6 ex true pt := ⟨hk, fun q => by simp at q⟩
      simp only [go_sem, ↓reduceIte, reduceCtorEq, upd_ne, back_new (no_at), Nat.reduceAdd, Nat.reduceEqDiff, Nat.reduceMul, Nat.reduceSub, Nat.reduceLeDiff, Nat.reduceLT, Int.reduceToNat, Int.reduceLE, Int.reduceLT, Int.reduceEq, UInt8.reduceOfNat, hfr, hto, hx, Nxt, exIf, decide_eq_true hk']
theorem ev_formed (hfr : fr.length = 16) (hto : to.length = 16) (hl : ex.length ≤ 140737488351232) (hda : da.length ≤ 140737488351232) :
    S.ev (n + 2) id_ip6_formed [ip6LV cl fl ho fr to (extsLV ex) fg id at' mo pt da] none = some (.bool (decide (fm6' ex fg id at' mo da)), none) := by
  rw [Sys.step hS.h_ip6_formed, F_ip6_formed_eq]
  unfold F_ip6_formed
  have hp := ev_pieced hS n (cl := cl) (fl := fl) (ho := ho) (ex := ex.map extLV) (fg := true) (id := id) (at' := at') (mo := mo) (pt := pt) (da := da) hfr hto
  (try simp only [guard_merge, or_merge, and_merge, or_pick, and_pick, guard_or, guard_and]); simp only [to_ob]
  simp only [go_sem, ↓reduceIte, reduceCtorEq, upd_ne, back_new (no_at), Nat.reduceAdd, Nat.reduceEqDiff, Nat.reduceMul, Nat.reduceSub, Nat.reduceLeDiff, Nat.reduceLT, Int.reduceToNat, Int.reduceLE, Int.reduceLT, Int.reduceEq, UInt8.reduceOfNat, hfr, hto, List.length_map]
  refine while_rule (fun k q => ∃ i : Nat, q = ([.bool false, .int .i64 (i : Int)], noSlots) ∧ i + k = ex.length ∧ fB (decide (i = 0)) (ex.drop i) = fB true ex) ex.length ⟨0, rfl, by simp, by simp⟩ ?_
  rintro k q ⟨i, rfl, hi, hr⟩
  simp only [go_sem, ↓reduceIte, reduceCtorEq, upd_ne, back_new (no_at), Nat.reduceAdd, Nat.reduceEqDiff, Nat.reduceMul, Nat.reduceSub, Nat.reduceLeDiff, Nat.reduceLT, Int.reduceToNat, Int.reduceLE, Int.reduceLT, Int.reduceEq, UInt8.reduceOfNat]
  refine nxt_ite (fun h => ?_) (fun h => ?_)
  · have hlt : i < ex.length := by omega
    obtain ⟨e, he⟩ : ∃ e, ex[i]? = some e := ⟨ex[i], by simp [hlt]⟩
    have hd := drop_ex he
    have e1 : IntKind.i64.wrap ((i : Int) + 1) = ((i + 1 : Nat) : Int) := by rw [wrap_id (by omega) (by omega)]; omega
    have e2 : Int.tmod (e.2.length : Int) 8 = ((e.2.length % 8 : Nat) : Int) := rfl
    have bad : ¬ fE1 (decide (i = 0)) e → fB true ex = false := fun q => by rw [← hr, hd]; simp only [fB, decide_eq_false q, Bool.false_and]
    have bad' : ¬ fE1 (decide (i = 0)) e → decide (fm6' ex fg id at' mo da) = false := fun q => decide_eq_false fun p => by have := p.1; rw [bad q] at this; simp at this
    by_cases h1 : e.2.length % 8 = 6
    · have h1' : ((e.2.length % 8 : Nat) : Int) = 6 := by omega
      by_cases h2 : e.2.length ≤ 2046
      · have h2' : ¬ 2046 < (e.2.length : Int) := by omega
        by_cases h3 : e.1 = 0
        · by_cases h4 : i = 0
          · have h4' : ¬ 0 < (i : Int) := by omega
            simp only [go_sem, ↓reduceIte, reduceCtorEq, upd_ne, back_new (no_at), Nat.reduceAdd, Nat.reduceEqDiff, Nat.reduceMul, Nat.reduceSub, Nat.reduceLeDiff, Nat.reduceLT, Int.reduceToNat, Int.reduceLE, Int.reduceLT, Int.reduceEq, UInt8.reduceOfNat, List.getElem?_map, Int.toNat_natCast, he, e1, e2, h1', h2', h3, h4']
            refine ⟨k - 1, by omega, i + 1, rfl, by omega, ?_⟩
            have hg : fE1 (decide (i = 0)) e := ⟨h1, h2, fun _ => decide_eq_true h4⟩
            rw [← hr, hd]; simp only [fB, decide_eq_true hg, Bool.true_and]
            rw [show decide (i + 1 = 0) = false from decide_eq_false (by omega)]
          · have h4' : 0 < (i : Int) := by omega
            have hg : ¬ fE1 (decide (i = 0)) e := fun q => h4 (of_decide_eq_true (q.2.2 h3))
            simp only [go_sem, ↓reduceIte, reduceCtorEq, upd_ne, back_new (no_at), Nat.reduceAdd, Nat.reduceEqDiff, Nat.reduceMul, Nat.reduceSub, Nat.reduceLeDiff, Nat.reduceLT, Int.reduceToNat, Int.reduceLE, Int.reduceLT, Int.reduceEq, UInt8.reduceOfNat, List.getElem?_map, Int.toNat_natCast, he, e1, e2, h1', h2', h3, h4', Nxt, exIf, bad' hg]
        · simp only [go_sem, ↓reduceIte, reduceCtorEq, upd_ne, back_new (no_at), Nat.reduceAdd, Nat.reduceEqDiff, Nat.reduceMul, Nat.reduceSub, Nat.reduceLeDiff, Nat.reduceLT, Int.reduceToNat, Int.reduceLE, Int.reduceLT, Int.reduceEq, UInt8.reduceOfNat, List.getElem?_map, Int.toNat_natCast, he, e1, e2, h1', h2', h3]
          refine ⟨k - 1, by omega, i + 1, rfl, by omega, ?_⟩
          have hg : fE1 (decide (i = 0)) e := ⟨h1, h2, fun q => absurd q h3⟩
          rw [← hr, hd]; simp only [fB, decide_eq_true hg, Bool.true_and]
          rw [show decide (i + 1 = 0) = false from decide_eq_false (by omega)]
      · have h2' : 2046 < (e.2.length : Int) := by omega
        have hg : ¬ fE1 (decide (i = 0)) e := fun q => h2 q.2.1
        simp only [go_sem, ↓reduceIte, reduceCtorEq, upd_ne, back_new (no_at), Nat.reduceAdd, Nat.reduceEqDiff, Nat.reduceMul, Nat.reduceSub, Nat.reduceLeDiff, Nat.reduceLT, Int.reduceToNat, Int.reduceLE, Int.reduceLT, Int.reduceEq, UInt8.reduceOfNat, List.getElem?_map, Int.toNat_natCast, he, e1, e2, h1', h2', Nxt, exIf, bad' hg]
    · have h1' : ¬ ((e.2.length % 8 : Nat) : Int) = 6 := by omega
      have hg : ¬ fE1 (decide (i = 0)) e := fun q => h1 q.1
      simp only [go_sem, ↓reduceIte, reduceCtorEq, upd_ne, back_new (no_at), Nat.reduceAdd, Nat.reduceEqDiff, Nat.reduceMul, Nat.reduceSub, Nat.reduceLeDiff, Nat.reduceLT, Int.reduceToNat, Int.reduceLE, Int.reduceLT, Int.reduceEq, UInt8.reduceOfNat, List.getElem?_map, Int.toNat_natCast, he, e1, e2, h1', Nxt, exIf, bad' hg]
  · rw [List.drop_eq_nil_of_le (by omega)] at hr
    have hk : fB true ex = true := by rw [← hr]; cases decide (i = 0) <;> rfl
    cases fg
    · have hq : decide (fm6' ex false id at' mo da) = (decide (id = 0) && (decide (at' = 0) && !mo)) := by
        rw [Bool.eq_iff_iff]
        simp only [fm6', hk, decide_eq_true_eq, Bool.and_eq_true, Bool.not_eq_true', true_and, Bool.false_eq_true, if_false]
      rw [hq]
      by_cases h1 : id = 0 <;> by_cases h2 : at' = 0 <;> cases mo <;> simp only [go_sem, ↓reduceIte, reduceCtorEq, upd_ne, back_new (no_at), Nat.reduceAdd, Nat.reduceEqDiff, Nat.reduceMul, Nat.reduceSub, Nat.reduceLeDiff, Nat.reduceLT, Int.reduceToNat, Int.reduceLE, Int.reduceLT, Int.reduceEq, UInt8.reduceOfNat, hfr, hto, Nxt, exIf, h1, h2]
    · have hq : decide (fm6' ex true id at' mo da) = decide (pc6 mo da) := by
        apply decide_eq_decide.2
        simp only [fm6', hk, true_and, if_true]
      simp only [go_sem, ↓reduceIte, reduceCtorEq, upd_ne, back_new (no_at), Nat.reduceAdd, Nat.reduceEqDiff, Nat.reduceMul, Nat.reduceSub, Nat.reduceLeDiff, Nat.reduceLT, Int.reduceToNat, Int.reduceLE, Int.reduceLT, Int.reduceEq, UInt8.reduceOfNat, hfr, hto, hp, Nxt, exIf, hq]
theorem ev_size (hfr : fr.length = 16) (hto : to.length = 16) (hl : ex.length ≤ 20) (hb : ∀ e ∈ ex, e.2.length ≤ 140737488351232) (hda : da.length ≤ 140737488351232) :
    S.ev (n + 1) id_ip6_size [ip6LV cl fl ho fr to (extsLV ex) fg id at' mo pt da] none = some (.int .i64 (bh6 ex fg da : Nat), none) := by
  rw [Sys.step hS.h_ip6_size, F_ip6_size_eq]
  unfold F_ip6_size
  have hsz := szE_le ex hb
  (try simp only [guard_merge, or_merge, and_merge, or_pick, and_pick, guard_or, guard_and]); simp only [to_ob]
  have go : ∀ (b0 : Nat) (i : Nat) (e : Int × List UInt8), b0 ≤ 140737488351240 → ex[i]? = some e → IntKind.i64.wrap (((b0 + szE (ex.take i) : Nat) : Int) + IntKind.i64.wrap ((e.2.length : Int) + 2)) = ((b0 + szE (ex.take (i + 1)) : Nat) : Int) := by
    intro b0 i e hb0 he
    have htk : ex.take (i + 1) = ex.take i ++ [e] := by rw [List.take_add_one, he]; rfl
    have h1 := hb e (List.mem_of_getElem? he)
    have h2 := szE_le (ex.take i) fun x hx => hb x (List.mem_of_mem_take hx)
    rw [List.length_take] at h2
    rw [wrap_id (n := (e.2.length : Int) + 2) (by omega) (by omega), wrap_id (by omega) (by omega), htk, szE_app]
    simp only [szE]
    omega
  have e0 : IntKind.i64.wrap ((da.length : Int) + 8) = ((da.length + 8 : Nat) : Int) := by rw [wrap_id (by omega) (by omega)]; omega
  cases fg
  · simp only [go_sem, ↓reduceIte, reduceCtorEq, upd_ne, back_new (no_at), Nat.reduceAdd, Nat.reduceEqDiff, Nat.reduceMul, Nat.reduceSub, Nat.reduceLeDiff, Nat.reduceLT, Int.reduceToNat, Int.reduceLE, Int.reduceLT, Int.reduceEq, UInt8.reduceOfNat, hfr, hto, List.length_map]
    refine while_rule (fun k q => ∃ i : Nat, q = ([.int .i64 ((da.length + szE (ex.take i) : Nat) : Int), .int .i64 (i : Int)], noSlots) ∧ i + k = ex.length) ex.length ⟨0, by simp [szE], by simp⟩ ?_
    rintro k q ⟨i, rfl, hi⟩
    simp only [go_sem, ↓reduceIte, reduceCtorEq, upd_ne, back_new (no_at), Nat.reduceAdd, Nat.reduceEqDiff, Nat.reduceMul, Nat.reduceSub, Nat.reduceLeDiff, Nat.reduceLT, Int.reduceToNat, Int.reduceLE, Int.reduceLT, Int.reduceEq, UInt8.reduceOfNat]
    refine nxt_ite (fun h => ?_) (fun h => ?_)
    · have hlt : i < ex.length := by omega
      obtain ⟨e, he⟩ : ∃ e, ex[i]? = some e := ⟨ex[i], by simp [hlt]⟩
      have e1 : IntKind.i64.wrap ((i : Int) + 1) = ((i + 1 : Nat) : Int) := by rw [wrap_id (by omega) (by omega)]; omega
      have e2 := go da.length i e (by omega) he
      simp only [go_sem, ↓reduceIte, reduceCtorEq, upd_ne, back_new (no_at), Nat.reduceAdd, Nat.reduceEqDiff, Nat.reduceMul, Nat.reduceSub, Nat.reduceLeDiff, Nat.reduceLT, Int.reduceToNat, Int.reduceLE, Int.reduceLT, Int.reduceEq, UInt8.reduceOfNat, List.getElem?_map, Int.toNat_natCast, he, e1, e2]
      exact ⟨k - 1, by omega, i + 1, rfl, by omega⟩
    · rw [List.take_of_length_le (by omega)]
      have : bh6 ex false da = da.length + szE ex := by unfold bh6; rw [if_neg Bool.false_ne_true]; omega
      simp only [go_sem, ↓reduceIte, reduceCtorEq, upd_ne, back_new (no_at), Nat.reduceAdd, Nat.reduceEqDiff, Nat.reduceMul, Nat.reduceSub, Nat.reduceLeDiff, Nat.reduceLT, Int.reduceToNat, Int.reduceLE, Int.reduceLT, Int.reduceEq, UInt8.reduceOfNat, Nxt, exIf, this]
  · simp only [go_sem, ↓reduceIte, reduceCtorEq, upd_ne, back_new (no_at), Nat.reduceAdd, Nat.reduceEqDiff, Nat.reduceMul, Nat.reduceSub, Nat.reduceLeDiff, Nat.reduceLT, Int.reduceToNat, Int.reduceLE, Int.reduceLT, Int.reduceEq, UInt8.reduceOfNat, hfr, hto, e0, List.length_map]
    refine while_rule (fun k q => ∃ i : Nat, q = ([.int .i64 ((da.length + 8 + szE (ex.take i) : Nat) : Int), .int .i64 (i : Int)], noSlots) ∧ i + k = ex.length) ex.length ⟨0, by simp [szE], by simp⟩ ?_
    rintro k q ⟨i, rfl, hi⟩
    simp only [go_sem, ↓reduceIte, reduceCtorEq, upd_ne, back_new (no_at), Nat.reduceAdd, Nat.reduceEqDiff, Nat.reduceMul, Nat.reduceSub, Nat.reduceLeDiff, Nat.reduceLT, Int.reduceToNat, Int.reduceLE, Int.reduceLT, Int.reduceEq, UInt8.reduceOfNat]
    refine nxt_ite (fun h => ?_) (fun h => ?_)
    · have hlt : i < ex.length := by omega
      obtain ⟨e, he⟩ : ∃ e, ex[i]? = some e := ⟨ex[i], by simp [hlt]⟩
      have e1 : IntKind.i64.wrap ((i : Int) + 1) = ((i + 1 : Nat) : Int) := by rw [wrap_id (by omega) (by omega)]; omega
      have e2 := go (da.length + 8) i e (by omega) he
      simp only [go_sem, ↓reduceIte, reduceCtorEq, upd_ne, back_new (no_at), Nat.reduceAdd, Nat.reduceEqDiff, Nat.reduceMul, Nat.reduceSub, Nat.reduceLeDiff, Nat.reduceLT, Int.reduceToNat, Int.reduceLE, Int.reduceLT, Int.reduceEq, UInt8.reduceOfNat, List.getElem?_map, Int.toNat_natCast, he, e1, e2]
      exact ⟨k - 1, by omega, i + 1, rfl, by omega⟩
    · rw [List.take_of_length_le (by omega)]
      have : bh6 ex true da = da.length + 8 + szE ex := by unfold bh6; rw [if_pos rfl]; omega
      simp only [go_sem, ↓reduceIte, reduceCtorEq, upd_ne, back_new (no_at), Nat.reduceAdd, Nat.reduceEqDiff, Nat.reduceMul, Nat.reduceSub, Nat.reduceLeDiff, Nat.reduceLT, Int.reduceToNat, Int.reduceLE, Int.reduceLT, Int.reduceEq, UInt8.reduceOfNat, Nxt, exIf, this]
theorem ev_why6 (hfr : fr.length = 16) (hto : to.length = 16) (hl : ex.length ≤ 140737488351232) (hb : ∀ e ∈ ex, e.2.length ≤ 140737488351232) (hda : da.length ≤ 140737488351232) :
    S.ev (n + 3) id_ip6_why [ip6LV cl fl ho fr to (extsLV ex) fg id at' mo pt da] none = some (.int .i64 (why6 cl fl ho ex fg id at' mo pt da), none) := by
  rw [Sys.step hS.h_ip6_why, F_ip6_why_eq]
  unfold F_ip6_why
  have hw := ev_within6 hS (n + 1)
  have hk := ev_kinds hS n (cl := cl) (fl := fl) (ho := ho) (fg := fg) (id := id) (at' := at') (mo := mo) (pt := pt) (da := da) hfr hto hl
  have hf := ev_formed hS n (cl := cl) (fl := fl) (ho := ho) (fg := fg) (id := id) (at' := at') (mo := mo) (pt := pt) (da := da) hfr hto hl hda
  (try simp only [guard_merge, or_merge, and_merge, or_pick, and_pick, guard_or, guard_and]); simp only [to_ob]
  unfold why6
  by_cases c1 : rg6 cl fl ho at' pt
  · rw [if_pos c1]
    obtain ⟨⟨a1, a2⟩, ⟨a3, a4⟩, ⟨a5, a6⟩, ⟨a7, a8⟩, ⟨a9, a10⟩, a11⟩ := c1
    have w0 : IntKind.i64.wrap (65535 - at') = 65535 - at' := wrap_id (by omega) (by omega)
    by_cases c2 : kd6 ex fg pt
    · rw [if_pos c2]
      rw [decide_eq_true c2] at hk
      by_cases c3 : fm6' ex fg id at' mo da
      · rw [if_pos c3]
        rw [decide_eq_true c3] at hf
        by_cases c4 : ex.length ≤ 8
        · have c4' : ¬ 8 < (ex.length : Int) := by omega
          by_cases c5 : at' + da.length ≤ 65535
          · have c5' : ¬ 65535 - at' < (da.length : Int) := by omega
            have hb2 : ∀ e ∈ ex, e.2.length ≤ 140737488351232 := by
              have : ∀ (l : List (Int × List UInt8)) (f : Bool), fB f l = true → ∀ e ∈ l, e.2.length ≤ 2046 := by
                intro l
                induction l with
                | nil => intro f h e he; simp at he
                | cons x l ih =>
                  intro f h e he
                  simp only [fB, Bool.and_eq_true, decide_eq_true_eq] at h
                  rcases List.mem_cons.1 he with rfl | he
                  · exact h.1.2.1
                  · exact ih _ h.2 e he
              intro e he
              have := this ex true c3.1 e he
              omega
            have hz := ev_size hS (n + 1) (cl := cl) (fl := fl) (ho := ho) (fr := fr) (to := to) (fg := fg) (id := id) (at' := at') (mo := mo) (pt := pt) (da := da) hfr hto (by omega) hb2 hda
            by_cases c6 : bh6 ex fg da ≤ 65535
            · have c6' : ¬ 65535 < ((bh6 ex fg da : Nat) : Int) := by omega
              simp only [go_sem, ↓reduceIte, reduceCtorEq, upd_ne, back_new (no_at), Nat.reduceAdd, Nat.reduceEqDiff, Nat.reduceMul, Nat.reduceSub, Nat.reduceLeDiff, Nat.reduceLT, Int.reduceToNat, Int.reduceLE, Int.reduceLT, Int.reduceEq, UInt8.reduceOfNat, hfr, hto, hw, a1, a2, a3, a4, a5, a6, a7, a8, a9, a10, a11, hk, hf, c4, c4', c5, c5', c6, c6', w0, hz, List.length_map]
            · have c6' : 65535 < ((bh6 ex fg da : Nat) : Int) := by omega
              simp only [go_sem, ↓reduceIte, reduceCtorEq, upd_ne, back_new (no_at), Nat.reduceAdd, Nat.reduceEqDiff, Nat.reduceMul, Nat.reduceSub, Nat.reduceLeDiff, Nat.reduceLT, Int.reduceToNat, Int.reduceLE, Int.reduceLT, Int.reduceEq, UInt8.reduceOfNat, hfr, hto, hw, a1, a2, a3, a4, a5, a6, a7, a8, a9, a10, a11, hk, hf, c4, c4', c5, c5', c6, c6', w0, hz, List.length_map]
          · have c5' : 65535 - at' < (da.length : Int) := by omega
            simp only [go_sem, ↓reduceIte, reduceCtorEq, upd_ne, back_new (no_at), Nat.reduceAdd, Nat.reduceEqDiff, Nat.reduceMul, Nat.reduceSub, Nat.reduceLeDiff, Nat.reduceLT, Int.reduceToNat, Int.reduceLE, Int.reduceLT, Int.reduceEq, UInt8.reduceOfNat, hfr, hto, hw, a1, a2, a3, a4, a5, a6, a7, a8, a9, a10, a11, hk, hf, c4, c4', c5, c5', w0, List.length_map]
        · have c4' : 8 < (ex.length : Int) := by omega
          simp only [go_sem, ↓reduceIte, reduceCtorEq, upd_ne, back_new (no_at), Nat.reduceAdd, Nat.reduceEqDiff, Nat.reduceMul, Nat.reduceSub, Nat.reduceLeDiff, Nat.reduceLT, Int.reduceToNat, Int.reduceLE, Int.reduceLT, Int.reduceEq, UInt8.reduceOfNat, hfr, hto, hw, a1, a2, a3, a4, a5, a6, a7, a8, a9, a10, a11, hk, hf, c4, c4', List.length_map]
      · rw [if_neg c3]
        rw [decide_eq_false c3] at hf
        simp only [go_sem, ↓reduceIte, reduceCtorEq, upd_ne, back_new (no_at), Nat.reduceAdd, Nat.reduceEqDiff, Nat.reduceMul, Nat.reduceSub, Nat.reduceLeDiff, Nat.reduceLT, Int.reduceToNat, Int.reduceLE, Int.reduceLT, Int.reduceEq, UInt8.reduceOfNat, hfr, hto, hw, a1, a2, a3, a4, a5, a6, a7, a8, a9, a10, a11, hk, hf]
    · rw [if_neg c2]
      rw [decide_eq_false c2] at hk
      simp only [go_sem, ↓reduceIte, reduceCtorEq, upd_ne, back_new (no_at), Nat.reduceAdd, Nat.reduceEqDiff, Nat.reduceMul, Nat.reduceSub, Nat.reduceLeDiff, Nat.reduceLT, Int.reduceToNat, Int.reduceLE, Int.reduceLT, Int.reduceEq, UInt8.reduceOfNat, hfr, hto, hw, a1, a2, a3, a4, a5, a6, a7, a8, a9, a10, a11, hk]
  · rw [if_neg c1]
    by_cases b1 : 0 ≤ cl ∧ cl ≤ 255
    · by_cases b2 : 0 ≤ fl ∧ fl ≤ 1048575
      · by_cases b3 : 0 ≤ ho ∧ ho ≤ 255
        · by_cases b4 : 0 ≤ pt ∧ pt ≤ 255
          · by_cases b5 : 0 ≤ at' ∧ at' ≤ 65528
            · have b6 : ¬ Int.tmod at' 8 = 0 := fun h => c1 ⟨b1, b2, b3, b4, b5, h⟩
              simp only [go_sem, ↓reduceIte, reduceCtorEq, upd_ne, back_new (no_at), Nat.reduceAdd, Nat.reduceEqDiff, Nat.reduceMul, Nat.reduceSub, Nat.reduceLeDiff, Nat.reduceLT, Int.reduceToNat, Int.reduceLE, Int.reduceLT, Int.reduceEq, UInt8.reduceOfNat, hw, hfr, hto, decide_eq_true b1, decide_eq_true b2, decide_eq_true b3, decide_eq_true b4, decide_eq_true b5, b6]
            · simp only [go_sem, ↓reduceIte, reduceCtorEq, upd_ne, back_new (no_at), Nat.reduceAdd, Nat.reduceEqDiff, Nat.reduceMul, Nat.reduceSub, Nat.reduceLeDiff, Nat.reduceLT, Int.reduceToNat, Int.reduceLE, Int.reduceLT, Int.reduceEq, UInt8.reduceOfNat, hw, hfr, hto, decide_eq_true b1, decide_eq_true b2, decide_eq_true b3, decide_eq_true b4, decide_eq_false b5]
          · simp only [go_sem, ↓reduceIte, reduceCtorEq, upd_ne, back_new (no_at), Nat.reduceAdd, Nat.reduceEqDiff, Nat.reduceMul, Nat.reduceSub, Nat.reduceLeDiff, Nat.reduceLT, Int.reduceToNat, Int.reduceLE, Int.reduceLT, Int.reduceEq, UInt8.reduceOfNat, hw, hfr, hto, decide_eq_true b1, decide_eq_true b2, decide_eq_true b3, decide_eq_false b4]
        · simp only [go_sem, ↓reduceIte, reduceCtorEq, upd_ne, back_new (no_at), Nat.reduceAdd, Nat.reduceEqDiff, Nat.reduceMul, Nat.reduceSub, Nat.reduceLeDiff, Nat.reduceLT, Int.reduceToNat, Int.reduceLE, Int.reduceLT, Int.reduceEq, UInt8.reduceOfNat, hw, hfr, hto, decide_eq_true b1, decide_eq_true b2, decide_eq_false b3]
      · simp only [go_sem, ↓reduceIte, reduceCtorEq, upd_ne, back_new (no_at), Nat.reduceAdd, Nat.reduceEqDiff, Nat.reduceMul, Nat.reduceSub, Nat.reduceLeDiff, Nat.reduceLT, Int.reduceToNat, Int.reduceLE, Int.reduceLT, Int.reduceEq, UInt8.reduceOfNat, hw, hfr, hto, decide_eq_true b1, decide_eq_false b2]
    · simp only [go_sem, ↓reduceIte, reduceCtorEq, upd_ne, back_new (no_at), Nat.reduceAdd, Nat.reduceEqDiff, Nat.reduceMul, Nat.reduceSub, Nat.reduceLeDiff, Nat.reduceLT, Int.reduceToNat, Int.reduceLE, Int.reduceLT, Int.reduceEq, UInt8.reduceOfNat, hw, hfr, hto, decide_eq_false b1]
end
end Go.Ev

namespace Go.Ev
set_option linter.unusedSimpArgs false
set_option linter.unusedVariables false
set_option maxRecDepth 4000
set_option maxHeartbeats 8000000
section
variable {S : Sys} (hS : Has S) (n : Nat)
include hS
theorem ev_big6 (x : Int) (m : Nat) (hm : m = 1 ∨ m = 2 ∨ m = 4) (hx : 0 ≤ x ∧ x < ((256 ^ m : Nat) : Int)) (h64 : I64 x) : S.ev (n + 2) id_ip6_big [.int .i64 x, .int .i64 (m : Int)] none = some (.str (beB m x.toNat), none) := by
  rw [Sys.step hS.h_ip6_big, F_ip6_big_eq]
  unfold F_ip6_big
  have h1 := ev_Big hS n x m hm h64
  unfold bigR at h1
  rw [if_pos hx] at h1
  (try simp only [guard_merge, or_merge, and_merge, or_pick, and_pick, guard_or, guard_and]); simp only [to_ob]
  simp only [go_sem, ↓reduceIte, reduceCtorEq, upd_ne, back_new (no_at), Nat.reduceAdd, Nat.reduceEqDiff, Nat.reduceMul, Nat.reduceSub, Nat.reduceLeDiff, Nat.reduceLT, Int.reduceToNat, Int.reduceLE, Int.reduceLT, Int.reduceEq, UInt8.reduceOfNat, h1]
theorem ev_b61 {x : Int} (h : 0 ≤ x) (h1 : x < 256) : S.ev (n + 2) id_ip6_big [.int .i64 x, .int .i64 1] none = some (.str (beB 1 x.toNat), none) := ev_big6 hS n x 1 (by omega) (lt1 h h1) ⟨by omega, by omega⟩
theorem ev_b62 {x : Int} (h : 0 ≤ x) (h1 : x < 65536) : S.ev (n + 2) id_ip6_big [.int .i64 x, .int .i64 2] none = some (.str (beB 2 x.toNat), none) := ev_big6 hS n x 2 (by omega) (lt2 h h1) ⟨by omega, by omega⟩
theorem ev_b64 {x : Int} (h : 0 ≤ x) (h1 : x < 4294967296) : S.ev (n + 2) id_ip6_big [.int .i64 x, .int .i64 4] none = some (.str (beB 4 x.toNat), none) := ev_big6 hS n x 4 (by omega) (lt4 h h1) ⟨by omega, by omega⟩
theorem ev_bytes6_tt {cl fl ho : Int} {fr to : List UInt8} {ex : List (Int × List UInt8)} {id at' : Int} {pt : Int} {da : List UInt8} (hf : FitIp6 cl fl ho fr to ex id at' pt da) (c : why6 cl fl ho ex true id at' true pt da = 0) :
    S.ev (n + 4) id_ip6_Bytes [ip6LV cl fl ho fr to (extsLV ex) true id at' true pt da] none = some (.tup [.str (by6 cl fl ho fr to ex true id at' true pt da), .nili], none) := by
  rw [Sys.step hS.h_ip6_Bytes, F_ip6_Bytes_eq]
  unfold F_ip6_Bytes
  have hfr := hf.hfr
  have hto := hf.hto
  have hw := ev_why6 hS n (cl := cl) (fl := fl) (ho := ho) (fr := fr) (to := to) (ex := ex) (fg := true) (id := id) (at' := at') (mo := true) (pt := pt) (da := da) hfr hto hf.hex (fun e he => (hf.hexs e he).2) hf.hda
  rw [c] at hw
  have ok := why6_zero.1 c
  obtain ⟨⟨⟨a1, a2⟩, ⟨a3, a4⟩, ⟨a5, a6⟩, ⟨a7, a8⟩, ⟨a9, a10⟩, a11⟩, ok2, ok3, ok4, ok5, ok6⟩ := ok
  have hkb := ok2.1
  have hfb := fB_le ex true ok3.1
  have hid := hf.hid
  (try simp only [guard_merge, or_merge, and_merge, or_pick, and_pick, guard_or, guard_and]); simp only [to_ob]
  unfold by6 bd6
  simp only [Bool.false_eq_true, if_true, if_false]
  unfold bh6 at ok6
  simp only [Bool.false_eq_true, if_true, if_false] at ok6
  have b1 := ev_b61 hS (n + 1) (x := pt) (by omega) (by omega)
  have b2 := ev_b62 hS (n + 1) (x := at' + 1) (by omega) (by omega)
  have b3 := ev_b64 hS (n + 1) (x := id) (by omega) (by omega)
  have b4 := ev_b61 hS (n + 1) (x := ho) (by omega) (by omega)
  obtain ⟨cl, rfl⟩ := Int.eq_ofNat_of_zero_le a1
  obtain ⟨fl, rfl⟩ := Int.eq_ofNat_of_zero_le a3
  have b5 := ev_b64 hS (n + 1) (x := ((1610612736 + cl * 1048576 + fl : Nat) : Int)) (by omega) (by omega)
  have w1 : IntKind.i64.wrap id = id := wrap_id (by omega) (by omega)
  have w2 : IntKind.i64.wrap (at' + 1) = at' + 1 := wrap_id (by omega) (by omega)
  have w3 : IntKind.i64.wrap ((ex.length : Int) - 1) = (ex.length : Int) - 1 := wrap_id (by omega) (by omega)
  have w4 : IntKind.i64.wrap ((cl : Int) * 2 ^ min 20 64) = ((cl * 1048576 : Nat) : Int) := by rw [show min 20 64 = 20 from rfl, wrap_id (by omega) (by omega)]; omega
  have w5 : bitsOf .or .i64 1610612736 ((cl * 1048576 : Nat) : Int) = ((1610612736 + cl * 1048576 : Nat) : Int) := by
    rw [show (1610612736 : Int) = ((1610612736 : Nat) : Int) from rfl, bits_or_nat (by decide) (by simp [IntKind.max, IntKind.signed, IntKind.bits]; omega), or6a (by omega)]
  have w6 : bitsOf .or .i64 ((1610612736 + cl * 1048576 : Nat) : Int) (fl : Int) = ((1610612736 + cl * 1048576 + fl : Nat) : Int) := by
    rw [bits_or_nat (by simp [IntKind.max, IntKind.signed, IntKind.bits]; omega) (by simp [IntKind.max, IntKind.signed, IntKind.bits]; omega), or6b (by omega) (by omega)]
  have hl := beB_len
  have m0 : ∀ k : Nat, k ≤ 1000000 → k ≤ maxStr := fun k h => by unfold maxStr; omega
  have m2 : 2 ≤ maxStr := m0 _ (by decide)
  have m4 : 4 ≤ maxStr := m0 _ (by decide)
  have m6 : 6 ≤ maxStr := m0 _ (by decide)
  have m7 : 7 ≤ maxStr := m0 _ (by decide)
  have m8 : 8 ≤ maxStr := m0 _ (by decide)
  have m24 : 24 ≤ maxStr := m0 _ (by decide)
  have m40 : 40 ≤ maxStr := m0 _ (by decide)
  have mda : 8 + da.length ≤ maxStr := m0 _ (by omega)
  have ht1 : fr.take 16 = fr := List.take_of_length_le (by omega)
  have ht2 : to.take 16 = to := List.take_of_length_le (by omega)
  simp only [go_sem, ↓reduceIte, reduceCtorEq, upd_ne, back_new (no_at), Nat.reduceAdd, Nat.reduceEqDiff, Nat.reduceMul, Nat.reduceSub, Nat.reduceLeDiff, Nat.reduceLT, Int.reduceToNat, Int.reduceLE, Int.reduceLT, Int.reduceEq, UInt8.reduceOfNat, List.getElem?_map, Int.toNat_natCast, ↓e_sadd, hw, c, hfr, hto, b1, b2, b3, w1, w2, w3, hl, m2, m4, m6, m7, m8, mda, List.append_assoc, List.length_append, List.length_map]
  generalize hB : pcB id at' true pt da = B at *
  rw [show beB 1 pt.toNat ++ (0 :: (beB 2 (at' + 1).toNat ++ (beB 4 id.toNat ++ da))) = B by rw [← hB]; unfold pcB; rw [if_pos rfl, show (at' + 1).toNat = at'.toNat + 1 by omega]]
  have hBl : B.length ≤ 65535 := by rw [← hB]; unfold pcB; simp only [List.length_append, List.length_cons, beB_len]; omega
  have hBs : szE ex + B.length ≤ 65535 := by rw [← hB]; unfold pcB; simp only [List.length_append, List.length_cons, beB_len]; omega
  have hNr : 0 ≤ (44 : Int) ∧ (44 : Int) ≤ 255 := by omega
  refine while_rule (fun k q => ∃ i : Nat, q = ([.str (exB (ex.drop i) 44 B), .int .i64 (nxE (ex.drop i) 44), .int .i64 ((i : Int) - 1)], noSlots) ∧ i ≤ ex.length ∧ k = i) ex.length ⟨ex.length, by rw [List.drop_eq_nil_of_le (Nat.le_refl _)]; rfl, Nat.le_refl _, rfl⟩ ?_
  rintro k q ⟨i, rfl, hi, rfl⟩
  simp only [go_sem, ↓reduceIte, reduceCtorEq, upd_ne, back_new (no_at), Nat.reduceAdd, Nat.reduceEqDiff, Nat.reduceMul, Nat.reduceSub, Nat.reduceLeDiff, Nat.reduceLT, Int.reduceToNat, Int.reduceLE, Int.reduceLT, Int.reduceEq, UInt8.reduceOfNat]
  refine nxt_ite (fun h => ?_) (fun h => ?_)
  · obtain ⟨j, rfl⟩ : ∃ j, k = j + 1 := ⟨k - 1, by omega⟩
    have hlt : j < ex.length := by omega
    obtain ⟨e, he⟩ : ∃ e, ex[j]? = some e := ⟨ex[j], by simp [hlt]⟩
    have hd := drop_ex he
    have hem := List.mem_of_getElem? he
    have heb := hfb e hem
    have hnr := nxE_rg (p := 44) (kB_drop (i := j + 1) hkb) hNr
    have hxl := exB_len (ex.drop (j + 1)) 44 B
    have hsz := szE_drop ex (j + 1)
    have hsz2 := szE_drop ex j
    rw [hd] at hsz2
    simp only [szE] at hsz2
    have j1 : ((j + 1 : Nat) : Int) - 1 = (j : Int) := by omega
    have j2 : IntKind.i64.wrap ((j : Int) - 1) = (j : Int) - 1 := wrap_id (by omega) (by omega)
    have j3 : IntKind.i64.wrap (Int.tdiv (e.2.length : Int) 8) = ((e.2.length / 8 : Nat) : Int) := by
      rw [show Int.tdiv (e.2.length : Int) 8 = ((e.2.length / 8 : Nat) : Int) from rfl, wrap_id (by omega) (by omega)]
    have c1 := ev_b61 hS (n + 1) (x := nxE (ex.drop (j + 1)) 44) (by omega) (by omega)
    have c2 := ev_b61 hS (n + 1) (x := ((e.2.length / 8 : Nat) : Int)) (by omega) (by omega)
    have m1 : 2 + e.2.length ≤ maxStr := m0 _ (by omega)
    have m3 : 2 + (e.2.length + (szE (ex.drop (j + 1)) + B.length)) ≤ maxStr := m0 _ (by omega)
    have m5 : 2 + e.2.length + (szE (ex.drop (j + 1)) + B.length) ≤ maxStr := m0 _ (by omega)
    have m9 : 1 + (1 + e.2.length) ≤ maxStr := m0 _ (by omega)
    have m10 : 1 + (1 + (e.2.length + (szE (ex.drop (j + 1)) + B.length))) ≤ maxStr := m0 _ (by omega)
    have m11 : 1 + (1 + e.2.length) + (szE (ex.drop (j + 1)) + B.length) ≤ maxStr := m0 _ (by omega)
    simp only [Int.toNat_natCast] at c2
    simp only [go_sem, ↓reduceIte, reduceCtorEq, upd_ne, back_new (no_at), Nat.reduceAdd, Nat.reduceEqDiff, Nat.reduceMul, Nat.reduceSub, Nat.reduceLeDiff, Nat.reduceLT, Int.reduceToNat, Int.reduceLE, Int.reduceLT, Int.reduceEq, UInt8.reduceOfNat, List.getElem?_map, Int.toNat_natCast, ↓e_sadd, he, j1, j2, j3, c1, c2, hl, hxl, m1, m2, m3, m5, m9, m10, m11, List.append_assoc, List.length_append]
    exact ⟨j, by omega, j, by rw [hd]; rfl, by omega, rfl⟩
  · obtain rfl : k = 0 := by omega
    rw [List.drop_zero]
    have hxl := exB_len ex 44 B
    have hnr := nxE_rg (p := 44) hkb hNr
    have c1 := ev_b61 hS (n + 1) (x := nxE ex 44) (by omega) (by omega)
    have c2 := ev_b62 hS (n + 1) (x := ((szE ex + B.length : Nat) : Int)) (by omega) (by omega)
    simp only [Int.toNat_natCast] at c2 b5
    have m1 : 40 + (szE ex + B.length) ≤ maxStr := m0 _ (by omega)
    have m3 : 4 + (2 + (1 + (1 + (16 + (16 + (szE ex + B.length)))))) ≤ maxStr := m0 _ (by omega)
    have m5 : 4 + (2 + (1 + (1 + 16))) ≤ maxStr := m0 _ (by omega)
    have m9 : 4 + (2 + (1 + (1 + (16 + 16)))) ≤ maxStr := m0 _ (by omega)
    simp only [go_sem, ↓reduceIte, reduceCtorEq, upd_ne, back_new (no_at), Nat.reduceAdd, Nat.reduceEqDiff, Nat.reduceMul, Nat.reduceSub, Nat.reduceLeDiff, Nat.reduceLT, Int.reduceToNat, Int.reduceLE, Int.reduceLT, Int.reduceEq, UInt8.reduceOfNat, List.getElem?_map, Int.toNat_natCast, ↓e_sadd, Nxt, exIf, hfr, hto, ht1, ht2, toBytes_byteLV, b4, b5, c1, c2, w4, w5, w6, hl, hxl, m1, m2, m3, m4, m5, m6, m7, m8, m9, m24, m40, List.append_assoc, List.length_append, Int.toNat_natCast]
theorem ev_bytes6_tf {cl fl ho : Int} {fr to : List UInt8} {ex : List (Int × List UInt8)} {id at' : Int} {pt : Int} {da : List UInt8} (hf : FitIp6 cl fl ho fr to ex id at' pt da) (c : why6 cl fl ho ex true id at' false pt da = 0) :
    S.ev (n + 4) id_ip6_Bytes [ip6LV cl fl ho fr to (extsLV ex) true id at' false pt da] none = some (.tup [.str (by6 cl fl ho fr to ex true id at' false pt da), .nili], none) := by
  rw [Sys.step hS.h_ip6_Bytes, F_ip6_Bytes_eq]
  unfold F_ip6_Bytes
  have hfr := hf.hfr
  have hto := hf.hto
  have hw := ev_why6 hS n (cl := cl) (fl := fl) (ho := ho) (fr := fr) (to := to) (ex := ex) (fg := true) (id := id) (at' := at') (mo := false) (pt := pt) (da := da) hfr hto hf.hex (fun e he => (hf.hexs e he).2) hf.hda
  rw [c] at hw
  have ok := why6_zero.1 c
  obtain ⟨⟨⟨a1, a2⟩, ⟨a3, a4⟩, ⟨a5, a6⟩, ⟨a7, a8⟩, ⟨a9, a10⟩, a11⟩, ok2, ok3, ok4, ok5, ok6⟩ := ok
  have hkb := ok2.1
  have hfb := fB_le ex true ok3.1
  have hid := hf.hid
  (try simp only [guard_merge, or_merge, and_merge, or_pick, and_pick, guard_or, guard_and]); simp only [to_ob]
  unfold by6 bd6
  simp only [Bool.false_eq_true, if_true, if_false]
  unfold bh6 at ok6
  simp only [Bool.false_eq_true, if_true, if_false] at ok6
  have b1 := ev_b61 hS (n + 1) (x := pt) (by omega) (by omega)
  have b2 := ev_b62 hS (n + 1) (x := at') (by omega) (by omega)
  have b3 := ev_b64 hS (n + 1) (x := id) (by omega) (by omega)
  have b4 := ev_b61 hS (n + 1) (x := ho) (by omega) (by omega)
  obtain ⟨cl, rfl⟩ := Int.eq_ofNat_of_zero_le a1
  obtain ⟨fl, rfl⟩ := Int.eq_ofNat_of_zero_le a3
  have b5 := ev_b64 hS (n + 1) (x := ((1610612736 + cl * 1048576 + fl : Nat) : Int)) (by omega) (by omega)
  have w1 : IntKind.i64.wrap id = id := wrap_id (by omega) (by omega)
  have w2 : IntKind.i64.wrap (at' + 1) = at' + 1 := wrap_id (by omega) (by omega)
  have w3 : IntKind.i64.wrap ((ex.length : Int) - 1) = (ex.length : Int) - 1 := wrap_id (by omega) (by omega)
  have w4 : IntKind.i64.wrap ((cl : Int) * 2 ^ min 20 64) = ((cl * 1048576 : Nat) : Int) := by rw [show min 20 64 = 20 from rfl, wrap_id (by omega) (by omega)]; omega
  have w5 : bitsOf .or .i64 1610612736 ((cl * 1048576 : Nat) : Int) = ((1610612736 + cl * 1048576 : Nat) : Int) := by
    rw [show (1610612736 : Int) = ((1610612736 : Nat) : Int) from rfl, bits_or_nat (by decide) (by simp [IntKind.max, IntKind.signed, IntKind.bits]; omega), or6a (by omega)]
  have w6 : bitsOf .or .i64 ((1610612736 + cl * 1048576 : Nat) : Int) (fl : Int) = ((1610612736 + cl * 1048576 + fl : Nat) : Int) := by
    rw [bits_or_nat (by simp [IntKind.max, IntKind.signed, IntKind.bits]; omega) (by simp [IntKind.max, IntKind.signed, IntKind.bits]; omega), or6b (by omega) (by omega)]
  have hl := beB_len
  have m0 : ∀ k : Nat, k ≤ 1000000 → k ≤ maxStr := fun k h => by unfold maxStr; omega
  have m2 : 2 ≤ maxStr := m0 _ (by decide)
  have m4 : 4 ≤ maxStr := m0 _ (by decide)
  have m6 : 6 ≤ maxStr := m0 _ (by decide)
  have m7 : 7 ≤ maxStr := m0 _ (by decide)
  have m8 : 8 ≤ maxStr := m0 _ (by decide)
  have m24 : 24 ≤ maxStr := m0 _ (by decide)
  have m40 : 40 ≤ maxStr := m0 _ (by decide)
  have mda : 8 + da.length ≤ maxStr := m0 _ (by omega)
  have ht1 : fr.take 16 = fr := List.take_of_length_le (by omega)
  have ht2 : to.take 16 = to := List.take_of_length_le (by omega)
  simp only [go_sem, ↓reduceIte, reduceCtorEq, upd_ne, back_new (no_at), Nat.reduceAdd, Nat.reduceEqDiff, Nat.reduceMul, Nat.reduceSub, Nat.reduceLeDiff, Nat.reduceLT, Int.reduceToNat, Int.reduceLE, Int.reduceLT, Int.reduceEq, UInt8.reduceOfNat, List.getElem?_map, Int.toNat_natCast, ↓e_sadd, hw, c, hfr, hto, b1, b2, b3, w1, w2, w3, hl, m2, m4, m6, m7, m8, mda, List.append_assoc, List.length_append, List.length_map]
  generalize hB : pcB id at' false pt da = B at *
  rw [show beB 1 pt.toNat ++ (0 :: (beB 2 at'.toNat ++ (beB 4 id.toNat ++ da))) = B by rw [← hB]; unfold pcB; rw [if_neg Bool.false_ne_true, Nat.add_zero]]
  have hBl : B.length ≤ 65535 := by rw [← hB]; unfold pcB; simp only [List.length_append, List.length_cons, beB_len]; omega
  have hBs : szE ex + B.length ≤ 65535 := by rw [← hB]; unfold pcB; simp only [List.length_append, List.length_cons, beB_len]; omega
  have hNr : 0 ≤ (44 : Int) ∧ (44 : Int) ≤ 255 := by omega
  refine while_rule (fun k q => ∃ i : Nat, q = ([.str (exB (ex.drop i) 44 B), .int .i64 (nxE (ex.drop i) 44), .int .i64 ((i : Int) - 1)], noSlots) ∧ i ≤ ex.length ∧ k = i) ex.length ⟨ex.length, by rw [List.drop_eq_nil_of_le (Nat.le_refl _)]; rfl, Nat.le_refl _, rfl⟩ ?_
  rintro k q ⟨i, rfl, hi, rfl⟩
  simp only [go_sem, ↓reduceIte, reduceCtorEq, upd_ne, back_new (no_at), Nat.reduceAdd, Nat.reduceEqDiff, Nat.reduceMul, Nat.reduceSub, Nat.reduceLeDiff, Nat.reduceLT, Int.reduceToNat, Int.reduceLE, Int.reduceLT, Int.reduceEq, UInt8.reduceOfNat]
  refine nxt_ite (fun h => ?_) (fun h => ?_)
  · obtain ⟨j, rfl⟩ : ∃ j, k = j + 1 := ⟨k - 1, by omega⟩
    have hlt : j < ex.length := by omega
    obtain ⟨e, he⟩ : ∃ e, ex[j]? = some e := ⟨ex[j], by simp [hlt]⟩
    have hd := drop_ex he
    have hem := List.mem_of_getElem? he
    have heb := hfb e hem
    have hnr := nxE_rg (p := 44) (kB_drop (i := j + 1) hkb) hNr
    have hxl := exB_len (ex.drop (j + 1)) 44 B
    have hsz := szE_drop ex (j + 1)
    have hsz2 := szE_drop ex j
    rw [hd] at hsz2
    simp only [szE] at hsz2
    have j1 : ((j + 1 : Nat) : Int) - 1 = (j : Int) := by omega
    have j2 : IntKind.i64.wrap ((j : Int) - 1) = (j : Int) - 1 := wrap_id (by omega) (by omega)
    have j3 : IntKind.i64.wrap (Int.tdiv (e.2.length : Int) 8) = ((e.2.length / 8 : Nat) : Int) := by
      rw [show Int.tdiv (e.2.length : Int) 8 = ((e.2.length / 8 : Nat) : Int) from rfl, wrap_id (by omega) (by omega)]
    have c1 := ev_b61 hS (n + 1) (x := nxE (ex.drop (j + 1)) 44) (by omega) (by omega)
    have c2 := ev_b61 hS (n + 1) (x := ((e.2.length / 8 : Nat) : Int)) (by omega) (by omega)
    have m1 : 2 + e.2.length ≤ maxStr := m0 _ (by omega)
    have m3 : 2 + (e.2.length + (szE (ex.drop (j + 1)) + B.length)) ≤ maxStr := m0 _ (by omega)
    have m5 : 2 + e.2.length + (szE (ex.drop (j + 1)) + B.length) ≤ maxStr := m0 _ (by omega)
    have m9 : 1 + (1 + e.2.length) ≤ maxStr := m0 _ (by omega)
    have m10 : 1 + (1 + (e.2.length + (szE (ex.drop (j + 1)) + B.length))) ≤ maxStr := m0 _ (by omega)
    have m11 : 1 + (1 + e.2.length) + (szE (ex.drop (j + 1)) + B.length) ≤ maxStr := m0 _ (by omega)
    simp only [Int.toNat_natCast] at c2
    simp only [go_sem, ↓reduceIte, reduceCtorEq, upd_ne, back_new (no_at), Nat.reduceAdd, Nat.reduceEqDiff, Nat.reduceMul, Nat.reduceSub, Nat.reduceLeDiff, Nat.reduceLT, Int.reduceToNat, Int.reduceLE, Int.reduceLT, Int.reduceEq, UInt8.reduceOfNat, List.getElem?_map, Int.toNat_natCast, ↓e_sadd, he, j1, j2, j3, c1, c2, hl, hxl, m1, m2, m3, m5, m9, m10, m11, List.append_assoc, List.length_append]
    exact ⟨j, by omega, j, by rw [hd]; rfl, by omega, rfl⟩
  · obtain rfl : k = 0 := by omega
    rw [List.drop_zero]
    have hxl := exB_len ex 44 B
    have hnr := nxE_rg (p := 44) hkb hNr
    have c1 := ev_b61 hS (n + 1) (x := nxE ex 44) (by omega) (by omega)
    have c2 := ev_b62 hS (n + 1) (x := ((szE ex + B.length : Nat) : Int)) (by omega) (by omega)
    simp only [Int.toNat_natCast] at c2 b5
    have m1 : 40 + (szE ex + B.length) ≤ maxStr := m0 _ (by omega)
    have m3 : 4 + (2 + (1 + (1 + (16 + (16 + (szE ex + B.length)))))) ≤ maxStr := m0 _ (by omega)
    have m5 : 4 + (2 + (1 + (1 + 16))) ≤ maxStr := m0 _ (by omega)
    have m9 : 4 + (2 + (1 + (1 + (16 + 16)))) ≤ maxStr := m0 _ (by omega)
    simp only [go_sem, ↓reduceIte, reduceCtorEq, upd_ne, back_new (no_at), Nat.reduceAdd, Nat.reduceEqDiff, Nat.reduceMul, Nat.reduceSub, Nat.reduceLeDiff, Nat.reduceLT, Int.reduceToNat, Int.reduceLE, Int.reduceLT, Int.reduceEq, UInt8.reduceOfNat, List.getElem?_map, Int.toNat_natCast, ↓e_sadd, Nxt, exIf, hfr, hto, ht1, ht2, toBytes_byteLV, b4, b5, c1, c2, w4, w5, w6, hl, hxl, m1, m2, m3, m4, m5, m6, m7, m8, m9, m24, m40, List.append_assoc, List.length_append, Int.toNat_natCast]
theorem ev_bytes6_n {cl fl ho : Int} {fr to : List UInt8} {ex : List (Int × List UInt8)} {id at' : Int} {mo : Bool} {pt : Int} {da : List UInt8} (hf : FitIp6 cl fl ho fr to ex id at' pt da) (c : why6 cl fl ho ex false id at' mo pt da = 0) :
    S.ev (n + 4) id_ip6_Bytes [ip6LV cl fl ho fr to (extsLV ex) false id at' mo pt da] none = some (.tup [.str (by6 cl fl ho fr to ex false id at' mo pt da), .nili], none) := by
  rw [Sys.step hS.h_ip6_Bytes, F_ip6_Bytes_eq]
  unfold F_ip6_Bytes
  have hfr := hf.hfr
  have hto := hf.hto
  have hw := ev_why6 hS n (cl := cl) (fl := fl) (ho := ho) (fr := fr) (to := to) (ex := ex) (fg := false) (id := id) (at' := at') (mo := mo) (pt := pt) (da := da) hfr hto hf.hex (fun e he => (hf.hexs e he).2) hf.hda
  rw [c] at hw
  have ok := why6_zero.1 c
  obtain ⟨⟨⟨a1, a2⟩, ⟨a3, a4⟩, ⟨a5, a6⟩, ⟨a7, a8⟩, ⟨a9, a10⟩, a11⟩, ok2, ok3, ok4, ok5, ok6⟩ := ok
  have hkb := ok2.1
  have hfb := fB_le ex true ok3.1
  have hid := hf.hid
  (try simp only [guard_merge, or_merge, and_merge, or_pick, and_pick, guard_or, guard_and]); simp only [to_ob]
  unfold by6 bd6
  simp only [Bool.false_eq_true, if_true, if_false]
  unfold bh6 at ok6
  simp only [Bool.false_eq_true, if_true, if_false] at ok6
  have b1 := ev_b61 hS (n + 1) (x := pt) (by omega) (by omega)
  have b2 := ev_b62 hS (n + 1) (x := at') (by omega) (by omega)
  have b3 := ev_b64 hS (n + 1) (x := id) (by omega) (by omega)
  have b4 := ev_b61 hS (n + 1) (x := ho) (by omega) (by omega)
  obtain ⟨cl, rfl⟩ := Int.eq_ofNat_of_zero_le a1
  obtain ⟨fl, rfl⟩ := Int.eq_ofNat_of_zero_le a3
  have b5 := ev_b64 hS (n + 1) (x := ((1610612736 + cl * 1048576 + fl : Nat) : Int)) (by omega) (by omega)
  have w1 : IntKind.i64.wrap id = id := wrap_id (by omega) (by omega)
  have w2 : IntKind.i64.wrap (at' + 1) = at' + 1 := wrap_id (by omega) (by omega)
  have w3 : IntKind.i64.wrap ((ex.length : Int) - 1) = (ex.length : Int) - 1 := wrap_id (by omega) (by omega)
  have w4 : IntKind.i64.wrap ((cl : Int) * 2 ^ min 20 64) = ((cl * 1048576 : Nat) : Int) := by rw [show min 20 64 = 20 from rfl, wrap_id (by omega) (by omega)]; omega
  have w5 : bitsOf .or .i64 1610612736 ((cl * 1048576 : Nat) : Int) = ((1610612736 + cl * 1048576 : Nat) : Int) := by
    rw [show (1610612736 : Int) = ((1610612736 : Nat) : Int) from rfl, bits_or_nat (by decide) (by simp [IntKind.max, IntKind.signed, IntKind.bits]; omega), or6a (by omega)]
  have w6 : bitsOf .or .i64 ((1610612736 + cl * 1048576 : Nat) : Int) (fl : Int) = ((1610612736 + cl * 1048576 + fl : Nat) : Int) := by
    rw [bits_or_nat (by simp [IntKind.max, IntKind.signed, IntKind.bits]; omega) (by simp [IntKind.max, IntKind.signed, IntKind.bits]; omega), or6b (by omega) (by omega)]
  have hl := beB_len
  have m0 : ∀ k : Nat, k ≤ 1000000 → k ≤ maxStr := fun k h => by unfold maxStr; omega
  have m2 : 2 ≤ maxStr := m0 _ (by decide)
  have m4 : 4 ≤ maxStr := m0 _ (by decide)
  have m6 : 6 ≤ maxStr := m0 _ (by decide)
  have m7 : 7 ≤ maxStr := m0 _ (by decide)
  have m8 : 8 ≤ maxStr := m0 _ (by decide)
  have m24 : 24 ≤ maxStr := m0 _ (by decide)
  have m40 : 40 ≤ maxStr := m0 _ (by decide)
  have mda : 8 + da.length ≤ maxStr := m0 _ (by omega)
  have ht1 : fr.take 16 = fr := List.take_of_length_le (by omega)
  have ht2 : to.take 16 = to := List.take_of_length_le (by omega)
  simp only [go_sem, ↓reduceIte, reduceCtorEq, upd_ne, back_new (no_at), Nat.reduceAdd, Nat.reduceEqDiff, Nat.reduceMul, Nat.reduceSub, Nat.reduceLeDiff, Nat.reduceLT, Int.reduceToNat, Int.reduceLE, Int.reduceLT, Int.reduceEq, UInt8.reduceOfNat, List.getElem?_map, Int.toNat_natCast, ↓e_sadd, hw, c, hfr, hto, w3, List.length_map]
  generalize hB : da = B at *
  have hBl : B.length ≤ 65535 := by omega
  have hBs : szE ex + B.length ≤ 65535 := by omega
  have hNr : 0 ≤ (pt : Int) ∧ (pt : Int) ≤ 255 := by omega
  refine while_rule (fun k q => ∃ i : Nat, q = ([.str (exB (ex.drop i) pt B), .int .i64 (nxE (ex.drop i) pt), .int .i64 ((i : Int) - 1)], noSlots) ∧ i ≤ ex.length ∧ k = i) ex.length ⟨ex.length, by rw [List.drop_eq_nil_of_le (Nat.le_refl _)]; rfl, Nat.le_refl _, rfl⟩ ?_
  rintro k q ⟨i, rfl, hi, rfl⟩
  simp only [go_sem, ↓reduceIte, reduceCtorEq, upd_ne, back_new (no_at), Nat.reduceAdd, Nat.reduceEqDiff, Nat.reduceMul, Nat.reduceSub, Nat.reduceLeDiff, Nat.reduceLT, Int.reduceToNat, Int.reduceLE, Int.reduceLT, Int.reduceEq, UInt8.reduceOfNat]
  refine nxt_ite (fun h => ?_) (fun h => ?_)
  · obtain ⟨j, rfl⟩ : ∃ j, k = j + 1 := ⟨k - 1, by omega⟩
    have hlt : j < ex.length := by omega
    obtain ⟨e, he⟩ : ∃ e, ex[j]? = some e := ⟨ex[j], by simp [hlt]⟩
    have hd := drop_ex he
    have hem := List.mem_of_getElem? he
    have heb := hfb e hem
    have hnr := nxE_rg (p := pt) (kB_drop (i := j + 1) hkb) hNr
    have hxl := exB_len (ex.drop (j + 1)) pt B
    have hsz := szE_drop ex (j + 1)
    have hsz2 := szE_drop ex j
    rw [hd] at hsz2
    simp only [szE] at hsz2
    have j1 : ((j + 1 : Nat) : Int) - 1 = (j : Int) := by omega
    have j2 : IntKind.i64.wrap ((j : Int) - 1) = (j : Int) - 1 := wrap_id (by omega) (by omega)
    have j3 : IntKind.i64.wrap (Int.tdiv (e.2.length : Int) 8) = ((e.2.length / 8 : Nat) : Int) := by
      rw [show Int.tdiv (e.2.length : Int) 8 = ((e.2.length / 8 : Nat) : Int) from rfl, wrap_id (by omega) (by omega)]
    have c1 := ev_b61 hS (n + 1) (x := nxE (ex.drop (j + 1)) pt) (by omega) (by omega)
    have c2 := ev_b61 hS (n + 1) (x := ((e.2.length / 8 : Nat) : Int)) (by omega) (by omega)
    have m1 : 2 + e.2.length ≤ maxStr := m0 _ (by omega)
    have m3 : 2 + (e.2.length + (szE (ex.drop (j + 1)) + B.length)) ≤ maxStr := m0 _ (by omega)
    have m5 : 2 + e.2.length + (szE (ex.drop (j + 1)) + B.length) ≤ maxStr := m0 _ (by omega)
    have m9 : 1 + (1 + e.2.length) ≤ maxStr := m0 _ (by omega)
    have m10 : 1 + (1 + (e.2.length + (szE (ex.drop (j + 1)) + B.length))) ≤ maxStr := m0 _ (by omega)
    have m11 : 1 + (1 + e.2.length) + (szE (ex.drop (j + 1)) + B.length) ≤ maxStr := m0 _ (by omega)
    simp only [Int.toNat_natCast] at c2
    simp only [go_sem, ↓reduceIte, reduceCtorEq, upd_ne, back_new (no_at), Nat.reduceAdd, Nat.reduceEqDiff, Nat.reduceMul, Nat.reduceSub, Nat.reduceLeDiff, Nat.reduceLT, Int.reduceToNat, Int.reduceLE, Int.reduceLT, Int.reduceEq, UInt8.reduceOfNat, List.getElem?_map, Int.toNat_natCast, ↓e_sadd, he, j1, j2, j3, c1, c2, hl, hxl, m1, m2, m3, m5, m9, m10, m11, List.append_assoc, List.length_append]
    exact ⟨j, by omega, j, by rw [hd]; rfl, by omega, rfl⟩
  · obtain rfl : k = 0 := by omega
    rw [List.drop_zero]
    have hxl := exB_len ex pt B
    have hnr := nxE_rg (p := pt) hkb hNr
    have c1 := ev_b61 hS (n + 1) (x := nxE ex pt) (by omega) (by omega)
    have c2 := ev_b62 hS (n + 1) (x := ((szE ex + B.length : Nat) : Int)) (by omega) (by omega)
    simp only [Int.toNat_natCast] at c2 b5
    have m1 : 40 + (szE ex + B.length) ≤ maxStr := m0 _ (by omega)
    have m3 : 4 + (2 + (1 + (1 + (16 + (16 + (szE ex + B.length)))))) ≤ maxStr := m0 _ (by omega)
    have m5 : 4 + (2 + (1 + (1 + 16))) ≤ maxStr := m0 _ (by omega)
    have m9 : 4 + (2 + (1 + (1 + (16 + 16)))) ≤ maxStr := m0 _ (by omega)
    simp only [go_sem, ↓reduceIte, reduceCtorEq, upd_ne, back_new (no_at), Nat.reduceAdd, Nat.reduceEqDiff, Nat.reduceMul, Nat.reduceSub, Nat.reduceLeDiff, Nat.reduceLT, Int.reduceToNat, Int.reduceLE, Int.reduceLT, Int.reduceEq, UInt8.reduceOfNat, List.getElem?_map, Int.toNat_natCast, ↓e_sadd, Nxt, exIf, hfr, hto, ht1, ht2, toBytes_byteLV, b4, b5, c1, c2, w4, w5, w6, hl, hxl, m1, m2, m3, m4, m5, m6, m7, m8, m9, m24, m40, List.append_assoc, List.length_append, Int.toNat_natCast]
theorem ev_bytes6 {cl fl ho : Int} {fr to : List UInt8} {ex : List (Int × List UInt8)} {fg : Bool} {id at' : Int} {mo : Bool} {pt : Int} {da : List UInt8} (hf : FitIp6 cl fl ho fr to ex id at' pt da) :
    S.ev (n + 4) id_ip6_Bytes [ip6LV cl fl ho fr to (extsLV ex) fg id at' mo pt da] none = some (.tup [.str (by6R cl fl ho fr to ex fg id at' mo pt da), fE (why6 cl fl ho ex fg id at' mo pt da)], none) := by
  unfold by6R
  by_cases c : why6 cl fl ho ex fg id at' mo pt da = 0
  · rw [if_pos c, c]
    cases fg
    · exact ev_bytes6_n hS n hf c
    · cases mo
      · exact ev_bytes6_tf hS n hf c
      · exact ev_bytes6_tt hS n hf c
  · rw [if_neg c, Sys.step hS.h_ip6_Bytes, F_ip6_Bytes_eq]
    unfold F_ip6_Bytes
    have hfr := hf.hfr
    have hto := hf.hto
    have hw := ev_why6 hS n (cl := cl) (fl := fl) (ho := ho) (fr := fr) (to := to) (ex := ex) (fg := fg) (id := id) (at' := at') (mo := mo) (pt := pt) (da := da) hfr hto hf.hex (fun e he => (hf.hexs e he).2) hf.hda
    have hfa := ev_fault6 hS (n + 2)
    (try simp only [guard_merge, or_merge, and_merge, or_pick, and_pick, guard_or, guard_and]); simp only [to_ob]
    simp only [go_sem, ↓reduceIte, reduceCtorEq, upd_ne, back_new (no_at), Nat.reduceAdd, Nat.reduceEqDiff, Nat.reduceMul, Nat.reduceSub, Nat.reduceLeDiff, Nat.reduceLT, Int.reduceToNat, Int.reduceLE, Int.reduceLT, Int.reduceEq, UInt8.reduceOfNat, hw, hfa, c, hfr, hto, fE]
end
end Go.Ev

namespace Go.Ev
set_option linter.unusedSimpArgs false
set_option linter.unusedVariables false
set_option maxRecDepth 4000
set_option maxHeartbeats 4000000
theorem len8' {s : List UInt8} (h : 8 ≤ s.length) : ∃ c0 c1 c2 c3 c4 c5 c6 c7 r, s = c0 :: c1 :: c2 :: c3 :: c4 :: c5 :: c6 :: c7 :: r := by
  obtain ⟨c0, s0, e0, h0⟩ := len_cons h
  obtain ⟨c1, s1, e1, h1⟩ := len_cons h0
  obtain ⟨c2, s2, e2, h2⟩ := len_cons h1
  obtain ⟨c3, s3, e3, h3⟩ := len_cons h2
  obtain ⟨c4, s4, e4, h4⟩ := len_cons h3
  obtain ⟨c5, s5, e5, h5⟩ := len_cons h4
  obtain ⟨c6, s6, e6, h6⟩ := len_cons h5
  obtain ⟨c7, s7, e7, h7⟩ := len_cons h6
  exact ⟨c0, c1, c2, c3, c4, c5, c6, c7, s7, by rw [e0, e1, e2, e3, e4, e5, e6, e7]⟩
theorem head_again {s : List UInt8} (h : 8 ≤ s.length) (hv : bAt s 0 / 16 = 6) (u : List UInt8) {nx ho : Nat} (hnx : nx = bAt s 6) :
    (H6 (1610612736 + (pcl6 s).toNat * 1048576 + (pfl6 s).toNat) (wAt s 4) nx ho ++ u).take 7 = s.take 7 := by
  subst hnx
  obtain ⟨c0, c1, c2, c3, c4, c5, c6, c7, r, rfl⟩ := len8' h
  have h0 := c0.toNat_lt; have h1 := c1.toNat_lt; have h2 := c2.toNat_lt; have h3 := c3.toNat_lt
  have hx : 1610612736 + (pcl6 (c0 :: c1 :: c2 :: c3 :: c4 :: c5 :: c6 :: c7 :: r)).toNat * 1048576 + (pfl6 (c0 :: c1 :: c2 :: c3 :: c4 :: c5 :: c6 :: c7 :: r)).toNat = numN [c0, c1, c2, c3] := by
    unfold pcl6 pfl6
    simp only [List.take_succ_cons, List.take_zero, Int.toNat_natCast]
    rw [bAt0] at hv
    simp only [numN, List.foldl_cons, List.foldl_nil]
    omega
  rw [hx]
  have hb := beB4_numN c0 c1 c2 c3
  rw [beB4] at hb
  simp only [H6, wAts, wAt0, bAts, bAt0, w16_hi, w16_lo, UInt8.ofNat_toNat, List.cons_append, List.nil_append, List.take_succ_cons, List.take_zero]
  simp only [List.cons.injEq, and_true] at hb
  rw [hb.1, hb.2.1, hb.2.2.1, hb.2.2.2]
theorem fi6_lt (r : List UInt8) : fi6 r < 4294967296 := num4_lt (r.drop 4)
theorem again6 {s : List UInt8} (hs : s.length ≤ 140737488351232) (hK : pK6 s = 0) : ∃ cl fl ho fr to ex fg id at' mo pt da, pLV6 s = ip6LV cl fl ho fr to (extsLV ex) fg id at' mo pt da ∧ FitIp6 cl fl ho fr to ex id at' pt da ∧
    Ok6 cl fl ho ex fg id at' mo pt da ∧ bh6 ex fg da = wAt s 4 ∧ (by6 cl fl ho fr to ex fg id at' mo pt da).take 7 = s.take 7 ∧ da.length ≤ bh6 ex fg da := by
  obtain ⟨h40, hv, hl, hk, hf⟩ := pK6_zero hK
  have hb6 := bAt_le s 6
  have hb7 := bAt_le s 7
  have hw := wAt_le s 4
  have hpl := chC_len 8 true ((bAt s 6 : Nat) : Int) ((s.drop 40).take (wAt s 4))
  obtain ⟨p1, p2, p3, p4, p5, p6, p7⟩ := chC_parts 8 true ((bAt s 6 : Nat) : Int) ((s.drop 40).take (wAt s 4)) ⟨by omega, by omega⟩ hk
  have hlen : ((s.drop 40).take (wAt s 4)).length = wAt s 4 := by rw [List.length_take, List.length_drop]; omega
  rw [hlen] at p2
  have hfr : (pfr6 s).length = 16 := by unfold pfr6; simp; omega
  have hto : (pto6 s).length = 16 := by unfold pto6; simp; omega
  have hcl : 0 ≤ pcl6 s ∧ pcl6 s ≤ 255 := by unfold pcl6; omega
  have hfl : 0 ≤ pfl6 s ∧ pfl6 s ≤ 1048575 := by unfold pfl6; omega
  unfold pLV6
  rw [if_pos hK]
  unfold mk6
  have hx : k6 s = chC 8 true ((bAt s 6 : Nat) : Int) ((s.drop 40).take (wAt s 4)) := rfl
  rw [← hx] at hpl p1 p2 p3 p4 p5 p6 p7
  rcases hks : k6 s with ⟨kc, kl, kp, kr⟩
  rw [hks] at hpl p1 p2 p3 p4 p5 p6 p7 hk hf
  dsimp only at *
  have hexs : ∀ e ∈ kl, I64 e.1 ∧ e.2.length ≤ 140737488351232 := by
    intro e he
    have h1 := fB_le kl true p4 e he
    have h2 : isE e.1 := by
      have := List.all_eq_true.1 p3 e he
      simpa using this
    refine ⟨⟨?_, ?_⟩, by omega⟩
    · rcases h2 with (h | h) | h <;> omega
    · rcases h2 with (h | h) | h <;> omega
  by_cases h44 : kp = 44
  · rw [if_pos h44]
    obtain ⟨f1, f2, f3⟩ := hf h44
    have hfi := fi6_lt kr
    have hw2 := wAt_le kr 2
    have hb0 := bAt_le kr 0
    have hdl : (kr.drop 8).length = kr.length - 8 := List.length_drop ..
    have hbh : bh6 kl true (kr.drop 8) = wAt s 4 := by unfold bh6; rw [if_pos rfl, hdl]; omega
    have ok : Ok6 (pcl6 s) (pfl6 s) (bAt s 7 : Nat) kl true (fi6 kr : Nat) (fa6 kr : Nat) (fm6 kr) (bAt kr 0 : Nat) (kr.drop 8) := by
      refine ⟨⟨hcl, hfl, ⟨by omega, by omega⟩, ⟨by omega, by omega⟩, ⟨by omega, by unfold fa6; omega⟩, ?_⟩, ⟨p3, fun h => by simp at h⟩, ⟨p4, by rw [if_pos rfl]; exact f2⟩, hpl, by omega, by omega⟩
      show ((fa6 kr % 8 : Nat) : Int) = 0
      unfold fa6; omega
    refine ⟨_, _, _, _, _, kl, true, _, _, _, _, _, rfl, ⟨⟨by omega, by omega⟩, ⟨by omega, by omega⟩, ⟨by omega, by omega⟩, hfr, hto, by omega, hexs, ⟨by omega, by omega⟩, ⟨by omega, by unfold fa6; omega⟩, ⟨by omega, by omega⟩, by omega⟩, ok, hbh, ?_, by unfold bh6; omega⟩
    rw [by6_eq, bd6_len, hbh]
    refine head_again (by omega) hv _ ?_
    rw [if_pos rfl, ← h44, p1]; rfl
  · rw [if_neg h44]
    have hbh : bh6 kl false kr = wAt s 4 := by unfold bh6; rw [if_neg Bool.false_ne_true]; omega
    have ok : Ok6 (pcl6 s) (pfl6 s) (bAt s 7 : Nat) kl false 0 0 false kp kr := by
      refine ⟨⟨hcl, hfl, ⟨by omega, by omega⟩, ⟨p6, p7⟩, ⟨by omega, by omega⟩, rfl⟩, ⟨p3, fun _ => ⟨p5, h44⟩⟩, ⟨p4, by rw [if_neg Bool.false_ne_true]; exact ⟨rfl, rfl, rfl⟩⟩, hpl, by omega, by omega⟩
    refine ⟨_, _, _, _, _, kl, false, _, _, _, _, _, rfl, ⟨⟨by omega, by omega⟩, ⟨by omega, by omega⟩, ⟨by omega, by omega⟩, hfr, hto, by omega, hexs, ⟨by omega, by omega⟩, ⟨by omega, by omega⟩, ⟨by omega, by omega⟩, by omega⟩, ok, hbh, ?_, by unfold bh6; omega⟩
    rw [by6_eq, bd6_len, hbh]
    refine head_again (by omega) hv _ ?_
    rw [if_neg Bool.false_ne_true, p1]; rfl
theorem by6_end {cl fl ho : Int} {fr to : List UInt8} {ex : List (Int × List UInt8)} {fg : Bool} {id at' : Int} {mo : Bool} {pt : Int} {da : List UInt8} (hfr : fr.length = 16) (hto : to.length = 16) :
    (by6 cl fl ho fr to ex fg id at' mo pt da).drop (40 + bh6 ex fg da - da.length) = da := by
  have hlen := by6_len (cl := cl) (fl := fl) (ho := ho) (fr := fr) (to := to) (ex := ex) (fg := fg) (id := id) (at' := at') (mo := mo) (pt := pt) (da := da) hfr hto
  have : ∃ A : List UInt8, by6 cl fl ho fr to ex fg id at' mo pt da = A ++ da := by
    unfold by6 bd6
    cases fg
    · simp only [Bool.false_eq_true, if_false]
      rw [exB_app ex pt da]
      exact ⟨_, by simp only [← List.append_assoc]; rfl⟩
    · simp only [if_true]
      rw [exB_app ex 44]
      refine ⟨beB 4 (1610612736 + cl.toNat * 1048576 + fl.toNat) ++ (beB 2 (exB ex 44 [] ++ pcB id at' mo pt da).length ++ (beB 1 (nxE ex 44).toNat ++ (beB 1 ho.toNat ++ (fr ++ (to ++ (exB ex 44 [] ++ (beB 1 pt.toNat ++ (0 :: (beB 2 (at'.toNat + if mo = true then 1 else 0) ++ beB 4 id.toNat))))))))), ?_⟩
      simp only [pcB, List.append_assoc, List.cons_append]
  obtain ⟨A, hA⟩ := this
  rw [hA] at hlen ⊢
  rw [List.length_append] at hlen
  exact List.drop_left' (by omega)
end Go.Ev

namespace Go.Ev
set_option linter.unusedSimpArgs false
set_option linter.unusedVariables false
set_option maxRecDepth 10000
set_option maxHeartbeats 8000000
def own6C (mar : Bool) (k at' : Int) (to : List UInt8) (pt : Int) (da : List UInt8) (mtu : Int) : Prop :=
  isF6 k = false ∨ 0 < at' ∨ mar = true ∨ mtu < 1280 ∨ 65575 < mtu ∨ (k ≠ 2 ∧ bAt to 0 = 255) ∨ (pt = 58 ∧ (da = [] ∨ bAt da 0 < 128))
def o6B (a fr : List UInt8) (k c r : Int) (q : List UInt8) : List UInt8 := by6 0 0 64 a fr [] false 0 0 false 58 (im6B (ps6 a fr 58 (8 + q.length)) k c r q)
theorem z_fit {a fr : List UInt8} (ha : a.length = 16) (hfr : fr.length = 16) {B : List UInt8} (hB : B.length ≤ 60000) : FitIp6 0 0 64 a fr [] 0 0 58 B :=
  ⟨by unfold I64; omega, by unfold I64; omega, by unfold I64; omega, ha, hfr, by simp, by simp, by omega, by unfold I64; omega, by unfold I64; omega, by omega⟩
theorem z_ok {B : List UInt8} (hB : B.length ≤ 60000) : Ok6 0 0 64 [] false 0 0 false 58 B :=
  why6_zero.1 (by
    unfold why6
    rw [if_pos ⟨by omega, by omega, by omega, by omega, by omega, rfl⟩, if_pos ⟨rfl, fun _ => ⟨by decide, by decide⟩⟩, if_pos ⟨rfl, by rw [if_neg Bool.false_ne_true]; exact ⟨rfl, rfl, rfl⟩⟩, if_pos ⟨by simp, by omega, by unfold bh6; simp only [szE, Bool.false_eq_true, if_false]; omega⟩])
section
variable {S : Sys} (hS : Has S) (n : Nat)
include hS
section
variable {s : List UInt8} {cl fl ho : Int} {fr to : List UInt8} {ex : List (Int × List UInt8)} {fg : Bool} {i0 at' : Int} {mo : Bool} {pt : Int} {da a : List UInt8} {k c r : Int} {md : List UInt8} {mtu : Int} {mar : Bool}
theorem ev_own6_no1 {e : Int} (he : e ≠ 0) (hp : S.ev (n + 4) id_ip6_Parse [.str s] none = some (.tup [z6LV, faultLV e], none)) :
    S.ev (n + 5) id_fault_Own6 [msgLV k c r md, .str s, .bytes a, .int .i64 mtu] none = some (no4, none) := by
  rw [Sys.step hS.h_fault_Own6, F_fault_Own6_eq]
  unfold F_fault_Own6 no4
  (try simp only [guard_merge, or_merge, and_merge, or_pick, and_pick, guard_or, guard_and]); simp only [to_ob]
  simp only [go_sem, ↓reduceIte, reduceCtorEq, upd_ne, back_new (no_at), Nat.reduceAdd, Nat.reduceEqDiff, Nat.reduceMul, Nat.reduceSub, Nat.reduceLeDiff, Nat.reduceLT, Int.reduceToNat, Int.reduceLE, Int.reduceLT, Int.reduceEq, UInt8.reduceOfNat, List.getElem?_map, Int.toNat_natCast, hp]
theorem ev_own6_no2 (hp : S.ev (n + 4) id_ip6_Parse [.str s] none = some (.tup [ip6LV cl fl ho fr to (extsLV ex) fg i0 at' mo pt da, .nili], none)) (hfr : fr.length = 16) (hto : to.length = 16)
    (hm : S.ev (n + 4) id_class_Martian6 [.bytes fr] none = some (.bool mar, none)) (hb : own6C mar k at' to pt da mtu) :
    S.ev (n + 5) id_fault_Own6 [msgLV k c r md, .str s, .bytes a, .int .i64 mtu] none = some (no4, none) := by
  rw [Sys.step hS.h_fault_Own6, F_fault_Own6_eq]
  unfold F_fault_Own6 no4
  have hf := ev_failure6 hS (n + 3) k c r md
  (try simp only [guard_merge, or_merge, and_merge, or_pick, and_pick, guard_or, guard_and]); simp only [to_ob]
  unfold own6C at hb
  cases h1 : isF6 k with
  | false =>
    rw [h1] at hf
    simp only [go_sem, ↓reduceIte, reduceCtorEq, upd_ne, back_new (no_at), Nat.reduceAdd, Nat.reduceEqDiff, Nat.reduceMul, Nat.reduceSub, Nat.reduceLeDiff, Nat.reduceLT, Int.reduceToNat, Int.reduceLE, Int.reduceLT, Int.reduceEq, UInt8.reduceOfNat, List.getElem?_map, Int.toNat_natCast, hp, hfr, hto, hf]
  | true =>
    rw [h1] at hf
    by_cases h2 : 0 < at'
    · simp only [go_sem, ↓reduceIte, reduceCtorEq, upd_ne, back_new (no_at), Nat.reduceAdd, Nat.reduceEqDiff, Nat.reduceMul, Nat.reduceSub, Nat.reduceLeDiff, Nat.reduceLT, Int.reduceToNat, Int.reduceLE, Int.reduceLT, Int.reduceEq, UInt8.reduceOfNat, List.getElem?_map, Int.toNat_natCast, hp, hfr, hto, hf, h2]
    cases mar with
    | true =>
      simp only [go_sem, ↓reduceIte, reduceCtorEq, upd_ne, back_new (no_at), Nat.reduceAdd, Nat.reduceEqDiff, Nat.reduceMul, Nat.reduceSub, Nat.reduceLeDiff, Nat.reduceLT, Int.reduceToNat, Int.reduceLE, Int.reduceLT, Int.reduceEq, UInt8.reduceOfNat, List.getElem?_map, Int.toNat_natCast, hp, hfr, hto, hf, h2, hm]
    | false =>
      by_cases h4 : mtu < 1280
      · simp only [go_sem, ↓reduceIte, reduceCtorEq, upd_ne, back_new (no_at), Nat.reduceAdd, Nat.reduceEqDiff, Nat.reduceMul, Nat.reduceSub, Nat.reduceLeDiff, Nat.reduceLT, Int.reduceToNat, Int.reduceLE, Int.reduceLT, Int.reduceEq, UInt8.reduceOfNat, List.getElem?_map, Int.toNat_natCast, hp, hfr, hto, hf, h2, hm, h4]
      by_cases h5 : 65575 < mtu
      · simp only [go_sem, ↓reduceIte, reduceCtorEq, upd_ne, back_new (no_at), Nat.reduceAdd, Nat.reduceEqDiff, Nat.reduceMul, Nat.reduceSub, Nat.reduceLeDiff, Nat.reduceLT, Int.reduceToNat, Int.reduceLE, Int.reduceLT, Int.reduceEq, UInt8.reduceOfNat, List.getElem?_map, Int.toNat_natCast, hp, hfr, hto, hf, h2, hm, h4, h5]
      have gt := get_def (s := to) (i := 0) (by omega)
      have hlt0 := (to.getD 0 0).toNat_lt
      have e0 : ((to.getD 0 0).toNat : Int) = ((bAt to 0 : Nat) : Int) := rfl
      by_cases h6 : k ≠ 2 ∧ bAt to 0 = 255
      · obtain ⟨h6a, h6b⟩ := h6
        have h6c : ((bAt to 0 : Nat) : Int) = 255 := by omega
        simp only [go_sem, ↓reduceIte, reduceCtorEq, upd_ne, back_new (no_at), Nat.reduceAdd, Nat.reduceEqDiff, Nat.reduceMul, Nat.reduceSub, Nat.reduceLeDiff, Nat.reduceLT, Int.reduceToNat, Int.reduceLE, Int.reduceLT, Int.reduceEq, UInt8.reduceOfNat, List.getElem?_map, Int.toNat_natCast, hp, hfr, hto, hf, h2, hm, h4, h5, gt, byteLV, e0, h6a, h6c]
      rw [h1] at hb
      have h7 : pt = 58 ∧ (da = [] ∨ bAt da 0 < 128) := by
        rcases hb with hb | hb | hb | hb | hb | hb | hb
        · cases hb
        · exact absurd hb h2
        · cases hb
        · exact absurd hb h4
        · exact absurd hb h5
        · exact absurd hb h6
        · exact hb
      obtain ⟨h7, h8⟩ := h7
      subst h7
      have fin : ∀ x y : Bool, x = false → (x && y) = false := fun x y h => by rw [h]; rfl
      by_cases h9 : da = []
      · subst h9
        by_cases h10 : k = 2
        · subst h10
          simp only [go_sem, ↓reduceIte, reduceCtorEq, upd_ne, back_new (no_at), Nat.reduceAdd, Nat.reduceEqDiff, Nat.reduceMul, Nat.reduceSub, Nat.reduceLeDiff, Nat.reduceLT, Int.reduceToNat, Int.reduceLE, Int.reduceLT, Int.reduceEq, UInt8.reduceOfNat, List.getElem?_map, Int.toNat_natCast, hp, hfr, hto, hf, h2, hm, h4, h5, gt, byteLV, e0]
        · have h6c : ¬ ((bAt to 0 : Nat) : Int) = 255 := fun q => h6 ⟨h10, by omega⟩
          simp only [go_sem, ↓reduceIte, reduceCtorEq, upd_ne, back_new (no_at), Nat.reduceAdd, Nat.reduceEqDiff, Nat.reduceMul, Nat.reduceSub, Nat.reduceLeDiff, Nat.reduceLT, Int.reduceToNat, Int.reduceLE, Int.reduceLT, Int.reduceEq, UInt8.reduceOfNat, List.getElem?_map, Int.toNat_natCast, hp, hfr, hto, hf, h2, hm, h4, h5, gt, byteLV, e0, h10, h6c]
      · have h11 : bAt da 0 < 128 := h8.resolve_left h9
        have hpos : 0 < da.length := List.length_pos_iff.2 h9
        have g0 := get_def (s := da) (i := 0) hpos
        have e1 : ((da.getD 0 0).toNat : Int) = ((bAt da 0 : Nat) : Int) := rfl
        have h11 : ((bAt da 0 : Nat) : Int) < 128 := by omega
        by_cases h10 : k = 2
        · subst h10
          simp only [go_sem, ↓reduceIte, reduceCtorEq, upd_ne, back_new (no_at), Nat.reduceAdd, Nat.reduceEqDiff, Nat.reduceMul, Nat.reduceSub, Nat.reduceLeDiff, Nat.reduceLT, Int.reduceToNat, Int.reduceLE, Int.reduceLT, Int.reduceEq, UInt8.reduceOfNat, List.getElem?_map, Int.toNat_natCast, hp, hfr, hto, hf, h2, hm, h4, h5, gt, byteLV, e0, h9, g0, e1, h11]
        · have h6c : ¬ ((bAt to 0 : Nat) : Int) = 255 := fun q => h6 ⟨h10, by omega⟩
          simp only [go_sem, ↓reduceIte, reduceCtorEq, upd_ne, back_new (no_at), Nat.reduceAdd, Nat.reduceEqDiff, Nat.reduceMul, Nat.reduceSub, Nat.reduceLeDiff, Nat.reduceLT, Int.reduceToNat, Int.reduceLE, Int.reduceLT, Int.reduceEq, UInt8.reduceOfNat, List.getElem?_map, Int.toNat_natCast, hp, hfr, hto, hf, h2, hm, h4, h5, gt, byteLV, e0, h9, h10, h6c, g0, e1, h11]
theorem ev_own6_go (hp : S.ev (n + 4) id_ip6_Parse [.str s] none = some (.tup [ip6LV cl fl ho fr to (extsLV ex) fg i0 at' mo pt da, .nili], none)) (hfr : fr.length = 16) (hto : to.length = 16) (ha : a.length = 16)
    (hm : S.ev (n + 4) id_class_Martian6 [.bytes fr] none = some (.bool mar, none)) (hn : ¬ own6C mar k at' to pt da mtu) (hc2 : I64 c) (hr : 0 ≤ r ∧ r < 4294967296)
    (hex : ex.length ≤ 20) (hexs : ∀ e ∈ ex, e.2.length ≤ 140737488351232) (hl : 40 + bh6 ex fg da ≤ s.length) (hs : s.length ≤ 100000)
    {q : List UInt8} {bo : Bool} (hbo : begO (40 + bh6 ex fg da) (40 + bh6 ex fg da - da.length) 1232 = bo) (hq : (s.take (40 + bh6 ex fg da)).take (begN (40 + bh6 ex fg da) (40 + bh6 ex fg da - da.length) 1232) = q) :
    S.ev (n + 5) id_fault_Own6 [msgLV k c r md, .str s, .bytes a, .int .i64 mtu] none =
      some (if bo = true ∧ 0 ≤ c ∧ c ≤ 255 then .tup [.str (o6B a fr k c r q), .bool true] else no4, none) := by
  rw [Sys.step hS.h_fault_Own6, F_fault_Own6_eq]
  unfold F_fault_Own6 no4
  have h1 : isF6 k = true := by cases h : isF6 k with | true => rfl | false => exact absurd (.inl h) hn
  have h2 : ¬ 0 < at' := fun h => hn (.inr (.inl h))
  have h3 : mar = false := by cases h : mar with | false => rfl | true => exact absurd (.inr (.inr (.inl h))) hn
  have h4 : ¬ mtu < 1280 := fun h => hn (.inr (.inr (.inr (.inl h))))
  have h5 : ¬ 65575 < mtu := fun h => hn (.inr (.inr (.inr (.inr (.inl h)))))
  have h6 : ¬ (k ≠ 2 ∧ bAt to 0 = 255) := fun h => hn (.inr (.inr (.inr (.inr (.inr (.inl h))))))
  have h7 : ¬ (pt = 58 ∧ (da = [] ∨ bAt da 0 < 128)) := fun h => hn (.inr (.inr (.inr (.inr (.inr (.inr h))))))
  subst h3
  have hf := ev_failure6 hS (n + 3) k c r md
  rw [h1] at hf
  have hk' : 0 ≤ k ∧ k ≤ 255 := by unfold isF6 at h1; have := of_decide_eq_true h1; omega
  have hdb : da.length ≤ bh6 ex fg da := by unfold bh6; omega
  have hql : q.length ≤ 1232 := by rw [← hq, List.length_take, List.length_take]; unfold begN; omega
  have hsz := ev_fsize hS (n + 3) (cl := cl) (fl := fl) (ho := ho) (fr := fr) (to := to) (ex := ex) (fg := fg) (id := i0) (at' := at') (mo := mo) (pt := pt) (da := da) hfr hto hex hexs (by omega)
  have hg := ev_beginning hS (n + 3) (s.take (40 + bh6 ex fg da)) (40 + bh6 ex fg da - da.length) 1232 (by rw [List.length_take]; omega) (by omega)
  rw [show (s.take (40 + bh6 ex fg da)).length = 40 + bh6 ex fg da by rw [List.length_take]; omega, hbo, hq] at hg
  have e1 : IntKind.i64.wrap (((40 + bh6 ex fg da : Nat) : Int) - (da.length : Int)) = ((40 + bh6 ex fg da - da.length : Nat) : Int) := by rw [wrap_id (by omega) (by omega)]; omega
  have e2 : IntKind.i64.wrap (8 + (q.length : Int)) = ((8 + q.length : Nat) : Int) := by rw [wrap_id (by omega) (by omega)]; omega
  have hps := ev_Pseudo6 hS (n + 1) a fr 58 (8 + q.length) ha hfr (by omega) (by omega)
  have hps : S.ev (n + 4) id_sum_Pseudo6 [.bytes a, .bytes fr, .int .i64 58, .int .i64 ((8 + q.length : Nat) : Int)] none = _ := hps
  have hpl : (ps6 a fr 58 (8 + q.length)).length ≤ 1000 := by rw [ps6_len, ha, hfr]; omega
  have hB : (0 ≤ c ∧ c ≤ 255) → S.ev (n + 4) id_icmp6_Bytes [msgLV k c r q, .str (ps6 a fr 58 (8 + q.length))] none = _ := fun hc => ev_icmp6B hS (n + 1) hpl hk' hc hr (by omega)
  have hB2 : ¬ (0 ≤ c ∧ c ≤ 255) → S.ev (n + 4) id_icmp6_Bytes [msgLV k c r q, .str (ps6 a fr 58 (8 + q.length))] none = _ := fun hc => ev_icmp6B_bad hS (n + 1) hk' hc hc2
  have hbl : (im6B (ps6 a fr 58 (8 + q.length)) k c r q).length = 8 + q.length := im6_len
  have hby := ev_bytes6 hS n (cl := 0) (fl := 0) (ho := 64) (fr := a) (to := fr) (ex := []) (fg := false) (id := 0) (at' := 0) (mo := false) (pt := 58) (da := im6B (ps6 a fr 58 (8 + q.length)) k c r q) (z_fit ha hfr (by rw [hbl]; omega))
  have hw := why6_zero.2 (z_ok (B := im6B (ps6 a fr 58 (8 + q.length)) k c r q) (by rw [hbl]; omega))
  unfold by6R at hby
  rw [if_pos hw, hw] at hby
  unfold o6B
  generalize ps6 a fr 58 (8 + q.length) = PS at *
  generalize im6B PS k c r q = IB at *
  have hxl : extsLV [] = .lst none [] := rfl
  rw [hxl] at hby
  generalize 40 + bh6 ex fg da - da.length = N1 at *
  generalize 40 + bh6 ex fg da = N0 at *
  have gt := get_def (s := to) (i := 0) (by omega)
  have e0 : ((to.getD 0 0).toNat : Int) = ((bAt to 0 : Nat) : Int) := rfl
  have hpos : pt = 58 → 0 < da.length ∧ ¬ da = [] ∧ ¬ ((bAt da 0 : Nat) : Int) < 128 := fun h => by
    have h8 : ¬ da = [] := fun q => h7 ⟨h, .inl q⟩
    exact ⟨List.length_pos_iff.2 h8, h8, fun q => h7 ⟨h, .inr (by omega)⟩⟩
  have ht6 : k = 2 ∨ (¬ k = 2 ∧ ¬ ((bAt to 0 : Nat) : Int) = 255) := by
    by_cases h : k = 2
    · exact .inl h
    · exact .inr ⟨h, fun q => h6 ⟨h, by omega⟩⟩
  have e3 : ((da.getD 0 0).toNat : Int) = ((bAt da 0 : Nat) : Int) := rfl
  (try simp only [guard_merge, or_merge, and_merge, or_pick, and_pick, guard_or, guard_and]); simp only [to_ob]
  by_cases hpt : pt = 58
  · obtain ⟨p1, p2, p3⟩ := hpos hpt
    subst hpt
    have g0 := get_def (s := da) (i := 0) p1
    rcases ht6 with hk2 | ⟨hk2, ht6⟩
    · subst hk2
      by_cases hc : 0 ≤ c ∧ c ≤ 255
      · have hB := hB hc
        cases bo with
        | true =>
          rw [if_pos ⟨rfl, hc⟩]
          simp only [go_sem, ↓reduceIte, reduceCtorEq, upd_ne, back_new (no_at), Nat.reduceAdd, Nat.reduceEqDiff, Nat.reduceMul, Nat.reduceSub, Nat.reduceLeDiff, Nat.reduceLT, Int.reduceToNat, Int.reduceLE, Int.reduceLT, Int.reduceEq, UInt8.reduceOfNat, List.getElem?_map, Int.toNat_natCast, hp, hf, hm, p1, p2, p3, gt, g0, byteLV, e0, e3, hfr, hto, ha, h2, h4, h5, hsz, e1, e2, hl, hg, hps, hB, hby, fE, Nat.sub_zero, List.drop_zero]
        | false =>
          rw [if_neg (by simp)]
          simp only [go_sem, ↓reduceIte, reduceCtorEq, upd_ne, back_new (no_at), Nat.reduceAdd, Nat.reduceEqDiff, Nat.reduceMul, Nat.reduceSub, Nat.reduceLeDiff, Nat.reduceLT, Int.reduceToNat, Int.reduceLE, Int.reduceLT, Int.reduceEq, UInt8.reduceOfNat, List.getElem?_map, Int.toNat_natCast, hp, hf, hm, p1, p2, p3, gt, g0, byteLV, e0, e3, hfr, hto, ha, h2, h4, h5, hsz, e1, e2, hl, hg, hps, hB, hby, fE, Nat.sub_zero, List.drop_zero]
      · have hB := hB2 hc
        rw [if_neg (fun q => hc q.2)]
        cases bo <;> simp only [go_sem, ↓reduceIte, reduceCtorEq, upd_ne, back_new (no_at), Nat.reduceAdd, Nat.reduceEqDiff, Nat.reduceMul, Nat.reduceSub, Nat.reduceLeDiff, Nat.reduceLT, Int.reduceToNat, Int.reduceLE, Int.reduceLT, Int.reduceEq, UInt8.reduceOfNat, List.getElem?_map, Int.toNat_natCast, hp, hf, hm, p1, p2, p3, gt, g0, byteLV, e0, e3, hfr, hto, ha, h2, h4, h5, hsz, e1, e2, hl, hg, hps, hB, hby, fE, Nat.sub_zero, List.drop_zero]
    · by_cases hc : 0 ≤ c ∧ c ≤ 255
      · have hB := hB hc
        cases bo with
        | true =>
          rw [if_pos ⟨rfl, hc⟩]
          simp only [go_sem, ↓reduceIte, reduceCtorEq, upd_ne, back_new (no_at), Nat.reduceAdd, Nat.reduceEqDiff, Nat.reduceMul, Nat.reduceSub, Nat.reduceLeDiff, Nat.reduceLT, Int.reduceToNat, Int.reduceLE, Int.reduceLT, Int.reduceEq, UInt8.reduceOfNat, List.getElem?_map, Int.toNat_natCast, hp, hf, hm, p1, p2, p3, gt, g0, byteLV, e0, e3, hk2, ht6, hfr, hto, ha, h2, h4, h5, hsz, e1, e2, hl, hg, hps, hB, hby, fE, Nat.sub_zero, List.drop_zero]
        | false =>
          rw [if_neg (by simp)]
          simp only [go_sem, ↓reduceIte, reduceCtorEq, upd_ne, back_new (no_at), Nat.reduceAdd, Nat.reduceEqDiff, Nat.reduceMul, Nat.reduceSub, Nat.reduceLeDiff, Nat.reduceLT, Int.reduceToNat, Int.reduceLE, Int.reduceLT, Int.reduceEq, UInt8.reduceOfNat, List.getElem?_map, Int.toNat_natCast, hp, hf, hm, p1, p2, p3, gt, g0, byteLV, e0, e3, hk2, ht6, hfr, hto, ha, h2, h4, h5, hsz, e1, e2, hl, hg, hps, hB, hby, fE, Nat.sub_zero, List.drop_zero]
      · have hB := hB2 hc
        rw [if_neg (fun q => hc q.2)]
        cases bo <;> simp only [go_sem, ↓reduceIte, reduceCtorEq, upd_ne, back_new (no_at), Nat.reduceAdd, Nat.reduceEqDiff, Nat.reduceMul, Nat.reduceSub, Nat.reduceLeDiff, Nat.reduceLT, Int.reduceToNat, Int.reduceLE, Int.reduceLT, Int.reduceEq, UInt8.reduceOfNat, List.getElem?_map, Int.toNat_natCast, hp, hf, hm, p1, p2, p3, gt, g0, byteLV, e0, e3, hk2, ht6, hfr, hto, ha, h2, h4, h5, hsz, e1, e2, hl, hg, hps, hB, hby, fE, Nat.sub_zero, List.drop_zero]
  · rcases ht6 with hk2 | ⟨hk2, ht6⟩
    · subst hk2
      by_cases hc : 0 ≤ c ∧ c ≤ 255
      · have hB := hB hc
        cases bo with
        | true =>
          rw [if_pos ⟨rfl, hc⟩]
          simp only [go_sem, ↓reduceIte, reduceCtorEq, upd_ne, back_new (no_at), Nat.reduceAdd, Nat.reduceEqDiff, Nat.reduceMul, Nat.reduceSub, Nat.reduceLeDiff, Nat.reduceLT, Int.reduceToNat, Int.reduceLE, Int.reduceLT, Int.reduceEq, UInt8.reduceOfNat, List.getElem?_map, Int.toNat_natCast, hp, hf, hm, hpt, gt, byteLV, e0, e3, hfr, hto, ha, h2, h4, h5, hsz, e1, e2, hl, hg, hps, hB, hby, fE, Nat.sub_zero, List.drop_zero]
        | false =>
          rw [if_neg (by simp)]
          simp only [go_sem, ↓reduceIte, reduceCtorEq, upd_ne, back_new (no_at), Nat.reduceAdd, Nat.reduceEqDiff, Nat.reduceMul, Nat.reduceSub, Nat.reduceLeDiff, Nat.reduceLT, Int.reduceToNat, Int.reduceLE, Int.reduceLT, Int.reduceEq, UInt8.reduceOfNat, List.getElem?_map, Int.toNat_natCast, hp, hf, hm, hpt, gt, byteLV, e0, e3, hfr, hto, ha, h2, h4, h5, hsz, e1, e2, hl, hg, hps, hB, hby, fE, Nat.sub_zero, List.drop_zero]
      · have hB := hB2 hc
        rw [if_neg (fun q => hc q.2)]
        cases bo <;> simp only [go_sem, ↓reduceIte, reduceCtorEq, upd_ne, back_new (no_at), Nat.reduceAdd, Nat.reduceEqDiff, Nat.reduceMul, Nat.reduceSub, Nat.reduceLeDiff, Nat.reduceLT, Int.reduceToNat, Int.reduceLE, Int.reduceLT, Int.reduceEq, UInt8.reduceOfNat, List.getElem?_map, Int.toNat_natCast, hp, hf, hm, hpt, gt, byteLV, e0, e3, hfr, hto, ha, h2, h4, h5, hsz, e1, e2, hl, hg, hps, hB, hby, fE, Nat.sub_zero, List.drop_zero]
    · by_cases hc : 0 ≤ c ∧ c ≤ 255
      · have hB := hB hc
        cases bo with
        | true =>
          rw [if_pos ⟨rfl, hc⟩]
          simp only [go_sem, ↓reduceIte, reduceCtorEq, upd_ne, back_new (no_at), Nat.reduceAdd, Nat.reduceEqDiff, Nat.reduceMul, Nat.reduceSub, Nat.reduceLeDiff, Nat.reduceLT, Int.reduceToNat, Int.reduceLE, Int.reduceLT, Int.reduceEq, UInt8.reduceOfNat, List.getElem?_map, Int.toNat_natCast, hp, hf, hm, hpt, gt, byteLV, e0, e3, hk2, ht6, hfr, hto, ha, h2, h4, h5, hsz, e1, e2, hl, hg, hps, hB, hby, fE, Nat.sub_zero, List.drop_zero]
        | false =>
          rw [if_neg (by simp)]
          simp only [go_sem, ↓reduceIte, reduceCtorEq, upd_ne, back_new (no_at), Nat.reduceAdd, Nat.reduceEqDiff, Nat.reduceMul, Nat.reduceSub, Nat.reduceLeDiff, Nat.reduceLT, Int.reduceToNat, Int.reduceLE, Int.reduceLT, Int.reduceEq, UInt8.reduceOfNat, List.getElem?_map, Int.toNat_natCast, hp, hf, hm, hpt, gt, byteLV, e0, e3, hk2, ht6, hfr, hto, ha, h2, h4, h5, hsz, e1, e2, hl, hg, hps, hB, hby, fE, Nat.sub_zero, List.drop_zero]
      · have hB := hB2 hc
        rw [if_neg (fun q => hc q.2)]
        cases bo <;> simp only [go_sem, ↓reduceIte, reduceCtorEq, upd_ne, back_new (no_at), Nat.reduceAdd, Nat.reduceEqDiff, Nat.reduceMul, Nat.reduceSub, Nat.reduceLeDiff, Nat.reduceLT, Int.reduceToNat, Int.reduceLE, Int.reduceLT, Int.reduceEq, UInt8.reduceOfNat, List.getElem?_map, Int.toNat_natCast, hp, hf, hm, hpt, gt, byteLV, e0, e3, hk2, ht6, hfr, hto, ha, h2, h4, h5, hsz, e1, e2, hl, hg, hps, hB, hby, fE, Nat.sub_zero, List.drop_zero]
end
end
end Go.Ev

namespace Go.Ev
set_option linter.unusedSimpArgs false
set_option linter.unusedVariables false
set_option maxRecDepth 4000
set_option maxHeartbeats 2000000
theorem sum_in {h r : List UInt8} {x : Nat} (hh : h.length % 2 = 0) (hx : x < 65536) : sumAt 0 (h ++ (UInt8.ofNat (x / 256) :: UInt8.ofNat x :: r)) = sumAt 0 (h ++ r) + x := by
  simp only [sumAt_append, sumAt]
  rw [show 0 + h.length + 1 + 1 = 0 + h.length + 2 by omega, sumAt_two, if_pos (by omega), if_neg (by omega)]
  simp only [UInt8.toNat_ofNat']
  omega
theorem right_in {h r : List UInt8} {x : Nat} (hh : h.length % 2 = 0) (hx : x = (sumS (h ++ r)).toNat) : sumS (h ++ (UInt8.ofNat (x / 256) :: UInt8.ofNat x :: r)) = 0 := by
  have h1 := ones_le (sumAt 0 (h ++ r))
  have h2 : x = 65535 - ones (sumAt 0 (h ++ r)) := by rw [hx]; unfold sumS; omega
  rw [sumS_zero, sum_in hh (by omega), h2]
  rcases right_of0 (t := sumAt 0 (h ++ r)) with h | h
  · exact h
  · exact h.2.elim
def H4 (b0 tos all id A ttl pt x : Nat) : List UInt8 :=
  [UInt8.ofNat b0, UInt8.ofNat tos, UInt8.ofNat (all / 256), UInt8.ofNat all, UInt8.ofNat (id / 256), UInt8.ofNat id, UInt8.ofNat (A / 256), UInt8.ofNat A, UInt8.ofNat ttl, UInt8.ofNat pt, UInt8.ofNat (x / 256), UInt8.ofNat x]
theorem by4_eq (tos id ttl pt at' : Int) (df mo : Bool) (fr to op da : List UInt8) : by4 tos id ttl pt at' df mo fr to op da =
    H4 (64 + (20 + op.length) / 4) tos.toNat (20 + op.length + da.length) id.toNat (at4 at' df mo) ttl.toNat pt.toNat (x4 tos id ttl pt at' df mo fr to op da).toNat ++ (fr ++ (to ++ (op ++ da))) := by
  unfold by4 hd4 H4
  simp only [beB1, beB2, List.cons_append, List.nil_append, List.append_assoc]
theorem hd4_eq (tos id ttl pt at' : Int) (df mo : Bool) (op da : List UInt8) : hd4 tos id ttl pt at' df mo op da =
    (H4 (64 + (20 + op.length) / 4) tos.toNat (20 + op.length + da.length) id.toNat (at4 at' df mo) ttl.toNat pt.toNat 0).take 10 := by
  unfold hd4 H4
  simp only [beB1, beB2, List.cons_append, List.nil_append, List.take_succ_cons, List.take_zero]
theorem by4_len {tos id ttl pt at' : Int} {df mo : Bool} {fr to op da : List UInt8} (hfr : fr.length = 4) (hto : to.length = 4) : (by4 tos id ttl pt at' df mo fr to op da).length = 20 + op.length + da.length := by
  rw [by4_eq]; simp only [H4, List.length_append, List.length_cons, List.length_nil]; omega
theorem len4 {s : List UInt8} (h : s.length = 4) : ∃ a b c d, s = [a, b, c, d] := by
  match s, h with
  | [a, b, c, d], _ => exact ⟨a, b, c, d, rfl⟩
theorem by4_right {tos id ttl pt at' : Int} {df mo : Bool} {fr to op da : List UInt8} : sumS (H4 (64 + (20 + op.length) / 4) tos.toNat (20 + op.length + da.length) id.toNat (at4 at' df mo) ttl.toNat pt.toNat (x4 tos id ttl pt at' df mo fr to op da).toNat ++ (fr ++ (to ++ op))) = 0 := by
  have h := right_in (h := hd4 tos id ttl pt at' df mo op da) (r := fr ++ (to ++ op)) (x := (x4 tos id ttl pt at' df mo fr to op da).toNat) (by simp only [hd4, List.length_append, beB_len]) rfl
  rw [← h, hd4_eq]
  rfl
theorem at4_lt {a : Nat} {df mo : Bool} (h : a ≤ 65528) : at4 (a : Int) df mo < 32768 := by
  unfold at4
  rw [Int.toNat_natCast]
  cases df <;> cases mo <;> simp <;> omega
theorem at4_df {a : Nat} {df mo : Bool} (h : a ≤ 65528) : decide (at4 (a : Int) df mo / 16384 % 2 = 1) = df := by
  unfold at4
  rw [Int.toNat_natCast]
  cases df <;> cases mo <;> simp <;> omega
theorem at4_mo {a : Nat} {df mo : Bool} (h : a ≤ 65528) : decide (at4 (a : Int) df mo / 8192 % 2 = 1) = mo := by
  unfold at4
  rw [Int.toNat_natCast]
  cases df <;> cases mo <;> simp <;> omega
theorem at4_at {a : Nat} {df mo : Bool} (h : a ≤ 65528) (h8 : a % 8 = 0) : at4 (a : Int) df mo % 8192 * 8 = a := by
  unfold at4
  rw [Int.toNat_natCast]
  cases df <;> cases mo <;> simp <;> omega
structure Par4 (s : List UInt8) : Prop where
  h20 : 20 ≤ s.length
  hv : bAt s 0 / 16 = 4
  hn : 20 ≤ n4 s
  hl : n4 s ≤ s.length
  hs : sumS (s.take (n4 s)) = 0
  ha : n4 s ≤ wAt s 2
  hal : wAt s 2 ≤ s.length
  hb : wAt s 6 < 32768
  hw : pwhy4 s = 0
theorem pK4_zero {s : List UInt8} : pK4 s = 0 ↔ Par4 s := by
  unfold pK4
  constructor
  · intro h
    split at h
    · simp at h
    rename_i h1
    split at h
    · simp at h
    rename_i h2
    split at h
    · simp at h
    rename_i h3
    split at h
    · simp at h
    rename_i h4
    split at h
    · simp at h
    rename_i h5
    split at h
    · simp at h
    rename_i h6
    split at h
    · simp at h
    rename_i h7
    have h7a : ¬ 32768 ≤ wAt s 6 := fun q => h7 (Or.inl q)
    have h7b : pwhy4 s = 0 := Classical.byContradiction fun q => h7 (Or.inr q)
    have h2a : bAt s 0 / 16 = 4 := Classical.byContradiction fun q => h2 (Or.inl q)
    have h2b : ¬ n4 s < 20 := fun q => h2 (Or.inr q)
    exact ⟨by omega, h2a, by omega, by omega, Classical.byContradiction fun q => h4 q, by omega, by omega, by omega, h7b⟩
  · intro h
    have := h.h20; have := h.hv; have := h.hn; have := h.hl; have := h.ha; have := h.hal; have := h.hb
    rw [if_neg (by omega), if_neg (by omega), if_neg (by omega), if_neg (fun q => q h.hs), if_neg (by omega), if_neg (by omega), if_neg (fun q => by rcases q with q | q; omega; exact q h.hw)]
theorem parse_by4 {tos id ttl pt at' : Int} {df mo : Bool} {fr to op da : List UInt8} (ok : Ok4 tos id ttl pt at' mo op da) (hfr : fr.length = 4) (hto : to.length = 4) (t : List UInt8) :
    Par4 (by4 tos id ttl pt at' df mo fr to op da ++ t) ∧ n4 (by4 tos id ttl pt at' df mo fr to op da ++ t) = 20 + op.length ∧ wAt (by4 tos id ttl pt at' df mo fr to op da ++ t) 2 = 20 + op.length + da.length ∧
    pLV4 (by4 tos id ttl pt at' df mo fr to op da ++ t) = ip4LV tos id ttl pt at' df mo fr to op da := by
  have hlen := by4_len (tos := tos) (id := id) (ttl := ttl) (pt := pt) (at' := at') (df := df) (mo := mo) (fr := fr) (to := to) (op := op) (da := da) hfr hto
  have hright := by4_right (tos := tos) (id := id) (ttl := ttl) (pt := pt) (at' := at') (df := df) (mo := mo) (fr := fr) (to := to) (op := op) (da := da)
  have heq := by4_eq tos id ttl pt at' df mo fr to op da
  have hwz := why4_zero.2 ok
  obtain ⟨⟨o1, o1'⟩, ⟨o2, o2'⟩, ⟨o3, o3'⟩, ⟨o4, o4'⟩, ⟨o5, o5'⟩, o6, o7, o8, o9, o10⟩ := ok
  obtain ⟨tos, rfl⟩ := nat_of o1
  obtain ⟨ttl, rfl⟩ := nat_of o2
  obtain ⟨pt, rfl⟩ := nat_of o3
  obtain ⟨id, rfl⟩ := nat_of o4
  obtain ⟨a, rfl⟩ := nat_of o5
  generalize (x4 (tos : Int) id ttl pt a df mo fr to op da).toNat = x at *
  generalize hY : by4 (tos : Int) id ttl pt a df mo fr to op da = Y at *
  have o6 : ((a % 8 : Nat) : Int) = 0 := o6
  have hA1 := at4_lt (a := a) (df := df) (mo := mo) (by omega)
  have hA2 := at4_df (a := a) (df := df) (mo := mo) (by omega)
  have hA3 := at4_mo (a := a) (df := df) (mo := mo) (by omega)
  have hA4 := at4_at (a := a) (df := df) (mo := mo) (by omega) (by omega)
  generalize at4 (a : Int) df mo = A at *
  simp only [Int.toNat_natCast] at heq hright
  obtain ⟨f0, f1, f2, f3, rfl⟩ := len4 hfr
  obtain ⟨t0, t1, t2, t3, rfl⟩ := len4 hto
  have h0 : bAt (Y ++ t) 0 = 64 + (20 + op.length) / 4 := by
    rw [heq]; simp only [H4, List.cons_append, List.nil_append, bAt0, UInt8.toNat_ofNat']; omega
  have h1 : bAt (Y ++ t) 1 = tos := by
    rw [heq]; simp only [H4, List.cons_append, List.nil_append, bAt0, bAts, UInt8.toNat_ofNat']; omega
  have h8 : bAt (Y ++ t) 8 = ttl := by
    rw [heq]; simp only [H4, List.cons_append, List.nil_append, bAt0, bAts, UInt8.toNat_ofNat']; omega
  have h9 : bAt (Y ++ t) 9 = pt := by
    rw [heq]; simp only [H4, List.cons_append, List.nil_append, bAt0, bAts, UInt8.toNat_ofNat']; omega
  have h2 : wAt (Y ++ t) 2 = 20 + op.length + da.length := by
    rw [heq]; simp only [H4, List.cons_append, List.nil_append, wAt0, wAts]; exact w16_beB (by omega)
  have h4 : wAt (Y ++ t) 4 = id := by
    rw [heq]; simp only [H4, List.cons_append, List.nil_append, wAt0, wAts]; exact w16_beB (by omega)
  have h6 : wAt (Y ++ t) 6 = A := by
    rw [heq]; simp only [H4, List.cons_append, List.nil_append, wAt0, wAts]; exact w16_beB (by omega)
  have hn : n4 (Y ++ t) = 20 + op.length := by unfold n4; rw [h0]; omega
  have p1 : pat4 (Y ++ t) = (a : Int) := by unfold pat4; rw [h6, hA4]
  have p2 : pdf4 (Y ++ t) = df := by unfold pdf4; rw [h6]; exact hA2
  have p3 : pmo4 (Y ++ t) = mo := by unfold pmo4; rw [h6]; exact hA3
  have p4 : pop4 (Y ++ t) = op := by
    unfold pop4; rw [hn, heq]; simp only [H4, List.cons_append, List.nil_append, List.drop_succ_cons, List.drop_zero]
    rw [show 20 + op.length - 20 = op.length by omega, List.append_assoc, List.take_left']; rfl
  have p5 : pda4 (Y ++ t) = da := by
    unfold pda4; rw [hn, h2, heq]; simp only [H4, List.cons_append, List.nil_append]
    rw [show 20 + op.length = op.length + 20 by omega]
    simp only [List.drop_succ_cons]
    rw [List.append_assoc, List.drop_left', show op.length + 20 + da.length - (op.length + 20) = da.length by omega, List.take_left']
    · rfl
    · rfl
  have p6 : pfr4 (Y ++ t) = [f0, f1, f2, f3] := by
    unfold pfr4; rw [heq]; rfl
  have p7 : pto4 (Y ++ t) = [t0, t1, t2, t3] := by
    unfold pto4; rw [heq]; rfl
  have hw : pwhy4 (Y ++ t) = 0 := by unfold pwhy4; rw [h1, h4, h8, h9, p1, p3, p4, p5]; exact hwz
  have htk : (Y ++ t).take (20 + op.length) = H4 (64 + (20 + op.length) / 4) tos (20 + op.length + da.length) id A ttl pt x ++ ([f0, f1, f2, f3] ++ ([t0, t1, t2, t3] ++ op)) := by
    rw [heq]; simp only [H4, List.cons_append, List.nil_append]
    rw [show 20 + op.length = op.length + 20 by omega]
    simp only [List.take_succ_cons]
    rw [List.append_assoc, List.take_left']; rfl
  have hP : Par4 (Y ++ t) := ⟨by rw [List.length_append]; omega, by omega, by omega, by rw [List.length_append]; omega, by rw [hn, htk]; exact hright, by omega, by rw [List.length_append]; omega, by omega, hw⟩
  refine ⟨hP, hn, h2, ?_⟩
  unfold pLV4
  rw [if_pos (pK4_zero.2 hP), h1, h4, h8, h9, p1, p2, p3, p4, p5, p6, p7]
end Go.Ev

namespace Go.Ev
set_option linter.unusedSimpArgs false
set_option linter.unusedVariables false
set_option maxRecDepth 10000
set_option maxHeartbeats 8000000
theorem getD_take {s : List UInt8} {i j : Nat} (h : i < j) : (s.take j).getD i 0 = s.getD i 0 := by
  simp [List.getD, List.getElem?_take, h]
theorem bAt_take {s : List UInt8} {i j : Nat} (h : i < j) : bAt (s.take j) i = bAt s i := by unfold bAt; rw [getD_take h]
theorem wAt_take {s : List UInt8} {i j : Nat} (h : i + 1 < j) : wAt (s.take j) i = wAt s i := by unfold wAt; rw [getD_take (by omega), getD_take h]
theorem inside_cut {s : List UInt8} (h : Par4 s) {j : Nat} (hj : n4 s + min 8 (wAt s 2 - n4 s) ≤ j) (hjl : j ≤ s.length) :
    iK4 (s.take j) = 0 ∧ iC4 (s.take j) = ((wAt s 2 - n4 s : Nat) : Int) ∧
    iLV4 (s.take j) = ip4LV (bAt s 1) (wAt s 4) (bAt s 8) (bAt s 9) (pat4 s) (pdf4 s) (pmo4 s) (pfr4 s) (pto4 s) (pop4 s) ((pda4 s).take (j - n4 s)) := by
  have h20 := h.hn
  have hlen : (s.take j).length = j := by rw [List.length_take]; omega
  have b0 : bAt (s.take j) 0 = bAt s 0 := bAt_take (by omega)
  have b1 : bAt (s.take j) 1 = bAt s 1 := bAt_take (by omega)
  have b8 : bAt (s.take j) 8 = bAt s 8 := bAt_take (by omega)
  have b9 : bAt (s.take j) 9 = bAt s 9 := bAt_take (by omega)
  have w2 : wAt (s.take j) 2 = wAt s 2 := wAt_take (by omega)
  have w4 : wAt (s.take j) 4 = wAt s 4 := wAt_take (by omega)
  have w6 : wAt (s.take j) 6 = wAt s 6 := wAt_take (by omega)
  have hn : n4 (s.take j) = n4 s := by unfold n4; rw [b0]
  have hda : pda4 (s.take j) = (pda4 s).take (j - n4 s) := by
    unfold pda4
    rw [hn, w2, List.drop_take, List.take_take, List.take_take, Nat.min_comm]
  have hop : pop4 (s.take j) = pop4 s := by
    unfold pop4
    rw [hn, List.drop_take, List.take_take, Nat.min_eq_left (by omega)]
  have hfr : pfr4 (s.take j) = pfr4 s := by unfold pfr4; rw [List.drop_take, List.take_take, Nat.min_eq_left (by omega)]
  have hto : pto4 (s.take j) = pto4 s := by unfold pto4; rw [List.drop_take, List.take_take, Nat.min_eq_left (by omega)]
  have hat : pat4 (s.take j) = pat4 s := by unfold pat4; rw [w6]
  have hdf : pdf4 (s.take j) = pdf4 s := by unfold pdf4; rw [w6]
  have hmo : pmo4 (s.take j) = pmo4 s := by unfold pmo4; rw [w6]
  have ok := why4_zero.1 h.hw
  have hall := ok.kall
  have hl := h.hl
  have ha := h.ha
  have hal := h.hal
  have hpl : (pda4 s).length = wAt s 2 - n4 s := by unfold pda4; rw [List.length_take, List.length_drop]; omega
  have hol : (pop4 s).length = n4 s - 20 := by unfold pop4; rw [List.length_take, List.length_drop]; omega
  have hcl : ((pda4 s).take (j - n4 s)).length = min (j - n4 s) (wAt s 2 - n4 s) := by rw [List.length_take, hpl]
  have hk : iK4 (s.take j) = 0 := by
    unfold iK4
    rw [hn, b0, w2, w6, hda, hcl, hlen, List.take_take, Nat.min_eq_left (show n4 s ≤ j by omega)]
    have hv := h.hv
    have hb := h.hb
    have hall' : wAt s 6 % 8192 * 8 + wAt s 2 ≤ 65535 := by unfold pat4 at hall; omega
    rw [if_neg (by omega), if_neg (by omega), if_neg (by omega), if_neg (fun q => q h.hs), if_neg (by omega), if_neg (by omega)]
  refine ⟨hk, ?_, ?_⟩
  · unfold iC4; rw [if_pos hk, w2, hn]
  · unfold iLV4; rw [if_pos hk, b1, w4, b8, b9, hat, hdf, hmo, hfr, hto, hop, hda]
end Go.Ev

namespace Go.Ev
set_option linter.unusedSimpArgs false
set_option linter.unusedVariables false
set_option maxRecDepth 10000
set_option maxHeartbeats 8000000
def inB (m : Int) (l : List Int) : Bool := l.all fun x => decide (0 ≤ x ∧ x ≤ m)
theorem or6F {c : Nat} (hc : c ≤ 255) : 1610612736 ||| c * 1048576 = 1610612736 + c * 1048576 := by
  rw [show 1610612736 = 1536 <<< 20 by rfl, show c * 1048576 = c <<< 20 by simp [Nat.shiftLeft_eq], ← Nat.shiftLeft_or_distrib, show 1536 = 6 <<< 8 by rfl, ← Nat.shiftLeft_add_eq_or_of_lt (by omega)]
  simp only [Nat.shiftLeft_eq]
  omega
section
variable {S : Sys} (hS : Has S) (n : Nat)
include hS
theorem ev_withinF (m : Int) (l : List Int) (hl : l.length ≤ 1000) : S.ev (n + 1) id_fault_within [.int .i64 m, .lst none (l.map fun x => LV.int .i64 x)] none = some (.bool (inB m l), none) := by
  rw [Sys.step hS.h_fault_within, F_fault_within_eq]
  unfold F_fault_within
  (try simp only [guard_merge, or_merge, and_merge, or_pick, and_pick, guard_or, guard_and]); simp only [to_ob]
  simp only [go_sem, ↓reduceIte, reduceCtorEq, upd_ne, back_new (no_at), Nat.reduceAdd, Nat.reduceEqDiff, Nat.reduceMul, Nat.reduceSub, Nat.reduceLeDiff, Nat.reduceLT, Int.reduceToNat, Int.reduceLE, Int.reduceLT, Int.reduceEq, UInt8.reduceOfNat, List.length_map]
  refine while_rule (fun k q => ∃ i : Nat, q = ([.bool false, .int .i64 (i : Int)], noSlots) ∧ i + k = l.length ∧ inB m (l.drop i) = inB m l) l.length ⟨0, rfl, by omega, rfl⟩ ?_
  rintro k q ⟨i, rfl, hi, hr⟩
  by_cases h : i < l.length
  · have h' : (i : Int) < (l.length : Int) := by omega
    obtain ⟨x, hx⟩ : ∃ x, l[i]? = some x := ⟨l[i], by simp [h]⟩
    have hd : l.drop i = x :: l.drop (i + 1) := by
      rw [List.drop_eq_getElem_cons h]; congr 1; rw [List.getElem?_eq_getElem h] at hx; exact Option.some.inj hx
    rw [hd] at hr
    have hc : inB m (x :: l.drop (i + 1)) = (decide (0 ≤ x ∧ x ≤ m) && inB m (l.drop (i + 1))) := rfl
    rw [hc] at hr
    have e1 : IntKind.i64.wrap ((i : Int) + 1) = ((i + 1 : Nat) : Int) := by rw [wrap_id (by omega) (by omega)]; omega
    by_cases c1 : x < 0
    · rw [decide_eq_false (by omega), Bool.false_and] at hr
      rw [← hr]
      simp only [go_sem, ↓reduceIte, reduceCtorEq, upd_ne, back_new (no_at), Nat.reduceAdd, Nat.reduceEqDiff, Nat.reduceMul, Nat.reduceSub, Nat.reduceLeDiff, Nat.reduceLT, Int.reduceToNat, Int.reduceLE, Int.reduceLT, Int.reduceEq, UInt8.reduceOfNat, List.getElem?_map, Int.toNat_natCast, h', hx, c1, Option.map_some, Nxt, exIf]
    · by_cases c2 : m < x
      · rw [decide_eq_false (by omega), Bool.false_and] at hr
        rw [← hr]
        simp only [go_sem, ↓reduceIte, reduceCtorEq, upd_ne, back_new (no_at), Nat.reduceAdd, Nat.reduceEqDiff, Nat.reduceMul, Nat.reduceSub, Nat.reduceLeDiff, Nat.reduceLT, Int.reduceToNat, Int.reduceLE, Int.reduceLT, Int.reduceEq, UInt8.reduceOfNat, List.getElem?_map, Int.toNat_natCast, h', hx, c1, c2, Option.map_some, Nxt, exIf]
      · rw [decide_eq_true (by omega), Bool.true_and] at hr
        simp only [go_sem, ↓reduceIte, reduceCtorEq, upd_ne, back_new (no_at), Nat.reduceAdd, Nat.reduceEqDiff, Nat.reduceMul, Nat.reduceSub, Nat.reduceLeDiff, Nat.reduceLT, Int.reduceToNat, Int.reduceLE, Int.reduceLT, Int.reduceEq, UInt8.reduceOfNat, List.getElem?_map, Int.toNat_natCast, h', hx, c1, c2, Option.map_some, e1]
        exact ⟨k - 1, by omega, i + 1, rfl, by omega, hr⟩
  · have h' : ¬ (i : Int) < (l.length : Int) := by omega
    rw [List.drop_of_length_le (by omega)] at hr
    rw [← hr]
    simp only [go_sem, ↓reduceIte, reduceCtorEq, upd_ne, back_new (no_at), Nat.reduceAdd, Nat.reduceEqDiff, Nat.reduceMul, Nat.reduceSub, Nat.reduceLeDiff, Nat.reduceLT, Int.reduceToNat, Int.reduceLE, Int.reduceLT, Int.reduceEq, UInt8.reduceOfNat, List.getElem?_map, Int.toNat_natCast, h', Nxt, exIf]
    rfl
theorem ev_proto17 (x : Int) (hx : x = 6 ∨ x = 17) : S.ev (n + 1) id_head46_Proto [.int .i64 x] none = some (.tup [.int .i64 x, .bool true], none) := by
  rw [Sys.step hS.h_head46_Proto, F_head46_Proto_eq]
  unfold F_head46_Proto
  (try simp only [guard_merge, or_merge, and_merge, or_pick, and_pick, guard_or, guard_and]); simp only [to_ob]
  rcases hx with rfl | rfl <;> simp only [go_sem, ↓reduceIte, reduceCtorEq, upd_ne, back_new (no_at), Nat.reduceAdd, Nat.reduceEqDiff, Nat.reduceMul, Nat.reduceSub, Nat.reduceLeDiff, Nat.reduceLT, Int.reduceToNat, Int.reduceLE, Int.reduceLT, Int.reduceEq, UInt8.reduceOfNat]
theorem ev_quote6w {tos id ttl pt : Int} {df : Bool} {fr to op da a b : List UInt8} {claim p q : Nat} (hfr : fr.length = 4) (hto : to.length = 4) (ha : a.length = 16) (hb : b.length = 16) (hpt : pt = 6 ∨ pt = 17)
    (ht : 0 ≤ tos ∧ tos ≤ 255) (htl : 0 ≤ ttl ∧ ttl ≤ 255) (hi : 0 ≤ id ∧ id ≤ 65535) (hd : da.length ≤ claim) (hc : claim ≤ 65535) (hp : p ≤ 65535) (hq : q ≤ 65535) :
    S.ev (n + 6) id_fault_Quote6 [ip4LV tos id ttl pt 0 df false fr to op da, .int .i64 (claim : Int), .agg [.bytes a, .int .i64 (p : Int)], .agg [.bytes b, .int .i64 (q : Int)]] none =
      some (.tup [.str (beB 4 (1610612736 + tos.toNat * 1048576) ++ (beB 2 claim ++ (beB 1 pt.toNat ++ (beB 1 ttl.toNat ++ (a ++ (b ++ poF (decide (pt = 17)) da (fr ++ to) (a ++ b) p q)))))), .nili], none) := by
  rw [Sys.step hS.h_fault_Quote6, F_fault_Quote6_eq]
  unfold F_fault_Quote6
  have hP := ev_proto17 hS (n + 4) pt hpt
  have hT := ev_turn6p hS n (tos := tos) (id := id) (ttl := ttl) (pt := pt) (at' := 0) (df := df) (mo := false) (fr := fr) (to := to) (op := op) (da := da) (a := a) (b := b) (claim := (claim : Int)) (p := p) (q := q) hfr hto ha hb (by omega) hpt (by omega) hp hq
  have w1 : S.ev (n + 5) id_fault_within [.int .i64 255, .lst none [.int .i64 tos, .int .i64 ttl]] none = some (.bool true, none) := by
    have h := ev_withinF hS (n + 4) 255 [tos, ttl] (by simp)
    rw [show inB 255 [tos, ttl] = true by simp [inB]; omega] at h
    exact h
  have w2 : S.ev (n + 5) id_fault_within [.int .i64 65535, .lst none [.int .i64 id, .int .i64 (p : Int), .int .i64 (q : Int)]] none = some (.bool true, none) := by
    have h := ev_withinF hS (n + 4) 65535 [id, (p : Int), (q : Int)] (by simp)
    rw [show inB 65535 [id, (p : Int), (q : Int)] = true by simp [inB]; omega] at h
    exact h
  have w3 : S.ev (n + 5) id_fault_within [.int .i64 65528, .lst none [.int .i64 0]] none = some (.bool true, none) := by
    have h := ev_withinF hS (n + 4) 65528 [0] (by simp)
    exact h
  obtain ⟨T, rfl⟩ := Int.eq_ofNat_of_zero_le ht.1
  have g1 : S.ev (n + 5) id_fault_big [.int .i64 ((1610612736 + T * 1048576 : Nat) : Int), .int .i64 4] none = some (.str (beB 4 (1610612736 + T * 1048576)), none) := ev_bigF hS (n + 3) _ 4 (by omega) (by omega) ⟨by omega, by omega⟩
  have g2 : S.ev (n + 5) id_fault_big [.int .i64 (claim : Int), .int .i64 2] none = some (.str (beB 2 claim), none) := ev_bigF hS (n + 3) claim 2 (by omega) (lt2 (by omega) (by omega)) ⟨by omega, by omega⟩
  have g3 : S.ev (n + 5) id_fault_big [.int .i64 pt, .int .i64 1] none = some (.str (beB 1 pt.toNat), none) := ev_bigF hS (n + 3) pt 1 (by omega) (lt1 (by omega) (by omega)) ⟨by omega, by omega⟩
  have g4 : S.ev (n + 5) id_fault_big [.int .i64 ttl, .int .i64 1] none = some (.str (beB 1 ttl.toNat), none) := ev_bigF hS (n + 3) ttl 1 (by omega) (lt1 (by omega) (by omega)) ⟨by omega, by omega⟩
  have s1 : IntKind.i64.wrap ((T : Int) * 2 ^ min 20 64) = ((T * 1048576 : Nat) : Int) := by
    rw [show min 20 64 = 20 from rfl, wrap_id (by omega) (by omega)]; omega
  have s2 : bitsOf .or .i64 1610612736 ((T * 1048576 : Nat) : Int) = ((1610612736 + T * 1048576 : Nat) : Int) := by
    rw [show (1610612736 : Int) = ((1610612736 : Nat) : Int) from rfl, bits_or_nat (by decide) (by simp [IntKind.max, IntKind.signed, IntKind.bits]; omega), or6F (by omega)]
  have c1 : ¬ (claim : Int) < (da.length : Int) := by omega
  have c2 : ¬ 65535 < (claim : Int) := by omega
  have hl := beB_len
  have hpl := @poF_len (decide (pt = 17)) da (fr ++ to) (a ++ b) p q
  have t3 : a.take 16 = a := List.take_of_length_le (by omega)
  have t4 : b.take 16 = b := List.take_of_length_le (by omega)
  have x1 : 4 + 2 ≤ maxStr := by decide
  have x2 : 6 + 1 ≤ maxStr := by decide
  have x3 : 7 + 1 ≤ maxStr := by decide
  have x4 : 8 + 16 ≤ maxStr := by decide
  have x5 : 24 + 16 ≤ maxStr := by decide
  have x6 : 40 + da.length ≤ maxStr := by unfold maxStr; omega
  generalize poF (decide (pt = 17)) da (fr ++ to) (a ++ b) p q = PO at *
  (try simp only [guard_merge, or_merge, and_merge, or_pick, and_pick, guard_or, guard_and]); simp only [to_ob]
  rw [Int.toNat_natCast]
  simp only [go_sem, ↓reduceIte, reduceCtorEq, upd_ne, back_new (no_at), Nat.reduceAdd, Nat.reduceEqDiff, Nat.reduceMul, Nat.reduceSub, Nat.reduceLeDiff, Nat.reduceLT, Int.reduceToNat, Int.reduceLE, Int.reduceLT, Int.reduceEq, UInt8.reduceOfNat, List.getElem?_map, Int.toNat_natCast, hfr, hto, ha, hb, hP, hT, w1, w2, w3, g1, g2, g3, g4, s1, s2, c1, c2, hl, hpl, t3, t4, toBytes_byteLV, x1, x2, x3, x4, x5, x6, List.length_append, List.append_assoc, List.append_nil, List.length_nil, Nat.add_zero, Int.zero_tmod]
end
end Go.Ev

namespace Go.Ev
set_option linter.unusedSimpArgs false
set_option linter.unusedVariables false
set_option maxRecDepth 10000
set_option maxHeartbeats 8000000
theorem g_ok {k : Nat} (hk : k ≤ 5000) : Ok4 0 0 9 17 0 false [] (List.replicate k 120) := ⟨by omega, by omega, by omega, by omega, by omega, rfl, by simp, by simp, by simp, by rw [List.length_replicate]; simp; omega⟩
theorem g_fit {k : Nat} (hk : k ≤ 5000) : FitIp4 0 0 9 17 0 [192, 0, 2, 1] [192, 0, 2, 2] [] (List.replicate k 120) := ⟨by unfold I64; omega, by unfold I64; omega, by unfold I64; omega, by unfold I64; omega, by unfold I64; omega, rfl, rfl, by simp, by rw [List.length_replicate]; omega⟩
theorem inside_by4 {tos id ttl pt at' : Int} {df mo : Bool} {fr to op da : List UInt8} (ok : Ok4 tos id ttl pt at' mo op da) (hfr : fr.length = 4) (hto : to.length = 4) {j : Nat} (hj : 20 + op.length + min 8 da.length ≤ j) (hjl : j ≤ 20 + op.length + da.length) :
    iK4 ((by4 tos id ttl pt at' df mo fr to op da).take j) = 0 ∧ iC4 ((by4 tos id ttl pt at' df mo fr to op da).take j) = (da.length : Int) ∧
    iLV4 ((by4 tos id ttl pt at' df mo fr to op da).take j) = ip4LV tos id ttl pt at' df mo fr to op (da.take (j - (20 + op.length))) := by
  obtain ⟨p1, p2, p3, p4⟩ := parse_by4 (df := df) ok hfr hto []
  have hlen := by4_len (tos := tos) (id := id) (ttl := ttl) (pt := pt) (at' := at') (df := df) (mo := mo) (op := op) (da := da) hfr hto
  rw [List.append_nil] at p1 p2 p3 p4
  generalize by4 tos id ttl pt at' df mo fr to op da = B at *
  obtain ⟨c1, c2, c3⟩ := inside_cut p1 (j := j) (by rw [p2, p3, show 20 + op.length + da.length - (20 + op.length) = da.length by omega]; exact hj) (by omega)
  refine ⟨c1, by rw [c2, p2, p3]; omega, ?_⟩
  rw [c3, p2]
  unfold pLV4 at p4
  rw [if_pos (pK4_zero.2 p1)] at p4
  simp only [LV.agg.injEq, List.cons.injEq, LV.int.injEq, LV.bool.injEq, LV.bytes.injEq, LV.str.injEq, true_and, and_true] at p4
  obtain ⟨q1, q2, q3, q4, q5, q6, q7, q8, q9, q10, q11⟩ := p4
  rw [q1, q2, q3, q4, q5, q6, q7, q8, q9, q10, q11]
section
variable {S : Sys} (hS : Has S) (n : Nat)
include hS
theorem ev_parse_by4 {tos id ttl pt at' : Int} {df mo : Bool} {fr to op da : List UInt8} (ok : Ok4 tos id ttl pt at' mo op da) (hfr : fr.length = 4) (hto : to.length = 4) :
    S.ev (n + 4) id_ip4_Parse [.str (by4 tos id ttl pt at' df mo fr to op da)] none = some (.tup [ip4LV tos id ttl pt at' df mo fr to op da, .nili], none) ∧
    S.ev (n + 4) id_interpreterref03_Parse [.str (by4 tos id ttl pt at' df mo fr to op da)] none = some (.tup [ip4LV tos id ttl pt at' df mo fr to op da, .int .i64 0], none) := by
  obtain ⟨p1, p2, p3, p4⟩ := parse_by4 (df := df) ok hfr hto []
  have hlen := by4_len (tos := tos) (id := id) (ttl := ttl) (pt := pt) (at' := at') (df := df) (mo := mo) (op := op) (da := da) hfr hto
  have k1 := ok.kop
  have k2 := ok.kall
  have k3 := ok.kat
  rw [List.append_nil] at p1 p2 p3 p4
  constructor
  · rw [ev_parse4 hS n _ (by omega), p4, pK4_zero.2 p1]; rfl
  · rw [ev_rparse3 hS n _ (by omega), p4, pK4_zero.2 p1]
end
end Go.Ev

namespace Go.Ev
set_option linter.unusedSimpArgs false
set_option linter.unusedVariables false
set_option maxRecDepth 4000
set_option maxHeartbeats 4000000
section
variable {S : Sys} (hS : Has S) (n : Nat)
include hS
theorem ev_rbytes3_ff {tos id ttl pt at' : Int} {fr to op da : List UInt8} (hf : FitIp4 tos id ttl pt at' fr to op da) (hd : da.length ≤ 400000) :
    S.ev (n + 3) id_interpreterref03_Bytes [ip4LV tos id ttl pt at' false false fr to op da] none = some (.tup [.str (by4R tos id ttl pt at' false false fr to op da), .int .i64 (why4 tos id ttl pt at' false op da)], none) := by
  rw [Sys.step hS.h_interpreterref03_Bytes, F_interpreterref03_Bytes_eq]
  unfold F_interpreterref03_Bytes
  have hfr := hf.hfr
  have hto := hf.hto
  have hw := ev_Why3 hS (n) (tos := tos) (id := id) (ttl := ttl) (pt := pt) (at' := at') (df := false) (mo := false) hfr hto hf.hop hf.hda
  (try simp only [guard_merge, or_merge, and_merge, or_pick, and_pick, guard_or, guard_and]); simp only [to_ob]
  unfold by4R
  by_cases c : why4 tos id ttl pt at' false op da = 0
  · have ok := why4_zero.1 c
    obtain ⟨o1, o2, o3, o4, o5, o6, o7, o8, o9, o10⟩ := ok
    rw [c] at hw
    obtain ⟨tos, rfl⟩ := Int.eq_ofNat_of_zero_le o1.1
    obtain ⟨ttl, rfl⟩ := Int.eq_ofNat_of_zero_le o2.1
    obtain ⟨pt, rfl⟩ := Int.eq_ofNat_of_zero_le o3.1
    obtain ⟨id, rfl⟩ := Int.eq_ofNat_of_zero_le o4.1
    obtain ⟨at', rfl⟩ := Int.eq_ofNat_of_zero_le o5.1
    have e1 : IntKind.i64.wrap (Int.tdiv (at' : Int) 8) = ((at' / 8 : Nat) : Int) := by
      rw [show Int.tdiv (at' : Int) 8 = ((at' / 8 : Nat) : Int) from rfl, wrap_id (by omega) (by omega)]
    have e2 : IntKind.i64.wrap (20 + (op.length : Int)) = ((20 + op.length : Nat) : Int) := by rw [wrap_id (by omega) (by omega)]; omega
    have e3 : IntKind.i64.wrap (Int.tdiv ((20 + op.length : Nat) : Int) 4) = (((20 + op.length) / 4 : Nat) : Int) := by
      rw [show Int.tdiv ((20 + op.length : Nat) : Int) 4 = (((20 + op.length) / 4 : Nat) : Int) from rfl, wrap_id (by omega) (by omega)]
    have e4 : IntKind.i64.wrap (64 + (((20 + op.length) / 4 : Nat) : Int)) = ((64 + (20 + op.length) / 4 : Nat) : Int) := by rw [wrap_id (by omega) (by omega)]; omega
    have e5 : IntKind.i64.wrap (((20 + op.length : Nat) : Int) + (da.length : Int)) = ((20 + op.length + da.length : Nat) : Int) := by rw [wrap_id (by omega) (by omega)]; omega
    have d1 := div256 (x := 20 + op.length + da.length) (by omega)
    have d2 := div256 (x := id) (by omega)
    have f1 : IntKind.i64.wrap (((at' / 8 : Nat) : Int) + 8192) = ((at' / 8 + 8192 : Nat) : Int) := by rw [wrap_id (by omega) (by omega)]; omega
    have f2 : IntKind.i64.wrap (((at' / 8 : Nat) : Int) + 16384) = ((at' / 8 + 16384 : Nat) : Int) := by rw [wrap_id (by omega) (by omega)]; omega
    have f3 : IntKind.i64.wrap (((at' / 8 + 8192 : Nat) : Int) + 16384) = ((at' / 8 + 8192 + 16384 : Nat) : Int) := by rw [wrap_id (by omega) (by omega)]; omega
    have d3 := div256 (x := at' / 8) (by omega)
    have d4 := div256 (x := at' / 8 + 8192) (by omega)
    have d5 := div256 (x := at' / 8 + 16384) (by omega)
    have d6 := div256 (x := at' / 8 + 8192 + 16384) (by omega)
    have hx := sumS_le (hd4 tos id ttl pt at' false false op da ++ (fr ++ (to ++ op)))
    have hx : 0 ≤ x4 tos id ttl pt at' false false fr to op da ∧ x4 tos id ttl pt at' false false fr to op da ≤ 65535 := hx
    have hat4 : at4 at' false false = at' / 8 := by unfold at4; rw [Int.toNat_natCast, if_neg Bool.false_ne_true, if_neg Bool.false_ne_true]; omega
    obtain ⟨A, hAA⟩ : ∃ A, A = at' / 8 := ⟨_, rfl⟩
    rw [← hAA] at hat4
    simp only [← hAA] at e1 f1 f2 f3 d3 d4 d5 d6
    simp only [go_sem, ↓reduceIte, reduceCtorEq, upd_ne, back_new (no_at), Nat.reduceAdd, Nat.reduceEqDiff, Nat.reduceMul, Nat.reduceSub, Nat.reduceLeDiff, Nat.reduceLT, Int.reduceToNat, Int.reduceLE, Int.reduceLT, Int.reduceEq, UInt8.reduceOfNat, hw, c, hfr, hto, e1, e2, e3, e4, e5, f1, f2, f3, d1, d2, d3, mod256, u8w, u8_ofNat_mod, e_cBslM, u8_lt, UInt8.ofNat_toNat, cBytes_eq]
    generalize hH : ([UInt8.ofNat (64 + (20 + op.length) / 4), UInt8.ofNat tos, UInt8.ofNat ((20 + op.length + da.length) / 256), UInt8.ofNat (20 + op.length + da.length), UInt8.ofNat (id / 256), UInt8.ofNat id, UInt8.ofNat (A / 256), UInt8.ofNat A, UInt8.ofNat ttl, UInt8.ofNat pt, 0, 0] : List UInt8) = H
    have hHl : H.length = 12 := by rw [← hH]; rfl
    refine while_rule (fun k q => ∃ i : Nat, i + k = 4 ∧ q = ([.arr 70 (1 + i) [] 0 0 (12 + i), .int .i64 (i : Int)], upd noSlots 70 (.obj (1 + i) (.bytes (H ++ fr.take i))))) 4 ⟨0, rfl, by simp⟩ ?_
    rintro k q ⟨i, hi, rfl⟩
    simp only [go_sem, ↓reduceIte, reduceCtorEq, upd_ne, back_new (no_at), Nat.reduceAdd, Nat.reduceEqDiff, Nat.reduceMul, Nat.reduceSub, Nat.reduceLeDiff, Nat.reduceLT, Int.reduceToNat, Int.reduceLE, Int.reduceLT, Int.reduceEq, UInt8.reduceOfNat]
    refine nxt_ite (fun h => ?_) (fun h => ?_)
    · have hlt : i < fr.length := by omega
      obtain ⟨b, hb⟩ : ∃ b, fr[i]? = some b := ⟨fr[i], by simp [hlt]⟩
      have htk : fr.take (i + 1) = fr.take i ++ [b] := by rw [List.take_add_one, hb]; rfl
      have hlen : (H ++ fr.take i).length = 12 + i := by rw [List.length_append, List.length_take]; omega
      have hA := wApp_arr (d := 81) (t := 70) (g := 1 + i) (sl := noSlots) (b := H ++ fr.take i) (s := [b]) (by simp; omega)
      rw [hlen] at hA
      simp only [List.map_cons, List.map_nil, byteLV, List.length_cons, List.length_nil] at hA
      have i1 : IntKind.i64.wrap ((i : Int) + 1) = ((i + 1 : Nat) : Int) := by rw [wrap_id (by omega) (by omega)]; omega
      have i2 : i < 4 := by omega
      simp only [go_sem, ↓reduceIte, reduceCtorEq, upd_ne, back_new (no_at), Nat.reduceAdd, Nat.reduceEqDiff, Nat.reduceMul, Nat.reduceSub, Nat.reduceLeDiff, Nat.reduceLT, Int.reduceToNat, Int.reduceLE, Int.reduceLT, Int.reduceEq, UInt8.reduceOfNat, List.getElem?_map, Int.toNat_natCast, hfr, hb, byteLV, hA, i1, i2]
      refine ⟨k - 1, by omega, i + 1, by omega, ?_⟩
      rw [htk, ← List.append_assoc, show 1 + (i + 1) = 1 + i + 1 by omega, show 12 + (i + 1) = 12 + i + 1 by omega]
    · obtain rfl : i = 4 := by omega
      have hf4 : fr.take 4 = fr := List.take_of_length_le (by omega)
      rw [hf4]
      simp only [go_sem, ↓reduceIte, reduceCtorEq, upd_ne, back_new (no_at), Nat.reduceAdd, Nat.reduceEqDiff, Nat.reduceMul, Nat.reduceSub, Nat.reduceLeDiff, Nat.reduceLT, Int.reduceToNat, Int.reduceLE, Int.reduceLT, Int.reduceEq, UInt8.reduceOfNat, Nxt, exIf]
      refine while_rule (fun k q => ∃ i : Nat, i + k = 4 ∧ q = ([.arr 70 (5 + i) [] 0 0 (16 + i), .int .i64 (i : Int)], upd noSlots 70 (.obj (5 + i) (.bytes (H ++ fr ++ to.take i))))) 4 ⟨0, rfl, by simp⟩ ?_
      rintro k q ⟨i, hi, rfl⟩
      simp only [go_sem, ↓reduceIte, reduceCtorEq, upd_ne, back_new (no_at), Nat.reduceAdd, Nat.reduceEqDiff, Nat.reduceMul, Nat.reduceSub, Nat.reduceLeDiff, Nat.reduceLT, Int.reduceToNat, Int.reduceLE, Int.reduceLT, Int.reduceEq, UInt8.reduceOfNat]
      refine nxt_ite (fun h => ?_) (fun h => ?_)
      · have hlt : i < to.length := by omega
        obtain ⟨b, hb⟩ : ∃ b, to[i]? = some b := ⟨to[i], by simp [hlt]⟩
        have htk : to.take (i + 1) = to.take i ++ [b] := by rw [List.take_add_one, hb]; rfl
        have hlen : (H ++ fr ++ to.take i).length = 16 + i := by rw [List.length_append, List.length_append, List.length_take]; omega
        have hA := wApp_arr (d := 92) (t := 70) (g := 5 + i) (sl := noSlots) (b := H ++ fr ++ to.take i) (s := [b]) (by rw [hlen]; simp; omega)
        rw [hlen] at hA
        simp only [List.map_cons, List.map_nil, byteLV, List.length_cons, List.length_nil] at hA
        have i1 : IntKind.i64.wrap ((i : Int) + 1) = ((i + 1 : Nat) : Int) := by rw [wrap_id (by omega) (by omega)]; omega
        have i2 : i < 4 := by omega
        simp only [go_sem, ↓reduceIte, reduceCtorEq, upd_ne, back_new (no_at), Nat.reduceAdd, Nat.reduceEqDiff, Nat.reduceMul, Nat.reduceSub, Nat.reduceLeDiff, Nat.reduceLT, Int.reduceToNat, Int.reduceLE, Int.reduceLT, Int.reduceEq, UInt8.reduceOfNat, List.getElem?_map, Int.toNat_natCast, hto, hb, byteLV, hA, i1, i2]
        refine ⟨k - 1, by omega, i + 1, by omega, ?_⟩
        rw [htk, ← List.append_assoc, show 5 + (i + 1) = 5 + i + 1 by omega, show 16 + (i + 1) = 16 + i + 1 by omega]
      · obtain rfl : i = 4 := by omega
        have ht4 : to.take 4 = to := List.take_of_length_le (by omega)
        rw [ht4]
        have hHf : (H ++ fr ++ to).length = 20 := by simp; omega
        have hB := wApp_str (d := 96) (t := 70) (g := 9) (sl := noSlots) (b := H ++ fr ++ to) (s := op) (by omega)
        rw [hHf] at hB
        simp only [go_sem, ↓reduceIte, reduceCtorEq, upd_ne, back_new (no_at), Nat.reduceAdd, Nat.reduceEqDiff, Nat.reduceMul, Nat.reduceSub, Nat.reduceLeDiff, Nat.reduceLT, Int.reduceToNat, Int.reduceLE, Int.reduceLT, Int.reduceEq, UInt8.reduceOfNat, Nxt, exIf, hB]
        obtain ⟨z, hz⟩ := Int.eq_ofNat_of_zero_le hx.1
        have hL : (H ++ fr ++ to ++ op).length = 20 + op.length := by rw [List.length_append]; omega
        have hsum : sumAt 0 (H ++ fr ++ to ++ op) = sumAt 0 (hd4 tos id ttl pt at' false false op da ++ (fr ++ (to ++ op))) := by
          rw [← hH, show hd4 tos id ttl pt at' false false op da = [UInt8.ofNat (64 + (20 + op.length) / 4), UInt8.ofNat tos, UInt8.ofNat ((20 + op.length + da.length) / 256), UInt8.ofNat (20 + op.length + da.length), UInt8.ofNat (id / 256), UInt8.ofNat id, UInt8.ofNat (A / 256), UInt8.ofNat A, UInt8.ofNat ttl, UInt8.ofNat pt] by unfold hd4; rw [hat4]; simp only [beB1, beB2, Int.toNat_natCast, List.cons_append, List.nil_append]]
          have hsz := sum_zeros (h := [UInt8.ofNat (64 + (20 + op.length) / 4), UInt8.ofNat tos, UInt8.ofNat ((20 + op.length + da.length) / 256), UInt8.ofNat (20 + op.length + da.length), UInt8.ofNat (id / 256), UInt8.ofNat id, UInt8.ofNat (A / 256), UInt8.ofNat A, UInt8.ofNat ttl, UInt8.ofNat pt]) (r := fr ++ (to ++ op)) (by simp only [List.length_cons, List.length_nil])
          simp only [List.cons_append, List.nil_append, List.append_assoc] at hsz ⊢
          exact hsz
        have ho := ev_rOf hS n (H ++ fr ++ to ++ op) (by omega)
        have ho : S.ev (n + 2) id_interpreterref02_Of [.str (H ++ fr ++ to ++ op)] none = some (.int .i64 (z : Int), none) := by
          rw [ho, hsum, ← hz]; unfold x4 sumS; exact rfl
        have hby : by4 tos id ttl pt at' false false fr to op da = ((H ++ fr ++ to ++ op).set 10 (UInt8.ofNat (z / 256))).set 11 (UInt8.ofNat z) ++ da := by
          unfold by4
          rw [hz, ← hH, show hd4 tos id ttl pt at' false false op da = [UInt8.ofNat (64 + (20 + op.length) / 4), UInt8.ofNat tos, UInt8.ofNat ((20 + op.length + da.length) / 256), UInt8.ofNat (20 + op.length + da.length), UInt8.ofNat (id / 256), UInt8.ofNat id, UInt8.ofNat (A / 256), UInt8.ofNat A, UInt8.ofNat ttl, UInt8.ofNat pt] by unfold hd4; rw [hat4]; simp only [beB1, beB2, Int.toNat_natCast, List.cons_append, List.nil_append]]
          simp only [beB2, Int.toNat_natCast, List.cons_append, List.nil_append, List.append_assoc, List.set_cons_succ, List.set_cons_zero]
        have d7 := div256 (x := z) (by omega)
        rw [hby]
        generalize H ++ fr ++ to ++ op = B at *
        have g10 : B[10]? = some B[10] := List.getElem?_eq_getElem (by omega)
        have g11 : (B.set 10 (UInt8.ofNat (z / 256)))[11]? = some B[11] := by rw [List.getElem?_set_ne (by omega)]; exact List.getElem?_eq_getElem (by omega)
        generalize B[10] = b10 at *
        generalize B[11] = b11 at *
        have l1 : 10 < 20 + op.length := by omega
        have l2 : 11 < 20 + op.length := by omega
        have l3 : (((B.set 10 (UInt8.ofNat (z / 256))).set 11 (UInt8.ofNat z))).take (20 + op.length) = (B.set 10 (UInt8.ofNat (z / 256))).set 11 (UInt8.ofNat z) := List.take_of_length_le (by simp; omega)
        have l4 : B.take (20 + op.length) = B := List.take_of_length_le (by omega)
        have l5 : 20 + op.length + da.length ≤ maxStr := by unfold maxStr; omega
        simp only [go_sem, ↓reduceIte, reduceCtorEq, upd_ne, back_new (no_at), Nat.reduceAdd, Nat.reduceEqDiff, Nat.reduceMul, Nat.reduceSub, Nat.reduceLeDiff, Nat.reduceLT, Int.reduceToNat, Int.reduceLE, Int.reduceLT, Int.reduceEq, UInt8.reduceOfNat, List.getElem?_map, Int.toNat_natCast, ho, hL, g10, g11, l1, l2, l3, l4, l5, byteLV, d7, mod256, u8w, u8_ofNat_mod, u8_lt, UInt8.ofNat_toNat, Nat.le_refl]
  · simp only [go_sem, ↓reduceIte, reduceCtorEq, upd_ne, back_new (no_at), Nat.reduceAdd, Nat.reduceEqDiff, Nat.reduceMul, Nat.reduceSub, Nat.reduceLeDiff, Nat.reduceLT, Int.reduceToNat, Int.reduceLE, Int.reduceLT, Int.reduceEq, UInt8.reduceOfNat, hw, c, hfr, hto]
theorem ev_rbytes3_ft {tos id ttl pt at' : Int} {fr to op da : List UInt8} (hf : FitIp4 tos id ttl pt at' fr to op da) (hd : da.length ≤ 400000) :
    S.ev (n + 3) id_interpreterref03_Bytes [ip4LV tos id ttl pt at' false true fr to op da] none = some (.tup [.str (by4R tos id ttl pt at' false true fr to op da), .int .i64 (why4 tos id ttl pt at' true op da)], none) := by
  rw [Sys.step hS.h_interpreterref03_Bytes, F_interpreterref03_Bytes_eq]
  unfold F_interpreterref03_Bytes
  have hfr := hf.hfr
  have hto := hf.hto
  have hw := ev_Why3 hS (n) (tos := tos) (id := id) (ttl := ttl) (pt := pt) (at' := at') (df := false) (mo := true) hfr hto hf.hop hf.hda
  (try simp only [guard_merge, or_merge, and_merge, or_pick, and_pick, guard_or, guard_and]); simp only [to_ob]
  unfold by4R
  by_cases c : why4 tos id ttl pt at' true op da = 0
  · have ok := why4_zero.1 c
    obtain ⟨o1, o2, o3, o4, o5, o6, o7, o8, o9, o10⟩ := ok
    rw [c] at hw
    obtain ⟨tos, rfl⟩ := Int.eq_ofNat_of_zero_le o1.1
    obtain ⟨ttl, rfl⟩ := Int.eq_ofNat_of_zero_le o2.1
    obtain ⟨pt, rfl⟩ := Int.eq_ofNat_of_zero_le o3.1
    obtain ⟨id, rfl⟩ := Int.eq_ofNat_of_zero_le o4.1
    obtain ⟨at', rfl⟩ := Int.eq_ofNat_of_zero_le o5.1
    have e1 : IntKind.i64.wrap (Int.tdiv (at' : Int) 8) = ((at' / 8 : Nat) : Int) := by
      rw [show Int.tdiv (at' : Int) 8 = ((at' / 8 : Nat) : Int) from rfl, wrap_id (by omega) (by omega)]
    have e2 : IntKind.i64.wrap (20 + (op.length : Int)) = ((20 + op.length : Nat) : Int) := by rw [wrap_id (by omega) (by omega)]; omega
    have e3 : IntKind.i64.wrap (Int.tdiv ((20 + op.length : Nat) : Int) 4) = (((20 + op.length) / 4 : Nat) : Int) := by
      rw [show Int.tdiv ((20 + op.length : Nat) : Int) 4 = (((20 + op.length) / 4 : Nat) : Int) from rfl, wrap_id (by omega) (by omega)]
    have e4 : IntKind.i64.wrap (64 + (((20 + op.length) / 4 : Nat) : Int)) = ((64 + (20 + op.length) / 4 : Nat) : Int) := by rw [wrap_id (by omega) (by omega)]; omega
    have e5 : IntKind.i64.wrap (((20 + op.length : Nat) : Int) + (da.length : Int)) = ((20 + op.length + da.length : Nat) : Int) := by rw [wrap_id (by omega) (by omega)]; omega
    have d1 := div256 (x := 20 + op.length + da.length) (by omega)
    have d2 := div256 (x := id) (by omega)
    have f1 : IntKind.i64.wrap (((at' / 8 : Nat) : Int) + 8192) = ((at' / 8 + 8192 : Nat) : Int) := by rw [wrap_id (by omega) (by omega)]; omega
    have f2 : IntKind.i64.wrap (((at' / 8 : Nat) : Int) + 16384) = ((at' / 8 + 16384 : Nat) : Int) := by rw [wrap_id (by omega) (by omega)]; omega
    have f3 : IntKind.i64.wrap (((at' / 8 + 8192 : Nat) : Int) + 16384) = ((at' / 8 + 8192 + 16384 : Nat) : Int) := by rw [wrap_id (by omega) (by omega)]; omega
    have d3 := div256 (x := at' / 8) (by omega)
    have d4 := div256 (x := at' / 8 + 8192) (by omega)
    have d5 := div256 (x := at' / 8 + 16384) (by omega)
    have d6 := div256 (x := at' / 8 + 8192 + 16384) (by omega)
    have hx := sumS_le (hd4 tos id ttl pt at' false true op da ++ (fr ++ (to ++ op)))
    have hx : 0 ≤ x4 tos id ttl pt at' false true fr to op da ∧ x4 tos id ttl pt at' false true fr to op da ≤ 65535 := hx
    have hat4 : at4 at' false true = at' / 8 + 8192 := by unfold at4; rw [Int.toNat_natCast, if_neg Bool.false_ne_true, if_pos rfl]
    obtain ⟨A, hAA⟩ : ∃ A, A = at' / 8 + 8192 := ⟨_, rfl⟩
    rw [← hAA] at hat4
    simp only [← hAA] at e1 f1 f2 f3 d3 d4 d5 d6
    simp only [go_sem, ↓reduceIte, reduceCtorEq, upd_ne, back_new (no_at), Nat.reduceAdd, Nat.reduceEqDiff, Nat.reduceMul, Nat.reduceSub, Nat.reduceLeDiff, Nat.reduceLT, Int.reduceToNat, Int.reduceLE, Int.reduceLT, Int.reduceEq, UInt8.reduceOfNat, hw, c, hfr, hto, e1, e2, e3, e4, e5, f1, f2, f3, d1, d2, d4, mod256, u8w, u8_ofNat_mod, e_cBslM, u8_lt, UInt8.ofNat_toNat, cBytes_eq]
    generalize hH : ([UInt8.ofNat (64 + (20 + op.length) / 4), UInt8.ofNat tos, UInt8.ofNat ((20 + op.length + da.length) / 256), UInt8.ofNat (20 + op.length + da.length), UInt8.ofNat (id / 256), UInt8.ofNat id, UInt8.ofNat (A / 256), UInt8.ofNat A, UInt8.ofNat ttl, UInt8.ofNat pt, 0, 0] : List UInt8) = H
    have hHl : H.length = 12 := by rw [← hH]; rfl
    refine while_rule (fun k q => ∃ i : Nat, i + k = 4 ∧ q = ([.arr 70 (1 + i) [] 0 0 (12 + i), .int .i64 (i : Int)], upd noSlots 70 (.obj (1 + i) (.bytes (H ++ fr.take i))))) 4 ⟨0, rfl, by simp⟩ ?_
    rintro k q ⟨i, hi, rfl⟩
    simp only [go_sem, ↓reduceIte, reduceCtorEq, upd_ne, back_new (no_at), Nat.reduceAdd, Nat.reduceEqDiff, Nat.reduceMul, Nat.reduceSub, Nat.reduceLeDiff, Nat.reduceLT, Int.reduceToNat, Int.reduceLE, Int.reduceLT, Int.reduceEq, UInt8.reduceOfNat]
    refine nxt_ite (fun h => ?_) (fun h => ?_)
    · have hlt : i < fr.length := by omega
      obtain ⟨b, hb⟩ : ∃ b, fr[i]? = some b := ⟨fr[i], by simp [hlt]⟩
      have htk : fr.take (i + 1) = fr.take i ++ [b] := by rw [List.take_add_one, hb]; rfl
      have hlen : (H ++ fr.take i).length = 12 + i := by rw [List.length_append, List.length_take]; omega
      have hA := wApp_arr (d := 81) (t := 70) (g := 1 + i) (sl := noSlots) (b := H ++ fr.take i) (s := [b]) (by simp; omega)
      rw [hlen] at hA
      simp only [List.map_cons, List.map_nil, byteLV, List.length_cons, List.length_nil] at hA
      have i1 : IntKind.i64.wrap ((i : Int) + 1) = ((i + 1 : Nat) : Int) := by rw [wrap_id (by omega) (by omega)]; omega
      have i2 : i < 4 := by omega
      simp only [go_sem, ↓reduceIte, reduceCtorEq, upd_ne, back_new (no_at), Nat.reduceAdd, Nat.reduceEqDiff, Nat.reduceMul, Nat.reduceSub, Nat.reduceLeDiff, Nat.reduceLT, Int.reduceToNat, Int.reduceLE, Int.reduceLT, Int.reduceEq, UInt8.reduceOfNat, List.getElem?_map, Int.toNat_natCast, hfr, hb, byteLV, hA, i1, i2]
      refine ⟨k - 1, by omega, i + 1, by omega, ?_⟩
      rw [htk, ← List.append_assoc, show 1 + (i + 1) = 1 + i + 1 by omega, show 12 + (i + 1) = 12 + i + 1 by omega]
    · obtain rfl : i = 4 := by omega
      have hf4 : fr.take 4 = fr := List.take_of_length_le (by omega)
      rw [hf4]
      simp only [go_sem, ↓reduceIte, reduceCtorEq, upd_ne, back_new (no_at), Nat.reduceAdd, Nat.reduceEqDiff, Nat.reduceMul, Nat.reduceSub, Nat.reduceLeDiff, Nat.reduceLT, Int.reduceToNat, Int.reduceLE, Int.reduceLT, Int.reduceEq, UInt8.reduceOfNat, Nxt, exIf]
      refine while_rule (fun k q => ∃ i : Nat, i + k = 4 ∧ q = ([.arr 70 (5 + i) [] 0 0 (16 + i), .int .i64 (i : Int)], upd noSlots 70 (.obj (5 + i) (.bytes (H ++ fr ++ to.take i))))) 4 ⟨0, rfl, by simp⟩ ?_
      rintro k q ⟨i, hi, rfl⟩
      simp only [go_sem, ↓reduceIte, reduceCtorEq, upd_ne, back_new (no_at), Nat.reduceAdd, Nat.reduceEqDiff, Nat.reduceMul, Nat.reduceSub, Nat.reduceLeDiff, Nat.reduceLT, Int.reduceToNat, Int.reduceLE, Int.reduceLT, Int.reduceEq, UInt8.reduceOfNat]
      refine nxt_ite (fun h => ?_) (fun h => ?_)
      · have hlt : i < to.length := by omega
        obtain ⟨b, hb⟩ : ∃ b, to[i]? = some b := ⟨to[i], by simp [hlt]⟩
        have htk : to.take (i + 1) = to.take i ++ [b] := by rw [List.take_add_one, hb]; rfl
        have hlen : (H ++ fr ++ to.take i).length = 16 + i := by rw [List.length_append, List.length_append, List.length_take]; omega
        have hA := wApp_arr (d := 92) (t := 70) (g := 5 + i) (sl := noSlots) (b := H ++ fr ++ to.take i) (s := [b]) (by rw [hlen]; simp; omega)
        rw [hlen] at hA
        simp only [List.map_cons, List.map_nil, byteLV, List.length_cons, List.length_nil] at hA
        have i1 : IntKind.i64.wrap ((i : Int) + 1) = ((i + 1 : Nat) : Int) := by rw [wrap_id (by omega) (by omega)]; omega
        have i2 : i < 4 := by omega
        simp only [go_sem, ↓reduceIte, reduceCtorEq, upd_ne, back_new (no_at), Nat.reduceAdd, Nat.reduceEqDiff, Nat.reduceMul, Nat.reduceSub, Nat.reduceLeDiff, Nat.reduceLT, Int.reduceToNat, Int.reduceLE, Int.reduceLT, Int.reduceEq, UInt8.reduceOfNat, List.getElem?_map, Int.toNat_natCast, hto, hb, byteLV, hA, i1, i2]
        refine ⟨k - 1, by omega, i + 1, by omega, ?_⟩
        rw [htk, ← List.append_assoc, show 5 + (i + 1) = 5 + i + 1 by omega, show 16 + (i + 1) = 16 + i + 1 by omega]
      · obtain rfl : i = 4 := by omega
        have ht4 : to.take 4 = to := List.take_of_length_le (by omega)
        rw [ht4]
        have hHf : (H ++ fr ++ to).length = 20 := by simp; omega
        have hB := wApp_str (d := 96) (t := 70) (g := 9) (sl := noSlots) (b := H ++ fr ++ to) (s := op) (by omega)
        rw [hHf] at hB
        simp only [go_sem, ↓reduceIte, reduceCtorEq, upd_ne, back_new (no_at), Nat.reduceAdd, Nat.reduceEqDiff, Nat.reduceMul, Nat.reduceSub, Nat.reduceLeDiff, Nat.reduceLT, Int.reduceToNat, Int.reduceLE, Int.reduceLT, Int.reduceEq, UInt8.reduceOfNat, Nxt, exIf, hB]
        obtain ⟨z, hz⟩ := Int.eq_ofNat_of_zero_le hx.1
        have hL : (H ++ fr ++ to ++ op).length = 20 + op.length := by rw [List.length_append]; omega
        have hsum : sumAt 0 (H ++ fr ++ to ++ op) = sumAt 0 (hd4 tos id ttl pt at' false true op da ++ (fr ++ (to ++ op))) := by
          rw [← hH, show hd4 tos id ttl pt at' false true op da = [UInt8.ofNat (64 + (20 + op.length) / 4), UInt8.ofNat tos, UInt8.ofNat ((20 + op.length + da.length) / 256), UInt8.ofNat (20 + op.length + da.length), UInt8.ofNat (id / 256), UInt8.ofNat id, UInt8.ofNat (A / 256), UInt8.ofNat A, UInt8.ofNat ttl, UInt8.ofNat pt] by unfold hd4; rw [hat4]; simp only [beB1, beB2, Int.toNat_natCast, List.cons_append, List.nil_append]]
          have hsz := sum_zeros (h := [UInt8.ofNat (64 + (20 + op.length) / 4), UInt8.ofNat tos, UInt8.ofNat ((20 + op.length + da.length) / 256), UInt8.ofNat (20 + op.length + da.length), UInt8.ofNat (id / 256), UInt8.ofNat id, UInt8.ofNat (A / 256), UInt8.ofNat A, UInt8.ofNat ttl, UInt8.ofNat pt]) (r := fr ++ (to ++ op)) (by simp only [List.length_cons, List.length_nil])
          simp only [List.cons_append, List.nil_append, List.append_assoc] at hsz ⊢
          exact hsz
        have ho := ev_rOf hS n (H ++ fr ++ to ++ op) (by omega)
        have ho : S.ev (n + 2) id_interpreterref02_Of [.str (H ++ fr ++ to ++ op)] none = some (.int .i64 (z : Int), none) := by
          rw [ho, hsum, ← hz]; unfold x4 sumS; exact rfl
        have hby : by4 tos id ttl pt at' false true fr to op da = ((H ++ fr ++ to ++ op).set 10 (UInt8.ofNat (z / 256))).set 11 (UInt8.ofNat z) ++ da := by
          unfold by4
          rw [hz, ← hH, show hd4 tos id ttl pt at' false true op da = [UInt8.ofNat (64 + (20 + op.length) / 4), UInt8.ofNat tos, UInt8.ofNat ((20 + op.length + da.length) / 256), UInt8.ofNat (20 + op.length + da.length), UInt8.ofNat (id / 256), UInt8.ofNat id, UInt8.ofNat (A / 256), UInt8.ofNat A, UInt8.ofNat ttl, UInt8.ofNat pt] by unfold hd4; rw [hat4]; simp only [beB1, beB2, Int.toNat_natCast, List.cons_append, List.nil_append]]
          simp only [beB2, Int.toNat_natCast, List.cons_append, List.nil_append, List.append_assoc, List.set_cons_succ, List.set_cons_zero]
        have d7 := div256 (x := z) (by omega)
        rw [hby]
        generalize H ++ fr ++ to ++ op = B at *
        have g10 : B[10]? = some B[10] := List.getElem?_eq_getElem (by omega)
        have g11 : (B.set 10 (UInt8.ofNat (z / 256)))[11]? = some B[11] := by rw [List.getElem?_set_ne (by omega)]; exact List.getElem?_eq_getElem (by omega)
        generalize B[10] = b10 at *
        generalize B[11] = b11 at *
        have l1 : 10 < 20 + op.length := by omega
        have l2 : 11 < 20 + op.length := by omega
        have l3 : (((B.set 10 (UInt8.ofNat (z / 256))).set 11 (UInt8.ofNat z))).take (20 + op.length) = (B.set 10 (UInt8.ofNat (z / 256))).set 11 (UInt8.ofNat z) := List.take_of_length_le (by simp; omega)
        have l4 : B.take (20 + op.length) = B := List.take_of_length_le (by omega)
        have l5 : 20 + op.length + da.length ≤ maxStr := by unfold maxStr; omega
        simp only [go_sem, ↓reduceIte, reduceCtorEq, upd_ne, back_new (no_at), Nat.reduceAdd, Nat.reduceEqDiff, Nat.reduceMul, Nat.reduceSub, Nat.reduceLeDiff, Nat.reduceLT, Int.reduceToNat, Int.reduceLE, Int.reduceLT, Int.reduceEq, UInt8.reduceOfNat, List.getElem?_map, Int.toNat_natCast, ho, hL, g10, g11, l1, l2, l3, l4, l5, byteLV, d7, mod256, u8w, u8_ofNat_mod, u8_lt, UInt8.ofNat_toNat, Nat.le_refl]
  · simp only [go_sem, ↓reduceIte, reduceCtorEq, upd_ne, back_new (no_at), Nat.reduceAdd, Nat.reduceEqDiff, Nat.reduceMul, Nat.reduceSub, Nat.reduceLeDiff, Nat.reduceLT, Int.reduceToNat, Int.reduceLE, Int.reduceLT, Int.reduceEq, UInt8.reduceOfNat, hw, c, hfr, hto]
theorem ev_rbytes3_tf {tos id ttl pt at' : Int} {fr to op da : List UInt8} (hf : FitIp4 tos id ttl pt at' fr to op da) (hd : da.length ≤ 400000) :
    S.ev (n + 3) id_interpreterref03_Bytes [ip4LV tos id ttl pt at' true false fr to op da] none = some (.tup [.str (by4R tos id ttl pt at' true false fr to op da), .int .i64 (why4 tos id ttl pt at' false op da)], none) := by
  rw [Sys.step hS.h_interpreterref03_Bytes, F_interpreterref03_Bytes_eq]
  unfold F_interpreterref03_Bytes
  have hfr := hf.hfr
  have hto := hf.hto
  have hw := ev_Why3 hS (n) (tos := tos) (id := id) (ttl := ttl) (pt := pt) (at' := at') (df := true) (mo := false) hfr hto hf.hop hf.hda
  (try simp only [guard_merge, or_merge, and_merge, or_pick, and_pick, guard_or, guard_and]); simp only [to_ob]
  unfold by4R
  by_cases c : why4 tos id ttl pt at' false op da = 0
  · have ok := why4_zero.1 c
    obtain ⟨o1, o2, o3, o4, o5, o6, o7, o8, o9, o10⟩ := ok
    rw [c] at hw
    obtain ⟨tos, rfl⟩ := Int.eq_ofNat_of_zero_le o1.1
    obtain ⟨ttl, rfl⟩ := Int.eq_ofNat_of_zero_le o2.1
    obtain ⟨pt, rfl⟩ := Int.eq_ofNat_of_zero_le o3.1
    obtain ⟨id, rfl⟩ := Int.eq_ofNat_of_zero_le o4.1
    obtain ⟨at', rfl⟩ := Int.eq_ofNat_of_zero_le o5.1
    have e1 : IntKind.i64.wrap (Int.tdiv (at' : Int) 8) = ((at' / 8 : Nat) : Int) := by
      rw [show Int.tdiv (at' : Int) 8 = ((at' / 8 : Nat) : Int) from rfl, wrap_id (by omega) (by omega)]
    have e2 : IntKind.i64.wrap (20 + (op.length : Int)) = ((20 + op.length : Nat) : Int) := by rw [wrap_id (by omega) (by omega)]; omega
    have e3 : IntKind.i64.wrap (Int.tdiv ((20 + op.length : Nat) : Int) 4) = (((20 + op.length) / 4 : Nat) : Int) := by
      rw [show Int.tdiv ((20 + op.length : Nat) : Int) 4 = (((20 + op.length) / 4 : Nat) : Int) from rfl, wrap_id (by omega) (by omega)]
    have e4 : IntKind.i64.wrap (64 + (((20 + op.length) / 4 : Nat) : Int)) = ((64 + (20 + op.length) / 4 : Nat) : Int) := by rw [wrap_id (by omega) (by omega)]; omega
    have e5 : IntKind.i64.wrap (((20 + op.length : Nat) : Int) + (da.length : Int)) = ((20 + op.length + da.length : Nat) : Int) := by rw [wrap_id (by omega) (by omega)]; omega
    have d1 := div256 (x := 20 + op.length + da.length) (by omega)
    have d2 := div256 (x := id) (by omega)
    have f1 : IntKind.i64.wrap (((at' / 8 : Nat) : Int) + 8192) = ((at' / 8 + 8192 : Nat) : Int) := by rw [wrap_id (by omega) (by omega)]; omega
    have f2 : IntKind.i64.wrap (((at' / 8 : Nat) : Int) + 16384) = ((at' / 8 + 16384 : Nat) : Int) := by rw [wrap_id (by omega) (by omega)]; omega
    have f3 : IntKind.i64.wrap (((at' / 8 + 8192 : Nat) : Int) + 16384) = ((at' / 8 + 8192 + 16384 : Nat) : Int) := by rw [wrap_id (by omega) (by omega)]; omega
    have d3 := div256 (x := at' / 8) (by omega)
    have d4 := div256 (x := at' / 8 + 8192) (by omega)
    have d5 := div256 (x := at' / 8 + 16384) (by omega)
    have d6 := div256 (x := at' / 8 + 8192 + 16384) (by omega)
    have hx := sumS_le (hd4 tos id ttl pt at' true false op da ++ (fr ++ (to ++ op)))
    have hx : 0 ≤ x4 tos id ttl pt at' true false fr to op da ∧ x4 tos id ttl pt at' true false fr to op da ≤ 65535 := hx
    have hat4 : at4 at' true false = at' / 8 + 16384 := by unfold at4; rw [Int.toNat_natCast, if_pos rfl, if_neg Bool.false_ne_true]
    obtain ⟨A, hAA⟩ : ∃ A, A = at' / 8 + 16384 := ⟨_, rfl⟩
    rw [← hAA] at hat4
    simp only [← hAA] at e1 f1 f2 f3 d3 d4 d5 d6
    simp only [go_sem, ↓reduceIte, reduceCtorEq, upd_ne, back_new (no_at), Nat.reduceAdd, Nat.reduceEqDiff, Nat.reduceMul, Nat.reduceSub, Nat.reduceLeDiff, Nat.reduceLT, Int.reduceToNat, Int.reduceLE, Int.reduceLT, Int.reduceEq, UInt8.reduceOfNat, hw, c, hfr, hto, e1, e2, e3, e4, e5, f1, f2, f3, d1, d2, d5, mod256, u8w, u8_ofNat_mod, e_cBslM, u8_lt, UInt8.ofNat_toNat, cBytes_eq]
    generalize hH : ([UInt8.ofNat (64 + (20 + op.length) / 4), UInt8.ofNat tos, UInt8.ofNat ((20 + op.length + da.length) / 256), UInt8.ofNat (20 + op.length + da.length), UInt8.ofNat (id / 256), UInt8.ofNat id, UInt8.ofNat (A / 256), UInt8.ofNat A, UInt8.ofNat ttl, UInt8.ofNat pt, 0, 0] : List UInt8) = H
    have hHl : H.length = 12 := by rw [← hH]; rfl
    refine while_rule (fun k q => ∃ i : Nat, i + k = 4 ∧ q = ([.arr 70 (1 + i) [] 0 0 (12 + i), .int .i64 (i : Int)], upd noSlots 70 (.obj (1 + i) (.bytes (H ++ fr.take i))))) 4 ⟨0, rfl, by simp⟩ ?_
    rintro k q ⟨i, hi, rfl⟩
    simp only [go_sem, ↓reduceIte, reduceCtorEq, upd_ne, back_new (no_at), Nat.reduceAdd, Nat.reduceEqDiff, Nat.reduceMul, Nat.reduceSub, Nat.reduceLeDiff, Nat.reduceLT, Int.reduceToNat, Int.reduceLE, Int.reduceLT, Int.reduceEq, UInt8.reduceOfNat]
    refine nxt_ite (fun h => ?_) (fun h => ?_)
    · have hlt : i < fr.length := by omega
      obtain ⟨b, hb⟩ : ∃ b, fr[i]? = some b := ⟨fr[i], by simp [hlt]⟩
      have htk : fr.take (i + 1) = fr.take i ++ [b] := by rw [List.take_add_one, hb]; rfl
      have hlen : (H ++ fr.take i).length = 12 + i := by rw [List.length_append, List.length_take]; omega
      have hA := wApp_arr (d := 81) (t := 70) (g := 1 + i) (sl := noSlots) (b := H ++ fr.take i) (s := [b]) (by simp; omega)
      rw [hlen] at hA
      simp only [List.map_cons, List.map_nil, byteLV, List.length_cons, List.length_nil] at hA
      have i1 : IntKind.i64.wrap ((i : Int) + 1) = ((i + 1 : Nat) : Int) := by rw [wrap_id (by omega) (by omega)]; omega
      have i2 : i < 4 := by omega
      simp only [go_sem, ↓reduceIte, reduceCtorEq, upd_ne, back_new (no_at), Nat.reduceAdd, Nat.reduceEqDiff, Nat.reduceMul, Nat.reduceSub, Nat.reduceLeDiff, Nat.reduceLT, Int.reduceToNat, Int.reduceLE, Int.reduceLT, Int.reduceEq, UInt8.reduceOfNat, List.getElem?_map, Int.toNat_natCast, hfr, hb, byteLV, hA, i1, i2]
      refine ⟨k - 1, by omega, i + 1, by omega, ?_⟩
      rw [htk, ← List.append_assoc, show 1 + (i + 1) = 1 + i + 1 by omega, show 12 + (i + 1) = 12 + i + 1 by omega]
    · obtain rfl : i = 4 := by omega
      have hf4 : fr.take 4 = fr := List.take_of_length_le (by omega)
      rw [hf4]
      simp only [go_sem, ↓reduceIte, reduceCtorEq, upd_ne, back_new (no_at), Nat.reduceAdd, Nat.reduceEqDiff, Nat.reduceMul, Nat.reduceSub, Nat.reduceLeDiff, Nat.reduceLT, Int.reduceToNat, Int.reduceLE, Int.reduceLT, Int.reduceEq, UInt8.reduceOfNat, Nxt, exIf]
      refine while_rule (fun k q => ∃ i : Nat, i + k = 4 ∧ q = ([.arr 70 (5 + i) [] 0 0 (16 + i), .int .i64 (i : Int)], upd noSlots 70 (.obj (5 + i) (.bytes (H ++ fr ++ to.take i))))) 4 ⟨0, rfl, by simp⟩ ?_
      rintro k q ⟨i, hi, rfl⟩
      simp only [go_sem, ↓reduceIte, reduceCtorEq, upd_ne, back_new (no_at), Nat.reduceAdd, Nat.reduceEqDiff, Nat.reduceMul, Nat.reduceSub, Nat.reduceLeDiff, Nat.reduceLT, Int.reduceToNat, Int.reduceLE, Int.reduceLT, Int.reduceEq, UInt8.reduceOfNat]
      refine nxt_ite (fun h => ?_) (fun h => ?_)
      · have hlt : i < to.length := by omega
        obtain ⟨b, hb⟩ : ∃ b, to[i]? = some b := ⟨to[i], by simp [hlt]⟩
        have htk : to.take (i + 1) = to.take i ++ [b] := by rw [List.take_add_one, hb]; rfl
        have hlen : (H ++ fr ++ to.take i).length = 16 + i := by rw [List.length_append, List.length_append, List.length_take]; omega
        have hA := wApp_arr (d := 92) (t := 70) (g := 5 + i) (sl := noSlots) (b := H ++ fr ++ to.take i) (s := [b]) (by rw [hlen]; simp; omega)
        rw [hlen] at hA
        simp only [List.map_cons, List.map_nil, byteLV, List.length_cons, List.length_nil] at hA
        have i1 : IntKind.i64.wrap ((i : Int) + 1) = ((i + 1 : Nat) : Int) := by rw [wrap_id (by omega) (by omega)]; omega
        have i2 : i < 4 := by omega
        simp only [go_sem, ↓reduceIte, reduceCtorEq, upd_ne, back_new (no_at), Nat.reduceAdd, Nat.reduceEqDiff, Nat.reduceMul, Nat.reduceSub, Nat.reduceLeDiff, Nat.reduceLT, Int.reduceToNat, Int.reduceLE, Int.reduceLT, Int.reduceEq, UInt8.reduceOfNat, List.getElem?_map, Int.toNat_natCast, hto, hb, byteLV, hA, i1, i2]
        refine ⟨k - 1, by omega, i + 1, by omega, ?_⟩
        rw [htk, ← List.append_assoc, show 5 + (i + 1) = 5 + i + 1 by omega, show 16 + (i + 1) = 16 + i + 1 by omega]
      · obtain rfl : i = 4 := by omega
        have ht4 : to.take 4 = to := List.take_of_length_le (by omega)
        rw [ht4]
        have hHf : (H ++ fr ++ to).length = 20 := by simp; omega
        have hB := wApp_str (d := 96) (t := 70) (g := 9) (sl := noSlots) (b := H ++ fr ++ to) (s := op) (by omega)
        rw [hHf] at hB
        simp only [go_sem, ↓reduceIte, reduceCtorEq, upd_ne, back_new (no_at), Nat.reduceAdd, Nat.reduceEqDiff, Nat.reduceMul, Nat.reduceSub, Nat.reduceLeDiff, Nat.reduceLT, Int.reduceToNat, Int.reduceLE, Int.reduceLT, Int.reduceEq, UInt8.reduceOfNat, Nxt, exIf, hB]
        obtain ⟨z, hz⟩ := Int.eq_ofNat_of_zero_le hx.1
        have hL : (H ++ fr ++ to ++ op).length = 20 + op.length := by rw [List.length_append]; omega
        have hsum : sumAt 0 (H ++ fr ++ to ++ op) = sumAt 0 (hd4 tos id ttl pt at' true false op da ++ (fr ++ (to ++ op))) := by
          rw [← hH, show hd4 tos id ttl pt at' true false op da = [UInt8.ofNat (64 + (20 + op.length) / 4), UInt8.ofNat tos, UInt8.ofNat ((20 + op.length + da.length) / 256), UInt8.ofNat (20 + op.length + da.length), UInt8.ofNat (id / 256), UInt8.ofNat id, UInt8.ofNat (A / 256), UInt8.ofNat A, UInt8.ofNat ttl, UInt8.ofNat pt] by unfold hd4; rw [hat4]; simp only [beB1, beB2, Int.toNat_natCast, List.cons_append, List.nil_append]]
          have hsz := sum_zeros (h := [UInt8.ofNat (64 + (20 + op.length) / 4), UInt8.ofNat tos, UInt8.ofNat ((20 + op.length + da.length) / 256), UInt8.ofNat (20 + op.length + da.length), UInt8.ofNat (id / 256), UInt8.ofNat id, UInt8.ofNat (A / 256), UInt8.ofNat A, UInt8.ofNat ttl, UInt8.ofNat pt]) (r := fr ++ (to ++ op)) (by simp only [List.length_cons, List.length_nil])
          simp only [List.cons_append, List.nil_append, List.append_assoc] at hsz ⊢
          exact hsz
        have ho := ev_rOf hS n (H ++ fr ++ to ++ op) (by omega)
        have ho : S.ev (n + 2) id_interpreterref02_Of [.str (H ++ fr ++ to ++ op)] none = some (.int .i64 (z : Int), none) := by
          rw [ho, hsum, ← hz]; unfold x4 sumS; exact rfl
        have hby : by4 tos id ttl pt at' true false fr to op da = ((H ++ fr ++ to ++ op).set 10 (UInt8.ofNat (z / 256))).set 11 (UInt8.ofNat z) ++ da := by
          unfold by4
          rw [hz, ← hH, show hd4 tos id ttl pt at' true false op da = [UInt8.ofNat (64 + (20 + op.length) / 4), UInt8.ofNat tos, UInt8.ofNat ((20 + op.length + da.length) / 256), UInt8.ofNat (20 + op.length + da.length), UInt8.ofNat (id / 256), UInt8.ofNat id, UInt8.ofNat (A / 256), UInt8.ofNat A, UInt8.ofNat ttl, UInt8.ofNat pt] by unfold hd4; rw [hat4]; simp only [beB1, beB2, Int.toNat_natCast, List.cons_append, List.nil_append]]
          simp only [beB2, Int.toNat_natCast, List.cons_append, List.nil_append, List.append_assoc, List.set_cons_succ, List.set_cons_zero]
        have d7 := div256 (x := z) (by omega)
        rw [hby]
        generalize H ++ fr ++ to ++ op = B at *
        have g10 : B[10]? = some B[10] := List.getElem?_eq_getElem (by omega)
        have g11 : (B.set 10 (UInt8.ofNat (z / 256)))[11]? = some B[11] := by rw [List.getElem?_set_ne (by omega)]; exact List.getElem?_eq_getElem (by omega)
        generalize B[10] = b10 at *
        generalize B[11] = b11 at *
        have l1 : 10 < 20 + op.length := by omega
        have l2 : 11 < 20 + op.length := by omega
        have l3 : (((B.set 10 (UInt8.ofNat (z / 256))).set 11 (UInt8.ofNat z))).take (20 + op.length) = (B.set 10 (UInt8.ofNat (z / 256))).set 11 (UInt8.ofNat z) := List.take_of_length_le (by simp; omega)
        have l4 : B.take (20 + op.length) = B := List.take_of_length_le (by omega)
        have l5 : 20 + op.length + da.length ≤ maxStr := by unfold maxStr; omega
        simp only [go_sem, ↓reduceIte, reduceCtorEq, upd_ne, back_new (no_at), Nat.reduceAdd, Nat.reduceEqDiff, Nat.reduceMul, Nat.reduceSub, Nat.reduceLeDiff, Nat.reduceLT, Int.reduceToNat, Int.reduceLE, Int.reduceLT, Int.reduceEq, UInt8.reduceOfNat, List.getElem?_map, Int.toNat_natCast, ho, hL, g10, g11, l1, l2, l3, l4, l5, byteLV, d7, mod256, u8w, u8_ofNat_mod, u8_lt, UInt8.ofNat_toNat, Nat.le_refl]
  · simp only [go_sem, ↓reduceIte, reduceCtorEq, upd_ne, back_new (no_at), Nat.reduceAdd, Nat.reduceEqDiff, Nat.reduceMul, Nat.reduceSub, Nat.reduceLeDiff, Nat.reduceLT, Int.reduceToNat, Int.reduceLE, Int.reduceLT, Int.reduceEq, UInt8.reduceOfNat, hw, c, hfr, hto]
theorem ev_rbytes3_tt {tos id ttl pt at' : Int} {fr to op da : List UInt8} (hf : FitIp4 tos id ttl pt at' fr to op da) (hd : da.length ≤ 400000) :
    S.ev (n + 3) id_interpreterref03_Bytes [ip4LV tos id ttl pt at' true true fr to op da] none = some (.tup [.str (by4R tos id ttl pt at' true true fr to op da), .int .i64 (why4 tos id ttl pt at' true op da)], none) := by
  rw [Sys.step hS.h_interpreterref03_Bytes, F_interpreterref03_Bytes_eq]
  unfold F_interpreterref03_Bytes
  have hfr := hf.hfr
  have hto := hf.hto
  have hw := ev_Why3 hS (n) (tos := tos) (id := id) (ttl := ttl) (pt := pt) (at' := at') (df := true) (mo := true) hfr hto hf.hop hf.hda
  (try simp only [guard_merge, or_merge, and_merge, or_pick, and_pick, guard_or, guard_and]); simp only [to_ob]
  unfold by4R
  by_cases c : why4 tos id ttl pt at' true op da = 0
  · have ok := why4_zero.1 c
    obtain ⟨o1, o2, o3, o4, o5, o6, o7, o8, o9, o10⟩ := ok
    rw [c] at hw
    obtain ⟨tos, rfl⟩ := Int.eq_ofNat_of_zero_le o1.1
    obtain ⟨ttl, rfl⟩ := Int.eq_ofNat_of_zero_le o2.1
    obtain ⟨pt, rfl⟩ := Int.eq_ofNat_of_zero_le o3.1
    obtain ⟨id, rfl⟩ := Int.eq_ofNat_of_zero_le o4.1
    obtain ⟨at', rfl⟩ := Int.eq_ofNat_of_zero_le o5.1
    have e1 : IntKind.i64.wrap (Int.tdiv (at' : Int) 8) = ((at' / 8 : Nat) : Int) := by
      rw [show Int.tdiv (at' : Int) 8 = ((at' / 8 : Nat) : Int) from rfl, wrap_id (by omega) (by omega)]
    have e2 : IntKind.i64.wrap (20 + (op.length : Int)) = ((20 + op.length : Nat) : Int) := by rw [wrap_id (by omega) (by omega)]; omega
    have e3 : IntKind.i64.wrap (Int.tdiv ((20 + op.length : Nat) : Int) 4) = (((20 + op.length) / 4 : Nat) : Int) := by
      rw [show Int.tdiv ((20 + op.length : Nat) : Int) 4 = (((20 + op.length) / 4 : Nat) : Int) from rfl, wrap_id (by omega) (by omega)]
    have e4 : IntKind.i64.wrap (64 + (((20 + op.length) / 4 : Nat) : Int)) = ((64 + (20 + op.length) / 4 : Nat) : Int) := by rw [wrap_id (by omega) (by omega)]; omega
    have e5 : IntKind.i64.wrap (((20 + op.length : Nat) : Int) + (da.length : Int)) = ((20 + op.length + da.length : Nat) : Int) := by rw [wrap_id (by omega) (by omega)]; omega
    have d1 := div256 (x := 20 + op.length + da.length) (by omega)
    have d2 := div256 (x := id) (by omega)
    have f1 : IntKind.i64.wrap (((at' / 8 : Nat) : Int) + 8192) = ((at' / 8 + 8192 : Nat) : Int) := by rw [wrap_id (by omega) (by omega)]; omega
    have f2 : IntKind.i64.wrap (((at' / 8 : Nat) : Int) + 16384) = ((at' / 8 + 16384 : Nat) : Int) := by rw [wrap_id (by omega) (by omega)]; omega
    have f3 : IntKind.i64.wrap (((at' / 8 + 8192 : Nat) : Int) + 16384) = ((at' / 8 + 8192 + 16384 : Nat) : Int) := by rw [wrap_id (by omega) (by omega)]; omega
    have d3 := div256 (x := at' / 8) (by omega)
    have d4 := div256 (x := at' / 8 + 8192) (by omega)
    have d5 := div256 (x := at' / 8 + 16384) (by omega)
    have d6 := div256 (x := at' / 8 + 8192 + 16384) (by omega)
    have hx := sumS_le (hd4 tos id ttl pt at' true true op da ++ (fr ++ (to ++ op)))
    have hx : 0 ≤ x4 tos id ttl pt at' true true fr to op da ∧ x4 tos id ttl pt at' true true fr to op da ≤ 65535 := hx
    have hat4 : at4 at' true true = at' / 8 + 8192 + 16384 := by unfold at4; rw [Int.toNat_natCast, if_pos rfl, if_pos rfl]
    obtain ⟨A, hAA⟩ : ∃ A, A = at' / 8 + 8192 + 16384 := ⟨_, rfl⟩
    rw [← hAA] at hat4
    simp only [← hAA] at e1 f1 f2 f3 d3 d4 d5 d6
    simp only [go_sem, ↓reduceIte, reduceCtorEq, upd_ne, back_new (no_at), Nat.reduceAdd, Nat.reduceEqDiff, Nat.reduceMul, Nat.reduceSub, Nat.reduceLeDiff, Nat.reduceLT, Int.reduceToNat, Int.reduceLE, Int.reduceLT, Int.reduceEq, UInt8.reduceOfNat, hw, c, hfr, hto, e1, e2, e3, e4, e5, f1, f2, f3, d1, d2, d6, mod256, u8w, u8_ofNat_mod, e_cBslM, u8_lt, UInt8.ofNat_toNat, cBytes_eq]
    generalize hH : ([UInt8.ofNat (64 + (20 + op.length) / 4), UInt8.ofNat tos, UInt8.ofNat ((20 + op.length + da.length) / 256), UInt8.ofNat (20 + op.length + da.length), UInt8.ofNat (id / 256), UInt8.ofNat id, UInt8.ofNat (A / 256), UInt8.ofNat A, UInt8.ofNat ttl, UInt8.ofNat pt, 0, 0] : List UInt8) = H
    have hHl : H.length = 12 := by rw [← hH]; rfl
    refine while_rule (fun k q => ∃ i : Nat, i + k = 4 ∧ q = ([.arr 70 (1 + i) [] 0 0 (12 + i), .int .i64 (i : Int)], upd noSlots 70 (.obj (1 + i) (.bytes (H ++ fr.take i))))) 4 ⟨0, rfl, by simp⟩ ?_
    rintro k q ⟨i, hi, rfl⟩
    simp only [go_sem, ↓reduceIte, reduceCtorEq, upd_ne, back_new (no_at), Nat.reduceAdd, Nat.reduceEqDiff, Nat.reduceMul, Nat.reduceSub, Nat.reduceLeDiff, Nat.reduceLT, Int.reduceToNat, Int.reduceLE, Int.reduceLT, Int.reduceEq, UInt8.reduceOfNat]
    refine nxt_ite (fun h => ?_) (fun h => ?_)
    · have hlt : i < fr.length := by omega
      obtain ⟨b, hb⟩ : ∃ b, fr[i]? = some b := ⟨fr[i], by simp [hlt]⟩
      have htk : fr.take (i + 1) = fr.take i ++ [b] := by rw [List.take_add_one, hb]; rfl
      have hlen : (H ++ fr.take i).length = 12 + i := by rw [List.length_append, List.length_take]; omega
      have hA := wApp_arr (d := 81) (t := 70) (g := 1 + i) (sl := noSlots) (b := H ++ fr.take i) (s := [b]) (by simp; omega)
      rw [hlen] at hA
      simp only [List.map_cons, List.map_nil, byteLV, List.length_cons, List.length_nil] at hA
      have i1 : IntKind.i64.wrap ((i : Int) + 1) = ((i + 1 : Nat) : Int) := by rw [wrap_id (by omega) (by omega)]; omega
      have i2 : i < 4 := by omega
      simp only [go_sem, ↓reduceIte, reduceCtorEq, upd_ne, back_new (no_at), Nat.reduceAdd, Nat.reduceEqDiff, Nat.reduceMul, Nat.reduceSub, Nat.reduceLeDiff, Nat.reduceLT, Int.reduceToNat, Int.reduceLE, Int.reduceLT, Int.reduceEq, UInt8.reduceOfNat, List.getElem?_map, Int.toNat_natCast, hfr, hb, byteLV, hA, i1, i2]
      refine ⟨k - 1, by omega, i + 1, by omega, ?_⟩
      rw [htk, ← List.append_assoc, show 1 + (i + 1) = 1 + i + 1 by omega, show 12 + (i + 1) = 12 + i + 1 by omega]
    · obtain rfl : i = 4 := by omega
      have hf4 : fr.take 4 = fr := List.take_of_length_le (by omega)
      rw [hf4]
      simp only [go_sem, ↓reduceIte, reduceCtorEq, upd_ne, back_new (no_at), Nat.reduceAdd, Nat.reduceEqDiff, Nat.reduceMul, Nat.reduceSub, Nat.reduceLeDiff, Nat.reduceLT, Int.reduceToNat, Int.reduceLE, Int.reduceLT, Int.reduceEq, UInt8.reduceOfNat, Nxt, exIf]
      refine while_rule (fun k q => ∃ i : Nat, i + k = 4 ∧ q = ([.arr 70 (5 + i) [] 0 0 (16 + i), .int .i64 (i : Int)], upd noSlots 70 (.obj (5 + i) (.bytes (H ++ fr ++ to.take i))))) 4 ⟨0, rfl, by simp⟩ ?_
      rintro k q ⟨i, hi, rfl⟩
      simp only [go_sem, ↓reduceIte, reduceCtorEq, upd_ne, back_new (no_at), Nat.reduceAdd, Nat.reduceEqDiff, Nat.reduceMul, Nat.reduceSub, Nat.reduceLeDiff, Nat.reduceLT, Int.reduceToNat, Int.reduceLE, Int.reduceLT, Int.reduceEq, UInt8.reduceOfNat]
      refine nxt_ite (fun h => ?_) (fun h => ?_)
      · have hlt : i < to.length := by omega
        obtain ⟨b, hb⟩ : ∃ b, to[i]? = some b := ⟨to[i], by simp [hlt]⟩
        have htk : to.take (i + 1) = to.take i ++ [b] := by rw [List.take_add_one, hb]; rfl
        have hlen : (H ++ fr ++ to.take i).length = 16 + i := by rw [List.length_append, List.length_append, List.length_take]; omega
        have hA := wApp_arr (d := 92) (t := 70) (g := 5 + i) (sl := noSlots) (b := H ++ fr ++ to.take i) (s := [b]) (by rw [hlen]; simp; omega)
        rw [hlen] at hA
        simp only [List.map_cons, List.map_nil, byteLV, List.length_cons, List.length_nil] at hA
        have i1 : IntKind.i64.wrap ((i : Int) + 1) = ((i + 1 : Nat) : Int) := by rw [wrap_id (by omega) (by omega)]; omega
        have i2 : i < 4 := by omega
        simp only [go_sem, ↓reduceIte, reduceCtorEq, upd_ne, back_new (no_at), Nat.reduceAdd, Nat.reduceEqDiff, Nat.reduceMul, Nat.reduceSub, Nat.reduceLeDiff, Nat.reduceLT, Int.reduceToNat, Int.reduceLE, Int.reduceLT, Int.reduceEq, UInt8.reduceOfNat, List.getElem?_map, Int.toNat_natCast, hto, hb, byteLV, hA, i1, i2]
        refine ⟨k - 1, by omega, i + 1, by omega, ?_⟩
        rw [htk, ← List.append_assoc, show 5 + (i + 1) = 5 + i + 1 by omega, show 16 + (i + 1) = 16 + i + 1 by omega]
      · obtain rfl : i = 4 := by omega
        have ht4 : to.take 4 = to := List.take_of_length_le (by omega)
        rw [ht4]
        have hHf : (H ++ fr ++ to).length = 20 := by simp; omega
        have hB := wApp_str (d := 96) (t := 70) (g := 9) (sl := noSlots) (b := H ++ fr ++ to) (s := op) (by omega)
        rw [hHf] at hB
        simp only [go_sem, ↓reduceIte, reduceCtorEq, upd_ne, back_new (no_at), Nat.reduceAdd, Nat.reduceEqDiff, Nat.reduceMul, Nat.reduceSub, Nat.reduceLeDiff, Nat.reduceLT, Int.reduceToNat, Int.reduceLE, Int.reduceLT, Int.reduceEq, UInt8.reduceOfNat, Nxt, exIf, hB]
        obtain ⟨z, hz⟩ := Int.eq_ofNat_of_zero_le hx.1
        have hL : (H ++ fr ++ to ++ op).length = 20 + op.length := by rw [List.length_append]; omega
        have hsum : sumAt 0 (H ++ fr ++ to ++ op) = sumAt 0 (hd4 tos id ttl pt at' true true op da ++ (fr ++ (to ++ op))) := by
          rw [← hH, show hd4 tos id ttl pt at' true true op da = [UInt8.ofNat (64 + (20 + op.length) / 4), UInt8.ofNat tos, UInt8.ofNat ((20 + op.length + da.length) / 256), UInt8.ofNat (20 + op.length + da.length), UInt8.ofNat (id / 256), UInt8.ofNat id, UInt8.ofNat (A / 256), UInt8.ofNat A, UInt8.ofNat ttl, UInt8.ofNat pt] by unfold hd4; rw [hat4]; simp only [beB1, beB2, Int.toNat_natCast, List.cons_append, List.nil_append]]
          have hsz := sum_zeros (h := [UInt8.ofNat (64 + (20 + op.length) / 4), UInt8.ofNat tos, UInt8.ofNat ((20 + op.length + da.length) / 256), UInt8.ofNat (20 + op.length + da.length), UInt8.ofNat (id / 256), UInt8.ofNat id, UInt8.ofNat (A / 256), UInt8.ofNat A, UInt8.ofNat ttl, UInt8.ofNat pt]) (r := fr ++ (to ++ op)) (by simp only [List.length_cons, List.length_nil])
          simp only [List.cons_append, List.nil_append, List.append_assoc] at hsz ⊢
          exact hsz
        have ho := ev_rOf hS n (H ++ fr ++ to ++ op) (by omega)
        have ho : S.ev (n + 2) id_interpreterref02_Of [.str (H ++ fr ++ to ++ op)] none = some (.int .i64 (z : Int), none) := by
          rw [ho, hsum, ← hz]; unfold x4 sumS; exact rfl
        have hby : by4 tos id ttl pt at' true true fr to op da = ((H ++ fr ++ to ++ op).set 10 (UInt8.ofNat (z / 256))).set 11 (UInt8.ofNat z) ++ da := by
          unfold by4
          rw [hz, ← hH, show hd4 tos id ttl pt at' true true op da = [UInt8.ofNat (64 + (20 + op.length) / 4), UInt8.ofNat tos, UInt8.ofNat ((20 + op.length + da.length) / 256), UInt8.ofNat (20 + op.length + da.length), UInt8.ofNat (id / 256), UInt8.ofNat id, UInt8.ofNat (A / 256), UInt8.ofNat A, UInt8.ofNat ttl, UInt8.ofNat pt] by unfold hd4; rw [hat4]; simp only [beB1, beB2, Int.toNat_natCast, List.cons_append, List.nil_append]]
          simp only [beB2, Int.toNat_natCast, List.cons_append, List.nil_append, List.append_assoc, List.set_cons_succ, List.set_cons_zero]
        have d7 := div256 (x := z) (by omega)
        rw [hby]
        generalize H ++ fr ++ to ++ op = B at *
        have g10 : B[10]? = some B[10] := List.getElem?_eq_getElem (by omega)
        have g11 : (B.set 10 (UInt8.ofNat (z / 256)))[11]? = some B[11] := by rw [List.getElem?_set_ne (by omega)]; exact List.getElem?_eq_getElem (by omega)
        generalize B[10] = b10 at *
        generalize B[11] = b11 at *
        have l1 : 10 < 20 + op.length := by omega
        have l2 : 11 < 20 + op.length := by omega
        have l3 : (((B.set 10 (UInt8.ofNat (z / 256))).set 11 (UInt8.ofNat z))).take (20 + op.length) = (B.set 10 (UInt8.ofNat (z / 256))).set 11 (UInt8.ofNat z) := List.take_of_length_le (by simp; omega)
        have l4 : B.take (20 + op.length) = B := List.take_of_length_le (by omega)
        have l5 : 20 + op.length + da.length ≤ maxStr := by unfold maxStr; omega
        simp only [go_sem, ↓reduceIte, reduceCtorEq, upd_ne, back_new (no_at), Nat.reduceAdd, Nat.reduceEqDiff, Nat.reduceMul, Nat.reduceSub, Nat.reduceLeDiff, Nat.reduceLT, Int.reduceToNat, Int.reduceLE, Int.reduceLT, Int.reduceEq, UInt8.reduceOfNat, List.getElem?_map, Int.toNat_natCast, ho, hL, g10, g11, l1, l2, l3, l4, l5, byteLV, d7, mod256, u8w, u8_ofNat_mod, u8_lt, UInt8.ofNat_toNat, Nat.le_refl]
  · simp only [go_sem, ↓reduceIte, reduceCtorEq, upd_ne, back_new (no_at), Nat.reduceAdd, Nat.reduceEqDiff, Nat.reduceMul, Nat.reduceSub, Nat.reduceLeDiff, Nat.reduceLT, Int.reduceToNat, Int.reduceLE, Int.reduceLT, Int.reduceEq, UInt8.reduceOfNat, hw, c, hfr, hto]
theorem ev_rbytes3 {tos id ttl pt at' : Int} {df mo : Bool} {fr to op da : List UInt8} (hf : FitIp4 tos id ttl pt at' fr to op da) (hd : da.length ≤ 400000) :
    S.ev (n + 3) id_interpreterref03_Bytes [ip4LV tos id ttl pt at' df mo fr to op da] none = some (.tup [.str (by4R tos id ttl pt at' df mo fr to op da), .int .i64 (why4 tos id ttl pt at' mo op da)], none) := by
  cases df
  · cases mo
    · exact ev_rbytes3_ff hS n hf hd
    · exact ev_rbytes3_ft hS n hf hd
  · cases mo
    · exact ev_rbytes3_tf hS n hf hd
    · exact ev_rbytes3_tt hS n hf hd
end
end Go.Ev

namespace Go.Ev
set_option linter.unusedSimpArgs false
set_option linter.unusedVariables false
set_option maxRecDepth 10000
set_option maxHeartbeats 8000000
theorem upF_take {d : List UInt8} {i : Nat} {o w : List UInt8} {none : Bool} (h : 4 ≤ i) : (upF d i o w none).take 4 = d.take 4 := by
  unfold upF
  split
  · rfl
  · split
    · rfl
    · rw [List.take_append_of_le_length (by rw [List.length_take]; omega), List.take_take, Nat.min_eq_left h]
theorem poF_ports {udp : Bool} {d o w : List UInt8} {p q : Nat} (h : 4 ≤ d.length) : (poF udp d o w p q).take 4 = beB 2 p ++ beB 2 q := by
  have hx : (beB 2 p ++ (beB 2 q ++ d.drop 4)).take 4 = beB 2 p ++ beB 2 q := by simp [beB2]
  unfold poF
  rw [if_neg (by omega)]
  split
  · rw [upF_take (by omega), hx]
  · rw [upF_take (by omega), hx]
section
variable {S : Sys} (hS : Has S) (n : Nat)
include hS
theorem ev_awake15 : S.ev (n + 7) id_interpreterlaw15_awake [] none = some (.bool true, none) := by
  rw [Sys.step hS.h_interpreterlaw15_awake, F_interpreterlaw15_awake_eq]
  unfold F_interpreterlaw15_awake
  have h1 : S.ev (n + 6) id_interpreterlaw15_gram [.int .i64 600] none = _ := ev_gram hS (n + 4) 600 (by omega)
  have h0 : S.ev (n + 6) id_interpreterlaw15_gram [.int .i64 0] none = _ := ev_gram hS (n + 4) 0 (by omega)
  have ok := g_ok (k := 600) (by omega)
  have h2 := ev_rbytes3 hS (n + 3) (df := false) (mo := false) (g_fit (k := 600) (by omega)) (by rw [List.length_replicate]; omega)
  unfold by4R at h2
  rw [if_pos (why4_zero.2 ok), why4_zero.2 ok] at h2
  have hBl := by4_len (tos := 0) (id := 0) (ttl := 9) (pt := 17) (at' := 0) (df := false) (mo := false) (fr := [192, 0, 2, 1]) (to := [192, 0, 2, 2]) (op := []) (da := List.replicate 600 120) rfl rfl
  have hp := (ev_parse_by4 hS (n + 1) (df := false) ok (fr := [192, 0, 2, 1]) (to := [192, 0, 2, 2]) rfl rfl).1
  have hi := inside_by4 (df := false) ok (fr := [192, 0, 2, 1]) (to := [192, 0, 2, 2]) rfl rfl (j := 548) (by simp) (by simp)
  have hDl : (List.replicate 600 (120 : UInt8)).length = 600 := List.length_replicate
  have hm := ev_martian4 hS (n + 4) 192 0 2 1
  rw [decide_eq_false (by decide)] at hm
  generalize hB : by4 0 0 9 17 0 false false [192, 0, 2, 1] [192, 0, 2, 2] [] (List.replicate 600 120) = B at *
  generalize hD : List.replicate 600 (120 : UInt8) = D at *
  rw [hDl] at hBl
  have hBl : B.length = 620 := by rw [hBl]; rfl
  have hQl : (B.take 548).length = 548 := by rw [List.length_take]; omega
  generalize hQ : B.take 548 = Q at *
  have hIl : (im4B 11 0 0 Q).length = 556 := by unfold im4B; simp only [List.length_append, beB_len]; omega
  have hId : (im4B 11 0 0 Q).drop 8 = Q := by unfold im4B; simp [beB1, beB2, beB, List.range_succ]
  have ok2 : Ok4 0 5 64 1 0 false [] (im4B 11 0 0 Q) := ⟨by omega, by omega, by omega, by omega, by omega, rfl, by simp, by simp, by simp, by rw [hIl]; simp⟩
  have h3 := ev_own4_ok hS (n + 1) (s := B) (tos := 0) (i0 := 0) (ttl := 9) (pt := 17) (df := false) (mo := false) (fr := [192, 0, 2, 1]) (to := [192, 0, 2, 2]) (op := []) (da := D) (a := [192, 0, 2, 9]) (k := 11) (c := 0) (r := 0) (id := 5) (id' := 5) (md := []) (mtu := 1500) (q := Q)
    hp rfl rfl rfl rfl (by omega) (by omega) hm (by omega) (by omega) (by rw [hDl, hBl]; simp) (by omega) (by simp) (by rw [hDl]; decide) (by rw [hDl, ← hQ, List.take_take]; rfl) rfl (by unfold I64; omega) (why4_zero.2 ok2)
  have h4 := (ev_parse_by4 hS (n + 2) (df := false) ok2 (fr := [192, 0, 2, 9]) (to := [192, 0, 2, 1]) rfl rfl).2
  have hSl := by4_len (tos := 0) (id := 5) (ttl := 64) (pt := 1) (at' := 0) (df := false) (mo := false) (fr := [192, 0, 2, 9]) (to := [192, 0, 2, 1]) (op := []) (da := im4B 11 0 0 Q) rfl rfl
  rw [hIl] at hSl
  have hSl : (by4 0 5 64 1 0 false false [192, 0, 2, 9] [192, 0, 2, 1] [] (im4B 11 0 0 Q)).length = 576 := by rw [hSl]; rfl
  have h5 := ev_inside4 hS (n + 2) Q (by omega)
  rw [hi.1, hi.2.1, hi.2.2, hDl] at h5
  have hD2 : (D.take (548 - (20 + ([] : List UInt8).length))).length = 528 := by rw [List.length_take, hDl]; rfl
  generalize D.take (548 - (20 + ([] : List UInt8).length)) = D2 at *
  have h6 := ev_quote6w hS n (tos := 0) (id := 0) (ttl := 9) (pt := 17) (df := false) (fr := [192, 0, 2, 1]) (to := [192, 0, 2, 2]) (op := []) (da := D2) (a := List.replicate 16 0) (b := List.replicate 16 0) (claim := 600) (p := 1) (q := 2) rfl rfl rfl rfl (by omega) (by omega) (by omega) (by omega) (by omega) (by omega) (by omega) (by omega)
  have hpo := poF_ports (udp := decide ((17 : Int) = 17)) (d := D2) (o := [192, 0, 2, 1] ++ [192, 0, 2, 2]) (w := List.replicate 16 0 ++ List.replicate 16 0) (p := 1) (q := 2) (by omega)
  have hpl := @poF_len (decide ((17 : Int) = 17)) D2 ([192, 0, 2, 1] ++ [192, 0, 2, 2]) (List.replicate 16 0 ++ List.replicate 16 0) 1 2
  generalize poF (decide ((17 : Int) = 17)) D2 ([192, 0, 2, 1] ++ [192, 0, 2, 2]) (List.replicate 16 0 ++ List.replicate 16 0) 1 2 = PO at *
  have hTl : (beB 4 (1610612736 + Int.toNat 0 * 1048576) ++ (beB 2 600 ++ (beB 1 (Int.toNat 17) ++ (beB 1 (Int.toNat 9) ++ (List.replicate 16 0 ++ (List.replicate 16 0 ++ PO)))))).length = 568 := by
    simp only [List.length_append, beB_len, List.length_replicate]; omega
  have hTd : ((beB 4 (1610612736 + Int.toNat 0 * 1048576) ++ (beB 2 600 ++ (beB 1 (Int.toNat 17) ++ (beB 1 (Int.toNat 9) ++ (List.replicate 16 0 ++ (List.replicate 16 0 ++ PO)))))).drop 40).take 4 = [0, 1, 0, 2] := by
    rw [show (beB 4 (1610612736 + Int.toNat 0 * 1048576) ++ (beB 2 600 ++ (beB 1 (Int.toNat 17) ++ (beB 1 (Int.toNat 9) ++ (List.replicate 16 0 ++ (List.replicate 16 0 ++ PO)))))) = (beB 4 (1610612736 + Int.toNat 0 * 1048576) ++ (beB 2 600 ++ (beB 1 (Int.toNat 17) ++ (beB 1 (Int.toNat 9) ++ (List.replicate 16 0 ++ List.replicate 16 0))))) ++ PO by simp only [List.append_assoc]]
    rw [List.drop_left' (by simp only [List.length_append, beB_len, List.length_replicate]), hpo]
    rfl
  have h6 : S.ev (n + 6) id_fault_Quote6 [ip4LV 0 0 9 17 0 false false [192, 0, 2, 1] [192, 0, 2, 2] [] D2, .int .i64 600, .agg [.bytes [0, 0, 0, 0, 0, 0, 0, 0, 0, 0, 0, 0, 0, 0, 0, 0], .int .i64 1], .agg [.bytes [0, 0, 0, 0, 0, 0, 0, 0, 0, 0, 0, 0, 0, 0, 0, 0], .int .i64 2]] none = _ := h6
  generalize beB 4 (1610612736 + Int.toNat 0 * 1048576) ++ (beB 2 600 ++ (beB 1 (Int.toNat 17) ++ (beB 1 (Int.toNat 9) ++ (List.replicate 16 0 ++ (List.replicate 16 0 ++ PO))))) = T at *
  have h3 : S.ev (n + 6) id_fault_Own4 [.agg [.int .i64 11, .int .i64 0, .int .u32 0, .str []], .str B, .bytes [192, 0, 2, 9], .int .i64 5, .int .i64 1500] none = _ := h3
  generalize by4 0 5 64 1 0 false false [192, 0, 2, 9] [192, 0, 2, 1] [] (im4B 11 0 0 Q) = SS at *
  generalize im4B 11 0 0 Q = IB at *
  have n1 : ((600 : Nat) : Int) = 600 := rfl
  have n2 : ((576 : Nat) : Int) = 576 := rfl
  have n3 : ((556 : Nat) : Int) = 556 := rfl
  have n4 : ((528 : Nat) : Int) = 528 := rfl
  have n5 : ((568 : Nat) : Int) = 568 := rfl
  rw [n1] at h5
  have t8 : (IB.drop 8).take (556 - 8) = Q := by rw [hId]; exact List.take_of_length_le (by omega)
  have t9 : Q.take 548 = Q := List.take_of_length_le (by omega)
  have z0 : List.replicate 0 (120 : UInt8) = [] := rfl
  (try simp only [guard_merge, or_merge, and_merge, or_pick, and_pick, guard_or, guard_and]); simp only [to_ob]
  simp only [go_sem, ↓reduceIte, reduceCtorEq, upd_ne, back_new (no_at), Nat.reduceAdd, Nat.reduceEqDiff, Nat.reduceMul, Nat.reduceSub, Nat.reduceLeDiff, Nat.reduceLT, Int.reduceToNat, Int.reduceLE, Int.reduceLT, Int.reduceEq, UInt8.reduceOfNat, List.getElem?_map, Int.toNat_natCast, -List.reduceReplicate, z0, h0, h1, h2, h3, h4, h5, h6, hBl, hSl, hIl, hD2, hTl, hQ, hId, hTd, t8, t9, n1, n2, n3, n4, n5, fE, Nat.sub_zero, List.drop_zero, List.length_cons, List.length_nil, decide_true, beq_self_eq_true, Bool.and_self, Bool.not_true, Bool.false_eq_true]
end
end Go.Ev

namespace Go.Ev
set_option linter.unusedSimpArgs false
set_option linter.unusedVariables false
set_option maxRecDepth 10000
set_option maxHeartbeats 8000000
theorem fit_msg {v : LV} (h : fitV (.agg [.int .i64, .int .i64, .int .u32, .str]) v) : ∃ k c r d, v = msgLV k c r d ∧ I64 k ∧ I64 c ∧ (0 ≤ r ∧ r < 4294967296) ∧ d.length ≤ 140737488351232 := by
  obtain ⟨vs, rfl, q0⟩ := fit_agg' h; clear h
  obtain ⟨a, r, e, g1, q1⟩ := fit_cons q0; clear q0; subst e; obtain ⟨k, rfl, h1⟩ := fit_i64 g1; clear g1
  obtain ⟨a, r, e, g2, q2⟩ := fit_cons q1; clear q1; subst e; obtain ⟨c, rfl, h2⟩ := fit_i64 g2; clear g2
  obtain ⟨a, r, e, g3, q3⟩ := fit_cons q2; clear q2; subst e; obtain ⟨x, rfl, h3⟩ := fit_u32 g3; clear g3
  obtain ⟨a, r, e, g4, q4⟩ := fit_cons q3; clear q3; subst e; obtain ⟨d, rfl, h4⟩ := fit_str g4; clear g4
  obtain rfl := fit_nil q4
  exact ⟨k, c, x, d, rfl, h1, h2, by omega, h4⟩
theorem fit_t {m : Nat} {v : LV} (h : fitV (.agg [.bytes m, .int .i64]) v) : ∃ a p, v = .agg [.bytes a, .int .i64 p] ∧ a.length = m ∧ I64 p := by
  obtain ⟨vs, rfl, q0⟩ := fit_agg' h; clear h
  obtain ⟨a, r, e, g1, q1⟩ := fit_cons q0; clear q0; subst e; obtain ⟨a, rfl, h1⟩ := fit_bytes g1; clear g1
  obtain ⟨x, r, e, g2, q2⟩ := fit_cons q1; clear q1; subst e; obtain ⟨p, rfl, h2⟩ := fit_i64 g2; clear g2
  obtain rfl := fit_nil q2
  exact ⟨a, p, rfl, h1, h2⟩
end Go.Ev
