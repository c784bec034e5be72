/- Part 7 of a proof: what the functions yield. It stands by itself; no condition. -/
import Derived.Test.YtbhaeahfgiiaiaaE6
/- Layer 13: the heads. -/
namespace Go.Ev
set_option linter.unusedSimpArgs false
set_option linter.unusedVariables false
set_option maxRecDepth 4000

section
variable {S : Sys} (hS : Has S) (n : Nat)
include hS

theorem ev_proto (x : Int) : S.ev (n + 1) id_head64_Proto [.int .i64 x] none = some (.tup [.int .i64 (proto64 x).1, .bool (proto64 x).2], none) := by
  rw [Sys.step hS.h_head64_Proto, F_head64_Proto_eq, p_proto]
theorem ev_rproto (x : Int) : S.ev (n + 1) id_interpreterref13_Proto [.int .i64 x] none = some (.tup [.int .i64 (proto64 x).1, .bool (proto64 x).2], none) := by
  rw [Sys.step hS.h_interpreterref13_Proto, F_interpreterref13_Proto_eq, r_proto]
theorem ev_fault64 (c : Int) : S.ev (n + 1) id_head64_fault [.int .i64 c] none = some (faultLV c, none) := by
  rw [Sys.step hS.h_head64_fault, F_head64_fault_eq]
  unfold F_head64_fault
  simp only [to_ob, true_and, go_sem, ↓reduceIte, reduceCtorEq, upd_ne, back_new (no_at), Nat.reduceAdd, Nat.reduceEqDiff, Nat.reduceMul, Nat.reduceSub, Nat.reduceLeDiff, Nat.reduceLT, Int.reduceToNat, Int.reduceLE, Int.reduceLT, Int.reduceEq, UInt8.reduceOfNat]

variable {cl fl ho : Int} {fr to : List UInt8} {ex : List (Int × List UInt8)} {fg : Bool} {id at' : Int} {mo : Bool} {pt : Int} {da : List UInt8}

theorem ev_wants (hf : fr.length = 16) (ht : to.length = 16) : S.ev (n + 1) id_head64_Wants [ip6LV cl fl ho fr to (extsLV ex) fg id at' mo pt da] none = some (.bool (!fg && decide (da.length ≤ 1240)), none) := by
  rw [Sys.step hS.h_head64_Wants, F_head64_Wants_eq, p_wants hf ht _ _ rfl]
theorem ev_rwants (hf : fr.length = 16) (ht : to.length = 16) : S.ev (n + 1) id_interpreterref13_Wants [ip6LV cl fl ho fr to (extsLV ex) fg id at' mo pt da] none = some (.bool (!fg && decide (da.length ≤ 1240)), none) := by
  rw [Sys.step hS.h_interpreterref13_Wants, F_interpreterref13_Wants_eq]
  unfold F_interpreterref13_Wants ip6LV
  (try simp only [guard_merge, or_merge, and_merge, or_pick, and_pick, guard_or, guard_and]); simp only [to_ob]
  simp only [go_sem, ↓reduceIte, reduceCtorEq, upd_ne, back_new (no_at), Nat.reduceAdd, Nat.reduceEqDiff, Nat.reduceMul, Nat.reduceSub, Nat.reduceLeDiff, Nat.reduceLT, Int.reduceToNat, Int.reduceLE, Int.reduceLT, Int.reduceEq, UInt8.reduceOfNat, hf, ht, true_and]
  cases fg <;> simp
  omega

def why64 (ho cl i pt at' : Int) (rt : Bool) (m : Nat) : Int :=
  if ho < 2 ∨ 255 < ho ∨ cl < 0 ∨ 255 < cl ∨ i < 0 ∨ 65535 < i then 13 else if rt = true ∨ (proto64 pt).2 = false then 10 else if 65515 - (m : Int) < at' then 3 else 0

theorem ev_why (hf : fr.length = 16) (ht : to.length = 16) (hl : ex.length ≤ 140737488351232) (hd : da.length ≤ 140737488351232) (i : Int) :
    S.ev (n + 2) id_head64_why [ip6LV cl fl ho fr to (extsLV ex) fg id at' mo pt da, .int .i64 i] none = some (.int .i64 (why64 ho cl i pt at' (routedS ex) da.length), none) := by
  rw [Sys.step hS.h_head64_why, F_head64_why_eq]
  have hrt := ev_routed hS n ex (by omega)
  have hpt := ev_proto hS n pt
  unfold F_head64_why ip6LV
  (try simp only [guard_merge, or_merge, and_merge, or_pick, and_pick, guard_or, guard_and]); simp only [to_ob]
  unfold extsLV at hrt
  simp only [go_sem, ↓reduceIte, reduceCtorEq, upd_ne, back_new (no_at), Nat.reduceAdd, Nat.reduceEqDiff, Nat.reduceMul, Nat.reduceSub, Nat.reduceLeDiff, Nat.reduceLT, Int.reduceToNat, Int.reduceLE, Int.reduceLT, Int.reduceEq, UInt8.reduceOfNat, hf, ht, true_and, hpt, hrt]
  rw [wrap_id (by omega) (by omega)]
  unfold why64
  simp only [or_assoc, Bool.not_eq_true']
  repeat' split
  all_goals rfl

omit hS in
theorem why64_zero {ho cl i pt at' : Int} {rt : Bool} {m : Nat} (h : why64 ho cl i pt at' rt m = 0) : 2 ≤ ho ∧ ho ≤ 255 ∧ 0 ≤ cl ∧ cl ≤ 255 ∧ 0 ≤ i ∧ i ≤ 65535 ∧ rt = false ∧ (proto64 pt).2 = true ∧ at' ≤ 65515 - (m : Int) := by
  unfold why64 at h
  split at h
  · omega
  · split at h
    · omega
    · rename_i h2
      split at h
      · omega
      · have h3 := not_or.1 h2
        refine ⟨by omega, by omega, by omega, by omega, by omega, by omega, by simpa using h3.1, by simpa using h3.2, by omega⟩

abbrev zero4 : LV := ip4LV 0 0 0 0 0 false false [0, 0, 0, 0] [0, 0, 0, 0] [] []
/-- The head, where there is one. -/
def head64S (ho cl i pt at' : Int) (fg mo : Bool) (id : Int) (fr4 to4 da : List UInt8) : LV :=
  if fg = true then ip4LV cl (id % 65536) (ho - 1) (proto64 pt).1 at' false mo fr4 to4 [] da
  else if da.length ≤ 1240 then ip4LV cl i (ho - 1) (proto64 pt).1 0 false false fr4 to4 [] da
  else ip4LV cl 0 (ho - 1) (proto64 pt).1 0 true false fr4 to4 [] da

theorem ev_head (hf : fr.length = 16) (ht : to.length = 16) (hl : ex.length ≤ 140737488351232) (hd : da.length ≤ 140737488351232) (i : Int) (fr4 to4 : List UInt8) (hf4 : fr4.length = 4) (ht4 : to4.length = 4) (hid : 0 ≤ id ∧ id < 4294967296)
   (hho : -9223372036854775808 ≤ ho ∧ ho ≤ 9223372036854775807) :
    S.ev (n + 3) id_head64_Head [ip6LV cl fl ho fr to (extsLV ex) fg id at' mo pt da, .bytes fr4, .bytes to4, .int .i64 i] none =
      some (if why64 ho cl i pt at' (routedS ex) da.length = 0 then .tup [head64S ho cl i pt at' fg mo id fr4 to4 da, .nili] else .tup [zero4, faultLV (why64 ho cl i pt at' (routedS ex) da.length)], none) := by
  rw [Sys.step hS.h_head64_Head, F_head64_Head_eq]
  have hwhy := ev_why hS n (fl := fl) (fg := fg) (id := id) (mo := mo) (at' := at') hf ht hl hd i (cl := cl) (ho := ho) (pt := pt)
  have hwt := ev_wants hS (n + 1) (cl := cl) (fl := fl) (ho := ho) (ex := ex) (fg := fg) (id := id) (mo := mo) (pt := pt) (da := da) (at' := at') hf ht
  have hpt := ev_proto hS (n + 1) pt
  have hfa := ev_fault64 hS (n + 1)
  have hz := @why64_zero ho cl i pt at' (routedS ex) da.length
  generalize why64 ho cl i pt at' (routedS ex) da.length = y at hwhy hz
  unfold F_head64_Head
  unfold ip6LV extsLV at *
  simp only [to_ob]
  simp only [go_sem, ↓reduceIte, reduceCtorEq, upd_ne, back_new (no_at), Nat.reduceAdd, Nat.reduceEqDiff, Nat.reduceMul, Nat.reduceSub, Nat.reduceLeDiff, Nat.reduceLT, Int.reduceToNat, Int.reduceLE, Int.reduceLT, Int.reduceEq, UInt8.reduceOfNat, true_and, hf, ht, hf4, ht4, hwhy, hwt, hpt, hfa]
  split
  · rename_i h; rfl
  · rename_i h
    have h : y = 0 := by omega
    rw [if_pos h]
    obtain ⟨q1, q2, _⟩ := hz h
    rw [show (65535 : Int) = ((2 ^ 16 - 1 : Nat) : Int) from rfl, bits_mask 16 hid.1 (by simp [IntKind.max, IntKind.bits, IntKind.signed]; omega) (by decide), wrap_id (by omega) (by omega), wrap_id (by omega) (by omega)]
    unfold head64S
    cases fg
    · simp only [Bool.false_eq_true, if_false, Bool.not_false, true_and]
      split <;> rfl
    · simp only [if_true]
      rfl

theorem ev_rhead (hf : fr.length = 16) (ht : to.length = 16) (hl : ex.length ≤ 140737488351232) (hd : da.length ≤ 140737488351232) (i : Int) (fr4 to4 : List UInt8) (hf4 : fr4.length = 4) (ht4 : to4.length = 4) (hid : 0 ≤ id ∧ id < 4294967296)
   (hho : -9223372036854775808 ≤ ho ∧ ho ≤ 9223372036854775807) (hat : 0 ≤ at') :
    S.ev (n + 3) id_interpreterref13_Head [ip6LV cl fl ho fr to (extsLV ex) fg id at' mo pt da, .bytes fr4, .bytes to4, .int .i64 i] none =
      some (if why64 ho cl i pt at' (routedS ex) da.length = 0 then .tup [head64S ho cl i pt at' fg mo id fr4 to4 da, .int .i64 0] else .tup [zero4, .int .i64 (why64 ho cl i pt at' (routedS ex) da.length)], none) := by
  rw [Sys.step hS.h_interpreterref13_Head, F_interpreterref13_Head_eq]
  have hwt := ev_rwants hS (n + 1) (cl := cl) (fl := fl) (ho := ho) (ex := ex) (fg := fg) (id := id) (mo := mo) (pt := pt) (da := da) (at' := at') hf ht
  have hpt := ev_rproto hS (n + 1) pt
  have hrt := ev_rrouted hS (n + 1) ex (by omega)
  have hz := @why64_zero ho cl i pt at' (routedS ex) da.length
  unfold F_interpreterref13_Head
  unfold ip6LV extsLV at *
  (try simp only [guard_merge, or_merge, and_merge, or_pick, and_pick, guard_or, guard_and]); simp only [to_ob]
  simp (maxSteps := 1000000) only [go_sem, ↓reduceIte, reduceCtorEq, upd_ne, back_new (no_at), Nat.reduceAdd, Nat.reduceEqDiff, Nat.reduceMul, Nat.reduceSub, Nat.reduceLeDiff, Nat.reduceLT, Int.reduceToNat, Int.reduceLE, Int.reduceLT, Int.reduceEq, UInt8.reduceOfNat, true_and, hf, ht, hf4, ht4, hwt, hpt, hrt]
  have e3 : (65535 < at' ∨ 65535 < IntKind.i64.wrap (IntKind.i64.wrap (at' + 20) + (da.length : Int))) ↔ 65515 - (da.length : Int) < at' := by
    by_cases h : at' ≤ 65535
    · rw [wrap_id (n := at' + 20) (by omega) (by omega), wrap_id (by omega) (by omega)]; omega
    · omega
  unfold why64
  simp only [or_assoc, e3, Bool.not_eq_true']
  by_cases c1 : ho < 2 ∨ 255 < ho ∨ cl < 0 ∨ 255 < cl ∨ i < 0 ∨ 65535 < i
  · simp only [c1, if_true]; rfl
  · simp only [c1, if_false]
    by_cases c2 : (proto64 pt).2 = false ∨ routedS ex = true
    · simp only [c2, or_comm.1 c2, if_true]; rfl
    · have c2' : ¬ (routedS ex = true ∨ (proto64 pt).2 = false) := fun h => c2 (or_comm.1 h)
      simp only [c2, c2', if_false]
      by_cases c3 : 65515 - (da.length : Int) < at'
      · simp only [c3, if_true]; rfl
      · simp only [c3, if_false, if_true]
        have hm : id.tmod 65536 = id % 65536 := Int.tmod_eq_emod_of_nonneg hid.1
        rw [hm, wrap_id (by omega) (by omega), wrap_id (by omega) (by omega)]
        unfold head64S
        cases fg
        · simp only [Bool.false_eq_true, if_false, true_and]
          split <;> rfl
        · simp only [if_true]
end
end Go.Ev

/- Layer 13: the statement on heads. -/
namespace Go.Ev
set_option linter.unusedSimpArgs false
set_option linter.unusedVariables false
set_option maxRecDepth 4000

section
variable {S : Sys} (hS : Has S) (n : Nat)
include hS

theorem ev_same_nil (c : Int) : S.ev (n + 1) id_interpreterlaw13_same [.nili, .int .i64 c] none = some (.bool (decide (c = 0)), none) := by
  rw [Sys.step hS.h_interpreterlaw13_same, F_interpreterlaw13_same_eq]
  unfold F_interpreterlaw13_same
  (try simp only [guard_merge, or_merge, and_merge, or_pick, and_pick, guard_or, guard_and]); simp only [to_ob]
  simp only [go_sem, ↓reduceIte, reduceCtorEq, upd_ne, back_new (no_at), Nat.reduceAdd, Nat.reduceEqDiff, Nat.reduceMul, Nat.reduceSub, Nat.reduceLeDiff, Nat.reduceLT, Int.reduceToNat, Int.reduceLE, Int.reduceLT, Int.reduceEq, UInt8.reduceOfNat]
  split
  · rename_i h; simp [h]
  · rename_i h; simp [h]
theorem ev_same_f (c d : Int) : S.ev (n + 1) id_interpreterlaw13_same [faultLV c, .int .i64 d] none = some (.bool (if d = 0 then false else decide (c = d)), none) := by
  rw [Sys.step hS.h_interpreterlaw13_same, F_interpreterlaw13_same_eq]
  unfold F_interpreterlaw13_same
  (try simp only [guard_merge, or_merge, and_merge, or_pick, and_pick, guard_or, guard_and]); simp only [to_ob]
  simp only [go_sem, ↓reduceIte, reduceCtorEq, upd_ne, back_new (no_at), Nat.reduceAdd, Nat.reduceEqDiff, Nat.reduceMul, Nat.reduceSub, Nat.reduceLeDiff, Nat.reduceLT, Int.reduceToNat, Int.reduceLE, Int.reduceLT, Int.reduceEq, UInt8.reduceOfNat]
  split
  · rename_i h; simp [h]
  · rename_i h; simp [h]

variable {cl fl ho : Int} {fr to : List UInt8} {ex : List (Int × List UInt8)} {fg : Bool} {id at' : Int} {mo : Bool} {pt : Int} {da : List UInt8}

theorem ev_great (h : FitIp6 cl fl ho fr to ex id at' pt da) : ∃ b, S.ev (n + 1) id_interpreterlaw13_Great [ip6LV cl fl ho fr to (extsLV ex) fg id at' mo pt da] none = some (.bool b, none) := by
  rw [Sys.step hS.h_interpreterlaw13_Great, F_interpreterlaw13_Great_eq]
  unfold F_interpreterlaw13_Great ip6LV extsLV
  have hf := h.hfr
  have ht := h.hto
  (try simp only [guard_merge, or_merge, and_merge, or_pick, and_pick, guard_or, guard_and]); simp only [to_ob]
  simp only [go_sem, ↓reduceIte, reduceCtorEq, upd_ne, back_new (no_at), Nat.reduceAdd, Nat.reduceEqDiff, Nat.reduceMul, Nat.reduceSub, Nat.reduceLeDiff, Nat.reduceLT, Int.reduceToNat, Int.reduceLE, Int.reduceLT, Int.reduceEq, UInt8.reduceOfNat, hf, ht]
  refine while_ruleP (fun x => ∃ b, x = some (LV.bool b, none)) (fun n s => ∃ (m : Int) (i : Nat), s = ([.int .i64 m, .int .i64 (i : Int)], noSlots) ∧ i + n = ex.length) ex.length ⟨_, 0, rfl, by simp⟩ ?_
  rintro n s ⟨m, i, rfl, hi⟩
  simp only [go_sem, ↓reduceIte, reduceCtorEq, upd_ne, back_new (no_at), Nat.reduceAdd, Nat.reduceEqDiff, Nat.reduceMul, Nat.reduceSub, Nat.reduceLeDiff, Nat.reduceLT, Int.reduceToNat, Int.reduceLE, Int.reduceLT, Int.reduceEq, UInt8.reduceOfNat, hf, ht, List.length_map]
  refine nxtP_ite (fun hc => ?_) (fun hc => ?_)
  · have hlt : i < ex.length := by omega
    obtain ⟨e, he⟩ : ∃ e, ex[i]? = some e := ⟨ex[i], by simp [hlt]⟩
    simp only [List.getElem?_map, Int.toNat_natCast, he, go_sem, ↓reduceIte, reduceCtorEq, upd_ne, back_new (no_at), Nat.reduceAdd, Nat.reduceEqDiff, Nat.reduceMul, Nat.reduceSub, Nat.reduceLeDiff, Nat.reduceLT, Int.reduceToNat, Int.reduceLE, Int.reduceLT, Int.reduceEq, UInt8.reduceOfNat, pMinmax, pMinmax2]
    have hex := h.hex
    exact ⟨n - 1, by omega, _, i + 1, by rw [wrap_id (n := (i : Int) + 1) (by omega) (by omega)]; rfl, by omega⟩
  · simp only [NxtP, exIf, go_sem, ↓reduceIte, reduceCtorEq, upd_ne, back_new (no_at), Nat.reduceAdd, Nat.reduceEqDiff, Nat.reduceMul, Nat.reduceSub, Nat.reduceLeDiff, Nat.reduceLT, Int.reduceToNat, Int.reduceLE, Int.reduceLT, Int.reduceEq, UInt8.reduceOfNat, hf, ht, List.length_map]
    exact ⟨_, rfl⟩

theorem ev_awake : S.ev (n + 4) id_interpreterlaw13_awake [] none = some (.bool true, none) := by
  rw [Sys.step hS.h_interpreterlaw13_awake, F_interpreterlaw13_awake_eq]
  have hh := ev_head hS n (cl := 5) (fl := 0) (ho := 9) (fr := [0, 0, 0, 0, 0, 0, 0, 0, 0, 0, 0, 0, 0, 0, 0, 0]) (to := [0, 0, 0, 0, 0, 0, 0, 0, 0, 0, 0, 0, 0, 0, 0, 0]) (ex := []) (fg := false) (id := 0) (at' := 0) (mo := false) (pt := 58) (da := [104, 105]) rfl rfl (by simp) (by simp) 7 [1, 0, 0, 0] [2, 0, 0, 0] rfl rfl (by omega) (by omega)
  have hy : why64 9 5 7 58 0 (routedS []) ([104, 105] : List UInt8).length = 0 := by decide
  rw [hy] at hh
  have hq : head64S 9 5 7 58 0 false false 0 [1, 0, 0, 0] [2, 0, 0, 0] [104, 105] = ip4LV 5 7 8 1 0 false false [1, 0, 0, 0] [2, 0, 0, 0] [] [104, 105] := by rfl
  rw [hq] at hh
  unfold F_interpreterlaw13_awake
  unfold ip6LV extsLV at hh
  simp only [List.map_nil, if_true] at hh
  (try simp only [guard_merge, or_merge, and_merge, or_pick, and_pick, guard_or, guard_and]); simp only [to_ob]
  simp only [go_sem, ↓reduceIte, reduceCtorEq, upd_ne, back_new (no_at), Nat.reduceAdd, Nat.reduceEqDiff, Nat.reduceMul, Nat.reduceSub, Nat.reduceLeDiff, Nat.reduceLT, Int.reduceToNat, Int.reduceLE, Int.reduceLT, Int.reduceEq, UInt8.reduceOfNat, hh]
  rfl

theorem ev_Does {vs : List LV} (h : fitVL [shpIp6, .bytes 4, .bytes 4, .int .i64, .int .i64] vs) : S.ev (n + 5) id_interpreterlaw13_Head64Does vs none = some (.bool true, none) := by
  obtain ⟨a, r, e, g0, q0⟩ := fit_cons h; clear h; subst e; obtain ⟨cl, fl, ho, fr, to, ex, fg, id, at', mo, pt, da, rfl, hp⟩ := fit_ip6 g0; clear g0
  obtain ⟨a, r, e, g1, q1⟩ := fit_cons q0; clear q0; subst e; obtain ⟨fr4, rfl, hf4⟩ := fit_bytes g1; clear g1
  obtain ⟨a, r, e, g2, q2⟩ := fit_cons q1; clear q1; subst e; obtain ⟨to4, rfl, ht4⟩ := fit_bytes g2; clear g2
  obtain ⟨a, r, e, g3, q3⟩ := fit_cons q2; clear q2; subst e; obtain ⟨i, rfl, hi⟩ := fit_i64 g3; clear g3
  obtain ⟨a, r, e, g4, q4⟩ := fit_cons q3; clear q3; subst e; obtain ⟨pn, rfl, hpn⟩ := fit_i64 g4; clear g4
  obtain rfl := fit_nil q4
  rw [Sys.step hS.h_interpreterlaw13_Head64Does, F_interpreterlaw13_Head64Does_eq]
  have hf := hp.hfr
  have ht := hp.hto
  have ha := ev_awake hS n
  obtain ⟨b, hg⟩ := ev_great hS (n + 3) (fg := fg) (mo := mo) hp
  have hw := ev_wants hS (n + 3) (cl := cl) (fl := fl) (ho := ho) (ex := ex) (fg := fg) (id := id) (mo := mo) (pt := pt) (da := da) (at' := at') hf ht
  have hw' := ev_rwants hS (n + 3) (cl := cl) (fl := fl) (ho := ho) (ex := ex) (fg := fg) (id := id) (mo := mo) (pt := pt) (da := da) (at' := at') hf ht
  have hpr := ev_proto hS (n + 3) pn
  have hpr' := ev_rproto hS (n + 3) pn
  have hid : 0 ≤ id ∧ id < 4294967296 := ⟨hp.hid.1, by have := hp.hid.2; omega⟩
  have hh := ev_head hS (n + 1) (fl := fl) (fg := fg) (mo := mo) (cl := cl) (pt := pt) (at' := at') hf ht hp.hex hp.hda i fr4 to4 hf4 ht4 hid hp.hho
  have hs1 := ev_same_nil hS (n + 3) 0
  have hs2 := ev_same_f hS (n + 3)
  unfold F_interpreterlaw13_Head64Does
  (try simp only [guard_merge, or_merge, and_merge, or_pick, and_pick, guard_or, guard_and]); simp only [to_ob]
  by_cases hneg : at' < 0
  · unfold ip6LV extsLV at *
    simp only [go_sem, ↓reduceIte, reduceCtorEq, upd_ne, back_new (no_at), Nat.reduceAdd, Nat.reduceEqDiff, Nat.reduceMul, Nat.reduceSub, Nat.reduceLeDiff, Nat.reduceLT, Int.reduceToNat, Int.reduceLE, Int.reduceLT, Int.reduceEq, UInt8.reduceOfNat, hf, ht, hf4, ht4, ha, hg, hneg]
  · have hh' := ev_rhead hS (n + 1) (fl := fl) (fg := fg) (mo := mo) (cl := cl) (pt := pt) (at' := at') hf ht hp.hex hp.hda i fr4 to4 hf4 ht4 hid hp.hho (by omega)
    generalize why64 ho cl i pt at' (routedS ex) da.length = y at hh hh'
    have hq : ∃ a1 a2 a3 a4 a5 b1 b2 s1 s2 s3 s4, head64S ho cl i pt at' fg mo id fr4 to4 da = ip4LV a1 a2 a3 a4 a5 b1 b2 s1 s2 s3 s4 ∧ s1.length = 4 ∧ s2.length = 4 := by
      unfold head64S
      split
      · exact ⟨_, _, _, _, _, _, _, _, _, _, _, rfl, hf4, ht4⟩
      · split
        · exact ⟨_, _, _, _, _, _, _, _, _, _, _, rfl, hf4, ht4⟩
        · exact ⟨_, _, _, _, _, _, _, _, _, _, _, rfl, hf4, ht4⟩
    obtain ⟨a1, a2, a3, a4, a5, b1, b2, s1, s2, s3, s4, hq, hs3, hs4⟩ := hq
    rw [hq] at hh hh'
    unfold ip6LV extsLV at *
    by_cases hy : y = 0
    · rw [if_pos hy] at hh hh'
      simp only [go_sem, ↓reduceIte, reduceCtorEq, upd_ne, back_new (no_at), Nat.reduceAdd, Nat.reduceEqDiff, Nat.reduceMul, Nat.reduceSub, Nat.reduceLeDiff, Nat.reduceLT, Int.reduceToNat, Int.reduceLE, Int.reduceLT, Int.reduceEq, UInt8.reduceOfNat, hf, ht, hf4, ht4, ha, hg, hneg, hh, hh', hs1, hpr, hpr', hw, hw', hs3, hs4]
      split <;> simp
    · rw [if_neg hy] at hh hh'
      simp only [go_sem, ↓reduceIte, reduceCtorEq, upd_ne, back_new (no_at), Nat.reduceAdd, Nat.reduceEqDiff, Nat.reduceMul, Nat.reduceSub, Nat.reduceLeDiff, Nat.reduceLT, Int.reduceToNat, Int.reduceLE, Int.reduceLT, Int.reduceEq, UInt8.reduceOfNat, hf, ht, hf4, ht4, ha, hg, hneg, hh, hh', hs2, hpr, hpr', hw, hw', hy]
      split <;> simp
end
end Go.Ev

/- Layer 13: a head over IPv4 has bytes; the examples. -/
namespace Go.Ev
set_option linter.unusedSimpArgs false
set_option linter.unusedVariables false
set_option maxRecDepth 10000
set_option maxHeartbeats 8000000
theorem proto64_ok {x : Int} (h : (proto64 x).2 = true) : 0 ≤ (proto64 x).1 ∧ (proto64 x).1 ≤ 255 := by
  unfold proto64 at *
  split at h
  · rename_i h1; rw [if_pos h1]; exact ⟨by decide, by decide⟩
  · rename_i h1
    split at h
    · simp at h
    · rename_i h2
      rw [if_neg h1, if_neg h2]
      simp only [not_or] at h2
      exact ⟨by omega, by omega⟩
section
variable {S : Sys} (hS : Has S) (n : Nat)
include hS
theorem ev_Head64Goes {vs : List LV} (h : fitVL [.str, .bytes 4, .bytes 4, .int .u16] vs) : S.ev (n + 5) id_interpreterlaw13_Head64Goes vs none = some (.bool true, none) := by
  obtain ⟨a, r, e, g0, q0⟩ := fit_cons h; clear h; subst e; obtain ⟨s, rfl, hs⟩ := fit_str g0; clear g0
  obtain ⟨a, r, e, g1, q1⟩ := fit_cons q0; clear q0; subst e; obtain ⟨fr4, rfl, hf4⟩ := fit_bytes g1; clear g1
  obtain ⟨a, r, e, g2, q2⟩ := fit_cons q1; clear q1; subst e; obtain ⟨to4, rfl, ht4⟩ := fit_bytes g2; clear g2
  obtain ⟨a, r, e, g3, q3⟩ := fit_cons q2; clear q2; subst e; obtain ⟨i, rfl, hi0, hi1⟩ := fit_u16 g3; clear g3
  obtain rfl := fit_nil q3
  rw [Sys.step hS.h_interpreterlaw13_Head64Goes, F_interpreterlaw13_Head64Goes_eq]
  unfold F_interpreterlaw13_Head64Goes
  have ha := ev_awake hS n
  have h1 := ev_parse6 hS n s hs
  have e0 : IntKind.i64.wrap i = i := wrap_id (by omega) (by omega)
  have hez := eq_ip4 (tos := 0) (id := 0) (ttl := 0) (pt := 0) (at' := 0) (df := false) (mo := false) (fr := [0, 0, 0, 0]) (to := [0, 0, 0, 0]) (op := []) (da := []) rfl rfl
  (try simp only [guard_merge, or_merge, and_merge, or_pick, and_pick, guard_or, guard_and]); simp only [to_ob]
  by_cases c : 70000 < (s.length : Int)
  · simp only [go_sem, ↓reduceIte, reduceCtorEq, upd_ne, back_new (no_at), Nat.reduceAdd, Nat.reduceEqDiff, Nat.reduceMul, Nat.reduceSub, Nat.reduceLeDiff, Nat.reduceLT, Int.reduceToNat, Int.reduceLE, Int.reduceLT, Int.reduceEq, UInt8.reduceOfNat, hf4, ht4, ha, c]
  · by_cases ck : pK6 s = 0
    · obtain ⟨cl, fl, ho, fr, to, ex, fg, id, at', mo, pt, da, hL, hf, ok, hbh, _, hdl⟩ := again6 hs ck
      have hfr := hf.hfr
      have hto := hf.hto
      have hw4 := wAt_le s 4
      rw [hL, ck, show fE 0 = .nili from rfl] at h1
      have hho := hf.hho
      have hid := hf.hid
      have h2 := ev_head hS (n + 1) (cl := cl) (fl := fl) (ho := ho) (fg := fg) (id := id) (at' := at') (mo := mo) (pt := pt) (da := da) hfr hto hf.hex hf.hda i fr4 to4 hf4 ht4 ⟨hid.1, by omega⟩ ⟨hho.1, hho.2⟩
      obtain ⟨⟨o1, o2, o3, o4, o5, o6⟩, k, ⟨f1, f2⟩, n8, all, bh⟩ := ok
      by_cases c2 : why64 ho cl i pt at' (routedS ex) da.length = 0
      · rw [if_pos c2] at h2
        obtain ⟨w1, w2, w3, w4, w5, w6, w7, w8, w9⟩ := why64_zero c2
        have hpo := proto64_ok w8
        have e1 : IntKind.i64.wrap (ho - 1) = ho - 1 := wrap_id (by omega) (by omega)
        have e2 : 0 < ho - 1 := by omega
        unfold head64S at h2
        cases fg
        · simp only [Bool.false_eq_true, if_false] at h2 f2
          obtain ⟨z1, z2, z3⟩ := f2
          subst z1 z2 z3
          by_cases c3 : da.length ≤ 1240
          · rw [if_pos c3] at h2
            have hfit : FitIp4 cl i (ho - 1) (proto64 pt).1 0 fr4 to4 [] da := ⟨hf.hcl, ⟨by omega, by omega⟩, ⟨by omega, by omega⟩, ⟨by omega, by omega⟩, ⟨by omega, by omega⟩, hf4, ht4, by simp, hf.hda⟩
            have h3 := ev_bytes4 hS (n + 1) (df := false) (mo := false) hfit
            have hy : why4 cl i (ho - 1) (proto64 pt).1 0 false [] da = 0 := why4_zero.2 ⟨⟨w3, w4⟩, ⟨by omega, by omega⟩, hpo, ⟨w5, w6⟩, ⟨by omega, by omega⟩, rfl, by simp, by simp, fun q => by simp at q, by simp; omega⟩
            have hlen := by4_len (tos := cl) (id := i) (ttl := ho - 1) (pt := (proto64 pt).1) (at' := 0) (df := false) (mo := false) (fr := fr4) (to := to4) (op := []) (da := da) hf4 ht4
            unfold by4R at h3
            rw [if_pos hy, hy, show fE 0 = .nili from rfl] at h3
            generalize by4 cl i (ho - 1) (proto64 pt).1 0 false false fr4 to4 [] da = Y at *
            have e3 : ¬ (1260 : Int) < ((20 + 0 + da.length : Nat) : Int) := by omega
            have e3' : ¬ (1260 : Int) < ((20 + da.length : Nat) : Int) := by omega
            simp only [List.length_nil] at hlen
            simp only [go_sem, ↓reduceIte, reduceCtorEq, upd_ne, back_new (no_at), Nat.reduceAdd, Nat.reduceEqDiff, Nat.reduceMul, Nat.reduceSub, Nat.reduceLeDiff, Nat.reduceLT, Int.reduceToNat, Int.reduceLE, Int.reduceLT, Int.reduceEq, UInt8.reduceOfNat, hf4, ht4, ha, c, h1, h2, h3, hfr, hto, e0, e1, e2, e3, e3', hlen, beq_self_eq_true]
          · rw [if_neg c3] at h2
            have hfit : FitIp4 cl 0 (ho - 1) (proto64 pt).1 0 fr4 to4 [] da := ⟨hf.hcl, ⟨by omega, by omega⟩, ⟨by omega, by omega⟩, ⟨by omega, by omega⟩, ⟨by omega, by omega⟩, hf4, ht4, by simp, hf.hda⟩
            have h3 := ev_bytes4 hS (n + 1) (df := true) (mo := false) hfit
            have hy : why4 cl 0 (ho - 1) (proto64 pt).1 0 false [] da = 0 := why4_zero.2 ⟨⟨w3, w4⟩, ⟨by omega, by omega⟩, hpo, ⟨by omega, by omega⟩, ⟨by omega, by omega⟩, rfl, by simp, by simp, fun q => by simp at q, by simp; omega⟩
            have hlen := by4_len (tos := cl) (id := 0) (ttl := ho - 1) (pt := (proto64 pt).1) (at' := 0) (df := true) (mo := false) (fr := fr4) (to := to4) (op := []) (da := da) hf4 ht4
            unfold by4R at h3
            rw [if_pos hy, hy, show fE 0 = .nili from rfl] at h3
            generalize by4 cl 0 (ho - 1) (proto64 pt).1 0 true false fr4 to4 [] da = Y at *
            have e3 : (1260 : Int) < ((20 + 0 + da.length : Nat) : Int) := by omega
            have e3' : (1260 : Int) < ((20 + da.length : Nat) : Int) := by omega
            simp only [List.length_nil] at hlen
            simp only [go_sem, ↓reduceIte, reduceCtorEq, upd_ne, back_new (no_at), Nat.reduceAdd, Nat.reduceEqDiff, Nat.reduceMul, Nat.reduceSub, Nat.reduceLeDiff, Nat.reduceLT, Int.reduceToNat, Int.reduceLE, Int.reduceLT, Int.reduceEq, UInt8.reduceOfNat, hf4, ht4, ha, c, h1, h2, h3, hfr, hto, e0, e1, e2, e3, e3', hlen, beq_self_eq_true]
        · simp only [if_true] at h2 f2
          have hm : 0 ≤ id % 65536 ∧ id % 65536 ≤ 65535 := by omega
          have hfit : FitIp4 cl (id % 65536) (ho - 1) (proto64 pt).1 at' fr4 to4 [] da := ⟨hf.hcl, ⟨by omega, by omega⟩, ⟨by omega, by omega⟩, ⟨by omega, by omega⟩, hf.hat, hf4, ht4, by simp, hf.hda⟩
          have h3 := ev_bytes4 hS (n + 1) (df := false) (mo := mo) hfit
          have hy : why4 cl (id % 65536) (ho - 1) (proto64 pt).1 at' mo [] da = 0 := why4_zero.2 ⟨⟨w3, w4⟩, ⟨by omega, by omega⟩, hpo, hm, o5, o6, by simp, by simp, f2, by simp; omega⟩
          rw [hy, show fE 0 = .nili from rfl] at h3
          generalize by4R cl (id % 65536) (ho - 1) (proto64 pt).1 at' false mo fr4 to4 [] da = Y at *
          cases mo
          · simp only [go_sem, ↓reduceIte, reduceCtorEq, upd_ne, back_new (no_at), Nat.reduceAdd, Nat.reduceEqDiff, Nat.reduceMul, Nat.reduceSub, Nat.reduceLeDiff, Nat.reduceLT, Int.reduceToNat, Int.reduceLE, Int.reduceLT, Int.reduceEq, UInt8.reduceOfNat, hf4, ht4, ha, c, h1, h2, h3, hfr, hto, e0, e1, e2, beq_self_eq_true]
          · simp only [go_sem, ↓reduceIte, reduceCtorEq, upd_ne, back_new (no_at), Nat.reduceAdd, Nat.reduceEqDiff, Nat.reduceMul, Nat.reduceSub, Nat.reduceLeDiff, Nat.reduceLT, Int.reduceToNat, Int.reduceLE, Int.reduceLT, Int.reduceEq, UInt8.reduceOfNat, hf4, ht4, ha, c, h1, h2, h3, hfr, hto, e0, e1, e2, beq_self_eq_true]
      · rw [if_neg c2] at h2
        simp only [go_sem, ↓reduceIte, reduceCtorEq, upd_ne, back_new (no_at), Nat.reduceAdd, Nat.reduceEqDiff, Nat.reduceMul, Nat.reduceSub, Nat.reduceLeDiff, Nat.reduceLT, Int.reduceToNat, Int.reduceLE, Int.reduceLT, Int.reduceEq, UInt8.reduceOfNat, ↓hez, hf4, ht4, ha, c, h1, h2, hfr, hto, e0]
    · rw [r6_none ck] at h1
      simp only [fE, if_neg ck] at h1
      simp only [go_sem, ↓reduceIte, reduceCtorEq, upd_ne, back_new (no_at), Nat.reduceAdd, Nat.reduceEqDiff, Nat.reduceMul, Nat.reduceSub, Nat.reduceLeDiff, Nat.reduceLT, Int.reduceToNat, Int.reduceLE, Int.reduceLT, Int.reduceEq, UInt8.reduceOfNat, hf4, ht4, ha, c, h1]
abbrev n16 : List UInt8 := [0, 0, 0, 0, 0, 0, 0, 0, 0, 0, 0, 0, 0, 0, 0, 0]
abbrev n4' : List UInt8 := [0, 0, 0, 0]
theorem ev_Head64Known {vs : List LV} (h : fitVL [] vs) : S.ev (n + 5) id_interpreterlaw13_Head64Known vs none = some (.bool true, none) := by
  obtain rfl := fit_nil h
  rw [Sys.step hS.h_interpreterlaw13_Head64Known, F_interpreterlaw13_Head64Known_eq]
  unfold F_interpreterlaw13_Head64Known
  have ha := ev_awake hS n
  have hh := fun (ho pt id at' : Int) (ex : List (Int × List UInt8)) (fg : Bool) (da : List UInt8) (h1 : -9223372036854775808 ≤ ho ∧ ho ≤ 9223372036854775807) (h2 : 0 ≤ id ∧ id < 4294967296) (h3 : ex.length ≤ 140737488351232) (h4 : da.length ≤ 140737488351232) =>
    ev_head hS (n + 1) (cl := 0) (fl := 0) (ho := ho) (fr := n16) (to := n16) (ex := ex) (fg := fg) (id := id) (at' := at') (mo := false) (pt := pt) (da := da) rfl rfl h3 h4 9 n4' n4' rfl rfl h2 h1
  have r1 : S.ev (n + 4) id_strings_Repeat [.str [120], .int .i64 1241] none = some (.str (repL [120] 1241), none) := hS.x_rep.ev (n + 3) (c := 1241) (by decide) (by simp)
  have r2 : S.ev (n + 4) id_strings_Repeat [.str [120], .int .i64 65516] none = some (.str (repL [120] 65516), none) := hS.x_rep.ev (n + 3) (c := 65516) (by decide) (by simp)
  have r3 : S.ev (n + 4) id_strings_Repeat [.str [120], .int .i64 65515] none = some (.str (repL [120] 65515), none) := hS.x_rep.ev (n + 3) (c := 65515) (by decide) (by simp)
  have l1 : (repL [120] 1241).length = 1241 := by rw [repL_eq, List.length_replicate]
  have l2 : (repL [120] 65516).length = 65516 := by rw [repL_eq, List.length_replicate]
  have l3 : (repL [120] 65515).length = 65515 := by rw [repL_eq, List.length_replicate]
  generalize repL [120] 1241 = D1 at *
  generalize repL [120] 65516 = D2 at *
  generalize repL [120] 65515 = D3 at *
  have hb (ho pt at' : Int) (rt : Bool) (m k : Nat) (e : m = k) : why64 ho 0 9 pt at' rt m = why64 ho 0 9 pt at' rt k := by rw [e]
  have a1 := hh 9 17 65543 8 [] true [104, 105] (by omega) (by omega) (by simp) (by simp)
  rw [if_pos (by decide), show head64S 9 0 9 17 8 true false 65543 n4' n4' [104, 105] = ip4LV 0 7 8 17 8 false false n4' n4' [] [104, 105] by rfl] at a1
  have a1 : S.ev (n + 4) id_head64_Head [ip6LV 0 0 9 n16 n16 (.lst none []) true 65543 8 false 17 [104, 105], .bytes n4', .bytes n4', .int .i64 9] none = some (.tup [ip4LV 0 7 8 17 8 false false n4' n4' [] [104, 105], .nili], none) := a1
  have a2 := hh 9 17 0 0 [] false D1 (by omega) (by omega) (by simp) (by omega)
  rw [if_pos (by rw [hb _ _ _ _ _ _ l1]; decide), show head64S 9 0 9 17 0 false false 0 n4' n4' D1 = ip4LV 0 0 8 17 0 true false n4' n4' [] D1 by unfold head64S; rw [if_neg Bool.false_ne_true, if_neg (by omega)]; rfl] at a2
  have a2 : S.ev (n + 4) id_head64_Head [ip6LV 0 0 9 n16 n16 (.lst none []) false 0 0 false 17 D1, .bytes n4', .bytes n4', .int .i64 9] none = some (.tup [ip4LV 0 0 8 17 0 true false n4' n4' [] D1, .nili], none) := a2
  have a3 := hh 1 17 0 0 [] false [] (by omega) (by omega) (by simp) (by simp)
  rw [if_neg (by decide), show why64 1 0 9 17 0 (routedS []) ([] : List UInt8).length = 13 by decide] at a3
  have a3 : S.ev (n + 4) id_head64_Head [ip6LV 0 0 1 n16 n16 (.lst none []) false 0 0 false 17 [], .bytes n4', .bytes n4', .int .i64 9] none = some (.tup [zero4, faultLV 13], none) := a3
  have a4 := hh 9 1 0 0 [] false [] (by omega) (by omega) (by simp) (by simp)
  rw [if_neg (by decide), show why64 9 0 9 1 0 (routedS []) ([] : List UInt8).length = 10 by decide] at a4
  have a4 : S.ev (n + 4) id_head64_Head [ip6LV 0 0 9 n16 n16 (.lst none []) false 0 0 false 1 [], .bytes n4', .bytes n4', .int .i64 9] none = some (.tup [zero4, faultLV 10], none) := a4
  have a5 := hh 9 17 0 0 [(43, [0, 1])] false [] (by omega) (by omega) (by simp) (by simp)
  rw [if_neg (by decide), show why64 9 0 9 17 0 (routedS [(43, [0, 1])]) ([] : List UInt8).length = 10 by decide] at a5
  have a5 : S.ev (n + 4) id_head64_Head [ip6LV 0 0 9 n16 n16 (.lst none [.agg [.int .i64 43, .str [0, 1]]]) false 0 0 false 17 [], .bytes n4', .bytes n4', .int .i64 9] none = some (.tup [zero4, faultLV 10], none) := a5
  have a6 := hh 9 17 0 0 [] false D2 (by omega) (by omega) (by simp) (by omega)
  rw [if_neg (by rw [hb _ _ _ _ _ _ l2]; decide), hb _ _ _ _ _ _ l2, show why64 9 0 9 17 0 (routedS []) 65516 = 3 by decide] at a6
  have a6 : S.ev (n + 4) id_head64_Head [ip6LV 0 0 9 n16 n16 (.lst none []) false 0 0 false 17 D2, .bytes n4', .bytes n4', .int .i64 9] none = some (.tup [zero4, faultLV 3], none) := a6
  have a7 := hh 9 17 0 0 [] false D3 (by omega) (by omega) (by simp) (by omega)
  rw [if_pos (by rw [hb _ _ _ _ _ _ l3]; decide), show head64S 9 0 9 17 0 false false 0 n4' n4' D3 = ip4LV 0 0 8 17 0 true false n4' n4' [] D3 by unfold head64S; rw [if_neg Bool.false_ne_true, if_neg (by omega)]; rfl] at a7
  have a7 : S.ev (n + 4) id_head64_Head [ip6LV 0 0 9 n16 n16 (.lst none []) false 0 0 false 17 D3, .bytes n4', .bytes n4', .int .i64 9] none = some (.tup [ip4LV 0 0 8 17 0 true false n4' n4' [] D3, .nili], none) := a7
  have l4 : ((D1.drop 1).take (1241 - 1)).length = 1240 := by rw [List.length_take, List.length_drop, l1]; rfl
  have v1 := ev_wants hS (n + 3) (cl := 0) (fl := 0) (ho := 9) (fr := n16) (to := n16) (ex := []) (fg := false) (id := 0) (at' := 0) (mo := false) (pt := 17) (da := D1) rfl rfl
  rw [l1] at v1
  have v1 : S.ev (n + 4) id_head64_Wants [ip6LV 0 0 9 n16 n16 (.lst none []) false 0 0 false 17 D1] none = some (.bool false, none) := v1
  have v2 := ev_wants hS (n + 3) (cl := 0) (fl := 0) (ho := 0) (fr := n16) (to := n16) (ex := []) (fg := false) (id := 0) (at' := 0) (mo := false) (pt := 0) (da := (D1.drop 1).take (1241 - 1)) rfl rfl
  rw [l4] at v2
  have v2 : S.ev (n + 4) id_head64_Wants [ip6LV 0 0 0 n16 n16 (.lst none []) false 0 0 false 0 ((D1.drop 1).take (1241 - 1))] none = some (.bool true, none) := v2
  have hq1 := eq_ip4 (tos := 0) (id := 7) (ttl := 8) (pt := 17) (at' := 8) (df := false) (mo := false) (fr := n4') (to := n4') (op := []) (da := [104, 105]) rfl rfl
  have hq2 := eq_ip4 (tos := 0) (id := 0) (ttl := 8) (pt := 17) (at' := 0) (df := true) (mo := false) (fr := n4') (to := n4') (op := []) (da := D1) rfl rfl
  have hsm := ev_same_f hS (n + 3)
  have s13 : S.ev (n + 4) id_interpreterlaw13_same [faultLV 13, .int .i64 13] none = some (.bool true, none) := hsm 13 13
  have s10 : S.ev (n + 4) id_interpreterlaw13_same [faultLV 10, .int .i64 10] none = some (.bool true, none) := hsm 10 10
  have s3 : S.ev (n + 4) id_interpreterlaw13_same [faultLV 3, .int .i64 3] none = some (.bool true, none) := hsm 3 3
  have lD1 : 1 ≤ 1241 := by decide
  generalize hEE : (D1.drop 1).take (1241 - 1) = EE at *
  (try simp only [guard_merge, or_merge, and_merge, or_pick, and_pick, guard_or, guard_and]); simp only [to_ob]
  simp (maxSteps := 4000000) only [go_sem, ↓reduceIte, reduceCtorEq, upd_ne, back_new (no_at), Nat.reduceAdd, Nat.reduceEqDiff, Nat.reduceMul, Nat.reduceSub, Nat.reduceLeDiff, Nat.reduceLT, Int.reduceToNat, Int.reduceLE, Int.reduceLT, Int.reduceEq, UInt8.reduceOfNat, ↓hq1, ↓hq2, ha, a1, a2, a3, a4, a5, a6, a7, r1, r2, r3, v1, v2, s13, s10, s3, l1, lD1, hEE]
  try rfl
end
end Go.Ev
