/- Part 7 of a proof: what the functions yield. It stands by itself; no condition. -/
import Derived.Test.YtbhaeahfgiiaiaaE6
/- Layer 12: heads. -/
namespace Go.Ev
set_option linter.unusedSimpArgs false
set_option linter.unusedVariables false
set_option maxRecDepth 4000
set_option maxHeartbeats 1000000

def proto46 (x : Int) : Int × Bool := if x = 1 then (58, true) else if x ≤ 0 ∨ x = 2 ∨ x = 43 ∨ x = 44 ∨ x = 58 ∨ x = 60 ∨ 255 < x then (0, false) else (x, true)

section
variable {S : Sys} (hS : Has S) (n : Nat)
include hS
theorem ev_proto4 (x : Int) : S.ev (n + 1) id_head46_Proto [.int .i64 x] none = some (.tup [.int .i64 (proto46 x).1, .bool (proto46 x).2], none) := by
  rw [Sys.step hS.h_head46_Proto, F_head46_Proto_eq]
  unfold F_head46_Proto
  simp only [guard_merge, or_merge, and_merge, or_pick, and_pick, guard_or, guard_and]
  simp only [to_ob]
  simp only [go_sem, ↓reduceIte, reduceCtorEq, upd_ne, back_new (no_at), Nat.reduceAdd, Nat.reduceEqDiff, Nat.reduceMul, Nat.reduceSub, Nat.reduceLeDiff, Nat.reduceLT, Int.reduceToNat, Int.reduceLE, Int.reduceLT, Int.reduceEq, UInt8.reduceOfNat]
  unfold proto46
  repeat' split
  all_goals first | rfl | omega
theorem ev_rproto4 (x : Int) : S.ev (n + 1) id_interpreterref12_Proto [.int .i64 x] none = some (.tup [.int .i64 (proto46 x).1, .bool (proto46 x).2], none) := by
  rw [Sys.step hS.h_interpreterref12_Proto, F_interpreterref12_Proto_eq]
  unfold F_interpreterref12_Proto
  simp only [guard_merge, or_merge, and_merge, or_pick, and_pick, guard_or, guard_and]
  simp only [to_ob]
  simp only [go_sem, ↓reduceIte, reduceCtorEq, upd_ne, back_new (no_at), Nat.reduceAdd, Nat.reduceEqDiff, Nat.reduceMul, Nat.reduceSub, Nat.reduceLeDiff, Nat.reduceLT, Int.reduceToNat, Int.reduceLE, Int.reduceLT, Int.reduceEq, UInt8.reduceOfNat]
  unfold proto46
  repeat' split
  all_goals first | rfl | omega
theorem ev_fault46 (c : Int) : S.ev (n + 1) id_head46_fault [.int .i64 c] none = some (faultLV c, none) := by
  rw [Sys.step hS.h_head46_fault, F_head46_fault_eq]
  unfold F_head46_fault
  simp only [to_ob]
  simp only [go_sem, ↓reduceIte, reduceCtorEq, upd_ne, back_new (no_at), Nat.reduceAdd, Nat.reduceEqDiff, Nat.reduceMul, Nat.reduceSub, Nat.reduceLeDiff, Nat.reduceLT, Int.reduceToNat, Int.reduceLE, Int.reduceLT, Int.reduceEq, UInt8.reduceOfNat]

variable {tos id ttl pt at' : Int} {df mo : Bool} {fr to op da : List UInt8}

abbrev z16 : List UInt8 := [0, 0, 0, 0, 0, 0, 0, 0, 0, 0, 0, 0, 0, 0, 0, 0]
abbrev zero6 : LV := ip6LV 0 0 0 z16 z16 (.lst none []) false 0 0 false 0 []
def why46 (tos ttl pt : Int) (rs : Option Bool) : Int :=
  if ttl < 2 ∨ 255 < ttl ∨ tos < 0 ∨ 255 < tos then 13 else match rs with
    | none => 8
    | some r => if r = true ∨ (proto46 pt).2 = false then 10 else 0
def head46S (tos id ttl pt at' : Int) (mo : Bool) (fr6 to6 da : List UInt8) : LV :=
  if mo = true ∨ at' ≠ 0 then ip6LV tos 0 (ttl - 1) fr6 to6 (.lst none []) true (IntKind.u32.wrap id) at' mo (proto46 pt).1 da
  else ip6LV tos 0 (ttl - 1) fr6 to6 (.lst none []) false 0 0 false (proto46 pt).1 da

theorem ev_head46 (h : FitIp4 tos id ttl pt at' fr to op da) (fr6 to6 : List UInt8) (hf6 : fr6.length = 16) (ht6 : to6.length = 16) :
    S.ev (n + 3) id_head46_Head [ip4LV tos id ttl pt at' df mo fr to op da, .bytes fr6, .bytes to6] none =
      some (if why46 tos ttl pt (routeS op false) = 0 then .tup [head46S tos id ttl pt at' mo fr6 to6 da, .nili] else .tup [zero6, faultLV (why46 tos ttl pt (routeS op false))], none) := by
  rw [Sys.step hS.h_head46_Head, F_head46_Head_eq]
  have hrt := ev_routed4 hS n op
  have hpt := ev_proto4 hS (n + 1) pt
  have hfa := ev_fault46 hS (n + 1)
  have hf := h.hfr
  have ht := h.hto
  unfold F_head46_Head
  (try simp only [guard_merge, or_merge, and_merge, or_pick, and_pick, guard_or, guard_and]); simp only [to_ob]
  unfold why46
  by_cases c1 : ttl < 2 ∨ 255 < ttl ∨ tos < 0 ∨ 255 < tos
  · rw [if_pos c1]
    simp only [go_sem, ↓reduceIte, reduceCtorEq, upd_ne, back_new (no_at), Nat.reduceAdd, Nat.reduceEqDiff, Nat.reduceMul, Nat.reduceSub, Nat.reduceLeDiff, Nat.reduceLT, Int.reduceToNat, Int.reduceLE, Int.reduceLT, Int.reduceEq, UInt8.reduceOfNat, hf, ht, hfa, or_assoc, c1]
  · rw [if_neg c1]
    have e1 : IntKind.i64.wrap (ttl - 1) = ttl - 1 := wrap_id (by omega) (by omega)
    cases hr : routeS op false with
    | none =>
      rw [hr] at hrt
      simp only [routeR] at hrt
      simp only [go_sem, ↓reduceIte, reduceCtorEq, upd_ne, back_new (no_at), Nat.reduceAdd, Nat.reduceEqDiff, Nat.reduceMul, Nat.reduceSub, Nat.reduceLeDiff, Nat.reduceLT, Int.reduceToNat, Int.reduceLE, Int.reduceLT, Int.reduceEq, UInt8.reduceOfNat, hf, ht, hrt, or_assoc, c1]
    | some r =>
      rw [hr] at hrt
      simp only [routeR] at hrt
      simp only [go_sem, ↓reduceIte, reduceCtorEq, upd_ne, back_new (no_at), Nat.reduceAdd, Nat.reduceEqDiff, Nat.reduceMul, Nat.reduceSub, Nat.reduceLeDiff, Nat.reduceLT, Int.reduceToNat, Int.reduceLE, Int.reduceLT, Int.reduceEq, UInt8.reduceOfNat, hf, ht, hf6, ht6, hrt, hpt, hfa, e1, or_assoc, c1]
      simp only [Bool.not_eq_true']
      by_cases c2 : r = true ∨ (proto46 pt).2 = false
      · simp only [c2, if_true]; rfl
      · simp only [c2, if_false]
        unfold head46S
        split <;> rfl

theorem ev_rhead46 (h : FitIp4 tos id ttl pt at' fr to op da) (fr6 to6 : List UInt8) (hf6 : fr6.length = 16) (ht6 : to6.length = 16) :
    S.ev (n + 2) id_interpreterref12_Head [ip4LV tos id ttl pt at' df mo fr to op da, .bytes fr6, .bytes to6] none =
      some (if why46 tos ttl pt (routeS op false) = 0 then .tup [head46S tos id ttl pt at' mo fr6 to6 da, .int .i64 0] else .tup [zero6, .int .i64 (why46 tos ttl pt (routeS op false))], none) := by
  rw [Sys.step hS.h_interpreterref12_Head, F_interpreterref12_Head_eq]
  have hrt := ev_routed3 hS n op h.hop
  have hpt := ev_rproto4 hS n pt
  have hf := h.hfr
  have ht := h.hto
  unfold F_interpreterref12_Head
  (try simp only [guard_merge, or_merge, and_merge, or_pick, and_pick, guard_or, guard_and]); simp only [to_ob]
  unfold why46
  by_cases c1 : ttl < 2 ∨ 255 < ttl ∨ tos < 0 ∨ 255 < tos
  · rw [if_pos c1]
    simp only [go_sem, ↓reduceIte, reduceCtorEq, upd_ne, back_new (no_at), Nat.reduceAdd, Nat.reduceEqDiff, Nat.reduceMul, Nat.reduceSub, Nat.reduceLeDiff, Nat.reduceLT, Int.reduceToNat, Int.reduceLE, Int.reduceLT, Int.reduceEq, UInt8.reduceOfNat, hf, ht, or_assoc, c1]
  · rw [if_neg c1]
    have e1 : IntKind.i64.wrap (ttl - 1) = ttl - 1 := wrap_id (by omega) (by omega)
    cases hr : routeS op false with
    | none =>
      rw [hr] at hrt
      simp only [routeR'] at hrt
      simp only [go_sem, ↓reduceIte, reduceCtorEq, upd_ne, back_new (no_at), Nat.reduceAdd, Nat.reduceEqDiff, Nat.reduceMul, Nat.reduceSub, Nat.reduceLeDiff, Nat.reduceLT, Int.reduceToNat, Int.reduceLE, Int.reduceLT, Int.reduceEq, UInt8.reduceOfNat, hf, ht, hrt, or_assoc, c1]
    | some r =>
      rw [hr] at hrt
      simp only [routeR'] at hrt
      cases r with
      | true =>
        simp only [go_sem, ↓reduceIte, reduceCtorEq, upd_ne, back_new (no_at), Nat.reduceAdd, Nat.reduceEqDiff, Nat.reduceMul, Nat.reduceSub, Nat.reduceLeDiff, Nat.reduceLT, Int.reduceToNat, Int.reduceLE, Int.reduceLT, Int.reduceEq, UInt8.reduceOfNat, hf, ht, hf6, ht6, hrt, hpt, e1, or_assoc, c1, true_or]
      | false =>
        simp only [go_sem, ↓reduceIte, reduceCtorEq, upd_ne, back_new (no_at), Nat.reduceAdd, Nat.reduceEqDiff, Nat.reduceMul, Nat.reduceSub, Nat.reduceLeDiff, Nat.reduceLT, Int.reduceToNat, Int.reduceLE, Int.reduceLT, Int.reduceEq, UInt8.reduceOfNat, hf, ht, hf6, ht6, hrt, hpt, e1, or_assoc, c1]
        simp only [Bool.not_eq_true', Bool.false_eq_true, false_or]
        by_cases c2 : (proto46 pt).2 = false
        · simp only [c2, if_true]; rfl
        · unfold head46S
          by_cases c3 : mo = true ∨ ¬ at' = 0
          · simp only [c2, c3, ne_eq, if_true, if_false, Bool.true_eq_false]
          · simp only [c2, c3, ne_eq, if_true, if_false, Bool.true_eq_false]

theorem ev_same12_nil (c : Int) : S.ev (n + 1) id_interpreterlaw12_same [.nili, .int .i64 c] none = some (.bool (decide (c = 0)), none) := by
  rw [Sys.step hS.h_interpreterlaw12_same, F_interpreterlaw12_same_eq]
  unfold F_interpreterlaw12_same
  (try simp only [guard_merge, or_merge, and_merge, or_pick, and_pick, guard_or, guard_and]); simp only [to_ob]
  simp only [go_sem, ↓reduceIte, reduceCtorEq, upd_ne, back_new (no_at), Nat.reduceAdd, Nat.reduceEqDiff, Nat.reduceMul, Nat.reduceSub, Nat.reduceLeDiff, Nat.reduceLT, Int.reduceToNat, Int.reduceLE, Int.reduceLT, Int.reduceEq, UInt8.reduceOfNat]
  split
  · rename_i h; simp [h]
  · rename_i h; simp [h]
theorem ev_same12_f (c d : Int) : S.ev (n + 1) id_interpreterlaw12_same [faultLV c, .int .i64 d] none = some (.bool (if d = 0 then false else decide (c = d)), none) := by
  rw [Sys.step hS.h_interpreterlaw12_same, F_interpreterlaw12_same_eq]
  unfold F_interpreterlaw12_same
  (try simp only [guard_merge, or_merge, and_merge, or_pick, and_pick, guard_or, guard_and]); simp only [to_ob]
  simp only [go_sem, ↓reduceIte, reduceCtorEq, upd_ne, back_new (no_at), Nat.reduceAdd, Nat.reduceEqDiff, Nat.reduceMul, Nat.reduceSub, Nat.reduceLeDiff, Nat.reduceLT, Int.reduceToNat, Int.reduceLE, Int.reduceLT, Int.reduceEq, UInt8.reduceOfNat]
  split
  · rename_i h; simp [h]
  · rename_i h; simp [h]

/-- Two packets without extensions. -/
theorem ev_Same0 {cl fl ho : Int} {fr to : List UInt8} {fg : Bool} {id at' : Int} {mo : Bool} {pt : Int} {da : List UInt8} {cl' fl' ho' : Int} {fr' to' : List UInt8} {fg' : Bool} {id' at'' : Int} {mo' : Bool} {pt' : Int} {da' : List UInt8}
    (hf : fr.length = 16) (ht : to.length = 16) (hf' : fr'.length = 16) (ht' : to'.length = 16) :
    S.ev (n + 1) id_interpreterref04_Same [ip6LV cl fl ho fr to (.lst none []) fg id at' mo pt da, ip6LV cl' fl' ho' fr' to' (.lst none []) fg' id' at'' mo' pt' da'] none =
      some (.bool (decide (cl = cl' ∧ fl = fl' ∧ ho = ho' ∧ fr = fr' ∧ to = to' ∧ fg = fg' ∧ id = id' ∧ at' = at'' ∧ mo = mo' ∧ pt = pt' ∧ da = da')), none) := by
  rw [Sys.step hS.h_interpreterref04_Same, F_interpreterref04_Same_eq]
  unfold F_interpreterref04_Same
  (try simp only [guard_merge, or_merge, and_merge, or_pick, and_pick, guard_or, guard_and]); simp only [to_ob]
  simp only [go_sem, ↓reduceIte, reduceCtorEq, upd_ne, back_new (no_at), Nat.reduceAdd, Nat.reduceEqDiff, Nat.reduceMul, Nat.reduceSub, Nat.reduceLeDiff, Nat.reduceLT, Int.reduceToNat, Int.reduceLE, Int.reduceLT, Int.reduceEq, UInt8.reduceOfNat, hf, ht, hf', ht']
  refine while_rule (fun m q => q = ([.bool false, .int .i64 0], noSlots)) 0 rfl ?_
  rintro m q rfl
  have e0 : ¬ ((0 : Int) < ((0 : Nat) : Int)) := by decide
  simp only [go_sem, ↓reduceIte, reduceCtorEq, upd_ne, back_new (no_at), Nat.reduceAdd, Nat.reduceEqDiff, Nat.reduceMul, Nat.reduceSub, Nat.reduceLeDiff, Nat.reduceLT, Int.reduceToNat, Int.reduceLE, Int.reduceLT, Int.reduceEq, UInt8.reduceOfNat, hf, ht, hf', ht', Nxt, exIf, e0]
  congr 3
  rw [Bool.eq_iff_iff]
  simp only [Bool.and_eq_true, decide_eq_true_eq, beq_iff_eq, and_assoc]
end
end Go.Ev

/- Layer 12: the statement on heads, the examples. -/
namespace Go.Ev
set_option linter.unusedSimpArgs false
set_option linter.unusedVariables false
set_option maxRecDepth 4000
set_option maxHeartbeats 1000000

section
variable {S : Sys} (hS : Has S) (n : Nat)
include hS

theorem ev_awake12 : S.ev (n + 4) id_interpreterlaw12_awake [] none = some (.bool true, none) := by
  rw [Sys.step hS.h_interpreterlaw12_awake, F_interpreterlaw12_awake_eq]
  have hh := ev_head46 hS n (tos := 5) (id := 0) (ttl := 9) (pt := 1) (at' := 0) (df := true) (mo := false) (fr := [0, 0, 0, 0]) (to := [0, 0, 0, 0]) (op := []) (da := [104, 105]) ⟨by constructor <;> omega, by constructor <;> omega, by constructor <;> omega, by constructor <;> omega, by constructor <;> omega, rfl, rfl, by simp, by simp⟩ [1, 0, 0, 0, 0, 0, 0, 0, 0, 0, 0, 0, 0, 0, 0, 0] [2, 0, 0, 0, 0, 0, 0, 0, 0, 0, 0, 0, 0, 0, 0, 0] rfl rfl
  have hr : routeS [] false = some false := by rw [routeS]
  rw [hr] at hh
  have hy : why46 5 9 1 (some false) = 0 := by decide
  have hq : head46S 5 0 9 1 0 false [1, 0, 0, 0, 0, 0, 0, 0, 0, 0, 0, 0, 0, 0, 0, 0] [2, 0, 0, 0, 0, 0, 0, 0, 0, 0, 0, 0, 0, 0, 0, 0] [104, 105] = ip6LV 5 0 8 [1, 0, 0, 0, 0, 0, 0, 0, 0, 0, 0, 0, 0, 0, 0, 0] [2, 0, 0, 0, 0, 0, 0, 0, 0, 0, 0, 0, 0, 0, 0, 0] (.lst none []) false 0 0 false 58 [104, 105] := by rfl
  rw [hy, if_pos rfl, hq] at hh
  have hs := ev_Same0 hS (n + 2) (cl := 5) (fl := 0) (ho := 8) (fr := [1, 0, 0, 0, 0, 0, 0, 0, 0, 0, 0, 0, 0, 0, 0, 0]) (to := [2, 0, 0, 0, 0, 0, 0, 0, 0, 0, 0, 0, 0, 0, 0, 0]) (fg := false) (id := 0) (at' := 0) (mo := false) (pt := 58) (da := [104, 105])
    (cl' := 5) (fl' := 0) (ho' := 8) (fr' := [1, 0, 0, 0, 0, 0, 0, 0, 0, 0, 0, 0, 0, 0, 0, 0]) (to' := [2, 0, 0, 0, 0, 0, 0, 0, 0, 0, 0, 0, 0, 0, 0, 0]) (fg' := false) (id' := 0) (at'' := 0) (mo' := false) (pt' := 58) (da' := [104, 105]) rfl rfl rfl rfl
  unfold F_interpreterlaw12_awake
  (try simp only [guard_merge, or_merge, and_merge, or_pick, and_pick, guard_or, guard_and]); simp only [to_ob]
  simp only [go_sem, ↓reduceIte, reduceCtorEq, upd_ne, back_new (no_at), Nat.reduceAdd, Nat.reduceEqDiff, Nat.reduceMul, Nat.reduceSub, Nat.reduceLeDiff, Nat.reduceLT, Int.reduceToNat, Int.reduceLE, Int.reduceLT, Int.reduceEq, UInt8.reduceOfNat, hh, l_call, hs]

omit hS in
/-- What becomes of a head: some packet without extensions. -/
theorem head46_form (tos id ttl pt at' : Int) (mo : Bool) (fr6 to6 da : List UInt8) : ∃ a1 a2 a3 b1 i1 a4 b2 a5, head46S tos id ttl pt at' mo fr6 to6 da = ip6LV a1 a2 a3 fr6 to6 (.lst none []) b1 i1 a4 b2 a5 da := by
  unfold head46S
  split
  · exact ⟨_, _, _, _, _, _, _, _, rfl⟩
  · exact ⟨_, _, _, _, _, _, _, _, rfl⟩

theorem ev_Does46 {vs : List LV} (h : fitVL [shpIp4, .bytes 16, .bytes 16, .int .i64] vs) : S.ev (n + 5) id_interpreterlaw12_Head46Does vs none = some (.bool true, none) := by
  obtain ⟨a, r, e, g0, q0⟩ := fit_cons h; clear h; subst e; obtain ⟨tos, id, ttl, pt, at', df, mo, fr, to, op, da, rfl, hp⟩ := fit_ip4 g0; clear g0
  obtain ⟨a, r, e, g1, q1⟩ := fit_cons q0; clear q0; subst e; obtain ⟨fr6, rfl, hf6⟩ := fit_bytes g1; clear g1
  obtain ⟨a, r, e, g2, q2⟩ := fit_cons q1; clear q1; subst e; obtain ⟨to6, rfl, ht6⟩ := fit_bytes g2; clear g2
  obtain ⟨a, r, e, g4, q4⟩ := fit_cons q2; clear q2; subst e; obtain ⟨pn, rfl, hpn⟩ := fit_i64 g4; clear g4
  obtain rfl := fit_nil q4
  rw [Sys.step hS.h_interpreterlaw12_Head46Does, F_interpreterlaw12_Head46Does_eq]
  have hf := hp.hfr
  have ht := hp.hto
  have ha := ev_awake12 hS n
  have hpr := ev_proto4 hS (n + 3) pn
  have hpr' := ev_rproto4 hS (n + 3) pn
  have hh := ev_head46 hS (n + 1) (df := df) (mo := mo) hp fr6 to6 hf6 ht6
  have hh' := ev_rhead46 hS (n + 2) (df := df) (mo := mo) hp fr6 to6 hf6 ht6
  generalize why46 tos ttl pt (routeS op false) = y at hh hh'
  have hs1 := ev_same12_nil hS (n + 3) 0
  have hs2 := ev_same12_f hS (n + 3) y y
  obtain ⟨a1, a2, a3, b1, i1, a4, b2, a5, hq⟩ := head46_form tos id ttl pt at' mo fr6 to6 da
  rw [hq] at hh hh'
  have hsa := ev_Same0 hS (n + 3) (cl := a1) (fl := a2) (ho := a3) (fg := b1) (id := i1) (at' := a4) (mo := b2) (pt := a5) (da := da) (cl' := a1) (fl' := a2) (ho' := a3) (fg' := b1) (id' := i1) (at'' := a4) (mo' := b2) (pt' := a5) (da' := da) hf6 ht6 hf6 ht6
  have hsz := ev_Same0 hS (n + 3) (cl := 0) (fl := 0) (ho := 0) (fr := z16) (to := z16) (fg := false) (id := 0) (at' := 0) (mo := false) (pt := 0) (da := []) (cl' := 0) (fl' := 0) (ho' := 0) (fr' := z16) (to' := z16) (fg' := false) (id' := 0) (at'' := 0) (mo' := false) (pt' := 0) (da' := []) rfl rfl rfl rfl
  simp only [and_self, decide_true] at hsa hsz
  unfold F_interpreterlaw12_Head46Does
  (try simp only [guard_merge, or_merge, and_merge, or_pick, and_pick, guard_or, guard_and]); simp only [to_ob]
  by_cases hy : y = 0
  · rw [if_pos hy] at hh hh'
    simp only [go_sem, ↓reduceIte, reduceCtorEq, upd_ne, back_new (no_at), Nat.reduceAdd, Nat.reduceEqDiff, Nat.reduceMul, Nat.reduceSub, Nat.reduceLeDiff, Nat.reduceLT, Int.reduceToNat, Int.reduceLE, Int.reduceLT, Int.reduceEq, UInt8.reduceOfNat, hf, ht, hf6, ht6, ha, hh, hh', hs1, hpr, hpr', hsa]
    split <;> simp
  · rw [if_neg hy] at hh hh'
    simp only [hy, if_false, decide_true] at hs2
    simp only [go_sem, ↓reduceIte, reduceCtorEq, upd_ne, back_new (no_at), Nat.reduceAdd, Nat.reduceEqDiff, Nat.reduceMul, Nat.reduceSub, Nat.reduceLeDiff, Nat.reduceLT, Int.reduceToNat, Int.reduceLE, Int.reduceLT, Int.reduceEq, UInt8.reduceOfNat, hf, ht, hf6, ht6, ha, hh, hh', hs2, hpr, hpr', hsz]
    split <;> simp
end
end Go.Ev

/- Layer 12: a head over IPv6 has bytes; what does not change it. -/
namespace Go.Ev
set_option linter.unusedSimpArgs false
set_option linter.unusedVariables false
set_option maxRecDepth 10000
set_option maxHeartbeats 8000000
theorem proto46_ok {x : Int} (h : (proto46 x).2 = true) : 0 ≤ (proto46 x).1 ∧ (proto46 x).1 ≤ 255 ∧ ¬ isE (proto46 x).1 ∧ (proto46 x).1 ≠ 44 := by
  unfold proto46 at *
  split at h
  · rename_i h1; rw [if_pos h1]; exact ⟨by decide, by decide, by decide, by decide⟩
  · rename_i h1
    split at h
    · simp at h
    · rename_i h2
      rw [if_neg h1, if_neg h2]
      simp only [not_or] at h2
      refine ⟨by omega, by omega, ?_, h2.2.2.2.1⟩
      rintro ((h | h) | h) <;> omega
theorem proto46_I64 {x : Int} (h : I64 x) : I64 (proto46 x).1 := by
  have h1 := h.1
  have h2 := h.2
  unfold proto46
  split
  · exact ⟨by decide, by decide⟩
  · split
    · exact ⟨by decide, by decide⟩
    · exact h
theorem u32_rg (x : Int) : 0 ≤ IntKind.u32.wrap x ∧ IntKind.u32.wrap x ≤ 4294967295 := by
  simp only [IntKind.wrap, IntKind.bits, IntKind.signed]
  simp
  omega
theorem why46_ok {tos ttl pt : Int} {rs : Option Bool} (h : why46 tos ttl pt rs = 0) : 2 ≤ ttl ∧ ttl ≤ 255 ∧ 0 ≤ tos ∧ tos ≤ 255 ∧ (proto46 pt).2 = true := by
  unfold why46 at h
  split at h
  · simp at h
  · rename_i h1
    split at h
    · simp at h
    · split at h
      · simp at h
      · rename_i h2
        refine ⟨by omega, by omega, by omega, by omega, ?_⟩
        cases hp : (proto46 pt).2
        · exact absurd (Or.inr hp) h2
        · rfl
theorem why46_less {tos ttl pt : Int} {rs : Option Bool} (h : why46 tos ttl pt rs = 0) : why46 tos ttl pt (some false) = 0 := by
  obtain ⟨h1, h2, h3, h4, h5⟩ := why46_ok h
  unfold why46
  rw [if_neg (by omega)]
  simp only [h5]
  rfl
theorem routeS_nil' (r : Bool) : routeS [] r = some r := by unfold routeS; rfl
/-- A head's parts. -/
structure Is46 (tos id ttl pt at' : Int) (mo : Bool) (fr6 to6 da : List UInt8) (fg : Bool) (i at2 : Int) (mo2 : Bool) : Prop where
  eq : head46S tos id ttl pt at' mo fr6 to6 da = ip6LV tos 0 (ttl - 1) fr6 to6 (.lst none []) fg i at2 mo2 (proto46 pt).1 da
  cs : (fg = true ∧ (mo = true ∨ at' ≠ 0) ∧ i = IntKind.u32.wrap id ∧ at2 = at' ∧ mo2 = mo) ∨ (fg = false ∧ mo = false ∧ at' = 0 ∧ i = 0 ∧ at2 = 0 ∧ mo2 = false)
theorem is46 (tos id ttl pt at' : Int) (mo : Bool) (fr6 to6 da : List UInt8) : ∃ fg i at2 mo2, Is46 tos id ttl pt at' mo fr6 to6 da fg i at2 mo2 := by
  by_cases h : mo = true ∨ at' ≠ 0
  · exact ⟨true, _, at', mo, by unfold head46S; rw [if_pos h], Or.inl ⟨rfl, h, rfl, rfl, rfl⟩⟩
  · have h1 : mo = false := by cases mo; rfl; exact absurd (Or.inl rfl) h
    have h2 : at' = 0 := Classical.byContradiction fun q => h (Or.inr q)
    exact ⟨false, 0, 0, false, by unfold head46S; rw [if_neg h], Or.inr ⟨rfl, h1, h2, rfl, rfl, rfl⟩⟩
theorem is46_fit {tos id ttl pt at' : Int} {mo : Bool} {fr6 to6 da : List UInt8} {fg : Bool} {i at2 : Int} {mo2 : Bool} (h : Is46 tos id ttl pt at' mo fr6 to6 da fg i at2 mo2) (hf6 : fr6.length = 16) (ht6 : to6.length = 16) (htos : I64 tos) (httl : 2 ≤ ttl ∧ ttl ≤ 255) (hpt : I64 pt) (hat : I64 at') (hda : da.length ≤ 140737488351232) :
    FitIp6 tos 0 (ttl - 1) fr6 to6 [] i at2 (proto46 pt).1 da := by
  have hu := u32_rg id
  refine ⟨htos, ⟨by omega, by omega⟩, ⟨by omega, by omega⟩, hf6, ht6, by simp, by simp, ?_, ?_, proto46_I64 hpt, hda⟩
  · rcases h.cs with ⟨_, _, h1, _⟩ | ⟨_, _, _, h1, _⟩
    · rw [h1]; exact hu
    · rw [h1]; omega
  · rcases h.cs with ⟨_, _, _, h1, _⟩ | ⟨_, _, _, _, h1, _⟩
    · rw [h1]; exact hat
    · rw [h1]; exact ⟨by omega, by omega⟩
section
variable {S : Sys} (hS : Has S) (n : Nat)
include hS
theorem ev_Head46Goes {vs : List LV} (h : fitVL [.str, .bytes 16, .bytes 16] vs) : S.ev (n + 5) id_interpreterlaw12_Head46Goes vs none = some (.bool true, none) := by
  obtain ⟨a, r, e, g0, q0⟩ := fit_cons h; clear h; subst e; obtain ⟨s, rfl, hs⟩ := fit_str g0; clear g0
  obtain ⟨a, r, e, g1, q1⟩ := fit_cons q0; clear q0; subst e; obtain ⟨fr6, rfl, hf6⟩ := fit_bytes g1; clear g1
  obtain ⟨a, r, e, g2, q2⟩ := fit_cons q1; clear q1; subst e; obtain ⟨to6, rfl, ht6⟩ := fit_bytes g2; clear g2
  obtain rfl := fit_nil q2
  rw [Sys.step hS.h_interpreterlaw12_Head46Goes, F_interpreterlaw12_Head46Goes_eq]
  unfold F_interpreterlaw12_Head46Goes
  have ha := ev_awake12 hS n
  have h1 := ev_parse4 hS n s hs
  (try simp only [guard_merge, or_merge, and_merge, or_pick, and_pick, guard_or, guard_and]); simp only [to_ob]
  by_cases c : 70000 < (s.length : Int)
  · simp only [go_sem, ↓reduceIte, reduceCtorEq, upd_ne, back_new (no_at), Nat.reduceAdd, Nat.reduceEqDiff, Nat.reduceMul, Nat.reduceSub, Nat.reduceLeDiff, Nat.reduceLT, Int.reduceToNat, Int.reduceLE, Int.reduceLT, Int.reduceEq, UInt8.reduceOfNat, hf6, ht6, ha, c]
  · by_cases ck : pK4 s = 0
    · have P := pK4_zero.1 ck
      have hb1 := bAt_le s 1; have hb8 := bAt_le s 8; have hb9 := bAt_le s 9; have hw4 := wAt_le s 4; have hw2 := wAt_le s 2; have hw6 := wAt_le s 6
      have hp := P.h20; have hl := P.hl; have hn := P.hn; have hha := P.ha; have hal := P.hal
      have hop : (pop4 s).length = n4 s - 20 := by unfold pop4; simp; omega
      have hda : (pda4 s).length = wAt s 2 - n4 s := by unfold pda4; simp; omega
      have hfr := pfr4_len P
      have hto := pto4_len P
      have hwy := why4_zero.1 P.hw
      have hat := hwy.kat
      have hat8 := hwy.kat8
      have hmo := hwy.kmo
      have hall := hwy.kall
      have hf : FitIp4 (bAt s 1 : Nat) (wAt s 4 : Nat) (bAt s 8 : Nat) (bAt s 9 : Nat) (pat4 s) (pfr4 s) (pto4 s) (pop4 s) (pda4 s) :=
        ⟨⟨by omega, by omega⟩, ⟨by omega, by omega⟩, ⟨by omega, by omega⟩, ⟨by omega, by omega⟩, ⟨by omega, by omega⟩, hfr, hto, by omega, by omega⟩
      unfold pLV4 at h1
      rw [if_pos ck, ck, show fE 0 = .nili from rfl] at h1
      have h2 := ev_head46 hS (n + 1) (df := pdf4 s) (mo := pmo4 s) hf fr6 to6 hf6 ht6
      by_cases c2 : why46 (bAt s 1 : Nat) (bAt s 8 : Nat) (bAt s 9 : Nat) (routeS (pop4 s) false) = 0
      · rw [if_pos c2] at h2
        obtain ⟨w1, w2, w3, w4, w5⟩ := why46_ok c2
        obtain ⟨fg, i, at2, mo2, hI⟩ := is46 (bAt s 1 : Nat) (wAt s 4 : Nat) (bAt s 8 : Nat) (bAt s 9 : Nat) (pat4 s) (pmo4 s) fr6 to6 (pda4 s)
        have hfit := is46_fit hI hf6 ht6 hf.htos ⟨w1, w2⟩ hf.hpt hf.hat hf.hda
        rw [hI.eq] at h2
        have h3 := ev_bytes6 hS n (fg := fg) (mo := mo2) hfit
        have hpo := proto46_ok w5
        have hy : why6 (bAt s 1 : Nat) 0 ((bAt s 8 : Nat) - 1 : Int) [] fg i at2 mo2 (proto46 (bAt s 9 : Nat)).1 (pda4 s) = 0 := by
          rcases hI.cs with ⟨z1, z2, z3, z4, z5⟩ | ⟨z1, z2, z3, z4, z5, z6⟩
          · subst z1 z4 z5
            refine why6_zero.2 ⟨⟨⟨w3, w4⟩, ⟨by omega, by omega⟩, ⟨by omega, by omega⟩, ⟨hpo.1, hpo.2.1⟩, hat, hat8⟩, ⟨rfl, fun q => by simp at q⟩, ⟨rfl, by rw [if_pos rfl]; exact hmo⟩, by simp, by omega, ?_⟩
            unfold bh6; simp only [szE, if_true]; omega
          · subst z1 z4 z5 z6
            refine why6_zero.2 ⟨⟨⟨w3, w4⟩, ⟨by omega, by omega⟩, ⟨by omega, by omega⟩, ⟨hpo.1, hpo.2.1⟩, ⟨by omega, by omega⟩, rfl⟩, ⟨rfl, fun _ => ⟨hpo.2.2.1, hpo.2.2.2⟩⟩, ⟨rfl, by rw [if_neg Bool.false_ne_true]; exact ⟨rfl, rfl, rfl⟩⟩, by simp, by omega, ?_⟩
            unfold bh6; simp only [szE, Bool.false_eq_true, if_false]; omega
        rw [hy, show fE 0 = .nili from rfl] at h3
        have h3 : S.ev (n + 4) id_ip6_Bytes [ip6LV (bAt s 1 : Nat) 0 ((bAt s 8 : Nat) - 1 : Int) fr6 to6 (.lst none []) fg i at2 mo2 (proto46 (bAt s 9 : Nat)).1 (pda4 s)] none = some (.tup [.str (by6R (bAt s 1 : Nat) 0 ((bAt s 8 : Nat) - 1 : Int) fr6 to6 [] fg i at2 mo2 (proto46 (bAt s 9 : Nat)).1 (pda4 s)), .nili], none) := h3
        generalize by6R (bAt s 1 : Nat) 0 ((bAt s 8 : Nat) - 1 : Int) fr6 to6 [] fg i at2 mo2 (proto46 (bAt s 9 : Nat)).1 (pda4 s) = Y at h3
        have e1 : IntKind.i64.wrap (((bAt s 8 : Nat) : Int) - 1) = ((bAt s 8 : Nat) : Int) - 1 := wrap_id (by omega) (by omega)
        have e2 : (0 : Int) < ((bAt s 8 : Nat) : Int) - 1 := by omega
        rcases hI.cs with ⟨z1, z2, z3, z4, z5⟩ | ⟨z1, z2, z3, z4, z5, z6⟩
        · subst z1 z4 z5
          have e3 : IntKind.i64.wrap i = ((wAt s 4 : Nat) : Int) := by
            rw [z3, wrap_u32 (by omega), wrap_id (by omega) (by omega)]
          by_cases z7 : pmo4 s = true
          · rw [z7] at h1 h2 h3
            simp only [go_sem, ↓reduceIte, reduceCtorEq, upd_ne, back_new (no_at), Nat.reduceAdd, Nat.reduceEqDiff, Nat.reduceMul, Nat.reduceSub, Nat.reduceLeDiff, Nat.reduceLT, Int.reduceToNat, Int.reduceLE, Int.reduceLT, Int.reduceEq, UInt8.reduceOfNat, hf6, ht6, ha, c, h1, h2, h3, hfr, hto, e1, e2, e3, beq_self_eq_true]
          · have z7' : pmo4 s = false := by cases hq : pmo4 s; rfl; exact absurd hq z7
            have z8 : 0 < pat4 s := by
              rcases z2 with q | q
              · exact absurd q z7
              · omega
            rw [z7'] at h1 h2 h3
            simp only [go_sem, ↓reduceIte, reduceCtorEq, upd_ne, back_new (no_at), Nat.reduceAdd, Nat.reduceEqDiff, Nat.reduceMul, Nat.reduceSub, Nat.reduceLeDiff, Nat.reduceLT, Int.reduceToNat, Int.reduceLE, Int.reduceLT, Int.reduceEq, UInt8.reduceOfNat, hf6, ht6, ha, c, h1, h2, h3, hfr, hto, e1, e2, e3, z8, beq_self_eq_true]
        · subst z1
          have z8 : ¬ 0 < pat4 s := by omega
          rw [z2] at h1 h2
          simp only [go_sem, ↓reduceIte, reduceCtorEq, upd_ne, back_new (no_at), Nat.reduceAdd, Nat.reduceEqDiff, Nat.reduceMul, Nat.reduceSub, Nat.reduceLeDiff, Nat.reduceLT, Int.reduceToNat, Int.reduceLE, Int.reduceLT, Int.reduceEq, UInt8.reduceOfNat, hf6, ht6, ha, c, h1, h2, h3, hfr, hto, e1, e2, z8, beq_self_eq_true]
      · rw [if_neg c2] at h2
        simp only [go_sem, ↓reduceIte, reduceCtorEq, upd_ne, back_new (no_at), Nat.reduceAdd, Nat.reduceEqDiff, Nat.reduceMul, Nat.reduceSub, Nat.reduceLeDiff, Nat.reduceLT, Int.reduceToNat, Int.reduceLE, Int.reduceLT, Int.reduceEq, UInt8.reduceOfNat, hf6, ht6, ha, c, h1, h2, hfr, hto]
    · rw [q4_none ck] at h1
      simp only [fE, if_neg ck] at h1
      simp only [go_sem, ↓reduceIte, reduceCtorEq, upd_ne, back_new (no_at), Nat.reduceAdd, Nat.reduceEqDiff, Nat.reduceMul, Nat.reduceSub, Nat.reduceLeDiff, Nat.reduceLT, Int.reduceToNat, Int.reduceLE, Int.reduceLT, Int.reduceEq, UInt8.reduceOfNat, hf6, ht6, ha, c, h1]
theorem ev_Head46Blind {vs : List LV} (h : fitVL [shpIp4, .bytes 16, .bytes 16] vs) : S.ev (n + 5) id_interpreterlaw12_Head46Blind vs none = some (.bool true, none) := by
  obtain ⟨a, r, e, g0, q0⟩ := fit_cons h; clear h; subst e; obtain ⟨tos, id, ttl, pt, at', df, mo, fr, to, op, da, rfl, hp⟩ := fit_ip4 g0; clear g0
  obtain ⟨a, r, e, g1, q1⟩ := fit_cons q0; clear q0; subst e; obtain ⟨fr6, rfl, hf6⟩ := fit_bytes g1; clear g1
  obtain ⟨a, r, e, g2, q2⟩ := fit_cons q1; clear q1; subst e; obtain ⟨to6, rfl, ht6⟩ := fit_bytes g2; clear g2
  obtain rfl := fit_nil q2
  rw [Sys.step hS.h_interpreterlaw12_Head46Blind, F_interpreterlaw12_Head46Blind_eq]
  unfold F_interpreterlaw12_Head46Blind
  have ha := ev_awake12 hS n
  have hfr := hp.hfr
  have hto := hp.hto
  have hp2 : FitIp4 tos id ttl pt at' to fr op da := ⟨hp.htos, hp.hid, hp.httl, hp.hpt, hp.hat, hto, hfr, hp.hop, hp.hda⟩
  have hp3 : FitIp4 tos id ttl pt at' to fr [] da := ⟨hp.htos, hp.hid, hp.httl, hp.hpt, hp.hat, hto, hfr, by simp, hp.hda⟩
  have h1 := ev_head46 hS (n + 1) (df := df) (mo := mo) hp fr6 to6 hf6 ht6
  have h2 := ev_head46 hS (n + 1) (df := !df) (mo := mo) hp2 fr6 to6 hf6 ht6
  have h3 := ev_head46 hS (n + 1) (df := !df) (mo := mo) hp3 fr6 to6 hf6 ht6
  rw [routeS_nil'] at h3
  obtain ⟨fg, i, at2, mo2, hI⟩ := is46 tos id ttl pt at' mo fr6 to6 da
  rw [hI.eq] at h1 h2 h3
  have hz : FitIp6 0 0 0 z16 z16 [] 0 0 0 [] := ⟨⟨by omega, by omega⟩, ⟨by omega, by omega⟩, ⟨by omega, by omega⟩, rfl, rfl, by simp, by simp, ⟨by omega, by omega⟩, ⟨by omega, by omega⟩, ⟨by omega, by omega⟩, by simp⟩
  have b0 := ev_bytes6 hS n (fg := false) (mo := false) hz
  have b0 : S.ev (n + 4) id_ip6_Bytes [zero6] none = some (.tup [.str (by6R 0 0 0 z16 z16 [] false 0 0 false 0 []), fE (why6 0 0 0 [] false 0 0 false 0 [])], none) := b0
  rw [show why6 0 0 0 [] false 0 0 false 0 [] = 10 by decide] at b0
  generalize by6R 0 0 0 z16 z16 [] false 0 0 false 0 [] = Z at b0
  have u10 : fE 10 = faultLV 10 := rfl
  rw [u10] at b0
  (try simp only [guard_merge, or_merge, and_merge, or_pick, and_pick, guard_or, guard_and]); simp only [to_ob]
  by_cases c : 70000 < (da.length : Int) ∨ 1000 < (op.length : Int)
  · simp (maxSteps := 4000000) only [go_sem, ↓reduceIte, reduceCtorEq, upd_ne, back_new (no_at), Nat.reduceAdd, Nat.reduceEqDiff, Nat.reduceMul, Nat.reduceSub, Nat.reduceLeDiff, Nat.reduceLT, Int.reduceToNat, Int.reduceLE, Int.reduceLT, Int.reduceEq, UInt8.reduceOfNat, hf6, ht6, ha, c, hfr, hto]
  · by_cases c2 : why46 tos ttl pt (some false) = 0
    · rw [if_pos c2] at h3
      obtain ⟨w1, w2, w3, w4, w5⟩ := why46_ok c2
      have hfit := is46_fit hI hf6 ht6 hp.htos ⟨w1, w2⟩ hp.hpt hp.hat hp.hda
      have b1 := ev_bytes6 hS n (fg := fg) (mo := mo2) hfit
      generalize by6R tos 0 (ttl - 1) fr6 to6 [] fg i at2 mo2 (proto46 pt).1 da = Y at b1
      generalize why6 tos 0 (ttl - 1) [] fg i at2 mo2 (proto46 pt).1 da = y at b1
      have b1 : S.ev (n + 4) id_ip6_Bytes [ip6LV tos 0 (ttl - 1) fr6 to6 (.lst none []) fg i at2 mo2 (proto46 pt).1 da] none = some (.tup [.str Y, fE y], none) := b1
      by_cases c1 : why46 tos ttl pt (routeS op false) = 0
      · rw [if_pos c1] at h1 h2
        by_cases cy : y = 0
        · rw [cy, show fE 0 = .nili from rfl] at b1
          simp (maxSteps := 4000000) only [go_sem, ↓reduceIte, reduceCtorEq, upd_ne, back_new (no_at), Nat.reduceAdd, Nat.reduceEqDiff, Nat.reduceMul, Nat.reduceSub, Nat.reduceLeDiff, Nat.reduceLT, Int.reduceToNat, Int.reduceLE, Int.reduceLT, Int.reduceEq, UInt8.reduceOfNat, hf6, ht6, ha, c, hfr, hto, h1, h2, h3, b1, beq_self_eq_true, bne_self_eq_false]
        · simp only [fE, if_neg cy] at b1
          simp (maxSteps := 4000000) only [go_sem, ↓reduceIte, reduceCtorEq, upd_ne, back_new (no_at), Nat.reduceAdd, Nat.reduceEqDiff, Nat.reduceMul, Nat.reduceSub, Nat.reduceLeDiff, Nat.reduceLT, Int.reduceToNat, Int.reduceLE, Int.reduceLT, Int.reduceEq, UInt8.reduceOfNat, hf6, ht6, ha, c, hfr, hto, h1, h2, h3, b1, beq_self_eq_true, bne_self_eq_false]
      · rw [if_neg c1] at h1 h2
        by_cases cy : y = 0
        · rw [cy, show fE 0 = .nili from rfl] at b1
          simp (maxSteps := 4000000) only [go_sem, ↓reduceIte, reduceCtorEq, upd_ne, back_new (no_at), Nat.reduceAdd, Nat.reduceEqDiff, Nat.reduceMul, Nat.reduceSub, Nat.reduceLeDiff, Nat.reduceLT, Int.reduceToNat, Int.reduceLE, Int.reduceLT, Int.reduceEq, UInt8.reduceOfNat, hf6, ht6, ha, c, hfr, hto, h1, h2, h3, b0, b1, beq_self_eq_true, bne_self_eq_false]
        · simp only [fE, if_neg cy] at b1
          simp (maxSteps := 4000000) only [go_sem, ↓reduceIte, reduceCtorEq, upd_ne, back_new (no_at), Nat.reduceAdd, Nat.reduceEqDiff, Nat.reduceMul, Nat.reduceSub, Nat.reduceLeDiff, Nat.reduceLT, Int.reduceToNat, Int.reduceLE, Int.reduceLT, Int.reduceEq, UInt8.reduceOfNat, hf6, ht6, ha, c, hfr, hto, h1, h2, h3, b0, b1, beq_self_eq_true, bne_self_eq_false]
    · have c1 : ¬ why46 tos ttl pt (routeS op false) = 0 := fun q => c2 (why46_less q)
      rw [if_neg c1] at h1 h2
      rw [if_neg c2] at h3
      simp (maxSteps := 4000000) only [go_sem, ↓reduceIte, reduceCtorEq, upd_ne, back_new (no_at), Nat.reduceAdd, Nat.reduceEqDiff, Nat.reduceMul, Nat.reduceSub, Nat.reduceLeDiff, Nat.reduceLT, Int.reduceToNat, Int.reduceLE, Int.reduceLT, Int.reduceEq, UInt8.reduceOfNat, hf6, ht6, ha, c, hfr, hto, h1, h2, h3, b0, beq_self_eq_true, bne_self_eq_false]
end
end Go.Ev
