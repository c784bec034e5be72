/- Part 6 of a proof: what the functions yield. It stands by itself; no condition. -/
import Derived.Test.YtbhaeahfgiiaiaaE2
import Derived.Test.YtbhaeahfgiiaiaaE5
/- Layer 12: source routes in IPv4's options. -/
namespace Go.Ev
set_option linter.unusedSimpArgs false
set_option linter.unusedVariables false
set_option maxRecDepth 4000

/-- Is there a source route that is not used up? 'none': broken. -/
def routeS (s : List UInt8) (r : Bool) : Option Bool :=
  match s with
  | [] => some r
  | a :: t =>
    if (a.toNat : Int) = 0 then some r
    else if (a.toNat : Int) = 1 then routeS t r
    else match t with
    | [] => none
    | b :: u =>
      if h : (b.toNat : Int) < 2 ∨ ((u.length + 1 + 1 : Nat) : Int) < (b.toNat : Int) then none
      else if (a.toNat : Int) = 131 ∨ (a.toNat : Int) = 137 then
        if (b.toNat : Int) < 3 then none else routeS ((a :: b :: u).drop b.toNat) (r || decide (((u.headD 0).toNat : Int) ≤ (b.toNat : Int)))
      else routeS ((a :: b :: u).drop b.toNat) r
termination_by s.length
decreasing_by
  all_goals simp
  all_goals omega


section
variable {S : Sys} (hS : Has S) (n : Nat)
include hS

theorem ev_fault4 (c : Int) : S.ev (n + 1) id_ip4_fault [.int .i64 c] none = some (faultLV c, none) := by
  rw [Sys.step hS.h_ip4_fault, F_ip4_fault_eq]
  unfold F_ip4_fault
  simp only [to_ob]
  simp only [go_sem, ↓reduceIte, reduceCtorEq, upd_ne, back_new (no_at), Nat.reduceAdd, Nat.reduceEqDiff, Nat.reduceMul, Nat.reduceSub, Nat.reduceLeDiff, Nat.reduceLT, Int.reduceToNat, Int.reduceLE, Int.reduceLT, Int.reduceEq, UInt8.reduceOfNat]

def routeR : Option Bool → LV
  | some b => .tup [.bool b, .nili]
  | none => .tup [.bool false, faultLV 8]

theorem ev_routed4 (s : List UInt8) : S.ev (n + 2) id_ip4_Routed [.str s] none = some (routeR (routeS s false), none) := by
  rw [Sys.step hS.h_ip4_Routed, F_ip4_Routed_eq]
  unfold F_ip4_Routed
  have hfa := ev_fault4 hS n
  (try simp only [guard_merge, or_merge, and_merge, or_pick, and_pick, guard_or, guard_and]); simp only [to_ob]
  refine while_rule (fun m q => ∃ t r, q = ([.str t, .bool false, .nili, .bool r], noSlots) ∧ m = t.length ∧ routeS t r = routeS s false) s.length ⟨s, false, rfl, rfl, rfl⟩ ?_
  rintro m q ⟨t, r, rfl, rfl, hr⟩
  rw [routeS.eq_def] at hr
  cases t with
  | nil =>
    simp only at hr
    simp only [go_sem, ↓reduceIte, reduceCtorEq, upd_ne, back_new (no_at), Nat.reduceAdd, Nat.reduceEqDiff, Nat.reduceMul, Nat.reduceSub, Nat.reduceLeDiff, Nat.reduceLT, Int.reduceToNat, Int.reduceLE, Int.reduceLT, Int.reduceEq, UInt8.reduceOfNat, Nxt, exIf, ← hr, routeR, not_true_eq_false]
    done
  | cons a t =>
    simp only at hr
    have ret : ∀ r' : List LV × Slots, r'.1 = [.str (a :: t), .bool false, faultLV 8, .bool r] → none = routeS s false → Nxt (fun m q => ∃ t r, q = ([LV.str t, LV.bool false, LV.nili, LV.bool r], noSlots) ∧ m = t.length ∧ routeS t r = routeS s false) (t.length + 1)
        (fun r3 : Ex × List LV × Slots => exIf r3.1 (Ex.exit 0) (pr.fin none r3.2.2 [getL r3.2.1 3, LV.nili]) (exIf r3.1 Ex.ret (pr.fin none r3.2.2 [getL r3.2.1 1, getL r3.2.1 2]) (exIf r3.1 Ex.ret (pr.fin none r3.2.2 [getL r3.2.1 1, getL r3.2.1 2]) none)))
        (some (routeR (routeS s false), none)) (some (Sum.inr (Ex.ret, r'))) := by
      intro r' h1 h2
      obtain ⟨q1, q2⟩ := r'
      simp only at h1
      subst h1
      rw [← h2]
      simp only [Nxt, exIf, go_sem, ↓reduceIte, reduceCtorEq, upd_ne, back_new (no_at), Nat.reduceAdd, Nat.reduceEqDiff, Nat.reduceMul, Nat.reduceSub, Nat.reduceLeDiff, Nat.reduceLT, Int.reduceToNat, Int.reduceLE, Int.reduceLT, Int.reduceEq, UInt8.reduceOfNat, routeR]
    by_cases h0 : (a.toNat : Int) = 0
    · simp only [h0, if_true] at hr
      simp only [go_sem, ↓reduceIte, reduceCtorEq, upd_ne, back_new (no_at), Nat.reduceAdd, Nat.reduceEqDiff, Nat.reduceMul, Nat.reduceSub, Nat.reduceLeDiff, Nat.reduceLT, Int.reduceToNat, Int.reduceLE, Int.reduceLT, Int.reduceEq, UInt8.reduceOfNat, List.getElem?_map, Int.toNat_natCast, h0, not_true_eq_false, Nxt, exIf, ← hr, routeR]
    · by_cases h1 : (a.toNat : Int) = 1
      · simp only [h0, h1, if_true, if_false] at hr
        simp only [go_sem, ↓reduceIte, reduceCtorEq, upd_ne, back_new (no_at), Nat.reduceAdd, Nat.reduceEqDiff, Nat.reduceMul, Nat.reduceSub, Nat.reduceLeDiff, Nat.reduceLT, Int.reduceToNat, Int.reduceLE, Int.reduceLT, Int.reduceEq, UInt8.reduceOfNat, List.getElem?_map, Int.toNat_natCast, h0, h1, not_true_eq_false]
        exact ⟨t.length, by omega, t, r, rfl, rfl, by simpa using hr⟩
      · cases t with
        | nil =>
          simp only [h0, h1, if_false] at hr
          have := ret ([.str [a], .bool false, faultLV 8, .bool r], noSlots) rfl hr
          simp only [go_sem, ↓reduceIte, reduceCtorEq, upd_ne, back_new (no_at), Nat.reduceAdd, Nat.reduceEqDiff, Nat.reduceMul, Nat.reduceSub, Nat.reduceLeDiff, Nat.reduceLT, Int.reduceToNat, Int.reduceLE, Int.reduceLT, Int.reduceEq, UInt8.reduceOfNat, List.getElem?_map, Int.toNat_natCast, h0, h1, hfa] at this ⊢
          exact this
        | cons b u =>
          simp only [h0, h1, if_false] at hr
          have hr0 := ret ([.str (a :: b :: u), .bool false, faultLV 8, .bool r], noSlots) rfl
          have e2 : ¬ (((u.length + 1 + 1 : Nat) : Int) < 2) := by omega
          have hb := b.toNat_lt
          have ew : IntKind.i64.wrap (b.toNat : Int) = (b.toNat : Int) := wrap_id (by omega) (by omega)
          by_cases h2 : (b.toNat : Int) < 2 ∨ ((u.length + 1 + 1 : Nat) : Int) < (b.toNat : Int)
          · rw [dif_pos h2] at hr
            have := hr0 hr
            simp only [go_sem, ↓reduceIte, reduceCtorEq, upd_ne, back_new (no_at), Nat.reduceAdd, Nat.reduceEqDiff, Nat.reduceMul, Nat.reduceSub, Nat.reduceLeDiff, Nat.reduceLT, Int.reduceToNat, Int.reduceLE, Int.reduceLT, Int.reduceEq, UInt8.reduceOfNat, List.getElem?_map, Int.toNat_natCast, h0, h1, hfa, e2, ew, h2] at this ⊢
            exact this
          · rw [dif_neg h2] at hr
            have h2' := not_or.1 h2
            have hle : b.toNat ≤ u.length + 1 + 1 := by omega
            by_cases h3 : (a.toNat : Int) = 131 ∨ (a.toNat : Int) = 137
            · by_cases h4 : (b.toNat : Int) < 3
              · simp only [h3, h4, if_true] at hr
                have := hr0 hr
                simp only [go_sem, ↓reduceIte, reduceCtorEq, upd_ne, back_new (no_at), Nat.reduceAdd, Nat.reduceEqDiff, Nat.reduceMul, Nat.reduceSub, Nat.reduceLeDiff, Nat.reduceLT, Int.reduceToNat, Int.reduceLE, Int.reduceLT, Int.reduceEq, UInt8.reduceOfNat, List.getElem?_map, Int.toNat_natCast, h0, h1, hfa, e2, ew, h2, h3, h4] at this ⊢
                exact this
              · cases u with
                | nil => simp at hle; omega
                | cons c v =>
                  simp only [h3, h4, if_true, if_false] at hr
                  simp only [List.length_cons] at hle h2' hr
                  have f1 : ¬ (((v.length + 1 + 1 + 1 : Nat) : Int) < 2) := by omega
                  have f2 : ¬ (b.toNat : Int) < 2 := h2'.1
                  have f3 : ¬ ((v.length + 1 + 1 + 1 : Nat) : Int) < (b.toNat : Int) := h2'.2
                  simp only [go_sem, ↓reduceIte, reduceCtorEq, upd_ne, back_new (no_at), Nat.reduceAdd, Nat.reduceEqDiff, Nat.reduceMul, Nat.reduceSub, Nat.reduceLeDiff, Nat.reduceLT, Int.reduceToNat, Int.reduceLE, Int.reduceLT, Int.reduceEq, UInt8.reduceOfNat, List.getElem?_map, Int.toNat_natCast, h0, h1, hfa, ew, h3, h4, f1, f2, f3, hle, or_self] at hr ⊢
                  refine ⟨_, ?_, _, _, rfl, rfl, hr⟩
                  simp
                  omega
            · simp only [h3, if_false] at hr
              simp only [go_sem, ↓reduceIte, reduceCtorEq, upd_ne, back_new (no_at), Nat.reduceAdd, Nat.reduceEqDiff, Nat.reduceMul, Nat.reduceSub, Nat.reduceLeDiff, Nat.reduceLT, Int.reduceToNat, Int.reduceLE, Int.reduceLT, Int.reduceEq, UInt8.reduceOfNat, List.getElem?_map, Int.toNat_natCast, h0, h1, hfa, e2, ew, h2, h3] at hle hr ⊢
              simp only [go_sem, ↓reduceIte, reduceCtorEq, upd_ne, back_new (no_at), Nat.reduceAdd, Nat.reduceEqDiff, Nat.reduceMul, Nat.reduceSub, Nat.reduceLeDiff, Nat.reduceLT, Int.reduceToNat, Int.reduceLE, Int.reduceLT, Int.reduceEq, UInt8.reduceOfNat, hle]
              refine ⟨_, ?_, _, _, rfl, rfl, hr⟩
              simp
              omega

def routeR' : Option Bool → LV
  | some b => .tup [.bool b, .int .i64 0]
  | none => .tup [.bool false, .int .i64 8]

theorem ev_routed3 (s : List UInt8) (hs : s.length ≤ 140737488351232) : S.ev (n + 1) id_interpreterref03_Routed [.str s] none = some (routeR' (routeS s false), none) := by
  rw [Sys.step hS.h_interpreterref03_Routed, F_interpreterref03_Routed_eq]
  unfold F_interpreterref03_Routed
  (try simp only [guard_merge, or_merge, and_merge, or_pick, and_pick, guard_or, guard_and]); simp only [to_ob]
  refine while_rule (fun m q => ∃ i r, q = ([.int .i64 ((i : Nat) : Int), .bool false, .int .i64 0, .bool r], noSlots) ∧ i ≤ s.length ∧ m = s.length - i ∧ routeS (s.drop i) r = routeS s false) s.length ⟨0, false, rfl, by simp, by simp, by simp⟩ ?_
  rintro m q ⟨i, r, rfl, hi, rfl, hr⟩
  rw [routeS.eq_def] at hr
  have ret : ∀ r' : List LV × Slots, r'.1 = [.int .i64 ((i : Nat) : Int), .bool false, .int .i64 8, .bool r] → none = routeS s false → ∀ I : Nat → List LV × Slots → Prop, Nxt I (s.length - i)
      (fun r3 : Ex × List LV × Slots => exIf r3.1 (Ex.exit 0) (pr.fin none r3.2.2 [getL r3.2.1 3, .int .i64 0]) (exIf r3.1 Ex.ret (pr.fin none r3.2.2 [getL r3.2.1 1, getL r3.2.1 2]) (exIf r3.1 Ex.ret (pr.fin none r3.2.2 [getL r3.2.1 1, getL r3.2.1 2]) none)))
      (some (routeR' (routeS s false), none)) (some (Sum.inr (Ex.ret, r'))) := by
    intro r' h1 h2 I
    obtain ⟨q1, q2⟩ := r'
    simp only at h1
    subst h1
    rw [← h2]
    simp only [Nxt, exIf, go_sem, ↓reduceIte, reduceCtorEq, upd_ne, back_new (no_at), Nat.reduceAdd, Nat.reduceEqDiff, Nat.reduceMul, Nat.reduceSub, Nat.reduceLeDiff, Nat.reduceLT, Int.reduceToNat, Int.reduceLE, Int.reduceLT, Int.reduceEq, UInt8.reduceOfNat, routeR']
  have get : ∀ (k : Nat) (c : UInt8), (s.drop i)[k]? = some c → s[i + k]? = some c := fun k c h => by rw [List.getElem?_drop] at h; exact h
  generalize ht : s.drop i = t at hr get
  have hlen : s.length = i + t.length := by rw [← ht]; simp; omega
  cases t with
  | nil =>
    simp only at hr
    simp only [List.length_nil, Nat.add_zero] at hlen
    have e : ¬ ((i : Int) < (s.length : Int)) := by omega
    simp only [go_sem, ↓reduceIte, reduceCtorEq, upd_ne, back_new (no_at), Nat.reduceAdd, Nat.reduceEqDiff, Nat.reduceMul, Nat.reduceSub, Nat.reduceLeDiff, Nat.reduceLT, Int.reduceToNat, Int.reduceLE, Int.reduceLT, Int.reduceEq, UInt8.reduceOfNat, Nxt, exIf, ← hr, routeR', e]
  | cons a t =>
    simp only at hr
    simp only [List.length_cons] at hlen
    have ga : s[i]? = some a := get 0 a rfl
    have f0 : (i : Int) < (s.length : Int) := by omega
    have e1 : IntKind.i64.wrap ((i : Int) + 1) = ((i + 1 : Nat) : Int) := by rw [wrap_id (by omega) (by omega)]; rfl
    have e2 : IntKind.i64.wrap ((i : Int) + 2) = ((i + 2 : Nat) : Int) := by rw [wrap_id (by omega) (by omega)]; rfl
    have d1 : s.drop (i + 1) = t := by rw [← List.drop_drop, ht]; rfl
    by_cases h0 : (a.toNat : Int) = 0
    · simp only [h0, if_true] at hr
      simp only [go_sem, ↓reduceIte, reduceCtorEq, upd_ne, back_new (no_at), Nat.reduceAdd, Nat.reduceEqDiff, Nat.reduceMul, Nat.reduceSub, Nat.reduceLeDiff, Nat.reduceLT, Int.reduceToNat, Int.reduceLE, Int.reduceLT, Int.reduceEq, UInt8.reduceOfNat, List.getElem?_map, Int.toNat_natCast, h0, f0, ga, not_true_eq_false, Nxt, exIf, ← hr, routeR']
    · by_cases h1 : (a.toNat : Int) = 1
      · simp only [h0, h1, if_true, if_false] at hr
        simp only [go_sem, ↓reduceIte, reduceCtorEq, upd_ne, back_new (no_at), Nat.reduceAdd, Nat.reduceEqDiff, Nat.reduceMul, Nat.reduceSub, Nat.reduceLeDiff, Nat.reduceLT, Int.reduceToNat, Int.reduceLE, Int.reduceLT, Int.reduceEq, UInt8.reduceOfNat, List.getElem?_map, Int.toNat_natCast, h0, h1, f0, ga, e1, not_true_eq_false]
        exact ⟨s.length - (i + 1), by omega, i + 1, r, rfl, by omega, rfl, by rw [d1]; simpa using hr⟩
      · cases t with
        | nil =>
          simp only [h0, h1, if_false] at hr
          simp only [List.length_nil] at hlen
          have g1 : ((s.length : Nat) : Int) ≤ ((i + 1 : Nat) : Int) := by omega
          have := ret ([.int .i64 ((i : Nat) : Int), .bool false, .int .i64 8, .bool r], noSlots) rfl hr
          simp only [go_sem, ↓reduceIte, reduceCtorEq, upd_ne, back_new (no_at), Nat.reduceAdd, Nat.reduceEqDiff, Nat.reduceMul, Nat.reduceSub, Nat.reduceLeDiff, Nat.reduceLT, Int.reduceToNat, Int.reduceLE, Int.reduceLT, Int.reduceEq, UInt8.reduceOfNat, List.getElem?_map, Int.toNat_natCast, h0, h1, f0, ga, e1, g1] at this ⊢
          exact this _
        | cons b u =>
          simp only [h0, h1, if_false] at hr
          simp only [List.length_cons] at hlen
          have hr0 := ret ([.int .i64 ((i : Nat) : Int), .bool false, .int .i64 8, .bool r], noSlots) rfl
          have gb : s[i + 1]? = some b := get 1 b rfl
          have g1 : ¬ ((s.length : Nat) : Int) ≤ ((i + 1 : Nat) : Int) := by omega
          have hb := b.toNat_lt
          have ew : IntKind.i64.wrap (b.toNat : Int) = (b.toNat : Int) := wrap_id (by omega) (by omega)
          have e3 : IntKind.i64.wrap ((i : Int) + (b.toNat : Int)) = ((i + b.toNat : Nat) : Int) := by rw [wrap_id (by omega) (by omega)]; rfl
          by_cases h2 : (b.toNat : Int) < 2 ∨ ((u.length + 1 + 1 : Nat) : Int) < (b.toNat : Int)
          · rw [dif_pos h2] at hr
            have := hr0 hr
            have h2' : (b.toNat : Int) < 2 ∨ ((s.length : Nat) : Int) < ((i + b.toNat : Nat) : Int) := by omega
            simp only [go_sem, ↓reduceIte, reduceCtorEq, upd_ne, back_new (no_at), Nat.reduceAdd, Nat.reduceEqDiff, Nat.reduceMul, Nat.reduceSub, Nat.reduceLeDiff, Nat.reduceLT, Int.reduceToNat, Int.reduceLE, Int.reduceLT, Int.reduceEq, UInt8.reduceOfNat, List.getElem?_map, Int.toNat_natCast, h0, h1, f0, ga, e1, g1, gb, ew, e3, h2'] at this ⊢
            exact this _
          · rw [dif_neg h2] at hr
            have h2' := not_or.1 h2
            have f2 : ¬ (b.toNat : Int) < 2 := h2'.1
            have f3 : ¬ ((s.length : Nat) : Int) < ((i + b.toNat : Nat) : Int) := by omega
            have dk : s.drop (i + b.toNat) = (a :: b :: u).drop b.toNat := by rw [← List.drop_drop, ht]
            by_cases h3 : (a.toNat : Int) = 131 ∨ (a.toNat : Int) = 137
            · by_cases h4 : (b.toNat : Int) < 3
              · simp only [h3, h4, if_true] at hr
                have := hr0 hr
                simp only [go_sem, ↓reduceIte, reduceCtorEq, upd_ne, back_new (no_at), Nat.reduceAdd, Nat.reduceEqDiff, Nat.reduceMul, Nat.reduceSub, Nat.reduceLeDiff, Nat.reduceLT, Int.reduceToNat, Int.reduceLE, Int.reduceLT, Int.reduceEq, UInt8.reduceOfNat, List.getElem?_map, Int.toNat_natCast, h0, h1, f0, ga, e1, g1, gb, ew, e3, f2, f3, h3, h4, or_self] at this ⊢
                exact this _
              · cases u with
                | nil => simp at hlen; omega
                | cons c v =>
                  have gc : s[i + 2]? = some c := get 2 c rfl
                  simp only [h3, h4, if_true, if_false, List.headD_cons] at hr
                  simp only [go_sem, ↓reduceIte, reduceCtorEq, upd_ne, back_new (no_at), Nat.reduceAdd, Nat.reduceEqDiff, Nat.reduceMul, Nat.reduceSub, Nat.reduceLeDiff, Nat.reduceLT, Int.reduceToNat, Int.reduceLE, Int.reduceLT, Int.reduceEq, UInt8.reduceOfNat, List.getElem?_map, Int.toNat_natCast, h0, h1, f0, ga, e1, e2, g1, gb, gc, ew, e3, f2, f3, h3, h4, or_self]
                  have fin : ∀ r2, r2 = (r || decide ((c.toNat : Int) ≤ (b.toNat : Int))) → routeS ((a :: b :: c :: v).drop b.toNat) r2 = routeS s false := fun r2 e => by rw [e]; exact hr
                  refine nxt_ite (fun h5 => ?_) (fun h5 => ?_)
                  · exact ⟨s.length - (i + b.toNat), by omega, i + b.toNat, true, rfl, by omega, rfl, by rw [dk]; exact fin _ (by simp [h5])⟩
                  · exact ⟨s.length - (i + b.toNat), by omega, i + b.toNat, r, rfl, by omega, rfl, by rw [dk]; exact fin _ (by simp [h5])⟩
            · simp only [h3, if_false] at hr
              simp only [go_sem, ↓reduceIte, reduceCtorEq, upd_ne, back_new (no_at), Nat.reduceAdd, Nat.reduceEqDiff, Nat.reduceMul, Nat.reduceSub, Nat.reduceLeDiff, Nat.reduceLT, Int.reduceToNat, Int.reduceLE, Int.reduceLT, Int.reduceEq, UInt8.reduceOfNat, List.getElem?_map, Int.toNat_natCast, h0, h1, f0, ga, e1, g1, gb, ew, e3, f2, f3, h3, or_self]
              exact ⟨s.length - (i + b.toNat), by omega, i + b.toNat, r, rfl, by omega, rfl, by rw [dk]; exact hr⟩
end
end Go.Ev

/- Layer 12: heads. -/
namespace Go.Ev
set_option linter.unusedSimpArgs false
set_option linter.unusedVariables false
set_option maxRecDepth 4000
set_option maxHeartbeats 1000000

def proto46 (x : Int) : Int × Bool := if x = 1 then (58, true) else if x ≤ 0 ∨ x = 2 ∨ x = 43 ∨ x = 44 ∨ x = 58 ∨ x = 60 ∨ 255 < x then (0, false) else (x, true)

section
variable {S : Sys} (hS : Has S) (n : Nat)
include hS
theorem ev_proto4 (x : Int) : S.ev (n + 1) id_head46_Proto [.int .i64 x] none = some (.tup [.int .i64 (proto46 x).1, .bool (proto46 x).2], none) := by
  rw [Sys.step hS.h_head46_Proto, F_head46_Proto_eq]
  unfold F_head46_Proto
  simp only [guard_merge, or_merge, and_merge, or_pick, and_pick, guard_or, guard_and]
  simp only [to_ob]
  simp only [go_sem, ↓reduceIte, reduceCtorEq, upd_ne, back_new (no_at), Nat.reduceAdd, Nat.reduceEqDiff, Nat.reduceMul, Nat.reduceSub, Nat.reduceLeDiff, Nat.reduceLT, Int.reduceToNat, Int.reduceLE, Int.reduceLT, Int.reduceEq, UInt8.reduceOfNat]
  unfold proto46
  repeat' split
  all_goals first | rfl | omega
theorem ev_rproto4 (x : Int) : S.ev (n + 1) id_interpreterref12_Proto [.int .i64 x] none = some (.tup [.int .i64 (proto46 x).1, .bool (proto46 x).2], none) := by
  rw [Sys.step hS.h_interpreterref12_Proto, F_interpreterref12_Proto_eq]
  unfold F_interpreterref12_Proto
  simp only [guard_merge, or_merge, and_merge, or_pick, and_pick, guard_or, guard_and]
  simp only [to_ob]
  simp only [go_sem, ↓reduceIte, reduceCtorEq, upd_ne, back_new (no_at), Nat.reduceAdd, Nat.reduceEqDiff, Nat.reduceMul, Nat.reduceSub, Nat.reduceLeDiff, Nat.reduceLT, Int.reduceToNat, Int.reduceLE, Int.reduceLT, Int.reduceEq, UInt8.reduceOfNat]
  unfold proto46
  repeat' split
  all_goals first | rfl | omega
theorem ev_fault46 (c : Int) : S.ev (n + 1) id_head46_fault [.int .i64 c] none = some (faultLV c, none) := by
  rw [Sys.step hS.h_head46_fault, F_head46_fault_eq]
  unfold F_head46_fault
  simp only [to_ob]
  simp only [go_sem, ↓reduceIte, reduceCtorEq, upd_ne, back_new (no_at), Nat.reduceAdd, Nat.reduceEqDiff, Nat.reduceMul, Nat.reduceSub, Nat.reduceLeDiff, Nat.reduceLT, Int.reduceToNat, Int.reduceLE, Int.reduceLT, Int.reduceEq, UInt8.reduceOfNat]

variable {tos id ttl pt at' : Int} {df mo : Bool} {fr to op da : List UInt8}

abbrev z16 : List UInt8 := [0, 0, 0, 0, 0, 0, 0, 0, 0, 0, 0, 0, 0, 0, 0, 0]
abbrev zero6 : LV := ip6LV 0 0 0 z16 z16 (.lst none []) false 0 0 false 0 []
def why46 (tos ttl pt : Int) (rs : Option Bool) : Int :=
  if ttl < 2 ∨ 255 < ttl ∨ tos < 0 ∨ 255 < tos then 13 else match rs with
    | none => 8
    | some r => if r = true ∨ (proto46 pt).2 = false then 10 else 0
def head46S (tos id ttl pt at' : Int) (mo : Bool) (fr6 to6 da : List UInt8) : LV :=
  if mo = true ∨ at' ≠ 0 then ip6LV tos 0 (ttl - 1) fr6 to6 (.lst none []) true (IntKind.u32.wrap id) at' mo (proto46 pt).1 da
  else ip6LV tos 0 (ttl - 1) fr6 to6 (.lst none []) false 0 0 false (proto46 pt).1 da

theorem ev_head46 (h : FitIp4 tos id ttl pt at' fr to op da) (fr6 to6 : List UInt8) (hf6 : fr6.length = 16) (ht6 : to6.length = 16) :
    S.ev (n + 3) id_head46_Head [ip4LV tos id ttl pt at' df mo fr to op da, .bytes fr6, .bytes to6] none =
      some (if why46 tos ttl pt (routeS op false) = 0 then .tup [head46S tos id ttl pt at' mo fr6 to6 da, .nili] else .tup [zero6, faultLV (why46 tos ttl pt (routeS op false))], none) := by
  rw [Sys.step hS.h_head46_Head, F_head46_Head_eq]
  have hrt := ev_routed4 hS n op
  have hpt := ev_proto4 hS (n + 1) pt
  have hfa := ev_fault46 hS (n + 1)
  have hf := h.hfr
  have ht := h.hto
  unfold F_head46_Head
  (try simp only [guard_merge, or_merge, and_merge, or_pick, and_pick, guard_or, guard_and]); simp only [to_ob]
  unfold why46
  by_cases c1 : ttl < 2 ∨ 255 < ttl ∨ tos < 0 ∨ 255 < tos
  · rw [if_pos c1]
    simp only [go_sem, ↓reduceIte, reduceCtorEq, upd_ne, back_new (no_at), Nat.reduceAdd, Nat.reduceEqDiff, Nat.reduceMul, Nat.reduceSub, Nat.reduceLeDiff, Nat.reduceLT, Int.reduceToNat, Int.reduceLE, Int.reduceLT, Int.reduceEq, UInt8.reduceOfNat, hf, ht, hfa, or_assoc, c1]
  · rw [if_neg c1]
    have e1 : IntKind.i64.wrap (ttl - 1) = ttl - 1 := wrap_id (by omega) (by omega)
    cases hr : routeS op false with
    | none =>
      rw [hr] at hrt
      simp only [routeR] at hrt
      simp only [go_sem, ↓reduceIte, reduceCtorEq, upd_ne, back_new (no_at), Nat.reduceAdd, Nat.reduceEqDiff, Nat.reduceMul, Nat.reduceSub, Nat.reduceLeDiff, Nat.reduceLT, Int.reduceToNat, Int.reduceLE, Int.reduceLT, Int.reduceEq, UInt8.reduceOfNat, hf, ht, hrt, or_assoc, c1]
    | some r =>
      rw [hr] at hrt
      simp only [routeR] at hrt
      simp only [go_sem, ↓reduceIte, reduceCtorEq, upd_ne, back_new (no_at), Nat.reduceAdd, Nat.reduceEqDiff, Nat.reduceMul, Nat.reduceSub, Nat.reduceLeDiff, Nat.reduceLT, Int.reduceToNat, Int.reduceLE, Int.reduceLT, Int.reduceEq, UInt8.reduceOfNat, hf, ht, hf6, ht6, hrt, hpt, hfa, e1, or_assoc, c1]
      simp only [Bool.not_eq_true']
      by_cases c2 : r = true ∨ (proto46 pt).2 = false
      · simp only [c2, if_true]; rfl
      · simp only [c2, if_false]
        unfold head46S
        split <;> rfl

theorem ev_rhead46 (h : FitIp4 tos id ttl pt at' fr to op da) (fr6 to6 : List UInt8) (hf6 : fr6.length = 16) (ht6 : to6.length = 16) :
    S.ev (n + 2) id_interpreterref12_Head [ip4LV tos id ttl pt at' df mo fr to op da, .bytes fr6, .bytes to6] none =
      some (if why46 tos ttl pt (routeS op false) = 0 then .tup [head46S tos id ttl pt at' mo fr6 to6 da, .int .i64 0] else .tup [zero6, .int .i64 (why46 tos ttl pt (routeS op false))], none) := by
  rw [Sys.step hS.h_interpreterref12_Head, F_interpreterref12_Head_eq]
  have hrt := ev_routed3 hS n op h.hop
  have hpt := ev_rproto4 hS n pt
  have hf := h.hfr
  have ht := h.hto
  unfold F_interpreterref12_Head
  (try simp only [guard_merge, or_merge, and_merge, or_pick, and_pick, guard_or, guard_and]); simp only [to_ob]
  unfold why46
  by_cases c1 : ttl < 2 ∨ 255 < ttl ∨ tos < 0 ∨ 255 < tos
  · rw [if_pos c1]
    simp only [go_sem, ↓reduceIte, reduceCtorEq, upd_ne, back_new (no_at), Nat.reduceAdd, Nat.reduceEqDiff, Nat.reduceMul, Nat.reduceSub, Nat.reduceLeDiff, Nat.reduceLT, Int.reduceToNat, Int.reduceLE, Int.reduceLT, Int.reduceEq, UInt8.reduceOfNat, hf, ht, or_assoc, c1]
  · rw [if_neg c1]
    have e1 : IntKind.i64.wrap (ttl - 1) = ttl - 1 := wrap_id (by omega) (by omega)
    cases hr : routeS op false with
    | none =>
      rw [hr] at hrt
      simp only [routeR'] at hrt
      simp only [go_sem, ↓reduceIte, reduceCtorEq, upd_ne, back_new (no_at), Nat.reduceAdd, Nat.reduceEqDiff, Nat.reduceMul, Nat.reduceSub, Nat.reduceLeDiff, Nat.reduceLT, Int.reduceToNat, Int.reduceLE, Int.reduceLT, Int.reduceEq, UInt8.reduceOfNat, hf, ht, hrt, or_assoc, c1]
    | some r =>
      rw [hr] at hrt
      simp only [routeR'] at hrt
      cases r with
      | true =>
        simp only [go_sem, ↓reduceIte, reduceCtorEq, upd_ne, back_new (no_at), Nat.reduceAdd, Nat.reduceEqDiff, Nat.reduceMul, Nat.reduceSub, Nat.reduceLeDiff, Nat.reduceLT, Int.reduceToNat, Int.reduceLE, Int.reduceLT, Int.reduceEq, UInt8.reduceOfNat, hf, ht, hf6, ht6, hrt, hpt, e1, or_assoc, c1, true_or]
      | false =>
        simp only [go_sem, ↓reduceIte, reduceCtorEq, upd_ne, back_new (no_at), Nat.reduceAdd, Nat.reduceEqDiff, Nat.reduceMul, Nat.reduceSub, Nat.reduceLeDiff, Nat.reduceLT, Int.reduceToNat, Int.reduceLE, Int.reduceLT, Int.reduceEq, UInt8.reduceOfNat, hf, ht, hf6, ht6, hrt, hpt, e1, or_assoc, c1]
        simp only [Bool.not_eq_true', Bool.false_eq_true, false_or]
        by_cases c2 : (proto46 pt).2 = false
        · simp only [c2, if_true]; rfl
        · unfold head46S
          by_cases c3 : mo = true ∨ ¬ at' = 0
          · simp only [c2, c3, ne_eq, if_true, if_false, Bool.true_eq_false]
          · simp only [c2, c3, ne_eq, if_true, if_false, Bool.true_eq_false]

theorem ev_same12_nil (c : Int) : S.ev (n + 1) id_interpreterlaw12_same [.nili, .int .i64 c] none = some (.bool (decide (c = 0)), none) := by
  rw [Sys.step hS.h_interpreterlaw12_same, F_interpreterlaw12_same_eq]
  unfold F_interpreterlaw12_same
  (try simp only [guard_merge, or_merge, and_merge, or_pick, and_pick, guard_or, guard_and]); simp only [to_ob]
  simp only [go_sem, ↓reduceIte, reduceCtorEq, upd_ne, back_new (no_at), Nat.reduceAdd, Nat.reduceEqDiff, Nat.reduceMul, Nat.reduceSub, Nat.reduceLeDiff, Nat.reduceLT, Int.reduceToNat, Int.reduceLE, Int.reduceLT, Int.reduceEq, UInt8.reduceOfNat]
  split
  · rename_i h; simp [h]
  · rename_i h; simp [h]
theorem ev_same12_f (c d : Int) : S.ev (n + 1) id_interpreterlaw12_same [faultLV c, .int .i64 d] none = some (.bool (if d = 0 then false else decide (c = d)), none) := by
  rw [Sys.step hS.h_interpreterlaw12_same, F_interpreterlaw12_same_eq]
  unfold F_interpreterlaw12_same
  (try simp only [guard_merge, or_merge, and_merge, or_pick, and_pick, guard_or, guard_and]); simp only [to_ob]
  simp only [go_sem, ↓reduceIte, reduceCtorEq, upd_ne, back_new (no_at), Nat.reduceAdd, Nat.reduceEqDiff, Nat.reduceMul, Nat.reduceSub, Nat.reduceLeDiff, Nat.reduceLT, Int.reduceToNat, Int.reduceLE, Int.reduceLT, Int.reduceEq, UInt8.reduceOfNat]
  split
  · rename_i h; simp [h]
  · rename_i h; simp [h]

/-- Two packets without extensions. -/
theorem ev_Same0 {cl fl ho : Int} {fr to : List UInt8} {fg : Bool} {id at' : Int} {mo : Bool} {pt : Int} {da : List UInt8} {cl' fl' ho' : Int} {fr' to' : List UInt8} {fg' : Bool} {id' at'' : Int} {mo' : Bool} {pt' : Int} {da' : List UInt8}
    (hf : fr.length = 16) (ht : to.length = 16) (hf' : fr'.length = 16) (ht' : to'.length = 16) :
    S.ev (n + 1) id_interpreterref04_Same [ip6LV cl fl ho fr to (.lst none []) fg id at' mo pt da, ip6LV cl' fl' ho' fr' to' (.lst none []) fg' id' at'' mo' pt' da'] none =
      some (.bool (decide (cl = cl' ∧ fl = fl' ∧ ho = ho' ∧ fr = fr' ∧ to = to' ∧ fg = fg' ∧ id = id' ∧ at' = at'' ∧ mo = mo' ∧ pt = pt' ∧ da = da')), none) := by
  rw [Sys.step hS.h_interpreterref04_Same, F_interpreterref04_Same_eq]
  unfold F_interpreterref04_Same
  (try simp only [guard_merge, or_merge, and_merge, or_pick, and_pick, guard_or, guard_and]); simp only [to_ob]
  simp only [go_sem, ↓reduceIte, reduceCtorEq, upd_ne, back_new (no_at), Nat.reduceAdd, Nat.reduceEqDiff, Nat.reduceMul, Nat.reduceSub, Nat.reduceLeDiff, Nat.reduceLT, Int.reduceToNat, Int.reduceLE, Int.reduceLT, Int.reduceEq, UInt8.reduceOfNat, hf, ht, hf', ht']
  refine while_rule (fun m q => q = ([.bool false, .int .i64 0], noSlots)) 0 rfl ?_
  rintro m q rfl
  have e0 : ¬ ((0 : Int) < ((0 : Nat) : Int)) := by decide
  simp only [go_sem, ↓reduceIte, reduceCtorEq, upd_ne, back_new (no_at), Nat.reduceAdd, Nat.reduceEqDiff, Nat.reduceMul, Nat.reduceSub, Nat.reduceLeDiff, Nat.reduceLT, Int.reduceToNat, Int.reduceLE, Int.reduceLT, Int.reduceEq, UInt8.reduceOfNat, hf, ht, hf', ht', Nxt, exIf, e0]
  congr 3
  rw [Bool.eq_iff_iff]
  simp only [Bool.and_eq_true, decide_eq_true_eq, beq_iff_eq, and_assoc]
end
end Go.Ev

/- Layer 12: the statement on heads, the examples. -/
namespace Go.Ev
set_option linter.unusedSimpArgs false
set_option linter.unusedVariables false
set_option maxRecDepth 4000
set_option maxHeartbeats 1000000

section
variable {S : Sys} (hS : Has S) (n : Nat)
include hS

theorem ev_awake12 : S.ev (n + 4) id_interpreterlaw12_awake [] none = some (.bool true, none) := by
  rw [Sys.step hS.h_interpreterlaw12_awake, F_interpreterlaw12_awake_eq]
  have hh := ev_head46 hS n (tos := 5) (id := 0) (ttl := 9) (pt := 1) (at' := 0) (df := true) (mo := false) (fr := [0, 0, 0, 0]) (to := [0, 0, 0, 0]) (op := []) (da := [104, 105]) ⟨by constructor <;> omega, by constructor <;> omega, by constructor <;> omega, by constructor <;> omega, by constructor <;> omega, rfl, rfl, by simp, by simp⟩ [1, 0, 0, 0, 0, 0, 0, 0, 0, 0, 0, 0, 0, 0, 0, 0] [2, 0, 0, 0, 0, 0, 0, 0, 0, 0, 0, 0, 0, 0, 0, 0] rfl rfl
  have hr : routeS [] false = some false := by rw [routeS]
  rw [hr] at hh
  have hy : why46 5 9 1 (some false) = 0 := by decide
  have hq : head46S 5 0 9 1 0 false [1, 0, 0, 0, 0, 0, 0, 0, 0, 0, 0, 0, 0, 0, 0, 0] [2, 0, 0, 0, 0, 0, 0, 0, 0, 0, 0, 0, 0, 0, 0, 0] [104, 105] = ip6LV 5 0 8 [1, 0, 0, 0, 0, 0, 0, 0, 0, 0, 0, 0, 0, 0, 0, 0] [2, 0, 0, 0, 0, 0, 0, 0, 0, 0, 0, 0, 0, 0, 0, 0] (.lst none []) false 0 0 false 58 [104, 105] := by rfl
  rw [hy, if_pos rfl, hq] at hh
  have hs := ev_Same0 hS (n + 2) (cl := 5) (fl := 0) (ho := 8) (fr := [1, 0, 0, 0, 0, 0, 0, 0, 0, 0, 0, 0, 0, 0, 0, 0]) (to := [2, 0, 0, 0, 0, 0, 0, 0, 0, 0, 0, 0, 0, 0, 0, 0]) (fg := false) (id := 0) (at' := 0) (mo := false) (pt := 58) (da := [104, 105])
    (cl' := 5) (fl' := 0) (ho' := 8) (fr' := [1, 0, 0, 0, 0, 0, 0, 0, 0, 0, 0, 0, 0, 0, 0, 0]) (to' := [2, 0, 0, 0, 0, 0, 0, 0, 0, 0, 0, 0, 0, 0, 0, 0]) (fg' := false) (id' := 0) (at'' := 0) (mo' := false) (pt' := 58) (da' := [104, 105]) rfl rfl rfl rfl
  unfold F_interpreterlaw12_awake
  (try simp only [guard_merge, or_merge, and_merge, or_pick, and_pick, guard_or, guard_and]); simp only [to_ob]
  simp only [go_sem, ↓reduceIte, reduceCtorEq, upd_ne, back_new (no_at), Nat.reduceAdd, Nat.reduceEqDiff, Nat.reduceMul, Nat.reduceSub, Nat.reduceLeDiff, Nat.reduceLT, Int.reduceToNat, Int.reduceLE, Int.reduceLT, Int.reduceEq, UInt8.reduceOfNat, hh, l_call, hs]

omit hS in
/-- What becomes of a head: some packet without extensions. -/
theorem head46_form (tos id ttl pt at' : Int) (mo : Bool) (fr6 to6 da : List UInt8) : ∃ a1 a2 a3 b1 i1 a4 b2 a5, head46S tos id ttl pt at' mo fr6 to6 da = ip6LV a1 a2 a3 fr6 to6 (.lst none []) b1 i1 a4 b2 a5 da := by
  unfold head46S
  split
  · exact ⟨_, _, _, _, _, _, _, _, rfl⟩
  · exact ⟨_, _, _, _, _, _, _, _, rfl⟩

theorem ev_Does46 {vs : List LV} (h : fitVL [shpIp4, .bytes 16, .bytes 16, .int .i64] vs) : S.ev (n + 5) id_interpreterlaw12_Head46Does vs none = some (.bool true, none) := by
  obtain ⟨a, r, e, g0, q0⟩ := fit_cons h; clear h; subst e; obtain ⟨tos, id, ttl, pt, at', df, mo, fr, to, op, da, rfl, hp⟩ := fit_ip4 g0; clear g0
  obtain ⟨a, r, e, g1, q1⟩ := fit_cons q0; clear q0; subst e; obtain ⟨fr6, rfl, hf6⟩ := fit_bytes g1; clear g1
  obtain ⟨a, r, e, g2, q2⟩ := fit_cons q1; clear q1; subst e; obtain ⟨to6, rfl, ht6⟩ := fit_bytes g2; clear g2
  obtain ⟨a, r, e, g4, q4⟩ := fit_cons q2; clear q2; subst e; obtain ⟨pn, rfl, hpn⟩ := fit_i64 g4; clear g4
  obtain rfl := fit_nil q4
  rw [Sys.step hS.h_interpreterlaw12_Head46Does, F_interpreterlaw12_Head46Does_eq]
  have hf := hp.hfr
  have ht := hp.hto
  have ha := ev_awake12 hS n
  have hpr := ev_proto4 hS (n + 3) pn
  have hpr' := ev_rproto4 hS (n + 3) pn
  have hh := ev_head46 hS (n + 1) (df := df) (mo := mo) hp fr6 to6 hf6 ht6
  have hh' := ev_rhead46 hS (n + 2) (df := df) (mo := mo) hp fr6 to6 hf6 ht6
  generalize why46 tos ttl pt (routeS op false) = y at hh hh'
  have hs1 := ev_same12_nil hS (n + 3) 0
  have hs2 := ev_same12_f hS (n + 3) y y
  obtain ⟨a1, a2, a3, b1, i1, a4, b2, a5, hq⟩ := head46_form tos id ttl pt at' mo fr6 to6 da
  rw [hq] at hh hh'
  have hsa := ev_Same0 hS (n + 3) (cl := a1) (fl := a2) (ho := a3) (fg := b1) (id := i1) (at' := a4) (mo := b2) (pt := a5) (da := da) (cl' := a1) (fl' := a2) (ho' := a3) (fg' := b1) (id' := i1) (at'' := a4) (mo' := b2) (pt' := a5) (da' := da) hf6 ht6 hf6 ht6
  have hsz := ev_Same0 hS (n + 3) (cl := 0) (fl := 0) (ho := 0) (fr := z16) (to := z16) (fg := false) (id := 0) (at' := 0) (mo := false) (pt := 0) (da := []) (cl' := 0) (fl' := 0) (ho' := 0) (fr' := z16) (to' := z16) (fg' := false) (id' := 0) (at'' := 0) (mo' := false) (pt' := 0) (da' := []) rfl rfl rfl rfl
  simp only [and_self, decide_true] at hsa hsz
  unfold F_interpreterlaw12_Head46Does
  (try simp only [guard_merge, or_merge, and_merge, or_pick, and_pick, guard_or, guard_and]); simp only [to_ob]
  by_cases hy : y = 0
  · rw [if_pos hy] at hh hh'
    simp only [go_sem, ↓reduceIte, reduceCtorEq, upd_ne, back_new (no_at), Nat.reduceAdd, Nat.reduceEqDiff, Nat.reduceMul, Nat.reduceSub, Nat.reduceLeDiff, Nat.reduceLT, Int.reduceToNat, Int.reduceLE, Int.reduceLT, Int.reduceEq, UInt8.reduceOfNat, hf, ht, hf6, ht6, ha, hh, hh', hs1, hpr, hpr', hsa]
    split <;> simp
  · rw [if_neg hy] at hh hh'
    simp only [hy, if_false, decide_true] at hs2
    simp only [go_sem, ↓reduceIte, reduceCtorEq, upd_ne, back_new (no_at), Nat.reduceAdd, Nat.reduceEqDiff, Nat.reduceMul, Nat.reduceSub, Nat.reduceLeDiff, Nat.reduceLT, Int.reduceToNat, Int.reduceLE, Int.reduceLT, Int.reduceEq, UInt8.reduceOfNat, hf, ht, hf6, ht6, ha, hh, hh', hs2, hpr, hpr', hsz]
    split <;> simp
end
end Go.Ev

/- Layer 12: the examples. -/
namespace Go.Ev
set_option linter.unusedSimpArgs false
set_option linter.unusedVariables false
set_option maxRecDepth 4000
set_option maxHeartbeats 2000000

theorem fit0 {tos id ttl pt at' : Int} {op da : List UInt8} (h1 : 0 ≤ tos ∧ tos ≤ 1000) (h2 : 0 ≤ id ∧ id ≤ 1000) (h3 : 0 ≤ ttl ∧ ttl ≤ 1000) (h4 : 0 ≤ pt ∧ pt ≤ 1000) (h5 : 0 ≤ at' ∧ at' ≤ 1000) (h6 : op.length ≤ 1000) (h7 : da.length ≤ 1000) :
    FitIp4 tos id ttl pt at' [0, 0, 0, 0] [0, 0, 0, 0] op da :=
  ⟨⟨by omega, by omega⟩, ⟨by omega, by omega⟩, ⟨by omega, by omega⟩, ⟨by omega, by omega⟩, ⟨by omega, by omega⟩, rfl, rfl, by omega, by omega⟩

section
variable {S : Sys} (hS : Has S) (n : Nat)
include hS
theorem ev_Known46 {vs : List LV} (h : fitVL [] vs) : S.ev (n + 5) id_interpreterlaw12_Head46Known vs none = some (.bool true, none) := by
  obtain rfl := fit_nil h
  rw [Sys.step hS.h_interpreterlaw12_Head46Known, F_interpreterlaw12_Head46Known_eq]
  have ha := ev_awake12 hS n
  have h0 := ev_head46 hS (n + 1) (tos := 0) (id := 7) (ttl := 9) (pt := 17) (at' := 8) (df := false) (mo := false) (op := []) (da := [104, 105]) (fit0 (by omega) (by omega) (by omega) (by omega) (by omega) (by simp) (by simp)) z16 z16 rfl rfl
  have h1 := ev_head46 hS (n + 1) (tos := 0) (id := 0) (ttl := 1) (pt := 17) (at' := 0) (df := false) (mo := false) (op := []) (da := []) (fit0 (by omega) (by omega) (by omega) (by omega) (by omega) (by simp) (by simp)) z16 z16 rfl rfl
  have h2 := ev_head46 hS (n + 1) (tos := 0) (id := 0) (ttl := 2) (pt := 44) (at' := 0) (df := false) (mo := false) (op := []) (da := []) (fit0 (by omega) (by omega) (by omega) (by omega) (by omega) (by simp) (by simp)) z16 z16 rfl rfl
  have h3 := ev_head46 hS (n + 1) (tos := 0) (id := 0) (ttl := 2) (pt := 17) (at' := 0) (df := false) (mo := false) (op := [131, 3, 3, 0]) (da := []) (fit0 (by omega) (by omega) (by omega) (by omega) (by omega) (by simp) (by simp)) z16 z16 rfl rfl
  have h4 := ev_head46 hS (n + 1) (tos := 0) (id := 0) (ttl := 2) (pt := 17) (at' := 0) (df := false) (mo := false) (op := [131]) (da := []) (fit0 (by omega) (by omega) (by omega) (by omega) (by omega) (by simp) (by simp)) z16 z16 rfl rfl
  have h5 := ev_head46 hS (n + 1) (tos := 0) (id := 0) (ttl := 2) (pt := 17) (at' := 0) (df := false) (mo := false) (op := [131, 3, 4, 0]) (da := []) (fit0 (by omega) (by omega) (by omega) (by omega) (by omega) (by simp) (by simp)) z16 z16 rfl rfl
  have r0 : routeS [] false = some false := by simp [routeS]
  have r3 : routeS [131, 3, 3, 0] false = some true := by simp [routeS]
  have r4 : routeS [131] false = none := by simp [routeS]
  have r5 : routeS [131, 3, 4, 0] false = some false := by simp [routeS]
  rw [r0] at h0 h1 h2
  rw [r3] at h3
  rw [r4] at h4
  rw [r5] at h5
  rw [show why46 0 9 17 (some false) = 0 by decide, if_pos rfl, show head46S 0 7 9 17 8 false z16 z16 [104, 105] = ip6LV 0 0 8 z16 z16 (.lst none []) true 7 8 false 17 [104, 105] by rfl] at h0
  rw [show why46 0 1 17 (some false) = 13 by decide, if_neg (by decide)] at h1
  rw [show why46 0 2 44 (some false) = 10 by decide, if_neg (by decide)] at h2
  rw [show why46 0 2 17 (some true) = 10 by decide, if_neg (by decide)] at h3
  rw [show why46 0 2 17 none = 8 by decide, if_neg (by decide)] at h4
  rw [show why46 0 2 17 (some false) = 0 by decide, if_pos rfl] at h5
  obtain ⟨a1, a2, a3, b1, i1, a4, b2, a5, hq⟩ := head46_form 0 0 2 17 0 false z16 z16 []
  rw [hq] at h5
  have hs := ev_same12_f hS (n + 3)
  have hsa := ev_Same0 hS (n + 3) (cl := 0) (fl := 0) (ho := 8) (fr := z16) (to := z16) (fg := true) (id := 7) (at' := 8) (mo := false) (pt := 17) (da := [104, 105]) (cl' := 0) (fl' := 0) (ho' := 8) (fr' := z16) (to' := z16) (fg' := true) (id' := 7) (at'' := 8) (mo' := false) (pt' := 17) (da' := [104, 105]) rfl rfl rfl rfl
  simp only [and_self, decide_true] at hsa
  unfold F_interpreterlaw12_Head46Known
  (try simp only [guard_merge, or_merge, and_merge, or_pick, and_pick, guard_or, guard_and]); simp only [to_ob]
  simp only [go_sem, ↓reduceIte, reduceCtorEq, upd_ne, back_new (no_at), Nat.reduceAdd, Nat.reduceEqDiff, Nat.reduceMul, Nat.reduceSub, Nat.reduceLeDiff, Nat.reduceLT, Int.reduceToNat, Int.reduceLE, Int.reduceLT, Int.reduceEq, UInt8.reduceOfNat, ha, h0, h1, h2, h3, h4, h5, hs, hsa, l_call]
end
end Go.Ev
