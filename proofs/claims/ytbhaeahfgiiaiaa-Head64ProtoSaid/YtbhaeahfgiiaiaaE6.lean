/- Part 6 of a proof: what the functions yield. It stands by itself; no condition. -/
import Derived.Test.YtbhaeahfgiiaiaaE2
import Derived.Test.YtbhaeahfgiiaiaaE5
import Derived.Test.YtbhaeahfgiiaiaaE4
/- Layer 12: source routes in IPv4's options. -/
namespace Go.Ev
set_option linter.unusedSimpArgs false
set_option linter.unusedVariables false
set_option maxRecDepth 4000

/-- Is there a source route that is not used up? 'none': broken. -/
def routeS (s : List UInt8) (r : Bool) : Option Bool :=
  match s with
  | [] => some r
  | a :: t =>
    if (a.toNat : Int) = 0 then some r
    else if (a.toNat : Int) = 1 then routeS t r
    else match t with
    | [] => none
    | b :: u =>
      if h : (b.toNat : Int) < 2 ∨ ((u.length + 1 + 1 : Nat) : Int) < (b.toNat : Int) then none
      else if (a.toNat : Int) = 131 ∨ (a.toNat : Int) = 137 then
        if (b.toNat : Int) < 3 then none else routeS ((a :: b :: u).drop b.toNat) (r || decide (((u.headD 0).toNat : Int) ≤ (b.toNat : Int)))
      else routeS ((a :: b :: u).drop b.toNat) r
termination_by s.length
decreasing_by
  all_goals simp
  all_goals omega


section
variable {S : Sys} (hS : Has S) (n : Nat)
include hS

theorem ev_fault4 (c : Int) : S.ev (n + 1) id_ip4_fault [.int .i64 c] none = some (faultLV c, none) := by
  rw [Sys.step hS.h_ip4_fault, F_ip4_fault_eq]
  unfold F_ip4_fault
  simp only [to_ob]
  simp only [go_sem, ↓reduceIte, reduceCtorEq, upd_ne, back_new (no_at), Nat.reduceAdd, Nat.reduceEqDiff, Nat.reduceMul, Nat.reduceSub, Nat.reduceLeDiff, Nat.reduceLT, Int.reduceToNat, Int.reduceLE, Int.reduceLT, Int.reduceEq, UInt8.reduceOfNat]

def routeR : Option Bool → LV
  | some b => .tup [.bool b, .nili]
  | none => .tup [.bool false, faultLV 8]

theorem ev_routed4 (s : List UInt8) : S.ev (n + 2) id_ip4_Routed [.str s] none = some (routeR (routeS s false), none) := by
  rw [Sys.step hS.h_ip4_Routed, F_ip4_Routed_eq]
  unfold F_ip4_Routed
  have hfa := ev_fault4 hS n
  (try simp only [guard_merge, or_merge, and_merge, or_pick, and_pick, guard_or, guard_and]); simp only [to_ob]
  refine while_rule (fun m q => ∃ t r, q = ([.str t, .bool false, .nili, .bool r], noSlots) ∧ m = t.length ∧ routeS t r = routeS s false) s.length ⟨s, false, rfl, rfl, rfl⟩ ?_
  rintro m q ⟨t, r, rfl, rfl, hr⟩
  rw [routeS.eq_def] at hr
  cases t with
  | nil =>
    simp only at hr
    simp only [go_sem, ↓reduceIte, reduceCtorEq, upd_ne, back_new (no_at), Nat.reduceAdd, Nat.reduceEqDiff, Nat.reduceMul, Nat.reduceSub, Nat.reduceLeDiff, Nat.reduceLT, Int.reduceToNat, Int.reduceLE, Int.reduceLT, Int.reduceEq, UInt8.reduceOfNat, Nxt, exIf, ← hr, routeR, not_true_eq_false]
    done
  | cons a t =>
    simp only at hr
    have ret : ∀ r' : List LV × Slots, r'.1 = [.str (a :: t), .bool false, faultLV 8, .bool r] → none = routeS s false → Nxt (fun m q => ∃ t r, q = ([LV.str t, LV.bool false, LV.nili, LV.bool r], noSlots) ∧ m = t.length ∧ routeS t r = routeS s false) (t.length + 1)
        (fun r3 : Ex × List LV × Slots => exIf r3.1 (Ex.exit 0) (pr.fin none r3.2.2 [getL r3.2.1 3, LV.nili]) (exIf r3.1 Ex.ret (pr.fin none r3.2.2 [getL r3.2.1 1, getL r3.2.1 2]) (exIf r3.1 Ex.ret (pr.fin none r3.2.2 [getL r3.2.1 1, getL r3.2.1 2]) none)))
        (some (routeR (routeS s false), none)) (some (Sum.inr (Ex.ret, r'))) := by
      intro r' h1 h2
      obtain ⟨q1, q2⟩ := r'
      simp only at h1
      subst h1
      rw [← h2]
      simp only [Nxt, exIf, go_sem, ↓reduceIte, reduceCtorEq, upd_ne, back_new (no_at), Nat.reduceAdd, Nat.reduceEqDiff, Nat.reduceMul, Nat.reduceSub, Nat.reduceLeDiff, Nat.reduceLT, Int.reduceToNat, Int.reduceLE, Int.reduceLT, Int.reduceEq, UInt8.reduceOfNat, routeR]
    by_cases h0 : (a.toNat : Int) = 0
    · simp only [h0, if_true] at hr
      simp only [go_sem, ↓reduceIte, reduceCtorEq, upd_ne, back_new (no_at), Nat.reduceAdd, Nat.reduceEqDiff, Nat.reduceMul, Nat.reduceSub, Nat.reduceLeDiff, Nat.reduceLT, Int.reduceToNat, Int.reduceLE, Int.reduceLT, Int.reduceEq, UInt8.reduceOfNat, List.getElem?_map, Int.toNat_natCast, h0, not_true_eq_false, Nxt, exIf, ← hr, routeR]
    · by_cases h1 : (a.toNat : Int) = 1
      · simp only [h0, h1, if_true, if_false] at hr
        simp only [go_sem, ↓reduceIte, reduceCtorEq, upd_ne, back_new (no_at), Nat.reduceAdd, Nat.reduceEqDiff, Nat.reduceMul, Nat.reduceSub, Nat.reduceLeDiff, Nat.reduceLT, Int.reduceToNat, Int.reduceLE, Int.reduceLT, Int.reduceEq, UInt8.reduceOfNat, List.getElem?_map, Int.toNat_natCast, h0, h1, not_true_eq_false]
        exact ⟨t.length, by omega, t, r, rfl, rfl, by simpa using hr⟩
      · cases t with
        | nil =>
          simp only [h0, h1, if_false] at hr
          have := ret ([.str [a], .bool false, faultLV 8, .bool r], noSlots) rfl hr
          simp only [go_sem, ↓reduceIte, reduceCtorEq, upd_ne, back_new (no_at), Nat.reduceAdd, Nat.reduceEqDiff, Nat.reduceMul, Nat.reduceSub, Nat.reduceLeDiff, Nat.reduceLT, Int.reduceToNat, Int.reduceLE, Int.reduceLT, Int.reduceEq, UInt8.reduceOfNat, List.getElem?_map, Int.toNat_natCast, h0, h1, hfa] at this ⊢
          exact this
        | cons b u =>
          simp only [h0, h1, if_false] at hr
          have hr0 := ret ([.str (a :: b :: u), .bool false, faultLV 8, .bool r], noSlots) rfl
          have e2 : ¬ (((u.length + 1 + 1 : Nat) : Int) < 2) := by omega
          have hb := b.toNat_lt
          have ew : IntKind.i64.wrap (b.toNat : Int) = (b.toNat : Int) := wrap_id (by omega) (by omega)
          by_cases h2 : (b.toNat : Int) < 2 ∨ ((u.length + 1 + 1 : Nat) : Int) < (b.toNat : Int)
          · rw [dif_pos h2] at hr
            have := hr0 hr
            simp only [go_sem, ↓reduceIte, reduceCtorEq, upd_ne, back_new (no_at), Nat.reduceAdd, Nat.reduceEqDiff, Nat.reduceMul, Nat.reduceSub, Nat.reduceLeDiff, Nat.reduceLT, Int.reduceToNat, Int.reduceLE, Int.reduceLT, Int.reduceEq, UInt8.reduceOfNat, List.getElem?_map, Int.toNat_natCast, h0, h1, hfa, e2, ew, h2] at this ⊢
            exact this
          · rw [dif_neg h2] at hr
            have h2' := not_or.1 h2
            have hle : b.toNat ≤ u.length + 1 + 1 := by omega
            by_cases h3 : (a.toNat : Int) = 131 ∨ (a.toNat : Int) = 137
            · by_cases h4 : (b.toNat : Int) < 3
              · simp only [h3, h4, if_true] at hr
                have := hr0 hr
                simp only [go_sem, ↓reduceIte, reduceCtorEq, upd_ne, back_new (no_at), Nat.reduceAdd, Nat.reduceEqDiff, Nat.reduceMul, Nat.reduceSub, Nat.reduceLeDiff, Nat.reduceLT, Int.reduceToNat, Int.reduceLE, Int.reduceLT, Int.reduceEq, UInt8.reduceOfNat, List.getElem?_map, Int.toNat_natCast, h0, h1, hfa, e2, ew, h2, h3, h4] at this ⊢
                exact this
              · cases u with
                | nil => simp at hle; omega
                | cons c v =>
                  simp only [h3, h4, if_true, if_false] at hr
                  simp only [List.length_cons] at hle h2' hr
                  have f1 : ¬ (((v.length + 1 + 1 + 1 : Nat) : Int) < 2) := by omega
                  have f2 : ¬ (b.toNat : Int) < 2 := h2'.1
                  have f3 : ¬ ((v.length + 1 + 1 + 1 : Nat) : Int) < (b.toNat : Int) := h2'.2
                  simp only [go_sem, ↓reduceIte, reduceCtorEq, upd_ne, back_new (no_at), Nat.reduceAdd, Nat.reduceEqDiff, Nat.reduceMul, Nat.reduceSub, Nat.reduceLeDiff, Nat.reduceLT, Int.reduceToNat, Int.reduceLE, Int.reduceLT, Int.reduceEq, UInt8.reduceOfNat, List.getElem?_map, Int.toNat_natCast, h0, h1, hfa, ew, h3, h4, f1, f2, f3, hle, or_self] at hr ⊢
                  refine ⟨_, ?_, _, _, rfl, rfl, hr⟩
                  simp
                  omega
            · simp only [h3, if_false] at hr
              simp only [go_sem, ↓reduceIte, reduceCtorEq, upd_ne, back_new (no_at), Nat.reduceAdd, Nat.reduceEqDiff, Nat.reduceMul, Nat.reduceSub, Nat.reduceLeDiff, Nat.reduceLT, Int.reduceToNat, Int.reduceLE, Int.reduceLT, Int.reduceEq, UInt8.reduceOfNat, List.getElem?_map, Int.toNat_natCast, h0, h1, hfa, e2, ew, h2, h3] at hle hr ⊢
              simp only [go_sem, ↓reduceIte, reduceCtorEq, upd_ne, back_new (no_at), Nat.reduceAdd, Nat.reduceEqDiff, Nat.reduceMul, Nat.reduceSub, Nat.reduceLeDiff, Nat.reduceLT, Int.reduceToNat, Int.reduceLE, Int.reduceLT, Int.reduceEq, UInt8.reduceOfNat, hle]
              refine ⟨_, ?_, _, _, rfl, rfl, hr⟩
              simp
              omega

def routeR' : Option Bool → LV
  | some b => .tup [.bool b, .int .i64 0]
  | none => .tup [.bool false, .int .i64 8]

theorem ev_routed3 (s : List UInt8) (hs : s.length ≤ 140737488351232) : S.ev (n + 1) id_interpreterref03_Routed [.str s] none = some (routeR' (routeS s false), none) := by
  rw [Sys.step hS.h_interpreterref03_Routed, F_interpreterref03_Routed_eq]
  unfold F_interpreterref03_Routed
  (try simp only [guard_merge, or_merge, and_merge, or_pick, and_pick, guard_or, guard_and]); simp only [to_ob]
  refine while_rule (fun m q => ∃ i r, q = ([.int .i64 ((i : Nat) : Int), .bool false, .int .i64 0, .bool r], noSlots) ∧ i ≤ s.length ∧ m = s.length - i ∧ routeS (s.drop i) r = routeS s false) s.length ⟨0, false, rfl, by simp, by simp, by simp⟩ ?_
  rintro m q ⟨i, r, rfl, hi, rfl, hr⟩
  rw [routeS.eq_def] at hr
  have ret : ∀ r' : List LV × Slots, r'.1 = [.int .i64 ((i : Nat) : Int), .bool false, .int .i64 8, .bool r] → none = routeS s false → ∀ I : Nat → List LV × Slots → Prop, Nxt I (s.length - i)
      (fun r3 : Ex × List LV × Slots => exIf r3.1 (Ex.exit 0) (pr.fin none r3.2.2 [getL r3.2.1 3, .int .i64 0]) (exIf r3.1 Ex.ret (pr.fin none r3.2.2 [getL r3.2.1 1, getL r3.2.1 2]) (exIf r3.1 Ex.ret (pr.fin none r3.2.2 [getL r3.2.1 1, getL r3.2.1 2]) none)))
      (some (routeR' (routeS s false), none)) (some (Sum.inr (Ex.ret, r'))) := by
    intro r' h1 h2 I
    obtain ⟨q1, q2⟩ := r'
    simp only at h1
    subst h1
    rw [← h2]
    simp only [Nxt, exIf, go_sem, ↓reduceIte, reduceCtorEq, upd_ne, back_new (no_at), Nat.reduceAdd, Nat.reduceEqDiff, Nat.reduceMul, Nat.reduceSub, Nat.reduceLeDiff, Nat.reduceLT, Int.reduceToNat, Int.reduceLE, Int.reduceLT, Int.reduceEq, UInt8.reduceOfNat, routeR']
  have get : ∀ (k : Nat) (c : UInt8), (s.drop i)[k]? = some c → s[i + k]? = some c := fun k c h => by rw [List.getElem?_drop] at h; exact h
  generalize ht : s.drop i = t at hr get
  have hlen : s.length = i + t.length := by rw [← ht]; simp; omega
  cases t with
  | nil =>
    simp only at hr
    simp only [List.length_nil, Nat.add_zero] at hlen
    have e : ¬ ((i : Int) < (s.length : Int)) := by omega
    simp only [go_sem, ↓reduceIte, reduceCtorEq, upd_ne, back_new (no_at), Nat.reduceAdd, Nat.reduceEqDiff, Nat.reduceMul, Nat.reduceSub, Nat.reduceLeDiff, Nat.reduceLT, Int.reduceToNat, Int.reduceLE, Int.reduceLT, Int.reduceEq, UInt8.reduceOfNat, Nxt, exIf, ← hr, routeR', e]
  | cons a t =>
    simp only at hr
    simp only [List.length_cons] at hlen
    have ga : s[i]? = some a := get 0 a rfl
    have f0 : (i : Int) < (s.length : Int) := by omega
    have e1 : IntKind.i64.wrap ((i : Int) + 1) = ((i + 1 : Nat) : Int) := by rw [wrap_id (by omega) (by omega)]; rfl
    have e2 : IntKind.i64.wrap ((i : Int) + 2) = ((i + 2 : Nat) : Int) := by rw [wrap_id (by omega) (by omega)]; rfl
    have d1 : s.drop (i + 1) = t := by rw [← List.drop_drop, ht]; rfl
    by_cases h0 : (a.toNat : Int) = 0
    · simp only [h0, if_true] at hr
      simp only [go_sem, ↓reduceIte, reduceCtorEq, upd_ne, back_new (no_at), Nat.reduceAdd, Nat.reduceEqDiff, Nat.reduceMul, Nat.reduceSub, Nat.reduceLeDiff, Nat.reduceLT, Int.reduceToNat, Int.reduceLE, Int.reduceLT, Int.reduceEq, UInt8.reduceOfNat, List.getElem?_map, Int.toNat_natCast, h0, f0, ga, not_true_eq_false, Nxt, exIf, ← hr, routeR']
    · by_cases h1 : (a.toNat : Int) = 1
      · simp only [h0, h1, if_true, if_false] at hr
        simp only [go_sem, ↓reduceIte, reduceCtorEq, upd_ne, back_new (no_at), Nat.reduceAdd, Nat.reduceEqDiff, Nat.reduceMul, Nat.reduceSub, Nat.reduceLeDiff, Nat.reduceLT, Int.reduceToNat, Int.reduceLE, Int.reduceLT, Int.reduceEq, UInt8.reduceOfNat, List.getElem?_map, Int.toNat_natCast, h0, h1, f0, ga, e1, not_true_eq_false]
        exact ⟨s.length - (i + 1), by omega, i + 1, r, rfl, by omega, rfl, by rw [d1]; simpa using hr⟩
      · cases t with
        | nil =>
          simp only [h0, h1, if_false] at hr
          simp only [List.length_nil] at hlen
          have g1 : ((s.length : Nat) : Int) ≤ ((i + 1 : Nat) : Int) := by omega
          have := ret ([.int .i64 ((i : Nat) : Int), .bool false, .int .i64 8, .bool r], noSlots) rfl hr
          simp only [go_sem, ↓reduceIte, reduceCtorEq, upd_ne, back_new (no_at), Nat.reduceAdd, Nat.reduceEqDiff, Nat.reduceMul, Nat.reduceSub, Nat.reduceLeDiff, Nat.reduceLT, Int.reduceToNat, Int.reduceLE, Int.reduceLT, Int.reduceEq, UInt8.reduceOfNat, List.getElem?_map, Int.toNat_natCast, h0, h1, f0, ga, e1, g1] at this ⊢
          exact this _
        | cons b u =>
          simp only [h0, h1, if_false] at hr
          simp only [List.length_cons] at hlen
          have hr0 := ret ([.int .i64 ((i : Nat) : Int), .bool false, .int .i64 8, .bool r], noSlots) rfl
          have gb : s[i + 1]? = some b := get 1 b rfl
          have g1 : ¬ ((s.length : Nat) : Int) ≤ ((i + 1 : Nat) : Int) := by omega
          have hb := b.toNat_lt
          have ew : IntKind.i64.wrap (b.toNat : Int) = (b.toNat : Int) := wrap_id (by omega) (by omega)
          have e3 : IntKind.i64.wrap ((i : Int) + (b.toNat : Int)) = ((i + b.toNat : Nat) : Int) := by rw [wrap_id (by omega) (by omega)]; rfl
          by_cases h2 : (b.toNat : Int) < 2 ∨ ((u.length + 1 + 1 : Nat) : Int) < (b.toNat : Int)
          · rw [dif_pos h2] at hr
            have := hr0 hr
            have h2' : (b.toNat : Int) < 2 ∨ ((s.length : Nat) : Int) < ((i + b.toNat : Nat) : Int) := by omega
            simp only [go_sem, ↓reduceIte, reduceCtorEq, upd_ne, back_new (no_at), Nat.reduceAdd, Nat.reduceEqDiff, Nat.reduceMul, Nat.reduceSub, Nat.reduceLeDiff, Nat.reduceLT, Int.reduceToNat, Int.reduceLE, Int.reduceLT, Int.reduceEq, UInt8.reduceOfNat, List.getElem?_map, Int.toNat_natCast, h0, h1, f0, ga, e1, g1, gb, ew, e3, h2'] at this ⊢
            exact this _
          · rw [dif_neg h2] at hr
            have h2' := not_or.1 h2
            have f2 : ¬ (b.toNat : Int) < 2 := h2'.1
            have f3 : ¬ ((s.length : Nat) : Int) < ((i + b.toNat : Nat) : Int) := by omega
            have dk : s.drop (i + b.toNat) = (a :: b :: u).drop b.toNat := by rw [← List.drop_drop, ht]
            by_cases h3 : (a.toNat : Int) = 131 ∨ (a.toNat : Int) = 137
            · by_cases h4 : (b.toNat : Int) < 3
              · simp only [h3, h4, if_true] at hr
                have := hr0 hr
                simp only [go_sem, ↓reduceIte, reduceCtorEq, upd_ne, back_new (no_at), Nat.reduceAdd, Nat.reduceEqDiff, Nat.reduceMul, Nat.reduceSub, Nat.reduceLeDiff, Nat.reduceLT, Int.reduceToNat, Int.reduceLE, Int.reduceLT, Int.reduceEq, UInt8.reduceOfNat, List.getElem?_map, Int.toNat_natCast, h0, h1, f0, ga, e1, g1, gb, ew, e3, f2, f3, h3, h4, or_self] at this ⊢
                exact this _
              · cases u with
                | nil => simp at hlen; omega
                | cons c v =>
                  have gc : s[i + 2]? = some c := get 2 c rfl
                  simp only [h3, h4, if_true, if_false, List.headD_cons] at hr
                  simp only [go_sem, ↓reduceIte, reduceCtorEq, upd_ne, back_new (no_at), Nat.reduceAdd, Nat.reduceEqDiff, Nat.reduceMul, Nat.reduceSub, Nat.reduceLeDiff, Nat.reduceLT, Int.reduceToNat, Int.reduceLE, Int.reduceLT, Int.reduceEq, UInt8.reduceOfNat, List.getElem?_map, Int.toNat_natCast, h0, h1, f0, ga, e1, e2, g1, gb, gc, ew, e3, f2, f3, h3, h4, or_self]
                  have fin : ∀ r2, r2 = (r || decide ((c.toNat : Int) ≤ (b.toNat : Int))) → routeS ((a :: b :: c :: v).drop b.toNat) r2 = routeS s false := fun r2 e => by rw [e]; exact hr
                  refine nxt_ite (fun h5 => ?_) (fun h5 => ?_)
                  · exact ⟨s.length - (i + b.toNat), by omega, i + b.toNat, true, rfl, by omega, rfl, by rw [dk]; exact fin _ (by simp [h5])⟩
                  · exact ⟨s.length - (i + b.toNat), by omega, i + b.toNat, r, rfl, by omega, rfl, by rw [dk]; exact fin _ (by simp [h5])⟩
            · simp only [h3, if_false] at hr
              simp only [go_sem, ↓reduceIte, reduceCtorEq, upd_ne, back_new (no_at), Nat.reduceAdd, Nat.reduceEqDiff, Nat.reduceMul, Nat.reduceSub, Nat.reduceLeDiff, Nat.reduceLT, Int.reduceToNat, Int.reduceLE, Int.reduceLT, Int.reduceEq, UInt8.reduceOfNat, List.getElem?_map, Int.toNat_natCast, h0, h1, f0, ga, e1, g1, gb, ew, e3, f2, f3, h3, or_self]
              exact ⟨s.length - (i + b.toNat), by omega, i + b.toNat, r, rfl, by omega, rfl, by rw [dk]; exact hr⟩
end
end Go.Ev

/- Layer 12: heads. -/
namespace Go.Ev
set_option linter.unusedSimpArgs false
set_option linter.unusedVariables false
set_option maxRecDepth 4000
set_option maxHeartbeats 1000000

def proto46 (x : Int) : Int × Bool := if x = 1 then (58, true) else if x ≤ 0 ∨ x = 2 ∨ x = 43 ∨ x = 44 ∨ x = 58 ∨ x = 60 ∨ 255 < x then (0, false) else (x, true)

section
variable {S : Sys} (hS : Has S) (n : Nat)
include hS
theorem ev_proto4 (x : Int) : S.ev (n + 1) id_head46_Proto [.int .i64 x] none = some (.tup [.int .i64 (proto46 x).1, .bool (proto46 x).2], none) := by
  rw [Sys.step hS.h_head46_Proto, F_head46_Proto_eq]
  unfold F_head46_Proto
  simp only [guard_merge, or_merge, and_merge, or_pick, and_pick, guard_or, guard_and]
  simp only [to_ob]
  simp only [go_sem, ↓reduceIte, reduceCtorEq, upd_ne, back_new (no_at), Nat.reduceAdd, Nat.reduceEqDiff, Nat.reduceMul, Nat.reduceSub, Nat.reduceLeDiff, Nat.reduceLT, Int.reduceToNat, Int.reduceLE, Int.reduceLT, Int.reduceEq, UInt8.reduceOfNat]
  unfold proto46
  repeat' split
  all_goals first | rfl | omega
theorem ev_rproto4 (x : Int) : S.ev (n + 1) id_interpreterref12_Proto [.int .i64 x] none = some (.tup [.int .i64 (proto46 x).1, .bool (proto46 x).2], none) := by
  rw [Sys.step hS.h_interpreterref12_Proto, F_interpreterref12_Proto_eq]
  unfold F_interpreterref12_Proto
  simp only [guard_merge, or_merge, and_merge, or_pick, and_pick, guard_or, guard_and]
  simp only [to_ob]
  simp only [go_sem, ↓reduceIte, reduceCtorEq, upd_ne, back_new (no_at), Nat.reduceAdd, Nat.reduceEqDiff, Nat.reduceMul, Nat.reduceSub, Nat.reduceLeDiff, Nat.reduceLT, Int.reduceToNat, Int.reduceLE, Int.reduceLT, Int.reduceEq, UInt8.reduceOfNat]
  unfold proto46
  repeat' split
  all_goals first | rfl | omega
theorem ev_fault46 (c : Int) : S.ev (n + 1) id_head46_fault [.int .i64 c] none = some (faultLV c, none) := by
  rw [Sys.step hS.h_head46_fault, F_head46_fault_eq]
  unfold F_head46_fault
  simp only [to_ob]
  simp only [go_sem, ↓reduceIte, reduceCtorEq, upd_ne, back_new (no_at), Nat.reduceAdd, Nat.reduceEqDiff, Nat.reduceMul, Nat.reduceSub, Nat.reduceLeDiff, Nat.reduceLT, Int.reduceToNat, Int.reduceLE, Int.reduceLT, Int.reduceEq, UInt8.reduceOfNat]

variable {tos id ttl pt at' : Int} {df mo : Bool} {fr to op da : List UInt8}

abbrev z16 : List UInt8 := [0, 0, 0, 0, 0, 0, 0, 0, 0, 0, 0, 0, 0, 0, 0, 0]
abbrev zero6 : LV := ip6LV 0 0 0 z16 z16 (.lst none []) false 0 0 false 0 []
def why46 (tos ttl pt : Int) (rs : Option Bool) : Int :=
  if ttl < 2 ∨ 255 < ttl ∨ tos < 0 ∨ 255 < tos then 13 else match rs with
    | none => 8
    | some r => if r = true ∨ (proto46 pt).2 = false then 10 else 0
def head46S (tos id ttl pt at' : Int) (mo : Bool) (fr6 to6 da : List UInt8) : LV :=
  if mo = true ∨ at' ≠ 0 then ip6LV tos 0 (ttl - 1) fr6 to6 (.lst none []) true (IntKind.u32.wrap id) at' mo (proto46 pt).1 da
  else ip6LV tos 0 (ttl - 1) fr6 to6 (.lst none []) false 0 0 false (proto46 pt).1 da

theorem ev_head46 (h : FitIp4 tos id ttl pt at' fr to op da) (fr6 to6 : List UInt8) (hf6 : fr6.length = 16) (ht6 : to6.length = 16) :
    S.ev (n + 3) id_head46_Head [ip4LV tos id ttl pt at' df mo fr to op da, .bytes fr6, .bytes to6] none =
      some (if why46 tos ttl pt (routeS op false) = 0 then .tup [head46S tos id ttl pt at' mo fr6 to6 da, .nili] else .tup [zero6, faultLV (why46 tos ttl pt (routeS op false))], none) := by
  rw [Sys.step hS.h_head46_Head, F_head46_Head_eq]
  have hrt := ev_routed4 hS n op
  have hpt := ev_proto4 hS (n + 1) pt
  have hfa := ev_fault46 hS (n + 1)
  have hf := h.hfr
  have ht := h.hto
  unfold F_head46_Head
  (try simp only [guard_merge, or_merge, and_merge, or_pick, and_pick, guard_or, guard_and]); simp only [to_ob]
  unfold why46
  by_cases c1 : ttl < 2 ∨ 255 < ttl ∨ tos < 0 ∨ 255 < tos
  · rw [if_pos c1]
    simp only [go_sem, ↓reduceIte, reduceCtorEq, upd_ne, back_new (no_at), Nat.reduceAdd, Nat.reduceEqDiff, Nat.reduceMul, Nat.reduceSub, Nat.reduceLeDiff, Nat.reduceLT, Int.reduceToNat, Int.reduceLE, Int.reduceLT, Int.reduceEq, UInt8.reduceOfNat, hf, ht, hfa, or_assoc, c1]
  · rw [if_neg c1]
    have e1 : IntKind.i64.wrap (ttl - 1) = ttl - 1 := wrap_id (by omega) (by omega)
    cases hr : routeS op false with
    | none =>
      rw [hr] at hrt
      simp only [routeR] at hrt
      simp only [go_sem, ↓reduceIte, reduceCtorEq, upd_ne, back_new (no_at), Nat.reduceAdd, Nat.reduceEqDiff, Nat.reduceMul, Nat.reduceSub, Nat.reduceLeDiff, Nat.reduceLT, Int.reduceToNat, Int.reduceLE, Int.reduceLT, Int.reduceEq, UInt8.reduceOfNat, hf, ht, hrt, or_assoc, c1]
    | some r =>
      rw [hr] at hrt
      simp only [routeR] at hrt
      simp only [go_sem, ↓reduceIte, reduceCtorEq, upd_ne, back_new (no_at), Nat.reduceAdd, Nat.reduceEqDiff, Nat.reduceMul, Nat.reduceSub, Nat.reduceLeDiff, Nat.reduceLT, Int.reduceToNat, Int.reduceLE, Int.reduceLT, Int.reduceEq, UInt8.reduceOfNat, hf, ht, hf6, ht6, hrt, hpt, hfa, e1, or_assoc, c1]
      simp only [Bool.not_eq_true']
      by_cases c2 : r = true ∨ (proto46 pt).2 = false
      · simp only [c2, if_true]; rfl
      · simp only [c2, if_false]
        unfold head46S
        split <;> rfl

theorem ev_rhead46 (h : FitIp4 tos id ttl pt at' fr to op da) (fr6 to6 : List UInt8) (hf6 : fr6.length = 16) (ht6 : to6.length = 16) :
    S.ev (n + 2) id_interpreterref12_Head [ip4LV tos id ttl pt at' df mo fr to op da, .bytes fr6, .bytes to6] none =
      some (if why46 tos ttl pt (routeS op false) = 0 then .tup [head46S tos id ttl pt at' mo fr6 to6 da, .int .i64 0] else .tup [zero6, .int .i64 (why46 tos ttl pt (routeS op false))], none) := by
  rw [Sys.step hS.h_interpreterref12_Head, F_interpreterref12_Head_eq]
  have hrt := ev_routed3 hS n op h.hop
  have hpt := ev_rproto4 hS n pt
  have hf := h.hfr
  have ht := h.hto
  unfold F_interpreterref12_Head
  (try simp only [guard_merge, or_merge, and_merge, or_pick, and_pick, guard_or, guard_and]); simp only [to_ob]
  unfold why46
  by_cases c1 : ttl < 2 ∨ 255 < ttl ∨ tos < 0 ∨ 255 < tos
  · rw [if_pos c1]
    simp only [go_sem, ↓reduceIte, reduceCtorEq, upd_ne, back_new (no_at), Nat.reduceAdd, Nat.reduceEqDiff, Nat.reduceMul, Nat.reduceSub, Nat.reduceLeDiff, Nat.reduceLT, Int.reduceToNat, Int.reduceLE, Int.reduceLT, Int.reduceEq, UInt8.reduceOfNat, hf, ht, or_assoc, c1]
  · rw [if_neg c1]
    have e1 : IntKind.i64.wrap (ttl - 1) = ttl - 1 := wrap_id (by omega) (by omega)
    cases hr : routeS op false with
    | none =>
      rw [hr] at hrt
      simp only [routeR'] at hrt
      simp only [go_sem, ↓reduceIte, reduceCtorEq, upd_ne, back_new (no_at), Nat.reduceAdd, Nat.reduceEqDiff, Nat.reduceMul, Nat.reduceSub, Nat.reduceLeDiff, Nat.reduceLT, Int.reduceToNat, Int.reduceLE, Int.reduceLT, Int.reduceEq, UInt8.reduceOfNat, hf, ht, hrt, or_assoc, c1]
    | some r =>
      rw [hr] at hrt
      simp only [routeR'] at hrt
      cases r with
      | true =>
        simp only [go_sem, ↓reduceIte, reduceCtorEq, upd_ne, back_new (no_at), Nat.reduceAdd, Nat.reduceEqDiff, Nat.reduceMul, Nat.reduceSub, Nat.reduceLeDiff, Nat.reduceLT, Int.reduceToNat, Int.reduceLE, Int.reduceLT, Int.reduceEq, UInt8.reduceOfNat, hf, ht, hf6, ht6, hrt, hpt, e1, or_assoc, c1, true_or]
      | false =>
        simp only [go_sem, ↓reduceIte, reduceCtorEq, upd_ne, back_new (no_at), Nat.reduceAdd, Nat.reduceEqDiff, Nat.reduceMul, Nat.reduceSub, Nat.reduceLeDiff, Nat.reduceLT, Int.reduceToNat, Int.reduceLE, Int.reduceLT, Int.reduceEq, UInt8.reduceOfNat, hf, ht, hf6, ht6, hrt, hpt, e1, or_assoc, c1]
        simp only [Bool.not_eq_true', Bool.false_eq_true, false_or]
        by_cases c2 : (proto46 pt).2 = false
        · simp only [c2, if_true]; rfl
        · unfold head46S
          by_cases c3 : mo = true ∨ ¬ at' = 0
          · simp only [c2, c3, ne_eq, if_true, if_false, Bool.true_eq_false]
          · simp only [c2, c3, ne_eq, if_true, if_false, Bool.true_eq_false]

theorem ev_same12_nil (c : Int) : S.ev (n + 1) id_interpreterlaw12_same [.nili, .int .i64 c] none = some (.bool (decide (c = 0)), none) := by
  rw [Sys.step hS.h_interpreterlaw12_same, F_interpreterlaw12_same_eq]
  unfold F_interpreterlaw12_same
  (try simp only [guard_merge, or_merge, and_merge, or_pick, and_pick, guard_or, guard_and]); simp only [to_ob]
  simp only [go_sem, ↓reduceIte, reduceCtorEq, upd_ne, back_new (no_at), Nat.reduceAdd, Nat.reduceEqDiff, Nat.reduceMul, Nat.reduceSub, Nat.reduceLeDiff, Nat.reduceLT, Int.reduceToNat, Int.reduceLE, Int.reduceLT, Int.reduceEq, UInt8.reduceOfNat]
  split
  · rename_i h; simp [h]
  · rename_i h; simp [h]
theorem ev_same12_f (c d : Int) : S.ev (n + 1) id_interpreterlaw12_same [faultLV c, .int .i64 d] none = some (.bool (if d = 0 then false else decide (c = d)), none) := by
  rw [Sys.step hS.h_interpreterlaw12_same, F_interpreterlaw12_same_eq]
  unfold F_interpreterlaw12_same
  (try simp only [guard_merge, or_merge, and_merge, or_pick, and_pick, guard_or, guard_and]); simp only [to_ob]
  simp only [go_sem, ↓reduceIte, reduceCtorEq, upd_ne, back_new (no_at), Nat.reduceAdd, Nat.reduceEqDiff, Nat.reduceMul, Nat.reduceSub, Nat.reduceLeDiff, Nat.reduceLT, Int.reduceToNat, Int.reduceLE, Int.reduceLT, Int.reduceEq, UInt8.reduceOfNat]
  split
  · rename_i h; simp [h]
  · rename_i h; simp [h]

/-- Two packets without extensions. -/
theorem ev_Same0 {cl fl ho : Int} {fr to : List UInt8} {fg : Bool} {id at' : Int} {mo : Bool} {pt : Int} {da : List UInt8} {cl' fl' ho' : Int} {fr' to' : List UInt8} {fg' : Bool} {id' at'' : Int} {mo' : Bool} {pt' : Int} {da' : List UInt8}
    (hf : fr.length = 16) (ht : to.length = 16) (hf' : fr'.length = 16) (ht' : to'.length = 16) :
    S.ev (n + 1) id_interpreterref04_Same [ip6LV cl fl ho fr to (.lst none []) fg id at' mo pt da, ip6LV cl' fl' ho' fr' to' (.lst none []) fg' id' at'' mo' pt' da'] none =
      some (.bool (decide (cl = cl' ∧ fl = fl' ∧ ho = ho' ∧ fr = fr' ∧ to = to' ∧ fg = fg' ∧ id = id' ∧ at' = at'' ∧ mo = mo' ∧ pt = pt' ∧ da = da')), none) := by
  rw [Sys.step hS.h_interpreterref04_Same, F_interpreterref04_Same_eq]
  unfold F_interpreterref04_Same
  (try simp only [guard_merge, or_merge, and_merge, or_pick, and_pick, guard_or, guard_and]); simp only [to_ob]
  simp only [go_sem, ↓reduceIte, reduceCtorEq, upd_ne, back_new (no_at), Nat.reduceAdd, Nat.reduceEqDiff, Nat.reduceMul, Nat.reduceSub, Nat.reduceLeDiff, Nat.reduceLT, Int.reduceToNat, Int.reduceLE, Int.reduceLT, Int.reduceEq, UInt8.reduceOfNat, hf, ht, hf', ht']
  refine while_rule (fun m q => q = ([.bool false, .int .i64 0], noSlots)) 0 rfl ?_
  rintro m q rfl
  have e0 : ¬ ((0 : Int) < ((0 : Nat) : Int)) := by decide
  simp only [go_sem, ↓reduceIte, reduceCtorEq, upd_ne, back_new (no_at), Nat.reduceAdd, Nat.reduceEqDiff, Nat.reduceMul, Nat.reduceSub, Nat.reduceLeDiff, Nat.reduceLT, Int.reduceToNat, Int.reduceLE, Int.reduceLT, Int.reduceEq, UInt8.reduceOfNat, hf, ht, hf', ht', Nxt, exIf, e0]
  congr 3
  rw [Bool.eq_iff_iff]
  simp only [Bool.and_eq_true, decide_eq_true_eq, beq_iff_eq, and_assoc]
end
end Go.Ev

/- Layer 12: the statement on heads, the examples. -/
namespace Go.Ev
set_option linter.unusedSimpArgs false
set_option linter.unusedVariables false
set_option maxRecDepth 4000
set_option maxHeartbeats 1000000

section
variable {S : Sys} (hS : Has S) (n : Nat)
include hS

theorem ev_awake12 : S.ev (n + 4) id_interpreterlaw12_awake [] none = some (.bool true, none) := by
  rw [Sys.step hS.h_interpreterlaw12_awake, F_interpreterlaw12_awake_eq]
  have hh := ev_head46 hS n (tos := 5) (id := 0) (ttl := 9) (pt := 1) (at' := 0) (df := true) (mo := false) (fr := [0, 0, 0, 0]) (to := [0, 0, 0, 0]) (op := []) (da := [104, 105]) ⟨by constructor <;> omega, by constructor <;> omega, by constructor <;> omega, by constructor <;> omega, by constructor <;> omega, rfl, rfl, by simp, by simp⟩ [1, 0, 0, 0, 0, 0, 0, 0, 0, 0, 0, 0, 0, 0, 0, 0] [2, 0, 0, 0, 0, 0, 0, 0, 0, 0, 0, 0, 0, 0, 0, 0] rfl rfl
  have hr : routeS [] false = some false := by rw [routeS]
  rw [hr] at hh
  have hy : why46 5 9 1 (some false) = 0 := by decide
  have hq : head46S 5 0 9 1 0 false [1, 0, 0, 0, 0, 0, 0, 0, 0, 0, 0, 0, 0, 0, 0, 0] [2, 0, 0, 0, 0, 0, 0, 0, 0, 0, 0, 0, 0, 0, 0, 0] [104, 105] = ip6LV 5 0 8 [1, 0, 0, 0, 0, 0, 0, 0, 0, 0, 0, 0, 0, 0, 0, 0] [2, 0, 0, 0, 0, 0, 0, 0, 0, 0, 0, 0, 0, 0, 0, 0] (.lst none []) false 0 0 false 58 [104, 105] := by rfl
  rw [hy, if_pos rfl, hq] at hh
  have hs := ev_Same0 hS (n + 2) (cl := 5) (fl := 0) (ho := 8) (fr := [1, 0, 0, 0, 0, 0, 0, 0, 0, 0, 0, 0, 0, 0, 0, 0]) (to := [2, 0, 0, 0, 0, 0, 0, 0, 0, 0, 0, 0, 0, 0, 0, 0]) (fg := false) (id := 0) (at' := 0) (mo := false) (pt := 58) (da := [104, 105])
    (cl' := 5) (fl' := 0) (ho' := 8) (fr' := [1, 0, 0, 0, 0, 0, 0, 0, 0, 0, 0, 0, 0, 0, 0, 0]) (to' := [2, 0, 0, 0, 0, 0, 0, 0, 0, 0, 0, 0, 0, 0, 0, 0]) (fg' := false) (id' := 0) (at'' := 0) (mo' := false) (pt' := 58) (da' := [104, 105]) rfl rfl rfl rfl
  unfold F_interpreterlaw12_awake
  (try simp only [guard_merge, or_merge, and_merge, or_pick, and_pick, guard_or, guard_and]); simp only [to_ob]
  simp only [go_sem, ↓reduceIte, reduceCtorEq, upd_ne, back_new (no_at), Nat.reduceAdd, Nat.reduceEqDiff, Nat.reduceMul, Nat.reduceSub, Nat.reduceLeDiff, Nat.reduceLT, Int.reduceToNat, Int.reduceLE, Int.reduceLT, Int.reduceEq, UInt8.reduceOfNat, hh, l_call, hs]

omit hS in
/-- What becomes of a head: some packet without extensions. -/
theorem head46_form (tos id ttl pt at' : Int) (mo : Bool) (fr6 to6 da : List UInt8) : ∃ a1 a2 a3 b1 i1 a4 b2 a5, head46S tos id ttl pt at' mo fr6 to6 da = ip6LV a1 a2 a3 fr6 to6 (.lst none []) b1 i1 a4 b2 a5 da := by
  unfold head46S
  split
  · exact ⟨_, _, _, _, _, _, _, _, rfl⟩
  · exact ⟨_, _, _, _, _, _, _, _, rfl⟩

theorem ev_Does46 {vs : List LV} (h : fitVL [shpIp4, .bytes 16, .bytes 16, .int .i64] vs) : S.ev (n + 5) id_interpreterlaw12_Head46Does vs none = some (.bool true, none) := by
  obtain ⟨a, r, e, g0, q0⟩ := fit_cons h; clear h; subst e; obtain ⟨tos, id, ttl, pt, at', df, mo, fr, to, op, da, rfl, hp⟩ := fit_ip4 g0; clear g0
  obtain ⟨a, r, e, g1, q1⟩ := fit_cons q0; clear q0; subst e; obtain ⟨fr6, rfl, hf6⟩ := fit_bytes g1; clear g1
  obtain ⟨a, r, e, g2, q2⟩ := fit_cons q1; clear q1; subst e; obtain ⟨to6, rfl, ht6⟩ := fit_bytes g2; clear g2
  obtain ⟨a, r, e, g4, q4⟩ := fit_cons q2; clear q2; subst e; obtain ⟨pn, rfl, hpn⟩ := fit_i64 g4; clear g4
  obtain rfl := fit_nil q4
  rw [Sys.step hS.h_interpreterlaw12_Head46Does, F_interpreterlaw12_Head46Does_eq]
  have hf := hp.hfr
  have ht := hp.hto
  have ha := ev_awake12 hS n
  have hpr := ev_proto4 hS (n + 3) pn
  have hpr' := ev_rproto4 hS (n + 3) pn
  have hh := ev_head46 hS (n + 1) (df := df) (mo := mo) hp fr6 to6 hf6 ht6
  have hh' := ev_rhead46 hS (n + 2) (df := df) (mo := mo) hp fr6 to6 hf6 ht6
  generalize why46 tos ttl pt (routeS op false) = y at hh hh'
  have hs1 := ev_same12_nil hS (n + 3) 0
  have hs2 := ev_same12_f hS (n + 3) y y
  obtain ⟨a1, a2, a3, b1, i1, a4, b2, a5, hq⟩ := head46_form tos id ttl pt at' mo fr6 to6 da
  rw [hq] at hh hh'
  have hsa := ev_Same0 hS (n + 3) (cl := a1) (fl := a2) (ho := a3) (fg := b1) (id := i1) (at' := a4) (mo := b2) (pt := a5) (da := da) (cl' := a1) (fl' := a2) (ho' := a3) (fg' := b1) (id' := i1) (at'' := a4) (mo' := b2) (pt' := a5) (da' := da) hf6 ht6 hf6 ht6
  have hsz := ev_Same0 hS (n + 3) (cl := 0) (fl := 0) (ho := 0) (fr := z16) (to := z16) (fg := false) (id := 0) (at' := 0) (mo := false) (pt := 0) (da := []) (cl' := 0) (fl' := 0) (ho' := 0) (fr' := z16) (to' := z16) (fg' := false) (id' := 0) (at'' := 0) (mo' := false) (pt' := 0) (da' := []) rfl rfl rfl rfl
  simp only [and_self, decide_true] at hsa hsz
  unfold F_interpreterlaw12_Head46Does
  (try simp only [guard_merge, or_merge, and_merge, or_pick, and_pick, guard_or, guard_and]); simp only [to_ob]
  by_cases hy : y = 0
  · rw [if_pos hy] at hh hh'
    simp only [go_sem, ↓reduceIte, reduceCtorEq, upd_ne, back_new (no_at), Nat.reduceAdd, Nat.reduceEqDiff, Nat.reduceMul, Nat.reduceSub, Nat.reduceLeDiff, Nat.reduceLT, Int.reduceToNat, Int.reduceLE, Int.reduceLT, Int.reduceEq, UInt8.reduceOfNat, hf, ht, hf6, ht6, ha, hh, hh', hs1, hpr, hpr', hsa]
    split <;> simp
  · rw [if_neg hy] at hh hh'
    simp only [hy, if_false, decide_true] at hs2
    simp only [go_sem, ↓reduceIte, reduceCtorEq, upd_ne, back_new (no_at), Nat.reduceAdd, Nat.reduceEqDiff, Nat.reduceMul, Nat.reduceSub, Nat.reduceLeDiff, Nat.reduceLT, Int.reduceToNat, Int.reduceLE, Int.reduceLT, Int.reduceEq, UInt8.reduceOfNat, hf, ht, hf6, ht6, ha, hh, hh', hs2, hpr, hpr', hsz]
    split <;> simp
end
end Go.Ev

/- Layer 13: heads of IPv6 over IPv4: what the functions yield. -/
namespace Go.Ev
set_option linter.unusedSimpArgs false
set_option linter.unusedVariables false
set_option maxRecDepth 4000

def proto64 (x : Int) : Int × Bool := if x = 58 then (1, true) else if x ≤ 2 ∨ x = 43 ∨ x = 44 ∨ x = 60 ∨ 255 < x then (0, false) else (x, true)

theorem p_proto {g : Call} (x : Int) : F_head64_Proto g (.int .i64 x) = some (.tup [.int .i64 (proto64 x).1, .bool (proto64 x).2], none) := by
  unfold F_head64_Proto
  (try simp only [guard_merge, or_merge, and_merge, or_pick, and_pick, guard_or, guard_and]); simp only [to_ob]
  simp only [go_sem, ↓reduceIte, reduceCtorEq, upd_ne, back_new (no_at), Nat.reduceAdd, Nat.reduceEqDiff, Nat.reduceMul, Nat.reduceSub, Nat.reduceLeDiff, Nat.reduceLT, Int.reduceToNat, Int.reduceLE, Int.reduceLT, Int.reduceEq, UInt8.reduceOfNat]
  unfold proto64
  try simp only [true_and, go_sem, ↓reduceIte, reduceCtorEq, upd_ne, back_new (no_at), Nat.reduceAdd, Nat.reduceEqDiff, Nat.reduceMul, Nat.reduceSub, Nat.reduceLeDiff, Nat.reduceLT, Int.reduceToNat, Int.reduceLE, Int.reduceLT, Int.reduceEq, UInt8.reduceOfNat]
  repeat' split
  all_goals first | rfl | omega
theorem r_proto {g : Call} (x : Int) : F_interpreterref13_Proto g (.int .i64 x) = some (.tup [.int .i64 (proto64 x).1, .bool (proto64 x).2], none) := by
  unfold F_interpreterref13_Proto
  (try simp only [guard_merge, or_merge, and_merge, or_pick, and_pick, guard_or, guard_and]); simp only [to_ob]
  simp only [go_sem, ↓reduceIte, reduceCtorEq, upd_ne, back_new (no_at), Nat.reduceAdd, Nat.reduceEqDiff, Nat.reduceMul, Nat.reduceSub, Nat.reduceLeDiff, Nat.reduceLT, Int.reduceToNat, Int.reduceLE, Int.reduceLT, Int.reduceEq, UInt8.reduceOfNat]
  unfold proto64
  try simp only [true_and, go_sem, ↓reduceIte, reduceCtorEq, upd_ne, back_new (no_at), Nat.reduceAdd, Nat.reduceEqDiff, Nat.reduceMul, Nat.reduceSub, Nat.reduceLeDiff, Nat.reduceLT, Int.reduceToNat, Int.reduceLE, Int.reduceLT, Int.reduceEq, UInt8.reduceOfNat]
  repeat' split
  all_goals first | rfl | omega

theorem p_wants {g : Call} {cl fl ho : Int} {fr to : List UInt8} {ex : LV} {fg : Bool} {id at' : Int} {mo : Bool} {pr' : Int} {da : List UInt8} (hf : fr.length = 16) (ht : to.length = 16) (tg : Option (Nat × Nat)) (l : List LV) (hex : ex = .lst tg l) :
    F_head64_Wants g (ip6LV cl fl ho fr to ex fg id at' mo pr' da) = some (.bool (!fg && decide (da.length ≤ 1240)), none) := by
  subst hex
  unfold F_head64_Wants ip6LV
  (try simp only [guard_merge, or_merge, and_merge, or_pick, and_pick, guard_or, guard_and]); simp only [to_ob]
  simp only [go_sem, ↓reduceIte, reduceCtorEq, upd_ne, back_new (no_at), Nat.reduceAdd, Nat.reduceEqDiff, Nat.reduceMul, Nat.reduceSub, Nat.reduceLeDiff, Nat.reduceLT, Int.reduceToNat, Int.reduceLE, Int.reduceLT, Int.reduceEq, UInt8.reduceOfNat, hf, ht]
  try simp only [true_and, go_sem, ↓reduceIte, reduceCtorEq, upd_ne, back_new (no_at), Nat.reduceAdd, Nat.reduceEqDiff, Nat.reduceMul, Nat.reduceSub, Nat.reduceLeDiff, Nat.reduceLT, Int.reduceToNat, Int.reduceLE, Int.reduceLT, Int.reduceEq, UInt8.reduceOfNat]
  cases fg <;> simp
  omega

end Go.Ev

/- Layer 13: heads of IPv6 over IPv4: what the functions yield. -/
namespace Go.Ev
set_option linter.unusedSimpArgs false
set_option linter.unusedVariables false
set_option maxRecDepth 4000

/-- A route that is not used up. -/
def open1 (e : Int × List UInt8) : Bool := decide (e.1 = 43) && (decide (1 < e.2.length) && decide (e.2[1]?.getD 0 ≠ 0))
def routedS (l : List (Int × List UInt8)) : Bool := l.any open1

theorem p_routed {g : Call} (l : List (Int × List UInt8)) (hl : l.length ≤ 9223372036854775806) : F_ip6_Routed g (extsLV l) = some (.bool (routedS l), none) := by
  unfold F_ip6_Routed extsLV
  (try simp only [guard_merge, or_merge, and_merge, or_pick, and_pick, guard_or, guard_and]); simp only [to_ob, ↓e_lenL, List.length_map]
  refine while_rule (fun n s => ∃ i : Nat, s = ([.bool false, .int .i64 (i : Int)], noSlots) ∧ i + n = l.length ∧ routedS (l.drop i) = routedS l) l.length ⟨0, rfl, by simp, by simp⟩ ?_
  rintro n s ⟨i, rfl, hi, hr⟩
  simp only [go_sem, ↓reduceIte, reduceCtorEq, upd_ne, back_new (no_at), Nat.reduceAdd, Nat.reduceEqDiff, Nat.reduceMul, Nat.reduceSub, Nat.reduceLeDiff, Nat.reduceLT, Int.reduceToNat, Int.reduceLE, Int.reduceLT, Int.reduceEq, UInt8.reduceOfNat]
  refine nxt_ite (fun h => ?_) (fun h => ?_)
  · have hlt : i < l.length := by omega
    obtain ⟨e, he⟩ : ∃ e, l[i]? = some e := ⟨l[i], by simp [hlt]⟩
    have hd : l.drop i = e :: l.drop (i + 1) := by
      rw [List.drop_eq_getElem_cons hlt]; congr 1; simpa [hlt] using he
    simp only [List.getElem?_map, Int.toNat_natCast, he, go_sem, ↓reduceIte, reduceCtorEq, upd_ne, back_new (no_at), Nat.reduceAdd, Nat.reduceEqDiff, Nat.reduceMul, Nat.reduceSub, Nat.reduceLeDiff, Nat.reduceLT, Int.reduceToNat, Int.reduceLE, Int.reduceLT, Int.reduceEq, UInt8.reduceOfNat]
    by_cases h1 : e.1 = 43 ∧ 1 < e.2.length
    · obtain ⟨h1, h2⟩ := h1
      have h2' : (1 : Int) < (e.2.length : Int) := by omega
      obtain ⟨c, hc⟩ : ∃ c, e.2[1]? = some c := ⟨e.2[1], by simp [h2]⟩
      simp only [h1, h2', hc, decide_true, go_sem, ↓reduceIte, reduceCtorEq, upd_ne, back_new (no_at), Nat.reduceAdd, Nat.reduceEqDiff, Nat.reduceMul, Nat.reduceSub, Nat.reduceLeDiff, Nat.reduceLT, Int.reduceToNat, Int.reduceLE, Int.reduceLT, Int.reduceEq, UInt8.reduceOfNat]
      refine nxt_ite (fun h3 => ?_) (fun h3 => ?_)
      · have : routedS l = true := by
          rw [← hr, hd]
          simp only [routedS, List.any_cons, open1, h1, h2, hc]
          have : c ≠ 0 := fun e => h3 (by rw [e]; rfl)
          simp [this]
        rw [this]
        simp only [Nxt, exIf, true_and, go_sem, ↓reduceIte, reduceCtorEq, upd_ne, back_new (no_at), Nat.reduceAdd, Nat.reduceEqDiff, Nat.reduceMul, Nat.reduceSub, Nat.reduceLeDiff, Nat.reduceLT, Int.reduceToNat, Int.reduceLE, Int.reduceLT, Int.reduceEq, UInt8.reduceOfNat]
      · refine ⟨n - 1, by omega, i + 1, ?_, by omega, ?_⟩
        · rw [wrap_id (by omega) (by omega)]
          rfl
        · rw [← hr, hd]
          have : c = 0 := by
            have : (c.toNat : Int) = 0 := by simpa using h3
            exact UInt8.toNat_inj.1 (by simpa using this)
          simp [routedS, open1, h1, hc, this]
    · have : (decide (e.1 = 43) && decide ((1 : Int) < (e.2.length : Int))) = false := by
        simp only [Bool.and_eq_false_iff, decide_eq_false_iff_not]
        by_cases h2 : e.1 = 43
        · exact .inr (fun h3 => h1 ⟨h2, by omega⟩)
        · exact .inl h2
      simp only [this, go_sem, ↓reduceIte, reduceCtorEq, upd_ne, back_new (no_at), Nat.reduceAdd, Nat.reduceEqDiff, Nat.reduceMul, Nat.reduceSub, Nat.reduceLeDiff, Nat.reduceLT, Int.reduceToNat, Int.reduceLE, Int.reduceLT, Int.reduceEq, UInt8.reduceOfNat]
      refine ⟨n - 1, by omega, i + 1, ?_, by omega, ?_⟩
      · rw [wrap_id (by omega) (by omega)]
        rfl
      · rw [← hr, hd]
        have : open1 e = false := by
          unfold open1
          by_cases h2 : e.1 = 43
          · have : ¬ 1 < e.2.length := fun h3 => h1 ⟨h2, h3⟩
            simp [this]
          · simp [h2]
        simp [routedS, this]
  · rw [List.drop_eq_nil_of_le (by omega)] at hr
    simp only [Nxt, exIf, true_and, go_sem, ↓reduceIte, reduceCtorEq, upd_ne, back_new (no_at), Nat.reduceAdd, Nat.reduceEqDiff, Nat.reduceMul, Nat.reduceSub, Nat.reduceLeDiff, Nat.reduceLT, Int.reduceToNat, Int.reduceLE, Int.reduceLT, Int.reduceEq, UInt8.reduceOfNat]
    rw [← hr]
    simp [routedS]

end Go.Ev

/- Layer 13: the heads. -/
namespace Go.Ev
set_option linter.unusedSimpArgs false
set_option linter.unusedVariables false
set_option maxRecDepth 4000

theorem r_routed {g : Call} (l : List (Int × List UInt8)) (hl : l.length ≤ 9223372036854775806) : F_interpreterref04_Routed g (extsLV l) = some (.bool (routedS l), none) := by
  unfold F_interpreterref04_Routed extsLV
  (try simp only [guard_merge, or_merge, and_merge, or_pick, and_pick, guard_or, guard_and]); simp only [to_ob, ↓e_lenL, List.length_map]
  refine while_rule (fun n s => ∃ i : Nat, s = ([.bool false, .int .i64 (i : Int)], noSlots) ∧ i + n = l.length ∧ routedS (l.drop i) = routedS l) l.length ⟨0, rfl, by simp, by simp⟩ ?_
  rintro n s ⟨i, rfl, hi, hr⟩
  simp only [go_sem, ↓reduceIte, reduceCtorEq, upd_ne, back_new (no_at), Nat.reduceAdd, Nat.reduceEqDiff, Nat.reduceMul, Nat.reduceSub, Nat.reduceLeDiff, Nat.reduceLT, Int.reduceToNat, Int.reduceLE, Int.reduceLT, Int.reduceEq, UInt8.reduceOfNat]
  refine nxt_ite (fun h => ?_) (fun h => ?_)
  · have hlt : i < l.length := by omega
    obtain ⟨e, he⟩ : ∃ e, l[i]? = some e := ⟨l[i], by simp [hlt]⟩
    have hd : l.drop i = e :: l.drop (i + 1) := by
      rw [List.drop_eq_getElem_cons hlt]; congr 1; simpa [hlt] using he
    simp only [List.getElem?_map, Int.toNat_natCast, he, go_sem, ↓reduceIte, reduceCtorEq, upd_ne, back_new (no_at), Nat.reduceAdd, Nat.reduceEqDiff, Nat.reduceMul, Nat.reduceSub, Nat.reduceLeDiff, Nat.reduceLT, Int.reduceToNat, Int.reduceLE, Int.reduceLT, Int.reduceEq, UInt8.reduceOfNat]
    by_cases h1 : e.1 = 43 ∧ 1 < e.2.length
    · obtain ⟨h1, h2⟩ := h1
      have h2' : (2 : Int) ≤ (e.2.length : Int) := by omega
      obtain ⟨c, hc⟩ : ∃ c, e.2[1]? = some c := ⟨e.2[1], by simp [h2]⟩
      simp only [h1, h2', hc, decide_true, go_sem, ↓reduceIte, reduceCtorEq, upd_ne, back_new (no_at), Nat.reduceAdd, Nat.reduceEqDiff, Nat.reduceMul, Nat.reduceSub, Nat.reduceLeDiff, Nat.reduceLT, Int.reduceToNat, Int.reduceLE, Int.reduceLT, Int.reduceEq, UInt8.reduceOfNat]
      refine nxt_ite (fun h3 => ?_) (fun h3 => ?_)
      · have : routedS l = true := by
          rw [← hr, hd]
          simp only [routedS, List.any_cons, open1, h1, h2, hc]
          have : c ≠ 0 := fun e => h3 (by rw [e]; rfl)
          simp [this]
        rw [this]
        simp only [Nxt, exIf, true_and, go_sem, ↓reduceIte, reduceCtorEq, upd_ne, back_new (no_at), Nat.reduceAdd, Nat.reduceEqDiff, Nat.reduceMul, Nat.reduceSub, Nat.reduceLeDiff, Nat.reduceLT, Int.reduceToNat, Int.reduceLE, Int.reduceLT, Int.reduceEq, UInt8.reduceOfNat]
      · refine ⟨n - 1, by omega, i + 1, ?_, by omega, ?_⟩
        · rw [wrap_id (by omega) (by omega)]
          rfl
        · rw [← hr, hd]
          have : c = 0 := by
            have : (c.toNat : Int) = 0 := by simpa using h3
            exact UInt8.toNat_inj.1 (by simpa using this)
          simp [routedS, open1, h1, hc, this]
    · have : (decide (e.1 = 43) && decide ((2 : Int) ≤ (e.2.length : Int))) = false := by
        simp only [Bool.and_eq_false_iff, decide_eq_false_iff_not]
        by_cases h2 : e.1 = 43
        · exact .inr (fun h3 => h1 ⟨h2, by omega⟩)
        · exact .inl h2
      simp only [this, go_sem, ↓reduceIte, reduceCtorEq, upd_ne, back_new (no_at), Nat.reduceAdd, Nat.reduceEqDiff, Nat.reduceMul, Nat.reduceSub, Nat.reduceLeDiff, Nat.reduceLT, Int.reduceToNat, Int.reduceLE, Int.reduceLT, Int.reduceEq, UInt8.reduceOfNat]
      refine ⟨n - 1, by omega, i + 1, ?_, by omega, ?_⟩
      · rw [wrap_id (by omega) (by omega)]
        rfl
      · rw [← hr, hd]
        have : open1 e = false := by
          unfold open1
          by_cases h2 : e.1 = 43
          · have : ¬ 1 < e.2.length := fun h3 => h1 ⟨h2, h3⟩
            simp [this]
          · simp [h2]
        simp [routedS, this]
  · rw [List.drop_eq_nil_of_le (by omega)] at hr
    simp only [Nxt, exIf, true_and, go_sem, ↓reduceIte, reduceCtorEq, upd_ne, back_new (no_at), Nat.reduceAdd, Nat.reduceEqDiff, Nat.reduceMul, Nat.reduceSub, Nat.reduceLeDiff, Nat.reduceLT, Int.reduceToNat, Int.reduceLE, Int.reduceLT, Int.reduceEq, UInt8.reduceOfNat]
    rw [← hr]
    simp [routedS]

section
variable {S : Sys} (hS : Has S) (n : Nat)
include hS

theorem ev_proto (x : Int) : S.ev (n + 1) id_head64_Proto [.int .i64 x] none = some (.tup [.int .i64 (proto64 x).1, .bool (proto64 x).2], none) := by
  rw [Sys.step hS.h_head64_Proto, F_head64_Proto_eq, p_proto]
theorem ev_rproto (x : Int) : S.ev (n + 1) id_interpreterref13_Proto [.int .i64 x] none = some (.tup [.int .i64 (proto64 x).1, .bool (proto64 x).2], none) := by
  rw [Sys.step hS.h_interpreterref13_Proto, F_interpreterref13_Proto_eq, r_proto]
theorem ev_routed (l : List (Int × List UInt8)) (hl : l.length ≤ 9223372036854775806) : S.ev (n + 1) id_ip6_Routed [extsLV l] none = some (.bool (routedS l), none) := by
  rw [Sys.step hS.h_ip6_Routed, F_ip6_Routed_eq, p_routed l hl]
theorem ev_rrouted (l : List (Int × List UInt8)) (hl : l.length ≤ 9223372036854775806) : S.ev (n + 1) id_interpreterref04_Routed [extsLV l] none = some (.bool (routedS l), none) := by
  rw [Sys.step hS.h_interpreterref04_Routed, F_interpreterref04_Routed_eq, r_routed l hl]

theorem ev_fault64 (c : Int) : S.ev (n + 1) id_head64_fault [.int .i64 c] none = some (faultLV c, none) := by
  rw [Sys.step hS.h_head64_fault, F_head64_fault_eq]
  unfold F_head64_fault
  simp only [to_ob, true_and, go_sem, ↓reduceIte, reduceCtorEq, upd_ne, back_new (no_at), Nat.reduceAdd, Nat.reduceEqDiff, Nat.reduceMul, Nat.reduceSub, Nat.reduceLeDiff, Nat.reduceLT, Int.reduceToNat, Int.reduceLE, Int.reduceLT, Int.reduceEq, UInt8.reduceOfNat]

variable {cl fl ho : Int} {fr to : List UInt8} {ex : List (Int × List UInt8)} {fg : Bool} {id at' : Int} {mo : Bool} {pt : Int} {da : List UInt8}

theorem ev_wants (hf : fr.length = 16) (ht : to.length = 16) : S.ev (n + 1) id_head64_Wants [ip6LV cl fl ho fr to (extsLV ex) fg id at' mo pt da] none = some (.bool (!fg && decide (da.length ≤ 1240)), none) := by
  rw [Sys.step hS.h_head64_Wants, F_head64_Wants_eq, p_wants hf ht _ _ rfl]
theorem ev_rwants (hf : fr.length = 16) (ht : to.length = 16) : S.ev (n + 1) id_interpreterref13_Wants [ip6LV cl fl ho fr to (extsLV ex) fg id at' mo pt da] none = some (.bool (!fg && decide (da.length ≤ 1240)), none) := by
  rw [Sys.step hS.h_interpreterref13_Wants, F_interpreterref13_Wants_eq]
  unfold F_interpreterref13_Wants ip6LV
  (try simp only [guard_merge, or_merge, and_merge, or_pick, and_pick, guard_or, guard_and]); simp only [to_ob]
  simp only [go_sem, ↓reduceIte, reduceCtorEq, upd_ne, back_new (no_at), Nat.reduceAdd, Nat.reduceEqDiff, Nat.reduceMul, Nat.reduceSub, Nat.reduceLeDiff, Nat.reduceLT, Int.reduceToNat, Int.reduceLE, Int.reduceLT, Int.reduceEq, UInt8.reduceOfNat, hf, ht, true_and]
  cases fg <;> simp
  omega

def why64 (ho cl i pt at' : Int) (rt : Bool) (m : Nat) : Int :=
  if ho < 2 ∨ 255 < ho ∨ cl < 0 ∨ 255 < cl ∨ i < 0 ∨ 65535 < i then 13 else if rt = true ∨ (proto64 pt).2 = false then 10 else if 65515 - (m : Int) < at' then 3 else 0

theorem ev_why (hf : fr.length = 16) (ht : to.length = 16) (hl : ex.length ≤ 140737488351232) (hd : da.length ≤ 140737488351232) (i : Int) :
    S.ev (n + 2) id_head64_why [ip6LV cl fl ho fr to (extsLV ex) fg id at' mo pt da, .int .i64 i] none = some (.int .i64 (why64 ho cl i pt at' (routedS ex) da.length), none) := by
  rw [Sys.step hS.h_head64_why, F_head64_why_eq]
  have hrt := ev_routed hS n ex (by omega)
  have hpt := ev_proto hS n pt
  unfold F_head64_why ip6LV
  (try simp only [guard_merge, or_merge, and_merge, or_pick, and_pick, guard_or, guard_and]); simp only [to_ob]
  unfold extsLV at hrt
  simp only [go_sem, ↓reduceIte, reduceCtorEq, upd_ne, back_new (no_at), Nat.reduceAdd, Nat.reduceEqDiff, Nat.reduceMul, Nat.reduceSub, Nat.reduceLeDiff, Nat.reduceLT, Int.reduceToNat, Int.reduceLE, Int.reduceLT, Int.reduceEq, UInt8.reduceOfNat, hf, ht, true_and, hpt, hrt]
  rw [wrap_id (by omega) (by omega)]
  unfold why64
  simp only [or_assoc, Bool.not_eq_true']
  repeat' split
  all_goals rfl

omit hS in
theorem why64_zero {ho cl i pt at' : Int} {rt : Bool} {m : Nat} (h : why64 ho cl i pt at' rt m = 0) : 2 ≤ ho ∧ ho ≤ 255 ∧ 0 ≤ cl ∧ cl ≤ 255 ∧ 0 ≤ i ∧ i ≤ 65535 ∧ rt = false ∧ (proto64 pt).2 = true ∧ at' ≤ 65515 - (m : Int) := by
  unfold why64 at h
  split at h
  · omega
  · split at h
    · omega
    · rename_i h2
      split at h
      · omega
      · have h3 := not_or.1 h2
        refine ⟨by omega, by omega, by omega, by omega, by omega, by omega, by simpa using h3.1, by simpa using h3.2, by omega⟩

abbrev zero4 : LV := ip4LV 0 0 0 0 0 false false [0, 0, 0, 0] [0, 0, 0, 0] [] []
/-- The head, where there is one. -/
def head64S (ho cl i pt at' : Int) (fg mo : Bool) (id : Int) (fr4 to4 da : List UInt8) : LV :=
  if fg = true then ip4LV cl (id % 65536) (ho - 1) (proto64 pt).1 at' false mo fr4 to4 [] da
  else if da.length ≤ 1240 then ip4LV cl i (ho - 1) (proto64 pt).1 0 false false fr4 to4 [] da
  else ip4LV cl 0 (ho - 1) (proto64 pt).1 0 true false fr4 to4 [] da

theorem ev_head (hf : fr.length = 16) (ht : to.length = 16) (hl : ex.length ≤ 140737488351232) (hd : da.length ≤ 140737488351232) (i : Int) (fr4 to4 : List UInt8) (hf4 : fr4.length = 4) (ht4 : to4.length = 4) (hid : 0 ≤ id ∧ id < 4294967296)
   (hho : -9223372036854775808 ≤ ho ∧ ho ≤ 9223372036854775807) :
    S.ev (n + 3) id_head64_Head [ip6LV cl fl ho fr to (extsLV ex) fg id at' mo pt da, .bytes fr4, .bytes to4, .int .i64 i] none =
      some (if why64 ho cl i pt at' (routedS ex) da.length = 0 then .tup [head64S ho cl i pt at' fg mo id fr4 to4 da, .nili] else .tup [zero4, faultLV (why64 ho cl i pt at' (routedS ex) da.length)], none) := by
  rw [Sys.step hS.h_head64_Head, F_head64_Head_eq]
  have hwhy := ev_why hS n (fl := fl) (fg := fg) (id := id) (mo := mo) (at' := at') hf ht hl hd i (cl := cl) (ho := ho) (pt := pt)
  have hwt := ev_wants hS (n + 1) (cl := cl) (fl := fl) (ho := ho) (ex := ex) (fg := fg) (id := id) (mo := mo) (pt := pt) (da := da) (at' := at') hf ht
  have hpt := ev_proto hS (n + 1) pt
  have hfa := ev_fault64 hS (n + 1)
  have hz := @why64_zero ho cl i pt at' (routedS ex) da.length
  generalize why64 ho cl i pt at' (routedS ex) da.length = y at hwhy hz
  unfold F_head64_Head
  unfold ip6LV extsLV at *
  simp only [to_ob]
  simp only [go_sem, ↓reduceIte, reduceCtorEq, upd_ne, back_new (no_at), Nat.reduceAdd, Nat.reduceEqDiff, Nat.reduceMul, Nat.reduceSub, Nat.reduceLeDiff, Nat.reduceLT, Int.reduceToNat, Int.reduceLE, Int.reduceLT, Int.reduceEq, UInt8.reduceOfNat, true_and, hf, ht, hf4, ht4, hwhy, hwt, hpt, hfa]
  split
  · rename_i h; rfl
  · rename_i h
    have h : y = 0 := by omega
    rw [if_pos h]
    obtain ⟨q1, q2, _⟩ := hz h
    rw [show (65535 : Int) = ((2 ^ 16 - 1 : Nat) : Int) from rfl, bits_mask 16 hid.1 (by simp [IntKind.max, IntKind.bits, IntKind.signed]; omega) (by decide), wrap_id (by omega) (by omega), wrap_id (by omega) (by omega)]
    unfold head64S
    cases fg
    · simp only [Bool.false_eq_true, if_false, Bool.not_false, true_and]
      split <;> rfl
    · simp only [if_true]
      rfl

theorem ev_rhead (hf : fr.length = 16) (ht : to.length = 16) (hl : ex.length ≤ 140737488351232) (hd : da.length ≤ 140737488351232) (i : Int) (fr4 to4 : List UInt8) (hf4 : fr4.length = 4) (ht4 : to4.length = 4) (hid : 0 ≤ id ∧ id < 4294967296)
   (hho : -9223372036854775808 ≤ ho ∧ ho ≤ 9223372036854775807) (hat : 0 ≤ at') :
    S.ev (n + 3) id_interpreterref13_Head [ip6LV cl fl ho fr to (extsLV ex) fg id at' mo pt da, .bytes fr4, .bytes to4, .int .i64 i] none =
      some (if why64 ho cl i pt at' (routedS ex) da.length = 0 then .tup [head64S ho cl i pt at' fg mo id fr4 to4 da, .int .i64 0] else .tup [zero4, .int .i64 (why64 ho cl i pt at' (routedS ex) da.length)], none) := by
  rw [Sys.step hS.h_interpreterref13_Head, F_interpreterref13_Head_eq]
  have hwt := ev_rwants hS (n + 1) (cl := cl) (fl := fl) (ho := ho) (ex := ex) (fg := fg) (id := id) (mo := mo) (pt := pt) (da := da) (at' := at') hf ht
  have hpt := ev_rproto hS (n + 1) pt
  have hrt := ev_rrouted hS (n + 1) ex (by omega)
  have hz := @why64_zero ho cl i pt at' (routedS ex) da.length
  unfold F_interpreterref13_Head
  unfold ip6LV extsLV at *
  (try simp only [guard_merge, or_merge, and_merge, or_pick, and_pick, guard_or, guard_and]); simp only [to_ob]
  simp (maxSteps := 1000000) only [go_sem, ↓reduceIte, reduceCtorEq, upd_ne, back_new (no_at), Nat.reduceAdd, Nat.reduceEqDiff, Nat.reduceMul, Nat.reduceSub, Nat.reduceLeDiff, Nat.reduceLT, Int.reduceToNat, Int.reduceLE, Int.reduceLT, Int.reduceEq, UInt8.reduceOfNat, true_and, hf, ht, hf4, ht4, hwt, hpt, hrt]
  have e3 : (65535 < at' ∨ 65535 < IntKind.i64.wrap (IntKind.i64.wrap (at' + 20) + (da.length : Int))) ↔ 65515 - (da.length : Int) < at' := by
    by_cases h : at' ≤ 65535
    · rw [wrap_id (n := at' + 20) (by omega) (by omega), wrap_id (by omega) (by omega)]; omega
    · omega
  unfold why64
  simp only [or_assoc, e3, Bool.not_eq_true']
  by_cases c1 : ho < 2 ∨ 255 < ho ∨ cl < 0 ∨ 255 < cl ∨ i < 0 ∨ 65535 < i
  · simp only [c1, if_true]; rfl
  · simp only [c1, if_false]
    by_cases c2 : (proto64 pt).2 = false ∨ routedS ex = true
    · simp only [c2, or_comm.1 c2, if_true]; rfl
    · have c2' : ¬ (routedS ex = true ∨ (proto64 pt).2 = false) := fun h => c2 (or_comm.1 h)
      simp only [c2, c2', if_false]
      by_cases c3 : 65515 - (da.length : Int) < at'
      · simp only [c3, if_true]; rfl
      · simp only [c3, if_false, if_true]
        have hm : id.tmod 65536 = id % 65536 := Int.tmod_eq_emod_of_nonneg hid.1
        rw [hm, wrap_id (by omega) (by omega), wrap_id (by omega) (by omega)]
        unfold head64S
        cases fg
        · simp only [Bool.false_eq_true, if_false, true_and]
          split <;> rfl
        · simp only [if_true]
end
end Go.Ev

/- Layer 13: the statement on heads. -/
namespace Go.Ev
set_option linter.unusedSimpArgs false
set_option linter.unusedVariables false
set_option maxRecDepth 4000

section
variable {S : Sys} (hS : Has S) (n : Nat)
include hS

theorem ev_same_nil (c : Int) : S.ev (n + 1) id_interpreterlaw13_same [.nili, .int .i64 c] none = some (.bool (decide (c = 0)), none) := by
  rw [Sys.step hS.h_interpreterlaw13_same, F_interpreterlaw13_same_eq]
  unfold F_interpreterlaw13_same
  (try simp only [guard_merge, or_merge, and_merge, or_pick, and_pick, guard_or, guard_and]); simp only [to_ob]
  simp only [go_sem, ↓reduceIte, reduceCtorEq, upd_ne, back_new (no_at), Nat.reduceAdd, Nat.reduceEqDiff, Nat.reduceMul, Nat.reduceSub, Nat.reduceLeDiff, Nat.reduceLT, Int.reduceToNat, Int.reduceLE, Int.reduceLT, Int.reduceEq, UInt8.reduceOfNat]
  split
  · rename_i h; simp [h]
  · rename_i h; simp [h]
theorem ev_same_f (c d : Int) : S.ev (n + 1) id_interpreterlaw13_same [faultLV c, .int .i64 d] none = some (.bool (if d = 0 then false else decide (c = d)), none) := by
  rw [Sys.step hS.h_interpreterlaw13_same, F_interpreterlaw13_same_eq]
  unfold F_interpreterlaw13_same
  (try simp only [guard_merge, or_merge, and_merge, or_pick, and_pick, guard_or, guard_and]); simp only [to_ob]
  simp only [go_sem, ↓reduceIte, reduceCtorEq, upd_ne, back_new (no_at), Nat.reduceAdd, Nat.reduceEqDiff, Nat.reduceMul, Nat.reduceSub, Nat.reduceLeDiff, Nat.reduceLT, Int.reduceToNat, Int.reduceLE, Int.reduceLT, Int.reduceEq, UInt8.reduceOfNat]
  split
  · rename_i h; simp [h]
  · rename_i h; simp [h]

variable {cl fl ho : Int} {fr to : List UInt8} {ex : List (Int × List UInt8)} {fg : Bool} {id at' : Int} {mo : Bool} {pt : Int} {da : List UInt8}

theorem ev_great (h : FitIp6 cl fl ho fr to ex id at' pt da) : ∃ b, S.ev (n + 1) id_interpreterlaw13_Great [ip6LV cl fl ho fr to (extsLV ex) fg id at' mo pt da] none = some (.bool b, none) := by
  rw [Sys.step hS.h_interpreterlaw13_Great, F_interpreterlaw13_Great_eq]
  unfold F_interpreterlaw13_Great ip6LV extsLV
  have hf := h.hfr
  have ht := h.hto
  (try simp only [guard_merge, or_merge, and_merge, or_pick, and_pick, guard_or, guard_and]); simp only [to_ob]
  simp only [go_sem, ↓reduceIte, reduceCtorEq, upd_ne, back_new (no_at), Nat.reduceAdd, Nat.reduceEqDiff, Nat.reduceMul, Nat.reduceSub, Nat.reduceLeDiff, Nat.reduceLT, Int.reduceToNat, Int.reduceLE, Int.reduceLT, Int.reduceEq, UInt8.reduceOfNat, hf, ht]
  refine while_ruleP (fun x => ∃ b, x = some (LV.bool b, none)) (fun n s => ∃ (m : Int) (i : Nat), s = ([.int .i64 m, .int .i64 (i : Int)], noSlots) ∧ i + n = ex.length) ex.length ⟨_, 0, rfl, by simp⟩ ?_
  rintro n s ⟨m, i, rfl, hi⟩
  simp only [go_sem, ↓reduceIte, reduceCtorEq, upd_ne, back_new (no_at), Nat.reduceAdd, Nat.reduceEqDiff, Nat.reduceMul, Nat.reduceSub, Nat.reduceLeDiff, Nat.reduceLT, Int.reduceToNat, Int.reduceLE, Int.reduceLT, Int.reduceEq, UInt8.reduceOfNat, hf, ht, List.length_map]
  refine nxtP_ite (fun hc => ?_) (fun hc => ?_)
  · have hlt : i < ex.length := by omega
    obtain ⟨e, he⟩ : ∃ e, ex[i]? = some e := ⟨ex[i], by simp [hlt]⟩
    simp only [List.getElem?_map, Int.toNat_natCast, he, go_sem, ↓reduceIte, reduceCtorEq, upd_ne, back_new (no_at), Nat.reduceAdd, Nat.reduceEqDiff, Nat.reduceMul, Nat.reduceSub, Nat.reduceLeDiff, Nat.reduceLT, Int.reduceToNat, Int.reduceLE, Int.reduceLT, Int.reduceEq, UInt8.reduceOfNat, pMinmax, pMinmax2]
    have hex := h.hex
    exact ⟨n - 1, by omega, _, i + 1, by rw [wrap_id (n := (i : Int) + 1) (by omega) (by omega)]; rfl, by omega⟩
  · simp only [NxtP, exIf, go_sem, ↓reduceIte, reduceCtorEq, upd_ne, back_new (no_at), Nat.reduceAdd, Nat.reduceEqDiff, Nat.reduceMul, Nat.reduceSub, Nat.reduceLeDiff, Nat.reduceLT, Int.reduceToNat, Int.reduceLE, Int.reduceLT, Int.reduceEq, UInt8.reduceOfNat, hf, ht, List.length_map]
    exact ⟨_, rfl⟩

theorem ev_awake : S.ev (n + 4) id_interpreterlaw13_awake [] none = some (.bool true, none) := by
  rw [Sys.step hS.h_interpreterlaw13_awake, F_interpreterlaw13_awake_eq]
  have hh := ev_head hS n (cl := 5) (fl := 0) (ho := 9) (fr := [0, 0, 0, 0, 0, 0, 0, 0, 0, 0, 0, 0, 0, 0, 0, 0]) (to := [0, 0, 0, 0, 0, 0, 0, 0, 0, 0, 0, 0, 0, 0, 0, 0]) (ex := []) (fg := false) (id := 0) (at' := 0) (mo := false) (pt := 58) (da := [104, 105]) rfl rfl (by simp) (by simp) 7 [1, 0, 0, 0] [2, 0, 0, 0] rfl rfl (by omega) (by omega)
  have hy : why64 9 5 7 58 0 (routedS []) ([104, 105] : List UInt8).length = 0 := by decide
  rw [hy] at hh
  have hq : head64S 9 5 7 58 0 false false 0 [1, 0, 0, 0] [2, 0, 0, 0] [104, 105] = ip4LV 5 7 8 1 0 false false [1, 0, 0, 0] [2, 0, 0, 0] [] [104, 105] := by rfl
  rw [hq] at hh
  unfold F_interpreterlaw13_awake
  unfold ip6LV extsLV at hh
  simp only [List.map_nil, if_true] at hh
  (try simp only [guard_merge, or_merge, and_merge, or_pick, and_pick, guard_or, guard_and]); simp only [to_ob]
  simp only [go_sem, ↓reduceIte, reduceCtorEq, upd_ne, back_new (no_at), Nat.reduceAdd, Nat.reduceEqDiff, Nat.reduceMul, Nat.reduceSub, Nat.reduceLeDiff, Nat.reduceLT, Int.reduceToNat, Int.reduceLE, Int.reduceLT, Int.reduceEq, UInt8.reduceOfNat, hh]
  rfl

theorem ev_Does {vs : List LV} (h : fitVL [shpIp6, .bytes 4, .bytes 4, .int .i64, .int .i64] vs) : S.ev (n + 5) id_interpreterlaw13_Head64Does vs none = some (.bool true, none) := by
  obtain ⟨a, r, e, g0, q0⟩ := fit_cons h; clear h; subst e; obtain ⟨cl, fl, ho, fr, to, ex, fg, id, at', mo, pt, da, rfl, hp⟩ := fit_ip6 g0; clear g0
  obtain ⟨a, r, e, g1, q1⟩ := fit_cons q0; clear q0; subst e; obtain ⟨fr4, rfl, hf4⟩ := fit_bytes g1; clear g1
  obtain ⟨a, r, e, g2, q2⟩ := fit_cons q1; clear q1; subst e; obtain ⟨to4, rfl, ht4⟩ := fit_bytes g2; clear g2
  obtain ⟨a, r, e, g3, q3⟩ := fit_cons q2; clear q2; subst e; obtain ⟨i, rfl, hi⟩ := fit_i64 g3; clear g3
  obtain ⟨a, r, e, g4, q4⟩ := fit_cons q3; clear q3; subst e; obtain ⟨pn, rfl, hpn⟩ := fit_i64 g4; clear g4
  obtain rfl := fit_nil q4
  rw [Sys.step hS.h_interpreterlaw13_Head64Does, F_interpreterlaw13_Head64Does_eq]
  have hf := hp.hfr
  have ht := hp.hto
  have ha := ev_awake hS n
  obtain ⟨b, hg⟩ := ev_great hS (n + 3) (fg := fg) (mo := mo) hp
  have hw := ev_wants hS (n + 3) (cl := cl) (fl := fl) (ho := ho) (ex := ex) (fg := fg) (id := id) (mo := mo) (pt := pt) (da := da) (at' := at') hf ht
  have hw' := ev_rwants hS (n + 3) (cl := cl) (fl := fl) (ho := ho) (ex := ex) (fg := fg) (id := id) (mo := mo) (pt := pt) (da := da) (at' := at') hf ht
  have hpr := ev_proto hS (n + 3) pn
  have hpr' := ev_rproto hS (n + 3) pn
  have hid : 0 ≤ id ∧ id < 4294967296 := ⟨hp.hid.1, by have := hp.hid.2; omega⟩
  have hh := ev_head hS (n + 1) (fl := fl) (fg := fg) (mo := mo) (cl := cl) (pt := pt) (at' := at') hf ht hp.hex hp.hda i fr4 to4 hf4 ht4 hid hp.hho
  have hs1 := ev_same_nil hS (n + 3) 0
  have hs2 := ev_same_f hS (n + 3)
  unfold F_interpreterlaw13_Head64Does
  (try simp only [guard_merge, or_merge, and_merge, or_pick, and_pick, guard_or, guard_and]); simp only [to_ob]
  by_cases hneg : at' < 0
  · unfold ip6LV extsLV at *
    simp only [go_sem, ↓reduceIte, reduceCtorEq, upd_ne, back_new (no_at), Nat.reduceAdd, Nat.reduceEqDiff, Nat.reduceMul, Nat.reduceSub, Nat.reduceLeDiff, Nat.reduceLT, Int.reduceToNat, Int.reduceLE, Int.reduceLT, Int.reduceEq, UInt8.reduceOfNat, hf, ht, hf4, ht4, ha, hg, hneg]
  · have hh' := ev_rhead hS (n + 1) (fl := fl) (fg := fg) (mo := mo) (cl := cl) (pt := pt) (at' := at') hf ht hp.hex hp.hda i fr4 to4 hf4 ht4 hid hp.hho (by omega)
    generalize why64 ho cl i pt at' (routedS ex) da.length = y at hh hh'
    have hq : ∃ a1 a2 a3 a4 a5 b1 b2 s1 s2 s3 s4, head64S ho cl i pt at' fg mo id fr4 to4 da = ip4LV a1 a2 a3 a4 a5 b1 b2 s1 s2 s3 s4 ∧ s1.length = 4 ∧ s2.length = 4 := by
      unfold head64S
      split
      · exact ⟨_, _, _, _, _, _, _, _, _, _, _, rfl, hf4, ht4⟩
      · split
        · exact ⟨_, _, _, _, _, _, _, _, _, _, _, rfl, hf4, ht4⟩
        · exact ⟨_, _, _, _, _, _, _, _, _, _, _, rfl, hf4, ht4⟩
    obtain ⟨a1, a2, a3, a4, a5, b1, b2, s1, s2, s3, s4, hq, hs3, hs4⟩ := hq
    rw [hq] at hh hh'
    unfold ip6LV extsLV at *
    by_cases hy : y = 0
    · rw [if_pos hy] at hh hh'
      simp only [go_sem, ↓reduceIte, reduceCtorEq, upd_ne, back_new (no_at), Nat.reduceAdd, Nat.reduceEqDiff, Nat.reduceMul, Nat.reduceSub, Nat.reduceLeDiff, Nat.reduceLT, Int.reduceToNat, Int.reduceLE, Int.reduceLT, Int.reduceEq, UInt8.reduceOfNat, hf, ht, hf4, ht4, ha, hg, hneg, hh, hh', hs1, hpr, hpr', hw, hw', hs3, hs4]
      split <;> simp
    · rw [if_neg hy] at hh hh'
      simp only [go_sem, ↓reduceIte, reduceCtorEq, upd_ne, back_new (no_at), Nat.reduceAdd, Nat.reduceEqDiff, Nat.reduceMul, Nat.reduceSub, Nat.reduceLeDiff, Nat.reduceLT, Int.reduceToNat, Int.reduceLE, Int.reduceLT, Int.reduceEq, UInt8.reduceOfNat, hf, ht, hf4, ht4, ha, hg, hneg, hh, hh', hs2, hpr, hpr', hw, hw', hy]
      split <;> simp
end
end Go.Ev

/- Layers 12 and 13: over and back. -/
namespace Go.Ev
set_option linter.unusedSimpArgs false
set_option linter.unusedVariables false
set_option maxRecDepth 4000
set_option maxHeartbeats 1000000

theorem proto_back {x : Int} (h : (proto46 x).2 = true) : proto64 (proto46 x).1 = (x, true) := by
  unfold proto46 at h ⊢
  split
  · rename_i e; subst e; rfl
  · split
    · rename_i h1 h2; rw [if_neg h1, if_pos h2] at h; cases h
    · rename_i h1 h2
      unfold proto64
      rw [if_neg (by omega), if_neg (by omega)]

theorem why46_zero {tos ttl pt : Int} {rs : Option Bool} (h : why46 tos ttl pt rs = 0) : 2 ≤ ttl ∧ ttl ≤ 255 ∧ 0 ≤ tos ∧ tos ≤ 255 ∧ rs = some false ∧ (proto46 pt).2 = true := by
  unfold why46 at h
  split at h
  · omega
  · split at h
    · omega
    · rename_i r
      split at h
      · omega
      · rename_i h2
        have h3 := not_or.1 h2
        refine ⟨by omega, by omega, by omega, by omega, ?_, by simpa using h3.2⟩
        have : r = false := by simpa using h3.1
        rw [this]

theorem why64_back {ttl tos i pt at' : Int} {m : Nat} (h1 : 2 ≤ ttl) (h2 : ttl ≤ 255) (h3 : 0 ≤ tos) (h4 : tos ≤ 255) (h5 : 0 ≤ i) (h6 : i ≤ 65535) (h : (proto46 pt).2 = true) :
    why64 (ttl - 1) tos i (proto46 pt).1 at' false m = if ttl < 3 then 13 else if 65515 - (m : Int) < at' then 3 else 0 := by
  unfold why64
  rw [proto_back h]
  by_cases c : ttl < 3
  · rw [if_pos (by omega), if_pos c]
  · rw [if_neg (by omega), if_neg c, if_neg (by simp)]

section
variable {S : Sys} (hS : Has S) (n : Nat)
include hS

theorem ev_Again {vs : List LV} (h : fitVL [shpIp4, .bytes 16, .bytes 16, .int .u16] vs) : S.ev (n + 5) id_interpreterlaw13_Head64Again vs none = some (.bool true, none) := by
  obtain ⟨a, r, e, g0, q0⟩ := fit_cons h; clear h; subst e; obtain ⟨tos, id, ttl, pt, at', df, mo, fr, to, op, da, rfl, hp⟩ := fit_ip4 g0; clear g0
  obtain ⟨a, r, e, g1, q1⟩ := fit_cons q0; clear q0; subst e; obtain ⟨fr6, rfl, hf6⟩ := fit_bytes g1; clear g1
  obtain ⟨a, r, e, g2, q2⟩ := fit_cons q1; clear q1; subst e; obtain ⟨to6, rfl, ht6⟩ := fit_bytes g2; clear g2
  obtain ⟨a, r, e, g4, q4⟩ := fit_cons q2; clear q2; subst e; obtain ⟨i, rfl, hi⟩ := fit_u16 g4; clear g4
  obtain rfl := fit_nil q4
  rw [Sys.step hS.h_interpreterlaw13_Head64Again, F_interpreterlaw13_Head64Again_eq]
  have hf := hp.hfr
  have ht := hp.hto
  have ha := ev_awake hS n
  have hh := ev_head46 hS (n + 1) (df := df) (mo := mo) hp fr6 to6 hf6 ht6
  unfold F_interpreterlaw13_Head64Again
  (try simp only [guard_merge, or_merge, and_merge, or_pick, and_pick, guard_or, guard_and]); simp only [to_ob]
  by_cases c0 : 70000 < (da.length : Int) ∨ 1000 < (op.length : Int) ∨ at' < 0 ∨ id < 0 ∨ 65535 < id
  · have c0' : ((((70000 < (da.length : Int) ∨ 1000 < (op.length : Int)) ∨ at' < 0) ∨ id < 0) ∨ 65535 < id) := by omega
    simp only [go_sem, ↓reduceIte, reduceCtorEq, upd_ne, back_new (no_at), Nat.reduceAdd, Nat.reduceEqDiff, Nat.reduceMul, Nat.reduceSub, Nat.reduceLeDiff, Nat.reduceLT, Int.reduceToNat, Int.reduceLE, Int.reduceLT, Int.reduceEq, UInt8.reduceOfNat, hf, ht, hf6, ht6, ha, c0']
  · have c0' : ¬ ((((70000 < (da.length : Int) ∨ 1000 < (op.length : Int)) ∨ at' < 0) ∨ id < 0) ∨ 65535 < id) := by omega
    by_cases hy : why46 tos ttl pt (routeS op false) = 0
    · rw [if_pos hy] at hh
      obtain ⟨y1, y2, y3, y4, y5, y6⟩ := why46_zero hy
      have hb := proto_back y6
      have ew : IntKind.i64.wrap i = i := wrap_id (by omega) (by omega)
      have eu : IntKind.u32.wrap id = id := wrap_of (by simp [IntKind.min, IntKind.signed]; omega) (by simp [IntKind.max, IntKind.signed, IntKind.bits]; omega)
      have em : id % 65536 = id := Int.emod_eq_of_lt (by omega) (by omega)
      have e2 : IntKind.i64.wrap (ttl - 2) = ttl - 2 := wrap_id (by omega) (by omega)
      have e3 : IntKind.i64.wrap (65515 - (da.length : Int)) = 65515 - (da.length : Int) := wrap_id (by omega) (by omega)
      unfold head46S at hh
      have h64 : ∀ (fg : Bool) (id' : Int), 0 ≤ id' ∧ id' < 4294967296 → _ := fun fg id' hid' => ev_head hS (n + 1) (cl := tos) (fl := 0) (ho := ttl - 1) (fr := fr6) (to := to6) (ex := []) (fg := fg) (id := id') (at' := at') (mo := mo) (pt := (proto46 pt).1) (da := da) hf6 ht6 (by simp) (by omega) i fr to hf ht hid' (by omega)
      have hr0 : routedS [] = false := rfl
      rw [hr0] at h64
      by_cases hfg : mo = true ∨ at' ≠ 0
      · rw [if_pos hfg, eu] at hh
        have h64 := h64 true id (by omega)
        rw [why64_back y1 y2 y3 y4 hi.1 hi.2 y6] at h64
        unfold head64S at h64
        simp only [ip6LV, extsLV, List.map_nil, if_true, em, hb] at h64
        by_cases c1 : ttl < 3
        · simp only [c1, if_true] at h64
          simp only [go_sem, ↓reduceIte, reduceCtorEq, upd_ne, back_new (no_at), Nat.reduceAdd, Nat.reduceEqDiff, Nat.reduceMul, Nat.reduceSub, Nat.reduceLeDiff, Nat.reduceLT, Int.reduceToNat, Int.reduceLE, Int.reduceLT, Int.reduceEq, UInt8.reduceOfNat, hf, ht, hf6, ht6, ha, c0', hh, h64, ew, c1]
        · by_cases c2 : 65515 - (da.length : Int) < at'
          · simp only [c1, c2, if_true, if_false] at h64
            simp only [go_sem, ↓reduceIte, reduceCtorEq, upd_ne, back_new (no_at), Nat.reduceAdd, Nat.reduceEqDiff, Nat.reduceMul, Nat.reduceSub, Nat.reduceLeDiff, Nat.reduceLT, Int.reduceToNat, Int.reduceLE, Int.reduceLT, Int.reduceEq, UInt8.reduceOfNat, hf, ht, hf6, ht6, ha, c0', hh, h64, ew, e3, c1, c2]
          · simp only [c1, c2, if_true, if_false] at h64
            have c3 : ¬ (mo = false ∧ at' = 0) := by
              rintro ⟨k1, k2⟩
              rcases hfg with k | k
              · rw [k1] at k; cases k
              · exact k k2
            have e4 : IntKind.i64.wrap (ttl - 1 - 1) = ttl - 2 := by rw [wrap_id (by omega) (by omega)]; omega
            have e5 : ttl - 1 - 1 = ttl - 2 := by omega
            simp only [go_sem, ↓reduceIte, reduceCtorEq, upd_ne, back_new (no_at), Nat.reduceAdd, Nat.reduceEqDiff, Nat.reduceMul, Nat.reduceSub, Nat.reduceLeDiff, Nat.reduceLT, Int.reduceToNat, Int.reduceLE, Int.reduceLT, Int.reduceEq, UInt8.reduceOfNat, hf, ht, hf6, ht6, ha, c0', hh, h64, ew, e2, e3, e4, c1, c2, Bool.not_eq_true', c3, e5]
            simp
      · have hmo : mo = false := by cases mo <;> simp at hfg ⊢
        have hat : at' = 0 := by
          by_cases k : at' = 0
          · exact k
          · exact absurd (.inr k) hfg
        subst hmo hat
        have c0n : ¬ (((70000 < (da.length : Int) ∨ 1000 < (op.length : Int)) ∨ id < 0) ∨ 65535 < id) := by omega
        rw [if_neg hfg] at hh
        have h64 := h64 false 0 (by omega)
        rw [why64_back y1 y2 y3 y4 hi.1 hi.2 y6] at h64
        unfold head64S at h64
        simp only [ip6LV, extsLV, List.map_nil, if_false, hb, Bool.false_eq_true] at h64
        by_cases c1 : ttl < 3
        · simp only [c1, if_true] at h64
          simp only [go_sem, ↓reduceIte, reduceCtorEq, upd_ne, back_new (no_at), Nat.reduceAdd, Nat.reduceEqDiff, Nat.reduceMul, Nat.reduceSub, Nat.reduceLeDiff, Nat.reduceLT, Int.reduceToNat, Int.reduceLE, Int.reduceLT, Int.reduceEq, UInt8.reduceOfNat, hf, ht, hf6, ht6, ha, c0n, hh, h64, ew, c1]
        · by_cases c2 : 65515 - (da.length : Int) < 0
          · simp only [c1, c2, if_true, if_false] at h64
            simp only [go_sem, ↓reduceIte, reduceCtorEq, upd_ne, back_new (no_at), Nat.reduceAdd, Nat.reduceEqDiff, Nat.reduceMul, Nat.reduceSub, Nat.reduceLeDiff, Nat.reduceLT, Int.reduceToNat, Int.reduceLE, Int.reduceLT, Int.reduceEq, UInt8.reduceOfNat, hf, ht, hf6, ht6, ha, c0n, hh, h64, ew, e3, c1, c2]
          · have e5 : ttl - 1 - 1 = ttl - 2 := by omega
            by_cases c4 : da.length ≤ 1240
            · have c5 : ¬ 1240 < (da.length : Int) := by omega
              simp only [c1, c2, c4, if_true, if_false, e5] at h64
              simp only [go_sem, ↓reduceIte, reduceCtorEq, upd_ne, back_new (no_at), Nat.reduceAdd, Nat.reduceEqDiff, Nat.reduceMul, Nat.reduceSub, Nat.reduceLeDiff, Nat.reduceLT, Int.reduceToNat, Int.reduceLE, Int.reduceLT, Int.reduceEq, UInt8.reduceOfNat, hf, ht, hf6, ht6, ha, c0n, hh, h64, ew, e2, e3, c1, c2, c5]
              simp
            · have c5 : 1240 < (da.length : Int) := by omega
              simp only [c1, c2, c4, if_true, if_false, e5] at h64
              simp only [go_sem, ↓reduceIte, reduceCtorEq, upd_ne, back_new (no_at), Nat.reduceAdd, Nat.reduceEqDiff, Nat.reduceMul, Nat.reduceSub, Nat.reduceLeDiff, Nat.reduceLT, Int.reduceToNat, Int.reduceLE, Int.reduceLT, Int.reduceEq, UInt8.reduceOfNat, hf, ht, hf6, ht6, ha, c0n, hh, h64, ew, e2, e3, c1, c2, c5]
              simp
    · rw [if_neg hy] at hh
      simp only [go_sem, ↓reduceIte, reduceCtorEq, upd_ne, back_new (no_at), Nat.reduceAdd, Nat.reduceEqDiff, Nat.reduceMul, Nat.reduceSub, Nat.reduceLeDiff, Nat.reduceLT, Int.reduceToNat, Int.reduceLE, Int.reduceLT, Int.reduceEq, UInt8.reduceOfNat, hf, ht, hf6, ht6, ha, c0', hh]
end
end Go.Ev

/- Layer 13: what does not change a head; protocols over and back. -/
namespace Go.Ev
set_option linter.unusedSimpArgs false
set_option linter.unusedVariables false
set_option maxRecDepth 4000
set_option maxHeartbeats 2000000

theorem why64_i {ho cl i pt at' : Int} {rt : Bool} {m : Nat} (h1 : 0 ≤ i) (h2 : i ≤ 65535) : why64 ho cl i pt at' rt m = why64 ho cl 0 pt at' rt m := by
  unfold why64
  have : (ho < 2 ∨ 255 < ho ∨ cl < 0 ∨ 255 < cl ∨ i < 0 ∨ 65535 < i) ↔ (ho < 2 ∨ 255 < ho ∨ cl < 0 ∨ 255 < cl ∨ (0 : Int) < 0 ∨ (65535 : Int) < 0) := by omega
  simp only [this]
theorem why64_rt {ho cl i pt at' : Int} {rt : Bool} {m : Nat} (h : why64 ho cl i pt at' rt m = 0) : why64 ho cl i pt at' false m = 0 := by
  obtain ⟨_, _, _, _, _, _, h7, _⟩ := why64_zero h
  rw [← h7]; exact h
theorem why46_proto {tos ttl pt : Int} {rs : Option Bool} (h : (proto46 pt).2 = false) : why46 tos ttl pt rs ≠ 0 := fun h0 => by
  obtain ⟨_, _, _, _, _, h6⟩ := why46_zero h0
  rw [h] at h6; cases h6
theorem proto46_no {x : Int} (h : (proto46 x).2 = false) : (proto46 x).1 = 0 := by
  unfold proto46 at h ⊢
  split
  · rename_i e; rw [if_pos e] at h; cases h
  · split
    · rfl
    · rename_i h1 h2; rw [if_neg h1, if_neg h2] at h; cases h
theorem proto46_is {x : Int} (h : (proto46 x).2 = true) : (proto46 x).1 = x ∨ (x = 1 ∧ (proto46 x).1 = 58) := by
  unfold proto46 at h ⊢
  split
  · rename_i e; exact .inr ⟨e, rfl⟩
  · split
    · rename_i h1 h2; rw [if_neg h1, if_pos h2] at h; cases h
    · exact .inl rfl

section
variable {S : Sys} (hS : Has S) (n : Nat)
include hS

theorem ev_ProtoLaw {vs : List LV} (h : fitVL [.int .i64, shpIp4] vs) : S.ev (n + 5) id_interpreterlaw13_Head64Proto vs none = some (.bool true, none) := by
  obtain ⟨a, r, e, g4, q4⟩ := fit_cons h; clear h; subst e; obtain ⟨x, rfl, hx⟩ := fit_i64 g4; clear g4
  obtain ⟨a, r, e, g0, q0⟩ := fit_cons q4; clear q4; subst e; obtain ⟨tos, id, ttl, pt, at', df, mo, fr, to, op, da, rfl, hp⟩ := fit_ip4 g0; clear g0
  obtain rfl := fit_nil q0
  rw [Sys.step hS.h_interpreterlaw13_Head64Proto, F_interpreterlaw13_Head64Proto_eq]
  have hf := hp.hfr
  have ht := hp.hto
  have ha := ev_awake hS n
  have hp' : FitIp4 tos id ttl x at' fr to op da := ⟨hp.htos, hp.hid, hp.httl, hx, hp.hat, hp.hfr, hp.hto, hp.hop, hp.hda⟩
  have hh := ev_head46 hS (n + 1) (df := df) (mo := mo) hp' z16 z16 rfl rfl
  have h1 := ev_proto4 hS (n + 3) x
  have h2 := ev_proto hS (n + 3)
  have hsz := ev_Same0 hS (n + 3) (cl := 0) (fl := 0) (ho := 0) (fr := z16) (to := z16) (fg := false) (id := 0) (at' := 0) (mo := false) (pt := 0) (da := []) (cl' := 0) (fl' := 0) (ho' := 0) (fr' := z16) (to' := z16) (fg' := false) (id' := 0) (at'' := 0) (mo' := false) (pt' := 0) (da' := []) rfl rfl rfl rfl
  simp only [and_self, decide_true] at hsz
  unfold F_interpreterlaw13_Head64Proto
  (try simp only [guard_merge, or_merge, and_merge, or_pick, and_pick, guard_or, guard_and]); simp only [to_ob]
  by_cases c0 : 3000 < (da.length : Int) ∨ 1000 < (op.length : Int)
  · simp only [go_sem, ↓reduceIte, reduceCtorEq, upd_ne, back_new (no_at), Nat.reduceAdd, Nat.reduceEqDiff, Nat.reduceMul, Nat.reduceSub, Nat.reduceLeDiff, Nat.reduceLT, Int.reduceToNat, Int.reduceLE, Int.reduceLT, Int.reduceEq, UInt8.reduceOfNat, hf, ht, ha, c0]
  · cases hok : (proto46 x).2 with
    | false =>
      have hw := why46_proto (tos := tos) (ttl := ttl) (rs := routeS op false) hok
      rw [if_neg hw] at hh
      have h0 := proto46_no hok
      rw [hok, h0] at h1
      simp only [go_sem, ↓reduceIte, reduceCtorEq, upd_ne, back_new (no_at), Nat.reduceAdd, Nat.reduceEqDiff, Nat.reduceMul, Nat.reduceSub, Nat.reduceLeDiff, Nat.reduceLT, Int.reduceToNat, Int.reduceLE, Int.reduceLT, Int.reduceEq, UInt8.reduceOfNat, hf, ht, ha, c0, h1, h2, hh, l_call, hsz]
    | true =>
      have hb := proto_back hok
      rw [hok] at h1
      have h3 := h2 (proto46 x).1
      rw [hb] at h3
      have hi := proto46_is hok
      by_cases hw : why46 tos ttl x (routeS op false) = 0
      · rw [if_pos hw] at hh
        obtain ⟨a1, a2, a3, b1, i1, a4, b2, a5, hq⟩ := head46_form tos id ttl x at' mo z16 z16 da
        have hq5 : a5 = (proto46 x).1 := by
          unfold head46S at hq
          split at hq <;> simp at hq <;> exact hq.2.2.2.2.2.2.2.symm
        subst hq5
        rw [hq] at hh
        simp only [go_sem, ↓reduceIte, reduceCtorEq, upd_ne, back_new (no_at), Nat.reduceAdd, Nat.reduceEqDiff, Nat.reduceMul, Nat.reduceSub, Nat.reduceLeDiff, Nat.reduceLT, Int.reduceToNat, Int.reduceLE, Int.reduceLT, Int.reduceEq, UInt8.reduceOfNat, hf, ht, ha, c0, h1, h3, hh]
        rcases hi with hi | ⟨hi, hj⟩
        · simp [hi]
        · subst hi; simp [hj]
      · rw [if_neg hw] at hh
        simp only [go_sem, ↓reduceIte, reduceCtorEq, upd_ne, back_new (no_at), Nat.reduceAdd, Nat.reduceEqDiff, Nat.reduceMul, Nat.reduceSub, Nat.reduceLeDiff, Nat.reduceLT, Int.reduceToNat, Int.reduceLE, Int.reduceLT, Int.reduceEq, UInt8.reduceOfNat, hf, ht, ha, c0, h1, h3, hh]
        rcases hi with hi | ⟨hi, hj⟩
        · simp [hi]
        · subst hi; simp [hj]

theorem ev_Blind {vs : List LV} (h : fitVL [shpIp6, .bytes 4, .bytes 4, .int .u16, .int .u16, .int .i64] vs) : S.ev (n + 5) id_interpreterlaw13_Head64Blind vs none = some (.bool true, none) := by
  obtain ⟨a, r, e, g0, q0⟩ := fit_cons h; clear h; subst e; obtain ⟨cl, fl, ho, fr, to, ex, fg, id, at', mo, pt, da, rfl, hp⟩ := fit_ip6 g0; clear g0
  obtain ⟨a, r, e, g1, q1⟩ := fit_cons q0; clear q0; subst e; obtain ⟨fr4, rfl, hf4⟩ := fit_bytes g1; clear g1
  obtain ⟨a, r, e, g2, q2⟩ := fit_cons q1; clear q1; subst e; obtain ⟨to4, rfl, ht4⟩ := fit_bytes g2; clear g2
  obtain ⟨a, r, e, g3, q3⟩ := fit_cons q2; clear q2; subst e; obtain ⟨x, rfl, hx⟩ := fit_u16 g3; clear g3
  obtain ⟨a, r, e, g4, q4⟩ := fit_cons q3; clear q3; subst e; obtain ⟨y, rfl, hy⟩ := fit_u16 g4; clear g4
  obtain ⟨a, r, e, g5, q5⟩ := fit_cons q4; clear q4; subst e; obtain ⟨fl2, rfl, hfl2⟩ := fit_i64 g5; clear g5
  obtain rfl := fit_nil q5
  rw [Sys.step hS.h_interpreterlaw13_Head64Blind, F_interpreterlaw13_Head64Blind_eq]
  have hf := hp.hfr
  have ht := hp.hto
  have ha := ev_awake hS n
  obtain ⟨b, hg⟩ := ev_great hS (n + 3) (fg := fg) (mo := mo) hp
  have hw := ev_wants hS (n + 3) (cl := cl) (fl := fl) (ho := ho) (ex := ex) (fg := fg) (id := id) (mo := mo) (pt := pt) (da := da) (at' := at') hf ht
  have hid : 0 ≤ id ∧ id < 4294967296 := ⟨hp.hid.1, by have := hp.hid.2; omega⟩
  have hda := hp.hda
  have h1 := ev_head hS (n + 1) (fl := fl) (fg := fg) (mo := mo) (cl := cl) (pt := pt) (at' := at') hf ht hp.hex hp.hda x fr4 to4 hf4 ht4 hid hp.hho
  have h2 := ev_head hS (n + 1) (fl := fl2) (fg := fg) (mo := mo) (cl := cl) (pt := pt) (at' := at') ht hf hp.hex hp.hda y fr4 to4 hf4 ht4 hid hp.hho
  have h3 := ev_head hS (n + 1) (fl := fl2) (ex := []) (fg := fg) (mo := mo) (cl := cl) (pt := pt) (at' := at') ht hf (by simp) hp.hda y fr4 to4 hf4 ht4 hid hp.hho
  rw [why64_i hx.1 hx.2] at h1
  rw [why64_i hy.1 hy.2] at h2 h3
  have ex1 : IntKind.i64.wrap x = x := wrap_id (by omega) (by omega)
  have ey1 : IntKind.i64.wrap y = y := wrap_id (by omega) (by omega)
  have hr0 : routedS [] = false := rfl
  rw [hr0] at h3
  have hz := @why64_rt ho cl 0 pt at' (routedS ex) da.length
  generalize why64 ho cl 0 pt at' (routedS ex) da.length = w at h1 h2 hz
  simp only [ip6LV, extsLV, List.map_nil] at hw hg h1 h2 h3
  unfold F_interpreterlaw13_Head64Blind
  (try simp only [guard_merge, or_merge, and_merge, or_pick, and_pick, guard_or, guard_and]); simp only [to_ob]
  by_cases hw0 : w = 0
  · rw [if_pos hw0] at h1 h2
    rw [if_pos (hz hw0)] at h3
    unfold head64S at h1 h2 h3
    cases fg with
    | true =>
      simp only [if_true] at h1 h2 h3
      simp only [go_sem, ↓reduceIte, reduceCtorEq, upd_ne, back_new (no_at), Nat.reduceAdd, Nat.reduceEqDiff, Nat.reduceMul, Nat.reduceSub, Nat.reduceLeDiff, Nat.reduceLT, Int.reduceToNat, Int.reduceLE, Int.reduceLT, Int.reduceEq, UInt8.reduceOfNat, hf, ht, hf4, ht4, ha, hg, hw, h1, h2, h3, ex1, ey1]
      simp
    | false =>
      by_cases c : da.length ≤ 1240
      · simp only [if_true, if_false, Bool.false_eq_true, c] at h1 h2 h3
        simp only [go_sem, ↓reduceIte, reduceCtorEq, upd_ne, back_new (no_at), Nat.reduceAdd, Nat.reduceEqDiff, Nat.reduceMul, Nat.reduceSub, Nat.reduceLeDiff, Nat.reduceLT, Int.reduceToNat, Int.reduceLE, Int.reduceLT, Int.reduceEq, UInt8.reduceOfNat, hf, ht, hf4, ht4, ha, hg, hw, h1, h2, h3, ex1, ey1, c]
        simp
      · simp only [if_true, if_false, Bool.false_eq_true, c] at h1 h2 h3
        simp only [go_sem, ↓reduceIte, reduceCtorEq, upd_ne, back_new (no_at), Nat.reduceAdd, Nat.reduceEqDiff, Nat.reduceMul, Nat.reduceSub, Nat.reduceLeDiff, Nat.reduceLT, Int.reduceToNat, Int.reduceLE, Int.reduceLT, Int.reduceEq, UInt8.reduceOfNat, hf, ht, hf4, ht4, ha, hg, hw, h1, h2, h3, ex1, ey1, c]
        simp
  · rw [if_neg hw0] at h1 h2
    simp only [go_sem, ↓reduceIte, reduceCtorEq, upd_ne, back_new (no_at), Nat.reduceAdd, Nat.reduceEqDiff, Nat.reduceMul, Nat.reduceSub, Nat.reduceLeDiff, Nat.reduceLT, Int.reduceToNat, Int.reduceLE, Int.reduceLT, Int.reduceEq, UInt8.reduceOfNat, hf, ht, hf4, ht4, ha, hg, hw, h1, h2, ex1, ey1]
    simp
end
end Go.Ev
