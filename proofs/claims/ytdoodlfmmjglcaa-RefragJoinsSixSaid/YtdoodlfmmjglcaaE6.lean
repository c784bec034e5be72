/- Part 6 of a proof: what the functions yield. It stands by itself; no condition. -/
import Derived.Test.YtdoodlfmmjglcaaE5
namespace Go.Ev
set_option linter.unusedSimpArgs false
set_option linter.unusedVariables false
set_option maxRecDepth 4000
set_option maxHeartbeats 2000000
def HA (a b c d : Slot) (g : Nat) (l : List Pc) : Slots := HP a b c d (.obj g (.agg (l.map pkLV)))
def elP (g i : Nat) : LV := .ptr 1000004 g [i] (i * 6)
section
variable {a b c d a' b' c' d' : Slot} {g g' n : Nat} {l l' : List Pc} {R : Type} {K : LV → Option R} {K2 : LV × Slots → Option R} {i j : Nat} {p q : Pc}
theorem HA_hp : hp (HA a b c d g l) = HA a b c d g l := HP_hp
theorem HA_mrg : mrg (HA a b c d g l) (HA a' b' c' d' g' l') = HA a' b' c' d' g' l' := HP_mrg
theorem HA_bk : back (HA a b c d g l) (HA a' b' c' d' g' l') = HA a' b' c' d' g' l' := by
  funext t
  unfold back
  split
  · rfl
  · rename_i h
    have h : t < 1000000 := Nat.lt_of_not_le h
    rw [show HA a b c d g l t = .none 0 from HP_low h, show HA a' b' c' d' g' l' t = .none 0 from HP_low h]
theorem ia_el (h : i < n) : ob (pr.idxAddr none 6 (.sarr 1000004 g n 6) (.int .i64 (i : Int))) K = K (elP g i) := by
  rw [pr_idxAddr]; simp only [pIdxAddr, natOf]
  rw [if_pos (by omega)]
  simp only [Option.bind_some, Int.toNat_natCast]
  rw [if_pos ⟨h, trivial, by decide⟩]
  rfl
theorem pcs_take (h : l[i]? = some p) : sumLen ((l.map pkLV).take i) = i * 6 := by
  have := (List.getElem?_eq_some_iff.1 h).1
  rw [← List.map_take, pcs_sum, List.length_take, Nat.min_eq_left (by omega)]
theorem pcs_get (h : l[i]? = some p) : getPath (.agg (l.map pkLV)) [i] = some (pkLV p, i * 6) := by
  rw [c_gpA, List.getElem?_map, h, Option.map_some, ob_some, c_gp0, ob_some, pcs_take h]
  simp
theorem ld_el (h : l[i]? = some p) : ob (pr.load 6 true (HA a b c d g l) (elP g i)) K = K (pkLV p) := by
  unfold elP
  rw [e_ldP]
  unfold HA
  rw [HP_4, ownV_obj, if_pos rfl, ob_some, pcs_get h, ob_some, if_pos ⟨rfl, pc_fl p, pc_ag p⟩]
theorem pcs_set (h : i < l.length) : setPath (.agg (l.map pkLV)) [i] (pkLV q) = some (.agg ((l.set i q).map pkLV)) := by
  have h1 : (l.map pkLV)[i]? = some (pkLV l[i]) := by simp [h]
  simp only [setPath, h1, Option.bind_some, pc_fl, pc_st]
  simp [List.map_set]
theorem st_el (h : l[i]? = some p) : ob (pr.store 6 true (HA a b c d g l) (elP g i) (pkLV q)) K2 = K2 (.undef, HA a b c d g (l.set i q)) := by
  have hi := (List.getElem?_eq_some_iff.1 h).1
  unfold elP
  rw [e_stH (by omega)]
  unfold HA
  rw [HP_4, ownV_obj, if_pos rfl, ob_some, pcs_get h, ob_some, if_pos ⟨rfl, pc_fl p, pc_fl q, pc_ag p, pc_ag q⟩, pc_pg, ob_some, pcs_set hi, ob_some, HP_u4]
end
def cmpF : LV := .clo id_frag_datagram_whole_1 []
theorem cmpF_g : pslG cmpF = some cmpF := by simp [cmpF, pslG, pslGL]
section
variable {S : Sys} (hS : Has S) (n : Nat)
include hS
theorem cmp_el {R : Type} {K : LV → Option R} {sl : Slots} (p q : Pc) (hp : OkP p) (hq : OkP q) : ob (pr.callv (S.ev (n + 3)) sl cmpF [pkLV p, pkLV q]) K = K (.int .i64 (cz p q)) := by
  rw [cmpF, e_clo, List.append_nil, e_call]
  simp only [c_pl0, c_pl1, pc_ps, ob_some, ev_cmp hS n p q hp hq]
  rfl
theorem ev_swapR {a b c d : Slot} {g : Nat} {l : List Pc} (x y m : Nat) (f : LV) (hxy : x + m ≤ y) (hy : y + m ≤ l.length) (hN : l.length ≤ 100000) :
    ∃ l', (S.ev (n + 1)).i id_slices_swapRangeCmpFunc_frag_Piece [.sarr 1000004 g l.length 6, .int .i64 (x : Int), .int .i64 (y : Int), .int .i64 (m : Int), f] (HA a b c d g l) = some (.tup [], HA a b c d g l') ∧
      Re x (y + m) l l' ∧ (∀ i, i < m → l'[x + i]? = l[y + i]? ∧ l'[y + i]? = l[x + i]?) ∧ ∀ i, x + m ≤ i → i < y → l'[i]? = l[i]? := by
  rw [Sys.stepH hS.h_slices_swapRangeCmpFunc_frag_Piece, F_slices_swapRangeCmpFunc_frag_Piece_eq]
  unfold F_slices_swapRangeCmpFunc_frag_Piece
  (try simp only [guard_merge, or_merge, and_merge, or_pick, and_pick, guard_or, guard_and]); simp only [to_ob]
  refine while_ruleP (fun (r : Option (LV × Slots)) => ∃ l', r = some (.tup [], HA a b c d g l') ∧ Re x (y + m) l l' ∧ (∀ i, i < m → l'[x + i]? = l[y + i]? ∧ l'[y + i]? = l[x + i]?) ∧ ∀ i, x + m ≤ i → i < y → l'[i]? = l[i]?)
    (fun (k : Nat) (s : List LV × Slots) => ∃ (t : Nat) (l1 : List Pc), t + k = m ∧ s = ([.int .i64 (t : Int)], HA a b c d g l1) ∧ Re x (y + m) l l1 ∧ (∀ i, i < t → l1[x + i]? = l[y + i]? ∧ l1[y + i]? = l[x + i]?) ∧ ∀ i, (x + t ≤ i ∧ i < y ∨ y + t ≤ i) → l1[i]? = l[i]?)
    m ⟨0, l, by omega, rfl, Re.refl _ _ _, fun i hi => by omega, fun i hi => rfl⟩ ?_
  rintro k s ⟨t, l1, ht, rfl, h1, h2, h3⟩
  simp only [go_sem, ↓reduceIte, reduceCtorEq, upd_ne, @back_new _ _ _ _ _ no_at, Nat.reduceAdd, Nat.reduceEqDiff, Nat.reduceMul, Nat.reduceSub, Nat.reduceLeDiff, Nat.reduceLT, Int.reduceToNat, Int.reduceLE, Int.reduceLT, Int.reduceEq, UInt8.reduceOfNat]
  refine nxtP_ite (fun hc => ?_) (fun hc => ?_)
  · have hc : t < m := by omega
    have hl := h1.len
    have gp : l1[x + t]? = some (l1[x + t]'(by omega)) := by simp
    have gq : l1[y + t]? = some (l1[y + t]'(by omega)) := by simp
    generalize l1[x + t]'(by omega) = p at gp
    generalize l1[y + t]'(by omega) = q at gq
    have e1 : IntKind.i64.wrap ((x : Int) + (t : Int)) = ((x + t : Nat) : Int) := by rw [wrap_id (by omega) (by omega)]; omega
    have e2 : IntKind.i64.wrap ((y : Int) + (t : Int)) = ((y + t : Nat) : Int) := by rw [wrap_id (by omega) (by omega)]; omega
    have e3 : IntKind.i64.wrap ((t : Int) + 1) = ((t + 1 : Nat) : Int) := by rw [wrap_id (by omega) (by omega)]; omega
    have gq2 : (l1.set (x + t) q)[y + t]? = some q := by rw [List.getElem?_set, if_neg (by omega)]; exact gq
    simp only [go_sem, ↓reduceIte, reduceCtorEq, upd_ne, @back_new _ _ _ _ _ no_at, Nat.reduceAdd, Nat.reduceEqDiff, Nat.reduceMul, Nat.reduceSub, Nat.reduceLeDiff, Nat.reduceLT, Int.reduceToNat, Int.reduceLE, Int.reduceLT, Int.reduceEq, UInt8.reduceOfNat, e1, e2, e3, ia_el (show x + t < l.length by omega), ia_el (show y + t < l.length by omega), ld_el gp, ld_el gq, st_el gp, st_el gq2, HA_bk]
    refine ⟨k - 1, by omega, t + 1, sw l1 (x + t) (y + t) p q, by omega, rfl, h1.trans (sw_re gp gq (by omega) (by omega) (by omega) (by omega)), fun i hi => ?_, fun i hi => ?_⟩
    · have g := sw_get gp gq
      rw [g, g]
      by_cases hit : i = t
      · subst hit
        rw [if_neg (by omega), if_pos rfl, if_pos rfl, ← gp, ← gq]
        exact ⟨h3 _ (by omega), h3 _ (by omega)⟩
      · rw [if_neg (by omega), if_neg (by omega), if_neg (by omega), if_neg (by omega)]
        exact h2 i (by omega)
    · rw [sw_get gp gq, if_neg (by omega), if_neg (by omega)]
      exact h3 i (by omega)
  · have hc : t = m := by omega
    subst hc
    simp only [go_sem, ↓reduceIte, reduceCtorEq, upd_ne, @back_new _ _ _ _ _ no_at, Nat.reduceAdd, Nat.reduceEqDiff, Nat.reduceMul, Nat.reduceSub, Nat.reduceLeDiff, Nat.reduceLT, Int.reduceToNat, Int.reduceLE, Int.reduceLT, Int.reduceEq, UInt8.reduceOfNat, exIf, NxtP, HA_hp]
    exact ⟨l1, rfl, h1, h2, fun i q1 q2 => h3 i (.inl ⟨q1, q2⟩)⟩
end
end Go.Ev

namespace Go.Ev
set_option linter.unusedSimpArgs false
set_option linter.unusedVariables false
set_option maxRecDepth 4000
set_option maxHeartbeats 4000000
def tg (l : List Pc) (s m e x : Nat) : Option Pc := if x < s + (e - m) then l[x + (m - s)]? else l[x - (e - m)]?
structure RotI (l : List Pc) (s m e i j : Nat) (l1 : List Pc) : Prop where
  re : Re s e l l1
  i1 : 1 ≤ i
  j1 : 1 ≤ j
  is : s + i ≤ m
  je : m + j ≤ e
  pre : ∀ x, s ≤ x → x < m - i → l1[x]? = tg l s m e x
  suf : ∀ x, m + j ≤ x → x < e → l1[x]? = tg l s m e x
  mid : ∀ x, x < j → l1[m + x]? = tg l s m e (m - i + x)
  low : ∀ x, x < i → l1[m - i + x]? = tg l s m e (m - i + j + x)
theorem RotI.start {l : List Pc} {s m e : Nat} (h1 : s < m) (h2 : m < e) : RotI l s m e (m - s) (e - m) l where
  re := Re.refl _ _ _
  i1 := by omega
  j1 := by omega
  is := by omega
  je := by omega
  pre := fun x q1 q2 => by omega
  suf := fun x q1 q2 => by omega
  mid := fun x hx => by
    unfold tg; rw [if_pos (by omega)]; congr 1; omega
  low := fun x hx => by
    unfold tg; rw [if_neg (by omega)]; congr 1; omega
theorem RotI.gt {l l1 l2 : List Pc} {s m e i j : Nat} (h : RotI l s m e i j l1) (hij : j < i) (r : Re (m - i) (m + j) l1 l2) (g : ∀ y, y < j → l2[m - i + y]? = l1[m + y]? ∧ l2[m + y]? = l1[m - i + y]?) (g2 : ∀ x, m - i + j ≤ x → x < m → l2[x]? = l1[x]?) : RotI l s m e (i - j) j l2 where
  re := h.re.trans (r.wide (by have := h.is; omega) h.je)
  i1 := by omega
  j1 := h.j1
  is := by have := h.is; omega
  je := h.je
  pre := fun x q1 q2 => by
    have hi := h.is
    by_cases c : x < m - i
    · rw [r.out x (.inl c)]; exact h.pre x q1 c
    · have := (g (x - (m - i)) (by omega)).1
      rw [show m - i + (x - (m - i)) = x by omega] at this
      rw [this, h.mid _ (by omega)]; congr 1; omega
  suf := fun x q1 q2 => by rw [r.out x (.inr q1)]; exact h.suf x q1 q2
  mid := fun x hx => by
    have hi := h.is
    rw [(g x hx).2, h.low x (by omega)]; congr 1; omega
  low := fun x hx => by
    have hi := h.is
    have := h.low (j + x) (by omega)
    rw [g2 _ (by omega) (by omega), show m - (i - j) + x = m - i + (j + x) by omega, this]; congr 1; omega
theorem RotI.lt {l l1 l2 : List Pc} {s m e i j : Nat} (h : RotI l s m e i j l1) (hij : i < j) (r : Re (m - i) (m + j) l1 l2) (g : ∀ y, y < i → l2[m - i + y]? = l1[m + j - i + y]? ∧ l2[m + j - i + y]? = l1[m - i + y]?) (g2 : ∀ x, m ≤ x → x < m + j - i → l2[x]? = l1[x]?) : RotI l s m e i (j - i) l2 where
  re := h.re.trans (r.wide (by have := h.is; omega) h.je)
  i1 := h.i1
  j1 := by omega
  is := h.is
  je := by have := h.je; omega
  pre := fun x q1 q2 => by rw [r.out x (.inl q2)]; exact h.pre x q1 q2
  suf := fun x q1 q2 => by
    have hi := h.is
    by_cases c : m + j ≤ x
    · rw [r.out x (.inr c)]; exact h.suf x c q2
    · have := (g (x - (m + j - i)) (by omega)).2
      rw [show m + j - i + (x - (m + j - i)) = x by omega] at this
      rw [this, h.low _ (by omega)]; congr 1; omega
  mid := fun x hx => by
    rw [g2 _ (by omega) (by omega)]; exact h.mid x (by omega)
  low := fun x hx => by
    have hi := h.is
    rw [(g x hx).1, show m + j - i + x = m + (j - i + x) by omega, h.mid _ (by omega)]; congr 1; omega
theorem RotI.fin {l l1 l2 : List Pc} {s m e i : Nat} (h : RotI l s m e i i l1) (r : Re (m - i) (m + i) l1 l2) (g : ∀ y, y < i → l2[m - i + y]? = l1[m + y]? ∧ l2[m + y]? = l1[m - i + y]?) : Rot s m e l l2 := by
  have hi := h.is
  have hj := h.je
  have main : ∀ x, s ≤ x → x < e → l2[x]? = tg l s m e x := fun x q1 q2 => by
    by_cases c1 : x < m - i
    · rw [r.out x (.inl c1)]; exact h.pre x q1 c1
    · by_cases c2 : m + i ≤ x
      · rw [r.out x (.inr c2)]; exact h.suf x c2 q2
      · by_cases c3 : x < m
        · have := (g (x - (m - i)) (by omega)).1
          rw [show m - i + (x - (m - i)) = x by omega] at this
          rw [this, h.mid _ (by omega)]; congr 1; omega
        · have := (g (x - m) (by omega)).2
          rw [show m + (x - m) = x by omega] at this
          rw [this, h.low _ (by omega)]; congr 1; omega
  have h1 := h.i1
  refine ⟨h.re.trans (r.wide (by omega) hj), fun x hx => ?_, fun x hx => ?_⟩
  · rw [main _ (by omega) (by omega)]; unfold tg; rw [if_pos (by omega)]; congr 1; omega
  · rw [main _ (by omega) (by omega)]; unfold tg; rw [if_neg (by omega)]; congr 1; omega
section
variable {S : Sys} (hS : Has S) (n : Nat)
include hS
theorem ev_rot {a b c d : Slot} {g : Nat} {l : List Pc} (s m e : Nat) (f : LV) (hf : pslG f = some f) (hsm : s < m) (hme : m < e) (he : e ≤ l.length) (hN : l.length ≤ 100000) :
    ∃ l', (S.ev (n + 2)).i id_slices_rotateCmpFunc_frag_Piece [.sarr 1000004 g l.length 6, .int .i64 (s : Int), .int .i64 (m : Int), .int .i64 (e : Int), f] (HA a b c d g l) = some (.tup [], HA a b c d g l') ∧ Rot s m e l l' := by
  rw [Sys.stepH hS.h_slices_rotateCmpFunc_frag_Piece, F_slices_rotateCmpFunc_frag_Piece_eq]
  unfold F_slices_rotateCmpFunc_frag_Piece
  (try simp only [guard_merge, or_merge, and_merge, or_pick, and_pick, guard_or, guard_and]); simp only [to_ob]
  have z1 : IntKind.i64.wrap ((m : Int) - (s : Int)) = ((m - s : Nat) : Int) := by rw [wrap_id (by omega) (by omega)]; omega
  have z2 : IntKind.i64.wrap ((e : Int) - (m : Int)) = ((e - m : Nat) : Int) := by rw [wrap_id (by omega) (by omega)]; omega
  simp only [go_sem, ↓reduceIte, reduceCtorEq, upd_ne, @back_new _ _ _ _ _ no_at, Nat.reduceAdd, Nat.reduceEqDiff, Nat.reduceMul, Nat.reduceSub, Nat.reduceLeDiff, Nat.reduceLT, Int.reduceToNat, Int.reduceLE, Int.reduceLT, Int.reduceEq, UInt8.reduceOfNat, z1, z2]
  refine while_ruleP (fun (r : Option (LV × Slots)) => ∃ l', r = some (.tup [], HA a b c d g l') ∧ Rot s m e l l')
    (fun (k : Nat) (q : List LV × Slots) => ∃ (i j : Nat) (l1 : List Pc), i + j = k ∧ q = ([.int .i64 (i : Int), .int .i64 (j : Int)], HA a b c d g l1) ∧ RotI l s m e i j l1)
    (m - s + (e - m)) ⟨m - s, e - m, l, rfl, rfl, RotI.start hsm hme⟩ ?_
  rintro k q ⟨i, j, l1, hk, rfl, h⟩
  have hl := h.re.len
  have hi := h.is
  have hj := h.je
  have hi1 := h.i1
  have hj1 := h.j1
  have e1 : IntKind.i64.wrap ((m : Int) - (i : Int)) = ((m - i : Nat) : Int) := by rw [wrap_id (by omega) (by omega)]; omega
  by_cases c1 : i = j
  · subst c1
    simp only [go_sem, ↓reduceIte, reduceCtorEq, upd_ne, @back_new _ _ _ _ _ no_at, Nat.reduceAdd, Nat.reduceEqDiff, Nat.reduceMul, Nat.reduceSub, Nat.reduceLeDiff, Nat.reduceLT, Int.reduceToNat, Int.reduceLE, Int.reduceLT, Int.reduceEq, UInt8.reduceOfNat, NxtP, exIf, e1]
    obtain ⟨l2, w1, w2, w3, w4⟩ := ev_swapR (a := a) (b := b) (c := c) (d := d) (g := g) (l := l1) hS n (m - i) m i f (by omega) (by omega) (by omega)
    rw [hl] at w1
    simp only [go_sem, ↓reduceIte, reduceCtorEq, upd_ne, @back_new _ _ _ _ _ no_at, Nat.reduceAdd, Nat.reduceEqDiff, Nat.reduceMul, Nat.reduceSub, Nat.reduceLeDiff, Nat.reduceLT, Int.reduceToNat, Int.reduceLE, Int.reduceLT, Int.reduceEq, UInt8.reduceOfNat, hf, HA_hp, HA_mrg, w1]
    exact ⟨l2, rfl, h.fin w2 w3⟩
  · have c1' : ¬ (i : Int) = (j : Int) := by omega
    by_cases c2 : j < i
    · have c2' : (j : Int) < (i : Int) := by omega
      obtain ⟨l2, w1, w2, w3, w4⟩ := ev_swapR (a := a) (b := b) (c := c) (d := d) (g := g) (l := l1) hS n (m - i) m j f (by omega) (by omega) (by omega)
      rw [hl] at w1
      have e3 : IntKind.i64.wrap ((i : Int) - (j : Int)) = ((i - j : Nat) : Int) := by rw [wrap_id (by omega) (by omega)]; omega
      simp only [go_sem, ↓reduceIte, reduceCtorEq, upd_ne, @back_new _ _ _ _ _ no_at, Nat.reduceAdd, Nat.reduceEqDiff, Nat.reduceMul, Nat.reduceSub, Nat.reduceLeDiff, Nat.reduceLT, Int.reduceToNat, Int.reduceLE, Int.reduceLT, Int.reduceEq, UInt8.reduceOfNat, c1', c2', e1, hf, HA_hp, HA_mrg, w1, e3, HA_bk]
      exact ⟨_, by omega, i - j, j, l2, rfl, rfl, h.gt c2 w2 w3 w4⟩
    · have c2' : ¬ (j : Int) < (i : Int) := by omega
      obtain ⟨l2, w1, w2, w3, w4⟩ := ev_swapR (a := a) (b := b) (c := c) (d := d) (g := g) (l := l1) hS n (m - i) (m + j - i) i f (by omega) (by omega) (by omega)
      rw [hl] at w1
      have e3 : IntKind.i64.wrap ((j : Int) - (i : Int)) = ((j - i : Nat) : Int) := by rw [wrap_id (by omega) (by omega)]; omega
      have e4 : IntKind.i64.wrap ((m : Int) + (j : Int)) = ((m + j : Nat) : Int) := by rw [wrap_id (by omega) (by omega)]; omega
      have e5 : IntKind.i64.wrap (((m + j : Nat) : Int) - (i : Int)) = ((m + j - i : Nat) : Int) := by rw [wrap_id (by omega) (by omega)]; omega
      simp only [go_sem, ↓reduceIte, reduceCtorEq, upd_ne, @back_new _ _ _ _ _ no_at, Nat.reduceAdd, Nat.reduceEqDiff, Nat.reduceMul, Nat.reduceSub, Nat.reduceLeDiff, Nat.reduceLT, Int.reduceToNat, Int.reduceLE, Int.reduceLT, Int.reduceEq, UInt8.reduceOfNat, c1', c2', e1, e4, e5, hf, HA_hp, HA_mrg, w1, e3, HA_bk]
      rw [show m + j - i + i = m + j by omega] at w2
      exact ⟨_, by omega, i, j - i, l2, rfl, rfl, h.lt (by omega) w2 w3 (fun x q1 q2 => w4 x (by omega) q2)⟩
end
end Go.Ev

namespace Go.Ev
set_option linter.unusedSimpArgs false
set_option linter.unusedVariables false
set_option maxRecDepth 4000
set_option maxHeartbeats 4000000
structure InsI (l : List Pc) (x y i j : Nat) (l2 : List Pc) : Prop where
  re : Re x y l l2
  xj : x ≤ j
  ji : j ≤ i
  iy : i < y
  s1 : So kz x j l2
  s2 : So kz j (i + 1) l2
  le : Le kz x j (j + 1) (i + 1) l2
theorem InsI.stop {l l2 : List Pc} {x y i j : Nat} (h : InsI l x y i j l2) (hc : j = x ∨ ∀ p q, l2[j]? = some p → l2[j - 1]? = some q → kz q ≤ kz p) : So kz x (i + 1) l2 := by
  rcases hc with rfl | hc
  · exact h.s2
  · by_cases e : j = x
    · subst e; exact h.s2
    have hj := h.xj
    refine h.s1.join h.s2 fun t u p q e1 e2 e3 e4 hp hq => ?_
    by_cases c : u = j
    · subst c
      have hlt := (List.getElem?_eq_some_iff.1 hq).1
      have gw : l2[u - 1]? = some (l2[u - 1]'(by omega)) := by simp
      have h1 := hc q _ hq gw
      by_cases ct : t = u - 1
      · subst ct; rw [gw] at hp; cases hp; exact h1
      · exact Nat.le_trans (h.s1 t (u - 1) p _ e1 (by omega) (by omega) hp gw) h1
    · exact h.le t u p q e1 e2 (by omega) e4 hp hq
theorem InsI.down {l l2 : List Pc} {x y i j : Nat} {p q : Pc} (h : InsI l x y i j l2) (hx : x < j) (hp : l2[j]? = some p) (hq : l2[j - 1]? = some q) (hk : kz p < kz q) : InsI l x y i (j - 1) (sw l2 j (j - 1) p q) := by
  have g := sw_get hp hq
  have hji := h.ji
  have hiy := h.iy
  refine ⟨h.re.trans (sw_re hp hq (by omega) (by omega) (by omega) (by omega)), by omega, by omega, hiy, ?_, ?_, ?_⟩
  · exact (h.s1.sub (Nat.le_refl _) (by omega)).out fun t q1 q2 => by rw [g, if_neg (by omega), if_neg (by omega)]
  · intro t u p1 q1 e1 e2 e3 hp1 hq1
    rw [g] at hp1 hq1
    rw [if_neg (by omega)] at hq1
    by_cases ct : t = j - 1
    · rw [if_pos ct] at hp1
      cases hp1
      by_cases cu : u = j
      · rw [if_pos cu] at hq1; cases hq1; omega
      · rw [if_neg cu] at hq1
        exact h.s2 j u p q1 (Nat.le_refl _) (by omega) e3 hp hq1
    · rw [if_neg ct] at hp1
      rw [if_neg (by omega)] at hq1
      by_cases ct2 : t = j
      · rw [if_pos ct2] at hp1; cases hp1
        exact h.le (j - 1) u q q1 (by omega) (by omega) (by omega) e3 hq hq1
      · rw [if_neg ct2] at hp1
        exact h.s2 t u p1 q1 (by omega) e2 e3 hp1 hq1
  · intro t u p1 q1 e1 e2 e3 e4 hp1 hq1
    rw [g, if_neg (by omega), if_neg (by omega)] at hp1
    rw [g, if_neg (by omega)] at hq1
    by_cases cu : u = j
    · rw [if_pos cu] at hq1; cases hq1
      exact h.s1 t (j - 1) p1 q e1 (by omega) (by omega) hp1 hq
    · rw [if_neg cu] at hq1
      exact h.le t u p1 q1 e1 (by omega) (by omega) e4 hp1 hq1
theorem Re.ok {x y : Nat} {l l' : List Pc} (h : Re x y l l') (hl : ∀ p ∈ l, OkP p) : ∀ p ∈ l', OkP p := fun p hp => hl p (h.perm.mem_iff.1 hp)
theorem ok_at {l : List Pc} {i : Nat} {p : Pc} (hl : ∀ p ∈ l, OkP p) (h : l[i]? = some p) : OkP p := hl p (List.mem_of_getElem? h)
section
variable {S : Sys} (hS : Has S) (n : Nat)
include hS
theorem ev_ins {a b c d : Slot} {g : Nat} {l : List Pc} (x y : Nat) (hy : y ≤ l.length) (hx : x ≤ 100000) (hN : l.length ≤ 100000) (hok : ∀ p ∈ l, OkP p) :
    ∃ l', (S.ev (n + 4)).i id_slices_insertionSortCmpFunc_frag_Piece [.sarr 1000004 g l.length 6, .int .i64 (x : Int), .int .i64 (y : Int), cmpF] (HA a b c d g l) = some (.tup [], HA a b c d g l') ∧ Re x y l l' ∧ So kz x y l' := by
  rw [Sys.stepH hS.h_slices_insertionSortCmpFunc_frag_Piece, F_slices_insertionSortCmpFunc_frag_Piece_eq]
  unfold F_slices_insertionSortCmpFunc_frag_Piece
  (try simp only [guard_merge, or_merge, and_merge, or_pick, and_pick, guard_or, guard_and]); simp only [to_ob]
  have z1 : IntKind.i64.wrap ((x : Int) + 1) = ((x + 1 : Nat) : Int) := by rw [wrap_id (by omega) (by omega)]; omega
  simp only [go_sem, ↓reduceIte, reduceCtorEq, upd_ne, @back_new _ _ _ _ _ no_at, Nat.reduceAdd, Nat.reduceEqDiff, Nat.reduceMul, Nat.reduceSub, Nat.reduceLeDiff, Nat.reduceLT, Int.reduceToNat, Int.reduceLE, Int.reduceLT, Int.reduceEq, UInt8.reduceOfNat, z1]
  refine while_ruleP (fun (r : Option (LV × Slots)) => ∃ l', r = some (.tup [], HA a b c d g l') ∧ Re x y l l' ∧ So kz x y l')
    (fun (k : Nat) (q : List LV × Slots) => ∃ (i : Nat) (l1 : List Pc), i + k = y + x + 1 ∧ x < i ∧ q = ([.int .i64 (i : Int)], HA a b c d g l1) ∧ Re x y l l1 ∧ So kz x i l1)
    y ⟨x + 1, l, by omega, by omega, rfl, Re.refl _ _ _, So.one⟩ ?_
  rintro k q ⟨i, l1, hk, hxi, rfl, hr, hs⟩
  by_cases ci : i < y
  · have ci' : (i : Int) < (y : Int) := by omega
    simp only [go_sem, ↓reduceIte, reduceCtorEq, upd_ne, @back_new _ _ _ _ _ no_at, Nat.reduceAdd, Nat.reduceEqDiff, Nat.reduceMul, Nat.reduceSub, Nat.reduceLeDiff, Nat.reduceLT, Int.reduceToNat, Int.reduceLE, Int.reduceLT, Int.reduceEq, UInt8.reduceOfNat, ci']
    refine while_ruleP (NxtP _ _ _ _)
      (fun (k : Nat) (q : List LV × Slots) => ∃ (j : Nat) (l2 : List Pc), j = k ∧ q = ([.int .i64 (j : Int)], HA a b c d g l2) ∧ InsI l x y i j l2)
      i ⟨i, l1, rfl, rfl, hr, by omega, Nat.le_refl _, ci, hs, So.one, fun t u p q e1 e2 e3 e4 => by omega⟩ ?_
    rintro j q ⟨j', l2, rfl, rfl, h⟩
    have hl := h.re.len
    have hji := h.ji
    have hxj := h.xj
    have e5 : IntKind.i64.wrap ((i : Int) + 1) = ((i + 1 : Nat) : Int) := by rw [wrap_id (by omega) (by omega)]; omega
    have fin : So kz x (i + 1) l2 → ∃ m, m < k ∧ ∃ (i1 : Nat) (l1' : List Pc), i1 + m = y + x + 1 ∧ x < i1 ∧ (([.int .i64 ((i + 1 : Nat) : Int)] : List LV), HA a b c d g l2) = ([.int .i64 (i1 : Int)], HA a b c d g l1') ∧ Re x y l l1' ∧ So kz x i1 l1' :=
      fun hso => ⟨k - 1, by omega, i + 1, l2, by omega, by omega, rfl, h.re, hso⟩
    by_cases cj : x < j'
    · have cj' : (x : Int) < (j' : Int) := by omega
      have gp : l2[j']? = some (l2[j']'(by omega)) := by simp
      have gq : l2[j' - 1]? = some (l2[j' - 1]'(by omega)) := by simp
      generalize l2[j']'(by omega) = p at gp
      generalize l2[j' - 1]'(by omega) = q at gq
      have e1 : IntKind.i64.wrap ((j' : Int) - 1) = ((j' - 1 : Nat) : Int) := by rw [wrap_id (by omega) (by omega)]; omega
      have op := ok_at (h.re.ok hok) gp
      have oq := ok_at (h.re.ok hok) gq
      have gq2 : (l2.set j' q)[j' - 1]? = some q := by rw [List.getElem?_set, if_neg (by omega)]; exact gq
      by_cases cz0 : cz p q < 0
      · simp only [go_sem, ↓reduceIte, reduceCtorEq, upd_ne, @back_new _ _ _ _ _ no_at, Nat.reduceAdd, Nat.reduceEqDiff, Nat.reduceMul, Nat.reduceSub, Nat.reduceLeDiff, Nat.reduceLT, Int.reduceToNat, Int.reduceLE, Int.reduceLT, Int.reduceEq, UInt8.reduceOfNat, cj', e1, ia_el (show j' < l.length by omega), ia_el (show j' - 1 < l.length by omega), ld_el gp, ld_el gq, cmp_el hS n p q op oq, cz0, st_el gp, st_el gq2, HA_bk]
        exact ⟨j' - 1, by omega, j' - 1, _, rfl, rfl, h.down cj gp gq ((cz_lt op oq).1 cz0)⟩
      · simp only [go_sem, ↓reduceIte, reduceCtorEq, upd_ne, @back_new _ _ _ _ _ no_at, Nat.reduceAdd, Nat.reduceEqDiff, Nat.reduceMul, Nat.reduceSub, Nat.reduceLeDiff, Nat.reduceLT, Int.reduceToNat, Int.reduceLE, Int.reduceLT, Int.reduceEq, UInt8.reduceOfNat, cj', e1, ia_el (show j' < l.length by omega), ia_el (show j' - 1 < l.length by omega), ld_el gp, ld_el gq, cmp_el hS n p q op oq, cz0, HA_bk, NxtP, exIf, e5]
        exact fin (h.stop (.inr fun p1 q1 hp1 hq1 => by rw [gp] at hp1; rw [gq] at hq1; cases hp1; cases hq1; exact Nat.le_of_not_lt fun hh => cz0 ((cz_lt op oq).2 hh)))
    · have cj' : ¬ (x : Int) < (j' : Int) := by omega
      simp only [go_sem, ↓reduceIte, reduceCtorEq, upd_ne, @back_new _ _ _ _ _ no_at, Nat.reduceAdd, Nat.reduceEqDiff, Nat.reduceMul, Nat.reduceSub, Nat.reduceLeDiff, Nat.reduceLT, Int.reduceToNat, Int.reduceLE, Int.reduceLT, Int.reduceEq, UInt8.reduceOfNat, cj', HA_bk, NxtP, exIf, e5]
      exact fin (h.stop (.inl (by omega)))
  · have ci' : ¬ (i : Int) < (y : Int) := by omega
    simp only [go_sem, ↓reduceIte, reduceCtorEq, upd_ne, @back_new _ _ _ _ _ no_at, Nat.reduceAdd, Nat.reduceEqDiff, Nat.reduceMul, Nat.reduceSub, Nat.reduceLeDiff, Nat.reduceLT, Int.reduceToNat, Int.reduceLE, Int.reduceLT, Int.reduceEq, UInt8.reduceOfNat, ci', NxtP, exIf, HA_hp]
    exact ⟨l1, rfl, hr, hs.sub (Nat.le_refl _) (by omega)⟩
end
end Go.Ev

namespace Go.Ev
set_option linter.unusedSimpArgs false
set_option linter.unusedVariables false
variable {l l2 : List Pc} {x m y i j k h : Nat} {p q u v : Pc}
theorem So.le' {a b : Nat} (hs : So kz a b l) (h1 : a ≤ i) (h2 : i ≤ j) (h3 : j < b) (hp : l[i]? = some p) (hq : l[j]? = some q) : kz p ≤ kz q := by
  rcases Nat.lt_or_ge i j with c | c
  · exact hs i j p q h1 c h3 hp hq
  · obtain rfl : i = j := by omega
    rw [hp] at hq; cases hq; exact Nat.le_refl _
theorem get_lt (h : i < l.length) : ∃ p, l[i]? = some p := ⟨l[i], by simp [h]⟩
structure S1 (l : List Pc) (x m y i j : Nat) : Prop where
  mi : m ≤ i
  ij : i ≤ j
  jy : j ≤ y
  lo : ∀ t p u, m ≤ t → t < i → l[t]? = some p → l[x]? = some u → kz p < kz u
  hi : ∀ t p u, j ≤ t → t < y → l[t]? = some p → l[x]? = some u → kz u ≤ kz p
theorem S1.start (h : m ≤ y) : S1 l x m y m y := ⟨Nat.le_refl _, h, Nat.le_refl _, fun t p u a b => by omega, fun t p u a b => by omega⟩
theorem S1.up (s : S1 l x m y i j) (hs : So kz m y l) (hh : i ≤ h) (hj : h < j) (hp : l[h]? = some p) (hu : l[x]? = some u) (hk : kz p < kz u) : S1 l x m y (h + 1) j :=
  ⟨by have := s.mi; omega, by omega, s.jy, fun t p' u' a b hp' hu' => by
    rw [hu] at hu'; cases hu'
    exact Nat.lt_of_le_of_lt (hs.le' a (by omega) (by have := s.jy; omega) hp' hp) hk, s.hi⟩
theorem S1.dn (s : S1 l x m y i j) (hs : So kz m y l) (hh : i ≤ h) (hj : h < j) (hp : l[h]? = some p) (hu : l[x]? = some u) (hk : ¬ kz p < kz u) : S1 l x m y i h :=
  ⟨s.mi, hh, by have := s.jy; omega, s.lo, fun t p' u' a b hp' hu' => by
    rw [hu] at hu'; cases hu'
    exact Nat.le_trans (Nat.le_of_not_lt hk) (hs.le' (by have := s.mi; omega) a b hp hp')⟩
structure Sh1 (l : List Pc) (x y i k : Nat) (l2 : List Pc) : Prop where
  re : Re x y l l2
  xk : x ≤ k
  ki : k + 1 ≤ i
  lo : ∀ t, x ≤ t → t < k → l2[t]? = l[t + 1]?
  at' : l2[k]? = l[x]?
  hi : ∀ t, k < t → l2[t]? = l[t]?
theorem Sh1.start (h : x + 1 ≤ i) : Sh1 l x y i x l := ⟨Re.refl _ _ _, Nat.le_refl _, h, fun t a b => by omega, rfl, fun t _ => rfl⟩
theorem Sh1.next (s : Sh1 l x y i k l2) (hk : k + 1 < i) (hi : i ≤ y) (hp : l2[k]? = some p) (hq : l2[k + 1]? = some q) : Sh1 l x y i (k + 1) (sw l2 k (k + 1) p q) := by
  have g := sw_get hp hq
  have hx := s.xk
  refine ⟨s.re.trans (sw_re hp hq hx (by omega) (by omega) (by omega)), by omega, by omega, fun t a b => ?_, ?_, fun t a => ?_⟩
  · rw [g, if_neg (by omega)]
    split
    · rename_i e; subst e; rw [← hq]; exact s.hi _ (by omega)
    · exact s.lo t a (by omega)
  · rw [g, if_pos rfl, ← hp]; exact s.at'
  · rw [g, if_neg (by omega), if_neg (by omega)]; exact s.hi t (by omega)
theorem Sh1.fin (s : Sh1 l x y i k l2) (hk : k + 1 = i) (s1 : S1 l x (x + 1) y i i) (hs : So kz (x + 1) y l) (hy : y ≤ l.length) : So kz x y l2 := by
  have hx := s.xk
  have hjy := s1.jy
  intro t w p q e1 e2 e3 hp hq
  by_cases c1 : t < k
  · rw [s.lo t e1 c1] at hp
    by_cases c2 : w < k
    · rw [s.lo w (by omega) c2] at hq
      exact hs _ _ p q (by omega) (by omega) (by omega) hp hq
    · by_cases c3 : w = k
      · subst c3
        rw [s.at'] at hq
        exact Nat.le_of_lt (s1.lo (t + 1) p q (by omega) (by omega) hp hq)
      · rw [s.hi w (by omega)] at hq
        exact hs.le' (by omega) (by omega) e3 hp hq
  · rw [s.hi w (by omega)] at hq
    by_cases c3 : t = k
    · subst c3
      rw [s.at'] at hp
      exact s1.hi w q p (by omega) e3 hq hp
    · rw [s.hi t (by omega)] at hp
      exact hs t w p q (by omega) e2 e3 hp hq
structure S2 (l : List Pc) (x m i j : Nat) : Prop where
  xi : x ≤ i
  ij : i ≤ j
  jm : j ≤ m
  lo : ∀ t p u, x ≤ t → t < i → l[t]? = some p → l[m]? = some u → kz p ≤ kz u
  hi : ∀ t p u, j ≤ t → t < m → l[t]? = some p → l[m]? = some u → kz u < kz p
theorem S2.start (h : x ≤ m) : S2 l x m x m := ⟨Nat.le_refl _, h, Nat.le_refl _, fun t p u a b => by omega, fun t p u a b => by omega⟩
theorem S2.up (s : S2 l x m i j) (hs : So kz x m l) (hh : i ≤ h) (hj : h < j) (hp : l[h]? = some p) (hu : l[m]? = some u) (hk : ¬ kz u < kz p) : S2 l x m (h + 1) j :=
  ⟨by have := s.xi; omega, by omega, s.jm, fun t p' u' a b hp' hu' => by
    rw [hu] at hu'; cases hu'
    exact Nat.le_trans (hs.le' a (by omega) (by have := s.jm; omega) hp' hp) (Nat.le_of_not_lt hk), s.hi⟩
theorem S2.dn (s : S2 l x m i j) (hs : So kz x m l) (hh : i ≤ h) (hj : h < j) (hp : l[h]? = some p) (hu : l[m]? = some u) (hk : kz u < kz p) : S2 l x m i h :=
  ⟨s.xi, hh, by have := s.jm; omega, s.lo, fun t p' u' a b hp' hu' => by
    rw [hu] at hu'; cases hu'
    exact Nat.lt_of_lt_of_le hk (hs.le' (by have := s.xi; omega) a b hp hp')⟩
structure Sh2 (l : List Pc) (x y m i k : Nat) (l2 : List Pc) : Prop where
  re : Re x y l l2
  ik : i ≤ k
  km : k ≤ m
  lo : ∀ t, t < k → l2[t]? = l[t]?
  at' : l2[k]? = l[m]?
  hi : ∀ t, k < t → t ≤ m → l2[t]? = l[t - 1]?
theorem Sh2.start (h : i ≤ m) : Sh2 l x y m i m l := ⟨Re.refl _ _ _, h, Nat.le_refl _, fun t _ => rfl, rfl, fun t a b => by omega⟩
theorem Sh2.next (s : Sh2 l x y m i k l2) (hk : i < k) (hx : x ≤ i) (hy : m < y) (hp : l2[k]? = some p) (hq : l2[k - 1]? = some q) : Sh2 l x y m i (k - 1) (sw l2 k (k - 1) p q) := by
  have g := sw_get hp hq
  have hm := s.km
  refine ⟨s.re.trans (sw_re hp hq (by omega) (by omega) (by omega) (by omega)), by omega, by omega, fun t a => ?_, ?_, fun t a b => ?_⟩
  · rw [g, if_neg (by omega), if_neg (by omega)]; exact s.lo t (by omega)
  · rw [g, if_pos rfl, ← hp]; exact s.at'
  · rw [g, if_neg (by omega)]
    split
    · rename_i e; subst e; rw [← hq]; exact s.lo _ (by omega)
    · exact s.hi t (by omega) b
theorem Sh2.fin (s : Sh2 l x y m i i l2) (hx : x ≤ i) (s2 : S2 l x m i i) (hs : So kz x m l) (hy : y = m + 1) : So kz x y l2 := by
  have hm := s.km
  intro t w p q e1 e2 e3 hp hq
  by_cases c1 : t < i
  · rw [s.lo t c1] at hp
    by_cases c2 : w < i
    · rw [s.lo w c2] at hq
      exact hs _ _ p q e1 e2 (by omega) hp hq
    · by_cases c3 : w = i
      · subst c3
        rw [s.at'] at hq
        exact s2.lo t p q e1 c1 hp hq
      · rw [s.hi w (by omega) (by omega)] at hq
        exact hs.le' e1 (by omega) (by omega) hp hq
  · rw [s.hi w (by omega) (by omega)] at hq
    by_cases c3 : t = i
    · subst c3
      rw [s.at'] at hp
      exact Nat.le_of_lt (s2.hi _ q p (by omega) (by omega) hq hp)
    · rw [s.hi t (by omega) (by omega)] at hp
      exact hs _ _ p q (by omega) (by omega) (by omega) hp hq
structure S3 (l : List Pc) (P s0 r0 s r : Nat) : Prop where
  s0s : s0 ≤ s
  sr : s ≤ r
  rr : r ≤ r0
  lo : ∀ c u v, s0 ≤ c → c < s → l[c]? = some u → l[P - c]? = some v → kz u ≤ kz v
  hi : ∀ c u v, r ≤ c → c < r0 → l[c]? = some u → l[P - c]? = some v → kz v < kz u
structure B3 (x m y P s0 r0 : Nat) : Prop where
  b1 : x ≤ s0
  b2 : r0 ≤ m
  b3 : ∀ c, s0 ≤ c → c < r0 → c ≤ P ∧ m ≤ P - c ∧ P - c < y
theorem S3.start {P s0 r0 : Nat} (h : s0 ≤ r0) : S3 l P s0 r0 s0 r0 := ⟨Nat.le_refl _, h, Nat.le_refl _, fun c u v a b => by omega, fun c u v a b => by omega⟩
theorem S3.up {P s0 r0 s r c : Nat} (h : S3 l P s0 r0 s r) (b : B3 x m y P s0 r0) (h1 : So kz x m l) (h2 : So kz m y l) (hc : s ≤ c) (hc2 : c < r) (hu : l[c]? = some u) (hv : l[P - c]? = some v) (hk : ¬ kz v < kz u) : S3 l P s0 r0 (c + 1) r :=
  ⟨by have := h.s0s; omega, by omega, h.rr, fun c' u' v' q1 q2 hu' hv' => by
    have := h.rr
    have b' := b.b3 c' q1 (by omega)
    have b'' := b.b3 c (by omega) (by omega)
    have := b.b1; have := b.b2
    exact Nat.le_trans (h1.le' (by omega) (by omega) (by omega) hu' hu) (Nat.le_trans (Nat.le_of_not_lt hk) (h2.le' b''.2.1 (by omega) b'.2.2 hv hv')), h.hi⟩
theorem S3.dn {P s0 r0 s r c : Nat} (h : S3 l P s0 r0 s r) (b : B3 x m y P s0 r0) (h1 : So kz x m l) (h2 : So kz m y l) (hc : s ≤ c) (hc2 : c < r) (hu : l[c]? = some u) (hv : l[P - c]? = some v) (hk : kz v < kz u) : S3 l P s0 r0 s c :=
  ⟨h.s0s, hc, by have := h.rr; omega, h.lo, fun c' u' v' q1 q2 hu' hv' => by
    have := h.s0s; have := h.rr
    have b' := b.b3 c' (by omega) q2
    have b'' := b.b3 c (by omega) (by omega)
    have := b.b1; have := b.b2
    exact Nat.lt_of_le_of_lt (h2.le' b'.2.1 (by omega) b''.2.2 hv' hv) (Nat.lt_of_lt_of_le hk (h1.le' (by omega) (by omega) (by omega) hu hu'))⟩
end Go.Ev

namespace Go.Ev
set_option linter.unusedSimpArgs false
set_option linter.unusedVariables false
set_option maxRecDepth 4000
set_option maxHeartbeats 8000000
theorem half {i j : Nat} : Int.fdiv ((i + j : Nat) : Int) (2 ^ min 1 64) = (((i + j) / 2 : Nat) : Int) := by
  rw [show min 1 64 = 1 from rfl, Int.fdiv_eq_ediv_of_nonneg _ (by decide)]; rfl
theorem wr_add {i j : Nat} (h : i + j ≤ 9223372036854775807) : IntKind.i64.wrap ((i : Int) + (j : Int)) = ((i + j : Nat) : Int) := by rw [wrap_id (by omega) (by omega)]; omega
theorem wr_add1 {i : Nat} (h : i + 1 ≤ 9223372036854775807) : IntKind.i64.wrap ((i : Int) + 1) = ((i + 1 : Nat) : Int) := by rw [wrap_id (by omega) (by omega)]; omega
theorem wr_sub {i j : Nat} (h : j ≤ i) (h2 : i ≤ 9223372036854775807) : IntKind.i64.wrap ((i : Int) - (j : Int)) = ((i - j : Nat) : Int) := by rw [wrap_id (by omega) (by omega)]; omega
theorem wr_sub1 {i : Nat} (h : 1 ≤ i) (h2 : i ≤ 9223372036854775807) : IntKind.i64.wrap ((i : Int) - 1) = ((i - 1 : Nat) : Int) := by rw [wrap_id (by omega) (by omega)]; omega
theorem wr_u {i : Nat} (h2 : i ≤ 9223372036854775807) : IntKind.u64.wrap (i : Int) = (i : Int) := wrap_of (by simp [IntKind.min, IntKind.signed]) (by simp [IntKind.max, IntKind.signed, IntKind.bits]; omega)
theorem wr_i {i : Nat} (h2 : i ≤ 9223372036854775807) : IntKind.i64.wrap (i : Int) = (i : Int) := wrap_id (by omega) (by omega)
section
variable {S : Sys} (hS : Has S) (n : Nat)
include hS
theorem ev_sym1 {a b c d : Slot} {g : Nat} {l : List Pc} (x y : Nat) (hxy : x + 1 < y) (hy : y ≤ l.length) (hN : l.length ≤ 100000) (hok : ∀ p ∈ l, OkP p) (hs : So kz (x + 1) y l) :
    ∃ l', (S.ev (n + 4)).i id_slices_symMergeCmpFunc_frag_Piece [.sarr 1000004 g l.length 6, .int .i64 (x : Int), .int .i64 ((x + 1 : Nat) : Int), .int .i64 (y : Int), cmpF] (HA a b c d g l) = some (.tup [], HA a b c d g l') ∧ Re x y l l' ∧ So kz x y l' := by
  rw [Sys.stepH hS.h_slices_symMergeCmpFunc_frag_Piece, F_slices_symMergeCmpFunc_frag_Piece_eq]
  unfold F_slices_symMergeCmpFunc_frag_Piece F_slices_symMergeCmpFunc_frag_Piece_k2 F_slices_symMergeCmpFunc_frag_Piece_k1
  (try simp only [guard_merge, or_merge, and_merge, or_pick, and_pick, guard_or, guard_and]); simp only [to_ob]
  have z1 : IntKind.i64.wrap (((x + 1 : Nat) : Int) - (x : Int)) = 1 := by rw [wrap_id (by omega) (by omega)]; omega
  simp only [go_sem, ↓reduceIte, reduceCtorEq, upd_ne, @back_new _ _ _ _ _ no_at, Nat.reduceAdd, Nat.reduceEqDiff, Nat.reduceMul, Nat.reduceSub, Nat.reduceLeDiff, Nat.reduceLT, Int.reduceToNat, Int.reduceLE, Int.reduceLT, Int.reduceEq, UInt8.reduceOfNat, z1]
  refine while_ruleP (fun (r : Option (LV × Slots)) => ∃ l', r = some (.tup [], HA a b c d g l') ∧ Re x y l l' ∧ So kz x y l')
    (fun (k : Nat) (q : List LV × Slots) => ∃ (i j : Nat), k = j - i ∧ q = ([.int .i64 (i : Int), .int .i64 (j : Int)], HA a b c d g l) ∧ S1 l x (x + 1) y i j)
    (y - (x + 1)) ⟨x + 1, y, rfl, rfl, S1.start (by omega)⟩ ?_
  rintro k q ⟨i, j, rfl, rfl, h⟩
  have h1 := h.mi
  have h2 := h.ij
  have h3 := h.jy
  by_cases c1 : i < j
  · have c1' : (i : Int) < (j : Int) := by omega
    have hh1 : i ≤ (i + j) / 2 := by omega
    have hh2 : (i + j) / 2 < j := by omega
    have e2 : IntKind.i64.wrap ((((i + j) / 2 : Nat) : Int)) = (((i + j) / 2 : Nat) : Int) := wr_i (by omega)
    have e3 : IntKind.i64.wrap ((((i + j) / 2 : Nat) : Int) + 1) = (((i + j) / 2 + 1 : Nat) : Int) := wr_add1 (by omega)
    obtain ⟨p, hp⟩ := get_lt (l := l) (show (i + j) / 2 < l.length by omega)
    obtain ⟨u, hu⟩ := get_lt (l := l) (show x < l.length by omega)
    have op := ok_at hok hp
    have ou := ok_at hok hu
    generalize hhh : (i + j) / 2 = hf at hh1 hh2 e2 e3 hp
    by_cases c2 : cz p u < 0
    · simp only [go_sem, ↓reduceIte, reduceCtorEq, upd_ne, @back_new _ _ _ _ _ no_at, Nat.reduceAdd, Nat.reduceEqDiff, Nat.reduceMul, Nat.reduceSub, Nat.reduceLeDiff, Nat.reduceLT, Int.reduceToNat, Int.reduceLE, Int.reduceLT, Int.reduceEq, UInt8.reduceOfNat, c1', wr_add (show i + j ≤ 9223372036854775807 by omega), wr_u (show i + j ≤ 9223372036854775807 by omega), half, hhh, e2, e3, ia_el (show hf < l.length by omega), ia_el (show x < l.length by omega), ld_el hp, ld_el hu, cmp_el hS n p u op ou, c2]
      exact ⟨_, by omega, hf + 1, j, rfl, rfl, h.up hs hh1 hh2 hp hu ((cz_lt op ou).1 c2)⟩
    · simp only [go_sem, ↓reduceIte, reduceCtorEq, upd_ne, @back_new _ _ _ _ _ no_at, Nat.reduceAdd, Nat.reduceEqDiff, Nat.reduceMul, Nat.reduceSub, Nat.reduceLeDiff, Nat.reduceLT, Int.reduceToNat, Int.reduceLE, Int.reduceLT, Int.reduceEq, UInt8.reduceOfNat, c1', wr_add (show i + j ≤ 9223372036854775807 by omega), wr_u (show i + j ≤ 9223372036854775807 by omega), half, hhh, e2, e3, ia_el (show hf < l.length by omega), ia_el (show x < l.length by omega), ld_el hp, ld_el hu, cmp_el hS n p u op ou, c2]
      exact ⟨_, by omega, i, hf, rfl, rfl, h.dn hs hh1 hh2 hp hu (fun hh => c2 ((cz_lt op ou).2 hh))⟩
  · have c1' : ¬ (i : Int) < (j : Int) := by omega
    obtain rfl : i = j := by omega
    simp only [go_sem, ↓reduceIte, reduceCtorEq, upd_ne, @back_new _ _ _ _ _ no_at, Nat.reduceAdd, Nat.reduceEqDiff, Nat.reduceMul, Nat.reduceSub, Nat.reduceLeDiff, Nat.reduceLT, Int.reduceToNat, Int.reduceLE, Int.reduceLT, Int.reduceEq, UInt8.reduceOfNat, Int.lt_irrefl, NxtP, exIf]
    refine while_ruleP (fun (r : Option (LV × Slots)) => ∃ l', r = some (.tup [], HA a b c d g l') ∧ Re x y l l' ∧ So kz x y l')
      (fun (k : Nat) (q : List LV × Slots) => ∃ (t : Nat) (l2 : List Pc), k + t = i ∧ q = ([.int .i64 (t : Int)], HA a b c d g l2) ∧ Sh1 l x y i t l2)
      (i - x) ⟨x, l, by omega, rfl, Sh1.start (by omega)⟩ ?_
    rintro k q ⟨t, l2, hk, rfl, w⟩
    have w1 := w.xk
    have w2 := w.ki
    have wl := w.re.len
    by_cases c2 : t + 1 < i
    · have c2' : (t : Int) < ((i - 1 : Nat) : Int) := by omega
      obtain ⟨p, hp⟩ := get_lt (l := l2) (show t < l2.length by omega)
      obtain ⟨q, hq⟩ := get_lt (l := l2) (show t + 1 < l2.length by omega)
      have gq2 : (l2.set t q)[t + 1]? = some q := by rw [List.getElem?_set, if_neg (by omega)]; exact hq
      simp only [go_sem, ↓reduceIte, reduceCtorEq, upd_ne, @back_new _ _ _ _ _ no_at, Nat.reduceAdd, Nat.reduceEqDiff, Nat.reduceMul, Nat.reduceSub, Nat.reduceLeDiff, Nat.reduceLT, Int.reduceToNat, Int.reduceLE, Int.reduceLT, Int.reduceEq, UInt8.reduceOfNat, wr_sub1 (show 1 ≤ i by omega) (by omega), c2', wr_add1 (show t + 1 ≤ 9223372036854775807 by omega), ia_el (show t < l.length by omega), ia_el (show t + 1 < l.length by omega), ld_el hp, ld_el hq, st_el hp, st_el gq2, HA_bk]
      exact ⟨k - 1, by omega, t + 1, _, by omega, rfl, w.next c2 h3 hp hq⟩
    · have c2' : ¬ (t : Int) < ((i - 1 : Nat) : Int) := by omega
      simp only [go_sem, ↓reduceIte, reduceCtorEq, upd_ne, @back_new _ _ _ _ _ no_at, Nat.reduceAdd, Nat.reduceEqDiff, Nat.reduceMul, Nat.reduceSub, Nat.reduceLeDiff, Nat.reduceLT, Int.reduceToNat, Int.reduceLE, Int.reduceLT, Int.reduceEq, UInt8.reduceOfNat, wr_sub1 (show 1 ≤ i by omega) (by omega), c2', NxtP, exIf, HA_hp]
      exact ⟨l2, rfl, w.re, w.fin (by omega) h hs hy⟩
theorem ev_sym2 {a b c d : Slot} {g : Nat} {l : List Pc} (x m : Nat) (hxm : x + 1 < m) (hy : m + 1 ≤ l.length) (hN : l.length ≤ 100000) (hok : ∀ p ∈ l, OkP p) (hs : So kz x m l) :
    ∃ l', (S.ev (n + 4)).i id_slices_symMergeCmpFunc_frag_Piece [.sarr 1000004 g l.length 6, .int .i64 (x : Int), .int .i64 (m : Int), .int .i64 ((m + 1 : Nat) : Int), cmpF] (HA a b c d g l) = some (.tup [], HA a b c d g l') ∧ Re x (m + 1) l l' ∧ So kz x (m + 1) l' := by
  rw [Sys.stepH hS.h_slices_symMergeCmpFunc_frag_Piece, F_slices_symMergeCmpFunc_frag_Piece_eq]
  unfold F_slices_symMergeCmpFunc_frag_Piece F_slices_symMergeCmpFunc_frag_Piece_k2 F_slices_symMergeCmpFunc_frag_Piece_k1
  (try simp only [guard_merge, or_merge, and_merge, or_pick, and_pick, guard_or, guard_and]); simp only [to_ob]
  have z1 : IntKind.i64.wrap ((m : Int) - (x : Int)) = ((m - x : Nat) : Int) := wr_sub (by omega) (by omega)
  have z1' : ¬ ((m - x : Nat) : Int) = 1 := by omega
  have z2 : IntKind.i64.wrap (((m + 1 : Nat) : Int) - (m : Int)) = 1 := by rw [wrap_id (by omega) (by omega)]; omega
  simp only [go_sem, ↓reduceIte, reduceCtorEq, upd_ne, @back_new _ _ _ _ _ no_at, Nat.reduceAdd, Nat.reduceEqDiff, Nat.reduceMul, Nat.reduceSub, Nat.reduceLeDiff, Nat.reduceLT, Int.reduceToNat, Int.reduceLE, Int.reduceLT, Int.reduceEq, UInt8.reduceOfNat, z1, z1', z2]
  refine while_ruleP (fun (r : Option (LV × Slots)) => ∃ l', r = some (.tup [], HA a b c d g l') ∧ Re x (m + 1) l l' ∧ So kz x (m + 1) l')
    (fun (k : Nat) (q : List LV × Slots) => ∃ (i j : Nat), k = j - i ∧ q = ([.int .i64 (i : Int), .int .i64 (j : Int)], HA a b c d g l) ∧ S2 l x m i j)
    (m - x) ⟨x, m, rfl, rfl, S2.start (by omega)⟩ ?_
  rintro k q ⟨i, j, rfl, rfl, h⟩
  have h1 := h.xi
  have h2 := h.ij
  have h3 := h.jm
  by_cases c1 : i < j
  · have c1' : (i : Int) < (j : Int) := by omega
    have hh1 : i ≤ (i + j) / 2 := by omega
    have hh2 : (i + j) / 2 < j := by omega
    have e2 : IntKind.i64.wrap ((((i + j) / 2 : Nat) : Int)) = (((i + j) / 2 : Nat) : Int) := wr_i (by omega)
    have e3 : IntKind.i64.wrap ((((i + j) / 2 : Nat) : Int) + 1) = (((i + j) / 2 + 1 : Nat) : Int) := wr_add1 (by omega)
    obtain ⟨p, hp⟩ := get_lt (l := l) (show (i + j) / 2 < l.length by omega)
    obtain ⟨u, hu⟩ := get_lt (l := l) (show m < l.length by omega)
    have op := ok_at hok hp
    have ou := ok_at hok hu
    generalize hhh : (i + j) / 2 = hf at hh1 hh2 e2 e3 hp
    by_cases c2 : cz u p < 0
    · simp only [go_sem, ↓reduceIte, reduceCtorEq, upd_ne, @back_new _ _ _ _ _ no_at, Nat.reduceAdd, Nat.reduceEqDiff, Nat.reduceMul, Nat.reduceSub, Nat.reduceLeDiff, Nat.reduceLT, Int.reduceToNat, Int.reduceLE, Int.reduceLT, Int.reduceEq, UInt8.reduceOfNat, c1', wr_add (show i + j ≤ 9223372036854775807 by omega), wr_u (show i + j ≤ 9223372036854775807 by omega), half, hhh, e2, e3, ia_el (show hf < l.length by omega), ia_el (show m < l.length by omega), ld_el hp, ld_el hu, cmp_el hS n u p ou op, c2]
      exact ⟨_, by omega, i, hf, rfl, rfl, h.dn hs hh1 hh2 hp hu ((cz_lt ou op).1 c2)⟩
    · simp only [go_sem, ↓reduceIte, reduceCtorEq, upd_ne, @back_new _ _ _ _ _ no_at, Nat.reduceAdd, Nat.reduceEqDiff, Nat.reduceMul, Nat.reduceSub, Nat.reduceLeDiff, Nat.reduceLT, Int.reduceToNat, Int.reduceLE, Int.reduceLT, Int.reduceEq, UInt8.reduceOfNat, c1', wr_add (show i + j ≤ 9223372036854775807 by omega), wr_u (show i + j ≤ 9223372036854775807 by omega), half, hhh, e2, e3, ia_el (show hf < l.length by omega), ia_el (show m < l.length by omega), ld_el hp, ld_el hu, cmp_el hS n u p ou op, c2]
      exact ⟨_, by omega, hf + 1, j, rfl, rfl, h.up hs hh1 hh2 hp hu (fun hh => c2 ((cz_lt ou op).2 hh))⟩
  · have c1' : ¬ (i : Int) < (j : Int) := by omega
    obtain rfl : i = j := by omega
    simp only [go_sem, ↓reduceIte, reduceCtorEq, upd_ne, @back_new _ _ _ _ _ no_at, Nat.reduceAdd, Nat.reduceEqDiff, Nat.reduceMul, Nat.reduceSub, Nat.reduceLeDiff, Nat.reduceLT, Int.reduceToNat, Int.reduceLE, Int.reduceLT, Int.reduceEq, UInt8.reduceOfNat, Int.lt_irrefl, NxtP, exIf, Ex.exit.injEq]
    refine while_ruleP (fun (r : Option (LV × Slots)) => ∃ l', r = some (.tup [], HA a b c d g l') ∧ Re x (m + 1) l l' ∧ So kz x (m + 1) l')
      (fun (k : Nat) (q : List LV × Slots) => ∃ (t : Nat) (l2 : List Pc), k = t ∧ q = ([.int .i64 (t : Int)], HA a b c d g l2) ∧ Sh2 l x (m + 1) m i t l2)
      m ⟨m, l, rfl, rfl, Sh2.start (by omega)⟩ ?_
    rintro k q ⟨t, l2, rfl, rfl, w⟩
    have w1 := w.ik
    have w2 := w.km
    have wl := w.re.len
    by_cases c2 : i < k
    · have c2' : (i : Int) < (k : Int) := by omega
      obtain ⟨p, hp⟩ := get_lt (l := l2) (show k < l2.length by omega)
      obtain ⟨q, hq⟩ := get_lt (l := l2) (show k - 1 < l2.length by omega)
      have gq2 : (l2.set k q)[k - 1]? = some q := by rw [List.getElem?_set, if_neg (by omega)]; exact hq
      simp only [go_sem, ↓reduceIte, reduceCtorEq, upd_ne, @back_new _ _ _ _ _ no_at, Nat.reduceAdd, Nat.reduceEqDiff, Nat.reduceMul, Nat.reduceSub, Nat.reduceLeDiff, Nat.reduceLT, Int.reduceToNat, Int.reduceLE, Int.reduceLT, Int.reduceEq, UInt8.reduceOfNat, c2', wr_sub1 (show 1 ≤ k by omega) (by omega), ia_el (show k < l.length by omega), ia_el (show k - 1 < l.length by omega), ld_el hp, ld_el hq, st_el hp, st_el gq2, HA_bk]
      exact ⟨k - 1, by omega, k - 1, _, rfl, rfl, w.next c2 h1 (by omega) hp hq⟩
    · have c2' : ¬ (i : Int) < (k : Int) := by omega
      obtain rfl : i = k := by omega
      simp only [go_sem, ↓reduceIte, reduceCtorEq, upd_ne, @back_new _ _ _ _ _ no_at, Nat.reduceAdd, Nat.reduceEqDiff, Nat.reduceMul, Nat.reduceSub, Nat.reduceLeDiff, Nat.reduceLT, Int.reduceToNat, Int.reduceLE, Int.reduceLT, Int.reduceEq, UInt8.reduceOfNat, Int.lt_irrefl, NxtP, exIf, HA_hp]
      exact ⟨l2, rfl, w.re, w.fin h1 h hs rfl⟩
end
end Go.Ev

namespace Go.Ev
set_option linter.unusedSimpArgs false
set_option linter.unusedVariables false
set_option maxRecDepth 4000
set_option maxHeartbeats 20000000
theorem rot_triv {l : List Pc} {s m e : Nat} (h : s = m ∨ m = e) : Rot s m e l l := ⟨Re.refl _ _ _, fun x hx => by
    rcases h with rfl | rfl
    · rfl
    · omega, fun x hx => by
    rcases h with rfl | rfl
    · omega
    · congr 1; omega⟩
theorem sym_end {l l2 l3 l4 : List Pc} {x m mid s e y : Nat} (h1 : So kz x m l) (h2 : So kz m y l) (hs : x ≤ s) (hsm : s ≤ m) (hme : m ≤ e) (hey : e ≤ y) (hmid : s + (e - m) = mid)
    (c1 : ∀ p q, x < s → e < y → l[s - 1]? = some p → l[e]? = some q → kz p ≤ kz q) (c2 : ∀ p q, s < m → m < e → l[e - 1]? = some p → l[s]? = some q → kz p ≤ kz q) (hr : Rot s m e l l2)
    (r3 : Re x mid l2 l3) (s3 : So kz x mid l3) (r4 : Re mid y l3 l4) (s4 : So kz mid y l4) : Re x y l l4 ∧ So kz x y l4 := by
  obtain ⟨g1, g2, g3, g4, g5⟩ := merge_halves h1 h2 hs hsm hme hey hmid c1 c2 hr
  refine ⟨((hr.1.wide hs hey).trans (r3.wide (Nat.le_refl _) (by omega))).trans (r4.wide (by omega) (Nat.le_refl _)), ?_⟩
  refine (s3.out fun i q1 q2 => r4.out i (.inl q2)).join s4 ?_
  exact (g5.re1 r3 (.inl (Nat.le_refl _))).re2 r4 (.inl (Nat.le_refl _))
section
variable {S : Sys} (hS : Has S) (n : Nat)
include hS
theorem ev_sym {a b c d : Slot} {g : Nat} : ∀ (k : Nat) {l : List Pc} (x m y : Nat) (hk : y - x ≤ k) (hxm : x < m) (hmy : m < y) (hy : y ≤ l.length) (hN : l.length ≤ 100000) (hok : ∀ p ∈ l, OkP p) (h1 : So kz x m l) (h2 : So kz m y l),
    ∃ l', (S.ev (n + 4 + k)).i id_slices_symMergeCmpFunc_frag_Piece [.sarr 1000004 g l.length 6, .int .i64 (x : Int), .int .i64 (m : Int), .int .i64 (y : Int), cmpF] (HA a b c d g l) = some (.tup [], HA a b c d g l') ∧ Re x y l l' ∧ So kz x y l' := by
  intro k
  induction k with
  | zero => intro l x m y hk hxm hmy; omega
  | succ k ih =>
    intro l x m y hk hxm hmy hy hN hok h1 h2
    by_cases d1 : m = x + 1
    · subst d1
      have := ev_sym1 (a := a) (b := b) (c := c) (d := d) (g := g) hS (n + k + 1) x y hmy hy hN hok h2
      rwa [show n + k + 1 + 4 = n + 4 + (k + 1) by omega] at this
    by_cases d2 : y = m + 1
    · subst d2
      have := ev_sym2 (a := a) (b := b) (c := c) (d := d) (g := g) hS (n + k + 1) x m (by omega) hy hN hok h1
      rwa [show n + k + 1 + 4 = n + 4 + (k + 1) by omega] at this
    show ∃ l', (S.ev ((n + 4 + k) + 1)).i _ _ _ = _ ∧ _
    have hcmp : ∀ {R : Type} {K : LV → Option R} {sl : Slots} (p q : Pc) (hp : OkP p) (hq : OkP q), ob (pr.callv (S.ev (n + 4 + k)) sl cmpF [pkLV p, pkLV q]) K = K (.int .i64 (cz p q)) := by
      intro R K sl p q hp hq
      have := cmp_el (K := K) (sl := sl) hS (n + 1 + k) p q hp hq
      rwa [show n + 1 + k + 3 = n + 4 + k by omega] at this
    have hrot : ∀ (s e : Nat), s < m → m < e → e ≤ l.length → ∃ l', (S.ev (n + 4 + k)).i id_slices_rotateCmpFunc_frag_Piece [.sarr 1000004 g l.length 6, .int .i64 (s : Int), .int .i64 (m : Int), .int .i64 (e : Int), cmpF] (HA a b c d g l) = some (.tup [], HA a b c d g l') ∧ Rot s m e l l' := by
      intro s e q1 q2 q3
      have := ev_rot (a := a) (b := b) (c := c) (d := d) (g := g) hS (n + 2 + k) s m e cmpF cmpF_g q1 q2 q3 hN
      rwa [show n + 2 + k + 2 = n + 4 + k by omega] at this
    rw [Sys.stepH hS.h_slices_symMergeCmpFunc_frag_Piece, F_slices_symMergeCmpFunc_frag_Piece_eq]
    unfold F_slices_symMergeCmpFunc_frag_Piece F_slices_symMergeCmpFunc_frag_Piece_k2 F_slices_symMergeCmpFunc_frag_Piece_k1
    (try simp only [guard_merge, or_merge, and_merge, or_pick, and_pick, guard_or, guard_and]); simp only [to_ob]
    have z1 : IntKind.i64.wrap ((m : Int) - (x : Int)) = ((m - x : Nat) : Int) := wr_sub (by omega) (by omega)
    have z1' : ¬ ((m - x : Nat) : Int) = 1 := by omega
    have z2 : IntKind.i64.wrap ((y : Int) - (m : Int)) = ((y - m : Nat) : Int) := wr_sub (by omega) (by omega)
    have z2' : ¬ ((y - m : Nat) : Int) = 1 := by omega
    have z3 : IntKind.i64.wrap (((x + y) / 2 : Nat) : Int) = (((x + y) / 2 : Nat) : Int) := wr_i (by omega)
    have b1 : x < (x + y) / 2 := by omega
    have b2 : (x + y) / 2 < y := by omega
    have b3 : (x + y) / 2 + (x + y) / 2 ≤ x + y := by omega
    have b4 : x + y ≤ (x + y) / 2 + (x + y) / 2 + 1 := by omega
    have z4 : IntKind.i64.wrap (((((x + y) / 2 : Nat) : Int)) + (m : Int)) = (((x + y) / 2 + m : Nat) : Int) := wr_add (by omega)
    generalize hmid : (x + y) / 2 = mid at z3 z4 b1 b2 b3 b4
    have z5 : IntKind.i64.wrap (((mid + m : Nat) : Int) - 1) = ((mid + m - 1 : Nat) : Int) := wr_sub1 (by omega) (by omega)
    by_cases dm : mid < m
    · have dm' : (mid : Int) < (m : Int) := by omega
      have hB : B3 x m y (mid + m - 1) (mid + m - y) mid := ⟨by omega, by omega, fun c q1 q2 => by omega⟩
      have z6 : IntKind.i64.wrap (((mid + m : Nat) : Int) - (y : Int)) = ((mid + m - y : Nat) : Int) ∨ m ≤ mid := by
        by_cases q : mid < m
        · exact .inl (wr_sub (by omega) (by omega))
        · exact .inr (by omega)
      have z6 := z6.resolve_right (by omega)
      simp only [go_sem, ↓reduceIte, reduceCtorEq, upd_ne, @back_new _ _ _ _ _ no_at, Nat.reduceAdd, Nat.reduceEqDiff, Nat.reduceMul, Nat.reduceSub, Nat.reduceLeDiff, Nat.reduceLT, Int.reduceToNat, Int.reduceLE, Int.reduceLT, Int.reduceEq, UInt8.reduceOfNat, z1, z1', z2, z2', wr_add (show x + y ≤ 9223372036854775807 by omega), wr_u (show x + y ≤ 9223372036854775807 by omega), half, hmid, z3, z4, z5, dm', z6]
      refine while_ruleP (fun (r : Option (LV × Slots)) => ∃ l', r = some (.tup [], HA a b c d g l') ∧ Re x y l l' ∧ So kz x y l')
        (fun (k : Nat) (q : List LV × Slots) => ∃ (s r : Nat), k = r - s ∧ q = ([.int .i64 (s : Int), .int .i64 (r : Int)], HA a b c d g l) ∧ S3 l (mid + m - 1) (mid + m - y) mid s r)
        (mid - (mid + m - y)) ⟨(mid + m - y), mid, rfl, rfl, S3.start (by omega)⟩ ?_
      rintro kk q ⟨s, r, rfl, rfl, h⟩
      have k1 := h.s0s
      have k2 := h.sr
      have k3 := h.rr
      by_cases c1 : s < r
      · have c1' : (s : Int) < (r : Int) := by omega
        have hh1 : s ≤ (s + r) / 2 := by omega
        have hh2 : (s + r) / 2 < r := by omega
        have e2 : IntKind.i64.wrap ((((s + r) / 2 : Nat) : Int)) = (((s + r) / 2 : Nat) : Int) := wr_i (by omega)
        have e3 : IntKind.i64.wrap ((((s + r) / 2 : Nat) : Int) + 1) = (((s + r) / 2 + 1 : Nat) : Int) := wr_add1 (by omega)
        have bb := hB.b3 ((s + r) / 2) (by omega) (by omega)
        have e4 : IntKind.i64.wrap (((mid + m - 1 : Nat) : Int) - (((s + r) / 2 : Nat) : Int)) = ((mid + m - 1 - (s + r) / 2 : Nat) : Int) := wr_sub bb.1 (by omega)
        obtain ⟨u, hu⟩ := get_lt (l := l) (show (s + r) / 2 < l.length by omega)
        obtain ⟨v, hv⟩ := get_lt (l := l) (show mid + m - 1 - (s + r) / 2 < l.length by omega)
        have ou := ok_at hok hu
        have ov := ok_at hok hv
        generalize hhh : (s + r) / 2 = hf at hh1 hh2 e2 e3 e4 hu hv bb
        by_cases c2 : cz v u < 0
        · simp only [go_sem, ↓reduceIte, reduceCtorEq, upd_ne, @back_new _ _ _ _ _ no_at, Nat.reduceAdd, Nat.reduceEqDiff, Nat.reduceMul, Nat.reduceSub, Nat.reduceLeDiff, Nat.reduceLT, Int.reduceToNat, Int.reduceLE, Int.reduceLT, Int.reduceEq, UInt8.reduceOfNat, c1', wr_add (show s + r ≤ 9223372036854775807 by omega), wr_u (show s + r ≤ 9223372036854775807 by omega), half, hhh, e2, e3, e4, ia_el (show hf < l.length by omega), ia_el (show mid + m - 1 - hf < l.length by omega), ld_el hu, ld_el hv, hcmp v u ov ou, c2]
          exact ⟨_, by omega, s, hf, rfl, rfl, h.dn hB h1 h2 hh1 hh2 hu hv ((cz_lt ov ou).1 c2)⟩
        · simp only [go_sem, ↓reduceIte, reduceCtorEq, upd_ne, @back_new _ _ _ _ _ no_at, Nat.reduceAdd, Nat.reduceEqDiff, Nat.reduceMul, Nat.reduceSub, Nat.reduceLeDiff, Nat.reduceLT, Int.reduceToNat, Int.reduceLE, Int.reduceLT, Int.reduceEq, UInt8.reduceOfNat, c1', wr_add (show s + r ≤ 9223372036854775807 by omega), wr_u (show s + r ≤ 9223372036854775807 by omega), half, hhh, e2, e3, e4, ia_el (show hf < l.length by omega), ia_el (show mid + m - 1 - hf < l.length by omega), ld_el hu, ld_el hv, hcmp v u ov ou, c2]
          exact ⟨_, by omega, hf + 1, r, rfl, rfl, h.up hB h1 h2 hh1 hh2 hu hv (fun hh => c2 ((cz_lt ov ou).2 hh))⟩
      · have c1' : ¬ (s : Int) < (r : Int) := by omega
        obtain rfl : s = r := by omega
        have e1 : IntKind.i64.wrap (((mid + m : Nat) : Int) - (s : Int)) = ((mid + m - s : Nat) : Int) := wr_sub (by omega) (by omega)
        have w1 : x ≤ s := by omega
        have w2 : s ≤ m := by omega
        have w3 : m ≤ mid + m - s := by omega
        have w4 : mid + m - s ≤ y := by omega
        have w5 : s + (mid + m - s - m) = mid := by omega
        have q1 : ∀ p q, x < s → mid + m - s < y → l[s - 1]? = some p → l[mid + m - s]? = some q → kz p ≤ kz q := fun p q a1 a2 hp hq =>
          h.lo (s - 1) p q (by omega) (by omega) hp (by rw [show mid + m - 1 - (s - 1) = mid + m - s by omega]; exact hq)
        have q2 : ∀ p q, s < m → m < mid + m - s → l[mid + m - s - 1]? = some p → l[s]? = some q → kz p ≤ kz q := fun p q a1 a2 hp hq =>
          Nat.le_of_lt (h.hi s q p (Nat.le_refl _) (by omega) hq (by rw [show mid + m - 1 - s = mid + m - s - 1 by omega]; exact hp))
        generalize he : mid + m - s = e at e1 w3 w4 w5 q1 q2
        have tail : ∀ l2, Rot s m e l l2 → (∃ l3, (x < s ∧ s < mid → (S.ev (n + 4 + k)).i id_slices_symMergeCmpFunc_frag_Piece [.sarr 1000004 g l.length 6, .int .i64 (x : Int), .int .i64 (s : Int), .int .i64 (mid : Int), cmpF] (HA a b c d g l2) = some (.tup [], HA a b c d g l3)) ∧ (¬ (x < s ∧ s < mid) → l3 = l2) ∧
            ∃ l4, (mid < e ∧ e < y → (S.ev (n + 4 + k)).i id_slices_symMergeCmpFunc_frag_Piece [.sarr 1000004 g l.length 6, .int .i64 (mid : Int), .int .i64 (e : Int), .int .i64 (y : Int), cmpF] (HA a b c d g l3) = some (.tup [], HA a b c d g l4)) ∧ (¬ (mid < e ∧ e < y) → l4 = l3) ∧ Re x y l l4 ∧ So kz x y l4) := by
          intro l2 hr
          have hl2 := hr.1.len
          have hok2 := Re.ok hr.1 hok
          obtain ⟨g1, g2, g3, g4, g5⟩ := merge_halves h1 h2 w1 w2 w3 w4 w5 q1 q2 hr
          obtain ⟨l3, v1, v1', v2, v3⟩ : ∃ l3, (x < s ∧ s < mid → (S.ev (n + 4 + k)).i id_slices_symMergeCmpFunc_frag_Piece [.sarr 1000004 g l.length 6, .int .i64 (x : Int), .int .i64 (s : Int), .int .i64 (mid : Int), cmpF] (HA a b c d g l2) = some (.tup [], HA a b c d g l3)) ∧ (¬ (x < s ∧ s < mid) → l3 = l2) ∧ Re x mid l2 l3 ∧ So kz x mid l3 := by
            by_cases cc : x < s ∧ s < mid
            · obtain ⟨l3, t1, t2, t3⟩ := ih (l := l2) x s mid (by omega) cc.1 cc.2 (by omega) (by omega) hok2 g1 g2
              rw [hl2] at t1
              exact ⟨l3, fun _ => t1, fun h => absurd cc h, t2, t3⟩
            · refine ⟨l2, fun h => absurd h cc, fun _ => rfl, Re.refl _ _ _, ?_⟩
              by_cases cx : x = s
              · subst cx; exact g2
              · have : mid = s := by omega
                subst this; exact g1
          have hl3 := v2.len
          have hok3 := Re.ok v2 hok2
          have g3' : So kz mid e l3 := g3.out fun i a1 a2 => v2.out i (.inr a1)
          have g4' : So kz e y l3 := g4.out fun i a1 a2 => v2.out i (.inr (by omega))
          refine ⟨l3, v1, v1', ?_⟩
          obtain ⟨l4, u1, u1', u2, u3⟩ : ∃ l4, (mid < e ∧ e < y → (S.ev (n + 4 + k)).i id_slices_symMergeCmpFunc_frag_Piece [.sarr 1000004 g l.length 6, .int .i64 (mid : Int), .int .i64 (e : Int), .int .i64 (y : Int), cmpF] (HA a b c d g l3) = some (.tup [], HA a b c d g l4)) ∧ (¬ (mid < e ∧ e < y) → l4 = l3) ∧ Re mid y l3 l4 ∧ So kz mid y l4 := by
            by_cases cc : mid < e ∧ e < y
            · obtain ⟨l4, t1, t2, t3⟩ := ih (l := l3) mid e y (by omega) cc.1 cc.2 (by omega) (by omega) hok3 g3' g4'
              rw [hl3, hl2] at t1
              exact ⟨l4, fun _ => t1, fun h => absurd cc h, t2, t3⟩
            · refine ⟨l3, fun h => absurd h cc, fun _ => rfl, Re.refl _ _ _, ?_⟩
              by_cases cx : mid = e
              · subst cx; exact g4'
              · have : y = e := by omega
                subst this; exact g3'
          exact ⟨l4, u1, u1', sym_end h1 h2 w1 w2 w3 w4 w5 q1 q2 hr v2 v3 u2 u3⟩
        by_cases p1 : s < m ∧ m < e
        · obtain ⟨l2, y1, y2⟩ := hrot s e p1.1 p1.2 (by omega)
          obtain ⟨l3, v1, v1', l4, u1, u1', fin⟩ := tail l2 y2
          have p1' : (s : Int) < (m : Int) := by omega
          have p1'' : (m : Int) < (e : Int) := by omega
          by_cases t1 : x < s
          · have t1' : (x : Int) < (s : Int) := by omega
            by_cases t2 : s < mid
            · have t2' : (s : Int) < (mid : Int) := by omega
              have v1 := v1 ⟨t1, t2⟩
              by_cases r1 : mid < e
              · have r1' : (mid : Int) < (e : Int) := by omega
                by_cases r2 : e < y
                · have r2' : (e : Int) < (y : Int) := by omega
                  simp only [go_sem, ↓reduceIte, reduceCtorEq, upd_ne, @back_new _ _ _ _ _ no_at, Nat.reduceAdd, Nat.reduceEqDiff, Nat.reduceMul, Nat.reduceSub, Nat.reduceLeDiff, Nat.reduceLT, Int.reduceToNat, Int.reduceLE, Int.reduceLT, Int.reduceEq, UInt8.reduceOfNat, Int.lt_irrefl, NxtP, exIf, e1, he, cmpF_g, HA_hp, HA_mrg, p1', p1'', y1, t1', t2', v1, r1', r2', u1 ⟨r1, r2⟩]
                  exact ⟨_, rfl, fin⟩
                · have r2' : ¬ (e : Int) < (y : Int) := by omega
                  have hl4 := u1' (by omega)
                  subst hl4
                  simp only [go_sem, ↓reduceIte, reduceCtorEq, upd_ne, @back_new _ _ _ _ _ no_at, Nat.reduceAdd, Nat.reduceEqDiff, Nat.reduceMul, Nat.reduceSub, Nat.reduceLeDiff, Nat.reduceLT, Int.reduceToNat, Int.reduceLE, Int.reduceLT, Int.reduceEq, UInt8.reduceOfNat, Int.lt_irrefl, NxtP, exIf, e1, he, cmpF_g, HA_hp, HA_mrg, p1', p1'', y1, t1', t2', v1, r1', r2']
                  exact ⟨_, rfl, fin⟩
              · have r1' : ¬ (mid : Int) < (e : Int) := by omega
                have hl4 := u1' (by omega)
                subst hl4
                simp only [go_sem, ↓reduceIte, reduceCtorEq, upd_ne, @back_new _ _ _ _ _ no_at, Nat.reduceAdd, Nat.reduceEqDiff, Nat.reduceMul, Nat.reduceSub, Nat.reduceLeDiff, Nat.reduceLT, Int.reduceToNat, Int.reduceLE, Int.reduceLT, Int.reduceEq, UInt8.reduceOfNat, Int.lt_irrefl, NxtP, exIf, e1, he, cmpF_g, HA_hp, HA_mrg, p1', p1'', y1, t1', t2', v1, r1']
                exact ⟨_, rfl, fin⟩
            · have t2' : ¬ (s : Int) < (mid : Int) := by omega
              have hl3 := v1' (by omega)
              subst hl3
              by_cases r1 : mid < e
              · have r1' : (mid : Int) < (e : Int) := by omega
                by_cases r2 : e < y
                · have r2' : (e : Int) < (y : Int) := by omega
                  simp only [go_sem, ↓reduceIte, reduceCtorEq, upd_ne, @back_new _ _ _ _ _ no_at, Nat.reduceAdd, Nat.reduceEqDiff, Nat.reduceMul, Nat.reduceSub, Nat.reduceLeDiff, Nat.reduceLT, Int.reduceToNat, Int.reduceLE, Int.reduceLT, Int.reduceEq, UInt8.reduceOfNat, Int.lt_irrefl, NxtP, exIf, e1, he, cmpF_g, HA_hp, HA_mrg, p1', p1'', y1, t1', t2', r1', r2', u1 ⟨r1, r2⟩]
                  exact ⟨_, rfl, fin⟩
                · have r2' : ¬ (e : Int) < (y : Int) := by omega
                  have hl4 := u1' (by omega)
                  subst hl4
                  simp only [go_sem, ↓reduceIte, reduceCtorEq, upd_ne, @back_new _ _ _ _ _ no_at, Nat.reduceAdd, Nat.reduceEqDiff, Nat.reduceMul, Nat.reduceSub, Nat.reduceLeDiff, Nat.reduceLT, Int.reduceToNat, Int.reduceLE, Int.reduceLT, Int.reduceEq, UInt8.reduceOfNat, Int.lt_irrefl, NxtP, exIf, e1, he, cmpF_g, HA_hp, HA_mrg, p1', p1'', y1, t1', t2', r1', r2']
                  exact ⟨_, rfl, fin⟩
              · have r1' : ¬ (mid : Int) < (e : Int) := by omega
                have hl4 := u1' (by omega)
                subst hl4
                simp only [go_sem, ↓reduceIte, reduceCtorEq, upd_ne, @back_new _ _ _ _ _ no_at, Nat.reduceAdd, Nat.reduceEqDiff, Nat.reduceMul, Nat.reduceSub, Nat.reduceLeDiff, Nat.reduceLT, Int.reduceToNat, Int.reduceLE, Int.reduceLT, Int.reduceEq, UInt8.reduceOfNat, Int.lt_irrefl, NxtP, exIf, e1, he, cmpF_g, HA_hp, HA_mrg, p1', p1'', y1, t1', t2', r1']
                exact ⟨_, rfl, fin⟩
          · have t1' : ¬ (x : Int) < (s : Int) := by omega
            have hl3 := v1' (by omega)
            subst hl3
            by_cases r1 : mid < e
            · have r1' : (mid : Int) < (e : Int) := by omega
              by_cases r2 : e < y
              · have r2' : (e : Int) < (y : Int) := by omega
                simp only [go_sem, ↓reduceIte, reduceCtorEq, upd_ne, @back_new _ _ _ _ _ no_at, Nat.reduceAdd, Nat.reduceEqDiff, Nat.reduceMul, Nat.reduceSub, Nat.reduceLeDiff, Nat.reduceLT, Int.reduceToNat, Int.reduceLE, Int.reduceLT, Int.reduceEq, UInt8.reduceOfNat, Int.lt_irrefl, NxtP, exIf, e1, he, cmpF_g, HA_hp, HA_mrg, p1', p1'', y1, t1', r1', r2', u1 ⟨r1, r2⟩]
                exact ⟨_, rfl, fin⟩
              · have r2' : ¬ (e : Int) < (y : Int) := by omega
                have hl4 := u1' (by omega)
                subst hl4
                simp only [go_sem, ↓reduceIte, reduceCtorEq, upd_ne, @back_new _ _ _ _ _ no_at, Nat.reduceAdd, Nat.reduceEqDiff, Nat.reduceMul, Nat.reduceSub, Nat.reduceLeDiff, Nat.reduceLT, Int.reduceToNat, Int.reduceLE, Int.reduceLT, Int.reduceEq, UInt8.reduceOfNat, Int.lt_irrefl, NxtP, exIf, e1, he, cmpF_g, HA_hp, HA_mrg, p1', p1'', y1, t1', r1', r2']
                exact ⟨_, rfl, fin⟩
            · have r1' : ¬ (mid : Int) < (e : Int) := by omega
              have hl4 := u1' (by omega)
              subst hl4
              simp only [go_sem, ↓reduceIte, reduceCtorEq, upd_ne, @back_new _ _ _ _ _ no_at, Nat.reduceAdd, Nat.reduceEqDiff, Nat.reduceMul, Nat.reduceSub, Nat.reduceLeDiff, Nat.reduceLT, Int.reduceToNat, Int.reduceLE, Int.reduceLT, Int.reduceEq, UInt8.reduceOfNat, Int.lt_irrefl, NxtP, exIf, e1, he, cmpF_g, HA_hp, HA_mrg, p1', p1'', y1, t1', r1']
              exact ⟨_, rfl, fin⟩
        · have hr0 : Rot s m e l l := rot_triv (by omega)
          obtain ⟨l3, v1, v1', l4, u1, u1', fin⟩ := tail l hr0
          by_cases pa : s < m
          · have p1' : (s : Int) < (m : Int) := by omega
            have p1'' : ¬ (m : Int) < (e : Int) := by omega
            by_cases t1 : x < s
            · have t1' : (x : Int) < (s : Int) := by omega
              by_cases t2 : s < mid
              · have t2' : (s : Int) < (mid : Int) := by omega
                have v1 := v1 ⟨t1, t2⟩
                by_cases r1 : mid < e
                · have r1' : (mid : Int) < (e : Int) := by omega
                  by_cases r2 : e < y
                  · have r2' : (e : Int) < (y : Int) := by omega
                    simp only [go_sem, ↓reduceIte, reduceCtorEq, upd_ne, @back_new _ _ _ _ _ no_at, Nat.reduceAdd, Nat.reduceEqDiff, Nat.reduceMul, Nat.reduceSub, Nat.reduceLeDiff, Nat.reduceLT, Int.reduceToNat, Int.reduceLE, Int.reduceLT, Int.reduceEq, UInt8.reduceOfNat, Int.lt_irrefl, NxtP, exIf, e1, he, cmpF_g, HA_hp, HA_mrg, p1', p1'', t1', t2', v1, r1', r2', u1 ⟨r1, r2⟩]
                    exact ⟨_, rfl, fin⟩
                  · have r2' : ¬ (e : Int) < (y : Int) := by omega
                    have hl4 := u1' (by omega)
                    subst hl4
                    simp only [go_sem, ↓reduceIte, reduceCtorEq, upd_ne, @back_new _ _ _ _ _ no_at, Nat.reduceAdd, Nat.reduceEqDiff, Nat.reduceMul, Nat.reduceSub, Nat.reduceLeDiff, Nat.reduceLT, Int.reduceToNat, Int.reduceLE, Int.reduceLT, Int.reduceEq, UInt8.reduceOfNat, Int.lt_irrefl, NxtP, exIf, e1, he, cmpF_g, HA_hp, HA_mrg, p1', p1'', t1', t2', v1, r1', r2']
                    exact ⟨_, rfl, fin⟩
                · have r1' : ¬ (mid : Int) < (e : Int) := by omega
                  have hl4 := u1' (by omega)
                  subst hl4
                  simp only [go_sem, ↓reduceIte, reduceCtorEq, upd_ne, @back_new _ _ _ _ _ no_at, Nat.reduceAdd, Nat.reduceEqDiff, Nat.reduceMul, Nat.reduceSub, Nat.reduceLeDiff, Nat.reduceLT, Int.reduceToNat, Int.reduceLE, Int.reduceLT, Int.reduceEq, UInt8.reduceOfNat, Int.lt_irrefl, NxtP, exIf, e1, he, cmpF_g, HA_hp, HA_mrg, p1', p1'', t1', t2', v1, r1']
                  exact ⟨_, rfl, fin⟩
              · have t2' : ¬ (s : Int) < (mid : Int) := by omega
                have hl3 := v1' (by omega)
                subst hl3
                by_cases r1 : mid < e
                · have r1' : (mid : Int) < (e : Int) := by omega
                  by_cases r2 : e < y
                  · have r2' : (e : Int) < (y : Int) := by omega
                    simp only [go_sem, ↓reduceIte, reduceCtorEq, upd_ne, @back_new _ _ _ _ _ no_at, Nat.reduceAdd, Nat.reduceEqDiff, Nat.reduceMul, Nat.reduceSub, Nat.reduceLeDiff, Nat.reduceLT, Int.reduceToNat, Int.reduceLE, Int.reduceLT, Int.reduceEq, UInt8.reduceOfNat, Int.lt_irrefl, NxtP, exIf, e1, he, cmpF_g, HA_hp, HA_mrg, p1', p1'', t1', t2', r1', r2', u1 ⟨r1, r2⟩]
                    exact ⟨_, rfl, fin⟩
                  · have r2' : ¬ (e : Int) < (y : Int) := by omega
                    have hl4 := u1' (by omega)
                    subst hl4
                    simp only [go_sem, ↓reduceIte, reduceCtorEq, upd_ne, @back_new _ _ _ _ _ no_at, Nat.reduceAdd, Nat.reduceEqDiff, Nat.reduceMul, Nat.reduceSub, Nat.reduceLeDiff, Nat.reduceLT, Int.reduceToNat, Int.reduceLE, Int.reduceLT, Int.reduceEq, UInt8.reduceOfNat, Int.lt_irrefl, NxtP, exIf, e1, he, cmpF_g, HA_hp, HA_mrg, p1', p1'', t1', t2', r1', r2']
                    exact ⟨_, rfl, fin⟩
                · have r1' : ¬ (mid : Int) < (e : Int) := by omega
                  have hl4 := u1' (by omega)
                  subst hl4
                  simp only [go_sem, ↓reduceIte, reduceCtorEq, upd_ne, @back_new _ _ _ _ _ no_at, Nat.reduceAdd, Nat.reduceEqDiff, Nat.reduceMul, Nat.reduceSub, Nat.reduceLeDiff, Nat.reduceLT, Int.reduceToNat, Int.reduceLE, Int.reduceLT, Int.reduceEq, UInt8.reduceOfNat, Int.lt_irrefl, NxtP, exIf, e1, he, cmpF_g, HA_hp, HA_mrg, p1', p1'', t1', t2', r1']
                  exact ⟨_, rfl, fin⟩
            · have t1' : ¬ (x : Int) < (s : Int) := by omega
              have hl3 := v1' (by omega)
              subst hl3
              by_cases r1 : mid < e
              · have r1' : (mid : Int) < (e : Int) := by omega
                by_cases r2 : e < y
                · have r2' : (e : Int) < (y : Int) := by omega
                  simp only [go_sem, ↓reduceIte, reduceCtorEq, upd_ne, @back_new _ _ _ _ _ no_at, Nat.reduceAdd, Nat.reduceEqDiff, Nat.reduceMul, Nat.reduceSub, Nat.reduceLeDiff, Nat.reduceLT, Int.reduceToNat, Int.reduceLE, Int.reduceLT, Int.reduceEq, UInt8.reduceOfNat, Int.lt_irrefl, NxtP, exIf, e1, he, cmpF_g, HA_hp, HA_mrg, p1', p1'', t1', r1', r2', u1 ⟨r1, r2⟩]
                  exact ⟨_, rfl, fin⟩
                · have r2' : ¬ (e : Int) < (y : Int) := by omega
                  have hl4 := u1' (by omega)
                  subst hl4
                  simp only [go_sem, ↓reduceIte, reduceCtorEq, upd_ne, @back_new _ _ _ _ _ no_at, Nat.reduceAdd, Nat.reduceEqDiff, Nat.reduceMul, Nat.reduceSub, Nat.reduceLeDiff, Nat.reduceLT, Int.reduceToNat, Int.reduceLE, Int.reduceLT, Int.reduceEq, UInt8.reduceOfNat, Int.lt_irrefl, NxtP, exIf, e1, he, cmpF_g, HA_hp, HA_mrg, p1', p1'', t1', r1', r2']
                  exact ⟨_, rfl, fin⟩
              · have r1' : ¬ (mid : Int) < (e : Int) := by omega
                have hl4 := u1' (by omega)
                subst hl4
                simp only [go_sem, ↓reduceIte, reduceCtorEq, upd_ne, @back_new _ _ _ _ _ no_at, Nat.reduceAdd, Nat.reduceEqDiff, Nat.reduceMul, Nat.reduceSub, Nat.reduceLeDiff, Nat.reduceLT, Int.reduceToNat, Int.reduceLE, Int.reduceLT, Int.reduceEq, UInt8.reduceOfNat, Int.lt_irrefl, NxtP, exIf, e1, he, cmpF_g, HA_hp, HA_mrg, p1', p1'', t1', r1']
                exact ⟨_, rfl, fin⟩
          · have p1' : ¬ (s : Int) < (m : Int) := by omega
            by_cases t1 : x < s
            · have t1' : (x : Int) < (s : Int) := by omega
              by_cases t2 : s < mid
              · have t2' : (s : Int) < (mid : Int) := by omega
                have v1 := v1 ⟨t1, t2⟩
                by_cases r1 : mid < e
                · have r1' : (mid : Int) < (e : Int) := by omega
                  by_cases r2 : e < y
                  · have r2' : (e : Int) < (y : Int) := by omega
                    simp only [go_sem, ↓reduceIte, reduceCtorEq, upd_ne, @back_new _ _ _ _ _ no_at, Nat.reduceAdd, Nat.reduceEqDiff, Nat.reduceMul, Nat.reduceSub, Nat.reduceLeDiff, Nat.reduceLT, Int.reduceToNat, Int.reduceLE, Int.reduceLT, Int.reduceEq, UInt8.reduceOfNat, Int.lt_irrefl, NxtP, exIf, e1, he, cmpF_g, HA_hp, HA_mrg, p1', t1', t2', v1, r1', r2', u1 ⟨r1, r2⟩]
                    exact ⟨_, rfl, fin⟩
                  · have r2' : ¬ (e : Int) < (y : Int) := by omega
                    have hl4 := u1' (by omega)
                    subst hl4
                    simp only [go_sem, ↓reduceIte, reduceCtorEq, upd_ne, @back_new _ _ _ _ _ no_at, Nat.reduceAdd, Nat.reduceEqDiff, Nat.reduceMul, Nat.reduceSub, Nat.reduceLeDiff, Nat.reduceLT, Int.reduceToNat, Int.reduceLE, Int.reduceLT, Int.reduceEq, UInt8.reduceOfNat, Int.lt_irrefl, NxtP, exIf, e1, he, cmpF_g, HA_hp, HA_mrg, p1', t1', t2', v1, r1', r2']
                    exact ⟨_, rfl, fin⟩
                · have r1' : ¬ (mid : Int) < (e : Int) := by omega
                  have hl4 := u1' (by omega)
                  subst hl4
                  simp only [go_sem, ↓reduceIte, reduceCtorEq, upd_ne, @back_new _ _ _ _ _ no_at, Nat.reduceAdd, Nat.reduceEqDiff, Nat.reduceMul, Nat.reduceSub, Nat.reduceLeDiff, Nat.reduceLT, Int.reduceToNat, Int.reduceLE, Int.reduceLT, Int.reduceEq, UInt8.reduceOfNat, Int.lt_irrefl, NxtP, exIf, e1, he, cmpF_g, HA_hp, HA_mrg, p1', t1', t2', v1, r1']
                  exact ⟨_, rfl, fin⟩
              · have t2' : ¬ (s : Int) < (mid : Int) := by omega
                have hl3 := v1' (by omega)
                subst hl3
                by_cases r1 : mid < e
                · have r1' : (mid : Int) < (e : Int) := by omega
                  by_cases r2 : e < y
                  · have r2' : (e : Int) < (y : Int) := by omega
                    simp only [go_sem, ↓reduceIte, reduceCtorEq, upd_ne, @back_new _ _ _ _ _ no_at, Nat.reduceAdd, Nat.reduceEqDiff, Nat.reduceMul, Nat.reduceSub, Nat.reduceLeDiff, Nat.reduceLT, Int.reduceToNat, Int.reduceLE, Int.reduceLT, Int.reduceEq, UInt8.reduceOfNat, Int.lt_irrefl, NxtP, exIf, e1, he, cmpF_g, HA_hp, HA_mrg, p1', t1', t2', r1', r2', u1 ⟨r1, r2⟩]
                    exact ⟨_, rfl, fin⟩
                  · have r2' : ¬ (e : Int) < (y : Int) := by omega
                    have hl4 := u1' (by omega)
                    subst hl4
                    simp only [go_sem, ↓reduceIte, reduceCtorEq, upd_ne, @back_new _ _ _ _ _ no_at, Nat.reduceAdd, Nat.reduceEqDiff, Nat.reduceMul, Nat.reduceSub, Nat.reduceLeDiff, Nat.reduceLT, Int.reduceToNat, Int.reduceLE, Int.reduceLT, Int.reduceEq, UInt8.reduceOfNat, Int.lt_irrefl, NxtP, exIf, e1, he, cmpF_g, HA_hp, HA_mrg, p1', t1', t2', r1', r2']
                    exact ⟨_, rfl, fin⟩
                · have r1' : ¬ (mid : Int) < (e : Int) := by omega
                  have hl4 := u1' (by omega)
                  subst hl4
                  simp only [go_sem, ↓reduceIte, reduceCtorEq, upd_ne, @back_new _ _ _ _ _ no_at, Nat.reduceAdd, Nat.reduceEqDiff, Nat.reduceMul, Nat.reduceSub, Nat.reduceLeDiff, Nat.reduceLT, Int.reduceToNat, Int.reduceLE, Int.reduceLT, Int.reduceEq, UInt8.reduceOfNat, Int.lt_irrefl, NxtP, exIf, e1, he, cmpF_g, HA_hp, HA_mrg, p1', t1', t2', r1']
                  exact ⟨_, rfl, fin⟩
            · have t1' : ¬ (x : Int) < (s : Int) := by omega
              have hl3 := v1' (by omega)
              subst hl3
              by_cases r1 : mid < e
              · have r1' : (mid : Int) < (e : Int) := by omega
                by_cases r2 : e < y
                · have r2' : (e : Int) < (y : Int) := by omega
                  simp only [go_sem, ↓reduceIte, reduceCtorEq, upd_ne, @back_new _ _ _ _ _ no_at, Nat.reduceAdd, Nat.reduceEqDiff, Nat.reduceMul, Nat.reduceSub, Nat.reduceLeDiff, Nat.reduceLT, Int.reduceToNat, Int.reduceLE, Int.reduceLT, Int.reduceEq, UInt8.reduceOfNat, Int.lt_irrefl, NxtP, exIf, e1, he, cmpF_g, HA_hp, HA_mrg, p1', t1', r1', r2', u1 ⟨r1, r2⟩]
                  exact ⟨_, rfl, fin⟩
                · have r2' : ¬ (e : Int) < (y : Int) := by omega
                  have hl4 := u1' (by omega)
                  subst hl4
                  simp only [go_sem, ↓reduceIte, reduceCtorEq, upd_ne, @back_new _ _ _ _ _ no_at, Nat.reduceAdd, Nat.reduceEqDiff, Nat.reduceMul, Nat.reduceSub, Nat.reduceLeDiff, Nat.reduceLT, Int.reduceToNat, Int.reduceLE, Int.reduceLT, Int.reduceEq, UInt8.reduceOfNat, Int.lt_irrefl, NxtP, exIf, e1, he, cmpF_g, HA_hp, HA_mrg, p1', t1', r1', r2']
                  exact ⟨_, rfl, fin⟩
              · have r1' : ¬ (mid : Int) < (e : Int) := by omega
                have hl4 := u1' (by omega)
                subst hl4
                simp only [go_sem, ↓reduceIte, reduceCtorEq, upd_ne, @back_new _ _ _ _ _ no_at, Nat.reduceAdd, Nat.reduceEqDiff, Nat.reduceMul, Nat.reduceSub, Nat.reduceLeDiff, Nat.reduceLT, Int.reduceToNat, Int.reduceLE, Int.reduceLT, Int.reduceEq, UInt8.reduceOfNat, Int.lt_irrefl, NxtP, exIf, e1, he, cmpF_g, HA_hp, HA_mrg, p1', t1', r1']
                exact ⟨_, rfl, fin⟩
    · have dm' : ¬ (mid : Int) < (m : Int) := by omega
      have hB : B3 x m y (mid + m - 1) x m := ⟨by omega, by omega, fun c q1 q2 => by omega⟩
      have z6 : IntKind.i64.wrap (((mid + m : Nat) : Int) - (y : Int)) = ((mid + m - y : Nat) : Int) ∨ m ≤ mid := by
        by_cases q : mid < m
        · exact .inl (wr_sub (by omega) (by omega))
        · exact .inr (by omega)
      simp only [go_sem, ↓reduceIte, reduceCtorEq, upd_ne, @back_new _ _ _ _ _ no_at, Nat.reduceAdd, Nat.reduceEqDiff, Nat.reduceMul, Nat.reduceSub, Nat.reduceLeDiff, Nat.reduceLT, Int.reduceToNat, Int.reduceLE, Int.reduceLT, Int.reduceEq, UInt8.reduceOfNat, z1, z1', z2, z2', wr_add (show x + y ≤ 9223372036854775807 by omega), wr_u (show x + y ≤ 9223372036854775807 by omega), half, hmid, z3, z4, z5, dm']
      refine while_ruleP (fun (r : Option (LV × Slots)) => ∃ l', r = some (.tup [], HA a b c d g l') ∧ Re x y l l' ∧ So kz x y l')
        (fun (k : Nat) (q : List LV × Slots) => ∃ (s r : Nat), k = r - s ∧ q = ([.int .i64 (s : Int), .int .i64 (r : Int)], HA a b c d g l) ∧ S3 l (mid + m - 1) x m s r)
        (m - x) ⟨x, m, rfl, rfl, S3.start (by omega)⟩ ?_
      rintro kk q ⟨s, r, rfl, rfl, h⟩
      have k1 := h.s0s
      have k2 := h.sr
      have k3 := h.rr
      by_cases c1 : s < r
      · have c1' : (s : Int) < (r : Int) := by omega
        have hh1 : s ≤ (s + r) / 2 := by omega
        have hh2 : (s + r) / 2 < r := by omega
        have e2 : IntKind.i64.wrap ((((s + r) / 2 : Nat) : Int)) = (((s + r) / 2 : Nat) : Int) := wr_i (by omega)
        have e3 : IntKind.i64.wrap ((((s + r) / 2 : Nat) : Int) + 1) = (((s + r) / 2 + 1 : Nat) : Int) := wr_add1 (by omega)
        have bb := hB.b3 ((s + r) / 2) (by omega) (by omega)
        have e4 : IntKind.i64.wrap (((mid + m - 1 : Nat) : Int) - (((s + r) / 2 : Nat) : Int)) = ((mid + m - 1 - (s + r) / 2 : Nat) : Int) := wr_sub bb.1 (by omega)
        obtain ⟨u, hu⟩ := get_lt (l := l) (show (s + r) / 2 < l.length by omega)
        obtain ⟨v, hv⟩ := get_lt (l := l) (show mid + m - 1 - (s + r) / 2 < l.length by omega)
        have ou := ok_at hok hu
        have ov := ok_at hok hv
        generalize hhh : (s + r) / 2 = hf at hh1 hh2 e2 e3 e4 hu hv bb
        by_cases c2 : cz v u < 0
        · simp only [go_sem, ↓reduceIte, reduceCtorEq, upd_ne, @back_new _ _ _ _ _ no_at, Nat.reduceAdd, Nat.reduceEqDiff, Nat.reduceMul, Nat.reduceSub, Nat.reduceLeDiff, Nat.reduceLT, Int.reduceToNat, Int.reduceLE, Int.reduceLT, Int.reduceEq, UInt8.reduceOfNat, c1', wr_add (show s + r ≤ 9223372036854775807 by omega), wr_u (show s + r ≤ 9223372036854775807 by omega), half, hhh, e2, e3, e4, ia_el (show hf < l.length by omega), ia_el (show mid + m - 1 - hf < l.length by omega), ld_el hu, ld_el hv, hcmp v u ov ou, c2]
          exact ⟨_, by omega, s, hf, rfl, rfl, h.dn hB h1 h2 hh1 hh2 hu hv ((cz_lt ov ou).1 c2)⟩
        · simp only [go_sem, ↓reduceIte, reduceCtorEq, upd_ne, @back_new _ _ _ _ _ no_at, Nat.reduceAdd, Nat.reduceEqDiff, Nat.reduceMul, Nat.reduceSub, Nat.reduceLeDiff, Nat.reduceLT, Int.reduceToNat, Int.reduceLE, Int.reduceLT, Int.reduceEq, UInt8.reduceOfNat, c1', wr_add (show s + r ≤ 9223372036854775807 by omega), wr_u (show s + r ≤ 9223372036854775807 by omega), half, hhh, e2, e3, e4, ia_el (show hf < l.length by omega), ia_el (show mid + m - 1 - hf < l.length by omega), ld_el hu, ld_el hv, hcmp v u ov ou, c2]
          exact ⟨_, by omega, hf + 1, r, rfl, rfl, h.up hB h1 h2 hh1 hh2 hu hv (fun hh => c2 ((cz_lt ov ou).2 hh))⟩
      · have c1' : ¬ (s : Int) < (r : Int) := by omega
        obtain rfl : s = r := by omega
        have e1 : IntKind.i64.wrap (((mid + m : Nat) : Int) - (s : Int)) = ((mid + m - s : Nat) : Int) := wr_sub (by omega) (by omega)
        have w1 : x ≤ s := by omega
        have w2 : s ≤ m := by omega
        have w3 : m ≤ mid + m - s := by omega
        have w4 : mid + m - s ≤ y := by omega
        have w5 : s + (mid + m - s - m) = mid := by omega
        have q1 : ∀ p q, x < s → mid + m - s < y → l[s - 1]? = some p → l[mid + m - s]? = some q → kz p ≤ kz q := fun p q a1 a2 hp hq =>
          h.lo (s - 1) p q (by omega) (by omega) hp (by rw [show mid + m - 1 - (s - 1) = mid + m - s by omega]; exact hq)
        have q2 : ∀ p q, s < m → m < mid + m - s → l[mid + m - s - 1]? = some p → l[s]? = some q → kz p ≤ kz q := fun p q a1 a2 hp hq =>
          Nat.le_of_lt (h.hi s q p (Nat.le_refl _) (by omega) hq (by rw [show mid + m - 1 - s = mid + m - s - 1 by omega]; exact hp))
        generalize he : mid + m - s = e at e1 w3 w4 w5 q1 q2
        have tail : ∀ l2, Rot s m e l l2 → (∃ l3, (x < s ∧ s < mid → (S.ev (n + 4 + k)).i id_slices_symMergeCmpFunc_frag_Piece [.sarr 1000004 g l.length 6, .int .i64 (x : Int), .int .i64 (s : Int), .int .i64 (mid : Int), cmpF] (HA a b c d g l2) = some (.tup [], HA a b c d g l3)) ∧ (¬ (x < s ∧ s < mid) → l3 = l2) ∧
            ∃ l4, (mid < e ∧ e < y → (S.ev (n + 4 + k)).i id_slices_symMergeCmpFunc_frag_Piece [.sarr 1000004 g l.length 6, .int .i64 (mid : Int), .int .i64 (e : Int), .int .i64 (y : Int), cmpF] (HA a b c d g l3) = some (.tup [], HA a b c d g l4)) ∧ (¬ (mid < e ∧ e < y) → l4 = l3) ∧ Re x y l l4 ∧ So kz x y l4) := by
          intro l2 hr
          have hl2 := hr.1.len
          have hok2 := Re.ok hr.1 hok
          obtain ⟨g1, g2, g3, g4, g5⟩ := merge_halves h1 h2 w1 w2 w3 w4 w5 q1 q2 hr
          obtain ⟨l3, v1, v1', v2, v3⟩ : ∃ l3, (x < s ∧ s < mid → (S.ev (n + 4 + k)).i id_slices_symMergeCmpFunc_frag_Piece [.sarr 1000004 g l.length 6, .int .i64 (x : Int), .int .i64 (s : Int), .int .i64 (mid : Int), cmpF] (HA a b c d g l2) = some (.tup [], HA a b c d g l3)) ∧ (¬ (x < s ∧ s < mid) → l3 = l2) ∧ Re x mid l2 l3 ∧ So kz x mid l3 := by
            by_cases cc : x < s ∧ s < mid
            · obtain ⟨l3, t1, t2, t3⟩ := ih (l := l2) x s mid (by omega) cc.1 cc.2 (by omega) (by omega) hok2 g1 g2
              rw [hl2] at t1
              exact ⟨l3, fun _ => t1, fun h => absurd cc h, t2, t3⟩
            · refine ⟨l2, fun h => absurd h cc, fun _ => rfl, Re.refl _ _ _, ?_⟩
              by_cases cx : x = s
              · subst cx; exact g2
              · have : mid = s := by omega
                subst this; exact g1
          have hl3 := v2.len
          have hok3 := Re.ok v2 hok2
          have g3' : So kz mid e l3 := g3.out fun i a1 a2 => v2.out i (.inr a1)
          have g4' : So kz e y l3 := g4.out fun i a1 a2 => v2.out i (.inr (by omega))
          refine ⟨l3, v1, v1', ?_⟩
          obtain ⟨l4, u1, u1', u2, u3⟩ : ∃ l4, (mid < e ∧ e < y → (S.ev (n + 4 + k)).i id_slices_symMergeCmpFunc_frag_Piece [.sarr 1000004 g l.length 6, .int .i64 (mid : Int), .int .i64 (e : Int), .int .i64 (y : Int), cmpF] (HA a b c d g l3) = some (.tup [], HA a b c d g l4)) ∧ (¬ (mid < e ∧ e < y) → l4 = l3) ∧ Re mid y l3 l4 ∧ So kz mid y l4 := by
            by_cases cc : mid < e ∧ e < y
            · obtain ⟨l4, t1, t2, t3⟩ := ih (l := l3) mid e y (by omega) cc.1 cc.2 (by omega) (by omega) hok3 g3' g4'
              rw [hl3, hl2] at t1
              exact ⟨l4, fun _ => t1, fun h => absurd cc h, t2, t3⟩
            · refine ⟨l3, fun h => absurd h cc, fun _ => rfl, Re.refl _ _ _, ?_⟩
              by_cases cx : mid = e
              · subst cx; exact g4'
              · have : y = e := by omega
                subst this; exact g3'
          exact ⟨l4, u1, u1', sym_end h1 h2 w1 w2 w3 w4 w5 q1 q2 hr v2 v3 u2 u3⟩
        by_cases p1 : s < m ∧ m < e
        · obtain ⟨l2, y1, y2⟩ := hrot s e p1.1 p1.2 (by omega)
          obtain ⟨l3, v1, v1', l4, u1, u1', fin⟩ := tail l2 y2
          have p1' : (s : Int) < (m : Int) := by omega
          have p1'' : (m : Int) < (e : Int) := by omega
          by_cases t1 : x < s
          · have t1' : (x : Int) < (s : Int) := by omega
            by_cases t2 : s < mid
            · have t2' : (s : Int) < (mid : Int) := by omega
              have v1 := v1 ⟨t1, t2⟩
              by_cases r1 : mid < e
              · have r1' : (mid : Int) < (e : Int) := by omega
                by_cases r2 : e < y
                · have r2' : (e : Int) < (y : Int) := by omega
                  simp only [go_sem, ↓reduceIte, reduceCtorEq, upd_ne, @back_new _ _ _ _ _ no_at, Nat.reduceAdd, Nat.reduceEqDiff, Nat.reduceMul, Nat.reduceSub, Nat.reduceLeDiff, Nat.reduceLT, Int.reduceToNat, Int.reduceLE, Int.reduceLT, Int.reduceEq, UInt8.reduceOfNat, Int.lt_irrefl, NxtP, exIf, e1, he, cmpF_g, HA_hp, HA_mrg, p1', p1'', y1, t1', t2', v1, r1', r2', u1 ⟨r1, r2⟩]
                  exact ⟨_, rfl, fin⟩
                · have r2' : ¬ (e : Int) < (y : Int) := by omega
                  have hl4 := u1' (by omega)
                  subst hl4
                  simp only [go_sem, ↓reduceIte, reduceCtorEq, upd_ne, @back_new _ _ _ _ _ no_at, Nat.reduceAdd, Nat.reduceEqDiff, Nat.reduceMul, Nat.reduceSub, Nat.reduceLeDiff, Nat.reduceLT, Int.reduceToNat, Int.reduceLE, Int.reduceLT, Int.reduceEq, UInt8.reduceOfNat, Int.lt_irrefl, NxtP, exIf, e1, he, cmpF_g, HA_hp, HA_mrg, p1', p1'', y1, t1', t2', v1, r1', r2']
                  exact ⟨_, rfl, fin⟩
              · have r1' : ¬ (mid : Int) < (e : Int) := by omega
                have hl4 := u1' (by omega)
                subst hl4
                simp only [go_sem, ↓reduceIte, reduceCtorEq, upd_ne, @back_new _ _ _ _ _ no_at, Nat.reduceAdd, Nat.reduceEqDiff, Nat.reduceMul, Nat.reduceSub, Nat.reduceLeDiff, Nat.reduceLT, Int.reduceToNat, Int.reduceLE, Int.reduceLT, Int.reduceEq, UInt8.reduceOfNat, Int.lt_irrefl, NxtP, exIf, e1, he, cmpF_g, HA_hp, HA_mrg, p1', p1'', y1, t1', t2', v1, r1']
                exact ⟨_, rfl, fin⟩
            · have t2' : ¬ (s : Int) < (mid : Int) := by omega
              have hl3 := v1' (by omega)
              subst hl3
              by_cases r1 : mid < e
              · have r1' : (mid : Int) < (e : Int) := by omega
                by_cases r2 : e < y
                · have r2' : (e : Int) < (y : Int) := by omega
                  simp only [go_sem, ↓reduceIte, reduceCtorEq, upd_ne, @back_new _ _ _ _ _ no_at, Nat.reduceAdd, Nat.reduceEqDiff, Nat.reduceMul, Nat.reduceSub, Nat.reduceLeDiff, Nat.reduceLT, Int.reduceToNat, Int.reduceLE, Int.reduceLT, Int.reduceEq, UInt8.reduceOfNat, Int.lt_irrefl, NxtP, exIf, e1, he, cmpF_g, HA_hp, HA_mrg, p1', p1'', y1, t1', t2', r1', r2', u1 ⟨r1, r2⟩]
                  exact ⟨_, rfl, fin⟩
                · have r2' : ¬ (e : Int) < (y : Int) := by omega
                  have hl4 := u1' (by omega)
                  subst hl4
                  simp only [go_sem, ↓reduceIte, reduceCtorEq, upd_ne, @back_new _ _ _ _ _ no_at, Nat.reduceAdd, Nat.reduceEqDiff, Nat.reduceMul, Nat.reduceSub, Nat.reduceLeDiff, Nat.reduceLT, Int.reduceToNat, Int.reduceLE, Int.reduceLT, Int.reduceEq, UInt8.reduceOfNat, Int.lt_irrefl, NxtP, exIf, e1, he, cmpF_g, HA_hp, HA_mrg, p1', p1'', y1, t1', t2', r1', r2']
                  exact ⟨_, rfl, fin⟩
              · have r1' : ¬ (mid : Int) < (e : Int) := by omega
                have hl4 := u1' (by omega)
                subst hl4
                simp only [go_sem, ↓reduceIte, reduceCtorEq, upd_ne, @back_new _ _ _ _ _ no_at, Nat.reduceAdd, Nat.reduceEqDiff, Nat.reduceMul, Nat.reduceSub, Nat.reduceLeDiff, Nat.reduceLT, Int.reduceToNat, Int.reduceLE, Int.reduceLT, Int.reduceEq, UInt8.reduceOfNat, Int.lt_irrefl, NxtP, exIf, e1, he, cmpF_g, HA_hp, HA_mrg, p1', p1'', y1, t1', t2', r1']
                exact ⟨_, rfl, fin⟩
          · have t1' : ¬ (x : Int) < (s : Int) := by omega
            have hl3 := v1' (by omega)
            subst hl3
            by_cases r1 : mid < e
            · have r1' : (mid : Int) < (e : Int) := by omega
              by_cases r2 : e < y
              · have r2' : (e : Int) < (y : Int) := by omega
                simp only [go_sem, ↓reduceIte, reduceCtorEq, upd_ne, @back_new _ _ _ _ _ no_at, Nat.reduceAdd, Nat.reduceEqDiff, Nat.reduceMul, Nat.reduceSub, Nat.reduceLeDiff, Nat.reduceLT, Int.reduceToNat, Int.reduceLE, Int.reduceLT, Int.reduceEq, UInt8.reduceOfNat, Int.lt_irrefl, NxtP, exIf, e1, he, cmpF_g, HA_hp, HA_mrg, p1', p1'', y1, t1', r1', r2', u1 ⟨r1, r2⟩]
                exact ⟨_, rfl, fin⟩
              · have r2' : ¬ (e : Int) < (y : Int) := by omega
                have hl4 := u1' (by omega)
                subst hl4
                simp only [go_sem, ↓reduceIte, reduceCtorEq, upd_ne, @back_new _ _ _ _ _ no_at, Nat.reduceAdd, Nat.reduceEqDiff, Nat.reduceMul, Nat.reduceSub, Nat.reduceLeDiff, Nat.reduceLT, Int.reduceToNat, Int.reduceLE, Int.reduceLT, Int.reduceEq, UInt8.reduceOfNat, Int.lt_irrefl, NxtP, exIf, e1, he, cmpF_g, HA_hp, HA_mrg, p1', p1'', y1, t1', r1', r2']
                exact ⟨_, rfl, fin⟩
            · have r1' : ¬ (mid : Int) < (e : Int) := by omega
              have hl4 := u1' (by omega)
              subst hl4
              simp only [go_sem, ↓reduceIte, reduceCtorEq, upd_ne, @back_new _ _ _ _ _ no_at, Nat.reduceAdd, Nat.reduceEqDiff, Nat.reduceMul, Nat.reduceSub, Nat.reduceLeDiff, Nat.reduceLT, Int.reduceToNat, Int.reduceLE, Int.reduceLT, Int.reduceEq, UInt8.reduceOfNat, Int.lt_irrefl, NxtP, exIf, e1, he, cmpF_g, HA_hp, HA_mrg, p1', p1'', y1, t1', r1']
              exact ⟨_, rfl, fin⟩
        · have hr0 : Rot s m e l l := rot_triv (by omega)
          obtain ⟨l3, v1, v1', l4, u1, u1', fin⟩ := tail l hr0
          by_cases pa : s < m
          · have p1' : (s : Int) < (m : Int) := by omega
            have p1'' : ¬ (m : Int) < (e : Int) := by omega
            by_cases t1 : x < s
            · have t1' : (x : Int) < (s : Int) := by omega
              by_cases t2 : s < mid
              · have t2' : (s : Int) < (mid : Int) := by omega
                have v1 := v1 ⟨t1, t2⟩
                by_cases r1 : mid < e
                · have r1' : (mid : Int) < (e : Int) := by omega
                  by_cases r2 : e < y
                  · have r2' : (e : Int) < (y : Int) := by omega
                    simp only [go_sem, ↓reduceIte, reduceCtorEq, upd_ne, @back_new _ _ _ _ _ no_at, Nat.reduceAdd, Nat.reduceEqDiff, Nat.reduceMul, Nat.reduceSub, Nat.reduceLeDiff, Nat.reduceLT, Int.reduceToNat, Int.reduceLE, Int.reduceLT, Int.reduceEq, UInt8.reduceOfNat, Int.lt_irrefl, NxtP, exIf, e1, he, cmpF_g, HA_hp, HA_mrg, p1', p1'', t1', t2', v1, r1', r2', u1 ⟨r1, r2⟩]
                    exact ⟨_, rfl, fin⟩
                  · have r2' : ¬ (e : Int) < (y : Int) := by omega
                    have hl4 := u1' (by omega)
                    subst hl4
                    simp only [go_sem, ↓reduceIte, reduceCtorEq, upd_ne, @back_new _ _ _ _ _ no_at, Nat.reduceAdd, Nat.reduceEqDiff, Nat.reduceMul, Nat.reduceSub, Nat.reduceLeDiff, Nat.reduceLT, Int.reduceToNat, Int.reduceLE, Int.reduceLT, Int.reduceEq, UInt8.reduceOfNat, Int.lt_irrefl, NxtP, exIf, e1, he, cmpF_g, HA_hp, HA_mrg, p1', p1'', t1', t2', v1, r1', r2']
                    exact ⟨_, rfl, fin⟩
                · have r1' : ¬ (mid : Int) < (e : Int) := by omega
                  have hl4 := u1' (by omega)
                  subst hl4
                  simp only [go_sem, ↓reduceIte, reduceCtorEq, upd_ne, @back_new _ _ _ _ _ no_at, Nat.reduceAdd, Nat.reduceEqDiff, Nat.reduceMul, Nat.reduceSub, Nat.reduceLeDiff, Nat.reduceLT, Int.reduceToNat, Int.reduceLE, Int.reduceLT, Int.reduceEq, UInt8.reduceOfNat, Int.lt_irrefl, NxtP, exIf, e1, he, cmpF_g, HA_hp, HA_mrg, p1', p1'', t1', t2', v1, r1']
                  exact ⟨_, rfl, fin⟩
              · have t2' : ¬ (s : Int) < (mid : Int) := by omega
                have hl3 := v1' (by omega)
                subst hl3
                by_cases r1 : mid < e
                · have r1' : (mid : Int) < (e : Int) := by omega
                  by_cases r2 : e < y
                  · have r2' : (e : Int) < (y : Int) := by omega
                    simp only [go_sem, ↓reduceIte, reduceCtorEq, upd_ne, @back_new _ _ _ _ _ no_at, Nat.reduceAdd, Nat.reduceEqDiff, Nat.reduceMul, Nat.reduceSub, Nat.reduceLeDiff, Nat.reduceLT, Int.reduceToNat, Int.reduceLE, Int.reduceLT, Int.reduceEq, UInt8.reduceOfNat, Int.lt_irrefl, NxtP, exIf, e1, he, cmpF_g, HA_hp, HA_mrg, p1', p1'', t1', t2', r1', r2', u1 ⟨r1, r2⟩]
                    exact ⟨_, rfl, fin⟩
                  · have r2' : ¬ (e : Int) < (y : Int) := by omega
                    have hl4 := u1' (by omega)
                    subst hl4
                    simp only [go_sem, ↓reduceIte, reduceCtorEq, upd_ne, @back_new _ _ _ _ _ no_at, Nat.reduceAdd, Nat.reduceEqDiff, Nat.reduceMul, Nat.reduceSub, Nat.reduceLeDiff, Nat.reduceLT, Int.reduceToNat, Int.reduceLE, Int.reduceLT, Int.reduceEq, UInt8.reduceOfNat, Int.lt_irrefl, NxtP, exIf, e1, he, cmpF_g, HA_hp, HA_mrg, p1', p1'', t1', t2', r1', r2']
                    exact ⟨_, rfl, fin⟩
                · have r1' : ¬ (mid : Int) < (e : Int) := by omega
                  have hl4 := u1' (by omega)
                  subst hl4
                  simp only [go_sem, ↓reduceIte, reduceCtorEq, upd_ne, @back_new _ _ _ _ _ no_at, Nat.reduceAdd, Nat.reduceEqDiff, Nat.reduceMul, Nat.reduceSub, Nat.reduceLeDiff, Nat.reduceLT, Int.reduceToNat, Int.reduceLE, Int.reduceLT, Int.reduceEq, UInt8.reduceOfNat, Int.lt_irrefl, NxtP, exIf, e1, he, cmpF_g, HA_hp, HA_mrg, p1', p1'', t1', t2', r1']
                  exact ⟨_, rfl, fin⟩
            · have t1' : ¬ (x : Int) < (s : Int) := by omega
              have hl3 := v1' (by omega)
              subst hl3
              by_cases r1 : mid < e
              · have r1' : (mid : Int) < (e : Int) := by omega
                by_cases r2 : e < y
                · have r2' : (e : Int) < (y : Int) := by omega
                  simp only [go_sem, ↓reduceIte, reduceCtorEq, upd_ne, @back_new _ _ _ _ _ no_at, Nat.reduceAdd, Nat.reduceEqDiff, Nat.reduceMul, Nat.reduceSub, Nat.reduceLeDiff, Nat.reduceLT, Int.reduceToNat, Int.reduceLE, Int.reduceLT, Int.reduceEq, UInt8.reduceOfNat, Int.lt_irrefl, NxtP, exIf, e1, he, cmpF_g, HA_hp, HA_mrg, p1', p1'', t1', r1', r2', u1 ⟨r1, r2⟩]
                  exact ⟨_, rfl, fin⟩
                · have r2' : ¬ (e : Int) < (y : Int) := by omega
                  have hl4 := u1' (by omega)
                  subst hl4
                  simp only [go_sem, ↓reduceIte, reduceCtorEq, upd_ne, @back_new _ _ _ _ _ no_at, Nat.reduceAdd, Nat.reduceEqDiff, Nat.reduceMul, Nat.reduceSub, Nat.reduceLeDiff, Nat.reduceLT, Int.reduceToNat, Int.reduceLE, Int.reduceLT, Int.reduceEq, UInt8.reduceOfNat, Int.lt_irrefl, NxtP, exIf, e1, he, cmpF_g, HA_hp, HA_mrg, p1', p1'', t1', r1', r2']
                  exact ⟨_, rfl, fin⟩
              · have r1' : ¬ (mid : Int) < (e : Int) := by omega
                have hl4 := u1' (by omega)
                subst hl4
                simp only [go_sem, ↓reduceIte, reduceCtorEq, upd_ne, @back_new _ _ _ _ _ no_at, Nat.reduceAdd, Nat.reduceEqDiff, Nat.reduceMul, Nat.reduceSub, Nat.reduceLeDiff, Nat.reduceLT, Int.reduceToNat, Int.reduceLE, Int.reduceLT, Int.reduceEq, UInt8.reduceOfNat, Int.lt_irrefl, NxtP, exIf, e1, he, cmpF_g, HA_hp, HA_mrg, p1', p1'', t1', r1']
                exact ⟨_, rfl, fin⟩
          · have p1' : ¬ (s : Int) < (m : Int) := by omega
            by_cases t1 : x < s
            · have t1' : (x : Int) < (s : Int) := by omega
              by_cases t2 : s < mid
              · have t2' : (s : Int) < (mid : Int) := by omega
                have v1 := v1 ⟨t1, t2⟩
                by_cases r1 : mid < e
                · have r1' : (mid : Int) < (e : Int) := by omega
                  by_cases r2 : e < y
                  · have r2' : (e : Int) < (y : Int) := by omega
                    simp only [go_sem, ↓reduceIte, reduceCtorEq, upd_ne, @back_new _ _ _ _ _ no_at, Nat.reduceAdd, Nat.reduceEqDiff, Nat.reduceMul, Nat.reduceSub, Nat.reduceLeDiff, Nat.reduceLT, Int.reduceToNat, Int.reduceLE, Int.reduceLT, Int.reduceEq, UInt8.reduceOfNat, Int.lt_irrefl, NxtP, exIf, e1, he, cmpF_g, HA_hp, HA_mrg, p1', t1', t2', v1, r1', r2', u1 ⟨r1, r2⟩]
                    exact ⟨_, rfl, fin⟩
                  · have r2' : ¬ (e : Int) < (y : Int) := by omega
                    have hl4 := u1' (by omega)
                    subst hl4
                    simp only [go_sem, ↓reduceIte, reduceCtorEq, upd_ne, @back_new _ _ _ _ _ no_at, Nat.reduceAdd, Nat.reduceEqDiff, Nat.reduceMul, Nat.reduceSub, Nat.reduceLeDiff, Nat.reduceLT, Int.reduceToNat, Int.reduceLE, Int.reduceLT, Int.reduceEq, UInt8.reduceOfNat, Int.lt_irrefl, NxtP, exIf, e1, he, cmpF_g, HA_hp, HA_mrg, p1', t1', t2', v1, r1', r2']
                    exact ⟨_, rfl, fin⟩
                · have r1' : ¬ (mid : Int) < (e : Int) := by omega
                  have hl4 := u1' (by omega)
                  subst hl4
                  simp only [go_sem, ↓reduceIte, reduceCtorEq, upd_ne, @back_new _ _ _ _ _ no_at, Nat.reduceAdd, Nat.reduceEqDiff, Nat.reduceMul, Nat.reduceSub, Nat.reduceLeDiff, Nat.reduceLT, Int.reduceToNat, Int.reduceLE, Int.reduceLT, Int.reduceEq, UInt8.reduceOfNat, Int.lt_irrefl, NxtP, exIf, e1, he, cmpF_g, HA_hp, HA_mrg, p1', t1', t2', v1, r1']
                  exact ⟨_, rfl, fin⟩
              · have t2' : ¬ (s : Int) < (mid : Int) := by omega
                have hl3 := v1' (by omega)
                subst hl3
                by_cases r1 : mid < e
                · have r1' : (mid : Int) < (e : Int) := by omega
                  by_cases r2 : e < y
                  · have r2' : (e : Int) < (y : Int) := by omega
                    simp only [go_sem, ↓reduceIte, reduceCtorEq, upd_ne, @back_new _ _ _ _ _ no_at, Nat.reduceAdd, Nat.reduceEqDiff, Nat.reduceMul, Nat.reduceSub, Nat.reduceLeDiff, Nat.reduceLT, Int.reduceToNat, Int.reduceLE, Int.reduceLT, Int.reduceEq, UInt8.reduceOfNat, Int.lt_irrefl, NxtP, exIf, e1, he, cmpF_g, HA_hp, HA_mrg, p1', t1', t2', r1', r2', u1 ⟨r1, r2⟩]
                    exact ⟨_, rfl, fin⟩
                  · have r2' : ¬ (e : Int) < (y : Int) := by omega
                    have hl4 := u1' (by omega)
                    subst hl4
                    simp only [go_sem, ↓reduceIte, reduceCtorEq, upd_ne, @back_new _ _ _ _ _ no_at, Nat.reduceAdd, Nat.reduceEqDiff, Nat.reduceMul, Nat.reduceSub, Nat.reduceLeDiff, Nat.reduceLT, Int.reduceToNat, Int.reduceLE, Int.reduceLT, Int.reduceEq, UInt8.reduceOfNat, Int.lt_irrefl, NxtP, exIf, e1, he, cmpF_g, HA_hp, HA_mrg, p1', t1', t2', r1', r2']
                    exact ⟨_, rfl, fin⟩
                · have r1' : ¬ (mid : Int) < (e : Int) := by omega
                  have hl4 := u1' (by omega)
                  subst hl4
                  simp only [go_sem, ↓reduceIte, reduceCtorEq, upd_ne, @back_new _ _ _ _ _ no_at, Nat.reduceAdd, Nat.reduceEqDiff, Nat.reduceMul, Nat.reduceSub, Nat.reduceLeDiff, Nat.reduceLT, Int.reduceToNat, Int.reduceLE, Int.reduceLT, Int.reduceEq, UInt8.reduceOfNat, Int.lt_irrefl, NxtP, exIf, e1, he, cmpF_g, HA_hp, HA_mrg, p1', t1', t2', r1']
                  exact ⟨_, rfl, fin⟩
            · have t1' : ¬ (x : Int) < (s : Int) := by omega
              have hl3 := v1' (by omega)
              subst hl3
              by_cases r1 : mid < e
              · have r1' : (mid : Int) < (e : Int) := by omega
                by_cases r2 : e < y
                · have r2' : (e : Int) < (y : Int) := by omega
                  simp only [go_sem, ↓reduceIte, reduceCtorEq, upd_ne, @back_new _ _ _ _ _ no_at, Nat.reduceAdd, Nat.reduceEqDiff, Nat.reduceMul, Nat.reduceSub, Nat.reduceLeDiff, Nat.reduceLT, Int.reduceToNat, Int.reduceLE, Int.reduceLT, Int.reduceEq, UInt8.reduceOfNat, Int.lt_irrefl, NxtP, exIf, e1, he, cmpF_g, HA_hp, HA_mrg, p1', t1', r1', r2', u1 ⟨r1, r2⟩]
                  exact ⟨_, rfl, fin⟩
                · have r2' : ¬ (e : Int) < (y : Int) := by omega
                  have hl4 := u1' (by omega)
                  subst hl4
                  simp only [go_sem, ↓reduceIte, reduceCtorEq, upd_ne, @back_new _ _ _ _ _ no_at, Nat.reduceAdd, Nat.reduceEqDiff, Nat.reduceMul, Nat.reduceSub, Nat.reduceLeDiff, Nat.reduceLT, Int.reduceToNat, Int.reduceLE, Int.reduceLT, Int.reduceEq, UInt8.reduceOfNat, Int.lt_irrefl, NxtP, exIf, e1, he, cmpF_g, HA_hp, HA_mrg, p1', t1', r1', r2']
                  exact ⟨_, rfl, fin⟩
              · have r1' : ¬ (mid : Int) < (e : Int) := by omega
                have hl4 := u1' (by omega)
                subst hl4
                simp only [go_sem, ↓reduceIte, reduceCtorEq, upd_ne, @back_new _ _ _ _ _ no_at, Nat.reduceAdd, Nat.reduceEqDiff, Nat.reduceMul, Nat.reduceSub, Nat.reduceLeDiff, Nat.reduceLT, Int.reduceToNat, Int.reduceLE, Int.reduceLT, Int.reduceEq, UInt8.reduceOfNat, Int.lt_irrefl, NxtP, exIf, e1, he, cmpF_g, HA_hp, HA_mrg, p1', t1', r1']
                exact ⟨_, rfl, fin⟩
end
end Go.Ev

namespace Go.Ev
set_option linter.unusedSimpArgs false
set_option linter.unusedVariables false
set_option maxRecDepth 4000
set_option maxHeartbeats 8000000
def Bl (bs L : Nat) (l : List Pc) : Prop := ∀ u, bs ∣ u → So kz u (min (u + bs) L) l
theorem dvd_next {w a u : Nat} (ha : w ∣ a) (hu : w ∣ u) (h : a ≤ u) (h2 : u < a + w) : u = a := by
  have h3 : w ∣ u - a := Nat.dvd_sub hu ha
  have := Nat.eq_zero_of_dvd_of_lt h3 (by omega)
  omega
theorem dvd_far {w a u : Nat} (ha : w ∣ a) (hu : w ∣ u) (h : a < u) : a + w ≤ u := by
  rcases Nat.lt_or_ge u (a + w) with c | c
  · have := dvd_next ha hu (by omega) c; omega
  · exact c
structure MgI (bs L a : Nat) (l l2 : List Pc) : Prop where
  re : Re 0 L l l2
  dv : bs + bs ∣ a
  lo : ∀ u, bs + bs ∣ u → u < a → So kz u (u + (bs + bs)) l2
  hi : ∀ u, bs ∣ u → a ≤ u → So kz u (min (u + bs) L) l2
theorem dvd_two {bs a : Nat} (h : bs + bs ∣ a) : bs ∣ a := by
  obtain ⟨c, rfl⟩ := h
  exact ⟨c + c, by rw [Nat.mul_add, Nat.add_mul]⟩
theorem MgI.next {bs L a : Nat} {l l2 l3 : List Pc} (h : MgI bs L a l l2) (hb : a + (bs + bs) ≤ L) (h0 : 0 < bs) (r : Re a (a + (bs + bs)) l2 l3) (s : So kz a (a + (bs + bs)) l3) : MgI bs L (a + (bs + bs)) l l3 :=
  ⟨h.re.trans (r.wide (by omega) hb), Nat.dvd_add h.dv (Nat.dvd_refl _), fun u hu hlt => by
    rcases Nat.lt_or_ge u a with c | c
    · have := dvd_far hu h.dv c
      exact (h.lo u hu c).out fun i q1 q2 => r.out i (.inl (by omega))
    · have := dvd_next h.dv hu c hlt
      subst this; exact s, fun u hu hle => (h.hi u hu (by omega)).out fun i q1 q2 => r.out i (.inr (by omega))⟩
theorem MgI.two {bs L a : Nat} {l l2 : List Pc} (h : MgI bs L a l l2) (hm : a + bs ≤ L) : So kz a (a + bs) l2 ∧ So kz (a + bs) (min (a + (bs + bs)) L) l2 := by
  have h1 := h.hi a (dvd_two h.dv) (Nat.le_refl _)
  have h2 := h.hi (a + bs) (Nat.dvd_add (dvd_two h.dv) (Nat.dvd_refl _)) (by omega)
  rw [Nat.min_eq_left hm] at h1
  rw [Nat.add_assoc] at h2
  exact ⟨h1, h2⟩
theorem MgI.fin {bs L a : Nat} {l l2 : List Pc} (h : MgI bs L a l l2) (hb : L < a + (bs + bs)) (s : So kz a L l2) : Bl (bs + bs) L l2 := fun u hu => by
  rcases Nat.lt_or_ge u a with c | c
  · exact (h.lo u hu c).sub (Nat.le_refl _) (Nat.min_le_left _ _)
  · by_cases e : u = a
    · subst e; rw [Nat.min_eq_right (by omega)]; exact s
    · have := dvd_far h.dv hu (by omega)
      exact So.none' (by omega)
section
variable {S : Sys} (hS : Has S) (n : Nat)
include hS
theorem ev_stable {a b c d : Slot} {g : Nat} {l : List Pc} (hN : l.length ≤ 100000) (hok : ∀ p ∈ l, OkP p) :
    ∃ l', (S.ev (n + 5 + l.length)).i id_slices_stableCmpFunc_frag_Piece [.sarr 1000004 g l.length 6, .int .i64 (l.length : Int), cmpF] (HA a b c d g l) = some (.tup [], HA a b c d g l') ∧ Re 0 l.length l l' ∧ So kz 0 l.length l' := by
  rw [show n + 5 + l.length = (n + 4 + l.length) + 1 by omega, Sys.stepH hS.h_slices_stableCmpFunc_frag_Piece, F_slices_stableCmpFunc_frag_Piece_eq]
  unfold F_slices_stableCmpFunc_frag_Piece
  have hins : ∀ (l1 : List Pc) (x y : Nat), l1.length = l.length → y ≤ l1.length → x ≤ 100000 → (∀ p ∈ l1, OkP p) → ∃ l', (S.ev (n + 4 + l.length)).i id_slices_insertionSortCmpFunc_frag_Piece [.sarr 1000004 g l.length 6, .int .i64 (x : Int), .int .i64 (y : Int), cmpF] (HA a b c d g l1) = some (.tup [], HA a b c d g l') ∧ Re x y l1 l' ∧ So kz x y l' := by
    intro l1 x y e1 h1 h2 h3
    have := ev_ins (a := a) (b := b) (c := c) (d := d) (g := g) hS (n + l.length) x y h1 h2 (by omega) h3
    rw [e1] at this
    rwa [show n + l.length + 4 = n + 4 + l.length by omega] at this
  have hsym : ∀ (l1 : List Pc) (x m y : Nat), l1.length = l.length → x < m → m < y → y ≤ l1.length → (∀ p ∈ l1, OkP p) → So kz x m l1 → So kz m y l1 → ∃ l', (S.ev (n + 4 + l.length)).i id_slices_symMergeCmpFunc_frag_Piece [.sarr 1000004 g l.length 6, .int .i64 (x : Int), .int .i64 (m : Int), .int .i64 (y : Int), cmpF] (HA a b c d g l1) = some (.tup [], HA a b c d g l') ∧ Re x y l1 l' ∧ So kz x y l' := by
    intro l1 x m y e1 h1 h2 h3 h4 h5 h6
    have := ev_sym (a := a) (b := b) (c := c) (d := d) (g := g) hS n l.length x m y (by omega) h1 h2 h3 (by omega) h4 h5 h6
    rwa [e1] at this
  (try simp only [guard_merge, or_merge, and_merge, or_pick, and_pick, guard_or, guard_and]); simp only [to_ob]
  generalize hL : l.length = L at hins hsym hN
  refine while_ruleP (fun (r : Option (LV × Slots)) => ∃ l', r = some (.tup [], HA a b c d g l') ∧ Re 0 L l l' ∧ So kz 0 L l')
    (fun (k : Nat) (q : List LV × Slots) => ∃ (x : Nat) (l1 : List Pc), x + k = L + 20 ∧ q = ([.int .i64 (x : Int), .int .i64 ((x + 20 : Nat) : Int)], HA a b c d g l1) ∧ Re 0 L l l1 ∧ 20 ∣ x ∧ x ≤ L ∧ ∀ u, 20 ∣ u → u < x → So kz u (u + 20) l1)
    (L + 20) ⟨0, l, by omega, rfl, Re.refl _ _ _, by decide, by omega, fun u _ h => by omega⟩ ?_
  rintro k q ⟨x, l1, hk, rfl, hr, hdv, hxL, hb⟩
  have hl1 := hr.len
  have hok1 := hr.ok hok
  have e1 : IntKind.i64.wrap (((x + 20 : Nat) : Int) + 20) = ((x + 20 + 20 : Nat) : Int) := by rw [wrap_id (by omega) (by omega)]; omega
  by_cases c1 : x + 20 ≤ L
  · have c1' : ((x + 20 : Nat) : Int) ≤ (L : Int) := by omega
    obtain ⟨l2, y1, y2, y3⟩ := hins l1 x (x + 20) (by omega) (by omega) (by omega) hok1
    simp only [go_sem, ↓reduceIte, reduceCtorEq, upd_ne, @back_new _ _ _ _ _ no_at, Nat.reduceAdd, Nat.reduceEqDiff, Nat.reduceMul, Nat.reduceSub, Nat.reduceLeDiff, Nat.reduceLT, Int.reduceToNat, Int.reduceLE, Int.reduceLT, Int.reduceEq, UInt8.reduceOfNat, c1', cmpF_g, HA_hp, HA_mrg, y1, e1, HA_bk]
    refine ⟨k - 20, by omega, x + 20, l2, by omega, rfl, hr.trans (y2.wide (by omega) c1), Nat.dvd_add hdv (Nat.dvd_refl _), c1, fun u hu hlt => ?_⟩
    rcases Nat.lt_or_ge u x with cu | cu
    · have := dvd_far hu hdv cu
      exact (hb u hu cu).out fun i q1 q2 => y2.out i (.inl (by omega))
    · have := dvd_next hdv hu cu hlt
      subst this; exact y3
  · have c1' : ¬ ((x + 20 : Nat) : Int) ≤ (L : Int) := by omega
    obtain ⟨l2, y1, y2, y3⟩ := hins l1 x L (by omega) (by omega) (by omega) hok1
    have hBl : Bl 20 L l2 := fun u hu => by
      rcases Nat.lt_or_ge u x with cu | cu
      · have := dvd_far hu hdv cu
        exact ((hb u hu cu).out fun i q1 q2 => y2.out i (.inl (by omega))).sub (Nat.le_refl _) (Nat.min_le_left _ _)
      · by_cases e : u = x
        · subst e; rw [Nat.min_eq_right (by omega)]; exact y3
        · have := dvd_far hdv hu (by omega)
          exact So.none' (by omega)
    have hr2 : Re 0 L l l2 := hr.trans (y2.wide (by omega) (Nat.le_refl _))
    simp only [go_sem, ↓reduceIte, reduceCtorEq, upd_ne, @back_new _ _ _ _ _ no_at, Nat.reduceAdd, Nat.reduceEqDiff, Nat.reduceMul, Nat.reduceSub, Nat.reduceLeDiff, Nat.reduceLT, Int.reduceToNat, Int.reduceLE, Int.reduceLT, Int.reduceEq, UInt8.reduceOfNat, c1', NxtP, exIf, cmpF_g, HA_hp, HA_mrg, y1]
    refine while_ruleP (fun (r : Option (LV × Slots)) => ∃ l', r = some (.tup [], HA a b c d g l') ∧ Re 0 L l l' ∧ So kz 0 L l')
      (fun (k : Nat) (q : List LV × Slots) => ∃ (bs p r : Nat) (l3 : List Pc), k = L - bs ∧ 20 ≤ bs ∧ bs ≤ 2 * L + 20 ∧ q = ([.int .i64 (p : Int), .int .i64 (r : Int), .int .i64 (bs : Int)], HA a b c d g l3) ∧ Re 0 L l l3 ∧ Bl bs L l3)
      (L - 20) ⟨20, x, x + 20, l2, rfl, by omega, by omega, rfl, hr2, hBl⟩ ?_
    rintro k2 q ⟨bs, p, r, l3, hk2, hbs, hbs2, rfl, hr3, hB3⟩
    by_cases c2 : bs < L
    · have c2' : (bs : Int) < (L : Int) := by omega
      have e2 : IntKind.i64.wrap (2 * (bs : Int)) = ((bs + bs : Nat) : Int) := by rw [wrap_id (by omega) (by omega)]; omega
      have e3 : IntKind.i64.wrap ((bs : Int) * 2) = ((bs + bs : Nat) : Int) := by rw [wrap_id (by omega) (by omega)]; omega
      simp only [go_sem, ↓reduceIte, reduceCtorEq, upd_ne, @back_new _ _ _ _ _ no_at, Nat.reduceAdd, Nat.reduceEqDiff, Nat.reduceMul, Nat.reduceSub, Nat.reduceLeDiff, Nat.reduceLT, Int.reduceToNat, Int.reduceLE, Int.reduceLT, Int.reduceEq, UInt8.reduceOfNat, c2', e2]
      refine while_ruleP (NxtP _ _ _ _)
        (fun (k : Nat) (q : List LV × Slots) => ∃ (u : Nat) (l4 : List Pc), u + k = L + L ∧ u ≤ L ∧ q = ([.int .i64 (u : Int), .int .i64 ((u + (bs + bs) : Nat) : Int)], HA a b c d g l4) ∧ MgI bs L u l l4)
        (L + L) ⟨0, l3, by omega, by omega, by simp, ⟨hr3, Nat.dvd_zero _, fun u _ h => by omega, fun u hu _ => hB3 u hu⟩⟩ ?_
      rintro k3 q ⟨u, l4, hk3, huL, rfl, h⟩
      have hl4 := h.re.len
      have hok4 := h.re.ok hok
      have e4 : IntKind.i64.wrap ((u : Int) + (bs : Int)) = ((u + bs : Nat) : Int) := wr_add (by omega)
      have e5 : IntKind.i64.wrap (((u + (bs + bs) : Nat) : Int) + ((bs + bs : Nat) : Int)) = ((u + (bs + bs) + (bs + bs) : Nat) : Int) := wr_add (by omega)
      by_cases c3 : u + (bs + bs) ≤ L
      · have c3' : ((u + (bs + bs) : Nat) : Int) ≤ (L : Int) := by omega
        obtain ⟨s1, s2⟩ := h.two (by omega)
        rw [Nat.min_eq_left c3] at s2
        obtain ⟨l5, w1, w2, w3⟩ := hsym l4 u (u + bs) (u + (bs + bs)) (by omega) (by omega) (by omega) (by omega) hok4 s1 s2
        simp only [go_sem, ↓reduceIte, reduceCtorEq, upd_ne, @back_new _ _ _ _ _ no_at, Nat.reduceAdd, Nat.reduceEqDiff, Nat.reduceMul, Nat.reduceSub, Nat.reduceLeDiff, Nat.reduceLT, Int.reduceToNat, Int.reduceLE, Int.reduceLT, Int.reduceEq, UInt8.reduceOfNat, c3', e4, e2, e5, cmpF_g, HA_hp, HA_mrg, w1, HA_bk]
        exact ⟨k3 - (bs + bs), by omega, u + (bs + bs), l5, by omega, c3, rfl, h.next c3 (by omega) w2 w3⟩
      · have c3' : ¬ ((u + (bs + bs) : Nat) : Int) ≤ (L : Int) := by omega
        have done : ∀ l6, Re 0 L l l6 → Bl (bs + bs) L l6 → ∃ m, m < k2 ∧ ∃ (bs' p r : Nat) (l3 : List Pc), m = L - bs' ∧ 20 ≤ bs' ∧ bs' ≤ 2 * L + 20 ∧ (([.int .i64 (u : Int), .int .i64 ((u + (bs + bs) : Nat) : Int), .int .i64 ((bs + bs : Nat) : Int)] : List LV), HA a b c d g l6) = ([.int .i64 (p : Int), .int .i64 (r : Int), .int .i64 (bs' : Int)], HA a b c d g l3) ∧ Re 0 L l l3 ∧ Bl bs' L l3 :=
          fun l6 q1 q2 => ⟨_, by omega, bs + bs, u, u + (bs + bs), l6, rfl, by omega, by omega, rfl, q1, q2⟩
        by_cases c4 : u + bs < L
        · have c4' : ((u + bs : Nat) : Int) < (L : Int) := by omega
          obtain ⟨s1, s2⟩ := h.two (by omega)
          rw [Nat.min_eq_right (by omega)] at s2
          obtain ⟨l5, w1, w2, w3⟩ := hsym l4 u (u + bs) L (by omega) (by omega) (by omega) (by omega) hok4 s1 s2
          simp only [go_sem, ↓reduceIte, reduceCtorEq, upd_ne, @back_new _ _ _ _ _ no_at, Nat.reduceAdd, Nat.reduceEqDiff, Nat.reduceMul, Nat.reduceSub, Nat.reduceLeDiff, Nat.reduceLT, Int.reduceToNat, Int.reduceLE, Int.reduceLT, Int.reduceEq, UInt8.reduceOfNat, c3', NxtP, exIf, Ex.exit.injEq, e4, c4', e3, cmpF_g, HA_hp, HA_mrg, w1, HA_bk]
          refine done l5 (h.re.trans (w2.wide (by omega) (Nat.le_refl _))) ?_
          have hn : ∀ i, i < u → l5[i]? = l4[i]? := fun i q => w2.out i (.inl q)
          intro v hv
          rcases Nat.lt_or_ge v u with c | c
          · have := dvd_far hv h.dv c
            exact ((h.lo v hv c).out fun i q1 q2 => hn i (by omega)).sub (Nat.le_refl _) (Nat.min_le_left _ _)
          · by_cases e : v = u
            · subst e; rw [Nat.min_eq_right (by omega)]; exact w3
            · have := dvd_far h.dv hv (by omega)
              exact So.none' (by omega)
        · have c4' : ¬ ((u + bs : Nat) : Int) < (L : Int) := by omega
          simp only [go_sem, ↓reduceIte, reduceCtorEq, upd_ne, @back_new _ _ _ _ _ no_at, Nat.reduceAdd, Nat.reduceEqDiff, Nat.reduceMul, Nat.reduceSub, Nat.reduceLeDiff, Nat.reduceLT, Int.reduceToNat, Int.reduceLE, Int.reduceLT, Int.reduceEq, UInt8.reduceOfNat, c3', NxtP, exIf, Ex.exit.injEq, e4, c4', e3, HA_bk]
          refine done l4 h.re (h.fin (by omega) ?_)
          have := h.hi u (dvd_two h.dv) (Nat.le_refl _)
          rwa [Nat.min_eq_right (by omega)] at this
    · have c2' : ¬ (bs : Int) < (L : Int) := by omega
      simp only [go_sem, ↓reduceIte, reduceCtorEq, upd_ne, @back_new _ _ _ _ _ no_at, Nat.reduceAdd, Nat.reduceEqDiff, Nat.reduceMul, Nat.reduceSub, Nat.reduceLeDiff, Nat.reduceLT, Int.reduceToNat, Int.reduceLE, Int.reduceLT, Int.reduceEq, UInt8.reduceOfNat, c2', NxtP, exIf, HA_hp]
      have := hB3 0 (Nat.dvd_zero _)
      rw [Nat.min_eq_right (by omega)] at this
      exact ⟨l3, rfl, hr3, this⟩
theorem ev_sort {a b c d : Slot} {g : Nat} {l : List Pc} (hN : l.length ≤ 100000) (hok : ∀ p ∈ l, OkP p) :
    ∃ l', (S.ev (n + 6 + l.length)).i id_slices_SortStableFunc_frag_Piece_frag_Piece [.sarr 1000004 g l.length 6, cmpF] (HA a b c d g l) = some (.tup [], HA a b c d g l') ∧ l'.Perm l ∧ So kz 0 l.length l' := by
  rw [show n + 6 + l.length = (n + 5 + l.length) + 1 by omega, Sys.stepH hS.h_slices_SortStableFunc_frag_Piece_frag_Piece, F_slices_SortStableFunc_frag_Piece_frag_Piece_eq]
  unfold F_slices_SortStableFunc_frag_Piece_frag_Piece
  (try simp only [guard_merge, or_merge, and_merge, or_pick, and_pick, guard_or, guard_and]); simp only [to_ob]
  obtain ⟨l', h1, h2, h3⟩ := ev_stable (a := a) (b := b) (c := c) (d := d) (g := g) hS n hN hok
  simp only [go_sem, ↓reduceIte, reduceCtorEq, upd_ne, @back_new _ _ _ _ _ no_at, Nat.reduceAdd, Nat.reduceEqDiff, Nat.reduceMul, Nat.reduceSub, Nat.reduceLeDiff, Nat.reduceLT, Int.reduceToNat, Int.reduceLE, Int.reduceLT, Int.reduceEq, UInt8.reduceOfNat, cmpF_g, HA_hp, HA_mrg, h1]
  exact ⟨l', rfl, h2.perm, h3⟩
end
end Go.Ev

namespace Go.Ev
set_option linter.unusedSimpArgs false
set_option linter.unusedVariables false
set_option maxRecDepth 4000
set_option maxHeartbeats 4000000
section
variable {a b c d s : Slot} {g : Nat} {l : List Pc}
theorem HA_0 : HA a b c d g l 1000000 = a := HP_0
theorem HA_1 : HA a b c d g l 1000001 = b := HP_1
theorem HA_2 : HA a b c d g l 1000002 = c := HP_2
theorem HA_3 : HA a b c d g l 1000003 = d := HP_3
theorem HA_4 : HA a b c d g l 1000004 = .obj g (.agg (l.map pkLV)) := HP_4
theorem HA_low {t : Nat} (h : t < 1000000) : HA a b c d g l t = .none 0 := HP_low h
theorem HA_u0 : upd (HA a b c d g l) 1000000 s = HA s b c d g l := HP_u0
theorem HA_u1 : upd (HA a b c d g l) 1000001 s = HA a s c d g l := HP_u1
theorem HA_u2 : upd (HA a b c d g l) 1000002 s = HA a b s d g l := HP_u2
theorem HA_u3 : upd (HA a b c d g l) 1000003 s = HA a b c s g l := HP_u3
end
theorem mfind_str {a b : List UInt8} {v : LV} {es : List (LV × LV)} : mfind (.str a) ((.str b, v) :: es) = if a = b then some (some v) else mfind (.str a) es := by
  simp only [mfind, keyEq, Option.bind_some]; split <;> simp_all
theorem isKey_str {a : List UInt8} : isKey none (.str a) = true := by simp [isKey]
theorem mset_nil {k v : LV} : mset k v [] = some [(k, v)] := rfl
theorem mset_str {a : List UInt8} {u v : LV} {es : List (LV × LV)} : mset (.str a) v ((.str a, u) :: es) = some ((.str a, v) :: es) := by simp [mset, keyEq]
theorem mdel_str {a : List UInt8} {u : LV} {es : List (LV × LV)} : mdel (.str a) ((.str a, u) :: es) = some es := by simp [mdel, keyEq]
theorem mval_int {k : IntKind} {n : Int} : mval (.int k n) = true := rfl
attribute [go_sem] HA_0 HA_1 HA_2 HA_3 HA_4 HA_low HA_u0 HA_u1 HA_u2 HA_u3 HA_hp HA_mrg HA_bk mfind_str isKey_str mset_nil mset_str mdel_str mval_int pc_ps pc_pg pc_fl pc_ag pc_st hp_no
def H0 : Slots := HP (.obj 1 (.agg [.int .i64 5000, .int .i64 5000, .int .i64 0, .int .i64 0, .mref 1000001 1, .mref 1000002 1])) (.mp 1 []) (.mp 1 []) (.none 0) (.none 0)
def St (l : List Pc) (en : Int) : Slots :=
  HA (.obj 1 (.agg [.int .i64 5000, .int .i64 5000, .int .i64 1, .int .i64 (l.length : Int), .mref 1000001 1, .mref 1000002 1])) (.mp 1 [(.str [107], .ptr 1000003 1 [] 0)]) (.mp 1 [(.str [115], .int .i64 (l.length : Int))])
    (.obj 1 (.agg [.int .i64 1, .int .i64 1, .int .i64 en, .sarr 1000004 l.length l.length 6])) l.length l
theorem H0_hp : hp H0 = H0 := HP_hp
theorem St_hp {l : List Pc} {en : Int} : hp (St l en) = St l en := HP_hp
section
variable {S : Sys} (hS : Has S) (n : Nat)
include hS
theorem ev_FNew : (S.ev (n + 1)).i id_frag_New [.int .i64 5000, .int .i64 5000] noSlots = some (.tup [.ptr 1000000 1 [] 0, .int .i64 0], H0) := by
  rw [Sys.stepH hS.h_frag_New, F_frag_New_eq]
  unfold F_frag_New
  (try simp only [guard_merge, or_merge, and_merge, or_pick, and_pick, guard_or, guard_and]); simp only [to_ob]
  rw [HP_no]
  simp only [go_sem, ↓reduceIte, reduceCtorEq, upd_ne, @back_new _ _ _ _ _ no_at, Nat.reduceAdd, Nat.reduceEqDiff, Nat.reduceMul, Nat.reduceSub, Nat.reduceLeDiff, Nat.reduceLT, Int.reduceToNat, Int.reduceLE, Int.reduceLT, Int.reduceEq, UInt8.reduceOfNat, H0]
theorem ev_none {b c d e : Slot} {x1 x2 x3 x4 : Int} {x6 : LV} : (S.ev (n + 1)).i id_frag_Store_none [.ptr 1000000 1 [] 0] (HP (.obj 1 (.agg [.int .i64 x1, .int .i64 x2, .int .i64 x3, .int .i64 x4, .mref 1000001 1, x6])) b c d e) = some (.bool false, HP (.obj 1 (.agg [.int .i64 x1, .int .i64 x2, .int .i64 x3, .int .i64 x4, .mref 1000001 1, x6])) b c d e) := by
  rw [Sys.stepH hS.h_frag_Store_none, F_frag_Store_none_eq]
  unfold F_frag_Store_none
  (try simp only [guard_merge, or_merge, and_merge, or_pick, and_pick, guard_or, guard_and]); simp only [to_ob]
  simp only [go_sem, ↓reduceIte, reduceCtorEq, upd_ne, @back_new _ _ _ _ _ no_at, Nat.reduceAdd, Nat.reduceEqDiff, Nat.reduceMul, Nat.reduceSub, Nat.reduceLeDiff, Nat.reduceLT, Int.reduceToNat, Int.reduceLE, Int.reduceLT, Int.reduceEq, UInt8.reduceOfNat]
def RightP (p : Pc) : Prop := p.a ≤ 65535 ∧ p.a % 8 = 0 ∧ p.d.length ≤ 65535 - p.a ∧ (p.m = true → 0 < p.d.length ∧ p.d.length % 8 = 0)
omit hS in
theorem RightP.ok {p : Pc} (h : RightP p) : OkP p := ⟨h.1, by have := h.2.2.1; omega⟩
theorem ev_Right (p : Pc) (h : RightP p) : S.ev (n + 1) id_frag_Right [pkLV p] none = some (.bool true, none) := by
  rw [Sys.step hS.h_frag_Right, F_frag_Right_eq]
  unfold F_frag_Right
  (try simp only [guard_merge, or_merge, and_merge, or_pick, and_pick, guard_or, guard_and]); simp only [to_ob]
  obtain ⟨h1, h2, h3, h4⟩ := h
  have c1 : ¬ (p.a : Int) < 0 := by omega
  have c2 : ¬ (65535 : Int) < (p.a : Int) := by omega
  have e3 : Int.tmod (p.a : Int) 8 = 0 := by
    have : Int.tmod (p.a : Int) 8 = ((p.a % 8 : Nat) : Int) := rfl
    rw [this, h2]; rfl
  have e4 : IntKind.i64.wrap (65535 - (p.a : Int)) = ((65535 - p.a : Nat) : Int) := by rw [wrap_id (by omega) (by omega)]; omega
  have c5 : ¬ ((65535 - p.a : Nat) : Int) < (p.d.length : Int) := by omega
  cases hm : p.m with
  | false => simp only [go_sem, ↓reduceIte, reduceCtorEq, upd_ne, @back_new _ _ _ _ _ no_at, Nat.reduceAdd, Nat.reduceEqDiff, Nat.reduceMul, Nat.reduceSub, Nat.reduceLeDiff, Nat.reduceLT, Int.reduceToNat, Int.reduceLE, Int.reduceLT, Int.reduceEq, UInt8.reduceOfNat, pkLV, c1, c2, e3, e4, c5, hm]
  | true =>
    obtain ⟨q1, q2⟩ := h4 hm
    have c6 : (0 : Int) < (p.d.length : Int) := by omega
    have e7 : Int.tmod (p.d.length : Int) 8 = 0 := by
      have : Int.tmod (p.d.length : Int) 8 = ((p.d.length % 8 : Nat) : Int) := rfl
      rw [this, q2]; rfl
    simp only [go_sem, ↓reduceIte, reduceCtorEq, upd_ne, @back_new _ _ _ _ _ no_at, Nat.reduceAdd, Nat.reduceEqDiff, Nat.reduceMul, Nat.reduceSub, Nat.reduceLeDiff, Nat.reduceLT, Int.reduceToNat, Int.reduceLE, Int.reduceLT, Int.reduceEq, UInt8.reduceOfNat, pkLV, c1, c2, e3, e4, c5, hm, c6, e7]
theorem ev_same (p q : Pc) (h : p.a ≠ q.a) : S.ev (n + 1) id_frag_Piece_same [pkLV p, pkLV q] none = some (.bool false, none) := by
  rw [Sys.step hS.h_frag_Piece_same, F_frag_Piece_same_eq]
  unfold F_frag_Piece_same
  (try simp only [guard_merge, or_merge, and_merge, or_pick, and_pick, guard_or, guard_and]); simp only [to_ob]
  have c1 : ¬ (p.a : Int) = (q.a : Int) := by omega
  simp only [go_sem, ↓reduceIte, reduceCtorEq, upd_ne, @back_new _ _ _ _ _ no_at, Nat.reduceAdd, Nat.reduceEqDiff, Nat.reduceMul, Nat.reduceSub, Nat.reduceLeDiff, Nat.reduceLT, Int.reduceToNat, Int.reduceLE, Int.reduceLT, Int.reduceEq, UInt8.reduceOfNat, pkLV, c1]
def Apt (p q : Pc) : Prop := ¬ (p.a < pTo q ∧ q.a < pTo p) ∧ (p.m = true ∨ pTo q ≤ pTo p)
theorem ev_fits1 (p q : Pc) (hp : OkP p) (hq : OkP q) (h : Apt p q) : S.ev (n + 2) id_frag_datagram_fits_1 [pkLV q, .box (pkLV p)] none = some (.bool false, none) := by
  rw [Sys.step hS.h_frag_datagram_fits_1, F_frag_datagram_fits_1_eq]
  unfold F_frag_datagram_fits_1
  (try simp only [guard_merge, or_merge, and_merge, or_pick, and_pick, guard_or, guard_and]); simp only [to_ob]
  have t1 := ev_to hS n p hp
  have t2 := ev_to hS n q hq
  obtain ⟨h1, h2⟩ := h
  simp only [pkLV] at t1 t2
  by_cases c1 : p.a < pTo q
  · have c1' : (p.a : Int) < ((pTo q : Nat) : Int) := by omega
    have c2' : ¬ (q.a : Int) < ((pTo p : Nat) : Int) := by omega
    cases hm : p.m with
    | true => simp only [go_sem, ↓reduceIte, reduceCtorEq, upd_ne, @back_new _ _ _ _ _ no_at, Nat.reduceAdd, Nat.reduceEqDiff, Nat.reduceMul, Nat.reduceSub, Nat.reduceLeDiff, Nat.reduceLT, Int.reduceToNat, Int.reduceLE, Int.reduceLT, Int.reduceEq, UInt8.reduceOfNat, pkLV, t1, t2, c1', c2', hm] at t1 t2 ⊢; simp only [go_sem, ↓reduceIte, reduceCtorEq, upd_ne, @back_new _ _ _ _ _ no_at, Nat.reduceAdd, Nat.reduceEqDiff, Nat.reduceMul, Nat.reduceSub, Nat.reduceLeDiff, Nat.reduceLT, Int.reduceToNat, Int.reduceLE, Int.reduceLT, Int.reduceEq, UInt8.reduceOfNat, t1, t2, c1', c2', hm]
    | false =>
      rw [hm] at t1
      have c3' : ¬ ((pTo p : Nat) : Int) < ((pTo q : Nat) : Int) := by have := h2.resolve_left (by simp [hm]); omega
      simp only [go_sem, ↓reduceIte, reduceCtorEq, upd_ne, @back_new _ _ _ _ _ no_at, Nat.reduceAdd, Nat.reduceEqDiff, Nat.reduceMul, Nat.reduceSub, Nat.reduceLeDiff, Nat.reduceLT, Int.reduceToNat, Int.reduceLE, Int.reduceLT, Int.reduceEq, UInt8.reduceOfNat, pkLV, t1, t2, c1', c2', hm, c3']
  · have c1' : ¬ (p.a : Int) < ((pTo q : Nat) : Int) := by omega
    cases hm : p.m with
    | true => rw [hm] at t1; simp only [go_sem, ↓reduceIte, reduceCtorEq, upd_ne, @back_new _ _ _ _ _ no_at, Nat.reduceAdd, Nat.reduceEqDiff, Nat.reduceMul, Nat.reduceSub, Nat.reduceLeDiff, Nat.reduceLT, Int.reduceToNat, Int.reduceLE, Int.reduceLT, Int.reduceEq, UInt8.reduceOfNat, pkLV, t1, t2, c1', hm]
    | false =>
      rw [hm] at t1
      have c3' : ¬ ((pTo p : Nat) : Int) < ((pTo q : Nat) : Int) := by have := h2.resolve_left (by simp [hm]); omega
      simp only [go_sem, ↓reduceIte, reduceCtorEq, upd_ne, @back_new _ _ _ _ _ no_at, Nat.reduceAdd, Nat.reduceEqDiff, Nat.reduceMul, Nat.reduceSub, Nat.reduceLeDiff, Nat.reduceLT, Int.reduceToNat, Int.reduceLE, Int.reduceLT, Int.reduceEq, UInt8.reduceOfNat, pkLV, t1, t2, c1', hm, c3']
theorem ev_idx {a b c d : Slot} {g : Nat} {l : List Pc} {F : LV} (hN : l.length ≤ 100000) (hF : ∀ {R : Type} {K : LV → Option R} {sl : Slots} (q : Pc), q ∈ l → ob (pr.callv (S.ev n) sl F [pkLV q]) K = K (.bool false)) :
    (S.ev (n + 1)).i id_slices_IndexFunc_frag_Piece_frag_Piece [.sarr 1000004 g l.length 6, F] (HA a b c d g l) = some (.int .i64 (-1), HA a b c d g l) := by
  rw [Sys.stepH hS.h_slices_IndexFunc_frag_Piece_frag_Piece, F_slices_IndexFunc_frag_Piece_frag_Piece_eq]
  unfold F_slices_IndexFunc_frag_Piece_frag_Piece
  (try simp only [guard_merge, or_merge, and_merge, or_pick, and_pick, guard_or, guard_and]); simp only [to_ob]
  simp only [go_sem, ↓reduceIte, reduceCtorEq, upd_ne, @back_new _ _ _ _ _ no_at, Nat.reduceAdd, Nat.reduceEqDiff, Nat.reduceMul, Nat.reduceSub, Nat.reduceLeDiff, Nat.reduceLT, Int.reduceToNat, Int.reduceLE, Int.reduceLT, Int.reduceEq, UInt8.reduceOfNat]
  refine while_rule (fun (k : Nat) (q : List LV × Slots) => ∃ i : Nat, i + k = l.length ∧ q = ([.int .i64 0, .int .i64 (i : Int)], HA a b c d g l)) l.length ⟨0, by omega, rfl⟩ ?_
  rintro k q ⟨i, hi, rfl⟩
  by_cases c1 : i < l.length
  · have c1' : (i : Int) < (l.length : Int) := by omega
    obtain ⟨p, hp⟩ := get_lt (l := l) c1
    simp only [go_sem, ↓reduceIte, reduceCtorEq, upd_ne, @back_new _ _ _ _ _ no_at, Nat.reduceAdd, Nat.reduceEqDiff, Nat.reduceMul, Nat.reduceSub, Nat.reduceLeDiff, Nat.reduceLT, Int.reduceToNat, Int.reduceLE, Int.reduceLT, Int.reduceEq, UInt8.reduceOfNat, c1', ia_el c1, ld_el hp, hF p (List.mem_of_getElem? hp), wr_add1 (show i + 1 ≤ 9223372036854775807 by omega)]
    exact ⟨k - 1, by omega, i + 1, by omega, rfl⟩
  · have c1' : ¬ (i : Int) < (l.length : Int) := by omega
    simp only [go_sem, ↓reduceIte, reduceCtorEq, upd_ne, @back_new _ _ _ _ _ no_at, Nat.reduceAdd, Nat.reduceEqDiff, Nat.reduceMul, Nat.reduceSub, Nat.reduceLeDiff, Nat.reduceLT, Int.reduceToNat, Int.reduceLE, Int.reduceLT, Int.reduceEq, UInt8.reduceOfNat, c1', Nxt, exIf]
theorem ev_cont {a b c d : Slot} {g : Nat} {l : List Pc} {F : LV} (hN : l.length ≤ 100000) (hg : pslG F = some F) (hF : ∀ {R : Type} {K : LV → Option R} {sl : Slots} (q : Pc), q ∈ l → ob (pr.callv (S.ev n) sl F [pkLV q]) K = K (.bool false)) :
    (S.ev (n + 2)).i id_slices_ContainsFunc_frag_Piece_frag_Piece [.sarr 1000004 g l.length 6, F] (HA a b c d g l) = some (.bool false, HA a b c d g l) := by
  rw [Sys.stepH hS.h_slices_ContainsFunc_frag_Piece_frag_Piece, F_slices_ContainsFunc_frag_Piece_frag_Piece_eq]
  unfold F_slices_ContainsFunc_frag_Piece_frag_Piece
  (try simp only [guard_merge, or_merge, and_merge, or_pick, and_pick, guard_or, guard_and]); simp only [to_ob]
  have h1 := ev_idx (a := a) (b := b) (c := c) (d := d) (g := g) hS n hN hF
  simp only [go_sem, ↓reduceIte, reduceCtorEq, upd_ne, @back_new _ _ _ _ _ no_at, Nat.reduceAdd, Nat.reduceEqDiff, Nat.reduceMul, Nat.reduceSub, Nat.reduceLeDiff, Nat.reduceLT, Int.reduceToNat, Int.reduceLE, Int.reduceLT, Int.reduceEq, UInt8.reduceOfNat, hg, h1]
theorem ev_head {a b c : Slot} {g : Nat} {l : List Pc} {x1 x2 x3 : Int} (hN : l.length ≤ 100000) :
    (S.ev (n + 1)).i id_frag_datagram_head [.ptr 1000003 1 [] 0] (HA a b c (.obj 1 (.agg [.int .i64 x1, .int .i64 x2, .int .i64 x3, .sarr 1000004 g l.length 6])) g l) = some (.str [], HA a b c (.obj 1 (.agg [.int .i64 x1, .int .i64 x2, .int .i64 x3, .sarr 1000004 g l.length 6])) g l) := by
  rw [Sys.stepH hS.h_frag_datagram_head, F_frag_datagram_head_eq]
  unfold F_frag_datagram_head
  (try simp only [guard_merge, or_merge, and_merge, or_pick, and_pick, guard_or, guard_and]); simp only [to_ob]
  simp only [go_sem, ↓reduceIte, reduceCtorEq, upd_ne, @back_new _ _ _ _ _ no_at, Nat.reduceAdd, Nat.reduceEqDiff, Nat.reduceMul, Nat.reduceSub, Nat.reduceLeDiff, Nat.reduceLT, Int.reduceToNat, Int.reduceLE, Int.reduceLT, Int.reduceEq, UInt8.reduceOfNat]
  generalize hd : (Slot.obj 1 (.agg [.int .i64 x1, .int .i64 x2, .int .i64 x3, .sarr 1000004 g l.length 6])) = d
  have hbk : ∀ s, back (HA a b c d g l) (upd (HA a b c d g l) 4 (.obj 1 s)) = HA a b c d g l := fun s => back_new (HA_low (by omega)) (by omega)
  refine while_rule (fun (k : Nat) (q : List LV × Slots) => ∃ i : Nat, i + k = l.length ∧ q = ([.str [], .int .i64 (i : Int)], HA a b c d g l)) l.length ⟨0, by omega, rfl⟩ ?_
  rintro k q ⟨i, hi, rfl⟩
  by_cases c1 : i < l.length
  · have c1' : (i : Int) < (l.length : Int) := by omega
    obtain ⟨p, hp⟩ := get_lt (l := l) c1
    by_cases c2 : p.a = 0
    · have c2' : (p.a : Int) = 0 := by omega
      simp only [go_sem, ↓reduceIte, reduceCtorEq, upd_ne, @back_new _ _ _ _ _ no_at, Nat.reduceAdd, Nat.reduceEqDiff, Nat.reduceMul, Nat.reduceSub, Nat.reduceLeDiff, Nat.reduceLT, Int.reduceToNat, Int.reduceLE, Int.reduceLT, Int.reduceEq, UInt8.reduceOfNat, c1', ia_el c1, ld_el hp, wr_add1 (show i + 1 ≤ 9223372036854775807 by omega)]
      simp only [go_sem, ↓reduceIte, reduceCtorEq, upd_ne, @back_new _ _ _ _ _ no_at, Nat.reduceAdd, Nat.reduceEqDiff, Nat.reduceMul, Nat.reduceSub, Nat.reduceLeDiff, Nat.reduceLT, Int.reduceToNat, Int.reduceLE, Int.reduceLT, Int.reduceEq, UInt8.reduceOfNat, pkLV, c2', Nxt, exIf, hp_lowU]
    · have c2' : ¬ (p.a : Int) = 0 := by omega
      simp only [go_sem, ↓reduceIte, reduceCtorEq, upd_ne, @back_new _ _ _ _ _ no_at, Nat.reduceAdd, Nat.reduceEqDiff, Nat.reduceMul, Nat.reduceSub, Nat.reduceLeDiff, Nat.reduceLT, Int.reduceToNat, Int.reduceLE, Int.reduceLT, Int.reduceEq, UInt8.reduceOfNat, c1', ia_el c1, ld_el hp, wr_add1 (show i + 1 ≤ 9223372036854775807 by omega)]
      simp only [go_sem, ↓reduceIte, reduceCtorEq, upd_ne, @back_new _ _ _ _ _ no_at, Nat.reduceAdd, Nat.reduceEqDiff, Nat.reduceMul, Nat.reduceSub, Nat.reduceLeDiff, Nat.reduceLT, Int.reduceToNat, Int.reduceLE, Int.reduceLT, Int.reduceEq, UInt8.reduceOfNat, pkLV, c2', hbk]
      exact ⟨k - 1, by omega, i + 1, by omega, rfl⟩
  · have c1' : ¬ (i : Int) < (l.length : Int) := by omega
    simp only [go_sem, ↓reduceIte, reduceCtorEq, upd_ne, @back_new _ _ _ _ _ no_at, Nat.reduceAdd, Nat.reduceEqDiff, Nat.reduceMul, Nat.reduceSub, Nat.reduceLeDiff, Nat.reduceLT, Int.reduceToNat, Int.reduceLE, Int.reduceLT, Int.reduceEq, UInt8.reduceOfNat, c1', Nxt, exIf]
end
end Go.Ev

namespace Go.Ev
set_option linter.unusedSimpArgs false
set_option linter.unusedVariables false
set_option maxRecDepth 4000
set_option maxHeartbeats 8000000
attribute [go_sem] hp_lowU mrg_lowU
theorem app_new {k : Nat} {p : Pc} {a b c d : Slot} : hApp 1000004 6 80 (HP a b c d (.none 0)) .nils (.lst none [pkLV p]) = some (.sarr 1000004 1 1 6, HA a b c d 1 [p]) := by
  simp only [hApp, List.all_cons, List.all_nil, pc_fl, mkObj, HP_4]
  simp [HP_u4, HA, K0]
theorem app_old {p : Pc} {a b c d : Slot} {g : Nat} {l : List Pc} (hN : l.length ≤ 100000) : hApp 1000004 6 80 (HA a b c d g l) (.sarr 1000004 g l.length 6) (.lst none [pkLV p]) = some (.sarr 1000004 (g + 1) (l.length + 1) 6, HA a b c d (g + 1) (l ++ [p])) := by
  simp only [hApp, List.all_cons, List.all_nil, pc_fl, HA_4]
  have h1 : ((l.map pkLV).all fun v => decide (flatLen v = 6)) = true := pcs_all l
  rw [if_pos ⟨by simp, by decide⟩]
  rw [if_pos ⟨trivial, by simp, trivial, by decide, h1, by simp; omega⟩]
  simp [HA, HP_u4]
section
variable {S : Sys} (hS : Has S) (n : Nat)
include hS
theorem ev_fits {a b c : Slot} {g : Nat} {l : List Pc} {x1 x2 en : Int} (p : Pc) (hN : l.length ≤ 100000) (hp : OkP p) (hok : ∀ q ∈ l, OkP q) (hap : ∀ q ∈ l, Apt p q) (hen : en < 0 ∨ (p.m = true ∧ ((pTo p : Nat) : Int) ≤ en)) :
    (S.ev (n + 5)).i id_frag_datagram_fits [.ptr 1000003 1 [] 0, pkLV p] (HA a b c (.obj 1 (.agg [.int .i64 x1, .int .i64 x2, .int .i64 en, .sarr 1000004 g l.length 6])) g l) = some (.bool true, HA a b c (.obj 1 (.agg [.int .i64 x1, .int .i64 x2, .int .i64 en, .sarr 1000004 g l.length 6])) g l) := by
  rw [Sys.stepH hS.h_frag_datagram_fits, F_frag_datagram_fits_eq]
  unfold F_frag_datagram_fits
  (try simp only [guard_merge, or_merge, and_merge, or_pick, and_pick, guard_or, guard_and]); simp only [to_ob]
  have hF : ∀ {R : Type} {K : LV → Option R} {sl : Slots} (q : Pc), q ∈ l → ob (pr.callv (S.ev (n + 2)) sl (.clo id_frag_datagram_fits_1 [.box (pkLV p)]) [pkLV q]) K = K (.bool false) := by
    intro R K sl q hq
    rw [e_clo, e_call]
    simp only [List.cons_append, List.nil_append, c_pl0, c_pl1, pc_ps, c_ps_box, ob_some, ev_fits1 hS n p q hp (hok q hq) (hap q hq)]
    rfl
  have h1 := ev_cont (F := .clo id_frag_datagram_fits_1 [.box (pkLV p)]) (a := a) (b := b) (c := c) (d := .obj 1 (.agg [.int .i64 x1, .int .i64 x2, .int .i64 en, .sarr 1000004 g l.length 6])) (g := g) hS (n + 2) hN (by simp [pslG, pslGL]) hF
  have t1 := ev_to hS (n + 3) p hp
  by_cases c1 : en < 0
  · have c1' : ¬ 0 ≤ en := by omega
    simp only [go_sem, ↓reduceIte, reduceCtorEq, upd_ne, @back_new _ _ _ _ _ no_at, Nat.reduceAdd, Nat.reduceEqDiff, Nat.reduceMul, Nat.reduceSub, Nat.reduceLeDiff, Nat.reduceLT, Int.reduceToNat, Int.reduceLE, Int.reduceLT, Int.reduceEq, UInt8.reduceOfNat, c1', h1, List.all_cons, List.all_nil]
  · have c1' : 0 ≤ en := by omega
    obtain ⟨q1, q2⟩ := hen.resolve_left c1
    have q2' : ¬ en < ((pTo p : Nat) : Int) := by omega
    simp only [pkLV] at t1 h1
    rw [q1] at t1 h1
    simp only [go_sem, ↓reduceIte, reduceCtorEq, upd_ne, @back_new _ _ _ _ _ no_at, Nat.reduceAdd, Nat.reduceEqDiff, Nat.reduceMul, Nat.reduceSub, Nat.reduceLeDiff, Nat.reduceLT, Int.reduceToNat, Int.reduceLE, Int.reduceLT, Int.reduceEq, UInt8.reduceOfNat, c1', h1, pkLV, q1, t1, q2', List.all_cons, List.all_nil]
theorem ev_takes0 (p : Pc) (hp : OkP p) : (S.ev (n + 2)).i id_frag_Store_takes [.ptr 1000000 1 [] 0, pkLV p, .int .i64 1] H0 = some (.tup [], St [p] (if p.m = true then -1 else ((pTo p : Nat) : Int))) := by
  rw [Sys.stepH hS.h_frag_Store_takes, F_frag_Store_takes_eq]
  unfold F_frag_Store_takes F_frag_Store_takes_k1 H0 St
  (try simp only [guard_merge, or_merge, and_merge, or_pick, and_pick, guard_or, guard_and]); simp only [to_ob]
  have t1 := ev_to hS n p hp
  have w1 : IntKind.i64.wrap (0 + 1) = 1 := rfl
  have ap := @app_new 0 p
  simp only [pkLV] at t1 ap
  have mp : mval (.ptr 1000003 1 [] 0) = true := rfl
  cases hm : p.m with
  | true =>
    rw [hm] at t1 ap
    simp only [go_sem, ↓reduceIte, reduceCtorEq, upd_ne, @back_new _ _ _ _ _ no_at, Nat.reduceAdd, Nat.reduceEqDiff, Nat.reduceMul, Nat.reduceSub, Nat.reduceLeDiff, Nat.reduceLT, Int.reduceToNat, Int.reduceLE, Int.reduceLT, Int.reduceEq, UInt8.reduceOfNat, pkLV, hm, w1, mp, mfind_nil, ap, HP_u0]
    rfl
  | false =>
    rw [hm] at t1 ap
    simp only [go_sem, ↓reduceIte, reduceCtorEq, upd_ne, @back_new _ _ _ _ _ no_at, Nat.reduceAdd, Nat.reduceEqDiff, Nat.reduceMul, Nat.reduceSub, Nat.reduceLeDiff, Nat.reduceLT, Int.reduceToNat, Int.reduceLE, Int.reduceLT, Int.reduceEq, UInt8.reduceOfNat, pkLV, hm, w1, mp, mfind_nil, ap, HP_u0, t1]
    rfl
theorem ev_takes (p : Pc) (hp : OkP p) {l : List Pc} (hN : l.length ≤ 100000) (en : Int) : (S.ev (n + 2)).i id_frag_Store_takes [.ptr 1000000 1 [] 0, pkLV p, .int .i64 1] (St l en) = some (.tup [], St (l ++ [p]) (if p.m = true then en else ((pTo p : Nat) : Int))) := by
  rw [Sys.stepH hS.h_frag_Store_takes, F_frag_Store_takes_eq]
  unfold F_frag_Store_takes F_frag_Store_takes_k1 St
  (try simp only [guard_merge, or_merge, and_merge, or_pick, and_pick, guard_or, guard_and]); simp only [to_ob]
  have t1 := ev_to hS n p hp
  have ap := fun {a b c d : Slot} {g : Nat} => @app_old p a b c d g l hN
  have w1 := wr_add1 (show l.length + 1 ≤ 9223372036854775807 by omega)
  simp only [pkLV] at t1 ap
  rw [List.length_append, List.length_singleton]
  cases hm : p.m with
  | true =>
    rw [hm] at t1 ap
    simp only [go_sem, ↓reduceIte, reduceCtorEq, upd_ne, @back_new _ _ _ _ _ no_at, Nat.reduceAdd, Nat.reduceEqDiff, Nat.reduceMul, Nat.reduceSub, Nat.reduceLeDiff, Nat.reduceLT, Int.reduceToNat, Int.reduceLE, Int.reduceLT, Int.reduceEq, UInt8.reduceOfNat, pkLV, hm, w1, ap]
  | false =>
    rw [hm] at t1 ap
    simp only [go_sem, ↓reduceIte, reduceCtorEq, upd_ne, @back_new _ _ _ _ _ no_at, Nat.reduceAdd, Nat.reduceEqDiff, Nat.reduceMul, Nat.reduceSub, Nat.reduceLeDiff, Nat.reduceLT, Int.reduceToNat, Int.reduceLE, Int.reduceLT, Int.reduceEq, UInt8.reduceOfNat, pkLV, hm, w1, ap, t1]
omit hS in
theorem updH {sl : Slots} {t u : Nat} {x s : Slot} (h : t < 1000000) (hu : 1000000 ≤ u) : upd (upd sl t x) u s = upd (upd sl u s) t x := by
  funext k
  unfold upd
  by_cases h1 : k = u
  · subst h1; rw [if_pos rfl, if_neg (by omega), if_pos rfl]
  · rw [if_neg h1]; simp only [if_neg h1]
omit hS in
theorem bkL {a b c d a' b' c' d' : Slot} {g g' t h : Nat} {l l' : List Pc} {x : LV} (ht : t < 1000000) : back (HA a b c d g l) (upd (HA a' b' c' d' g' l') t (.obj h x)) = HA a' b' c' d' g' l' := by
  rw [back_obj (HA_low ht) ht, HA_bk, HA_low ht, upd_self (HA_low ht)]
theorem ev_cut {l : List Pc} (hl : l ≠ []) (hN : l.length ≤ 100000) (en : Int) : ∃ sl', hp sl' = sl' ∧ (S.ev (n + 1)).i id_frag_Store_cut [.ptr 1000000 1 [] 0, .str [107]] (St l en) = some (.tup [], sl') := by
  rw [Sys.stepH hS.h_frag_Store_cut, F_frag_Store_cut_eq]
  unfold F_frag_Store_cut St
  (try simp only [guard_merge, or_merge, and_merge, or_pick, and_pick, guard_or, guard_and]); simp only [to_ob]
  have hL : 0 < l.length := by cases l with | nil => exact absurd rfl hl | cons _ _ => simp
  simp only [go_sem, ↓reduceIte, reduceCtorEq, upd_ne, @back_new _ _ _ _ _ no_at, Nat.reduceAdd, Nat.reduceEqDiff, Nat.reduceMul, Nat.reduceSub, Nat.reduceLeDiff, Nat.reduceLT, Int.reduceToNat, Int.reduceLE, Int.reduceLT, Int.reduceEq, UInt8.reduceOfNat]
  refine while_ruleP (fun (r : Option (LV × Slots)) => ∃ sl', hp sl' = sl' ∧ r = some (.tup [], sl'))
    (fun (k : Nat) (q : List LV × Slots) => ∃ (i m : Nat) (es : List (LV × LV)), i + k = l.length ∧ i + m = l.length ∧ (0 < m → es = [(.str [115], .int .i64 (m : Int))]) ∧ q = ([.int .i64 (i : Int)], HA (.obj 1 (.agg [.int .i64 5000, .int .i64 5000, .int .i64 1, .int .i64 (m : Int), .mref 1000001 1, .mref 1000002 1])) (.mp 1 [(.str [107], .ptr 1000003 1 [] 0)]) (.mp 1 es)
    (.obj 1 (.agg [.int .i64 1, .int .i64 1, .int .i64 en, .sarr 1000004 l.length l.length 6])) l.length l))
    l.length ⟨0, l.length, _, by omega, by omega, fun _ => rfl, rfl⟩ ?_
  rintro k q ⟨i, m, es, hi, him, hes, rfl⟩
  by_cases c1 : i < l.length
  · have c1' : (i : Int) < (l.length : Int) := by omega
    have hes := hes (by omega)
    subst hes
    obtain ⟨p, hp⟩ := get_lt (l := l) c1
    have e1 := wr_sub1 (i := m) (by omega) (by omega)
    have e2 := wr_add1 (i := i) (by omega)
    by_cases c2 : m = 1
    · subst c2
      simp only [go_sem, ↓reduceIte, reduceCtorEq, upd_ne, @back_new _ _ _ _ _ no_at, Nat.reduceAdd, Nat.reduceEqDiff, Nat.reduceMul, Nat.reduceSub, Nat.reduceLeDiff, Nat.reduceLT, Int.reduceToNat, Int.reduceLE, Int.reduceLT, Int.reduceEq, UInt8.reduceOfNat, c1', ia_el c1, ld_el hp]
      simp only [go_sem, ↓reduceIte, reduceCtorEq, upd_ne, @back_new _ _ _ _ _ no_at, Nat.reduceAdd, Nat.reduceEqDiff, Nat.reduceMul, Nat.reduceSub, Nat.reduceLeDiff, Nat.reduceLT, Int.reduceToNat, Int.reduceLE, Int.reduceLT, Int.reduceEq, UInt8.reduceOfNat, pkLV, updH, bkL, e1, e2, Nat.sub_self]
      exact ⟨k - 1, by omega, i + 1, 0, _, by omega, by omega, fun h => by omega, rfl⟩
    · have c2' : ¬ ((m - 1 : Nat) : Int) = 0 := by omega
      simp only [go_sem, ↓reduceIte, reduceCtorEq, upd_ne, @back_new _ _ _ _ _ no_at, Nat.reduceAdd, Nat.reduceEqDiff, Nat.reduceMul, Nat.reduceSub, Nat.reduceLeDiff, Nat.reduceLT, Int.reduceToNat, Int.reduceLE, Int.reduceLT, Int.reduceEq, UInt8.reduceOfNat, c1', ia_el c1, ld_el hp]
      simp only [go_sem, ↓reduceIte, reduceCtorEq, upd_ne, @back_new _ _ _ _ _ no_at, Nat.reduceAdd, Nat.reduceEqDiff, Nat.reduceMul, Nat.reduceSub, Nat.reduceLeDiff, Nat.reduceLT, Int.reduceToNat, Int.reduceLE, Int.reduceLT, Int.reduceEq, UInt8.reduceOfNat, pkLV, updH, bkL, e1, e2, c2']
      exact ⟨k - 1, by omega, i + 1, m - 1, _, by omega, by omega, fun _ => rfl, rfl⟩
  · have c1' : ¬ (i : Int) < (l.length : Int) := by omega
    simp only [go_sem, ↓reduceIte, reduceCtorEq, upd_ne, @back_new _ _ _ _ _ no_at, Nat.reduceAdd, Nat.reduceEqDiff, Nat.reduceMul, Nat.reduceSub, Nat.reduceLeDiff, Nat.reduceLT, Int.reduceToNat, Int.reduceLE, Int.reduceLT, Int.reduceEq, UInt8.reduceOfNat, c1', NxtP, exIf]
    exact ⟨_, HA_hp, rfl⟩
end
end Go.Ev

namespace Go.Ev
set_option linter.unusedSimpArgs false
set_option linter.unusedVariables false
set_option maxRecDepth 4000
set_option maxHeartbeats 8000000
def wk : List UInt8 → List Pc → Option (List UInt8)
  | acc, [] => some acc
  | acc, p :: r => if p.a = acc.length then wk (acc ++ p.d) r else none
def wB (l : List Pc) (en : Int) : Bool := match wk [] l with
  | some w => decide ((w.length : Int) = en)
  | none => false
def wZ : LV := .agg [.str [], .str [], .str [], .int .i64 0]
def wR (l : List Pc) (en : Int) : LV := match wk [] l with
  | some w => if (w.length : Int) = en then .agg [.str [107], .str [], .str w, .int .i64 (l.length : Int)] else wZ
  | none => wZ
theorem wk_app : ∀ (l : List Pc) (r : List Pc) (acc : List UInt8), wk acc (l ++ r) = (wk acc l).bind fun a => wk a r
  | [], r, acc => rfl
  | p :: l, r, acc => by
    simp only [List.cons_append, wk]
    split
    · exact wk_app l r _
    · rfl
theorem bkW2 {a b c d : Slot} {g : Nat} {l : List Pc} {z w p : LV} : back (upd (HA a b c d g l) 4 (.obj 1 z)) (upd (upd (upd (HA a b c d g l) 4 (.obj 1 z)) 6 (.obj 1 w)) 8 (.obj 1 p)) = upd (HA a b c d g l) 4 (.obj 1 z) := by
  have h8 : (upd (HA a b c d g l) 4 (.obj 1 z)) 8 = .none 0 := by rw [upd_ne (by omega), HA_low (by omega)]
  have h6 : (upd (HA a b c d g l) 4 (.obj 1 z)) 6 = .none 0 := by rw [upd_ne (by omega), HA_low (by omega)]
  rw [back_obj h8 (by omega), back_obj h6 (by omega), back_self, upd_self (by rfl), upd_self (by rfl)]
theorem ld_elU {R : Type} {K : LV → Option R} {sl : Slots} {t g i : Nat} {x : Slot} (ht : t < 1000000) : ob (pr.load 6 true (upd sl t x) (elP g i)) K = ob (pr.load 6 true sl (elP g i)) K := by
  unfold elP
  rw [e_ldP, e_ldP, upd_ne (by omega)]
theorem wk_take {l : List Pc} {i : Nat} {p : Pc} {acc : List UInt8} (h : wk [] (l.take i) = some acc) (hp : l[i]? = some p) : wk [] (l.take (i + 1)) = if p.a = acc.length then some (acc ++ p.d) else none := by
  rw [List.take_add_one, hp, wk_app, h]; rfl
theorem wk_stop {l : List Pc} {i : Nat} (h : wk [] (l.take i) = none) : wk [] l = none := by
  conv => lhs; rw [← List.take_append_drop i l, wk_app, h]
  rfl
section
variable {S : Sys} (hS : Has S) (n : Nat)
include hS
theorem ev_whole0 {l : List Pc} {en : Int} (he : en < 0) : (S.ev (n + 1)).i id_frag_datagram_whole [.ptr 1000003 1 [] 0, .str [107]] (St l en) = some (.tup [wZ, .bool false], St l en) := by
  rw [Sys.stepH hS.h_frag_datagram_whole, F_frag_datagram_whole_eq]
  unfold F_frag_datagram_whole St
  (try simp only [guard_merge, or_merge, and_merge, or_pick, and_pick, guard_or, guard_and]); simp only [to_ob]
  simp only [go_sem, ↓reduceIte, reduceCtorEq, upd_ne, @back_new _ _ _ _ _ no_at, Nat.reduceAdd, Nat.reduceEqDiff, Nat.reduceMul, Nat.reduceSub, Nat.reduceLeDiff, Nat.reduceLT, Int.reduceToNat, Int.reduceLE, Int.reduceLT, Int.reduceEq, UInt8.reduceOfNat, he, wZ]
theorem ev_whole {l : List Pc} {en : Int} (he : 0 ≤ en) (hN : l.length ≤ 100000) (hok : ∀ p ∈ l, OkP p) :
    ∃ l', l'.Perm l ∧ So kz 0 l.length l' ∧ (S.ev (n + 7 + l.length)).i id_frag_datagram_whole [.ptr 1000003 1 [] 0, .str [107]] (St l en) = some (.tup [wR l' en, .bool (wB l' en)], St l' en) := by
  rw [show n + 7 + l.length = (n + 6 + l.length) + 1 by omega, Sys.stepH hS.h_frag_datagram_whole, F_frag_datagram_whole_eq]
  unfold F_frag_datagram_whole St
  (try simp only [guard_merge, or_merge, and_merge, or_pick, and_pick, guard_or, guard_and]); simp only [to_ob]
  have he' : ¬ en < 0 := by omega
  have h1 := ev_head (a := .obj 1 (.agg [.int .i64 5000, .int .i64 5000, .int .i64 1, .int .i64 (l.length : Int), .mref 1000001 1, .mref 1000002 1])) (b := .mp 1 [(.str [107], .ptr 1000003 1 [] 0)]) (c := .mp 1 [(.str [115], .int .i64 (l.length : Int))]) (g := l.length) (l := l) (x1 := 1) (x2 := 1) (x3 := en) hS (n + 5 + l.length) hN
  rw [show n + 5 + l.length + 1 = n + 6 + l.length by omega] at h1
  obtain ⟨l', h2, h3, h4⟩ := ev_sort (a := .obj 1 (.agg [.int .i64 5000, .int .i64 5000, .int .i64 1, .int .i64 (l.length : Int), .mref 1000001 1, .mref 1000002 1])) (b := .mp 1 [(.str [107], .ptr 1000003 1 [] 0)]) (c := .mp 1 [(.str [115], .int .i64 (l.length : Int))]) (d := .obj 1 (.agg [.int .i64 1, .int .i64 1, .int .i64 en, .sarr 1000004 l.length l.length 6])) (g := l.length) (l := l) hS n hN hok
  refine ⟨l', h3, h4, ?_⟩
  have hl := h3.length_eq
  rw [hl]
  have hcl : LV.clo id_frag_datagram_whole_1 [] = cmpF := rfl
  rw [hcl]
  simp only [go_sem, ↓reduceIte, reduceCtorEq, upd_ne, @back_new _ _ _ _ _ no_at, Nat.reduceAdd, Nat.reduceEqDiff, Nat.reduceMul, Nat.reduceSub, Nat.reduceLeDiff, Nat.reduceLT, Int.reduceToNat, Int.reduceLE, Int.reduceLT, Int.reduceEq, UInt8.reduceOfNat, he', h1, cmpF_g, h2]
  generalize hA : (Slot.obj 1 (.agg [.int .i64 5000, .int .i64 5000, .int .i64 1, .int .i64 (l.length : Int), .mref 1000001 1, .mref 1000002 1])) = A
  generalize hB : (Slot.mp 1 [(.str [107], .ptr 1000003 1 [] 0)]) = B
  generalize hC : (Slot.mp 1 [(.str [115], .int .i64 (l.length : Int))]) = C
  refine while_rule (fun (k : Nat) (q : List LV × Slots) => ∃ (i : Nat) (acc : List UInt8), i + k = l.length ∧ wk [] (l'.take i) = some acc ∧ acc.length ≤ 131070 ∧
      q = ([.bool false, .int .i64 (i : Int)], upd (upd (HA A B C (.obj 1 (.agg [.int .i64 1, .int .i64 1, .int .i64 en, .sarr 1000004 l.length l.length 6])) l.length l') 4 (.obj 1 (.agg [.str [], .str [], .str [], .int .i64 0]))) 6 (.obj 1 (.agg [.str [107], .str [], .str acc, .int .i64 (l.length : Int)]))))
    l.length ⟨0, [], by omega, rfl, by simp, rfl⟩ ?_
  rintro k q ⟨i, acc, hi, hw, hacc, rfl⟩
  by_cases c1 : i < l.length
  · have c1' : (i : Int) < (l.length : Int) := by omega
    obtain ⟨p, hp⟩ := get_lt (l := l') (show i < l'.length by omega)
    have op := ok_at (l := l') (fun q hq => hok q (h3.mem_iff.1 hq)) hp
    have hwt := wk_take hw hp
    by_cases c2 : p.a = acc.length
    · have c2' : (p.a : Int) = (acc.length : Int) := by omega
      rw [if_pos c2] at hwt
      simp only [go_sem, ↓reduceIte, reduceCtorEq, upd_ne, @back_new _ _ _ _ _ no_at, Nat.reduceAdd, Nat.reduceEqDiff, Nat.reduceMul, Nat.reduceSub, Nat.reduceLeDiff, Nat.reduceLT, Int.reduceToNat, Int.reduceLE, Int.reduceLT, Int.reduceEq, UInt8.reduceOfNat, c1', ia_el c1, ld_elU, ld_el hp]
      have hmax : (65535 : Nat) ≤ maxStr := by decide
      have hcat : acc.length + p.d.length ≤ maxStr := by
        have := op.1; have := op.2
        have : (131070 : Nat) ≤ maxStr := by decide
        omega
      simp only [go_sem, ↓reduceIte, reduceCtorEq, upd_ne, @back_new _ _ _ _ _ no_at, Nat.reduceAdd, Nat.reduceEqDiff, Nat.reduceMul, Nat.reduceSub, Nat.reduceLeDiff, Nat.reduceLT, Int.reduceToNat, Int.reduceLE, Int.reduceLT, Int.reduceEq, UInt8.reduceOfNat, pkLV, c2', hcat, bkW2, wr_add1 (show i + 1 ≤ 9223372036854775807 by omega)]
      exact ⟨k - 1, by omega, i + 1, acc ++ p.d, by omega, hwt, by rw [List.length_append]; have := op.1; have := op.2; omega, rfl⟩
    · have c2' : ¬ (p.a : Int) = (acc.length : Int) := by omega
      rw [if_neg c2] at hwt
      have hst := wk_stop hwt
      simp only [go_sem, ↓reduceIte, reduceCtorEq, upd_ne, @back_new _ _ _ _ _ no_at, Nat.reduceAdd, Nat.reduceEqDiff, Nat.reduceMul, Nat.reduceSub, Nat.reduceLeDiff, Nat.reduceLT, Int.reduceToNat, Int.reduceLE, Int.reduceLT, Int.reduceEq, UInt8.reduceOfNat, c1', ia_el c1, ld_elU, ld_el hp]
      simp only [go_sem, ↓reduceIte, reduceCtorEq, upd_ne, @back_new _ _ _ _ _ no_at, Nat.reduceAdd, Nat.reduceEqDiff, Nat.reduceMul, Nat.reduceSub, Nat.reduceLeDiff, Nat.reduceLT, Int.reduceToNat, Int.reduceLE, Int.reduceLT, Int.reduceEq, UInt8.reduceOfNat, pkLV, c2', Nxt, exIf, wB, wR, hst, wZ]
  · have c1' : ¬ (i : Int) < (l.length : Int) := by omega
    have hli : l'.take i = l' := List.take_of_length_le (by omega)
    rw [hli] at hw
    by_cases c3 : (acc.length : Int) = en
    · simp only [go_sem, ↓reduceIte, reduceCtorEq, upd_ne, @back_new _ _ _ _ _ no_at, Nat.reduceAdd, Nat.reduceEqDiff, Nat.reduceMul, Nat.reduceSub, Nat.reduceLeDiff, Nat.reduceLT, Int.reduceToNat, Int.reduceLE, Int.reduceLT, Int.reduceEq, UInt8.reduceOfNat, c1', Nxt, exIf, wB, wR, hw, c3, hl]
    · simp only [go_sem, ↓reduceIte, reduceCtorEq, upd_ne, @back_new _ _ _ _ _ no_at, Nat.reduceAdd, Nat.reduceEqDiff, Nat.reduceMul, Nat.reduceSub, Nat.reduceLeDiff, Nat.reduceLT, Int.reduceToNat, Int.reduceLE, Int.reduceLT, Int.reduceEq, UInt8.reduceOfNat, c1', Nxt, exIf, wB, wR, hw, c3, hl, wZ]
end
end Go.Ev

namespace Go.Ev
set_option linter.unusedSimpArgs false
set_option linter.unusedVariables false
set_option maxRecDepth 4000
set_option maxHeartbeats 16000000
structure WOk (W : LV) : Prop where
  fl : flatLen W = 4
  ag : W.isAgg = true
  ps : psl W = some W
  pg : pslG W = some W
theorem WOk.z : WOk wZ := ⟨by simp [wZ, flatLen, sumLen], rfl, by simp [wZ, psl, pslL], by simp [wZ, pslG, pslGL]⟩
theorem WOk.r {l : List Pc} {en : Int} : WOk (wR l en) := by
  unfold wR
  split
  · split
    · exact ⟨by simp [flatLen, sumLen], rfl, by simp [psl, pslL], by simp [pslG, pslGL]⟩
    · exact WOk.z
  · exact WOk.z
structure PutR (l2 : List Pc) (en2 : Int) (r : Option (LV × Slots)) (l' : List Pc) (sl' : Slots) : Prop where
  perm : l'.Perm l2
  so : 0 ≤ en2 → So kz 0 l2.length l'
  hps : hp sl' = sl'
  ev : ∃ W, WOk W ∧ r = some (.tup [W, .bool (decide (0 ≤ en2) && wB l' en2), .int .i64 0], sl') ∧ ((decide (0 ≤ en2) && wB l' en2) = true → W = wR l' en2)
  st : (decide (0 ≤ en2) && wB l' en2) = false → sl' = St l' en2
section
variable {S : Sys} (hS : Has S) (n : Nat)
include hS
theorem ev_Put0 (p : Pc) (hr : RightP p) (h1 : p.a = 0) (h2 : p.m = false) : (S.ev (n + 3)).i id_frag_Store_Put [.ptr 1000000 1 [] 0, pkLV p, .int .i64 1] H0 = some (.tup [.agg [.str [107], .str [], .str p.d, .int .i64 1], .bool true, .int .i64 0], H0) := by
  rw [Sys.stepH hS.h_frag_Store_Put, F_frag_Store_Put_eq]
  unfold F_frag_Store_Put
  (try simp only [guard_merge, or_merge, and_merge, or_pick, and_pick, guard_or, guard_and]); simp only [to_ob]
  have t1 : (S.ev (n + 2)).i id_frag_Store_none [.ptr 1000000 1 [] 0] H0 = some (.bool false, H0) := ev_none hS (n + 1)
  have t2 := ev_Right hS (n + 1) p hr
  unfold H0 at t1 ⊢
  simp only [pkLV, h2] at t2
  have h1' : (p.a : Int) = 0 := by omega
  rw [h1'] at t2
  simp only [go_sem, ↓reduceIte, reduceCtorEq, upd_ne, @back_new _ _ _ _ _ no_at, Nat.reduceAdd, Nat.reduceEqDiff, Nat.reduceMul, Nat.reduceSub, Nat.reduceLeDiff, Nat.reduceLT, Int.reduceToNat, Int.reduceLE, Int.reduceLT, Int.reduceEq, UInt8.reduceOfNat, HP_mrg, pkLV, t1, t2, h1', h2, mfind_nil]
theorem ev_Put1 (p : Pc) (hr : RightP p) (h : ¬ (p.a = 0 ∧ p.m = false)) : ∃ l' sl', PutR [p] (if p.m = true then -1 else ((pTo p : Nat) : Int)) ((S.ev (n + 10)).i id_frag_Store_Put [.ptr 1000000 1 [] 0, pkLV p, .int .i64 1] H0) l' sl' := by
  rw [Sys.stepH hS.h_frag_Store_Put, F_frag_Store_Put_eq]
  unfold F_frag_Store_Put
  (try simp only [guard_merge, or_merge, and_merge, or_pick, and_pick, guard_or, guard_and]); simp only [to_ob]
  have t1 : (S.ev (n + 9)).i id_frag_Store_none [.ptr 1000000 1 [] 0] H0 = some (.bool false, H0) := ev_none hS (n + 8)
  have t2 := ev_Right hS (n + 8) p hr
  have t3 := ev_takes0 hS (n + 7) p hr.ok
  have hmx : ∀ {x1 x2 x3 x4 x5 : Slot} {a b c d : Slot} {g : Nat} {l : List Pc}, mrg (HP x1 x2 x3 x4 x5) (HA a b c d g l) = HA a b c d g l := mrg_heap HP_hp HA_hp
  have c1 : ¬ ((p.a : Int) = 0 ∧ (!p.m) = true) := by
    rintro ⟨q1, q2⟩
    exact h ⟨by omega, by simpa using q2⟩
  have hl2 : ([p]).length = 1 := by simp
  have hok2 : ∀ q ∈ [p], OkP q := by
    intro q hq
    simp at hq; subst hq; exact hr.ok
  generalize he2 : (if p.m = true then -1 else ((pTo p : Nat) : Int)) = en2 at t3
  by_cases c2 : en2 < 0
  · have t6 := ev_whole0 (l := [p]) hS (n + 8) c2
    rw [show n + 8 + 1 = n + 9 by omega] at t6
    refine ⟨[p], St ([p]) en2, .refl _, fun h => by omega, St_hp, ?_, fun _ => rfl⟩
    have hd : decide (0 ≤ en2) = false := by simp; omega
    rw [hd]
    have w := WOk.z
    unfold H0 at t1 t3
    unfold H0
    unfold St at t3 t6 ⊢
    simp only [List.length_singleton] at t3 t6
    simp only [pkLV] at t2 t3
    refine ⟨wZ, w, ?_, by simp⟩
    simp only [go_sem, ↓reduceIte, reduceCtorEq, upd_ne, @back_new _ _ _ _ _ no_at, Nat.reduceAdd, Nat.reduceEqDiff, Nat.reduceMul, Nat.reduceSub, Nat.reduceLeDiff, Nat.reduceLT, Int.reduceToNat, Int.reduceLE, Int.reduceLT, Int.reduceEq, UInt8.reduceOfNat, pkLV, t1, t2, t3, mfind_nil, HP_mrg, c1, hmx, t6, w.fl, w.ag, w.ps, w.pg]
  · obtain ⟨l', g1, g2, t6⟩ := ev_whole (l := [p]) (en := en2) hS (n + 1) (by omega) (by omega) hok2
    rw [hl2, show n + 1 + 7 + (1) = n + 9 by omega] at t6
    have hd : decide (0 ≤ en2) = true := by simp; omega
    have w := @WOk.r l' en2
    generalize hW : wR l' en2 = W at t6 w
    cases hb : wB l' en2 with
    | false =>
      rw [hb] at t6
      refine ⟨l', St l' en2, g1, fun _ => g2, St_hp, ?_, fun _ => rfl⟩
      rw [hd, hb]
      unfold H0 at t1 t3
      unfold H0
      unfold St at t3 t6 ⊢
      simp only [List.length_singleton] at t3 t6
      simp only [pkLV] at t2 t3
      refine ⟨W, w, ?_, by simp⟩
      simp only [go_sem, ↓reduceIte, reduceCtorEq, upd_ne, @back_new _ _ _ _ _ no_at, Nat.reduceAdd, Nat.reduceEqDiff, Nat.reduceMul, Nat.reduceSub, Nat.reduceLeDiff, Nat.reduceLT, Int.reduceToNat, Int.reduceLE, Int.reduceLT, Int.reduceEq, UInt8.reduceOfNat, pkLV, t1, t2, t3, mfind_nil, HP_mrg, c1, hmx, t6, w.fl, w.ag, w.ps, w.pg]
    | true =>
      rw [hb] at t6
      obtain ⟨slc, v1, v2⟩ := ev_cut hS (n + 8) (l := l') (by intro e; have := g1.length_eq; rw [e, hl2] at this; simp at this) (by have := g1.length_eq; rw [this]; omega) en2
      rw [show n + 8 + 1 = n + 9 by omega] at v2
      refine ⟨l', slc, g1, fun _ => g2, v1, ?_, fun h => by rw [hd, hb] at h; simp at h⟩
      rw [hd, hb]
      have hm : ∀ {a b c d : Slot} {g : Nat} {l : List Pc}, mrg (HA a b c d g l) slc = slc := mrg_heap HA_hp v1
      unfold H0 at t1 t3
      unfold H0
      unfold St at t3 t6 v2
      simp only [List.length_singleton] at t3 t6
      simp only [pkLV] at t2 t3
      refine ⟨W, w, ?_, fun _ => hW.symm⟩
      simp only [go_sem, ↓reduceIte, reduceCtorEq, upd_ne, @back_new _ _ _ _ _ no_at, Nat.reduceAdd, Nat.reduceEqDiff, Nat.reduceMul, Nat.reduceSub, Nat.reduceLeDiff, Nat.reduceLT, Int.reduceToNat, Int.reduceLE, Int.reduceLT, Int.reduceEq, UInt8.reduceOfNat, pkLV, t1, t2, t3, mfind_nil, HP_mrg, c1, hmx, t6, v2, hm, v1, w.fl, w.ag, w.ps, w.pg]
theorem ev_Put (p : Pc) (hr : RightP p) {l : List Pc} (hl : l ≠ []) (hN : l.length < 5000) (en : Int) (hok : ∀ q ∈ l, OkP q) (hap : ∀ q ∈ l, Apt p q) (hne : ∀ q ∈ l, p.a ≠ q.a) (hen : en < 0 ∨ (p.m = true ∧ ((pTo p : Nat) : Int) ≤ en)) :
    ∃ l' sl', PutR (l ++ [p]) (if p.m = true then en else ((pTo p : Nat) : Int)) ((S.ev (n + 10 + l.length)).i id_frag_Store_Put [.ptr 1000000 1 [] 0, pkLV p, .int .i64 1] (St l en)) l' sl' := by
  rw [show n + 10 + l.length = (n + 9 + l.length) + 1 by omega, Sys.stepH hS.h_frag_Store_Put, F_frag_Store_Put_eq]
  unfold F_frag_Store_Put
  (try simp only [guard_merge, or_merge, and_merge, or_pick, and_pick, guard_or, guard_and]); simp only [to_ob]
  have t1 : (S.ev (n + 9 + l.length)).i id_frag_Store_none [.ptr 1000000 1 [] 0] (St l en) = some (.bool false, St l en) := by
    have := ev_none (b := .mp 1 [(.str [107], .ptr 1000003 1 [] 0)]) (c := .mp 1 [(.str [115], .int .i64 (l.length : Int))]) (d := .obj 1 (.agg [.int .i64 1, .int .i64 1, .int .i64 en, .sarr 1000004 l.length l.length 6])) (e := .obj l.length (.agg (l.map pkLV))) (x1 := 5000) (x2 := 5000) (x3 := 1) (x4 := l.length) (x6 := .mref 1000002 1) hS (n + 8 + l.length)
    rw [show n + 8 + l.length + 1 = n + 9 + l.length by omega] at this
    exact this
  have t2 := ev_Right hS (n + 8 + l.length) p hr
  rw [show n + 8 + l.length + 1 = n + 9 + l.length by omega] at t2
  have t3 := ev_takes hS (n + 7 + l.length) p hr.ok (l := l) (by omega) en
  rw [show n + 7 + l.length + 2 = n + 9 + l.length by omega] at t3
  have t4 : (S.ev (n + 9 + l.length)).i id_slices_ContainsFunc_frag_Piece_frag_Piece [.sarr 1000004 l.length l.length 6, .mth id_frag_Piece_same (pkLV p)] (St l en) = some (.bool false, St l en) := by
    have := ev_cont (F := .mth id_frag_Piece_same (pkLV p)) (a := .obj 1 (.agg [.int .i64 5000, .int .i64 5000, .int .i64 1, .int .i64 (l.length : Int), .mref 1000001 1, .mref 1000002 1])) (b := .mp 1 [(.str [107], .ptr 1000003 1 [] 0)]) (c := .mp 1 [(.str [115], .int .i64 (l.length : Int))]) (d := .obj 1 (.agg [.int .i64 1, .int .i64 1, .int .i64 en, .sarr 1000004 l.length l.length 6])) (g := l.length) (l := l) hS (n + 7 + l.length) (by omega) (by simp [pslG]) (by
        intro R K sl q hq
        rw [e_mth, e_call, show n + 7 + l.length = (n + 6 + l.length) + 1 by omega]
        simp only [c_pl0, c_pl1, pc_ps, ob_some, ev_same hS (n + 6 + l.length) p q (hne q hq)]
        rfl)
    rw [show n + 7 + l.length + 2 = n + 9 + l.length by omega] at this
    exact this
  have t5 : (S.ev (n + 9 + l.length)).i id_frag_datagram_fits [.ptr 1000003 1 [] 0, pkLV p] (St l en) = some (.bool true, St l en) := by
    have := ev_fits (a := .obj 1 (.agg [.int .i64 5000, .int .i64 5000, .int .i64 1, .int .i64 (l.length : Int), .mref 1000001 1, .mref 1000002 1])) (b := .mp 1 [(.str [107], .ptr 1000003 1 [] 0)]) (c := .mp 1 [(.str [115], .int .i64 (l.length : Int))]) (g := l.length) (l := l) (x1 := 1) (x2 := 1) (en := en) hS (n + 4 + l.length) p (by omega) hr.ok hok hap hen
    rw [show n + 4 + l.length + 5 = n + 9 + l.length by omega] at this
    exact this
  have c1 : ¬ (5000 : Int) ≤ (l.length : Int) := by omega
  have hl2 : (l ++ [p]).length = l.length + 1 := by simp
  have hok2 : ∀ q ∈ l ++ [p], OkP q := by
    intro q hq
    rcases List.mem_append.1 hq with hq | hq
    · exact hok q hq
    · simp at hq; subst hq; exact hr.ok
  generalize he2 : (if p.m = true then en else ((pTo p : Nat) : Int)) = en2 at t3
  by_cases c2 : en2 < 0
  · have t6 := ev_whole0 (l := l ++ [p]) hS (n + 8 + l.length) c2
    rw [show n + 8 + l.length + 1 = n + 9 + l.length by omega] at t6
    refine ⟨l ++ [p], St (l ++ [p]) en2, .refl _, fun h => by omega, St_hp, ?_, fun _ => rfl⟩
    have hd : decide (0 ≤ en2) = false := by simp; omega
    rw [hd]
    have w := WOk.z
    unfold St at t1 t3 t4 t5 t6 ⊢
    simp only [pkLV] at t2 t3 t4 t5
    refine ⟨wZ, w, ?_, by simp⟩
    simp only [go_sem, ↓reduceIte, reduceCtorEq, upd_ne, @back_new _ _ _ _ _ no_at, Nat.reduceAdd, Nat.reduceEqDiff, Nat.reduceMul, Nat.reduceSub, Nat.reduceLeDiff, Nat.reduceLT, Int.reduceToNat, Int.reduceLE, Int.reduceLT, Int.reduceEq, UInt8.reduceOfNat, pkLV, t1, t2, t3, t4, t5, c1, t6, w.fl, w.ag, w.ps, w.pg]
  · obtain ⟨l', g1, g2, t6⟩ := ev_whole (l := l ++ [p]) (en := en2) hS (n + 1) (by omega) (by omega) hok2
    rw [hl2, show n + 1 + 7 + (l.length + 1) = n + 9 + l.length by omega] at t6
    have hd : decide (0 ≤ en2) = true := by simp; omega
    have w := @WOk.r l' en2
    generalize hW : wR l' en2 = W at t6 w
    cases hb : wB l' en2 with
    | false =>
      rw [hb] at t6
      refine ⟨l', St l' en2, g1, fun _ => g2, St_hp, ?_, fun _ => rfl⟩
      rw [hd, hb]
      unfold St at t1 t3 t4 t5 t6 ⊢
      simp only [pkLV] at t2 t3 t4 t5
      refine ⟨W, w, ?_, by simp⟩
      simp only [go_sem, ↓reduceIte, reduceCtorEq, upd_ne, @back_new _ _ _ _ _ no_at, Nat.reduceAdd, Nat.reduceEqDiff, Nat.reduceMul, Nat.reduceSub, Nat.reduceLeDiff, Nat.reduceLT, Int.reduceToNat, Int.reduceLE, Int.reduceLT, Int.reduceEq, UInt8.reduceOfNat, pkLV, t1, t2, t3, t4, t5, c1, t6, w.fl, w.ag, w.ps, w.pg]
    | true =>
      rw [hb] at t6
      obtain ⟨slc, v1, v2⟩ := ev_cut hS (n + 8 + l.length) (l := l') (by intro e; have := g1.length_eq; rw [e, hl2] at this; simp at this) (by have := g1.length_eq; rw [this]; omega) en2
      rw [show n + 8 + l.length + 1 = n + 9 + l.length by omega] at v2
      refine ⟨l', slc, g1, fun _ => g2, v1, ?_, fun h => by rw [hd, hb] at h; simp at h⟩
      rw [hd, hb]
      have hm : ∀ {a b c d : Slot} {g : Nat} {l : List Pc}, mrg (HA a b c d g l) slc = slc := mrg_heap HA_hp v1
      unfold St at t1 t3 t4 t5 t6 v2 ⊢
      simp only [pkLV] at t2 t3 t4 t5
      refine ⟨W, w, ?_, fun _ => hW.symm⟩
      simp only [go_sem, ↓reduceIte, reduceCtorEq, upd_ne, @back_new _ _ _ _ _ no_at, Nat.reduceAdd, Nat.reduceEqDiff, Nat.reduceMul, Nat.reduceSub, Nat.reduceLeDiff, Nat.reduceLT, Int.reduceToNat, Int.reduceLE, Int.reduceLT, Int.reduceEq, UInt8.reduceOfNat, pkLV, t1, t2, t3, t4, t5, c1, t6, v2, hm, v1, w.fl, w.ag, w.ps, w.pg]
end
end Go.Ev

namespace Go.Ev
set_option linter.unusedSimpArgs false
set_option linter.unusedVariables false
structure Parts (T : List Pc) (da : List UInt8) : Prop where
  ne : 0 < T.length
  rt : ∀ p ∈ T, RightP p
  jn : wk [] T = some da
  lastm : ∀ (i : Nat) (p : Pc), T[i]? = some p → (p.m = true ↔ i + 1 < T.length)
  pos : ∀ (i : Nat) (p : Pc), T[i]? = some p → 1 < T.length → 0 < p.d.length
def off (T : List Pc) : Nat := (T.map fun p => p.d.length).sum
theorem off_app (l r : List Pc) : off (l ++ r) = off l + off r := by simp [off]
theorem off_perm {l r : List Pc} (h : l.Perm r) : off l = off r := (h.map _).sum_nat
theorem wk_len : ∀ (l : List Pc) {acc w : List UInt8}, wk acc l = some w → w.length = acc.length + off l
  | [], acc, w, h => by simp only [wk, Option.some.injEq] at h; subst h; simp [off]
  | p :: l, acc, w, h => by
    simp only [wk] at h
    split at h
    · rw [wk_len l h, List.length_append]; simp [off]; omega
    · cases h
theorem wk_at {l : List Pc} {w : List UInt8} {i : Nat} {p : Pc} (h : wk [] l = some w) (hp : l[i]? = some p) : p.a = off (l.take i) := by
  have hi := (List.getElem?_eq_some_iff.1 hp).1
  rw [← List.take_append_drop i l, wk_app] at h
  obtain ⟨a, h1, h2⟩ := Option.bind_eq_some_iff.1 h
  have h3 : l.drop i = p :: l.drop (i + 1) := by
    rw [List.drop_eq_getElem_cons hi]; congr 1
    have := (List.getElem?_eq_some_iff.1 hp).2
    exact this
  rw [h3] at h2
  simp only [wk] at h2
  split at h2
  · rename_i e; rw [e, wk_len _ h1]; simp
  · cases h2
theorem off_take {l : List Pc} {i : Nat} {p : Pc} (hp : l[i]? = some p) : off (l.take (i + 1)) = off (l.take i) + p.d.length := by
  rw [List.take_add_one, hp, off_app]; simp [off]
theorem off_mono (l : List Pc) {i j : Nat} (h : i ≤ j) : off (l.take i) ≤ off (l.take j) := by
  have : l.take j = l.take i ++ (l.take j).drop i := by
    conv => lhs; rw [← List.take_append_drop i (l.take j)]
    rw [List.take_take, Nat.min_eq_left h]
  rw [this, off_app]; omega
section
variable {T : List Pc} {da : List UInt8} (hP : Parts T da)
include hP
theorem Parts.apart {i j : Nat} {p q : Pc} (hp : T[i]? = some p) (hq : T[j]? = some q) (h : i < j) : pTo p ≤ q.a ∧ p.a < q.a := by
  have h1 := wk_at hP.jn hp
  have h2 := wk_at hP.jn hq
  have h3 := off_take hp
  have h4 := off_mono T (show i + 1 ≤ j by omega)
  have hj := (List.getElem?_eq_some_iff.1 hq).1
  have h5 := hP.pos i p hp (by omega)
  unfold pTo
  omega
theorem Parts.last {p : Pc} (hp : T[T.length - 1]? = some p) : pTo p = da.length := by
  have h1 := wk_at hP.jn hp
  have h2 := wk_len _ hP.jn
  have h3 := off_take hp
  have h4 : T.take (T.length - 1 + 1) = T := List.take_of_length_le (by omega)
  rw [h4] at h3
  unfold pTo
  simp at h2
  omega
theorem Parts.to_le {i : Nat} {p : Pc} (hp : T[i]? = some p) : pTo p ≤ da.length := by
  have h1 := wk_at hP.jn hp
  have h2 := wk_len _ hP.jn
  have h3 := off_take hp
  have hi := (List.getElem?_eq_some_iff.1 hp).1
  have h4 := off_mono T (show i + 1 ≤ T.length by omega)
  rw [List.take_length] at h4
  unfold pTo
  simp at h2
  omega
def turn (T : List Pc) (k : Nat) : List Pc := T.drop k ++ T.take k
omit hP in
theorem turn_len {k : Nat} (hk : k < T.length) : (turn T k).length = T.length := by simp [turn]; omega
omit hP in
theorem turn_perm {k : Nat} : (turn T k).Perm T := by
  unfold turn
  exact (List.perm_append_comm).trans (by rw [List.take_append_drop])
omit hP in
theorem turn_at {k j : Nat} (hk : k < T.length) (hj : j < T.length) : (turn T k)[j]? = T[if j + k < T.length then j + k else j + k - T.length]? := by
  unfold turn
  by_cases c : j + k < T.length
  · rw [if_pos c, List.getElem?_append_left (by simp; omega), List.getElem?_drop]; congr 1; omega
  · rw [if_neg c, List.getElem?_append_right (by simp; omega), List.getElem?_take_of_lt (by simp; omega)]; congr 1; simp; omega
def enS (T : List Pc) (da : List UInt8) (k j : Nat) : Int := if T.length - 1 - k < j then (da.length : Int) else -1
theorem turn_step {k j : Nat} {p : Pc} {l : List Pc} (hk : k < T.length) (hj : j < T.length) (hp : (turn T k)[j]? = some p) (hl : l.Perm ((turn T k).take j)) :
    RightP p ∧ (∀ q ∈ l, OkP q) ∧ (∀ q ∈ l, Apt p q) ∧ (∀ q ∈ l, p.a ≠ q.a) ∧ (enS T da k j < 0 ∨ (p.m = true ∧ ((pTo p : Nat) : Int) ≤ enS T da k j)) ∧ (if p.m = true then enS T da k j else ((pTo p : Nat) : Int)) = enS T da k (j + 1) := by
  have hp0 := hp
  rw [turn_at hk hj] at hp
  have inl : ∀ q ∈ l, ∃ i, i < j ∧ T[if i + k < T.length then i + k else i + k - T.length]? = some q := by
    intro q hq
    have h1 := hl.mem_iff.1 hq
    obtain ⟨i, hi⟩ := List.mem_iff_getElem?.1 h1
    have h2 := (List.getElem?_eq_some_iff.1 hi).1
    rw [List.length_take] at h2
    rw [List.getElem?_take_of_lt (by omega), turn_at hk (by omega)] at hi
    exact ⟨i, by omega, hi⟩
  have hm := hP.lastm _ p hp
  refine ⟨hP.rt p (List.mem_of_getElem? hp), fun q hq => ?_, fun q hq => ?_, fun q hq => ?_, ?_, ?_⟩
  · obtain ⟨i, _, h2⟩ := inl q hq
    exact (hP.rt q (List.mem_of_getElem? h2)).ok
  · obtain ⟨i, h1, h2⟩ := inl q hq
    refine ⟨?_, ?_⟩
    · rcases Nat.lt_trichotomy (if i + k < T.length then i + k else i + k - T.length) (if j + k < T.length then j + k else j + k - T.length) with h | h | h
      · have := hP.apart h2 hp h; omega
      · split at h <;> split at h <;> omega
      · have := hP.apart hp h2 h; omega
    · cases hpm : p.m with
      | true => exact .inl rfl
      | false =>
        refine .inr ?_
        have h3 : ¬ (if j + k < T.length then j + k else j + k - T.length) + 1 < T.length := fun h => by have := hm.2 h; rw [hpm] at this; cases this
        have h4 : (if j + k < T.length then j + k else j + k - T.length) = T.length - 1 := by split <;> split at h3 <;> omega
        rw [h4] at hp
        rw [hP.last hp]
        exact hP.to_le h2
  · obtain ⟨i, h1, h2⟩ := inl q hq
    rcases Nat.lt_trichotomy (if i + k < T.length then i + k else i + k - T.length) (if j + k < T.length then j + k else j + k - T.length) with h | h | h
    · have := hP.apart h2 hp h; omega
    · split at h <;> split at h <;> omega
    · have := hP.apart hp h2 h; omega
  · unfold enS
    by_cases c : T.length - 1 - k < j
    · rw [if_pos c]
      refine .inr ⟨hm.2 ?_, ?_⟩
      · split <;> omega
      · have := hP.to_le hp; omega
    · rw [if_neg c]; exact .inl (by omega)
  · unfold enS
    cases hpm : p.m with
    | true =>
      have h3 := hm.1 hpm
      rw [if_pos rfl]
      by_cases c : T.length - 1 - k < j
      · rw [if_pos c, if_pos (by omega)]
      · rw [if_neg c, if_neg (by split at h3 <;> omega)]
    | false =>
      have h3 : ¬ (if j + k < T.length then j + k else j + k - T.length) + 1 < T.length := fun h => by have := hm.2 h; rw [hpm] at this; cases this
      have h4 : (if j + k < T.length then j + k else j + k - T.length) = T.length - 1 := by split <;> split at h3 <;> omega
      rw [if_neg (by simp)]
      have h5 : T.length - 1 - k < j + 1 := by split at h4 <;> omega
      rw [if_pos h5]
      rw [h4] at hp
      rw [hP.last hp]
theorem Parts.kz_lt {i j : Nat} {p q : Pc} (hp : T[i]? = some p) (hq : T[j]? = some q) (h : i < j) : kz p < kz q := by
  have h1 := (hP.apart hp hq h).2
  have h2 := (hP.rt p (List.mem_of_getElem? hp)).ok.2
  unfold kz
  omega
theorem Parts.uniq {l' : List Pc} (h : l'.Perm T) (hs : So kz 0 T.length l') : l' = T := by
  have hl := h.length_eq
  refine List.Perm.eq_of_pairwise (le := fun p q => kz p ≤ kz q) (fun a b ha hb h1 h2 => ?_) ?_ ?_ h
  · obtain ⟨i, hi⟩ := List.mem_iff_getElem?.1 (h.mem_iff.1 ha)
    obtain ⟨j, hj⟩ := List.mem_iff_getElem?.1 hb
    rcases Nat.lt_trichotomy i j with c | c | c
    · have := hP.kz_lt hi hj c; omega
    · subst c; rw [hi] at hj; exact Option.some.inj hj
    · have := hP.kz_lt hj hi c; omega
  · rw [List.pairwise_iff_getElem]
    intro i j hi hj hij
    exact hs i j _ _ (Nat.zero_le _) hij (by omega) (by simp) (by simp)
  · rw [List.pairwise_iff_getElem]
    intro i j hi hj hij
    exact Nat.le_of_lt (hP.kz_lt (i := i) (j := j) (by simp) (by simp) hij)
theorem turn_end {k j : Nat} {l' : List Pc} (hk : k < T.length) (hj : j < T.length) (hl : l'.Perm ((turn T k).take (j + 1))) (hs : 0 ≤ enS T da k (j + 1) → So kz 0 (j + 1) l') :
    (decide (0 ≤ enS T da k (j + 1)) && wB l' (enS T da k (j + 1))) = decide (j + 1 = T.length) ∧ (j + 1 = T.length → wR l' (enS T da k (j + 1)) = .agg [.str [107], .str [], .str da, .int .i64 (T.length : Int)]) := by
  have htl := turn_len (T := T) hk
  by_cases c : j + 1 = T.length
  · have he : enS T da k (j + 1) = (da.length : Int) := by unfold enS; rw [if_pos (by omega)]
    rw [List.take_of_length_le (by omega)] at hl
    rw [he] at hs ⊢
    have hu := hP.uniq (hl.trans turn_perm) (by rw [← c]; exact hs (by omega))
    subst hu
    refine ⟨?_, fun _ => ?_⟩
    · unfold wB; rw [hP.jn]; simp [c]
    · unfold wR; rw [hP.jn]; simp
  · refine ⟨?_, fun h => absurd h c⟩
    rw [decide_eq_false c]
    by_cases d : 0 ≤ enS T da k (j + 1)
    · have he : enS T da k (j + 1) = (da.length : Int) := by
        unfold enS at d ⊢
        split at d
        · rename_i q; rw [if_pos q]
        · omega
      rw [he]
      have hw : wB l' (da.length : Int) = false := by
        unfold wB
        cases hw : wk [] l' with
        | none => rfl
        | some w =>
          have h1 := wk_len _ hw
          have h2 := wk_len _ hP.jn
          have h3 := off_perm hl
          have h4 := off_perm (turn_perm (T := T) (k := k))
          have h5 : off (turn T k) = off ((turn T k).take (j + 1)) + off ((turn T k).drop (j + 1)) := by rw [← off_app, List.take_append_drop]
          obtain ⟨p, hp⟩ := get_lt (l := turn T k) (i := j + 1) (by omega)
          have h6 := off_take hp
          have h7 := off_mono (turn T k) (show j + 1 + 1 ≤ (turn T k).length by omega)
          rw [List.take_length] at h7
          rw [turn_at hk (by omega)] at hp
          have h8 := hP.pos _ p hp (by omega)
          simp only [List.length_nil, Nat.zero_add] at h1 h2
          simp only [decide_eq_false_iff_not]
          omega
      rw [hw, Bool.and_false]
    · rw [decide_eq_false d, Bool.false_and]
end
end Go.Ev

namespace Go.Ev
set_option linter.unusedSimpArgs false
set_option linter.unusedVariables false
set_option maxRecDepth 10000
set_option maxHeartbeats 8000000
theorem chC_rest : ∀ (k : Nat) (f : Bool) (nx : Int) (u : List UInt8), (chC k f nx u).2.2.2.length ≤ u.length
  | 0, f, nx, u => by unfold chC; split <;> (try split) <;> simp
  | k + 1, f, nx, u => by
    unfold chC
    split
    · split
      · simp
      · split
        · simp
        · have := chC_rest k false ((bAt u 0 : Nat) : Int) (u.drop (sz6 u))
          rw [List.length_drop] at this
          simp only
          split <;> (try simp only) <;> omega
    · simp
theorem chC_len : ∀ (k : Nat) (f : Bool) (nx : Int) (u : List UInt8), (chC k f nx u).2.1.length ≤ k
  | 0, f, nx, u => by unfold chC; split <;> (try split) <;> simp
  | k + 1, f, nx, u => by
    unfold chC
    split
    · split
      · simp
      · split
        · simp
        · have := chC_len k false ((bAt u 0 : Nat) : Int) (u.drop (sz6 u))
          simp only
          split <;> (try simp only [List.length_cons]) <;> omega
    · simp
end Go.Ev

namespace Go.Ev
set_option linter.unusedSimpArgs false
set_option linter.unusedVariables false
set_option maxRecDepth 4000
set_option maxHeartbeats 4000000
theorem chC_no {k : Nat} {f : Bool} {n : Int} {s : List UInt8} (h : ¬ isE n) : chC k f n s = (0, [], n, s) := by
  cases k <;> rw [chC, if_neg h]
theorem chC_yes {k : Nat} {f : Bool} {n : Int} {s : List UInt8} (h1 : isE n) (h2 : ¬ (n = 0 ∧ f = false)) (h3 : ¬ s.length < sz6 s) (h4 : (chC k false ((bAt s 0 : Nat) : Int) (s.drop (sz6 s))).1 = 0) :
    chC (k + 1) f n s = (0, (n, (s.drop 2).take (sz6 s - 2)) :: (chC k false ((bAt s 0 : Nat) : Int) (s.drop (sz6 s))).2.1, (chC k false ((bAt s 0 : Nat) : Int) (s.drop (sz6 s))).2.2) := by
  rw [chC, if_pos h1, if_neg h2, if_neg h3]
  simp only [h4, if_true]
theorem chC_inv {k : Nat} {f : Bool} {n : Int} {s : List UInt8} (h : (chC k f n s).1 = 0) (h1 : isE n) :
    ∃ j, k = j + 1 ∧ ¬ (n = 0 ∧ f = false) ∧ ¬ s.length < sz6 s ∧ (chC j false ((bAt s 0 : Nat) : Int) (s.drop (sz6 s))).1 = 0 := by
  cases k with
  | zero =>
    rw [chC, if_pos h1] at h
    split at h <;> simp at h
  | succ j =>
    rw [chC, if_pos h1] at h
    split at h
    · simp at h
    rename_i h2
    split at h
    · simp at h
    rename_i h3
    simp only at h
    split at h
    · rename_i h4
      exact ⟨j, rfl, h2, h3, h4⟩
    · rename_i h4
      exact absurd h h4
theorem chC_more : ∀ (k : Nat) (f : Bool) (n : Int) (s : List UInt8), (chC k false n s).1 = 0 → chC (k + 1) f n s = chC k false n s
  | 0, f, n, s, h => by
    by_cases h1 : isE n
    · obtain ⟨j, hj, _⟩ := chC_inv h h1
      omega
    · rw [chC_no h1, chC_no h1]
  | k + 1, f, n, s, h => by
    by_cases h1 : isE n
    · obtain ⟨j, hj, h2, h3, h4⟩ := chC_inv h h1
      obtain rfl : k = j := by omega
      have ih := chC_more k false _ _ h4
      rw [chC_yes h1 h2 h3 h4, chC_yes h1 (fun q => h2 ⟨q.1, rfl⟩) h3 (by rw [ih]; exact h4), ih]
    · rw [chC_no h1, chC_no h1]
theorem chC_first {k : Nat} {n : Int} {s : List UInt8} (h : (chC k false n s).1 = 0) : ∀ e l, (chC k false n s).2.1 = e :: l → e.1 ≠ 0 := by
  intro e l hl
  by_cases h1 : isE n
  · obtain ⟨j, rfl, h2, h3, h4⟩ := chC_inv h h1
    rw [chC_yes h1 h2 h3 h4] at hl
    simp only [List.cons.injEq] at hl
    rw [← hl.1]
    exact fun q => h2 ⟨q, rfl⟩
  · rw [chC_no h1] at hl
    simp at hl
theorem chC_less : ∀ (k : Nat) (f : Bool) (n : Int) (s : List UInt8), (chC (k + 1) f n s).1 = 0 → (chC (k + 1) f n s).2.1.length ≤ k → (∀ e l, (chC (k + 1) f n s).2.1 = e :: l → e.1 ≠ 0) → chC k false n s = chC (k + 1) f n s
  | 0, f, n, s, h, hl, hf => by
    by_cases h1 : isE n
    · obtain ⟨j, hj, h2, h3, h4⟩ := chC_inv h h1
      obtain rfl : j = 0 := by omega
      rw [chC_yes h1 h2 h3 h4] at hl
      simp at hl
    · rw [chC_no h1, chC_no h1]
  | k + 1, f, n, s, h, hl, hf => by
    by_cases h1 : isE n
    · obtain ⟨j, hj, h2, h3, h4⟩ := chC_inv h h1
      obtain rfl : j = k + 1 := by omega
      rw [chC_yes h1 h2 h3 h4] at hl hf
      have hn : n ≠ 0 := hf _ _ rfl
      have ih := chC_less k false _ _ h4 (by simpa using hl) (chC_first h4)
      rw [chC_yes h1 h2 h3 h4, chC_yes h1 (fun q => hn q.1) h3 (by rw [ih]; exact h4), ih]
    · rw [chC_no h1, chC_no h1]
theorem chC_parts : ∀ (k : Nat) (f : Bool) (n : Int) (s : List UInt8), 0 ≤ n ∧ n ≤ 255 → (chC k f n s).1 = 0 →
    nxE (chC k f n s).2.1 (chC k f n s).2.2.1 = n ∧ szE (chC k f n s).2.1 + (chC k f n s).2.2.2.length = s.length ∧ kB (chC k f n s).2.1 = true ∧ fB f (chC k f n s).2.1 = true ∧
    ¬ isE (chC k f n s).2.2.1 ∧ 0 ≤ (chC k f n s).2.2.1 ∧ (chC k f n s).2.2.1 ≤ 255 := by
  intro k
  induction k with
  | zero =>
    intro f n s hn h
    by_cases h1 : isE n
    · obtain ⟨j, hj, _⟩ := chC_inv h h1
      omega
    · rw [chC_no h1]
      refine ⟨rfl, ?_, rfl, ?_, h1, hn.1, hn.2⟩
      · simp [szE]
      · cases f <;> rfl
  | succ k ih =>
    intro f n s hn h
    by_cases h1 : isE n
    · obtain ⟨j, hj, h2, h3, h4⟩ := chC_inv h h1
      obtain rfl : k = j := by omega
      have hb := bAt_le s 0
      have hb1 := bAt_le s 1
      obtain ⟨i1, i2, i3, i4, i5, i6, i7⟩ := ih false ((bAt s 0 : Nat) : Int) (s.drop (sz6 s)) ⟨by omega, by omega⟩ h4
      rw [List.length_drop] at i2
      have h5 : sz6 s ≤ s.length := by omega
      have h6 : 8 ≤ sz6 s := by unfold sz6; omega
      have hlen : ((s.drop 2).take (sz6 s - 2)).length = sz6 s - 2 := by rw [List.length_take, List.length_drop]; omega
      rw [chC_yes h1 h2 h3 h4]
      refine ⟨rfl, ?_, ?_, ?_, i5, i6, i7⟩
      · simp only [szE, hlen]; omega
      · simp only [kB, List.all_cons, decide_eq_true h1, Bool.true_and]; exact i3
      · simp only [fB, Bool.and_eq_true, decide_eq_true_eq]
        refine ⟨⟨by rw [hlen]; unfold sz6; omega, by rw [hlen]; unfold sz6; omega, fun q => ?_⟩, i4⟩
        cases f
        · exact absurd ⟨q, rfl⟩ h2
        · rfl
    · rw [chC_no h1]
      refine ⟨rfl, ?_, rfl, ?_, h1, hn.1, hn.2⟩
      · simp [szE]
      · cases f <;> rfl
theorem beB4 (x : Nat) : beB 4 x = [UInt8.ofNat (x / 16777216), UInt8.ofNat (x / 65536), UInt8.ofNat (x / 256), UInt8.ofNat x] := by simp [beB, List.range_succ]
theorem numN_beB4 {x : Nat} (h : x < 4294967296) : numN (beB 4 x) = x := by
  rw [beB4]
  simp only [numN, List.foldl_cons, List.foldl_nil, UInt8.toNat_ofNat']
  omega
theorem beB4_numN (a b c d : UInt8) : beB 4 (numN [a, b, c, d]) = [a, b, c, d] := by
  have ha := a.toNat_lt; have hb := b.toNat_lt; have hc := c.toNat_lt; have hd := d.toNat_lt
  rw [beB4]
  simp only [numN, List.foldl_cons, List.foldl_nil]
  congr 1
  · apply UInt8.toNat_inj.1; rw [UInt8.toNat_ofNat']; omega
  congr 1
  · apply UInt8.toNat_inj.1; rw [UInt8.toNat_ofNat']; omega
  congr 1
  · apply UInt8.toNat_inj.1; rw [UInt8.toNat_ofNat']; omega
  congr 1
  apply UInt8.toNat_inj.1; rw [UInt8.toNat_ofNat']; omega
theorem chain_exB : ∀ (l : List (Int × List UInt8)) (k : Nat) (f : Bool) (p : Int) (b : List UInt8), kB l = true → fB f l = true → l.length ≤ k → ¬ isE p → 0 ≤ p ∧ p ≤ 255 → chC k f (nxE l p) (exB l p b) = (0, l, p, b)
  | [], k, f, p, b, _, _, _, hp, _ => chC_no hp
  | e :: l, k, f, p, b, hk, hf, hl, hp, hr => by
    simp only [kB, List.all_cons, Bool.and_eq_true, decide_eq_true_eq] at hk
    simp only [fB, Bool.and_eq_true, decide_eq_true_eq] at hf
    obtain ⟨k, rfl⟩ : ∃ j, k = j + 1 := ⟨k - 1, by simp at hl; omega⟩
    have hk2 : kB l = true := hk.2
    have ih := chain_exB l k false p b hk2 hf.2 (by simpa using hl) hp hr
    have hn := nxE_rg hk2 hr
    obtain ⟨⟨f1, f2, f3⟩, _⟩ := hf
    have h0 : bAt (exB (e :: l) p b) 0 = (nxE l p).toNat := by
      simp only [exB, beB1, List.cons_append, List.nil_append, bAt0, UInt8.toNat_ofNat']; omega
    have h1 : bAt (exB (e :: l) p b) 1 = e.2.length / 8 := by
      simp only [exB, beB1, List.cons_append, List.nil_append, bAt0, bAts, UInt8.toNat_ofNat']; omega
    have hz : sz6 (exB (e :: l) p b) = e.2.length + 2 := by unfold sz6; rw [h1]; omega
    have hlen := exB_len (e :: l) p b
    simp only [szE] at hlen
    have hd : (exB (e :: l) p b).drop (sz6 (exB (e :: l) p b)) = exB l p b := by
      rw [hz]; simp only [exB, beB1, List.cons_append, List.nil_append, List.drop_succ_cons]
      exact List.drop_left' rfl
    have ht : ((exB (e :: l) p b).drop 2).take (sz6 (exB (e :: l) p b) - 2) = e.2 := by
      rw [hz]; simp only [exB, beB1, List.cons_append, List.nil_append, List.drop_succ_cons, List.drop_zero]
      exact List.take_left' (by omega)
    have hi : ((bAt (exB (e :: l) p b) 0 : Nat) : Int) = nxE l p := by rw [h0]; omega
    have hc : chC k false ((bAt (exB (e :: l) p b) 0 : Nat) : Int) ((exB (e :: l) p b).drop (sz6 (exB (e :: l) p b))) = (0, l, p, b) := by rw [hd, hi, ih]
    show chC (k + 1) f e.1 (exB (e :: l) p b) = _
    rw [chC_yes hk.1 (fun q => by have := f3 q.1; rw [q.2] at this; simp at this) (by omega) (by rw [hc]), hc, ht]
theorem bd6_len {ex : List (Int × List UInt8)} {fg : Bool} {id at' : Int} {mo : Bool} {pt : Int} {da : List UInt8} : (bd6 ex fg id at' mo pt da).length = bh6 ex fg da := by
  unfold bd6 bh6
  cases fg
  · rw [if_neg Bool.false_ne_true, if_neg Bool.false_ne_true, exB_len]; omega
  · rw [if_pos rfl, if_pos rfl, exB_len]
    simp only [pcB, List.length_append, List.length_cons, beB_len]
    omega
theorem by6_len {cl fl ho : Int} {fr to : List UInt8} {ex : List (Int × List UInt8)} {fg : Bool} {id at' : Int} {mo : Bool} {pt : Int} {da : List UInt8} (hfr : fr.length = 16) (hto : to.length = 16) :
    (by6 cl fl ho fr to ex fg id at' mo pt da).length = 40 + bh6 ex fg da := by
  unfold by6
  simp only [List.length_append, beB_len, bd6_len, hfr, hto]
  omega
def H6 (x n nx ho : Nat) : List UInt8 := [UInt8.ofNat (x / 16777216), UInt8.ofNat (x / 65536), UInt8.ofNat (x / 256), UInt8.ofNat x, UInt8.ofNat (n / 256), UInt8.ofNat n, UInt8.ofNat nx, UInt8.ofNat ho]
theorem by6_eq (cl fl ho : Int) (fr to : List UInt8) (ex : List (Int × List UInt8)) (fg : Bool) (id at' : Int) (mo : Bool) (pt : Int) (da : List UInt8) : by6 cl fl ho fr to ex fg id at' mo pt da =
    H6 (1610612736 + cl.toNat * 1048576 + fl.toNat) (bd6 ex fg id at' mo pt da).length (nxE ex (if fg = true then 44 else pt)).toNat ho.toNat ++ (fr ++ (to ++ bd6 ex fg id at' mo pt da)) := by
  unfold by6 H6
  simp only [beB1, beB2, beB4, List.cons_append, List.nil_append]
theorem head6 {x n nx ho : Nat} {fr to bd t : List UInt8} (hx : x < 4294967296) (hn : n ≤ 65535) (hnx : nx ≤ 255) (hho : ho ≤ 255) (hfr : fr.length = 16) (hto : to.length = 16) (hbd : bd.length = n)
    {Y : List UInt8} (hY : Y = H6 x n nx ho ++ (fr ++ (to ++ bd)) ++ t) :
    bAt Y 0 = x / 16777216 ∧ wAt Y 4 = n ∧ bAt Y 6 = nx ∧ bAt Y 7 = ho ∧ numN (Y.take 4) = x ∧ pfr6 Y = fr ∧ pto6 Y = to ∧ (Y.drop 40).take n = bd ∧ Y.length = 40 + n + t.length := by
  subst hY
  have e8 : ∀ u : List UInt8, (H6 x n nx ho ++ u).drop 8 = u := fun u => rfl
  refine ⟨?_, ?_, ?_, ?_, ?_, ?_, ?_, ?_, ?_⟩
  · simp only [H6, List.cons_append, List.nil_append, bAt0, UInt8.toNat_ofNat']; omega
  · simp only [H6, List.cons_append, List.nil_append, wAt0, wAts]; exact w16_beB (by omega)
  · simp only [H6, List.cons_append, List.nil_append, bAt0, bAts, UInt8.toNat_ofNat']; omega
  · simp only [H6, List.cons_append, List.nil_append, bAt0, bAts, UInt8.toNat_ofNat']; omega
  · rw [show (H6 x n nx ho ++ (fr ++ (to ++ bd)) ++ t).take 4 = beB 4 x by rw [beB4]; rfl]
    exact numN_beB4 hx
  · unfold pfr6
    rw [List.append_assoc, e8, List.append_assoc, List.take_left' hfr]
  · unfold pto6
    rw [List.append_assoc, show 24 = 8 + 16 by rfl, ← List.drop_drop, e8, List.append_assoc, List.drop_left' hfr, List.append_assoc, List.take_left' hto]
  · rw [List.append_assoc, show 40 = 8 + (16 + 16) by rfl, ← List.drop_drop, ← List.drop_drop, e8, List.append_assoc, List.drop_left' hfr, List.append_assoc, List.drop_left' hto, List.take_left' hbd]
  · simp only [H6, List.length_append, List.length_cons, List.length_nil]; omega
theorem piece6 {id a : Nat} {mo : Bool} {pt : Nat} {da : List UInt8} (hid : id < 4294967296) (ha : a ≤ 65528) (ha8 : a % 8 = 0) (hpt : pt ≤ 255) :
    bAt (pcB (id : Int) (a : Int) mo (pt : Int) da) 0 = pt ∧ fa6 (pcB (id : Int) (a : Int) mo (pt : Int) da) = a ∧ fm6 (pcB (id : Int) (a : Int) mo (pt : Int) da) = mo ∧ fi6 (pcB (id : Int) (a : Int) mo (pt : Int) da) = id ∧
    (pcB (id : Int) (a : Int) mo (pt : Int) da).drop 8 = da ∧ (pcB (id : Int) (a : Int) mo (pt : Int) da).length = 8 + da.length := by
  have hw : wAt (pcB (id : Int) (a : Int) mo (pt : Int) da) 2 = a + if mo = true then 1 else 0 := by
    simp only [pcB, beB1, beB2, List.cons_append, List.nil_append, wAt0, wAts, Int.toNat_natCast]
    exact w16_beB (by split <;> omega)
  refine ⟨?_, ?_, ?_, ?_, ?_, ?_⟩
  · simp only [pcB, beB1, List.cons_append, List.nil_append, bAt0, UInt8.toNat_ofNat', Int.toNat_natCast]; omega
  · unfold fa6; rw [hw]; split <;> omega
  · unfold fm6; rw [hw]
    cases mo
    · rw [if_neg Bool.false_ne_true]; exact decide_eq_false (by omega)
    · rw [if_pos rfl]; exact decide_eq_true (by omega)
  · unfold fi6
    rw [show ((pcB (id : Int) (a : Int) mo (pt : Int) da).drop 4).take 4 = beB 4 id by simp only [pcB, beB1, beB2, beB4, List.cons_append, List.nil_append, Int.toNat_natCast]; rfl]
    exact numN_beB4 hid
  · simp only [pcB, beB1, beB2, beB4, List.cons_append, List.nil_append]; rfl
  · simp only [pcB, List.length_append, List.length_cons, beB_len]; omega
theorem parse_by6 {cl fl ho : Int} {fr to : List UInt8} {ex : List (Int × List UInt8)} {fg : Bool} {id at' : Int} {mo : Bool} {pt : Int} {da : List UInt8} (ok : Ok6 cl fl ho ex fg id at' mo pt da) (hid : 0 ≤ id ∧ id ≤ 4294967295)
    (hfr : fr.length = 16) (hto : to.length = 16) (t : List UInt8) :
    pK6 (by6 cl fl ho fr to ex fg id at' mo pt da ++ t) = 0 ∧ pLV6 (by6 cl fl ho fr to ex fg id at' mo pt da ++ t) = ip6LV cl fl ho fr to (extsLV ex) fg id at' mo pt da ∧ wAt (by6 cl fl ho fr to ex fg id at' mo pt da ++ t) 4 = bh6 ex fg da := by
  obtain ⟨⟨⟨a1, a2⟩, ⟨a3, a4⟩, ⟨a5, a6⟩, ⟨a7, a8⟩, ⟨a9, a10⟩, a11⟩, ⟨b1, b2⟩, ⟨c1, c2⟩, d1, d2, d3⟩ := ok
  obtain ⟨cl, rfl⟩ := Int.eq_ofNat_of_zero_le a1
  obtain ⟨fl, rfl⟩ := Int.eq_ofNat_of_zero_le a3
  obtain ⟨ho, rfl⟩ := Int.eq_ofNat_of_zero_le a5
  obtain ⟨pt, rfl⟩ := Int.eq_ofNat_of_zero_le a7
  obtain ⟨a, rfl⟩ := Int.eq_ofNat_of_zero_le a9
  obtain ⟨id, rfl⟩ := Int.eq_ofNat_of_zero_le hid.1
  have a11 : ((a % 8 : Nat) : Int) = 0 := a11
  have hbl := bd6_len (ex := ex) (fg := fg) (id := id) (at' := a) (mo := mo) (pt := pt) (da := da)
  have hp : ¬ isE (if fg = true then 44 else (pt : Int)) ∧ 0 ≤ (if fg = true then 44 else (pt : Int)) ∧ (if fg = true then 44 else (pt : Int)) ≤ 255 := by
    cases fg
    · rw [if_neg Bool.false_ne_true]; exact ⟨(b2 rfl).1, by omega, by omega⟩
    · rw [if_pos rfl]; exact ⟨by decide, by omega, by omega⟩
  have hnx := nxE_rg b1 hp.2
  have heq := by6_eq cl fl ho fr to ex fg id a mo pt da
  have hch := fun b => chain_exB ex 8 true (if fg = true then 44 else (pt : Int)) b b1 c1 d1 hp.1 hp.2
  generalize hY : by6 (cl : Int) fl ho fr to ex fg id a mo pt da ++ t = Y
  rw [heq] at hY
  simp only [Int.toNat_natCast] at hY
  obtain ⟨e1, e2, e3, e4, e5, e6, e7, e8, e9⟩ := head6 (by omega) (by omega) (by omega) (by omega) hfr hto rfl hY.symm
  rw [hbl] at e2 e9
  have hk : k6 Y = (0, ex, (if fg = true then 44 else (pt : Int)), (if fg = true then pcB id a mo pt da else da)) := by
    unfold k6
    rw [e2, ← hbl, e8, e3, Int.toNat_of_nonneg hnx.1]
    unfold bd6
    cases fg
    · exact hch _
    · exact hch _
  have hR : kR6 (k6 Y) = 0 := by
    rw [hk]
    unfold kR6
    rw [if_neg (by simp)]
    cases fg
    · rw [if_neg Bool.false_ne_true, if_pos (by have := (b2 rfl).2; simpa using this)]
    · obtain ⟨p1, p2, p3, p4, p5, p6⟩ := piece6 (id := id) (a := a) (mo := mo) (pt := pt) (da := da) (by omega) (by omega) (by omega) (by omega)
      simp only [if_true]
      rw [if_neg (by simp)]
      unfold kF6
      rw [if_neg (by omega), p3, p2, p5, if_pos]
      rw [if_pos rfl] at c2
      exact ⟨c2, by omega⟩
  have hK : pK6 Y = 0 := by
    unfold pK6
    rw [if_neg (by omega), if_neg (by omega), if_neg (by omega), hR]
  refine ⟨hK, ?_, e2⟩
  unfold pLV6
  rw [if_pos hK, hk]
  have q1 : pcl6 Y = (cl : Int) := by unfold pcl6; rw [e5]; omega
  have q2 : pfl6 Y = (fl : Int) := by unfold pfl6; rw [e5]; omega
  unfold mk6
  rw [q1, q2, e4, e6, e7]
  cases fg
  · simp only [Bool.false_eq_true, if_false] at c2 ⊢
    have hpt := (b2 rfl).2
    obtain ⟨i1, i2, i3⟩ := c2
    rw [if_neg hpt, i1, i2, i3]
  · obtain ⟨p1, p2, p3, p4, p5, p6⟩ := piece6 (id := id) (a := a) (mo := mo) (pt := pt) (da := da) (by omega) (by omega) (by omega) (by omega)
    simp only [if_true]
    rw [p1, p2, p3, p4, p5]
theorem pK6_40' {s : List UInt8} (h : pK6 s = 0) : 40 ≤ s.length := by
  unfold pK6 at h
  split at h
  · simp at h
  · omega
theorem getD_take6 {s : List UInt8} {i m : Nat} (h : i < m) : (s.take m).getD i 0 = s.getD i 0 := by
  rw [List.getD_eq_getElem?_getD, List.getD_eq_getElem?_getD, List.getElem?_take_of_lt h]
theorem cut_none6 {Y : List UInt8} {m : Nat} (hw : 40 + wAt Y 4 = Y.length) (hm : m < Y.length) : ¬ pK6 (Y.take m) = 0 := by
  intro h
  have h40 := pK6_40' h
  rw [List.length_take] at h40
  have hw2 : wAt (Y.take m) 4 = wAt Y 4 := by unfold wAt; rw [getD_take6 (by omega), getD_take6 (by omega)]
  unfold pK6 at h
  rw [if_neg (by rw [List.length_take]; omega)] at h
  split at h
  · simp at h
  split at h
  · simp at h
  · rename_i h3
    rw [hw2, List.length_take] at h3
    omega
theorem why6_hop {cl fl ho : Int} {ex : List (Int × List UInt8)} {fg : Bool} {id at' : Int} {mo : Bool} {pt : Int} {da : List UInt8} (h : why6 cl fl ho ex fg id at' mo pt da = 0) {t : Int} (ht : 0 ≤ t ∧ t ≤ 255) : why6 cl fl t ex fg id at' mo pt da = 0 := by
  obtain ⟨⟨o1, o2, o3, o4, o5, o6⟩, r2, r3, r4, r5, r6⟩ := why6_zero.1 h
  exact why6_zero.2 ⟨⟨o1, o2, ht, o4, o5, o6⟩, r2, r3, r4, r5, r6⟩
structure Par6 (s : List UInt8) : Prop where
  h40 : 40 ≤ s.length
  hv : bAt s 0 / 16 = 6
  hl : 40 + wAt s 4 ≤ s.length
  hk : (k6 s).1 = 0
  hf : (k6 s).2.2.1 = 44 → 8 ≤ (k6 s).2.2.2.length ∧ okF6 (fm6 (k6 s).2.2.2) (fa6 (k6 s).2.2.2) ((k6 s).2.2.2.drop 8)
theorem pK6_zero {s : List UInt8} (h : pK6 s = 0) : Par6 s := by
  unfold pK6 kR6 kF6 at h
  split at h
  · simp at h
  rename_i h1
  split at h
  · simp at h
  rename_i h2
  split at h
  · simp at h
  rename_i h3
  split at h
  · rename_i h4; exact absurd h h4
  rename_i h4
  refine ⟨by omega, by omega, by omega, Classical.byContradiction fun q => h4 q, ?_⟩
  intro h5
  rw [if_neg (fun q => q h5)] at h
  split at h
  · simp at h
  rename_i h6
  split at h
  · rename_i h7; exact ⟨by omega, h7⟩
  · simp at h
end Go.Ev

namespace Go.Ev
set_option linter.unusedSimpArgs false
set_option linter.unusedVariables false
set_option maxRecDepth 10000
set_option maxHeartbeats 8000000
section
variable (cl fl ho : Int) (fr to : List UInt8) (ex : List (Int × List UInt8)) (pt : Int) (da : List UInt8) (mtu nid : Int)
def cutF6 : Bool := decide (¬ (ln6 cl fl ho ex false 0 0 false pt da : Int) ≤ mtu)
def cutP6 : List Pc :=
  if cutF6 cl fl ho ex pt da mtu = true then (List.range (pcN da.length (rm6 mtu.toNat ex))).map fun i => ⟨i * rm6 mtu.toNat ex, fM false da (rm6 mtu.toNat ex) i, fD da (rm6 mtu.toNat ex) i⟩ else [⟨0, false, da⟩]
def fpLV6 (F : Bool) (p : Pc) : LV := ip6LV cl fl ho fr to (extsLV ex) F (if F = true then nid else 0) p.a p.m pt p.d
end
section
variable {cl fl ho : Int} {fr to : List UInt8} {ex : List (Int × List UInt8)} {pt : Int} {da : List UInt8} {mtu nid : Int}
theorem cutP6_L (h : cut6C cl fl ho ex false 0 0 false pt da mtu = 0) : cut6L cl fl ho fr to ex false 0 0 false pt da mtu nid = (cutP6 cl fl ho ex pt da mtu).map (fpLV6 cl fl ho fr to ex pt nid (cutF6 cl fl ho ex pt da mtu)) := by
  unfold cut6C at h
  unfold cut6L cutP6 cutF6
  by_cases c : ln6 cl fl ho ex false 0 0 false pt da = 0 ∨ mtu < 1280 ∨ 65535 < mtu
  · rw [if_pos c] at h; omega
  · rw [if_neg c] at h ⊢
    by_cases d : (ln6 cl fl ho ex false 0 0 false pt da : Int) ≤ mtu
    · rw [if_pos d, decide_eq_false (by omega), if_neg Bool.false_ne_true]; rfl
    · rw [if_neg d] at h
      rw [if_neg d, decide_eq_true d, if_pos rfl]
      by_cases e : mtu.toNat < hd6 ex true + 8
      · rw [if_pos e] at h; omega
      · rw [if_neg e]
        unfold frs6
        rw [List.map_map]
        refine List.map_congr_left fun i _ => ?_
        simp only [fr6, fpLV6, fA, Function.comp]
        simp
theorem cut6_none (h : cut6C cl fl ho ex false 0 0 false pt da mtu ≠ 0) : cut6L cl fl ho fr to ex false 0 0 false pt da mtu nid = [] := by
  unfold cut6C at h
  unfold cut6L
  by_cases c : ln6 cl fl ho ex false 0 0 false pt da = 0 ∨ mtu < 1280 ∨ 65535 < mtu
  · rw [if_pos c]
  · rw [if_neg c] at h ⊢
    by_cases d : (ln6 cl fl ho ex false 0 0 false pt da : Int) ≤ mtu
    · rw [if_pos d] at h; exact absurd rfl h
    · rw [if_neg d] at h ⊢
      by_cases e : mtu.toNat < hd6 ex true + 8
      · rw [if_pos e]
      · rw [if_neg e] at h; exact absurd rfl h
structure FragOk6 (cl fl ho : Int) (ex : List (Int × List UInt8)) (pt : Int) (mtu nid : Int) (T : List Pc) (F : Bool) (p : Pc) : Prop where
  ok : Ok6 cl fl ho ex F (if F = true then nid else 0) p.a p.m pt p.d
  fits : ((40 + bh6 ex F p.d : Nat) : Int) ≤ mtu
  full : 1 < T.length → p.m = true → mtu < ((40 + bh6 ex F p.d + 8 : Nat) : Int)
  many : 1 < T.length → F = true
theorem cutP6_parts (hd : da.length ≤ 4000) (h : cut6C cl fl ho ex false 0 0 false pt da mtu = 0) : Parts (cutP6 cl fl ho ex pt da mtu) da ∧ ∀ p ∈ cutP6 cl fl ho ex pt da mtu, FragOk6 cl fl ho ex pt mtu nid (cutP6 cl fl ho ex pt da mtu) (cutF6 cl fl ho ex pt da mtu) p := by
  unfold cut6C at h
  by_cases c : ln6 cl fl ho ex false 0 0 false pt da = 0 ∨ mtu < 1280 ∨ 65535 < mtu
  · rw [if_pos c] at h; omega
  rw [if_neg c] at h
  have hok : why6 cl fl ho ex false 0 0 false pt da = 0 := by
    apply Classical.byContradiction
    intro h; unfold ln6 at c; rw [if_neg h] at c; simp at c
  have hn : ln6 cl fl ho ex false 0 0 false pt da = 40 + bh6 ex false da := by unfold ln6; rw [if_pos hok]
  have ok := why6_zero.1 hok
  have hb0 : ∀ d : List UInt8, bh6 ex false d = szE ex + d.length := fun d => by unfold bh6; simp
  have hb1 : ∀ d : List UInt8, bh6 ex true d = szE ex + 8 + d.length := fun d => by unfold bh6; simp
  have hh1 : hd6 ex true = 40 + szE ex + 8 := by unfold hd6; simp
  have hbb := ok.bh
  have hb0' := hb0 da
  by_cases d : (ln6 cl fl ho ex false 0 0 false pt da : Int) ≤ mtu
  · have hF : cutF6 cl fl ho ex pt da mtu = false := by unfold cutF6; rw [decide_eq_false (by omega)]
    have hT : cutP6 cl fl ho ex pt da mtu = [⟨0, false, da⟩] := by unfold cutP6; rw [hF, if_neg Bool.false_ne_true]
    rw [hT, hF]
    refine ⟨⟨by simp, ?_, by simp [wk], ?_, ?_⟩, ?_⟩
    · intro p hp
      simp at hp; subst hp
      exact ⟨by simp, rfl, by simp; omega, by simp⟩
    · intro i p hp
      cases i with
      | zero => simp at hp; subst hp; simp
      | succ i => simp at hp
    · intro i p hp hl; simp at hl
    · intro p hp
      simp at hp; subst hp
      refine ⟨?_, by simp only; omega, fun q => by simp at q, fun q => by simp at q⟩
      rw [if_neg Bool.false_ne_true]; exact ok
  · have hF : cutF6 cl fl ho ex pt da mtu = true := by unfold cutF6; rw [decide_eq_true d]
    have hT : cutP6 cl fl ho ex pt da mtu = (List.range (pcN da.length (rm6 mtu.toNat ex))).map fun i => ⟨i * rm6 mtu.toNat ex, fM false da (rm6 mtu.toNat ex) i, fD da (rm6 mtu.toNat ex) i⟩ := by unfold cutP6; rw [hF, if_pos rfl]
    rw [hT, hF]
    rw [if_neg d] at h
    obtain ⟨M, rfl⟩ := Int.eq_ofNat_of_zero_le (show 0 ≤ mtu by omega)
    rw [Int.toNat_natCast] at h ⊢
    have hM : hd6 ex true + 8 ≤ M := by
      apply Classical.byContradiction
      intro q
      rw [if_pos (by omega)] at h
      omega
    have hsz : rm6 M ex = (M - hd6 ex true) / 8 * 8 := rfl
    generalize hz : rm6 M ex = z at hsz ⊢
    have z0 : 0 < z := by omega
    have z8 : z % 8 = 0 := by omega
    have hlt := fun j => pcN_lt (n := da.length) (sz := z) (j := j) z0
    have h1 := (hlt 0).2 (by omega)
    generalize hN : pcN da.length z = N at hlt h1 ⊢
    have get : ∀ (i : Nat) (p : Pc), (((List.range N).map fun i => (⟨i * z, fM false da z i, fD da z i⟩ : Pc)))[i]? = some p → i < N ∧ p = ⟨i * z, fM false da z i, fD da z i⟩ := by
      intro i p hp
      rw [List.getElem?_map] at hp
      obtain ⟨j, hj, rfl⟩ := Option.map_eq_some_iff.1 hp
      obtain ⟨hj1, hj2⟩ := List.getElem?_eq_some_iff.1 hj
      simp at hj1 hj2
      subst hj2
      exact ⟨hj1, rfl⟩
    have hm : ∀ i, fM false da z i = decide (i + 1 < N) := by
      intro i
      unfold fM
      rw [Bool.false_or]
      have := hlt (i + 1)
      rw [Nat.succ_mul] at this
      exact decide_eq_decide.2 this.symm
    have hfl : ∀ i, i < N → (fD da z i).length = min z (da.length - i * z) ∧ 0 < (fD da z i).length ∧ i * z + (fD da z i).length ≤ da.length ∧ (i + 1 < N → (fD da z i).length = z) := by
      intro i hi
      have q1 := (hlt i).1 hi
      have q2 := hlt (i + 1)
      rw [Nat.succ_mul] at q2
      have e : (fD da z i).length = min z (da.length - i * z) := by
        unfold fD
        rw [List.length_take, List.length_drop]
        omega
      exact ⟨e, by omega, by omega, fun h => by have := q2.1 h; omega⟩
    have hmul8 : ∀ i, i * z % 8 = 0 := fun i => by rw [Nat.mul_mod, z8, Nat.mul_zero, Nat.zero_mod]
    have mem : ∀ (p : Pc), p ∈ ((List.range N).map fun i => (⟨i * z, fM false da z i, fD da z i⟩ : Pc)) → ∃ i, i < N ∧ p = ⟨i * z, fM false da z i, fD da z i⟩ := by
      intro p hp
      obtain ⟨i, hi⟩ := List.mem_iff_getElem?.1 hp
      exact ⟨i, get i p hi⟩
    have hjn : ∀ j, j ≤ N → wk [] ((List.range j).map fun i => (⟨i * z, fM false da z i, fD da z i⟩ : Pc)) = some (da.take (j * z)) := by
      intro j
      induction j with
      | zero => intro _; simp [wk]
      | succ j ih =>
        intro hj
        rw [List.range_succ, List.map_append, wk_app, ih (by omega), Option.bind_some]
        have q1 := (hlt j).1 (by omega)
        simp only [List.map_cons, List.map_nil, wk]
        rw [if_pos (by rw [List.length_take]; omega)]
        congr 1
        rw [Nat.succ_mul, List.take_add]
        congr 1
        unfold fD
        by_cases e : j * z + z ≤ da.length
        · rw [show min (j * z + z) da.length - j * z = z by omega]
        · rw [show min (j * z + z) da.length - j * z = da.length - j * z by omega, List.take_of_length_le (by simp), List.take_of_length_le (by simp; omega)]
    have hNz : da.length ≤ N * z := by
      apply Classical.byContradiction
      intro q
      have := (hlt N).2 (by omega)
      omega
    refine ⟨⟨by simp; omega, ?_, ?_, ?_, ?_⟩, ?_⟩
    · intro p hp
      obtain ⟨i, hi, rfl⟩ := mem p hp
      obtain ⟨f1, f2, f3, f4⟩ := hfl i hi
      refine ⟨by simp only; omega, hmul8 i, by simp only; omega, fun h => ?_⟩
      simp only [hm, decide_eq_true_eq] at h
      simp only
      rw [f4 h]
      exact ⟨z0, z8⟩
    · rw [hjn N (Nat.le_refl _), List.take_of_length_le hNz]
    · intro i p hp
      obtain ⟨hi, rfl⟩ := get i p hp
      simp only [hm, decide_eq_true_eq, List.length_map, List.length_range]
    · intro i p hp hl
      obtain ⟨hi, rfl⟩ := get i p hp
      exact (hfl i hi).2.1
    · intro p hp
      obtain ⟨i, hi, rfl⟩ := mem p hp
      obtain ⟨f1, f2, f3, f4⟩ := hfl i hi
      have h8 := hmul8 i
      have hb2 := hb1 (fD da z i)
      obtain ⟨r1, r2, r3, r4, r5, r6⟩ := ok.rg
      refine ⟨⟨⟨r1, r2, r3, r4, ⟨by simp only; omega, by simp only; omega⟩, ?_⟩, ⟨ok.kd.1, fun q => by cases q⟩, ⟨ok.fm.1, ?_⟩, ok.n8, ?_, ?_⟩, ?_, ?_, fun _ => rfl⟩
      · have e : Int.tmod ((i * z : Nat) : Int) 8 = ((i * z % 8 : Nat) : Int) := rfl
        simp only
        rw [e, h8]; rfl
      · rw [if_pos rfl]
        intro h
        simp only [hm, decide_eq_true_eq] at h
        simp only
        rw [f4 h]
        exact ⟨by omega, z8⟩
      · simp only; omega
      · simp only; omega
      · simp only; omega
      · intro _ h
        simp only [hm, decide_eq_true_eq] at h
        have f5 := f4 h
        simp only
        omega
end
end Go.Ev

namespace Go.Ev
set_option linter.unusedSimpArgs false
set_option linter.unusedVariables false
set_option maxHeartbeats 4000000
theorem off_ge : ∀ (l : List Pc), (∀ p ∈ l, 0 < p.d.length) → l.length ≤ off l
  | [], _ => by simp [off]
  | p :: l, h => by
    have h1 := off_ge l fun q hq => h q (by simp [hq])
    have h2 := h p (by simp)
    simp only [off, List.map_cons, List.sum_cons, List.length_cons] at h1 ⊢
    omega
theorem Parts.few {T : List Pc} {da : List UInt8} (hP : Parts T da) : T.length ≤ da.length + 1 := by
  by_cases c : 1 < T.length
  · have h1 := off_ge T fun p hp => by
      obtain ⟨i, hi⟩ := List.mem_iff_getElem?.1 hp
      exact hP.pos i p hi c
    have h2 := wk_len _ hP.jn
    simp at h2
    omega
  · omega
def Sof (T : List Pc) (da : List UInt8) (k j : Nat) (H : Slots) : Prop := j < T.length → (j = 0 ∧ H = H0) ∨ (0 < j ∧ ∃ l, l.Perm ((turn T k).take j) ∧ H = St l (enS T da k j))
section
variable {S : Sys} (hS : Has S) (n : Nat)
include hS
theorem put_turn {T : List Pc} {da : List UInt8} (hP : Parts T da) (hd : da.length ≤ 4000) {k j : Nat} {p : Pc} {H : Slots} (hk : k < T.length) (hj : j < T.length) (hpp : (turn T k)[j]? = some p) (hH : Sof T da k j H) :
    ∃ W sl', WOk W ∧ (S.ev (n + 5010)).i id_frag_Store_Put [.ptr 1000000 1 [] 0, pkLV p, .int .i64 1] H = some (.tup [W, .bool (decide (j + 1 = T.length)), .int .i64 0], sl') ∧ hp sl' = sl' ∧
      (j + 1 = T.length → ∃ m, W = .agg [.str [107], .str [], .str da, m] ∧ flatLen m = 1) ∧ Sof T da k (j + 1) sl' := by
  have hfew := hP.few
  have htl := turn_len (T := T) hk
  have fin : ∀ {l2 : List Pc} {en2 : Int} {r : Option (LV × Slots)} {l' : List Pc} {sl' : Slots}, l2.Perm ((turn T k).take (j + 1)) → en2 = enS T da k (j + 1) → PutR l2 en2 r l' sl' →
      ∃ W sl', WOk W ∧ r = some (.tup [W, .bool (decide (j + 1 = T.length)), .int .i64 0], sl') ∧ hp sl' = sl' ∧ (j + 1 = T.length → ∃ m, W = .agg [.str [107], .str [], .str da, m] ∧ flatLen m = 1) ∧ Sof T da k (j + 1) sl' := by
    intro l2 en2 r l' sl' hl2 he h
    subst he
    obtain ⟨W, w1, w2, w3⟩ := h.ev
    have hl2n : l2.length = j + 1 := by rw [hl2.length_eq, List.length_take]; omega
    have hpm := h.perm.trans hl2
    obtain ⟨e1, e2⟩ := turn_end hP hk hj hpm (fun q => by have := h.so q; rwa [hl2n] at this)
    rw [e1] at w2 w3
    refine ⟨W, sl', w1, w2, h.hps, fun c => ⟨_, (w3 (by simp [c])).trans (e2 c), by simp [flatLen]⟩, fun c => .inr ⟨by omega, l', hpm, h.st ?_⟩⟩
    rw [e1]; simp; omega
  by_cases c0 : j = 0
  · subst c0
    obtain ⟨_, rfl⟩ | ⟨h, _⟩ := hH hj
    rotate_left 1
    · omega
    obtain ⟨s1, _, _, _, _, s6⟩ := turn_step hP hk hj hpp (l := []) (by simp)
    by_cases c1 : p.a = 0 ∧ p.m = false
    · have := ev_Put0 hS (n + 5007) p s1 c1.1 c1.2
      have hat := hpp
      rw [turn_at hk hj] at hat
      have hm := hP.lastm _ p hat
      have hidx : ¬ ((if 0 + k < T.length then 0 + k else 0 + k - T.length) + 1 < T.length) := fun h => by have := hm.2 h; rw [c1.2] at this; cases this
      rw [if_pos (by omega)] at hat hidx
      have hone : T.length = 1 := by
        apply Classical.byContradiction
        intro q
        obtain ⟨r, hr⟩ := get_lt (l := T) (i := 0) (by omega)
        have := (hP.apart hr hat (by omega)).2
        omega
      have hda : p.d = da := by
        have h1 := hP.jn
        have h2 : T = [p] := by
          have hk0 : k = 0 := by omega
          subst hk0
          cases hT : T with
          | nil => rw [hT] at hone; simp at hone
          | cons x r =>
            rw [hT] at hat hone
            simp at hat hone
            rw [hat, hone]
        rw [h2] at h1
        simp [wk, c1.1] at h1
        exact h1
      refine ⟨.agg [.str [107], .str [], .str p.d, .int .i64 1], H0, ⟨by simp [flatLen, sumLen], rfl, by simp [psl, pslL], by simp [pslG, pslGL]⟩, by rw [this]; simp [hone], H0_hp, fun _ => ⟨.int .i64 1, by rw [hda], by simp [flatLen]⟩, fun h => by omega⟩
    · obtain ⟨l', sl', h⟩ := ev_Put1 hS (n + 5000) p s1 c1
      refine fin (l2 := [p]) ?_ ?_ h
      · obtain ⟨x, r, hx⟩ : ∃ x r, turn T k = x :: r := by
          cases ht : turn T k with
          | nil => rw [ht] at htl; simp at htl; omega
          | cons x r => exact ⟨x, r, rfl⟩
        rw [hx] at hpp ⊢
        simp at hpp
        simp [hpp]
      · rw [← s6]
        have : enS T da k 0 = -1 := by unfold enS; rw [if_neg (by omega)]
        rw [this]
  · obtain ⟨h, _⟩ | ⟨_, l, hl, rfl⟩ := hH hj
    · omega
    obtain ⟨s1, s2, s3, s4, s5, s6⟩ := turn_step hP hk hj hpp hl
    have hln : l.length = j := by rw [hl.length_eq, List.length_take]; omega
    obtain ⟨l', sl', h⟩ := ev_Put hS (n + 5000 - l.length) p s1 (l := l) (by intro e; rw [e] at hln; simp at hln; omega) (by omega) (enS T da k j) s2 s3 s4 s5
    rw [show n + 5000 - l.length + 10 + l.length = n + 5010 by omega] at h
    refine fin (l2 := l ++ [p]) ?_ s6 h
    rw [List.take_add_one, hpp]
    exact hl.append_right _
end
end Go.Ev

namespace Go.Ev
set_option linter.unusedSimpArgs false
set_option linter.unusedVariables false
set_option maxRecDepth 10000
set_option maxHeartbeats 16000000
def obR {R : Type} (x : Option (LV × Option LV)) (K : LV → Option R) : Option R := ob x fun r => if plainRes r.1 = true then K r.1 else none
theorem obR_cong {R : Type} {x y : Option (LV × Option LV)} {K : LV → Option R} (h : x = y) : obR x K = obR y K := by rw [h]
attribute [congr] obR_cong
theorem obR_some {R : Type} {v : LV} {o : Option LV} {K : LV → Option R} : obR (some (v, o)) K = if plainRes v = true then K v else none := Eq.trans rfl rfl
theorem e_callR {R : Type} {g : Tab} {f : FuncId} {sl : Slots} {l : List LV} {K : LV → Option R} : ob (pr.call g f sl l) K = match pslL l with
    | some vs => obR (g f vs none) K
    | none => ob (rCall g f sl l) K := e_call
theorem hp_at {sl : Slots} (h : hp sl = sl) {t : Nat} (ht : t < 1000000) : sl t = .none 0 := by
  rw [← h]; unfold hp; rw [if_neg (show ¬ K0 ≤ t from (by omega : ¬ 1000000 ≤ t))]
theorem bkJ {H H' : Slots} (h : hp H = H) (h' : hp H' = H') {a x y z : LV} : back (upd H 3 (.obj 1 a)) (upd (upd (upd (upd H' 3 (.obj 1 a)) 13 (.obj 1 x)) 16 (.obj 1 y)) 18 (.obj 1 z)) = upd H' 3 (.obj 1 a) := by
  funext t
  unfold back
  by_cases q : K0 ≤ t
  · have q' : 1000000 ≤ t := q
    rw [if_pos q, upd_ne (by omega), upd_ne (by omega), upd_ne (by omega)]
  · have q' : t < 1000000 := Nat.lt_of_not_le q
    rw [if_neg q]
    have e1 := hp_at h q'
    have e2 := hp_at h' q'
    by_cases t3 : t = 3
    · subst t3; simp [upd]
    · by_cases t13 : t = 13
      · subst t13; simp [upd, e1, e2]
      · by_cases t16 : t = 16
        · subst t16; simp [upd, e1, e2]
        · by_cases t18 : t = 18
          · subst t18; simp [upd, e1, e2]
          · simp [upd, t3, t13, t16, t18, e1, e2]
end Go.Ev

namespace Go.Ev
set_option linter.unusedSimpArgs false
set_option linter.unusedVariables false
set_option maxRecDepth 10000
set_option maxHeartbeats 8000000
theorem bk6 {t a b g h i n0 n m z : Nat} (h1 : a ≠ t) (h2 : b ≠ t) (h3 : b ≠ a) (hb : b < 1000000) {P0 P Q P' : LV} : back (upd (upd noSlots a (.obj h P0)) t (.tag g n0 z)) (upd (upd (upd (upd (upd noSlots a (.obj h P)) t (.tag g n z)) b (.obj i Q)) t (.tag g m z)) a (.obj h P')) = upd (upd noSlots a (.obj h P')) t (.tag g m z) := by
  funext u
  unfold back upd
  by_cases e2 : u = a
  · subst e2; simp [h1]
  · by_cases e1 : u = t
    · subst e1; simp [e2]
    · by_cases e3 : u = b
      · subst e3; simp [e1, e2, no_at, show u < K0 from hb]
      · simp [e1, e2, e3, no_at]
theorem szE_take {ex : List (Int × List UInt8)} {i : Nat} {e : Int × List UInt8} (h : ex[i]? = some e) : szE (ex.take (i + 1)) = szE (ex.take i) + (e.2.length + 2) := by
  rw [List.take_add_one, h, szE_app]; simp [szE]
theorem szE_tle (ex : List (Int × List UInt8)) (i : Nat) : szE (ex.take i) ≤ szE ex := by
  have := szE_app (ex.take i) (ex.drop i)
  rw [List.take_append_drop] at this; omega
section
variable {cl fl ho : Int} {fr to : List UInt8} {ex : List (Int × List UInt8)} {fg : Bool} {id at' : Int} {mo : Bool} {pt : Int} {da : List UInt8}
variable {S : Sys} (hS : Has S) (n : Nat)
include hS
theorem ev_great617 (hfr : fr.length = 16) (hto : to.length = 16) (h8 : ex.length ≤ 140737488351232) :
    S.ev (n + 1) id_interpreterlaw17_Great6 [ip6LV cl fl ho fr to (extsLV ex) fg id at' mo pt da] none = some (.bool (big6 ex da), none) := by
  rw [Sys.step hS.h_interpreterlaw17_Great6, F_interpreterlaw17_Great6_eq]
  unfold F_interpreterlaw17_Great6
  (try simp only [guard_merge, or_merge, and_merge, or_pick, and_pick, guard_or, guard_and]); simp only [to_ob]
  unfold big6
  by_cases h1 : 20 < ex.length
  · have h1' : 20 < (ex.length : Int) := by omega
    rw [decide_eq_true h1]
    by_cases h2 : 4000 < (da.length : Int) <;> simp only [go_sem, ↓reduceIte, reduceCtorEq, upd_ne, @back_new _ _ _ _ _ no_at, Nat.reduceAdd, Nat.reduceEqDiff, Nat.reduceMul, Nat.reduceSub, Nat.reduceLeDiff, Nat.reduceLT, Int.reduceToNat, Int.reduceLE, Int.reduceLT, Int.reduceEq, UInt8.reduceOfNat, hfr, hto, List.length_map, h1', h2, Bool.true_or]
  · have h1' : ¬ 20 < (ex.length : Int) := by omega
    rw [decide_eq_false h1]
    by_cases h2 : 4000 < da.length
    · have h2' : 4000 < (da.length : Int) := by omega
      rw [decide_eq_true h2]
      simp only [go_sem, ↓reduceIte, reduceCtorEq, upd_ne, @back_new _ _ _ _ _ no_at, Nat.reduceAdd, Nat.reduceEqDiff, Nat.reduceMul, Nat.reduceSub, Nat.reduceLeDiff, Nat.reduceLT, Int.reduceToNat, Int.reduceLE, Int.reduceLT, Int.reduceEq, UInt8.reduceOfNat, hfr, hto, List.length_map, h1', h2', Bool.true_or, Bool.false_or]
    · have h2' : ¬ 4000 < (da.length : Int) := by omega
      rw [decide_eq_false h2]
      simp only [go_sem, ↓reduceIte, reduceCtorEq, upd_ne, @back_new _ _ _ _ _ no_at, Nat.reduceAdd, Nat.reduceEqDiff, Nat.reduceMul, Nat.reduceSub, Nat.reduceLeDiff, Nat.reduceLT, Int.reduceToNat, Int.reduceLE, Int.reduceLT, Int.reduceEq, UInt8.reduceOfNat, hfr, hto, List.length_map, h1', h2', Bool.false_or]
      refine while_rule (fun k q => ∃ i : Nat, q = ([.bool false, .int .i64 (i : Int)], noSlots) ∧ i + k = ex.length ∧ (ex.drop i).any (fun e => decide (2100 < e.2.length)) = ex.any fun e => decide (2100 < e.2.length)) ex.length ⟨0, rfl, by omega, rfl⟩ ?_
      rintro k q ⟨i, rfl, hi, ha⟩
      by_cases h : i < ex.length
      · have h' : (i : Int) < (ex.length : Int) := by omega
        obtain ⟨e, he⟩ : ∃ e, ex[i]? = some e := ⟨ex[i], by simp [h]⟩
        have hd : ex.drop i = e :: ex.drop (i + 1) := by
          rw [List.drop_eq_getElem_cons h]; congr 1; rw [List.getElem?_eq_getElem h] at he; exact Option.some.inj he
        rw [hd, List.any_cons] at ha
        have e3 : IntKind.i64.wrap ((i : Int) + 1) = ((i + 1 : Nat) : Int) := by rw [wrap_id (by omega) (by omega)]; omega
        by_cases hb : 2100 < e.2.length
        · have hb' : 2100 < (e.2.length : Int) := by omega
          rw [decide_eq_true hb, Bool.true_or] at ha
          rw [← ha]
          simp only [go_sem, ↓reduceIte, reduceCtorEq, upd_ne, @back_new _ _ _ _ _ no_at, Nat.reduceAdd, Nat.reduceEqDiff, Nat.reduceMul, Nat.reduceSub, Nat.reduceLeDiff, Nat.reduceLT, Int.reduceToNat, Int.reduceLE, Int.reduceLT, Int.reduceEq, UInt8.reduceOfNat, List.getElem?_map, Int.toNat_natCast, h', he, hfr, hto, e3, hb', List.length_map, Nxt, exIf]
        · have hb' : ¬ 2100 < (e.2.length : Int) := by omega
          rw [decide_eq_false hb, Bool.false_or] at ha
          simp only [go_sem, ↓reduceIte, reduceCtorEq, upd_ne, @back_new _ _ _ _ _ no_at, Nat.reduceAdd, Nat.reduceEqDiff, Nat.reduceMul, Nat.reduceSub, Nat.reduceLeDiff, Nat.reduceLT, Int.reduceToNat, Int.reduceLE, Int.reduceLT, Int.reduceEq, UInt8.reduceOfNat, List.getElem?_map, Int.toNat_natCast, h', he, hfr, hto, e3, hb', List.length_map]
          exact ⟨k - 1, by omega, i + 1, rfl, by omega, ha⟩
      · have h' : ¬ (i : Int) < (ex.length : Int) := by omega
        rw [List.drop_of_length_le (by omega)] at ha
        rw [← ha]
        simp only [go_sem, ↓reduceIte, reduceCtorEq, upd_ne, @back_new _ _ _ _ _ no_at, Nat.reduceAdd, Nat.reduceEqDiff, Nat.reduceMul, Nat.reduceSub, Nat.reduceLeDiff, Nat.reduceLT, Int.reduceToNat, Int.reduceLE, Int.reduceLT, Int.reduceEq, UInt8.reduceOfNat, List.getElem?_map, Int.toNat_natCast, h', hfr, hto, List.length_map, List.any_nil, Nxt, exIf]
end
end Go.Ev
