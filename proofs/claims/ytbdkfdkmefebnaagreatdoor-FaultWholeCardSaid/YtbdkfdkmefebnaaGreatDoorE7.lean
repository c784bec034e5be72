/- Part 7 of a proof: what the functions yield. It stands by itself; no condition. -/
import Derived.Test.YtbdkfdkmefebnaaGreatDoorE6
import Derived.Test.YtbdkfdkmefebnaaGreatDoorE5
namespace Go.Ev
set_option linter.unusedSimpArgs false
set_option linter.unusedVariables false
set_option maxRecDepth 10000
set_option maxHeartbeats 8000000
theorem echo_kept {D a b : List UInt8} {p : Nat} (ha : a.length = 16) (hb : b.length = 16) (hD : D.length < 65536) (h8 : 8 ≤ D.length) (hE : isE4 D = true) (h0 : sumS D = 0) (hp : p < 65536) :
    sumS (ps6 a b 58 D.length ++ ecF D [] (ps6 a b 58 D.length) (k46 (bAt D 0)) p) = 0 ∧ bAt (ecF D [] (ps6 a b 58 D.length) (k46 (bAt D 0)) p) 0 = k46 (bAt D 0) ∧ bAt (ecF D [] (ps6 a b 58 D.length) (k46 (bAt D 0)) p) 1 = 0 ∧
    numN (((ecF D [] (ps6 a b 58 D.length) (k46 (bAt D 0)) p).drop 4).take 4) / 65536 = p ∧ (ecF D [] (ps6 a b 58 D.length) (k46 (bAt D 0)) p).drop 8 = D.drop 8 ∧ (ecF D [] (ps6 a b 58 D.length) (k46 (bAt D 0)) p).length = D.length := by
  obtain ⟨e2, l2⟩ := sum_ps6 (next := 58) (len := D.length) ha hb (by omega) hD
  have hk : k46 (bAt D 0) < 256 ∧ k46 (bAt D 0) % 256 = k46 (bAt D 0) := by unfold k46; split <;> omega
  obtain ⟨y, hy, hf, hye⟩ := echo_form (D := D) (o := []) (w := ps6 a b 58 D.length) (k := k46 (bAt D 0)) (id := p) h8
  have hlen : (ecF D [] (ps6 a b 58 D.length) (k46 (bAt D 0)) p).length = D.length := ecF_len (by omega)
  generalize k46 (bAt D 0) = k at *
  have hx := wAt_le D 2
  have ho2 : (D.take 2).length = 2 := by rw [List.length_take]; omega
  have ho4 : ((D.drop 4).take 2).length = 2 := by rw [List.length_take, List.length_drop]; omega
  have m := (upY_mod (x := wAt D 2) (o := [] ++ (D.take 2 ++ (D.drop 4).take 2)) (w := ps6 a b 58 D.length ++ (beB 1 k ++ (0 :: beB 2 p))) (nn := false) hx (by simp only [List.nil_append, List.length_append]; omega)).1
  rw [← hye] at m
  rw [hf] at *
  have kk : (beB 1 k ++ (0 :: beB 2 p) : List UInt8) = [UInt8.ofNat k, 0] ++ beB 2 p := by rw [beB1]; rfl
  have sk : sumAt 0 ([UInt8.ofNat k, 0] : List UInt8) = 256 * k := by
    simp only [sumAt, Nat.zero_mod, if_true, UInt8.toNat_ofNat']
    have : k % 2 ^ 8 = k := hk.2
    rw [this]; simp; omega
  have f1 : (beB 1 k ++ (0 :: (beB 2 y ++ (beB 2 p ++ D.drop 6))) : List UInt8) = [UInt8.ofNat k, 0] ++ (beB 2 y ++ (beB 2 p ++ D.drop 6)) := by rw [beB1]; rfl
  have d46 : (D.drop 4).take 2 ++ D.drop 6 = D.drop 4 := by
    have := List.take_append_drop 2 (D.drop 4)
    rw [List.drop_drop] at this
    exact this
  have cD : D = D.take 2 ++ ([D.getD 2 0, D.getD 3 0] ++ ((D.drop 4).take 2 ++ D.drop 6)) := by
    rw [d46]; exact cut2 (D := D) (i := 2) (by omega)
  have m1 : sumAt 0 (ps6 a b 58 D.length ++ ([UInt8.ofNat k, 0] ++ beB 2 p)) = (sumAt 0 (a ++ b) + (58 + D.length)) + (256 * k + p) := by rw [sumE (by omega), sumE (by simp), sk, sum_beB2 hp, e2]
  have m2 : sumAt 0 ([] ++ (D.take 2 ++ (D.drop 4).take 2)) = sumAt 0 (D.take 2) + sumAt 0 ((D.drop 4).take 2) := by rw [List.nil_append, sumE (by omega)]
  have m3 : sumAt 0 (ps6 a b 58 D.length ++ ([UInt8.ofNat k, 0] ++ (beB 2 y ++ (beB 2 p ++ D.drop 6)))) = (sumAt 0 (a ++ b) + (58 + D.length)) + (256 * k + (y + (p + sumAt 0 (D.drop 6)))) := by
    rw [sumE (by omega), sumE (a := [UInt8.ofNat k, 0]) (by simp), sumE (a := beB 2 y) (by rw [beB_len]), sumE (a := beB 2 p) (by rw [beB_len]), sk, sum_beB2 hy, sum_beB2 hp, e2]
  refine ⟨?_, ?_, ?_, ?_, ?_, hlen⟩
  · rw [right_iff] at h0 ⊢
    rw [kk] at m
    rw [m1, m2] at m
    rw [f1, m3]
    have sD : sumAt 0 D = sumAt 0 (D.take 2) + (wAt D 2 + (sumAt 0 ((D.drop 4).take 2) + sumAt 0 (D.drop 6))) := by
      conv => lhs; rw [cD]
      rw [sumE (by omega), sumE (by simp), sumE (by omega), sum_wAt]
    rw [sD] at h0
    generalize sumAt 0 (D.take 2) = A1 at *
    generalize sumAt 0 ((D.drop 4).take 2) = A2 at *
    generalize sumAt 0 (D.drop 6) = A3 at *
    generalize sumAt 0 (a ++ b) = A4 at *
    omega
  · rw [f1]; show (UInt8.ofNat k).toNat = k; rw [UInt8.toNat_ofNat']; exact hk.2
  · rw [f1]; rfl
  · have : ((beB 1 k ++ (0 :: (beB 2 y ++ (beB 2 p ++ D.drop 6)))).drop 4).take 4 = [UInt8.ofNat (p / 256), UInt8.ofNat p] ++ (D.drop 6).take 2 := by
      rw [beB1, beB2, beB2]; rfl
    rw [this]
    obtain ⟨c0, c1, r, hr⟩ : ∃ c0 c1 r, D.drop 6 = c0 :: c1 :: r := by
      match h : D.drop 6, (show 2 ≤ (D.drop 6).length by rw [List.length_drop]; omega) with
      | c0 :: c1 :: r, _ => exact ⟨c0, c1, r, rfl⟩
    rw [hr]
    show numN [UInt8.ofNat (p / 256), UInt8.ofNat p, c0, c1] / 65536 = p
    have h1 := c0.toNat_lt
    have h2 := c1.toNat_lt
    simp only [numN, List.foldl_cons, List.foldl_nil, UInt8.toNat_ofNat']
    omega
  · have : (beB 1 k ++ (0 :: (beB 2 y ++ (beB 2 p ++ D.drop 6)))).drop 8 = (D.drop 6).drop 2 := by
      rw [beB1, beB2, beB2]; rfl
    rw [this, List.drop_drop]
theorem q6_whole {tos id ttl pt : Nat} {fr to D a b : List UInt8} {claim : Nat} {p q : Int} (hc : claim = D.length) :
    q6B (tos : Int) (id : Int) (ttl : Int) (pt : Int) 0 false fr to D a b claim p q = by6 (tos : Int) 0 (ttl : Int) a b [] false 0 0 false (proto46 (pt : Int)).1 (tn6 (pt : Int) 0 D fr to a b claim p.toNat q.toNat) := by
  subst hc
  have hl := @tn6_len (pt : Int) 0 D fr to a b D.length p.toNat q.toNat
  unfold q6B by6 q6H q6A q6N isF bd6
  simp only [Bool.false_or, ne_eq, not_true, decide_false, Bool.false_eq_true, if_false, exB, nxE, hl, List.append_assoc, List.nil_append, Int.toNat_zero, Nat.add_zero]
theorem w_ok {tos ttl : Nat} {pt : Int} {T : List UInt8} (ht : tos ≤ 255) (hl : ttl ≤ 255) (hp : ¬ isE pt ∧ pt ≠ 44 ∧ 0 ≤ pt ∧ pt ≤ 255) (hT : T.length ≤ 65535) : Ok6 (tos : Int) 0 (ttl : Int) [] false 0 0 false pt T :=
  why6_zero.1 (by
    unfold why6
    rw [if_pos ⟨by omega, by omega, by omega, by omega, by omega, rfl⟩, if_pos ⟨rfl, fun _ => ⟨hp.1, hp.2.1⟩⟩, if_pos ⟨rfl, by rw [if_neg Bool.false_ne_true]; exact ⟨rfl, rfl, rfl⟩⟩, if_pos ⟨by simp, by omega, by unfold bh6; simp only [szE, Bool.false_eq_true, if_false]; omega⟩])
section
variable {S : Sys} (hS : Has S) (n : Nat)
include hS
theorem ev_Pseudo4 (a b : List UInt8) (x l : Nat) (ha : a.length = 4) (hb : b.length = 4) (hx : x ≤ 255) (hl : l < 65536) :
    S.ev (n + 3) id_sum_Pseudo4 [.bytes a, .bytes b, .int .i64 (x : Int), .int .i64 (l : Int)] none = some (.str (ps4 a b x l), none) := by
  rw [Sys.step hS.h_sum_Pseudo4, F_sum_Pseudo4_eq]
  unfold F_sum_Pseudo4
  have h1 : S.ev (n + 2) id_sum_big [.int .i64 (l : Int), .int .i64 2] none = some (.str (beB 2 l), none) := ev_sbig hS n l 2 (by omega) (by simp; omega)
  have h2 : S.ev (n + 2) id_sum_big [.int .i64 (x : Int), .int .i64 1] none = some (.str (beB 1 x), none) := ev_sbig hS n x 1 (by omega) (by simp; omega)
  have hl := beB_len
  have t3 : a.take 4 = a := List.take_of_length_le (by omega)
  have t4 : b.take 4 = b := List.take_of_length_le (by omega)
  have x1 : 4 + 4 ≤ maxStr := by decide
  have x2 : 8 + 1 ≤ maxStr := by decide
  have x3 : 9 + 1 ≤ maxStr := by decide
  have x4 : 10 + 2 ≤ maxStr := by decide
  (try simp only [guard_merge, or_merge, and_merge, or_pick, and_pick, guard_or, guard_and]); simp only [to_ob]
  unfold ps4
  simp only [go_sem, ↓reduceIte, reduceCtorEq, upd_ne, back_new (no_at), Nat.reduceAdd, Nat.reduceEqDiff, Nat.reduceMul, Nat.reduceSub, Nat.reduceLeDiff, Nat.reduceLT, Int.reduceToNat, Int.reduceLE, Int.reduceLT, Int.reduceEq, UInt8.reduceOfNat, List.getElem?_map, Int.toNat_natCast, ha, hb, t3, t4, h1, h2, hl, x1, x2, x3, x4, toBytes_byteLV, List.length_append, List.append_assoc, List.cons_append, List.nil_append]
theorem ev_icmp4fault (c : Int) : S.ev (n + 1) id_icmp4_fault [.int .i64 c] none = some (faultLV c, none) := by
  rw [Sys.step hS.h_icmp4_fault, F_icmp4_fault_eq]
  unfold F_icmp4_fault
  (try simp only [guard_merge, or_merge, and_merge, or_pick, and_pick, guard_or, guard_and]); simp only [to_ob]
  simp only [go_sem, ↓reduceIte, reduceCtorEq, upd_ne, back_new (no_at), Nat.reduceAdd, Nat.reduceEqDiff, Nat.reduceMul, Nat.reduceSub, Nat.reduceLeDiff, Nat.reduceLT, Int.reduceToNat, Int.reduceLE, Int.reduceLT, Int.reduceEq, UInt8.reduceOfNat]
theorem ev_icmp4N {s : List UInt8} (hs : s.length ≤ 1000000) (h : s.length < 8 ∨ sumS s ≠ 0) : ∃ c, c ≠ 0 ∧ S.ev (n + 4) id_icmp4_Parse [.str s] none = some (.tup [msgLV 0 0 0 [], faultLV c], none) := by
  rw [Sys.step hS.h_icmp4_Parse, F_icmp4_Parse_eq]
  unfold F_icmp4_Parse
  have f7 := ev_icmp4fault hS (n + 2) 7
  have f9 := ev_icmp4fault hS (n + 2) 9
  (try simp only [guard_merge, or_merge, and_merge, or_pick, and_pick, guard_or, guard_and]); simp only [to_ob]
  by_cases c1 : s.length < 8
  · have c1' : (s.length : Int) < 8 := by omega
    refine ⟨7, by decide, ?_⟩
    simp only [go_sem, ↓reduceIte, reduceCtorEq, upd_ne, back_new (no_at), Nat.reduceAdd, Nat.reduceEqDiff, Nat.reduceMul, Nat.reduceSub, Nat.reduceLeDiff, Nat.reduceLT, Int.reduceToNat, Int.reduceLE, Int.reduceLT, Int.reduceEq, UInt8.reduceOfNat, List.getElem?_map, Int.toNat_natCast, c1', f7]
  · have c1' : ¬ (s.length : Int) < 8 := by omega
    have h0 : sumS s ≠ 0 := h.resolve_left c1
    have hR := ev_Right1 hS n s (by omega)
    rw [decide_eq_false h0] at hR
    refine ⟨9, by decide, ?_⟩
    simp only [go_sem, ↓reduceIte, reduceCtorEq, upd_ne, back_new (no_at), Nat.reduceAdd, Nat.reduceEqDiff, Nat.reduceMul, Nat.reduceSub, Nat.reduceLeDiff, Nat.reduceLT, Int.reduceToNat, Int.reduceLE, Int.reduceLT, Int.reduceEq, UInt8.reduceOfNat, List.getElem?_map, Int.toNat_natCast, c1', hR, f9]
theorem ev_echo4_no {k c r : Int} {d : List UInt8} (h : ¬ (c = 0 ∧ (k = 8 ∨ k = 0))) : S.ev (n + 1) id_icmp4_Echo [msgLV k c r d] none = some (.tup [.int .i64 0, .bool false, .bool false], none) := by
  rw [Sys.step hS.h_icmp4_Echo, F_icmp4_Echo_eq]
  unfold F_icmp4_Echo
  (try simp only [guard_merge, or_merge, and_merge, or_pick, and_pick, guard_or, guard_and]); simp only [to_ob]
  by_cases c1 : c = 0
  · have c2 : ¬ k = 8 := fun q => h ⟨c1, .inl q⟩
    have c3 : ¬ k = 0 := fun q => h ⟨c1, .inr q⟩
    simp only [go_sem, ↓reduceIte, reduceCtorEq, upd_ne, back_new (no_at), Nat.reduceAdd, Nat.reduceEqDiff, Nat.reduceMul, Nat.reduceSub, Nat.reduceLeDiff, Nat.reduceLT, Int.reduceToNat, Int.reduceLE, Int.reduceLT, Int.reduceEq, UInt8.reduceOfNat, List.getElem?_map, Int.toNat_natCast, c1, c2, c3]
  · simp only [go_sem, ↓reduceIte, reduceCtorEq, upd_ne, back_new (no_at), Nat.reduceAdd, Nat.reduceEqDiff, Nat.reduceMul, Nat.reduceSub, Nat.reduceLeDiff, Nat.reduceLT, Int.reduceToNat, Int.reduceLE, Int.reduceLT, Int.reduceEq, UInt8.reduceOfNat, List.getElem?_map, Int.toNat_natCast, c1]
theorem ev_echo4 {k c r : Int} {d : List UInt8} (hc : c = 0) (hk : k = 8 ∨ k = 0) (hr : 0 ≤ r ∧ r < 4294967296) : S.ev (n + 1) id_icmp4_Echo [msgLV k c r d] none = some (.tup [.int .i64 (r / 65536), .bool (decide (k = 8)), .bool true], none) := by
  rw [Sys.step hS.h_icmp4_Echo, F_icmp4_Echo_eq]
  unfold F_icmp4_Echo
  subst hc
  have e1 : Int.fdiv r (2 ^ min 16 32) = r / 65536 := by
    rw [show min 16 32 = 16 from rfl, Int.fdiv_eq_ediv_of_nonneg _ (by decide)]; rfl
  have e2 : IntKind.u32.wrap (r / 65536) = r / 65536 := by
    obtain ⟨R, rfl⟩ := Int.eq_ofNat_of_zero_le hr.1
    rw [show ((R : Int) / 65536) = ((R / 65536 : Nat) : Int) from rfl]; exact wrap_u32 (by omega)
  have e3 : IntKind.i64.wrap (r / 65536) = r / 65536 := wrap_id (by omega) (by omega)
  (try simp only [guard_merge, or_merge, and_merge, or_pick, and_pick, guard_or, guard_and]); simp only [to_ob]
  rcases hk with rfl | rfl
  · simp only [go_sem, ↓reduceIte, reduceCtorEq, upd_ne, back_new (no_at), Nat.reduceAdd, Nat.reduceEqDiff, Nat.reduceMul, Nat.reduceSub, Nat.reduceLeDiff, Nat.reduceLT, Int.reduceToNat, Int.reduceLE, Int.reduceLT, Int.reduceEq, UInt8.reduceOfNat, List.getElem?_map, Int.toNat_natCast, e1, e2, e3]; try rfl
  · simp only [go_sem, ↓reduceIte, reduceCtorEq, upd_ne, back_new (no_at), Nat.reduceAdd, Nat.reduceEqDiff, Nat.reduceMul, Nat.reduceSub, Nat.reduceLeDiff, Nat.reduceLT, Int.reduceToNat, Int.reduceLE, Int.reduceLT, Int.reduceEq, UInt8.reduceOfNat, List.getElem?_map, Int.toNat_natCast, e1, e2, e3]; try rfl
theorem ev_echo6 {k c r : Int} {d : List UInt8} (hc : c = 0) (hk : k = 128 ∨ k = 129) (hr : 0 ≤ r ∧ r < 4294967296) : S.ev (n + 1) id_icmp6_Echo [msgLV k c r d] none = some (.tup [.int .i64 (r / 65536), .bool (decide (k = 128)), .bool true], none) := by
  rw [Sys.step hS.h_icmp6_Echo, F_icmp6_Echo_eq]
  unfold F_icmp6_Echo
  subst hc
  have e1 : Int.fdiv r (2 ^ min 16 32) = r / 65536 := by
    rw [show min 16 32 = 16 from rfl, Int.fdiv_eq_ediv_of_nonneg _ (by decide)]; rfl
  have e2 : IntKind.u32.wrap (r / 65536) = r / 65536 := by
    obtain ⟨R, rfl⟩ := Int.eq_ofNat_of_zero_le hr.1
    rw [show ((R : Int) / 65536) = ((R / 65536 : Nat) : Int) from rfl]; exact wrap_u32 (by omega)
  have e3 : IntKind.i64.wrap (r / 65536) = r / 65536 := wrap_id (by omega) (by omega)
  (try simp only [guard_merge, or_merge, and_merge, or_pick, and_pick, guard_or, guard_and]); simp only [to_ob]
  rcases hk with rfl | rfl
  · simp only [go_sem, ↓reduceIte, reduceCtorEq, upd_ne, back_new (no_at), Nat.reduceAdd, Nat.reduceEqDiff, Nat.reduceMul, Nat.reduceSub, Nat.reduceLeDiff, Nat.reduceLT, Int.reduceToNat, Int.reduceLE, Int.reduceLT, Int.reduceEq, UInt8.reduceOfNat, List.getElem?_map, Int.toNat_natCast, e1, e2, e3]; try rfl
  · simp only [go_sem, ↓reduceIte, reduceCtorEq, upd_ne, back_new (no_at), Nat.reduceAdd, Nat.reduceEqDiff, Nat.reduceMul, Nat.reduceSub, Nat.reduceLeDiff, Nat.reduceLT, Int.reduceToNat, Int.reduceLE, Int.reduceLT, Int.reduceEq, UInt8.reduceOfNat, List.getElem?_map, Int.toNat_natCast, e1, e2, e3]; try rfl
end
end Go.Ev

namespace Go.Ev
set_option linter.unusedSimpArgs false
set_option linter.unusedVariables false
set_option maxRecDepth 10000
set_option maxHeartbeats 8000000
theorem beBq4 (x : Nat) : beB 4 x = [UInt8.ofNat (x / 16777216), UInt8.ofNat (x / 65536), UInt8.ofNat (x / 256), UInt8.ofNat x] := by simp [beB, List.range_succ]
theorem numNq4 {x : Nat} (h : x < 4294967296) : numN (beB 4 x) = x := by
  rw [beBq4]
  simp only [numN, List.foldl_cons, List.foldl_nil, UInt8.toNat_ofNat']
  omega
theorem headQ {x n nx ho : Nat} {a b bd : List UInt8} (hx : x < 4294967296) (hn : n ≤ 65535) (hnx : nx ≤ 255) (hho : ho ≤ 255) (ha : a.length = 16) (hb : b.length = 16) (hbd : bd.length ≤ n)
    {Y : List UInt8} (hY : Y = beB 4 x ++ (beB 2 n ++ (beB 1 nx ++ beB 1 ho)) ++ (a ++ (b ++ bd))) :
    bAt Y 0 = x / 16777216 ∧ wAt Y 4 = n ∧ bAt Y 6 = nx ∧ bAt Y 7 = ho ∧ numN (Y.take 4) = x ∧ pfr6 Y = a ∧ pto6 Y = b ∧ (Y.drop 40).take n = bd ∧ Y.length = 40 + bd.length := by
  have hl8 : (beB 4 x ++ (beB 2 n ++ (beB 1 nx ++ beB 1 ho))).length = 8 := by simp only [List.length_append, beB_len]
  have e8 : ∀ u : List UInt8, (beB 4 x ++ (beB 2 n ++ (beB 1 nx ++ beB 1 ho)) ++ u).drop 8 = u := fun u => List.drop_left' hl8
  have hx4 : (beB 4 x ++ (beB 2 n ++ (beB 1 nx ++ beB 1 ho)) ++ (a ++ (b ++ bd))).take 4 = beB 4 x := by
    rw [List.append_assoc]; exact List.take_left' (beB_len _ _)
  subst hY
  refine ⟨?_, ?_, ?_, ?_, ?_, ?_, ?_, ?_, ?_⟩
  · simp only [beB1, beB2, beBq4, List.cons_append, List.nil_append, bAt0, UInt8.toNat_ofNat']; omega
  · simp only [beB1, beB2, beBq4, List.cons_append, List.nil_append, wAt0, wAts]; exact w16_beB (by omega)
  · simp only [beB1, beB2, beBq4, List.cons_append, List.nil_append, bAt0, bAts, UInt8.toNat_ofNat']; omega
  · simp only [beB1, beB2, beBq4, List.cons_append, List.nil_append, bAt0, bAts, UInt8.toNat_ofNat']; omega
  · rw [hx4]; exact numNq4 hx
  · unfold pfr6
    rw [e8, List.take_left' ha]
  · unfold pto6
    rw [show 24 = 8 + 16 by rfl, ← List.drop_drop, e8, List.drop_left' ha, List.take_left' hb]
  · rw [show 40 = 8 + (16 + 16) by rfl, ← List.drop_drop, ← List.drop_drop, e8, List.drop_left' ha, List.drop_left' hb, List.take_of_length_le hbd]
  · rw [List.length_append, hl8, List.length_append, List.length_append]; omega
theorem pieceQ {id a : Nat} {mo : Bool} {pr : Nat} {T : List UInt8} (hid : id < 4294967296) (ha : a ≤ 65528) (ha8 : a % 8 = 0) (hpr : pr ≤ 255) :
    bAt (pcQ pr (a : Int) mo (id : Int) ++ T) 0 = pr ∧ fa6 (pcQ pr (a : Int) mo (id : Int) ++ T) = a ∧ fm6 (pcQ pr (a : Int) mo (id : Int) ++ T) = mo ∧ fi6 (pcQ pr (a : Int) mo (id : Int) ++ T) = id ∧
    (pcQ pr (a : Int) mo (id : Int) ++ T).drop 8 = T ∧ (pcQ pr (a : Int) mo (id : Int)).length = 8 := by
  have hsum : (((a : Int) + if mo = true then 1 else 0 : Int)).toNat = a + if mo = true then 1 else 0 := by split <;> omega
  have hl : (pcQ pr (a : Int) mo (id : Int)).length = 8 := by unfold pcQ; simp only [List.length_append, List.length_cons, beB_len]
  have hw : wAt (pcQ pr (a : Int) mo (id : Int) ++ T) 2 = a + if mo = true then 1 else 0 := by
    unfold pcQ
    rw [hsum]
    simp only [beB1, beB2, List.cons_append, List.nil_append, wAt0, wAts]
    exact w16_beB (by split <;> omega)
  refine ⟨?_, ?_, ?_, ?_, List.drop_left' hl, hl⟩
  · simp only [pcQ, beB1, List.cons_append, List.nil_append, bAt0, UInt8.toNat_ofNat']; omega
  · unfold fa6; rw [hw]; split <;> omega
  · unfold fm6; rw [hw]
    cases mo
    · rw [if_neg Bool.false_ne_true]; exact decide_eq_false (by omega)
    · rw [if_pos rfl]; exact decide_eq_true (by omega)
  · unfold fi6
    rw [show ((pcQ pr (a : Int) mo (id : Int) ++ T).drop 4).take 4 = beB 4 id by simp only [pcQ, beB1, beB2, beBq4, List.cons_append, List.nil_append, Int.toNat_natCast]; rfl]
    exact numNq4 hid
theorem chC_go {k : Nat} {f : Bool} {n : Int} {s : List UInt8} (h : ¬ isE n) : chC k f n s = (0, [], n, s) := by
  cases k <;> rw [chC, if_neg h]
theorem proto46_ok {x : Int} (h : (proto46 x).2 = true) : ¬ isE (proto46 x).1 ∧ (proto46 x).1 ≠ 44 ∧ (proto64 (proto46 x).1) = (x, true) ∧ x ≠ 58 ∧ x ≠ 0 ∧ (proto46 x).1 = if x = 1 then 58 else x := by
  unfold proto46 at *
  by_cases h1 : x = 1
  · subst h1; refine ⟨by decide, by decide, by decide, by decide, by decide, rfl⟩
  · rw [if_neg h1] at h ⊢
    split at h
    · cases h
    · rename_i h2
      rw [if_neg h2]
      dsimp only
      refine ⟨by unfold isE; omega, by omega, ?_, by omega, by omega, (if_neg h1).symm⟩
      unfold proto64
      rw [if_neg (by omega), if_neg (by omega)]
theorem inside_q6 {tos id ttl pt at' : Nat} {mo : Bool} {T a b : List UInt8} {claim : Nat} (ht : tos ≤ 255) (htl : ttl ≤ 255) (hi : id ≤ 65535) (hat : at' ≤ 65528) (hat8 : at' % 8 = 0) (ha : a.length = 16) (hb : b.length = 16)
    (hp : (proto46 pt).2 = true) (hn : q6N (at' : Int) mo claim ≤ 65535) (hT : T.length ≤ claim) (hm : min 8 claim ≤ T.length)
    {Y : List UInt8} (hY : Y = q6H (tos : Int) (ttl : Int) pt (at' : Int) mo claim ++ (a ++ (b ++ (q6A (id : Int) pt (at' : Int) mo ++ T)))) :
    iK6 Y = 0 ∧ iC6 Y = (claim : Int) ∧ iLV6 Y = ip6LV (tos : Int) 0 (ttl : Int) a b (extsLV []) (isF (at' : Int) mo) (if isF (at' : Int) mo = true then (id : Int) else 0) (at' : Int) mo (proto46 pt).1 T := by
  obtain ⟨g1, g2, g3, g4, g5, g6⟩ := proto46_ok hp
  have hPl := proto46_le pt
  have hA : (q6A (id : Int) pt (at' : Int) mo).length = if isF (at' : Int) mo = true then 8 else 0 := by
    unfold q6A
    cases isF (at' : Int) mo
    · rfl
    · rw [if_pos rfl, if_pos rfl]; unfold pcQ; simp only [List.length_append, List.length_cons, beB_len]
  have hbd : (q6A (id : Int) pt (at' : Int) mo ++ T).length ≤ q6N (at' : Int) mo claim := by rw [List.length_append, hA]; unfold q6N; omega
  have hnx : (if isF (at' : Int) mo = true then 44 else (proto46 pt).1.toNat) ≤ 255 := by split <;> omega
  unfold q6H at hY
  simp only [Int.toNat_natCast] at hY
  obtain ⟨e1, e2, e3, e4, e5, e6, e7, e8, e9⟩ := headQ (by omega) hn hnx htl ha hb hbd hY
  have hth : th6 Y = q6A (id : Int) pt (at' : Int) mo ++ T := by unfold th6; rw [e2, e8]
  have hk : k6 Y = (0, [], (if isF (at' : Int) mo = true then 44 else (proto46 pt).1), q6A (id : Int) pt (at' : Int) mo ++ T) := by
    unfold k6
    rw [e2, e8, e3]
    have : (((if isF (at' : Int) mo = true then 44 else (proto46 pt).1.toNat) : Nat) : Int) = if isF (at' : Int) mo = true then 44 else (proto46 pt).1 := by split <;> omega
    rw [this]
    exact chC_go (by split; · decide
                     · exact g1)
  have hcl : pcl6 Y = (tos : Int) := by unfold pcl6; rw [e5]; omega
  have hfl : pfl6 Y = 0 := by unfold pfl6; rw [e5]; omega
  have hf : f6 Y = isF (at' : Int) mo := by
    unfold f6; rw [hk]
    cases isF (at' : Int) mo
    · exact decide_eq_false (by simpa using g2)
    · rfl
  have hd : d6 Y = T := by
    unfold d6 dD6; rw [hk]
    cases hfg : isF (at' : Int) mo
    · unfold q6A; rw [hfg]; simp [g2]
    · unfold q6A; rw [hfg]
      simp only [if_true]
      exact (pieceQ (by omega) hat hat8 (by omega)).2.2.2.2.1
  have hc : c6 Y = claim := by
    have hd' : dD6 (k6 Y) = T := hd
    unfold c6 cl6
    rw [hd', hth, e2, List.length_append, hA]
    unfold q6N
    omega
  have hIn : In6 Y := by
    refine ⟨by omega, by rw [e1]; omega, by rw [hk], fun q => ?_, by rw [hc, hd]; exact hm⟩
    rw [hf] at q
    rw [hk]
    rw [List.length_append, hA, if_pos q]
    omega
  have hz : isF (at' : Int) mo = false → at' = 0 ∧ mo = false := fun h => by
    unfold isF at h
    simp only [Bool.or_eq_false_iff, decide_eq_false_iff_not, Classical.not_not] at h
    exact ⟨by omega, h.1⟩
  refine ⟨iK6_zero.2 hIn, by rw [hIn.cl, hc], ?_⟩
  rw [hIn.lv, hcl, hfl, e4, e6, e7, hf, hd, hk]
  have hi6 : i6 Y = if isF (at' : Int) mo = true then (id : Int) else 0 := by
    unfold i6; rw [hf, hk]
    cases hfg : isF (at' : Int) mo
    · rfl
    · unfold q6A; rw [hfg]
      simp only [if_true]
      rw [(pieceQ (by omega) hat hat8 (by omega)).2.2.2.1]
  have ha6 : a6 Y = (at' : Int) := by
    unfold a6; rw [hf, hk]
    cases hfg : isF (at' : Int) mo
    · simp [(hz hfg).1]
    · unfold q6A; rw [hfg]
      simp only [if_true]
      rw [(pieceQ (by omega) hat hat8 (by omega)).2.1]
  have hm6 : m6 Y = mo := by
    unfold m6; rw [hf, hk]
    cases hfg : isF (at' : Int) mo
    · simp [(hz hfg).2]
    · unfold q6A; rw [hfg]
      simp only [if_true, Bool.true_and]
      rw [(pieceQ (by omega) hat hat8 (by omega)).2.2.1]
  have hp6 : p6 Y = (proto46 pt).1 := by
    unfold p6; rw [hf, hk]
    cases hfg : isF (at' : Int) mo
    · rfl
    · unfold q6A; rw [hfg]
      simp only [if_true]
      rw [(pieceQ (by omega) hat hat8 (by omega)).1]
      omega
  rw [hi6, ha6, hm6, hp6]
end Go.Ev

namespace Go.Ev
set_option linter.unusedSimpArgs false
set_option linter.unusedVariables false
set_option maxRecDepth 10000
set_option maxHeartbeats 16000000
section
variable {S : Sys} (hS : Has S) (n : Nat)
include hS
theorem ev_FaultWhole {vs : List LV} (h : fitVL [.str, .bytes 16, .bytes 16, .int .u16, .int .u16] vs) : S.ev (n + 8) id_interpreterlaw15_FaultWhole vs none = some (.bool true, none) := by
  obtain ⟨x, r, e, g1, q1⟩ := fit_cons h; clear h; subst e; obtain ⟨s, rfl, hs⟩ := fit_str g1; clear g1
  obtain ⟨x, r, e, g3, q3⟩ := fit_cons q1; clear q1; subst e; obtain ⟨a, rfl, ha⟩ := fit_bytes g3; clear g3
  obtain ⟨x, r, e, g4, q4⟩ := fit_cons q3; clear q3; subst e; obtain ⟨b, rfl, hb⟩ := fit_bytes g4; clear g4
  obtain ⟨x, r, e, g5, q5⟩ := fit_cons q4; clear q4; subst e; obtain ⟨p, rfl, hp0, hp1⟩ := fit_u16 g5; clear g5
  obtain ⟨x, r, e, g6, q6⟩ := fit_cons q5; clear q5; subst e; obtain ⟨q, rfl, hq0, hq1⟩ := fit_u16 g6; clear g6
  obtain rfl := fit_nil q6
  rw [Sys.step hS.h_interpreterlaw15_FaultWhole, F_interpreterlaw15_FaultWhole_eq]
  unfold F_interpreterlaw15_FaultWhole
  have hw := ev_awake15 hS n
  have wp : IntKind.i64.wrap p = p := wrap_id (by omega) (by omega)
  have wq : IntKind.i64.wrap q = q := wrap_id (by omega) (by omega)
  (try simp only [guard_merge, or_merge, and_merge, or_pick, and_pick, guard_or, guard_and]); simp only [to_ob]
  by_cases c : 70000 < (s.length : Int)
  · simp (maxSteps := 3000000) only [go_sem, ↓reduceIte, reduceCtorEq, upd_ne, back_new (no_at), Nat.reduceAdd, Nat.reduceEqDiff, Nat.reduceMul, Nat.reduceSub, Nat.reduceLeDiff, Nat.reduceLT, Int.reduceToNat, Int.reduceLE, Int.reduceLT, Int.reduceEq, UInt8.reduceOfNat, hw, ha, hb, c]
  have h1 := ev_inside4 hS (n + 3) s (by omega)
  by_cases k0 : iK4 s = 0
  case neg =>
    unfold iLV4 iC4 at h1
    rw [if_neg k0, if_neg k0] at h1
    unfold fE at h1
    rw [if_neg k0] at h1
    simp (maxSteps := 3000000) only [go_sem, ↓reduceIte, reduceCtorEq, upd_ne, back_new (no_at), Nat.reduceAdd, Nat.reduceEqDiff, Nat.reduceMul, Nat.reduceSub, Nat.reduceLeDiff, Nat.reduceLT, Int.reduceToNat, Int.reduceLE, Int.reduceLT, Int.reduceEq, UInt8.reduceOfNat, hw, ha, hb, c, h1]
    try rfl
  have hI := iK4_zero.1 k0
  have hC : iC4 s = ((wAt s 2 - n4 s : Nat) : Int) := by unfold iC4; rw [if_pos k0]
  have hL : iLV4 s = ip4LV (bAt s 1) (wAt s 4) (bAt s 8) (bAt s 9) (pat4 s) (pdf4 s) (pmo4 s) (pfr4 s) (pto4 s) (pop4 s) (pda4 s) := by unfold iLV4; rw [if_pos k0]
  rw [hC, hL, k0] at h1
  have hfr := hI.fr
  have hto := hI.to
  have hop := hI.op
  have hn20 := hI.hn
  have hnl := hI.hl
  have hdl := pda4_len s
  have hat := hI.at
  have hb1 := bAt_le s 1
  have hb8 := bAt_le s 8
  have hb9 := bAt_le s 9
  have hw4 := wAt_le s 4
  have hw2 := wAt_le s 2
  have hq6 := ev_quote6 hS (n + 1) (tos := (bAt s 1 : Nat)) (id := (wAt s 4 : Nat)) (ttl := (bAt s 8 : Nat)) (pt := (bAt s 9 : Nat)) (at' := pat4 s) (df := pdf4 s) (mo := pmo4 s) (fr := pfr4 s) (to := pto4 s) (op := pop4 s) (da := pda4 s) (a := a) (b := b) (claim := wAt s 2 - n4 s) (p := p) (q := q) hfr hto ha hb (by omega) (by omega) (by omega) hat (by omega) (by omega)
  have hlen : (pda4 s).length ≤ 65535 := by omega
  generalize hcl : wAt s 2 - n4 s = claim at *
  generalize hDe : pda4 s = D at *
  generalize pfr4 s = fr at *
  generalize pto4 s = to at *
  generalize pop4 s = op at *
  generalize pdf4 s = df at *
  generalize pmo4 s = mo at *
  generalize bAt s 1 = tos at *
  generalize wAt s 4 = id at *
  generalize bAt s 8 = ttl at *
  generalize bAt s 9 = pt at *
  generalize pat4 s = at' at *
  obtain ⟨A, rfl⟩ := Int.eq_ofNat_of_zero_le hat.1
  obtain ⟨P0, rfl⟩ := Int.eq_ofNat_of_zero_le hp0
  obtain ⟨Q0, rfl⟩ := Int.eq_ofNat_of_zero_le hq0
  have fNil : fE 0 = .nili := rfl
  rw [fNil] at h1
  by_cases cl : (claim : Int) = (D.length : Int)
  case neg => simp (maxSteps := 3000000) only [go_sem, ↓reduceIte, reduceCtorEq, upd_ne, back_new (no_at), Nat.reduceAdd, Nat.reduceEqDiff, Nat.reduceMul, Nat.reduceSub, Nat.reduceLeDiff, Nat.reduceLT, Int.reduceToNat, Int.reduceLE, Int.reduceLT, Int.reduceEq, UInt8.reduceOfNat, List.getElem?_map, Int.toNat_natCast, hw, ha, hb, c, h1, hfr, hto, cl]
  obtain rfl : claim = D.length := by omega
  unfold q6R at hq6
  by_cases kz : q6K (pt : Int) (A : Int) mo D.length P0 Q0 = 0
  case neg =>
    rw [if_neg kz] at hq6
    have hco := ev_code hS (n + 6) (q6K (pt : Int) (A : Int) mo D.length P0 Q0)
    unfold fE at hq6 hco
    rw [if_neg kz] at hq6 hco
    have kz' : ¬ (q6K (pt : Int) (A : Int) mo D.length P0 Q0) = 0 := kz
    simp (maxSteps := 3000000) only [go_sem, ↓reduceIte, reduceCtorEq, upd_ne, back_new (no_at), Nat.reduceAdd, Nat.reduceEqDiff, Nat.reduceMul, Nat.reduceSub, Nat.reduceLeDiff, Nat.reduceLT, Int.reduceToNat, Int.reduceLE, Int.reduceLT, Int.reduceEq, UInt8.reduceOfNat, List.getElem?_map, Int.toNat_natCast, hw, ha, hb, c, h1, hfr, hto, wp, wq, hq6, hco, kz']
    try rfl
  rw [if_pos kz, kz, fNil] at hq6
  have kp : (proto46 (pt : Int)).2 = true := by
    unfold q6K at kz
    split at kz; · omega
    split at kz; · omega
    rename_i h2
    cases h : (proto46 (pt : Int)).2
    · exact absurd h h2
    · rfl
  have kN : q6N (A : Int) mo D.length ≤ 65535 := by
    unfold q6K at kz
    split at kz; · omega
    split at kz; · omega
    split at kz; · omega
    omega
  obtain ⟨g1', g2', g3', g4', g5', g6'⟩ := proto46_ok kp
  have hPl := proto46_le (pt : Int)
  by_cases fg : isF (A : Int) mo = true
  · have hBl : ((q6B (tos : Int) id ttl (pt : Int) (A : Int) mo fr to D a b D.length P0 Q0).length : Int) = ((48 + D.length : Nat) : Int) := by
      unfold q6B q6H q6A
      rw [if_pos fg, if_pos fg]
      unfold pcQ
      simp only [List.length_append, List.length_cons, beB_len, tn6_len, ha, hb]
      omega
    have e1 : IntKind.i64.wrap (48 + (D.length : Int)) = ((48 + D.length : Nat) : Int) := by rw [wrap_id (by omega) (by omega)]; omega
    generalize q6B (tos : Int) id ttl (pt : Int) (A : Int) mo fr to D a b D.length P0 Q0 = B at *
    cases mo with
    | true => simp (maxSteps := 3000000) only [go_sem, ↓reduceIte, reduceCtorEq, upd_ne, back_new (no_at), Nat.reduceAdd, Nat.reduceEqDiff, Nat.reduceMul, Nat.reduceSub, Nat.reduceLeDiff, Nat.reduceLT, Int.reduceToNat, Int.reduceLE, Int.reduceLT, Int.reduceEq, UInt8.reduceOfNat, List.getElem?_map, Int.toNat_natCast, hw, ha, hb, c, h1, hfr, hto, wp, wq, hq6, e1, hBl, decide_true, beq_self_eq_true]
    | false =>
      have hA : (0 : Int) < (A : Int) := by
        unfold isF at fg
        rw [Bool.false_or] at fg
        have := of_decide_eq_true fg
        omega
      simp (maxSteps := 3000000) only [go_sem, ↓reduceIte, reduceCtorEq, upd_ne, back_new (no_at), Nat.reduceAdd, Nat.reduceEqDiff, Nat.reduceMul, Nat.reduceSub, Nat.reduceLeDiff, Nat.reduceLT, Int.reduceToNat, Int.reduceLE, Int.reduceLT, Int.reduceEq, UInt8.reduceOfNat, List.getElem?_map, Int.toNat_natCast, hw, ha, hb, c, h1, hfr, hto, wp, wq, hq6, e1, hBl, hA, decide_true, beq_self_eq_true]
  have hmo : mo = false := by cases mo with | false => rfl | true => exact absurd rfl fg
  subst hmo
  have hA0 : A = 0 := by
    apply Classical.byContradiction
    intro q
    exact fg (by unfold isF; rw [Bool.false_or]; exact decide_eq_true (by omega))
  subst hA0
  have hqw := q6_whole (tos := tos) (id := id) (ttl := ttl) (pt := pt) (fr := fr) (to := to) (D := D) (a := a) (b := b) (claim := D.length) (p := (P0 : Int)) (q := (Q0 : Int)) rfl
  rw [Int.toNat_natCast, Int.toNat_natCast] at hqw
  have hq6 : S.ev (n + 1 + 6) id_fault_Quote6 [ip4LV tos id ttl pt 0 df false fr to op D, .int .i64 (D.length : Int), .agg [.bytes a, .int .i64 (P0 : Int)], .agg [.bytes b, .int .i64 (Q0 : Int)]] none = some (.tup [.str (q6B (tos : Int) id ttl (pt : Int) 0 false fr to D a b D.length P0 Q0), .nili], none) := hq6
  rw [hqw] at hq6
  have h1 : S.ev (n + 3 + 4) id_fault_Inside4 [.str s] none = some (.tup [ip4LV tos id ttl pt 0 df false fr to op D, .int .i64 (D.length : Int), .nili], none) := h1
  have hTl := @tn6_len (pt : Int) 0 D fr to a b D.length P0 Q0
  have ok := w_ok (tos := tos) (ttl := ttl) (pt := (proto46 (pt : Int)).1) (T := tn6 (pt : Int) 0 D fr to a b D.length P0 Q0) hb1 hb8 ⟨g1', g2', hPl.1, hPl.2⟩ (by omega)
  obtain ⟨y1, y2, y3⟩ := parse_by6 ok (by omega) ha hb []
  have hbh : bh6 [] false (tn6 (pt : Int) 0 D fr to a b D.length P0 Q0) = D.length := by unfold bh6; simp only [szE, Bool.false_eq_true, if_false]; omega
  have hyl := by6_len (cl := (tos : Int)) (fl := 0) (ho := (ttl : Int)) (fr := a) (to := b) (ex := []) (fg := false) (id := 0) (at' := 0) (mo := false) (pt := (proto46 (pt : Int)).1) (da := tn6 (pt : Int) 0 D fr to a b D.length P0 Q0) ha hb
  rw [hbh] at hyl
  have hP := ev_parse6 hS (n + 3) (by6 (tos : Int) 0 (ttl : Int) a b [] false 0 0 false (proto46 (pt : Int)).1 (tn6 (pt : Int) 0 D fr to a b D.length P0 Q0)) (by omega)
  rw [List.append_nil] at y1 y2
  rw [y1, y2, fNil] at hP
  have hxl : extsLV [] = .lst none [] := rfl
  rw [hxl] at hP
  have e1 : IntKind.i64.wrap (40 + (D.length : Int)) = ((40 + D.length : Nat) : Int) := by rw [wrap_id (by omega) (by omega)]; omega
  generalize by6 (tos : Int) 0 (ttl : Int) a b [] false 0 0 false (proto46 (pt : Int)).1 (tn6 (pt : Int) 0 D fr to a b D.length P0 Q0) = B at *
  have hyl' : (B.length : Int) = ((40 + D.length : Nat) : Int) := by omega
  have hTl' : ((tn6 (pt : Int) 0 D fr to a b D.length P0 Q0).length : Int) = (D.length : Int) := by omega
  by_cases p6 : (pt : Int) = 6
  · have hpt : pt = 6 := by omega
    subst hpt
    have hT : tn6 ((6 : Nat) : Int) 0 D fr to a b D.length P0 Q0 = poF false D (fr ++ to) (a ++ b) P0 Q0 := by
      unfold tn6; rw [if_neg (by omega), if_pos (.inl rfl)]; rfl
    rw [hT] at hP hTl'
    have hs4 := ev_Pseudo4 hS (n + 4) fr to 6 D.length hfr hto (by omega) (by omega)
    have hs6 := ev_Pseudo6 hS (n + 4) a b 6 D.length ha hb (by omega) (by omega)
    have hk4 := ev_tcheck hS (n + 3) D (ps4 fr to 6 D.length) (by omega) (by rw [(sum_ps4 (next := 6) (len := D.length) hfr hto (by omega) (by omega)).2]; omega)
    have hk6 := ev_tcheck hS (n + 3) (poF false D (fr ++ to) (a ++ b) P0 Q0) (ps6 a b 6 D.length) (by rw [poF_len]; omega) (by rw [(sum_ps6 (next := 6) (len := D.length) ha hb (by omega) (by omega)).2]; omega)
    have hs4 : S.ev (n + 7) id_sum_Pseudo4 [.bytes fr, .bytes to, .int .i64 6, .int .i64 (D.length : Int)] none = _ := hs4
    have hs6 : S.ev (n + 7) id_sum_Pseudo6 [.bytes a, .bytes b, .int .i64 6, .int .i64 (D.length : Int)] none = _ := hs6
    have h1 : S.ev (n + 3 + 4) id_fault_Inside4 [.str s] none = some (.tup [ip4LV tos id ttl 6 0 df false fr to op D, .int .i64 (D.length : Int), .nili], none) := h1
    have hq6 : S.ev (n + 1 + 6) id_fault_Quote6 [ip4LV tos id ttl 6 0 df false fr to op D, .int .i64 (D.length : Int), .agg [.bytes a, .int .i64 (P0 : Int)], .agg [.bytes b, .int .i64 (Q0 : Int)]] none = some (.tup [.str B, .nili], none) := hq6
    generalize (proto46 ((6 : Nat) : Int)).1 = P6 at *
    by_cases z : tcpC D (ps4 fr to 6 D.length) = 0
    · have z6 := tcp_kept (p := P0) (q := Q0) hfr hto ha hb (by omega) z
      rw [z, fNil] at hk4
      rw [z6, fNil] at hk6
      simp (maxSteps := 3000000) only [go_sem, ↓reduceIte, reduceCtorEq, upd_ne, back_new (no_at), Nat.reduceAdd, Nat.reduceEqDiff, Nat.reduceMul, Nat.reduceSub, Nat.reduceLeDiff, Nat.reduceLT, Int.reduceToNat, Int.reduceLE, Int.reduceLT, Int.reduceEq, UInt8.reduceOfNat, List.getElem?_map, Int.toNat_natCast, hw, ha, hb, c, h1, hfr, hto, wp, wq, hq6, hP, hTl', e1, hyl', hs4, hs6, hk4, hk6, decide_true, beq_self_eq_true]
    · unfold fE at hk4
      rw [if_neg z] at hk4
      simp (maxSteps := 3000000) only [go_sem, ↓reduceIte, reduceCtorEq, upd_ne, back_new (no_at), Nat.reduceAdd, Nat.reduceEqDiff, Nat.reduceMul, Nat.reduceSub, Nat.reduceLeDiff, Nat.reduceLT, Int.reduceToNat, Int.reduceLE, Int.reduceLT, Int.reduceEq, UInt8.reduceOfNat, List.getElem?_map, Int.toNat_natCast, hw, ha, hb, c, h1, hfr, hto, wp, wq, hq6, hP, hTl', e1, hyl', hs4, hk4, decide_true, beq_self_eq_true]
  by_cases p17 : (pt : Int) = 17
  · have hpt : pt = 17 := by omega
    subst hpt
    have hT : tn6 ((17 : Nat) : Int) 0 D fr to a b D.length P0 Q0 = poF true D (fr ++ to) (a ++ b) P0 Q0 := by
      unfold tn6; rw [if_neg (by omega), if_pos (.inr rfl)]; rfl
    rw [hT] at hP hTl'
    have hs4 := ev_Pseudo4 hS (n + 4) fr to 17 D.length hfr hto (by omega) (by omega)
    have hs6 := ev_Pseudo6 hS (n + 4) a b 17 D.length ha hb (by omega) (by omega)
    have hk4 := ev_check5 hS (n + 3) D (ps4 fr to 17 D.length) (by omega) (by rw [(sum_ps4 (next := 17) (len := D.length) hfr hto (by omega) (by omega)).2]; omega)
    have hk6 := ev_check5 hS (n + 3) (poF true D (fr ++ to) (a ++ b) P0 Q0) (ps6 a b 17 D.length) (by rw [poF_len]; omega) (by rw [(sum_ps6 (next := 17) (len := D.length) ha hb (by omega) (by omega)).2]; omega)
    have hs4 : S.ev (n + 7) id_sum_Pseudo4 [.bytes fr, .bytes to, .int .i64 17, .int .i64 (D.length : Int)] none = _ := hs4
    have hs6 : S.ev (n + 7) id_sum_Pseudo6 [.bytes a, .bytes b, .int .i64 17, .int .i64 (D.length : Int)] none = _ := hs6
    have hc4 := ev_code hS (n + 6) (udpC D (ps4 fr to 17 D.length))
    have hc6 := ev_code hS (n + 6) (udpC (poF true D (fr ++ to) (a ++ b) P0 Q0) (ps6 a b 17 D.length))
    have h1 : S.ev (n + 3 + 4) id_fault_Inside4 [.str s] none = some (.tup [ip4LV tos id ttl 17 0 df false fr to op D, .int .i64 (D.length : Int), .nili], none) := h1
    have hq6 : S.ev (n + 1 + 6) id_fault_Quote6 [ip4LV tos id ttl 17 0 df false fr to op D, .int .i64 (D.length : Int), .agg [.bytes a, .int .i64 (P0 : Int)], .agg [.bytes b, .int .i64 (Q0 : Int)]] none = some (.tup [.str B, .nili], none) := hq6
    generalize (proto46 ((17 : Nat) : Int)).1 = P6 at *
    have key := udp_kept (D := D) (fr := fr) (to := to) (a := a) (b := b) (p := P0) (q := Q0) hfr hto ha hb (by omega)
    by_cases z : udpC D (ps4 fr to 17 D.length) = 9
    · rw [z] at hk4 hc4
      have hk4 : S.ev (n + 3 + 4) id_udp_Check [.str D, .str (ps4 fr to 17 D.length)] none = some (faultLV 9, none) := hk4
      have hc4 : S.ev (n + 6 + 1) id_num_Code [faultLV 9] none = some (.int .i64 9, none) := hc4
      simp (maxSteps := 3000000) only [go_sem, ↓reduceIte, reduceCtorEq, upd_ne, back_new (no_at), Nat.reduceAdd, Nat.reduceEqDiff, Nat.reduceMul, Nat.reduceSub, Nat.reduceLeDiff, Nat.reduceLT, Int.reduceToNat, Int.reduceLE, Int.reduceLT, Int.reduceEq, UInt8.reduceOfNat, List.getElem?_map, Int.toNat_natCast, hw, ha, hb, c, h1, hfr, hto, wp, wq, hq6, hP, hTl', e1, hyl', hs4, hk4, hc4, decide_true, beq_self_eq_true]
    · have z6 := key.resolve_left z
      rw [z6] at hk6 hc6
      generalize udpC D (ps4 fr to 17 D.length) = K at *
      simp (maxSteps := 3000000) only [go_sem, ↓reduceIte, reduceCtorEq, upd_ne, back_new (no_at), Nat.reduceAdd, Nat.reduceEqDiff, Nat.reduceMul, Nat.reduceSub, Nat.reduceLeDiff, Nat.reduceLT, Int.reduceToNat, Int.reduceLE, Int.reduceLT, Int.reduceEq, UInt8.reduceOfNat, List.getElem?_map, Int.toNat_natCast, hw, ha, hb, c, h1, hfr, hto, wp, wq, hq6, hP, hTl', e1, hyl', hs4, hs6, hk4, hk6, hc4, z, decide_true, beq_self_eq_true]
  by_cases p1 : (pt : Int) = 1
  · have hpt : pt = 1 := by omega
    subst hpt
    have h1 : S.ev (n + 3 + 4) id_fault_Inside4 [.str s] none = some (.tup [ip4LV tos id ttl 1 0 df false fr to op D, .int .i64 (D.length : Int), .nili], none) := h1
    have hq6 : S.ev (n + 1 + 6) id_fault_Quote6 [ip4LV tos id ttl 1 0 df false fr to op D, .int .i64 (D.length : Int), .agg [.bytes a, .int .i64 (P0 : Int)], .agg [.bytes b, .int .i64 (Q0 : Int)]] none = some (.tup [.str B, .nili], none) := hq6
    generalize (proto46 ((1 : Nat) : Int)).1 = P6 at *
    by_cases r : D.length < 8 ∨ sumS D ≠ 0
    · obtain ⟨c4, hc4, hp4⟩ := ev_icmp4N hS (n + 3) (s := D) (by omega) r
      have he4 := ev_echo4 hS (n + 6) (k := 0) (c := 0) (r := 0) (d := []) rfl (.inr rfl) (by omega)
      generalize tn6 ((1 : Nat) : Int) 0 D fr to a b D.length P0 Q0 = T at *
      simp (maxSteps := 3000000) only [go_sem, ↓reduceIte, reduceCtorEq, upd_ne, back_new (no_at), Nat.reduceAdd, Nat.reduceEqDiff, Nat.reduceMul, Nat.reduceSub, Nat.reduceLeDiff, Nat.reduceLT, Int.reduceToNat, Int.reduceLE, Int.reduceLT, Int.reduceEq, UInt8.reduceOfNat, List.getElem?_map, Int.toNat_natCast, hw, ha, hb, c, h1, hfr, hto, wp, wq, hq6, hP, hTl', e1, hyl', hp4, he4, decide_true, beq_self_eq_true]
    · have r8 : 8 ≤ D.length := Nat.not_lt.1 fun q => r (.inl q)
      have r0 : sumS D = 0 := Classical.not_not.1 fun q => r (.inr q)
      have hp4 := ev_icmp4P hS (n + 3) (s := D) r8 (by omega) r0
      have hx : numN ((D.drop 4).take 4) < 4294967296 := num4_lt (D.drop 4)
      have hb0 := bAt_le D 0
      by_cases hE : isE4 D = true
      · have hT : tn6 ((1 : Nat) : Int) 0 D fr to a b D.length P0 Q0 = ecF D [] (ps6 a b 58 D.length) (k46 (bAt D 0)) P0 := by
          unfold tn6; rw [if_neg (by omega), if_neg (by omega), if_pos ⟨rfl, hE⟩]
        rw [hT] at hP hTl'
        obtain ⟨s1, s2, s3, s4, s5, s6⟩ := echo_kept (D := D) (a := a) (b := b) (p := P0) ha hb (by omega) r8 hE r0 (by omega)
        have hE' := hE
        unfold isE4 at hE'
        simp only [Bool.and_eq_true, decide_eq_true_eq] at hE'
        have k1 : ((bAt D 1 : Nat) : Int) = 0 := by omega
        have k2 : ((bAt D 0 : Nat) : Int) = 8 ∨ ((bAt D 0 : Nat) : Int) = 0 := by omega
        have he4 := ev_echo4 hS (n + 6) (k := (bAt D 0 : Nat)) (c := (bAt D 1 : Nat)) (r := (numN ((D.drop 4).take 4) : Nat)) (d := D.drop 8) k1 k2 (by omega)
        have hs6 := ev_Pseudo6 hS (n + 4) a b 58 D.length ha hb (by omega) (by omega)
        have hs6 : S.ev (n + 7) id_sum_Pseudo6 [.bytes a, .bytes b, .int .i64 58, .int .i64 (D.length : Int)] none = _ := hs6
        have hpl := (sum_ps6 (a := a) (b := b) (next := 58) (len := D.length) ha hb (by omega) (by omega)).2
        generalize ecF D [] (ps6 a b 58 D.length) (k46 (bAt D 0)) P0 = T at *
        generalize ps6 a b 58 D.length = PS at *
        have hp6 := ev_icmp6P hS (n + 3) (s := T) (ps := PS) (by omega) (by omega) (by omega) s1
        rw [s2, s3, s5] at hp6
        have hx6 : numN ((T.drop 4).take 4) < 4294967296 := num4_lt (T.drop 4)
        have k46v : ((k46 (bAt D 0) : Nat) : Int) = 128 ∨ ((k46 (bAt D 0) : Nat) : Int) = 129 := by unfold k46; split; · exact .inl rfl
                                                                                                    · exact .inr rfl
        have he6 := ev_echo6 hS (n + 6) (k := (k46 (bAt D 0) : Nat)) (c := 0) (r := (numN ((T.drop 4).take 4) : Nat)) (d := D.drop 8) rfl k46v (by omega)
        have hid : ((numN ((T.drop 4).take 4) : Nat) : Int) / 65536 = (P0 : Int) := by omega
        rw [hid] at he6
        have hask : decide (((k46 (bAt D 0) : Nat) : Int) = 128) = decide (((bAt D 0 : Nat) : Int) = 8) := by
          rw [decide_eq_decide]; unfold k46; split <;> omega
        rw [hask] at he6
        have hp6 : S.ev (n + 3 + 4) id_icmp6_Parse [.str T, .str PS] none = some (.tup [msgLV (k46 (bAt D 0) : Nat) 0 (numN ((T.drop 4).take 4) : Nat) (D.drop 8), .nili], none) := hp6
        generalize ((numN ((T.drop 4).take 4) : Nat) : Int) = N6 at *
        generalize ((numN ((D.drop 4).take 4) : Nat) : Int) = N4 at *
        generalize ((k46 (bAt D 0) : Nat) : Int) = K6 at *
        generalize decide (((bAt D 0 : Nat) : Int) = 8) = ask at *
        simp (maxSteps := 3000000) only [go_sem, ↓reduceIte, reduceCtorEq, upd_ne, back_new (no_at), Nat.reduceAdd, Nat.reduceEqDiff, Nat.reduceMul, Nat.reduceSub, Nat.reduceLeDiff, Nat.reduceLT, Int.reduceToNat, Int.reduceLE, Int.reduceLT, Int.reduceEq, UInt8.reduceOfNat, List.getElem?_map, Int.toNat_natCast, hw, ha, hb, c, h1, hfr, hto, wp, wq, hq6, hP, hTl', e1, hyl', hp4, he4, hs6, hp6, he6, decide_true, beq_self_eq_true]
        try (cases ask <;> rfl)
      · have hT : tn6 ((1 : Nat) : Int) 0 D fr to a b D.length P0 Q0 = D := by
          unfold tn6; rw [if_neg (by omega), if_neg (by omega), if_neg (fun q => hE q.2)]
        rw [hT] at hP
        have hno : ¬ (((bAt D 1 : Nat) : Int) = 0 ∧ (((bAt D 0 : Nat) : Int) = 8 ∨ ((bAt D 0 : Nat) : Int) = 0)) := by
          intro q
          apply hE
          unfold isE4
          simp only [Bool.and_eq_true, decide_eq_true_eq]
          omega
        have he4 := ev_echo4_no hS (n + 6) (k := (bAt D 0 : Nat)) (c := (bAt D 1 : Nat)) (r := (numN ((D.drop 4).take 4) : Nat)) (d := D.drop 8) hno
        simp (maxSteps := 3000000) only [go_sem, ↓reduceIte, reduceCtorEq, upd_ne, back_new (no_at), Nat.reduceAdd, Nat.reduceEqDiff, Nat.reduceMul, Nat.reduceSub, Nat.reduceLeDiff, Nat.reduceLT, Int.reduceToNat, Int.reduceLE, Int.reduceLT, Int.reduceEq, UInt8.reduceOfNat, List.getElem?_map, Int.toNat_natCast, hw, ha, hb, c, h1, hfr, hto, wp, wq, hq6, hP, e1, hyl', hp4, he4, decide_true, beq_self_eq_true]
  have hT : tn6 (pt : Int) 0 D fr to a b D.length P0 Q0 = D := by
    unfold tn6; rw [if_neg (by omega), if_neg (by omega), if_neg (fun q => p1 q.1)]
  rw [hT] at hP
  generalize (proto46 (pt : Int)).1 = P6 at *
  simp (maxSteps := 3000000) only [go_sem, ↓reduceIte, reduceCtorEq, upd_ne, back_new (no_at), Nat.reduceAdd, Nat.reduceEqDiff, Nat.reduceMul, Nat.reduceSub, Nat.reduceLeDiff, Nat.reduceLT, Int.reduceToNat, Int.reduceLE, Int.reduceLT, Int.reduceEq, UInt8.reduceOfNat, List.getElem?_map, Int.toNat_natCast, hw, ha, hb, c, h1, hfr, hto, wp, wq, hq6, hP, e1, hyl', p6, p17, p1, decide_true, beq_self_eq_true]
end
end Go.Ev
