/- Part 7 of a proof: what the functions yield. It stands by itself; no condition. -/
import Derived.Test.YtbdkfdkmefebnaaGreatDoorE6
import Derived.Test.YtbdkfdkmefebnaaGreatDoorE5
namespace Go.Ev
set_option linter.unusedSimpArgs false
set_option linter.unusedVariables false
set_option maxRecDepth 10000
set_option maxHeartbeats 8000000
theorem echo_kept {D a b : List UInt8} {p : Nat} (ha : a.length = 16) (hb : b.length = 16) (hD : D.length < 65536) (h8 : 8 ≤ D.length) (hE : isE4 D = true) (h0 : sumS D = 0) (hp : p < 65536) :
    sumS (ps6 a b 58 D.length ++ ecF D [] (ps6 a b 58 D.length) (k46 (bAt D 0)) p) = 0 ∧ bAt (ecF D [] (ps6 a b 58 D.length) (k46 (bAt D 0)) p) 0 = k46 (bAt D 0) ∧ bAt (ecF D [] (ps6 a b 58 D.length) (k46 (bAt D 0)) p) 1 = 0 ∧
    numN (((ecF D [] (ps6 a b 58 D.length) (k46 (bAt D 0)) p).drop 4).take 4) / 65536 = p ∧ (ecF D [] (ps6 a b 58 D.length) (k46 (bAt D 0)) p).drop 8 = D.drop 8 ∧ (ecF D [] (ps6 a b 58 D.length) (k46 (bAt D 0)) p).length = D.length := by
  obtain ⟨e2, l2⟩ := sum_ps6 (next := 58) (len := D.length) ha hb (by omega) hD
  have hk : k46 (bAt D 0) < 256 ∧ k46 (bAt D 0) % 256 = k46 (bAt D 0) := by unfold k46; split <;> omega
  obtain ⟨y, hy, hf, hye⟩ := echo_form (D := D) (o := []) (w := ps6 a b 58 D.length) (k := k46 (bAt D 0)) (id := p) h8
  have hlen : (ecF D [] (ps6 a b 58 D.length) (k46 (bAt D 0)) p).length = D.length := ecF_len (by omega)
  generalize k46 (bAt D 0) = k at *
  have hx := wAt_le D 2
  have ho2 : (D.take 2).length = 2 := by rw [List.length_take]; omega
  have ho4 : ((D.drop 4).take 2).length = 2 := by rw [List.length_take, List.length_drop]; omega
  have m := (upY_mod (x := wAt D 2) (o := [] ++ (D.take 2 ++ (D.drop 4).take 2)) (w := ps6 a b 58 D.length ++ (beB 1 k ++ (0 :: beB 2 p))) (nn := false) hx (by simp only [List.nil_append, List.length_append]; omega)).1
  rw [← hye] at m
  rw [hf] at *
  have kk : (beB 1 k ++ (0 :: beB 2 p) : List UInt8) = [UInt8.ofNat k, 0] ++ beB 2 p := by rw [beB1]; rfl
  have sk : sumAt 0 ([UInt8.ofNat k, 0] : List UInt8) = 256 * k := by
    simp only [sumAt, Nat.zero_mod, if_true, UInt8.toNat_ofNat']
    have : k % 2 ^ 8 = k := hk.2
    rw [this]; simp; omega
  have f1 : (beB 1 k ++ (0 :: (beB 2 y ++ (beB 2 p ++ D.drop 6))) : List UInt8) = [UInt8.ofNat k, 0] ++ (beB 2 y ++ (beB 2 p ++ D.drop 6)) := by rw [beB1]; rfl
  have d46 : (D.drop 4).take 2 ++ D.drop 6 = D.drop 4 := by
    have := List.take_append_drop 2 (D.drop 4)
    rw [List.drop_drop] at this
    exact this
  have cD : D = D.take 2 ++ ([D.getD 2 0, D.getD 3 0] ++ ((D.drop 4).take 2 ++ D.drop 6)) := by
    rw [d46]; exact cut2 (D := D) (i := 2) (by omega)
  have m1 : sumAt 0 (ps6 a b 58 D.length ++ ([UInt8.ofNat k, 0] ++ beB 2 p)) = (sumAt 0 (a ++ b) + (58 + D.length)) + (256 * k + p) := by rw [sumE (by omega), sumE (by simp), sk, sum_beB2 hp, e2]
  have m2 : sumAt 0 ([] ++ (D.take 2 ++ (D.drop 4).take 2)) = sumAt 0 (D.take 2) + sumAt 0 ((D.drop 4).take 2) := by rw [List.nil_append, sumE (by omega)]
  have m3 : sumAt 0 (ps6 a b 58 D.length ++ ([UInt8.ofNat k, 0] ++ (beB 2 y ++ (beB 2 p ++ D.drop 6)))) = (sumAt 0 (a ++ b) + (58 + D.length)) + (256 * k + (y + (p + sumAt 0 (D.drop 6)))) := by
    rw [sumE (by omega), sumE (a := [UInt8.ofNat k, 0]) (by simp), sumE (a := beB 2 y) (by rw [beB_len]), sumE (a := beB 2 p) (by rw [beB_len]), sk, sum_beB2 hy, sum_beB2 hp, e2]
  refine ⟨?_, ?_, ?_, ?_, ?_, hlen⟩
  · rw [right_iff] at h0 ⊢
    rw [kk] at m
    rw [m1, m2] at m
    rw [f1, m3]
    have sD : sumAt 0 D = sumAt 0 (D.take 2) + (wAt D 2 + (sumAt 0 ((D.drop 4).take 2) + sumAt 0 (D.drop 6))) := by
      conv => lhs; rw [cD]
      rw [sumE (by omega), sumE (by simp), sumE (by omega), sum_wAt]
    rw [sD] at h0
    generalize sumAt 0 (D.take 2) = A1 at *
    generalize sumAt 0 ((D.drop 4).take 2) = A2 at *
    generalize sumAt 0 (D.drop 6) = A3 at *
    generalize sumAt 0 (a ++ b) = A4 at *
    omega
  · rw [f1]; show (UInt8.ofNat k).toNat = k; rw [UInt8.toNat_ofNat']; exact hk.2
  · rw [f1]; rfl
  · have : ((beB 1 k ++ (0 :: (beB 2 y ++ (beB 2 p ++ D.drop 6)))).drop 4).take 4 = [UInt8.ofNat (p / 256), UInt8.ofNat p] ++ (D.drop 6).take 2 := by
      rw [beB1, beB2, beB2]; rfl
    rw [this]
    obtain ⟨c0, c1, r, hr⟩ : ∃ c0 c1 r, D.drop 6 = c0 :: c1 :: r := by
      match h : D.drop 6, (show 2 ≤ (D.drop 6).length by rw [List.length_drop]; omega) with
      | c0 :: c1 :: r, _ => exact ⟨c0, c1, r, rfl⟩
    rw [hr]
    show numN [UInt8.ofNat (p / 256), UInt8.ofNat p, c0, c1] / 65536 = p
    have h1 := c0.toNat_lt
    have h2 := c1.toNat_lt
    simp only [numN, List.foldl_cons, List.foldl_nil, UInt8.toNat_ofNat']
    omega
  · have : (beB 1 k ++ (0 :: (beB 2 y ++ (beB 2 p ++ D.drop 6)))).drop 8 = (D.drop 6).drop 2 := by
      rw [beB1, beB2, beB2]; rfl
    rw [this, List.drop_drop]
theorem q6_whole {tos id ttl pt : Nat} {fr to D a b : List UInt8} {claim : Nat} {p q : Int} (hc : claim = D.length) :
    q6B (tos : Int) (id : Int) (ttl : Int) (pt : Int) 0 false fr to D a b claim p q = by6 (tos : Int) 0 (ttl : Int) a b [] false 0 0 false (proto46 (pt : Int)).1 (tn6 (pt : Int) 0 D fr to a b claim p.toNat q.toNat) := by
  subst hc
  have hl := @tn6_len (pt : Int) 0 D fr to a b D.length p.toNat q.toNat
  unfold q6B by6 q6H q6A q6N isF bd6
  simp only [Bool.false_or, ne_eq, not_true, decide_false, Bool.false_eq_true, if_false, exB, nxE, hl, List.append_assoc, List.nil_append, Int.toNat_zero, Nat.add_zero]
theorem w_ok {tos ttl : Nat} {pt : Int} {T : List UInt8} (ht : tos ≤ 255) (hl : ttl ≤ 255) (hp : ¬ isE pt ∧ pt ≠ 44 ∧ 0 ≤ pt ∧ pt ≤ 255) (hT : T.length ≤ 65535) : Ok6 (tos : Int) 0 (ttl : Int) [] false 0 0 false pt T :=
  why6_zero.1 (by
    unfold why6
    rw [if_pos ⟨by omega, by omega, by omega, by omega, by omega, rfl⟩, if_pos ⟨rfl, fun _ => ⟨hp.1, hp.2.1⟩⟩, if_pos ⟨rfl, by rw [if_neg Bool.false_ne_true]; exact ⟨rfl, rfl, rfl⟩⟩, if_pos ⟨by simp, by omega, by unfold bh6; simp only [szE, Bool.false_eq_true, if_false]; omega⟩])
section
variable {S : Sys} (hS : Has S) (n : Nat)
include hS
theorem ev_Pseudo4 (a b : List UInt8) (x l : Nat) (ha : a.length = 4) (hb : b.length = 4) (hx : x ≤ 255) (hl : l < 65536) :
    S.ev (n + 3) id_sum_Pseudo4 [.bytes a, .bytes b, .int .i64 (x : Int), .int .i64 (l : Int)] none = some (.str (ps4 a b x l), none) := by
  rw [Sys.step hS.h_sum_Pseudo4, F_sum_Pseudo4_eq]
  unfold F_sum_Pseudo4
  have h1 : S.ev (n + 2) id_sum_big [.int .i64 (l : Int), .int .i64 2] none = some (.str (beB 2 l), none) := ev_sbig hS n l 2 (by omega) (by simp; omega)
  have h2 : S.ev (n + 2) id_sum_big [.int .i64 (x : Int), .int .i64 1] none = some (.str (beB 1 x), none) := ev_sbig hS n x 1 (by omega) (by simp; omega)
  have hl := beB_len
  have t3 : a.take 4 = a := List.take_of_length_le (by omega)
  have t4 : b.take 4 = b := List.take_of_length_le (by omega)
  have x1 : 4 + 4 ≤ maxStr := by decide
  have x2 : 8 + 1 ≤ maxStr := by decide
  have x3 : 9 + 1 ≤ maxStr := by decide
  have x4 : 10 + 2 ≤ maxStr := by decide
  (try simp only [guard_merge, or_merge, and_merge, or_pick, and_pick, guard_or, guard_and]); simp only [to_ob]
  unfold ps4
  simp only [go_sem, ↓reduceIte, reduceCtorEq, upd_ne, back_new (no_at), Nat.reduceAdd, Nat.reduceEqDiff, Nat.reduceMul, Nat.reduceSub, Nat.reduceLeDiff, Nat.reduceLT, Int.reduceToNat, Int.reduceLE, Int.reduceLT, Int.reduceEq, UInt8.reduceOfNat, List.getElem?_map, Int.toNat_natCast, ha, hb, t3, t4, h1, h2, hl, x1, x2, x3, x4, toBytes_byteLV, List.length_append, List.append_assoc, List.cons_append, List.nil_append]
theorem ev_icmp4fault (c : Int) : S.ev (n + 1) id_icmp4_fault [.int .i64 c] none = some (faultLV c, none) := by
  rw [Sys.step hS.h_icmp4_fault, F_icmp4_fault_eq]
  unfold F_icmp4_fault
  (try simp only [guard_merge, or_merge, and_merge, or_pick, and_pick, guard_or, guard_and]); simp only [to_ob]
  simp only [go_sem, ↓reduceIte, reduceCtorEq, upd_ne, back_new (no_at), Nat.reduceAdd, Nat.reduceEqDiff, Nat.reduceMul, Nat.reduceSub, Nat.reduceLeDiff, Nat.reduceLT, Int.reduceToNat, Int.reduceLE, Int.reduceLT, Int.reduceEq, UInt8.reduceOfNat]
theorem ev_icmp4N {s : List UInt8} (hs : s.length ≤ 1000000) (h : s.length < 8 ∨ sumS s ≠ 0) : ∃ c, c ≠ 0 ∧ S.ev (n + 4) id_icmp4_Parse [.str s] none = some (.tup [msgLV 0 0 0 [], faultLV c], none) := by
  rw [Sys.step hS.h_icmp4_Parse, F_icmp4_Parse_eq]
  unfold F_icmp4_Parse
  have f7 := ev_icmp4fault hS (n + 2) 7
  have f9 := ev_icmp4fault hS (n + 2) 9
  (try simp only [guard_merge, or_merge, and_merge, or_pick, and_pick, guard_or, guard_and]); simp only [to_ob]
  by_cases c1 : s.length < 8
  · have c1' : (s.length : Int) < 8 := by omega
    refine ⟨7, by decide, ?_⟩
    simp only [go_sem, ↓reduceIte, reduceCtorEq, upd_ne, back_new (no_at), Nat.reduceAdd, Nat.reduceEqDiff, Nat.reduceMul, Nat.reduceSub, Nat.reduceLeDiff, Nat.reduceLT, Int.reduceToNat, Int.reduceLE, Int.reduceLT, Int.reduceEq, UInt8.reduceOfNat, List.getElem?_map, Int.toNat_natCast, c1', f7]
  · have c1' : ¬ (s.length : Int) < 8 := by omega
    have h0 : sumS s ≠ 0 := h.resolve_left c1
    have hR := ev_Right1 hS n s (by omega)
    rw [decide_eq_false h0] at hR
    refine ⟨9, by decide, ?_⟩
    simp only [go_sem, ↓reduceIte, reduceCtorEq, upd_ne, back_new (no_at), Nat.reduceAdd, Nat.reduceEqDiff, Nat.reduceMul, Nat.reduceSub, Nat.reduceLeDiff, Nat.reduceLT, Int.reduceToNat, Int.reduceLE, Int.reduceLT, Int.reduceEq, UInt8.reduceOfNat, List.getElem?_map, Int.toNat_natCast, c1', hR, f9]
theorem ev_echo4_no {k c r : Int} {d : List UInt8} (h : ¬ (c = 0 ∧ (k = 8 ∨ k = 0))) : S.ev (n + 1) id_icmp4_Echo [msgLV k c r d] none = some (.tup [.int .i64 0, .bool false, .bool false], none) := by
  rw [Sys.step hS.h_icmp4_Echo, F_icmp4_Echo_eq]
  unfold F_icmp4_Echo
  (try simp only [guard_merge, or_merge, and_merge, or_pick, and_pick, guard_or, guard_and]); simp only [to_ob]
  by_cases c1 : c = 0
  · have c2 : ¬ k = 8 := fun q => h ⟨c1, .inl q⟩
    have c3 : ¬ k = 0 := fun q => h ⟨c1, .inr q⟩
    simp only [go_sem, ↓reduceIte, reduceCtorEq, upd_ne, back_new (no_at), Nat.reduceAdd, Nat.reduceEqDiff, Nat.reduceMul, Nat.reduceSub, Nat.reduceLeDiff, Nat.reduceLT, Int.reduceToNat, Int.reduceLE, Int.reduceLT, Int.reduceEq, UInt8.reduceOfNat, List.getElem?_map, Int.toNat_natCast, c1, c2, c3]
  · simp only [go_sem, ↓reduceIte, reduceCtorEq, upd_ne, back_new (no_at), Nat.reduceAdd, Nat.reduceEqDiff, Nat.reduceMul, Nat.reduceSub, Nat.reduceLeDiff, Nat.reduceLT, Int.reduceToNat, Int.reduceLE, Int.reduceLT, Int.reduceEq, UInt8.reduceOfNat, List.getElem?_map, Int.toNat_natCast, c1]
theorem ev_echo4 {k c r : Int} {d : List UInt8} (hc : c = 0) (hk : k = 8 ∨ k = 0) (hr : 0 ≤ r ∧ r < 4294967296) : S.ev (n + 1) id_icmp4_Echo [msgLV k c r d] none = some (.tup [.int .i64 (r / 65536), .bool (decide (k = 8)), .bool true], none) := by
  rw [Sys.step hS.h_icmp4_Echo, F_icmp4_Echo_eq]
  unfold F_icmp4_Echo
  subst hc
  have e1 : Int.fdiv r (2 ^ min 16 32) = r / 65536 := by
    rw [show min 16 32 = 16 from rfl, Int.fdiv_eq_ediv_of_nonneg _ (by decide)]; rfl
  have e2 : IntKind.u32.wrap (r / 65536) = r / 65536 := by
    obtain ⟨R, rfl⟩ := Int.eq_ofNat_of_zero_le hr.1
    rw [show ((R : Int) / 65536) = ((R / 65536 : Nat) : Int) from rfl]; exact wrap_u32 (by omega)
  have e3 : IntKind.i64.wrap (r / 65536) = r / 65536 := wrap_id (by omega) (by omega)
  (try simp only [guard_merge, or_merge, and_merge, or_pick, and_pick, guard_or, guard_and]); simp only [to_ob]
  rcases hk with rfl | rfl
  · simp only [go_sem, ↓reduceIte, reduceCtorEq, upd_ne, back_new (no_at), Nat.reduceAdd, Nat.reduceEqDiff, Nat.reduceMul, Nat.reduceSub, Nat.reduceLeDiff, Nat.reduceLT, Int.reduceToNat, Int.reduceLE, Int.reduceLT, Int.reduceEq, UInt8.reduceOfNat, List.getElem?_map, Int.toNat_natCast, e1, e2, e3]; try rfl
  · simp only [go_sem, ↓reduceIte, reduceCtorEq, upd_ne, back_new (no_at), Nat.reduceAdd, Nat.reduceEqDiff, Nat.reduceMul, Nat.reduceSub, Nat.reduceLeDiff, Nat.reduceLT, Int.reduceToNat, Int.reduceLE, Int.reduceLT, Int.reduceEq, UInt8.reduceOfNat, List.getElem?_map, Int.toNat_natCast, e1, e2, e3]; try rfl
theorem ev_echo6 {k c r : Int} {d : List UInt8} (hc : c = 0) (hk : k = 128 ∨ k = 129) (hr : 0 ≤ r ∧ r < 4294967296) : S.ev (n + 1) id_icmp6_Echo [msgLV k c r d] none = some (.tup [.int .i64 (r / 65536), .bool (decide (k = 128)), .bool true], none) := by
  rw [Sys.step hS.h_icmp6_Echo, F_icmp6_Echo_eq]
  unfold F_icmp6_Echo
  subst hc
  have e1 : Int.fdiv r (2 ^ min 16 32) = r / 65536 := by
    rw [show min 16 32 = 16 from rfl, Int.fdiv_eq_ediv_of_nonneg _ (by decide)]; rfl
  have e2 : IntKind.u32.wrap (r / 65536) = r / 65536 := by
    obtain ⟨R, rfl⟩ := Int.eq_ofNat_of_zero_le hr.1
    rw [show ((R : Int) / 65536) = ((R / 65536 : Nat) : Int) from rfl]; exact wrap_u32 (by omega)
  have e3 : IntKind.i64.wrap (r / 65536) = r / 65536 := wrap_id (by omega) (by omega)
  (try simp only [guard_merge, or_merge, and_merge, or_pick, and_pick, guard_or, guard_and]); simp only [to_ob]
  rcases hk with rfl | rfl
  · simp only [go_sem, ↓reduceIte, reduceCtorEq, upd_ne, back_new (no_at), Nat.reduceAdd, Nat.reduceEqDiff, Nat.reduceMul, Nat.reduceSub, Nat.reduceLeDiff, Nat.reduceLT, Int.reduceToNat, Int.reduceLE, Int.reduceLT, Int.reduceEq, UInt8.reduceOfNat, List.getElem?_map, Int.toNat_natCast, e1, e2, e3]; try rfl
  · simp only [go_sem, ↓reduceIte, reduceCtorEq, upd_ne, back_new (no_at), Nat.reduceAdd, Nat.reduceEqDiff, Nat.reduceMul, Nat.reduceSub, Nat.reduceLeDiff, Nat.reduceLT, Int.reduceToNat, Int.reduceLE, Int.reduceLT, Int.reduceEq, UInt8.reduceOfNat, List.getElem?_map, Int.toNat_natCast, e1, e2, e3]; try rfl
end
end Go.Ev

namespace Go.Ev
set_option linter.unusedSimpArgs false
set_option linter.unusedVariables false
set_option maxRecDepth 10000
set_option maxHeartbeats 8000000
theorem tcp_keptG {D O W P Q : List UInt8} {p q K : Nat} (hO : O.length % 2 = 0) (hW : W.length % 2 = 0) (hP : P.length % 2 = 0) (hQ : Q.length % 2 = 0) (eP : sumAt 0 P = sumAt 0 O + K) (eQ : sumAt 0 Q = sumAt 0 W + K) (hK : 0 < K)
    (h : tcpC D P = 0) : tcpC (poF false D O W p q) Q = 0 := by
  rw [tcpC_zero] at h ⊢
  obtain ⟨hK1, h0⟩ := h
  have h20 := tcpK_len hK1
  have hh : (beB 2 p ++ beB 2 q).length = 4 := by simp only [List.length_append, beB_len]
  rw [poF_form (by omega)]
  unfold upF
  rw [if_neg (by rw [rp4_len hh (by omega)]; simp; omega), if_neg (by simp)]
  simp only [Bool.false_eq_true, if_false]
  rw [rp4_w hh (by omega)]
  exact ⟨tcpK_turn hh hK1, keep_sum (by omega) (by omega) (by omega) hh hO hW hP hQ eP eQ hK h0⟩
theorem udp_keptG {D O W P Q : List UInt8} {p q K : Nat} (hO : O.length % 2 = 0) (hW : W.length % 2 = 0) (hP : P.length % 2 = 0) (hQ : Q.length % 2 = 0) (eP : sumAt 0 P = sumAt 0 O + K) (eQ : sumAt 0 Q = sumAt 0 W + K) (hK : 0 < K)
    (h : udpC D P = 0) : udpC (poF true D O W p q) Q = 0 := by
  have hlen : (poF true D O W p q).length = D.length := poF_len
  by_cases h8 : D.length < 8
  · rw [udpC_short h8] at h; cases h
  have hh : (beB 2 p ++ beB 2 q).length = 4 := by simp only [List.length_append, beB_len]
  have hf := poF_form (udp := true) (D := D) (o := O) (w := W) (p := p) (q := q) (by omega)
  have h4 := rp4_w (h := beB 2 p ++ beB 2 q) (X := D) (i := 4) hh (by omega)
  have h6 := rp4_w (h := beB 2 p ++ beB 2 q) (X := D) (i := 6) hh (by omega)
  have hrl := rp4_len (h := beB 2 p ++ beB 2 q) (X := D) hh (by omega)
  rw [udpC_eq (by omega)] at h
  by_cases c1 : wAt D 4 = D.length
  case neg => rw [if_pos c1] at h; cases h
  rw [if_neg (by simpa using c1)] at h
  by_cases c2 : wAt D 6 = 0
  · rw [if_pos c2] at h; cases h
  rw [if_neg c2] at h
  by_cases c3 : sumS (P ++ D) = 0
  case neg => rw [if_pos c3] at h; cases h
  have hx := wAt_le D 6
  have hY := upY_back (x := wAt D 6) (o := O ++ D.take 4) (w := W ++ (beB 2 p ++ beB 2 q)) hx c2 (by rw [List.length_append, List.length_take]; omega) (by rw [List.length_append]; omega)
  have : poF true D O W p q = putW (rp4 (beB 2 p ++ beB 2 q) D) 6 (upY (wAt D 6) (O ++ D.take 4) (W ++ (beB 2 p ++ beB 2 q)) true) := by
    rw [hf]; unfold upF; simp only [if_true]
    rw [if_neg (by omega), if_neg (fun q => c2 (by rw [← h6]; exact q.2)), h6]; rfl
  have hs := keep_sum (D := D) (h := beB 2 p ++ beB 2 q) (O := O) (W := W) (P := P) (Q := Q) (i := 6) (K := K) (nn := true) (by omega) (by omega) (by omega) hh hO hW hP hQ eP eQ hK c3
  rw [← this] at hs
  have w6 : wAt (poF true D O W p q) 6 ≠ 0 := by rw [this, wAt_putW (by omega) (by omega)]; exact hY.1
  have w4 : wAt (poF true D O W p q) 4 = D.length := by
    rw [this, ← c1, ← h4]
    have h1 : ((rp4 (beB 2 p ++ beB 2 q) D).take 6).length = 6 := by rw [List.length_take]; omega
    unfold putW wAt
    rw [getD_lo (by omega), getD_lo (by omega), getD_take (by omega), getD_take (by omega)]
  rw [udpC_eq (by omega), w4, hlen, if_neg (by simp), if_neg w6, if_neg (by simpa using hs)]
def bareS (l : List UInt8) : Bool := l.all fun c => decide (c = 0)
theorem sum_bare : ∀ (l : List UInt8) (p : Nat), bareS l = true ↔ sumAt p l = 0
  | [], p => by simp [bareS, sumAt]
  | c :: l, p => by
    have ih := sum_bare l (p + 1)
    have hc : bareS (c :: l) = (decide (c = 0) && bareS l) := rfl
    rw [hc, Bool.and_eq_true, ih, decide_eq_true_iff]
    have e : c = 0 ↔ c.toNat = 0 := by rw [← UInt8.toNat_inj]; rfl
    rw [e]
    simp only [sumAt]
    split <;> omega
theorem echo_kept4 {D fr to : List UInt8} {p : Nat} (ha : fr.length = 16) (hb : to.length = 16) (hD : D.length < 65536) (h8 : 8 ≤ D.length) (hE : isE6 D = true) (h0 : sumS (ps6 fr to 58 D.length ++ D) = 0) (hp : p < 65536) :
    bAt (ecF D (ps6 fr to 58 D.length) [] (k64 (bAt D 0)) p) 0 = k64 (bAt D 0) ∧ bAt (ecF D (ps6 fr to 58 D.length) [] (k64 (bAt D 0)) p) 1 = 0 ∧
    numN (((ecF D (ps6 fr to 58 D.length) [] (k64 (bAt D 0)) p).drop 4).take 4) / 65536 = p ∧ (ecF D (ps6 fr to 58 D.length) [] (k64 (bAt D 0)) p).drop 8 = D.drop 8 ∧ (ecF D (ps6 fr to 58 D.length) [] (k64 (bAt D 0)) p).length = D.length ∧
    (bareS (ecF D (ps6 fr to 58 D.length) [] (k64 (bAt D 0)) p) = true → bAt D 0 = 129 ∧ p = 0) ∧ (bareS (ecF D (ps6 fr to 58 D.length) [] (k64 (bAt D 0)) p) = false → sumS (ecF D (ps6 fr to 58 D.length) [] (k64 (bAt D 0)) p) = 0) := by
  obtain ⟨e2, l2⟩ := sum_ps6 (a := fr) (b := to) (next := 58) (len := D.length) ha hb (by omega) hD
  have hk : k64 (bAt D 0) < 256 ∧ k64 (bAt D 0) % 256 = k64 (bAt D 0) := by unfold k64; split <;> omega
  have hk0 : k64 (bAt D 0) = 0 → bAt D 0 = 129 := by
    unfold isE6 at hE
    simp only [Bool.and_eq_true, decide_eq_true_eq] at hE
    unfold k64; split <;> omega
  obtain ⟨y, hy, hf, hye⟩ := echo_form (D := D) (o := ps6 fr to 58 D.length) (w := []) (k := k64 (bAt D 0)) (id := p) h8
  have hlen : (ecF D (ps6 fr to 58 D.length) [] (k64 (bAt D 0)) p).length = D.length := ecF_len (by omega)
  generalize k64 (bAt D 0) = k at *
  have hx := wAt_le D 2
  have ho2 : (D.take 2).length = 2 := by rw [List.length_take]; omega
  have ho4 : ((D.drop 4).take 2).length = 2 := by rw [List.length_take, List.length_drop]; omega
  have m := (upY_mod (x := wAt D 2) (o := ps6 fr to 58 D.length ++ (D.take 2 ++ (D.drop 4).take 2)) (w := [] ++ (beB 1 k ++ (0 :: beB 2 p))) (nn := false) hx (by simp only [List.length_append]; omega)).1
  rw [← hye] at m
  rw [hf] at *
  have kk : (beB 1 k ++ (0 :: beB 2 p) : List UInt8) = [UInt8.ofNat k, 0] ++ beB 2 p := by rw [beB1]; rfl
  have sk : sumAt 0 ([UInt8.ofNat k, 0] : List UInt8) = 256 * k := by
    simp only [sumAt, Nat.zero_mod, if_true, UInt8.toNat_ofNat']
    have : k % 2 ^ 8 = k := hk.2
    rw [this]; simp; omega
  have f1 : (beB 1 k ++ (0 :: (beB 2 y ++ (beB 2 p ++ D.drop 6))) : List UInt8) = [UInt8.ofNat k, 0] ++ (beB 2 y ++ (beB 2 p ++ D.drop 6)) := by rw [beB1]; rfl
  have d46 : (D.drop 4).take 2 ++ D.drop 6 = D.drop 4 := by
    have := List.take_append_drop 2 (D.drop 4)
    rw [List.drop_drop] at this
    exact this
  have cD : D = D.take 2 ++ ([D.getD 2 0, D.getD 3 0] ++ ((D.drop 4).take 2 ++ D.drop 6)) := by
    rw [d46]; exact cut2 (D := D) (i := 2) (by omega)
  have m1 : sumAt 0 ([] ++ ([UInt8.ofNat k, 0] ++ beB 2 p)) = 256 * k + p := by rw [List.nil_append, sumE (by simp), sk, sum_beB2 hp]
  have m2 : sumAt 0 (ps6 fr to 58 D.length ++ (D.take 2 ++ (D.drop 4).take 2)) = (sumAt 0 (fr ++ to) + (58 + D.length)) + (sumAt 0 (D.take 2) + sumAt 0 ((D.drop 4).take 2)) := by rw [sumE (by omega), sumE (a := D.take 2) (by omega), e2]
  have m3 : sumAt 0 ([UInt8.ofNat k, 0] ++ (beB 2 y ++ (beB 2 p ++ D.drop 6))) = 256 * k + (y + (p + sumAt 0 (D.drop 6))) := by
    rw [sumE (a := [UInt8.ofNat k, 0]) (by simp), sumE (a := beB 2 y) (by rw [beB_len]), sumE (a := beB 2 p) (by rw [beB_len]), sk, sum_beB2 hy, sum_beB2 hp]
  have sD : sumAt 0 D = sumAt 0 (D.take 2) + (wAt D 2 + (sumAt 0 ((D.drop 4).take 2) + sumAt 0 (D.drop 6))) := by
    conv => lhs; rw [cD]
    rw [sumE (by omega), sumE (by simp), sumE (by omega), sum_wAt]
  refine ⟨?_, ?_, ?_, ?_, hlen, ?_, ?_⟩
  · rw [f1]; show (UInt8.ofNat k).toNat = k; rw [UInt8.toNat_ofNat']; exact hk.2
  · rw [f1]; rfl
  · have : ((beB 1 k ++ (0 :: (beB 2 y ++ (beB 2 p ++ D.drop 6)))).drop 4).take 4 = [UInt8.ofNat (p / 256), UInt8.ofNat p] ++ (D.drop 6).take 2 := by
      rw [beB1, beB2, beB2]; rfl
    rw [this]
    obtain ⟨c0, c1, r, hr⟩ : ∃ c0 c1 r, D.drop 6 = c0 :: c1 :: r := by
      match h : D.drop 6, (show 2 ≤ (D.drop 6).length by rw [List.length_drop]; omega) with
      | c0 :: c1 :: r, _ => exact ⟨c0, c1, r, rfl⟩
    rw [hr]
    show numN [UInt8.ofNat (p / 256), UInt8.ofNat p, c0, c1] / 65536 = p
    have h1 := c0.toNat_lt
    have h2 := c1.toNat_lt
    simp only [numN, List.foldl_cons, List.foldl_nil, UInt8.toNat_ofNat']
    omega
  · have : (beB 1 k ++ (0 :: (beB 2 y ++ (beB 2 p ++ D.drop 6)))).drop 8 = (D.drop 6).drop 2 := by
      rw [beB1, beB2, beB2]; rfl
    rw [this, List.drop_drop]
  · intro hbare
    rw [sum_bare _ 0, f1, m3] at hbare
    exact ⟨hk0 (by omega), by omega⟩
  · intro hbare
    have hpos : sumAt 0 ([UInt8.ofNat k, 0] ++ (beB 2 y ++ (beB 2 p ++ D.drop 6))) ≠ 0 := by
      intro q
      rw [← f1, ← sum_bare _ 0, hbare] at q
      cases q
    rw [right_iff] at h0 ⊢
    rw [f1]
    rw [sumE (by omega), e2, sD] at h0
    rw [kk, m1, m2] at m
    rw [m3] at hpos ⊢
    generalize sumAt 0 (D.take 2) = A1 at *
    generalize sumAt 0 ((D.drop 4).take 2) = A2 at *
    generalize sumAt 0 (D.drop 6) = A3 at *
    generalize sumAt 0 (fr ++ to) = A4 at *
    omega
theorem q4_whole {cl ho pt id : Int} {fg : Bool} {fr to D a b : List UInt8} {claim : Nat} {p q : Int} (hc : claim = D.length) :
    q4B cl ho pt 0 fg false id fr to D a b claim p q = by4 cl (q4I fg id : Nat) ho (proto64 pt).1 0 (q4D fg claim) false a b [] (tn4 pt 0 D fr to a b claim p.toNat q.toNat) := by
  subst hc
  have hl := @tn4_len pt 0 D fr to a b D.length p.toNat q.toNat
  have hH : q4H cl ho pt 0 fg false id D.length = hd4 cl (q4I fg id : Nat) ho (proto64 pt).1 0 (q4D fg D.length) false [] (tn4 pt 0 D fr to a b D.length p.toNat q.toNat) := by
    unfold q4H hd4
    rw [hl, Int.toNat_natCast, show beB 1 (64 + (20 + ([] : List UInt8).length) / 4) = [69] from rfl]
    rfl
  unfold q4B by4 q4X x4
  rw [hH]
  simp only [List.append_nil, List.nil_append]
theorem w_ok4 {cl ho pt id : Int} {fg : Bool} {T : List UInt8} (ht : 0 ≤ cl ∧ cl ≤ 255) (hl : 0 ≤ ho ∧ ho ≤ 255) (hT : T.length ≤ 65515) : Ok4 cl (q4I fg id : Nat) ho (proto64 pt).1 0 false [] T :=
  ⟨ht, hl, proto64_le pt, by unfold q4I; split <;> omega, by omega, rfl, by simp, by simp, by simp, by simp; omega⟩
section
variable {S : Sys} (hS : Has S) (n : Nat)
include hS
theorem ev_icmp6fault (c : Int) : S.ev (n + 1) id_icmp6_fault [.int .i64 c] none = some (faultLV c, none) := by
  rw [Sys.step hS.h_icmp6_fault, F_icmp6_fault_eq]
  unfold F_icmp6_fault
  (try simp only [guard_merge, or_merge, and_merge, or_pick, and_pick, guard_or, guard_and]); simp only [to_ob]
  simp only [go_sem, ↓reduceIte, reduceCtorEq, upd_ne, back_new (no_at), Nat.reduceAdd, Nat.reduceEqDiff, Nat.reduceMul, Nat.reduceSub, Nat.reduceLeDiff, Nat.reduceLT, Int.reduceToNat, Int.reduceLE, Int.reduceLT, Int.reduceEq, UInt8.reduceOfNat]
theorem ev_icmp6N {s ps : List UInt8} (hs : s.length ≤ 1000000) (hp : ps.length ≤ 1000) (h : s.length < 8 ∨ sumS (ps ++ s) ≠ 0) : ∃ c, c ≠ 0 ∧ S.ev (n + 4) id_icmp6_Parse [.str s, .str ps] none = some (.tup [msgLV 0 0 0 [], faultLV c], none) := by
  rw [Sys.step hS.h_icmp6_Parse, F_icmp6_Parse_eq]
  unfold F_icmp6_Parse
  have f7 := ev_icmp6fault hS (n + 2) 7
  have f9 := ev_icmp6fault hS (n + 2) 9
  (try simp only [guard_merge, or_merge, and_merge, or_pick, and_pick, guard_or, guard_and]); simp only [to_ob]
  by_cases c1 : s.length < 8
  · have c1' : (s.length : Int) < 8 := by omega
    refine ⟨7, by decide, ?_⟩
    simp only [go_sem, ↓reduceIte, reduceCtorEq, upd_ne, back_new (no_at), Nat.reduceAdd, Nat.reduceEqDiff, Nat.reduceMul, Nat.reduceSub, Nat.reduceLeDiff, Nat.reduceLT, Int.reduceToNat, Int.reduceLE, Int.reduceLT, Int.reduceEq, UInt8.reduceOfNat, List.getElem?_map, Int.toNat_natCast, c1', f7]
  · have c1' : ¬ (s.length : Int) < 8 := by omega
    have h0 : sumS (ps ++ s) ≠ 0 := h.resolve_left c1
    have hR := ev_Right2 hS n ps s (by omega)
    rw [decide_eq_false h0] at hR
    refine ⟨9, by decide, ?_⟩
    simp only [go_sem, ↓reduceIte, reduceCtorEq, upd_ne, back_new (no_at), Nat.reduceAdd, Nat.reduceEqDiff, Nat.reduceMul, Nat.reduceSub, Nat.reduceLeDiff, Nat.reduceLT, Int.reduceToNat, Int.reduceLE, Int.reduceLT, Int.reduceEq, UInt8.reduceOfNat, List.getElem?_map, Int.toNat_natCast, c1', hR, f9]
theorem ev_echo6_no {k c r : Int} {d : List UInt8} (h : ¬ (c = 0 ∧ (k = 128 ∨ k = 129))) : S.ev (n + 1) id_icmp6_Echo [msgLV k c r d] none = some (.tup [.int .i64 0, .bool false, .bool false], none) := by
  rw [Sys.step hS.h_icmp6_Echo, F_icmp6_Echo_eq]
  unfold F_icmp6_Echo
  (try simp only [guard_merge, or_merge, and_merge, or_pick, and_pick, guard_or, guard_and]); simp only [to_ob]
  by_cases c1 : c = 0
  · have c2 : ¬ k = 128 := fun q => h ⟨c1, .inl q⟩
    have c3 : ¬ k = 129 := fun q => h ⟨c1, .inr q⟩
    simp only [go_sem, ↓reduceIte, reduceCtorEq, upd_ne, back_new (no_at), Nat.reduceAdd, Nat.reduceEqDiff, Nat.reduceMul, Nat.reduceSub, Nat.reduceLeDiff, Nat.reduceLT, Int.reduceToNat, Int.reduceLE, Int.reduceLT, Int.reduceEq, UInt8.reduceOfNat, List.getElem?_map, Int.toNat_natCast, c1, c2, c3]
  · simp only [go_sem, ↓reduceIte, reduceCtorEq, upd_ne, back_new (no_at), Nat.reduceAdd, Nat.reduceEqDiff, Nat.reduceMul, Nat.reduceSub, Nat.reduceLeDiff, Nat.reduceLT, Int.reduceToNat, Int.reduceLE, Int.reduceLT, Int.reduceEq, UInt8.reduceOfNat, List.getElem?_map, Int.toNat_natCast, c1]
theorem ev_bare15 (l : List UInt8) (hl : l.length ≤ 1000000) : S.ev (n + 1) id_interpreterlaw15_bare [.str l] none = some (.bool (bareS l), none) := by
  rw [Sys.step hS.h_interpreterlaw15_bare, F_interpreterlaw15_bare_eq]
  unfold F_interpreterlaw15_bare
  (try simp only [guard_merge, or_merge, and_merge, or_pick, and_pick, guard_or, guard_and]); simp only [to_ob]
  simp only [go_sem, ↓reduceIte, reduceCtorEq, upd_ne, back_new (no_at), Nat.reduceAdd, Nat.reduceEqDiff, Nat.reduceMul, Nat.reduceSub, Nat.reduceLeDiff, Nat.reduceLT, Int.reduceToNat, Int.reduceLE, Int.reduceLT, Int.reduceEq, UInt8.reduceOfNat]
  refine while_rule (fun k q => ∃ i : Nat, q = ([.bool false, .int .i64 (i : Int)], noSlots) ∧ i + k = l.length ∧ bareS (l.drop i) = bareS l) l.length ⟨0, rfl, by omega, rfl⟩ ?_
  rintro k q ⟨i, rfl, hi, hr⟩
  by_cases h : i < l.length
  · have h' : (i : Int) < (l.length : Int) := by omega
    have g0 := get_def (s := l) (i := i) h
    have hd : l.drop i = l.getD i 0 :: l.drop (i + 1) := by
      rw [List.drop_eq_getElem_cons h]; congr 1; rw [List.getElem?_eq_getElem h] at g0; exact Option.some.inj g0
    rw [hd] at hr
    have hc : bareS (l.getD i 0 :: l.drop (i + 1)) = (decide (l.getD i 0 = 0) && bareS (l.drop (i + 1))) := rfl
    rw [hc] at hr
    have e1 : IntKind.i64.wrap ((i : Int) + 1) = ((i + 1 : Nat) : Int) := by rw [wrap_id (by omega) (by omega)]; omega
    have e0 : (((l.getD i 0).toNat : Nat) : Int) = 0 ↔ l.getD i 0 = 0 := by rw [← UInt8.toNat_inj]; show _ ↔ _ = 0; omega
    by_cases c1 : l.getD i 0 = 0
    · have c1' : (((l.getD i 0).toNat : Nat) : Int) = 0 := e0.2 c1
      rw [decide_eq_true c1, Bool.true_and] at hr
      simp only [go_sem, ↓reduceIte, reduceCtorEq, upd_ne, back_new (no_at), Nat.reduceAdd, Nat.reduceEqDiff, Nat.reduceMul, Nat.reduceSub, Nat.reduceLeDiff, Nat.reduceLT, Int.reduceToNat, Int.reduceLE, Int.reduceLT, Int.reduceEq, UInt8.reduceOfNat, List.getElem?_map, Int.toNat_natCast, h, h', g0, byteLV, c1', e1, Option.map_some]
      exact ⟨k - 1, by omega, i + 1, rfl, by omega, hr⟩
    · have c1' : ¬ (((l.getD i 0).toNat : Nat) : Int) = 0 := fun q => c1 (e0.1 q)
      rw [decide_eq_false c1, Bool.false_and] at hr
      rw [← hr]
      simp only [go_sem, ↓reduceIte, reduceCtorEq, upd_ne, back_new (no_at), Nat.reduceAdd, Nat.reduceEqDiff, Nat.reduceMul, Nat.reduceSub, Nat.reduceLeDiff, Nat.reduceLT, Int.reduceToNat, Int.reduceLE, Int.reduceLT, Int.reduceEq, UInt8.reduceOfNat, List.getElem?_map, Int.toNat_natCast, h, h', g0, byteLV, c1', Option.map_some, Nxt, exIf]
  · have h' : ¬ (i : Int) < (l.length : Int) := by omega
    rw [List.drop_of_length_le (by omega)] at hr
    rw [← hr]
    simp only [go_sem, ↓reduceIte, reduceCtorEq, upd_ne, back_new (no_at), Nat.reduceAdd, Nat.reduceEqDiff, Nat.reduceMul, Nat.reduceSub, Nat.reduceLeDiff, Nat.reduceLT, Int.reduceToNat, Int.reduceLE, Int.reduceLT, Int.reduceEq, UInt8.reduceOfNat, List.getElem?_map, Int.toNat_natCast, h', Nxt, exIf]
    rfl
end
end Go.Ev

namespace Go.Ev
set_option linter.unusedSimpArgs false
set_option linter.unusedVariables false
set_option maxRecDepth 10000
set_option maxHeartbeats 16000000
section
variable {S : Sys} (hS : Has S) (n : Nat)
include hS
theorem ev_SameF {cl fl ho : Int} {fr to : List UInt8} {ex : List (Int × List UInt8)} {fg : Bool} {id at' : Int} {mo : Bool} {pt : Int} {da : List UInt8} (hfr : fr.length = 16) (hto : to.length = 16) (hl : ex.length ≤ 140737488351232) :
    S.ev (n + 1) id_interpreterref04_Same [ip6LV cl fl ho fr to (extsLV ex) fg id at' mo pt da, ip6LV cl fl ho fr to (extsLV ex) fg id at' mo pt da] none = some (.bool true, none) := by
  rw [Sys.step hS.h_interpreterref04_Same, F_interpreterref04_Same_eq]
  unfold F_interpreterref04_Same
  (try simp only [guard_merge, or_merge, and_merge, or_pick, and_pick, guard_or, guard_and]); simp only [to_ob]
  simp only [go_sem, ↓reduceIte, reduceCtorEq, upd_ne, back_new (no_at), Nat.reduceAdd, Nat.reduceEqDiff, Nat.reduceMul, Nat.reduceSub, Nat.reduceLeDiff, Nat.reduceLT, Int.reduceToNat, Int.reduceLE, Int.reduceLT, Int.reduceEq, UInt8.reduceOfNat, hfr, hto, List.length_map]
  refine while_rule (fun k q => ∃ i : Nat, q = ([.bool false, .int .i64 (i : Int)], noSlots) ∧ i + k = ex.length) ex.length ⟨0, rfl, by simp⟩ ?_
  rintro k q ⟨i, rfl, hi⟩
  simp only [go_sem, ↓reduceIte, reduceCtorEq, upd_ne, back_new (no_at), Nat.reduceAdd, Nat.reduceEqDiff, Nat.reduceMul, Nat.reduceSub, Nat.reduceLeDiff, Nat.reduceLT, Int.reduceToNat, Int.reduceLE, Int.reduceLT, Int.reduceEq, UInt8.reduceOfNat, hfr, hto, List.length_map]
  refine nxt_ite (fun h => ?_) (fun h => ?_)
  · have hlt : i < ex.length := by omega
    obtain ⟨e, he⟩ : ∃ e, ex[i]? = some e := ⟨ex[i], by simp [hlt]⟩
    have e1 : IntKind.i64.wrap ((i : Int) + 1) = ((i + 1 : Nat) : Int) := by rw [wrap_id (by omega) (by omega)]; omega
    simp only [go_sem, ↓reduceIte, reduceCtorEq, upd_ne, back_new (no_at), Nat.reduceAdd, Nat.reduceEqDiff, Nat.reduceMul, Nat.reduceSub, Nat.reduceLeDiff, Nat.reduceLT, Int.reduceToNat, Int.reduceLE, Int.reduceLT, Int.reduceEq, UInt8.reduceOfNat, List.getElem?_map, Int.toNat_natCast, he, e1, hfr, hto]
    exact ⟨k - 1, by omega, i + 1, rfl, by omega⟩
  · simp only [go_sem, ↓reduceIte, reduceCtorEq, upd_ne, back_new (no_at), Nat.reduceAdd, Nat.reduceEqDiff, Nat.reduceMul, Nat.reduceSub, Nat.reduceLeDiff, Nat.reduceLT, Int.reduceToNat, Int.reduceLE, Int.reduceLT, Int.reduceEq, UInt8.reduceOfNat, hfr, hto, Nxt, exIf, beq_self_eq_true]
theorem ev_FaultWholeSix {vs : List LV} (h : fitVL [.str, .bytes 4, .bytes 4, .int .u16, .int .u16] vs) : S.ev (n + 8) id_interpreterlaw15_FaultWholeSix vs none = some (.bool true, none) := by
  obtain ⟨x, r, e, g1, q1⟩ := fit_cons h; clear h; subst e; obtain ⟨s, rfl, hs⟩ := fit_str g1; clear g1
  obtain ⟨x, r, e, g3, q3⟩ := fit_cons q1; clear q1; subst e; obtain ⟨a, rfl, ha⟩ := fit_bytes g3; clear g3
  obtain ⟨x, r, e, g4, q4⟩ := fit_cons q3; clear q3; subst e; obtain ⟨b, rfl, hb⟩ := fit_bytes g4; clear g4
  obtain ⟨x, r, e, g5, q5⟩ := fit_cons q4; clear q4; subst e; obtain ⟨p, rfl, hp0, hp1⟩ := fit_u16 g5; clear g5
  obtain ⟨x, r, e, g6, q6⟩ := fit_cons q5; clear q5; subst e; obtain ⟨q, rfl, hq0, hq1⟩ := fit_u16 g6; clear g6
  obtain rfl := fit_nil q6
  rw [Sys.step hS.h_interpreterlaw15_FaultWholeSix, F_interpreterlaw15_FaultWholeSix_eq]
  unfold F_interpreterlaw15_FaultWholeSix
  have hw := ev_awake15 hS n
  have wp : IntKind.i64.wrap p = p := wrap_id (by omega) (by omega)
  have wq : IntKind.i64.wrap q = q := wrap_id (by omega) (by omega)
  (try simp only [guard_merge, or_merge, and_merge, or_pick, and_pick, guard_or, guard_and]); simp only [to_ob]
  by_cases c : 70000 < (s.length : Int)
  · simp (maxSteps := 3000000) only [go_sem, ↓reduceIte, reduceCtorEq, upd_ne, back_new (no_at), Nat.reduceAdd, Nat.reduceEqDiff, Nat.reduceMul, Nat.reduceSub, Nat.reduceLeDiff, Nat.reduceLT, Int.reduceToNat, Int.reduceLE, Int.reduceLT, Int.reduceEq, UInt8.reduceOfNat, hw, ha, hb, c]
  have h1 := ev_inside6 hS (n + 3) s (by omega)
  by_cases k0 : iK6 s = 0
  case neg =>
    unfold iLV6 iC6 at h1
    rw [if_neg k0, if_neg k0] at h1
    unfold fE at h1
    rw [if_neg k0] at h1
    have hsm := ev_SameF hS (n + 6) (cl := 0) (fl := 0) (ho := 0) (fr := y16) (to := y16) (ex := []) (fg := false) (id := 0) (at' := 0) (mo := false) (pt := 0) (da := []) rfl rfl (by simp)
    have hxl : extsLV [] = .lst none [] := rfl
    rw [hxl] at hsm
    simp (maxSteps := 3000000) only [go_sem, ↓reduceIte, reduceCtorEq, upd_ne, back_new (no_at), Nat.reduceAdd, Nat.reduceEqDiff, Nat.reduceMul, Nat.reduceSub, Nat.reduceLeDiff, Nat.reduceLT, Int.reduceToNat, Int.reduceLE, Int.reduceLT, Int.reduceEq, UInt8.reduceOfNat, hw, ha, hb, c, h1, hsm]
    try rfl
  have hI := iK6_zero.1 k0
  rw [hI.lv, hI.cl, k0] at h1
  have hfr := hI.fr
  have hto := hI.to
  have hcl := pcl6_le s
  have hho := bAt_le s 7
  have hid := i6_le s
  have hat := a6_le s
  have hdl := d6_le s
  have hxl : extsLV (k6 s).2.1 = .lst none ((k6 s).2.1.map extLV) := rfl
  have hq4 := ev_quote4 hS (n + 1) (cl := pcl6 s) (fl := pfl6 s) (ho := (bAt s 7 : Nat)) (fr := pfr6 s) (to := pto6 s) (ex := (k6 s).2.1) (fg := f6 s) (id := i6 s) (at' := a6 s) (mo := m6 s) (pt := p6 s) (da := d6 s) (a := a) (b := b) (claim := c6 s) (p := p) (q := q) hfr hto ha hb hcl (by omega) hid hat hdl.1 hdl.2
  rw [hxl] at h1 hq4
  generalize hcle : c6 s = claim at *
  generalize hDe : d6 s = D at *
  generalize pfr6 s = fr at *
  generalize pto6 s = to at *
  generalize (k6 s).2.1.map extLV = ex at *
  generalize f6 s = fg at *
  generalize m6 s = mo at *
  generalize pcl6 s = tos at *
  generalize pfl6 s = fl at *
  generalize i6 s = id at *
  have hho' : (0 : Int) ≤ (bAt s 7 : Nat) ∧ ((bAt s 7 : Nat) : Int) ≤ 255 := by omega
  generalize ((bAt s 7 : Nat) : Int) = ho at *
  generalize p6 s = pt at *
  generalize a6 s = at' at *
  obtain ⟨P0, rfl⟩ := Int.eq_ofNat_of_zero_le hp0
  obtain ⟨Q0, rfl⟩ := Int.eq_ofNat_of_zero_le hq0
  have fNil : fE 0 = .nili := rfl
  rw [fNil] at h1
  by_cases cl : (claim : Int) = (D.length : Int)
  case neg => simp (maxSteps := 3000000) only [go_sem, ↓reduceIte, reduceCtorEq, upd_ne, back_new (no_at), Nat.reduceAdd, Nat.reduceEqDiff, Nat.reduceMul, Nat.reduceSub, Nat.reduceLeDiff, Nat.reduceLT, Int.reduceToNat, Int.reduceLE, Int.reduceLT, Int.reduceEq, UInt8.reduceOfNat, List.getElem?_map, Int.toNat_natCast, hw, ha, hb, c, h1, hfr, hto, cl]
  obtain rfl : claim = D.length := by omega
  have hD : D.length ≤ 65535 := hdl.2
  unfold q4R at hq4
  by_cases kz : q4K pt at' D.length P0 Q0 = 0
  case neg =>
    rw [if_neg kz] at hq4
    have hco := ev_code hS (n + 6) (q4K pt at' D.length P0 Q0)
    unfold fE at hq4 hco
    rw [if_neg kz] at hq4 hco
    have kz' : ¬ (q4K pt at' D.length P0 Q0) = 0 := kz
    simp (maxSteps := 3000000) only [go_sem, ↓reduceIte, reduceCtorEq, upd_ne, back_new (no_at), Nat.reduceAdd, Nat.reduceEqDiff, Nat.reduceMul, Nat.reduceSub, Nat.reduceLeDiff, Nat.reduceLT, Int.reduceToNat, Int.reduceLE, Int.reduceLT, Int.reduceEq, UInt8.reduceOfNat, List.getElem?_map, Int.toNat_natCast, hw, ha, hb, c, h1, hfr, hto, wp, wq, hq4, hco, kz']
    try rfl
  rw [if_pos kz, kz, fNil] at hq4
  have kN : (D.length : Int) ≤ 65515 - at' := by
    unfold q4K at kz
    split at kz; · omega
    split at kz; · omega
    split at kz; · omega
    omega
  by_cases fgm : mo = true ∨ 0 < at'
  · have hBl : ((q4B tos ho pt at' fg mo id fr to D a b D.length P0 Q0).length : Int) = ((20 + D.length : Nat) : Int) := by
      unfold q4B q4H
      simp only [List.length_append, List.length_cons, beB_len, tn4_len, ha, hb]
      omega
    have e1 : IntKind.i64.wrap (20 + (D.length : Int)) = ((20 + D.length : Nat) : Int) := by rw [wrap_id (by omega) (by omega)]; omega
    generalize q4B tos ho pt at' fg mo id fr to D a b D.length P0 Q0 = B at *
    cases mo with
    | true => simp (maxSteps := 3000000) only [go_sem, ↓reduceIte, reduceCtorEq, upd_ne, back_new (no_at), Nat.reduceAdd, Nat.reduceEqDiff, Nat.reduceMul, Nat.reduceSub, Nat.reduceLeDiff, Nat.reduceLT, Int.reduceToNat, Int.reduceLE, Int.reduceLT, Int.reduceEq, UInt8.reduceOfNat, List.getElem?_map, Int.toNat_natCast, hw, ha, hb, c, h1, hfr, hto, wp, wq, hq4, e1, hBl, decide_true, beq_self_eq_true]
    | false =>
      have hA : (0 : Int) < at' := fgm.resolve_left (by simp)
      simp (maxSteps := 3000000) only [go_sem, ↓reduceIte, reduceCtorEq, upd_ne, back_new (no_at), Nat.reduceAdd, Nat.reduceEqDiff, Nat.reduceMul, Nat.reduceSub, Nat.reduceLeDiff, Nat.reduceLT, Int.reduceToNat, Int.reduceLE, Int.reduceLT, Int.reduceEq, UInt8.reduceOfNat, List.getElem?_map, Int.toNat_natCast, hw, ha, hb, c, h1, hfr, hto, wp, wq, hq4, e1, hBl, hA, decide_true, beq_self_eq_true]
  have hmo : mo = false := by cases mo with | false => rfl | true => exact absurd (.inl rfl) fgm
  subst hmo
  have hA0 : at' = 0 := by
    apply Classical.byContradiction
    intro q
    exact fgm (.inr (by omega))
  subst hA0
  have hqw := q4_whole (cl := tos) (ho := ho) (pt := pt) (id := id) (fg := fg) (fr := fr) (to := to) (D := D) (a := a) (b := b) (claim := D.length) (p := (P0 : Int)) (q := (Q0 : Int)) rfl
  rw [Int.toNat_natCast, Int.toNat_natCast] at hqw
  rw [hqw] at hq4
  have hTl := @tn4_len pt 0 D fr to a b D.length P0 Q0
  have ok := w_ok4 (cl := tos) (ho := ho) (pt := pt) (id := id) (fg := fg) (T := tn4 pt 0 D fr to a b D.length P0 Q0) hcl hho' (by omega)
  have hP := (ev_parse_by4 hS (n + 3) (df := q4D fg D.length) ok ha hb).1
  generalize by4 tos (q4I fg id : Nat) ho (proto64 pt).1 0 (q4D fg D.length) false a b [] (tn4 pt 0 D fr to a b D.length P0 Q0) = B at *
  have hTl' : ((tn4 pt 0 D fr to a b D.length P0 Q0).length : Int) = (D.length : Int) := by omega
  generalize ((q4I fg id : Nat) : Int) = I4 at *
  generalize q4D fg D.length = df4 at *
  have hx1 : 0 < D.length ∨ True := .inr trivial
  by_cases p6 : pt = 6
  · subst p6
    have hT : tn4 6 0 D fr to a b D.length P0 Q0 = poF false D (fr ++ to) (a ++ b) P0 Q0 := by
      unfold tn4; rw [if_neg (by omega), if_pos (.inl rfl)]; rfl
    rw [hT] at hP hTl'
    have hs4 := ev_Pseudo4 hS (n + 4) a b 6 D.length ha hb (by omega) (by omega)
    have hs6 := ev_Pseudo6 hS (n + 4) fr to 6 D.length hfr hto (by omega) (by omega)
    obtain ⟨e4, l4⟩ := sum_ps4 (fr := a) (to := b) (next := 6) (len := D.length) ha hb (by omega) (by omega)
    obtain ⟨e6, l6⟩ := sum_ps6 (a := fr) (b := to) (next := 6) (len := D.length) hfr hto (by omega) (by omega)
    have hk6 := ev_tcheck hS (n + 3) D (ps6 fr to 6 D.length) (by omega) (by omega)
    have hk4 := ev_tcheck hS (n + 3) (poF false D (fr ++ to) (a ++ b) P0 Q0) (ps4 a b 6 D.length) (by rw [poF_len]; omega) (by omega)
    have hs4 : S.ev (n + 7) id_sum_Pseudo4 [.bytes a, .bytes b, .int .i64 6, .int .i64 (D.length : Int)] none = _ := hs4
    have hs6 : S.ev (n + 7) id_sum_Pseudo6 [.bytes fr, .bytes to, .int .i64 6, .int .i64 (D.length : Int)] none = _ := hs6
    generalize (proto64 6).1 = P6 at *
    by_cases z : tcpC D (ps6 fr to 6 D.length) = 0
    · have z4 := tcp_keptG (D := D) (O := fr ++ to) (W := a ++ b) (P := ps6 fr to 6 D.length) (Q := ps4 a b 6 D.length) (p := P0) (q := Q0) (K := 6 + D.length) (by simp [hfr, hto]) (by simp [ha, hb]) (by omega) (by omega) e6 e4 (by omega) z
      rw [z, fNil] at hk6
      rw [z4, fNil] at hk4
      simp (maxSteps := 3000000) only [go_sem, ↓reduceIte, reduceCtorEq, upd_ne, back_new (no_at), Nat.reduceAdd, Nat.reduceEqDiff, Nat.reduceMul, Nat.reduceSub, Nat.reduceLeDiff, Nat.reduceLT, Int.reduceToNat, Int.reduceLE, Int.reduceLT, Int.reduceEq, UInt8.reduceOfNat, List.getElem?_map, Int.toNat_natCast, hw, ha, hb, c, h1, hfr, hto, wp, wq, hq4, hP, hTl', hs4, hs6, hk4, hk6, decide_true, beq_self_eq_true]
    · unfold fE at hk6
      rw [if_neg z] at hk6
      simp (maxSteps := 3000000) only [go_sem, ↓reduceIte, reduceCtorEq, upd_ne, back_new (no_at), Nat.reduceAdd, Nat.reduceEqDiff, Nat.reduceMul, Nat.reduceSub, Nat.reduceLeDiff, Nat.reduceLT, Int.reduceToNat, Int.reduceLE, Int.reduceLT, Int.reduceEq, UInt8.reduceOfNat, List.getElem?_map, Int.toNat_natCast, hw, ha, hb, c, h1, hfr, hto, wp, wq, hq4, hP, hTl', hs6, hk6, decide_true, beq_self_eq_true]
  by_cases p17 : pt = 17
  · subst p17
    have hT : tn4 17 0 D fr to a b D.length P0 Q0 = poF true D (fr ++ to) (a ++ b) P0 Q0 := by
      unfold tn4; rw [if_neg (by omega), if_pos (.inr rfl)]; rfl
    rw [hT] at hP hTl'
    have hs4 := ev_Pseudo4 hS (n + 4) a b 17 D.length ha hb (by omega) (by omega)
    have hs6 := ev_Pseudo6 hS (n + 4) fr to 17 D.length hfr hto (by omega) (by omega)
    obtain ⟨e4, l4⟩ := sum_ps4 (fr := a) (to := b) (next := 17) (len := D.length) ha hb (by omega) (by omega)
    obtain ⟨e6, l6⟩ := sum_ps6 (a := fr) (b := to) (next := 17) (len := D.length) hfr hto (by omega) (by omega)
    have hk6 := ev_check5 hS (n + 3) D (ps6 fr to 17 D.length) (by omega) (by omega)
    have hk4 := ev_check5 hS (n + 3) (poF true D (fr ++ to) (a ++ b) P0 Q0) (ps4 a b 17 D.length) (by rw [poF_len]; omega) (by omega)
    have hs4 : S.ev (n + 7) id_sum_Pseudo4 [.bytes a, .bytes b, .int .i64 17, .int .i64 (D.length : Int)] none = _ := hs4
    have hs6 : S.ev (n + 7) id_sum_Pseudo6 [.bytes fr, .bytes to, .int .i64 17, .int .i64 (D.length : Int)] none = _ := hs6
    generalize (proto64 17).1 = P6 at *
    by_cases z : udpC D (ps6 fr to 17 D.length) = 0
    · have z4 := udp_keptG (D := D) (O := fr ++ to) (W := a ++ b) (P := ps6 fr to 17 D.length) (Q := ps4 a b 17 D.length) (p := P0) (q := Q0) (K := 17 + D.length) (by simp [hfr, hto]) (by simp [ha, hb]) (by omega) (by omega) e6 e4 (by omega) z
      rw [z, fNil] at hk6
      rw [z4, fNil] at hk4
      simp (maxSteps := 3000000) only [go_sem, ↓reduceIte, reduceCtorEq, upd_ne, back_new (no_at), Nat.reduceAdd, Nat.reduceEqDiff, Nat.reduceMul, Nat.reduceSub, Nat.reduceLeDiff, Nat.reduceLT, Int.reduceToNat, Int.reduceLE, Int.reduceLT, Int.reduceEq, UInt8.reduceOfNat, List.getElem?_map, Int.toNat_natCast, hw, ha, hb, c, h1, hfr, hto, wp, wq, hq4, hP, hTl', hs4, hs6, hk4, hk6, decide_true, beq_self_eq_true]
    · unfold fE at hk6
      rw [if_neg z] at hk6
      simp (maxSteps := 3000000) only [go_sem, ↓reduceIte, reduceCtorEq, upd_ne, back_new (no_at), Nat.reduceAdd, Nat.reduceEqDiff, Nat.reduceMul, Nat.reduceSub, Nat.reduceLeDiff, Nat.reduceLT, Int.reduceToNat, Int.reduceLE, Int.reduceLT, Int.reduceEq, UInt8.reduceOfNat, List.getElem?_map, Int.toNat_natCast, hw, ha, hb, c, h1, hfr, hto, wp, wq, hq4, hP, hTl', hs6, hk6, decide_true, beq_self_eq_true]
  by_cases p58 : pt = 58
  · subst p58
    have hs6 := ev_Pseudo6 hS (n + 4) fr to 58 D.length hfr hto (by omega) (by omega)
    have hs6 : S.ev (n + 7) id_sum_Pseudo6 [.bytes fr, .bytes to, .int .i64 58, .int .i64 (D.length : Int)] none = _ := hs6
    have hpl := (sum_ps6 (a := fr) (b := to) (next := 58) (len := D.length) hfr hto (by omega) (by omega)).2
    generalize (proto64 58).1 = P6 at *
    by_cases r : D.length < 8 ∨ sumS (ps6 fr to 58 D.length ++ D) ≠ 0
    · obtain ⟨c6', hc6, hp6⟩ := ev_icmp6N hS (n + 3) (s := D) (ps := ps6 fr to 58 D.length) (by omega) (by omega) r
      have he6 := ev_echo6_no hS (n + 6) (k := 0) (c := 0) (r := 0) (d := []) (by omega)
      generalize tn4 58 0 D fr to a b D.length P0 Q0 = T at *
      generalize ps6 fr to 58 D.length = PS at *
      simp (maxSteps := 3000000) only [go_sem, ↓reduceIte, reduceCtorEq, upd_ne, back_new (no_at), Nat.reduceAdd, Nat.reduceEqDiff, Nat.reduceMul, Nat.reduceSub, Nat.reduceLeDiff, Nat.reduceLT, Int.reduceToNat, Int.reduceLE, Int.reduceLT, Int.reduceEq, UInt8.reduceOfNat, List.getElem?_map, Int.toNat_natCast, hw, ha, hb, c, h1, hfr, hto, wp, wq, hq4, hP, hTl', hs6, hp6, he6, decide_true, beq_self_eq_true]
    · have r8 : 8 ≤ D.length := Nat.not_lt.1 fun q => r (.inl q)
      have r0 : sumS (ps6 fr to 58 D.length ++ D) = 0 := Classical.not_not.1 fun q => r (.inr q)
      have hp6 := ev_icmp6P hS (n + 3) (s := D) (ps := ps6 fr to 58 D.length) r8 (by omega) (by omega) r0
      have hx : numN ((D.drop 4).take 4) < 4294967296 := num4_lt (D.drop 4)
      have hb0 := bAt_le D 0
      by_cases hE : isE6 D = true
      · have hT : tn4 58 0 D fr to a b D.length P0 Q0 = ecF D (ps6 fr to 58 D.length) [] (k64 (bAt D 0)) P0 := by
          unfold tn4; rw [if_neg (by omega), if_neg (by omega), if_pos ⟨rfl, hE⟩]
        rw [hT] at hP hTl'
        obtain ⟨s2, s3, s4, s5, s6, s7, s8⟩ := echo_kept4 (D := D) (fr := fr) (to := to) (p := P0) hfr hto (by omega) r8 hE r0 (by omega)
        have hE' := hE
        unfold isE6 at hE'
        simp only [Bool.and_eq_true, decide_eq_true_eq] at hE'
        have k1 : ((bAt D 1 : Nat) : Int) = 0 := by omega
        have k2 : ((bAt D 0 : Nat) : Int) = 128 ∨ ((bAt D 0 : Nat) : Int) = 129 := by omega
        have he6 := ev_echo6 hS (n + 6) (k := (bAt D 0 : Nat)) (c := (bAt D 1 : Nat)) (r := (numN ((D.drop 4).take 4) : Nat)) (d := D.drop 8) k1 k2 (by omega)
        generalize ecF D (ps6 fr to 58 D.length) [] (k64 (bAt D 0)) P0 = T at *
        generalize ps6 fr to 58 D.length = PS at *
        have hbr := ev_bare15 hS (n + 6) T (by omega)
        cases hbv : bareS T with
        | true =>
          obtain ⟨b1, b2⟩ := s7 hbv
          rw [hbv] at hbr
          have hask : decide (((bAt D 0 : Nat) : Int) = 128) = false := decide_eq_false (by omega)
          rw [hask] at he6
          have b2' : (P0 : Int) = 0 := by omega
          have hdz : decide ((P0 : Int) = 0) = true := decide_eq_true b2'
          generalize ((numN ((D.drop 4).take 4) : Nat) : Int) = N6 at *
          simp (maxSteps := 3000000) only [go_sem, ↓reduceIte, reduceCtorEq, upd_ne, back_new (no_at), Nat.reduceAdd, Nat.reduceEqDiff, Nat.reduceMul, Nat.reduceSub, Nat.reduceLeDiff, Nat.reduceLT, Int.reduceToNat, Int.reduceLE, Int.reduceLT, Int.reduceEq, UInt8.reduceOfNat, List.getElem?_map, Int.toNat_natCast, hw, ha, hb, c, h1, hfr, hto, wp, wq, hq4, hP, hTl', hs6, hp6, he6, hbr, decide_true, beq_self_eq_true]
          first | rfl | rw [hdz] | (rw [hdz]; rfl)
        | false =>
          rw [hbv] at hbr
          have s1 := s8 hbv
          have hp4 := ev_icmp4P hS (n + 3) (s := T) (by omega) (by omega) s1
          rw [s2, s3, s5] at hp4
          have hx4 : numN ((T.drop 4).take 4) < 4294967296 := num4_lt (T.drop 4)
          have k64v : ((k64 (bAt D 0) : Nat) : Int) = 8 ∨ ((k64 (bAt D 0) : Nat) : Int) = 0 := by unfold k64; split; exact .inl rfl; exact .inr rfl
          have he4 := ev_echo4 hS (n + 6) (k := (k64 (bAt D 0) : Nat)) (c := 0) (r := (numN ((T.drop 4).take 4) : Nat)) (d := D.drop 8) rfl k64v (by omega)
          have hid4 : ((numN ((T.drop 4).take 4) : Nat) : Int) / 65536 = (P0 : Int) := by omega
          rw [hid4] at he4
          have hask : decide (((k64 (bAt D 0) : Nat) : Int) = 8) = decide (((bAt D 0 : Nat) : Int) = 128) := by
            rw [decide_eq_decide]; unfold k64; split <;> omega
          rw [hask] at he4
          have hp4 : S.ev (n + 3 + 4) id_icmp4_Parse [.str T] none = some (.tup [msgLV (k64 (bAt D 0) : Nat) 0 (numN ((T.drop 4).take 4) : Nat) (D.drop 8), .nili], none) := hp4
          generalize ((numN ((T.drop 4).take 4) : Nat) : Int) = N4 at *
          generalize ((numN ((D.drop 4).take 4) : Nat) : Int) = N6 at *
          generalize ((k64 (bAt D 0) : Nat) : Int) = K4 at *
          generalize decide (((bAt D 0 : Nat) : Int) = 128) = ask at *
          simp (maxSteps := 3000000) only [go_sem, ↓reduceIte, reduceCtorEq, upd_ne, back_new (no_at), Nat.reduceAdd, Nat.reduceEqDiff, Nat.reduceMul, Nat.reduceSub, Nat.reduceLeDiff, Nat.reduceLT, Int.reduceToNat, Int.reduceLE, Int.reduceLT, Int.reduceEq, UInt8.reduceOfNat, List.getElem?_map, Int.toNat_natCast, hw, ha, hb, c, h1, hfr, hto, wp, wq, hq4, hP, hTl', hs6, hp6, he6, hbr, hp4, he4, decide_true, beq_self_eq_true]
          try (cases ask <;> rfl)
      · have hT : tn4 58 0 D fr to a b D.length P0 Q0 = D := by
          unfold tn4; rw [if_neg (by omega), if_neg (by omega), if_neg (fun q => hE q.2)]
        rw [hT] at hP
        have hno : ¬ (((bAt D 1 : Nat) : Int) = 0 ∧ (((bAt D 0 : Nat) : Int) = 128 ∨ ((bAt D 0 : Nat) : Int) = 129)) := by
          intro q
          apply hE
          unfold isE6
          simp only [Bool.and_eq_true, decide_eq_true_eq]
          omega
        have he6 := ev_echo6_no hS (n + 6) (k := (bAt D 0 : Nat)) (c := (bAt D 1 : Nat)) (r := (numN ((D.drop 4).take 4) : Nat)) (d := D.drop 8) hno
        generalize ps6 fr to 58 D.length = PS at *
        simp (maxSteps := 3000000) only [go_sem, ↓reduceIte, reduceCtorEq, upd_ne, back_new (no_at), Nat.reduceAdd, Nat.reduceEqDiff, Nat.reduceMul, Nat.reduceSub, Nat.reduceLeDiff, Nat.reduceLT, Int.reduceToNat, Int.reduceLE, Int.reduceLT, Int.reduceEq, UInt8.reduceOfNat, List.getElem?_map, Int.toNat_natCast, hw, ha, hb, c, h1, hfr, hto, wp, wq, hq4, hP, hs6, hp6, he6, decide_true, beq_self_eq_true]
  have hT : tn4 pt 0 D fr to a b D.length P0 Q0 = D := by
    unfold tn4; rw [if_neg (by omega), if_neg (by omega), if_neg (fun q => p58 q.1)]
  rw [hT] at hP
  generalize (proto64 pt).1 = P6 at *
  simp (maxSteps := 3000000) only [go_sem, ↓reduceIte, reduceCtorEq, upd_ne, back_new (no_at), Nat.reduceAdd, Nat.reduceEqDiff, Nat.reduceMul, Nat.reduceSub, Nat.reduceLeDiff, Nat.reduceLT, Int.reduceToNat, Int.reduceLE, Int.reduceLT, Int.reduceEq, UInt8.reduceOfNat, List.getElem?_map, Int.toNat_natCast, hw, ha, hb, c, h1, hfr, hto, wp, wq, hq4, hP, p6, p17, p58, decide_true, beq_self_eq_true]
end
end Go.Ev
