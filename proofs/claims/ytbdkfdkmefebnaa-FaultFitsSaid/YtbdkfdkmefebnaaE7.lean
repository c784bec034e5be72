/- Part 7 of a proof: what the functions yield. It stands by itself; no condition. -/
import Derived.Test.YtbdkfdkmefebnaaE6
namespace Go.Ev
set_option linter.unusedSimpArgs false
set_option linter.unusedVariables false
set_option maxRecDepth 10000
set_option maxHeartbeats 8000000
theorem take_take_self {s : List UInt8} {i j : Nat} {q : List UInt8} (h : (s.take i).take j = q) : s.take q.length = q ∧ q.length ≤ s.length := by
  subst h
  rw [List.take_take]
  constructor
  · rw [List.length_take, List.take_eq_take_iff]; omega
  · rw [List.length_take]; omega
def o4B (a fr : List UInt8) (k c r id : Int) (q : List UInt8) : List UInt8 := by4 0 (id % 65536) 64 1 0 false false a fr [] (im4B k c r q)
section
variable {S : Sys} (hS : Has S) (n : Nat)
include hS
theorem own4_res {s a md : List UInt8} {k c r id mtu : Int} (hs : s.length ≤ 100000) (ha : a.length = 4) (hc2 : I64 c) (hr : 0 ≤ r ∧ r < 4294967296) (hi : I64 id) :
    S.ev (n + 5) id_fault_Own4 [msgLV k c r md, .str s, .bytes a, .int .i64 id, .int .i64 mtu] none = some (no4, none) ∨
    ∃ fr q, fr.length = 4 ∧ isF4 k = true ∧ (0 ≤ c ∧ c ≤ 255) ∧ 68 ≤ mtu ∧ (q.length : Int) ≤ min 576 mtu - 28 ∧ s.take q.length = q ∧ q.length ≤ s.length ∧
      S.ev (n + 5) id_fault_Own4 [msgLV k c r md, .str s, .bytes a, .int .i64 id, .int .i64 mtu] none = some (.tup [.str (o4B a fr k c r id q), .bool true], none) := by
  have hp := ev_parse4 hS n s (by omega)
  by_cases h : pK4 s = 0
  case neg =>
    unfold pLV4 fE at hp
    rw [if_neg h, if_neg h] at hp
    exact .inl (ev_own4_no1 hS n h hp)
  have P := pK4_zero.1 h
  have h20 := P.h20
  have hn := P.hn
  have hl := P.hl
  have hal := P.hal
  have hnn : n4 s ≤ 60 := by unfold n4; have := bAt_le s 0; omega
  unfold pLV4 fE at hp
  rw [if_pos h, if_pos h] at hp
  have hfr : (pfr4 s).length = 4 := by unfold pfr4; simp; omega
  have hto : (pto4 s).length = 4 := by unfold pto4; simp; omega
  have hop : (pop4 s).length = n4 s - 20 := by unfold pop4; rw [List.length_take, List.length_drop]; omega
  have hda : (pda4 s).length = min (wAt s 2 - n4 s) (s.length - n4 s) := by unfold pda4; rw [List.length_take, List.length_drop]
  by_cases hC : own4C k (pat4 s) (pfr4 s) (bAt s 9 : Nat) (pda4 s) mtu
  · exact .inl (ev_own4_no2 hS n hp hfr hto hC)
  have g := ev_own4_go hS n (md := md) (a := a) (id := id) hp hfr hto ha hC hc2 hr (by omega) hs (by omega) hi rfl rfl
  split at g
  · rename_i hb
    refine .inr ⟨pfr4 s, _, hfr, ?_, hb.2, ?_, ?_, (take_take_self rfl).1, (take_take_self rfl).2, g⟩
    · cases h : isF4 k with
      | true => rfl
      | false => exact absurd (.inl h) hC
    · exact Int.not_lt.1 fun h => hC (.inr (.inr (.inr (.inl h))))
    · have h68 : 68 ≤ mtu := Int.not_lt.1 fun h => hC (.inr (.inr (.inr (.inl h))))
      rw [List.length_take]
      unfold begN
      omega
  · exact .inl g
theorem own6_res {s a md : List UInt8} {k c r mtu : Int} (hs : s.length ≤ 100000) (ha : a.length = 16) (hc2 : I64 c) (hr : 0 ≤ r ∧ r < 4294967296) :
    S.ev (n + 5) id_fault_Own6 [msgLV k c r md, .str s, .bytes a, .int .i64 mtu] none = some (no4, none) ∨
    ∃ fr q, fr.length = 16 ∧ isF6 k = true ∧ (0 ≤ c ∧ c ≤ 255) ∧ 1280 ≤ mtu ∧ q.length ≤ 1232 ∧ s.take q.length = q ∧ q.length ≤ s.length ∧
      S.ev (n + 5) id_fault_Own6 [msgLV k c r md, .str s, .bytes a, .int .i64 mtu] none = some (.tup [.str (o6B a fr k c r q), .bool true], none) := by
  have hp := ev_parse6 hS n s (by omega)
  by_cases h : pK6 s = 0
  case neg =>
    unfold pLV6 fE at hp
    rw [if_neg h, if_neg h] at hp
    exact .inl (ev_own6_no1 hS n h hp)
  obtain ⟨cl, fl, ho, fr, to, ex, fg, i0, at', mo, pt, da, e1, hf, ok, e2, e3, e4⟩ := again6 (by omega) h
  have P := pK6_zero h
  have hl := P.hl
  rw [e1, h] at hp
  have hp : S.ev (n + 4) id_ip6_Parse [.str s] none = some (.tup [ip6LV cl fl ho fr to (extsLV ex) fg i0 at' mo pt da, .nili], none) := hp
  obtain ⟨mar, hm⟩ := ev_mar6 hS n fr hf.hfr
  by_cases hC : own6C mar k at' to pt da mtu
  · exact .inl (ev_own6_no2 hS n hp hf.hfr hf.hto hm hC)
  have g := ev_own6_go hS n (md := md) (a := a) hp hf.hfr hf.hto ha hm hC hc2 hr (by have := ok.n8; omega) (fun e he => (hf.hexs e he).2) (by omega) hs rfl rfl
  split at g
  · rename_i hb
    refine .inr ⟨fr, _, hf.hfr, ?_, hb.2, ?_, ?_, (take_take_self rfl).1, (take_take_self rfl).2, g⟩
    · cases h : isF6 k with
      | true => rfl
      | false => exact absurd (.inl h) hC
    · exact Int.not_lt.1 fun h => hC (.inr (.inr (.inr (.inl h))))
    · rw [List.length_take]
      unfold begN
      omega
  · exact .inl g
theorem own4_read {a fr q md : List UInt8} {k c r id mtu : Int} (ha : a.length = 4) (hfr : fr.length = 4) (hk : isF4 k = true) (hc : 0 ≤ c ∧ c ≤ 255) (hr : 0 ≤ r ∧ r < 4294967296) (hq : q.length ≤ 1000) :
    (o4B a fr k c r id q).length = 28 + q.length ∧
    S.ev (n + 4) id_ip4_Parse [.str (o4B a fr k c r id q)] none = some (.tup [ip4LV 0 (id % 65536) 64 1 0 false false a fr [] (im4B k c r q), .nili], none) ∧
    S.ev (n + 4) id_icmp4_Parse [.str (im4B k c r q)] none = some (.tup [msgLV k c r q, .nili], none) ∧
    S.ev (n + 5) id_fault_Own4 [msgLV k c r md, .str (o4B a fr k c r id q), .bytes a, .int .i64 id, .int .i64 mtu] none = some (no4, none) := by
  have hk2 : 0 ≤ k ∧ k ≤ 255 := by unfold isF4 at hk; have := of_decide_eq_true hk; omega
  have hbl : (im4B k c r q).length = 8 + q.length := im6_len (ps := [])
  have hR : sumS (im4B k c r q) = 0 := im6_right (ps := []) rfl
  obtain ⟨p0, p1, p2, p3⟩ := im6_parts (ps := []) (d := q) hk2 hc hr
  have ok : Ok4 0 (id % 65536) 64 1 0 false [] (im4B k c r q) := ⟨by omega, by omega, by omega, by omega, by omega, rfl, by simp, by simp, by simp, by rw [hbl]; simp; omega⟩
  have hP := (ev_parse_by4 hS n (df := false) ok ha hfr).1
  have hI := ev_icmp4P hS n (s := im4B k c r q) (by omega) (by omega) hR
  have p0 : ((bAt (im4B k c r q) 0 : Nat) : Int) = k := p0
  have p1 : ((bAt (im4B k c r q) 1 : Nat) : Int) = c := p1
  have p2 : ((numN (((im4B k c r q).drop 4).take 4) : Nat) : Int) = r := p2
  have p3 : (im4B k c r q).drop 8 = q := p3
  rw [p1, p2, p3] at hI
  refine ⟨?_, hP, ?_, ?_⟩
  · unfold o4B; rw [by4_len ha hfr, hbl]; simp; omega
  · rw [hI, p0]
  · refine ev_own4_no2 hS n hP ha hfr (.inr (.inr (.inr (.inr (.inr ⟨rfl, .inr ?_⟩)))))
    rw [p0]; exact hk
theorem own6_read {a fr q md : List UInt8} {k c r mtu : Int} (ha : a.length = 16) (hfr : fr.length = 16) (hk : isF6 k = true) (hc : 0 ≤ c ∧ c ≤ 255) (hr : 0 ≤ r ∧ r < 4294967296) (hq : q.length ≤ 1232) :
    (o6B a fr k c r q).length = 48 + q.length ∧
    S.ev (n + 4) id_ip6_Parse [.str (o6B a fr k c r q)] none = some (.tup [ip6LV 0 0 64 a fr (extsLV []) false 0 0 false 58 (im6B (ps6 a fr 58 (8 + q.length)) k c r q), .nili], none) ∧
    S.ev (n + 4) id_icmp6_Parse [.str (im6B (ps6 a fr 58 (8 + q.length)) k c r q), .str (ps6 a fr 58 (8 + q.length))] none = some (.tup [msgLV k c r q, .nili], none) ∧
    S.ev (n + 5) id_fault_Own6 [msgLV k c r md, .str (o6B a fr k c r q), .bytes a, .int .i64 mtu] none = some (no4, none) := by
  have hk2 : 0 ≤ k ∧ k ≤ 255 := by unfold isF6 at hk; have := of_decide_eq_true hk; omega
  have hk3 : k ≤ 127 := by unfold isF6 at hk; have := of_decide_eq_true hk; omega
  have hpl : (ps6 a fr 58 (8 + q.length)).length = 40 := by rw [ps6_len, ha, hfr]
  unfold o6B
  generalize ps6 a fr 58 (8 + q.length) = PS at *
  have hbl : (im6B PS k c r q).length = 8 + q.length := im6_len
  have hR : sumS (PS ++ im6B PS k c r q) = 0 := im6_right (by omega)
  obtain ⟨p0, p1, p2, p3⟩ := im6_parts (ps := PS) (d := q) hk2 hc hr
  have ok := z_ok (B := im6B PS k c r q) (by omega)
  obtain ⟨y1, y2, y3⟩ := parse_by6 ok (by omega) ha hfr []
  have hlen := by6_len (cl := 0) (fl := 0) (ho := 64) (fr := a) (to := fr) (ex := []) (fg := false) (id := 0) (at' := 0) (mo := false) (pt := 58) (da := im6B PS k c r q) ha hfr
  have hbh : bh6 [] false (im6B PS k c r q) = 8 + q.length := by unfold bh6; simp only [szE, Bool.false_eq_true, if_false]; omega
  have hP := ev_parse6 hS n (by6 0 0 64 a fr [] false 0 0 false 58 (im6B PS k c r q)) (by rw [hlen, hbh]; omega)
  rw [List.append_nil] at y1 y2
  rw [y1, y2] at hP
  have hP : S.ev (n + 4) id_ip6_Parse [.str (by6 0 0 64 a fr [] false 0 0 false 58 (im6B PS k c r q))] none = some (.tup [ip6LV 0 0 64 a fr (extsLV []) false 0 0 false 58 (im6B PS k c r q), .nili], none) := hP
  have hI := ev_icmp6P hS n (s := im6B PS k c r q) (ps := PS) (by omega) (by omega) (by omega) hR
  rw [p1, p2, p3] at hI
  refine ⟨?_, hP, ?_, ?_⟩
  · rw [hlen, hbh]; omega
  · rw [hI, p0]
  · obtain ⟨mar, hm⟩ := ev_mar6 hS n a ha
    refine ev_own6_no2 hS n hP ha hfr hm (.inr (.inr (.inr (.inr (.inr (.inr ⟨rfl, .inr ?_⟩))))))
    omega
theorem ev_FaultFits {vs : List LV} (h : fitVL [.agg [.int .i64, .int .i64, .int .u32, .str], .str, .bytes 4, .bytes 16, .int .i64, .int .i64, .int .i64] vs) : S.ev (n + 8) id_interpreterlaw15_FaultFits vs none = some (.bool true, none) := by
  obtain ⟨x, r, e, g1, q1⟩ := fit_cons h; clear h; subst e; obtain ⟨k, c, r, md, rfl, hk, hc2, hr, hmd⟩ := fit_msg g1; clear g1
  obtain ⟨x, r', e, g2, q2⟩ := fit_cons q1; clear q1; subst e; obtain ⟨s, rfl, hsb⟩ := fit_str g2; clear g2
  obtain ⟨x, r', e, g3, q3⟩ := fit_cons q2; clear q2; subst e; obtain ⟨a, rfl, ha⟩ := fit_bytes g3; clear g3
  obtain ⟨x, r', e, g4, q4⟩ := fit_cons q3; clear q3; subst e; obtain ⟨b, rfl, hb⟩ := fit_bytes g4; clear g4
  obtain ⟨x, r', e, g5, q5⟩ := fit_cons q4; clear q4; subst e; obtain ⟨id, rfl, hid⟩ := fit_i64 g5; clear g5
  obtain ⟨x, r', e, g6, q6⟩ := fit_cons q5; clear q5; subst e; obtain ⟨mt4, rfl, hm4⟩ := fit_i64 g6; clear g6
  obtain ⟨x, r', e, g7, q7⟩ := fit_cons q6; clear q6; subst e; obtain ⟨mt6, rfl, hm6⟩ := fit_i64 g7; clear g7
  obtain rfl := fit_nil q7
  rw [Sys.step hS.h_interpreterlaw15_FaultFits, F_interpreterlaw15_FaultFits_eq]
  unfold F_interpreterlaw15_FaultFits
  have hw := ev_awake15 hS n
  (try simp only [guard_merge, or_merge, and_merge, or_pick, and_pick, guard_or, guard_and]); simp only [to_ob]
  by_cases c1 : 70000 < (s.length : Int)
  · simp only [go_sem, ↓reduceIte, reduceCtorEq, upd_ne, back_new (no_at), Nat.reduceAdd, Nat.reduceEqDiff, Nat.reduceMul, Nat.reduceSub, Nat.reduceLeDiff, Nat.reduceLT, Int.reduceToNat, Int.reduceLE, Int.reduceLT, Int.reduceEq, UInt8.reduceOfNat, List.getElem?_map, Int.toNat_natCast, hw, ha, hb, c1]
  have o4 := own4_res hS (n + 2) (s := s) (a := a) (md := md) (k := k) (c := c) (r := r) (id := id) (mtu := mt4) (by omega) ha hc2 hr hid
  have o6 := own6_res hS (n + 2) (s := s) (a := b) (md := md) (k := k) (c := c) (r := r) (mtu := mt6) (by omega) hb hc2 hr
  have e255 : extsLV [] = .lst none [] := rfl
  have R4 : ∀ {fr q : List UInt8}, fr.length = 4 → isF4 k = true → (0 ≤ c ∧ c ≤ 255) → (q.length : Int) ≤ min 576 mt4 - 28 →
    (o4B a fr k c r id q).length = 28 + q.length ∧
    S.ev (n + 7) id_ip4_Parse [.str (o4B a fr k c r id q)] none = some (.tup [ip4LV 0 (id % 65536) 64 1 0 false false a fr [] (im4B k c r q), .nili], none) ∧
    S.ev (n + 7) id_icmp4_Parse [.str (im4B k c r q)] none = some (.tup [msgLV k c r q, .nili], none) ∧
    S.ev (n + 7) id_fault_Own4 [msgLV k c r md, .str (o4B a fr k c r id q), .bytes a, .int .i64 id, .int .i64 mt4] none = some (no4, none) := fun {fr q} h1 h2 h3 h4 => by
    obtain ⟨x1, x2, x3, _⟩ := own4_read hS (n + 3) (fr := fr) (q := q) (md := md) (id := id) (mtu := mt4) ha h1 h2 h3 hr (by omega)
    obtain ⟨_, _, _, x4⟩ := own4_read hS (n + 2) (fr := fr) (q := q) (md := md) (id := id) (mtu := mt4) ha h1 h2 h3 hr (by omega)
    exact ⟨x1, x2, x3, x4⟩
  have R6 : ∀ {fr q : List UInt8}, fr.length = 16 → isF6 k = true → (0 ≤ c ∧ c ≤ 255) → q.length ≤ 1232 →
    (o6B b fr k c r q).length = 48 + q.length ∧
    S.ev (n + 7) id_ip6_Parse [.str (o6B b fr k c r q)] none = some (.tup [ip6LV 0 0 64 b fr (.lst none []) false 0 0 false 58 (im6B (ps6 b fr 58 (8 + q.length)) k c r q), .nili], none) ∧
    S.ev (n + 7) id_sum_Pseudo6 [.bytes b, .bytes fr, .int .i64 58, .int .i64 ((im6B (ps6 b fr 58 (8 + q.length)) k c r q).length : Int)] none = some (.str (ps6 b fr 58 (8 + q.length)), none) ∧
    S.ev (n + 7) id_icmp6_Parse [.str (im6B (ps6 b fr 58 (8 + q.length)) k c r q), .str (ps6 b fr 58 (8 + q.length))] none = some (.tup [msgLV k c r q, .nili], none) ∧
    S.ev (n + 7) id_fault_Own6 [msgLV k c r md, .str (o6B b fr k c r q), .bytes b, .int .i64 mt6] none = some (no4, none) := fun {fr q} h1 h2 h3 h4 => by
    obtain ⟨x1, x2, x3, _⟩ := own6_read hS (n + 3) (fr := fr) (q := q) (md := md) (mtu := mt6) hb h1 h2 h3 hr h4
    obtain ⟨_, _, _, x4⟩ := own6_read hS (n + 2) (fr := fr) (q := q) (md := md) (mtu := mt6) hb h1 h2 h3 hr h4
    refine ⟨x1, x2, ?_, x3, x4⟩
    rw [im6_len]
    exact ev_Pseudo6 hS (n + 4) b fr 58 (8 + q.length) hb h1 (by omega) (by omega)
  rcases o4 with o4 | ⟨f4, u4, a1, a2, a3, a4, a5, a6, a7, o4⟩
  · unfold no4 at o4
    rcases o6 with o6 | ⟨f6, u6, b1, b2, b3, b4, b5, b6, b7, o6⟩
    · unfold no4 at o6
      simp only [go_sem, ↓reduceIte, reduceCtorEq, upd_ne, back_new (no_at), Nat.reduceAdd, Nat.reduceEqDiff, Nat.reduceMul, Nat.reduceSub, Nat.reduceLeDiff, Nat.reduceLT, Int.reduceToNat, Int.reduceLE, Int.reduceLT, Int.reduceEq, UInt8.reduceOfNat, List.getElem?_map, Int.toNat_natCast, hw, ha, hb, c1, o4, o6]
    · obtain ⟨r1, r2, r3, r4, r5⟩ := R6 b1 b2 b3 b5
      unfold no4 at r5
      generalize im6B (ps6 b f6 58 (8 + u6.length)) k c r u6 = IB at *
      generalize ps6 b f6 58 (8 + u6.length) = PS at *
      generalize o6B b f6 k c r u6 = OB at *
      have d1 : (OB.length : Int) ≤ 1280 := by omega
      have d2 : (OB.length : Int) ≤ mt6 := by omega
      have d3 : (u6.length : Int) ≤ (s.length : Int) := by omega
      simp only [go_sem, ↓reduceIte, reduceCtorEq, upd_ne, back_new (no_at), Nat.reduceAdd, Nat.reduceEqDiff, Nat.reduceMul, Nat.reduceSub, Nat.reduceLeDiff, Nat.reduceLT, Int.reduceToNat, Int.reduceLE, Int.reduceLT, Int.reduceEq, UInt8.reduceOfNat, List.getElem?_map, Int.toNat_natCast, hw, ha, hb, c1, o4, o6, b1, r2, r3, r4, r5, d1, d2, d3, b6, b7, Nat.sub_zero, decide_true, beq_self_eq_true]
  · obtain ⟨s1, s2, s3, s4⟩ := R4 a1 a2 a3 a5
    unfold no4 at s4
    generalize im4B k c r u4 = I4 at *
    generalize o4B a f4 k c r id u4 = O4 at *
    have g1 : ¬ 576 < (O4.length : Int) := by omega
    have g2 : ¬ mt4 < (O4.length : Int) := by omega
    have g3 : ¬ (s.length : Int) < (u4.length : Int) := by omega
    rcases o6 with o6 | ⟨f6, u6, b1, b2, b3, b4, b5, b6, b7, o6⟩
    · unfold no4 at o6
      simp only [go_sem, ↓reduceIte, reduceCtorEq, upd_ne, back_new (no_at), Nat.reduceAdd, Nat.reduceEqDiff, Nat.reduceMul, Nat.reduceSub, Nat.reduceLeDiff, Nat.reduceLT, Int.reduceToNat, Int.reduceLE, Int.reduceLT, Int.reduceEq, UInt8.reduceOfNat, List.getElem?_map, Int.toNat_natCast, hw, ha, hb, c1, o4, o6, a1, s2, s3, s4, g1, g2, g3, a6, a7, Nat.sub_zero, decide_true, beq_self_eq_true]
    · obtain ⟨r1, r2, r3, r4, r5⟩ := R6 b1 b2 b3 b5
      unfold no4 at r5
      generalize im6B (ps6 b f6 58 (8 + u6.length)) k c r u6 = IB at *
      generalize ps6 b f6 58 (8 + u6.length) = PS at *
      generalize o6B b f6 k c r u6 = OB at *
      have d1 : (OB.length : Int) ≤ 1280 := by omega
      have d2 : (OB.length : Int) ≤ mt6 := by omega
      have d3 : (u6.length : Int) ≤ (s.length : Int) := by omega
      simp (maxSteps := 4000000) only [go_sem, ↓reduceIte, reduceCtorEq, upd_ne, back_new (no_at), Nat.reduceAdd, Nat.reduceEqDiff, Nat.reduceMul, Nat.reduceSub, Nat.reduceLeDiff, Nat.reduceLT, Int.reduceToNat, Int.reduceLE, Int.reduceLT, Int.reduceEq, UInt8.reduceOfNat, List.getElem?_map, Int.toNat_natCast, hw, ha, hb, c1, o4, o6, a1, s2, s3, s4, g1, g2, g3, a6, a7, b1, r2, r3, r4, r5, d1, d2, d3, b6, b7, Nat.sub_zero, decide_true, beq_self_eq_true]
end
end Go.Ev
