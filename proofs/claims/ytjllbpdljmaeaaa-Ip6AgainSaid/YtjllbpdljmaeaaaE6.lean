/- Part 6 of a proof: what the functions yield. It stands by itself; no condition. -/
import Derived.Test.YtjllbpdljmaeaaaE5
/- Layer 4: what is parsed, written again; other fields; the examples. -/
namespace Go.Ev
set_option linter.unusedSimpArgs false
set_option linter.unusedVariables false
set_option maxRecDepth 10000
set_option maxHeartbeats 8000000
theorem exB_app (l : List (Int × List UInt8)) (p : Int) (b : List UInt8) : exB l p b = exB l p [] ++ b := by
  induction l with
  | nil => rfl
  | cons e l ih => simp only [exB]; rw [ih]; simp only [List.append_assoc]
theorem by6_end {cl fl ho : Int} {fr to : List UInt8} {ex : List (Int × List UInt8)} {fg : Bool} {id at' : Int} {mo : Bool} {pt : Int} {da : List UInt8} (hfr : fr.length = 16) (hto : to.length = 16) :
    (by6 cl fl ho fr to ex fg id at' mo pt da).drop (40 + bh6 ex fg da - da.length) = da := by
  have hlen := by6_len (cl := cl) (fl := fl) (ho := ho) (fr := fr) (to := to) (ex := ex) (fg := fg) (id := id) (at' := at') (mo := mo) (pt := pt) (da := da) hfr hto
  have : ∃ A : List UInt8, by6 cl fl ho fr to ex fg id at' mo pt da = A ++ da := by
    unfold by6 bd6
    cases fg
    · simp only [Bool.false_eq_true, if_false]
      rw [exB_app ex pt da]
      exact ⟨_, by simp only [← List.append_assoc]; rfl⟩
    · simp only [if_true]
      rw [exB_app ex 44]
      refine ⟨beB 4 (1610612736 + cl.toNat * 1048576 + fl.toNat) ++ (beB 2 (exB ex 44 [] ++ pcB id at' mo pt da).length ++ (beB 1 (nxE ex 44).toNat ++ (beB 1 ho.toNat ++ (fr ++ (to ++ (exB ex 44 [] ++ (beB 1 pt.toNat ++ (0 :: (beB 2 (at'.toNat + if mo = true then 1 else 0) ++ beB 4 id.toNat))))))))), ?_⟩
      simp only [pcB, List.append_assoc, List.cons_append]
  obtain ⟨A, hA⟩ := this
  rw [hA] at hlen ⊢
  rw [List.length_append] at hlen
  exact List.drop_left' (by omega)
section
variable {S : Sys} (hS : Has S) (n : Nat)
include hS
theorem ev_Ip6Again {vs : List LV} (h : fitVL [.str] vs) : S.ev (n + 7) id_interpreterlaw04_Ip6Again vs none = some (.bool true, none) := by
  obtain ⟨a, r, e, g1, q1⟩ := fit_cons h; clear h; subst e; obtain ⟨s, rfl, hs⟩ := fit_str g1; clear g1
  obtain rfl := fit_nil q1
  rw [Sys.step hS.h_interpreterlaw04_Ip6Again, F_interpreterlaw04_Ip6Again_eq]
  unfold F_interpreterlaw04_Ip6Again
  have ha := ev_awake4 hS n
  have h1 := ev_parse6 hS (n + 2) s hs
  have hz : S.ev (n + 6) id_interpreterref04_Same [z6LV, z6LV] none = some (.bool true, none) := ev_Same hS (n + 5) (ex := []) rfl rfl (by simp)
  (try simp only [guard_merge, or_merge, and_merge, or_pick, and_pick, guard_or, guard_and]); simp only [to_ob]
  by_cases c : 70000 < (s.length : Int)
  · simp only [go_sem, ↓reduceIte, reduceCtorEq, upd_ne, back_new (no_at), Nat.reduceAdd, Nat.reduceEqDiff, Nat.reduceMul, Nat.reduceSub, Nat.reduceLeDiff, Nat.reduceLT, Int.reduceToNat, Int.reduceLE, Int.reduceLT, Int.reduceEq, UInt8.reduceOfNat, ha, c]
  · by_cases ck : pK6 s = 0
    · obtain ⟨cl, fl, ho, fr, to, ex, fg, id, at', mo, pt, da, hL, hf, ok, hbh, ht7, hdl⟩ := again6 hs ck
      have hfr := hf.hfr
      have hto := hf.hto
      rw [hL, ck, show fE 0 = .nili from rfl] at h1
      have hwy := why6_zero.2 ok
      have h2 := ev_bytes6 hS (n + 2) (fg := fg) (mo := mo) hf
      unfold by6R at h2
      rw [if_pos hwy, hwy, show fE 0 = .nili from rfl] at h2
      obtain ⟨Q1, Q2, Q3⟩ := parse_by6 (fr := fr) (to := to) ok hf.hid hfr hto []
      rw [List.append_nil] at Q1 Q2
      have hlen := by6_len (cl := cl) (fl := fl) (ho := ho) (fr := fr) (to := to) (ex := ex) (fg := fg) (id := id) (at' := at') (mo := mo) (pt := pt) (da := da) hfr hto
      have hend := by6_end (cl := cl) (fl := fl) (ho := ho) (fr := fr) (to := to) (ex := ex) (fg := fg) (id := id) (at' := at') (mo := mo) (pt := pt) (da := da) hfr hto
      have h3 := ev_parse6 hS (n + 2) (by6 cl fl ho fr to ex fg id at' mo pt da) (by have := wAt_le s 4; omega)
      rw [Q2, Q1, show fE 0 = .nili from rfl] at h3
      have hsa := ev_Same hS (n + 5) (cl := cl) (fl := fl) (ho := ho) (fg := fg) (id := id) (at' := at') (mo := mo) (pt := pt) (da := da) hfr hto hf.hex
      have hp6 := pK6_zero ck
      have h40 := hp6.h40
      have hl := hp6.hl
      generalize by6 cl fl ho fr to ex fg id at' mo pt da = T at *
      obtain ⟨L, hLL⟩ : ∃ L, L = 40 + bh6 ex fg da := ⟨_, rfl⟩
      rw [← hLL] at hlen hend
      have c1 : (L : Int) ≤ (s.length : Int) := by omega
      have l1 : 7 ≤ L := by omega
      have l2 : 7 ≤ s.length := by omega
      have l3 : L - da.length ≤ L := by omega
      have e5 : IntKind.i64.wrap ((L : Int) - (da.length : Int)) = ((L - da.length : Nat) : Int) := by rw [wrap_id (by omega) (by omega)]; omega
      have t1 : (T.drop (L - da.length)).take (L - (L - da.length)) = da := by rw [hend, List.take_of_length_le (by omega)]
      simp only [go_sem, ↓reduceIte, reduceCtorEq, upd_ne, back_new (no_at), Nat.reduceAdd, Nat.reduceEqDiff, Nat.reduceMul, Nat.reduceSub, Nat.reduceLeDiff, Nat.reduceLT, Int.reduceToNat, Int.reduceLE, Int.reduceLT, Int.reduceEq, UInt8.reduceOfNat, List.getElem?_map, Int.toNat_natCast, Nat.sub_zero, ha, c, hfr, hto, h1, h2, h3, hsa, hlen, ht7, c1, l1, l2, l3, e5, t1, Nat.le_refl]
    · rw [r6_none ck] at h1
      simp only [fE, if_neg ck] at h1
      simp only [go_sem, ↓reduceIte, reduceCtorEq, upd_ne, back_new (no_at), Nat.reduceAdd, Nat.reduceEqDiff, Nat.reduceMul, Nat.reduceSub, Nat.reduceLeDiff, Nat.reduceLT, Int.reduceToNat, Int.reduceLE, Int.reduceLT, Int.reduceEq, UInt8.reduceOfNat, ha, c, h1, hz]
theorem ev_Ip6Fields {vs : List LV} (h : fitVL [shpIp6, .int .u8, .int .u32] vs) : S.ev (n + 7) id_interpreterlaw04_Ip6Fields vs none = some (.bool true, none) := by
  obtain ⟨a, r, e, g1, q1⟩ := fit_cons h; clear h; subst e; obtain ⟨cl, fl, ho, fr, to, ex, fg, id, at', mo, pt, da, rfl, hf⟩ := fit_ip6 g1; clear g1
  obtain ⟨a, r, e, g2, q2⟩ := fit_cons q1; clear q1; subst e; obtain ⟨t, rfl, ht0, ht1⟩ := fit_u8 g2; clear g2
  obtain ⟨a, r, e, g3, q3⟩ := fit_cons q2; clear q2; subst e; obtain ⟨i2, rfl, hi0, hi1⟩ := fit_u32 g3; clear g3
  obtain rfl := fit_nil q3
  obtain ⟨b, rfl⟩ : ∃ b : UInt8, t = (b.toNat : Int) := ⟨UInt8.ofNat t.toNat, by rw [UInt8.toNat_ofNat']; omega⟩
  rw [Sys.step hS.h_interpreterlaw04_Ip6Fields, F_interpreterlaw04_Ip6Fields_eq]
  unfold F_interpreterlaw04_Ip6Fields
  have ha := ev_awake4 hS n
  have hfr := hf.hfr
  have hto := hf.hto
  have h0 := ev_Great hS (n + 5) (fg := fg) (mo := mo) hf
  have h1 := ev_bytes6 hS (n + 2) (fg := fg) (mo := mo) hf
  have hf2 : FitIp6 cl fl (b.toNat : Int) to fr ex id at' pt da := ⟨hf.hcl, hf.hfl, ⟨by omega, by omega⟩, hto, hfr, hf.hex, hf.hexs, hf.hid, hf.hat, hf.hpt, hf.hda⟩
  have hf3 : FitIp6 cl fl (b.toNat : Int) to fr ex i2 at' pt da := ⟨hf.hcl, hf.hfl, ⟨by omega, by omega⟩, hto, hfr, hf.hex, hf.hexs, ⟨hi0, hi1⟩, hf.hat, hf.hpt, hf.hda⟩
  have h2 := ev_bytes6 hS (n + 2) (fg := fg) (mo := mo) hf2
  have h3 := ev_bytes6 hS (n + 2) (fg := true) (mo := mo) hf3
  have e1 : IntKind.i64.wrap (b.toNat : Int) = (b.toNat : Int) := wrap_id (by omega) (by omega)
  (try simp only [guard_merge, or_merge, and_merge, or_pick, and_pick, guard_or, guard_and]); simp only [to_ob]
  cases hg : greatS ex da with
  | true =>
    rw [hg] at h0
    simp only [go_sem, ↓reduceIte, reduceCtorEq, upd_ne, back_new (no_at), Nat.reduceAdd, Nat.reduceEqDiff, Nat.reduceMul, Nat.reduceSub, Nat.reduceLeDiff, Nat.reduceLT, Int.reduceToNat, Int.reduceLE, Int.reduceLT, Int.reduceEq, UInt8.reduceOfNat, ha, h0, hfr, hto]
  | false =>
    rw [hg] at h0
    obtain ⟨sm1, sm2, sm3⟩ := not_great hg
    by_cases ck : why6 cl fl ho ex fg id at' mo pt da = 0
    · have ck2 := why6_hop ck (t := (b.toNat : Int)) ⟨ht0, ht1⟩
      have ok := why6_zero.1 ck
      have l1 := by6_len (cl := cl) (fl := fl) (ho := ho) (fr := fr) (to := to) (ex := ex) (fg := fg) (id := id) (at' := at') (mo := mo) (pt := pt) (da := da) hfr hto
      have l2 := by6_len (cl := cl) (fl := fl) (ho := (b.toNat : Int)) (fr := to) (to := fr) (ex := ex) (fg := fg) (id := id) (at' := at') (mo := mo) (pt := pt) (da := da) hto hfr
      have q1 := by6_eq cl fl ho fr to ex fg id at' mo pt da
      have q2 := by6_eq cl fl (b.toNat : Int) to fr ex fg id at' mo pt da
      have hcuts : ∀ (x k nx h : Nat) (u v w : List UInt8), u.length = 16 → v.length = 16 →
          (((H6 x k nx h ++ (u ++ (v ++ w))).drop 8).take 16 = u ∧ ((H6 x k nx h ++ (u ++ (v ++ w))).drop 24).take 16 = v ∧ (H6 x k nx h ++ (u ++ (v ++ w))).drop 40 = w) := by
        intro x k nx h u v w hu hv
        have e8 : ∀ z : List UInt8, (H6 x k nx h ++ z).drop 8 = z := fun z => rfl
        refine ⟨?_, ?_, ?_⟩
        · rw [e8, List.take_left' hu]
        · rw [show 24 = 8 + 16 by rfl, ← List.drop_drop, e8, List.drop_left' hu, List.take_left' hv]
        · rw [show 40 = 8 + (16 + 16) by rfl, ← List.drop_drop, ← List.drop_drop, e8, List.drop_left' hu, List.drop_left' hv]
      have r1 : (by6 cl fl ho fr to ex fg id at' mo pt da).take 7 = (by6 cl fl (b.toNat : Int) to fr ex fg id at' mo pt da).take 7 := by rw [q1, q2]; rfl
      have r2 : (by6 cl fl (b.toNat : Int) to fr ex fg id at' mo pt da)[7]? = some b := by
        rw [q2, List.getElem?_append_left (by simp [H6])]
        show some (UInt8.ofNat b.toNat) = _
        rw [UInt8.ofNat_toNat]
      have hA := hcuts (1610612736 + cl.toNat * 1048576 + fl.toNat) (bd6 ex fg id at' mo pt da).length (nxE ex (if fg = true then 44 else pt)).toNat ho.toNat fr to (bd6 ex fg id at' mo pt da) hfr hto
      have hB := hcuts (1610612736 + cl.toNat * 1048576 + fl.toNat) (bd6 ex fg id at' mo pt da).length (nxE ex (if fg = true then 44 else pt)).toNat (b.toNat : Int).toNat to fr (bd6 ex fg id at' mo pt da) hto hfr
      rw [← q1] at hA
      rw [← q2] at hB
      obtain ⟨x1, x2, x3⟩ := hA
      obtain ⟨y1, y2, y3⟩ := hB
      have hbd := bd6_len (ex := ex) (fg := fg) (id := id) (at' := at') (mo := mo) (pt := pt) (da := da)
      unfold by6R at h1 h2
      rw [if_pos ck, ck, show fE 0 = .nili from rfl] at h1
      rw [if_pos ck2, ck2, show fE 0 = .nili from rfl] at h2
      obtain ⟨L, hL⟩ : ∃ L, L = 40 + bh6 ex fg da := ⟨_, rfl⟩
      rw [← hL] at l1 l2
      have m1 : ¬ (L : Int) < 40 := by omega
      have m2 : 7 ≤ L := by omega
      have m3 : 24 ≤ L := by omega
      have m4 : 40 ≤ L := by omega
      have x3' : ((by6 cl fl ho fr to ex fg id at' mo pt da).drop 40).take (L - 40) = bd6 ex fg id at' mo pt da := by rw [x3, List.take_of_length_le (by omega)]
      have y3' : ((by6 cl fl (b.toNat : Int) to fr ex fg id at' mo pt da).drop 40).take (L - 40) = bd6 ex fg id at' mo pt da := by rw [y3, List.take_of_length_le (by omega)]
      cases fg
      · have hbh := ok.bh
        have hbh2 : bh6 ex true da = bh6 ex false da + 8 := by unfold bh6; rw [if_pos rfl, if_neg Bool.false_ne_true]; omega
        have hdl : da.length ≤ bh6 ex false da := by unfold bh6; omega
        have w1 : IntKind.i64.wrap ((L : Int) + 8) = ((L + 8 : Nat) : Int) := by rw [wrap_id (by omega) (by omega)]; omega
        have w2 : IntKind.i64.wrap ((L : Int) - (da.length : Int)) = ((L - da.length : Nat) : Int) := by rw [wrap_id (by omega) (by omega)]; omega
        have w3 : IntKind.i64.wrap (((L - da.length : Nat) : Int) + 8) = ((L - da.length + 8 : Nat) : Int) := by rw [wrap_id (by omega) (by omega)]; omega
        unfold by6R at h3
        by_cases ck3 : why6 cl fl (b.toNat : Int) ex true i2 at' mo pt da = 0
        · rw [if_pos ck3, ck3, show fE 0 = .nili from rfl] at h3
          have l3 := by6_len (cl := cl) (fl := fl) (ho := (b.toNat : Int)) (fr := to) (to := fr) (ex := ex) (fg := true) (id := i2) (at' := at') (mo := mo) (pt := pt) (da := da) hto hfr
          have q3 := by6_eq cl fl (b.toNat : Int) to fr ex true i2 at' mo pt da
          have s1 : (by6 cl fl (b.toNat : Int) to fr ex true i2 at' mo pt da).take 4 = (by6 cl fl (b.toNat : Int) to fr ex false id at' mo pt da).take 4 := by rw [q2, q3]; rfl
          have s2 : ((by6 cl fl (b.toNat : Int) to fr ex true i2 at' mo pt da).drop 7).take 33 = ((by6 cl fl (b.toNat : Int) to fr ex false id at' mo pt da).drop 7).take 33 := by
            rw [q2, q3]
            have : ∀ (x k nx h : Nat) (w : List UInt8), ((H6 x k nx h ++ (to ++ (fr ++ w))).drop 7).take 33 = UInt8.ofNat h :: (to ++ fr) := by
              intro x k nx h w
              show (UInt8.ofNat h :: (to ++ (fr ++ w))).take 33 = _
              rw [List.take_succ_cons, ← List.append_assoc, List.take_left' (by simp [hto, hfr])]
            rw [this, this]
          have hend := by6_end (cl := cl) (fl := fl) (ho := (b.toNat : Int)) (fr := to) (to := fr) (ex := ex) (fg := true) (id := i2) (at' := at') (mo := mo) (pt := pt) (da := da) hto hfr
          rw [hbh2, show 40 + (bh6 ex false da + 8) - da.length = L - da.length + 8 by omega] at hend
          have s3 : ((by6 cl fl (b.toNat : Int) to fr ex true i2 at' mo pt da).drop (L - da.length + 8)).take (L + 8 - (L - da.length + 8)) = da := by rw [hend, List.take_of_length_le (by omega)]
          have s4 : (by6 cl fl (b.toNat : Int) to fr ex true i2 at' mo pt da)[L - da.length]? = some (UInt8.ofNat pt.toNat) := by
            have hbd2 : bd6 ex true i2 at' mo pt da = exB ex 44 [] ++ (UInt8.ofNat pt.toNat :: (pcB i2 at' mo pt da).drop 1) := by
              unfold bd6; rw [if_pos rfl, exB_app]
              congr 1
              simp only [pcB, beB1, List.cons_append, List.nil_append, List.drop_succ_cons, List.drop_zero]
            have hel := exB_len ex 44 []
            simp only [List.length_nil, Nat.add_zero] at hel
            have hLd : L - da.length = 40 + szE ex := by rw [hL]; unfold bh6; rw [if_neg Bool.false_ne_true]; omega
            rw [q3, hbd2, ← List.append_assoc, ← List.append_assoc, ← List.append_assoc, List.getElem?_append_right (by simp [H6, hto, hfr, hel]; omega), hLd]
            have : 40 + szE ex - (H6 (1610612736 + cl.toNat * 1048576 + fl.toNat) (exB ex 44 [] ++ UInt8.ofNat pt.toNat :: List.drop 1 (pcB i2 at' mo pt da)).length (nxE ex (if true = true then 44 else pt)).toNat (b.toNat : Int).toNat ++ to ++ fr ++ exB ex 44 []).length = 0 := by
              simp [H6, hto, hfr, hel]; omega
            rw [this]; rfl
          rw [hbh2, show 40 + (bh6 ex false da + 8) = L + 8 by omega] at l3
          have hpt := ok.rg.2.2.2.1
          obtain ⟨p, rfl⟩ := nat_of hpt.1
          have w4 : IntKind.u8.wrap (p : Int) = ((UInt8.ofNat p).toNat : Int) := u8w p
          simp only [Int.toNat_natCast] at s4
          have g1 : (40 : Int) ≤ ((L - da.length : Nat) : Int) := by omega
          have g2 : 4 ≤ L + 8 := by omega
          have g3 : 4 ≤ L := by omega
          have g4 : 40 ≤ L + 8 := by omega
          have g5 : L - da.length + 8 ≤ L + 8 := by omega
          simp only [go_sem, ↓reduceIte, reduceCtorEq, upd_ne, back_new (no_at), Nat.reduceAdd, Nat.reduceEqDiff, Nat.reduceMul, Nat.reduceSub, Nat.reduceLeDiff, Nat.reduceLT, Int.reduceToNat, Int.reduceLE, Int.reduceLT, Int.reduceEq, UInt8.reduceOfNat, List.getElem?_map, Int.toNat_natCast, Nat.sub_zero, ha, h0, hfr, hto, e1, h1, h2, h3, l1, l2, l3, r1, r2, x1, x2, x3', y1, y2, y3', m1, m2, m3, m4, byteLV, w1, w2, w3, w4, s1, s2, s3, s4, g1, g2, g3, g4, g5, Nat.le_refl]
        · have hlong : (65575 : Int) < ((L + 8 : Nat) : Int) := by
            apply Classical.byContradiction
            intro hle
            apply ck3
            obtain ⟨⟨o1, o2, o3, o4, o5, o6⟩, ⟨k1, k2⟩, ⟨f1, f2⟩, n8, all, bh⟩ := ok
            rw [if_neg Bool.false_ne_true] at f2
            refine why6_zero.2 ⟨⟨o1, o2, ⟨ht0, ht1⟩, o4, o5, o6⟩, ⟨k1, fun h => by simp at h⟩, ⟨f1, by rw [if_pos rfl]; intro h; rw [f2.2.2] at h; simp at h⟩, n8, all, by omega⟩
          simp only [fE, if_neg ck3] at h3
          simp only [go_sem, ↓reduceIte, reduceCtorEq, upd_ne, back_new (no_at), Nat.reduceAdd, Nat.reduceEqDiff, Nat.reduceMul, Nat.reduceSub, Nat.reduceLeDiff, Nat.reduceLT, Int.reduceToNat, Int.reduceLE, Int.reduceLT, Int.reduceEq, UInt8.reduceOfNat, List.getElem?_map, Int.toNat_natCast, Nat.sub_zero, ha, h0, hfr, hto, e1, h1, h2, h3, l1, l2, r1, r2, x1, x2, x3', y1, y2, y3', m1, m2, m3, m4, byteLV, w1, hlong, Nat.le_refl]
      · simp only [go_sem, ↓reduceIte, reduceCtorEq, upd_ne, back_new (no_at), Nat.reduceAdd, Nat.reduceEqDiff, Nat.reduceMul, Nat.reduceSub, Nat.reduceLeDiff, Nat.reduceLT, Int.reduceToNat, Int.reduceLE, Int.reduceLT, Int.reduceEq, UInt8.reduceOfNat, List.getElem?_map, Int.toNat_natCast, Nat.sub_zero, ha, h0, hfr, hto, e1, h1, h2, l1, l2, r1, r2, x1, x2, x3', y1, y2, y3', m1, m2, m3, m4, byteLV, Nat.le_refl]
    · simp only [fE, ck, if_false] at h1
      by_cases ck2 : why6 cl fl (b.toNat : Int) ex fg id at' mo pt da = 0
      · simp only [fE, ck2, if_true] at h2
        simp only [go_sem, ↓reduceIte, reduceCtorEq, upd_ne, back_new (no_at), Nat.reduceAdd, Nat.reduceEqDiff, Nat.reduceMul, Nat.reduceSub, Nat.reduceLeDiff, Nat.reduceLT, Int.reduceToNat, Int.reduceLE, Int.reduceLT, Int.reduceEq, UInt8.reduceOfNat, ha, h0, hfr, hto, e1, h1, h2, beq_self_eq_true]
      · simp only [fE, ck2, if_false] at h2
        simp only [go_sem, ↓reduceIte, reduceCtorEq, upd_ne, back_new (no_at), Nat.reduceAdd, Nat.reduceEqDiff, Nat.reduceMul, Nat.reduceSub, Nat.reduceLeDiff, Nat.reduceLT, Int.reduceToNat, Int.reduceLE, Int.reduceLT, Int.reduceEq, UInt8.reduceOfNat, ha, h0, hfr, hto, e1, h1, h2, beq_self_eq_true]
end
end Go.Ev
