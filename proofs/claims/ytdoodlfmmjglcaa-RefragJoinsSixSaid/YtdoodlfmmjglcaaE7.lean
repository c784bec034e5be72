/- Part 7 of a proof: what the functions yield. It stands by itself; no condition. -/
import Derived.Test.YtdoodlfmmjglcaaE6
namespace Go.Ev
set_option linter.unusedSimpArgs false
set_option linter.unusedVariables false
set_option maxRecDepth 10000
set_option maxHeartbeats 16000000
theorem bkJ6 {H H' : Slots} (h : hp H = H) (h' : hp H' = H') {a x y z : LV} : back (upd H 4 (.obj 1 a)) (upd (upd (upd (upd H' 4 (.obj 1 a)) 15 (.obj 1 x)) 18 (.obj 1 y)) 20 (.obj 1 z)) = upd H' 4 (.obj 1 a) := by
  funext t
  unfold back
  by_cases q : K0 ≤ t
  · have q' : 1000000 ≤ t := q
    rw [if_pos q, upd_ne (by omega), upd_ne (by omega), upd_ne (by omega)]
  · have q' : t < 1000000 := Nat.lt_of_not_le q
    rw [if_neg q]
    have e1 := hp_at h q'
    have e2 := hp_at h' q'
    by_cases t3 : t = 4
    · subst t3; simp [upd]
    · by_cases t13 : t = 15
      · subst t13; simp [upd, e1, e2]
      · by_cases t16 : t = 18
        · subst t16; simp [upd, e1, e2]
        · by_cases t18 : t = 20
          · subst t18; simp [upd, e1, e2]
          · simp [upd, t3, t13, t16, t18, e1, e2]
section
variable {cl fl ho : Int} {fr to : List UInt8} {ex : List (Int × List UInt8)} {fg : Bool} {id at' : Int} {mo : Bool} {pt : Int} {da : List UInt8}
variable {S : Sys} (hS : Has S) (n : Nat)
include hS
theorem ev_parse6_by (ok : Ok6 cl fl ho ex fg id at' mo pt da) (hid : 0 ≤ id ∧ id ≤ 4294967295) (hfr : fr.length = 16) (hto : to.length = 16) :
    S.ev (n + 4) id_ip6_Parse [.str (by6 cl fl ho fr to ex fg id at' mo pt da)] none = some (.tup [ip6LV cl fl ho fr to (extsLV ex) fg id at' mo pt da, .nili], none) := by
  obtain ⟨p1, p2, p3⟩ := parse_by6 (fr := fr) (to := to) ok hid hfr hto []
  have hlen := by6_len (cl := cl) (fl := fl) (ho := ho) (fr := fr) (to := to) (ex := ex) (fg := fg) (id := id) (at' := at') (mo := mo) (pt := pt) (da := da) hfr hto
  have k1 := ok.bh
  rw [List.append_nil] at p1 p2 p3
  rw [ev_parse6 hS n _ (by omega), p2, p1]; rfl
theorem ev_same17j (hfr : fr.length = 16) (hto : to.length = 16) (hl : ex.length ≤ 140737488351232) :
    S.ev (n + 1) id_interpreterlaw17_same6 [ip6LV cl fl ho fr to (extsLV ex) fg id at' mo pt da, ip6LV cl fl ho fr to (extsLV ex) fg id at' mo pt da] none = some (.bool true, none) := by
  rw [Sys.step hS.h_interpreterlaw17_same6, F_interpreterlaw17_same6_eq]
  unfold F_interpreterlaw17_same6
  (try simp only [guard_merge, or_merge, and_merge, or_pick, and_pick, guard_or, guard_and]); simp only [to_ob]
  simp only [go_sem, ↓reduceIte, reduceCtorEq, upd_ne, @back_new _ _ _ _ _ no_at, Nat.reduceAdd, Nat.reduceEqDiff, Nat.reduceMul, Nat.reduceSub, Nat.reduceLeDiff, Nat.reduceLT, Int.reduceToNat, Int.reduceLE, Int.reduceLT, Int.reduceEq, UInt8.reduceOfNat, hfr, hto, List.length_map]
  refine while_rule (fun k q => ∃ i : Nat, q = ([.bool false, .int .i64 (i : Int)], noSlots) ∧ i + k = ex.length) ex.length ⟨0, rfl, by simp⟩ ?_
  rintro k q ⟨i, rfl, hi⟩
  simp only [go_sem, ↓reduceIte, reduceCtorEq, upd_ne, @back_new _ _ _ _ _ no_at, Nat.reduceAdd, Nat.reduceEqDiff, Nat.reduceMul, Nat.reduceSub, Nat.reduceLeDiff, Nat.reduceLT, Int.reduceToNat, Int.reduceLE, Int.reduceLT, Int.reduceEq, UInt8.reduceOfNat, hfr, hto, List.length_map]
  refine nxt_ite (fun h => ?_) (fun h => ?_)
  · have hlt : i < ex.length := by omega
    obtain ⟨e, he⟩ : ∃ e, ex[i]? = some e := ⟨ex[i], by simp [hlt]⟩
    have e1 : IntKind.i64.wrap ((i : Int) + 1) = ((i + 1 : Nat) : Int) := by rw [wrap_id (by omega) (by omega)]; omega
    simp only [go_sem, ↓reduceIte, reduceCtorEq, upd_ne, @back_new _ _ _ _ _ no_at, Nat.reduceAdd, Nat.reduceEqDiff, Nat.reduceMul, Nat.reduceSub, Nat.reduceLeDiff, Nat.reduceLT, Int.reduceToNat, Int.reduceLE, Int.reduceLT, Int.reduceEq, UInt8.reduceOfNat, List.getElem?_map, Int.toNat_natCast, he, e1, hfr, hto]
    exact ⟨k - 1, by omega, i + 1, rfl, by omega⟩
  · simp only [go_sem, ↓reduceIte, reduceCtorEq, upd_ne, @back_new _ _ _ _ _ no_at, Nat.reduceAdd, Nat.reduceEqDiff, Nat.reduceMul, Nat.reduceSub, Nat.reduceLeDiff, Nat.reduceLT, Int.reduceToNat, Int.reduceLE, Int.reduceLT, Int.reduceEq, UInt8.reduceOfNat, hfr, hto, Nxt, exIf, beq_self_eq_true]
theorem ev_RefragJoinsSix0 (hf : FitIp6 cl fl ho fr to ex id at' pt da) (mtu nid tv : Int) (hmtu : I64 mtu) (hnid : 0 ≤ nid ∧ nid ≤ 4294967295) (htv : I64 tv) :
    S.ev (n + 5011) id_interpreterlaw17_RefragJoinsSix [ip6LV cl fl ho fr to (extsLV ex) fg id at' mo pt da, .int .i64 mtu, .int .u32 nid, .int .i64 tv] none = some (.bool true, none) := by
  have hfr := hf.hfr
  have hto := hf.hto
  have hf0 : FitIp6 cl fl ho fr to ex 0 0 pt da := ⟨hf.hcl, hf.hfl, hf.hho, hfr, hto, hf.hex, hf.hexs, by omega, by unfold I64; omega, hf.hpt, hf.hda⟩
  rw [show n + 5011 = (n + 5010) + 1 from rfl, Sys.step hS.h_interpreterlaw17_RefragJoinsSix, F_interpreterlaw17_RefragJoinsSix_eq]
  unfold F_interpreterlaw17_RefragJoinsSix F_interpreterlaw17_RefragJoinsSix_k1
  have hg := ev_great617 hS (n + 5009) (cl := cl) (fl := fl) (ho := ho) (fr := fr) (to := to) (ex := ex) (fg := false) (id := 0) (at' := 0) (mo := false) (pt := pt) (da := da) hfr hto hf.hex
  have hw := ev_wakes17 hS (n + 5003)
  have hc := ev_cut6 hS (n + 5004) (fg := false) (mo := false) hf0 mtu nid
  have hN := ev_FNew hS (n + 5009)
  rw [show n + 5009 + 1 = n + 5010 from rfl] at hg hN
  rw [show n + 5003 + 7 = n + 5010 from rfl] at hw
  rw [show n + 5004 + 6 = n + 5010 from rfl] at hc
  have hEX : LV.isAgg (extsLV ex) = false ∧ stor (extsLV ex) = true ∧ flatLen (extsLV ex) = 1 ∧ psl (extsLV ex) = some (extsLV ex) ∧ plainRes (extsLV ex) = true := ⟨Eq.trans rfl rfl, Eq.trans rfl rfl, by simp only [extsLV, flatLen], by simp only [extsLV, psl], Eq.trans rfl rfl⟩
  (try simp only [guard_merge, or_merge, and_merge, or_pick, and_pick, guard_or, guard_and]); simp only [to_ob]
  generalize hD : n + 5010 = D at hg hw hc hN ⊢
  by_cases g : big6 ex da = true
  · rw [g] at hg
    generalize extsLV ex = EX at *
    obtain ⟨x1, x2, x3, x4, x5⟩ := hEX
    simp only [go_sem, ↓reduceIte, reduceCtorEq, upd_ne, @back_new _ _ _ _ _ no_at, Nat.reduceAdd, Nat.reduceEqDiff, Nat.reduceMul, Nat.reduceSub, Nat.reduceLeDiff, Nat.reduceLT, Int.reduceToNat, Int.reduceLE, Int.reduceLT, Int.reduceEq, UInt8.reduceOfNat, ↓ e_callR, obR_some, hfr, hto, hg, hw, x1, x2, x3, x4, x5]
  · rw [Bool.not_eq_true _ |>.mp g] at hg
    by_cases cc : cut6C cl fl ho ex false 0 0 false pt da mtu = 0
    rotate_left 1
    · rw [cut6_none cc] at hc
      generalize extsLV ex = EX at *
      obtain ⟨x1, x2, x3, x4, x5⟩ := hEX
      simp only [go_sem, ↓reduceIte, reduceCtorEq, upd_ne, @back_new _ _ _ _ _ no_at, Nat.reduceAdd, Nat.reduceEqDiff, Nat.reduceMul, Nat.reduceSub, Nat.reduceLeDiff, Nat.reduceLT, Int.reduceToNat, Int.reduceLE, Int.reduceLT, Int.reduceEq, UInt8.reduceOfNat, ↓ e_callR, obR_some, hfr, hto, hg, hw, hc, cc, x1, x2, x3, x4, x5]
    · have hdl : da.length ≤ 4000 := by
        apply Classical.byContradiction
        intro q
        apply g
        unfold big6
        rw [decide_eq_true (show 4000 < da.length by omega)]
        simp
      rw [cutP6_L cc, cc] at hc
      obtain ⟨hP, hfo⟩ := cutP6_parts (nid := nid) (mtu := mtu) hdl cc
      have hne := hP.ne
      have hfew := hP.few
      generalize hT : cutP6 cl fl ho ex pt da mtu = T at hc hP hfo hne hfew
      generalize hF : cutF6 cl fl ho ex pt da mtu = F at hc hfo
      have hne' : ¬ (T.length : Int) = 0 := by omega
      have hmg : mrg noSlots H0 = H0 := mrg_heap hp_no H0_hp
      have hI : 0 ≤ (if F = true then nid else 0) ∧ (if F = true then nid else 0) ≤ 4294967295 := by split <;> omega
      have hI2 : F = true → (if F = true then nid else 0) = nid := fun q => if_pos q
      have hfP : ∀ p, fpLV6 cl fl ho fr to ex pt nid F p = ip6LV cl fl ho fr to (extsLV ex) F (if F = true then nid else 0) p.a p.m pt p.d := fun p => rfl
      generalize fpLV6 cl fl ho fr to ex pt nid F = fP at hc hfP
      have hround : ∀ (k j : Nat), k < T.length → j < T.length → ∃ p, T[(j + k) % T.length]? = some p ∧ (turn T k)[j]? = some p ∧ FragOk6 cl fl ho ex pt mtu nid T F p := by
        intro k j hk hj
        have e := turn_at (T := T) hk hj
        have hm : (if j + k < T.length then j + k else j + k - T.length) = (j + k) % T.length := by
          split
          · rw [Nat.mod_eq_of_lt (by assumption)]
          · rw [Nat.mod_eq_sub_mod (by omega), Nat.mod_eq_of_lt (by omega)]
        rw [hm] at e
        have hl : (j + k) % T.length < T.length := Nat.mod_lt _ hne
        refine ⟨T[(j + k) % T.length], by simp [hl], by rw [e]; simp [hl], hfo _ (List.getElem_mem _)⟩
      have hround2 : ∀ (p : Pc), FragOk6 cl fl ho ex pt mtu nid T F p → ∃ (B : List UInt8) (N : Nat), (S.ev D).c id_ip6_Bytes [ip6LV cl fl ho fr to (extsLV ex) F (if F = true then nid else 0) p.a p.m pt p.d] none = some (.tup [.str B, .nili], none) ∧
          (S.ev D).c id_ip6_Parse [.str B] none = some (.tup [ip6LV cl fl ho fr to (extsLV ex) F (if F = true then nid else 0) p.a p.m pt p.d, .nili], none) ∧
          (S.ev D).c id_interpreterlaw17_same6 [ip6LV cl fl ho fr to (extsLV ex) F (if F = true then nid else 0) p.a p.m pt p.d, ip6LV cl fl ho fr to (extsLV ex) F (if F = true then nid else 0) p.a p.m pt p.d] none = some (.bool true, none) ∧
          B.length = N ∧ N ≤ 70000 ∧ (N : Int) ≤ mtu ∧ (1 < T.length → F = true ∧ (p.m = true → mtu < ((N + 8 : Nat) : Int))) := by
        intro p hpo
        have ok := hpo.ok
        have o1 := ok.rg
        have o2 := ok.all
        have o3 := ok.bh
        have hfit : FitIp6 cl fl ho fr to ex (if F = true then nid else 0) (p.a : Int) pt p.d := ⟨hf.hcl, hf.hfl, hf.hho, hfr, hto, hf.hex, hf.hexs, hI, by unfold I64; omega, hf.hpt, by omega⟩
        have hb := ev_bytes6 hS (n + 5006) (fg := F) (mo := p.m) hfit
        have hq := ev_parse6_by hS (n + 5006) (fr := fr) (to := to) ok hI hfr hto
        have hs := ev_same17j hS (n + 5009) (cl := cl) (fl := fl) (ho := ho) (fr := fr) (to := to) (ex := ex) (fg := F) (id := if F = true then nid else 0) (at' := p.a) (mo := p.m) (pt := pt) (da := p.d) hfr hto hf.hex
        rw [show n + 5006 + 4 = n + 5010 from rfl, hD] at hb hq
        rw [show n + 5009 + 1 = n + 5010 from rfl, hD] at hs
        have hBl := by6_len (cl := cl) (fl := fl) (ho := ho) (fr := fr) (to := to) (ex := ex) (fg := F) (id := if F = true then nid else 0) (at' := p.a) (mo := p.m) (pt := pt) (da := p.d) hfr hto
        rw [why6_zero.2 ok, show by6R cl fl ho fr to ex F (if F = true then nid else 0) (p.a : Int) p.m pt p.d = by6 cl fl ho fr to ex F (if F = true then nid else 0) p.a p.m pt p.d from by unfold by6R; rw [if_pos (why6_zero.2 ok)], show fE 0 = .nili from rfl] at hb
        exact ⟨_, _, hb, hq, hs, hBl, by omega, hpo.fits, fun q => ⟨hpo.many q, fun r => hpo.full q r⟩⟩
      generalize (if F = true then nid else 0) = I at hfP hI hI2 hround2
      have hput := fun {k j : Nat} {p : Pc} {H : Slots} => put_turn hS n hP hdl (k := k) (j := j) (p := p) (H := H)
      rw [hD] at hput
      have b1 : Int.tmod tv (T.length : Int) < (T.length : Int) := Int.tmod_lt_of_pos _ (by omega)
      have b2 : - (T.length : Int) < Int.tmod tv (T.length : Int) := Int.lt_tmod_of_pos _ (by omega)
      clear hf hf0 hfo hT hF cc
      generalize extsLV ex = EX at *
      obtain ⟨x1, x2, x3, x4, x5⟩ := hEX
      by_cases c : Int.tmod tv (T.length : Int) < 0
      · obtain ⟨k, hk⟩ := Int.eq_ofNat_of_zero_le (show 0 ≤ Int.tmod tv (T.length : Int) + T.length by omega)
        have hkl : k < T.length := by omega
        have hkw : IntKind.i64.wrap (Int.tmod tv (T.length : Int) + (T.length : Int)) = (k : Int) := by rw [hk]; exact wrap_id (by omega) (by omega)
        simp only [go_sem, ↓reduceIte, reduceCtorEq, upd_ne, @back_new _ _ _ _ _ no_at, Nat.reduceAdd, Nat.reduceEqDiff, Nat.reduceMul, Nat.reduceSub, Nat.reduceLeDiff, Nat.reduceLT, Int.reduceToNat, Int.reduceLE, Int.reduceLT, Int.reduceEq, UInt8.reduceOfNat, ↓ e_callR, obR_some, hfr, hto, hg, hc, hN, List.length_map, hne', H0_hp, hp_no, hmg, c, hkw, x1, x2, x3, x4, x5]
        refine while_rule (fun m q => ∃ (j : Nat) (H : Slots), q = ([.bool false, .int .i64 (j : Int)], upd H 4 (.obj 1 (ip6LV cl fl ho fr to EX false 0 0 false pt da))) ∧ j + m = T.length ∧ hp H = H ∧ Sof T da k j H) T.length ⟨0, H0, rfl, by simp, H0_hp, fun _ => .inl ⟨rfl, rfl⟩⟩ ?_
        rintro m q ⟨j, H, rfl, hjm, hH, hSo⟩
        by_cases hj : j < T.length
        · obtain ⟨⟨pa, pm, pd⟩, hp1, hp2, hpo⟩ := hround k j hkl hj
          obtain ⟨B, N, hb, hq, hs, hBl, hN1, hN2, hN3⟩ := hround2 _ hpo
          have hj' : (j : Int) < (T.length : Int) := by omega
          simp only at hb hq hs hBl hN1 hN2 hN3
          obtain ⟨W, sl', hW, hpt, hsl, hdone, hnext⟩ := hput hkl hj hp2 hSo
          simp only [pkLV] at hpt
          have H13 := hp_at hH (t := 15) (by omega)
          have H16 := hp_at hH (t := 18) (by omega)
          have s18 := hp_at hsl (t := 20) (by omega)
          have hmr := mrg_heap hH hsl
          have e8' : 1 < T.length → pm = true → ¬ ((N + 8 : Nat) : Int) ≤ mtu := fun h h2 => by have := (hN3 h).2 h2; omega
          have e1 : IntKind.i64.wrap ((j : Int) + (k : Int)) = ((j + k : Nat) : Int) := by rw [wrap_id (by omega) (by omega)]; omega
          have e4 : IntKind.i64.wrap ((j : Int) + 1) = ((j + 1 : Nat) : Int) := by rw [wrap_id (by omega) (by omega)]; omega
          have e5 : IntKind.i64.wrap ((T.length : Int) - 1) = ((T.length - 1 : Nat) : Int) := by rw [wrap_id (by omega) (by omega)]; omega
          have e6 : ¬ mtu < (N : Int) := by omega
          have e7 : IntKind.i64.wrap ((N : Int) + 8) = ((N + 8 : Nat) : Int) := by rw [wrap_id (by omega) (by omega)]; omega
          have e3 : (((j + k) % T.length : Nat) : Int) < (T.length : Int) := by have := Nat.mod_lt (j + k) hne; omega
          have hbk := fun (x y z : LV) => bkJ6 H0_hp hsl (a := (ip6LV cl fl ho fr to EX false 0 0 false pt da)) (x := x) (y := y) (z := z)
          have hfl := hW.fl
          have hag := hW.ag
          have hps := hW.ps
          by_cases hd : j + 1 = T.length
          · have ht2 : (j : Int) = ((T.length - 1 : Nat) : Int) := by clear hfl hag hps hdone; omega
            have fin : m - 1 < m ∧ j + 1 + (m - 1) = T.length := by clear hfl hag hps hdone; omega
            have hd1 := decide_eq_true hd
            have hd2 := decide_eq_true ht2
            have e2 : Int.tmod ((j + k : Nat) : Int) (T.length : Int) = (((j + k) % T.length : Nat) : Int) := rfl
            have h1l : (1 : Int) < (T.length : Int) → 1 < T.length := fun q => by clear hfl hag hps hdone e2; omega
            obtain ⟨mm, rfl, hmm⟩ := hdone hd
            by_cases l1 : (1 : Int) < (T.length : Int)
            · obtain ⟨F1, F2⟩ := hN3 (h1l l1)
              have F3 := hI2 F1
              subst F1 F3
              cases pm
              · simp only [go_sem, ↓reduceIte, reduceCtorEq, upd_ne, @back_new _ _ _ _ _ no_at, Nat.reduceAdd, Nat.reduceEqDiff, Nat.reduceMul, Nat.reduceSub, Nat.reduceLeDiff, Nat.reduceLT, Int.reduceToNat, Int.reduceLE, Int.reduceLT, Int.reduceEq, UInt8.reduceOfNat, List.getElem?_map, Int.toNat_natCast, ↓ e_callR, obR_some, hfr, hto, hj', e1, e2, e3, e4, e5, e6, e7, hp1, hb, hq, hs, hBl, hH, hsl, H13, H16, s18, hmr, hpt, hp_lowU, mrg_lowU, hfP, x1, x2, x3, x4, x5, beq_self_eq_true, hne', hfl, hag, hps, hd1, hd2, l1, hbk, bne_self_eq_false]
                exact ⟨m - 1, fin.1, j + 1, sl', rfl, fin.2, hsl, hnext⟩
              · have e8 := e8' (h1l l1) rfl
                simp only [go_sem, ↓reduceIte, reduceCtorEq, upd_ne, @back_new _ _ _ _ _ no_at, Nat.reduceAdd, Nat.reduceEqDiff, Nat.reduceMul, Nat.reduceSub, Nat.reduceLeDiff, Nat.reduceLT, Int.reduceToNat, Int.reduceLE, Int.reduceLT, Int.reduceEq, UInt8.reduceOfNat, List.getElem?_map, Int.toNat_natCast, ↓ e_callR, obR_some, hfr, hto, hj', e1, e2, e3, e4, e5, e6, e7, hp1, hb, hq, hs, hBl, hH, hsl, H13, H16, s18, hmr, hpt, hp_lowU, mrg_lowU, hfP, x1, x2, x3, x4, x5, beq_self_eq_true, hne', hfl, hag, hps, hd1, hd2, l1, hbk, bne_self_eq_false, e8]
                exact ⟨m - 1, fin.1, j + 1, sl', rfl, fin.2, hsl, hnext⟩
            · simp only [go_sem, ↓reduceIte, reduceCtorEq, upd_ne, @back_new _ _ _ _ _ no_at, Nat.reduceAdd, Nat.reduceEqDiff, Nat.reduceMul, Nat.reduceSub, Nat.reduceLeDiff, Nat.reduceLT, Int.reduceToNat, Int.reduceLE, Int.reduceLT, Int.reduceEq, UInt8.reduceOfNat, List.getElem?_map, Int.toNat_natCast, ↓ e_callR, obR_some, hfr, hto, hj', e1, e2, e3, e4, e5, e6, e7, hp1, hb, hq, hs, hBl, hH, hsl, H13, H16, s18, hmr, hpt, hp_lowU, mrg_lowU, hfP, x1, x2, x3, x4, x5, beq_self_eq_true, hne', hfl, hag, hps, hd1, hd2, l1, hbk, bne_self_eq_false]
              exact ⟨m - 1, fin.1, j + 1, sl', rfl, fin.2, hsl, hnext⟩
          · have fin : m - 1 < m ∧ j + 1 + (m - 1) = T.length := by omega
            have hd1 := decide_eq_false hd
            have hd2 := decide_eq_false (show ¬ (j : Int) = ((T.length - 1 : Nat) : Int) by omega)
            have h1l : (1 : Int) < (T.length : Int) → 1 < T.length := fun q => by omega
            have e2 : Int.tmod ((j + k : Nat) : Int) (T.length : Int) = (((j + k) % T.length : Nat) : Int) := rfl
            by_cases l1 : (1 : Int) < (T.length : Int)
            · obtain ⟨F1, F2⟩ := hN3 (h1l l1)
              have F3 := hI2 F1
              subst F1 F3
              cases pm
              · simp only [go_sem, ↓reduceIte, reduceCtorEq, upd_ne, @back_new _ _ _ _ _ no_at, Nat.reduceAdd, Nat.reduceEqDiff, Nat.reduceMul, Nat.reduceSub, Nat.reduceLeDiff, Nat.reduceLT, Int.reduceToNat, Int.reduceLE, Int.reduceLT, Int.reduceEq, UInt8.reduceOfNat, List.getElem?_map, Int.toNat_natCast, ↓ e_callR, obR_some, hfr, hto, hj', e1, e2, e3, e4, e5, e6, e7, hp1, hb, hq, hs, hBl, hH, hsl, H13, H16, s18, hmr, hpt, hp_lowU, mrg_lowU, hfP, x1, x2, x3, x4, x5, beq_self_eq_true, hne', hfl, hag, hps, hd1, hd2, l1, hbk, bne_self_eq_false]
                exact ⟨m - 1, fin.1, j + 1, sl', rfl, fin.2, hsl, hnext⟩
              · have e8 := e8' (h1l l1) rfl
                simp only [go_sem, ↓reduceIte, reduceCtorEq, upd_ne, @back_new _ _ _ _ _ no_at, Nat.reduceAdd, Nat.reduceEqDiff, Nat.reduceMul, Nat.reduceSub, Nat.reduceLeDiff, Nat.reduceLT, Int.reduceToNat, Int.reduceLE, Int.reduceLT, Int.reduceEq, UInt8.reduceOfNat, List.getElem?_map, Int.toNat_natCast, ↓ e_callR, obR_some, hfr, hto, hj', e1, e2, e3, e4, e5, e6, e7, hp1, hb, hq, hs, hBl, hH, hsl, H13, H16, s18, hmr, hpt, hp_lowU, mrg_lowU, hfP, x1, x2, x3, x4, x5, beq_self_eq_true, hne', hfl, hag, hps, hd1, hd2, l1, hbk, bne_self_eq_false, e8]
                exact ⟨m - 1, fin.1, j + 1, sl', rfl, fin.2, hsl, hnext⟩
            · simp only [go_sem, ↓reduceIte, reduceCtorEq, upd_ne, @back_new _ _ _ _ _ no_at, Nat.reduceAdd, Nat.reduceEqDiff, Nat.reduceMul, Nat.reduceSub, Nat.reduceLeDiff, Nat.reduceLT, Int.reduceToNat, Int.reduceLE, Int.reduceLT, Int.reduceEq, UInt8.reduceOfNat, List.getElem?_map, Int.toNat_natCast, ↓ e_callR, obR_some, hfr, hto, hj', e1, e2, e3, e4, e5, e6, e7, hp1, hb, hq, hs, hBl, hH, hsl, H13, H16, s18, hmr, hpt, hp_lowU, mrg_lowU, hfP, x1, x2, x3, x4, x5, beq_self_eq_true, hne', hfl, hag, hps, hd1, hd2, l1, hbk, bne_self_eq_false]
              exact ⟨m - 1, fin.1, j + 1, sl', rfl, fin.2, hsl, hnext⟩
        · have hj' : ¬ (j : Int) < (T.length : Int) := by omega
          simp only [go_sem, ↓reduceIte, reduceCtorEq, upd_ne, @back_new _ _ _ _ _ no_at, Nat.reduceAdd, Nat.reduceEqDiff, Nat.reduceMul, Nat.reduceSub, Nat.reduceLeDiff, Nat.reduceLT, Int.reduceToNat, Int.reduceLE, Int.reduceLT, Int.reduceEq, UInt8.reduceOfNat, List.getElem?_map, Int.toNat_natCast, ↓ e_callR, obR_some, hj', hw, Nxt, exIf]
      · obtain ⟨k, hk⟩ := Int.eq_ofNat_of_zero_le (show 0 ≤ Int.tmod tv (T.length : Int) by omega)
        have hkl : k < T.length := by omega
        have hkn : ¬ (k : Int) < 0 := by omega
        simp only [go_sem, ↓reduceIte, reduceCtorEq, upd_ne, @back_new _ _ _ _ _ no_at, Nat.reduceAdd, Nat.reduceEqDiff, Nat.reduceMul, Nat.reduceSub, Nat.reduceLeDiff, Nat.reduceLT, Int.reduceToNat, Int.reduceLE, Int.reduceLT, Int.reduceEq, UInt8.reduceOfNat, ↓ e_callR, obR_some, hfr, hto, hg, hc, hN, List.length_map, hne', H0_hp, hp_no, hmg, hk, hkn, x1, x2, x3, x4, x5]
        refine while_rule (fun m q => ∃ (j : Nat) (H : Slots), q = ([.bool false, .int .i64 (j : Int)], upd H 4 (.obj 1 (ip6LV cl fl ho fr to EX false 0 0 false pt da))) ∧ j + m = T.length ∧ hp H = H ∧ Sof T da k j H) T.length ⟨0, H0, rfl, by simp, H0_hp, fun _ => .inl ⟨rfl, rfl⟩⟩ ?_
        rintro m q ⟨j, H, rfl, hjm, hH, hSo⟩
        by_cases hj : j < T.length
        · obtain ⟨⟨pa, pm, pd⟩, hp1, hp2, hpo⟩ := hround k j hkl hj
          obtain ⟨B, N, hb, hq, hs, hBl, hN1, hN2, hN3⟩ := hround2 _ hpo
          have hj' : (j : Int) < (T.length : Int) := by omega
          simp only at hb hq hs hBl hN1 hN2 hN3
          obtain ⟨W, sl', hW, hpt, hsl, hdone, hnext⟩ := hput hkl hj hp2 hSo
          simp only [pkLV] at hpt
          have H13 := hp_at hH (t := 15) (by omega)
          have H16 := hp_at hH (t := 18) (by omega)
          have s18 := hp_at hsl (t := 20) (by omega)
          have hmr := mrg_heap hH hsl
          have e8' : 1 < T.length → pm = true → ¬ ((N + 8 : Nat) : Int) ≤ mtu := fun h h2 => by have := (hN3 h).2 h2; omega
          have e1 : IntKind.i64.wrap ((j : Int) + (k : Int)) = ((j + k : Nat) : Int) := by rw [wrap_id (by omega) (by omega)]; omega
          have e4 : IntKind.i64.wrap ((j : Int) + 1) = ((j + 1 : Nat) : Int) := by rw [wrap_id (by omega) (by omega)]; omega
          have e5 : IntKind.i64.wrap ((T.length : Int) - 1) = ((T.length - 1 : Nat) : Int) := by rw [wrap_id (by omega) (by omega)]; omega
          have e6 : ¬ mtu < (N : Int) := by omega
          have e7 : IntKind.i64.wrap ((N : Int) + 8) = ((N + 8 : Nat) : Int) := by rw [wrap_id (by omega) (by omega)]; omega
          have e3 : (((j + k) % T.length : Nat) : Int) < (T.length : Int) := by have := Nat.mod_lt (j + k) hne; omega
          have hbk := fun (x y z : LV) => bkJ6 H0_hp hsl (a := (ip6LV cl fl ho fr to EX false 0 0 false pt da)) (x := x) (y := y) (z := z)
          have hfl := hW.fl
          have hag := hW.ag
          have hps := hW.ps
          by_cases hd : j + 1 = T.length
          · have ht2 : (j : Int) = ((T.length - 1 : Nat) : Int) := by clear hfl hag hps hdone; omega
            have fin : m - 1 < m ∧ j + 1 + (m - 1) = T.length := by clear hfl hag hps hdone; omega
            have hd1 := decide_eq_true hd
            have hd2 := decide_eq_true ht2
            have e2 : Int.tmod ((j + k : Nat) : Int) (T.length : Int) = (((j + k) % T.length : Nat) : Int) := rfl
            have h1l : (1 : Int) < (T.length : Int) → 1 < T.length := fun q => by clear hfl hag hps hdone e2; omega
            obtain ⟨mm, rfl, hmm⟩ := hdone hd
            by_cases l1 : (1 : Int) < (T.length : Int)
            · obtain ⟨F1, F2⟩ := hN3 (h1l l1)
              have F3 := hI2 F1
              subst F1 F3
              cases pm
              · simp only [go_sem, ↓reduceIte, reduceCtorEq, upd_ne, @back_new _ _ _ _ _ no_at, Nat.reduceAdd, Nat.reduceEqDiff, Nat.reduceMul, Nat.reduceSub, Nat.reduceLeDiff, Nat.reduceLT, Int.reduceToNat, Int.reduceLE, Int.reduceLT, Int.reduceEq, UInt8.reduceOfNat, List.getElem?_map, Int.toNat_natCast, ↓ e_callR, obR_some, hfr, hto, hj', e1, e2, e3, e4, e5, e6, e7, hp1, hb, hq, hs, hBl, hH, hsl, H13, H16, s18, hmr, hpt, hp_lowU, mrg_lowU, hfP, x1, x2, x3, x4, x5, beq_self_eq_true, hne', hfl, hag, hps, hd1, hd2, l1, hbk, bne_self_eq_false]
                exact ⟨m - 1, fin.1, j + 1, sl', rfl, fin.2, hsl, hnext⟩
              · have e8 := e8' (h1l l1) rfl
                simp only [go_sem, ↓reduceIte, reduceCtorEq, upd_ne, @back_new _ _ _ _ _ no_at, Nat.reduceAdd, Nat.reduceEqDiff, Nat.reduceMul, Nat.reduceSub, Nat.reduceLeDiff, Nat.reduceLT, Int.reduceToNat, Int.reduceLE, Int.reduceLT, Int.reduceEq, UInt8.reduceOfNat, List.getElem?_map, Int.toNat_natCast, ↓ e_callR, obR_some, hfr, hto, hj', e1, e2, e3, e4, e5, e6, e7, hp1, hb, hq, hs, hBl, hH, hsl, H13, H16, s18, hmr, hpt, hp_lowU, mrg_lowU, hfP, x1, x2, x3, x4, x5, beq_self_eq_true, hne', hfl, hag, hps, hd1, hd2, l1, hbk, bne_self_eq_false, e8]
                exact ⟨m - 1, fin.1, j + 1, sl', rfl, fin.2, hsl, hnext⟩
            · simp only [go_sem, ↓reduceIte, reduceCtorEq, upd_ne, @back_new _ _ _ _ _ no_at, Nat.reduceAdd, Nat.reduceEqDiff, Nat.reduceMul, Nat.reduceSub, Nat.reduceLeDiff, Nat.reduceLT, Int.reduceToNat, Int.reduceLE, Int.reduceLT, Int.reduceEq, UInt8.reduceOfNat, List.getElem?_map, Int.toNat_natCast, ↓ e_callR, obR_some, hfr, hto, hj', e1, e2, e3, e4, e5, e6, e7, hp1, hb, hq, hs, hBl, hH, hsl, H13, H16, s18, hmr, hpt, hp_lowU, mrg_lowU, hfP, x1, x2, x3, x4, x5, beq_self_eq_true, hne', hfl, hag, hps, hd1, hd2, l1, hbk, bne_self_eq_false]
              exact ⟨m - 1, fin.1, j + 1, sl', rfl, fin.2, hsl, hnext⟩
          · have fin : m - 1 < m ∧ j + 1 + (m - 1) = T.length := by omega
            have hd1 := decide_eq_false hd
            have hd2 := decide_eq_false (show ¬ (j : Int) = ((T.length - 1 : Nat) : Int) by omega)
            have h1l : (1 : Int) < (T.length : Int) → 1 < T.length := fun q => by omega
            have e2 : Int.tmod ((j + k : Nat) : Int) (T.length : Int) = (((j + k) % T.length : Nat) : Int) := rfl
            by_cases l1 : (1 : Int) < (T.length : Int)
            · obtain ⟨F1, F2⟩ := hN3 (h1l l1)
              have F3 := hI2 F1
              subst F1 F3
              cases pm
              · simp only [go_sem, ↓reduceIte, reduceCtorEq, upd_ne, @back_new _ _ _ _ _ no_at, Nat.reduceAdd, Nat.reduceEqDiff, Nat.reduceMul, Nat.reduceSub, Nat.reduceLeDiff, Nat.reduceLT, Int.reduceToNat, Int.reduceLE, Int.reduceLT, Int.reduceEq, UInt8.reduceOfNat, List.getElem?_map, Int.toNat_natCast, ↓ e_callR, obR_some, hfr, hto, hj', e1, e2, e3, e4, e5, e6, e7, hp1, hb, hq, hs, hBl, hH, hsl, H13, H16, s18, hmr, hpt, hp_lowU, mrg_lowU, hfP, x1, x2, x3, x4, x5, beq_self_eq_true, hne', hfl, hag, hps, hd1, hd2, l1, hbk, bne_self_eq_false]
                exact ⟨m - 1, fin.1, j + 1, sl', rfl, fin.2, hsl, hnext⟩
              · have e8 := e8' (h1l l1) rfl
                simp only [go_sem, ↓reduceIte, reduceCtorEq, upd_ne, @back_new _ _ _ _ _ no_at, Nat.reduceAdd, Nat.reduceEqDiff, Nat.reduceMul, Nat.reduceSub, Nat.reduceLeDiff, Nat.reduceLT, Int.reduceToNat, Int.reduceLE, Int.reduceLT, Int.reduceEq, UInt8.reduceOfNat, List.getElem?_map, Int.toNat_natCast, ↓ e_callR, obR_some, hfr, hto, hj', e1, e2, e3, e4, e5, e6, e7, hp1, hb, hq, hs, hBl, hH, hsl, H13, H16, s18, hmr, hpt, hp_lowU, mrg_lowU, hfP, x1, x2, x3, x4, x5, beq_self_eq_true, hne', hfl, hag, hps, hd1, hd2, l1, hbk, bne_self_eq_false, e8]
                exact ⟨m - 1, fin.1, j + 1, sl', rfl, fin.2, hsl, hnext⟩
            · simp only [go_sem, ↓reduceIte, reduceCtorEq, upd_ne, @back_new _ _ _ _ _ no_at, Nat.reduceAdd, Nat.reduceEqDiff, Nat.reduceMul, Nat.reduceSub, Nat.reduceLeDiff, Nat.reduceLT, Int.reduceToNat, Int.reduceLE, Int.reduceLT, Int.reduceEq, UInt8.reduceOfNat, List.getElem?_map, Int.toNat_natCast, ↓ e_callR, obR_some, hfr, hto, hj', e1, e2, e3, e4, e5, e6, e7, hp1, hb, hq, hs, hBl, hH, hsl, H13, H16, s18, hmr, hpt, hp_lowU, mrg_lowU, hfP, x1, x2, x3, x4, x5, beq_self_eq_true, hne', hfl, hag, hps, hd1, hd2, l1, hbk, bne_self_eq_false]
              exact ⟨m - 1, fin.1, j + 1, sl', rfl, fin.2, hsl, hnext⟩
        · have hj' : ¬ (j : Int) < (T.length : Int) := by omega
          simp only [go_sem, ↓reduceIte, reduceCtorEq, upd_ne, @back_new _ _ _ _ _ no_at, Nat.reduceAdd, Nat.reduceEqDiff, Nat.reduceMul, Nat.reduceSub, Nat.reduceLeDiff, Nat.reduceLT, Int.reduceToNat, Int.reduceLE, Int.reduceLT, Int.reduceEq, UInt8.reduceOfNat, List.getElem?_map, Int.toNat_natCast, ↓ e_callR, obR_some, hj', hw, Nxt, exIf]
theorem ev_RefragJoinsSix {vs : List LV} (h : fitVL [shpIp6, .int .i64, .int .u32, .int .i64] vs) : S.ev (n + 5011) id_interpreterlaw17_RefragJoinsSix vs none = some (.bool true, none) := by
  obtain ⟨a, r, e, g1, q1⟩ := fit_cons h; clear h; subst e; obtain ⟨cl, fl, ho, fr, to, ex, fg, id, at', mo, pt, da, rfl, hf⟩ := fit_ip6 g1; clear g1
  obtain ⟨a, r, e, g2, q2⟩ := fit_cons q1; clear q1; subst e; obtain ⟨mtu, rfl, hmt⟩ := fit_i64 g2; clear g2
  obtain ⟨a, r, e, g3, q3⟩ := fit_cons q2; clear q2; subst e; obtain ⟨nid, rfl, hnid⟩ := fit_u32 g3; clear g3
  obtain ⟨a, r, e, g4, q4⟩ := fit_cons q3; clear q3; subst e; obtain ⟨tv, rfl, htv⟩ := fit_i64 g4; clear g4
  obtain rfl := fit_nil q4
  exact ev_RefragJoinsSix0 hS n hf mtu nid tv hmt hnid htv
end
end Go.Ev
