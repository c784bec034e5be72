/- Part 6 of a proof: what the functions yield. It stands by itself; no condition. -/
import Derived.Test.YtgnpljdhhliemaaE5
/- Layer 17: the document's Cut6, of a fragment. -/
namespace Go.Ev
set_option linter.unusedSimpArgs false
set_option linter.unusedVariables false
set_option maxRecDepth 10000
set_option maxHeartbeats 8000000
section
variable {cl fl ho : Int} {fr to : List UInt8} {ex : List (Int × List UInt8)} {fg : Bool} {id at' : Int} {mo : Bool} {pt : Int} {da : List UInt8}
variable {S : Sys} (hS : Has S) (n : Nat)
include hS
theorem ev_rcut6_t (hf : FitIp6 cl fl ho fr to ex id at' pt da) (hok : why6 cl fl ho ex true id at' mo pt da = 0) (mtu nid : Int) :
    S.ev (n + 2) id_interpreterref17_Cut6 [ip6LV cl fl ho fr to (extsLV ex) true id at' mo pt da, .int .i64 mtu, .int .u32 nid] none = some (.tup [.lst none (cut6L cl fl ho fr to ex true id at' mo pt da mtu nid), .int .i64 (cut6C cl fl ho ex true id at' mo pt da mtu)], none) := by
  rw [Sys.step hS.h_interpreterref17_Cut6, F_interpreterref17_Cut6_eq]
  unfold F_interpreterref17_Cut6
  have hfr := hf.hfr
  have hto := hf.hto
  (try simp only [guard_merge, or_merge, and_merge, or_pick, and_pick, guard_or, guard_and]); simp only [to_ob]
  have ok := why6_zero.1 hok
  have hall := ok.all
  have hrg := ok.rg
  have hbb := ok.bh
  have hex8 := ok.n8
  have hbh : bh6 ex true da = szE ex + 8 + da.length := by unfold bh6; simp
  have hhd : hd6 ex true = 40 + szE ex + 8 := by unfold hd6; simp
  have hhd' : hd6 ex true = 40 + szE ex + 8 := by unfold hd6; simp
  have hh := ev_head6 hS n (cl := cl) (fl := fl) (ho := ho) (fr := fr) (to := to) (ex := ex) (fg := true) (id := id) (at' := at') (mo := mo) (pt := pt) (da := da) hfr hto (by omega) (by omega)
  have hh2 := ev_head6 hS n (cl := cl) (fl := fl) (ho := ho) (fr := fr) (to := to) (ex := ex) (fg := true) (id := id) (at' := at') (mo := mo) (pt := pt) (da := da) hfr hto (by omega) (by omega)
  have hN : ln6 cl fl ho ex true id at' mo pt da = hd6 ex true + da.length := by unfold ln6; rw [if_pos hok]; omega
  unfold cut6L cut6C
  rw [hN]
  have b0 : IntKind.i64.wrap (((hd6 ex true : Nat) : Int) + (da.length : Int)) = ((hd6 ex true + da.length : Nat) : Int) := by rw [wrap_id (by omega) (by omega)]; omega
  have hX : extsLV ex = extsLV ex := rfl
  have hEX : LV.isAgg (extsLV ex) = false ∧ stor (extsLV ex) = true ∧ flatLen (extsLV ex) = 1 ∧ psl (extsLV ex) = some (extsLV ex) ∧ plainRes (extsLV ex) = true := ⟨Eq.trans rfl rfl, Eq.trans rfl rfl, by simp only [extsLV, flatLen], by simp only [extsLV, psl], Eq.trans rfl rfl⟩
  have hfrs : ∀ (sz j : Nat) (i0 : Int), fr6 cl fl ho fr to ex i0 at' mo pt da sz j = ip6LV cl fl ho fr to (extsLV ex) true i0 (fA at' sz j) (fM mo da sz j) pt (fD da sz j) := fun _ _ _ => rfl
  generalize extsLV ex = EX at *
  obtain ⟨x1, x2, x3, x4, x5⟩ := hEX
  by_cases c : hd6 ex true + da.length = 0 ∨ mtu < 1280 ∨ 65535 < mtu
  · rw [if_pos c, if_pos c]
    by_cases a2 : mtu < 1280 <;> by_cases a3 : 65535 < mtu <;> first | (exfalso; omega) | simp only [go_sem, ↓reduceIte, reduceCtorEq, upd_ne, back_new (no_at), Nat.reduceAdd, Nat.reduceEqDiff, Nat.reduceMul, Nat.reduceSub, Nat.reduceLeDiff, Nat.reduceLT, Int.reduceToNat, Int.reduceLE, Int.reduceLT, Int.reduceEq, UInt8.reduceOfNat, hfr, hto, a2, a3, x1, x2, x3, x4, x5]
  · rw [if_neg c, if_neg c]
    have a2 : ¬ mtu < 1280 := by omega
    have a3 : ¬ 65535 < mtu := by omega
    by_cases d : ((hd6 ex true + da.length : Nat) : Int) ≤ mtu
    · rw [if_pos d, if_pos d]
      simp only [go_sem, ↓reduceIte, reduceCtorEq, upd_ne, back_new (no_at), Nat.reduceAdd, Nat.reduceEqDiff, Nat.reduceMul, Nat.reduceSub, Nat.reduceLeDiff, Nat.reduceLT, Int.reduceToNat, Int.reduceLE, Int.reduceLT, Int.reduceEq, UInt8.reduceOfNat, hfr, hto, a2, a3, hh, b0, d, x1, x2, x3, x4, x5]
    · rw [if_neg d, if_neg d]
      obtain ⟨M, rfl⟩ := Int.eq_ofNat_of_zero_le (show 0 ≤ mtu by omega)
      rw [Int.toNat_natCast]
      have hsz : rm6 M ex = (M - hd6 ex true) / 8 * 8 := rfl
      have hr := ev_room hS n (m := M) (hd := hd6 ex true) (by omega) (by omega)
      rw [← hsz] at hr
      generalize hd6 ex true = H0 at *
      have hHH : H0 = H0 := rfl; generalize hH1 : H0 = H at *
      by_cases c8 : M < H + 8
      · rw [if_pos c8, if_pos c8]
        have z0 : rm6 M ex = 0 := by omega
        rw [z0] at hr
        have n0 : ((0 : Nat) : Int) = 0 := rfl
        rw [n0] at hr
        simp only [go_sem, ↓reduceIte, reduceCtorEq, upd_ne, back_new (no_at), Nat.reduceAdd, Nat.reduceEqDiff, Nat.reduceMul, Nat.reduceSub, Nat.reduceLeDiff, Nat.reduceLT, Int.reduceToNat, Int.reduceLE, Int.reduceLT, Int.reduceEq, UInt8.reduceOfNat, hfr, hto, a2, a3, hh, hh2, b0, d, hr, x1, x2, x3, x4, x5]
      rw [if_neg c8, if_neg c8]
      have s1 : 8 ≤ rm6 M ex := by omega
      have s2 : rm6 M ex ≤ 65535 := by omega
      have s3 : rm6 M ex < da.length := by omega
      generalize rm6 M ex = sz at *
      have zz : ¬ (sz : Int) = 0 := by omega
      rw [if_pos rfl]
      simp only [go_sem, ↓reduceIte, reduceCtorEq, upd_ne, back_new (no_at), Nat.reduceAdd, Nat.reduceEqDiff, Nat.reduceMul, Nat.reduceSub, Nat.reduceLeDiff, Nat.reduceLT, Int.reduceToNat, Int.reduceLE, Int.reduceLT, Int.reduceEq, UInt8.reduceOfNat, hfr, hto, a2, a3, hh, hh2, b0, d, hr, zz, x1, x2, x3, x4, x5]
      have hp1 := (pcN_lt (n := da.length) (sz := sz) (j := 0) (by omega)).2 (by omega)
      refine while_rule (fun k q => ∃ j A : Nat, A = j * sz ∧ A < da.length ∧ q = ([.lst (some (10, 1)) (frs6 cl fl ho fr to ex id at' mo pt da sz j)], upd (upd noSlots 8 (.obj 1 (ip6LV cl fl ho fr to EX true id (at' + (A : Int)) mo pt (da.drop A)))) 10 (.tag 1 j 42)) ∧ j + 1 + k = pcN da.length sz) (pcN da.length sz - 1) ⟨0, 0, (Nat.zero_mul _).symm, by omega, by simp only [Int.ofNat_zero, Int.add_zero, List.drop_zero]; rfl, by omega⟩ ?_
      rintro k q ⟨j, A, hA, hAl, rfl, hj⟩
      have hlt := pcN_lt (n := da.length) (sz := sz) (j := j + 1) (by omega)
      have e3 : A + sz = (j + 1) * sz := by rw [hA, Nat.succ_mul]
      rw [← e3] at hlt
      have hjA : j ≤ A := by rw [hA]; exact Nat.le_mul_of_pos_right j (by omega)
      have hlen : (frs6 cl fl ho fr to ex id at' mo pt da sz j).length = j := by simp [frs6]
      have hDl : (da.drop A).length = da.length - A := by simp
      have hDD : (da.drop A).drop sz = da.drop (A + sz) := by rw [List.drop_drop]
      have hfl : fr6 cl fl ho fr to ex id at' mo pt da sz j = ip6LV cl fl ho fr to EX true id (at' + (A : Int)) (mo || decide (A + sz < da.length)) pt ((da.drop A).take (min (A + sz) da.length - A)) := by
        rw [hfrs]; unfold fA fM fD; rw [← hA]
      by_cases h : A + sz < da.length
      · have h' : ((sz : Nat) : Int) < ((da.length - A : Nat) : Int) := by omega
        rw [decide_eq_true h, Bool.or_true, show min (A + sz) da.length - A = sz by omega] at hfl
        have ha : ∀ P Q : LV, wAppend 42 128 56 (upd (upd (upd noSlots 8 (.obj 1 P)) 10 (.tag 1 j 42)) 11 (.obj 1 Q)) (.lst (some (10, 1)) (frs6 cl fl ho fr to ex id at' mo pt da sz j)) (.lst none [fr6 cl fl ho fr to ex id at' mo pt da sz j]) = some (.lst (some (10, 1)) (frs6 cl fl ho fr to ex id at' mo pt da sz (j + 1)), upd (upd (upd (upd noSlots 8 (.obj 1 P)) 10 (.tag 1 j 42)) 11 (.obj 1 Q)) 10 (.tag 1 (j + 1) 42)) := by
          intro P Q
          have := wAppend_tag (e := 42) (by' := 128) (d := 56) (t := 10) (g := 1) (n := j) (sz := 42) (sl := upd (upd (upd noSlots 8 (.obj 1 P)) 10 (.tag 1 j 42)) 11 (.obj 1 Q)) (l := frs6 cl fl ho fr to ex id at' mo pt da sz j) (new := [fr6 cl fl ho fr to ex id at' mo pt da sz j]) (by simp [upd]) hlen.symm rfl (frs6_flat hfr hto _ _) (by simp [fr6, flatLen, sumLen, hfr, hto]) (by simp) (by rw [hlen]; simp; omega)
          rw [frs6_succ] at this
          exact this
        rw [hfl] at ha
        have hbk := @bk6 10 8 11 1 1 1 0 j (j + 1) 42 (by omega) (by omega) (by omega)
        have e1 : IntKind.i64.wrap (at' + (A : Int) + (sz : Int)) = at' + ((A + sz : Nat) : Int) := by rw [wrap_id (by omega) (by omega)]; omega
        have c2 : sz ≤ da.length - A := by omega
        have hT : (da.drop (A + sz)).take (da.length - A - sz) = da.drop (A + sz) := List.take_of_length_le (by simp; omega)
        generalize da.drop A = D at *
        simp only [go_sem, ↓reduceIte, reduceCtorEq, upd_ne, back_new (no_at), Nat.reduceAdd, Nat.reduceEqDiff, Nat.reduceMul, Nat.reduceSub, Nat.reduceLeDiff, Nat.reduceLT, Int.reduceToNat, Int.reduceLE, Int.reduceLT, Int.reduceEq, UInt8.reduceOfNat, List.getElem?_map, Int.toNat_natCast, h', hfr, hto, hDl, hDD, e1, c2, ha, hbk, upd_same, refOk, Nat.sub_zero, List.drop_zero, hT, x1, x2, x3, x4, x5]
        exact ⟨k - 1, by omega, j + 1, A + sz, e3, h, rfl, by omega⟩
      · have h' : ¬ ((sz : Nat) : Int) < ((da.length - A : Nat) : Int) := by omega
        have hk : j + 1 = pcN da.length sz := by omega
        rw [decide_eq_false h, Bool.or_false, show min (A + sz) da.length - A = da.length - A by omega, ← hDl, List.take_length] at hfl
        have ha : ∀ P : LV, wAppend 42 128 70 (upd (upd noSlots 8 (.obj 1 P)) 10 (.tag 1 j 42)) (.lst (some (10, 1)) (frs6 cl fl ho fr to ex id at' mo pt da sz j)) (.lst none [fr6 cl fl ho fr to ex id at' mo pt da sz j]) = some (.lst (some (10, 1)) (frs6 cl fl ho fr to ex id at' mo pt da sz (pcN da.length sz)), upd (upd (upd noSlots 8 (.obj 1 P)) 10 (.tag 1 j 42)) 10 (.tag 1 (j + 1) 42)) := by
          intro P
          have := wAppend_tag (e := 42) (by' := 128) (d := 70) (t := 10) (g := 1) (n := j) (sz := 42) (sl := upd (upd noSlots 8 (.obj 1 P)) 10 (.tag 1 j 42)) (l := frs6 cl fl ho fr to ex id at' mo pt da sz j) (new := [fr6 cl fl ho fr to ex id at' mo pt da sz j]) (by simp [upd]) hlen.symm rfl (frs6_flat hfr hto _ _) (by simp [fr6, flatLen, sumLen, hfr, hto]) (by simp) (by rw [hlen]; simp; omega)
          rw [frs6_succ, hk] at this
          exact this
        rw [hfl] at ha
        generalize da.drop A = D at *
        simp only [go_sem, ↓reduceIte, reduceCtorEq, upd_ne, back_new (no_at), Nat.reduceAdd, Nat.reduceEqDiff, Nat.reduceMul, Nat.reduceSub, Nat.reduceLeDiff, Nat.reduceLT, Int.reduceToNat, Int.reduceLE, Int.reduceLT, Int.reduceEq, UInt8.reduceOfNat, List.getElem?_map, Int.toNat_natCast, h', hfr, hto, hDl, ha, Nxt, exIf, x1, x2, x3, x4, x5]
end
end Go.Ev

/- Layer 17: RefragSix. -/
namespace Go.Ev
set_option linter.unusedSimpArgs false
set_option linter.unusedVariables false
set_option maxRecDepth 10000
set_option maxHeartbeats 8000000
section
variable {cl fl ho : Int} {fr to : List UInt8} {ex : List (Int × List UInt8)} {fg : Bool} {id at' : Int} {mo : Bool} {pt : Int} {da : List UInt8}
theorem cut6L_mem {mtu nid : Int} {v : LV} (h : v ∈ cut6L cl fl ho fr to ex fg id at' mo pt da mtu nid) : ∃ (g : Bool) (i a : Int) (m : Bool) (d : List UInt8), v = ip6LV cl fl ho fr to (extsLV ex) g i a m pt d := by
  unfold cut6L at h
  split at h
  · simp at h
  · split at h
    · exact ⟨fg, id, at', mo, da, by simpa using h⟩
    · split at h
      · simp at h
      · obtain ⟨w, _, rfl⟩ := List.mem_map.1 h
        exact ⟨_, _, _, _, _, rfl⟩
theorem pcN_le {n sz : Nat} (h : 0 < sz) : pcN n sz ≤ n := by
  apply Classical.byContradiction
  intro q
  have h1 := (pcN_lt (n := n) (j := n) h).1 (by omega)
  have h2 : n ≤ n * sz := Nat.le_mul_of_pos_right n h
  omega
theorem cut6L_len {mtu nid : Int} : (cut6L cl fl ho fr to ex fg id at' mo pt da mtu nid).length ≤ da.length + 1 := by
  unfold cut6L
  split
  · simp
  · split
    · simp
    · split
      · simp
      · simp only [frs6, List.length_map, List.length_range]
        by_cases h : rm6 mtu.toNat ex = 0
        · rw [h]; simp [pcN]
        · exact Nat.le_trans (pcN_le (by omega)) (by omega)
variable {S : Sys} (hS : Has S) (n : Nat)
include hS
theorem ev_same617 (hfr : fr.length = 16) (hto : to.length = 16) (hl : ex.length ≤ 140737488351232) :
    S.ev (n + 1) id_interpreterlaw17_same6 [ip6LV cl fl ho fr to (extsLV ex) fg id at' mo pt da, ip6LV cl fl ho fr to (extsLV ex) fg id at' mo pt da] none = some (.bool true, none) := by
  rw [Sys.step hS.h_interpreterlaw17_same6, F_interpreterlaw17_same6_eq]
  unfold F_interpreterlaw17_same6
  (try simp only [guard_merge, or_merge, and_merge, or_pick, and_pick, guard_or, guard_and]); simp only [to_ob]
  simp only [go_sem, ↓reduceIte, reduceCtorEq, upd_ne, back_new (no_at), Nat.reduceAdd, Nat.reduceEqDiff, Nat.reduceMul, Nat.reduceSub, Nat.reduceLeDiff, Nat.reduceLT, Int.reduceToNat, Int.reduceLE, Int.reduceLT, Int.reduceEq, UInt8.reduceOfNat, hfr, hto, List.length_map]
  refine while_rule (fun k q => ∃ i : Nat, q = ([.bool false, .int .i64 (i : Int)], noSlots) ∧ i + k = ex.length) ex.length ⟨0, rfl, by simp⟩ ?_
  rintro k q ⟨i, rfl, hi⟩
  simp only [go_sem, ↓reduceIte, reduceCtorEq, upd_ne, back_new (no_at), Nat.reduceAdd, Nat.reduceEqDiff, Nat.reduceMul, Nat.reduceSub, Nat.reduceLeDiff, Nat.reduceLT, Int.reduceToNat, Int.reduceLE, Int.reduceLT, Int.reduceEq, UInt8.reduceOfNat, hfr, hto, List.length_map]
  refine nxt_ite (fun h => ?_) (fun h => ?_)
  · have hlt : i < ex.length := by omega
    obtain ⟨e, he⟩ : ∃ e, ex[i]? = some e := ⟨ex[i], by simp [hlt]⟩
    have e1 : IntKind.i64.wrap ((i : Int) + 1) = ((i + 1 : Nat) : Int) := by rw [wrap_id (by omega) (by omega)]; omega
    simp only [go_sem, ↓reduceIte, reduceCtorEq, upd_ne, back_new (no_at), Nat.reduceAdd, Nat.reduceEqDiff, Nat.reduceMul, Nat.reduceSub, Nat.reduceLeDiff, Nat.reduceLT, Int.reduceToNat, Int.reduceLE, Int.reduceLT, Int.reduceEq, UInt8.reduceOfNat, List.getElem?_map, Int.toNat_natCast, he, e1, hfr, hto]
    exact ⟨k - 1, by omega, i + 1, rfl, by omega⟩
  · simp only [go_sem, ↓reduceIte, reduceCtorEq, upd_ne, back_new (no_at), Nat.reduceAdd, Nat.reduceEqDiff, Nat.reduceMul, Nat.reduceSub, Nat.reduceLeDiff, Nat.reduceLT, Int.reduceToNat, Int.reduceLE, Int.reduceLT, Int.reduceEq, UInt8.reduceOfNat, hfr, hto, Nxt, exIf, beq_self_eq_true]
theorem ev_rcut6 (hf : FitIp6 cl fl ho fr to ex id at' pt da) (hok : why6 cl fl ho ex fg id at' mo pt da = 0) (mtu nid : Int) :
    S.ev (n + 2) id_interpreterref17_Cut6 [ip6LV cl fl ho fr to (extsLV ex) fg id at' mo pt da, .int .i64 mtu, .int .u32 nid] none = some (.tup [.lst none (cut6L cl fl ho fr to ex fg id at' mo pt da mtu nid), .int .i64 (cut6C cl fl ho ex fg id at' mo pt da mtu)], none) := by
  cases fg
  · exact ev_rcut6_f hS n hf hok mtu nid
  · exact ev_rcut6_t hS n hf hok mtu nid
theorem ev_RefragSix {vs : List LV} (h : fitVL [shpIp6, .int .i64, .int .u32] vs) : S.ev (n + 8) id_interpreterlaw17_RefragSix vs none = some (.bool true, none) := by
  obtain ⟨a, r, e, g1, q1⟩ := fit_cons h; clear h; subst e; obtain ⟨cl, fl, ho, fr, to, ex, fg, id, at', mo, pt, da, rfl, hf⟩ := fit_ip6 g1; clear g1
  obtain ⟨a, r, e, g2, q2⟩ := fit_cons q1; clear q1; subst e; obtain ⟨mtu, rfl, hmt⟩ := fit_i64 g2; clear g2
  obtain ⟨a, r, e, g3, q3⟩ := fit_cons q2; clear q2; subst e; obtain ⟨nid, rfl, hnid⟩ := fit_u32 g3; clear g3
  obtain rfl := fit_nil q3
  rw [Sys.step hS.h_interpreterlaw17_RefragSix, F_interpreterlaw17_RefragSix_eq]
  unfold F_interpreterlaw17_RefragSix
  have hfr := hf.hfr
  have hto := hf.hto
  have hw := ev_wakes17 hS n
  have hg := ev_great617 hS (n + 6) (cl := cl) (fl := fl) (ho := ho) (fr := fr) (to := to) (ex := ex) (fg := fg) (id := id) (at' := at') (mo := mo) (pt := pt) (da := da) hfr hto hf.hex
  have hc := ev_cut6 hS (n + 1) (fg := fg) (mo := mo) hf mtu nid
  have hb := ev_bytes6 hS (n + 3) (fg := fg) (mo := mo) hf
  have hl := ev_len6 hS (n + 2) (fg := fg) (mo := mo) hf
  have hsm := fun (g : Bool) (i a : Int) (m : Bool) (d : List UInt8) => ev_same617 hS (n + 6) (cl := cl) (fl := fl) (ho := ho) (fr := fr) (to := to) (ex := ex) (fg := g) (id := i) (at' := a) (mo := m) (pt := pt) (da := d) hfr hto hf.hex
  (try simp only [guard_merge, or_merge, and_merge, or_pick, and_pick, guard_or, guard_and]); simp only [to_ob]
  have hEX : LV.isAgg (extsLV ex) = false ∧ stor (extsLV ex) = true ∧ flatLen (extsLV ex) = 1 ∧ psl (extsLV ex) = some (extsLV ex) ∧ plainRes (extsLV ex) = true := ⟨Eq.trans rfl rfl, Eq.trans rfl rfl, by simp only [extsLV, flatLen], by simp only [extsLV, psl], Eq.trans rfl rfl⟩
  have hmem := @cut6L_mem cl fl ho fr to ex fg id at' mo pt da mtu nid
  have hlen := @cut6L_len cl fl ho fr to ex fg id at' mo pt da mtu nid
  by_cases g : big6 ex da = true
  · rw [g] at hg
    generalize extsLV ex = EX at *
    obtain ⟨x1, x2, x3, x4, x5⟩ := hEX
    simp only [go_sem, ↓reduceIte, reduceCtorEq, upd_ne, back_new (no_at), Nat.reduceAdd, Nat.reduceEqDiff, Nat.reduceMul, Nat.reduceSub, Nat.reduceLeDiff, Nat.reduceLT, Int.reduceToNat, Int.reduceLE, Int.reduceLT, Int.reduceEq, UInt8.reduceOfNat, hfr, hto, hg, hw, x1, x2, x3, x4, x5]
  · rw [Bool.not_eq_true _ |>.mp g] at hg
    by_cases c : why6 cl fl ho ex fg id at' mo pt da = 0
    · have hr := ev_rcut6 hS (n + 5) (fg := fg) hf c mtu nid
      have ok := why6_zero.1 c
      have hbb := ok.bh
      have hex8 := ok.n8
      have hbh : bh6 ex fg da + 40 = hd6 ex fg + da.length := by unfold bh6 hd6; omega
      have hsz : szE ex ≤ bh6 ex fg da := by unfold bh6; omega
      have hd := ev_head6 hS (n + 6) (cl := cl) (fl := fl) (ho := ho) (fr := fr) (to := to) (ex := ex) (fg := fg) (id := id) (at' := at') (mo := mo) (pt := pt) (da := da) hfr hto (by omega) (by omega)
      have hn : ln6 cl fl ho ex fg id at' mo pt da = hd6 ex fg + da.length := by unfold ln6; rw [if_pos c]; omega
      rw [hn] at hl
      rw [c] at hb
      generalize cut6L cl fl ho fr to ex fg id at' mo pt da mtu nid = L at *
      generalize cut6C cl fl ho ex fg id at' mo pt da mtu = C at *
      generalize by6R cl fl ho fr to ex fg id at' mo pt da = Y at *
      generalize extsLV ex = EX at *
      obtain ⟨x1, x2, x3, x4, x5⟩ := hEX
      have e1 : IntKind.i64.wrap (((hd6 ex fg : Nat) : Int) + (da.length : Int)) = ((hd6 ex fg + da.length : Nat) : Int) := by rw [wrap_id (by omega) (by omega)]; omega
      generalize hd6 ex fg = H at *
      simp only [go_sem, ↓reduceIte, reduceCtorEq, upd_ne, back_new (no_at), Nat.reduceAdd, Nat.reduceEqDiff, Nat.reduceMul, Nat.reduceSub, Nat.reduceLeDiff, Nat.reduceLT, Int.reduceToNat, Int.reduceLE, Int.reduceLT, Int.reduceEq, UInt8.reduceOfNat, hfr, hto, hg, hw, hc, hb, hl, hr, hd, fE, e1, x1, x2, x3, x4, x5]
      refine while_rule (fun k q => ∃ i : Nat, q = ([.bool false, .int .i64 (i : Int)], noSlots) ∧ i + k = L.length) L.length ⟨0, rfl, by simp⟩ ?_
      rintro k q ⟨i, rfl, hi⟩
      by_cases h : i < L.length
      · have h' : (i : Int) < (L.length : Int) := by omega
        obtain ⟨v, hv⟩ : ∃ v, L[i]? = some v := ⟨L[i], by simp [h]⟩
        obtain ⟨g', i', a', m', d', rfl⟩ := hmem (List.mem_of_getElem? hv)
        have e2 : IntKind.i64.wrap ((i : Int) + 1) = ((i + 1 : Nat) : Int) := by rw [wrap_id (by omega) (by omega)]; omega
        simp only [go_sem, ↓reduceIte, reduceCtorEq, upd_ne, back_new (no_at), Nat.reduceAdd, Nat.reduceEqDiff, Nat.reduceMul, Nat.reduceSub, Nat.reduceLeDiff, Nat.reduceLT, Int.reduceToNat, Int.reduceLE, Int.reduceLT, Int.reduceEq, UInt8.reduceOfNat, List.getElem?_map, Int.toNat_natCast, h', hv, hfr, hto, e2, hsm, x1, x2, x3, x4, x5, beq_self_eq_true, Bool.and_self, Bool.not_true, Bool.false_eq_true]
        exact ⟨k - 1, by omega, i + 1, rfl, by omega⟩
      · have h' : ¬ (i : Int) < (L.length : Int) := by omega
        simp only [go_sem, ↓reduceIte, reduceCtorEq, upd_ne, back_new (no_at), Nat.reduceAdd, Nat.reduceEqDiff, Nat.reduceMul, Nat.reduceSub, Nat.reduceLeDiff, Nat.reduceLT, Int.reduceToNat, Int.reduceLE, Int.reduceLT, Int.reduceEq, UInt8.reduceOfNat, List.getElem?_map, Int.toNat_natCast, h', hw, Nxt, exIf]
    · have hC : cut6C cl fl ho ex fg id at' mo pt da mtu = 1 := by unfold cut6C ln6; rw [if_neg c]; simp
      have hL : cut6L cl fl ho fr to ex fg id at' mo pt da mtu nid = [] := by unfold cut6L ln6; rw [if_neg c]; simp
      have hn : ln6 cl fl ho ex fg id at' mo pt da = 0 := by unfold ln6; rw [if_neg c]
      rw [hn] at hl
      rw [hC, hL] at hc
      generalize why6 cl fl ho ex fg id at' mo pt da = W at *
      generalize by6R cl fl ho fr to ex fg id at' mo pt da = Y at *
      generalize extsLV ex = EX at *
      obtain ⟨x1, x2, x3, x4, x5⟩ := hEX
      have n0 : ((0 : Nat) : Int) = 0 := rfl
      simp only [go_sem, ↓reduceIte, reduceCtorEq, upd_ne, back_new (no_at), Nat.reduceAdd, Nat.reduceEqDiff, Nat.reduceMul, Nat.reduceSub, Nat.reduceLeDiff, Nat.reduceLT, Int.reduceToNat, Int.reduceLE, Int.reduceLT, Int.reduceEq, UInt8.reduceOfNat, hfr, hto, hg, hw, hc, hb, hl, fE, c, List.length_nil, n0, decide_true, x1, x2, x3, x4, x5]
end
end Go.Ev
