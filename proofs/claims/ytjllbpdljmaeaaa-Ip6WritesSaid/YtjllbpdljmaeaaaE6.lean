/- Part 6 of a proof: what the functions yield. It stands by itself; no condition. -/
import Derived.Test.YtjllbpdljmaeaaaE5
/- Layer 4, the document's: a packet's bytes. -/
namespace Go.Ev
set_option linter.unusedSimpArgs false
set_option linter.unusedVariables false
set_option maxRecDepth 4000
set_option maxHeartbeats 8000000
theorem beB_succ (i x : Nat) : beB (i + 1) x = UInt8.ofNat (x / 256 ^ i) :: beB i x := by
  unfold beB
  rw [List.range_succ_eq_map, List.map_cons, List.map_map]
  congr 1
  apply List.map_congr_left
  intro j hj
  simp only [Function.comp]
  rw [show i + 1 - 1 - (j + 1) = i - 1 - j by omega]
theorem ints_flat' (l : List LV) (h : ∀ v ∈ l, ∃ k : Int, v = .int .i64 k) : (l.all fun v => decide (flatLen v = 1)) = true := by
  rw [List.all_eq_true]
  intro v hv
  obtain ⟨k, rfl⟩ := h v hv
  simp [flatLen]
theorem exB_app (l : List (Int × List UInt8)) (p : Int) (b : List UInt8) : exB l p b = exB l p [] ++ b := by
  induction l with
  | nil => rfl
  | cons e l ih => simp only [exB]; rw [ih]; simp only [List.append_assoc]
abbrev kindsL (ex : List (Int × List UInt8)) : List LV := ex.map fun e => LV.int .i64 e.1
theorem kinds_flat (ex : List (Int × List UInt8)) : ((kindsL ex).all fun v => decide (flatLen v = 1)) = true :=
  ints_flat' _ fun v hv => by obtain ⟨e, _, rfl⟩ := List.mem_map.1 hv; exact ⟨_, rfl⟩
theorem kinds_get {ex : List (Int × List UInt8)} {p : Int} {t : List LV} {i : Nat} (h : i < ex.length) : (kindsL ex ++ .int .i64 p :: t)[i + 1]? = some (.int .i64 (nxE (ex.drop (i + 1)) p)) := by
  rcases Nat.lt_or_ge (i + 1) ex.length with h1 | h1
  · rw [List.getElem?_append_left (by simpa using h1)]
    rw [List.drop_eq_getElem_cons h1]
    simp [h1, nxE]
  · rw [List.getElem?_append_right (by simpa using h1), List.drop_eq_nil_of_le h1]
    simp [show i + 1 - ex.length = 0 by omega, nxE]
theorem kinds_get0 {ex : List (Int × List UInt8)} {p : Int} {t : List LV} : (kindsL ex ++ .int .i64 p :: t)[0]? = some (.int .i64 (nxE ex p)) := by
  cases ex with
  | nil => rfl
  | cons e l => rfl
section
variable {S : Sys} (hS : Has S) (n : Nat)
include hS
theorem ev_Put (x m : Nat) (hx : x ≤ 9223372036854775807) (hm : m ≤ 8) : S.ev (n + 1) id_interpreterref01_Put [.int .i64 (x : Int), .int .i64 (m : Int)] none = some (.str (beB m x), none) := by
  rw [Sys.step hS.h_interpreterref01_Put, F_interpreterref01_Put_eq]
  unfold F_interpreterref01_Put
  (try simp only [guard_merge, or_merge, and_merge, or_pick, and_pick, guard_or, guard_and]); simp only [to_ob]
  simp only [go_sem, ↓reduceIte, reduceCtorEq, upd_ne, back_new (no_at), Nat.reduceAdd, Nat.reduceEqDiff, Nat.reduceMul, Nat.reduceSub, Nat.reduceLeDiff, Nat.reduceLT, Int.reduceToNat, Int.reduceLE, Int.reduceLT, Int.reduceEq, UInt8.reduceOfNat]
  refine while_rule (fun k q => ∃ i : Nat, i + k = m ∧ q = ([.str (beB i x), .int .i64 ((x / 256 ^ i : Nat) : Int), .int .i64 (i : Int)], noSlots)) m ⟨0, by omega, by simp [beB]⟩ ?_
  rintro k q ⟨i, hi, rfl⟩
  simp only [go_sem, ↓reduceIte, reduceCtorEq, upd_ne, back_new (no_at), Nat.reduceAdd, Nat.reduceEqDiff, Nat.reduceMul, Nat.reduceSub, Nat.reduceLeDiff, Nat.reduceLT, Int.reduceToNat, Int.reduceLE, Int.reduceLT, Int.reduceEq, UInt8.reduceOfNat]
  refine nxt_ite (fun h => ?_) (fun h => ?_)
  · have hd : x / 256 ^ i ≤ x := Nat.div_le_self _ _
    have hd2 : x / 256 ^ i / 256 ≤ x / 256 ^ i := Nat.div_le_self _ _
    have e1 : IntKind.i64.wrap ((i : Int) + 1) = ((i + 1 : Nat) : Int) := by rw [wrap_id (by omega) (by omega)]; omega
    have e2 : IntKind.u8.wrap (Int.tmod ((x / 256 ^ i : Nat) : Int) 256) = ((UInt8.ofNat (x / 256 ^ i)).toNat : Int) := by
      rw [mod256, u8w, u8_ofNat_mod]
    have e3 : IntKind.i64.wrap (Int.tdiv ((x / 256 ^ i : Nat) : Int) 256) = ((x / 256 ^ (i + 1) : Nat) : Int) := by
      rw [show Int.tdiv ((x / 256 ^ i : Nat) : Int) 256 = ((x / 256 ^ i / 256 : Nat) : Int) from rfl, wrap_id (by omega) (by omega), Nat.div_div_eq_div_mul, Nat.pow_succ]
    have m1 : 1 + i ≤ maxStr := by unfold maxStr; omega
    have m2 : 0 + 1 + i ≤ maxStr := by unfold maxStr; omega
    simp only [go_sem, ↓reduceIte, reduceCtorEq, upd_ne, back_new (no_at), Nat.reduceAdd, Nat.reduceEqDiff, Nat.reduceMul, Nat.reduceSub, Nat.reduceLeDiff, Nat.reduceLT, Int.reduceToNat, Int.reduceLE, Int.reduceLT, Int.reduceEq, UInt8.reduceOfNat, List.getElem?_map, Int.toNat_natCast, ↓e_sadd, e1, e2, e3, u8_lt, UInt8.ofNat_toNat, beB_len, m1, m2, byteLV]
    exact ⟨k - 1, by omega, i + 1, by omega, by rw [beB_succ]⟩
  · obtain rfl : i = m := by omega
    simp only [go_sem, ↓reduceIte, reduceCtorEq, upd_ne, back_new (no_at), Nat.reduceAdd, Nat.reduceEqDiff, Nat.reduceMul, Nat.reduceSub, Nat.reduceLeDiff, Nat.reduceLT, Int.reduceToNat, Int.reduceLE, Int.reduceLT, Int.reduceEq, UInt8.reduceOfNat, Nxt, exIf]
theorem ev_put4 (x m : Nat) (hx : x ≤ 9223372036854775807) (hm : m ≤ 8) : S.ev (n + 2) id_interpreterref04_put [.int .i64 (x : Int), .int .i64 (m : Int)] none = some (.str (beB m x), none) := by
  rw [Sys.step hS.h_interpreterref04_put, F_interpreterref04_put_eq]
  unfold F_interpreterref04_put
  have h := ev_Put hS n x m hx hm
  (try simp only [guard_merge, or_merge, and_merge, or_pick, and_pick, guard_or, guard_and]); simp only [to_ob]
  simp only [go_sem, ↓reduceIte, reduceCtorEq, upd_ne, back_new (no_at), Nat.reduceAdd, Nat.reduceEqDiff, Nat.reduceMul, Nat.reduceSub, Nat.reduceLeDiff, Nat.reduceLT, Int.reduceToNat, Int.reduceLE, Int.reduceLT, Int.reduceEq, UInt8.reduceOfNat, h]
theorem ev_p41 {x : Int} (h : 0 ≤ x) (h1 : x < 256) : S.ev (n + 2) id_interpreterref04_put [.int .i64 x, .int .i64 1] none = some (.str (beB 1 x.toNat), none) := by
  obtain ⟨y, rfl⟩ := nat_of h
  exact ev_put4 hS n y 1 (by omega) (by omega)
theorem ev_p42 {x : Int} (h : 0 ≤ x) (h1 : x < 65536) : S.ev (n + 2) id_interpreterref04_put [.int .i64 x, .int .i64 2] none = some (.str (beB 2 x.toNat), none) := by
  obtain ⟨y, rfl⟩ := nat_of h
  exact ev_put4 hS n y 2 (by omega) (by omega)
theorem ev_p44 {x : Int} (h : 0 ≤ x) (h1 : x < 4294967296) : S.ev (n + 2) id_interpreterref04_put [.int .i64 x, .int .i64 4] none = some (.str (beB 4 x.toNat), none) := by
  obtain ⟨y, rfl⟩ := nat_of h
  exact ev_put4 hS n y 4 (by omega) (by omega)
theorem ev_rbytes6_tt {cl fl ho : Int} {fr to : List UInt8} {ex : List (Int × List UInt8)} {id at' : Int} {pt : Int} {da : List UInt8} (hf : FitIp6 cl fl ho fr to ex id at' pt da) (sm : SmE ex) (hdl : da.length ≤ 1000000) (c : why6 cl fl ho ex true id at' true pt da = 0) :
    S.ev (n + 3) id_interpreterref04_Bytes [ip6LV cl fl ho fr to (extsLV ex) true id at' true pt da] none = some (.tup [.str (by6 cl fl ho fr to ex true id at' true pt da), .int .i64 0], none) := by
  rw [Sys.step hS.h_interpreterref04_Bytes, F_interpreterref04_Bytes_eq]
  unfold F_interpreterref04_Bytes
  have hfr := hf.hfr
  have hto := hf.hto
  have hw := ev_Why6 hS n (cl := cl) (fl := fl) (ho := ho) (fr := fr) (to := to) (ex := ex) (fg := true) (id := id) (at' := at') (mo := true) (pt := pt) (da := da) hfr hto sm hdl
  rw [c] at hw
  have ok := why6_zero.1 c
  obtain ⟨⟨⟨a1, a2⟩, ⟨a3, a4⟩, ⟨a5, a6⟩, ⟨a7, a8⟩, ⟨a9, a10⟩, a11⟩, ok2, ok3, ok4, ok5, ok6⟩ := ok
  have hkb := ok2.1
  have hfb := fB_le ex true ok3.1
  have hid := hf.hid
  (try simp only [guard_merge, or_merge, and_merge, or_pick, and_pick, guard_or, guard_and]); simp only [to_ob]
  unfold by6 bd6
  simp only [Bool.false_eq_true, if_true, if_false]
  unfold bh6 at ok6
  simp only [Bool.false_eq_true, if_true, if_false] at ok6
  have b1 := ev_p41 hS n (x := pt) (by omega) (by omega)
  have b0 : S.ev (n + 2) id_interpreterref04_put [.int .i64 0, .int .i64 1] none = some (.str [0], none) := ev_p41 hS n (x := 0) (by omega) (by omega)
  have b2 := ev_p42 hS n (x := at' + 1) (by omega) (by omega)
  have b3 := ev_p44 hS n (x := id) (by omega) (by omega)
  have b4 := ev_p41 hS n (x := ho) (by omega) (by omega)
  obtain ⟨cl, rfl⟩ := Int.eq_ofNat_of_zero_le a1
  obtain ⟨fl, rfl⟩ := Int.eq_ofNat_of_zero_le a3
  have b5 := ev_p44 hS n (x := ((1610612736 + cl * 1048576 + fl : Nat) : Int)) (by omega) (by omega)
  have w1 : IntKind.i64.wrap id = id := wrap_id (by omega) (by omega)
  have w2 : IntKind.i64.wrap (at' + 1) = at' + 1 := wrap_id (by omega) (by omega)
  have w4 : IntKind.i64.wrap (IntKind.i64.wrap (1610612736 + IntKind.i64.wrap ((cl : Int) * 1048576)) + (fl : Int)) = ((1610612736 + cl * 1048576 + fl : Nat) : Int) := by
    rw [wrap_id (n := (cl : Int) * 1048576) (by omega) (by omega), wrap_id (n := 1610612736 + (cl : Int) * 1048576) (by omega) (by omega), wrap_id (by omega) (by omega)]; omega
  have hl := beB_len
  have m0 : ∀ k : Nat, k ≤ 1000000 → k ≤ maxStr := fun k h => by unfold maxStr; omega
  simp only [go_sem, ↓reduceIte, reduceCtorEq, upd_ne, back_new (no_at), Nat.reduceAdd, Nat.reduceEqDiff, Nat.reduceMul, Nat.reduceSub, Nat.reduceLeDiff, Nat.reduceLT, Int.reduceToNat, Int.reduceLE, Int.reduceLT, Int.reduceEq, UInt8.reduceOfNat, hw, c, hfr, hto]
  -- the kinds
  refine while_rule (fun k q => ∃ i : Nat, q = ([.lst (some (5, 1)) (kindsL (ex.take i)), .int .i64 (i : Int)], upd noSlots 5 (.tag 1 i 1)) ∧ i + k = ex.length) ex.length ⟨0, rfl, by omega⟩ ?_
  rintro k q ⟨i, rfl, hi⟩
  simp only [go_sem, ↓reduceIte, reduceCtorEq, upd_ne, back_new (no_at), Nat.reduceAdd, Nat.reduceEqDiff, Nat.reduceMul, Nat.reduceSub, Nat.reduceLeDiff, Nat.reduceLT, Int.reduceToNat, Int.reduceLE, Int.reduceLT, Int.reduceEq, UInt8.reduceOfNat, hfr, hto, List.length_map]
  refine nxt_ite (fun h => ?_) (fun h => ?_)
  · have hlt : i < ex.length := by omega
    obtain ⟨e, he⟩ : ∃ e, ex[i]? = some e := ⟨ex[i], by simp [hlt]⟩
    have htk : ex.take (i + 1) = ex.take i ++ [e] := by rw [List.take_add_one, he]; rfl
    have e1 : IntKind.i64.wrap ((i : Int) + 1) = ((i + 1 : Nat) : Int) := by rw [wrap_id (by omega) (by omega)]; omega
    have ha := wAppend_tag (e := 1) (by' := 8) (d := 33) (t := 5) (g := 1) (n := i) (sz := 1) (sl := upd noSlots 5 (.tag 1 i 1)) (l := kindsL (ex.take i)) (new := [.int .i64 e.1]) upd_same (by simp; omega) rfl (kinds_flat _) (by simp [flatLen]) (by simp) (by simp; omega)
    rw [upd_upd, show kindsL (ex.take i) ++ [.int .i64 e.1] = kindsL (ex.take (i + 1)) by rw [htk]; simp] at ha
    simp only [go_sem, ↓reduceIte, reduceCtorEq, upd_ne, back_new (no_at), Nat.reduceAdd, Nat.reduceEqDiff, Nat.reduceMul, Nat.reduceSub, Nat.reduceLeDiff, Nat.reduceLT, Int.reduceToNat, Int.reduceLE, Int.reduceLT, Int.reduceEq, UInt8.reduceOfNat, List.getElem?_map, Int.toNat_natCast, he, e1, ha, hfr, hto]
    exact ⟨k - 1, by omega, i + 1, rfl, by omega⟩
  obtain rfl : i = ex.length := by omega
  rw [List.take_of_length_le (by omega)]
  simp only [go_sem, ↓reduceIte, reduceCtorEq, upd_ne, back_new (no_at), Nat.reduceAdd, Nat.reduceEqDiff, Nat.reduceMul, Nat.reduceSub, Nat.reduceLeDiff, Nat.reduceLT, Int.reduceToNat, Int.reduceLE, Int.reduceLT, Int.reduceEq, UInt8.reduceOfNat, hfr, hto, Nxt, exIf]
  have ha1 := wAppend_tag (e := 1) (by' := 8) (d := 38) (t := 5) (g := 1) (n := ex.length) (sz := 1) (sl := upd noSlots 5 (.tag 1 ex.length 1)) (l := kindsL ex) (new := [.int .i64 44]) upd_same (by simp) rfl (kinds_flat _) (by simp [flatLen]) (by simp) (by simp; omega)
  have hk2 : ((kindsL ex ++ [LV.int .i64 44]).all fun v => decide (flatLen v = 1)) = true := ints_flat' _ fun v hv => by
    rcases List.mem_append.1 hv with h | h
    · obtain ⟨e, _, rfl⟩ := List.mem_map.1 h; exact ⟨_, rfl⟩
    · simp at h; exact ⟨_, h⟩
  have ha2 := wAppend_tag (e := 1) (by' := 8) (d := 43) (t := 5) (g := 1) (n := ex.length + 1) (sz := 1) (sl := upd noSlots 5 (.tag 1 (ex.length + 1) 1)) (l := kindsL ex ++ [LV.int .i64 44]) (new := [.int .i64 pt]) upd_same (by simp) rfl hk2 (by simp [flatLen]) (by simp) (by simp; omega)
  rw [upd_upd] at ha1 ha2
  simp only [List.length_cons, List.length_nil, Nat.zero_add, List.append_assoc, List.cons_append, List.nil_append] at ha1 ha2
  simp only [go_sem, ↓reduceIte, reduceCtorEq, upd_ne, back_new (no_at), Nat.reduceAdd, Nat.reduceEqDiff, Nat.reduceMul, Nat.reduceSub, Nat.reduceLeDiff, Nat.reduceLT, Int.reduceToNat, Int.reduceLE, Int.reduceLT, Int.reduceEq, UInt8.reduceOfNat, hfr, hto, ha1, ha2]
  -- the chain
  have hNr : 0 ≤ (44 : Int) ∧ (44 : Int) ≤ 255 := by omega
  have hXl := exB_len ex 44 []
  simp only [List.length_nil, Nat.add_zero] at hXl
  refine while_rule (fun k q => ∃ (i : Nat) (u : List UInt8), q = ([.str u, .int .i64 (i : Int)], upd noSlots 5 (.tag 1 (ex.length + 1 + 1) 1)) ∧ i + k = ex.length ∧ u ++ exB (ex.drop i) 44 [] = exB ex 44 []) ex.length ⟨0, [], rfl, by omega, by simp⟩ ?_
  rintro k q ⟨i, u, rfl, hi, hu⟩
  have hul : u.length ≤ szE ex := by have := congrArg List.length hu; rw [List.length_append, hXl] at this; omega
  simp only [go_sem, ↓reduceIte, reduceCtorEq, upd_ne, back_new (no_at), Nat.reduceAdd, Nat.reduceEqDiff, Nat.reduceMul, Nat.reduceSub, Nat.reduceLeDiff, Nat.reduceLT, Int.reduceToNat, Int.reduceLE, Int.reduceLT, Int.reduceEq, UInt8.reduceOfNat, hfr, hto, List.length_map]
  refine nxt_ite (fun h => ?_) (fun h => ?_)
  · have hlt : i < ex.length := by omega
    obtain ⟨e, he⟩ : ∃ e, ex[i]? = some e := ⟨ex[i], by simp [hlt]⟩
    have hd := drop_ex he
    have hem := List.mem_of_getElem? he
    have heb := hfb e hem
    have hnr := nxE_rg (p := 44) (kB_drop (i := i + 1) hkb) hNr
    have e1 : IntKind.i64.wrap ((i : Int) + 1) = ((i + 1 : Nat) : Int) := by rw [wrap_id (by omega) (by omega)]; omega
    have hg := kinds_get (p := 44) (t := [.int .i64 pt]) hlt
    have j3 : IntKind.i64.wrap (IntKind.i64.wrap (Int.tdiv (IntKind.i64.wrap ((e.2.length : Int) + 2)) 8) - 1) = ((e.2.length / 8 : Nat) : Int) := by
      rw [show IntKind.i64.wrap ((e.2.length : Int) + 2) = ((e.2.length + 2 : Nat) : Int) by rw [wrap_id (by omega) (by omega)]; omega, show Int.tdiv ((e.2.length + 2 : Nat) : Int) 8 = (((e.2.length + 2) / 8 : Nat) : Int) from rfl, wrap_id (n := (((e.2.length + 2) / 8 : Nat) : Int)) (by omega) (by omega), wrap_id (by omega) (by omega)]; omega
    have c1 := ev_p41 hS n (x := nxE (ex.drop (i + 1)) 44) (by omega) (by omega)
    have c2 := ev_p41 hS n (x := ((e.2.length / 8 : Nat) : Int)) (by omega) (by omega)
    simp only [Int.toNat_natCast] at c2
    have m1 : u.length + 1 ≤ maxStr := m0 _ (by omega)
    have m2 : u.length + 2 ≤ maxStr := m0 _ (by omega)
    have m3 : u.length + (2 + e.2.length) ≤ maxStr := m0 _ (by omega)
    have m5 : u.length + (1 + 1) ≤ maxStr := m0 _ (by omega)
    have m6 : u.length + (1 + (1 + e.2.length)) ≤ maxStr := m0 _ (by omega)
    have m7 : u.length + 1 + 1 ≤ maxStr := m0 _ (by omega)
    have m8 : u.length + 1 + 1 + e.2.length ≤ maxStr := m0 _ (by omega)
    simp only [go_sem, ↓reduceIte, reduceCtorEq, upd_ne, back_new (no_at), Nat.reduceAdd, Nat.reduceEqDiff, Nat.reduceMul, Nat.reduceSub, Nat.reduceLeDiff, Nat.reduceLT, Int.reduceToNat, Int.reduceLE, Int.reduceLT, Int.reduceEq, UInt8.reduceOfNat, List.getElem?_map, Int.toNat_natCast, ↓e_sadd, he, e1, hg, j3, c1, c2, hl, hfr, hto, m1, m2, m3, m5, m6, m7, m8, List.length_append]
    refine ⟨k - 1, by omega, i + 1, _, rfl, by omega, ?_⟩
    rw [← hu, hd]
    simp only [exB, List.append_assoc]
  obtain rfl : i = ex.length := by omega
  rw [List.drop_eq_nil_of_le (by omega)] at hu
  simp only [exB, List.append_nil] at hu
  subst hu
  simp only [go_sem, ↓reduceIte, reduceCtorEq, upd_ne, back_new (no_at), Nat.reduceAdd, Nat.reduceEqDiff, Nat.reduceMul, Nat.reduceSub, Nat.reduceLeDiff, Nat.reduceLT, Int.reduceToNat, Int.reduceLE, Int.reduceLT, Int.reduceEq, UInt8.reduceOfNat, hfr, hto, Nxt, exIf]
  have n1 : szE ex + 1 ≤ maxStr := m0 _ (by omega)
  have n2 : szE ex + 1 + 1 ≤ maxStr := m0 _ (by omega)
  have n3 : szE ex + 1 + 1 + 2 ≤ maxStr := m0 _ (by omega)
  have n4 : szE ex + 1 + 1 + 2 + 4 ≤ maxStr := m0 _ (by omega)
  have n5 : szE ex + 1 + 1 + 2 + 4 + da.length ≤ maxStr := m0 _ (by omega)
  have n6 : szE ex + (0 + 1) ≤ maxStr := m0 _ (by omega)
  have n7 : szE ex + da.length ≤ maxStr := m0 _ (by omega)
  have n8 : szE ex + 1 + (0 + 1) ≤ maxStr := m0 _ (by omega)
  simp only [go_sem, ↓reduceIte, reduceCtorEq, upd_ne, back_new (no_at), Nat.reduceAdd, Nat.reduceEqDiff, Nat.reduceMul, Nat.reduceSub, Nat.reduceLeDiff, Nat.reduceLT, Int.reduceToNat, Int.reduceLE, Int.reduceLT, Int.reduceEq, UInt8.reduceOfNat, List.getElem?_map, Int.toNat_natCast, ↓e_sadd, b0, b1, b2, b3, w1, w2, hfr, hto, hl, hXl, n1, n2, n3, n4, n5, n6, n7, n8, List.length_append]

  have hnx := nxE_rg (p := 44) hkb hNr
  have hg0 := kinds_get0 (ex := ex) (p := 44) (t := [.int .i64 pt])
  have c3 := ev_p41 hS n (x := nxE ex 44) (by omega) (by omega)
  -- the addresses
  have adr : ∀ (T a : List UInt8) (i : Nat) (b : UInt8), a[i]? = some b → T ++ a.take i ++ [b] = T ++ a.take (i + 1) := fun T a i b h => by rw [List.take_add_one, h, List.append_assoc]; rfl
  have m20 : 4 + 2 ≤ maxStr := m0 _ (by omega)
  have m21 : 4 + 2 + 1 ≤ maxStr := m0 _ (by omega)
  have m22 : 4 + 2 + 1 + 1 ≤ maxStr := m0 _ (by omega)
  have m23 : 6 ≤ maxStr := m0 _ (by omega)
  have m24 : 7 ≤ maxStr := m0 _ (by omega)
  have m25 : 8 ≤ maxStr := m0 _ (by omega)
  have m26 : 6 + 1 ≤ maxStr := m0 _ (by omega)
  have m27 : 6 + 1 + 1 ≤ maxStr := m0 _ (by omega)
  have hBL : (exB ex 44 [] ++ beB 1 pt.toNat ++ [0] ++ beB 2 (at' + 1).toNat ++ beB 4 id.toNat ++ da).length = szE ex + 1 + 1 + 2 + 4 + da.length := by simp only [List.length_append, hXl, hl, List.length_cons, List.length_nil]
  have b6 := ev_p42 hS n (x := ((szE ex + 1 + 1 + 2 + 4 + da.length : Nat) : Int)) (by omega) (by omega)
  simp only [Int.toNat_natCast] at b5 b6
  simp only [go_sem, ↓reduceIte, reduceCtorEq, upd_ne, back_new (no_at), Nat.reduceAdd, Nat.reduceEqDiff, Nat.reduceMul, Nat.reduceSub, Nat.reduceLeDiff, Nat.reduceLT, Int.reduceToNat, Int.reduceLE, Int.reduceLT, Int.reduceEq, UInt8.reduceOfNat, List.getElem?_map, Int.toNat_natCast, ↓e_sadd, w4, b4, b5, b6, c3, hg0, hfr, hto, hl, hBL, m20, m21, m22, m23, m24, m25, m26, m27, List.length_append, Int.toNat_natCast]
  generalize hT : beB 4 (1610612736 + cl * 1048576 + fl) ++ beB 2 (szE ex + 1 + 1 + 2 + 4 + da.length) ++ beB 1 (nxE ex 44).toNat ++ beB 1 ho.toNat = T
  have hTl : T.length = 8 := by rw [← hT]; simp only [List.length_append, hl]
  refine while_rule (fun k q => ∃ i : Nat, q = ([.str (T ++ fr.take i), .int .i64 (i : Int)], upd noSlots 5 (.tag 1 (ex.length + 1 + 1) 1)) ∧ i + k = 16) 16 ⟨0, by simp, by omega⟩ ?_
  rintro k q ⟨i, rfl, hi⟩
  simp only [go_sem, ↓reduceIte, reduceCtorEq, upd_ne, back_new (no_at), Nat.reduceAdd, Nat.reduceEqDiff, Nat.reduceMul, Nat.reduceSub, Nat.reduceLeDiff, Nat.reduceLT, Int.reduceToNat, Int.reduceLE, Int.reduceLT, Int.reduceEq, UInt8.reduceOfNat, hfr, hto]
  refine nxt_ite (fun h => ?_) (fun h => ?_)
  · have hlt : i < fr.length := by omega
    obtain ⟨b, hb⟩ : ∃ b, fr[i]? = some b := ⟨fr[i], by simp [hlt]⟩
    have e1 : IntKind.i64.wrap ((i : Int) + 1) = ((i + 1 : Nat) : Int) := by rw [wrap_id (by omega) (by omega)]; omega
    have i2 : i < 16 := by omega
    have m1 : 8 + min i 16 + 1 ≤ maxStr := m0 _ (by omega)
    have m2 : 8 + min i 16 + (0 + 1) ≤ maxStr := m0 _ (by omega)
    simp only [go_sem, ↓reduceIte, reduceCtorEq, upd_ne, back_new (no_at), Nat.reduceAdd, Nat.reduceEqDiff, Nat.reduceMul, Nat.reduceSub, Nat.reduceLeDiff, Nat.reduceLT, Int.reduceToNat, Int.reduceLE, Int.reduceLT, Int.reduceEq, UInt8.reduceOfNat, List.getElem?_map, Int.toNat_natCast, ↓e_sadd, hfr, hto, hb, i2, e1, byteLV, u8_lt, UInt8.ofNat_toNat, hTl, m1, m2, List.length_append, List.length_take, adr T fr i b hb]
    exact ⟨k - 1, by omega, i + 1, rfl, by omega⟩
  obtain rfl : i = 16 := by omega
  rw [List.take_of_length_le (by omega)]
  simp only [go_sem, ↓reduceIte, reduceCtorEq, upd_ne, back_new (no_at), Nat.reduceAdd, Nat.reduceEqDiff, Nat.reduceMul, Nat.reduceSub, Nat.reduceLeDiff, Nat.reduceLT, Int.reduceToNat, Int.reduceLE, Int.reduceLT, Int.reduceEq, UInt8.reduceOfNat, hfr, hto, Nxt, exIf]
  refine while_rule (fun k q => ∃ i : Nat, q = ([.str (T ++ fr ++ to.take i), .int .i64 (i : Int)], upd noSlots 5 (.tag 1 (ex.length + 1 + 1) 1)) ∧ i + k = 16) 16 ⟨0, by simp, by omega⟩ ?_
  rintro k q ⟨i, rfl, hi⟩
  simp only [go_sem, ↓reduceIte, reduceCtorEq, upd_ne, back_new (no_at), Nat.reduceAdd, Nat.reduceEqDiff, Nat.reduceMul, Nat.reduceSub, Nat.reduceLeDiff, Nat.reduceLT, Int.reduceToNat, Int.reduceLE, Int.reduceLT, Int.reduceEq, UInt8.reduceOfNat, hfr, hto]
  refine nxt_ite (fun h => ?_) (fun h => ?_)
  · have hlt : i < to.length := by omega
    obtain ⟨b, hb⟩ : ∃ b, to[i]? = some b := ⟨to[i], by simp [hlt]⟩
    have e1 : IntKind.i64.wrap ((i : Int) + 1) = ((i + 1 : Nat) : Int) := by rw [wrap_id (by omega) (by omega)]; omega
    have i2 : i < 16 := by omega
    have m1 : 8 + 16 + min i 16 + 1 ≤ maxStr := m0 _ (by omega)
    have m2 : 8 + 16 + min i 16 + (0 + 1) ≤ maxStr := m0 _ (by omega)
    have m3 : 24 + min i 16 + 1 ≤ maxStr := m0 _ (by omega)
    simp only [go_sem, ↓reduceIte, reduceCtorEq, upd_ne, back_new (no_at), Nat.reduceAdd, Nat.reduceEqDiff, Nat.reduceMul, Nat.reduceSub, Nat.reduceLeDiff, Nat.reduceLT, Int.reduceToNat, Int.reduceLE, Int.reduceLT, Int.reduceEq, UInt8.reduceOfNat, List.getElem?_map, Int.toNat_natCast, ↓e_sadd, hfr, hto, hb, i2, e1, byteLV, u8_lt, UInt8.ofNat_toNat, hTl, m1, m2, m3, List.length_append, List.length_take, adr (T ++ fr) to i b hb]
    exact ⟨k - 1, by omega, i + 1, rfl, by omega⟩
  obtain rfl : i = 16 := by omega
  rw [List.take_of_length_le (by omega)]
  have m30 : 8 + 16 + 16 + (szE ex + 1 + 1 + 2 + 4 + da.length) ≤ maxStr := m0 _ (by omega)
  have m31 : 40 + (szE ex + 1 + 1 + 2 + 4 + da.length) ≤ maxStr := m0 _ (by omega)
  simp only [go_sem, ↓reduceIte, reduceCtorEq, upd_ne, back_new (no_at), Nat.reduceAdd, Nat.reduceEqDiff, Nat.reduceMul, Nat.reduceSub, Nat.reduceLeDiff, Nat.reduceLT, Int.reduceToNat, Int.reduceLE, Int.reduceLT, Int.reduceEq, UInt8.reduceOfNat, ↓e_sadd, hfr, hto, Nxt, exIf, hTl, hBL, m30, m31, List.length_append]
  rw [← hT, show exB ex 44 (pcB id at' true pt da) = exB ex 44 [] ++ beB 1 pt.toNat ++ [0] ++ beB 2 (at' + 1).toNat ++ beB 4 id.toNat ++ da by rw [exB_app ex 44]; unfold pcB; rw [if_pos rfl, show (at' + 1).toNat = at'.toNat + 1 by omega]; simp only [List.append_assoc, List.cons_append, List.nil_append], hBL]
  simp only [List.append_assoc]

theorem ev_rbytes6_tf {cl fl ho : Int} {fr to : List UInt8} {ex : List (Int × List UInt8)} {id at' : Int} {pt : Int} {da : List UInt8} (hf : FitIp6 cl fl ho fr to ex id at' pt da) (sm : SmE ex) (hdl : da.length ≤ 1000000) (c : why6 cl fl ho ex true id at' false pt da = 0) :
    S.ev (n + 3) id_interpreterref04_Bytes [ip6LV cl fl ho fr to (extsLV ex) true id at' false pt da] none = some (.tup [.str (by6 cl fl ho fr to ex true id at' false pt da), .int .i64 0], none) := by
  rw [Sys.step hS.h_interpreterref04_Bytes, F_interpreterref04_Bytes_eq]
  unfold F_interpreterref04_Bytes
  have hfr := hf.hfr
  have hto := hf.hto
  have hw := ev_Why6 hS n (cl := cl) (fl := fl) (ho := ho) (fr := fr) (to := to) (ex := ex) (fg := true) (id := id) (at' := at') (mo := false) (pt := pt) (da := da) hfr hto sm hdl
  rw [c] at hw
  have ok := why6_zero.1 c
  obtain ⟨⟨⟨a1, a2⟩, ⟨a3, a4⟩, ⟨a5, a6⟩, ⟨a7, a8⟩, ⟨a9, a10⟩, a11⟩, ok2, ok3, ok4, ok5, ok6⟩ := ok
  have hkb := ok2.1
  have hfb := fB_le ex true ok3.1
  have hid := hf.hid
  (try simp only [guard_merge, or_merge, and_merge, or_pick, and_pick, guard_or, guard_and]); simp only [to_ob]
  unfold by6 bd6
  simp only [Bool.false_eq_true, if_true, if_false]
  unfold bh6 at ok6
  simp only [Bool.false_eq_true, if_true, if_false] at ok6
  have b1 := ev_p41 hS n (x := pt) (by omega) (by omega)
  have b0 : S.ev (n + 2) id_interpreterref04_put [.int .i64 0, .int .i64 1] none = some (.str [0], none) := ev_p41 hS n (x := 0) (by omega) (by omega)
  have b2 := ev_p42 hS n (x := at') (by omega) (by omega)
  have b3 := ev_p44 hS n (x := id) (by omega) (by omega)
  have b4 := ev_p41 hS n (x := ho) (by omega) (by omega)
  obtain ⟨cl, rfl⟩ := Int.eq_ofNat_of_zero_le a1
  obtain ⟨fl, rfl⟩ := Int.eq_ofNat_of_zero_le a3
  have b5 := ev_p44 hS n (x := ((1610612736 + cl * 1048576 + fl : Nat) : Int)) (by omega) (by omega)
  have w1 : IntKind.i64.wrap id = id := wrap_id (by omega) (by omega)
  have w2 : IntKind.i64.wrap (at' + 1) = at' + 1 := wrap_id (by omega) (by omega)
  have w4 : IntKind.i64.wrap (IntKind.i64.wrap (1610612736 + IntKind.i64.wrap ((cl : Int) * 1048576)) + (fl : Int)) = ((1610612736 + cl * 1048576 + fl : Nat) : Int) := by
    rw [wrap_id (n := (cl : Int) * 1048576) (by omega) (by omega), wrap_id (n := 1610612736 + (cl : Int) * 1048576) (by omega) (by omega), wrap_id (by omega) (by omega)]; omega
  have hl := beB_len
  have m0 : ∀ k : Nat, k ≤ 1000000 → k ≤ maxStr := fun k h => by unfold maxStr; omega
  simp only [go_sem, ↓reduceIte, reduceCtorEq, upd_ne, back_new (no_at), Nat.reduceAdd, Nat.reduceEqDiff, Nat.reduceMul, Nat.reduceSub, Nat.reduceLeDiff, Nat.reduceLT, Int.reduceToNat, Int.reduceLE, Int.reduceLT, Int.reduceEq, UInt8.reduceOfNat, hw, c, hfr, hto]
  -- the kinds
  refine while_rule (fun k q => ∃ i : Nat, q = ([.lst (some (5, 1)) (kindsL (ex.take i)), .int .i64 (i : Int)], upd noSlots 5 (.tag 1 i 1)) ∧ i + k = ex.length) ex.length ⟨0, rfl, by omega⟩ ?_
  rintro k q ⟨i, rfl, hi⟩
  simp only [go_sem, ↓reduceIte, reduceCtorEq, upd_ne, back_new (no_at), Nat.reduceAdd, Nat.reduceEqDiff, Nat.reduceMul, Nat.reduceSub, Nat.reduceLeDiff, Nat.reduceLT, Int.reduceToNat, Int.reduceLE, Int.reduceLT, Int.reduceEq, UInt8.reduceOfNat, hfr, hto, List.length_map]
  refine nxt_ite (fun h => ?_) (fun h => ?_)
  · have hlt : i < ex.length := by omega
    obtain ⟨e, he⟩ : ∃ e, ex[i]? = some e := ⟨ex[i], by simp [hlt]⟩
    have htk : ex.take (i + 1) = ex.take i ++ [e] := by rw [List.take_add_one, he]; rfl
    have e1 : IntKind.i64.wrap ((i : Int) + 1) = ((i + 1 : Nat) : Int) := by rw [wrap_id (by omega) (by omega)]; omega
    have ha := wAppend_tag (e := 1) (by' := 8) (d := 33) (t := 5) (g := 1) (n := i) (sz := 1) (sl := upd noSlots 5 (.tag 1 i 1)) (l := kindsL (ex.take i)) (new := [.int .i64 e.1]) upd_same (by simp; omega) rfl (kinds_flat _) (by simp [flatLen]) (by simp) (by simp; omega)
    rw [upd_upd, show kindsL (ex.take i) ++ [.int .i64 e.1] = kindsL (ex.take (i + 1)) by rw [htk]; simp] at ha
    simp only [go_sem, ↓reduceIte, reduceCtorEq, upd_ne, back_new (no_at), Nat.reduceAdd, Nat.reduceEqDiff, Nat.reduceMul, Nat.reduceSub, Nat.reduceLeDiff, Nat.reduceLT, Int.reduceToNat, Int.reduceLE, Int.reduceLT, Int.reduceEq, UInt8.reduceOfNat, List.getElem?_map, Int.toNat_natCast, he, e1, ha, hfr, hto]
    exact ⟨k - 1, by omega, i + 1, rfl, by omega⟩
  obtain rfl : i = ex.length := by omega
  rw [List.take_of_length_le (by omega)]
  simp only [go_sem, ↓reduceIte, reduceCtorEq, upd_ne, back_new (no_at), Nat.reduceAdd, Nat.reduceEqDiff, Nat.reduceMul, Nat.reduceSub, Nat.reduceLeDiff, Nat.reduceLT, Int.reduceToNat, Int.reduceLE, Int.reduceLT, Int.reduceEq, UInt8.reduceOfNat, hfr, hto, Nxt, exIf]
  have ha1 := wAppend_tag (e := 1) (by' := 8) (d := 38) (t := 5) (g := 1) (n := ex.length) (sz := 1) (sl := upd noSlots 5 (.tag 1 ex.length 1)) (l := kindsL ex) (new := [.int .i64 44]) upd_same (by simp) rfl (kinds_flat _) (by simp [flatLen]) (by simp) (by simp; omega)
  have hk2 : ((kindsL ex ++ [LV.int .i64 44]).all fun v => decide (flatLen v = 1)) = true := ints_flat' _ fun v hv => by
    rcases List.mem_append.1 hv with h | h
    · obtain ⟨e, _, rfl⟩ := List.mem_map.1 h; exact ⟨_, rfl⟩
    · simp at h; exact ⟨_, h⟩
  have ha2 := wAppend_tag (e := 1) (by' := 8) (d := 43) (t := 5) (g := 1) (n := ex.length + 1) (sz := 1) (sl := upd noSlots 5 (.tag 1 (ex.length + 1) 1)) (l := kindsL ex ++ [LV.int .i64 44]) (new := [.int .i64 pt]) upd_same (by simp) rfl hk2 (by simp [flatLen]) (by simp) (by simp; omega)
  rw [upd_upd] at ha1 ha2
  simp only [List.length_cons, List.length_nil, Nat.zero_add, List.append_assoc, List.cons_append, List.nil_append] at ha1 ha2
  simp only [go_sem, ↓reduceIte, reduceCtorEq, upd_ne, back_new (no_at), Nat.reduceAdd, Nat.reduceEqDiff, Nat.reduceMul, Nat.reduceSub, Nat.reduceLeDiff, Nat.reduceLT, Int.reduceToNat, Int.reduceLE, Int.reduceLT, Int.reduceEq, UInt8.reduceOfNat, hfr, hto, ha1, ha2]
  -- the chain
  have hNr : 0 ≤ (44 : Int) ∧ (44 : Int) ≤ 255 := by omega
  have hXl := exB_len ex 44 []
  simp only [List.length_nil, Nat.add_zero] at hXl
  refine while_rule (fun k q => ∃ (i : Nat) (u : List UInt8), q = ([.str u, .int .i64 (i : Int)], upd noSlots 5 (.tag 1 (ex.length + 1 + 1) 1)) ∧ i + k = ex.length ∧ u ++ exB (ex.drop i) 44 [] = exB ex 44 []) ex.length ⟨0, [], rfl, by omega, by simp⟩ ?_
  rintro k q ⟨i, u, rfl, hi, hu⟩
  have hul : u.length ≤ szE ex := by have := congrArg List.length hu; rw [List.length_append, hXl] at this; omega
  simp only [go_sem, ↓reduceIte, reduceCtorEq, upd_ne, back_new (no_at), Nat.reduceAdd, Nat.reduceEqDiff, Nat.reduceMul, Nat.reduceSub, Nat.reduceLeDiff, Nat.reduceLT, Int.reduceToNat, Int.reduceLE, Int.reduceLT, Int.reduceEq, UInt8.reduceOfNat, hfr, hto, List.length_map]
  refine nxt_ite (fun h => ?_) (fun h => ?_)
  · have hlt : i < ex.length := by omega
    obtain ⟨e, he⟩ : ∃ e, ex[i]? = some e := ⟨ex[i], by simp [hlt]⟩
    have hd := drop_ex he
    have hem := List.mem_of_getElem? he
    have heb := hfb e hem
    have hnr := nxE_rg (p := 44) (kB_drop (i := i + 1) hkb) hNr
    have e1 : IntKind.i64.wrap ((i : Int) + 1) = ((i + 1 : Nat) : Int) := by rw [wrap_id (by omega) (by omega)]; omega
    have hg := kinds_get (p := 44) (t := [.int .i64 pt]) hlt
    have j3 : IntKind.i64.wrap (IntKind.i64.wrap (Int.tdiv (IntKind.i64.wrap ((e.2.length : Int) + 2)) 8) - 1) = ((e.2.length / 8 : Nat) : Int) := by
      rw [show IntKind.i64.wrap ((e.2.length : Int) + 2) = ((e.2.length + 2 : Nat) : Int) by rw [wrap_id (by omega) (by omega)]; omega, show Int.tdiv ((e.2.length + 2 : Nat) : Int) 8 = (((e.2.length + 2) / 8 : Nat) : Int) from rfl, wrap_id (n := (((e.2.length + 2) / 8 : Nat) : Int)) (by omega) (by omega), wrap_id (by omega) (by omega)]; omega
    have c1 := ev_p41 hS n (x := nxE (ex.drop (i + 1)) 44) (by omega) (by omega)
    have c2 := ev_p41 hS n (x := ((e.2.length / 8 : Nat) : Int)) (by omega) (by omega)
    simp only [Int.toNat_natCast] at c2
    have m1 : u.length + 1 ≤ maxStr := m0 _ (by omega)
    have m2 : u.length + 2 ≤ maxStr := m0 _ (by omega)
    have m3 : u.length + (2 + e.2.length) ≤ maxStr := m0 _ (by omega)
    have m5 : u.length + (1 + 1) ≤ maxStr := m0 _ (by omega)
    have m6 : u.length + (1 + (1 + e.2.length)) ≤ maxStr := m0 _ (by omega)
    have m7 : u.length + 1 + 1 ≤ maxStr := m0 _ (by omega)
    have m8 : u.length + 1 + 1 + e.2.length ≤ maxStr := m0 _ (by omega)
    simp only [go_sem, ↓reduceIte, reduceCtorEq, upd_ne, back_new (no_at), Nat.reduceAdd, Nat.reduceEqDiff, Nat.reduceMul, Nat.reduceSub, Nat.reduceLeDiff, Nat.reduceLT, Int.reduceToNat, Int.reduceLE, Int.reduceLT, Int.reduceEq, UInt8.reduceOfNat, List.getElem?_map, Int.toNat_natCast, ↓e_sadd, he, e1, hg, j3, c1, c2, hl, hfr, hto, m1, m2, m3, m5, m6, m7, m8, List.length_append]
    refine ⟨k - 1, by omega, i + 1, _, rfl, by omega, ?_⟩
    rw [← hu, hd]
    simp only [exB, List.append_assoc]
  obtain rfl : i = ex.length := by omega
  rw [List.drop_eq_nil_of_le (by omega)] at hu
  simp only [exB, List.append_nil] at hu
  subst hu
  simp only [go_sem, ↓reduceIte, reduceCtorEq, upd_ne, back_new (no_at), Nat.reduceAdd, Nat.reduceEqDiff, Nat.reduceMul, Nat.reduceSub, Nat.reduceLeDiff, Nat.reduceLT, Int.reduceToNat, Int.reduceLE, Int.reduceLT, Int.reduceEq, UInt8.reduceOfNat, hfr, hto, Nxt, exIf]
  have n1 : szE ex + 1 ≤ maxStr := m0 _ (by omega)
  have n2 : szE ex + 1 + 1 ≤ maxStr := m0 _ (by omega)
  have n3 : szE ex + 1 + 1 + 2 ≤ maxStr := m0 _ (by omega)
  have n4 : szE ex + 1 + 1 + 2 + 4 ≤ maxStr := m0 _ (by omega)
  have n5 : szE ex + 1 + 1 + 2 + 4 + da.length ≤ maxStr := m0 _ (by omega)
  have n6 : szE ex + (0 + 1) ≤ maxStr := m0 _ (by omega)
  have n7 : szE ex + da.length ≤ maxStr := m0 _ (by omega)
  have n8 : szE ex + 1 + (0 + 1) ≤ maxStr := m0 _ (by omega)
  simp only [go_sem, ↓reduceIte, reduceCtorEq, upd_ne, back_new (no_at), Nat.reduceAdd, Nat.reduceEqDiff, Nat.reduceMul, Nat.reduceSub, Nat.reduceLeDiff, Nat.reduceLT, Int.reduceToNat, Int.reduceLE, Int.reduceLT, Int.reduceEq, UInt8.reduceOfNat, List.getElem?_map, Int.toNat_natCast, ↓e_sadd, b0, b1, b2, b3, w1, w2, hfr, hto, hl, hXl, n1, n2, n3, n4, n5, n6, n7, n8, List.length_append]

  have hnx := nxE_rg (p := 44) hkb hNr
  have hg0 := kinds_get0 (ex := ex) (p := 44) (t := [.int .i64 pt])
  have c3 := ev_p41 hS n (x := nxE ex 44) (by omega) (by omega)
  -- the addresses
  have adr : ∀ (T a : List UInt8) (i : Nat) (b : UInt8), a[i]? = some b → T ++ a.take i ++ [b] = T ++ a.take (i + 1) := fun T a i b h => by rw [List.take_add_one, h, List.append_assoc]; rfl
  have m20 : 4 + 2 ≤ maxStr := m0 _ (by omega)
  have m21 : 4 + 2 + 1 ≤ maxStr := m0 _ (by omega)
  have m22 : 4 + 2 + 1 + 1 ≤ maxStr := m0 _ (by omega)
  have m23 : 6 ≤ maxStr := m0 _ (by omega)
  have m24 : 7 ≤ maxStr := m0 _ (by omega)
  have m25 : 8 ≤ maxStr := m0 _ (by omega)
  have m26 : 6 + 1 ≤ maxStr := m0 _ (by omega)
  have m27 : 6 + 1 + 1 ≤ maxStr := m0 _ (by omega)
  have hBL : (exB ex 44 [] ++ beB 1 pt.toNat ++ [0] ++ beB 2 at'.toNat ++ beB 4 id.toNat ++ da).length = szE ex + 1 + 1 + 2 + 4 + da.length := by simp only [List.length_append, hXl, hl, List.length_cons, List.length_nil]
  have b6 := ev_p42 hS n (x := ((szE ex + 1 + 1 + 2 + 4 + da.length : Nat) : Int)) (by omega) (by omega)
  simp only [Int.toNat_natCast] at b5 b6
  simp only [go_sem, ↓reduceIte, reduceCtorEq, upd_ne, back_new (no_at), Nat.reduceAdd, Nat.reduceEqDiff, Nat.reduceMul, Nat.reduceSub, Nat.reduceLeDiff, Nat.reduceLT, Int.reduceToNat, Int.reduceLE, Int.reduceLT, Int.reduceEq, UInt8.reduceOfNat, List.getElem?_map, Int.toNat_natCast, ↓e_sadd, w4, b4, b5, b6, c3, hg0, hfr, hto, hl, hBL, m20, m21, m22, m23, m24, m25, m26, m27, List.length_append, Int.toNat_natCast]
  generalize hT : beB 4 (1610612736 + cl * 1048576 + fl) ++ beB 2 (szE ex + 1 + 1 + 2 + 4 + da.length) ++ beB 1 (nxE ex 44).toNat ++ beB 1 ho.toNat = T
  have hTl : T.length = 8 := by rw [← hT]; simp only [List.length_append, hl]
  refine while_rule (fun k q => ∃ i : Nat, q = ([.str (T ++ fr.take i), .int .i64 (i : Int)], upd noSlots 5 (.tag 1 (ex.length + 1 + 1) 1)) ∧ i + k = 16) 16 ⟨0, by simp, by omega⟩ ?_
  rintro k q ⟨i, rfl, hi⟩
  simp only [go_sem, ↓reduceIte, reduceCtorEq, upd_ne, back_new (no_at), Nat.reduceAdd, Nat.reduceEqDiff, Nat.reduceMul, Nat.reduceSub, Nat.reduceLeDiff, Nat.reduceLT, Int.reduceToNat, Int.reduceLE, Int.reduceLT, Int.reduceEq, UInt8.reduceOfNat, hfr, hto]
  refine nxt_ite (fun h => ?_) (fun h => ?_)
  · have hlt : i < fr.length := by omega
    obtain ⟨b, hb⟩ : ∃ b, fr[i]? = some b := ⟨fr[i], by simp [hlt]⟩
    have e1 : IntKind.i64.wrap ((i : Int) + 1) = ((i + 1 : Nat) : Int) := by rw [wrap_id (by omega) (by omega)]; omega
    have i2 : i < 16 := by omega
    have m1 : 8 + min i 16 + 1 ≤ maxStr := m0 _ (by omega)
    have m2 : 8 + min i 16 + (0 + 1) ≤ maxStr := m0 _ (by omega)
    simp only [go_sem, ↓reduceIte, reduceCtorEq, upd_ne, back_new (no_at), Nat.reduceAdd, Nat.reduceEqDiff, Nat.reduceMul, Nat.reduceSub, Nat.reduceLeDiff, Nat.reduceLT, Int.reduceToNat, Int.reduceLE, Int.reduceLT, Int.reduceEq, UInt8.reduceOfNat, List.getElem?_map, Int.toNat_natCast, ↓e_sadd, hfr, hto, hb, i2, e1, byteLV, u8_lt, UInt8.ofNat_toNat, hTl, m1, m2, List.length_append, List.length_take, adr T fr i b hb]
    exact ⟨k - 1, by omega, i + 1, rfl, by omega⟩
  obtain rfl : i = 16 := by omega
  rw [List.take_of_length_le (by omega)]
  simp only [go_sem, ↓reduceIte, reduceCtorEq, upd_ne, back_new (no_at), Nat.reduceAdd, Nat.reduceEqDiff, Nat.reduceMul, Nat.reduceSub, Nat.reduceLeDiff, Nat.reduceLT, Int.reduceToNat, Int.reduceLE, Int.reduceLT, Int.reduceEq, UInt8.reduceOfNat, hfr, hto, Nxt, exIf]
  refine while_rule (fun k q => ∃ i : Nat, q = ([.str (T ++ fr ++ to.take i), .int .i64 (i : Int)], upd noSlots 5 (.tag 1 (ex.length + 1 + 1) 1)) ∧ i + k = 16) 16 ⟨0, by simp, by omega⟩ ?_
  rintro k q ⟨i, rfl, hi⟩
  simp only [go_sem, ↓reduceIte, reduceCtorEq, upd_ne, back_new (no_at), Nat.reduceAdd, Nat.reduceEqDiff, Nat.reduceMul, Nat.reduceSub, Nat.reduceLeDiff, Nat.reduceLT, Int.reduceToNat, Int.reduceLE, Int.reduceLT, Int.reduceEq, UInt8.reduceOfNat, hfr, hto]
  refine nxt_ite (fun h => ?_) (fun h => ?_)
  · have hlt : i < to.length := by omega
    obtain ⟨b, hb⟩ : ∃ b, to[i]? = some b := ⟨to[i], by simp [hlt]⟩
    have e1 : IntKind.i64.wrap ((i : Int) + 1) = ((i + 1 : Nat) : Int) := by rw [wrap_id (by omega) (by omega)]; omega
    have i2 : i < 16 := by omega
    have m1 : 8 + 16 + min i 16 + 1 ≤ maxStr := m0 _ (by omega)
    have m2 : 8 + 16 + min i 16 + (0 + 1) ≤ maxStr := m0 _ (by omega)
    have m3 : 24 + min i 16 + 1 ≤ maxStr := m0 _ (by omega)
    simp only [go_sem, ↓reduceIte, reduceCtorEq, upd_ne, back_new (no_at), Nat.reduceAdd, Nat.reduceEqDiff, Nat.reduceMul, Nat.reduceSub, Nat.reduceLeDiff, Nat.reduceLT, Int.reduceToNat, Int.reduceLE, Int.reduceLT, Int.reduceEq, UInt8.reduceOfNat, List.getElem?_map, Int.toNat_natCast, ↓e_sadd, hfr, hto, hb, i2, e1, byteLV, u8_lt, UInt8.ofNat_toNat, hTl, m1, m2, m3, List.length_append, List.length_take, adr (T ++ fr) to i b hb]
    exact ⟨k - 1, by omega, i + 1, rfl, by omega⟩
  obtain rfl : i = 16 := by omega
  rw [List.take_of_length_le (by omega)]
  have m30 : 8 + 16 + 16 + (szE ex + 1 + 1 + 2 + 4 + da.length) ≤ maxStr := m0 _ (by omega)
  have m31 : 40 + (szE ex + 1 + 1 + 2 + 4 + da.length) ≤ maxStr := m0 _ (by omega)
  simp only [go_sem, ↓reduceIte, reduceCtorEq, upd_ne, back_new (no_at), Nat.reduceAdd, Nat.reduceEqDiff, Nat.reduceMul, Nat.reduceSub, Nat.reduceLeDiff, Nat.reduceLT, Int.reduceToNat, Int.reduceLE, Int.reduceLT, Int.reduceEq, UInt8.reduceOfNat, ↓e_sadd, hfr, hto, Nxt, exIf, hTl, hBL, m30, m31, List.length_append]
  rw [← hT, show exB ex 44 (pcB id at' false pt da) = exB ex 44 [] ++ beB 1 pt.toNat ++ [0] ++ beB 2 at'.toNat ++ beB 4 id.toNat ++ da by rw [exB_app ex 44]; unfold pcB; rw [if_neg Bool.false_ne_true, Nat.add_zero]; simp only [List.append_assoc, List.cons_append, List.nil_append], hBL]
  simp only [List.append_assoc]

theorem ev_rbytes6_n {cl fl ho : Int} {fr to : List UInt8} {ex : List (Int × List UInt8)} {id at' : Int} {mo : Bool} {pt : Int} {da : List UInt8} (hf : FitIp6 cl fl ho fr to ex id at' pt da) (sm : SmE ex) (hdl : da.length ≤ 1000000) (c : why6 cl fl ho ex false id at' mo pt da = 0) :
    S.ev (n + 3) id_interpreterref04_Bytes [ip6LV cl fl ho fr to (extsLV ex) false id at' mo pt da] none = some (.tup [.str (by6 cl fl ho fr to ex false id at' mo pt da), .int .i64 0], none) := by
  rw [Sys.step hS.h_interpreterref04_Bytes, F_interpreterref04_Bytes_eq]
  unfold F_interpreterref04_Bytes
  have hfr := hf.hfr
  have hto := hf.hto
  have hw := ev_Why6 hS n (cl := cl) (fl := fl) (ho := ho) (fr := fr) (to := to) (ex := ex) (fg := false) (id := id) (at' := at') (mo := mo) (pt := pt) (da := da) hfr hto sm hdl
  rw [c] at hw
  have ok := why6_zero.1 c
  obtain ⟨⟨⟨a1, a2⟩, ⟨a3, a4⟩, ⟨a5, a6⟩, ⟨a7, a8⟩, ⟨a9, a10⟩, a11⟩, ok2, ok3, ok4, ok5, ok6⟩ := ok
  have hkb := ok2.1
  have hfb := fB_le ex true ok3.1
  have hid := hf.hid
  (try simp only [guard_merge, or_merge, and_merge, or_pick, and_pick, guard_or, guard_and]); simp only [to_ob]
  unfold by6 bd6
  simp only [Bool.false_eq_true, if_true, if_false]
  unfold bh6 at ok6
  simp only [Bool.false_eq_true, if_true, if_false] at ok6
  have b1 := ev_p41 hS n (x := pt) (by omega) (by omega)
  have b0 : S.ev (n + 2) id_interpreterref04_put [.int .i64 0, .int .i64 1] none = some (.str [0], none) := ev_p41 hS n (x := 0) (by omega) (by omega)
  have b2 := ev_p42 hS n (x := at') (by omega) (by omega)
  have b3 := ev_p44 hS n (x := id) (by omega) (by omega)
  have b4 := ev_p41 hS n (x := ho) (by omega) (by omega)
  obtain ⟨cl, rfl⟩ := Int.eq_ofNat_of_zero_le a1
  obtain ⟨fl, rfl⟩ := Int.eq_ofNat_of_zero_le a3
  have b5 := ev_p44 hS n (x := ((1610612736 + cl * 1048576 + fl : Nat) : Int)) (by omega) (by omega)
  have w1 : IntKind.i64.wrap id = id := wrap_id (by omega) (by omega)
  have w2 : IntKind.i64.wrap (at' + 1) = at' + 1 := wrap_id (by omega) (by omega)
  have w4 : IntKind.i64.wrap (IntKind.i64.wrap (1610612736 + IntKind.i64.wrap ((cl : Int) * 1048576)) + (fl : Int)) = ((1610612736 + cl * 1048576 + fl : Nat) : Int) := by
    rw [wrap_id (n := (cl : Int) * 1048576) (by omega) (by omega), wrap_id (n := 1610612736 + (cl : Int) * 1048576) (by omega) (by omega), wrap_id (by omega) (by omega)]; omega
  have hl := beB_len
  have m0 : ∀ k : Nat, k ≤ 1000000 → k ≤ maxStr := fun k h => by unfold maxStr; omega
  simp only [go_sem, ↓reduceIte, reduceCtorEq, upd_ne, back_new (no_at), Nat.reduceAdd, Nat.reduceEqDiff, Nat.reduceMul, Nat.reduceSub, Nat.reduceLeDiff, Nat.reduceLT, Int.reduceToNat, Int.reduceLE, Int.reduceLT, Int.reduceEq, UInt8.reduceOfNat, hw, c, hfr, hto]
  -- the kinds
  refine while_rule (fun k q => ∃ i : Nat, q = ([.lst (some (5, 1)) (kindsL (ex.take i)), .int .i64 (i : Int)], upd noSlots 5 (.tag 1 i 1)) ∧ i + k = ex.length) ex.length ⟨0, rfl, by omega⟩ ?_
  rintro k q ⟨i, rfl, hi⟩
  simp only [go_sem, ↓reduceIte, reduceCtorEq, upd_ne, back_new (no_at), Nat.reduceAdd, Nat.reduceEqDiff, Nat.reduceMul, Nat.reduceSub, Nat.reduceLeDiff, Nat.reduceLT, Int.reduceToNat, Int.reduceLE, Int.reduceLT, Int.reduceEq, UInt8.reduceOfNat, hfr, hto, List.length_map]
  refine nxt_ite (fun h => ?_) (fun h => ?_)
  · have hlt : i < ex.length := by omega
    obtain ⟨e, he⟩ : ∃ e, ex[i]? = some e := ⟨ex[i], by simp [hlt]⟩
    have htk : ex.take (i + 1) = ex.take i ++ [e] := by rw [List.take_add_one, he]; rfl
    have e1 : IntKind.i64.wrap ((i : Int) + 1) = ((i + 1 : Nat) : Int) := by rw [wrap_id (by omega) (by omega)]; omega
    have ha := wAppend_tag (e := 1) (by' := 8) (d := 33) (t := 5) (g := 1) (n := i) (sz := 1) (sl := upd noSlots 5 (.tag 1 i 1)) (l := kindsL (ex.take i)) (new := [.int .i64 e.1]) upd_same (by simp; omega) rfl (kinds_flat _) (by simp [flatLen]) (by simp) (by simp; omega)
    rw [upd_upd, show kindsL (ex.take i) ++ [.int .i64 e.1] = kindsL (ex.take (i + 1)) by rw [htk]; simp] at ha
    simp only [go_sem, ↓reduceIte, reduceCtorEq, upd_ne, back_new (no_at), Nat.reduceAdd, Nat.reduceEqDiff, Nat.reduceMul, Nat.reduceSub, Nat.reduceLeDiff, Nat.reduceLT, Int.reduceToNat, Int.reduceLE, Int.reduceLT, Int.reduceEq, UInt8.reduceOfNat, List.getElem?_map, Int.toNat_natCast, he, e1, ha, hfr, hto]
    exact ⟨k - 1, by omega, i + 1, rfl, by omega⟩
  obtain rfl : i = ex.length := by omega
  rw [List.take_of_length_le (by omega)]
  simp only [go_sem, ↓reduceIte, reduceCtorEq, upd_ne, back_new (no_at), Nat.reduceAdd, Nat.reduceEqDiff, Nat.reduceMul, Nat.reduceSub, Nat.reduceLeDiff, Nat.reduceLT, Int.reduceToNat, Int.reduceLE, Int.reduceLT, Int.reduceEq, UInt8.reduceOfNat, hfr, hto, Nxt, exIf]
  have ha1 := wAppend_tag (e := 1) (by' := 8) (d := 43) (t := 5) (g := 1) (n := ex.length) (sz := 1) (sl := upd noSlots 5 (.tag 1 ex.length 1)) (l := kindsL ex) (new := [.int .i64 pt]) upd_same (by simp) rfl (kinds_flat _) (by simp [flatLen]) (by simp) (by simp; omega)
  rw [upd_upd] at ha1
  simp only [List.length_cons, List.length_nil, Nat.zero_add] at ha1
  simp only [go_sem, ↓reduceIte, reduceCtorEq, upd_ne, back_new (no_at), Nat.reduceAdd, Nat.reduceEqDiff, Nat.reduceMul, Nat.reduceSub, Nat.reduceLeDiff, Nat.reduceLT, Int.reduceToNat, Int.reduceLE, Int.reduceLT, Int.reduceEq, UInt8.reduceOfNat, hfr, hto, ha1]
  -- the chain
  have hNr : 0 ≤ (pt : Int) ∧ (pt : Int) ≤ 255 := by omega
  have hXl := exB_len ex pt []
  simp only [List.length_nil, Nat.add_zero] at hXl
  refine while_rule (fun k q => ∃ (i : Nat) (u : List UInt8), q = ([.str u, .int .i64 (i : Int)], upd noSlots 5 (.tag 1 (ex.length + 1) 1)) ∧ i + k = ex.length ∧ u ++ exB (ex.drop i) pt [] = exB ex pt []) ex.length ⟨0, [], rfl, by omega, by simp⟩ ?_
  rintro k q ⟨i, u, rfl, hi, hu⟩
  have hul : u.length ≤ szE ex := by have := congrArg List.length hu; rw [List.length_append, hXl] at this; omega
  simp only [go_sem, ↓reduceIte, reduceCtorEq, upd_ne, back_new (no_at), Nat.reduceAdd, Nat.reduceEqDiff, Nat.reduceMul, Nat.reduceSub, Nat.reduceLeDiff, Nat.reduceLT, Int.reduceToNat, Int.reduceLE, Int.reduceLT, Int.reduceEq, UInt8.reduceOfNat, hfr, hto, List.length_map]
  refine nxt_ite (fun h => ?_) (fun h => ?_)
  · have hlt : i < ex.length := by omega
    obtain ⟨e, he⟩ : ∃ e, ex[i]? = some e := ⟨ex[i], by simp [hlt]⟩
    have hd := drop_ex he
    have hem := List.mem_of_getElem? he
    have heb := hfb e hem
    have hnr := nxE_rg (p := pt) (kB_drop (i := i + 1) hkb) hNr
    have e1 : IntKind.i64.wrap ((i : Int) + 1) = ((i + 1 : Nat) : Int) := by rw [wrap_id (by omega) (by omega)]; omega
    have hg := kinds_get (p := pt) (t := []) hlt
    have j3 : IntKind.i64.wrap (IntKind.i64.wrap (Int.tdiv (IntKind.i64.wrap ((e.2.length : Int) + 2)) 8) - 1) = ((e.2.length / 8 : Nat) : Int) := by
      rw [show IntKind.i64.wrap ((e.2.length : Int) + 2) = ((e.2.length + 2 : Nat) : Int) by rw [wrap_id (by omega) (by omega)]; omega, show Int.tdiv ((e.2.length + 2 : Nat) : Int) 8 = (((e.2.length + 2) / 8 : Nat) : Int) from rfl, wrap_id (n := (((e.2.length + 2) / 8 : Nat) : Int)) (by omega) (by omega), wrap_id (by omega) (by omega)]; omega
    have c1 := ev_p41 hS n (x := nxE (ex.drop (i + 1)) pt) (by omega) (by omega)
    have c2 := ev_p41 hS n (x := ((e.2.length / 8 : Nat) : Int)) (by omega) (by omega)
    simp only [Int.toNat_natCast] at c2
    have m1 : u.length + 1 ≤ maxStr := m0 _ (by omega)
    have m2 : u.length + 2 ≤ maxStr := m0 _ (by omega)
    have m3 : u.length + (2 + e.2.length) ≤ maxStr := m0 _ (by omega)
    have m5 : u.length + (1 + 1) ≤ maxStr := m0 _ (by omega)
    have m6 : u.length + (1 + (1 + e.2.length)) ≤ maxStr := m0 _ (by omega)
    have m7 : u.length + 1 + 1 ≤ maxStr := m0 _ (by omega)
    have m8 : u.length + 1 + 1 + e.2.length ≤ maxStr := m0 _ (by omega)
    simp only [go_sem, ↓reduceIte, reduceCtorEq, upd_ne, back_new (no_at), Nat.reduceAdd, Nat.reduceEqDiff, Nat.reduceMul, Nat.reduceSub, Nat.reduceLeDiff, Nat.reduceLT, Int.reduceToNat, Int.reduceLE, Int.reduceLT, Int.reduceEq, UInt8.reduceOfNat, List.getElem?_map, Int.toNat_natCast, ↓e_sadd, he, e1, hg, j3, c1, c2, hl, hfr, hto, m1, m2, m3, m5, m6, m7, m8, List.length_append]
    refine ⟨k - 1, by omega, i + 1, _, rfl, by omega, ?_⟩
    rw [← hu, hd]
    simp only [exB, List.append_assoc]
  obtain rfl : i = ex.length := by omega
  rw [List.drop_eq_nil_of_le (by omega)] at hu
  simp only [exB, List.append_nil] at hu
  subst hu
  simp only [go_sem, ↓reduceIte, reduceCtorEq, upd_ne, back_new (no_at), Nat.reduceAdd, Nat.reduceEqDiff, Nat.reduceMul, Nat.reduceSub, Nat.reduceLeDiff, Nat.reduceLT, Int.reduceToNat, Int.reduceLE, Int.reduceLT, Int.reduceEq, UInt8.reduceOfNat, hfr, hto, Nxt, exIf]
  have n1 : szE ex + 1 ≤ maxStr := m0 _ (by omega)
  have n2 : szE ex + 1 + 1 ≤ maxStr := m0 _ (by omega)
  have n3 : szE ex + 1 + 1 + 2 ≤ maxStr := m0 _ (by omega)
  have n4 : szE ex + 1 + 1 + 2 + 4 ≤ maxStr := m0 _ (by omega)
  have n5 : szE ex + 1 + 1 + 2 + 4 + da.length ≤ maxStr := m0 _ (by omega)
  have n6 : szE ex + (0 + 1) ≤ maxStr := m0 _ (by omega)
  have n7 : szE ex + da.length ≤ maxStr := m0 _ (by omega)
  have n8 : szE ex + 1 + (0 + 1) ≤ maxStr := m0 _ (by omega)
  simp only [go_sem, ↓reduceIte, reduceCtorEq, upd_ne, back_new (no_at), Nat.reduceAdd, Nat.reduceEqDiff, Nat.reduceMul, Nat.reduceSub, Nat.reduceLeDiff, Nat.reduceLT, Int.reduceToNat, Int.reduceLE, Int.reduceLT, Int.reduceEq, UInt8.reduceOfNat, List.getElem?_map, Int.toNat_natCast, ↓e_sadd, b0, b1, b2, b3, w1, w2, hfr, hto, hl, hXl, n1, n2, n3, n4, n5, n6, n7, n8, List.length_append]

  have hnx := nxE_rg (p := pt) hkb hNr
  have hg0 := kinds_get0 (ex := ex) (p := pt) (t := [])
  have c3 := ev_p41 hS n (x := nxE ex pt) (by omega) (by omega)
  -- the addresses
  have adr : ∀ (T a : List UInt8) (i : Nat) (b : UInt8), a[i]? = some b → T ++ a.take i ++ [b] = T ++ a.take (i + 1) := fun T a i b h => by rw [List.take_add_one, h, List.append_assoc]; rfl
  have m20 : 4 + 2 ≤ maxStr := m0 _ (by omega)
  have m21 : 4 + 2 + 1 ≤ maxStr := m0 _ (by omega)
  have m22 : 4 + 2 + 1 + 1 ≤ maxStr := m0 _ (by omega)
  have m23 : 6 ≤ maxStr := m0 _ (by omega)
  have m24 : 7 ≤ maxStr := m0 _ (by omega)
  have m25 : 8 ≤ maxStr := m0 _ (by omega)
  have m26 : 6 + 1 ≤ maxStr := m0 _ (by omega)
  have m27 : 6 + 1 + 1 ≤ maxStr := m0 _ (by omega)
  have hBL : (exB ex pt [] ++ da).length = szE ex + da.length := by simp only [List.length_append, hXl]
  have b6 := ev_p42 hS n (x := ((szE ex + da.length : Nat) : Int)) (by omega) (by omega)
  simp only [Int.toNat_natCast] at b5 b6
  simp only [go_sem, ↓reduceIte, reduceCtorEq, upd_ne, back_new (no_at), Nat.reduceAdd, Nat.reduceEqDiff, Nat.reduceMul, Nat.reduceSub, Nat.reduceLeDiff, Nat.reduceLT, Int.reduceToNat, Int.reduceLE, Int.reduceLT, Int.reduceEq, UInt8.reduceOfNat, List.getElem?_map, Int.toNat_natCast, ↓e_sadd, w4, b4, b5, b6, c3, hg0, hfr, hto, hl, hBL, m20, m21, m22, m23, m24, m25, m26, m27, List.length_append, Int.toNat_natCast]
  generalize hT : beB 4 (1610612736 + cl * 1048576 + fl) ++ beB 2 (szE ex + da.length) ++ beB 1 (nxE ex pt).toNat ++ beB 1 ho.toNat = T
  have hTl : T.length = 8 := by rw [← hT]; simp only [List.length_append, hl]
  refine while_rule (fun k q => ∃ i : Nat, q = ([.str (T ++ fr.take i), .int .i64 (i : Int)], upd noSlots 5 (.tag 1 (ex.length + 1) 1)) ∧ i + k = 16) 16 ⟨0, by simp, by omega⟩ ?_
  rintro k q ⟨i, rfl, hi⟩
  simp only [go_sem, ↓reduceIte, reduceCtorEq, upd_ne, back_new (no_at), Nat.reduceAdd, Nat.reduceEqDiff, Nat.reduceMul, Nat.reduceSub, Nat.reduceLeDiff, Nat.reduceLT, Int.reduceToNat, Int.reduceLE, Int.reduceLT, Int.reduceEq, UInt8.reduceOfNat, hfr, hto]
  refine nxt_ite (fun h => ?_) (fun h => ?_)
  · have hlt : i < fr.length := by omega
    obtain ⟨b, hb⟩ : ∃ b, fr[i]? = some b := ⟨fr[i], by simp [hlt]⟩
    have e1 : IntKind.i64.wrap ((i : Int) + 1) = ((i + 1 : Nat) : Int) := by rw [wrap_id (by omega) (by omega)]; omega
    have i2 : i < 16 := by omega
    have m1 : 8 + min i 16 + 1 ≤ maxStr := m0 _ (by omega)
    have m2 : 8 + min i 16 + (0 + 1) ≤ maxStr := m0 _ (by omega)
    simp only [go_sem, ↓reduceIte, reduceCtorEq, upd_ne, back_new (no_at), Nat.reduceAdd, Nat.reduceEqDiff, Nat.reduceMul, Nat.reduceSub, Nat.reduceLeDiff, Nat.reduceLT, Int.reduceToNat, Int.reduceLE, Int.reduceLT, Int.reduceEq, UInt8.reduceOfNat, List.getElem?_map, Int.toNat_natCast, ↓e_sadd, hfr, hto, hb, i2, e1, byteLV, u8_lt, UInt8.ofNat_toNat, hTl, m1, m2, List.length_append, List.length_take, adr T fr i b hb]
    exact ⟨k - 1, by omega, i + 1, rfl, by omega⟩
  obtain rfl : i = 16 := by omega
  rw [List.take_of_length_le (by omega)]
  simp only [go_sem, ↓reduceIte, reduceCtorEq, upd_ne, back_new (no_at), Nat.reduceAdd, Nat.reduceEqDiff, Nat.reduceMul, Nat.reduceSub, Nat.reduceLeDiff, Nat.reduceLT, Int.reduceToNat, Int.reduceLE, Int.reduceLT, Int.reduceEq, UInt8.reduceOfNat, hfr, hto, Nxt, exIf]
  refine while_rule (fun k q => ∃ i : Nat, q = ([.str (T ++ fr ++ to.take i), .int .i64 (i : Int)], upd noSlots 5 (.tag 1 (ex.length + 1) 1)) ∧ i + k = 16) 16 ⟨0, by simp, by omega⟩ ?_
  rintro k q ⟨i, rfl, hi⟩
  simp only [go_sem, ↓reduceIte, reduceCtorEq, upd_ne, back_new (no_at), Nat.reduceAdd, Nat.reduceEqDiff, Nat.reduceMul, Nat.reduceSub, Nat.reduceLeDiff, Nat.reduceLT, Int.reduceToNat, Int.reduceLE, Int.reduceLT, Int.reduceEq, UInt8.reduceOfNat, hfr, hto]
  refine nxt_ite (fun h => ?_) (fun h => ?_)
  · have hlt : i < to.length := by omega
    obtain ⟨b, hb⟩ : ∃ b, to[i]? = some b := ⟨to[i], by simp [hlt]⟩
    have e1 : IntKind.i64.wrap ((i : Int) + 1) = ((i + 1 : Nat) : Int) := by rw [wrap_id (by omega) (by omega)]; omega
    have i2 : i < 16 := by omega
    have m1 : 8 + 16 + min i 16 + 1 ≤ maxStr := m0 _ (by omega)
    have m2 : 8 + 16 + min i 16 + (0 + 1) ≤ maxStr := m0 _ (by omega)
    have m3 : 24 + min i 16 + 1 ≤ maxStr := m0 _ (by omega)
    simp only [go_sem, ↓reduceIte, reduceCtorEq, upd_ne, back_new (no_at), Nat.reduceAdd, Nat.reduceEqDiff, Nat.reduceMul, Nat.reduceSub, Nat.reduceLeDiff, Nat.reduceLT, Int.reduceToNat, Int.reduceLE, Int.reduceLT, Int.reduceEq, UInt8.reduceOfNat, List.getElem?_map, Int.toNat_natCast, ↓e_sadd, hfr, hto, hb, i2, e1, byteLV, u8_lt, UInt8.ofNat_toNat, hTl, m1, m2, m3, List.length_append, List.length_take, adr (T ++ fr) to i b hb]
    exact ⟨k - 1, by omega, i + 1, rfl, by omega⟩
  obtain rfl : i = 16 := by omega
  rw [List.take_of_length_le (by omega)]
  have m30 : 8 + 16 + 16 + (szE ex + da.length) ≤ maxStr := m0 _ (by omega)
  have m31 : 40 + (szE ex + da.length) ≤ maxStr := m0 _ (by omega)
  simp only [go_sem, ↓reduceIte, reduceCtorEq, upd_ne, back_new (no_at), Nat.reduceAdd, Nat.reduceEqDiff, Nat.reduceMul, Nat.reduceSub, Nat.reduceLeDiff, Nat.reduceLT, Int.reduceToNat, Int.reduceLE, Int.reduceLT, Int.reduceEq, UInt8.reduceOfNat, ↓e_sadd, hfr, hto, Nxt, exIf, hTl, hBL, m30, m31, List.length_append]
  rw [← hT, show exB ex pt da = exB ex pt [] ++ da from exB_app ex pt da, hBL]
  simp only [List.append_assoc]

theorem ev_rbytes6 {cl fl ho : Int} {fr to : List UInt8} {ex : List (Int × List UInt8)} {fg : Bool} {id at' : Int} {mo : Bool} {pt : Int} {da : List UInt8} (hf : FitIp6 cl fl ho fr to ex id at' pt da) (sm : SmE ex) (hdl : da.length ≤ 1000000) :
    S.ev (n + 3) id_interpreterref04_Bytes [ip6LV cl fl ho fr to (extsLV ex) fg id at' mo pt da] none = some (.tup [.str (by6R cl fl ho fr to ex fg id at' mo pt da), .int .i64 (why6 cl fl ho ex fg id at' mo pt da)], none) := by
  unfold by6R
  by_cases c : why6 cl fl ho ex fg id at' mo pt da = 0
  · rw [if_pos c, c]
    cases fg
    · exact ev_rbytes6_n hS n hf sm hdl c
    · cases mo
      · exact ev_rbytes6_tf hS n hf sm hdl c
      · exact ev_rbytes6_tt hS n hf sm hdl c
  · rw [if_neg c, Sys.step hS.h_interpreterref04_Bytes, F_interpreterref04_Bytes_eq]
    unfold F_interpreterref04_Bytes
    have hfr := hf.hfr
    have hto := hf.hto
    have hw := ev_Why6 hS n (cl := cl) (fl := fl) (ho := ho) (fr := fr) (to := to) (ex := ex) (fg := fg) (id := id) (at' := at') (mo := mo) (pt := pt) (da := da) hfr hto sm hdl
    (try simp only [guard_merge, or_merge, and_merge, or_pick, and_pick, guard_or, guard_and]); simp only [to_ob]
    simp only [go_sem, ↓reduceIte, reduceCtorEq, upd_ne, back_new (no_at), Nat.reduceAdd, Nat.reduceEqDiff, Nat.reduceMul, Nat.reduceSub, Nat.reduceLeDiff, Nat.reduceLT, Int.reduceToNat, Int.reduceLE, Int.reduceLT, Int.reduceEq, UInt8.reduceOfNat, hw, c, hfr, hto]
end
end Go.Ev

/- Layer 4: a packet's bytes, beside the document's. -/
namespace Go.Ev
set_option linter.unusedSimpArgs false
set_option linter.unusedVariables false
set_option maxRecDepth 10000
set_option maxHeartbeats 8000000
section
variable {S : Sys} (hS : Has S) (n : Nat)
include hS
theorem ev_Ip6Writes {vs : List LV} (h : fitVL [shpIp6] vs) : S.ev (n + 7) id_interpreterlaw04_Ip6Writes vs none = some (.bool true, none) := by
  obtain ⟨a, r, e, g1, q1⟩ := fit_cons h; clear h; subst e; obtain ⟨cl, fl, ho, fr, to, ex, fg, id, at', mo, pt, da, rfl, hf⟩ := fit_ip6 g1; clear g1
  obtain rfl := fit_nil q1
  rw [Sys.step hS.h_interpreterlaw04_Ip6Writes, F_interpreterlaw04_Ip6Writes_eq]
  unfold F_interpreterlaw04_Ip6Writes
  have ha := ev_awake4 hS n
  have hfr := hf.hfr
  have hto := hf.hto
  have hex := hf.hex
  have h0 := ev_Great hS (n + 5) (fg := fg) (mo := mo) hf
  have h1 := ev_bytes6 hS (n + 2) (fg := fg) (mo := mo) hf
  have hr1 := ev_routed hS (n + 5) ex (by omega)
  have hr2 := ev_rrouted hS (n + 5) ex (by omega)
  have hsm := ev_same4 hS (n + 5) (why6 cl fl ho ex fg id at' mo pt da) (why6 cl fl ho ex fg id at' mo pt da)
  rw [decide_eq_true rfl] at hsm
  (try simp only [guard_merge, or_merge, and_merge, or_pick, and_pick, guard_or, guard_and]); simp only [to_ob]
  cases hg : greatS ex da with
  | true =>
    rw [hg] at h0
    simp only [go_sem, ↓reduceIte, reduceCtorEq, upd_ne, back_new (no_at), Nat.reduceAdd, Nat.reduceEqDiff, Nat.reduceMul, Nat.reduceSub, Nat.reduceLeDiff, Nat.reduceLT, Int.reduceToNat, Int.reduceLE, Int.reduceLT, Int.reduceEq, UInt8.reduceOfNat, ha, h0, hfr, hto]
  | false =>
    rw [hg] at h0
    obtain ⟨sm1, sm2, sm3⟩ := not_great hg
    have h2 := ev_rbytes6 hS (n + 3) (fg := fg) (mo := mo) hf sm1 (by omega)
    simp only [go_sem, ↓reduceIte, reduceCtorEq, upd_ne, back_new (no_at), Nat.reduceAdd, Nat.reduceEqDiff, Nat.reduceMul, Nat.reduceSub, Nat.reduceLeDiff, Nat.reduceLT, Int.reduceToNat, Int.reduceLE, Int.reduceLT, Int.reduceEq, UInt8.reduceOfNat, ha, h0, hfr, hto, h1, h2, hsm, hr1, hr2, beq_self_eq_true]
    try rfl
end
end Go.Ev
