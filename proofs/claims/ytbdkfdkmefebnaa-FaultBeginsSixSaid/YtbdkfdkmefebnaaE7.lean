/- Part 7 of a proof: what the functions yield. It stands by itself; no condition. -/
import Derived.Test.YtbdkfdkmefebnaaE6
namespace Go.Ev
set_option linter.unusedSimpArgs false
set_option linter.unusedVariables false
set_option maxRecDepth 4000
set_option maxHeartbeats 4000000
section
variable {S : Sys} (hS : Has S) (n : Nat)
include hS
theorem ev_rbytes3_ff {tos id ttl pt at' : Int} {fr to op da : List UInt8} (hf : FitIp4 tos id ttl pt at' fr to op da) (hd : da.length ≤ 400000) :
    S.ev (n + 3) id_interpreterref03_Bytes [ip4LV tos id ttl pt at' false false fr to op da] none = some (.tup [.str (by4R tos id ttl pt at' false false fr to op da), .int .i64 (why4 tos id ttl pt at' false op da)], none) := by
  rw [Sys.step hS.h_interpreterref03_Bytes, F_interpreterref03_Bytes_eq]
  unfold F_interpreterref03_Bytes
  have hfr := hf.hfr
  have hto := hf.hto
  have hw := ev_Why3 hS (n) (tos := tos) (id := id) (ttl := ttl) (pt := pt) (at' := at') (df := false) (mo := false) hfr hto hf.hop hf.hda
  (try simp only [guard_merge, or_merge, and_merge, or_pick, and_pick, guard_or, guard_and]); simp only [to_ob]
  unfold by4R
  by_cases c : why4 tos id ttl pt at' false op da = 0
  · have ok := why4_zero.1 c
    obtain ⟨o1, o2, o3, o4, o5, o6, o7, o8, o9, o10⟩ := ok
    rw [c] at hw
    obtain ⟨tos, rfl⟩ := Int.eq_ofNat_of_zero_le o1.1
    obtain ⟨ttl, rfl⟩ := Int.eq_ofNat_of_zero_le o2.1
    obtain ⟨pt, rfl⟩ := Int.eq_ofNat_of_zero_le o3.1
    obtain ⟨id, rfl⟩ := Int.eq_ofNat_of_zero_le o4.1
    obtain ⟨at', rfl⟩ := Int.eq_ofNat_of_zero_le o5.1
    have e1 : IntKind.i64.wrap (Int.tdiv (at' : Int) 8) = ((at' / 8 : Nat) : Int) := by
      rw [show Int.tdiv (at' : Int) 8 = ((at' / 8 : Nat) : Int) from rfl, wrap_id (by omega) (by omega)]
    have e2 : IntKind.i64.wrap (20 + (op.length : Int)) = ((20 + op.length : Nat) : Int) := by rw [wrap_id (by omega) (by omega)]; omega
    have e3 : IntKind.i64.wrap (Int.tdiv ((20 + op.length : Nat) : Int) 4) = (((20 + op.length) / 4 : Nat) : Int) := by
      rw [show Int.tdiv ((20 + op.length : Nat) : Int) 4 = (((20 + op.length) / 4 : Nat) : Int) from rfl, wrap_id (by omega) (by omega)]
    have e4 : IntKind.i64.wrap (64 + (((20 + op.length) / 4 : Nat) : Int)) = ((64 + (20 + op.length) / 4 : Nat) : Int) := by rw [wrap_id (by omega) (by omega)]; omega
    have e5 : IntKind.i64.wrap (((20 + op.length : Nat) : Int) + (da.length : Int)) = ((20 + op.length + da.length : Nat) : Int) := by rw [wrap_id (by omega) (by omega)]; omega
    have d1 := div256 (x := 20 + op.length + da.length) (by omega)
    have d2 := div256 (x := id) (by omega)
    have f1 : IntKind.i64.wrap (((at' / 8 : Nat) : Int) + 8192) = ((at' / 8 + 8192 : Nat) : Int) := by rw [wrap_id (by omega) (by omega)]; omega
    have f2 : IntKind.i64.wrap (((at' / 8 : Nat) : Int) + 16384) = ((at' / 8 + 16384 : Nat) : Int) := by rw [wrap_id (by omega) (by omega)]; omega
    have f3 : IntKind.i64.wrap (((at' / 8 + 8192 : Nat) : Int) + 16384) = ((at' / 8 + 8192 + 16384 : Nat) : Int) := by rw [wrap_id (by omega) (by omega)]; omega
    have d3 := div256 (x := at' / 8) (by omega)
    have d4 := div256 (x := at' / 8 + 8192) (by omega)
    have d5 := div256 (x := at' / 8 + 16384) (by omega)
    have d6 := div256 (x := at' / 8 + 8192 + 16384) (by omega)
    have hx := sumS_le (hd4 tos id ttl pt at' false false op da ++ (fr ++ (to ++ op)))
    have hx : 0 ≤ x4 tos id ttl pt at' false false fr to op da ∧ x4 tos id ttl pt at' false false fr to op da ≤ 65535 := hx
    have hat4 : at4 at' false false = at' / 8 := by unfold at4; rw [Int.toNat_natCast, if_neg Bool.false_ne_true, if_neg Bool.false_ne_true]; omega
    obtain ⟨A, hAA⟩ : ∃ A, A = at' / 8 := ⟨_, rfl⟩
    rw [← hAA] at hat4
    simp only [← hAA] at e1 f1 f2 f3 d3 d4 d5 d6
    simp only [go_sem, ↓reduceIte, reduceCtorEq, upd_ne, back_new (no_at), Nat.reduceAdd, Nat.reduceEqDiff, Nat.reduceMul, Nat.reduceSub, Nat.reduceLeDiff, Nat.reduceLT, Int.reduceToNat, Int.reduceLE, Int.reduceLT, Int.reduceEq, UInt8.reduceOfNat, hw, c, hfr, hto, e1, e2, e3, e4, e5, f1, f2, f3, d1, d2, d3, mod256, u8w, u8_ofNat_mod, e_cBslM, u8_lt, UInt8.ofNat_toNat, cBytes_eq]
    generalize hH : ([UInt8.ofNat (64 + (20 + op.length) / 4), UInt8.ofNat tos, UInt8.ofNat ((20 + op.length + da.length) / 256), UInt8.ofNat (20 + op.length + da.length), UInt8.ofNat (id / 256), UInt8.ofNat id, UInt8.ofNat (A / 256), UInt8.ofNat A, UInt8.ofNat ttl, UInt8.ofNat pt, 0, 0] : List UInt8) = H
    have hHl : H.length = 12 := by rw [← hH]; rfl
    refine while_rule (fun k q => ∃ i : Nat, i + k = 4 ∧ q = ([.arr 70 (1 + i) [] 0 0 (12 + i), .int .i64 (i : Int)], upd noSlots 70 (.obj (1 + i) (.bytes (H ++ fr.take i))))) 4 ⟨0, rfl, by simp⟩ ?_
    rintro k q ⟨i, hi, rfl⟩
    simp only [go_sem, ↓reduceIte, reduceCtorEq, upd_ne, back_new (no_at), Nat.reduceAdd, Nat.reduceEqDiff, Nat.reduceMul, Nat.reduceSub, Nat.reduceLeDiff, Nat.reduceLT, Int.reduceToNat, Int.reduceLE, Int.reduceLT, Int.reduceEq, UInt8.reduceOfNat]
    refine nxt_ite (fun h => ?_) (fun h => ?_)
    · have hlt : i < fr.length := by omega
      obtain ⟨b, hb⟩ : ∃ b, fr[i]? = some b := ⟨fr[i], by simp [hlt]⟩
      have htk : fr.take (i + 1) = fr.take i ++ [b] := by rw [List.take_add_one, hb]; rfl
      have hlen : (H ++ fr.take i).length = 12 + i := by rw [List.length_append, List.length_take]; omega
      have hA := wApp_arr (d := 81) (t := 70) (g := 1 + i) (sl := noSlots) (b := H ++ fr.take i) (s := [b]) (by simp; omega)
      rw [hlen] at hA
      simp only [List.map_cons, List.map_nil, byteLV, List.length_cons, List.length_nil] at hA
      have i1 : IntKind.i64.wrap ((i : Int) + 1) = ((i + 1 : Nat) : Int) := by rw [wrap_id (by omega) (by omega)]; omega
      have i2 : i < 4 := by omega
      simp only [go_sem, ↓reduceIte, reduceCtorEq, upd_ne, back_new (no_at), Nat.reduceAdd, Nat.reduceEqDiff, Nat.reduceMul, Nat.reduceSub, Nat.reduceLeDiff, Nat.reduceLT, Int.reduceToNat, Int.reduceLE, Int.reduceLT, Int.reduceEq, UInt8.reduceOfNat, List.getElem?_map, Int.toNat_natCast, hfr, hb, byteLV, hA, i1, i2]
      refine ⟨k - 1, by omega, i + 1, by omega, ?_⟩
      rw [htk, ← List.append_assoc, show 1 + (i + 1) = 1 + i + 1 by omega, show 12 + (i + 1) = 12 + i + 1 by omega]
    · obtain rfl : i = 4 := by omega
      have hf4 : fr.take 4 = fr := List.take_of_length_le (by omega)
      rw [hf4]
      simp only [go_sem, ↓reduceIte, reduceCtorEq, upd_ne, back_new (no_at), Nat.reduceAdd, Nat.reduceEqDiff, Nat.reduceMul, Nat.reduceSub, Nat.reduceLeDiff, Nat.reduceLT, Int.reduceToNat, Int.reduceLE, Int.reduceLT, Int.reduceEq, UInt8.reduceOfNat, Nxt, exIf]
      refine while_rule (fun k q => ∃ i : Nat, i + k = 4 ∧ q = ([.arr 70 (5 + i) [] 0 0 (16 + i), .int .i64 (i : Int)], upd noSlots 70 (.obj (5 + i) (.bytes (H ++ fr ++ to.take i))))) 4 ⟨0, rfl, by simp⟩ ?_
      rintro k q ⟨i, hi, rfl⟩
      simp only [go_sem, ↓reduceIte, reduceCtorEq, upd_ne, back_new (no_at), Nat.reduceAdd, Nat.reduceEqDiff, Nat.reduceMul, Nat.reduceSub, Nat.reduceLeDiff, Nat.reduceLT, Int.reduceToNat, Int.reduceLE, Int.reduceLT, Int.reduceEq, UInt8.reduceOfNat]
      refine nxt_ite (fun h => ?_) (fun h => ?_)
      · have hlt : i < to.length := by omega
        obtain ⟨b, hb⟩ : ∃ b, to[i]? = some b := ⟨to[i], by simp [hlt]⟩
        have htk : to.take (i + 1) = to.take i ++ [b] := by rw [List.take_add_one, hb]; rfl
        have hlen : (H ++ fr ++ to.take i).length = 16 + i := by rw [List.length_append, List.length_append, List.length_take]; omega
        have hA := wApp_arr (d := 92) (t := 70) (g := 5 + i) (sl := noSlots) (b := H ++ fr ++ to.take i) (s := [b]) (by rw [hlen]; simp; omega)
        rw [hlen] at hA
        simp only [List.map_cons, List.map_nil, byteLV, List.length_cons, List.length_nil] at hA
        have i1 : IntKind.i64.wrap ((i : Int) + 1) = ((i + 1 : Nat) : Int) := by rw [wrap_id (by omega) (by omega)]; omega
        have i2 : i < 4 := by omega
        simp only [go_sem, ↓reduceIte, reduceCtorEq, upd_ne, back_new (no_at), Nat.reduceAdd, Nat.reduceEqDiff, Nat.reduceMul, Nat.reduceSub, Nat.reduceLeDiff, Nat.reduceLT, Int.reduceToNat, Int.reduceLE, Int.reduceLT, Int.reduceEq, UInt8.reduceOfNat, List.getElem?_map, Int.toNat_natCast, hto, hb, byteLV, hA, i1, i2]
        refine ⟨k - 1, by omega, i + 1, by omega, ?_⟩
        rw [htk, ← List.append_assoc, show 5 + (i + 1) = 5 + i + 1 by omega, show 16 + (i + 1) = 16 + i + 1 by omega]
      · obtain rfl : i = 4 := by omega
        have ht4 : to.take 4 = to := List.take_of_length_le (by omega)
        rw [ht4]
        have hHf : (H ++ fr ++ to).length = 20 := by simp; omega
        have hB := wApp_str (d := 96) (t := 70) (g := 9) (sl := noSlots) (b := H ++ fr ++ to) (s := op) (by omega)
        rw [hHf] at hB
        simp only [go_sem, ↓reduceIte, reduceCtorEq, upd_ne, back_new (no_at), Nat.reduceAdd, Nat.reduceEqDiff, Nat.reduceMul, Nat.reduceSub, Nat.reduceLeDiff, Nat.reduceLT, Int.reduceToNat, Int.reduceLE, Int.reduceLT, Int.reduceEq, UInt8.reduceOfNat, Nxt, exIf, hB]
        obtain ⟨z, hz⟩ := Int.eq_ofNat_of_zero_le hx.1
        have hL : (H ++ fr ++ to ++ op).length = 20 + op.length := by rw [List.length_append]; omega
        have hsum : sumAt 0 (H ++ fr ++ to ++ op) = sumAt 0 (hd4 tos id ttl pt at' false false op da ++ (fr ++ (to ++ op))) := by
          rw [← hH, show hd4 tos id ttl pt at' false false op da = [UInt8.ofNat (64 + (20 + op.length) / 4), UInt8.ofNat tos, UInt8.ofNat ((20 + op.length + da.length) / 256), UInt8.ofNat (20 + op.length + da.length), UInt8.ofNat (id / 256), UInt8.ofNat id, UInt8.ofNat (A / 256), UInt8.ofNat A, UInt8.ofNat ttl, UInt8.ofNat pt] by unfold hd4; rw [hat4]; simp only [beB1, beB2, Int.toNat_natCast, List.cons_append, List.nil_append]]
          have hsz := sum_zeros (h := [UInt8.ofNat (64 + (20 + op.length) / 4), UInt8.ofNat tos, UInt8.ofNat ((20 + op.length + da.length) / 256), UInt8.ofNat (20 + op.length + da.length), UInt8.ofNat (id / 256), UInt8.ofNat id, UInt8.ofNat (A / 256), UInt8.ofNat A, UInt8.ofNat ttl, UInt8.ofNat pt]) (r := fr ++ (to ++ op)) (by simp only [List.length_cons, List.length_nil])
          simp only [List.cons_append, List.nil_append, List.append_assoc] at hsz ⊢
          exact hsz
        have ho := ev_rOf hS n (H ++ fr ++ to ++ op) (by omega)
        have ho : S.ev (n + 2) id_interpreterref02_Of [.str (H ++ fr ++ to ++ op)] none = some (.int .i64 (z : Int), none) := by
          rw [ho, hsum, ← hz]; unfold x4 sumS; exact rfl
        have hby : by4 tos id ttl pt at' false false fr to op da = ((H ++ fr ++ to ++ op).set 10 (UInt8.ofNat (z / 256))).set 11 (UInt8.ofNat z) ++ da := by
          unfold by4
          rw [hz, ← hH, show hd4 tos id ttl pt at' false false op da = [UInt8.ofNat (64 + (20 + op.length) / 4), UInt8.ofNat tos, UInt8.ofNat ((20 + op.length + da.length) / 256), UInt8.ofNat (20 + op.length + da.length), UInt8.ofNat (id / 256), UInt8.ofNat id, UInt8.ofNat (A / 256), UInt8.ofNat A, UInt8.ofNat ttl, UInt8.ofNat pt] by unfold hd4; rw [hat4]; simp only [beB1, beB2, Int.toNat_natCast, List.cons_append, List.nil_append]]
          simp only [beB2, Int.toNat_natCast, List.cons_append, List.nil_append, List.append_assoc, List.set_cons_succ, List.set_cons_zero]
        have d7 := div256 (x := z) (by omega)
        rw [hby]
        generalize H ++ fr ++ to ++ op = B at *
        have g10 : B[10]? = some B[10] := List.getElem?_eq_getElem (by omega)
        have g11 : (B.set 10 (UInt8.ofNat (z / 256)))[11]? = some B[11] := by rw [List.getElem?_set_ne (by omega)]; exact List.getElem?_eq_getElem (by omega)
        generalize B[10] = b10 at *
        generalize B[11] = b11 at *
        have l1 : 10 < 20 + op.length := by omega
        have l2 : 11 < 20 + op.length := by omega
        have l3 : (((B.set 10 (UInt8.ofNat (z / 256))).set 11 (UInt8.ofNat z))).take (20 + op.length) = (B.set 10 (UInt8.ofNat (z / 256))).set 11 (UInt8.ofNat z) := List.take_of_length_le (by simp; omega)
        have l4 : B.take (20 + op.length) = B := List.take_of_length_le (by omega)
        have l5 : 20 + op.length + da.length ≤ maxStr := by unfold maxStr; omega
        simp only [go_sem, ↓reduceIte, reduceCtorEq, upd_ne, back_new (no_at), Nat.reduceAdd, Nat.reduceEqDiff, Nat.reduceMul, Nat.reduceSub, Nat.reduceLeDiff, Nat.reduceLT, Int.reduceToNat, Int.reduceLE, Int.reduceLT, Int.reduceEq, UInt8.reduceOfNat, List.getElem?_map, Int.toNat_natCast, ho, hL, g10, g11, l1, l2, l3, l4, l5, byteLV, d7, mod256, u8w, u8_ofNat_mod, u8_lt, UInt8.ofNat_toNat, Nat.le_refl]
  · simp only [go_sem, ↓reduceIte, reduceCtorEq, upd_ne, back_new (no_at), Nat.reduceAdd, Nat.reduceEqDiff, Nat.reduceMul, Nat.reduceSub, Nat.reduceLeDiff, Nat.reduceLT, Int.reduceToNat, Int.reduceLE, Int.reduceLT, Int.reduceEq, UInt8.reduceOfNat, hw, c, hfr, hto]
theorem ev_rbytes3_ft {tos id ttl pt at' : Int} {fr to op da : List UInt8} (hf : FitIp4 tos id ttl pt at' fr to op da) (hd : da.length ≤ 400000) :
    S.ev (n + 3) id_interpreterref03_Bytes [ip4LV tos id ttl pt at' false true fr to op da] none = some (.tup [.str (by4R tos id ttl pt at' false true fr to op da), .int .i64 (why4 tos id ttl pt at' true op da)], none) := by
  rw [Sys.step hS.h_interpreterref03_Bytes, F_interpreterref03_Bytes_eq]
  unfold F_interpreterref03_Bytes
  have hfr := hf.hfr
  have hto := hf.hto
  have hw := ev_Why3 hS (n) (tos := tos) (id := id) (ttl := ttl) (pt := pt) (at' := at') (df := false) (mo := true) hfr hto hf.hop hf.hda
  (try simp only [guard_merge, or_merge, and_merge, or_pick, and_pick, guard_or, guard_and]); simp only [to_ob]
  unfold by4R
  by_cases c : why4 tos id ttl pt at' true op da = 0
  · have ok := why4_zero.1 c
    obtain ⟨o1, o2, o3, o4, o5, o6, o7, o8, o9, o10⟩ := ok
    rw [c] at hw
    obtain ⟨tos, rfl⟩ := Int.eq_ofNat_of_zero_le o1.1
    obtain ⟨ttl, rfl⟩ := Int.eq_ofNat_of_zero_le o2.1
    obtain ⟨pt, rfl⟩ := Int.eq_ofNat_of_zero_le o3.1
    obtain ⟨id, rfl⟩ := Int.eq_ofNat_of_zero_le o4.1
    obtain ⟨at', rfl⟩ := Int.eq_ofNat_of_zero_le o5.1
    have e1 : IntKind.i64.wrap (Int.tdiv (at' : Int) 8) = ((at' / 8 : Nat) : Int) := by
      rw [show Int.tdiv (at' : Int) 8 = ((at' / 8 : Nat) : Int) from rfl, wrap_id (by omega) (by omega)]
    have e2 : IntKind.i64.wrap (20 + (op.length : Int)) = ((20 + op.length : Nat) : Int) := by rw [wrap_id (by omega) (by omega)]; omega
    have e3 : IntKind.i64.wrap (Int.tdiv ((20 + op.length : Nat) : Int) 4) = (((20 + op.length) / 4 : Nat) : Int) := by
      rw [show Int.tdiv ((20 + op.length : Nat) : Int) 4 = (((20 + op.length) / 4 : Nat) : Int) from rfl, wrap_id (by omega) (by omega)]
    have e4 : IntKind.i64.wrap (64 + (((20 + op.length) / 4 : Nat) : Int)) = ((64 + (20 + op.length) / 4 : Nat) : Int) := by rw [wrap_id (by omega) (by omega)]; omega
    have e5 : IntKind.i64.wrap (((20 + op.length : Nat) : Int) + (da.length : Int)) = ((20 + op.length + da.length : Nat) : Int) := by rw [wrap_id (by omega) (by omega)]; omega
    have d1 := div256 (x := 20 + op.length + da.length) (by omega)
    have d2 := div256 (x := id) (by omega)
    have f1 : IntKind.i64.wrap (((at' / 8 : Nat) : Int) + 8192) = ((at' / 8 + 8192 : Nat) : Int) := by rw [wrap_id (by omega) (by omega)]; omega
    have f2 : IntKind.i64.wrap (((at' / 8 : Nat) : Int) + 16384) = ((at' / 8 + 16384 : Nat) : Int) := by rw [wrap_id (by omega) (by omega)]; omega
    have f3 : IntKind.i64.wrap (((at' / 8 + 8192 : Nat) : Int) + 16384) = ((at' / 8 + 8192 + 16384 : Nat) : Int) := by rw [wrap_id (by omega) (by omega)]; omega
    have d3 := div256 (x := at' / 8) (by omega)
    have d4 := div256 (x := at' / 8 + 8192) (by omega)
    have d5 := div256 (x := at' / 8 + 16384) (by omega)
    have d6 := div256 (x := at' / 8 + 8192 + 16384) (by omega)
    have hx := sumS_le (hd4 tos id ttl pt at' false true op da ++ (fr ++ (to ++ op)))
    have hx : 0 ≤ x4 tos id ttl pt at' false true fr to op da ∧ x4 tos id ttl pt at' false true fr to op da ≤ 65535 := hx
    have hat4 : at4 at' false true = at' / 8 + 8192 := by unfold at4; rw [Int.toNat_natCast, if_neg Bool.false_ne_true, if_pos rfl]
    obtain ⟨A, hAA⟩ : ∃ A, A = at' / 8 + 8192 := ⟨_, rfl⟩
    rw [← hAA] at hat4
    simp only [← hAA] at e1 f1 f2 f3 d3 d4 d5 d6
    simp only [go_sem, ↓reduceIte, reduceCtorEq, upd_ne, back_new (no_at), Nat.reduceAdd, Nat.reduceEqDiff, Nat.reduceMul, Nat.reduceSub, Nat.reduceLeDiff, Nat.reduceLT, Int.reduceToNat, Int.reduceLE, Int.reduceLT, Int.reduceEq, UInt8.reduceOfNat, hw, c, hfr, hto, e1, e2, e3, e4, e5, f1, f2, f3, d1, d2, d4, mod256, u8w, u8_ofNat_mod, e_cBslM, u8_lt, UInt8.ofNat_toNat, cBytes_eq]
    generalize hH : ([UInt8.ofNat (64 + (20 + op.length) / 4), UInt8.ofNat tos, UInt8.ofNat ((20 + op.length + da.length) / 256), UInt8.ofNat (20 + op.length + da.length), UInt8.ofNat (id / 256), UInt8.ofNat id, UInt8.ofNat (A / 256), UInt8.ofNat A, UInt8.ofNat ttl, UInt8.ofNat pt, 0, 0] : List UInt8) = H
    have hHl : H.length = 12 := by rw [← hH]; rfl
    refine while_rule (fun k q => ∃ i : Nat, i + k = 4 ∧ q = ([.arr 70 (1 + i) [] 0 0 (12 + i), .int .i64 (i : Int)], upd noSlots 70 (.obj (1 + i) (.bytes (H ++ fr.take i))))) 4 ⟨0, rfl, by simp⟩ ?_
    rintro k q ⟨i, hi, rfl⟩
    simp only [go_sem, ↓reduceIte, reduceCtorEq, upd_ne, back_new (no_at), Nat.reduceAdd, Nat.reduceEqDiff, Nat.reduceMul, Nat.reduceSub, Nat.reduceLeDiff, Nat.reduceLT, Int.reduceToNat, Int.reduceLE, Int.reduceLT, Int.reduceEq, UInt8.reduceOfNat]
    refine nxt_ite (fun h => ?_) (fun h => ?_)
    · have hlt : i < fr.length := by omega
      obtain ⟨b, hb⟩ : ∃ b, fr[i]? = some b := ⟨fr[i], by simp [hlt]⟩
      have htk : fr.take (i + 1) = fr.take i ++ [b] := by rw [List.take_add_one, hb]; rfl
      have hlen : (H ++ fr.take i).length = 12 + i := by rw [List.length_append, List.length_take]; omega
      have hA := wApp_arr (d := 81) (t := 70) (g := 1 + i) (sl := noSlots) (b := H ++ fr.take i) (s := [b]) (by simp; omega)
      rw [hlen] at hA
      simp only [List.map_cons, List.map_nil, byteLV, List.length_cons, List.length_nil] at hA
      have i1 : IntKind.i64.wrap ((i : Int) + 1) = ((i + 1 : Nat) : Int) := by rw [wrap_id (by omega) (by omega)]; omega
      have i2 : i < 4 := by omega
      simp only [go_sem, ↓reduceIte, reduceCtorEq, upd_ne, back_new (no_at), Nat.reduceAdd, Nat.reduceEqDiff, Nat.reduceMul, Nat.reduceSub, Nat.reduceLeDiff, Nat.reduceLT, Int.reduceToNat, Int.reduceLE, Int.reduceLT, Int.reduceEq, UInt8.reduceOfNat, List.getElem?_map, Int.toNat_natCast, hfr, hb, byteLV, hA, i1, i2]
      refine ⟨k - 1, by omega, i + 1, by omega, ?_⟩
      rw [htk, ← List.append_assoc, show 1 + (i + 1) = 1 + i + 1 by omega, show 12 + (i + 1) = 12 + i + 1 by omega]
    · obtain rfl : i = 4 := by omega
      have hf4 : fr.take 4 = fr := List.take_of_length_le (by omega)
      rw [hf4]
      simp only [go_sem, ↓reduceIte, reduceCtorEq, upd_ne, back_new (no_at), Nat.reduceAdd, Nat.reduceEqDiff, Nat.reduceMul, Nat.reduceSub, Nat.reduceLeDiff, Nat.reduceLT, Int.reduceToNat, Int.reduceLE, Int.reduceLT, Int.reduceEq, UInt8.reduceOfNat, Nxt, exIf]
      refine while_rule (fun k q => ∃ i : Nat, i + k = 4 ∧ q = ([.arr 70 (5 + i) [] 0 0 (16 + i), .int .i64 (i : Int)], upd noSlots 70 (.obj (5 + i) (.bytes (H ++ fr ++ to.take i))))) 4 ⟨0, rfl, by simp⟩ ?_
      rintro k q ⟨i, hi, rfl⟩
      simp only [go_sem, ↓reduceIte, reduceCtorEq, upd_ne, back_new (no_at), Nat.reduceAdd, Nat.reduceEqDiff, Nat.reduceMul, Nat.reduceSub, Nat.reduceLeDiff, Nat.reduceLT, Int.reduceToNat, Int.reduceLE, Int.reduceLT, Int.reduceEq, UInt8.reduceOfNat]
      refine nxt_ite (fun h => ?_) (fun h => ?_)
      · have hlt : i < to.length := by omega
        obtain ⟨b, hb⟩ : ∃ b, to[i]? = some b := ⟨to[i], by simp [hlt]⟩
        have htk : to.take (i + 1) = to.take i ++ [b] := by rw [List.take_add_one, hb]; rfl
        have hlen : (H ++ fr ++ to.take i).length = 16 + i := by rw [List.length_append, List.length_append, List.length_take]; omega
        have hA := wApp_arr (d := 92) (t := 70) (g := 5 + i) (sl := noSlots) (b := H ++ fr ++ to.take i) (s := [b]) (by rw [hlen]; simp; omega)
        rw [hlen] at hA
        simp only [List.map_cons, List.map_nil, byteLV, List.length_cons, List.length_nil] at hA
        have i1 : IntKind.i64.wrap ((i : Int) + 1) = ((i + 1 : Nat) : Int) := by rw [wrap_id (by omega) (by omega)]; omega
        have i2 : i < 4 := by omega
        simp only [go_sem, ↓reduceIte, reduceCtorEq, upd_ne, back_new (no_at), Nat.reduceAdd, Nat.reduceEqDiff, Nat.reduceMul, Nat.reduceSub, Nat.reduceLeDiff, Nat.reduceLT, Int.reduceToNat, Int.reduceLE, Int.reduceLT, Int.reduceEq, UInt8.reduceOfNat, List.getElem?_map, Int.toNat_natCast, hto, hb, byteLV, hA, i1, i2]
        refine ⟨k - 1, by omega, i + 1, by omega, ?_⟩
        rw [htk, ← List.append_assoc, show 5 + (i + 1) = 5 + i + 1 by omega, show 16 + (i + 1) = 16 + i + 1 by omega]
      · obtain rfl : i = 4 := by omega
        have ht4 : to.take 4 = to := List.take_of_length_le (by omega)
        rw [ht4]
        have hHf : (H ++ fr ++ to).length = 20 := by simp; omega
        have hB := wApp_str (d := 96) (t := 70) (g := 9) (sl := noSlots) (b := H ++ fr ++ to) (s := op) (by omega)
        rw [hHf] at hB
        simp only [go_sem, ↓reduceIte, reduceCtorEq, upd_ne, back_new (no_at), Nat.reduceAdd, Nat.reduceEqDiff, Nat.reduceMul, Nat.reduceSub, Nat.reduceLeDiff, Nat.reduceLT, Int.reduceToNat, Int.reduceLE, Int.reduceLT, Int.reduceEq, UInt8.reduceOfNat, Nxt, exIf, hB]
        obtain ⟨z, hz⟩ := Int.eq_ofNat_of_zero_le hx.1
        have hL : (H ++ fr ++ to ++ op).length = 20 + op.length := by rw [List.length_append]; omega
        have hsum : sumAt 0 (H ++ fr ++ to ++ op) = sumAt 0 (hd4 tos id ttl pt at' false true op da ++ (fr ++ (to ++ op))) := by
          rw [← hH, show hd4 tos id ttl pt at' false true op da = [UInt8.ofNat (64 + (20 + op.length) / 4), UInt8.ofNat tos, UInt8.ofNat ((20 + op.length + da.length) / 256), UInt8.ofNat (20 + op.length + da.length), UInt8.ofNat (id / 256), UInt8.ofNat id, UInt8.ofNat (A / 256), UInt8.ofNat A, UInt8.ofNat ttl, UInt8.ofNat pt] by unfold hd4; rw [hat4]; simp only [beB1, beB2, Int.toNat_natCast, List.cons_append, List.nil_append]]
          have hsz := sum_zeros (h := [UInt8.ofNat (64 + (20 + op.length) / 4), UInt8.ofNat tos, UInt8.ofNat ((20 + op.length + da.length) / 256), UInt8.ofNat (20 + op.length + da.length), UInt8.ofNat (id / 256), UInt8.ofNat id, UInt8.ofNat (A / 256), UInt8.ofNat A, UInt8.ofNat ttl, UInt8.ofNat pt]) (r := fr ++ (to ++ op)) (by simp only [List.length_cons, List.length_nil])
          simp only [List.cons_append, List.nil_append, List.append_assoc] at hsz ⊢
          exact hsz
        have ho := ev_rOf hS n (H ++ fr ++ to ++ op) (by omega)
        have ho : S.ev (n + 2) id_interpreterref02_Of [.str (H ++ fr ++ to ++ op)] none = some (.int .i64 (z : Int), none) := by
          rw [ho, hsum, ← hz]; unfold x4 sumS; exact rfl
        have hby : by4 tos id ttl pt at' false true fr to op da = ((H ++ fr ++ to ++ op).set 10 (UInt8.ofNat (z / 256))).set 11 (UInt8.ofNat z) ++ da := by
          unfold by4
          rw [hz, ← hH, show hd4 tos id ttl pt at' false true op da = [UInt8.ofNat (64 + (20 + op.length) / 4), UInt8.ofNat tos, UInt8.ofNat ((20 + op.length + da.length) / 256), UInt8.ofNat (20 + op.length + da.length), UInt8.ofNat (id / 256), UInt8.ofNat id, UInt8.ofNat (A / 256), UInt8.ofNat A, UInt8.ofNat ttl, UInt8.ofNat pt] by unfold hd4; rw [hat4]; simp only [beB1, beB2, Int.toNat_natCast, List.cons_append, List.nil_append]]
          simp only [beB2, Int.toNat_natCast, List.cons_append, List.nil_append, List.append_assoc, List.set_cons_succ, List.set_cons_zero]
        have d7 := div256 (x := z) (by omega)
        rw [hby]
        generalize H ++ fr ++ to ++ op = B at *
        have g10 : B[10]? = some B[10] := List.getElem?_eq_getElem (by omega)
        have g11 : (B.set 10 (UInt8.ofNat (z / 256)))[11]? = some B[11] := by rw [List.getElem?_set_ne (by omega)]; exact List.getElem?_eq_getElem (by omega)
        generalize B[10] = b10 at *
        generalize B[11] = b11 at *
        have l1 : 10 < 20 + op.length := by omega
        have l2 : 11 < 20 + op.length := by omega
        have l3 : (((B.set 10 (UInt8.ofNat (z / 256))).set 11 (UInt8.ofNat z))).take (20 + op.length) = (B.set 10 (UInt8.ofNat (z / 256))).set 11 (UInt8.ofNat z) := List.take_of_length_le (by simp; omega)
        have l4 : B.take (20 + op.length) = B := List.take_of_length_le (by omega)
        have l5 : 20 + op.length + da.length ≤ maxStr := by unfold maxStr; omega
        simp only [go_sem, ↓reduceIte, reduceCtorEq, upd_ne, back_new (no_at), Nat.reduceAdd, Nat.reduceEqDiff, Nat.reduceMul, Nat.reduceSub, Nat.reduceLeDiff, Nat.reduceLT, Int.reduceToNat, Int.reduceLE, Int.reduceLT, Int.reduceEq, UInt8.reduceOfNat, List.getElem?_map, Int.toNat_natCast, ho, hL, g10, g11, l1, l2, l3, l4, l5, byteLV, d7, mod256, u8w, u8_ofNat_mod, u8_lt, UInt8.ofNat_toNat, Nat.le_refl]
  · simp only [go_sem, ↓reduceIte, reduceCtorEq, upd_ne, back_new (no_at), Nat.reduceAdd, Nat.reduceEqDiff, Nat.reduceMul, Nat.reduceSub, Nat.reduceLeDiff, Nat.reduceLT, Int.reduceToNat, Int.reduceLE, Int.reduceLT, Int.reduceEq, UInt8.reduceOfNat, hw, c, hfr, hto]
theorem ev_rbytes3_tf {tos id ttl pt at' : Int} {fr to op da : List UInt8} (hf : FitIp4 tos id ttl pt at' fr to op da) (hd : da.length ≤ 400000) :
    S.ev (n + 3) id_interpreterref03_Bytes [ip4LV tos id ttl pt at' true false fr to op da] none = some (.tup [.str (by4R tos id ttl pt at' true false fr to op da), .int .i64 (why4 tos id ttl pt at' false op da)], none) := by
  rw [Sys.step hS.h_interpreterref03_Bytes, F_interpreterref03_Bytes_eq]
  unfold F_interpreterref03_Bytes
  have hfr := hf.hfr
  have hto := hf.hto
  have hw := ev_Why3 hS (n) (tos := tos) (id := id) (ttl := ttl) (pt := pt) (at' := at') (df := true) (mo := false) hfr hto hf.hop hf.hda
  (try simp only [guard_merge, or_merge, and_merge, or_pick, and_pick, guard_or, guard_and]); simp only [to_ob]
  unfold by4R
  by_cases c : why4 tos id ttl pt at' false op da = 0
  · have ok := why4_zero.1 c
    obtain ⟨o1, o2, o3, o4, o5, o6, o7, o8, o9, o10⟩ := ok
    rw [c] at hw
    obtain ⟨tos, rfl⟩ := Int.eq_ofNat_of_zero_le o1.1
    obtain ⟨ttl, rfl⟩ := Int.eq_ofNat_of_zero_le o2.1
    obtain ⟨pt, rfl⟩ := Int.eq_ofNat_of_zero_le o3.1
    obtain ⟨id, rfl⟩ := Int.eq_ofNat_of_zero_le o4.1
    obtain ⟨at', rfl⟩ := Int.eq_ofNat_of_zero_le o5.1
    have e1 : IntKind.i64.wrap (Int.tdiv (at' : Int) 8) = ((at' / 8 : Nat) : Int) := by
      rw [show Int.tdiv (at' : Int) 8 = ((at' / 8 : Nat) : Int) from rfl, wrap_id (by omega) (by omega)]
    have e2 : IntKind.i64.wrap (20 + (op.length : Int)) = ((20 + op.length : Nat) : Int) := by rw [wrap_id (by omega) (by omega)]; omega
    have e3 : IntKind.i64.wrap (Int.tdiv ((20 + op.length : Nat) : Int) 4) = (((20 + op.length) / 4 : Nat) : Int) := by
      rw [show Int.tdiv ((20 + op.length : Nat) : Int) 4 = (((20 + op.length) / 4 : Nat) : Int) from rfl, wrap_id (by omega) (by omega)]
    have e4 : IntKind.i64.wrap (64 + (((20 + op.length) / 4 : Nat) : Int)) = ((64 + (20 + op.length) / 4 : Nat) : Int) := by rw [wrap_id (by omega) (by omega)]; omega
    have e5 : IntKind.i64.wrap (((20 + op.length : Nat) : Int) + (da.length : Int)) = ((20 + op.length + da.length : Nat) : Int) := by rw [wrap_id (by omega) (by omega)]; omega
    have d1 := div256 (x := 20 + op.length + da.length) (by omega)
    have d2 := div256 (x := id) (by omega)
    have f1 : IntKind.i64.wrap (((at' / 8 : Nat) : Int) + 8192) = ((at' / 8 + 8192 : Nat) : Int) := by rw [wrap_id (by omega) (by omega)]; omega
    have f2 : IntKind.i64.wrap (((at' / 8 : Nat) : Int) + 16384) = ((at' / 8 + 16384 : Nat) : Int) := by rw [wrap_id (by omega) (by omega)]; omega
    have f3 : IntKind.i64.wrap (((at' / 8 + 8192 : Nat) : Int) + 16384) = ((at' / 8 + 8192 + 16384 : Nat) : Int) := by rw [wrap_id (by omega) (by omega)]; omega
    have d3 := div256 (x := at' / 8) (by omega)
    have d4 := div256 (x := at' / 8 + 8192) (by omega)
    have d5 := div256 (x := at' / 8 + 16384) (by omega)
    have d6 := div256 (x := at' / 8 + 8192 + 16384) (by omega)
    have hx := sumS_le (hd4 tos id ttl pt at' true false op da ++ (fr ++ (to ++ op)))
    have hx : 0 ≤ x4 tos id ttl pt at' true false fr to op da ∧ x4 tos id ttl pt at' true false fr to op da ≤ 65535 := hx
    have hat4 : at4 at' true false = at' / 8 + 16384 := by unfold at4; rw [Int.toNat_natCast, if_pos rfl, if_neg Bool.false_ne_true]
    obtain ⟨A, hAA⟩ : ∃ A, A = at' / 8 + 16384 := ⟨_, rfl⟩
    rw [← hAA] at hat4
    simp only [← hAA] at e1 f1 f2 f3 d3 d4 d5 d6
    simp only [go_sem, ↓reduceIte, reduceCtorEq, upd_ne, back_new (no_at), Nat.reduceAdd, Nat.reduceEqDiff, Nat.reduceMul, Nat.reduceSub, Nat.reduceLeDiff, Nat.reduceLT, Int.reduceToNat, Int.reduceLE, Int.reduceLT, Int.reduceEq, UInt8.reduceOfNat, hw, c, hfr, hto, e1, e2, e3, e4, e5, f1, f2, f3, d1, d2, d5, mod256, u8w, u8_ofNat_mod, e_cBslM, u8_lt, UInt8.ofNat_toNat, cBytes_eq]
    generalize hH : ([UInt8.ofNat (64 + (20 + op.length) / 4), UInt8.ofNat tos, UInt8.ofNat ((20 + op.length + da.length) / 256), UInt8.ofNat (20 + op.length + da.length), UInt8.ofNat (id / 256), UInt8.ofNat id, UInt8.ofNat (A / 256), UInt8.ofNat A, UInt8.ofNat ttl, UInt8.ofNat pt, 0, 0] : List UInt8) = H
    have hHl : H.length = 12 := by rw [← hH]; rfl
    refine while_rule (fun k q => ∃ i : Nat, i + k = 4 ∧ q = ([.arr 70 (1 + i) [] 0 0 (12 + i), .int .i64 (i : Int)], upd noSlots 70 (.obj (1 + i) (.bytes (H ++ fr.take i))))) 4 ⟨0, rfl, by simp⟩ ?_
    rintro k q ⟨i, hi, rfl⟩
    simp only [go_sem, ↓reduceIte, reduceCtorEq, upd_ne, back_new (no_at), Nat.reduceAdd, Nat.reduceEqDiff, Nat.reduceMul, Nat.reduceSub, Nat.reduceLeDiff, Nat.reduceLT, Int.reduceToNat, Int.reduceLE, Int.reduceLT, Int.reduceEq, UInt8.reduceOfNat]
    refine nxt_ite (fun h => ?_) (fun h => ?_)
    · have hlt : i < fr.length := by omega
      obtain ⟨b, hb⟩ : ∃ b, fr[i]? = some b := ⟨fr[i], by simp [hlt]⟩
      have htk : fr.take (i + 1) = fr.take i ++ [b] := by rw [List.take_add_one, hb]; rfl
      have hlen : (H ++ fr.take i).length = 12 + i := by rw [List.length_append, List.length_take]; omega
      have hA := wApp_arr (d := 81) (t := 70) (g := 1 + i) (sl := noSlots) (b := H ++ fr.take i) (s := [b]) (by simp; omega)
      rw [hlen] at hA
      simp only [List.map_cons, List.map_nil, byteLV, List.length_cons, List.length_nil] at hA
      have i1 : IntKind.i64.wrap ((i : Int) + 1) = ((i + 1 : Nat) : Int) := by rw [wrap_id (by omega) (by omega)]; omega
      have i2 : i < 4 := by omega
      simp only [go_sem, ↓reduceIte, reduceCtorEq, upd_ne, back_new (no_at), Nat.reduceAdd, Nat.reduceEqDiff, Nat.reduceMul, Nat.reduceSub, Nat.reduceLeDiff, Nat.reduceLT, Int.reduceToNat, Int.reduceLE, Int.reduceLT, Int.reduceEq, UInt8.reduceOfNat, List.getElem?_map, Int.toNat_natCast, hfr, hb, byteLV, hA, i1, i2]
      refine ⟨k - 1, by omega, i + 1, by omega, ?_⟩
      rw [htk, ← List.append_assoc, show 1 + (i + 1) = 1 + i + 1 by omega, show 12 + (i + 1) = 12 + i + 1 by omega]
    · obtain rfl : i = 4 := by omega
      have hf4 : fr.take 4 = fr := List.take_of_length_le (by omega)
      rw [hf4]
      simp only [go_sem, ↓reduceIte, reduceCtorEq, upd_ne, back_new (no_at), Nat.reduceAdd, Nat.reduceEqDiff, Nat.reduceMul, Nat.reduceSub, Nat.reduceLeDiff, Nat.reduceLT, Int.reduceToNat, Int.reduceLE, Int.reduceLT, Int.reduceEq, UInt8.reduceOfNat, Nxt, exIf]
      refine while_rule (fun k q => ∃ i : Nat, i + k = 4 ∧ q = ([.arr 70 (5 + i) [] 0 0 (16 + i), .int .i64 (i : Int)], upd noSlots 70 (.obj (5 + i) (.bytes (H ++ fr ++ to.take i))))) 4 ⟨0, rfl, by simp⟩ ?_
      rintro k q ⟨i, hi, rfl⟩
      simp only [go_sem, ↓reduceIte, reduceCtorEq, upd_ne, back_new (no_at), Nat.reduceAdd, Nat.reduceEqDiff, Nat.reduceMul, Nat.reduceSub, Nat.reduceLeDiff, Nat.reduceLT, Int.reduceToNat, Int.reduceLE, Int.reduceLT, Int.reduceEq, UInt8.reduceOfNat]
      refine nxt_ite (fun h => ?_) (fun h => ?_)
      · have hlt : i < to.length := by omega
        obtain ⟨b, hb⟩ : ∃ b, to[i]? = some b := ⟨to[i], by simp [hlt]⟩
        have htk : to.take (i + 1) = to.take i ++ [b] := by rw [List.take_add_one, hb]; rfl
        have hlen : (H ++ fr ++ to.take i).length = 16 + i := by rw [List.length_append, List.length_append, List.length_take]; omega
        have hA := wApp_arr (d := 92) (t := 70) (g := 5 + i) (sl := noSlots) (b := H ++ fr ++ to.take i) (s := [b]) (by rw [hlen]; simp; omega)
        rw [hlen] at hA
        simp only [List.map_cons, List.map_nil, byteLV, List.length_cons, List.length_nil] at hA
        have i1 : IntKind.i64.wrap ((i : Int) + 1) = ((i + 1 : Nat) : Int) := by rw [wrap_id (by omega) (by omega)]; omega
        have i2 : i < 4 := by omega
        simp only [go_sem, ↓reduceIte, reduceCtorEq, upd_ne, back_new (no_at), Nat.reduceAdd, Nat.reduceEqDiff, Nat.reduceMul, Nat.reduceSub, Nat.reduceLeDiff, Nat.reduceLT, Int.reduceToNat, Int.reduceLE, Int.reduceLT, Int.reduceEq, UInt8.reduceOfNat, List.getElem?_map, Int.toNat_natCast, hto, hb, byteLV, hA, i1, i2]
        refine ⟨k - 1, by omega, i + 1, by omega, ?_⟩
        rw [htk, ← List.append_assoc, show 5 + (i + 1) = 5 + i + 1 by omega, show 16 + (i + 1) = 16 + i + 1 by omega]
      · obtain rfl : i = 4 := by omega
        have ht4 : to.take 4 = to := List.take_of_length_le (by omega)
        rw [ht4]
        have hHf : (H ++ fr ++ to).length = 20 := by simp; omega
        have hB := wApp_str (d := 96) (t := 70) (g := 9) (sl := noSlots) (b := H ++ fr ++ to) (s := op) (by omega)
        rw [hHf] at hB
        simp only [go_sem, ↓reduceIte, reduceCtorEq, upd_ne, back_new (no_at), Nat.reduceAdd, Nat.reduceEqDiff, Nat.reduceMul, Nat.reduceSub, Nat.reduceLeDiff, Nat.reduceLT, Int.reduceToNat, Int.reduceLE, Int.reduceLT, Int.reduceEq, UInt8.reduceOfNat, Nxt, exIf, hB]
        obtain ⟨z, hz⟩ := Int.eq_ofNat_of_zero_le hx.1
        have hL : (H ++ fr ++ to ++ op).length = 20 + op.length := by rw [List.length_append]; omega
        have hsum : sumAt 0 (H ++ fr ++ to ++ op) = sumAt 0 (hd4 tos id ttl pt at' true false op da ++ (fr ++ (to ++ op))) := by
          rw [← hH, show hd4 tos id ttl pt at' true false op da = [UInt8.ofNat (64 + (20 + op.length) / 4), UInt8.ofNat tos, UInt8.ofNat ((20 + op.length + da.length) / 256), UInt8.ofNat (20 + op.length + da.length), UInt8.ofNat (id / 256), UInt8.ofNat id, UInt8.ofNat (A / 256), UInt8.ofNat A, UInt8.ofNat ttl, UInt8.ofNat pt] by unfold hd4; rw [hat4]; simp only [beB1, beB2, Int.toNat_natCast, List.cons_append, List.nil_append]]
          have hsz := sum_zeros (h := [UInt8.ofNat (64 + (20 + op.length) / 4), UInt8.ofNat tos, UInt8.ofNat ((20 + op.length + da.length) / 256), UInt8.ofNat (20 + op.length + da.length), UInt8.ofNat (id / 256), UInt8.ofNat id, UInt8.ofNat (A / 256), UInt8.ofNat A, UInt8.ofNat ttl, UInt8.ofNat pt]) (r := fr ++ (to ++ op)) (by simp only [List.length_cons, List.length_nil])
          simp only [List.cons_append, List.nil_append, List.append_assoc] at hsz ⊢
          exact hsz
        have ho := ev_rOf hS n (H ++ fr ++ to ++ op) (by omega)
        have ho : S.ev (n + 2) id_interpreterref02_Of [.str (H ++ fr ++ to ++ op)] none = some (.int .i64 (z : Int), none) := by
          rw [ho, hsum, ← hz]; unfold x4 sumS; exact rfl
        have hby : by4 tos id ttl pt at' true false fr to op da = ((H ++ fr ++ to ++ op).set 10 (UInt8.ofNat (z / 256))).set 11 (UInt8.ofNat z) ++ da := by
          unfold by4
          rw [hz, ← hH, show hd4 tos id ttl pt at' true false op da = [UInt8.ofNat (64 + (20 + op.length) / 4), UInt8.ofNat tos, UInt8.ofNat ((20 + op.length + da.length) / 256), UInt8.ofNat (20 + op.length + da.length), UInt8.ofNat (id / 256), UInt8.ofNat id, UInt8.ofNat (A / 256), UInt8.ofNat A, UInt8.ofNat ttl, UInt8.ofNat pt] by unfold hd4; rw [hat4]; simp only [beB1, beB2, Int.toNat_natCast, List.cons_append, List.nil_append]]
          simp only [beB2, Int.toNat_natCast, List.cons_append, List.nil_append, List.append_assoc, List.set_cons_succ, List.set_cons_zero]
        have d7 := div256 (x := z) (by omega)
        rw [hby]
        generalize H ++ fr ++ to ++ op = B at *
        have g10 : B[10]? = some B[10] := List.getElem?_eq_getElem (by omega)
        have g11 : (B.set 10 (UInt8.ofNat (z / 256)))[11]? = some B[11] := by rw [List.getElem?_set_ne (by omega)]; exact List.getElem?_eq_getElem (by omega)
        generalize B[10] = b10 at *
        generalize B[11] = b11 at *
        have l1 : 10 < 20 + op.length := by omega
        have l2 : 11 < 20 + op.length := by omega
        have l3 : (((B.set 10 (UInt8.ofNat (z / 256))).set 11 (UInt8.ofNat z))).take (20 + op.length) = (B.set 10 (UInt8.ofNat (z / 256))).set 11 (UInt8.ofNat z) := List.take_of_length_le (by simp; omega)
        have l4 : B.take (20 + op.length) = B := List.take_of_length_le (by omega)
        have l5 : 20 + op.length + da.length ≤ maxStr := by unfold maxStr; omega
        simp only [go_sem, ↓reduceIte, reduceCtorEq, upd_ne, back_new (no_at), Nat.reduceAdd, Nat.reduceEqDiff, Nat.reduceMul, Nat.reduceSub, Nat.reduceLeDiff, Nat.reduceLT, Int.reduceToNat, Int.reduceLE, Int.reduceLT, Int.reduceEq, UInt8.reduceOfNat, List.getElem?_map, Int.toNat_natCast, ho, hL, g10, g11, l1, l2, l3, l4, l5, byteLV, d7, mod256, u8w, u8_ofNat_mod, u8_lt, UInt8.ofNat_toNat, Nat.le_refl]
  · simp only [go_sem, ↓reduceIte, reduceCtorEq, upd_ne, back_new (no_at), Nat.reduceAdd, Nat.reduceEqDiff, Nat.reduceMul, Nat.reduceSub, Nat.reduceLeDiff, Nat.reduceLT, Int.reduceToNat, Int.reduceLE, Int.reduceLT, Int.reduceEq, UInt8.reduceOfNat, hw, c, hfr, hto]
theorem ev_rbytes3_tt {tos id ttl pt at' : Int} {fr to op da : List UInt8} (hf : FitIp4 tos id ttl pt at' fr to op da) (hd : da.length ≤ 400000) :
    S.ev (n + 3) id_interpreterref03_Bytes [ip4LV tos id ttl pt at' true true fr to op da] none = some (.tup [.str (by4R tos id ttl pt at' true true fr to op da), .int .i64 (why4 tos id ttl pt at' true op da)], none) := by
  rw [Sys.step hS.h_interpreterref03_Bytes, F_interpreterref03_Bytes_eq]
  unfold F_interpreterref03_Bytes
  have hfr := hf.hfr
  have hto := hf.hto
  have hw := ev_Why3 hS (n) (tos := tos) (id := id) (ttl := ttl) (pt := pt) (at' := at') (df := true) (mo := true) hfr hto hf.hop hf.hda
  (try simp only [guard_merge, or_merge, and_merge, or_pick, and_pick, guard_or, guard_and]); simp only [to_ob]
  unfold by4R
  by_cases c : why4 tos id ttl pt at' true op da = 0
  · have ok := why4_zero.1 c
    obtain ⟨o1, o2, o3, o4, o5, o6, o7, o8, o9, o10⟩ := ok
    rw [c] at hw
    obtain ⟨tos, rfl⟩ := Int.eq_ofNat_of_zero_le o1.1
    obtain ⟨ttl, rfl⟩ := Int.eq_ofNat_of_zero_le o2.1
    obtain ⟨pt, rfl⟩ := Int.eq_ofNat_of_zero_le o3.1
    obtain ⟨id, rfl⟩ := Int.eq_ofNat_of_zero_le o4.1
    obtain ⟨at', rfl⟩ := Int.eq_ofNat_of_zero_le o5.1
    have e1 : IntKind.i64.wrap (Int.tdiv (at' : Int) 8) = ((at' / 8 : Nat) : Int) := by
      rw [show Int.tdiv (at' : Int) 8 = ((at' / 8 : Nat) : Int) from rfl, wrap_id (by omega) (by omega)]
    have e2 : IntKind.i64.wrap (20 + (op.length : Int)) = ((20 + op.length : Nat) : Int) := by rw [wrap_id (by omega) (by omega)]; omega
    have e3 : IntKind.i64.wrap (Int.tdiv ((20 + op.length : Nat) : Int) 4) = (((20 + op.length) / 4 : Nat) : Int) := by
      rw [show Int.tdiv ((20 + op.length : Nat) : Int) 4 = (((20 + op.length) / 4 : Nat) : Int) from rfl, wrap_id (by omega) (by omega)]
    have e4 : IntKind.i64.wrap (64 + (((20 + op.length) / 4 : Nat) : Int)) = ((64 + (20 + op.length) / 4 : Nat) : Int) := by rw [wrap_id (by omega) (by omega)]; omega
    have e5 : IntKind.i64.wrap (((20 + op.length : Nat) : Int) + (da.length : Int)) = ((20 + op.length + da.length : Nat) : Int) := by rw [wrap_id (by omega) (by omega)]; omega
    have d1 := div256 (x := 20 + op.length + da.length) (by omega)
    have d2 := div256 (x := id) (by omega)
    have f1 : IntKind.i64.wrap (((at' / 8 : Nat) : Int) + 8192) = ((at' / 8 + 8192 : Nat) : Int) := by rw [wrap_id (by omega) (by omega)]; omega
    have f2 : IntKind.i64.wrap (((at' / 8 : Nat) : Int) + 16384) = ((at' / 8 + 16384 : Nat) : Int) := by rw [wrap_id (by omega) (by omega)]; omega
    have f3 : IntKind.i64.wrap (((at' / 8 + 8192 : Nat) : Int) + 16384) = ((at' / 8 + 8192 + 16384 : Nat) : Int) := by rw [wrap_id (by omega) (by omega)]; omega
    have d3 := div256 (x := at' / 8) (by omega)
    have d4 := div256 (x := at' / 8 + 8192) (by omega)
    have d5 := div256 (x := at' / 8 + 16384) (by omega)
    have d6 := div256 (x := at' / 8 + 8192 + 16384) (by omega)
    have hx := sumS_le (hd4 tos id ttl pt at' true true op da ++ (fr ++ (to ++ op)))
    have hx : 0 ≤ x4 tos id ttl pt at' true true fr to op da ∧ x4 tos id ttl pt at' true true fr to op da ≤ 65535 := hx
    have hat4 : at4 at' true true = at' / 8 + 8192 + 16384 := by unfold at4; rw [Int.toNat_natCast, if_pos rfl, if_pos rfl]
    obtain ⟨A, hAA⟩ : ∃ A, A = at' / 8 + 8192 + 16384 := ⟨_, rfl⟩
    rw [← hAA] at hat4
    simp only [← hAA] at e1 f1 f2 f3 d3 d4 d5 d6
    simp only [go_sem, ↓reduceIte, reduceCtorEq, upd_ne, back_new (no_at), Nat.reduceAdd, Nat.reduceEqDiff, Nat.reduceMul, Nat.reduceSub, Nat.reduceLeDiff, Nat.reduceLT, Int.reduceToNat, Int.reduceLE, Int.reduceLT, Int.reduceEq, UInt8.reduceOfNat, hw, c, hfr, hto, e1, e2, e3, e4, e5, f1, f2, f3, d1, d2, d6, mod256, u8w, u8_ofNat_mod, e_cBslM, u8_lt, UInt8.ofNat_toNat, cBytes_eq]
    generalize hH : ([UInt8.ofNat (64 + (20 + op.length) / 4), UInt8.ofNat tos, UInt8.ofNat ((20 + op.length + da.length) / 256), UInt8.ofNat (20 + op.length + da.length), UInt8.ofNat (id / 256), UInt8.ofNat id, UInt8.ofNat (A / 256), UInt8.ofNat A, UInt8.ofNat ttl, UInt8.ofNat pt, 0, 0] : List UInt8) = H
    have hHl : H.length = 12 := by rw [← hH]; rfl
    refine while_rule (fun k q => ∃ i : Nat, i + k = 4 ∧ q = ([.arr 70 (1 + i) [] 0 0 (12 + i), .int .i64 (i : Int)], upd noSlots 70 (.obj (1 + i) (.bytes (H ++ fr.take i))))) 4 ⟨0, rfl, by simp⟩ ?_
    rintro k q ⟨i, hi, rfl⟩
    simp only [go_sem, ↓reduceIte, reduceCtorEq, upd_ne, back_new (no_at), Nat.reduceAdd, Nat.reduceEqDiff, Nat.reduceMul, Nat.reduceSub, Nat.reduceLeDiff, Nat.reduceLT, Int.reduceToNat, Int.reduceLE, Int.reduceLT, Int.reduceEq, UInt8.reduceOfNat]
    refine nxt_ite (fun h => ?_) (fun h => ?_)
    · have hlt : i < fr.length := by omega
      obtain ⟨b, hb⟩ : ∃ b, fr[i]? = some b := ⟨fr[i], by simp [hlt]⟩
      have htk : fr.take (i + 1) = fr.take i ++ [b] := by rw [List.take_add_one, hb]; rfl
      have hlen : (H ++ fr.take i).length = 12 + i := by rw [List.length_append, List.length_take]; omega
      have hA := wApp_arr (d := 81) (t := 70) (g := 1 + i) (sl := noSlots) (b := H ++ fr.take i) (s := [b]) (by simp; omega)
      rw [hlen] at hA
      simp only [List.map_cons, List.map_nil, byteLV, List.length_cons, List.length_nil] at hA
      have i1 : IntKind.i64.wrap ((i : Int) + 1) = ((i + 1 : Nat) : Int) := by rw [wrap_id (by omega) (by omega)]; omega
      have i2 : i < 4 := by omega
      simp only [go_sem, ↓reduceIte, reduceCtorEq, upd_ne, back_new (no_at), Nat.reduceAdd, Nat.reduceEqDiff, Nat.reduceMul, Nat.reduceSub, Nat.reduceLeDiff, Nat.reduceLT, Int.reduceToNat, Int.reduceLE, Int.reduceLT, Int.reduceEq, UInt8.reduceOfNat, List.getElem?_map, Int.toNat_natCast, hfr, hb, byteLV, hA, i1, i2]
      refine ⟨k - 1, by omega, i + 1, by omega, ?_⟩
      rw [htk, ← List.append_assoc, show 1 + (i + 1) = 1 + i + 1 by omega, show 12 + (i + 1) = 12 + i + 1 by omega]
    · obtain rfl : i = 4 := by omega
      have hf4 : fr.take 4 = fr := List.take_of_length_le (by omega)
      rw [hf4]
      simp only [go_sem, ↓reduceIte, reduceCtorEq, upd_ne, back_new (no_at), Nat.reduceAdd, Nat.reduceEqDiff, Nat.reduceMul, Nat.reduceSub, Nat.reduceLeDiff, Nat.reduceLT, Int.reduceToNat, Int.reduceLE, Int.reduceLT, Int.reduceEq, UInt8.reduceOfNat, Nxt, exIf]
      refine while_rule (fun k q => ∃ i : Nat, i + k = 4 ∧ q = ([.arr 70 (5 + i) [] 0 0 (16 + i), .int .i64 (i : Int)], upd noSlots 70 (.obj (5 + i) (.bytes (H ++ fr ++ to.take i))))) 4 ⟨0, rfl, by simp⟩ ?_
      rintro k q ⟨i, hi, rfl⟩
      simp only [go_sem, ↓reduceIte, reduceCtorEq, upd_ne, back_new (no_at), Nat.reduceAdd, Nat.reduceEqDiff, Nat.reduceMul, Nat.reduceSub, Nat.reduceLeDiff, Nat.reduceLT, Int.reduceToNat, Int.reduceLE, Int.reduceLT, Int.reduceEq, UInt8.reduceOfNat]
      refine nxt_ite (fun h => ?_) (fun h => ?_)
      · have hlt : i < to.length := by omega
        obtain ⟨b, hb⟩ : ∃ b, to[i]? = some b := ⟨to[i], by simp [hlt]⟩
        have htk : to.take (i + 1) = to.take i ++ [b] := by rw [List.take_add_one, hb]; rfl
        have hlen : (H ++ fr ++ to.take i).length = 16 + i := by rw [List.length_append, List.length_append, List.length_take]; omega
        have hA := wApp_arr (d := 92) (t := 70) (g := 5 + i) (sl := noSlots) (b := H ++ fr ++ to.take i) (s := [b]) (by rw [hlen]; simp; omega)
        rw [hlen] at hA
        simp only [List.map_cons, List.map_nil, byteLV, List.length_cons, List.length_nil] at hA
        have i1 : IntKind.i64.wrap ((i : Int) + 1) = ((i + 1 : Nat) : Int) := by rw [wrap_id (by omega) (by omega)]; omega
        have i2 : i < 4 := by omega
        simp only [go_sem, ↓reduceIte, reduceCtorEq, upd_ne, back_new (no_at), Nat.reduceAdd, Nat.reduceEqDiff, Nat.reduceMul, Nat.reduceSub, Nat.reduceLeDiff, Nat.reduceLT, Int.reduceToNat, Int.reduceLE, Int.reduceLT, Int.reduceEq, UInt8.reduceOfNat, List.getElem?_map, Int.toNat_natCast, hto, hb, byteLV, hA, i1, i2]
        refine ⟨k - 1, by omega, i + 1, by omega, ?_⟩
        rw [htk, ← List.append_assoc, show 5 + (i + 1) = 5 + i + 1 by omega, show 16 + (i + 1) = 16 + i + 1 by omega]
      · obtain rfl : i = 4 := by omega
        have ht4 : to.take 4 = to := List.take_of_length_le (by omega)
        rw [ht4]
        have hHf : (H ++ fr ++ to).length = 20 := by simp; omega
        have hB := wApp_str (d := 96) (t := 70) (g := 9) (sl := noSlots) (b := H ++ fr ++ to) (s := op) (by omega)
        rw [hHf] at hB
        simp only [go_sem, ↓reduceIte, reduceCtorEq, upd_ne, back_new (no_at), Nat.reduceAdd, Nat.reduceEqDiff, Nat.reduceMul, Nat.reduceSub, Nat.reduceLeDiff, Nat.reduceLT, Int.reduceToNat, Int.reduceLE, Int.reduceLT, Int.reduceEq, UInt8.reduceOfNat, Nxt, exIf, hB]
        obtain ⟨z, hz⟩ := Int.eq_ofNat_of_zero_le hx.1
        have hL : (H ++ fr ++ to ++ op).length = 20 + op.length := by rw [List.length_append]; omega
        have hsum : sumAt 0 (H ++ fr ++ to ++ op) = sumAt 0 (hd4 tos id ttl pt at' true true op da ++ (fr ++ (to ++ op))) := by
          rw [← hH, show hd4 tos id ttl pt at' true true op da = [UInt8.ofNat (64 + (20 + op.length) / 4), UInt8.ofNat tos, UInt8.ofNat ((20 + op.length + da.length) / 256), UInt8.ofNat (20 + op.length + da.length), UInt8.ofNat (id / 256), UInt8.ofNat id, UInt8.ofNat (A / 256), UInt8.ofNat A, UInt8.ofNat ttl, UInt8.ofNat pt] by unfold hd4; rw [hat4]; simp only [beB1, beB2, Int.toNat_natCast, List.cons_append, List.nil_append]]
          have hsz := sum_zeros (h := [UInt8.ofNat (64 + (20 + op.length) / 4), UInt8.ofNat tos, UInt8.ofNat ((20 + op.length + da.length) / 256), UInt8.ofNat (20 + op.length + da.length), UInt8.ofNat (id / 256), UInt8.ofNat id, UInt8.ofNat (A / 256), UInt8.ofNat A, UInt8.ofNat ttl, UInt8.ofNat pt]) (r := fr ++ (to ++ op)) (by simp only [List.length_cons, List.length_nil])
          simp only [List.cons_append, List.nil_append, List.append_assoc] at hsz ⊢
          exact hsz
        have ho := ev_rOf hS n (H ++ fr ++ to ++ op) (by omega)
        have ho : S.ev (n + 2) id_interpreterref02_Of [.str (H ++ fr ++ to ++ op)] none = some (.int .i64 (z : Int), none) := by
          rw [ho, hsum, ← hz]; unfold x4 sumS; exact rfl
        have hby : by4 tos id ttl pt at' true true fr to op da = ((H ++ fr ++ to ++ op).set 10 (UInt8.ofNat (z / 256))).set 11 (UInt8.ofNat z) ++ da := by
          unfold by4
          rw [hz, ← hH, show hd4 tos id ttl pt at' true true op da = [UInt8.ofNat (64 + (20 + op.length) / 4), UInt8.ofNat tos, UInt8.ofNat ((20 + op.length + da.length) / 256), UInt8.ofNat (20 + op.length + da.length), UInt8.ofNat (id / 256), UInt8.ofNat id, UInt8.ofNat (A / 256), UInt8.ofNat A, UInt8.ofNat ttl, UInt8.ofNat pt] by unfold hd4; rw [hat4]; simp only [beB1, beB2, Int.toNat_natCast, List.cons_append, List.nil_append]]
          simp only [beB2, Int.toNat_natCast, List.cons_append, List.nil_append, List.append_assoc, List.set_cons_succ, List.set_cons_zero]
        have d7 := div256 (x := z) (by omega)
        rw [hby]
        generalize H ++ fr ++ to ++ op = B at *
        have g10 : B[10]? = some B[10] := List.getElem?_eq_getElem (by omega)
        have g11 : (B.set 10 (UInt8.ofNat (z / 256)))[11]? = some B[11] := by rw [List.getElem?_set_ne (by omega)]; exact List.getElem?_eq_getElem (by omega)
        generalize B[10] = b10 at *
        generalize B[11] = b11 at *
        have l1 : 10 < 20 + op.length := by omega
        have l2 : 11 < 20 + op.length := by omega
        have l3 : (((B.set 10 (UInt8.ofNat (z / 256))).set 11 (UInt8.ofNat z))).take (20 + op.length) = (B.set 10 (UInt8.ofNat (z / 256))).set 11 (UInt8.ofNat z) := List.take_of_length_le (by simp; omega)
        have l4 : B.take (20 + op.length) = B := List.take_of_length_le (by omega)
        have l5 : 20 + op.length + da.length ≤ maxStr := by unfold maxStr; omega
        simp only [go_sem, ↓reduceIte, reduceCtorEq, upd_ne, back_new (no_at), Nat.reduceAdd, Nat.reduceEqDiff, Nat.reduceMul, Nat.reduceSub, Nat.reduceLeDiff, Nat.reduceLT, Int.reduceToNat, Int.reduceLE, Int.reduceLT, Int.reduceEq, UInt8.reduceOfNat, List.getElem?_map, Int.toNat_natCast, ho, hL, g10, g11, l1, l2, l3, l4, l5, byteLV, d7, mod256, u8w, u8_ofNat_mod, u8_lt, UInt8.ofNat_toNat, Nat.le_refl]
  · simp only [go_sem, ↓reduceIte, reduceCtorEq, upd_ne, back_new (no_at), Nat.reduceAdd, Nat.reduceEqDiff, Nat.reduceMul, Nat.reduceSub, Nat.reduceLeDiff, Nat.reduceLT, Int.reduceToNat, Int.reduceLE, Int.reduceLT, Int.reduceEq, UInt8.reduceOfNat, hw, c, hfr, hto]
theorem ev_rbytes3 {tos id ttl pt at' : Int} {df mo : Bool} {fr to op da : List UInt8} (hf : FitIp4 tos id ttl pt at' fr to op da) (hd : da.length ≤ 400000) :
    S.ev (n + 3) id_interpreterref03_Bytes [ip4LV tos id ttl pt at' df mo fr to op da] none = some (.tup [.str (by4R tos id ttl pt at' df mo fr to op da), .int .i64 (why4 tos id ttl pt at' mo op da)], none) := by
  cases df
  · cases mo
    · exact ev_rbytes3_ff hS n hf hd
    · exact ev_rbytes3_ft hS n hf hd
  · cases mo
    · exact ev_rbytes3_tf hS n hf hd
    · exact ev_rbytes3_tt hS n hf hd
end
end Go.Ev

namespace Go.Ev
set_option linter.unusedSimpArgs false
set_option linter.unusedVariables false
set_option maxRecDepth 10000
set_option maxHeartbeats 8000000
theorem upF_take {d : List UInt8} {i : Nat} {o w : List UInt8} {none : Bool} (h : 4 ≤ i) : (upF d i o w none).take 4 = d.take 4 := by
  unfold upF
  split
  · rfl
  · split
    · rfl
    · rw [List.take_append_of_le_length (by rw [List.length_take]; omega), List.take_take, Nat.min_eq_left h]
theorem poF_ports {udp : Bool} {d o w : List UInt8} {p q : Nat} (h : 4 ≤ d.length) : (poF udp d o w p q).take 4 = beB 2 p ++ beB 2 q := by
  have hx : (beB 2 p ++ (beB 2 q ++ d.drop 4)).take 4 = beB 2 p ++ beB 2 q := by simp [beB2]
  unfold poF
  rw [if_neg (by omega)]
  split
  · rw [upF_take (by omega), hx]
  · rw [upF_take (by omega), hx]
section
variable {S : Sys} (hS : Has S) (n : Nat)
include hS
theorem ev_awake15 : S.ev (n + 7) id_interpreterlaw15_awake [] none = some (.bool true, none) := by
  rw [Sys.step hS.h_interpreterlaw15_awake, F_interpreterlaw15_awake_eq]
  unfold F_interpreterlaw15_awake
  have h1 : S.ev (n + 6) id_interpreterlaw15_gram [.int .i64 600] none = _ := ev_gram hS (n + 4) 600 (by omega)
  have h0 : S.ev (n + 6) id_interpreterlaw15_gram [.int .i64 0] none = _ := ev_gram hS (n + 4) 0 (by omega)
  have ok := g_ok (k := 600) (by omega)
  have h2 := ev_rbytes3 hS (n + 3) (df := false) (mo := false) (g_fit (k := 600) (by omega)) (by rw [List.length_replicate]; omega)
  unfold by4R at h2
  rw [if_pos (why4_zero.2 ok), why4_zero.2 ok] at h2
  have hBl := by4_len (tos := 0) (id := 0) (ttl := 9) (pt := 17) (at' := 0) (df := false) (mo := false) (fr := [192, 0, 2, 1]) (to := [192, 0, 2, 2]) (op := []) (da := List.replicate 600 120) rfl rfl
  have hp := (ev_parse_by4 hS (n + 1) (df := false) ok (fr := [192, 0, 2, 1]) (to := [192, 0, 2, 2]) rfl rfl).1
  have hi := inside_by4 (df := false) ok (fr := [192, 0, 2, 1]) (to := [192, 0, 2, 2]) rfl rfl (j := 548) (by simp) (by simp)
  have hDl : (List.replicate 600 (120 : UInt8)).length = 600 := List.length_replicate
  have hm := ev_martian4 hS (n + 4) 192 0 2 1
  rw [decide_eq_false (by decide)] at hm
  generalize hB : by4 0 0 9 17 0 false false [192, 0, 2, 1] [192, 0, 2, 2] [] (List.replicate 600 120) = B at *
  generalize hD : List.replicate 600 (120 : UInt8) = D at *
  rw [hDl] at hBl
  have hBl : B.length = 620 := by rw [hBl]; rfl
  have hQl : (B.take 548).length = 548 := by rw [List.length_take]; omega
  generalize hQ : B.take 548 = Q at *
  have hIl : (im4B 11 0 0 Q).length = 556 := by unfold im4B; simp only [List.length_append, beB_len]; omega
  have hId : (im4B 11 0 0 Q).drop 8 = Q := by unfold im4B; simp [beB1, beB2, beB, List.range_succ]
  have ok2 : Ok4 0 5 64 1 0 false [] (im4B 11 0 0 Q) := ⟨by omega, by omega, by omega, by omega, by omega, rfl, by simp, by simp, by simp, by rw [hIl]; simp⟩
  have h3 := ev_own4_ok hS (n + 1) (s := B) (tos := 0) (i0 := 0) (ttl := 9) (pt := 17) (df := false) (mo := false) (fr := [192, 0, 2, 1]) (to := [192, 0, 2, 2]) (op := []) (da := D) (a := [192, 0, 2, 9]) (k := 11) (c := 0) (r := 0) (id := 5) (id' := 5) (md := []) (mtu := 1500) (q := Q)
    hp rfl rfl rfl rfl (by omega) (by omega) hm (by omega) (by omega) (by rw [hDl, hBl]; simp) (by omega) (by simp) (by rw [hDl]; decide) (by rw [hDl, ← hQ, List.take_take]; rfl) rfl (by unfold I64; omega) (why4_zero.2 ok2)
  have h4 := (ev_parse_by4 hS (n + 2) (df := false) ok2 (fr := [192, 0, 2, 9]) (to := [192, 0, 2, 1]) rfl rfl).2
  have hSl := by4_len (tos := 0) (id := 5) (ttl := 64) (pt := 1) (at' := 0) (df := false) (mo := false) (fr := [192, 0, 2, 9]) (to := [192, 0, 2, 1]) (op := []) (da := im4B 11 0 0 Q) rfl rfl
  rw [hIl] at hSl
  have hSl : (by4 0 5 64 1 0 false false [192, 0, 2, 9] [192, 0, 2, 1] [] (im4B 11 0 0 Q)).length = 576 := by rw [hSl]; rfl
  have h5 := ev_inside4 hS (n + 2) Q (by omega)
  rw [hi.1, hi.2.1, hi.2.2, hDl] at h5
  have hD2 : (D.take (548 - (20 + ([] : List UInt8).length))).length = 528 := by rw [List.length_take, hDl]; rfl
  generalize D.take (548 - (20 + ([] : List UInt8).length)) = D2 at *
  have h6 := ev_quote6w hS n (tos := 0) (id := 0) (ttl := 9) (pt := 17) (df := false) (fr := [192, 0, 2, 1]) (to := [192, 0, 2, 2]) (op := []) (da := D2) (a := List.replicate 16 0) (b := List.replicate 16 0) (claim := 600) (p := 1) (q := 2) rfl rfl rfl rfl (by omega) (by omega) (by omega) (by omega) (by omega) (by omega) (by omega) (by omega)
  have hpo := poF_ports (udp := decide ((17 : Int) = 17)) (d := D2) (o := [192, 0, 2, 1] ++ [192, 0, 2, 2]) (w := List.replicate 16 0 ++ List.replicate 16 0) (p := 1) (q := 2) (by omega)
  have hpl := @poF_len (decide ((17 : Int) = 17)) D2 ([192, 0, 2, 1] ++ [192, 0, 2, 2]) (List.replicate 16 0 ++ List.replicate 16 0) 1 2
  generalize poF (decide ((17 : Int) = 17)) D2 ([192, 0, 2, 1] ++ [192, 0, 2, 2]) (List.replicate 16 0 ++ List.replicate 16 0) 1 2 = PO at *
  have hTl : (beB 4 (1610612736 + Int.toNat 0 * 1048576) ++ (beB 2 600 ++ (beB 1 (Int.toNat 17) ++ (beB 1 (Int.toNat 9) ++ (List.replicate 16 0 ++ (List.replicate 16 0 ++ PO)))))).length = 568 := by
    simp only [List.length_append, beB_len, List.length_replicate]; omega
  have hTd : ((beB 4 (1610612736 + Int.toNat 0 * 1048576) ++ (beB 2 600 ++ (beB 1 (Int.toNat 17) ++ (beB 1 (Int.toNat 9) ++ (List.replicate 16 0 ++ (List.replicate 16 0 ++ PO)))))).drop 40).take 4 = [0, 1, 0, 2] := by
    rw [show (beB 4 (1610612736 + Int.toNat 0 * 1048576) ++ (beB 2 600 ++ (beB 1 (Int.toNat 17) ++ (beB 1 (Int.toNat 9) ++ (List.replicate 16 0 ++ (List.replicate 16 0 ++ PO)))))) = (beB 4 (1610612736 + Int.toNat 0 * 1048576) ++ (beB 2 600 ++ (beB 1 (Int.toNat 17) ++ (beB 1 (Int.toNat 9) ++ (List.replicate 16 0 ++ List.replicate 16 0))))) ++ PO by simp only [List.append_assoc]]
    rw [List.drop_left' (by simp only [List.length_append, beB_len, List.length_replicate]), hpo]
    rfl
  have h6 : S.ev (n + 6) id_fault_Quote6 [ip4LV 0 0 9 17 0 false false [192, 0, 2, 1] [192, 0, 2, 2] [] D2, .int .i64 600, .agg [.bytes [0, 0, 0, 0, 0, 0, 0, 0, 0, 0, 0, 0, 0, 0, 0, 0], .int .i64 1], .agg [.bytes [0, 0, 0, 0, 0, 0, 0, 0, 0, 0, 0, 0, 0, 0, 0, 0], .int .i64 2]] none = _ := h6
  generalize beB 4 (1610612736 + Int.toNat 0 * 1048576) ++ (beB 2 600 ++ (beB 1 (Int.toNat 17) ++ (beB 1 (Int.toNat 9) ++ (List.replicate 16 0 ++ (List.replicate 16 0 ++ PO))))) = T at *
  have h3 : S.ev (n + 6) id_fault_Own4 [.agg [.int .i64 11, .int .i64 0, .int .u32 0, .str []], .str B, .bytes [192, 0, 2, 9], .int .i64 5, .int .i64 1500] none = _ := h3
  generalize by4 0 5 64 1 0 false false [192, 0, 2, 9] [192, 0, 2, 1] [] (im4B 11 0 0 Q) = SS at *
  generalize im4B 11 0 0 Q = IB at *
  have n1 : ((600 : Nat) : Int) = 600 := rfl
  have n2 : ((576 : Nat) : Int) = 576 := rfl
  have n3 : ((556 : Nat) : Int) = 556 := rfl
  have n4 : ((528 : Nat) : Int) = 528 := rfl
  have n5 : ((568 : Nat) : Int) = 568 := rfl
  rw [n1] at h5
  have t8 : (IB.drop 8).take (556 - 8) = Q := by rw [hId]; exact List.take_of_length_le (by omega)
  have t9 : Q.take 548 = Q := List.take_of_length_le (by omega)
  have z0 : List.replicate 0 (120 : UInt8) = [] := rfl
  (try simp only [guard_merge, or_merge, and_merge, or_pick, and_pick, guard_or, guard_and]); simp only [to_ob]
  simp only [go_sem, ↓reduceIte, reduceCtorEq, upd_ne, back_new (no_at), Nat.reduceAdd, Nat.reduceEqDiff, Nat.reduceMul, Nat.reduceSub, Nat.reduceLeDiff, Nat.reduceLT, Int.reduceToNat, Int.reduceLE, Int.reduceLT, Int.reduceEq, UInt8.reduceOfNat, List.getElem?_map, Int.toNat_natCast, -List.reduceReplicate, z0, h0, h1, h2, h3, h4, h5, h6, hBl, hSl, hIl, hD2, hTl, hQ, hId, hTd, t8, t9, n1, n2, n3, n4, n5, fE, Nat.sub_zero, List.drop_zero, List.length_cons, List.length_nil, decide_true, beq_self_eq_true, Bool.and_self, Bool.not_true, Bool.false_eq_true]
end
end Go.Ev

namespace Go.Ev
set_option linter.unusedSimpArgs false
set_option linter.unusedVariables false
set_option maxRecDepth 10000
set_option maxHeartbeats 8000000
section
variable {S : Sys} (hS : Has S) (n : Nat)
include hS
theorem ev_FaultBeginsSix {vs : List LV} (h : fitVL [shpIp6, .int .u16, .bytes 4, .bytes 4, .int .u16, .int .u16] vs) : S.ev (n + 8) id_interpreterlaw15_FaultBeginsSix vs none = some (.bool true, none) := by
  obtain ⟨x, r, e, g1, q1⟩ := fit_cons h; clear h; subst e; obtain ⟨cl, fl, ho, fr, to, ex, fg, id, at', mo, pt, da, rfl, hf⟩ := fit_ip6 g1; clear g1
  obtain ⟨x, r, e, g2, q2⟩ := fit_cons q1; clear q1; subst e; obtain ⟨C, rfl, hC0, hC1⟩ := fit_u16 g2; clear g2
  obtain ⟨x, r, e, g3, q3⟩ := fit_cons q2; clear q2; subst e; obtain ⟨a, rfl, ha⟩ := fit_bytes g3; clear g3
  obtain ⟨x, r, e, g4, q4⟩ := fit_cons q3; clear q3; subst e; obtain ⟨b, rfl, hb⟩ := fit_bytes g4; clear g4
  obtain ⟨x, r, e, g5, q5⟩ := fit_cons q4; clear q4; subst e; obtain ⟨p, rfl, hp0, hp1⟩ := fit_u16 g5; clear g5
  obtain ⟨x, r, e, g6, q6⟩ := fit_cons q5; clear q5; subst e; obtain ⟨q, rfl, hq0, hq1⟩ := fit_u16 g6; clear g6
  obtain rfl := fit_nil q6
  obtain ⟨C, rfl⟩ := Int.eq_ofNat_of_zero_le hC0
  rw [Sys.step hS.h_interpreterlaw15_FaultBeginsSix, F_interpreterlaw15_FaultBeginsSix_eq]
  unfold F_interpreterlaw15_FaultBeginsSix
  have hw := ev_awake15 hS n
  have hfr := hf.hfr
  have hto := hf.hto
  have wC : IntKind.i64.wrap (C : Int) = (C : Int) := wrap_id (by omega) (by omega)
  have wp : IntKind.i64.wrap p = p := wrap_id (by omega) (by omega)
  have wq : IntKind.i64.wrap q = q := wrap_id (by omega) (by omega)
  have hxl : (extsLV ex) = .lst none (ex.map extLV) := rfl
  (try simp only [guard_merge, or_merge, and_merge, or_pick, and_pick, guard_or, guard_and]); simp only [to_ob]
  by_cases c1 : 70000 < (da.length : Int)
  · simp only [go_sem, ↓reduceIte, reduceCtorEq, upd_ne, back_new (no_at), Nat.reduceAdd, Nat.reduceEqDiff, Nat.reduceMul, Nat.reduceSub, Nat.reduceLeDiff, Nat.reduceLT, Int.reduceToNat, Int.reduceLE, Int.reduceLT, Int.reduceEq, UInt8.reduceOfNat, List.getElem?_map, Int.toNat_natCast, hw, hfr, hto, c1]
  by_cases c2 : 20 < (ex.length : Int)
  · simp only [go_sem, ↓reduceIte, reduceCtorEq, upd_ne, back_new (no_at), Nat.reduceAdd, Nat.reduceEqDiff, Nat.reduceMul, Nat.reduceSub, Nat.reduceLeDiff, Nat.reduceLT, Int.reduceToNat, Int.reduceLE, Int.reduceLT, Int.reduceEq, UInt8.reduceOfNat, List.getElem?_map, Int.toNat_natCast, List.length_map, hw, hfr, hto, c1, c2]
  by_cases c3 : (da.length : Int) < 8
  · simp only [go_sem, ↓reduceIte, reduceCtorEq, upd_ne, back_new (no_at), Nat.reduceAdd, Nat.reduceEqDiff, Nat.reduceMul, Nat.reduceSub, Nat.reduceLeDiff, Nat.reduceLT, Int.reduceToNat, Int.reduceLE, Int.reduceLT, Int.reduceEq, UInt8.reduceOfNat, List.getElem?_map, Int.toNat_natCast, List.length_map, hw, hfr, hto, c1, c2, c3]
  have sm : SmE ex := ⟨by omega, fun e he => (hf.hexs e he).2⟩
  have hB := ev_rbytes6 hS (n + 4) (fg := fg) (mo := mo) hf sm (by omega)
  unfold by6R at hB
  by_cases c4 : why6 cl fl ho ex fg id at' mo pt da = 0
  case neg =>
    rw [if_neg c4] at hB
    simp only [go_sem, ↓reduceIte, reduceCtorEq, upd_ne, back_new (no_at), Nat.reduceAdd, Nat.reduceEqDiff, Nat.reduceMul, Nat.reduceSub, Nat.reduceLeDiff, Nat.reduceLT, Int.reduceToNat, Int.reduceLE, Int.reduceLT, Int.reduceEq, UInt8.reduceOfNat, List.getElem?_map, Int.toNat_natCast, List.length_map, hw, hfr, hto, c1, c2, c3, hB, c4]
  rw [if_pos c4, c4] at hB
  have ok := why6_zero.1 c4
  have hid : 0 ≤ id ∧ id ≤ 4294967295 := hf.hid
  have hat := ok.rg.2.2.2.2
  have hat' := hat.1
  have hlen := by6_len (cl := cl) (fl := fl) (ho := ho) (fr := fr) (to := to) (ex := ex) (fg := fg) (id := id) (at' := at') (mo := mo) (pt := pt) (da := da) hfr hto
  have hbh := ok.bh
  have hda : da.length ≤ bh6 ex fg da := by unfold bh6; omega
  have e3 : IntKind.i64.wrap ((da.length : Int) - 7) = ((da.length - 7 : Nat) : Int) := by rw [wrap_id (by omega) (by omega)]; omega
  have hne : ¬ ((da.length - 7 : Nat) : Int) = 0 := by omega
  have e5 : Int.tmod (C : Int) ((da.length - 7 : Nat) : Int) = ((C % (da.length - 7) : Nat) : Int) := by
    rw [Int.tmod_eq_emod_of_nonneg (by omega)]; exact (Int.natCast_emod _ _).symm
  have hlt : C % (da.length - 7) < da.length - 7 := Nat.mod_lt _ (by omega)
  generalize C % (da.length - 7) = m at *
  have e6 : IntKind.i64.wrap (8 + (m : Int)) = ((8 + m : Nat) : Int) := by rw [wrap_id (by omega) (by omega)]; omega
  have hY1 : by6 cl fl ho fr to ex fg id at' mo pt da = beB 4 (1610612736 + cl.toNat * 1048576 + fl.toNat) ++ (beB 2 (bd6 ex fg id at' mo pt da).length ++ (beB 1 (nxE ex (if fg = true then 44 else pt)).toNat ++ beB 1 ho.toNat)) ++ (fr ++ (to ++ bd6 ex fg id at' mo pt da)) := by
    unfold by6; simp only [List.append_assoc]
  obtain ⟨i1, i2, i3⟩ := inside_p6 ok hid hfr hto (T := da) (Nat.le_refl _) (by omega) hY1
  have h1 := ev_inside6 hS (n + 3) (by6 cl fl ho fr to ex fg id at' mo pt da) (by omega)
  rw [i1, i2, i3] at h1
  have hT : (da.take (8 + m)).length = 8 + m := by rw [List.length_take]; omega
  have hcut : (by6 cl fl ho fr to ex fg id at' mo pt da).take (40 + bh6 ex fg da - da.length + (8 + m)) = beB 4 (1610612736 + cl.toNat * 1048576 + fl.toNat) ++ (beB 2 (bd6 ex fg id at' mo pt da).length ++ (beB 1 (nxE ex (if fg = true then 44 else pt)).toNat ++ beB 1 ho.toNat)) ++ (fr ++ (to ++ bd6 ex fg id at' mo pt (da.take (8 + m)))) := by
    rw [hY1]
    have hP := bd6_len (ex := ex) (fg := fg) (id := id) (at' := at') (mo := mo) (pt := pt) (da := [])
    have hz : bh6 ex fg [] + da.length = bh6 ex fg da := by unfold bh6; simp
    generalize (bd6 ex fg id at' mo pt da).length = N
    rw [bd6_app da, bd6_app (da.take (8 + m))]
    generalize bd6 ex fg id at' mo pt [] = P at *
    have hH : (beB 4 (1610612736 + cl.toNat * 1048576 + fl.toNat) ++ (beB 2 N ++ (beB 1 (nxE ex (if fg = true then 44 else pt)).toNat ++ beB 1 ho.toNat))).length = 8 := by simp only [List.length_append, beB_len]
    generalize beB 4 (1610612736 + cl.toNat * 1048576 + fl.toNat) ++ (beB 2 N ++ (beB 1 (nxE ex (if fg = true then 44 else pt)).toNat ++ beB 1 ho.toNat)) = H at *
    have as (x : List UInt8) : H ++ (fr ++ (to ++ (P ++ x))) = (H ++ (fr ++ (to ++ P))) ++ x := by simp only [List.append_assoc]
    rw [as da, as (da.take (8 + m))]
    have hl : (H ++ (fr ++ (to ++ P))).length = 40 + bh6 ex fg [] := by simp only [List.length_append, hH, hfr, hto, hP]; omega
    rw [List.take_append, List.take_of_length_le (by omega), hl]
    congr 2
    omega
  obtain ⟨j1, j2, j3⟩ := inside_p6 ok hid hfr hto (T := da.take (8 + m)) (by omega) (by omega) hcut
  have h2 := ev_inside6 hS (n + 3) ((by6 cl fl ho fr to ex fg id at' mo pt da).take (40 + bh6 ex fg da - da.length + (8 + m))) (by rw [List.length_take]; omega)
  rw [j1, j2, j3] at h2
  generalize hBy : by6 cl fl ho fr to ex fg id at' mo pt da = B at *
  have hBl : B.length = 40 + bh6 ex fg da := hlen
  have e7 : IntKind.i64.wrap ((B.length : Int) - (da.length : Int)) = ((40 + bh6 ex fg da - da.length : Nat) : Int) := by rw [wrap_id (by omega) (by omega)]; omega
  have e8 : IntKind.i64.wrap (((40 + bh6 ex fg da - da.length : Nat) : Int) + ((8 + m : Nat) : Int)) = ((40 + bh6 ex fg da - da.length + (8 + m) : Nat) : Int) := by rw [wrap_id (by omega) (by omega)]; omega
  have l1 : 40 + bh6 ex fg da - da.length + (8 + m) ≤ B.length := by omega
  have l2 : 8 + m ≤ da.length := by omega
  generalize 40 + bh6 ex fg da - da.length + (8 + m) = J at *
  generalize 40 + bh6 ex fg da - da.length = J0 at *
  have rg := ok.rg
  have hc65 : da.length ≤ 65535 := by omega
  have hat8 : 0 ≤ at' ∧ at' ≤ 65528 ∧ at' % 8 = 0 := by
    have h8 := hat.2
    rw [Int.tmod_eq_emod_of_nonneg hat.1.1] at h8
    exact ⟨hat.1.1, hat.1.2, h8⟩
  have hq1' := ev_quote4 hS (n + 1) (cl := cl) (fl := fl) (ho := ho) (fr := fr) (to := to) (ex := ex) (fg := fg) (id := id) (at' := at') (mo := mo) (pt := pt) (da := da) (a := a) (b := b) (claim := da.length) (p := p) (q := q) hfr hto ha hb rg.1 rg.2.2.1 (by omega) hat8 (Nat.le_refl _) hc65
  have hq2' := ev_quote4 hS (n + 1) (cl := cl) (fl := fl) (ho := ho) (fr := fr) (to := to) (ex := ex) (fg := fg) (id := id) (at' := at') (mo := mo) (pt := pt) (da := da.take (8 + m)) (a := a) (b := b) (claim := da.length) (p := p) (q := q) hfr hto ha hb rg.1 rg.2.2.1 (by omega) hat8 (by omega) hc65
  obtain ⟨t, u, r1, r2, r3, r4⟩ := quote4_cut (cl := cl) (ho := ho) (pt := pt) (at' := at') (fg := fg) (mo := mo) (id := id) (fr := fr) (to := to) (d := da) (a := a) (b := b) (claim := da.length) (m := 8 + m) (p := p) (q := q) ha hb (by omega) l2 hat8.1
  rw [r1] at hq1'
  rw [r2] at hq2'
  rw [hxl] at hB h1 h2 hq1' hq2'
  generalize q4K pt at' da.length p q = K at *
  have lt' : ¬ (t.length : Int) < (u.length : Int) := by omega
  have r3' : u.length ≤ t.length := r3
  have fin : (decide (pt = 6) && decide (((8 + m : Nat) : Int) = 17) && decide (at' = 0) || decide (u = t.take u.length)) = true := by
    by_cases d1 : pt = 6 ∧ 8 + m = 17 ∧ at' = 0
    · have d2 : ((8 + m : Nat) : Int) = 17 := by omega
      rw [decide_eq_true d1.1, decide_eq_true d2, decide_eq_true d1.2.2]; rfl
    · rw [decide_eq_true (r4 d1).symm, Bool.or_true]
  by_cases kk : K = 0
  · rw [kk] at hq1' hq2'
    simp only [go_sem, ↓reduceIte, reduceCtorEq, upd_ne, back_new (no_at), Nat.reduceAdd, Nat.reduceEqDiff, Nat.reduceMul, Nat.reduceSub, Nat.reduceLeDiff, Nat.reduceLT, Int.reduceToNat, Int.reduceLE, Int.reduceLT, Int.reduceEq, UInt8.reduceOfNat, List.getElem?_map, Int.toNat_natCast, List.length_map, hw, hfr, hto, ha, hb, c1, c2, c3, hB, wC, wp, wq, e3, e5, e6, e7, e8, hne, h1, h2, l1, l2, hT, hq1', hq2', lt', r3', fE, Nat.sub_zero, List.drop_zero, decide_true, beq_self_eq_true]
    rw [fin]; rfl
  · unfold fE at hq1' hq2'
    rw [if_neg kk] at hq1' hq2'
    simp only [go_sem, ↓reduceIte, reduceCtorEq, upd_ne, back_new (no_at), Nat.reduceAdd, Nat.reduceEqDiff, Nat.reduceMul, Nat.reduceSub, Nat.reduceLeDiff, Nat.reduceLT, Int.reduceToNat, Int.reduceLE, Int.reduceLT, Int.reduceEq, UInt8.reduceOfNat, List.getElem?_map, Int.toNat_natCast, List.length_map, hw, hfr, hto, ha, hb, c1, c2, c3, hB, wC, wp, wq, e3, e5, e6, e7, e8, hne, h1, h2, l1, l2, hT, hq1', hq2', lt', r3', fE, Nat.sub_zero, List.drop_zero, decide_true, beq_self_eq_true]
    rw [fin]; rfl
end
end Go.Ev
