/- Part 7 of a proof: what the functions yield. It stands by itself; no condition. -/
import Derived.Test.YtppeglipnioedaaE4
import Derived.Test.YtppeglipnioedaaE6
import Derived.Test.YtppeglipnioedaaE2
import Derived.Test.YtppeglipnioedaaProg
/- The system is this program's. -/
namespace Go.Ev
open Go.Proofs
set_option maxRecDepth 100000
theorem comp_interpreterlaw05_UdpWrites : compile Try.prog {} Try.f3 = some c_interpreterlaw05_UdpWrites := by kernel_rfl
theorem comp_interpreterlaw05_UdpReads : compile Try.prog {} Try.f4 = some c_interpreterlaw05_UdpReads := by kernel_rfl
theorem comp_interpreterlaw05_UdpBack : compile Try.prog {} Try.f5 = some c_interpreterlaw05_UdpBack := by kernel_rfl
theorem comp_interpreterlaw05_UdpMoves : compile Try.prog {} Try.f6 = some c_interpreterlaw05_UdpMoves := by kernel_rfl
theorem comp_interpreterlaw06_TcpKnown : compile Try.prog {} Try.f7 = some c_interpreterlaw06_TcpKnown := by kernel_rfl
theorem comp_interpreterlaw06_TcpWrites : compile Try.prog {} Try.f8 = some c_interpreterlaw06_TcpWrites := by kernel_rfl
theorem comp_interpreterlaw06_TcpReads : compile Try.prog {} Try.f9 = some c_interpreterlaw06_TcpReads := by kernel_rfl
theorem comp_interpreterlaw06_TcpBack : compile Try.prog {} Try.f10 = some c_interpreterlaw06_TcpBack := by kernel_rfl
theorem comp_interpreterlaw06_TcpAgain : compile Try.prog {} Try.f11 = some c_interpreterlaw06_TcpAgain := by kernel_rfl
theorem comp_interpreterlaw06_TcpMoves : compile Try.prog {} Try.f12 = some c_interpreterlaw06_TcpMoves := by kernel_rfl
theorem comp_interpreterlaw05_UdpKnown : compile Try.prog {} Try.f13 = some c_interpreterlaw05_UdpKnown := by kernel_rfl
theorem comp_interpreterlaw05_awake : compile Try.prog {} Try.f14 = some c_interpreterlaw05_awake := by kernel_rfl
theorem comp_udp_Bytes : compile Try.prog {} Try.f15 = some c_udp_Bytes := by kernel_rfl
theorem comp_interpreterref05_Bytes : compile Try.prog {} Try.f16 = some c_interpreterref05_Bytes := by kernel_rfl
theorem comp_interpreterlaw05_same : compile Try.prog {} Try.f17 = some c_interpreterlaw05_same := by kernel_rfl
theorem comp_udp_Parse : compile Try.prog {} Try.f18 = some c_udp_Parse := by kernel_rfl
theorem comp_interpreterref05_Parse : compile Try.prog {} Try.f19 = some c_interpreterref05_Parse := by kernel_rfl
theorem comp_udp_Check : compile Try.prog {} Try.f20 = some c_udp_Check := by kernel_rfl
theorem comp_interpreterref05_Check : compile Try.prog {} Try.f21 = some c_interpreterref05_Check := by kernel_rfl
theorem comp_sum_Right : compile Try.prog {} Try.f22 = some c_sum_Right := by kernel_rfl
theorem comp_tcp_Parse : compile Try.prog {} Try.f23 = some c_tcp_Parse := by kernel_rfl
theorem comp_interpreterlaw06_raw : compile Try.prog {} Try.f24 = some c_interpreterlaw06_raw := by kernel_rfl
theorem comp_tcp_Bytes : compile Try.prog {} Try.f26 = some c_tcp_Bytes := by kernel_rfl
theorem comp_interpreterlaw06_awake : compile Try.prog {} Try.f27 = some c_interpreterlaw06_awake := by kernel_rfl
theorem comp_interpreterlaw06_same : compile Try.prog {} Try.f28 = some c_interpreterlaw06_same := by kernel_rfl
theorem comp_interpreterref06_Bytes : compile Try.prog {} Try.f29 = some c_interpreterref06_Bytes := by kernel_rfl
theorem comp_interpreterref06_Parse : compile Try.prog {} Try.f30 = some c_interpreterref06_Parse := by kernel_rfl
theorem comp_tcp_Check : compile Try.prog {} Try.f31 = some c_tcp_Check := by kernel_rfl
theorem comp_interpreterref06_Check : compile Try.prog {} Try.f32 = some c_interpreterref06_Check := by kernel_rfl
theorem comp_sum_Update : compile Try.prog {} Try.f33 = some c_sum_Update := by kernel_rfl
theorem comp_num_Big : compile Try.prog {} Try.f34 = some c_num_Big := by kernel_rfl
theorem comp_udp_fault : compile Try.prog {} Try.f35 = some c_udp_fault := by kernel_rfl
theorem comp_sum_Of : compile Try.prog {} Try.f36 = some c_sum_Of := by kernel_rfl
theorem comp_interpreterref05_two : compile Try.prog {} Try.f37 = some c_interpreterref05_two := by kernel_rfl
theorem comp_interpreterref02_Of : compile Try.prog {} Try.f38 = some c_interpreterref02_Of := by kernel_rfl
theorem comp_udp_two : compile Try.prog {} Try.f39 = some c_udp_two := by kernel_rfl
theorem comp_interpreterref02_Words : compile Try.prog {nilT := [3]} Try.f40 = some c_interpreterref02_Words := by kernel_rfl
theorem comp_tcp_fault : compile Try.prog {} Try.f41 = some c_tcp_fault := by kernel_rfl
theorem comp_tcp_two : compile Try.prog {} Try.f42 = some c_tcp_two := by kernel_rfl
theorem comp_sum_fold : compile Try.prog {} Try.f49 = some c_sum_fold := by kernel_rfl
theorem comp_sum_add : compile Try.prog {} Try.f50 = some c_sum_add := by kernel_rfl
theorem comp_sum_even : compile Try.prog {} Try.f51 = some c_sum_even := by kernel_rfl
theorem comp_interpreterref02_Total : compile Try.prog {} Try.f52 = some c_interpreterref02_Total := by kernel_rfl
theorem rep_extra : Builder.Extra Try.prog Try.laysRepeat_ren where
  sizeBuilder := by kernel_rfl
  liesBuilder := by kernel_rfl
  t5 := Try.laysRepeat.t5
  a5 := Try.laysRepeat.a5
  z5 := Try.laysRepeat.z5
  v5 := Try.laysRepeat.v5
  infoByte := by kernel_rfl
  cellsByte := by kernel_rfl
  sizeByte := by kernel_rfl
  neB5 := by decide
theorem rep_id : Try.laysRepeat_ren.f 105 = id_strings_Repeat := by kernel_rfl
theorem rep_ok : CallOk Try.prog (extR id_strings_Repeat) :=
  extR_ok ⟨Try.f25, Try.func25, by kernel_rfl, of_decide_eq_true (by kernel_rfl)⟩ (fun s c w h1 h2 => by
    have := Any.strings_Repeat Try.laysRepeat rep_extra s c w h1 h2
    rwa [rep_id] at this)
theorem names_ok : ((table.map (·.1)).all fun i => ((Try.prog.funcs[i]?).map fun fn => fn.name != "runtime.NumGoroutine").getD false) = true := by kernel_rfl
theorem name_ok {i : Nat} {c : MFn} {fn : Func} (h : (i, c) ∈ table) (hf : Try.prog.funcs[i]? = some fn) : fn.name ≠ "runtime.NumGoroutine" := by
  have := List.all_eq_true.1 names_ok i (List.mem_map.2 ⟨(i, c), h, rfl⟩)
  rw [hf] at this
  simpa using this
theorem table_ok : ∀ p ∈ table, ∃ fn ann, Try.prog.funcs[p.1]? = some fn ∧ compile Try.prog ann fn = some p.2 := by
  unfold table
  simp only [List.forall_mem_cons]
  exact ⟨⟨Try.f3, _, Try.func3, comp_interpreterlaw05_UdpWrites⟩, ⟨Try.f4, _, Try.func4, comp_interpreterlaw05_UdpReads⟩, ⟨Try.f5, _, Try.func5, comp_interpreterlaw05_UdpBack⟩, ⟨Try.f6, _, Try.func6, comp_interpreterlaw05_UdpMoves⟩, ⟨Try.f7, _, Try.func7, comp_interpreterlaw06_TcpKnown⟩, ⟨Try.f8, _, Try.func8, comp_interpreterlaw06_TcpWrites⟩, ⟨Try.f9, _, Try.func9, comp_interpreterlaw06_TcpReads⟩, ⟨Try.f10, _, Try.func10, comp_interpreterlaw06_TcpBack⟩, ⟨Try.f11, _, Try.func11, comp_interpreterlaw06_TcpAgain⟩, ⟨Try.f12, _, Try.func12, comp_interpreterlaw06_TcpMoves⟩, ⟨Try.f13, _, Try.func13, comp_interpreterlaw05_UdpKnown⟩, ⟨Try.f14, _, Try.func14, comp_interpreterlaw05_awake⟩, ⟨Try.f15, _, Try.func15, comp_udp_Bytes⟩, ⟨Try.f16, _, Try.func16, comp_interpreterref05_Bytes⟩, ⟨Try.f17, _, Try.func17, comp_interpreterlaw05_same⟩, ⟨Try.f18, _, Try.func18, comp_udp_Parse⟩, ⟨Try.f19, _, Try.func19, comp_interpreterref05_Parse⟩, ⟨Try.f20, _, Try.func20, comp_udp_Check⟩, ⟨Try.f21, _, Try.func21, comp_interpreterref05_Check⟩, ⟨Try.f22, _, Try.func22, comp_sum_Right⟩, ⟨Try.f23, _, Try.func23, comp_tcp_Parse⟩, ⟨Try.f24, _, Try.func24, comp_interpreterlaw06_raw⟩, ⟨Try.f26, _, Try.func26, comp_tcp_Bytes⟩, ⟨Try.f27, _, Try.func27, comp_interpreterlaw06_awake⟩, ⟨Try.f28, _, Try.func28, comp_interpreterlaw06_same⟩, ⟨Try.f29, _, Try.func29, comp_interpreterref06_Bytes⟩, ⟨Try.f30, _, Try.func30, comp_interpreterref06_Parse⟩, ⟨Try.f31, _, Try.func31, comp_tcp_Check⟩, ⟨Try.f32, _, Try.func32, comp_interpreterref06_Check⟩, ⟨Try.f33, _, Try.func33, comp_sum_Update⟩, ⟨Try.f34, _, Try.func34, comp_num_Big⟩, ⟨Try.f35, _, Try.func35, comp_udp_fault⟩, ⟨Try.f36, _, Try.func36, comp_sum_Of⟩, ⟨Try.f37, _, Try.func37, comp_interpreterref05_two⟩, ⟨Try.f38, _, Try.func38, comp_interpreterref02_Of⟩, ⟨Try.f39, _, Try.func39, comp_udp_two⟩, ⟨Try.f40, _, Try.func40, comp_interpreterref02_Words⟩, ⟨Try.f41, _, Try.func41, comp_tcp_fault⟩, ⟨Try.f42, _, Try.func42, comp_tcp_two⟩, ⟨Try.f49, _, Try.func49, comp_sum_fold⟩, ⟨Try.f50, _, Try.func50, comp_sum_add⟩, ⟨Try.f51, _, Try.func51, comp_sum_even⟩, ⟨Try.f52, _, Try.func52, comp_interpreterref02_Total⟩, by simp⟩
theorem sysOk : SysOk Try.prog sys where
  fns := fun f c h => by
    obtain ⟨⟨i, m⟩, h1, h2⟩ := Option.map_eq_some_iff.1 h
    have h3 := List.find?_some h1
    have h4 := List.mem_of_find?_eq_some h1
    simp only [beq_iff_eq] at h3
    subst h3
    have h2 : m = c := h2
    subst h2
    obtain ⟨fn, ann, k1, k2⟩ := table_ok _ h4
    exact ⟨fn, ann, k1, name_ok h4 k1, k2⟩
  ext := rep_ok
theorem mixed : Try.prog.follows .mixedOrders = true := by kernel_rfl
end Go.Ev
