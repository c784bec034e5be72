/- Part 3 of a proof: what the functions yield. It stands by itself; no condition. -/
import Derived.Test.YtdoodlfmmjglcaaE0
import Derived.Test.YtdoodlfmmjglcaaProg
namespace Go.Ev
open Go.Proofs
set_option linter.unusedVariables false
set_option maxRecDepth 100000
def id_interpreterlaw17_RefragJoinsSix : Nat := 4
def id_interpreterlaw17_Great4 : Nat := 5
def id_interpreterlaw17_wakes : Nat := 6
def id_refrag_Cut4 : Nat := 7
def id_frag_New : Nat := 8
def id_ip4_Bytes : Nat := 9
def id_frag_Store_Put : Nat := 11
def id_interpreterlaw17_Great6 : Nat := 12
def id_refrag_Cut6 : Nat := 13
def id_ip6_Bytes : Nat := 14
def id_ip6_Parse : Nat := 15
def id_interpreterlaw17_same6 : Nat := 16
def id_interpreterlaw17_four : Nat := 17
def id_interpreterlaw17_six : Nat := 18
def id_refrag_Len4 : Nat := 19
def id_refrag_pieces : Nat := 20
def id_ip4_why : Nat := 21
def id_ip4_fault : Nat := 22
def id_ip4_big : Nat := 23
def id_sum_Of : Nat := 24
def id_frag_Store_none : Nat := 27
def id_frag_Right : Nat := 28
def id_slices_ContainsFunc_frag_Piece_frag_Piece : Nat := 29
def id_frag_Piece_same : Nat := 30
def id_frag_datagram_fits : Nat := 31
def id_frag_Store_cut : Nat := 32
def id_frag_Store_takes : Nat := 33
def id_frag_datagram_whole : Nat := 34
def id_refrag_Len6 : Nat := 35
def id_slices_Clone_api_Ext_api_Ext : Nat := 36
def id_ip6_why : Nat := 37
def id_ip6_fault : Nat := 38
def id_ip6_big : Nat := 39
def id_num_New : Nat := 40
def id_num_Reader_U32 : Nat := 41
def id_ip6_Chain : Nat := 42
def id_ip6_pieced : Nat := 43
def id_ip4_byteful : Nat := 44
def id_num_Big : Nat := 45
def id_sum_fold : Nat := 46
def id_sum_add : Nat := 47
def id_slices_IndexFunc_frag_Piece_frag_Piece : Nat := 48
def id_frag_Piece_to : Nat := 49
def id_frag_datagram_fits_1 : Nat := 50
def id_frag_datagram_head : Nat := 51
def id_slices_SortStableFunc_frag_Piece_frag_Piece : Nat := 52
def id_frag_datagram_whole_1 : Nat := 53
def id_cmp_Or_int : Nat := 54
def id_cmp_Compare_int : Nat := 55
def id_ip6_within : Nat := 56
def id_ip6_kinds : Nat := 57
def id_ip6_formed : Nat := 58
def id_ip6_size : Nat := 59
def id_num_Reader_number : Nat := 60
def id_ip6_extends : Nat := 61
def id_slices_stableCmpFunc_frag_Piece : Nat := 62
def id_cmp_isNaN_int : Nat := 63
def id_num_Reader_Text : Nat := 64
def id_slices_insertionSortCmpFunc_frag_Piece : Nat := 65
def id_slices_symMergeCmpFunc_frag_Piece : Nat := 66
def id_slices_rotateCmpFunc_frag_Piece : Nat := 67
def id_slices_swapRangeCmpFunc_frag_Piece : Nat := 68
def ty_bool : Nat := 4
def ty_ptr_num_Fault : Nat := 105
noncomputable def c_interpreterlaw17_RefragJoinsSix : MFn := (compile Try.prog {bx := [4], hc := [46, 145]} Try.f4).getD default
noncomputable def c_interpreterlaw17_Great4 : MFn := (compile Try.prog {} Try.f5).getD default
noncomputable def c_interpreterlaw17_wakes : MFn := (compile Try.prog {} Try.f6).getD default
noncomputable def c_refrag_Cut4 : MFn := (compile Try.prog {nilT := [8]} Try.f7).getD default
noncomputable def c_frag_New : MFn := (compile Try.prog {hs := [25, 1000000, 22, 1000001, 23, 1000002]} Try.f8).getD default
noncomputable def c_ip4_Bytes : MFn := (compile Try.prog {} Try.f9).getD default
noncomputable def c_frag_Store_Put : MFn := (compile Try.prog {hc := [13, 46, 53, 59, 126, 108, 119]} Try.f11).getD default
noncomputable def c_interpreterlaw17_Great6 : MFn := (compile Try.prog {} Try.f12).getD default
noncomputable def c_refrag_Cut6 : MFn := (compile Try.prog {bx := [3], nilT := [11]} Try.f13).getD default
noncomputable def c_ip6_Bytes : MFn := (compile Try.prog {} Try.f14).getD default
noncomputable def c_ip6_Parse : MFn := (compile Try.prog {cw := [42, 109], cf := [41, 108]} Try.f15).getD default
noncomputable def c_interpreterlaw17_same6 : MFn := (compile Try.prog {} Try.f16).getD default
noncomputable def c_interpreterlaw17_four : MFn := (compile Try.prog {} Try.f17).getD default
noncomputable def c_interpreterlaw17_six : MFn := (compile Try.prog {} Try.f18).getD default
noncomputable def c_refrag_Len4 : MFn := (compile Try.prog {} Try.f19).getD default
noncomputable def c_refrag_pieces : MFn := (compile Try.prog {nilT := [5]} Try.f20).getD default
noncomputable def c_ip4_why : MFn := (compile Try.prog {} Try.f21).getD default
noncomputable def c_ip4_fault : MFn := (compile Try.prog {} Try.f22).getD default
noncomputable def c_ip4_big : MFn := (compile Try.prog {} Try.f23).getD default
noncomputable def c_sum_Of : MFn := (compile Try.prog {} Try.f24).getD default
noncomputable def c_frag_Store_none : MFn := (compile Try.prog {} Try.f27).getD default
noncomputable def c_frag_Right : MFn := (compile Try.prog {} Try.f28).getD default
noncomputable def c_slices_ContainsFunc_frag_Piece_frag_Piece : MFn := (compile Try.prog {hc := [7]} Try.f29).getD default
noncomputable def c_frag_Piece_same : MFn := (compile Try.prog {} Try.f30).getD default
noncomputable def c_frag_datagram_fits : MFn := (compile Try.prog {hc := [29]} Try.f31).getD default
noncomputable def c_frag_Store_cut : MFn := (compile Try.prog {} Try.f32).getD default
noncomputable def c_frag_Store_takes : MFn := (compile Try.prog {hs := [33, 1000003, 48, 1000004]} Try.f33).getD default
noncomputable def c_frag_datagram_whole : MFn := (compile Try.prog {hr := [22], hc := [28]} Try.f34).getD default
noncomputable def c_refrag_Len6 : MFn := (compile Try.prog {} Try.f35).getD default
noncomputable def c_slices_Clone_api_Ext_api_Ext : MFn := (compile Try.prog {} Try.f36).getD default
noncomputable def c_ip6_why : MFn := (compile Try.prog {} Try.f37).getD default
noncomputable def c_ip6_fault : MFn := (compile Try.prog {} Try.f38).getD default
noncomputable def c_ip6_big : MFn := (compile Try.prog {} Try.f39).getD default
noncomputable def c_num_New : MFn := (compile Try.prog {bx := [5]} Try.f40).getD default
noncomputable def c_num_Reader_U32 : MFn := (compile Try.prog {cw := [5]} Try.f41).getD default
noncomputable def c_ip6_Chain : MFn := (compile Try.prog {} Try.f42).getD default
noncomputable def c_ip6_pieced : MFn := (compile Try.prog {} Try.f43).getD default
noncomputable def c_ip4_byteful : MFn := (compile Try.prog {} Try.f44).getD default
noncomputable def c_num_Big : MFn := (compile Try.prog {} Try.f45).getD default
noncomputable def c_sum_fold : MFn := (compile Try.prog {} Try.f46).getD default
noncomputable def c_sum_add : MFn := (compile Try.prog {} Try.f47).getD default
noncomputable def c_slices_IndexFunc_frag_Piece_frag_Piece : MFn := (compile Try.prog {} Try.f48).getD default
noncomputable def c_frag_Piece_to : MFn := (compile Try.prog {} Try.f49).getD default
noncomputable def c_frag_datagram_fits_1 : MFn := (compile Try.prog {} Try.f50).getD default
noncomputable def c_frag_datagram_head : MFn := (compile Try.prog {} Try.f51).getD default
noncomputable def c_slices_SortStableFunc_frag_Piece_frag_Piece : MFn := (compile Try.prog {hc := [8]} Try.f52).getD default
noncomputable def c_frag_datagram_whole_1 : MFn := (compile Try.prog {} Try.f53).getD default
noncomputable def c_cmp_Or_int : MFn := (compile Try.prog {} Try.f54).getD default
noncomputable def c_cmp_Compare_int : MFn := (compile Try.prog {} Try.f55).getD default
noncomputable def c_ip6_within : MFn := (compile Try.prog {} Try.f56).getD default
noncomputable def c_ip6_kinds : MFn := (compile Try.prog {} Try.f57).getD default
noncomputable def c_ip6_formed : MFn := (compile Try.prog {} Try.f58).getD default
noncomputable def c_ip6_size : MFn := (compile Try.prog {} Try.f59).getD default
noncomputable def c_num_Reader_number : MFn := (compile Try.prog {cw := [13]} Try.f60).getD default
noncomputable def c_ip6_extends : MFn := (compile Try.prog {} Try.f61).getD default
noncomputable def c_slices_stableCmpFunc_frag_Piece : MFn := (compile Try.prog {hc := [18, 27, 43, 60]} Try.f62).getD default
noncomputable def c_cmp_isNaN_int : MFn := (compile Try.prog {} Try.f63).getD default
noncomputable def c_num_Reader_Text : MFn := (compile Try.prog {} Try.f64).getD default
noncomputable def c_slices_insertionSortCmpFunc_frag_Piece : MFn := (compile Try.prog {} Try.f65).getD default
noncomputable def c_slices_symMergeCmpFunc_frag_Piece : MFn := (compile Try.prog {hc := [191, 205, 219]} Try.f66).getD default
noncomputable def c_slices_rotateCmpFunc_frag_Piece : MFn := (compile Try.prog {hc := [31, 46, 57]} Try.f67).getD default
noncomputable def c_slices_swapRangeCmpFunc_frag_Piece : MFn := (compile Try.prog {} Try.f68).getD default
end Go.Ev
