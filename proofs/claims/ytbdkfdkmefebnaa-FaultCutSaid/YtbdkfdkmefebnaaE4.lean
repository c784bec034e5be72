/- Part 4 of a proof: what the functions yield. It stands by itself; no condition. -/
import Derived.Test.YtbdkfdkmefebnaaE3
import Derived.KernelRfl
/- The functions, in plain Lean. -/
namespace Go.Ev.Q
section
variable {R : Type}
noncomputable abbrev fA (a b : Nat) (x : LV) (K : LV → Option R) : Option R := (pr.fieldAddr a b x).bind K
noncomputable abbrev l1 (s : Slots) (x : LV) (K : LV → Option R) : Option R := (pr.load 1 false s x).bind K
noncomputable abbrev lA (n : Nat) (s : Slots) (x : LV) (K : LV → Option R) : Option R := (pr.load n true s x).bind K
noncomputable abbrev gT (t : LV) (X : Option LV) (K : LV → Option R) : Option R := (pr.guard t true).bind fun b => (if b = true then X else some LV.undef).bind K
noncomputable abbrev gF (t : LV) (X : Option LV) (K : LV → Option R) : Option R := (pr.guard t false).bind fun b => (if b = true then X else some LV.undef).bind K
noncomputable abbrev bn (o : BinOp) (x y : LV) (K : LV → Option R) : Option R := (pr.bin o x y).bind K
noncomputable abbrev cl (g : Call) (f : FuncId) (s : Slots) (l : List LV) (K : LV → Option R) : Option R := (pr.call g f s l).bind K
noncomputable abbrev ex (x : LV) (i : Nat) (K : LV → Option R) : Option R := (pr.extract x i).bind K
noncomputable abbrev ln (x : LV) (K : LV → Option R) : Option R := (pr.len true x).bind K
noncomputable abbrev pT (t x : LV) (K : LV → Option R) : Option R := (pr.pick t x (LV.bool false)).bind K
noncomputable abbrev pF (t x : LV) (K : LV → Option R) : Option R := (pr.pick t (LV.bool true) x).bind K
noncomputable abbrev sA (n : Nat) (s : Slots) (x y : LV) (K : LV × Slots → Option R) : Option R := (pr.store n true s x y).bind K
noncomputable abbrev s1 (s : Slots) (x y : LV) (K : LV × Slots → Option R) : Option R := (pr.store 1 false s x y).bind K
noncomputable abbrev nt (x : LV) (K : LV → Option R) : Option R := (pr.un .not x).bind K
noncomputable abbrev bx (x : LV) (K : LV → Option R) : Option R := (pr.box x).bind K
noncomputable abbrev xS (x y : LV) (K : LV → Option R) : Option R := (pr.idxStr x y).bind K
noncomputable abbrev eN (k : Nat) (w : Bool) (x : LV) (K : LV → Option R) : Option R := (pr.eqNil k w x).bind K
noncomputable abbrev sV (n : Nat) (s : Slots) (x : LV) (y z : Option LV) (K : LV → Option R) : Option R := (pr.slcArr n s x y z).bind K
noncomputable abbrev bS (s : Slots) (x : LV) (K : LV → Option R) : Option R := (pr.b2s s x).bind K
noncomputable abbrev sl (x : LV) (y z : Option LV) (K : LV → Option R) : Option R := (pr.slc 0 x y z).bind K
end
end Go.Ev.Q
open Go.Ev.Q
namespace Go.Ev
set_option linter.unusedVariables false
set_option maxRecDepth 100000
/-- interpreter/interpreterlaw15.FaultCut -/
noncomputable def F_interpreterlaw15_FaultCut (g : Call) (a0 : LV) (a1 : LV) (a2 : LV) (a3 : LV) (a4 : LV) (a5 : LV) (a6 : LV) (a7 : LV) : Option (LV × Option LV) :=
 bx a0 fun v0 =>
 bx a1 fun v1 =>
 bx a4 fun v2 =>
 bx a5 fun v3 =>
 bx a6 fun v4 =>
 bx a7 fun v5 =>
 cl g id_interpreterlaw15_awake noSlots [] fun v7 =>
 nt v7 fun v8 =>
 condK v8 (
 pr.fin none noSlots [(LV.bool false)]) (
 fA 3 3 v0 fun v10 =>
 l1 noSlots v10 fun v11 =>
 ln v11 fun v12 =>
 bn .gtr v12 (LV.int .i64 70000) fun v13 =>
 gF v13 (pr.fieldAddr 3 3 v1) fun v15 =>
 gF v13 (pr.load 1 false noSlots v15) fun v16 =>
 gF v13 (pr.len true v16) fun v17 =>
 gF v13 (pr.bin .gtr v17 (LV.int .i64 70000)) fun v18 =>
 pF v13 v18 fun v19 =>
 condK v19 (
 pr.fin none noSlots [(LV.bool true)]) (
 lA 4 noSlots v0 fun v21 =>
 lA 17 noSlots v2 fun v24 =>
 lA 17 noSlots v3 fun v25 =>
 cl g id_fault_Carry6 noSlots [v21, a2, a3, v24, v25] fun v26 =>
 ex v26 0 fun v28 =>
 ex v26 1 fun v29 =>
 (pr.alloc (LV.agg [(LV.int .i64 0), (LV.int .i64 0), (LV.int .u32 0), (LV.str [])]) 17 noSlots).bind fun v30 =>
 sA 4 v30.2 v30.1 v28 fun v31 =>
 gT v29 (pr.load 4 true v31.2 v30.1) fun v35 =>
 gT v29 (pr.call g id_icmp6_Failure v31.2 [v35]) fun v36 =>
 gT v29 (pr.un .not v36) fun v37 =>
 gT v29 (some v37) fun v38 =>
 gF v38 (pr.fieldAddr 3 3 v30.1) fun v39 =>
 gF v38 (pr.load 1 false v31.2 v39) fun v40 =>
 gF v38 (pr.len true v40) fun v41 =>
 gF v38 (pr.bin .gtr v41 (LV.int .i64 1232)) fun v42 =>
 gT v29 (pr.pick v38 (LV.bool true) v42) fun v43 =>
 gT v29 (some v43) fun v44 =>
 gF v44 (pr.fieldAddr 3 3 v30.1) fun v45 =>
 gF v44 (pr.load 1 false v31.2 v45) fun v46 =>
 gF v44 (pr.len true v46) fun v47 =>
 gF v44 (pr.bin .lss v47 (LV.int .i64 40)) fun v48 =>
 gT v29 (pr.pick v44 (LV.bool true) v48) fun v49 =>
 gT v29 (some v49) fun v50 =>
 gF v50 (pr.load 4 true v31.2 v0) fun v51 =>
 gF v50 (pr.call g id_icmp4_Failure v31.2 [v51]) fun v52 =>
 gF v50 (pr.un .not v52) fun v53 =>
 gT v29 (pr.pick v50 (LV.bool true) v53) fun v54 =>
 pT v29 v54 fun v55 =>
 gF v55 (some v29) fun v57 =>
 gF v55 (pr.un .not v57) fun v58 =>
 gF v55 (some v58) fun v59 =>
 gT v59 (pr.load 4 true v31.2 v30.1) fun v60 =>
 gT v59 (pr.parts (LV.agg [(LV.int .i64 0), (LV.int .i64 0), (LV.int .u32 0), (LV.str [])]) []) fun v61 =>
 gT v59 (pr.eqS (Sh.agg [(Sh.int .i64), (Sh.int .i64), (Sh.int .u32), Sh.str]) true v60 v61) fun v62 =>
 gF v55 (pr.pick v59 v62 (LV.bool false)) fun v63 =>
 pF v55 v63 fun v64 =>
 condK v64 (
 pr.fin none v31.2 [(LV.bool false)]) (
 lA 4 v31.2 v1 fun v66 =>
 lA 5 v31.2 v4 fun v69 =>
 lA 5 v31.2 v5 fun v70 =>
 cl g id_fault_Carry4 v31.2 [v66, a2, a3, v69, v70] fun v71 =>
 ex v71 0 fun v73 =>
 ex v71 1 fun v74 =>
 (pr.alloc (LV.agg [(LV.int .i64 0), (LV.int .i64 0), (LV.int .u32 0), (LV.str [])]) 19 v31.2).bind fun v75 =>
 sA 4 v75.2 v75.1 v73 fun v76 =>
 nt v74 fun v79 =>
 condK v79 (
 lA 4 v76.2 v75.1 fun v80 =>
 (pr.parts (LV.agg [(LV.int .i64 0), (LV.int .i64 0), (LV.int .u32 0), (LV.str [])]) []).bind fun v81 =>
 (pr.eqS (Sh.agg [(Sh.int .i64), (Sh.int .i64), (Sh.int .u32), Sh.str]) false v80 v81).bind fun v82 =>
 pr.fin none v76.2 [v82]) (
 lA 4 v76.2 v75.1 fun v84 =>
 cl g id_icmp4_Failure v76.2 [v84] fun v85 =>
 gT v85 (pr.load 4 true v76.2 v1) fun v87 =>
 gT v85 (pr.call g id_icmp6_Failure v76.2 [v87]) fun v88 =>
 pT v85 v88 fun v89 =>
 gT v89 (pr.fieldAddr 3 3 v75.1) fun v91 =>
 gT v89 (pr.load 1 false v76.2 v91) fun v92 =>
 gT v89 (pr.len true v92) fun v93 =>
 gT v89 (pr.bin .geq v93 (LV.int .i64 20)) fun v94 =>
 pT v89 v94 fun v95 =>
 gT v95 (pr.fieldAddr 3 3 v75.1) fun v97 =>
 gT v95 (pr.load 1 false v76.2 v97) fun v98 =>
 gT v95 (pr.len true v98) fun v99 =>
 gT v95 (pr.bin .leq v99 (LV.int .i64 548)) fun v100 =>
 pT v95 v100 fun v101 =>
 gT v101 (pr.fieldAddr 3 3 v75.1) fun v103 =>
 gT v101 (pr.load 1 false v76.2 v103) fun v104 =>
 gT v101 (pr.len true v104) fun v105 =>
 gT v101 (some a2) fun v106 =>
 gT v101 (pr.bin .sub v106 (LV.int .i64 28)) fun v107 =>
 gT v101 (pr.bin .leq v105 v107) fun v108 =>
 pT v101 v108 fun v109 =>
 pr.fin none v76.2 [v109]))))
theorem F_interpreterlaw15_FaultCut_eq (g : Call) (a0 : LV) (a1 : LV) (a2 : LV) (a3 : LV) (a4 : LV) (a5 : LV) (a6 : LV) (a7 : LV) : fnEv g c_interpreterlaw15_FaultCut [a0, a1, a2, a3, a4, a5, a6, a7] none = F_interpreterlaw15_FaultCut g a0 a1 a2 a3 a4 a5 a6 a7 := by kernel_rfl

/-- interpreter/interpreterlaw15.gram -/
noncomputable def F_interpreterlaw15_gram (g : Call) (a0 : LV) : Option (LV × Option LV) :=
 (pr.alloc (LV.agg [(LV.int .i64 0), (LV.int .i64 0), (LV.int .i64 0), (LV.int .i64 0), (LV.int .i64 0), (LV.bool false), (LV.bool false), (LV.bytes [0, 0, 0, 0]), (LV.bytes [0, 0, 0, 0]), (LV.str []), (LV.str [])]) 2 noSlots).bind fun v0 =>
 (pr.parts (LV.bytes [0, 0, 0, 0]) [(0, (LV.int .u8 192)), (1, (LV.int .u8 0)), (2, (LV.int .u8 2)), (3, (LV.int .u8 1))]).bind fun v1 =>
 (pr.parts (LV.bytes [0, 0, 0, 0]) [(0, (LV.int .u8 192)), (1, (LV.int .u8 0)), (2, (LV.int .u8 2)), (3, (LV.int .u8 2))]).bind fun v2 =>
 cl g id_strings_Repeat v0.2 [(LV.str [120]), a0] fun v4 =>
 (pr.parts (LV.agg [(LV.int .i64 0), (LV.int .i64 0), (LV.int .i64 0), (LV.int .i64 0), (LV.int .i64 0), (LV.bool false), (LV.bool false), (LV.bytes [0, 0, 0, 0]), (LV.bytes [0, 0, 0, 0]), (LV.str []), (LV.str [])]) [(2, (LV.int .i64 9)), (3, (LV.int .i64 17)), (7, v1), (8, v2), (10, v4)]).bind fun v5 =>
 sA 17 v0.2 v0.1 v5 fun v6 =>
 lA 17 v6.2 v0.1 fun v7 =>
 pr.fin none v6.2 [v7]
theorem F_interpreterlaw15_gram_eq (g : Call) (a0 : LV) : fnEv g c_interpreterlaw15_gram [a0] none = F_interpreterlaw15_gram g a0 := by kernel_rfl

/-- interpreter/interpreterref03.Bytes -/
noncomputable def F_interpreterref03_Bytes (g : Call) (a0 : LV) : Option (LV × Option LV) :=
 bx a0 fun v0 =>
 lA 17 noSlots v0 fun v3 =>
 cl g id_interpreterref03_Why noSlots [v3] fun v4 =>
 bn .neq v4 (LV.int .i64 0) fun v7 =>
 condK v7 (
 pr.fin none noSlots [(LV.str []), v4]) (
 fA 9 15 v0 fun v11 =>
 l1 noSlots v11 fun v12 =>
 ln v12 fun v13 =>
 bn .add (LV.int .i64 20) v13 fun v14 =>
 fA 4 4 v0 fun v16 =>
 l1 noSlots v16 fun v17 =>
 bn .quo v17 (LV.int .i64 8) fun v18 =>
 fA 6 6 v0 fun v20 =>
 l1 noSlots v20 fun v21 =>
 condK v21 (
 bn .add v18 (LV.int .i64 8192) fun v23 =>
 fA 5 5 v0 fun v25 =>
 l1 noSlots v25 fun v26 =>
 condK v26 (
 bn .add v23 (LV.int .i64 16384) fun v28 =>
 fA 10 16 v0 fun v31 =>
 l1 noSlots v31 fun v32 =>
 ln v32 fun v33 =>
 bn .add v14 v33 fun v34 =>
 bn .quo v14 (LV.int .i64 4) fun v37 =>
 bn .add (LV.int .i64 64) v37 fun v38 =>
 (pr.conv .u8 v38).bind fun v39 =>
 fA 0 0 v0 fun v40 =>
 l1 noSlots v40 fun v41 =>
 (pr.conv .u8 v41).bind fun v42 =>
 bn .quo v34 (LV.int .i64 256) fun v44 =>
 (pr.conv .u8 v44).bind fun v45 =>
 bn .rem v34 (LV.int .i64 256) fun v47 =>
 (pr.conv .u8 v47).bind fun v48 =>
 fA 1 1 v0 fun v49 =>
 l1 noSlots v49 fun v50 =>
 bn .quo v50 (LV.int .i64 256) fun v51 =>
 (pr.conv .u8 v51).bind fun v52 =>
 fA 1 1 v0 fun v53 =>
 l1 noSlots v53 fun v54 =>
 bn .rem v54 (LV.int .i64 256) fun v55 =>
 (pr.conv .u8 v55).bind fun v56 =>
 bn .quo v28 (LV.int .i64 256) fun v58 =>
 (pr.conv .u8 v58).bind fun v59 =>
 bn .rem v28 (LV.int .i64 256) fun v61 =>
 (pr.conv .u8 v61).bind fun v62 =>
 fA 2 2 v0 fun v63 =>
 l1 noSlots v63 fun v64 =>
 (pr.conv .u8 v64).bind fun v65 =>
 fA 3 3 v0 fun v66 =>
 l1 noSlots v66 fun v67 =>
 (pr.conv .u8 v67).bind fun v68 =>
 (pr.bslM 12 [(0, v39), (1, v42), (2, v45), (3, v48), (4, v52), (5, v56), (6, v59), (7, v62), (8, v65), (9, v68), (10, (LV.int .u8 0)), (11, (LV.int .u8 0))] 70 noSlots).bind fun v69 =>
 (whileW (fun q72 : List LV × Slots =>
 bn .lss (getL q72.1 1) (LV.int .i64 4) fun v74 =>
 condK v74 (
 fA 7 7 v0 fun v77 =>
 (pr.idxAddr (some 4) 1 v77 (getL q72.1 1)).bind fun v78 =>
 l1 q72.2 v78 fun v79 =>
 (pr.bsl (LV.int .u8 0) 1 [(0, v79)]).bind fun v80 =>
 (pr.append 1 1 81 q72.2 (getL q72.1 0) v80).bind fun v81 =>
 bn .add (getL q72.1 1) (LV.int .i64 1) fun v84 =>
 pr.round v69.2 .normal [v81.1, v84] v81.2) (
 pr.round v69.2 (.exit 0) [(getL q72.1 0), (getL q72.1 1)] q72.2)) ([v69.1, (LV.int .i64 0)], v69.2)).bind fun r72 =>
 exIf r72.1 (.exit 0) (
 (whileW (fun q87 : List LV × Slots =>
 bn .lss (getL q87.1 1) (LV.int .i64 4) fun v89 =>
 condK v89 (
 fA 8 11 v0 fun v92 =>
 (pr.idxAddr (some 4) 1 v92 (getL q87.1 1)).bind fun v93 =>
 l1 q87.2 v93 fun v94 =>
 (pr.bsl (LV.int .u8 0) 1 [(0, v94)]).bind fun v95 =>
 (pr.append 1 1 92 q87.2 (getL q87.1 0) v95).bind fun v96 =>
 bn .add (getL q87.1 1) (LV.int .i64 1) fun v99 =>
 pr.round r72.2.2 .normal [v96.1, v99] v96.2) (
 pr.round r72.2.2 (.exit 2) [(getL q87.1 0), (getL q87.1 1)] q87.2)) ([(getL r72.2.1 0), (LV.int .i64 0)], r72.2.2)).bind fun r87 =>
 exIf r87.1 (.exit 2) (
 fA 9 15 v0 fun v102 =>
 l1 r87.2.2 v102 fun v103 =>
 (pr.append 1 1 96 r87.2.2 (getL r87.2.1 0) v103).bind fun v104 =>
 bS v104.2 v104.1 fun v107 =>
 cl g id_interpreterref02_Of v104.2 [v107] fun v108 =>
 bn .quo v108 (LV.int .i64 256) fun v112 =>
 (pr.conv .u8 v112).bind fun v113 =>
 (pr.idxAddr none 1 v104.1 (LV.int .i64 10)).bind fun v114 =>
 s1 v104.2 v114 v113 fun v115 =>
 bn .rem v108 (LV.int .i64 256) fun v118 =>
 (pr.conv .u8 v118).bind fun v119 =>
 (pr.idxAddr none 1 v104.1 (LV.int .i64 11)).bind fun v120 =>
 s1 v115.2 v120 v119 fun v121 =>
 bS v121.2 v104.1 fun v123 =>
 fA 10 16 v0 fun v124 =>
 l1 v121.2 v124 fun v125 =>
 bn .add v123 v125 fun v126 =>
 pr.fin none v121.2 [v126, (LV.int .i64 0)]) (none)) (none)) (
 fA 10 16 v0 fun v130 =>
 l1 noSlots v130 fun v131 =>
 ln v131 fun v132 =>
 bn .add v14 v132 fun v133 =>
 bn .quo v14 (LV.int .i64 4) fun v136 =>
 bn .add (LV.int .i64 64) v136 fun v137 =>
 (pr.conv .u8 v137).bind fun v138 =>
 fA 0 0 v0 fun v139 =>
 l1 noSlots v139 fun v140 =>
 (pr.conv .u8 v140).bind fun v141 =>
 bn .quo v133 (LV.int .i64 256) fun v143 =>
 (pr.conv .u8 v143).bind fun v144 =>
 bn .rem v133 (LV.int .i64 256) fun v146 =>
 (pr.conv .u8 v146).bind fun v147 =>
 fA 1 1 v0 fun v148 =>
 l1 noSlots v148 fun v149 =>
 bn .quo v149 (LV.int .i64 256) fun v150 =>
 (pr.conv .u8 v150).bind fun v151 =>
 fA 1 1 v0 fun v152 =>
 l1 noSlots v152 fun v153 =>
 bn .rem v153 (LV.int .i64 256) fun v154 =>
 (pr.conv .u8 v154).bind fun v155 =>
 bn .quo v23 (LV.int .i64 256) fun v157 =>
 (pr.conv .u8 v157).bind fun v158 =>
 bn .rem v23 (LV.int .i64 256) fun v160 =>
 (pr.conv .u8 v160).bind fun v161 =>
 fA 2 2 v0 fun v162 =>
 l1 noSlots v162 fun v163 =>
 (pr.conv .u8 v163).bind fun v164 =>
 fA 3 3 v0 fun v165 =>
 l1 noSlots v165 fun v166 =>
 (pr.conv .u8 v166).bind fun v167 =>
 (pr.bslM 12 [(0, v138), (1, v141), (2, v144), (3, v147), (4, v151), (5, v155), (6, v158), (7, v161), (8, v164), (9, v167), (10, (LV.int .u8 0)), (11, (LV.int .u8 0))] 70 noSlots).bind fun v168 =>
 (whileW (fun q171 : List LV × Slots =>
 bn .lss (getL q171.1 1) (LV.int .i64 4) fun v173 =>
 condK v173 (
 fA 7 7 v0 fun v176 =>
 (pr.idxAddr (some 4) 1 v176 (getL q171.1 1)).bind fun v177 =>
 l1 q171.2 v177 fun v178 =>
 (pr.bsl (LV.int .u8 0) 1 [(0, v178)]).bind fun v179 =>
 (pr.append 1 1 81 q171.2 (getL q171.1 0) v179).bind fun v180 =>
 bn .add (getL q171.1 1) (LV.int .i64 1) fun v183 =>
 pr.round v168.2 .normal [v180.1, v183] v180.2) (
 pr.round v168.2 (.exit 0) [(getL q171.1 0), (getL q171.1 1)] q171.2)) ([v168.1, (LV.int .i64 0)], v168.2)).bind fun r171 =>
 exIf r171.1 (.exit 0) (
 (whileW (fun q186 : List LV × Slots =>
 bn .lss (getL q186.1 1) (LV.int .i64 4) fun v188 =>
 condK v188 (
 fA 8 11 v0 fun v191 =>
 (pr.idxAddr (some 4) 1 v191 (getL q186.1 1)).bind fun v192 =>
 l1 q186.2 v192 fun v193 =>
 (pr.bsl (LV.int .u8 0) 1 [(0, v193)]).bind fun v194 =>
 (pr.append 1 1 92 q186.2 (getL q186.1 0) v194).bind fun v195 =>
 bn .add (getL q186.1 1) (LV.int .i64 1) fun v198 =>
 pr.round r171.2.2 .normal [v195.1, v198] v195.2) (
 pr.round r171.2.2 (.exit 2) [(getL q186.1 0), (getL q186.1 1)] q186.2)) ([(getL r171.2.1 0), (LV.int .i64 0)], r171.2.2)).bind fun r186 =>
 exIf r186.1 (.exit 2) (
 fA 9 15 v0 fun v201 =>
 l1 r186.2.2 v201 fun v202 =>
 (pr.append 1 1 96 r186.2.2 (getL r186.2.1 0) v202).bind fun v203 =>
 bS v203.2 v203.1 fun v206 =>
 cl g id_interpreterref02_Of v203.2 [v206] fun v207 =>
 bn .quo v207 (LV.int .i64 256) fun v211 =>
 (pr.conv .u8 v211).bind fun v212 =>
 (pr.idxAddr none 1 v203.1 (LV.int .i64 10)).bind fun v213 =>
 s1 v203.2 v213 v212 fun v214 =>
 bn .rem v207 (LV.int .i64 256) fun v217 =>
 (pr.conv .u8 v217).bind fun v218 =>
 (pr.idxAddr none 1 v203.1 (LV.int .i64 11)).bind fun v219 =>
 s1 v214.2 v219 v218 fun v220 =>
 bS v220.2 v203.1 fun v222 =>
 fA 10 16 v0 fun v223 =>
 l1 v220.2 v223 fun v224 =>
 bn .add v222 v224 fun v225 =>
 pr.fin none v220.2 [v225, (LV.int .i64 0)]) (none)) (none))) (
 fA 5 5 v0 fun v228 =>
 l1 noSlots v228 fun v229 =>
 condK v229 (
 bn .add v18 (LV.int .i64 16384) fun v231 =>
 fA 10 16 v0 fun v234 =>
 l1 noSlots v234 fun v235 =>
 ln v235 fun v236 =>
 bn .add v14 v236 fun v237 =>
 bn .quo v14 (LV.int .i64 4) fun v240 =>
 bn .add (LV.int .i64 64) v240 fun v241 =>
 (pr.conv .u8 v241).bind fun v242 =>
 fA 0 0 v0 fun v243 =>
 l1 noSlots v243 fun v244 =>
 (pr.conv .u8 v244).bind fun v245 =>
 bn .quo v237 (LV.int .i64 256) fun v247 =>
 (pr.conv .u8 v247).bind fun v248 =>
 bn .rem v237 (LV.int .i64 256) fun v250 =>
 (pr.conv .u8 v250).bind fun v251 =>
 fA 1 1 v0 fun v252 =>
 l1 noSlots v252 fun v253 =>
 bn .quo v253 (LV.int .i64 256) fun v254 =>
 (pr.conv .u8 v254).bind fun v255 =>
 fA 1 1 v0 fun v256 =>
 l1 noSlots v256 fun v257 =>
 bn .rem v257 (LV.int .i64 256) fun v258 =>
 (pr.conv .u8 v258).bind fun v259 =>
 bn .quo v231 (LV.int .i64 256) fun v261 =>
 (pr.conv .u8 v261).bind fun v262 =>
 bn .rem v231 (LV.int .i64 256) fun v264 =>
 (pr.conv .u8 v264).bind fun v265 =>
 fA 2 2 v0 fun v266 =>
 l1 noSlots v266 fun v267 =>
 (pr.conv .u8 v267).bind fun v268 =>
 fA 3 3 v0 fun v269 =>
 l1 noSlots v269 fun v270 =>
 (pr.conv .u8 v270).bind fun v271 =>
 (pr.bslM 12 [(0, v242), (1, v245), (2, v248), (3, v251), (4, v255), (5, v259), (6, v262), (7, v265), (8, v268), (9, v271), (10, (LV.int .u8 0)), (11, (LV.int .u8 0))] 70 noSlots).bind fun v272 =>
 (whileW (fun q275 : List LV × Slots =>
 bn .lss (getL q275.1 1) (LV.int .i64 4) fun v277 =>
 condK v277 (
 fA 7 7 v0 fun v280 =>
 (pr.idxAddr (some 4) 1 v280 (getL q275.1 1)).bind fun v281 =>
 l1 q275.2 v281 fun v282 =>
 (pr.bsl (LV.int .u8 0) 1 [(0, v282)]).bind fun v283 =>
 (pr.append 1 1 81 q275.2 (getL q275.1 0) v283).bind fun v284 =>
 bn .add (getL q275.1 1) (LV.int .i64 1) fun v287 =>
 pr.round v272.2 .normal [v284.1, v287] v284.2) (
 pr.round v272.2 (.exit 0) [(getL q275.1 0), (getL q275.1 1)] q275.2)) ([v272.1, (LV.int .i64 0)], v272.2)).bind fun r275 =>
 exIf r275.1 (.exit 0) (
 (whileW (fun q290 : List LV × Slots =>
 bn .lss (getL q290.1 1) (LV.int .i64 4) fun v292 =>
 condK v292 (
 fA 8 11 v0 fun v295 =>
 (pr.idxAddr (some 4) 1 v295 (getL q290.1 1)).bind fun v296 =>
 l1 q290.2 v296 fun v297 =>
 (pr.bsl (LV.int .u8 0) 1 [(0, v297)]).bind fun v298 =>
 (pr.append 1 1 92 q290.2 (getL q290.1 0) v298).bind fun v299 =>
 bn .add (getL q290.1 1) (LV.int .i64 1) fun v302 =>
 pr.round r275.2.2 .normal [v299.1, v302] v299.2) (
 pr.round r275.2.2 (.exit 2) [(getL q290.1 0), (getL q290.1 1)] q290.2)) ([(getL r275.2.1 0), (LV.int .i64 0)], r275.2.2)).bind fun r290 =>
 exIf r290.1 (.exit 2) (
 fA 9 15 v0 fun v305 =>
 l1 r290.2.2 v305 fun v306 =>
 (pr.append 1 1 96 r290.2.2 (getL r290.2.1 0) v306).bind fun v307 =>
 bS v307.2 v307.1 fun v310 =>
 cl g id_interpreterref02_Of v307.2 [v310] fun v311 =>
 bn .quo v311 (LV.int .i64 256) fun v315 =>
 (pr.conv .u8 v315).bind fun v316 =>
 (pr.idxAddr none 1 v307.1 (LV.int .i64 10)).bind fun v317 =>
 s1 v307.2 v317 v316 fun v318 =>
 bn .rem v311 (LV.int .i64 256) fun v321 =>
 (pr.conv .u8 v321).bind fun v322 =>
 (pr.idxAddr none 1 v307.1 (LV.int .i64 11)).bind fun v323 =>
 s1 v318.2 v323 v322 fun v324 =>
 bS v324.2 v307.1 fun v326 =>
 fA 10 16 v0 fun v327 =>
 l1 v324.2 v327 fun v328 =>
 bn .add v326 v328 fun v329 =>
 pr.fin none v324.2 [v329, (LV.int .i64 0)]) (none)) (none)) (
 fA 10 16 v0 fun v333 =>
 l1 noSlots v333 fun v334 =>
 ln v334 fun v335 =>
 bn .add v14 v335 fun v336 =>
 bn .quo v14 (LV.int .i64 4) fun v339 =>
 bn .add (LV.int .i64 64) v339 fun v340 =>
 (pr.conv .u8 v340).bind fun v341 =>
 fA 0 0 v0 fun v342 =>
 l1 noSlots v342 fun v343 =>
 (pr.conv .u8 v343).bind fun v344 =>
 bn .quo v336 (LV.int .i64 256) fun v346 =>
 (pr.conv .u8 v346).bind fun v347 =>
 bn .rem v336 (LV.int .i64 256) fun v349 =>
 (pr.conv .u8 v349).bind fun v350 =>
 fA 1 1 v0 fun v351 =>
 l1 noSlots v351 fun v352 =>
 bn .quo v352 (LV.int .i64 256) fun v353 =>
 (pr.conv .u8 v353).bind fun v354 =>
 fA 1 1 v0 fun v355 =>
 l1 noSlots v355 fun v356 =>
 bn .rem v356 (LV.int .i64 256) fun v357 =>
 (pr.conv .u8 v357).bind fun v358 =>
 bn .quo v18 (LV.int .i64 256) fun v360 =>
 (pr.conv .u8 v360).bind fun v361 =>
 bn .rem v18 (LV.int .i64 256) fun v363 =>
 (pr.conv .u8 v363).bind fun v364 =>
 fA 2 2 v0 fun v365 =>
 l1 noSlots v365 fun v366 =>
 (pr.conv .u8 v366).bind fun v367 =>
 fA 3 3 v0 fun v368 =>
 l1 noSlots v368 fun v369 =>
 (pr.conv .u8 v369).bind fun v370 =>
 (pr.bslM 12 [(0, v341), (1, v344), (2, v347), (3, v350), (4, v354), (5, v358), (6, v361), (7, v364), (8, v367), (9, v370), (10, (LV.int .u8 0)), (11, (LV.int .u8 0))] 70 noSlots).bind fun v371 =>
 (whileW (fun q374 : List LV × Slots =>
 bn .lss (getL q374.1 1) (LV.int .i64 4) fun v376 =>
 condK v376 (
 fA 7 7 v0 fun v379 =>
 (pr.idxAddr (some 4) 1 v379 (getL q374.1 1)).bind fun v380 =>
 l1 q374.2 v380 fun v381 =>
 (pr.bsl (LV.int .u8 0) 1 [(0, v381)]).bind fun v382 =>
 (pr.append 1 1 81 q374.2 (getL q374.1 0) v382).bind fun v383 =>
 bn .add (getL q374.1 1) (LV.int .i64 1) fun v386 =>
 pr.round v371.2 .normal [v383.1, v386] v383.2) (
 pr.round v371.2 (.exit 0) [(getL q374.1 0), (getL q374.1 1)] q374.2)) ([v371.1, (LV.int .i64 0)], v371.2)).bind fun r374 =>
 exIf r374.1 (.exit 0) (
 (whileW (fun q389 : List LV × Slots =>
 bn .lss (getL q389.1 1) (LV.int .i64 4) fun v391 =>
 condK v391 (
 fA 8 11 v0 fun v394 =>
 (pr.idxAddr (some 4) 1 v394 (getL q389.1 1)).bind fun v395 =>
 l1 q389.2 v395 fun v396 =>
 (pr.bsl (LV.int .u8 0) 1 [(0, v396)]).bind fun v397 =>
 (pr.append 1 1 92 q389.2 (getL q389.1 0) v397).bind fun v398 =>
 bn .add (getL q389.1 1) (LV.int .i64 1) fun v401 =>
 pr.round r374.2.2 .normal [v398.1, v401] v398.2) (
 pr.round r374.2.2 (.exit 2) [(getL q389.1 0), (getL q389.1 1)] q389.2)) ([(getL r374.2.1 0), (LV.int .i64 0)], r374.2.2)).bind fun r389 =>
 exIf r389.1 (.exit 2) (
 fA 9 15 v0 fun v404 =>
 l1 r389.2.2 v404 fun v405 =>
 (pr.append 1 1 96 r389.2.2 (getL r389.2.1 0) v405).bind fun v406 =>
 bS v406.2 v406.1 fun v409 =>
 cl g id_interpreterref02_Of v406.2 [v409] fun v410 =>
 bn .quo v410 (LV.int .i64 256) fun v414 =>
 (pr.conv .u8 v414).bind fun v415 =>
 (pr.idxAddr none 1 v406.1 (LV.int .i64 10)).bind fun v416 =>
 s1 v406.2 v416 v415 fun v417 =>
 bn .rem v410 (LV.int .i64 256) fun v420 =>
 (pr.conv .u8 v420).bind fun v421 =>
 (pr.idxAddr none 1 v406.1 (LV.int .i64 11)).bind fun v422 =>
 s1 v417.2 v422 v421 fun v423 =>
 bS v423.2 v406.1 fun v425 =>
 fA 10 16 v0 fun v426 =>
 l1 v423.2 v426 fun v427 =>
 bn .add v425 v427 fun v428 =>
 pr.fin none v423.2 [v428, (LV.int .i64 0)]) (none)) (none))))
theorem F_interpreterref03_Bytes_eq (g : Call) (a0 : LV) : fnEv g c_interpreterref03_Bytes [a0] none = F_interpreterref03_Bytes g a0 := by kernel_rfl

/-- interpreter/fault.Own4 -/
noncomputable def F_fault_Own4 (g : Call) (a0 : LV) (a1 : LV) (a2 : LV) (a3 : LV) (a4 : LV) : Option (LV × Option LV) :=
 (pr.boxM a0 5 noSlots).bind fun v0 =>
 bx a2 fun v1 =>
 cl g id_ip4_Parse v0.2 [a1] fun v5 =>
 ex v5 0 fun v7 =>
 ex v5 1 fun v8 =>
 (pr.alloc (LV.agg [(LV.int .i64 0), (LV.int .i64 0), (LV.int .i64 0), (LV.int .i64 0), (LV.int .i64 0), (LV.bool false), (LV.bool false), (LV.bytes [0, 0, 0, 0]), (LV.bytes [0, 0, 0, 0]), (LV.str []), (LV.str [])]) 12 v0.2).bind fun v9 =>
 sA 17 v9.2 v9.1 v7 fun v10 =>
 eN 1 true v8 fun v13 =>
 gF v13 (pr.load 4 true v10.2 v0.1) fun v15 =>
 gF v13 (pr.call g id_icmp4_Failure v10.2 [v15]) fun v16 =>
 gF v13 (pr.un .not v16) fun v17 =>
 pF v13 v17 fun v18 =>
 gF v18 (pr.fieldAddr 4 4 v9.1) fun v20 =>
 gF v18 (pr.load 1 false v10.2 v20) fun v21 =>
 gF v18 (pr.bin .gtr v21 (LV.int .i64 0)) fun v22 =>
 pF v18 v22 fun v23 =>
 gF v23 (pr.fieldAddr 7 7 v9.1) fun v25 =>
 gF v23 (pr.load 4 true v10.2 v25) fun v26 =>
 gF v23 (pr.call g id_class_Martian4 v10.2 [v26]) fun v27 =>
 pF v23 v27 fun v28 =>
 gF v28 (some a4) fun v30 =>
 gF v28 (pr.bin .lss v30 (LV.int .i64 68)) fun v31 =>
 pF v28 v31 fun v32 =>
 gF v32 (some a4) fun v34 =>
 gF v32 (pr.bin .gtr v34 (LV.int .i64 65535)) fun v35 =>
 pF v32 v35 fun v36 =>
 condK v36 (
 pr.fin none v10.2 [(LV.str []), (LV.bool false)]) (
 fA 3 3 v9.1 fun v40 =>
 l1 v10.2 v40 fun v41 =>
 bn .eql v41 (LV.int .i64 1) fun v42 =>
 gT v42 (pr.fieldAddr 10 16 v9.1) fun v44 =>
 gT v42 (pr.load 1 false v10.2 v44) fun v45 =>
 gT v42 (pr.bin .eql v45 (LV.str [])) fun v46 =>
 gT v42 (some v46) fun v47 =>
 gF v47 (pr.fieldAddr 10 16 v9.1) fun v48 =>
 gF v47 (pr.load 1 false v10.2 v48) fun v49 =>
 gF v47 (pr.idxStr v49 (LV.int .i64 0)) fun v50 =>
 gF v47 (pr.conv .i64 v50) fun v51 =>
 gF v47 (pr.parts (LV.agg [(LV.int .i64 0), (LV.int .i64 0), (LV.int .u32 0), (LV.str [])]) [(0, v51)]) fun v52 =>
 gF v47 (pr.call g id_icmp4_Failure v10.2 [v52]) fun v53 =>
 gT v42 (pr.pick v47 (LV.bool true) v53) fun v54 =>
 pT v42 v54 fun v55 =>
 condK v55 (
 pr.fin none v10.2 [(LV.str []), (LV.bool false)]) (
 fA 9 15 v9.1 fun v59 =>
 l1 v10.2 v59 fun v60 =>
 ln v60 fun v61 =>
 bn .add (LV.int .i64 20) v61 fun v62 =>
 fA 10 16 v9.1 fun v66 =>
 l1 v10.2 v66 fun v67 =>
 ln v67 fun v68 =>
 bn .add v62 v68 fun v69 =>
 sl a1 none (some v69) fun v70 =>
 (pr.minmax false (LV.int .i64 576) [a4]).bind fun v73 =>
 bn .sub v73 (LV.int .i64 20) fun v74 =>
 bn .sub v74 (LV.int .i64 8) fun v75 =>
 cl g id_fault_beginning v10.2 [v70, v62, v75] fun v76 =>
 ex v76 0 fun v78 =>
 ex v76 1 fun v79 =>
 fA 3 3 v0.1 fun v83 =>
 s1 v10.2 v83 v78 fun v84 =>
 lA 4 v84.2 v0.1 fun v85 =>
 cl g id_icmp4_Bytes v84.2 [v85] fun v86 =>
 ex v86 0 fun v88 =>
 ex v86 1 fun v89 =>
 nt v79 fun v93 =>
 gF v93 (some v89) fun v95 =>
 gF v93 (pr.eqNil 1 true v95) fun v96 =>
 pF v93 v96 fun v97 =>
 condK v97 (
 pr.fin none v84.2 [(LV.str []), (LV.bool false)]) (
 bn .and a3 (LV.int .i64 65535) fun v101 =>
 lA 4 v84.2 v1 fun v102 =>
 fA 7 7 v9.1 fun v103 =>
 lA 4 v84.2 v103 fun v104 =>
 (pr.parts (LV.agg [(LV.int .i64 0), (LV.int .i64 0), (LV.int .i64 0), (LV.int .i64 0), (LV.int .i64 0), (LV.bool false), (LV.bool false), (LV.bytes [0, 0, 0, 0]), (LV.bytes [0, 0, 0, 0]), (LV.str []), (LV.str [])]) [(1, v101), (2, (LV.int .i64 64)), (3, (LV.int .i64 1)), (7, v102), (8, v104), (10, v88)]).bind fun v106 =>
 cl g id_ip4_Bytes v84.2 [v106] fun v107 =>
 ex v107 0 fun v109 =>
 ex v107 1 fun v110 =>
 eN 1 false v110 fun v115 =>
 pr.fin none v84.2 [v109, v115])))
theorem F_fault_Own4_eq (g : Call) (a0 : LV) (a1 : LV) (a2 : LV) (a3 : LV) (a4 : LV) : fnEv g c_fault_Own4 [a0, a1, a2, a3, a4] none = F_fault_Own4 g a0 a1 a2 a3 a4 := by kernel_rfl

/-- interpreter/fault.Inside4 -/
noncomputable def F_fault_Inside4 (g : Call) (a0 : LV) : Option (LV × Option LV) :=
 bx a0 fun v0 =>
 (pr.alloc (LV.agg [(LV.int .i64 0), (LV.int .i64 0), (LV.int .i64 0), (LV.int .i64 0), (LV.int .i64 0), (LV.bool false), (LV.bool false), (LV.bytes [0, 0, 0, 0]), (LV.bytes [0, 0, 0, 0]), (LV.str []), (LV.str [])]) 2 noSlots).bind fun v1 =>
 l1 v1.2 v0 fun v4 =>
 ln v4 fun v5 =>
 bn .lss v5 (LV.int .i64 20) fun v6 =>
 condK v6 (
 lA 17 v1.2 v1.1 fun v7 =>
 cl g id_fault_fault v1.2 [(LV.int .i64 7)] fun v8 =>
 sA 17 v1.2 v1.1 v7 fun v9 =>
 lA 17 v9.2 v1.1 fun v12 =>
 pr.fin none v9.2 [v12, (LV.int .i64 0), v8]) (
 l1 v1.2 v0 fun v13 =>
 xS v13 (LV.int .i64 0) fun v14 =>
 bn .and v14 (LV.int .u8 15) fun v15 =>
 (pr.conv .i64 v15).bind fun v16 =>
 bn .mul v16 (LV.int .i64 4) fun v17 =>
 l1 v1.2 v0 fun v19 =>
 xS v19 (LV.int .i64 0) fun v20 =>
 bn .shr v20 (LV.int .u64 4) fun v21 =>
 bn .neq v21 (LV.int .u8 4) fun v22 =>
 gF v22 (some v17) fun v24 =>
 gF v22 (pr.bin .lss v24 (LV.int .i64 20)) fun v25 =>
 pF v22 v25 fun v26 =>
 condK v26 (
 lA 17 v1.2 v1.1 fun v28 =>
 cl g id_fault_fault v1.2 [(LV.int .i64 8)] fun v29 =>
 sA 17 v1.2 v1.1 v28 fun v30 =>
 lA 17 v30.2 v1.1 fun v33 =>
 pr.fin none v30.2 [v33, (LV.int .i64 0), v29]) (
 l1 v1.2 v0 fun v34 =>
 ln v34 fun v35 =>
 bn .lss v35 v17 fun v37 =>
 condK v37 (
 lA 17 v1.2 v1.1 fun v39 =>
 cl g id_fault_fault v1.2 [(LV.int .i64 7)] fun v40 =>
 sA 17 v1.2 v1.1 v39 fun v41 =>
 lA 17 v41.2 v1.1 fun v44 =>
 pr.fin none v41.2 [v44, (LV.int .i64 0), v40]) (
 l1 v1.2 v0 fun v45 =>
 sl v45 none (some v17) fun v47 =>
 (pr.bsl (LV.str []) 1 [(0, v47)]).bind fun v48 =>
 cl g id_sum_Right v1.2 [v48] fun v49 =>
 nt v49 fun v50 =>
 condK v50 (
 lA 17 v1.2 v1.1 fun v52 =>
 cl g id_fault_fault v1.2 [(LV.int .i64 9)] fun v53 =>
 sA 17 v1.2 v1.1 v52 fun v54 =>
 lA 17 v54.2 v1.1 fun v57 =>
 pr.fin none v54.2 [v57, (LV.int .i64 0), v53]) (
 (pr.mkFunc id_fault_Inside4_1 [v0]).bind fun v58 =>
 (pr.callv g v1.2 v58 [(LV.int .i64 2)]).bind fun v61 =>
 (pr.callv g v1.2 v58 [(LV.int .i64 6)]).bind fun v63 =>
 bn .lss v61 v17 fun v68 =>
 gF v68 (some v63) fun v70 =>
 gF v68 (pr.bin .and v70 (LV.int .i64 32768)) fun v71 =>
 gF v68 (pr.bin .neq v71 (LV.int .i64 0)) fun v72 =>
 pF v68 v72 fun v73 =>
 gF v73 (some v63) fun v75 =>
 gF v73 (pr.bin .and v75 (LV.int .i64 8191)) fun v76 =>
 gF v73 (pr.bin .mul v76 (LV.int .i64 8)) fun v77 =>
 gF v73 (some v61) fun v78 =>
 gF v73 (pr.bin .add v77 v78) fun v79 =>
 gF v73 (pr.bin .gtr v79 (LV.int .i64 65535)) fun v80 =>
 pF v73 v80 fun v81 =>
 condK v81 (
 lA 17 v1.2 v1.1 fun v82 =>
 cl g id_fault_fault v1.2 [(LV.int .i64 8)] fun v83 =>
 sA 17 v1.2 v1.1 v82 fun v84 =>
 lA 17 v84.2 v1.1 fun v87 =>
 pr.fin none v84.2 [v87, (LV.int .i64 0), v83]) (
 l1 v1.2 v0 fun v88 =>
 l1 v1.2 v0 fun v90 =>
 ln v90 fun v91 =>
 (pr.minmax false v91 [v61]).bind fun v93 =>
 sl v88 (some v17) (some v93) fun v94 =>
 bn .sub v61 v17 fun v99 =>
 cl g id_fault_short v1.2 [v94, v99] fun v100 =>
 condK v100 (
 lA 17 v1.2 v1.1 fun v101 =>
 cl g id_fault_fault v1.2 [(LV.int .i64 7)] fun v102 =>
 sA 17 v1.2 v1.1 v101 fun v103 =>
 lA 17 v103.2 v1.1 fun v106 =>
 pr.fin none v103.2 [v106, (LV.int .i64 0), v102]) (
 l1 v1.2 v0 fun v107 =>
 xS v107 (LV.int .i64 1) fun v108 =>
 (pr.conv .i64 v108).bind fun v109 =>
 (pr.callv g v1.2 v58 [(LV.int .i64 4)]).bind fun v111 =>
 l1 v1.2 v0 fun v112 =>
 xS v112 (LV.int .i64 8) fun v113 =>
 (pr.conv .i64 v113).bind fun v114 =>
 l1 v1.2 v0 fun v115 =>
 xS v115 (LV.int .i64 9) fun v116 =>
 (pr.conv .i64 v116).bind fun v117 =>
 bn .and v63 (LV.int .i64 8191) fun v119 =>
 bn .mul v119 (LV.int .i64 8) fun v120 =>
 bn .and v63 (LV.int .i64 16384) fun v122 =>
 bn .neq v122 (LV.int .i64 0) fun v123 =>
 bn .and v63 (LV.int .i64 8192) fun v125 =>
 bn .neq v125 (LV.int .i64 0) fun v126 =>
 l1 v1.2 v0 fun v127 =>
 sl v127 (some (LV.int .i64 20)) (some v17) fun v129 =>
 (pr.parts (LV.agg [(LV.int .i64 0), (LV.int .i64 0), (LV.int .i64 0), (LV.int .i64 0), (LV.int .i64 0), (LV.bool false), (LV.bool false), (LV.bytes [0, 0, 0, 0]), (LV.bytes [0, 0, 0, 0]), (LV.str []), (LV.str [])]) [(0, v109), (1, v111), (2, v114), (3, v117), (4, v120), (5, v123), (6, v126), (9, v129), (10, v94)]).bind fun v131 =>
 sA 17 v1.2 v1.1 v131 fun v132 =>
 fA 7 7 v1.1 fun v133 =>
 sV 4 v132.2 v133 none none fun v134 =>
 l1 v132.2 v0 fun v135 =>
 sl v135 (some (LV.int .i64 12)) none fun v136 =>
 (pr.copy v132.2 v134 v136).bind fun v137 =>
 fA 8 11 v1.1 fun v138 =>
 sV 4 v137.2 v138 none none fun v139 =>
 l1 v137.2 v0 fun v140 =>
 sl v140 (some (LV.int .i64 16)) none fun v141 =>
 (pr.copy v137.2 v139 v141).bind fun v142 =>
 lA 17 v142.2 v1.1 fun v143 =>
 bn .sub v61 v17 fun v146 =>
 sA 17 v142.2 v1.1 v143 fun v147 =>
 lA 17 v147.2 v1.1 fun v150 =>
 pr.fin none v147.2 [v150, v146, LV.nili]))))))
theorem F_fault_Inside4_eq (g : Call) (a0 : LV) : fnEv g c_fault_Inside4 [a0] none = F_fault_Inside4 g a0 := by kernel_rfl

/-- interpreter/interpreterlaw15.awake -/
noncomputable def F_interpreterlaw15_awake (g : Call) : Option (LV × Option LV) :=
 cl g id_interpreterlaw15_gram noSlots [(LV.int .i64 600)] fun v1 =>
 cl g id_interpreterref03_Bytes noSlots [v1] fun v2 =>
 ex v2 0 fun v4 =>
 ex v2 1 fun v5 =>
 (pr.parts (LV.agg [(LV.int .i64 0), (LV.int .i64 0), (LV.int .u32 0), (LV.str [])]) [(0, (LV.int .i64 11))]).bind fun v8 =>
 (pr.parts (LV.bytes [0, 0, 0, 0]) [(0, (LV.int .u8 192)), (1, (LV.int .u8 0)), (2, (LV.int .u8 2)), (3, (LV.int .u8 9))]).bind fun v10 =>
 cl g id_fault_Own4 noSlots [v8, v4, v10, (LV.int .i64 5), (LV.int .i64 1500)] fun v11 =>
 ex v11 0 fun v13 =>
 ex v11 1 fun v14 =>
 cl g id_interpreterref03_Parse noSlots [v13] fun v18 =>
 ex v18 0 fun v20 =>
 ex v18 1 fun v21 =>
 (pr.alloc (LV.agg [(LV.int .i64 0), (LV.int .i64 0), (LV.int .i64 0), (LV.int .i64 0), (LV.int .i64 0), (LV.bool false), (LV.bool false), (LV.bytes [0, 0, 0, 0]), (LV.bytes [0, 0, 0, 0]), (LV.str []), (LV.str [])]) 5 noSlots).bind fun v22 =>
 sA 17 v22.2 v22.1 v20 fun v23 =>
 nt v14 fun v26 =>
 gF v26 (some v21) fun v28 =>
 gF v26 (pr.bin .neq v28 (LV.int .i64 0)) fun v29 =>
 pF v26 v29 fun v30 =>
 gF v30 (some v13) fun v32 =>
 gF v30 (pr.len true v32) fun v33 =>
 gF v30 (pr.bin .neq v33 (LV.int .i64 576)) fun v34 =>
 pF v30 v34 fun v35 =>
 gF v35 (pr.fieldAddr 8 11 v22.1) fun v37 =>
 gF v35 (pr.load 4 true v23.2 v37) fun v38 =>
 gF v35 (pr.call g id_interpreterlaw15_gram v23.2 [(LV.int .i64 0)]) fun v39 =>
 gF v35 (pr.field 7 7 4 true v39) fun v40 =>
 gF v35 (pr.eqS (Sh.bytes 4) true v38 v40) fun v41 =>
 pF v35 v41 fun v42 =>
 gF v42 (pr.fieldAddr 3 3 v22.1) fun v44 =>
 gF v42 (pr.load 1 false v23.2 v44) fun v45 =>
 gF v42 (pr.bin .neq v45 (LV.int .i64 1)) fun v46 =>
 pF v42 v46 fun v47 =>
 gF v47 (pr.fieldAddr 10 16 v22.1) fun v49 =>
 gF v47 (pr.load 1 false v23.2 v49) fun v50 =>
 gF v47 (pr.len true v50) fun v51 =>
 gF v47 (pr.bin .lss v51 (LV.int .i64 8)) fun v52 =>
 pF v47 v52 fun v53 =>
 gF v53 (pr.fieldAddr 10 16 v22.1) fun v55 =>
 gF v53 (pr.load 1 false v23.2 v55) fun v56 =>
 gF v53 (pr.slc 0 v56 (some (LV.int .i64 8)) none) fun v57 =>
 gF v53 (some v4) fun v58 =>
 gF v53 (pr.slc 0 v58 none (some (LV.int .i64 548))) fun v59 =>
 gF v53 (pr.bin .neq v57 v59) fun v60 =>
 pF v53 v60 fun v61 =>
 condK v61 (
 pr.fin none v23.2 [(LV.bool false)]) (
 fA 10 16 v22.1 fun v63 =>
 l1 v23.2 v63 fun v64 =>
 sl v64 (some (LV.int .i64 8)) none fun v65 =>
 cl g id_fault_Inside4 v23.2 [v65] fun v66 =>
 ex v66 0 fun v68 =>
 ex v66 1 fun v69 =>
 ex v66 2 fun v70 =>
 (pr.alloc (LV.agg [(LV.int .i64 0), (LV.int .i64 0), (LV.int .i64 0), (LV.int .i64 0), (LV.int .i64 0), (LV.bool false), (LV.bool false), (LV.bytes [0, 0, 0, 0]), (LV.bytes [0, 0, 0, 0]), (LV.str []), (LV.str [])]) 7 v23.2).bind fun v71 =>
 sA 17 v71.2 v71.1 v68 fun v72 =>
 lA 17 v72.2 v71.1 fun v75 =>
 (pr.parts (LV.agg [(LV.bytes [0, 0, 0, 0, 0, 0, 0, 0, 0, 0, 0, 0, 0, 0, 0, 0]), (LV.int .i64 0)]) [(1, (LV.int .i64 1))]).bind fun v77 =>
 (pr.parts (LV.agg [(LV.bytes [0, 0, 0, 0, 0, 0, 0, 0, 0, 0, 0, 0, 0, 0, 0, 0]), (LV.int .i64 0)]) [(1, (LV.int .i64 2))]).bind fun v78 =>
 cl g id_fault_Quote6 v72.2 [v75, v69, v77, v78] fun v79 =>
 ex v79 0 fun v81 =>
 ex v79 1 fun v82 =>
 eN 1 false v70 fun v86 =>
 gT v86 (some v69) fun v88 =>
 gT v86 (pr.bin .eql v88 (LV.int .i64 600)) fun v89 =>
 pT v86 v89 fun v90 =>
 gT v90 (pr.fieldAddr 10 16 v71.1) fun v92 =>
 gT v90 (pr.load 1 false v72.2 v92) fun v93 =>
 gT v90 (pr.len true v93) fun v94 =>
 gT v90 (pr.bin .eql v94 (LV.int .i64 528)) fun v95 =>
 pT v90 v95 fun v96 =>
 gT v96 (some v82) fun v98 =>
 gT v96 (pr.eqNil 1 false v98) fun v99 =>
 pT v96 v99 fun v100 =>
 gT v100 (some v81) fun v102 =>
 gT v100 (pr.len true v102) fun v103 =>
 gT v100 (pr.bin .eql v103 (LV.int .i64 568)) fun v104 =>
 pT v100 v104 fun v105 =>
 gT v105 (some v81) fun v107 =>
 gT v105 (pr.slc 0 v107 (some (LV.int .i64 40)) (some (LV.int .i64 44))) fun v108 =>
 gT v105 (pr.bin .eql v108 (LV.str [0, 1, 0, 2])) fun v109 =>
 pT v105 v109 fun v110 =>
 pr.fin none v72.2 [v110])
theorem F_interpreterlaw15_awake_eq (g : Call) : fnEv g c_interpreterlaw15_awake [] none = F_interpreterlaw15_awake g := by kernel_rfl

/-- interpreter/interpreterlaw15.same -/
noncomputable def F_interpreterlaw15_same (g : Call) (a0 : LV) (a1 : LV) : Option (LV × Option LV) :=
 bn .eql a1 (LV.int .i64 0) fun v2 =>
 condK v2 (
 eN 1 false a0 fun v4 =>
 pr.fin none noSlots [v4]) (
 (pr.assert ty_ptr_num_Fault true LV.nilp a0).bind fun v7 =>
 ex v7 0 fun v9 =>
 ex v7 1 fun v10 =>
 gT v10 (some v9) fun v15 =>
 gT v10 (pr.eqNil 0 true v15) fun v16 =>
 pT v10 v16 fun v17 =>
 gT v17 (some v9) fun v19 =>
 gT v17 (pr.nilCheck v19) fun v20 =>
 gT v17 (pr.fieldAddr 0 0 v20) fun v21 =>
 gT v17 (pr.load 1 false noSlots v21) fun v22 =>
 gT v17 (some a1) fun v23 =>
 gT v17 (pr.bin .eql v22 v23) fun v24 =>
 pT v17 v24 fun v25 =>
 gT v25 (some v9) fun v27 =>
 gT v25 (pr.nilCheck v27) fun v28 =>
 gT v25 (pr.fieldAddr 1 1 v28) fun v29 =>
 gT v25 (pr.load 1 false noSlots v29) fun v30 =>
 gT v25 (pr.bin .eql v30 (LV.int .i64 0)) fun v31 =>
 pT v25 v31 fun v32 =>
 pr.fin none noSlots [v32])
theorem F_interpreterlaw15_same_eq (g : Call) (a0 : LV) (a1 : LV) : fnEv g c_interpreterlaw15_same [a0, a1] none = F_interpreterlaw15_same g a0 a1 := by kernel_rfl

/-- interpreter/fault.Quote6 -/
noncomputable def F_fault_Quote6 (g : Call) (a0 : LV) (a1 : LV) (a2 : LV) (a3 : LV) : Option (LV × Option LV) :=
 bx a0 fun v0 =>
 bx a2 fun v1 =>
 bx a3 fun v2 =>
 fA 3 3 v0 fun v5 =>
 l1 noSlots v5 fun v6 =>
 cl g id_head46_Proto noSlots [v6] fun v7 =>
 ex v7 0 fun v9 =>
 ex v7 1 fun v10 =>
 fA 6 6 v0 fun v13 =>
 l1 noSlots v13 fun v14 =>
 gF v14 (pr.fieldAddr 4 4 v0) fun v16 =>
 gF v14 (pr.load 1 false noSlots v16) fun v17 =>
 gF v14 (pr.bin .neq v17 (LV.int .i64 0)) fun v18 =>
 pF v14 v18 fun v19 =>
 condK v19 (
 bn .add a1 (LV.int .i64 8) fun v25 =>
 fA 0 0 v0 fun v27 =>
 l1 noSlots v27 fun v28 =>
 fA 2 2 v0 fun v29 =>
 l1 noSlots v29 fun v30 =>
 (pr.bsl (LV.int .i64 0) 2 [(0, v28), (1, v30)]).bind fun v31 =>
 cl g id_fault_within noSlots [(LV.int .i64 255), v31] fun v32 =>
 nt v32 fun v33 =>
 gF v33 (pr.fieldAddr 1 1 v0) fun v35 =>
 gF v33 (pr.load 1 false noSlots v35) fun v36 =>
 gF v33 (pr.fieldAddr 1 16 v1) fun v37 =>
 gF v33 (pr.load 1 false noSlots v37) fun v38 =>
 gF v33 (pr.fieldAddr 1 16 v2) fun v39 =>
 gF v33 (pr.load 1 false noSlots v39) fun v40 =>
 gF v33 (pr.bsl (LV.int .i64 0) 3 [(0, v36), (1, v38), (2, v40)]) fun v41 =>
 gF v33 (pr.call g id_fault_within noSlots [(LV.int .i64 65535), v41]) fun v42 =>
 gF v33 (pr.un .not v42) fun v43 =>
 pF v33 v43 fun v44 =>
 gF v44 (pr.fieldAddr 4 4 v0) fun v46 =>
 gF v44 (pr.load 1 false noSlots v46) fun v47 =>
 gF v44 (pr.bsl (LV.int .i64 0) 1 [(0, v47)]) fun v48 =>
 gF v44 (pr.call g id_fault_within noSlots [(LV.int .i64 65528), v48]) fun v49 =>
 gF v44 (pr.un .not v49) fun v50 =>
 pF v44 v50 fun v51 =>
 gF v51 (pr.fieldAddr 4 4 v0) fun v53 =>
 gF v51 (pr.load 1 false noSlots v53) fun v54 =>
 gF v51 (pr.bin .rem v54 (LV.int .i64 8)) fun v55 =>
 gF v51 (pr.bin .neq v55 (LV.int .i64 0)) fun v56 =>
 pF v51 v56 fun v57 =>
 gF v57 (some a1) fun v59 =>
 gF v57 (pr.fieldAddr 10 16 v0) fun v60 =>
 gF v57 (pr.load 1 false noSlots v60) fun v61 =>
 gF v57 (pr.len true v61) fun v62 =>
 gF v57 (pr.bin .lss v59 v62) fun v63 =>
 pF v57 v63 fun v64 =>
 condK v64 (
 cl g id_fault_fault noSlots [(LV.int .i64 13)] fun v66 =>
 pr.fin none noSlots [(LV.str []), v66]) (
 nt v10 fun v70 =>
 condK v70 (
 cl g id_fault_fault noSlots [(LV.int .i64 10)] fun v72 =>
 pr.fin none noSlots [(LV.str []), v72]) (
 bn .gtr v25 (LV.int .i64 65535) fun v76 =>
 condK v76 (
 cl g id_fault_fault noSlots [(LV.int .i64 3)] fun v78 =>
 pr.fin none noSlots [(LV.str []), v78]) (
 condK v19 (
 fA 4 4 v0 fun v85 =>
 l1 noSlots v85 fun v86 =>
 fA 6 6 v0 fun v88 =>
 l1 noSlots v88 fun v89 =>
 condK v89 (
 bn .add v86 (LV.int .i64 1) fun v91 =>
 cl g id_fault_big noSlots [v9, (LV.int .i64 1)] fun v94 =>
 bn .add v94 (LV.str [0]) fun v95 =>
 cl g id_fault_big noSlots [v91, (LV.int .i64 2)] fun v97 =>
 bn .add v95 v97 fun v98 =>
 fA 1 1 v0 fun v99 =>
 l1 noSlots v99 fun v100 =>
 cl g id_fault_big noSlots [v100, (LV.int .i64 4)] fun v101 =>
 bn .add v98 v101 fun v102 =>
 fA 0 0 v0 fun v105 =>
 l1 noSlots v105 fun v106 =>
 bn .shl v106 (LV.int .u64 20) fun v107 =>
 bn .or (LV.int .i64 1610612736) v107 fun v108 =>
 cl g id_fault_big noSlots [v108, (LV.int .i64 4)] fun v109 =>
 cl g id_fault_big noSlots [v25, (LV.int .i64 2)] fun v111 =>
 bn .add v109 v111 fun v112 =>
 cl g id_fault_big noSlots [(LV.int .i64 44), (LV.int .i64 1)] fun v114 =>
 bn .add v112 v114 fun v115 =>
 fA 2 2 v0 fun v116 =>
 l1 noSlots v116 fun v117 =>
 cl g id_fault_big noSlots [v117, (LV.int .i64 1)] fun v118 =>
 bn .add v115 v118 fun v119 =>
 fA 0 0 v1 fun v120 =>
 sV 16 noSlots v120 none none fun v121 =>
 bS noSlots v121 fun v122 =>
 bn .add v119 v122 fun v123 =>
 fA 0 0 v2 fun v124 =>
 sV 16 noSlots v124 none none fun v125 =>
 bS noSlots v125 fun v126 =>
 bn .add v123 v126 fun v127 =>
 bn .add v127 v102 fun v129 =>
 lA 17 noSlots v0 fun v130 =>
 lA 17 noSlots v1 fun v132 =>
 lA 17 noSlots v2 fun v133 =>
 cl g id_fault_turn6 noSlots [v130, a1, v132, v133] fun v134 =>
 bn .add v129 v134 fun v135 =>
 pr.fin none noSlots [v135, LV.nili]) (
 cl g id_fault_big noSlots [v9, (LV.int .i64 1)] fun v139 =>
 bn .add v139 (LV.str [0]) fun v140 =>
 cl g id_fault_big noSlots [v86, (LV.int .i64 2)] fun v142 =>
 bn .add v140 v142 fun v143 =>
 fA 1 1 v0 fun v144 =>
 l1 noSlots v144 fun v145 =>
 cl g id_fault_big noSlots [v145, (LV.int .i64 4)] fun v146 =>
 bn .add v143 v146 fun v147 =>
 fA 0 0 v0 fun v150 =>
 l1 noSlots v150 fun v151 =>
 bn .shl v151 (LV.int .u64 20) fun v152 =>
 bn .or (LV.int .i64 1610612736) v152 fun v153 =>
 cl g id_fault_big noSlots [v153, (LV.int .i64 4)] fun v154 =>
 cl g id_fault_big noSlots [v25, (LV.int .i64 2)] fun v156 =>
 bn .add v154 v156 fun v157 =>
 cl g id_fault_big noSlots [(LV.int .i64 44), (LV.int .i64 1)] fun v159 =>
 bn .add v157 v159 fun v160 =>
 fA 2 2 v0 fun v161 =>
 l1 noSlots v161 fun v162 =>
 cl g id_fault_big noSlots [v162, (LV.int .i64 1)] fun v163 =>
 bn .add v160 v163 fun v164 =>
 fA 0 0 v1 fun v165 =>
 sV 16 noSlots v165 none none fun v166 =>
 bS noSlots v166 fun v167 =>
 bn .add v164 v167 fun v168 =>
 fA 0 0 v2 fun v169 =>
 sV 16 noSlots v169 none none fun v170 =>
 bS noSlots v170 fun v171 =>
 bn .add v168 v171 fun v172 =>
 bn .add v172 v147 fun v174 =>
 lA 17 noSlots v0 fun v175 =>
 lA 17 noSlots v1 fun v177 =>
 lA 17 noSlots v2 fun v178 =>
 cl g id_fault_turn6 noSlots [v175, a1, v177, v178] fun v179 =>
 bn .add v174 v179 fun v180 =>
 pr.fin none noSlots [v180, LV.nili])) (
 fA 0 0 v0 fun v183 =>
 l1 noSlots v183 fun v184 =>
 bn .shl v184 (LV.int .u64 20) fun v185 =>
 bn .or (LV.int .i64 1610612736) v185 fun v186 =>
 cl g id_fault_big noSlots [v186, (LV.int .i64 4)] fun v187 =>
 cl g id_fault_big noSlots [v25, (LV.int .i64 2)] fun v189 =>
 bn .add v187 v189 fun v190 =>
 cl g id_fault_big noSlots [v9, (LV.int .i64 1)] fun v192 =>
 bn .add v190 v192 fun v193 =>
 fA 2 2 v0 fun v194 =>
 l1 noSlots v194 fun v195 =>
 cl g id_fault_big noSlots [v195, (LV.int .i64 1)] fun v196 =>
 bn .add v193 v196 fun v197 =>
 fA 0 0 v1 fun v198 =>
 sV 16 noSlots v198 none none fun v199 =>
 bS noSlots v199 fun v200 =>
 bn .add v197 v200 fun v201 =>
 fA 0 0 v2 fun v202 =>
 sV 16 noSlots v202 none none fun v203 =>
 bS noSlots v203 fun v204 =>
 bn .add v201 v204 fun v205 =>
 bn .add v205 (LV.str []) fun v207 =>
 lA 17 noSlots v0 fun v208 =>
 lA 17 noSlots v1 fun v210 =>
 lA 17 noSlots v2 fun v211 =>
 cl g id_fault_turn6 noSlots [v208, a1, v210, v211] fun v212 =>
 bn .add v207 v212 fun v213 =>
 pr.fin none noSlots [v213, LV.nili]))))) (
 fA 0 0 v0 fun v216 =>
 l1 noSlots v216 fun v217 =>
 fA 2 2 v0 fun v218 =>
 l1 noSlots v218 fun v219 =>
 (pr.bsl (LV.int .i64 0) 2 [(0, v217), (1, v219)]).bind fun v220 =>
 cl g id_fault_within noSlots [(LV.int .i64 255), v220] fun v221 =>
 nt v221 fun v222 =>
 gF v222 (pr.fieldAddr 1 1 v0) fun v224 =>
 gF v222 (pr.load 1 false noSlots v224) fun v225 =>
 gF v222 (pr.fieldAddr 1 16 v1) fun v226 =>
 gF v222 (pr.load 1 false noSlots v226) fun v227 =>
 gF v222 (pr.fieldAddr 1 16 v2) fun v228 =>
 gF v222 (pr.load 1 false noSlots v228) fun v229 =>
 gF v222 (pr.bsl (LV.int .i64 0) 3 [(0, v225), (1, v227), (2, v229)]) fun v230 =>
 gF v222 (pr.call g id_fault_within noSlots [(LV.int .i64 65535), v230]) fun v231 =>
 gF v222 (pr.un .not v231) fun v232 =>
 pF v222 v232 fun v233 =>
 gF v233 (pr.fieldAddr 4 4 v0) fun v235 =>
 gF v233 (pr.load 1 false noSlots v235) fun v236 =>
 gF v233 (pr.bsl (LV.int .i64 0) 1 [(0, v236)]) fun v237 =>
 gF v233 (pr.call g id_fault_within noSlots [(LV.int .i64 65528), v237]) fun v238 =>
 gF v233 (pr.un .not v238) fun v239 =>
 pF v233 v239 fun v240 =>
 gF v240 (pr.fieldAddr 4 4 v0) fun v242 =>
 gF v240 (pr.load 1 false noSlots v242) fun v243 =>
 gF v240 (pr.bin .rem v243 (LV.int .i64 8)) fun v244 =>
 gF v240 (pr.bin .neq v244 (LV.int .i64 0)) fun v245 =>
 pF v240 v245 fun v246 =>
 gF v246 (some a1) fun v248 =>
 gF v246 (pr.fieldAddr 10 16 v0) fun v249 =>
 gF v246 (pr.load 1 false noSlots v249) fun v250 =>
 gF v246 (pr.len true v250) fun v251 =>
 gF v246 (pr.bin .lss v248 v251) fun v252 =>
 pF v246 v252 fun v253 =>
 condK v253 (
 cl g id_fault_fault noSlots [(LV.int .i64 13)] fun v255 =>
 pr.fin none noSlots [(LV.str []), v255]) (
 nt v10 fun v259 =>
 condK v259 (
 cl g id_fault_fault noSlots [(LV.int .i64 10)] fun v261 =>
 pr.fin none noSlots [(LV.str []), v261]) (
 bn .gtr a1 (LV.int .i64 65535) fun v265 =>
 condK v265 (
 cl g id_fault_fault noSlots [(LV.int .i64 3)] fun v267 =>
 pr.fin none noSlots [(LV.str []), v267]) (
 condK v19 (
 fA 4 4 v0 fun v274 =>
 l1 noSlots v274 fun v275 =>
 fA 6 6 v0 fun v277 =>
 l1 noSlots v277 fun v278 =>
 condK v278 (
 bn .add v275 (LV.int .i64 1) fun v280 =>
 cl g id_fault_big noSlots [v9, (LV.int .i64 1)] fun v283 =>
 bn .add v283 (LV.str [0]) fun v284 =>
 cl g id_fault_big noSlots [v280, (LV.int .i64 2)] fun v286 =>
 bn .add v284 v286 fun v287 =>
 fA 1 1 v0 fun v288 =>
 l1 noSlots v288 fun v289 =>
 cl g id_fault_big noSlots [v289, (LV.int .i64 4)] fun v290 =>
 bn .add v287 v290 fun v291 =>
 fA 0 0 v0 fun v294 =>
 l1 noSlots v294 fun v295 =>
 bn .shl v295 (LV.int .u64 20) fun v296 =>
 bn .or (LV.int .i64 1610612736) v296 fun v297 =>
 cl g id_fault_big noSlots [v297, (LV.int .i64 4)] fun v298 =>
 cl g id_fault_big noSlots [a1, (LV.int .i64 2)] fun v300 =>
 bn .add v298 v300 fun v301 =>
 cl g id_fault_big noSlots [(LV.int .i64 44), (LV.int .i64 1)] fun v303 =>
 bn .add v301 v303 fun v304 =>
 fA 2 2 v0 fun v305 =>
 l1 noSlots v305 fun v306 =>
 cl g id_fault_big noSlots [v306, (LV.int .i64 1)] fun v307 =>
 bn .add v304 v307 fun v308 =>
 fA 0 0 v1 fun v309 =>
 sV 16 noSlots v309 none none fun v310 =>
 bS noSlots v310 fun v311 =>
 bn .add v308 v311 fun v312 =>
 fA 0 0 v2 fun v313 =>
 sV 16 noSlots v313 none none fun v314 =>
 bS noSlots v314 fun v315 =>
 bn .add v312 v315 fun v316 =>
 bn .add v316 v291 fun v318 =>
 lA 17 noSlots v0 fun v319 =>
 lA 17 noSlots v1 fun v321 =>
 lA 17 noSlots v2 fun v322 =>
 cl g id_fault_turn6 noSlots [v319, a1, v321, v322] fun v323 =>
 bn .add v318 v323 fun v324 =>
 pr.fin none noSlots [v324, LV.nili]) (
 cl g id_fault_big noSlots [v9, (LV.int .i64 1)] fun v328 =>
 bn .add v328 (LV.str [0]) fun v329 =>
 cl g id_fault_big noSlots [v275, (LV.int .i64 2)] fun v331 =>
 bn .add v329 v331 fun v332 =>
 fA 1 1 v0 fun v333 =>
 l1 noSlots v333 fun v334 =>
 cl g id_fault_big noSlots [v334, (LV.int .i64 4)] fun v335 =>
 bn .add v332 v335 fun v336 =>
 fA 0 0 v0 fun v339 =>
 l1 noSlots v339 fun v340 =>
 bn .shl v340 (LV.int .u64 20) fun v341 =>
 bn .or (LV.int .i64 1610612736) v341 fun v342 =>
 cl g id_fault_big noSlots [v342, (LV.int .i64 4)] fun v343 =>
 cl g id_fault_big noSlots [a1, (LV.int .i64 2)] fun v345 =>
 bn .add v343 v345 fun v346 =>
 cl g id_fault_big noSlots [(LV.int .i64 44), (LV.int .i64 1)] fun v348 =>
 bn .add v346 v348 fun v349 =>
 fA 2 2 v0 fun v350 =>
 l1 noSlots v350 fun v351 =>
 cl g id_fault_big noSlots [v351, (LV.int .i64 1)] fun v352 =>
 bn .add v349 v352 fun v353 =>
 fA 0 0 v1 fun v354 =>
 sV 16 noSlots v354 none none fun v355 =>
 bS noSlots v355 fun v356 =>
 bn .add v353 v356 fun v357 =>
 fA 0 0 v2 fun v358 =>
 sV 16 noSlots v358 none none fun v359 =>
 bS noSlots v359 fun v360 =>
 bn .add v357 v360 fun v361 =>
 bn .add v361 v336 fun v363 =>
 lA 17 noSlots v0 fun v364 =>
 lA 17 noSlots v1 fun v366 =>
 lA 17 noSlots v2 fun v367 =>
 cl g id_fault_turn6 noSlots [v364, a1, v366, v367] fun v368 =>
 bn .add v363 v368 fun v369 =>
 pr.fin none noSlots [v369, LV.nili])) (
 fA 0 0 v0 fun v372 =>
 l1 noSlots v372 fun v373 =>
 bn .shl v373 (LV.int .u64 20) fun v374 =>
 bn .or (LV.int .i64 1610612736) v374 fun v375 =>
 cl g id_fault_big noSlots [v375, (LV.int .i64 4)] fun v376 =>
 cl g id_fault_big noSlots [a1, (LV.int .i64 2)] fun v378 =>
 bn .add v376 v378 fun v379 =>
 cl g id_fault_big noSlots [v9, (LV.int .i64 1)] fun v381 =>
 bn .add v379 v381 fun v382 =>
 fA 2 2 v0 fun v383 =>
 l1 noSlots v383 fun v384 =>
 cl g id_fault_big noSlots [v384, (LV.int .i64 1)] fun v385 =>
 bn .add v382 v385 fun v386 =>
 fA 0 0 v1 fun v387 =>
 sV 16 noSlots v387 none none fun v388 =>
 bS noSlots v388 fun v389 =>
 bn .add v386 v389 fun v390 =>
 fA 0 0 v2 fun v391 =>
 sV 16 noSlots v391 none none fun v392 =>
 bS noSlots v392 fun v393 =>
 bn .add v390 v393 fun v394 =>
 bn .add v394 (LV.str []) fun v396 =>
 lA 17 noSlots v0 fun v397 =>
 lA 17 noSlots v1 fun v399 =>
 lA 17 noSlots v2 fun v400 =>
 cl g id_fault_turn6 noSlots [v397, a1, v399, v400] fun v401 =>
 bn .add v396 v401 fun v402 =>
 pr.fin none noSlots [v402, LV.nili])))))
theorem F_fault_Quote6_eq (g : Call) (a0 : LV) (a1 : LV) (a2 : LV) (a3 : LV) : fnEv g c_fault_Quote6 [a0, a1, a2, a3] none = F_fault_Quote6 g a0 a1 a2 a3 := by kernel_rfl

/-- interpreter/fault.Inside6 -/
noncomputable def F_fault_Inside6 (g : Call) (a0 : LV) : Option (LV × Option LV) :=
 (pr.alloc (LV.agg [(LV.int .i64 0), (LV.int .i64 0), (LV.int .i64 0), (LV.bytes [0, 0, 0, 0, 0, 0, 0, 0, 0, 0, 0, 0, 0, 0, 0, 0]), (LV.bytes [0, 0, 0, 0, 0, 0, 0, 0, 0, 0, 0, 0, 0, 0, 0, 0]), LV.nils, (LV.bool false), (LV.int .u32 0), (LV.int .i64 0), (LV.bool false), (LV.int .i64 0), (LV.str [])]) 2 noSlots).bind fun v0 =>
 ln a0 fun v4 =>
 bn .lss v4 (LV.int .i64 40) fun v5 =>
 condK v5 (
 lA 42 v0.2 v0.1 fun v6 =>
 cl g id_fault_fault v0.2 [(LV.int .i64 7)] fun v7 =>
 sA 42 v0.2 v0.1 v6 fun v8 =>
 lA 42 v8.2 v0.1 fun v11 =>
 pr.fin none v8.2 [v11, (LV.int .i64 0), v7]) (
 xS a0 (LV.int .i64 0) fun v13 =>
 bn .shr v13 (LV.int .u64 4) fun v14 =>
 bn .neq v14 (LV.int .u8 6) fun v15 =>
 condK v15 (
 lA 42 v0.2 v0.1 fun v16 =>
 cl g id_fault_fault v0.2 [(LV.int .i64 8)] fun v17 =>
 sA 42 v0.2 v0.1 v16 fun v18 =>
 lA 42 v18.2 v0.1 fun v21 =>
 pr.fin none v18.2 [v21, (LV.int .i64 0), v17]) (
 xS a0 (LV.int .i64 4) fun v23 =>
 (pr.conv .i64 v23).bind fun v24 =>
 bn .shl v24 (LV.int .u64 8) fun v25 =>
 xS a0 (LV.int .i64 5) fun v27 =>
 (pr.conv .i64 v27).bind fun v28 =>
 bn .or v25 v28 fun v29 =>
 ln a0 fun v33 =>
 bn .add (LV.int .i64 40) v29 fun v35 =>
 (pr.minmax false v33 [v35]).bind fun v36 =>
 sl a0 (some (LV.int .i64 40)) (some v36) fun v37 =>
 xS a0 (LV.int .i64 6) fun v40 =>
 (pr.conv .i64 v40).bind fun v41 =>
 cl g id_ip6_Chain v0.2 [v41, v37] fun v43 =>
 ex v43 0 fun v45 =>
 ex v43 1 fun v46 =>
 ex v43 2 fun v47 =>
 ex v43 3 fun v48 =>
 eN 1 true v48 fun v54 =>
 condK v54 (
 lA 42 v0.2 v0.1 fun v55 =>
 sA 42 v0.2 v0.1 v55 fun v57 =>
 lA 42 v57.2 v0.1 fun v60 =>
 pr.fin none v57.2 [v60, (LV.int .i64 0), v48]) (
 (pr.callFr g id_num_New 58 v0.2 [a0]).bind fun v62 =>
 (pr.callRw g id_num_Reader_U32 v62.2 [v62.1]).bind fun v63 =>
 ex v63.1 0 fun v65 =>
 ex v63.1 1 fun v66 =>
 bn .shr v65 (LV.int .u64 20) fun v70 =>
 bn .and v70 (LV.int .i64 255) fun v71 =>
 bn .and v65 (LV.int .i64 1048575) fun v73 =>
 xS a0 (LV.int .i64 7) fun v75 =>
 (pr.conv .i64 v75).bind fun v76 =>
 (pr.parts (LV.agg [(LV.int .i64 0), (LV.int .i64 0), (LV.int .i64 0), (LV.bytes [0, 0, 0, 0, 0, 0, 0, 0, 0, 0, 0, 0, 0, 0, 0, 0]), (LV.bytes [0, 0, 0, 0, 0, 0, 0, 0, 0, 0, 0, 0, 0, 0, 0, 0]), LV.nils, (LV.bool false), (LV.int .u32 0), (LV.int .i64 0), (LV.bool false), (LV.int .i64 0), (LV.str [])]) [(0, v71), (1, v73), (2, v76), (5, v45), (10, v46), (11, v47)]).bind fun v80 =>
 (pr.alloc (LV.agg [(LV.int .i64 0), (LV.int .i64 0), (LV.int .i64 0), (LV.bytes [0, 0, 0, 0, 0, 0, 0, 0, 0, 0, 0, 0, 0, 0, 0, 0]), (LV.bytes [0, 0, 0, 0, 0, 0, 0, 0, 0, 0, 0, 0, 0, 0, 0, 0]), LV.nils, (LV.bool false), (LV.int .u32 0), (LV.int .i64 0), (LV.bool false), (LV.int .i64 0), (LV.str [])]) 12 v63.2).bind fun v81 =>
 sA 42 v81.2 v81.1 v80 fun v82 =>
 fA 3 3 v81.1 fun v83 =>
 sV 16 v82.2 v83 none none fun v84 =>
 sl a0 (some (LV.int .i64 8)) none fun v86 =>
 (pr.copy v82.2 v84 v86).bind fun v87 =>
 fA 4 19 v81.1 fun v88 =>
 sV 16 v87.2 v88 none none fun v89 =>
 sl a0 (some (LV.int .i64 24)) none fun v91 =>
 (pr.copy v87.2 v89 v91).bind fun v92 =>
 bn .eql v46 (LV.int .i64 44) fun v94 =>
 condK v94 (
 ln v47 fun v96 =>
 bn .lss v96 (LV.int .i64 8) fun v97 =>
 condK v97 (
 lA 42 v92.2 v0.1 fun v98 =>
 cl g id_fault_fault v92.2 [(LV.int .i64 7)] fun v99 =>
 sA 42 v92.2 v0.1 v98 fun v100 =>
 lA 42 v100.2 v0.1 fun v103 =>
 pr.fin none v100.2 [v103, (LV.int .i64 0), v99]) (
 xS v47 (LV.int .i64 2) fun v105 =>
 (pr.conv .i64 v105).bind fun v106 =>
 bn .shl v106 (LV.int .u64 8) fun v107 =>
 xS v47 (LV.int .i64 3) fun v109 =>
 (pr.conv .i64 v109).bind fun v110 =>
 bn .or v107 v110 fun v111 =>
 sl v47 (some (LV.int .i64 4)) none fun v114 =>
 (pr.callFr g id_num_New 102 v92.2 [v114]).bind fun v115 =>
 (pr.callRw g id_num_Reader_U32 v115.2 [v115.1]).bind fun v116 =>
 ex v116.1 0 fun v118 =>
 ex v116.1 1 fun v119 =>
 (pr.conv .u32 v118).bind fun v123 =>
 bn .andNot v111 (LV.int .i64 7) fun v125 =>
 bn .and v111 (LV.int .i64 1) fun v127 =>
 bn .neq v127 (LV.int .i64 0) fun v128 =>
 xS v47 (LV.int .i64 0) fun v130 =>
 (pr.conv .i64 v130).bind fun v131 =>
 sl v47 (some (LV.int .i64 8)) none fun v133 =>
 fA 6 36 v81.1 fun v134 =>
 s1 v116.2 v134 (LV.bool true) fun v135 =>
 fA 7 37 v81.1 fun v136 =>
 s1 v135.2 v136 v123 fun v137 =>
 fA 8 38 v81.1 fun v138 =>
 s1 v137.2 v138 v125 fun v139 =>
 fA 9 39 v81.1 fun v140 =>
 s1 v139.2 v140 v128 fun v141 =>
 fA 10 40 v81.1 fun v142 =>
 s1 v141.2 v142 v131 fun v143 =>
 fA 11 41 v81.1 fun v144 =>
 s1 v143.2 v144 v133 fun v145 =>
 ln v37 fun v148 =>
 fA 11 41 v81.1 fun v149 =>
 l1 v145.2 v149 fun v150 =>
 ln v150 fun v151 =>
 bn .sub v148 v151 fun v152 =>
 bn .sub v29 v152 fun v153 =>
 fA 11 41 v81.1 fun v155 =>
 l1 v145.2 v155 fun v156 =>
 cl g id_fault_short v145.2 [v156, v153] fun v158 =>
 condK v158 (
 lA 42 v145.2 v0.1 fun v159 =>
 cl g id_fault_fault v145.2 [(LV.int .i64 7)] fun v160 =>
 sA 42 v145.2 v0.1 v159 fun v161 =>
 lA 42 v161.2 v0.1 fun v164 =>
 pr.fin none v161.2 [v164, (LV.int .i64 0), v160]) (
 lA 42 v145.2 v81.1 fun v165 =>
 sA 42 v145.2 v0.1 v165 fun v167 =>
 lA 42 v167.2 v0.1 fun v170 =>
 pr.fin none v167.2 [v170, v153, LV.nili]))) (
 ln v37 fun v173 =>
 fA 11 41 v81.1 fun v174 =>
 l1 v92.2 v174 fun v175 =>
 ln v175 fun v176 =>
 bn .sub v173 v176 fun v177 =>
 bn .sub v29 v177 fun v178 =>
 fA 11 41 v81.1 fun v180 =>
 l1 v92.2 v180 fun v181 =>
 cl g id_fault_short v92.2 [v181, v178] fun v183 =>
 condK v183 (
 lA 42 v92.2 v0.1 fun v184 =>
 cl g id_fault_fault v92.2 [(LV.int .i64 7)] fun v185 =>
 sA 42 v92.2 v0.1 v184 fun v186 =>
 lA 42 v186.2 v0.1 fun v189 =>
 pr.fin none v186.2 [v189, (LV.int .i64 0), v185]) (
 lA 42 v92.2 v81.1 fun v190 =>
 sA 42 v92.2 v0.1 v190 fun v192 =>
 lA 42 v192.2 v0.1 fun v195 =>
 pr.fin none v192.2 [v195, v178, LV.nili])))))
theorem F_fault_Inside6_eq (g : Call) (a0 : LV) : fnEv g c_fault_Inside6 [a0] none = F_fault_Inside6 g a0 := by kernel_rfl

/-- interpreter/fault.Quote4 -/
noncomputable def F_fault_Quote4 (g : Call) (a0 : LV) (a1 : LV) (a2 : LV) (a3 : LV) : Option (LV × Option LV) :=
 bx a0 fun v0 =>
 bx a2 fun v1 =>
 bx a3 fun v2 =>
 fA 10 40 v0 fun v5 =>
 l1 noSlots v5 fun v6 =>
 cl g id_head64_Proto noSlots [v6] fun v7 =>
 ex v7 0 fun v9 =>
 ex v7 1 fun v10 =>
 fA 0 0 v0 fun v13 =>
 l1 noSlots v13 fun v14 =>
 fA 2 2 v0 fun v15 =>
 l1 noSlots v15 fun v16 =>
 (pr.bsl (LV.int .i64 0) 2 [(0, v14), (1, v16)]).bind fun v17 =>
 cl g id_fault_within noSlots [(LV.int .i64 255), v17] fun v18 =>
 nt v18 fun v19 =>
 gF v19 (pr.fieldAddr 1 4 v1) fun v21 =>
 gF v19 (pr.load 1 false noSlots v21) fun v22 =>
 gF v19 (pr.fieldAddr 1 4 v2) fun v23 =>
 gF v19 (pr.load 1 false noSlots v23) fun v24 =>
 gF v19 (pr.bsl (LV.int .i64 0) 2 [(0, v22), (1, v24)]) fun v25 =>
 gF v19 (pr.call g id_fault_within noSlots [(LV.int .i64 65535), v25]) fun v26 =>
 gF v19 (pr.un .not v26) fun v27 =>
 pF v19 v27 fun v28 =>
 gF v28 (pr.fieldAddr 8 38 v0) fun v30 =>
 gF v28 (pr.load 1 false noSlots v30) fun v31 =>
 gF v28 (pr.bsl (LV.int .i64 0) 1 [(0, v31)]) fun v32 =>
 gF v28 (pr.call g id_fault_within noSlots [(LV.int .i64 65528), v32]) fun v33 =>
 gF v28 (pr.un .not v33) fun v34 =>
 pF v28 v34 fun v35 =>
 gF v35 (pr.fieldAddr 8 38 v0) fun v37 =>
 gF v35 (pr.load 1 false noSlots v37) fun v38 =>
 gF v35 (pr.bin .rem v38 (LV.int .i64 8)) fun v39 =>
 gF v35 (pr.bin .neq v39 (LV.int .i64 0)) fun v40 =>
 pF v35 v40 fun v41 =>
 gF v41 (some a1) fun v43 =>
 gF v41 (pr.fieldAddr 11 41 v0) fun v44 =>
 gF v41 (pr.load 1 false noSlots v44) fun v45 =>
 gF v41 (pr.len true v45) fun v46 =>
 gF v41 (pr.bin .lss v43 v46) fun v47 =>
 pF v41 v47 fun v48 =>
 condK v48 (
 cl g id_fault_fault noSlots [(LV.int .i64 13)] fun v50 =>
 pr.fin none noSlots [(LV.str []), v50]) (
 nt v10 fun v54 =>
 condK v54 (
 cl g id_fault_fault noSlots [(LV.int .i64 10)] fun v56 =>
 pr.fin none noSlots [(LV.str []), v56]) (
 fA 8 38 v0 fun v60 =>
 l1 noSlots v60 fun v61 =>
 bn .sub (LV.int .i64 65515) v61 fun v62 =>
 bn .gtr a1 v62 fun v63 =>
 condK v63 (
 cl g id_fault_fault noSlots [(LV.int .i64 3)] fun v65 =>
 pr.fin none noSlots [(LV.str []), v65]) (
 fA 8 38 v0 fun v68 =>
 l1 noSlots v68 fun v69 =>
 bn .quo v69 (LV.int .i64 8) fun v70 =>
 fA 6 36 v0 fun v73 =>
 l1 noSlots v73 fun v74 =>
 condK v74 (
 fA 7 37 v0 fun v75 =>
 l1 noSlots v75 fun v76 =>
 bn .and v76 (LV.int .u32 65535) fun v77 =>
 (pr.conv .i64 v77).bind fun v78 =>
 fA 9 39 v0 fun v80 =>
 l1 noSlots v80 fun v81 =>
 condK v81 (
 bn .or v70 (LV.int .i64 8192) fun v83 =>
 fA 0 0 v0 fun v85 =>
 l1 noSlots v85 fun v86 =>
 cl g id_fault_big noSlots [v86, (LV.int .i64 1)] fun v87 =>
 bn .add (LV.str [69]) v87 fun v88 =>
 bn .add (LV.int .i64 20) a1 fun v90 =>
 cl g id_fault_big noSlots [v90, (LV.int .i64 2)] fun v91 =>
 bn .add v88 v91 fun v92 =>
 cl g id_fault_big noSlots [v78, (LV.int .i64 2)] fun v94 =>
 bn .add v92 v94 fun v95 =>
 cl g id_fault_big noSlots [v83, (LV.int .i64 2)] fun v97 =>
 bn .add v95 v97 fun v98 =>
 fA 2 2 v0 fun v99 =>
 l1 noSlots v99 fun v100 =>
 cl g id_fault_big noSlots [v100, (LV.int .i64 1)] fun v101 =>
 bn .add v98 v101 fun v102 =>
 cl g id_fault_big noSlots [v9, (LV.int .i64 1)] fun v104 =>
 bn .add v102 v104 fun v105 =>
 fA 0 0 v1 fun v107 =>
 sV 4 noSlots v107 none none fun v108 =>
 bS noSlots v108 fun v109 =>
 fA 0 0 v2 fun v110 =>
 sV 4 noSlots v110 none none fun v111 =>
 bS noSlots v111 fun v112 =>
 bn .add v109 v112 fun v113 =>
 (pr.bsl (LV.str []) 2 [(0, v105), (1, v113)]).bind fun v118 =>
 cl g id_sum_Of noSlots [v118] fun v119 =>
 cl g id_fault_big noSlots [v119, (LV.int .i64 2)] fun v120 =>
 bn .add v105 v120 fun v121 =>
 bn .add v121 v113 fun v123 =>
 lA 42 noSlots v0 fun v124 =>
 lA 5 noSlots v1 fun v126 =>
 lA 5 noSlots v2 fun v127 =>
 cl g id_fault_turn4 noSlots [v124, a1, v126, v127] fun v128 =>
 bn .add v123 v128 fun v129 =>
 pr.fin none noSlots [v129, LV.nili]) (
 fA 0 0 v0 fun v132 =>
 l1 noSlots v132 fun v133 =>
 cl g id_fault_big noSlots [v133, (LV.int .i64 1)] fun v134 =>
 bn .add (LV.str [69]) v134 fun v135 =>
 bn .add (LV.int .i64 20) a1 fun v137 =>
 cl g id_fault_big noSlots [v137, (LV.int .i64 2)] fun v138 =>
 bn .add v135 v138 fun v139 =>
 cl g id_fault_big noSlots [v78, (LV.int .i64 2)] fun v141 =>
 bn .add v139 v141 fun v142 =>
 cl g id_fault_big noSlots [v70, (LV.int .i64 2)] fun v144 =>
 bn .add v142 v144 fun v145 =>
 fA 2 2 v0 fun v146 =>
 l1 noSlots v146 fun v147 =>
 cl g id_fault_big noSlots [v147, (LV.int .i64 1)] fun v148 =>
 bn .add v145 v148 fun v149 =>
 cl g id_fault_big noSlots [v9, (LV.int .i64 1)] fun v151 =>
 bn .add v149 v151 fun v152 =>
 fA 0 0 v1 fun v154 =>
 sV 4 noSlots v154 none none fun v155 =>
 bS noSlots v155 fun v156 =>
 fA 0 0 v2 fun v157 =>
 sV 4 noSlots v157 none none fun v158 =>
 bS noSlots v158 fun v159 =>
 bn .add v156 v159 fun v160 =>
 (pr.bsl (LV.str []) 2 [(0, v152), (1, v160)]).bind fun v165 =>
 cl g id_sum_Of noSlots [v165] fun v166 =>
 cl g id_fault_big noSlots [v166, (LV.int .i64 2)] fun v167 =>
 bn .add v152 v167 fun v168 =>
 bn .add v168 v160 fun v170 =>
 lA 42 noSlots v0 fun v171 =>
 lA 5 noSlots v1 fun v173 =>
 lA 5 noSlots v2 fun v174 =>
 cl g id_fault_turn4 noSlots [v171, a1, v173, v174] fun v175 =>
 bn .add v170 v175 fun v176 =>
 pr.fin none noSlots [v176, LV.nili])) (
 bn .gtr a1 (LV.int .i64 1240) fun v180 =>
 condK v180 (
 bn .or v70 (LV.int .i64 16384) fun v182 =>
 fA 9 39 v0 fun v184 =>
 l1 noSlots v184 fun v185 =>
 condK v185 (
 bn .or v182 (LV.int .i64 8192) fun v187 =>
 fA 0 0 v0 fun v189 =>
 l1 noSlots v189 fun v190 =>
 cl g id_fault_big noSlots [v190, (LV.int .i64 1)] fun v191 =>
 bn .add (LV.str [69]) v191 fun v192 =>
 bn .add (LV.int .i64 20) a1 fun v194 =>
 cl g id_fault_big noSlots [v194, (LV.int .i64 2)] fun v195 =>
 bn .add v192 v195 fun v196 =>
 cl g id_fault_big noSlots [(LV.int .i64 0), (LV.int .i64 2)] fun v198 =>
 bn .add v196 v198 fun v199 =>
 cl g id_fault_big noSlots [v187, (LV.int .i64 2)] fun v201 =>
 bn .add v199 v201 fun v202 =>
 fA 2 2 v0 fun v203 =>
 l1 noSlots v203 fun v204 =>
 cl g id_fault_big noSlots [v204, (LV.int .i64 1)] fun v205 =>
 bn .add v202 v205 fun v206 =>
 cl g id_fault_big noSlots [v9, (LV.int .i64 1)] fun v208 =>
 bn .add v206 v208 fun v209 =>
 fA 0 0 v1 fun v211 =>
 sV 4 noSlots v211 none none fun v212 =>
 bS noSlots v212 fun v213 =>
 fA 0 0 v2 fun v214 =>
 sV 4 noSlots v214 none none fun v215 =>
 bS noSlots v215 fun v216 =>
 bn .add v213 v216 fun v217 =>
 (pr.bsl (LV.str []) 2 [(0, v209), (1, v217)]).bind fun v222 =>
 cl g id_sum_Of noSlots [v222] fun v223 =>
 cl g id_fault_big noSlots [v223, (LV.int .i64 2)] fun v224 =>
 bn .add v209 v224 fun v225 =>
 bn .add v225 v217 fun v227 =>
 lA 42 noSlots v0 fun v228 =>
 lA 5 noSlots v1 fun v230 =>
 lA 5 noSlots v2 fun v231 =>
 cl g id_fault_turn4 noSlots [v228, a1, v230, v231] fun v232 =>
 bn .add v227 v232 fun v233 =>
 pr.fin none noSlots [v233, LV.nili]) (
 fA 0 0 v0 fun v236 =>
 l1 noSlots v236 fun v237 =>
 cl g id_fault_big noSlots [v237, (LV.int .i64 1)] fun v238 =>
 bn .add (LV.str [69]) v238 fun v239 =>
 bn .add (LV.int .i64 20) a1 fun v241 =>
 cl g id_fault_big noSlots [v241, (LV.int .i64 2)] fun v242 =>
 bn .add v239 v242 fun v243 =>
 cl g id_fault_big noSlots [(LV.int .i64 0), (LV.int .i64 2)] fun v245 =>
 bn .add v243 v245 fun v246 =>
 cl g id_fault_big noSlots [v182, (LV.int .i64 2)] fun v248 =>
 bn .add v246 v248 fun v249 =>
 fA 2 2 v0 fun v250 =>
 l1 noSlots v250 fun v251 =>
 cl g id_fault_big noSlots [v251, (LV.int .i64 1)] fun v252 =>
 bn .add v249 v252 fun v253 =>
 cl g id_fault_big noSlots [v9, (LV.int .i64 1)] fun v255 =>
 bn .add v253 v255 fun v256 =>
 fA 0 0 v1 fun v258 =>
 sV 4 noSlots v258 none none fun v259 =>
 bS noSlots v259 fun v260 =>
 fA 0 0 v2 fun v261 =>
 sV 4 noSlots v261 none none fun v262 =>
 bS noSlots v262 fun v263 =>
 bn .add v260 v263 fun v264 =>
 (pr.bsl (LV.str []) 2 [(0, v256), (1, v264)]).bind fun v269 =>
 cl g id_sum_Of noSlots [v269] fun v270 =>
 cl g id_fault_big noSlots [v270, (LV.int .i64 2)] fun v271 =>
 bn .add v256 v271 fun v272 =>
 bn .add v272 v264 fun v274 =>
 lA 42 noSlots v0 fun v275 =>
 lA 5 noSlots v1 fun v277 =>
 lA 5 noSlots v2 fun v278 =>
 cl g id_fault_turn4 noSlots [v275, a1, v277, v278] fun v279 =>
 bn .add v274 v279 fun v280 =>
 pr.fin none noSlots [v280, LV.nili])) (
 fA 9 39 v0 fun v283 =>
 l1 noSlots v283 fun v284 =>
 condK v284 (
 bn .or v70 (LV.int .i64 8192) fun v286 =>
 fA 0 0 v0 fun v288 =>
 l1 noSlots v288 fun v289 =>
 cl g id_fault_big noSlots [v289, (LV.int .i64 1)] fun v290 =>
 bn .add (LV.str [69]) v290 fun v291 =>
 bn .add (LV.int .i64 20) a1 fun v293 =>
 cl g id_fault_big noSlots [v293, (LV.int .i64 2)] fun v294 =>
 bn .add v291 v294 fun v295 =>
 cl g id_fault_big noSlots [(LV.int .i64 0), (LV.int .i64 2)] fun v297 =>
 bn .add v295 v297 fun v298 =>
 cl g id_fault_big noSlots [v286, (LV.int .i64 2)] fun v300 =>
 bn .add v298 v300 fun v301 =>
 fA 2 2 v0 fun v302 =>
 l1 noSlots v302 fun v303 =>
 cl g id_fault_big noSlots [v303, (LV.int .i64 1)] fun v304 =>
 bn .add v301 v304 fun v305 =>
 cl g id_fault_big noSlots [v9, (LV.int .i64 1)] fun v307 =>
 bn .add v305 v307 fun v308 =>
 fA 0 0 v1 fun v310 =>
 sV 4 noSlots v310 none none fun v311 =>
 bS noSlots v311 fun v312 =>
 fA 0 0 v2 fun v313 =>
 sV 4 noSlots v313 none none fun v314 =>
 bS noSlots v314 fun v315 =>
 bn .add v312 v315 fun v316 =>
 (pr.bsl (LV.str []) 2 [(0, v308), (1, v316)]).bind fun v321 =>
 cl g id_sum_Of noSlots [v321] fun v322 =>
 cl g id_fault_big noSlots [v322, (LV.int .i64 2)] fun v323 =>
 bn .add v308 v323 fun v324 =>
 bn .add v324 v316 fun v326 =>
 lA 42 noSlots v0 fun v327 =>
 lA 5 noSlots v1 fun v329 =>
 lA 5 noSlots v2 fun v330 =>
 cl g id_fault_turn4 noSlots [v327, a1, v329, v330] fun v331 =>
 bn .add v326 v331 fun v332 =>
 pr.fin none noSlots [v332, LV.nili]) (
 fA 0 0 v0 fun v335 =>
 l1 noSlots v335 fun v336 =>
 cl g id_fault_big noSlots [v336, (LV.int .i64 1)] fun v337 =>
 bn .add (LV.str [69]) v337 fun v338 =>
 bn .add (LV.int .i64 20) a1 fun v340 =>
 cl g id_fault_big noSlots [v340, (LV.int .i64 2)] fun v341 =>
 bn .add v338 v341 fun v342 =>
 cl g id_fault_big noSlots [(LV.int .i64 0), (LV.int .i64 2)] fun v344 =>
 bn .add v342 v344 fun v345 =>
 cl g id_fault_big noSlots [v70, (LV.int .i64 2)] fun v347 =>
 bn .add v345 v347 fun v348 =>
 fA 2 2 v0 fun v349 =>
 l1 noSlots v349 fun v350 =>
 cl g id_fault_big noSlots [v350, (LV.int .i64 1)] fun v351 =>
 bn .add v348 v351 fun v352 =>
 cl g id_fault_big noSlots [v9, (LV.int .i64 1)] fun v354 =>
 bn .add v352 v354 fun v355 =>
 fA 0 0 v1 fun v357 =>
 sV 4 noSlots v357 none none fun v358 =>
 bS noSlots v358 fun v359 =>
 fA 0 0 v2 fun v360 =>
 sV 4 noSlots v360 none none fun v361 =>
 bS noSlots v361 fun v362 =>
 bn .add v359 v362 fun v363 =>
 (pr.bsl (LV.str []) 2 [(0, v355), (1, v363)]).bind fun v368 =>
 cl g id_sum_Of noSlots [v368] fun v369 =>
 cl g id_fault_big noSlots [v369, (LV.int .i64 2)] fun v370 =>
 bn .add v355 v370 fun v371 =>
 bn .add v371 v363 fun v373 =>
 lA 42 noSlots v0 fun v374 =>
 lA 5 noSlots v1 fun v376 =>
 lA 5 noSlots v2 fun v377 =>
 cl g id_fault_turn4 noSlots [v374, a1, v376, v377] fun v378 =>
 bn .add v373 v378 fun v379 =>
 pr.fin none noSlots [v379, LV.nili]))))))
theorem F_fault_Quote4_eq (g : Call) (a0 : LV) (a1 : LV) (a2 : LV) (a3 : LV) : fnEv g c_fault_Quote4 [a0, a1, a2, a3] none = F_fault_Quote4 g a0 a1 a2 a3 := by kernel_rfl

/-- interpreter/ip4.Parse -/
noncomputable def F_ip4_Parse (g : Call) (a0 : LV) : Option (LV × Option LV) :=
 bx a0 fun v0 =>
 (pr.alloc (LV.agg [(LV.int .i64 0), (LV.int .i64 0), (LV.int .i64 0), (LV.int .i64 0), (LV.int .i64 0), (LV.bool false), (LV.bool false), (LV.bytes [0, 0, 0, 0]), (LV.bytes [0, 0, 0, 0]), (LV.str []), (LV.str [])]) 2 noSlots).bind fun v1 =>
 (pr.alloc (LV.agg [(LV.int .i64 0), (LV.int .i64 0), (LV.int .i64 0), (LV.int .i64 0), (LV.int .i64 0), (LV.bool false), (LV.bool false), (LV.bytes [0, 0, 0, 0]), (LV.bytes [0, 0, 0, 0]), (LV.str []), (LV.str [])]) 4 v1.2).bind fun v3 =>
 l1 v3.2 v0 fun v4 =>
 ln v4 fun v5 =>
 bn .lss v5 (LV.int .i64 20) fun v6 =>
 condK v6 (
 lA 17 v3.2 v3.1 fun v7 =>
 cl g id_ip4_fault v3.2 [(LV.int .i64 7)] fun v8 =>
 sA 17 v3.2 v1.1 v7 fun v9 =>
 lA 17 v9.2 v1.1 fun v11 =>
 pr.fin none v9.2 [v11, v8]) (
 l1 v3.2 v0 fun v12 =>
 xS v12 (LV.int .i64 0) fun v13 =>
 bn .and v13 (LV.int .u8 15) fun v14 =>
 (pr.conv .i64 v14).bind fun v15 =>
 bn .mul v15 (LV.int .i64 4) fun v16 =>
 l1 v3.2 v0 fun v18 =>
 xS v18 (LV.int .i64 0) fun v19 =>
 bn .shr v19 (LV.int .u64 4) fun v20 =>
 bn .neq v20 (LV.int .u8 4) fun v21 =>
 gF v21 (some v16) fun v23 =>
 gF v21 (pr.bin .lss v23 (LV.int .i64 20)) fun v24 =>
 pF v21 v24 fun v25 =>
 condK v25 (
 lA 17 v3.2 v3.1 fun v27 =>
 cl g id_ip4_fault v3.2 [(LV.int .i64 8)] fun v28 =>
 sA 17 v3.2 v1.1 v27 fun v29 =>
 lA 17 v29.2 v1.1 fun v31 =>
 pr.fin none v29.2 [v31, v28]) (
 l1 v3.2 v0 fun v32 =>
 ln v32 fun v33 =>
 bn .lss v33 v16 fun v35 =>
 condK v35 (
 lA 17 v3.2 v3.1 fun v37 =>
 cl g id_ip4_fault v3.2 [(LV.int .i64 7)] fun v38 =>
 sA 17 v3.2 v1.1 v37 fun v39 =>
 lA 17 v39.2 v1.1 fun v41 =>
 pr.fin none v39.2 [v41, v38]) (
 l1 v3.2 v0 fun v42 =>
 sl v42 none (some v16) fun v44 =>
 (pr.bsl (LV.str []) 1 [(0, v44)]).bind fun v45 =>
 cl g id_sum_Right v3.2 [v45] fun v46 =>
 nt v46 fun v47 =>
 condK v47 (
 lA 17 v3.2 v3.1 fun v49 =>
 cl g id_ip4_fault v3.2 [(LV.int .i64 9)] fun v50 =>
 sA 17 v3.2 v1.1 v49 fun v51 =>
 lA 17 v51.2 v1.1 fun v53 =>
 pr.fin none v51.2 [v53, v50]) (
 (pr.mkFunc id_ip4_Parse_1 [v0]).bind fun v54 =>
 (pr.callv g v3.2 v54 [(LV.int .i64 2)]).bind fun v57 =>
 (pr.callv g v3.2 v54 [(LV.int .i64 6)]).bind fun v59 =>
 bn .lss v57 v16 fun v64 =>
 condK v64 (
 lA 17 v3.2 v3.1 fun v66 =>
 cl g id_ip4_fault v3.2 [(LV.int .i64 8)] fun v67 =>
 sA 17 v3.2 v1.1 v66 fun v68 =>
 lA 17 v68.2 v1.1 fun v70 =>
 pr.fin none v68.2 [v70, v67]) (
 l1 v3.2 v0 fun v71 =>
 ln v71 fun v72 =>
 bn .lss v72 v57 fun v74 =>
 condK v74 (
 lA 17 v3.2 v3.1 fun v76 =>
 cl g id_ip4_fault v3.2 [(LV.int .i64 7)] fun v77 =>
 sA 17 v3.2 v1.1 v76 fun v78 =>
 lA 17 v78.2 v1.1 fun v80 =>
 pr.fin none v78.2 [v80, v77]) (
 l1 v3.2 v0 fun v81 =>
 xS v81 (LV.int .i64 1) fun v82 =>
 (pr.conv .i64 v82).bind fun v83 =>
 (pr.callv g v3.2 v54 [(LV.int .i64 4)]).bind fun v85 =>
 l1 v3.2 v0 fun v86 =>
 xS v86 (LV.int .i64 8) fun v87 =>
 (pr.conv .i64 v87).bind fun v88 =>
 l1 v3.2 v0 fun v89 =>
 xS v89 (LV.int .i64 9) fun v90 =>
 (pr.conv .i64 v90).bind fun v91 =>
 bn .and v59 (LV.int .i64 8191) fun v93 =>
 bn .mul v93 (LV.int .i64 8) fun v94 =>
 bn .and v59 (LV.int .i64 16384) fun v96 =>
 bn .neq v96 (LV.int .i64 0) fun v97 =>
 bn .and v59 (LV.int .i64 8192) fun v99 =>
 bn .neq v99 (LV.int .i64 0) fun v100 =>
 l1 v3.2 v0 fun v101 =>
 sl v101 (some (LV.int .i64 20)) (some v16) fun v103 =>
 l1 v3.2 v0 fun v104 =>
 sl v104 (some v16) (some v57) fun v107 =>
 (pr.parts (LV.agg [(LV.int .i64 0), (LV.int .i64 0), (LV.int .i64 0), (LV.int .i64 0), (LV.int .i64 0), (LV.bool false), (LV.bool false), (LV.bytes [0, 0, 0, 0]), (LV.bytes [0, 0, 0, 0]), (LV.str []), (LV.str [])]) [(0, v83), (1, v85), (2, v88), (3, v91), (4, v94), (5, v97), (6, v100), (9, v103), (10, v107)]).bind fun v108 =>
 (pr.alloc (LV.agg [(LV.int .i64 0), (LV.int .i64 0), (LV.int .i64 0), (LV.int .i64 0), (LV.int .i64 0), (LV.bool false), (LV.bool false), (LV.bytes [0, 0, 0, 0]), (LV.bytes [0, 0, 0, 0]), (LV.str []), (LV.str [])]) 9 v3.2).bind fun v109 =>
 sA 17 v109.2 v109.1 v108 fun v110 =>
 fA 7 7 v109.1 fun v111 =>
 sV 4 v110.2 v111 none none fun v112 =>
 l1 v110.2 v0 fun v113 =>
 sl v113 (some (LV.int .i64 12)) none fun v114 =>
 (pr.copy v110.2 v112 v114).bind fun v115 =>
 fA 8 11 v109.1 fun v116 =>
 sV 4 v115.2 v116 none none fun v117 =>
 l1 v115.2 v0 fun v118 =>
 sl v118 (some (LV.int .i64 16)) none fun v119 =>
 (pr.copy v115.2 v117 v119).bind fun v120 =>
 bn .and v59 (LV.int .i64 32768) fun v122 =>
 bn .neq v122 (LV.int .i64 0) fun v123 =>
 gF v123 (pr.load 17 true v120.2 v109.1) fun v125 =>
 gF v123 (pr.call g id_ip4_why v120.2 [v125]) fun v126 =>
 gF v123 (pr.bin .neq v126 (LV.int .i64 0)) fun v127 =>
 pF v123 v127 fun v128 =>
 condK v128 (
 lA 17 v120.2 v3.1 fun v129 =>
 cl g id_ip4_fault v120.2 [(LV.int .i64 8)] fun v130 =>
 sA 17 v120.2 v1.1 v129 fun v131 =>
 lA 17 v131.2 v1.1 fun v133 =>
 pr.fin none v131.2 [v133, v130]) (
 lA 17 v120.2 v109.1 fun v134 =>
 sA 17 v120.2 v1.1 v134 fun v135 =>
 lA 17 v135.2 v1.1 fun v137 =>
 pr.fin none v135.2 [v137, LV.nili])))))))
theorem F_ip4_Parse_eq (g : Call) (a0 : LV) : fnEv g c_ip4_Parse [a0] none = F_ip4_Parse g a0 := by kernel_rfl

/-- interpreter/sum.Pseudo6 -/
noncomputable def F_sum_Pseudo6 (g : Call) (a0 : LV) (a1 : LV) (a2 : LV) (a3 : LV) : Option (LV × Option LV) :=
 bx a0 fun v0 =>
 bx a1 fun v1 =>
 sV 16 noSlots v0 none none fun v3 =>
 bS noSlots v3 fun v4 =>
 sV 16 noSlots v1 none none fun v5 =>
 bS noSlots v5 fun v6 =>
 bn .add v4 v6 fun v7 =>
 cl g id_sum_big noSlots [a3, (LV.int .i64 4)] fun v9 =>
 bn .add v7 v9 fun v10 =>
 bn .add v10 (LV.str [0, 0, 0]) fun v11 =>
 cl g id_sum_big noSlots [a2, (LV.int .i64 1)] fun v13 =>
 bn .add v11 v13 fun v14 =>
 pr.fin none noSlots [v14]
theorem F_sum_Pseudo6_eq (g : Call) (a0 : LV) (a1 : LV) (a2 : LV) (a3 : LV) : fnEv g c_sum_Pseudo6 [a0, a1, a2, a3] none = F_sum_Pseudo6 g a0 a1 a2 a3 := by kernel_rfl

/-- interpreter/fault.Carry6 -/
noncomputable def F_fault_Carry6 (g : Call) (a0 : LV) (a1 : LV) (a2 : LV) (a3 : LV) (a4 : LV) : Option (LV × Option LV) :=
 bx a0 fun v0 =>
 bx a3 fun v1 =>
 bx a4 fun v2 =>
 (pr.alloc (LV.agg [(LV.int .i64 0), (LV.int .i64 0), (LV.int .u32 0), (LV.str [])]) 10 noSlots).bind fun v3 =>
 fA 3 3 v0 fun v5 =>
 l1 v3.2 v5 fun v6 =>
 cl g id_fault_Inside4 v3.2 [v6] fun v7 =>
 ex v7 0 fun v9 =>
 ex v7 1 fun v10 =>
 ex v7 2 fun v11 =>
 (pr.alloc (LV.agg [(LV.int .i64 0), (LV.int .i64 0), (LV.int .i64 0), (LV.int .i64 0), (LV.int .i64 0), (LV.bool false), (LV.bool false), (LV.bytes [0, 0, 0, 0]), (LV.bytes [0, 0, 0, 0]), (LV.str []), (LV.str [])]) 12 v3.2).bind fun v12 =>
 sA 17 v12.2 v12.1 v9 fun v13 =>
 eN 1 true v11 fun v17 =>
 gF v17 (pr.load 4 true v13.2 v0) fun v19 =>
 gF v17 (pr.call g id_icmp4_Failure v13.2 [v19]) fun v20 =>
 gF v17 (pr.un .not v20) fun v21 =>
 pF v17 v21 fun v22 =>
 condK v22 (
 (pr.parts (LV.agg [(LV.int .i64 0), (LV.int .i64 0), (LV.int .u32 0), (LV.str [])]) []).bind fun v23 =>
 sA 4 v13.2 v3.1 v23 fun v24 =>
 lA 4 v24.2 v3.1 fun v26 =>
 pr.fin none v24.2 [v26, (LV.bool false)]) (
 lA 4 v13.2 v0 fun v27 =>
 fA 9 15 v12.1 fun v30 =>
 l1 v13.2 v30 fun v31 =>
 ln v31 fun v32 =>
 bn .add (LV.int .i64 20) v32 fun v33 =>
 bn .add v33 v10 fun v35 =>
 cl g id_icmpmap_To6 v13.2 [v27, a1, a2, v35] fun v36 =>
 ex v36 0 fun v38 =>
 ex v36 1 fun v39 =>
 (pr.alloc (LV.agg [(LV.int .i64 0), (LV.int .i64 0), (LV.int .u32 0), (LV.str [])]) 15 v13.2).bind fun v40 =>
 sA 4 v40.2 v40.1 v38 fun v41 =>
 lA 17 v41.2 v12.1 fun v43 =>
 lA 17 v41.2 v1 fun v45 =>
 lA 17 v41.2 v2 fun v46 =>
 cl g id_fault_Quote6 v41.2 [v43, v10, v45, v46] fun v47 =>
 ex v47 0 fun v49 =>
 ex v47 1 fun v50 =>
 nt v39 fun v54 =>
 gF v54 (some v50) fun v56 =>
 gF v54 (pr.eqNil 1 true v56) fun v57 =>
 pF v54 v57 fun v58 =>
 condK v58 (
 (pr.parts (LV.agg [(LV.int .i64 0), (LV.int .i64 0), (LV.int .u32 0), (LV.str [])]) []).bind fun v59 =>
 sA 4 v41.2 v3.1 v59 fun v60 =>
 lA 4 v60.2 v3.1 fun v62 =>
 pr.fin none v60.2 [v62, (LV.bool false)]) (
 ln v49 fun v65 =>
 (pr.minmax false v65 [(LV.int .i64 1232)]).bind fun v66 =>
 sl v49 none (some v66) fun v67 =>
 fA 3 3 v40.1 fun v68 =>
 s1 v41.2 v68 v67 fun v69 =>
 lA 4 v69.2 v40.1 fun v70 =>
 sA 4 v69.2 v3.1 v70 fun v71 =>
 lA 4 v71.2 v3.1 fun v73 =>
 pr.fin none v71.2 [v73, (LV.bool true)]))
theorem F_fault_Carry6_eq (g : Call) (a0 : LV) (a1 : LV) (a2 : LV) (a3 : LV) (a4 : LV) : fnEv g c_fault_Carry6 [a0, a1, a2, a3, a4] none = F_fault_Carry6 g a0 a1 a2 a3 a4 := by kernel_rfl

/-- interpreter/icmp6.Failure -/
noncomputable def F_icmp6_Failure (g : Call) (a0 : LV) : Option (LV × Option LV) :=
 bx a0 fun v0 =>
 fA 0 0 v0 fun v2 =>
 l1 noSlots v2 fun v3 =>
 bn .geq v3 (LV.int .i64 1) fun v4 =>
 gT v4 (pr.fieldAddr 0 0 v0) fun v6 =>
 gT v4 (pr.load 1 false noSlots v6) fun v7 =>
 gT v4 (pr.bin .leq v7 (LV.int .i64 127)) fun v8 =>
 pT v4 v8 fun v9 =>
 pr.fin none noSlots [v9]
theorem F_icmp6_Failure_eq (g : Call) (a0 : LV) : fnEv g c_icmp6_Failure [a0] none = F_icmp6_Failure g a0 := by kernel_rfl

/-- interpreter/icmp4.Failure -/
noncomputable def F_icmp4_Failure (g : Call) (a0 : LV) : Option (LV × Option LV) :=
 bx a0 fun v0 =>
 fA 0 0 v0 fun v2 =>
 l1 noSlots v2 fun v3 =>
 bn .eql v3 (LV.int .i64 3) fun v4 =>
 condK v4 (
 condK v4 (
 pr.fin none noSlots [(LV.bool true)]) (
 pr.fin none noSlots [(LV.bool false)])) (
 bn .eql v3 (LV.int .i64 4) fun v8 =>
 condK v8 (
 condK v8 (
 pr.fin none noSlots [(LV.bool true)]) (
 pr.fin none noSlots [(LV.bool false)])) (
 bn .eql v3 (LV.int .i64 5) fun v12 =>
 condK v12 (
 condK v12 (
 pr.fin none noSlots [(LV.bool true)]) (
 pr.fin none noSlots [(LV.bool false)])) (
 bn .eql v3 (LV.int .i64 11) fun v16 =>
 condK v16 (
 condK v16 (
 pr.fin none noSlots [(LV.bool true)]) (
 pr.fin none noSlots [(LV.bool false)])) (
 bn .eql v3 (LV.int .i64 12) fun v20 =>
 condK v20 (
 pr.fin none noSlots [(LV.bool true)]) (
 pr.fin none noSlots [(LV.bool false)])))))
theorem F_icmp4_Failure_eq (g : Call) (a0 : LV) : fnEv g c_icmp4_Failure [a0] none = F_icmp4_Failure g a0 := by kernel_rfl

/-- interpreter/fault.Carry4 -/
noncomputable def F_fault_Carry4 (g : Call) (a0 : LV) (a1 : LV) (a2 : LV) (a3 : LV) (a4 : LV) : Option (LV × Option LV) :=
 bx a0 fun v0 =>
 bx a3 fun v1 =>
 bx a4 fun v2 =>
 (pr.alloc (LV.agg [(LV.int .i64 0), (LV.int .i64 0), (LV.int .u32 0), (LV.str [])]) 10 noSlots).bind fun v3 =>
 fA 3 3 v0 fun v5 =>
 l1 v3.2 v5 fun v6 =>
 cl g id_fault_Inside6 v3.2 [v6] fun v7 =>
 ex v7 0 fun v9 =>
 ex v7 1 fun v10 =>
 ex v7 2 fun v11 =>
 (pr.alloc (LV.agg [(LV.int .i64 0), (LV.int .i64 0), (LV.int .i64 0), (LV.bytes [0, 0, 0, 0, 0, 0, 0, 0, 0, 0, 0, 0, 0, 0, 0, 0]), (LV.bytes [0, 0, 0, 0, 0, 0, 0, 0, 0, 0, 0, 0, 0, 0, 0, 0]), LV.nils, (LV.bool false), (LV.int .u32 0), (LV.int .i64 0), (LV.bool false), (LV.int .i64 0), (LV.str [])]) 12 v3.2).bind fun v12 =>
 sA 42 v12.2 v12.1 v9 fun v13 =>
 eN 1 true v11 fun v17 =>
 gF v17 (pr.load 4 true v13.2 v0) fun v19 =>
 gF v17 (pr.call g id_icmp6_Failure v13.2 [v19]) fun v20 =>
 gF v17 (pr.un .not v20) fun v21 =>
 pF v17 v21 fun v22 =>
 condK v22 (
 (pr.parts (LV.agg [(LV.int .i64 0), (LV.int .i64 0), (LV.int .u32 0), (LV.str [])]) []).bind fun v23 =>
 sA 4 v13.2 v3.1 v23 fun v24 =>
 lA 4 v24.2 v3.1 fun v26 =>
 pr.fin none v24.2 [v26, (LV.bool false)]) (
 lA 4 v13.2 v0 fun v27 =>
 cl g id_icmpmap_To4 v13.2 [v27, a1, a2] fun v30 =>
 ex v30 0 fun v32 =>
 ex v30 1 fun v33 =>
 (pr.alloc (LV.agg [(LV.int .i64 0), (LV.int .i64 0), (LV.int .u32 0), (LV.str [])]) 15 v13.2).bind fun v34 =>
 sA 4 v34.2 v34.1 v32 fun v35 =>
 lA 42 v35.2 v12.1 fun v37 =>
 lA 5 v35.2 v1 fun v39 =>
 lA 5 v35.2 v2 fun v40 =>
 cl g id_fault_Quote4 v35.2 [v37, v10, v39, v40] fun v41 =>
 ex v41 0 fun v43 =>
 ex v41 1 fun v44 =>
 nt v33 fun v48 =>
 gF v48 (some v44) fun v50 =>
 gF v48 (pr.eqNil 1 true v50) fun v51 =>
 pF v48 v51 fun v52 =>
 condK v52 (
 (pr.parts (LV.agg [(LV.int .i64 0), (LV.int .i64 0), (LV.int .u32 0), (LV.str [])]) []).bind fun v53 =>
 sA 4 v35.2 v3.1 v53 fun v54 =>
 lA 4 v54.2 v3.1 fun v56 =>
 pr.fin none v54.2 [v56, (LV.bool false)]) (
 ln v43 fun v59 =>
 (pr.minmax false (LV.int .i64 576) [a1]).bind fun v61 =>
 bn .sub v61 (LV.int .i64 20) fun v62 =>
 bn .sub v62 (LV.int .i64 8) fun v63 =>
 (pr.minmax false v59 [v63]).bind fun v64 =>
 sl v43 none (some v64) fun v65 =>
 fA 3 3 v34.1 fun v66 =>
 s1 v35.2 v66 v65 fun v67 =>
 lA 4 v67.2 v34.1 fun v68 =>
 sA 4 v67.2 v3.1 v68 fun v69 =>
 lA 4 v69.2 v3.1 fun v71 =>
 pr.fin none v69.2 [v71, (LV.bool true)]))
theorem F_fault_Carry4_eq (g : Call) (a0 : LV) (a1 : LV) (a2 : LV) (a3 : LV) (a4 : LV) : fnEv g c_fault_Carry4 [a0, a1, a2, a3, a4] none = F_fault_Carry4 g a0 a1 a2 a3 a4 := by kernel_rfl

/-- interpreter/interpreterref03.Why -/
noncomputable def F_interpreterref03_Why (g : Call) (a0 : LV) : Option (LV × Option LV) :=
 bx a0 fun v0 =>
 fA 0 0 v0 fun v2 =>
 l1 noSlots v2 fun v3 =>
 cl g id_interpreterref03_within noSlots [v3, (LV.int .i64 255)] fun v4 =>
 nt v4 fun v5 =>
 gF v5 (pr.fieldAddr 2 2 v0) fun v7 =>
 gF v5 (pr.load 1 false noSlots v7) fun v8 =>
 gF v5 (pr.call g id_interpreterref03_within noSlots [v8, (LV.int .i64 255)]) fun v9 =>
 gF v5 (pr.un .not v9) fun v10 =>
 pF v5 v10 fun v11 =>
 gF v11 (pr.fieldAddr 3 3 v0) fun v13 =>
 gF v11 (pr.load 1 false noSlots v13) fun v14 =>
 gF v11 (pr.call g id_interpreterref03_within noSlots [v14, (LV.int .i64 255)]) fun v15 =>
 gF v11 (pr.un .not v15) fun v16 =>
 pF v11 v16 fun v17 =>
 gF v17 (pr.fieldAddr 1 1 v0) fun v19 =>
 gF v17 (pr.load 1 false noSlots v19) fun v20 =>
 gF v17 (pr.call g id_interpreterref03_within noSlots [v20, (LV.int .i64 65535)]) fun v21 =>
 gF v17 (pr.un .not v21) fun v22 =>
 pF v17 v22 fun v23 =>
 gF v23 (pr.fieldAddr 4 4 v0) fun v25 =>
 gF v23 (pr.load 1 false noSlots v25) fun v26 =>
 gF v23 (pr.call g id_interpreterref03_within noSlots [v26, (LV.int .i64 65528)]) fun v27 =>
 gF v23 (pr.un .not v27) fun v28 =>
 pF v23 v28 fun v29 =>
 gF v29 (pr.fieldAddr 4 4 v0) fun v31 =>
 gF v29 (pr.load 1 false noSlots v31) fun v32 =>
 gF v29 (pr.bin .rem v32 (LV.int .i64 8)) fun v33 =>
 gF v29 (pr.bin .neq v33 (LV.int .i64 0)) fun v34 =>
 pF v29 v34 fun v35 =>
 condK v35 (
 pr.fin none noSlots [(LV.int .i64 13)]) (
 fA 9 15 v0 fun v37 =>
 l1 noSlots v37 fun v38 =>
 ln v38 fun v39 =>
 bn .gtr v39 (LV.int .i64 40) fun v40 =>
 gF v40 (pr.fieldAddr 9 15 v0) fun v42 =>
 gF v40 (pr.load 1 false noSlots v42) fun v43 =>
 gF v40 (pr.len true v43) fun v44 =>
 gF v40 (pr.bin .rem v44 (LV.int .i64 4)) fun v45 =>
 gF v40 (pr.bin .neq v45 (LV.int .i64 0)) fun v46 =>
 pF v40 v46 fun v47 =>
 condK v47 (
 pr.fin none noSlots [(LV.int .i64 8)]) (
 fA 6 6 v0 fun v49 =>
 l1 noSlots v49 fun v50 =>
 gT v50 (pr.fieldAddr 10 16 v0) fun v52 =>
 gT v50 (pr.load 1 false noSlots v52) fun v53 =>
 gT v50 (pr.len true v53) fun v54 =>
 gT v50 (pr.bin .eql v54 (LV.int .i64 0)) fun v55 =>
 gT v50 (some v55) fun v56 =>
 gF v56 (pr.fieldAddr 10 16 v0) fun v57 =>
 gF v56 (pr.load 1 false noSlots v57) fun v58 =>
 gF v56 (pr.len true v58) fun v59 =>
 gF v56 (pr.bin .rem v59 (LV.int .i64 8)) fun v60 =>
 gF v56 (pr.bin .neq v60 (LV.int .i64 0)) fun v61 =>
 gT v50 (pr.pick v56 (LV.bool true) v61) fun v62 =>
 pT v50 v62 fun v63 =>
 condK v63 (
 pr.fin none noSlots [(LV.int .i64 8)]) (
 fA 9 15 v0 fun v65 =>
 l1 noSlots v65 fun v66 =>
 ln v66 fun v67 =>
 bn .add (LV.int .i64 20) v67 fun v68 =>
 fA 4 4 v0 fun v69 =>
 l1 noSlots v69 fun v70 =>
 bn .add v68 v70 fun v71 =>
 fA 10 16 v0 fun v72 =>
 l1 noSlots v72 fun v73 =>
 ln v73 fun v74 =>
 bn .add v71 v74 fun v75 =>
 bn .gtr v75 (LV.int .i64 65535) fun v76 =>
 condK v76 (
 pr.fin none noSlots [(LV.int .i64 3)]) (
 pr.fin none noSlots [(LV.int .i64 0)]))))
theorem F_interpreterref03_Why_eq (g : Call) (a0 : LV) : fnEv g c_interpreterref03_Why [a0] none = F_interpreterref03_Why g a0 := by kernel_rfl

/-- interpreter/interpreterref02.Of -/
noncomputable def F_interpreterref02_Of (g : Call) (a0 : LV) : Option (LV × Option LV) :=
 cl g id_interpreterref02_Words noSlots [a0] fun v2 =>
 cl g id_interpreterref02_Total noSlots [v2] fun v3 =>
 bn .sub (LV.int .i64 65535) v3 fun v4 =>
 pr.fin none noSlots [v4]
theorem F_interpreterref02_Of_eq (g : Call) (a0 : LV) : fnEv g c_interpreterref02_Of [a0] none = F_interpreterref02_Of g a0 := by kernel_rfl

/-- interpreter/class.Martian4 -/
noncomputable def F_class_Martian4 (g : Call) (a0 : LV) : Option (LV × Option LV) :=
 bx a0 fun v0 =>
 (pr.idxAddr (some 4) 1 v0 (LV.int .i64 0)).bind fun v2 =>
 l1 noSlots v2 fun v3 =>
 bn .eql v3 (LV.int .u8 0) fun v4 =>
 gF v4 (pr.idxAddr (some 4) 1 v0 (LV.int .i64 0)) fun v6 =>
 gF v4 (pr.load 1 false noSlots v6) fun v7 =>
 gF v4 (pr.bin .eql v7 (LV.int .u8 127)) fun v8 =>
 pF v4 v8 fun v9 =>
 gF v9 (pr.idxAddr (some 4) 1 v0 (LV.int .i64 0)) fun v11 =>
 gF v9 (pr.load 1 false noSlots v11) fun v12 =>
 gF v9 (pr.bin .geq v12 (LV.int .u8 224)) fun v13 =>
 pF v9 v13 fun v14 =>
 gF v14 (pr.idxAddr (some 4) 1 v0 (LV.int .i64 0)) fun v16 =>
 gF v14 (pr.load 1 false noSlots v16) fun v17 =>
 gF v14 (pr.bin .eql v17 (LV.int .u8 169)) fun v18 =>
 gF v14 (some v18) fun v19 =>
 gT v19 (pr.idxAddr (some 4) 1 v0 (LV.int .i64 1)) fun v20 =>
 gT v19 (pr.load 1 false noSlots v20) fun v21 =>
 gT v19 (pr.bin .eql v21 (LV.int .u8 254)) fun v22 =>
 gF v14 (pr.pick v19 v22 (LV.bool false)) fun v23 =>
 pF v14 v23 fun v24 =>
 pr.fin none noSlots [v24]
theorem F_class_Martian4_eq (g : Call) (a0 : LV) : fnEv g c_class_Martian4 [a0] none = F_class_Martian4 g a0 := by kernel_rfl

/-- interpreter/fault.beginning -/
noncomputable def F_fault_beginning (g : Call) (a0 : LV) (a1 : LV) (a2 : LV) : Option (LV × Option LV) :=
 ln a0 fun v3 =>
 (pr.minmax false v3 [a2]).bind fun v5 =>
 (pr.minmax true v5 [(LV.int .i64 0)]).bind fun v9 =>
 sl a0 none (some v9) fun v10 =>
 bn .add a1 (LV.int .i64 8) fun v13 =>
 ln a0 fun v15 =>
 (pr.minmax false v13 [v15]).bind fun v16 =>
 bn .geq v5 v16 fun v17 =>
 pr.fin none noSlots [v10, v17]
theorem F_fault_beginning_eq (g : Call) (a0 : LV) (a1 : LV) (a2 : LV) : fnEv g c_fault_beginning [a0, a1, a2] none = F_fault_beginning g a0 a1 a2 := by kernel_rfl

/-- interpreter/icmp4.Bytes -/
noncomputable def F_icmp4_Bytes (g : Call) (a0 : LV) : Option (LV × Option LV) :=
 bx a0 fun v0 =>
 fA 0 0 v0 fun v3 =>
 l1 noSlots v3 fun v4 =>
 cl g id_num_Big noSlots [v4, (LV.int .i64 1)] fun v5 =>
 ex v5 0 fun v7 =>
 ex v5 1 fun v8 =>
 eN 1 true v8 fun v12 =>
 condK v12 (
 pr.fin none noSlots [(LV.str []), v8]) (
 fA 1 1 v0 fun v16 =>
 l1 noSlots v16 fun v17 =>
 cl g id_num_Big noSlots [v17, (LV.int .i64 1)] fun v18 =>
 ex v18 0 fun v20 =>
 ex v18 1 fun v21 =>
 eN 1 true v21 fun v25 =>
 condK v25 (
 pr.fin none noSlots [(LV.str []), v21]) (
 fA 2 2 v0 fun v29 =>
 l1 noSlots v29 fun v30 =>
 (pr.conv .i64 v30).bind fun v31 =>
 cl g id_num_Big noSlots [v31, (LV.int .i64 4)] fun v32 =>
 ex v32 0 fun v34 =>
 ex v32 1 fun v35 =>
 eN 1 true v35 fun v39 =>
 condK v39 (
 pr.fin none noSlots [(LV.str []), v35]) (
 fA 3 3 v0 fun v46 =>
 l1 noSlots v46 fun v47 =>
 (pr.bsl (LV.str []) 5 [(0, v7), (1, v20), (2, (LV.str [0, 0])), (3, v34), (4, v47)]).bind fun v48 =>
 cl g id_sum_Of noSlots [v48] fun v49 =>
 cl g id_num_Big noSlots [v49, (LV.int .i64 2)] fun v50 =>
 ex v50 0 fun v52 =>
 ex v50 1 fun v53 =>
 bn .add v7 v20 fun v58 =>
 bn .add v58 v52 fun v60 =>
 bn .add v60 v34 fun v62 =>
 fA 3 3 v0 fun v63 =>
 l1 noSlots v63 fun v64 =>
 bn .add v62 v64 fun v65 =>
 pr.fin none noSlots [v65, v53])))
theorem F_icmp4_Bytes_eq (g : Call) (a0 : LV) : fnEv g c_icmp4_Bytes [a0] none = F_icmp4_Bytes g a0 := by kernel_rfl

/-- interpreter/ip4.Bytes -/
noncomputable def F_ip4_Bytes (g : Call) (a0 : LV) : Option (LV × Option LV) :=
 bx a0 fun v0 =>
 lA 17 noSlots v0 fun v3 =>
 cl g id_ip4_why noSlots [v3] fun v4 =>
 bn .neq v4 (LV.int .i64 0) fun v7 =>
 condK v7 (
 cl g id_ip4_fault noSlots [v4] fun v9 =>
 pr.fin none noSlots [(LV.str []), v9]) (
 fA 4 4 v0 fun v12 =>
 l1 noSlots v12 fun v13 =>
 bn .quo v13 (LV.int .i64 8) fun v14 =>
 fA 5 5 v0 fun v16 =>
 l1 noSlots v16 fun v17 =>
 condK v17 (
 bn .or v14 (LV.int .i64 16384) fun v19 =>
 fA 6 6 v0 fun v21 =>
 l1 noSlots v21 fun v22 =>
 condK v22 (
 bn .or v19 (LV.int .i64 8192) fun v24 =>
 fA 9 15 v0 fun v26 =>
 l1 noSlots v26 fun v27 =>
 ln v27 fun v28 =>
 bn .add (LV.int .i64 20) v28 fun v29 =>
 bn .quo v29 (LV.int .i64 4) fun v32 =>
 bn .add (LV.int .i64 64) v32 fun v33 =>
 cl g id_ip4_big noSlots [v33, (LV.int .i64 1)] fun v34 =>
 fA 0 0 v0 fun v35 =>
 l1 noSlots v35 fun v36 =>
 cl g id_ip4_big noSlots [v36, (LV.int .i64 1)] fun v37 =>
 bn .add v34 v37 fun v38 =>
 fA 10 16 v0 fun v40 =>
 l1 noSlots v40 fun v41 =>
 ln v41 fun v42 =>
 bn .add v29 v42 fun v43 =>
 cl g id_ip4_big noSlots [v43, (LV.int .i64 2)] fun v44 =>
 bn .add v38 v44 fun v45 =>
 fA 1 1 v0 fun v46 =>
 l1 noSlots v46 fun v47 =>
 cl g id_ip4_big noSlots [v47, (LV.int .i64 2)] fun v48 =>
 bn .add v45 v48 fun v49 =>
 cl g id_ip4_big noSlots [v24, (LV.int .i64 2)] fun v51 =>
 bn .add v49 v51 fun v52 =>
 fA 2 2 v0 fun v53 =>
 l1 noSlots v53 fun v54 =>
 cl g id_ip4_big noSlots [v54, (LV.int .i64 1)] fun v55 =>
 bn .add v52 v55 fun v56 =>
 fA 3 3 v0 fun v57 =>
 l1 noSlots v57 fun v58 =>
 cl g id_ip4_big noSlots [v58, (LV.int .i64 1)] fun v59 =>
 bn .add v56 v59 fun v60 =>
 fA 7 7 v0 fun v62 =>
 sV 4 noSlots v62 none none fun v63 =>
 bS noSlots v63 fun v64 =>
 fA 8 11 v0 fun v65 =>
 sV 4 noSlots v65 none none fun v66 =>
 bS noSlots v66 fun v67 =>
 bn .add v64 v67 fun v68 =>
 fA 9 15 v0 fun v69 =>
 l1 noSlots v69 fun v70 =>
 bn .add v68 v70 fun v71 =>
 (pr.bsl (LV.str []) 2 [(0, v60), (1, v71)]).bind fun v76 =>
 cl g id_sum_Of noSlots [v76] fun v77 =>
 cl g id_ip4_big noSlots [v77, (LV.int .i64 2)] fun v78 =>
 bn .add v60 v78 fun v79 =>
 bn .add v79 v71 fun v81 =>
 fA 10 16 v0 fun v82 =>
 l1 noSlots v82 fun v83 =>
 bn .add v81 v83 fun v84 =>
 pr.fin none noSlots [v84, LV.nili]) (
 fA 9 15 v0 fun v87 =>
 l1 noSlots v87 fun v88 =>
 ln v88 fun v89 =>
 bn .add (LV.int .i64 20) v89 fun v90 =>
 bn .quo v90 (LV.int .i64 4) fun v93 =>
 bn .add (LV.int .i64 64) v93 fun v94 =>
 cl g id_ip4_big noSlots [v94, (LV.int .i64 1)] fun v95 =>
 fA 0 0 v0 fun v96 =>
 l1 noSlots v96 fun v97 =>
 cl g id_ip4_big noSlots [v97, (LV.int .i64 1)] fun v98 =>
 bn .add v95 v98 fun v99 =>
 fA 10 16 v0 fun v101 =>
 l1 noSlots v101 fun v102 =>
 ln v102 fun v103 =>
 bn .add v90 v103 fun v104 =>
 cl g id_ip4_big noSlots [v104, (LV.int .i64 2)] fun v105 =>
 bn .add v99 v105 fun v106 =>
 fA 1 1 v0 fun v107 =>
 l1 noSlots v107 fun v108 =>
 cl g id_ip4_big noSlots [v108, (LV.int .i64 2)] fun v109 =>
 bn .add v106 v109 fun v110 =>
 cl g id_ip4_big noSlots [v19, (LV.int .i64 2)] fun v112 =>
 bn .add v110 v112 fun v113 =>
 fA 2 2 v0 fun v114 =>
 l1 noSlots v114 fun v115 =>
 cl g id_ip4_big noSlots [v115, (LV.int .i64 1)] fun v116 =>
 bn .add v113 v116 fun v117 =>
 fA 3 3 v0 fun v118 =>
 l1 noSlots v118 fun v119 =>
 cl g id_ip4_big noSlots [v119, (LV.int .i64 1)] fun v120 =>
 bn .add v117 v120 fun v121 =>
 fA 7 7 v0 fun v123 =>
 sV 4 noSlots v123 none none fun v124 =>
 bS noSlots v124 fun v125 =>
 fA 8 11 v0 fun v126 =>
 sV 4 noSlots v126 none none fun v127 =>
 bS noSlots v127 fun v128 =>
 bn .add v125 v128 fun v129 =>
 fA 9 15 v0 fun v130 =>
 l1 noSlots v130 fun v131 =>
 bn .add v129 v131 fun v132 =>
 (pr.bsl (LV.str []) 2 [(0, v121), (1, v132)]).bind fun v137 =>
 cl g id_sum_Of noSlots [v137] fun v138 =>
 cl g id_ip4_big noSlots [v138, (LV.int .i64 2)] fun v139 =>
 bn .add v121 v139 fun v140 =>
 bn .add v140 v132 fun v142 =>
 fA 10 16 v0 fun v143 =>
 l1 noSlots v143 fun v144 =>
 bn .add v142 v144 fun v145 =>
 pr.fin none noSlots [v145, LV.nili])) (
 fA 6 6 v0 fun v148 =>
 l1 noSlots v148 fun v149 =>
 condK v149 (
 bn .or v14 (LV.int .i64 8192) fun v151 =>
 fA 9 15 v0 fun v153 =>
 l1 noSlots v153 fun v154 =>
 ln v154 fun v155 =>
 bn .add (LV.int .i64 20) v155 fun v156 =>
 bn .quo v156 (LV.int .i64 4) fun v159 =>
 bn .add (LV.int .i64 64) v159 fun v160 =>
 cl g id_ip4_big noSlots [v160, (LV.int .i64 1)] fun v161 =>
 fA 0 0 v0 fun v162 =>
 l1 noSlots v162 fun v163 =>
 cl g id_ip4_big noSlots [v163, (LV.int .i64 1)] fun v164 =>
 bn .add v161 v164 fun v165 =>
 fA 10 16 v0 fun v167 =>
 l1 noSlots v167 fun v168 =>
 ln v168 fun v169 =>
 bn .add v156 v169 fun v170 =>
 cl g id_ip4_big noSlots [v170, (LV.int .i64 2)] fun v171 =>
 bn .add v165 v171 fun v172 =>
 fA 1 1 v0 fun v173 =>
 l1 noSlots v173 fun v174 =>
 cl g id_ip4_big noSlots [v174, (LV.int .i64 2)] fun v175 =>
 bn .add v172 v175 fun v176 =>
 cl g id_ip4_big noSlots [v151, (LV.int .i64 2)] fun v178 =>
 bn .add v176 v178 fun v179 =>
 fA 2 2 v0 fun v180 =>
 l1 noSlots v180 fun v181 =>
 cl g id_ip4_big noSlots [v181, (LV.int .i64 1)] fun v182 =>
 bn .add v179 v182 fun v183 =>
 fA 3 3 v0 fun v184 =>
 l1 noSlots v184 fun v185 =>
 cl g id_ip4_big noSlots [v185, (LV.int .i64 1)] fun v186 =>
 bn .add v183 v186 fun v187 =>
 fA 7 7 v0 fun v189 =>
 sV 4 noSlots v189 none none fun v190 =>
 bS noSlots v190 fun v191 =>
 fA 8 11 v0 fun v192 =>
 sV 4 noSlots v192 none none fun v193 =>
 bS noSlots v193 fun v194 =>
 bn .add v191 v194 fun v195 =>
 fA 9 15 v0 fun v196 =>
 l1 noSlots v196 fun v197 =>
 bn .add v195 v197 fun v198 =>
 (pr.bsl (LV.str []) 2 [(0, v187), (1, v198)]).bind fun v203 =>
 cl g id_sum_Of noSlots [v203] fun v204 =>
 cl g id_ip4_big noSlots [v204, (LV.int .i64 2)] fun v205 =>
 bn .add v187 v205 fun v206 =>
 bn .add v206 v198 fun v208 =>
 fA 10 16 v0 fun v209 =>
 l1 noSlots v209 fun v210 =>
 bn .add v208 v210 fun v211 =>
 pr.fin none noSlots [v211, LV.nili]) (
 fA 9 15 v0 fun v214 =>
 l1 noSlots v214 fun v215 =>
 ln v215 fun v216 =>
 bn .add (LV.int .i64 20) v216 fun v217 =>
 bn .quo v217 (LV.int .i64 4) fun v220 =>
 bn .add (LV.int .i64 64) v220 fun v221 =>
 cl g id_ip4_big noSlots [v221, (LV.int .i64 1)] fun v222 =>
 fA 0 0 v0 fun v223 =>
 l1 noSlots v223 fun v224 =>
 cl g id_ip4_big noSlots [v224, (LV.int .i64 1)] fun v225 =>
 bn .add v222 v225 fun v226 =>
 fA 10 16 v0 fun v228 =>
 l1 noSlots v228 fun v229 =>
 ln v229 fun v230 =>
 bn .add v217 v230 fun v231 =>
 cl g id_ip4_big noSlots [v231, (LV.int .i64 2)] fun v232 =>
 bn .add v226 v232 fun v233 =>
 fA 1 1 v0 fun v234 =>
 l1 noSlots v234 fun v235 =>
 cl g id_ip4_big noSlots [v235, (LV.int .i64 2)] fun v236 =>
 bn .add v233 v236 fun v237 =>
 cl g id_ip4_big noSlots [v14, (LV.int .i64 2)] fun v239 =>
 bn .add v237 v239 fun v240 =>
 fA 2 2 v0 fun v241 =>
 l1 noSlots v241 fun v242 =>
 cl g id_ip4_big noSlots [v242, (LV.int .i64 1)] fun v243 =>
 bn .add v240 v243 fun v244 =>
 fA 3 3 v0 fun v245 =>
 l1 noSlots v245 fun v246 =>
 cl g id_ip4_big noSlots [v246, (LV.int .i64 1)] fun v247 =>
 bn .add v244 v247 fun v248 =>
 fA 7 7 v0 fun v250 =>
 sV 4 noSlots v250 none none fun v251 =>
 bS noSlots v251 fun v252 =>
 fA 8 11 v0 fun v253 =>
 sV 4 noSlots v253 none none fun v254 =>
 bS noSlots v254 fun v255 =>
 bn .add v252 v255 fun v256 =>
 fA 9 15 v0 fun v257 =>
 l1 noSlots v257 fun v258 =>
 bn .add v256 v258 fun v259 =>
 (pr.bsl (LV.str []) 2 [(0, v248), (1, v259)]).bind fun v264 =>
 cl g id_sum_Of noSlots [v264] fun v265 =>
 cl g id_ip4_big noSlots [v265, (LV.int .i64 2)] fun v266 =>
 bn .add v248 v266 fun v267 =>
 bn .add v267 v259 fun v269 =>
 fA 10 16 v0 fun v270 =>
 l1 noSlots v270 fun v271 =>
 bn .add v269 v271 fun v272 =>
 pr.fin none noSlots [v272, LV.nili])))
theorem F_ip4_Bytes_eq (g : Call) (a0 : LV) : fnEv g c_ip4_Bytes [a0] none = F_ip4_Bytes g a0 := by kernel_rfl

/-- interpreter/fault.fault -/
noncomputable def F_fault_fault (g : Call) (a0 : LV) : Option (LV × Option LV) :=
 (pr.parts (LV.agg [(LV.int .i64 0), (LV.int .i64 0)]) [(0, a0)]).bind fun v2 =>
 bx v2 fun v3 =>
 (pr.iface ty_ptr_num_Fault v3).bind fun v4 =>
 pr.fin none noSlots [v4]
theorem F_fault_fault_eq (g : Call) (a0 : LV) : fnEv g c_fault_fault [a0] none = F_fault_fault g a0 := by kernel_rfl

/-- interpreter/sum.Right -/
noncomputable def F_sum_Right (g : Call) (a0 : LV) : Option (LV × Option LV) :=
 cl g id_sum_Of noSlots [a0] fun v2 =>
 bn .eql v2 (LV.int .i64 0) fun v3 =>
 pr.fin none noSlots [v3]
theorem F_sum_Right_eq (g : Call) (a0 : LV) : fnEv g c_sum_Right [a0] none = F_sum_Right g a0 := by kernel_rfl

/-- interpreter/fault.Inside4$1 -/
noncomputable def F_fault_Inside4_1 (g : Call) (a0 : LV) (a1 : LV) : Option (LV × Option LV) :=
 l1 noSlots a1 fun v1 =>
 xS v1 a0 fun v3 =>
 (pr.conv .i64 v3).bind fun v4 =>
 bn .shl v4 (LV.int .u64 8) fun v5 =>
 l1 noSlots a1 fun v6 =>
 bn .add a0 (LV.int .i64 1) fun v8 =>
 xS v6 v8 fun v9 =>
 (pr.conv .i64 v9).bind fun v10 =>
 bn .or v5 v10 fun v11 =>
 pr.fin none noSlots [v11]
theorem F_fault_Inside4_1_eq (g : Call) (a0 : LV) (a1 : LV) : fnEv g c_fault_Inside4_1 [a0, a1] none = F_fault_Inside4_1 g a0 a1 := by kernel_rfl

/-- interpreter/fault.short -/
noncomputable def F_fault_short (g : Call) (a0 : LV) (a1 : LV) : Option (LV × Option LV) :=
 ln a0 fun v2 =>
 (pr.minmax false (LV.int .i64 8) [a1]).bind fun v4 =>
 bn .lss v2 v4 fun v5 =>
 pr.fin none noSlots [v5]
theorem F_fault_short_eq (g : Call) (a0 : LV) (a1 : LV) : fnEv g c_fault_short [a0, a1] none = F_fault_short g a0 a1 := by kernel_rfl

/-- interpreter/interpreterref03.Parse -/
noncomputable def F_interpreterref03_Parse (g : Call) (a0 : LV) : Option (LV × Option LV) :=
 (pr.alloc (LV.agg [(LV.int .i64 0), (LV.int .i64 0), (LV.int .i64 0), (LV.int .i64 0), (LV.int .i64 0), (LV.bool false), (LV.bool false), (LV.bytes [0, 0, 0, 0]), (LV.bytes [0, 0, 0, 0]), (LV.str []), (LV.str [])]) 2 noSlots).bind fun v0 =>
 (pr.parts (LV.agg [(LV.int .i64 0), (LV.int .i64 0), (LV.int .i64 0), (LV.int .i64 0), (LV.int .i64 0), (LV.bool false), (LV.bool false), (LV.bytes [0, 0, 0, 0]), (LV.bytes [0, 0, 0, 0]), (LV.str []), (LV.str [])]) []).bind fun v2 =>
 (pr.alloc (LV.agg [(LV.int .i64 0), (LV.int .i64 0), (LV.int .i64 0), (LV.int .i64 0), (LV.int .i64 0), (LV.bool false), (LV.bool false), (LV.bytes [0, 0, 0, 0]), (LV.bytes [0, 0, 0, 0]), (LV.str []), (LV.str [])]) 4 v0.2).bind fun v3 =>
 sA 17 v3.2 v3.1 v2 fun v4 =>
 ln a0 fun v6 =>
 bn .lss v6 (LV.int .i64 20) fun v7 =>
 condK v7 (
 lA 17 v4.2 v3.1 fun v8 =>
 sA 17 v4.2 v0.1 v8 fun v9 =>
 lA 17 v9.2 v0.1 fun v11 =>
 pr.fin none v9.2 [v11, (LV.int .i64 7)]) (
 xS a0 (LV.int .i64 0) fun v13 =>
 (pr.conv .i64 v13).bind fun v14 =>
 bn .sub v14 (LV.int .i64 64) fun v15 =>
 bn .mul (LV.int .i64 4) v15 fun v16 =>
 bn .lss v16 (LV.int .i64 20) fun v19 =>
 gF v19 (some v16) fun v21 =>
 gF v19 (pr.bin .gtr v21 (LV.int .i64 60)) fun v22 =>
 pF v19 v22 fun v23 =>
 condK v23 (
 lA 17 v4.2 v3.1 fun v24 =>
 sA 17 v4.2 v0.1 v24 fun v25 =>
 lA 17 v25.2 v0.1 fun v27 =>
 pr.fin none v25.2 [v27, (LV.int .i64 8)]) (
 ln a0 fun v29 =>
 bn .lss v29 v16 fun v31 =>
 condK v31 (
 lA 17 v4.2 v3.1 fun v32 =>
 sA 17 v4.2 v0.1 v32 fun v33 =>
 lA 17 v33.2 v0.1 fun v35 =>
 pr.fin none v33.2 [v35, (LV.int .i64 7)]) (
 sl a0 none (some v16) fun v38 =>
 cl g id_interpreterref02_Of v4.2 [v38] fun v39 =>
 bn .neq v39 (LV.int .i64 0) fun v40 =>
 condK v40 (
 lA 17 v4.2 v3.1 fun v41 =>
 sA 17 v4.2 v0.1 v41 fun v42 =>
 lA 17 v42.2 v0.1 fun v44 =>
 pr.fin none v42.2 [v44, (LV.int .i64 9)]) (
 cl g id_interpreterref03_number v4.2 [a0, (LV.int .i64 2)] fun v46 =>
 bn .lss v46 v16 fun v50 =>
 condK v50 (
 lA 17 v4.2 v3.1 fun v51 =>
 sA 17 v4.2 v0.1 v51 fun v52 =>
 lA 17 v52.2 v0.1 fun v54 =>
 pr.fin none v52.2 [v54, (LV.int .i64 8)]) (
 ln a0 fun v56 =>
 bn .lss v56 v46 fun v58 =>
 condK v58 (
 lA 17 v4.2 v3.1 fun v59 =>
 sA 17 v4.2 v0.1 v59 fun v60 =>
 lA 17 v60.2 v0.1 fun v62 =>
 pr.fin none v60.2 [v62, (LV.int .i64 7)]) (
 cl g id_interpreterref03_number v4.2 [a0, (LV.int .i64 6)] fun v64 =>
 xS a0 (LV.int .i64 1) fun v67 =>
 (pr.conv .i64 v67).bind fun v68 =>
 cl g id_interpreterref03_number v4.2 [a0, (LV.int .i64 4)] fun v70 =>
 xS a0 (LV.int .i64 8) fun v72 =>
 (pr.conv .i64 v72).bind fun v73 =>
 xS a0 (LV.int .i64 9) fun v75 =>
 (pr.conv .i64 v75).bind fun v76 =>
 bn .rem v64 (LV.int .i64 8192) fun v78 =>
 bn .mul v78 (LV.int .i64 8) fun v79 =>
 bn .quo v64 (LV.int .i64 16384) fun v81 =>
 bn .rem v81 (LV.int .i64 2) fun v82 =>
 bn .eql v82 (LV.int .i64 1) fun v83 =>
 bn .quo v64 (LV.int .i64 8192) fun v85 =>
 bn .rem v85 (LV.int .i64 2) fun v86 =>
 bn .eql v86 (LV.int .i64 1) fun v87 =>
 sl a0 (some (LV.int .i64 20)) (some v16) fun v90 =>
 sl a0 (some v16) (some v46) fun v94 =>
 (pr.parts (LV.agg [(LV.int .i64 0), (LV.int .i64 0), (LV.int .i64 0), (LV.int .i64 0), (LV.int .i64 0), (LV.bool false), (LV.bool false), (LV.bytes [0, 0, 0, 0]), (LV.bytes [0, 0, 0, 0]), (LV.str []), (LV.str [])]) [(0, v68), (1, v70), (2, v73), (3, v76), (4, v79), (5, v83), (6, v87), (9, v90), (10, v94)]).bind fun v95 =>
 (pr.alloc (LV.agg [(LV.int .i64 0), (LV.int .i64 0), (LV.int .i64 0), (LV.int .i64 0), (LV.int .i64 0), (LV.bool false), (LV.bool false), (LV.bytes [0, 0, 0, 0]), (LV.bytes [0, 0, 0, 0]), (LV.str []), (LV.str [])]) 8 v4.2).bind fun v96 =>
 sA 17 v96.2 v96.1 v95 fun v97 =>
 (whileW (fun q99 : List LV × Slots =>
 bn .lss (getL q99.1 0) (LV.int .i64 4) fun v101 =>
 condK v101 (
 bn .add (LV.int .i64 12) (getL q99.1 0) fun v105 =>
 xS a0 v105 fun v106 =>
 fA 7 7 v96.1 fun v107 =>
 (pr.idxAddr (some 4) 1 v107 (getL q99.1 0)).bind fun v108 =>
 s1 q99.2 v108 v106 fun v109 =>
 bn .add (LV.int .i64 16) (getL q99.1 0) fun v113 =>
 xS a0 v113 fun v114 =>
 fA 8 11 v96.1 fun v115 =>
 (pr.idxAddr (some 4) 1 v115 (getL q99.1 0)).bind fun v116 =>
 s1 v109.2 v116 v114 fun v117 =>
 bn .add (getL q99.1 0) (LV.int .i64 1) fun v119 =>
 pr.round v97.2 .normal [v119] v117.2) (
 pr.round v97.2 (.exit 0) [(getL q99.1 0)] q99.2)) ([(LV.int .i64 0)], v97.2)).bind fun r99 =>
 exIf r99.1 (.exit 0) (
 bn .geq v64 (LV.int .i64 32768) fun v122 =>
 gF v122 (pr.load 17 true r99.2.2 v96.1) fun v124 =>
 gF v122 (pr.call g id_interpreterref03_Why r99.2.2 [v124]) fun v125 =>
 gF v122 (pr.bin .neq v125 (LV.int .i64 0)) fun v126 =>
 pF v122 v126 fun v127 =>
 condK v127 (
 lA 17 r99.2.2 v3.1 fun v128 =>
 sA 17 r99.2.2 v0.1 v128 fun v129 =>
 lA 17 v129.2 v0.1 fun v131 =>
 pr.fin none v129.2 [v131, (LV.int .i64 8)]) (
 lA 17 r99.2.2 v96.1 fun v132 =>
 sA 17 r99.2.2 v0.1 v132 fun v133 =>
 lA 17 v133.2 v0.1 fun v135 =>
 pr.fin none v133.2 [v135, (LV.int .i64 0)])) (none)))))))
theorem F_interpreterref03_Parse_eq (g : Call) (a0 : LV) : fnEv g c_interpreterref03_Parse [a0] none = F_interpreterref03_Parse g a0 := by kernel_rfl

/-- interpreter/head46.Proto -/
noncomputable def F_head46_Proto (g : Call) (a0 : LV) : Option (LV × Option LV) :=
 bn .eql a0 (LV.int .i64 1) fun v3 =>
 condK v3 (
 pr.fin none noSlots [(LV.int .i64 58), (LV.bool true)]) (
 bn .eql a0 (LV.int .i64 0) fun v7 =>
 condK v7 (
 condK v7 (
 pr.fin none noSlots [(LV.int .i64 0), (LV.bool false)]) (
 bn .lss a0 (LV.int .i64 0) fun v12 =>
 gF v12 (some a0) fun v14 =>
 gF v12 (pr.bin .gtr v14 (LV.int .i64 255)) fun v15 =>
 pF v12 v15 fun v16 =>
 condK v16 (
 pr.fin none noSlots [(LV.int .i64 0), (LV.bool false)]) (
 pr.fin none noSlots [a0, (LV.bool true)]))) (
 bn .eql a0 (LV.int .i64 2) fun v22 =>
 condK v22 (
 condK v22 (
 pr.fin none noSlots [(LV.int .i64 0), (LV.bool false)]) (
 bn .lss a0 (LV.int .i64 0) fun v27 =>
 gF v27 (some a0) fun v29 =>
 gF v27 (pr.bin .gtr v29 (LV.int .i64 255)) fun v30 =>
 pF v27 v30 fun v31 =>
 condK v31 (
 pr.fin none noSlots [(LV.int .i64 0), (LV.bool false)]) (
 pr.fin none noSlots [a0, (LV.bool true)]))) (
 bn .eql a0 (LV.int .i64 43) fun v37 =>
 condK v37 (
 condK v37 (
 pr.fin none noSlots [(LV.int .i64 0), (LV.bool false)]) (
 bn .lss a0 (LV.int .i64 0) fun v42 =>
 gF v42 (some a0) fun v44 =>
 gF v42 (pr.bin .gtr v44 (LV.int .i64 255)) fun v45 =>
 pF v42 v45 fun v46 =>
 condK v46 (
 pr.fin none noSlots [(LV.int .i64 0), (LV.bool false)]) (
 pr.fin none noSlots [a0, (LV.bool true)]))) (
 bn .eql a0 (LV.int .i64 44) fun v52 =>
 condK v52 (
 condK v52 (
 pr.fin none noSlots [(LV.int .i64 0), (LV.bool false)]) (
 bn .lss a0 (LV.int .i64 0) fun v57 =>
 gF v57 (some a0) fun v59 =>
 gF v57 (pr.bin .gtr v59 (LV.int .i64 255)) fun v60 =>
 pF v57 v60 fun v61 =>
 condK v61 (
 pr.fin none noSlots [(LV.int .i64 0), (LV.bool false)]) (
 pr.fin none noSlots [a0, (LV.bool true)]))) (
 bn .eql a0 (LV.int .i64 58) fun v67 =>
 condK v67 (
 condK v67 (
 pr.fin none noSlots [(LV.int .i64 0), (LV.bool false)]) (
 bn .lss a0 (LV.int .i64 0) fun v72 =>
 gF v72 (some a0) fun v74 =>
 gF v72 (pr.bin .gtr v74 (LV.int .i64 255)) fun v75 =>
 pF v72 v75 fun v76 =>
 condK v76 (
 pr.fin none noSlots [(LV.int .i64 0), (LV.bool false)]) (
 pr.fin none noSlots [a0, (LV.bool true)]))) (
 bn .eql a0 (LV.int .i64 60) fun v82 =>
 condK v82 (
 pr.fin none noSlots [(LV.int .i64 0), (LV.bool false)]) (
 bn .lss a0 (LV.int .i64 0) fun v87 =>
 gF v87 (some a0) fun v89 =>
 gF v87 (pr.bin .gtr v89 (LV.int .i64 255)) fun v90 =>
 pF v87 v90 fun v91 =>
 condK v91 (
 pr.fin none noSlots [(LV.int .i64 0), (LV.bool false)]) (
 pr.fin none noSlots [a0, (LV.bool true)]))))))))
theorem F_head46_Proto_eq (g : Call) (a0 : LV) : fnEv g c_head46_Proto [a0] none = F_head46_Proto g a0 := by kernel_rfl

/-- interpreter/fault.within -/
noncomputable def F_fault_within (g : Call) (a0 : LV) (a1 : LV) : Option (LV × Option LV) :=
 (pr.len false a1).bind fun v2 =>
 (whileW (fun q4 : List LV × Slots =>
 bn .lss (getL q4.1 1) v2 fun v5 =>
 condK v5 (
 (pr.idxAddr none 1 a1 (getL q4.1 1)).bind fun v6 =>
 l1 q4.2 v6 fun v7 =>
 bn .lss v7 (LV.int .i64 0) fun v10 =>
 gF v10 (some v7) fun v12 =>
 gF v10 (some a0) fun v13 =>
 gF v10 (pr.bin .gtr v12 v13) fun v14 =>
 pF v10 v14 fun v15 =>
 condK v15 (
 pr.round noSlots .ret [(LV.bool false), (getL q4.1 1)] q4.2) (
 bn .add (getL q4.1 1) (LV.int .i64 1) fun v17 =>
 pr.round noSlots .normal [(getL q4.1 0), v17] q4.2)) (
 pr.round noSlots (.exit 0) [(getL q4.1 0), (getL q4.1 1)] q4.2)) ([(LV.bool false), (LV.int .i64 0)], noSlots)).bind fun r4 =>
 exIf r4.1 (.exit 0) (
 pr.fin none r4.2.2 [(LV.bool true)]) (exIf r4.1 .ret (
 pr.fin none r4.2.2 [(getL r4.2.1 0)]) (none))
theorem F_fault_within_eq (g : Call) (a0 : LV) (a1 : LV) : fnEv g c_fault_within [a0, a1] none = F_fault_within g a0 a1 := by kernel_rfl

/-- interpreter/fault.big -/
noncomputable def F_fault_big (g : Call) (a0 : LV) (a1 : LV) : Option (LV × Option LV) :=
 cl g id_num_Big noSlots [a0, a1] fun v3 =>
 ex v3 0 fun v5 =>
 ex v3 1 fun v6 =>
 pr.fin none noSlots [v5]
theorem F_fault_big_eq (g : Call) (a0 : LV) (a1 : LV) : fnEv g c_fault_big [a0, a1] none = F_fault_big g a0 a1 := by kernel_rfl

/-- interpreter/fault.turn6 -/
noncomputable def F_fault_turn6 (g : Call) (a0 : LV) (a1 : LV) (a2 : LV) (a3 : LV) : Option (LV × Option LV) :=
 bx a0 fun v0 =>
 bx a2 fun v1 =>
 bx a3 fun v2 =>
 fA 4 4 v0 fun v4 =>
 l1 noSlots v4 fun v5 =>
 bn .gtr v5 (LV.int .i64 0) fun v6 =>
 condK v6 (
 fA 10 16 v0 fun v8 =>
 l1 noSlots v8 fun v9 =>
 pr.fin none noSlots [v9]) (
 fA 3 3 v0 fun v11 =>
 l1 noSlots v11 fun v12 =>
 bn .eql v12 (LV.int .i64 6) fun v13 =>
 gF v13 (pr.fieldAddr 3 3 v0) fun v15 =>
 gF v13 (pr.load 1 false noSlots v15) fun v16 =>
 gF v13 (pr.bin .eql v16 (LV.int .i64 17)) fun v17 =>
 pF v13 v17 fun v18 =>
 condK v18 (
 fA 3 3 v0 fun v20 =>
 l1 noSlots v20 fun v21 =>
 fA 10 16 v0 fun v22 =>
 l1 noSlots v22 fun v23 =>
 fA 7 7 v0 fun v24 =>
 sV 4 noSlots v24 none none fun v25 =>
 bS noSlots v25 fun v26 =>
 fA 8 11 v0 fun v27 =>
 sV 4 noSlots v27 none none fun v28 =>
 bS noSlots v28 fun v29 =>
 bn .add v26 v29 fun v30 =>
 fA 0 0 v1 fun v31 =>
 sV 16 noSlots v31 none none fun v32 =>
 bS noSlots v32 fun v33 =>
 fA 0 0 v2 fun v34 =>
 sV 16 noSlots v34 none none fun v35 =>
 bS noSlots v35 fun v36 =>
 bn .add v33 v36 fun v37 =>
 fA 1 16 v1 fun v38 =>
 l1 noSlots v38 fun v39 =>
 fA 1 16 v2 fun v40 =>
 l1 noSlots v40 fun v41 =>
 cl g id_fault_ported noSlots [v21, v23, v30, v37, v39, v41] fun v42 =>
 pr.fin none noSlots [v42]) (
 fA 3 3 v0 fun v44 =>
 l1 noSlots v44 fun v45 =>
 bn .eql v45 (LV.int .i64 1) fun v46 =>
 gT v46 (pr.fieldAddr 10 16 v0) fun v48 =>
 gT v46 (pr.load 1 false noSlots v48) fun v49 =>
 gT v46 (pr.len true v49) fun v50 =>
 gT v46 (pr.bin .geq v50 (LV.int .i64 8)) fun v51 =>
 pT v46 v51 fun v52 =>
 condK v52 (
 (pr.mapNew 56 noSlots).bind fun v54 =>
 (pr.mapIns (some .u8) v54.2 v54.1 (LV.int .u8 8) (LV.int .i64 128)).bind fun v55 =>
 (pr.mapIns (some .u8) v55.2 v54.1 (LV.int .u8 0) (LV.int .i64 129)).bind fun v56 =>
 fA 10 16 v0 fun v58 =>
 l1 v56.2 v58 fun v59 =>
 xS v59 (LV.int .i64 0) fun v60 =>
 (pr.mapGet (some .u8) (LV.int .i64 0) false v56.2 v54.1 v60).bind fun v61 =>
 bn .gtr v61 (LV.int .i64 0) fun v64 =>
 gT v64 (pr.fieldAddr 10 16 v0) fun v66 =>
 gT v64 (pr.load 1 false v56.2 v66) fun v67 =>
 gT v64 (pr.idxStr v67 (LV.int .i64 1)) fun v68 =>
 gT v64 (pr.bin .eql v68 (LV.int .u8 0)) fun v69 =>
 pT v64 v69 fun v70 =>
 condK v70 (
 fA 10 16 v0 fun v71 =>
 l1 v56.2 v71 fun v72 =>
 fA 0 0 v1 fun v73 =>
 lA 16 v56.2 v73 fun v74 =>
 fA 0 0 v2 fun v75 =>
 lA 16 v56.2 v75 fun v76 =>
 cl g id_sum_Pseudo6 v56.2 [v74, v76, (LV.int .i64 58), a1] fun v78 =>
 fA 1 16 v1 fun v80 =>
 l1 v56.2 v80 fun v81 =>
 cl g id_fault_echoed v56.2 [v72, (LV.str []), v78, v61, v81] fun v82 =>
 pr.fin none v56.2 [v82]) (
 fA 10 16 v0 fun v84 =>
 l1 v56.2 v84 fun v85 =>
 pr.fin none v56.2 [v85])) (
 fA 10 16 v0 fun v87 =>
 l1 noSlots v87 fun v88 =>
 pr.fin none noSlots [v88])))
theorem F_fault_turn6_eq (g : Call) (a0 : LV) (a1 : LV) (a2 : LV) (a3 : LV) : fnEv g c_fault_turn6 [a0, a1, a2, a3] none = F_fault_turn6 g a0 a1 a2 a3 := by kernel_rfl

/-- interpreter/ip6.Chain -/
noncomputable def F_ip6_Chain (g : Call) (a0 : LV) (a1 : LV) : Option (LV × Option LV) :=
 (whileW (fun q4 : List LV × Slots =>
 cl g id_ip6_extends q4.2 [(getL q4.1 4)] fun v6 =>
 condK v6 (
 ln (getL q4.1 5) fun v10 =>
 bn .geq v10 (LV.int .i64 2) fun v11 =>
 condK v11 (
 xS (getL q4.1 5) (LV.int .i64 1) fun v14 =>
 (pr.conv .i64 v14).bind fun v15 =>
 bn .mul v15 (LV.int .i64 8) fun v16 =>
 bn .add (LV.int .i64 8) v16 fun v17 =>
 bn .eql (getL q4.1 4) (LV.int .i64 0) fun v20 =>
 gT v20 (some (getL q4.1 0)) fun v22 =>
 gT v20 (pr.len false v22) fun v23 =>
 gT v20 (pr.bin .gtr v23 (LV.int .i64 0)) fun v24 =>
 pT v20 v24 fun v25 =>
 condK v25 (
 bn .neq (LV.int .i64 8) (LV.int .i64 0) fun v29 =>
 condK v29 (
 cl g id_ip6_fault q4.2 [(LV.int .i64 8)] fun v31 =>
 pr.round noSlots .ret [LV.nils, (LV.int .i64 0), (LV.str []), v31, (getL q4.1 4), (getL q4.1 5)] q4.2) (
 sl (getL q4.1 5) (some (LV.int .i64 2)) (some v17) fun v40 =>
 (pr.parts (LV.agg [(LV.int .i64 0), (LV.str [])]) [(0, (getL q4.1 4)), (1, v40)]).bind fun v41 =>
 (pr.bsl (LV.agg [(LV.int .i64 0), (LV.str [])]) 1 [(0, v41)]).bind fun v42 =>
 (pr.append 2 24 49 q4.2 (getL q4.1 0) v42).bind fun v43 =>
 xS (getL q4.1 5) (LV.int .i64 0) fun v46 =>
 (pr.conv .i64 v46).bind fun v47 =>
 sl (getL q4.1 5) (some v17) none fun v50 =>
 pr.round noSlots .normal [v43.1, (getL q4.1 1), (getL q4.1 2), (getL q4.1 3), v47, v50] v43.2)) (
 (pr.len false (getL q4.1 0)).bind fun v54 =>
 bn .geq v54 (LV.int .i64 8) fun v55 =>
 condK v55 (
 bn .neq (LV.int .i64 3) (LV.int .i64 0) fun v59 =>
 condK v59 (
 cl g id_ip6_fault q4.2 [(LV.int .i64 3)] fun v61 =>
 pr.round noSlots .ret [LV.nils, (LV.int .i64 0), (LV.str []), v61, (getL q4.1 4), (getL q4.1 5)] q4.2) (
 sl (getL q4.1 5) (some (LV.int .i64 2)) (some v17) fun v70 =>
 (pr.parts (LV.agg [(LV.int .i64 0), (LV.str [])]) [(0, (getL q4.1 4)), (1, v70)]).bind fun v71 =>
 (pr.bsl (LV.agg [(LV.int .i64 0), (LV.str [])]) 1 [(0, v71)]).bind fun v72 =>
 (pr.append 2 24 49 q4.2 (getL q4.1 0) v72).bind fun v73 =>
 xS (getL q4.1 5) (LV.int .i64 0) fun v76 =>
 (pr.conv .i64 v76).bind fun v77 =>
 sl (getL q4.1 5) (some v17) none fun v80 =>
 pr.round noSlots .normal [v73.1, (getL q4.1 1), (getL q4.1 2), (getL q4.1 3), v77, v80] v73.2)) (
 ln (getL q4.1 5) fun v84 =>
 bn .lss v84 v17 fun v86 =>
 condK v86 (
 bn .neq (LV.int .i64 7) (LV.int .i64 0) fun v90 =>
 condK v90 (
 cl g id_ip6_fault q4.2 [(LV.int .i64 7)] fun v92 =>
 pr.round noSlots .ret [LV.nils, (LV.int .i64 0), (LV.str []), v92, (getL q4.1 4), (getL q4.1 5)] q4.2) (
 sl (getL q4.1 5) (some (LV.int .i64 2)) (some v17) fun v101 =>
 (pr.parts (LV.agg [(LV.int .i64 0), (LV.str [])]) [(0, (getL q4.1 4)), (1, v101)]).bind fun v102 =>
 (pr.bsl (LV.agg [(LV.int .i64 0), (LV.str [])]) 1 [(0, v102)]).bind fun v103 =>
 (pr.append 2 24 49 q4.2 (getL q4.1 0) v103).bind fun v104 =>
 xS (getL q4.1 5) (LV.int .i64 0) fun v107 =>
 (pr.conv .i64 v107).bind fun v108 =>
 sl (getL q4.1 5) (some v17) none fun v111 =>
 pr.round noSlots .normal [v104.1, (getL q4.1 1), (getL q4.1 2), (getL q4.1 3), v108, v111] v104.2)) (
 bn .neq (LV.int .i64 0) (LV.int .i64 0) fun v115 =>
 condK v115 (
 cl g id_ip6_fault q4.2 [(LV.int .i64 0)] fun v117 =>
 pr.round noSlots .ret [LV.nils, (LV.int .i64 0), (LV.str []), v117, (getL q4.1 4), (getL q4.1 5)] q4.2) (
 sl (getL q4.1 5) (some (LV.int .i64 2)) (some v17) fun v126 =>
 (pr.parts (LV.agg [(LV.int .i64 0), (LV.str [])]) [(0, (getL q4.1 4)), (1, v126)]).bind fun v127 =>
 (pr.bsl (LV.agg [(LV.int .i64 0), (LV.str [])]) 1 [(0, v127)]).bind fun v128 =>
 (pr.append 2 24 49 q4.2 (getL q4.1 0) v128).bind fun v129 =>
 xS (getL q4.1 5) (LV.int .i64 0) fun v132 =>
 (pr.conv .i64 v132).bind fun v133 =>
 sl (getL q4.1 5) (some v17) none fun v136 =>
 pr.round noSlots .normal [v129.1, (getL q4.1 1), (getL q4.1 2), (getL q4.1 3), v133, v136] v129.2))))) (
 bn .eql (getL q4.1 4) (LV.int .i64 0) fun v140 =>
 gT v140 (some (getL q4.1 0)) fun v142 =>
 gT v140 (pr.len false v142) fun v143 =>
 gT v140 (pr.bin .gtr v143 (LV.int .i64 0)) fun v144 =>
 pT v140 v144 fun v145 =>
 condK v145 (
 bn .neq (LV.int .i64 8) (LV.int .i64 0) fun v149 =>
 condK v149 (
 cl g id_ip6_fault q4.2 [(LV.int .i64 8)] fun v151 =>
 pr.round noSlots .ret [LV.nils, (LV.int .i64 0), (LV.str []), v151, (getL q4.1 4), (getL q4.1 5)] q4.2) (
 sl (getL q4.1 5) (some (LV.int .i64 2)) (some (LV.int .i64 8)) fun v160 =>
 (pr.parts (LV.agg [(LV.int .i64 0), (LV.str [])]) [(0, (getL q4.1 4)), (1, v160)]).bind fun v161 =>
 (pr.bsl (LV.agg [(LV.int .i64 0), (LV.str [])]) 1 [(0, v161)]).bind fun v162 =>
 (pr.append 2 24 49 q4.2 (getL q4.1 0) v162).bind fun v163 =>
 xS (getL q4.1 5) (LV.int .i64 0) fun v166 =>
 (pr.conv .i64 v166).bind fun v167 =>
 sl (getL q4.1 5) (some (LV.int .i64 8)) none fun v170 =>
 pr.round noSlots .normal [v163.1, (getL q4.1 1), (getL q4.1 2), (getL q4.1 3), v167, v170] v163.2)) (
 (pr.len false (getL q4.1 0)).bind fun v174 =>
 bn .geq v174 (LV.int .i64 8) fun v175 =>
 condK v175 (
 bn .neq (LV.int .i64 3) (LV.int .i64 0) fun v179 =>
 condK v179 (
 cl g id_ip6_fault q4.2 [(LV.int .i64 3)] fun v181 =>
 pr.round noSlots .ret [LV.nils, (LV.int .i64 0), (LV.str []), v181, (getL q4.1 4), (getL q4.1 5)] q4.2) (
 sl (getL q4.1 5) (some (LV.int .i64 2)) (some (LV.int .i64 8)) fun v190 =>
 (pr.parts (LV.agg [(LV.int .i64 0), (LV.str [])]) [(0, (getL q4.1 4)), (1, v190)]).bind fun v191 =>
 (pr.bsl (LV.agg [(LV.int .i64 0), (LV.str [])]) 1 [(0, v191)]).bind fun v192 =>
 (pr.append 2 24 49 q4.2 (getL q4.1 0) v192).bind fun v193 =>
 xS (getL q4.1 5) (LV.int .i64 0) fun v196 =>
 (pr.conv .i64 v196).bind fun v197 =>
 sl (getL q4.1 5) (some (LV.int .i64 8)) none fun v200 =>
 pr.round noSlots .normal [v193.1, (getL q4.1 1), (getL q4.1 2), (getL q4.1 3), v197, v200] v193.2)) (
 ln (getL q4.1 5) fun v204 =>
 bn .lss v204 (LV.int .i64 8) fun v206 =>
 condK v206 (
 bn .neq (LV.int .i64 7) (LV.int .i64 0) fun v210 =>
 condK v210 (
 cl g id_ip6_fault q4.2 [(LV.int .i64 7)] fun v212 =>
 pr.round noSlots .ret [LV.nils, (LV.int .i64 0), (LV.str []), v212, (getL q4.1 4), (getL q4.1 5)] q4.2) (
 sl (getL q4.1 5) (some (LV.int .i64 2)) (some (LV.int .i64 8)) fun v221 =>
 (pr.parts (LV.agg [(LV.int .i64 0), (LV.str [])]) [(0, (getL q4.1 4)), (1, v221)]).bind fun v222 =>
 (pr.bsl (LV.agg [(LV.int .i64 0), (LV.str [])]) 1 [(0, v222)]).bind fun v223 =>
 (pr.append 2 24 49 q4.2 (getL q4.1 0) v223).bind fun v224 =>
 xS (getL q4.1 5) (LV.int .i64 0) fun v227 =>
 (pr.conv .i64 v227).bind fun v228 =>
 sl (getL q4.1 5) (some (LV.int .i64 8)) none fun v231 =>
 pr.round noSlots .normal [v224.1, (getL q4.1 1), (getL q4.1 2), (getL q4.1 3), v228, v231] v224.2)) (
 bn .neq (LV.int .i64 0) (LV.int .i64 0) fun v235 =>
 condK v235 (
 cl g id_ip6_fault q4.2 [(LV.int .i64 0)] fun v237 =>
 pr.round noSlots .ret [LV.nils, (LV.int .i64 0), (LV.str []), v237, (getL q4.1 4), (getL q4.1 5)] q4.2) (
 sl (getL q4.1 5) (some (LV.int .i64 2)) (some (LV.int .i64 8)) fun v246 =>
 (pr.parts (LV.agg [(LV.int .i64 0), (LV.str [])]) [(0, (getL q4.1 4)), (1, v246)]).bind fun v247 =>
 (pr.bsl (LV.agg [(LV.int .i64 0), (LV.str [])]) 1 [(0, v247)]).bind fun v248 =>
 (pr.append 2 24 49 q4.2 (getL q4.1 0) v248).bind fun v249 =>
 xS (getL q4.1 5) (LV.int .i64 0) fun v252 =>
 (pr.conv .i64 v252).bind fun v253 =>
 sl (getL q4.1 5) (some (LV.int .i64 8)) none fun v256 =>
 pr.round noSlots .normal [v249.1, (getL q4.1 1), (getL q4.1 2), (getL q4.1 3), v253, v256] v249.2)))))) (
 pr.round noSlots (.exit 0) [(getL q4.1 0), (getL q4.1 1), (getL q4.1 2), (getL q4.1 3), (getL q4.1 4), (getL q4.1 5)] q4.2)) ([LV.nils, (LV.int .i64 0), (LV.str []), LV.nili, a0, a1], noSlots)).bind fun r4 =>
 exIf r4.1 (.exit 0) (
 pr.fin none r4.2.2 [(getL r4.2.1 0), (getL r4.2.1 4), (getL r4.2.1 5), LV.nili]) (exIf r4.1 .ret (
 pr.fin none r4.2.2 [(getL r4.2.1 0), (getL r4.2.1 1), (getL r4.2.1 2), (getL r4.2.1 3)]) (none))
theorem F_ip6_Chain_eq (g : Call) (a0 : LV) (a1 : LV) : fnEv g c_ip6_Chain [a0, a1] none = F_ip6_Chain g a0 a1 := by kernel_rfl

/-- interpreter/num.New -/
noncomputable def F_num_New (g : Call) (a0 : LV) : Option (LV × Option LV) :=
 (pr.parts (LV.agg [(LV.str []), (LV.int .i64 0), LV.nilp]) [(0, a0)]).bind fun v2 =>
 (pr.boxM v2 5 noSlots).bind fun v3 =>
 pr.fin none v3.2 [v3.1]
theorem F_num_New_eq (g : Call) (a0 : LV) : fnEv g c_num_New [a0] none = F_num_New g a0 := by kernel_rfl

/-- (*interpreter/num.Reader).U32 -/
noncomputable def F_num_Reader_U32 (g : Call) (h : LV) : Option (LV × Option LV) :=
 (pr.callRw g id_num_Reader_number (upd noSlots 0 (.obj 0 h)) [(LV.ptr 0 0 [] 0), (LV.int .i64 4)]).bind fun v3 =>
 ex v3.1 0 fun v4 =>
 ex v3.1 1 fun v5 =>
 pr.fin (some h) v3.2 [v4, v5]
theorem F_num_Reader_U32_eq (g : Call) (h : LV) : fnEv g c_num_Reader_U32 [(LV.ptr 0 0 [] 0)] (some h) = F_num_Reader_U32 g h := by kernel_rfl

/-- interpreter/head64.Proto -/
noncomputable def F_head64_Proto (g : Call) (a0 : LV) : Option (LV × Option LV) :=
 bn .eql a0 (LV.int .i64 58) fun v3 =>
 condK v3 (
 pr.fin none noSlots [(LV.int .i64 1), (LV.bool true)]) (
 bn .eql a0 (LV.int .i64 0) fun v7 =>
 condK v7 (
 condK v7 (
 pr.fin none noSlots [(LV.int .i64 0), (LV.bool false)]) (
 bn .lss a0 (LV.int .i64 0) fun v12 =>
 gF v12 (some a0) fun v14 =>
 gF v12 (pr.bin .gtr v14 (LV.int .i64 255)) fun v15 =>
 pF v12 v15 fun v16 =>
 condK v16 (
 pr.fin none noSlots [(LV.int .i64 0), (LV.bool false)]) (
 pr.fin none noSlots [a0, (LV.bool true)]))) (
 bn .eql a0 (LV.int .i64 1) fun v22 =>
 condK v22 (
 condK v22 (
 pr.fin none noSlots [(LV.int .i64 0), (LV.bool false)]) (
 bn .lss a0 (LV.int .i64 0) fun v27 =>
 gF v27 (some a0) fun v29 =>
 gF v27 (pr.bin .gtr v29 (LV.int .i64 255)) fun v30 =>
 pF v27 v30 fun v31 =>
 condK v31 (
 pr.fin none noSlots [(LV.int .i64 0), (LV.bool false)]) (
 pr.fin none noSlots [a0, (LV.bool true)]))) (
 bn .eql a0 (LV.int .i64 2) fun v37 =>
 condK v37 (
 condK v37 (
 pr.fin none noSlots [(LV.int .i64 0), (LV.bool false)]) (
 bn .lss a0 (LV.int .i64 0) fun v42 =>
 gF v42 (some a0) fun v44 =>
 gF v42 (pr.bin .gtr v44 (LV.int .i64 255)) fun v45 =>
 pF v42 v45 fun v46 =>
 condK v46 (
 pr.fin none noSlots [(LV.int .i64 0), (LV.bool false)]) (
 pr.fin none noSlots [a0, (LV.bool true)]))) (
 bn .eql a0 (LV.int .i64 43) fun v52 =>
 condK v52 (
 condK v52 (
 pr.fin none noSlots [(LV.int .i64 0), (LV.bool false)]) (
 bn .lss a0 (LV.int .i64 0) fun v57 =>
 gF v57 (some a0) fun v59 =>
 gF v57 (pr.bin .gtr v59 (LV.int .i64 255)) fun v60 =>
 pF v57 v60 fun v61 =>
 condK v61 (
 pr.fin none noSlots [(LV.int .i64 0), (LV.bool false)]) (
 pr.fin none noSlots [a0, (LV.bool true)]))) (
 bn .eql a0 (LV.int .i64 44) fun v67 =>
 condK v67 (
 condK v67 (
 pr.fin none noSlots [(LV.int .i64 0), (LV.bool false)]) (
 bn .lss a0 (LV.int .i64 0) fun v72 =>
 gF v72 (some a0) fun v74 =>
 gF v72 (pr.bin .gtr v74 (LV.int .i64 255)) fun v75 =>
 pF v72 v75 fun v76 =>
 condK v76 (
 pr.fin none noSlots [(LV.int .i64 0), (LV.bool false)]) (
 pr.fin none noSlots [a0, (LV.bool true)]))) (
 bn .eql a0 (LV.int .i64 60) fun v82 =>
 condK v82 (
 pr.fin none noSlots [(LV.int .i64 0), (LV.bool false)]) (
 bn .lss a0 (LV.int .i64 0) fun v87 =>
 gF v87 (some a0) fun v89 =>
 gF v87 (pr.bin .gtr v89 (LV.int .i64 255)) fun v90 =>
 pF v87 v90 fun v91 =>
 condK v91 (
 pr.fin none noSlots [(LV.int .i64 0), (LV.bool false)]) (
 pr.fin none noSlots [a0, (LV.bool true)]))))))))
theorem F_head64_Proto_eq (g : Call) (a0 : LV) : fnEv g c_head64_Proto [a0] none = F_head64_Proto g a0 := by kernel_rfl

/-- interpreter/sum.Of -/
noncomputable def F_sum_Of (g : Call) (a0 : LV) : Option (LV × Option LV) :=
 (pr.len false a0).bind fun v4 =>
 (whileW (fun q6 : List LV × Slots =>
 bn .lss (getL q6.1 2) v4 fun v7 =>
 condK v7 (
 (pr.idxAddr none 1 a0 (getL q6.1 2)).bind fun v8 =>
 l1 q6.2 v8 fun v9 =>
 cl g id_sum_add q6.2 [(getL q6.1 0), (getL q6.1 1), v9, (LV.int .u8 0)] fun v14 =>
 cl g id_sum_fold q6.2 [v14] fun v15 =>
 ln v9 fun v19 =>
 bn .add (getL q6.1 1) v19 fun v20 =>
 bn .add (getL q6.1 2) (LV.int .i64 1) fun v22 =>
 pr.round noSlots .normal [v15, v20, v22] q6.2) (
 pr.round noSlots (.exit 0) [(getL q6.1 0), (getL q6.1 1), (getL q6.1 2)] q6.2)) ([(LV.int .i64 0), (LV.int .i64 0), (LV.int .i64 0)], noSlots)).bind fun r6 =>
 exIf r6.1 (.exit 0) (
 bn .sub (LV.int .i64 65535) (getL r6.2.1 0) fun v25 =>
 pr.fin none r6.2.2 [v25]) (none)
theorem F_sum_Of_eq (g : Call) (a0 : LV) : fnEv g c_sum_Of [a0] none = F_sum_Of g a0 := by kernel_rfl

/-- interpreter/fault.turn4 -/
noncomputable def F_fault_turn4 (g : Call) (a0 : LV) (a1 : LV) (a2 : LV) (a3 : LV) : Option (LV × Option LV) :=
 bx a0 fun v0 =>
 bx a2 fun v1 =>
 bx a3 fun v2 =>
 fA 8 38 v0 fun v4 =>
 l1 noSlots v4 fun v5 =>
 bn .gtr v5 (LV.int .i64 0) fun v6 =>
 condK v6 (
 fA 11 41 v0 fun v8 =>
 l1 noSlots v8 fun v9 =>
 pr.fin none noSlots [v9]) (
 fA 10 40 v0 fun v11 =>
 l1 noSlots v11 fun v12 =>
 bn .eql v12 (LV.int .i64 6) fun v13 =>
 gF v13 (pr.fieldAddr 10 40 v0) fun v15 =>
 gF v13 (pr.load 1 false noSlots v15) fun v16 =>
 gF v13 (pr.bin .eql v16 (LV.int .i64 17)) fun v17 =>
 pF v13 v17 fun v18 =>
 condK v18 (
 fA 10 40 v0 fun v20 =>
 l1 noSlots v20 fun v21 =>
 fA 11 41 v0 fun v22 =>
 l1 noSlots v22 fun v23 =>
 fA 3 3 v0 fun v24 =>
 sV 16 noSlots v24 none none fun v25 =>
 bS noSlots v25 fun v26 =>
 fA 4 19 v0 fun v27 =>
 sV 16 noSlots v27 none none fun v28 =>
 bS noSlots v28 fun v29 =>
 bn .add v26 v29 fun v30 =>
 fA 0 0 v1 fun v31 =>
 sV 4 noSlots v31 none none fun v32 =>
 bS noSlots v32 fun v33 =>
 fA 0 0 v2 fun v34 =>
 sV 4 noSlots v34 none none fun v35 =>
 bS noSlots v35 fun v36 =>
 bn .add v33 v36 fun v37 =>
 fA 1 4 v1 fun v38 =>
 l1 noSlots v38 fun v39 =>
 fA 1 4 v2 fun v40 =>
 l1 noSlots v40 fun v41 =>
 cl g id_fault_ported noSlots [v21, v23, v30, v37, v39, v41] fun v42 =>
 pr.fin none noSlots [v42]) (
 fA 10 40 v0 fun v44 =>
 l1 noSlots v44 fun v45 =>
 bn .eql v45 (LV.int .i64 58) fun v46 =>
 gT v46 (pr.fieldAddr 11 41 v0) fun v48 =>
 gT v46 (pr.load 1 false noSlots v48) fun v49 =>
 gT v46 (pr.len true v49) fun v50 =>
 gT v46 (pr.bin .geq v50 (LV.int .i64 8)) fun v51 =>
 pT v46 v51 fun v52 =>
 condK v52 (
 (pr.mapNew 58 noSlots).bind fun v54 =>
 (pr.mapIns (some .u8) v54.2 v54.1 (LV.int .u8 128) (LV.int .i64 8)).bind fun v55 =>
 (pr.mapIns (some .u8) v55.2 v54.1 (LV.int .u8 129) (LV.int .i64 0)).bind fun v56 =>
 fA 11 41 v0 fun v58 =>
 l1 v56.2 v58 fun v59 =>
 xS v59 (LV.int .i64 0) fun v60 =>
 (pr.mapGet (some .u8) (LV.int .i64 0) true v56.2 v54.1 v60).bind fun v61 =>
 ex v61 0 fun v63 =>
 ex v61 1 fun v64 =>
 gT v64 (pr.fieldAddr 11 41 v0) fun v69 =>
 gT v64 (pr.load 1 false v56.2 v69) fun v70 =>
 gT v64 (pr.idxStr v70 (LV.int .i64 1)) fun v71 =>
 gT v64 (pr.bin .eql v71 (LV.int .u8 0)) fun v72 =>
 pT v64 v72 fun v73 =>
 condK v73 (
 fA 11 41 v0 fun v74 =>
 l1 v56.2 v74 fun v75 =>
 fA 3 3 v0 fun v76 =>
 lA 16 v56.2 v76 fun v77 =>
 fA 4 19 v0 fun v78 =>
 lA 16 v56.2 v78 fun v79 =>
 cl g id_sum_Pseudo6 v56.2 [v77, v79, (LV.int .i64 58), a1] fun v81 =>
 fA 1 4 v1 fun v83 =>
 l1 v56.2 v83 fun v84 =>
 cl g id_fault_echoed v56.2 [v75, v81, (LV.str []), v63, v84] fun v85 =>
 pr.fin none v56.2 [v85]) (
 fA 11 41 v0 fun v87 =>
 l1 v56.2 v87 fun v88 =>
 pr.fin none v56.2 [v88])) (
 fA 11 41 v0 fun v90 =>
 l1 noSlots v90 fun v91 =>
 pr.fin none noSlots [v91])))
theorem F_fault_turn4_eq (g : Call) (a0 : LV) (a1 : LV) (a2 : LV) (a3 : LV) : fnEv g c_fault_turn4 [a0, a1, a2, a3] none = F_fault_turn4 g a0 a1 a2 a3 := by kernel_rfl

/-- interpreter/ip4.fault -/
noncomputable def F_ip4_fault (g : Call) (a0 : LV) : Option (LV × Option LV) :=
 (pr.parts (LV.agg [(LV.int .i64 0), (LV.int .i64 0)]) [(0, a0)]).bind fun v2 =>
 bx v2 fun v3 =>
 (pr.iface ty_ptr_num_Fault v3).bind fun v4 =>
 pr.fin none noSlots [v4]
theorem F_ip4_fault_eq (g : Call) (a0 : LV) : fnEv g c_ip4_fault [a0] none = F_ip4_fault g a0 := by kernel_rfl

/-- interpreter/ip4.Parse$1 -/
noncomputable def F_ip4_Parse_1 (g : Call) (a0 : LV) (a1 : LV) : Option (LV × Option LV) :=
 l1 noSlots a1 fun v1 =>
 xS v1 a0 fun v3 =>
 (pr.conv .i64 v3).bind fun v4 =>
 bn .shl v4 (LV.int .u64 8) fun v5 =>
 l1 noSlots a1 fun v6 =>
 bn .add a0 (LV.int .i64 1) fun v8 =>
 xS v6 v8 fun v9 =>
 (pr.conv .i64 v9).bind fun v10 =>
 bn .or v5 v10 fun v11 =>
 pr.fin none noSlots [v11]
theorem F_ip4_Parse_1_eq (g : Call) (a0 : LV) (a1 : LV) : fnEv g c_ip4_Parse_1 [a0, a1] none = F_ip4_Parse_1 g a0 a1 := by kernel_rfl

/-- interpreter/ip4.why -/
noncomputable def F_ip4_why (g : Call) (a0 : LV) : Option (LV × Option LV) :=
 bx a0 fun v0 =>
 fA 0 0 v0 fun v2 =>
 l1 noSlots v2 fun v3 =>
 fA 2 2 v0 fun v4 =>
 l1 noSlots v4 fun v5 =>
 fA 3 3 v0 fun v6 =>
 l1 noSlots v6 fun v7 =>
 (pr.bsl (LV.int .i64 0) 3 [(0, v3), (1, v5), (2, v7)]).bind fun v8 =>
 cl g id_ip4_byteful noSlots [v8] fun v9 =>
 nt v9 fun v10 =>
 gF v10 (pr.fieldAddr 1 1 v0) fun v12 =>
 gF v10 (pr.load 1 false noSlots v12) fun v13 =>
 gF v10 (pr.bin .lss v13 (LV.int .i64 0)) fun v14 =>
 pF v10 v14 fun v15 =>
 gF v15 (pr.fieldAddr 1 1 v0) fun v17 =>
 gF v15 (pr.load 1 false noSlots v17) fun v18 =>
 gF v15 (pr.bin .gtr v18 (LV.int .i64 65535)) fun v19 =>
 pF v15 v19 fun v20 =>
 gF v20 (pr.fieldAddr 4 4 v0) fun v22 =>
 gF v20 (pr.load 1 false noSlots v22) fun v23 =>
 gF v20 (pr.bin .lss v23 (LV.int .i64 0)) fun v24 =>
 pF v20 v24 fun v25 =>
 gF v25 (pr.fieldAddr 4 4 v0) fun v27 =>
 gF v25 (pr.load 1 false noSlots v27) fun v28 =>
 gF v25 (pr.bin .gtr v28 (LV.int .i64 65528)) fun v29 =>
 pF v25 v29 fun v30 =>
 gF v30 (pr.fieldAddr 4 4 v0) fun v32 =>
 gF v30 (pr.load 1 false noSlots v32) fun v33 =>
 gF v30 (pr.bin .rem v33 (LV.int .i64 8)) fun v34 =>
 gF v30 (pr.bin .neq v34 (LV.int .i64 0)) fun v35 =>
 pF v30 v35 fun v36 =>
 condK v36 (
 pr.fin none noSlots [(LV.int .i64 13)]) (
 fA 9 15 v0 fun v39 =>
 l1 noSlots v39 fun v40 =>
 ln v40 fun v41 =>
 bn .gtr v41 (LV.int .i64 40) fun v42 =>
 gF v42 (pr.fieldAddr 9 15 v0) fun v44 =>
 gF v42 (pr.load 1 false noSlots v44) fun v45 =>
 gF v42 (pr.len true v45) fun v46 =>
 gF v42 (pr.bin .rem v46 (LV.int .i64 4)) fun v47 =>
 gF v42 (pr.bin .neq v47 (LV.int .i64 0)) fun v48 =>
 pF v42 v48 fun v49 =>
 gF v49 (pr.fieldAddr 6 6 v0) fun v51 =>
 gF v49 (pr.load 1 false noSlots v51) fun v52 =>
 gF v49 (some v52) fun v53 =>
 gT v53 (pr.fieldAddr 10 16 v0) fun v54 =>
 gT v53 (pr.load 1 false noSlots v54) fun v55 =>
 gT v53 (pr.bin .eql v55 (LV.str [])) fun v56 =>
 gT v53 (some v56) fun v57 =>
 gF v57 (pr.fieldAddr 10 16 v0) fun v58 =>
 gF v57 (pr.load 1 false noSlots v58) fun v59 =>
 gF v57 (pr.len true v59) fun v60 =>
 gF v57 (pr.bin .rem v60 (LV.int .i64 8)) fun v61 =>
 gF v57 (pr.bin .neq v61 (LV.int .i64 0)) fun v62 =>
 gT v53 (pr.pick v57 (LV.bool true) v62) fun v63 =>
 gF v49 (pr.pick v53 v63 (LV.bool false)) fun v64 =>
 pF v49 v64 fun v65 =>
 condK v65 (
 pr.fin none noSlots [(LV.int .i64 8)]) (
 fA 10 16 v0 fun v68 =>
 l1 noSlots v68 fun v69 =>
 ln v69 fun v70 =>
 fA 9 15 v0 fun v71 =>
 l1 noSlots v71 fun v72 =>
 ln v72 fun v73 =>
 bn .sub (LV.int .i64 65515) v73 fun v74 =>
 fA 4 4 v0 fun v75 =>
 l1 noSlots v75 fun v76 =>
 bn .sub v74 v76 fun v77 =>
 bn .gtr v70 v77 fun v78 =>
 condK v78 (
 pr.fin none noSlots [(LV.int .i64 3)]) (
 pr.fin none noSlots [(LV.int .i64 0)])))
theorem F_ip4_why_eq (g : Call) (a0 : LV) : fnEv g c_ip4_why [a0] none = F_ip4_why g a0 := by kernel_rfl

/-- interpreter/ip6.fault -/
noncomputable def F_ip6_fault (g : Call) (a0 : LV) : Option (LV × Option LV) :=
 (pr.parts (LV.agg [(LV.int .i64 0), (LV.int .i64 0)]) [(0, a0)]).bind fun v2 =>
 bx v2 fun v3 =>
 (pr.iface ty_ptr_num_Fault v3).bind fun v4 =>
 pr.fin none noSlots [v4]
theorem F_ip6_fault_eq (g : Call) (a0 : LV) : fnEv g c_ip6_fault [a0] none = F_ip6_fault g a0 := by kernel_rfl

/-- interpreter/sum.big -/
noncomputable def F_sum_big (g : Call) (a0 : LV) (a1 : LV) : Option (LV × Option LV) :=
 bn .mul (LV.int .i64 8) a1 fun v3 =>
 bn .shl (LV.int .i64 1) v3 fun v4 =>
 bn .sub v4 (LV.int .i64 1) fun v5 =>
 bn .and a0 v5 fun v6 =>
 cl g id_num_Big noSlots [v6, a1] fun v8 =>
 ex v8 0 fun v10 =>
 ex v8 1 fun v11 =>
 pr.fin none noSlots [v10]
theorem F_sum_big_eq (g : Call) (a0 : LV) (a1 : LV) : fnEv g c_sum_big [a0, a1] none = F_sum_big g a0 a1 := by kernel_rfl

/-- interpreter/icmpmap.To6 -/
noncomputable def F_icmpmap_To6 (g : Call) (a0 : LV) (a1 : LV) (a2 : LV) (a3 : LV) : Option (LV × Option LV) :=
 bx a0 fun v0 =>
 (pr.alloc (LV.agg [(LV.int .i64 0), (LV.int .i64 0), (LV.int .u32 0), (LV.str [])]) 8 noSlots).bind fun v1 =>
 cl g id_icmpmap_sides v1.2 [a1, a2] fun v5 =>
 nt v5 fun v6 =>
 condK v6 (
 (pr.parts (LV.agg [(LV.int .i64 0), (LV.int .i64 0), (LV.int .u32 0), (LV.str [])]) []).bind fun v8 =>
 sA 4 v1.2 v1.1 v8 fun v9 =>
 lA 4 v9.2 v1.1 fun v11 =>
 pr.fin none v9.2 [v11, (LV.bool false)]) (
 fA 0 0 v0 fun v12 =>
 l1 v1.2 v12 fun v13 =>
 bn .eql v13 (LV.int .i64 8) fun v14 =>
 gT v14 (pr.fieldAddr 1 1 v0) fun v16 =>
 gT v14 (pr.load 1 false v1.2 v16) fun v17 =>
 gT v14 (pr.bin .eql v17 (LV.int .i64 0)) fun v18 =>
 pT v14 v18 fun v19 =>
 condK v19 (
 lA 4 v1.2 v0 fun v21 =>
 fA 2 2 v0 fun v22 =>
 l1 v1.2 v22 fun v23 =>
 (pr.conv .i64 v23).bind fun v24 =>
 cl g id_icmpmap_said v1.2 [v21, (LV.int .i64 128), (LV.int .i64 0), v24] fun v25 =>
 ex v25 0 fun v26 =>
 ex v25 1 fun v27 =>
 sA 4 v1.2 v1.1 v26 fun v28 =>
 lA 4 v28.2 v1.1 fun v30 =>
 pr.fin none v28.2 [v30, v27]) (
 fA 0 0 v0 fun v31 =>
 l1 v1.2 v31 fun v32 =>
 bn .eql v32 (LV.int .i64 0) fun v33 =>
 gT v33 (pr.fieldAddr 1 1 v0) fun v35 =>
 gT v33 (pr.load 1 false v1.2 v35) fun v36 =>
 gT v33 (pr.bin .eql v36 (LV.int .i64 0)) fun v37 =>
 pT v33 v37 fun v38 =>
 condK v38 (
 lA 4 v1.2 v0 fun v40 =>
 fA 2 2 v0 fun v41 =>
 l1 v1.2 v41 fun v42 =>
 (pr.conv .i64 v42).bind fun v43 =>
 cl g id_icmpmap_said v1.2 [v40, (LV.int .i64 129), (LV.int .i64 0), v43] fun v44 =>
 ex v44 0 fun v45 =>
 ex v44 1 fun v46 =>
 sA 4 v1.2 v1.1 v45 fun v47 =>
 lA 4 v47.2 v1.1 fun v49 =>
 pr.fin none v47.2 [v49, v46]) (
 fA 0 0 v0 fun v50 =>
 l1 v1.2 v50 fun v51 =>
 bn .eql v51 (LV.int .i64 3) fun v52 =>
 condK v52 (
 lA 4 v1.2 v0 fun v54 =>
 cl g id_icmpmap_lost6 v1.2 [v54, a1, a2, a3] fun v58 =>
 ex v58 0 fun v59 =>
 ex v58 1 fun v60 =>
 sA 4 v1.2 v1.1 v59 fun v61 =>
 lA 4 v61.2 v1.1 fun v63 =>
 pr.fin none v61.2 [v63, v60]) (
 fA 0 0 v0 fun v64 =>
 l1 v1.2 v64 fun v65 =>
 bn .eql v65 (LV.int .i64 11) fun v66 =>
 gT v66 (pr.fieldAddr 1 1 v0) fun v68 =>
 gT v66 (pr.load 1 false v1.2 v68) fun v69 =>
 gT v66 (pr.bin .eql v69 (LV.int .i64 0)) fun v70 =>
 gT v66 (some v70) fun v71 =>
 gF v71 (pr.fieldAddr 1 1 v0) fun v72 =>
 gF v71 (pr.load 1 false v1.2 v72) fun v73 =>
 gF v71 (pr.bin .eql v73 (LV.int .i64 1)) fun v74 =>
 gT v66 (pr.pick v71 (LV.bool true) v74) fun v75 =>
 pT v66 v75 fun v76 =>
 condK v76 (
 lA 4 v1.2 v0 fun v78 =>
 fA 1 1 v0 fun v79 =>
 l1 v1.2 v79 fun v80 =>
 cl g id_icmpmap_said v1.2 [v78, (LV.int .i64 3), v80, (LV.int .i64 0)] fun v81 =>
 ex v81 0 fun v82 =>
 ex v81 1 fun v83 =>
 sA 4 v1.2 v1.1 v82 fun v84 =>
 lA 4 v84.2 v1.1 fun v86 =>
 pr.fin none v84.2 [v86, v83]) (
 fA 0 0 v0 fun v87 =>
 l1 v1.2 v87 fun v88 =>
 bn .eql v88 (LV.int .i64 12) fun v89 =>
 gT v89 (pr.fieldAddr 1 1 v0) fun v91 =>
 gT v89 (pr.load 1 false v1.2 v91) fun v92 =>
 gT v89 (pr.bin .eql v92 (LV.int .i64 0)) fun v93 =>
 gT v89 (some v93) fun v94 =>
 gF v94 (pr.fieldAddr 1 1 v0) fun v95 =>
 gF v94 (pr.load 1 false v1.2 v95) fun v96 =>
 gF v94 (pr.bin .eql v96 (LV.int .i64 2)) fun v97 =>
 gT v89 (pr.pick v94 (LV.bool true) v97) fun v98 =>
 pT v89 v98 fun v99 =>
 condK v99 (
 fA 2 2 v0 fun v101 =>
 l1 v1.2 v101 fun v102 =>
 bn .shr v102 (LV.int .u64 24) fun v103 =>
 (pr.conv .i64 v103).bind fun v104 =>
 cl g id_icmpmap_pointer6 v1.2 [v104] fun v105 =>
 ex v105 0 fun v107 =>
 ex v105 1 fun v108 =>
 condK v108 (
 lA 4 v1.2 v0 fun v112 =>
 cl g id_icmpmap_said v1.2 [v112, (LV.int .i64 4), (LV.int .i64 0), v107] fun v114 =>
 ex v114 0 fun v115 =>
 ex v114 1 fun v116 =>
 sA 4 v1.2 v1.1 v115 fun v117 =>
 lA 4 v117.2 v1.1 fun v119 =>
 pr.fin none v117.2 [v119, v116]) (
 (pr.parts (LV.agg [(LV.int .i64 0), (LV.int .i64 0), (LV.int .u32 0), (LV.str [])]) []).bind fun v120 =>
 sA 4 v1.2 v1.1 v120 fun v121 =>
 lA 4 v121.2 v1.1 fun v123 =>
 pr.fin none v121.2 [v123, (LV.bool false)])) (
 (pr.parts (LV.agg [(LV.int .i64 0), (LV.int .i64 0), (LV.int .u32 0), (LV.str [])]) []).bind fun v124 =>
 sA 4 v1.2 v1.1 v124 fun v125 =>
 lA 4 v125.2 v1.1 fun v127 =>
 pr.fin none v125.2 [v127, (LV.bool false)]))))))
theorem F_icmpmap_To6_eq (g : Call) (a0 : LV) (a1 : LV) (a2 : LV) (a3 : LV) : fnEv g c_icmpmap_To6 [a0, a1, a2, a3] none = F_icmpmap_To6 g a0 a1 a2 a3 := by kernel_rfl

/-- interpreter/icmpmap.To4 -/
noncomputable def F_icmpmap_To4 (g : Call) (a0 : LV) (a1 : LV) (a2 : LV) : Option (LV × Option LV) :=
 bx a0 fun v0 =>
 (pr.alloc (LV.agg [(LV.int .i64 0), (LV.int .i64 0), (LV.int .u32 0), (LV.str [])]) 6 noSlots).bind fun v1 =>
 cl g id_icmpmap_sides v1.2 [a1, a2] fun v5 =>
 nt v5 fun v6 =>
 condK v6 (
 (pr.parts (LV.agg [(LV.int .i64 0), (LV.int .i64 0), (LV.int .u32 0), (LV.str [])]) []).bind fun v8 =>
 sA 4 v1.2 v1.1 v8 fun v9 =>
 lA 4 v9.2 v1.1 fun v11 =>
 pr.fin none v9.2 [v11, (LV.bool false)]) (
 fA 0 0 v0 fun v12 =>
 l1 v1.2 v12 fun v13 =>
 bn .eql v13 (LV.int .i64 128) fun v14 =>
 gT v14 (pr.fieldAddr 1 1 v0) fun v16 =>
 gT v14 (pr.load 1 false v1.2 v16) fun v17 =>
 gT v14 (pr.bin .eql v17 (LV.int .i64 0)) fun v18 =>
 pT v14 v18 fun v19 =>
 condK v19 (
 lA 4 v1.2 v0 fun v21 =>
 fA 2 2 v0 fun v22 =>
 l1 v1.2 v22 fun v23 =>
 (pr.conv .i64 v23).bind fun v24 =>
 cl g id_icmpmap_said v1.2 [v21, (LV.int .i64 8), (LV.int .i64 0), v24] fun v25 =>
 ex v25 0 fun v26 =>
 ex v25 1 fun v27 =>
 sA 4 v1.2 v1.1 v26 fun v28 =>
 lA 4 v28.2 v1.1 fun v30 =>
 pr.fin none v28.2 [v30, v27]) (
 fA 0 0 v0 fun v31 =>
 l1 v1.2 v31 fun v32 =>
 bn .eql v32 (LV.int .i64 129) fun v33 =>
 gT v33 (pr.fieldAddr 1 1 v0) fun v35 =>
 gT v33 (pr.load 1 false v1.2 v35) fun v36 =>
 gT v33 (pr.bin .eql v36 (LV.int .i64 0)) fun v37 =>
 pT v33 v37 fun v38 =>
 condK v38 (
 lA 4 v1.2 v0 fun v40 =>
 fA 2 2 v0 fun v41 =>
 l1 v1.2 v41 fun v42 =>
 (pr.conv .i64 v42).bind fun v43 =>
 cl g id_icmpmap_said v1.2 [v40, (LV.int .i64 0), (LV.int .i64 0), v43] fun v44 =>
 ex v44 0 fun v45 =>
 ex v44 1 fun v46 =>
 sA 4 v1.2 v1.1 v45 fun v47 =>
 lA 4 v47.2 v1.1 fun v49 =>
 pr.fin none v47.2 [v49, v46]) (
 fA 0 0 v0 fun v50 =>
 l1 v1.2 v50 fun v51 =>
 bn .eql v51 (LV.int .i64 1) fun v52 =>
 condK v52 (
 lA 4 v1.2 v0 fun v54 =>
 cl g id_icmpmap_lost4 v1.2 [v54] fun v55 =>
 ex v55 0 fun v56 =>
 ex v55 1 fun v57 =>
 sA 4 v1.2 v1.1 v56 fun v58 =>
 lA 4 v58.2 v1.1 fun v60 =>
 pr.fin none v58.2 [v60, v57]) (
 fA 0 0 v0 fun v61 =>
 l1 v1.2 v61 fun v62 =>
 bn .eql v62 (LV.int .i64 2) fun v63 =>
 gT v63 (pr.fieldAddr 1 1 v0) fun v65 =>
 gT v63 (pr.load 1 false v1.2 v65) fun v66 =>
 gT v63 (pr.bin .eql v66 (LV.int .i64 0)) fun v67 =>
 pT v63 v67 fun v68 =>
 condK v68 (
 lA 4 v1.2 v0 fun v70 =>
 fA 2 2 v0 fun v71 =>
 l1 v1.2 v71 fun v72 =>
 (pr.conv .i64 v72).bind fun v73 =>
 bn .sub v73 (LV.int .i64 20) fun v74 =>
 bn .sub a2 (LV.int .i64 20) fun v77 =>
 (pr.minmax false v74 [a1, v77]).bind fun v78 =>
 (pr.minmax true v78 [(LV.int .i64 68)]).bind fun v79 =>
 (pr.minmax false v79 [(LV.int .i64 65535)]).bind fun v80 =>
 cl g id_icmpmap_said v1.2 [v70, (LV.int .i64 3), (LV.int .i64 4), v80] fun v81 =>
 ex v81 0 fun v82 =>
 ex v81 1 fun v83 =>
 sA 4 v1.2 v1.1 v82 fun v84 =>
 lA 4 v84.2 v1.1 fun v86 =>
 pr.fin none v84.2 [v86, v83]) (
 fA 0 0 v0 fun v87 =>
 l1 v1.2 v87 fun v88 =>
 bn .eql v88 (LV.int .i64 3) fun v89 =>
 gT v89 (pr.fieldAddr 1 1 v0) fun v91 =>
 gT v89 (pr.load 1 false v1.2 v91) fun v92 =>
 gT v89 (pr.bin .eql v92 (LV.int .i64 0)) fun v93 =>
 gT v89 (some v93) fun v94 =>
 gF v94 (pr.fieldAddr 1 1 v0) fun v95 =>
 gF v94 (pr.load 1 false v1.2 v95) fun v96 =>
 gF v94 (pr.bin .eql v96 (LV.int .i64 1)) fun v97 =>
 gT v89 (pr.pick v94 (LV.bool true) v97) fun v98 =>
 pT v89 v98 fun v99 =>
 condK v99 (
 lA 4 v1.2 v0 fun v101 =>
 fA 1 1 v0 fun v102 =>
 l1 v1.2 v102 fun v103 =>
 cl g id_icmpmap_said v1.2 [v101, (LV.int .i64 11), v103, (LV.int .i64 0)] fun v104 =>
 ex v104 0 fun v105 =>
 ex v104 1 fun v106 =>
 sA 4 v1.2 v1.1 v105 fun v107 =>
 lA 4 v107.2 v1.1 fun v109 =>
 pr.fin none v107.2 [v109, v106]) (
 fA 0 0 v0 fun v110 =>
 l1 v1.2 v110 fun v111 =>
 bn .eql v111 (LV.int .i64 4) fun v112 =>
 gT v112 (pr.fieldAddr 1 1 v0) fun v114 =>
 gT v112 (pr.load 1 false v1.2 v114) fun v115 =>
 gT v112 (pr.bin .eql v115 (LV.int .i64 0)) fun v116 =>
 pT v112 v116 fun v117 =>
 condK v117 (
 fA 2 2 v0 fun v119 =>
 l1 v1.2 v119 fun v120 =>
 cl g id_icmpmap_pointer4 v1.2 [v120] fun v121 =>
 ex v121 0 fun v123 =>
 ex v121 1 fun v124 =>
 condK v124 (
 lA 4 v1.2 v0 fun v128 =>
 bn .shl v123 (LV.int .u64 24) fun v130 =>
 cl g id_icmpmap_said v1.2 [v128, (LV.int .i64 12), (LV.int .i64 0), v130] fun v131 =>
 ex v131 0 fun v132 =>
 ex v131 1 fun v133 =>
 sA 4 v1.2 v1.1 v132 fun v134 =>
 lA 4 v134.2 v1.1 fun v136 =>
 pr.fin none v134.2 [v136, v133]) (
 (pr.parts (LV.agg [(LV.int .i64 0), (LV.int .i64 0), (LV.int .u32 0), (LV.str [])]) []).bind fun v137 =>
 sA 4 v1.2 v1.1 v137 fun v138 =>
 lA 4 v138.2 v1.1 fun v140 =>
 pr.fin none v138.2 [v140, (LV.bool false)])) (
 fA 0 0 v0 fun v141 =>
 l1 v1.2 v141 fun v142 =>
 bn .eql v142 (LV.int .i64 4) fun v143 =>
 gT v143 (pr.fieldAddr 1 1 v0) fun v145 =>
 gT v143 (pr.load 1 false v1.2 v145) fun v146 =>
 gT v143 (pr.bin .eql v146 (LV.int .i64 1)) fun v147 =>
 pT v143 v147 fun v148 =>
 condK v148 (
 lA 4 v1.2 v0 fun v150 =>
 cl g id_icmpmap_said v1.2 [v150, (LV.int .i64 3), (LV.int .i64 2), (LV.int .i64 0)] fun v151 =>
 ex v151 0 fun v152 =>
 ex v151 1 fun v153 =>
 sA 4 v1.2 v1.1 v152 fun v154 =>
 lA 4 v154.2 v1.1 fun v156 =>
 pr.fin none v154.2 [v156, v153]) (
 (pr.parts (LV.agg [(LV.int .i64 0), (LV.int .i64 0), (LV.int .u32 0), (LV.str [])]) []).bind fun v157 =>
 sA 4 v1.2 v1.1 v157 fun v158 =>
 lA 4 v158.2 v1.1 fun v160 =>
 pr.fin none v158.2 [v160, (LV.bool false)]))))))))
theorem F_icmpmap_To4_eq (g : Call) (a0 : LV) (a1 : LV) (a2 : LV) : fnEv g c_icmpmap_To4 [a0, a1, a2] none = F_icmpmap_To4 g a0 a1 a2 := by kernel_rfl

/-- interpreter/interpreterref03.within -/
noncomputable def F_interpreterref03_within (g : Call) (a0 : LV) (a1 : LV) : Option (LV × Option LV) :=
 bn .geq a0 (LV.int .i64 0) fun v2 =>
 gT v2 (some a0) fun v4 =>
 gT v2 (some a1) fun v5 =>
 gT v2 (pr.bin .leq v4 v5) fun v6 =>
 pT v2 v6 fun v7 =>
 pr.fin none noSlots [v7]
theorem F_interpreterref03_within_eq (g : Call) (a0 : LV) (a1 : LV) : fnEv g c_interpreterref03_within [a0, a1] none = F_interpreterref03_within g a0 a1 := by kernel_rfl

/-- interpreter/interpreterref02.Total -/
noncomputable def F_interpreterref02_Total (g : Call) (a0 : LV) : Option (LV × Option LV) :=
 (whileW (fun q3 : List LV × Slots =>
 (pr.len false a0).bind fun v6 =>
 bn .lss (getL q3.1 1) v6 fun v7 =>
 condK v7 (
 (pr.idxAddr none 1 a0 (getL q3.1 1)).bind fun v11 =>
 l1 q3.2 v11 fun v12 =>
 bn .add (getL q3.1 0) v12 fun v13 =>
 bn .add (getL q3.1 1) (LV.int .i64 1) fun v16 =>
 pr.round noSlots .normal [v13, v16] q3.2) (
 pr.round noSlots (.exit 0) [(getL q3.1 0), (getL q3.1 1)] q3.2)) ([(LV.int .i64 0), (LV.int .i64 0)], noSlots)).bind fun r3 =>
 exIf r3.1 (.exit 0) (
 (whileW (fun q18 : List LV × Slots =>
 bn .gtr (getL q18.1 0) (LV.int .i64 65535) fun v20 =>
 condK v20 (
 bn .quo (getL q18.1 0) (LV.int .i64 65536) fun v22 =>
 bn .rem (getL q18.1 0) (LV.int .i64 65536) fun v24 =>
 bn .add v22 v24 fun v25 =>
 pr.round r3.2.2 .normal [v25] q18.2) (
 pr.round r3.2.2 (.exit 2) [(getL q18.1 0)] q18.2)) ([(getL r3.2.1 0)], r3.2.2)).bind fun r18 =>
 exIf r18.1 (.exit 2) (
 pr.fin none r18.2.2 [(getL r18.2.1 0)]) (none)) (none)
theorem F_interpreterref02_Total_eq (g : Call) (a0 : LV) : fnEv g c_interpreterref02_Total [a0] none = F_interpreterref02_Total g a0 := by kernel_rfl

/-- interpreter/interpreterref02.Words -/
noncomputable def F_interpreterref02_Words (g : Call) (a0 : LV) : Option (LV × Option LV) :=
 (pr.nilT 1 3 noSlots).bind fun v1 =>
 ln a0 fun v3 =>
 bn .rem v3 (LV.int .i64 2) fun v4 =>
 bn .eql v4 (LV.int .i64 1) fun v5 =>
 condK v5 (
 (pr.bsl (LV.int .u8 0) 1 [(0, (LV.int .u8 0))]).bind fun v7 =>
 bS v1.2 v7 fun v8 =>
 bn .add a0 v8 fun v9 =>
 (whileW (fun q12 : List LV × Slots =>
 ln v9 fun v15 =>
 bn .lss (getL q12.1 1) v15 fun v16 =>
 condK v16 (
 xS v9 (getL q12.1 1) fun v20 =>
 (pr.conv .i64 v20).bind fun v21 =>
 bn .mul (LV.int .i64 256) v21 fun v22 =>
 bn .add (getL q12.1 1) (LV.int .i64 1) fun v25 =>
 xS v9 v25 fun v26 =>
 (pr.conv .i64 v26).bind fun v27 =>
 bn .add v22 v27 fun v28 =>
 (pr.bsl (LV.int .i64 0) 1 [(0, v28)]).bind fun v29 =>
 (pr.append 1 8 32 q12.2 (getL q12.1 0) v29).bind fun v30 =>
 bn .add (getL q12.1 1) (LV.int .i64 2) fun v33 =>
 pr.round v1.2 .normal [v30.1, v33] v30.2) (
 pr.round v1.2 (.exit 0) [(getL q12.1 0), (getL q12.1 1)] q12.2)) ([v1.1, (LV.int .i64 0)], v1.2)).bind fun r12 =>
 exIf r12.1 (.exit 0) (
 pr.fin none r12.2.2 [(getL r12.2.1 0)]) (none)) (
 (whileW (fun q38 : List LV × Slots =>
 ln a0 fun v41 =>
 bn .lss (getL q38.1 1) v41 fun v42 =>
 condK v42 (
 xS a0 (getL q38.1 1) fun v46 =>
 (pr.conv .i64 v46).bind fun v47 =>
 bn .mul (LV.int .i64 256) v47 fun v48 =>
 bn .add (getL q38.1 1) (LV.int .i64 1) fun v51 =>
 xS a0 v51 fun v52 =>
 (pr.conv .i64 v52).bind fun v53 =>
 bn .add v48 v53 fun v54 =>
 (pr.bsl (LV.int .i64 0) 1 [(0, v54)]).bind fun v55 =>
 (pr.append 1 8 32 q38.2 (getL q38.1 0) v55).bind fun v56 =>
 bn .add (getL q38.1 1) (LV.int .i64 2) fun v59 =>
 pr.round v1.2 .normal [v56.1, v59] v56.2) (
 pr.round v1.2 (.exit 0) [(getL q38.1 0), (getL q38.1 1)] q38.2)) ([v1.1, (LV.int .i64 0)], v1.2)).bind fun r38 =>
 exIf r38.1 (.exit 0) (
 pr.fin none r38.2.2 [(getL r38.2.1 0)]) (none))
theorem F_interpreterref02_Words_eq (g : Call) (a0 : LV) : fnEv g c_interpreterref02_Words [a0] none = F_interpreterref02_Words g a0 := by kernel_rfl

/-- interpreter/num.Big -/
noncomputable def F_num_Big (g : Call) (a0 : LV) (a1 : LV) : Option (LV × Option LV) :=
 bn .neq a1 (LV.int .i64 1) fun v3 =>
 gT v3 (some a1) fun v5 =>
 gT v3 (pr.bin .neq v5 (LV.int .i64 2)) fun v6 =>
 pT v3 v6 fun v7 =>
 gT v7 (some a1) fun v9 =>
 gT v7 (pr.bin .neq v9 (LV.int .i64 4)) fun v10 =>
 pT v7 v10 fun v11 =>
 condK v11 (
 (pr.parts (LV.agg [(LV.int .i64 0), (LV.int .i64 0)]) [(0, (LV.int .i64 1))]).bind fun v13 =>
 bx v13 fun v14 =>
 (pr.iface ty_ptr_num_Fault v14).bind fun v15 =>
 pr.fin none noSlots [(LV.str []), v15]) (
 bn .lss a0 (LV.int .i64 0) fun v19 =>
 gF v19 (some a0) fun v21 =>
 gF v19 (some a1) fun v22 =>
 gF v19 (pr.bin .mul (LV.int .i64 8) v22) fun v23 =>
 gF v19 (pr.bin .shl (LV.int .i64 1) v23) fun v24 =>
 gF v19 (pr.bin .geq v21 v24) fun v25 =>
 pF v19 v25 fun v26 =>
 condK v26 (
 (pr.parts (LV.agg [(LV.int .i64 0), (LV.int .i64 0)]) [(0, (LV.int .i64 13))]).bind fun v28 =>
 bx v28 fun v29 =>
 (pr.iface ty_ptr_num_Fault v29).bind fun v30 =>
 pr.fin none noSlots [(LV.str []), v30]) (
 (pr.mkSl 36 noSlots a1 a1).bind fun v34 =>
 (whileW (fun q38 : List LV × Slots =>
 bn .lss (getL q38.1 0) a1 fun v39 =>
 condK v39 (
 bn .sub a1 (LV.int .i64 1) fun v46 =>
 bn .sub v46 (getL q38.1 0) fun v48 =>
 bn .mul (LV.int .i64 8) v48 fun v49 =>
 bn .shr a0 v49 fun v50 =>
 (pr.conv .u8 v50).bind fun v51 =>
 (pr.idxAddr none 1 v34.1 (getL q38.1 0)).bind fun v52 =>
 s1 q38.2 v52 v51 fun v53 =>
 bn .add (getL q38.1 0) (LV.int .i64 1) fun v54 =>
 pr.round v34.2 .normal [v54] v53.2) (
 pr.round v34.2 (.exit 1) [(getL q38.1 0)] q38.2)) ([(LV.int .i64 0)], v34.2)).bind fun r38 =>
 exIf r38.1 (.exit 1) (
 bS r38.2.2 v34.1 fun v57 =>
 pr.fin none r38.2.2 [v57, LV.nili]) (none)))
theorem F_num_Big_eq (g : Call) (a0 : LV) (a1 : LV) : fnEv g c_num_Big [a0, a1] none = F_num_Big g a0 a1 := by kernel_rfl

/-- interpreter/ip4.big -/
noncomputable def F_ip4_big (g : Call) (a0 : LV) (a1 : LV) : Option (LV × Option LV) :=
 cl g id_num_Big noSlots [a0, a1] fun v3 =>
 ex v3 0 fun v5 =>
 ex v3 1 fun v6 =>
 pr.fin none noSlots [v5]
theorem F_ip4_big_eq (g : Call) (a0 : LV) (a1 : LV) : fnEv g c_ip4_big [a0, a1] none = F_ip4_big g a0 a1 := by kernel_rfl

/-- interpreter/interpreterref03.number -/
noncomputable def F_interpreterref03_number (g : Call) (a0 : LV) (a1 : LV) : Option (LV × Option LV) :=
 (pr.parts (LV.agg [(LV.str []), (LV.int .i64 0), (LV.int .i64 0), (LV.int .i64 0)]) [(0, a0), (1, a1)]).bind fun v3 =>
 (pr.boxM v3 11 noSlots).bind fun v4 =>
 (pr.callRw g id_interpreterref01_Reader_Number v4.2 [v4.1, (LV.int .i64 2)]).bind fun v7 =>
 ex v7.1 0 fun v9 =>
 ex v7.1 1 fun v10 =>
 pr.fin none v7.2 [v9]
theorem F_interpreterref03_number_eq (g : Call) (a0 : LV) (a1 : LV) : fnEv g c_interpreterref03_number [a0, a1] none = F_interpreterref03_number g a0 a1 := by kernel_rfl

/-- interpreter/fault.ported -/
noncomputable def F_fault_ported (g : Call) (a0 : LV) (a1 : LV) (a2 : LV) (a3 : LV) (a4 : LV) (a5 : LV) : Option (LV × Option LV) :=
 ln a1 fun v2 =>
 bn .lss v2 (LV.int .i64 4) fun v3 =>
 condK v3 (
 pr.fin none noSlots [a1]) (
 cl g id_fault_big noSlots [a4, (LV.int .i64 2)] fun v7 =>
 cl g id_fault_big noSlots [a5, (LV.int .i64 2)] fun v9 =>
 bn .add v7 v9 fun v10 =>
 sl a1 none (some (LV.int .i64 4)) fun v13 =>
 sl a1 (some (LV.int .i64 4)) none fun v17 =>
 bn .add v10 v17 fun v18 =>
 bn .eql a0 (LV.int .i64 17) fun v21 =>
 condK v21 (
 bn .add a2 v13 fun v25 =>
 bn .add a3 v10 fun v28 =>
 cl g id_fault_update noSlots [v18, (LV.int .i64 6), v25, v28, (LV.bool true)] fun v29 =>
 pr.fin none noSlots [v29]) (
 bn .add a2 v13 fun v34 =>
 bn .add a3 v10 fun v37 =>
 cl g id_fault_update noSlots [v18, (LV.int .i64 16), v34, v37, (LV.bool false)] fun v38 =>
 pr.fin none noSlots [v38]))
theorem F_fault_ported_eq (g : Call) (a0 : LV) (a1 : LV) (a2 : LV) (a3 : LV) (a4 : LV) (a5 : LV) : fnEv g c_fault_ported [a0, a1, a2, a3, a4, a5] none = F_fault_ported g a0 a1 a2 a3 a4 a5 := by kernel_rfl

/-- interpreter/fault.echoed -/
noncomputable def F_fault_echoed (g : Call) (a0 : LV) (a1 : LV) (a2 : LV) (a3 : LV) (a4 : LV) : Option (LV × Option LV) :=
 sl a0 none (some (LV.int .i64 2)) fun v2 =>
 sl a0 (some (LV.int .i64 4)) (some (LV.int .i64 6)) fun v4 =>
 bn .add v2 v4 fun v5 =>
 cl g id_fault_big noSlots [a3, (LV.int .i64 1)] fun v8 =>
 bn .add v8 (LV.str [0]) fun v9 =>
 sl a0 (some (LV.int .i64 2)) (some (LV.int .i64 4)) fun v13 =>
 bn .add v9 v13 fun v14 =>
 cl g id_fault_big noSlots [a4, (LV.int .i64 2)] fun v16 =>
 bn .add v14 v16 fun v17 =>
 sl a0 (some (LV.int .i64 6)) none fun v19 =>
 bn .add v17 v19 fun v20 =>
 bn .add a1 v5 fun v25 =>
 bn .add a2 v9 fun v28 =>
 cl g id_fault_big noSlots [a4, (LV.int .i64 2)] fun v30 =>
 bn .add v28 v30 fun v31 =>
 cl g id_fault_update noSlots [v20, (LV.int .i64 2), v25, v31, (LV.bool false)] fun v32 =>
 pr.fin none noSlots [v32]
theorem F_fault_echoed_eq (g : Call) (a0 : LV) (a1 : LV) (a2 : LV) (a3 : LV) (a4 : LV) : fnEv g c_fault_echoed [a0, a1, a2, a3, a4] none = F_fault_echoed g a0 a1 a2 a3 a4 := by kernel_rfl

/-- (*interpreter/interpreterref01.Reader).Number -/
noncomputable def F_interpreterref01_Reader_Number (g : Call) (h : LV) (a1 : LV) : Option (LV × Option LV) :=
 (pr.callRw g id_interpreterref01_Reader_Text (upd noSlots 0 (.obj 0 h)) [(LV.ptr 0 0 [] 0), a1]).bind fun v4 =>
 ex v4.1 0 fun v6 =>
 ex v4.1 1 fun v7 =>
 (whileW (fun q12 : List LV × Slots =>
 ln v6 fun v15 =>
 bn .lss (getL q12.1 1) v15 fun v16 =>
 condK v16 (
 bn .mul (getL q12.1 0) (LV.int .i64 256) fun v18 =>
 xS v6 (getL q12.1 1) fun v21 =>
 (pr.conv .i64 v21).bind fun v22 =>
 bn .add v18 v22 fun v23 =>
 bn .add (getL q12.1 1) (LV.int .i64 1) fun v26 =>
 pr.round v4.2 .normal [v23, v26] q12.2) (
 pr.round v4.2 (.exit 0) [(getL q12.1 0), (getL q12.1 1)] q12.2)) ([(LV.int .i64 0), (LV.int .i64 0)], v4.2)).bind fun r12 =>
 exIf r12.1 (.exit 0) (
 pr.fin (some h) r12.2.2 [(getL r12.2.1 0), v7]) (none)
theorem F_interpreterref01_Reader_Number_eq (g : Call) (h : LV) (a1 : LV) : fnEv g c_interpreterref01_Reader_Number [(LV.ptr 0 0 [] 0), a1] (some h) = F_interpreterref01_Reader_Number g h a1 := by kernel_rfl

/-- interpreter/ip6.extends -/
noncomputable def F_ip6_extends (g : Call) (a0 : LV) : Option (LV × Option LV) :=
 bn .eql a0 (LV.int .i64 0) fun v2 =>
 gF v2 (some a0) fun v4 =>
 gF v2 (pr.bin .eql v4 (LV.int .i64 43)) fun v5 =>
 pF v2 v5 fun v6 =>
 gF v6 (some a0) fun v8 =>
 gF v6 (pr.bin .eql v8 (LV.int .i64 60)) fun v9 =>
 pF v6 v9 fun v10 =>
 pr.fin none noSlots [v10]
theorem F_ip6_extends_eq (g : Call) (a0 : LV) : fnEv g c_ip6_extends [a0] none = F_ip6_extends g a0 := by kernel_rfl

/-- (*interpreter/num.Reader).number -/
noncomputable def F_num_Reader_number (g : Call) (h : LV) (a1 : LV) : Option (LV × Option LV) :=
 (pr.callRw g id_num_Reader_Text (upd noSlots 0 (.obj 0 h)) [(LV.ptr 0 0 [] 0), a1]).bind fun v4 =>
 ex v4.1 0 fun v6 =>
 ex v4.1 1 fun v7 =>
 ln v6 fun v12 =>
 (whileW (fun q14 : List LV × Slots =>
 bn .lss (getL q14.1 1) v12 fun v15 =>
 condK v15 (
 bn .shl (getL q14.1 0) (LV.int .u64 8) fun v19 =>
 xS v6 (getL q14.1 1) fun v22 =>
 (pr.conv .i64 v22).bind fun v23 =>
 bn .or v19 v23 fun v24 =>
 bn .add (getL q14.1 1) (LV.int .i64 1) fun v26 =>
 pr.round v4.2 .normal [v24, v26] q14.2) (
 pr.round v4.2 (.exit 0) [(getL q14.1 0), (getL q14.1 1)] q14.2)) ([(LV.int .i64 0), (LV.int .i64 0)], v4.2)).bind fun r14 =>
 exIf r14.1 (.exit 0) (
 pr.fin (some h) r14.2.2 [(getL r14.2.1 0), v7]) (none)
theorem F_num_Reader_number_eq (g : Call) (h : LV) (a1 : LV) : fnEv g c_num_Reader_number [(LV.ptr 0 0 [] 0), a1] (some h) = F_num_Reader_number g h a1 := by kernel_rfl

/-- interpreter/sum.fold -/
noncomputable def F_sum_fold (g : Call) (a0 : LV) : Option (LV × Option LV) :=
 (whileW (fun q1 : List LV × Slots =>
 bn .gtr (getL q1.1 0) (LV.int .i64 65535) fun v3 =>
 condK v3 (
 bn .shr (getL q1.1 0) (LV.int .u64 16) fun v5 =>
 bn .and (getL q1.1 0) (LV.int .i64 65535) fun v7 =>
 bn .add v5 v7 fun v8 =>
 pr.round noSlots .normal [v8] q1.2) (
 pr.round noSlots (.exit 0) [(getL q1.1 0)] q1.2)) ([a0], noSlots)).bind fun r1 =>
 exIf r1.1 (.exit 0) (
 pr.fin none r1.2.2 [(getL r1.2.1 0)]) (none)
theorem F_sum_fold_eq (g : Call) (a0 : LV) : fnEv g c_sum_fold [a0] none = F_sum_fold g a0 := by kernel_rfl

/-- interpreter/sum.add -/
noncomputable def F_sum_add (g : Call) (a0 : LV) (a1 : LV) (a2 : LV) (a3 : LV) : Option (LV × Option LV) :=
 ln a2 fun v2 =>
 (whileW (fun q4 : List LV × Slots =>
 bn .lss (getL q4.1 1) v2 fun v5 =>
 condK v5 (
 xS a2 (getL q4.1 1) fun v10 =>
 bn .xor v10 a3 fun v12 =>
 (pr.conv .i64 v12).bind fun v13 =>
 bn .add a1 (getL q4.1 1) fun v17 =>
 bn .rem v17 (LV.int .i64 2) fun v18 =>
 bn .eql v18 (LV.int .i64 0) fun v19 =>
 condK v19 (
 bn .shl v13 (LV.int .u64 8) fun v21 =>
 bn .add (getL q4.1 0) v21 fun v25 =>
 bn .add (getL q4.1 1) (LV.int .i64 1) fun v27 =>
 pr.round noSlots .normal [v25, v27] q4.2) (
 bn .add (getL q4.1 0) v13 fun v31 =>
 bn .add (getL q4.1 1) (LV.int .i64 1) fun v33 =>
 pr.round noSlots .normal [v31, v33] q4.2)) (
 pr.round noSlots (.exit 0) [(getL q4.1 0), (getL q4.1 1)] q4.2)) ([a0, (LV.int .i64 0)], noSlots)).bind fun r4 =>
 exIf r4.1 (.exit 0) (
 pr.fin none r4.2.2 [(getL r4.2.1 0)]) (none)
theorem F_sum_add_eq (g : Call) (a0 : LV) (a1 : LV) (a2 : LV) (a3 : LV) : fnEv g c_sum_add [a0, a1, a2, a3] none = F_sum_add g a0 a1 a2 a3 := by kernel_rfl

/-- interpreter/ip4.byteful -/
noncomputable def F_ip4_byteful (g : Call) (a0 : LV) : Option (LV × Option LV) :=
 (pr.len false a0).bind fun v2 =>
 (whileW (fun q4 : List LV × Slots =>
 bn .lss (getL q4.1 1) v2 fun v5 =>
 condK v5 (
 (pr.idxAddr none 1 a0 (getL q4.1 1)).bind fun v6 =>
 l1 q4.2 v6 fun v7 =>
 bn .lss v7 (LV.int .i64 0) fun v10 =>
 gF v10 (some v7) fun v12 =>
 gF v10 (pr.bin .gtr v12 (LV.int .i64 255)) fun v13 =>
 pF v10 v13 fun v14 =>
 condK v14 (
 pr.round noSlots .ret [(LV.bool false), (getL q4.1 1)] q4.2) (
 bn .add (getL q4.1 1) (LV.int .i64 1) fun v16 =>
 pr.round noSlots .normal [(getL q4.1 0), v16] q4.2)) (
 pr.round noSlots (.exit 0) [(getL q4.1 0), (getL q4.1 1)] q4.2)) ([(LV.bool false), (LV.int .i64 0)], noSlots)).bind fun r4 =>
 exIf r4.1 (.exit 0) (
 pr.fin none r4.2.2 [(LV.bool true)]) (exIf r4.1 .ret (
 pr.fin none r4.2.2 [(getL r4.2.1 0)]) (none))
theorem F_ip4_byteful_eq (g : Call) (a0 : LV) : fnEv g c_ip4_byteful [a0] none = F_ip4_byteful g a0 := by kernel_rfl

/-- interpreter/icmpmap.sides -/
noncomputable def F_icmpmap_sides (g : Call) (a0 : LV) (a1 : LV) : Option (LV × Option LV) :=
 bn .geq a0 (LV.int .i64 68) fun v2 =>
 gT v2 (some a0) fun v4 =>
 gT v2 (pr.bin .leq v4 (LV.int .i64 65535)) fun v5 =>
 pT v2 v5 fun v6 =>
 gT v6 (some a1) fun v8 =>
 gT v6 (pr.bin .geq v8 (LV.int .i64 1280)) fun v9 =>
 pT v6 v9 fun v10 =>
 gT v10 (some a1) fun v12 =>
 gT v10 (pr.bin .leq v12 (LV.int .i64 65575)) fun v13 =>
 pT v10 v13 fun v14 =>
 pr.fin none noSlots [v14]
theorem F_icmpmap_sides_eq (g : Call) (a0 : LV) (a1 : LV) : fnEv g c_icmpmap_sides [a0, a1] none = F_icmpmap_sides g a0 a1 := by kernel_rfl

/-- interpreter/icmpmap.said -/
noncomputable def F_icmpmap_said (g : Call) (a0 : LV) (a1 : LV) (a2 : LV) (a3 : LV) : Option (LV × Option LV) :=
 bx a0 fun v0 =>
 (pr.alloc (LV.agg [(LV.int .i64 0), (LV.int .i64 0), (LV.int .u32 0), (LV.str [])]) 8 noSlots).bind fun v1 =>
 (pr.conv .u32 a3).bind fun v6 =>
 fA 3 3 v0 fun v7 =>
 l1 v1.2 v7 fun v8 =>
 (pr.parts (LV.agg [(LV.int .i64 0), (LV.int .i64 0), (LV.int .u32 0), (LV.str [])]) [(0, a1), (1, a2), (2, v6), (3, v8)]).bind fun v9 =>
 sA 4 v1.2 v1.1 v9 fun v10 =>
 lA 4 v10.2 v1.1 fun v12 =>
 pr.fin none v10.2 [v12, (LV.bool true)]
theorem F_icmpmap_said_eq (g : Call) (a0 : LV) (a1 : LV) (a2 : LV) (a3 : LV) : fnEv g c_icmpmap_said [a0, a1, a2, a3] none = F_icmpmap_said g a0 a1 a2 a3 := by kernel_rfl

/-- interpreter/icmpmap.lost6 -/
noncomputable def F_icmpmap_lost6 (g : Call) (a0 : LV) (a1 : LV) (a2 : LV) (a3 : LV) : Option (LV × Option LV) :=
 bx a0 fun v0 =>
 (pr.alloc (LV.agg [(LV.int .i64 0), (LV.int .i64 0), (LV.int .u32 0), (LV.str [])]) 8 noSlots).bind fun v1 =>
 fA 1 1 v0 fun v3 =>
 l1 v1.2 v3 fun v4 =>
 bn .eql v4 (LV.int .i64 0) fun v5 =>
 condK v5 (
 condK v5 (
 lA 4 v1.2 v0 fun v7 =>
 cl g id_icmpmap_said v1.2 [v7, (LV.int .i64 1), (LV.int .i64 0), (LV.int .i64 0)] fun v8 =>
 ex v8 0 fun v9 =>
 ex v8 1 fun v10 =>
 sA 4 v1.2 v1.1 v9 fun v11 =>
 lA 4 v11.2 v1.1 fun v13 =>
 pr.fin none v11.2 [v13, v10]) (
 bn .eql v4 (LV.int .i64 9) fun v14 =>
 condK v14 (
 condK v14 (
 lA 4 v1.2 v0 fun v16 =>
 cl g id_icmpmap_said v1.2 [v16, (LV.int .i64 1), (LV.int .i64 1), (LV.int .i64 0)] fun v17 =>
 ex v17 0 fun v18 =>
 ex v17 1 fun v19 =>
 sA 4 v1.2 v1.1 v18 fun v20 =>
 lA 4 v20.2 v1.1 fun v22 =>
 pr.fin none v20.2 [v22, v19]) (
 bn .eql v4 (LV.int .i64 3) fun v23 =>
 condK v23 (
 lA 4 v1.2 v0 fun v25 =>
 cl g id_icmpmap_said v1.2 [v25, (LV.int .i64 1), (LV.int .i64 4), (LV.int .i64 0)] fun v26 =>
 ex v26 0 fun v27 =>
 ex v26 1 fun v28 =>
 sA 4 v1.2 v1.1 v27 fun v29 =>
 lA 4 v29.2 v1.1 fun v31 =>
 pr.fin none v29.2 [v31, v28]) (
 bn .eql v4 (LV.int .i64 2) fun v32 =>
 condK v32 (
 lA 4 v1.2 v0 fun v34 =>
 cl g id_icmpmap_said v1.2 [v34, (LV.int .i64 4), (LV.int .i64 1), (LV.int .i64 6)] fun v35 =>
 ex v35 0 fun v36 =>
 ex v35 1 fun v37 =>
 sA 4 v1.2 v1.1 v36 fun v38 =>
 lA 4 v38.2 v1.1 fun v40 =>
 pr.fin none v38.2 [v40, v37]) (
 bn .eql v4 (LV.int .i64 4) fun v41 =>
 condK v41 (
 fA 2 2 v0 fun v43 =>
 l1 v1.2 v43 fun v44 =>
 bn .and v44 (LV.int .u32 65535) fun v45 =>
 (pr.conv .i64 v45).bind fun v46 =>
 bn .eql v46 (LV.int .i64 0) fun v49 =>
 condK v49 (
 cl g id_icmpmap_Plateau v1.2 [a3] fun v51 =>
 lA 4 v1.2 v0 fun v53 =>
 bn .add v51 (LV.int .i64 20) fun v55 =>
 bn .add a1 (LV.int .i64 20) fun v58 =>
 (pr.minmax false v55 [a2, v58]).bind fun v59 =>
 (pr.minmax true v59 [(LV.int .i64 1280)]).bind fun v60 =>
 cl g id_icmpmap_said v1.2 [v53, (LV.int .i64 2), (LV.int .i64 0), v60] fun v61 =>
 ex v61 0 fun v62 =>
 ex v61 1 fun v63 =>
 sA 4 v1.2 v1.1 v62 fun v64 =>
 lA 4 v64.2 v1.1 fun v66 =>
 pr.fin none v64.2 [v66, v63]) (
 lA 4 v1.2 v0 fun v67 =>
 bn .add v46 (LV.int .i64 20) fun v69 =>
 bn .add a1 (LV.int .i64 20) fun v72 =>
 (pr.minmax false v69 [a2, v72]).bind fun v73 =>
 (pr.minmax true v73 [(LV.int .i64 1280)]).bind fun v74 =>
 cl g id_icmpmap_said v1.2 [v67, (LV.int .i64 2), (LV.int .i64 0), v74] fun v75 =>
 ex v75 0 fun v76 =>
 ex v75 1 fun v77 =>
 sA 4 v1.2 v1.1 v76 fun v78 =>
 lA 4 v78.2 v1.1 fun v80 =>
 pr.fin none v78.2 [v80, v77])) (
 (pr.parts (LV.agg [(LV.int .i64 0), (LV.int .i64 0), (LV.int .u32 0), (LV.str [])]) []).bind fun v81 =>
 sA 4 v1.2 v1.1 v81 fun v82 =>
 lA 4 v82.2 v1.1 fun v84 =>
 pr.fin none v82.2 [v84, (LV.bool false)]))))) (
 bn .eql v4 (LV.int .i64 10) fun v85 =>
 condK v85 (
 condK v85 (
 lA 4 v1.2 v0 fun v87 =>
 cl g id_icmpmap_said v1.2 [v87, (LV.int .i64 1), (LV.int .i64 1), (LV.int .i64 0)] fun v88 =>
 ex v88 0 fun v89 =>
 ex v88 1 fun v90 =>
 sA 4 v1.2 v1.1 v89 fun v91 =>
 lA 4 v91.2 v1.1 fun v93 =>
 pr.fin none v91.2 [v93, v90]) (
 bn .eql v4 (LV.int .i64 3) fun v94 =>
 condK v94 (
 lA 4 v1.2 v0 fun v96 =>
 cl g id_icmpmap_said v1.2 [v96, (LV.int .i64 1), (LV.int .i64 4), (LV.int .i64 0)] fun v97 =>
 ex v97 0 fun v98 =>
 ex v97 1 fun v99 =>
 sA 4 v1.2 v1.1 v98 fun v100 =>
 lA 4 v100.2 v1.1 fun v102 =>
 pr.fin none v100.2 [v102, v99]) (
 bn .eql v4 (LV.int .i64 2) fun v103 =>
 condK v103 (
 lA 4 v1.2 v0 fun v105 =>
 cl g id_icmpmap_said v1.2 [v105, (LV.int .i64 4), (LV.int .i64 1), (LV.int .i64 6)] fun v106 =>
 ex v106 0 fun v107 =>
 ex v106 1 fun v108 =>
 sA 4 v1.2 v1.1 v107 fun v109 =>
 lA 4 v109.2 v1.1 fun v111 =>
 pr.fin none v109.2 [v111, v108]) (
 bn .eql v4 (LV.int .i64 4) fun v112 =>
 condK v112 (
 fA 2 2 v0 fun v114 =>
 l1 v1.2 v114 fun v115 =>
 bn .and v115 (LV.int .u32 65535) fun v116 =>
 (pr.conv .i64 v116).bind fun v117 =>
 bn .eql v117 (LV.int .i64 0) fun v120 =>
 condK v120 (
 cl g id_icmpmap_Plateau v1.2 [a3] fun v122 =>
 lA 4 v1.2 v0 fun v124 =>
 bn .add v122 (LV.int .i64 20) fun v126 =>
 bn .add a1 (LV.int .i64 20) fun v129 =>
 (pr.minmax false v126 [a2, v129]).bind fun v130 =>
 (pr.minmax true v130 [(LV.int .i64 1280)]).bind fun v131 =>
 cl g id_icmpmap_said v1.2 [v124, (LV.int .i64 2), (LV.int .i64 0), v131] fun v132 =>
 ex v132 0 fun v133 =>
 ex v132 1 fun v134 =>
 sA 4 v1.2 v1.1 v133 fun v135 =>
 lA 4 v135.2 v1.1 fun v137 =>
 pr.fin none v135.2 [v137, v134]) (
 lA 4 v1.2 v0 fun v138 =>
 bn .add v117 (LV.int .i64 20) fun v140 =>
 bn .add a1 (LV.int .i64 20) fun v143 =>
 (pr.minmax false v140 [a2, v143]).bind fun v144 =>
 (pr.minmax true v144 [(LV.int .i64 1280)]).bind fun v145 =>
 cl g id_icmpmap_said v1.2 [v138, (LV.int .i64 2), (LV.int .i64 0), v145] fun v146 =>
 ex v146 0 fun v147 =>
 ex v146 1 fun v148 =>
 sA 4 v1.2 v1.1 v147 fun v149 =>
 lA 4 v149.2 v1.1 fun v151 =>
 pr.fin none v149.2 [v151, v148])) (
 (pr.parts (LV.agg [(LV.int .i64 0), (LV.int .i64 0), (LV.int .u32 0), (LV.str [])]) []).bind fun v152 =>
 sA 4 v1.2 v1.1 v152 fun v153 =>
 lA 4 v153.2 v1.1 fun v155 =>
 pr.fin none v153.2 [v155, (LV.bool false)]))))) (
 bn .eql v4 (LV.int .i64 13) fun v156 =>
 condK v156 (
 condK v156 (
 lA 4 v1.2 v0 fun v158 =>
 cl g id_icmpmap_said v1.2 [v158, (LV.int .i64 1), (LV.int .i64 1), (LV.int .i64 0)] fun v159 =>
 ex v159 0 fun v160 =>
 ex v159 1 fun v161 =>
 sA 4 v1.2 v1.1 v160 fun v162 =>
 lA 4 v162.2 v1.1 fun v164 =>
 pr.fin none v162.2 [v164, v161]) (
 bn .eql v4 (LV.int .i64 3) fun v165 =>
 condK v165 (
 lA 4 v1.2 v0 fun v167 =>
 cl g id_icmpmap_said v1.2 [v167, (LV.int .i64 1), (LV.int .i64 4), (LV.int .i64 0)] fun v168 =>
 ex v168 0 fun v169 =>
 ex v168 1 fun v170 =>
 sA 4 v1.2 v1.1 v169 fun v171 =>
 lA 4 v171.2 v1.1 fun v173 =>
 pr.fin none v171.2 [v173, v170]) (
 bn .eql v4 (LV.int .i64 2) fun v174 =>
 condK v174 (
 lA 4 v1.2 v0 fun v176 =>
 cl g id_icmpmap_said v1.2 [v176, (LV.int .i64 4), (LV.int .i64 1), (LV.int .i64 6)] fun v177 =>
 ex v177 0 fun v178 =>
 ex v177 1 fun v179 =>
 sA 4 v1.2 v1.1 v178 fun v180 =>
 lA 4 v180.2 v1.1 fun v182 =>
 pr.fin none v180.2 [v182, v179]) (
 bn .eql v4 (LV.int .i64 4) fun v183 =>
 condK v183 (
 fA 2 2 v0 fun v185 =>
 l1 v1.2 v185 fun v186 =>
 bn .and v186 (LV.int .u32 65535) fun v187 =>
 (pr.conv .i64 v187).bind fun v188 =>
 bn .eql v188 (LV.int .i64 0) fun v191 =>
 condK v191 (
 cl g id_icmpmap_Plateau v1.2 [a3] fun v193 =>
 lA 4 v1.2 v0 fun v195 =>
 bn .add v193 (LV.int .i64 20) fun v197 =>
 bn .add a1 (LV.int .i64 20) fun v200 =>
 (pr.minmax false v197 [a2, v200]).bind fun v201 =>
 (pr.minmax true v201 [(LV.int .i64 1280)]).bind fun v202 =>
 cl g id_icmpmap_said v1.2 [v195, (LV.int .i64 2), (LV.int .i64 0), v202] fun v203 =>
 ex v203 0 fun v204 =>
 ex v203 1 fun v205 =>
 sA 4 v1.2 v1.1 v204 fun v206 =>
 lA 4 v206.2 v1.1 fun v208 =>
 pr.fin none v206.2 [v208, v205]) (
 lA 4 v1.2 v0 fun v209 =>
 bn .add v188 (LV.int .i64 20) fun v211 =>
 bn .add a1 (LV.int .i64 20) fun v214 =>
 (pr.minmax false v211 [a2, v214]).bind fun v215 =>
 (pr.minmax true v215 [(LV.int .i64 1280)]).bind fun v216 =>
 cl g id_icmpmap_said v1.2 [v209, (LV.int .i64 2), (LV.int .i64 0), v216] fun v217 =>
 ex v217 0 fun v218 =>
 ex v217 1 fun v219 =>
 sA 4 v1.2 v1.1 v218 fun v220 =>
 lA 4 v220.2 v1.1 fun v222 =>
 pr.fin none v220.2 [v222, v219])) (
 (pr.parts (LV.agg [(LV.int .i64 0), (LV.int .i64 0), (LV.int .u32 0), (LV.str [])]) []).bind fun v223 =>
 sA 4 v1.2 v1.1 v223 fun v224 =>
 lA 4 v224.2 v1.1 fun v226 =>
 pr.fin none v224.2 [v226, (LV.bool false)]))))) (
 bn .eql v4 (LV.int .i64 15) fun v227 =>
 condK v227 (
 lA 4 v1.2 v0 fun v229 =>
 cl g id_icmpmap_said v1.2 [v229, (LV.int .i64 1), (LV.int .i64 1), (LV.int .i64 0)] fun v230 =>
 ex v230 0 fun v231 =>
 ex v230 1 fun v232 =>
 sA 4 v1.2 v1.1 v231 fun v233 =>
 lA 4 v233.2 v1.1 fun v235 =>
 pr.fin none v233.2 [v235, v232]) (
 bn .eql v4 (LV.int .i64 3) fun v236 =>
 condK v236 (
 lA 4 v1.2 v0 fun v238 =>
 cl g id_icmpmap_said v1.2 [v238, (LV.int .i64 1), (LV.int .i64 4), (LV.int .i64 0)] fun v239 =>
 ex v239 0 fun v240 =>
 ex v239 1 fun v241 =>
 sA 4 v1.2 v1.1 v240 fun v242 =>
 lA 4 v242.2 v1.1 fun v244 =>
 pr.fin none v242.2 [v244, v241]) (
 bn .eql v4 (LV.int .i64 2) fun v245 =>
 condK v245 (
 lA 4 v1.2 v0 fun v247 =>
 cl g id_icmpmap_said v1.2 [v247, (LV.int .i64 4), (LV.int .i64 1), (LV.int .i64 6)] fun v248 =>
 ex v248 0 fun v249 =>
 ex v248 1 fun v250 =>
 sA 4 v1.2 v1.1 v249 fun v251 =>
 lA 4 v251.2 v1.1 fun v253 =>
 pr.fin none v251.2 [v253, v250]) (
 bn .eql v4 (LV.int .i64 4) fun v254 =>
 condK v254 (
 fA 2 2 v0 fun v256 =>
 l1 v1.2 v256 fun v257 =>
 bn .and v257 (LV.int .u32 65535) fun v258 =>
 (pr.conv .i64 v258).bind fun v259 =>
 bn .eql v259 (LV.int .i64 0) fun v262 =>
 condK v262 (
 cl g id_icmpmap_Plateau v1.2 [a3] fun v264 =>
 lA 4 v1.2 v0 fun v266 =>
 bn .add v264 (LV.int .i64 20) fun v268 =>
 bn .add a1 (LV.int .i64 20) fun v271 =>
 (pr.minmax false v268 [a2, v271]).bind fun v272 =>
 (pr.minmax true v272 [(LV.int .i64 1280)]).bind fun v273 =>
 cl g id_icmpmap_said v1.2 [v266, (LV.int .i64 2), (LV.int .i64 0), v273] fun v274 =>
 ex v274 0 fun v275 =>
 ex v274 1 fun v276 =>
 sA 4 v1.2 v1.1 v275 fun v277 =>
 lA 4 v277.2 v1.1 fun v279 =>
 pr.fin none v277.2 [v279, v276]) (
 lA 4 v1.2 v0 fun v280 =>
 bn .add v259 (LV.int .i64 20) fun v282 =>
 bn .add a1 (LV.int .i64 20) fun v285 =>
 (pr.minmax false v282 [a2, v285]).bind fun v286 =>
 (pr.minmax true v286 [(LV.int .i64 1280)]).bind fun v287 =>
 cl g id_icmpmap_said v1.2 [v280, (LV.int .i64 2), (LV.int .i64 0), v287] fun v288 =>
 ex v288 0 fun v289 =>
 ex v288 1 fun v290 =>
 sA 4 v1.2 v1.1 v289 fun v291 =>
 lA 4 v291.2 v1.1 fun v293 =>
 pr.fin none v291.2 [v293, v290])) (
 (pr.parts (LV.agg [(LV.int .i64 0), (LV.int .i64 0), (LV.int .u32 0), (LV.str [])]) []).bind fun v294 =>
 sA 4 v1.2 v1.1 v294 fun v295 =>
 lA 4 v295.2 v1.1 fun v297 =>
 pr.fin none v295.2 [v297, (LV.bool false)]))))))))) (
 bn .eql v4 (LV.int .i64 1) fun v298 =>
 condK v298 (
 condK v298 (
 lA 4 v1.2 v0 fun v300 =>
 cl g id_icmpmap_said v1.2 [v300, (LV.int .i64 1), (LV.int .i64 0), (LV.int .i64 0)] fun v301 =>
 ex v301 0 fun v302 =>
 ex v301 1 fun v303 =>
 sA 4 v1.2 v1.1 v302 fun v304 =>
 lA 4 v304.2 v1.1 fun v306 =>
 pr.fin none v304.2 [v306, v303]) (
 bn .eql v4 (LV.int .i64 9) fun v307 =>
 condK v307 (
 condK v307 (
 lA 4 v1.2 v0 fun v309 =>
 cl g id_icmpmap_said v1.2 [v309, (LV.int .i64 1), (LV.int .i64 1), (LV.int .i64 0)] fun v310 =>
 ex v310 0 fun v311 =>
 ex v310 1 fun v312 =>
 sA 4 v1.2 v1.1 v311 fun v313 =>
 lA 4 v313.2 v1.1 fun v315 =>
 pr.fin none v313.2 [v315, v312]) (
 bn .eql v4 (LV.int .i64 3) fun v316 =>
 condK v316 (
 lA 4 v1.2 v0 fun v318 =>
 cl g id_icmpmap_said v1.2 [v318, (LV.int .i64 1), (LV.int .i64 4), (LV.int .i64 0)] fun v319 =>
 ex v319 0 fun v320 =>
 ex v319 1 fun v321 =>
 sA 4 v1.2 v1.1 v320 fun v322 =>
 lA 4 v322.2 v1.1 fun v324 =>
 pr.fin none v322.2 [v324, v321]) (
 bn .eql v4 (LV.int .i64 2) fun v325 =>
 condK v325 (
 lA 4 v1.2 v0 fun v327 =>
 cl g id_icmpmap_said v1.2 [v327, (LV.int .i64 4), (LV.int .i64 1), (LV.int .i64 6)] fun v328 =>
 ex v328 0 fun v329 =>
 ex v328 1 fun v330 =>
 sA 4 v1.2 v1.1 v329 fun v331 =>
 lA 4 v331.2 v1.1 fun v333 =>
 pr.fin none v331.2 [v333, v330]) (
 bn .eql v4 (LV.int .i64 4) fun v334 =>
 condK v334 (
 fA 2 2 v0 fun v336 =>
 l1 v1.2 v336 fun v337 =>
 bn .and v337 (LV.int .u32 65535) fun v338 =>
 (pr.conv .i64 v338).bind fun v339 =>
 bn .eql v339 (LV.int .i64 0) fun v342 =>
 condK v342 (
 cl g id_icmpmap_Plateau v1.2 [a3] fun v344 =>
 lA 4 v1.2 v0 fun v346 =>
 bn .add v344 (LV.int .i64 20) fun v348 =>
 bn .add a1 (LV.int .i64 20) fun v351 =>
 (pr.minmax false v348 [a2, v351]).bind fun v352 =>
 (pr.minmax true v352 [(LV.int .i64 1280)]).bind fun v353 =>
 cl g id_icmpmap_said v1.2 [v346, (LV.int .i64 2), (LV.int .i64 0), v353] fun v354 =>
 ex v354 0 fun v355 =>
 ex v354 1 fun v356 =>
 sA 4 v1.2 v1.1 v355 fun v357 =>
 lA 4 v357.2 v1.1 fun v359 =>
 pr.fin none v357.2 [v359, v356]) (
 lA 4 v1.2 v0 fun v360 =>
 bn .add v339 (LV.int .i64 20) fun v362 =>
 bn .add a1 (LV.int .i64 20) fun v365 =>
 (pr.minmax false v362 [a2, v365]).bind fun v366 =>
 (pr.minmax true v366 [(LV.int .i64 1280)]).bind fun v367 =>
 cl g id_icmpmap_said v1.2 [v360, (LV.int .i64 2), (LV.int .i64 0), v367] fun v368 =>
 ex v368 0 fun v369 =>
 ex v368 1 fun v370 =>
 sA 4 v1.2 v1.1 v369 fun v371 =>
 lA 4 v371.2 v1.1 fun v373 =>
 pr.fin none v371.2 [v373, v370])) (
 (pr.parts (LV.agg [(LV.int .i64 0), (LV.int .i64 0), (LV.int .u32 0), (LV.str [])]) []).bind fun v374 =>
 sA 4 v1.2 v1.1 v374 fun v375 =>
 lA 4 v375.2 v1.1 fun v377 =>
 pr.fin none v375.2 [v377, (LV.bool false)]))))) (
 bn .eql v4 (LV.int .i64 10) fun v378 =>
 condK v378 (
 condK v378 (
 lA 4 v1.2 v0 fun v380 =>
 cl g id_icmpmap_said v1.2 [v380, (LV.int .i64 1), (LV.int .i64 1), (LV.int .i64 0)] fun v381 =>
 ex v381 0 fun v382 =>
 ex v381 1 fun v383 =>
 sA 4 v1.2 v1.1 v382 fun v384 =>
 lA 4 v384.2 v1.1 fun v386 =>
 pr.fin none v384.2 [v386, v383]) (
 bn .eql v4 (LV.int .i64 3) fun v387 =>
 condK v387 (
 lA 4 v1.2 v0 fun v389 =>
 cl g id_icmpmap_said v1.2 [v389, (LV.int .i64 1), (LV.int .i64 4), (LV.int .i64 0)] fun v390 =>
 ex v390 0 fun v391 =>
 ex v390 1 fun v392 =>
 sA 4 v1.2 v1.1 v391 fun v393 =>
 lA 4 v393.2 v1.1 fun v395 =>
 pr.fin none v393.2 [v395, v392]) (
 bn .eql v4 (LV.int .i64 2) fun v396 =>
 condK v396 (
 lA 4 v1.2 v0 fun v398 =>
 cl g id_icmpmap_said v1.2 [v398, (LV.int .i64 4), (LV.int .i64 1), (LV.int .i64 6)] fun v399 =>
 ex v399 0 fun v400 =>
 ex v399 1 fun v401 =>
 sA 4 v1.2 v1.1 v400 fun v402 =>
 lA 4 v402.2 v1.1 fun v404 =>
 pr.fin none v402.2 [v404, v401]) (
 bn .eql v4 (LV.int .i64 4) fun v405 =>
 condK v405 (
 fA 2 2 v0 fun v407 =>
 l1 v1.2 v407 fun v408 =>
 bn .and v408 (LV.int .u32 65535) fun v409 =>
 (pr.conv .i64 v409).bind fun v410 =>
 bn .eql v410 (LV.int .i64 0) fun v413 =>
 condK v413 (
 cl g id_icmpmap_Plateau v1.2 [a3] fun v415 =>
 lA 4 v1.2 v0 fun v417 =>
 bn .add v415 (LV.int .i64 20) fun v419 =>
 bn .add a1 (LV.int .i64 20) fun v422 =>
 (pr.minmax false v419 [a2, v422]).bind fun v423 =>
 (pr.minmax true v423 [(LV.int .i64 1280)]).bind fun v424 =>
 cl g id_icmpmap_said v1.2 [v417, (LV.int .i64 2), (LV.int .i64 0), v424] fun v425 =>
 ex v425 0 fun v426 =>
 ex v425 1 fun v427 =>
 sA 4 v1.2 v1.1 v426 fun v428 =>
 lA 4 v428.2 v1.1 fun v430 =>
 pr.fin none v428.2 [v430, v427]) (
 lA 4 v1.2 v0 fun v431 =>
 bn .add v410 (LV.int .i64 20) fun v433 =>
 bn .add a1 (LV.int .i64 20) fun v436 =>
 (pr.minmax false v433 [a2, v436]).bind fun v437 =>
 (pr.minmax true v437 [(LV.int .i64 1280)]).bind fun v438 =>
 cl g id_icmpmap_said v1.2 [v431, (LV.int .i64 2), (LV.int .i64 0), v438] fun v439 =>
 ex v439 0 fun v440 =>
 ex v439 1 fun v441 =>
 sA 4 v1.2 v1.1 v440 fun v442 =>
 lA 4 v442.2 v1.1 fun v444 =>
 pr.fin none v442.2 [v444, v441])) (
 (pr.parts (LV.agg [(LV.int .i64 0), (LV.int .i64 0), (LV.int .u32 0), (LV.str [])]) []).bind fun v445 =>
 sA 4 v1.2 v1.1 v445 fun v446 =>
 lA 4 v446.2 v1.1 fun v448 =>
 pr.fin none v446.2 [v448, (LV.bool false)]))))) (
 bn .eql v4 (LV.int .i64 13) fun v449 =>
 condK v449 (
 condK v449 (
 lA 4 v1.2 v0 fun v451 =>
 cl g id_icmpmap_said v1.2 [v451, (LV.int .i64 1), (LV.int .i64 1), (LV.int .i64 0)] fun v452 =>
 ex v452 0 fun v453 =>
 ex v452 1 fun v454 =>
 sA 4 v1.2 v1.1 v453 fun v455 =>
 lA 4 v455.2 v1.1 fun v457 =>
 pr.fin none v455.2 [v457, v454]) (
 bn .eql v4 (LV.int .i64 3) fun v458 =>
 condK v458 (
 lA 4 v1.2 v0 fun v460 =>
 cl g id_icmpmap_said v1.2 [v460, (LV.int .i64 1), (LV.int .i64 4), (LV.int .i64 0)] fun v461 =>
 ex v461 0 fun v462 =>
 ex v461 1 fun v463 =>
 sA 4 v1.2 v1.1 v462 fun v464 =>
 lA 4 v464.2 v1.1 fun v466 =>
 pr.fin none v464.2 [v466, v463]) (
 bn .eql v4 (LV.int .i64 2) fun v467 =>
 condK v467 (
 lA 4 v1.2 v0 fun v469 =>
 cl g id_icmpmap_said v1.2 [v469, (LV.int .i64 4), (LV.int .i64 1), (LV.int .i64 6)] fun v470 =>
 ex v470 0 fun v471 =>
 ex v470 1 fun v472 =>
 sA 4 v1.2 v1.1 v471 fun v473 =>
 lA 4 v473.2 v1.1 fun v475 =>
 pr.fin none v473.2 [v475, v472]) (
 bn .eql v4 (LV.int .i64 4) fun v476 =>
 condK v476 (
 fA 2 2 v0 fun v478 =>
 l1 v1.2 v478 fun v479 =>
 bn .and v479 (LV.int .u32 65535) fun v480 =>
 (pr.conv .i64 v480).bind fun v481 =>
 bn .eql v481 (LV.int .i64 0) fun v484 =>
 condK v484 (
 cl g id_icmpmap_Plateau v1.2 [a3] fun v486 =>
 lA 4 v1.2 v0 fun v488 =>
 bn .add v486 (LV.int .i64 20) fun v490 =>
 bn .add a1 (LV.int .i64 20) fun v493 =>
 (pr.minmax false v490 [a2, v493]).bind fun v494 =>
 (pr.minmax true v494 [(LV.int .i64 1280)]).bind fun v495 =>
 cl g id_icmpmap_said v1.2 [v488, (LV.int .i64 2), (LV.int .i64 0), v495] fun v496 =>
 ex v496 0 fun v497 =>
 ex v496 1 fun v498 =>
 sA 4 v1.2 v1.1 v497 fun v499 =>
 lA 4 v499.2 v1.1 fun v501 =>
 pr.fin none v499.2 [v501, v498]) (
 lA 4 v1.2 v0 fun v502 =>
 bn .add v481 (LV.int .i64 20) fun v504 =>
 bn .add a1 (LV.int .i64 20) fun v507 =>
 (pr.minmax false v504 [a2, v507]).bind fun v508 =>
 (pr.minmax true v508 [(LV.int .i64 1280)]).bind fun v509 =>
 cl g id_icmpmap_said v1.2 [v502, (LV.int .i64 2), (LV.int .i64 0), v509] fun v510 =>
 ex v510 0 fun v511 =>
 ex v510 1 fun v512 =>
 sA 4 v1.2 v1.1 v511 fun v513 =>
 lA 4 v513.2 v1.1 fun v515 =>
 pr.fin none v513.2 [v515, v512])) (
 (pr.parts (LV.agg [(LV.int .i64 0), (LV.int .i64 0), (LV.int .u32 0), (LV.str [])]) []).bind fun v516 =>
 sA 4 v1.2 v1.1 v516 fun v517 =>
 lA 4 v517.2 v1.1 fun v519 =>
 pr.fin none v517.2 [v519, (LV.bool false)]))))) (
 bn .eql v4 (LV.int .i64 15) fun v520 =>
 condK v520 (
 lA 4 v1.2 v0 fun v522 =>
 cl g id_icmpmap_said v1.2 [v522, (LV.int .i64 1), (LV.int .i64 1), (LV.int .i64 0)] fun v523 =>
 ex v523 0 fun v524 =>
 ex v523 1 fun v525 =>
 sA 4 v1.2 v1.1 v524 fun v526 =>
 lA 4 v526.2 v1.1 fun v528 =>
 pr.fin none v526.2 [v528, v525]) (
 bn .eql v4 (LV.int .i64 3) fun v529 =>
 condK v529 (
 lA 4 v1.2 v0 fun v531 =>
 cl g id_icmpmap_said v1.2 [v531, (LV.int .i64 1), (LV.int .i64 4), (LV.int .i64 0)] fun v532 =>
 ex v532 0 fun v533 =>
 ex v532 1 fun v534 =>
 sA 4 v1.2 v1.1 v533 fun v535 =>
 lA 4 v535.2 v1.1 fun v537 =>
 pr.fin none v535.2 [v537, v534]) (
 bn .eql v4 (LV.int .i64 2) fun v538 =>
 condK v538 (
 lA 4 v1.2 v0 fun v540 =>
 cl g id_icmpmap_said v1.2 [v540, (LV.int .i64 4), (LV.int .i64 1), (LV.int .i64 6)] fun v541 =>
 ex v541 0 fun v542 =>
 ex v541 1 fun v543 =>
 sA 4 v1.2 v1.1 v542 fun v544 =>
 lA 4 v544.2 v1.1 fun v546 =>
 pr.fin none v544.2 [v546, v543]) (
 bn .eql v4 (LV.int .i64 4) fun v547 =>
 condK v547 (
 fA 2 2 v0 fun v549 =>
 l1 v1.2 v549 fun v550 =>
 bn .and v550 (LV.int .u32 65535) fun v551 =>
 (pr.conv .i64 v551).bind fun v552 =>
 bn .eql v552 (LV.int .i64 0) fun v555 =>
 condK v555 (
 cl g id_icmpmap_Plateau v1.2 [a3] fun v557 =>
 lA 4 v1.2 v0 fun v559 =>
 bn .add v557 (LV.int .i64 20) fun v561 =>
 bn .add a1 (LV.int .i64 20) fun v564 =>
 (pr.minmax false v561 [a2, v564]).bind fun v565 =>
 (pr.minmax true v565 [(LV.int .i64 1280)]).bind fun v566 =>
 cl g id_icmpmap_said v1.2 [v559, (LV.int .i64 2), (LV.int .i64 0), v566] fun v567 =>
 ex v567 0 fun v568 =>
 ex v567 1 fun v569 =>
 sA 4 v1.2 v1.1 v568 fun v570 =>
 lA 4 v570.2 v1.1 fun v572 =>
 pr.fin none v570.2 [v572, v569]) (
 lA 4 v1.2 v0 fun v573 =>
 bn .add v552 (LV.int .i64 20) fun v575 =>
 bn .add a1 (LV.int .i64 20) fun v578 =>
 (pr.minmax false v575 [a2, v578]).bind fun v579 =>
 (pr.minmax true v579 [(LV.int .i64 1280)]).bind fun v580 =>
 cl g id_icmpmap_said v1.2 [v573, (LV.int .i64 2), (LV.int .i64 0), v580] fun v581 =>
 ex v581 0 fun v582 =>
 ex v581 1 fun v583 =>
 sA 4 v1.2 v1.1 v582 fun v584 =>
 lA 4 v584.2 v1.1 fun v586 =>
 pr.fin none v584.2 [v586, v583])) (
 (pr.parts (LV.agg [(LV.int .i64 0), (LV.int .i64 0), (LV.int .u32 0), (LV.str [])]) []).bind fun v587 =>
 sA 4 v1.2 v1.1 v587 fun v588 =>
 lA 4 v588.2 v1.1 fun v590 =>
 pr.fin none v588.2 [v590, (LV.bool false)]))))))))) (
 bn .eql v4 (LV.int .i64 5) fun v591 =>
 condK v591 (
 condK v591 (
 lA 4 v1.2 v0 fun v593 =>
 cl g id_icmpmap_said v1.2 [v593, (LV.int .i64 1), (LV.int .i64 0), (LV.int .i64 0)] fun v594 =>
 ex v594 0 fun v595 =>
 ex v594 1 fun v596 =>
 sA 4 v1.2 v1.1 v595 fun v597 =>
 lA 4 v597.2 v1.1 fun v599 =>
 pr.fin none v597.2 [v599, v596]) (
 bn .eql v4 (LV.int .i64 9) fun v600 =>
 condK v600 (
 condK v600 (
 lA 4 v1.2 v0 fun v602 =>
 cl g id_icmpmap_said v1.2 [v602, (LV.int .i64 1), (LV.int .i64 1), (LV.int .i64 0)] fun v603 =>
 ex v603 0 fun v604 =>
 ex v603 1 fun v605 =>
 sA 4 v1.2 v1.1 v604 fun v606 =>
 lA 4 v606.2 v1.1 fun v608 =>
 pr.fin none v606.2 [v608, v605]) (
 bn .eql v4 (LV.int .i64 3) fun v609 =>
 condK v609 (
 lA 4 v1.2 v0 fun v611 =>
 cl g id_icmpmap_said v1.2 [v611, (LV.int .i64 1), (LV.int .i64 4), (LV.int .i64 0)] fun v612 =>
 ex v612 0 fun v613 =>
 ex v612 1 fun v614 =>
 sA 4 v1.2 v1.1 v613 fun v615 =>
 lA 4 v615.2 v1.1 fun v617 =>
 pr.fin none v615.2 [v617, v614]) (
 bn .eql v4 (LV.int .i64 2) fun v618 =>
 condK v618 (
 lA 4 v1.2 v0 fun v620 =>
 cl g id_icmpmap_said v1.2 [v620, (LV.int .i64 4), (LV.int .i64 1), (LV.int .i64 6)] fun v621 =>
 ex v621 0 fun v622 =>
 ex v621 1 fun v623 =>
 sA 4 v1.2 v1.1 v622 fun v624 =>
 lA 4 v624.2 v1.1 fun v626 =>
 pr.fin none v624.2 [v626, v623]) (
 bn .eql v4 (LV.int .i64 4) fun v627 =>
 condK v627 (
 fA 2 2 v0 fun v629 =>
 l1 v1.2 v629 fun v630 =>
 bn .and v630 (LV.int .u32 65535) fun v631 =>
 (pr.conv .i64 v631).bind fun v632 =>
 bn .eql v632 (LV.int .i64 0) fun v635 =>
 condK v635 (
 cl g id_icmpmap_Plateau v1.2 [a3] fun v637 =>
 lA 4 v1.2 v0 fun v639 =>
 bn .add v637 (LV.int .i64 20) fun v641 =>
 bn .add a1 (LV.int .i64 20) fun v644 =>
 (pr.minmax false v641 [a2, v644]).bind fun v645 =>
 (pr.minmax true v645 [(LV.int .i64 1280)]).bind fun v646 =>
 cl g id_icmpmap_said v1.2 [v639, (LV.int .i64 2), (LV.int .i64 0), v646] fun v647 =>
 ex v647 0 fun v648 =>
 ex v647 1 fun v649 =>
 sA 4 v1.2 v1.1 v648 fun v650 =>
 lA 4 v650.2 v1.1 fun v652 =>
 pr.fin none v650.2 [v652, v649]) (
 lA 4 v1.2 v0 fun v653 =>
 bn .add v632 (LV.int .i64 20) fun v655 =>
 bn .add a1 (LV.int .i64 20) fun v658 =>
 (pr.minmax false v655 [a2, v658]).bind fun v659 =>
 (pr.minmax true v659 [(LV.int .i64 1280)]).bind fun v660 =>
 cl g id_icmpmap_said v1.2 [v653, (LV.int .i64 2), (LV.int .i64 0), v660] fun v661 =>
 ex v661 0 fun v662 =>
 ex v661 1 fun v663 =>
 sA 4 v1.2 v1.1 v662 fun v664 =>
 lA 4 v664.2 v1.1 fun v666 =>
 pr.fin none v664.2 [v666, v663])) (
 (pr.parts (LV.agg [(LV.int .i64 0), (LV.int .i64 0), (LV.int .u32 0), (LV.str [])]) []).bind fun v667 =>
 sA 4 v1.2 v1.1 v667 fun v668 =>
 lA 4 v668.2 v1.1 fun v670 =>
 pr.fin none v668.2 [v670, (LV.bool false)]))))) (
 bn .eql v4 (LV.int .i64 10) fun v671 =>
 condK v671 (
 condK v671 (
 lA 4 v1.2 v0 fun v673 =>
 cl g id_icmpmap_said v1.2 [v673, (LV.int .i64 1), (LV.int .i64 1), (LV.int .i64 0)] fun v674 =>
 ex v674 0 fun v675 =>
 ex v674 1 fun v676 =>
 sA 4 v1.2 v1.1 v675 fun v677 =>
 lA 4 v677.2 v1.1 fun v679 =>
 pr.fin none v677.2 [v679, v676]) (
 bn .eql v4 (LV.int .i64 3) fun v680 =>
 condK v680 (
 lA 4 v1.2 v0 fun v682 =>
 cl g id_icmpmap_said v1.2 [v682, (LV.int .i64 1), (LV.int .i64 4), (LV.int .i64 0)] fun v683 =>
 ex v683 0 fun v684 =>
 ex v683 1 fun v685 =>
 sA 4 v1.2 v1.1 v684 fun v686 =>
 lA 4 v686.2 v1.1 fun v688 =>
 pr.fin none v686.2 [v688, v685]) (
 bn .eql v4 (LV.int .i64 2) fun v689 =>
 condK v689 (
 lA 4 v1.2 v0 fun v691 =>
 cl g id_icmpmap_said v1.2 [v691, (LV.int .i64 4), (LV.int .i64 1), (LV.int .i64 6)] fun v692 =>
 ex v692 0 fun v693 =>
 ex v692 1 fun v694 =>
 sA 4 v1.2 v1.1 v693 fun v695 =>
 lA 4 v695.2 v1.1 fun v697 =>
 pr.fin none v695.2 [v697, v694]) (
 bn .eql v4 (LV.int .i64 4) fun v698 =>
 condK v698 (
 fA 2 2 v0 fun v700 =>
 l1 v1.2 v700 fun v701 =>
 bn .and v701 (LV.int .u32 65535) fun v702 =>
 (pr.conv .i64 v702).bind fun v703 =>
 bn .eql v703 (LV.int .i64 0) fun v706 =>
 condK v706 (
 cl g id_icmpmap_Plateau v1.2 [a3] fun v708 =>
 lA 4 v1.2 v0 fun v710 =>
 bn .add v708 (LV.int .i64 20) fun v712 =>
 bn .add a1 (LV.int .i64 20) fun v715 =>
 (pr.minmax false v712 [a2, v715]).bind fun v716 =>
 (pr.minmax true v716 [(LV.int .i64 1280)]).bind fun v717 =>
 cl g id_icmpmap_said v1.2 [v710, (LV.int .i64 2), (LV.int .i64 0), v717] fun v718 =>
 ex v718 0 fun v719 =>
 ex v718 1 fun v720 =>
 sA 4 v1.2 v1.1 v719 fun v721 =>
 lA 4 v721.2 v1.1 fun v723 =>
 pr.fin none v721.2 [v723, v720]) (
 lA 4 v1.2 v0 fun v724 =>
 bn .add v703 (LV.int .i64 20) fun v726 =>
 bn .add a1 (LV.int .i64 20) fun v729 =>
 (pr.minmax false v726 [a2, v729]).bind fun v730 =>
 (pr.minmax true v730 [(LV.int .i64 1280)]).bind fun v731 =>
 cl g id_icmpmap_said v1.2 [v724, (LV.int .i64 2), (LV.int .i64 0), v731] fun v732 =>
 ex v732 0 fun v733 =>
 ex v732 1 fun v734 =>
 sA 4 v1.2 v1.1 v733 fun v735 =>
 lA 4 v735.2 v1.1 fun v737 =>
 pr.fin none v735.2 [v737, v734])) (
 (pr.parts (LV.agg [(LV.int .i64 0), (LV.int .i64 0), (LV.int .u32 0), (LV.str [])]) []).bind fun v738 =>
 sA 4 v1.2 v1.1 v738 fun v739 =>
 lA 4 v739.2 v1.1 fun v741 =>
 pr.fin none v739.2 [v741, (LV.bool false)]))))) (
 bn .eql v4 (LV.int .i64 13) fun v742 =>
 condK v742 (
 condK v742 (
 lA 4 v1.2 v0 fun v744 =>
 cl g id_icmpmap_said v1.2 [v744, (LV.int .i64 1), (LV.int .i64 1), (LV.int .i64 0)] fun v745 =>
 ex v745 0 fun v746 =>
 ex v745 1 fun v747 =>
 sA 4 v1.2 v1.1 v746 fun v748 =>
 lA 4 v748.2 v1.1 fun v750 =>
 pr.fin none v748.2 [v750, v747]) (
 bn .eql v4 (LV.int .i64 3) fun v751 =>
 condK v751 (
 lA 4 v1.2 v0 fun v753 =>
 cl g id_icmpmap_said v1.2 [v753, (LV.int .i64 1), (LV.int .i64 4), (LV.int .i64 0)] fun v754 =>
 ex v754 0 fun v755 =>
 ex v754 1 fun v756 =>
 sA 4 v1.2 v1.1 v755 fun v757 =>
 lA 4 v757.2 v1.1 fun v759 =>
 pr.fin none v757.2 [v759, v756]) (
 bn .eql v4 (LV.int .i64 2) fun v760 =>
 condK v760 (
 lA 4 v1.2 v0 fun v762 =>
 cl g id_icmpmap_said v1.2 [v762, (LV.int .i64 4), (LV.int .i64 1), (LV.int .i64 6)] fun v763 =>
 ex v763 0 fun v764 =>
 ex v763 1 fun v765 =>
 sA 4 v1.2 v1.1 v764 fun v766 =>
 lA 4 v766.2 v1.1 fun v768 =>
 pr.fin none v766.2 [v768, v765]) (
 bn .eql v4 (LV.int .i64 4) fun v769 =>
 condK v769 (
 fA 2 2 v0 fun v771 =>
 l1 v1.2 v771 fun v772 =>
 bn .and v772 (LV.int .u32 65535) fun v773 =>
 (pr.conv .i64 v773).bind fun v774 =>
 bn .eql v774 (LV.int .i64 0) fun v777 =>
 condK v777 (
 cl g id_icmpmap_Plateau v1.2 [a3] fun v779 =>
 lA 4 v1.2 v0 fun v781 =>
 bn .add v779 (LV.int .i64 20) fun v783 =>
 bn .add a1 (LV.int .i64 20) fun v786 =>
 (pr.minmax false v783 [a2, v786]).bind fun v787 =>
 (pr.minmax true v787 [(LV.int .i64 1280)]).bind fun v788 =>
 cl g id_icmpmap_said v1.2 [v781, (LV.int .i64 2), (LV.int .i64 0), v788] fun v789 =>
 ex v789 0 fun v790 =>
 ex v789 1 fun v791 =>
 sA 4 v1.2 v1.1 v790 fun v792 =>
 lA 4 v792.2 v1.1 fun v794 =>
 pr.fin none v792.2 [v794, v791]) (
 lA 4 v1.2 v0 fun v795 =>
 bn .add v774 (LV.int .i64 20) fun v797 =>
 bn .add a1 (LV.int .i64 20) fun v800 =>
 (pr.minmax false v797 [a2, v800]).bind fun v801 =>
 (pr.minmax true v801 [(LV.int .i64 1280)]).bind fun v802 =>
 cl g id_icmpmap_said v1.2 [v795, (LV.int .i64 2), (LV.int .i64 0), v802] fun v803 =>
 ex v803 0 fun v804 =>
 ex v803 1 fun v805 =>
 sA 4 v1.2 v1.1 v804 fun v806 =>
 lA 4 v806.2 v1.1 fun v808 =>
 pr.fin none v806.2 [v808, v805])) (
 (pr.parts (LV.agg [(LV.int .i64 0), (LV.int .i64 0), (LV.int .u32 0), (LV.str [])]) []).bind fun v809 =>
 sA 4 v1.2 v1.1 v809 fun v810 =>
 lA 4 v810.2 v1.1 fun v812 =>
 pr.fin none v810.2 [v812, (LV.bool false)]))))) (
 bn .eql v4 (LV.int .i64 15) fun v813 =>
 condK v813 (
 lA 4 v1.2 v0 fun v815 =>
 cl g id_icmpmap_said v1.2 [v815, (LV.int .i64 1), (LV.int .i64 1), (LV.int .i64 0)] fun v816 =>
 ex v816 0 fun v817 =>
 ex v816 1 fun v818 =>
 sA 4 v1.2 v1.1 v817 fun v819 =>
 lA 4 v819.2 v1.1 fun v821 =>
 pr.fin none v819.2 [v821, v818]) (
 bn .eql v4 (LV.int .i64 3) fun v822 =>
 condK v822 (
 lA 4 v1.2 v0 fun v824 =>
 cl g id_icmpmap_said v1.2 [v824, (LV.int .i64 1), (LV.int .i64 4), (LV.int .i64 0)] fun v825 =>
 ex v825 0 fun v826 =>
 ex v825 1 fun v827 =>
 sA 4 v1.2 v1.1 v826 fun v828 =>
 lA 4 v828.2 v1.1 fun v830 =>
 pr.fin none v828.2 [v830, v827]) (
 bn .eql v4 (LV.int .i64 2) fun v831 =>
 condK v831 (
 lA 4 v1.2 v0 fun v833 =>
 cl g id_icmpmap_said v1.2 [v833, (LV.int .i64 4), (LV.int .i64 1), (LV.int .i64 6)] fun v834 =>
 ex v834 0 fun v835 =>
 ex v834 1 fun v836 =>
 sA 4 v1.2 v1.1 v835 fun v837 =>
 lA 4 v837.2 v1.1 fun v839 =>
 pr.fin none v837.2 [v839, v836]) (
 bn .eql v4 (LV.int .i64 4) fun v840 =>
 condK v840 (
 fA 2 2 v0 fun v842 =>
 l1 v1.2 v842 fun v843 =>
 bn .and v843 (LV.int .u32 65535) fun v844 =>
 (pr.conv .i64 v844).bind fun v845 =>
 bn .eql v845 (LV.int .i64 0) fun v848 =>
 condK v848 (
 cl g id_icmpmap_Plateau v1.2 [a3] fun v850 =>
 lA 4 v1.2 v0 fun v852 =>
 bn .add v850 (LV.int .i64 20) fun v854 =>
 bn .add a1 (LV.int .i64 20) fun v857 =>
 (pr.minmax false v854 [a2, v857]).bind fun v858 =>
 (pr.minmax true v858 [(LV.int .i64 1280)]).bind fun v859 =>
 cl g id_icmpmap_said v1.2 [v852, (LV.int .i64 2), (LV.int .i64 0), v859] fun v860 =>
 ex v860 0 fun v861 =>
 ex v860 1 fun v862 =>
 sA 4 v1.2 v1.1 v861 fun v863 =>
 lA 4 v863.2 v1.1 fun v865 =>
 pr.fin none v863.2 [v865, v862]) (
 lA 4 v1.2 v0 fun v866 =>
 bn .add v845 (LV.int .i64 20) fun v868 =>
 bn .add a1 (LV.int .i64 20) fun v871 =>
 (pr.minmax false v868 [a2, v871]).bind fun v872 =>
 (pr.minmax true v872 [(LV.int .i64 1280)]).bind fun v873 =>
 cl g id_icmpmap_said v1.2 [v866, (LV.int .i64 2), (LV.int .i64 0), v873] fun v874 =>
 ex v874 0 fun v875 =>
 ex v874 1 fun v876 =>
 sA 4 v1.2 v1.1 v875 fun v877 =>
 lA 4 v877.2 v1.1 fun v879 =>
 pr.fin none v877.2 [v879, v876])) (
 (pr.parts (LV.agg [(LV.int .i64 0), (LV.int .i64 0), (LV.int .u32 0), (LV.str [])]) []).bind fun v880 =>
 sA 4 v1.2 v1.1 v880 fun v881 =>
 lA 4 v881.2 v1.1 fun v883 =>
 pr.fin none v881.2 [v883, (LV.bool false)]))))))))) (
 bn .eql v4 (LV.int .i64 6) fun v884 =>
 condK v884 (
 condK v884 (
 lA 4 v1.2 v0 fun v886 =>
 cl g id_icmpmap_said v1.2 [v886, (LV.int .i64 1), (LV.int .i64 0), (LV.int .i64 0)] fun v887 =>
 ex v887 0 fun v888 =>
 ex v887 1 fun v889 =>
 sA 4 v1.2 v1.1 v888 fun v890 =>
 lA 4 v890.2 v1.1 fun v892 =>
 pr.fin none v890.2 [v892, v889]) (
 bn .eql v4 (LV.int .i64 9) fun v893 =>
 condK v893 (
 condK v893 (
 lA 4 v1.2 v0 fun v895 =>
 cl g id_icmpmap_said v1.2 [v895, (LV.int .i64 1), (LV.int .i64 1), (LV.int .i64 0)] fun v896 =>
 ex v896 0 fun v897 =>
 ex v896 1 fun v898 =>
 sA 4 v1.2 v1.1 v897 fun v899 =>
 lA 4 v899.2 v1.1 fun v901 =>
 pr.fin none v899.2 [v901, v898]) (
 bn .eql v4 (LV.int .i64 3) fun v902 =>
 condK v902 (
 lA 4 v1.2 v0 fun v904 =>
 cl g id_icmpmap_said v1.2 [v904, (LV.int .i64 1), (LV.int .i64 4), (LV.int .i64 0)] fun v905 =>
 ex v905 0 fun v906 =>
 ex v905 1 fun v907 =>
 sA 4 v1.2 v1.1 v906 fun v908 =>
 lA 4 v908.2 v1.1 fun v910 =>
 pr.fin none v908.2 [v910, v907]) (
 bn .eql v4 (LV.int .i64 2) fun v911 =>
 condK v911 (
 lA 4 v1.2 v0 fun v913 =>
 cl g id_icmpmap_said v1.2 [v913, (LV.int .i64 4), (LV.int .i64 1), (LV.int .i64 6)] fun v914 =>
 ex v914 0 fun v915 =>
 ex v914 1 fun v916 =>
 sA 4 v1.2 v1.1 v915 fun v917 =>
 lA 4 v917.2 v1.1 fun v919 =>
 pr.fin none v917.2 [v919, v916]) (
 bn .eql v4 (LV.int .i64 4) fun v920 =>
 condK v920 (
 fA 2 2 v0 fun v922 =>
 l1 v1.2 v922 fun v923 =>
 bn .and v923 (LV.int .u32 65535) fun v924 =>
 (pr.conv .i64 v924).bind fun v925 =>
 bn .eql v925 (LV.int .i64 0) fun v928 =>
 condK v928 (
 cl g id_icmpmap_Plateau v1.2 [a3] fun v930 =>
 lA 4 v1.2 v0 fun v932 =>
 bn .add v930 (LV.int .i64 20) fun v934 =>
 bn .add a1 (LV.int .i64 20) fun v937 =>
 (pr.minmax false v934 [a2, v937]).bind fun v938 =>
 (pr.minmax true v938 [(LV.int .i64 1280)]).bind fun v939 =>
 cl g id_icmpmap_said v1.2 [v932, (LV.int .i64 2), (LV.int .i64 0), v939] fun v940 =>
 ex v940 0 fun v941 =>
 ex v940 1 fun v942 =>
 sA 4 v1.2 v1.1 v941 fun v943 =>
 lA 4 v943.2 v1.1 fun v945 =>
 pr.fin none v943.2 [v945, v942]) (
 lA 4 v1.2 v0 fun v946 =>
 bn .add v925 (LV.int .i64 20) fun v948 =>
 bn .add a1 (LV.int .i64 20) fun v951 =>
 (pr.minmax false v948 [a2, v951]).bind fun v952 =>
 (pr.minmax true v952 [(LV.int .i64 1280)]).bind fun v953 =>
 cl g id_icmpmap_said v1.2 [v946, (LV.int .i64 2), (LV.int .i64 0), v953] fun v954 =>
 ex v954 0 fun v955 =>
 ex v954 1 fun v956 =>
 sA 4 v1.2 v1.1 v955 fun v957 =>
 lA 4 v957.2 v1.1 fun v959 =>
 pr.fin none v957.2 [v959, v956])) (
 (pr.parts (LV.agg [(LV.int .i64 0), (LV.int .i64 0), (LV.int .u32 0), (LV.str [])]) []).bind fun v960 =>
 sA 4 v1.2 v1.1 v960 fun v961 =>
 lA 4 v961.2 v1.1 fun v963 =>
 pr.fin none v961.2 [v963, (LV.bool false)]))))) (
 bn .eql v4 (LV.int .i64 10) fun v964 =>
 condK v964 (
 condK v964 (
 lA 4 v1.2 v0 fun v966 =>
 cl g id_icmpmap_said v1.2 [v966, (LV.int .i64 1), (LV.int .i64 1), (LV.int .i64 0)] fun v967 =>
 ex v967 0 fun v968 =>
 ex v967 1 fun v969 =>
 sA 4 v1.2 v1.1 v968 fun v970 =>
 lA 4 v970.2 v1.1 fun v972 =>
 pr.fin none v970.2 [v972, v969]) (
 bn .eql v4 (LV.int .i64 3) fun v973 =>
 condK v973 (
 lA 4 v1.2 v0 fun v975 =>
 cl g id_icmpmap_said v1.2 [v975, (LV.int .i64 1), (LV.int .i64 4), (LV.int .i64 0)] fun v976 =>
 ex v976 0 fun v977 =>
 ex v976 1 fun v978 =>
 sA 4 v1.2 v1.1 v977 fun v979 =>
 lA 4 v979.2 v1.1 fun v981 =>
 pr.fin none v979.2 [v981, v978]) (
 bn .eql v4 (LV.int .i64 2) fun v982 =>
 condK v982 (
 lA 4 v1.2 v0 fun v984 =>
 cl g id_icmpmap_said v1.2 [v984, (LV.int .i64 4), (LV.int .i64 1), (LV.int .i64 6)] fun v985 =>
 ex v985 0 fun v986 =>
 ex v985 1 fun v987 =>
 sA 4 v1.2 v1.1 v986 fun v988 =>
 lA 4 v988.2 v1.1 fun v990 =>
 pr.fin none v988.2 [v990, v987]) (
 bn .eql v4 (LV.int .i64 4) fun v991 =>
 condK v991 (
 fA 2 2 v0 fun v993 =>
 l1 v1.2 v993 fun v994 =>
 bn .and v994 (LV.int .u32 65535) fun v995 =>
 (pr.conv .i64 v995).bind fun v996 =>
 bn .eql v996 (LV.int .i64 0) fun v999 =>
 condK v999 (
 cl g id_icmpmap_Plateau v1.2 [a3] fun v1001 =>
 lA 4 v1.2 v0 fun v1003 =>
 bn .add v1001 (LV.int .i64 20) fun v1005 =>
 bn .add a1 (LV.int .i64 20) fun v1008 =>
 (pr.minmax false v1005 [a2, v1008]).bind fun v1009 =>
 (pr.minmax true v1009 [(LV.int .i64 1280)]).bind fun v1010 =>
 cl g id_icmpmap_said v1.2 [v1003, (LV.int .i64 2), (LV.int .i64 0), v1010] fun v1011 =>
 ex v1011 0 fun v1012 =>
 ex v1011 1 fun v1013 =>
 sA 4 v1.2 v1.1 v1012 fun v1014 =>
 lA 4 v1014.2 v1.1 fun v1016 =>
 pr.fin none v1014.2 [v1016, v1013]) (
 lA 4 v1.2 v0 fun v1017 =>
 bn .add v996 (LV.int .i64 20) fun v1019 =>
 bn .add a1 (LV.int .i64 20) fun v1022 =>
 (pr.minmax false v1019 [a2, v1022]).bind fun v1023 =>
 (pr.minmax true v1023 [(LV.int .i64 1280)]).bind fun v1024 =>
 cl g id_icmpmap_said v1.2 [v1017, (LV.int .i64 2), (LV.int .i64 0), v1024] fun v1025 =>
 ex v1025 0 fun v1026 =>
 ex v1025 1 fun v1027 =>
 sA 4 v1.2 v1.1 v1026 fun v1028 =>
 lA 4 v1028.2 v1.1 fun v1030 =>
 pr.fin none v1028.2 [v1030, v1027])) (
 (pr.parts (LV.agg [(LV.int .i64 0), (LV.int .i64 0), (LV.int .u32 0), (LV.str [])]) []).bind fun v1031 =>
 sA 4 v1.2 v1.1 v1031 fun v1032 =>
 lA 4 v1032.2 v1.1 fun v1034 =>
 pr.fin none v1032.2 [v1034, (LV.bool false)]))))) (
 bn .eql v4 (LV.int .i64 13) fun v1035 =>
 condK v1035 (
 condK v1035 (
 lA 4 v1.2 v0 fun v1037 =>
 cl g id_icmpmap_said v1.2 [v1037, (LV.int .i64 1), (LV.int .i64 1), (LV.int .i64 0)] fun v1038 =>
 ex v1038 0 fun v1039 =>
 ex v1038 1 fun v1040 =>
 sA 4 v1.2 v1.1 v1039 fun v1041 =>
 lA 4 v1041.2 v1.1 fun v1043 =>
 pr.fin none v1041.2 [v1043, v1040]) (
 bn .eql v4 (LV.int .i64 3) fun v1044 =>
 condK v1044 (
 lA 4 v1.2 v0 fun v1046 =>
 cl g id_icmpmap_said v1.2 [v1046, (LV.int .i64 1), (LV.int .i64 4), (LV.int .i64 0)] fun v1047 =>
 ex v1047 0 fun v1048 =>
 ex v1047 1 fun v1049 =>
 sA 4 v1.2 v1.1 v1048 fun v1050 =>
 lA 4 v1050.2 v1.1 fun v1052 =>
 pr.fin none v1050.2 [v1052, v1049]) (
 bn .eql v4 (LV.int .i64 2) fun v1053 =>
 condK v1053 (
 lA 4 v1.2 v0 fun v1055 =>
 cl g id_icmpmap_said v1.2 [v1055, (LV.int .i64 4), (LV.int .i64 1), (LV.int .i64 6)] fun v1056 =>
 ex v1056 0 fun v1057 =>
 ex v1056 1 fun v1058 =>
 sA 4 v1.2 v1.1 v1057 fun v1059 =>
 lA 4 v1059.2 v1.1 fun v1061 =>
 pr.fin none v1059.2 [v1061, v1058]) (
 bn .eql v4 (LV.int .i64 4) fun v1062 =>
 condK v1062 (
 fA 2 2 v0 fun v1064 =>
 l1 v1.2 v1064 fun v1065 =>
 bn .and v1065 (LV.int .u32 65535) fun v1066 =>
 (pr.conv .i64 v1066).bind fun v1067 =>
 bn .eql v1067 (LV.int .i64 0) fun v1070 =>
 condK v1070 (
 cl g id_icmpmap_Plateau v1.2 [a3] fun v1072 =>
 lA 4 v1.2 v0 fun v1074 =>
 bn .add v1072 (LV.int .i64 20) fun v1076 =>
 bn .add a1 (LV.int .i64 20) fun v1079 =>
 (pr.minmax false v1076 [a2, v1079]).bind fun v1080 =>
 (pr.minmax true v1080 [(LV.int .i64 1280)]).bind fun v1081 =>
 cl g id_icmpmap_said v1.2 [v1074, (LV.int .i64 2), (LV.int .i64 0), v1081] fun v1082 =>
 ex v1082 0 fun v1083 =>
 ex v1082 1 fun v1084 =>
 sA 4 v1.2 v1.1 v1083 fun v1085 =>
 lA 4 v1085.2 v1.1 fun v1087 =>
 pr.fin none v1085.2 [v1087, v1084]) (
 lA 4 v1.2 v0 fun v1088 =>
 bn .add v1067 (LV.int .i64 20) fun v1090 =>
 bn .add a1 (LV.int .i64 20) fun v1093 =>
 (pr.minmax false v1090 [a2, v1093]).bind fun v1094 =>
 (pr.minmax true v1094 [(LV.int .i64 1280)]).bind fun v1095 =>
 cl g id_icmpmap_said v1.2 [v1088, (LV.int .i64 2), (LV.int .i64 0), v1095] fun v1096 =>
 ex v1096 0 fun v1097 =>
 ex v1096 1 fun v1098 =>
 sA 4 v1.2 v1.1 v1097 fun v1099 =>
 lA 4 v1099.2 v1.1 fun v1101 =>
 pr.fin none v1099.2 [v1101, v1098])) (
 (pr.parts (LV.agg [(LV.int .i64 0), (LV.int .i64 0), (LV.int .u32 0), (LV.str [])]) []).bind fun v1102 =>
 sA 4 v1.2 v1.1 v1102 fun v1103 =>
 lA 4 v1103.2 v1.1 fun v1105 =>
 pr.fin none v1103.2 [v1105, (LV.bool false)]))))) (
 bn .eql v4 (LV.int .i64 15) fun v1106 =>
 condK v1106 (
 lA 4 v1.2 v0 fun v1108 =>
 cl g id_icmpmap_said v1.2 [v1108, (LV.int .i64 1), (LV.int .i64 1), (LV.int .i64 0)] fun v1109 =>
 ex v1109 0 fun v1110 =>
 ex v1109 1 fun v1111 =>
 sA 4 v1.2 v1.1 v1110 fun v1112 =>
 lA 4 v1112.2 v1.1 fun v1114 =>
 pr.fin none v1112.2 [v1114, v1111]) (
 bn .eql v4 (LV.int .i64 3) fun v1115 =>
 condK v1115 (
 lA 4 v1.2 v0 fun v1117 =>
 cl g id_icmpmap_said v1.2 [v1117, (LV.int .i64 1), (LV.int .i64 4), (LV.int .i64 0)] fun v1118 =>
 ex v1118 0 fun v1119 =>
 ex v1118 1 fun v1120 =>
 sA 4 v1.2 v1.1 v1119 fun v1121 =>
 lA 4 v1121.2 v1.1 fun v1123 =>
 pr.fin none v1121.2 [v1123, v1120]) (
 bn .eql v4 (LV.int .i64 2) fun v1124 =>
 condK v1124 (
 lA 4 v1.2 v0 fun v1126 =>
 cl g id_icmpmap_said v1.2 [v1126, (LV.int .i64 4), (LV.int .i64 1), (LV.int .i64 6)] fun v1127 =>
 ex v1127 0 fun v1128 =>
 ex v1127 1 fun v1129 =>
 sA 4 v1.2 v1.1 v1128 fun v1130 =>
 lA 4 v1130.2 v1.1 fun v1132 =>
 pr.fin none v1130.2 [v1132, v1129]) (
 bn .eql v4 (LV.int .i64 4) fun v1133 =>
 condK v1133 (
 fA 2 2 v0 fun v1135 =>
 l1 v1.2 v1135 fun v1136 =>
 bn .and v1136 (LV.int .u32 65535) fun v1137 =>
 (pr.conv .i64 v1137).bind fun v1138 =>
 bn .eql v1138 (LV.int .i64 0) fun v1141 =>
 condK v1141 (
 cl g id_icmpmap_Plateau v1.2 [a3] fun v1143 =>
 lA 4 v1.2 v0 fun v1145 =>
 bn .add v1143 (LV.int .i64 20) fun v1147 =>
 bn .add a1 (LV.int .i64 20) fun v1150 =>
 (pr.minmax false v1147 [a2, v1150]).bind fun v1151 =>
 (pr.minmax true v1151 [(LV.int .i64 1280)]).bind fun v1152 =>
 cl g id_icmpmap_said v1.2 [v1145, (LV.int .i64 2), (LV.int .i64 0), v1152] fun v1153 =>
 ex v1153 0 fun v1154 =>
 ex v1153 1 fun v1155 =>
 sA 4 v1.2 v1.1 v1154 fun v1156 =>
 lA 4 v1156.2 v1.1 fun v1158 =>
 pr.fin none v1156.2 [v1158, v1155]) (
 lA 4 v1.2 v0 fun v1159 =>
 bn .add v1138 (LV.int .i64 20) fun v1161 =>
 bn .add a1 (LV.int .i64 20) fun v1164 =>
 (pr.minmax false v1161 [a2, v1164]).bind fun v1165 =>
 (pr.minmax true v1165 [(LV.int .i64 1280)]).bind fun v1166 =>
 cl g id_icmpmap_said v1.2 [v1159, (LV.int .i64 2), (LV.int .i64 0), v1166] fun v1167 =>
 ex v1167 0 fun v1168 =>
 ex v1167 1 fun v1169 =>
 sA 4 v1.2 v1.1 v1168 fun v1170 =>
 lA 4 v1170.2 v1.1 fun v1172 =>
 pr.fin none v1170.2 [v1172, v1169])) (
 (pr.parts (LV.agg [(LV.int .i64 0), (LV.int .i64 0), (LV.int .u32 0), (LV.str [])]) []).bind fun v1173 =>
 sA 4 v1.2 v1.1 v1173 fun v1174 =>
 lA 4 v1174.2 v1.1 fun v1176 =>
 pr.fin none v1174.2 [v1176, (LV.bool false)]))))))))) (
 bn .eql v4 (LV.int .i64 7) fun v1177 =>
 condK v1177 (
 condK v1177 (
 lA 4 v1.2 v0 fun v1179 =>
 cl g id_icmpmap_said v1.2 [v1179, (LV.int .i64 1), (LV.int .i64 0), (LV.int .i64 0)] fun v1180 =>
 ex v1180 0 fun v1181 =>
 ex v1180 1 fun v1182 =>
 sA 4 v1.2 v1.1 v1181 fun v1183 =>
 lA 4 v1183.2 v1.1 fun v1185 =>
 pr.fin none v1183.2 [v1185, v1182]) (
 bn .eql v4 (LV.int .i64 9) fun v1186 =>
 condK v1186 (
 condK v1186 (
 lA 4 v1.2 v0 fun v1188 =>
 cl g id_icmpmap_said v1.2 [v1188, (LV.int .i64 1), (LV.int .i64 1), (LV.int .i64 0)] fun v1189 =>
 ex v1189 0 fun v1190 =>
 ex v1189 1 fun v1191 =>
 sA 4 v1.2 v1.1 v1190 fun v1192 =>
 lA 4 v1192.2 v1.1 fun v1194 =>
 pr.fin none v1192.2 [v1194, v1191]) (
 bn .eql v4 (LV.int .i64 3) fun v1195 =>
 condK v1195 (
 lA 4 v1.2 v0 fun v1197 =>
 cl g id_icmpmap_said v1.2 [v1197, (LV.int .i64 1), (LV.int .i64 4), (LV.int .i64 0)] fun v1198 =>
 ex v1198 0 fun v1199 =>
 ex v1198 1 fun v1200 =>
 sA 4 v1.2 v1.1 v1199 fun v1201 =>
 lA 4 v1201.2 v1.1 fun v1203 =>
 pr.fin none v1201.2 [v1203, v1200]) (
 bn .eql v4 (LV.int .i64 2) fun v1204 =>
 condK v1204 (
 lA 4 v1.2 v0 fun v1206 =>
 cl g id_icmpmap_said v1.2 [v1206, (LV.int .i64 4), (LV.int .i64 1), (LV.int .i64 6)] fun v1207 =>
 ex v1207 0 fun v1208 =>
 ex v1207 1 fun v1209 =>
 sA 4 v1.2 v1.1 v1208 fun v1210 =>
 lA 4 v1210.2 v1.1 fun v1212 =>
 pr.fin none v1210.2 [v1212, v1209]) (
 bn .eql v4 (LV.int .i64 4) fun v1213 =>
 condK v1213 (
 fA 2 2 v0 fun v1215 =>
 l1 v1.2 v1215 fun v1216 =>
 bn .and v1216 (LV.int .u32 65535) fun v1217 =>
 (pr.conv .i64 v1217).bind fun v1218 =>
 bn .eql v1218 (LV.int .i64 0) fun v1221 =>
 condK v1221 (
 cl g id_icmpmap_Plateau v1.2 [a3] fun v1223 =>
 lA 4 v1.2 v0 fun v1225 =>
 bn .add v1223 (LV.int .i64 20) fun v1227 =>
 bn .add a1 (LV.int .i64 20) fun v1230 =>
 (pr.minmax false v1227 [a2, v1230]).bind fun v1231 =>
 (pr.minmax true v1231 [(LV.int .i64 1280)]).bind fun v1232 =>
 cl g id_icmpmap_said v1.2 [v1225, (LV.int .i64 2), (LV.int .i64 0), v1232] fun v1233 =>
 ex v1233 0 fun v1234 =>
 ex v1233 1 fun v1235 =>
 sA 4 v1.2 v1.1 v1234 fun v1236 =>
 lA 4 v1236.2 v1.1 fun v1238 =>
 pr.fin none v1236.2 [v1238, v1235]) (
 lA 4 v1.2 v0 fun v1239 =>
 bn .add v1218 (LV.int .i64 20) fun v1241 =>
 bn .add a1 (LV.int .i64 20) fun v1244 =>
 (pr.minmax false v1241 [a2, v1244]).bind fun v1245 =>
 (pr.minmax true v1245 [(LV.int .i64 1280)]).bind fun v1246 =>
 cl g id_icmpmap_said v1.2 [v1239, (LV.int .i64 2), (LV.int .i64 0), v1246] fun v1247 =>
 ex v1247 0 fun v1248 =>
 ex v1247 1 fun v1249 =>
 sA 4 v1.2 v1.1 v1248 fun v1250 =>
 lA 4 v1250.2 v1.1 fun v1252 =>
 pr.fin none v1250.2 [v1252, v1249])) (
 (pr.parts (LV.agg [(LV.int .i64 0), (LV.int .i64 0), (LV.int .u32 0), (LV.str [])]) []).bind fun v1253 =>
 sA 4 v1.2 v1.1 v1253 fun v1254 =>
 lA 4 v1254.2 v1.1 fun v1256 =>
 pr.fin none v1254.2 [v1256, (LV.bool false)]))))) (
 bn .eql v4 (LV.int .i64 10) fun v1257 =>
 condK v1257 (
 condK v1257 (
 lA 4 v1.2 v0 fun v1259 =>
 cl g id_icmpmap_said v1.2 [v1259, (LV.int .i64 1), (LV.int .i64 1), (LV.int .i64 0)] fun v1260 =>
 ex v1260 0 fun v1261 =>
 ex v1260 1 fun v1262 =>
 sA 4 v1.2 v1.1 v1261 fun v1263 =>
 lA 4 v1263.2 v1.1 fun v1265 =>
 pr.fin none v1263.2 [v1265, v1262]) (
 bn .eql v4 (LV.int .i64 3) fun v1266 =>
 condK v1266 (
 lA 4 v1.2 v0 fun v1268 =>
 cl g id_icmpmap_said v1.2 [v1268, (LV.int .i64 1), (LV.int .i64 4), (LV.int .i64 0)] fun v1269 =>
 ex v1269 0 fun v1270 =>
 ex v1269 1 fun v1271 =>
 sA 4 v1.2 v1.1 v1270 fun v1272 =>
 lA 4 v1272.2 v1.1 fun v1274 =>
 pr.fin none v1272.2 [v1274, v1271]) (
 bn .eql v4 (LV.int .i64 2) fun v1275 =>
 condK v1275 (
 lA 4 v1.2 v0 fun v1277 =>
 cl g id_icmpmap_said v1.2 [v1277, (LV.int .i64 4), (LV.int .i64 1), (LV.int .i64 6)] fun v1278 =>
 ex v1278 0 fun v1279 =>
 ex v1278 1 fun v1280 =>
 sA 4 v1.2 v1.1 v1279 fun v1281 =>
 lA 4 v1281.2 v1.1 fun v1283 =>
 pr.fin none v1281.2 [v1283, v1280]) (
 bn .eql v4 (LV.int .i64 4) fun v1284 =>
 condK v1284 (
 fA 2 2 v0 fun v1286 =>
 l1 v1.2 v1286 fun v1287 =>
 bn .and v1287 (LV.int .u32 65535) fun v1288 =>
 (pr.conv .i64 v1288).bind fun v1289 =>
 bn .eql v1289 (LV.int .i64 0) fun v1292 =>
 condK v1292 (
 cl g id_icmpmap_Plateau v1.2 [a3] fun v1294 =>
 lA 4 v1.2 v0 fun v1296 =>
 bn .add v1294 (LV.int .i64 20) fun v1298 =>
 bn .add a1 (LV.int .i64 20) fun v1301 =>
 (pr.minmax false v1298 [a2, v1301]).bind fun v1302 =>
 (pr.minmax true v1302 [(LV.int .i64 1280)]).bind fun v1303 =>
 cl g id_icmpmap_said v1.2 [v1296, (LV.int .i64 2), (LV.int .i64 0), v1303] fun v1304 =>
 ex v1304 0 fun v1305 =>
 ex v1304 1 fun v1306 =>
 sA 4 v1.2 v1.1 v1305 fun v1307 =>
 lA 4 v1307.2 v1.1 fun v1309 =>
 pr.fin none v1307.2 [v1309, v1306]) (
 lA 4 v1.2 v0 fun v1310 =>
 bn .add v1289 (LV.int .i64 20) fun v1312 =>
 bn .add a1 (LV.int .i64 20) fun v1315 =>
 (pr.minmax false v1312 [a2, v1315]).bind fun v1316 =>
 (pr.minmax true v1316 [(LV.int .i64 1280)]).bind fun v1317 =>
 cl g id_icmpmap_said v1.2 [v1310, (LV.int .i64 2), (LV.int .i64 0), v1317] fun v1318 =>
 ex v1318 0 fun v1319 =>
 ex v1318 1 fun v1320 =>
 sA 4 v1.2 v1.1 v1319 fun v1321 =>
 lA 4 v1321.2 v1.1 fun v1323 =>
 pr.fin none v1321.2 [v1323, v1320])) (
 (pr.parts (LV.agg [(LV.int .i64 0), (LV.int .i64 0), (LV.int .u32 0), (LV.str [])]) []).bind fun v1324 =>
 sA 4 v1.2 v1.1 v1324 fun v1325 =>
 lA 4 v1325.2 v1.1 fun v1327 =>
 pr.fin none v1325.2 [v1327, (LV.bool false)]))))) (
 bn .eql v4 (LV.int .i64 13) fun v1328 =>
 condK v1328 (
 condK v1328 (
 lA 4 v1.2 v0 fun v1330 =>
 cl g id_icmpmap_said v1.2 [v1330, (LV.int .i64 1), (LV.int .i64 1), (LV.int .i64 0)] fun v1331 =>
 ex v1331 0 fun v1332 =>
 ex v1331 1 fun v1333 =>
 sA 4 v1.2 v1.1 v1332 fun v1334 =>
 lA 4 v1334.2 v1.1 fun v1336 =>
 pr.fin none v1334.2 [v1336, v1333]) (
 bn .eql v4 (LV.int .i64 3) fun v1337 =>
 condK v1337 (
 lA 4 v1.2 v0 fun v1339 =>
 cl g id_icmpmap_said v1.2 [v1339, (LV.int .i64 1), (LV.int .i64 4), (LV.int .i64 0)] fun v1340 =>
 ex v1340 0 fun v1341 =>
 ex v1340 1 fun v1342 =>
 sA 4 v1.2 v1.1 v1341 fun v1343 =>
 lA 4 v1343.2 v1.1 fun v1345 =>
 pr.fin none v1343.2 [v1345, v1342]) (
 bn .eql v4 (LV.int .i64 2) fun v1346 =>
 condK v1346 (
 lA 4 v1.2 v0 fun v1348 =>
 cl g id_icmpmap_said v1.2 [v1348, (LV.int .i64 4), (LV.int .i64 1), (LV.int .i64 6)] fun v1349 =>
 ex v1349 0 fun v1350 =>
 ex v1349 1 fun v1351 =>
 sA 4 v1.2 v1.1 v1350 fun v1352 =>
 lA 4 v1352.2 v1.1 fun v1354 =>
 pr.fin none v1352.2 [v1354, v1351]) (
 bn .eql v4 (LV.int .i64 4) fun v1355 =>
 condK v1355 (
 fA 2 2 v0 fun v1357 =>
 l1 v1.2 v1357 fun v1358 =>
 bn .and v1358 (LV.int .u32 65535) fun v1359 =>
 (pr.conv .i64 v1359).bind fun v1360 =>
 bn .eql v1360 (LV.int .i64 0) fun v1363 =>
 condK v1363 (
 cl g id_icmpmap_Plateau v1.2 [a3] fun v1365 =>
 lA 4 v1.2 v0 fun v1367 =>
 bn .add v1365 (LV.int .i64 20) fun v1369 =>
 bn .add a1 (LV.int .i64 20) fun v1372 =>
 (pr.minmax false v1369 [a2, v1372]).bind fun v1373 =>
 (pr.minmax true v1373 [(LV.int .i64 1280)]).bind fun v1374 =>
 cl g id_icmpmap_said v1.2 [v1367, (LV.int .i64 2), (LV.int .i64 0), v1374] fun v1375 =>
 ex v1375 0 fun v1376 =>
 ex v1375 1 fun v1377 =>
 sA 4 v1.2 v1.1 v1376 fun v1378 =>
 lA 4 v1378.2 v1.1 fun v1380 =>
 pr.fin none v1378.2 [v1380, v1377]) (
 lA 4 v1.2 v0 fun v1381 =>
 bn .add v1360 (LV.int .i64 20) fun v1383 =>
 bn .add a1 (LV.int .i64 20) fun v1386 =>
 (pr.minmax false v1383 [a2, v1386]).bind fun v1387 =>
 (pr.minmax true v1387 [(LV.int .i64 1280)]).bind fun v1388 =>
 cl g id_icmpmap_said v1.2 [v1381, (LV.int .i64 2), (LV.int .i64 0), v1388] fun v1389 =>
 ex v1389 0 fun v1390 =>
 ex v1389 1 fun v1391 =>
 sA 4 v1.2 v1.1 v1390 fun v1392 =>
 lA 4 v1392.2 v1.1 fun v1394 =>
 pr.fin none v1392.2 [v1394, v1391])) (
 (pr.parts (LV.agg [(LV.int .i64 0), (LV.int .i64 0), (LV.int .u32 0), (LV.str [])]) []).bind fun v1395 =>
 sA 4 v1.2 v1.1 v1395 fun v1396 =>
 lA 4 v1396.2 v1.1 fun v1398 =>
 pr.fin none v1396.2 [v1398, (LV.bool false)]))))) (
 bn .eql v4 (LV.int .i64 15) fun v1399 =>
 condK v1399 (
 lA 4 v1.2 v0 fun v1401 =>
 cl g id_icmpmap_said v1.2 [v1401, (LV.int .i64 1), (LV.int .i64 1), (LV.int .i64 0)] fun v1402 =>
 ex v1402 0 fun v1403 =>
 ex v1402 1 fun v1404 =>
 sA 4 v1.2 v1.1 v1403 fun v1405 =>
 lA 4 v1405.2 v1.1 fun v1407 =>
 pr.fin none v1405.2 [v1407, v1404]) (
 bn .eql v4 (LV.int .i64 3) fun v1408 =>
 condK v1408 (
 lA 4 v1.2 v0 fun v1410 =>
 cl g id_icmpmap_said v1.2 [v1410, (LV.int .i64 1), (LV.int .i64 4), (LV.int .i64 0)] fun v1411 =>
 ex v1411 0 fun v1412 =>
 ex v1411 1 fun v1413 =>
 sA 4 v1.2 v1.1 v1412 fun v1414 =>
 lA 4 v1414.2 v1.1 fun v1416 =>
 pr.fin none v1414.2 [v1416, v1413]) (
 bn .eql v4 (LV.int .i64 2) fun v1417 =>
 condK v1417 (
 lA 4 v1.2 v0 fun v1419 =>
 cl g id_icmpmap_said v1.2 [v1419, (LV.int .i64 4), (LV.int .i64 1), (LV.int .i64 6)] fun v1420 =>
 ex v1420 0 fun v1421 =>
 ex v1420 1 fun v1422 =>
 sA 4 v1.2 v1.1 v1421 fun v1423 =>
 lA 4 v1423.2 v1.1 fun v1425 =>
 pr.fin none v1423.2 [v1425, v1422]) (
 bn .eql v4 (LV.int .i64 4) fun v1426 =>
 condK v1426 (
 fA 2 2 v0 fun v1428 =>
 l1 v1.2 v1428 fun v1429 =>
 bn .and v1429 (LV.int .u32 65535) fun v1430 =>
 (pr.conv .i64 v1430).bind fun v1431 =>
 bn .eql v1431 (LV.int .i64 0) fun v1434 =>
 condK v1434 (
 cl g id_icmpmap_Plateau v1.2 [a3] fun v1436 =>
 lA 4 v1.2 v0 fun v1438 =>
 bn .add v1436 (LV.int .i64 20) fun v1440 =>
 bn .add a1 (LV.int .i64 20) fun v1443 =>
 (pr.minmax false v1440 [a2, v1443]).bind fun v1444 =>
 (pr.minmax true v1444 [(LV.int .i64 1280)]).bind fun v1445 =>
 cl g id_icmpmap_said v1.2 [v1438, (LV.int .i64 2), (LV.int .i64 0), v1445] fun v1446 =>
 ex v1446 0 fun v1447 =>
 ex v1446 1 fun v1448 =>
 sA 4 v1.2 v1.1 v1447 fun v1449 =>
 lA 4 v1449.2 v1.1 fun v1451 =>
 pr.fin none v1449.2 [v1451, v1448]) (
 lA 4 v1.2 v0 fun v1452 =>
 bn .add v1431 (LV.int .i64 20) fun v1454 =>
 bn .add a1 (LV.int .i64 20) fun v1457 =>
 (pr.minmax false v1454 [a2, v1457]).bind fun v1458 =>
 (pr.minmax true v1458 [(LV.int .i64 1280)]).bind fun v1459 =>
 cl g id_icmpmap_said v1.2 [v1452, (LV.int .i64 2), (LV.int .i64 0), v1459] fun v1460 =>
 ex v1460 0 fun v1461 =>
 ex v1460 1 fun v1462 =>
 sA 4 v1.2 v1.1 v1461 fun v1463 =>
 lA 4 v1463.2 v1.1 fun v1465 =>
 pr.fin none v1463.2 [v1465, v1462])) (
 (pr.parts (LV.agg [(LV.int .i64 0), (LV.int .i64 0), (LV.int .u32 0), (LV.str [])]) []).bind fun v1466 =>
 sA 4 v1.2 v1.1 v1466 fun v1467 =>
 lA 4 v1467.2 v1.1 fun v1469 =>
 pr.fin none v1467.2 [v1469, (LV.bool false)]))))))))) (
 bn .eql v4 (LV.int .i64 8) fun v1470 =>
 condK v1470 (
 condK v1470 (
 lA 4 v1.2 v0 fun v1472 =>
 cl g id_icmpmap_said v1.2 [v1472, (LV.int .i64 1), (LV.int .i64 0), (LV.int .i64 0)] fun v1473 =>
 ex v1473 0 fun v1474 =>
 ex v1473 1 fun v1475 =>
 sA 4 v1.2 v1.1 v1474 fun v1476 =>
 lA 4 v1476.2 v1.1 fun v1478 =>
 pr.fin none v1476.2 [v1478, v1475]) (
 bn .eql v4 (LV.int .i64 9) fun v1479 =>
 condK v1479 (
 condK v1479 (
 lA 4 v1.2 v0 fun v1481 =>
 cl g id_icmpmap_said v1.2 [v1481, (LV.int .i64 1), (LV.int .i64 1), (LV.int .i64 0)] fun v1482 =>
 ex v1482 0 fun v1483 =>
 ex v1482 1 fun v1484 =>
 sA 4 v1.2 v1.1 v1483 fun v1485 =>
 lA 4 v1485.2 v1.1 fun v1487 =>
 pr.fin none v1485.2 [v1487, v1484]) (
 bn .eql v4 (LV.int .i64 3) fun v1488 =>
 condK v1488 (
 lA 4 v1.2 v0 fun v1490 =>
 cl g id_icmpmap_said v1.2 [v1490, (LV.int .i64 1), (LV.int .i64 4), (LV.int .i64 0)] fun v1491 =>
 ex v1491 0 fun v1492 =>
 ex v1491 1 fun v1493 =>
 sA 4 v1.2 v1.1 v1492 fun v1494 =>
 lA 4 v1494.2 v1.1 fun v1496 =>
 pr.fin none v1494.2 [v1496, v1493]) (
 bn .eql v4 (LV.int .i64 2) fun v1497 =>
 condK v1497 (
 lA 4 v1.2 v0 fun v1499 =>
 cl g id_icmpmap_said v1.2 [v1499, (LV.int .i64 4), (LV.int .i64 1), (LV.int .i64 6)] fun v1500 =>
 ex v1500 0 fun v1501 =>
 ex v1500 1 fun v1502 =>
 sA 4 v1.2 v1.1 v1501 fun v1503 =>
 lA 4 v1503.2 v1.1 fun v1505 =>
 pr.fin none v1503.2 [v1505, v1502]) (
 bn .eql v4 (LV.int .i64 4) fun v1506 =>
 condK v1506 (
 fA 2 2 v0 fun v1508 =>
 l1 v1.2 v1508 fun v1509 =>
 bn .and v1509 (LV.int .u32 65535) fun v1510 =>
 (pr.conv .i64 v1510).bind fun v1511 =>
 bn .eql v1511 (LV.int .i64 0) fun v1514 =>
 condK v1514 (
 cl g id_icmpmap_Plateau v1.2 [a3] fun v1516 =>
 lA 4 v1.2 v0 fun v1518 =>
 bn .add v1516 (LV.int .i64 20) fun v1520 =>
 bn .add a1 (LV.int .i64 20) fun v1523 =>
 (pr.minmax false v1520 [a2, v1523]).bind fun v1524 =>
 (pr.minmax true v1524 [(LV.int .i64 1280)]).bind fun v1525 =>
 cl g id_icmpmap_said v1.2 [v1518, (LV.int .i64 2), (LV.int .i64 0), v1525] fun v1526 =>
 ex v1526 0 fun v1527 =>
 ex v1526 1 fun v1528 =>
 sA 4 v1.2 v1.1 v1527 fun v1529 =>
 lA 4 v1529.2 v1.1 fun v1531 =>
 pr.fin none v1529.2 [v1531, v1528]) (
 lA 4 v1.2 v0 fun v1532 =>
 bn .add v1511 (LV.int .i64 20) fun v1534 =>
 bn .add a1 (LV.int .i64 20) fun v1537 =>
 (pr.minmax false v1534 [a2, v1537]).bind fun v1538 =>
 (pr.minmax true v1538 [(LV.int .i64 1280)]).bind fun v1539 =>
 cl g id_icmpmap_said v1.2 [v1532, (LV.int .i64 2), (LV.int .i64 0), v1539] fun v1540 =>
 ex v1540 0 fun v1541 =>
 ex v1540 1 fun v1542 =>
 sA 4 v1.2 v1.1 v1541 fun v1543 =>
 lA 4 v1543.2 v1.1 fun v1545 =>
 pr.fin none v1543.2 [v1545, v1542])) (
 (pr.parts (LV.agg [(LV.int .i64 0), (LV.int .i64 0), (LV.int .u32 0), (LV.str [])]) []).bind fun v1546 =>
 sA 4 v1.2 v1.1 v1546 fun v1547 =>
 lA 4 v1547.2 v1.1 fun v1549 =>
 pr.fin none v1547.2 [v1549, (LV.bool false)]))))) (
 bn .eql v4 (LV.int .i64 10) fun v1550 =>
 condK v1550 (
 condK v1550 (
 lA 4 v1.2 v0 fun v1552 =>
 cl g id_icmpmap_said v1.2 [v1552, (LV.int .i64 1), (LV.int .i64 1), (LV.int .i64 0)] fun v1553 =>
 ex v1553 0 fun v1554 =>
 ex v1553 1 fun v1555 =>
 sA 4 v1.2 v1.1 v1554 fun v1556 =>
 lA 4 v1556.2 v1.1 fun v1558 =>
 pr.fin none v1556.2 [v1558, v1555]) (
 bn .eql v4 (LV.int .i64 3) fun v1559 =>
 condK v1559 (
 lA 4 v1.2 v0 fun v1561 =>
 cl g id_icmpmap_said v1.2 [v1561, (LV.int .i64 1), (LV.int .i64 4), (LV.int .i64 0)] fun v1562 =>
 ex v1562 0 fun v1563 =>
 ex v1562 1 fun v1564 =>
 sA 4 v1.2 v1.1 v1563 fun v1565 =>
 lA 4 v1565.2 v1.1 fun v1567 =>
 pr.fin none v1565.2 [v1567, v1564]) (
 bn .eql v4 (LV.int .i64 2) fun v1568 =>
 condK v1568 (
 lA 4 v1.2 v0 fun v1570 =>
 cl g id_icmpmap_said v1.2 [v1570, (LV.int .i64 4), (LV.int .i64 1), (LV.int .i64 6)] fun v1571 =>
 ex v1571 0 fun v1572 =>
 ex v1571 1 fun v1573 =>
 sA 4 v1.2 v1.1 v1572 fun v1574 =>
 lA 4 v1574.2 v1.1 fun v1576 =>
 pr.fin none v1574.2 [v1576, v1573]) (
 bn .eql v4 (LV.int .i64 4) fun v1577 =>
 condK v1577 (
 fA 2 2 v0 fun v1579 =>
 l1 v1.2 v1579 fun v1580 =>
 bn .and v1580 (LV.int .u32 65535) fun v1581 =>
 (pr.conv .i64 v1581).bind fun v1582 =>
 bn .eql v1582 (LV.int .i64 0) fun v1585 =>
 condK v1585 (
 cl g id_icmpmap_Plateau v1.2 [a3] fun v1587 =>
 lA 4 v1.2 v0 fun v1589 =>
 bn .add v1587 (LV.int .i64 20) fun v1591 =>
 bn .add a1 (LV.int .i64 20) fun v1594 =>
 (pr.minmax false v1591 [a2, v1594]).bind fun v1595 =>
 (pr.minmax true v1595 [(LV.int .i64 1280)]).bind fun v1596 =>
 cl g id_icmpmap_said v1.2 [v1589, (LV.int .i64 2), (LV.int .i64 0), v1596] fun v1597 =>
 ex v1597 0 fun v1598 =>
 ex v1597 1 fun v1599 =>
 sA 4 v1.2 v1.1 v1598 fun v1600 =>
 lA 4 v1600.2 v1.1 fun v1602 =>
 pr.fin none v1600.2 [v1602, v1599]) (
 lA 4 v1.2 v0 fun v1603 =>
 bn .add v1582 (LV.int .i64 20) fun v1605 =>
 bn .add a1 (LV.int .i64 20) fun v1608 =>
 (pr.minmax false v1605 [a2, v1608]).bind fun v1609 =>
 (pr.minmax true v1609 [(LV.int .i64 1280)]).bind fun v1610 =>
 cl g id_icmpmap_said v1.2 [v1603, (LV.int .i64 2), (LV.int .i64 0), v1610] fun v1611 =>
 ex v1611 0 fun v1612 =>
 ex v1611 1 fun v1613 =>
 sA 4 v1.2 v1.1 v1612 fun v1614 =>
 lA 4 v1614.2 v1.1 fun v1616 =>
 pr.fin none v1614.2 [v1616, v1613])) (
 (pr.parts (LV.agg [(LV.int .i64 0), (LV.int .i64 0), (LV.int .u32 0), (LV.str [])]) []).bind fun v1617 =>
 sA 4 v1.2 v1.1 v1617 fun v1618 =>
 lA 4 v1618.2 v1.1 fun v1620 =>
 pr.fin none v1618.2 [v1620, (LV.bool false)]))))) (
 bn .eql v4 (LV.int .i64 13) fun v1621 =>
 condK v1621 (
 condK v1621 (
 lA 4 v1.2 v0 fun v1623 =>
 cl g id_icmpmap_said v1.2 [v1623, (LV.int .i64 1), (LV.int .i64 1), (LV.int .i64 0)] fun v1624 =>
 ex v1624 0 fun v1625 =>
 ex v1624 1 fun v1626 =>
 sA 4 v1.2 v1.1 v1625 fun v1627 =>
 lA 4 v1627.2 v1.1 fun v1629 =>
 pr.fin none v1627.2 [v1629, v1626]) (
 bn .eql v4 (LV.int .i64 3) fun v1630 =>
 condK v1630 (
 lA 4 v1.2 v0 fun v1632 =>
 cl g id_icmpmap_said v1.2 [v1632, (LV.int .i64 1), (LV.int .i64 4), (LV.int .i64 0)] fun v1633 =>
 ex v1633 0 fun v1634 =>
 ex v1633 1 fun v1635 =>
 sA 4 v1.2 v1.1 v1634 fun v1636 =>
 lA 4 v1636.2 v1.1 fun v1638 =>
 pr.fin none v1636.2 [v1638, v1635]) (
 bn .eql v4 (LV.int .i64 2) fun v1639 =>
 condK v1639 (
 lA 4 v1.2 v0 fun v1641 =>
 cl g id_icmpmap_said v1.2 [v1641, (LV.int .i64 4), (LV.int .i64 1), (LV.int .i64 6)] fun v1642 =>
 ex v1642 0 fun v1643 =>
 ex v1642 1 fun v1644 =>
 sA 4 v1.2 v1.1 v1643 fun v1645 =>
 lA 4 v1645.2 v1.1 fun v1647 =>
 pr.fin none v1645.2 [v1647, v1644]) (
 bn .eql v4 (LV.int .i64 4) fun v1648 =>
 condK v1648 (
 fA 2 2 v0 fun v1650 =>
 l1 v1.2 v1650 fun v1651 =>
 bn .and v1651 (LV.int .u32 65535) fun v1652 =>
 (pr.conv .i64 v1652).bind fun v1653 =>
 bn .eql v1653 (LV.int .i64 0) fun v1656 =>
 condK v1656 (
 cl g id_icmpmap_Plateau v1.2 [a3] fun v1658 =>
 lA 4 v1.2 v0 fun v1660 =>
 bn .add v1658 (LV.int .i64 20) fun v1662 =>
 bn .add a1 (LV.int .i64 20) fun v1665 =>
 (pr.minmax false v1662 [a2, v1665]).bind fun v1666 =>
 (pr.minmax true v1666 [(LV.int .i64 1280)]).bind fun v1667 =>
 cl g id_icmpmap_said v1.2 [v1660, (LV.int .i64 2), (LV.int .i64 0), v1667] fun v1668 =>
 ex v1668 0 fun v1669 =>
 ex v1668 1 fun v1670 =>
 sA 4 v1.2 v1.1 v1669 fun v1671 =>
 lA 4 v1671.2 v1.1 fun v1673 =>
 pr.fin none v1671.2 [v1673, v1670]) (
 lA 4 v1.2 v0 fun v1674 =>
 bn .add v1653 (LV.int .i64 20) fun v1676 =>
 bn .add a1 (LV.int .i64 20) fun v1679 =>
 (pr.minmax false v1676 [a2, v1679]).bind fun v1680 =>
 (pr.minmax true v1680 [(LV.int .i64 1280)]).bind fun v1681 =>
 cl g id_icmpmap_said v1.2 [v1674, (LV.int .i64 2), (LV.int .i64 0), v1681] fun v1682 =>
 ex v1682 0 fun v1683 =>
 ex v1682 1 fun v1684 =>
 sA 4 v1.2 v1.1 v1683 fun v1685 =>
 lA 4 v1685.2 v1.1 fun v1687 =>
 pr.fin none v1685.2 [v1687, v1684])) (
 (pr.parts (LV.agg [(LV.int .i64 0), (LV.int .i64 0), (LV.int .u32 0), (LV.str [])]) []).bind fun v1688 =>
 sA 4 v1.2 v1.1 v1688 fun v1689 =>
 lA 4 v1689.2 v1.1 fun v1691 =>
 pr.fin none v1689.2 [v1691, (LV.bool false)]))))) (
 bn .eql v4 (LV.int .i64 15) fun v1692 =>
 condK v1692 (
 lA 4 v1.2 v0 fun v1694 =>
 cl g id_icmpmap_said v1.2 [v1694, (LV.int .i64 1), (LV.int .i64 1), (LV.int .i64 0)] fun v1695 =>
 ex v1695 0 fun v1696 =>
 ex v1695 1 fun v1697 =>
 sA 4 v1.2 v1.1 v1696 fun v1698 =>
 lA 4 v1698.2 v1.1 fun v1700 =>
 pr.fin none v1698.2 [v1700, v1697]) (
 bn .eql v4 (LV.int .i64 3) fun v1701 =>
 condK v1701 (
 lA 4 v1.2 v0 fun v1703 =>
 cl g id_icmpmap_said v1.2 [v1703, (LV.int .i64 1), (LV.int .i64 4), (LV.int .i64 0)] fun v1704 =>
 ex v1704 0 fun v1705 =>
 ex v1704 1 fun v1706 =>
 sA 4 v1.2 v1.1 v1705 fun v1707 =>
 lA 4 v1707.2 v1.1 fun v1709 =>
 pr.fin none v1707.2 [v1709, v1706]) (
 bn .eql v4 (LV.int .i64 2) fun v1710 =>
 condK v1710 (
 lA 4 v1.2 v0 fun v1712 =>
 cl g id_icmpmap_said v1.2 [v1712, (LV.int .i64 4), (LV.int .i64 1), (LV.int .i64 6)] fun v1713 =>
 ex v1713 0 fun v1714 =>
 ex v1713 1 fun v1715 =>
 sA 4 v1.2 v1.1 v1714 fun v1716 =>
 lA 4 v1716.2 v1.1 fun v1718 =>
 pr.fin none v1716.2 [v1718, v1715]) (
 bn .eql v4 (LV.int .i64 4) fun v1719 =>
 condK v1719 (
 fA 2 2 v0 fun v1721 =>
 l1 v1.2 v1721 fun v1722 =>
 bn .and v1722 (LV.int .u32 65535) fun v1723 =>
 (pr.conv .i64 v1723).bind fun v1724 =>
 bn .eql v1724 (LV.int .i64 0) fun v1727 =>
 condK v1727 (
 cl g id_icmpmap_Plateau v1.2 [a3] fun v1729 =>
 lA 4 v1.2 v0 fun v1731 =>
 bn .add v1729 (LV.int .i64 20) fun v1733 =>
 bn .add a1 (LV.int .i64 20) fun v1736 =>
 (pr.minmax false v1733 [a2, v1736]).bind fun v1737 =>
 (pr.minmax true v1737 [(LV.int .i64 1280)]).bind fun v1738 =>
 cl g id_icmpmap_said v1.2 [v1731, (LV.int .i64 2), (LV.int .i64 0), v1738] fun v1739 =>
 ex v1739 0 fun v1740 =>
 ex v1739 1 fun v1741 =>
 sA 4 v1.2 v1.1 v1740 fun v1742 =>
 lA 4 v1742.2 v1.1 fun v1744 =>
 pr.fin none v1742.2 [v1744, v1741]) (
 lA 4 v1.2 v0 fun v1745 =>
 bn .add v1724 (LV.int .i64 20) fun v1747 =>
 bn .add a1 (LV.int .i64 20) fun v1750 =>
 (pr.minmax false v1747 [a2, v1750]).bind fun v1751 =>
 (pr.minmax true v1751 [(LV.int .i64 1280)]).bind fun v1752 =>
 cl g id_icmpmap_said v1.2 [v1745, (LV.int .i64 2), (LV.int .i64 0), v1752] fun v1753 =>
 ex v1753 0 fun v1754 =>
 ex v1753 1 fun v1755 =>
 sA 4 v1.2 v1.1 v1754 fun v1756 =>
 lA 4 v1756.2 v1.1 fun v1758 =>
 pr.fin none v1756.2 [v1758, v1755])) (
 (pr.parts (LV.agg [(LV.int .i64 0), (LV.int .i64 0), (LV.int .u32 0), (LV.str [])]) []).bind fun v1759 =>
 sA 4 v1.2 v1.1 v1759 fun v1760 =>
 lA 4 v1760.2 v1.1 fun v1762 =>
 pr.fin none v1760.2 [v1762, (LV.bool false)]))))))))) (
 bn .eql v4 (LV.int .i64 11) fun v1763 =>
 condK v1763 (
 condK v1763 (
 lA 4 v1.2 v0 fun v1765 =>
 cl g id_icmpmap_said v1.2 [v1765, (LV.int .i64 1), (LV.int .i64 0), (LV.int .i64 0)] fun v1766 =>
 ex v1766 0 fun v1767 =>
 ex v1766 1 fun v1768 =>
 sA 4 v1.2 v1.1 v1767 fun v1769 =>
 lA 4 v1769.2 v1.1 fun v1771 =>
 pr.fin none v1769.2 [v1771, v1768]) (
 bn .eql v4 (LV.int .i64 9) fun v1772 =>
 condK v1772 (
 condK v1772 (
 lA 4 v1.2 v0 fun v1774 =>
 cl g id_icmpmap_said v1.2 [v1774, (LV.int .i64 1), (LV.int .i64 1), (LV.int .i64 0)] fun v1775 =>
 ex v1775 0 fun v1776 =>
 ex v1775 1 fun v1777 =>
 sA 4 v1.2 v1.1 v1776 fun v1778 =>
 lA 4 v1778.2 v1.1 fun v1780 =>
 pr.fin none v1778.2 [v1780, v1777]) (
 bn .eql v4 (LV.int .i64 3) fun v1781 =>
 condK v1781 (
 lA 4 v1.2 v0 fun v1783 =>
 cl g id_icmpmap_said v1.2 [v1783, (LV.int .i64 1), (LV.int .i64 4), (LV.int .i64 0)] fun v1784 =>
 ex v1784 0 fun v1785 =>
 ex v1784 1 fun v1786 =>
 sA 4 v1.2 v1.1 v1785 fun v1787 =>
 lA 4 v1787.2 v1.1 fun v1789 =>
 pr.fin none v1787.2 [v1789, v1786]) (
 bn .eql v4 (LV.int .i64 2) fun v1790 =>
 condK v1790 (
 lA 4 v1.2 v0 fun v1792 =>
 cl g id_icmpmap_said v1.2 [v1792, (LV.int .i64 4), (LV.int .i64 1), (LV.int .i64 6)] fun v1793 =>
 ex v1793 0 fun v1794 =>
 ex v1793 1 fun v1795 =>
 sA 4 v1.2 v1.1 v1794 fun v1796 =>
 lA 4 v1796.2 v1.1 fun v1798 =>
 pr.fin none v1796.2 [v1798, v1795]) (
 bn .eql v4 (LV.int .i64 4) fun v1799 =>
 condK v1799 (
 fA 2 2 v0 fun v1801 =>
 l1 v1.2 v1801 fun v1802 =>
 bn .and v1802 (LV.int .u32 65535) fun v1803 =>
 (pr.conv .i64 v1803).bind fun v1804 =>
 bn .eql v1804 (LV.int .i64 0) fun v1807 =>
 condK v1807 (
 cl g id_icmpmap_Plateau v1.2 [a3] fun v1809 =>
 lA 4 v1.2 v0 fun v1811 =>
 bn .add v1809 (LV.int .i64 20) fun v1813 =>
 bn .add a1 (LV.int .i64 20) fun v1816 =>
 (pr.minmax false v1813 [a2, v1816]).bind fun v1817 =>
 (pr.minmax true v1817 [(LV.int .i64 1280)]).bind fun v1818 =>
 cl g id_icmpmap_said v1.2 [v1811, (LV.int .i64 2), (LV.int .i64 0), v1818] fun v1819 =>
 ex v1819 0 fun v1820 =>
 ex v1819 1 fun v1821 =>
 sA 4 v1.2 v1.1 v1820 fun v1822 =>
 lA 4 v1822.2 v1.1 fun v1824 =>
 pr.fin none v1822.2 [v1824, v1821]) (
 lA 4 v1.2 v0 fun v1825 =>
 bn .add v1804 (LV.int .i64 20) fun v1827 =>
 bn .add a1 (LV.int .i64 20) fun v1830 =>
 (pr.minmax false v1827 [a2, v1830]).bind fun v1831 =>
 (pr.minmax true v1831 [(LV.int .i64 1280)]).bind fun v1832 =>
 cl g id_icmpmap_said v1.2 [v1825, (LV.int .i64 2), (LV.int .i64 0), v1832] fun v1833 =>
 ex v1833 0 fun v1834 =>
 ex v1833 1 fun v1835 =>
 sA 4 v1.2 v1.1 v1834 fun v1836 =>
 lA 4 v1836.2 v1.1 fun v1838 =>
 pr.fin none v1836.2 [v1838, v1835])) (
 (pr.parts (LV.agg [(LV.int .i64 0), (LV.int .i64 0), (LV.int .u32 0), (LV.str [])]) []).bind fun v1839 =>
 sA 4 v1.2 v1.1 v1839 fun v1840 =>
 lA 4 v1840.2 v1.1 fun v1842 =>
 pr.fin none v1840.2 [v1842, (LV.bool false)]))))) (
 bn .eql v4 (LV.int .i64 10) fun v1843 =>
 condK v1843 (
 condK v1843 (
 lA 4 v1.2 v0 fun v1845 =>
 cl g id_icmpmap_said v1.2 [v1845, (LV.int .i64 1), (LV.int .i64 1), (LV.int .i64 0)] fun v1846 =>
 ex v1846 0 fun v1847 =>
 ex v1846 1 fun v1848 =>
 sA 4 v1.2 v1.1 v1847 fun v1849 =>
 lA 4 v1849.2 v1.1 fun v1851 =>
 pr.fin none v1849.2 [v1851, v1848]) (
 bn .eql v4 (LV.int .i64 3) fun v1852 =>
 condK v1852 (
 lA 4 v1.2 v0 fun v1854 =>
 cl g id_icmpmap_said v1.2 [v1854, (LV.int .i64 1), (LV.int .i64 4), (LV.int .i64 0)] fun v1855 =>
 ex v1855 0 fun v1856 =>
 ex v1855 1 fun v1857 =>
 sA 4 v1.2 v1.1 v1856 fun v1858 =>
 lA 4 v1858.2 v1.1 fun v1860 =>
 pr.fin none v1858.2 [v1860, v1857]) (
 bn .eql v4 (LV.int .i64 2) fun v1861 =>
 condK v1861 (
 lA 4 v1.2 v0 fun v1863 =>
 cl g id_icmpmap_said v1.2 [v1863, (LV.int .i64 4), (LV.int .i64 1), (LV.int .i64 6)] fun v1864 =>
 ex v1864 0 fun v1865 =>
 ex v1864 1 fun v1866 =>
 sA 4 v1.2 v1.1 v1865 fun v1867 =>
 lA 4 v1867.2 v1.1 fun v1869 =>
 pr.fin none v1867.2 [v1869, v1866]) (
 bn .eql v4 (LV.int .i64 4) fun v1870 =>
 condK v1870 (
 fA 2 2 v0 fun v1872 =>
 l1 v1.2 v1872 fun v1873 =>
 bn .and v1873 (LV.int .u32 65535) fun v1874 =>
 (pr.conv .i64 v1874).bind fun v1875 =>
 bn .eql v1875 (LV.int .i64 0) fun v1878 =>
 condK v1878 (
 cl g id_icmpmap_Plateau v1.2 [a3] fun v1880 =>
 lA 4 v1.2 v0 fun v1882 =>
 bn .add v1880 (LV.int .i64 20) fun v1884 =>
 bn .add a1 (LV.int .i64 20) fun v1887 =>
 (pr.minmax false v1884 [a2, v1887]).bind fun v1888 =>
 (pr.minmax true v1888 [(LV.int .i64 1280)]).bind fun v1889 =>
 cl g id_icmpmap_said v1.2 [v1882, (LV.int .i64 2), (LV.int .i64 0), v1889] fun v1890 =>
 ex v1890 0 fun v1891 =>
 ex v1890 1 fun v1892 =>
 sA 4 v1.2 v1.1 v1891 fun v1893 =>
 lA 4 v1893.2 v1.1 fun v1895 =>
 pr.fin none v1893.2 [v1895, v1892]) (
 lA 4 v1.2 v0 fun v1896 =>
 bn .add v1875 (LV.int .i64 20) fun v1898 =>
 bn .add a1 (LV.int .i64 20) fun v1901 =>
 (pr.minmax false v1898 [a2, v1901]).bind fun v1902 =>
 (pr.minmax true v1902 [(LV.int .i64 1280)]).bind fun v1903 =>
 cl g id_icmpmap_said v1.2 [v1896, (LV.int .i64 2), (LV.int .i64 0), v1903] fun v1904 =>
 ex v1904 0 fun v1905 =>
 ex v1904 1 fun v1906 =>
 sA 4 v1.2 v1.1 v1905 fun v1907 =>
 lA 4 v1907.2 v1.1 fun v1909 =>
 pr.fin none v1907.2 [v1909, v1906])) (
 (pr.parts (LV.agg [(LV.int .i64 0), (LV.int .i64 0), (LV.int .u32 0), (LV.str [])]) []).bind fun v1910 =>
 sA 4 v1.2 v1.1 v1910 fun v1911 =>
 lA 4 v1911.2 v1.1 fun v1913 =>
 pr.fin none v1911.2 [v1913, (LV.bool false)]))))) (
 bn .eql v4 (LV.int .i64 13) fun v1914 =>
 condK v1914 (
 condK v1914 (
 lA 4 v1.2 v0 fun v1916 =>
 cl g id_icmpmap_said v1.2 [v1916, (LV.int .i64 1), (LV.int .i64 1), (LV.int .i64 0)] fun v1917 =>
 ex v1917 0 fun v1918 =>
 ex v1917 1 fun v1919 =>
 sA 4 v1.2 v1.1 v1918 fun v1920 =>
 lA 4 v1920.2 v1.1 fun v1922 =>
 pr.fin none v1920.2 [v1922, v1919]) (
 bn .eql v4 (LV.int .i64 3) fun v1923 =>
 condK v1923 (
 lA 4 v1.2 v0 fun v1925 =>
 cl g id_icmpmap_said v1.2 [v1925, (LV.int .i64 1), (LV.int .i64 4), (LV.int .i64 0)] fun v1926 =>
 ex v1926 0 fun v1927 =>
 ex v1926 1 fun v1928 =>
 sA 4 v1.2 v1.1 v1927 fun v1929 =>
 lA 4 v1929.2 v1.1 fun v1931 =>
 pr.fin none v1929.2 [v1931, v1928]) (
 bn .eql v4 (LV.int .i64 2) fun v1932 =>
 condK v1932 (
 lA 4 v1.2 v0 fun v1934 =>
 cl g id_icmpmap_said v1.2 [v1934, (LV.int .i64 4), (LV.int .i64 1), (LV.int .i64 6)] fun v1935 =>
 ex v1935 0 fun v1936 =>
 ex v1935 1 fun v1937 =>
 sA 4 v1.2 v1.1 v1936 fun v1938 =>
 lA 4 v1938.2 v1.1 fun v1940 =>
 pr.fin none v1938.2 [v1940, v1937]) (
 bn .eql v4 (LV.int .i64 4) fun v1941 =>
 condK v1941 (
 fA 2 2 v0 fun v1943 =>
 l1 v1.2 v1943 fun v1944 =>
 bn .and v1944 (LV.int .u32 65535) fun v1945 =>
 (pr.conv .i64 v1945).bind fun v1946 =>
 bn .eql v1946 (LV.int .i64 0) fun v1949 =>
 condK v1949 (
 cl g id_icmpmap_Plateau v1.2 [a3] fun v1951 =>
 lA 4 v1.2 v0 fun v1953 =>
 bn .add v1951 (LV.int .i64 20) fun v1955 =>
 bn .add a1 (LV.int .i64 20) fun v1958 =>
 (pr.minmax false v1955 [a2, v1958]).bind fun v1959 =>
 (pr.minmax true v1959 [(LV.int .i64 1280)]).bind fun v1960 =>
 cl g id_icmpmap_said v1.2 [v1953, (LV.int .i64 2), (LV.int .i64 0), v1960] fun v1961 =>
 ex v1961 0 fun v1962 =>
 ex v1961 1 fun v1963 =>
 sA 4 v1.2 v1.1 v1962 fun v1964 =>
 lA 4 v1964.2 v1.1 fun v1966 =>
 pr.fin none v1964.2 [v1966, v1963]) (
 lA 4 v1.2 v0 fun v1967 =>
 bn .add v1946 (LV.int .i64 20) fun v1969 =>
 bn .add a1 (LV.int .i64 20) fun v1972 =>
 (pr.minmax false v1969 [a2, v1972]).bind fun v1973 =>
 (pr.minmax true v1973 [(LV.int .i64 1280)]).bind fun v1974 =>
 cl g id_icmpmap_said v1.2 [v1967, (LV.int .i64 2), (LV.int .i64 0), v1974] fun v1975 =>
 ex v1975 0 fun v1976 =>
 ex v1975 1 fun v1977 =>
 sA 4 v1.2 v1.1 v1976 fun v1978 =>
 lA 4 v1978.2 v1.1 fun v1980 =>
 pr.fin none v1978.2 [v1980, v1977])) (
 (pr.parts (LV.agg [(LV.int .i64 0), (LV.int .i64 0), (LV.int .u32 0), (LV.str [])]) []).bind fun v1981 =>
 sA 4 v1.2 v1.1 v1981 fun v1982 =>
 lA 4 v1982.2 v1.1 fun v1984 =>
 pr.fin none v1982.2 [v1984, (LV.bool false)]))))) (
 bn .eql v4 (LV.int .i64 15) fun v1985 =>
 condK v1985 (
 lA 4 v1.2 v0 fun v1987 =>
 cl g id_icmpmap_said v1.2 [v1987, (LV.int .i64 1), (LV.int .i64 1), (LV.int .i64 0)] fun v1988 =>
 ex v1988 0 fun v1989 =>
 ex v1988 1 fun v1990 =>
 sA 4 v1.2 v1.1 v1989 fun v1991 =>
 lA 4 v1991.2 v1.1 fun v1993 =>
 pr.fin none v1991.2 [v1993, v1990]) (
 bn .eql v4 (LV.int .i64 3) fun v1994 =>
 condK v1994 (
 lA 4 v1.2 v0 fun v1996 =>
 cl g id_icmpmap_said v1.2 [v1996, (LV.int .i64 1), (LV.int .i64 4), (LV.int .i64 0)] fun v1997 =>
 ex v1997 0 fun v1998 =>
 ex v1997 1 fun v1999 =>
 sA 4 v1.2 v1.1 v1998 fun v2000 =>
 lA 4 v2000.2 v1.1 fun v2002 =>
 pr.fin none v2000.2 [v2002, v1999]) (
 bn .eql v4 (LV.int .i64 2) fun v2003 =>
 condK v2003 (
 lA 4 v1.2 v0 fun v2005 =>
 cl g id_icmpmap_said v1.2 [v2005, (LV.int .i64 4), (LV.int .i64 1), (LV.int .i64 6)] fun v2006 =>
 ex v2006 0 fun v2007 =>
 ex v2006 1 fun v2008 =>
 sA 4 v1.2 v1.1 v2007 fun v2009 =>
 lA 4 v2009.2 v1.1 fun v2011 =>
 pr.fin none v2009.2 [v2011, v2008]) (
 bn .eql v4 (LV.int .i64 4) fun v2012 =>
 condK v2012 (
 fA 2 2 v0 fun v2014 =>
 l1 v1.2 v2014 fun v2015 =>
 bn .and v2015 (LV.int .u32 65535) fun v2016 =>
 (pr.conv .i64 v2016).bind fun v2017 =>
 bn .eql v2017 (LV.int .i64 0) fun v2020 =>
 condK v2020 (
 cl g id_icmpmap_Plateau v1.2 [a3] fun v2022 =>
 lA 4 v1.2 v0 fun v2024 =>
 bn .add v2022 (LV.int .i64 20) fun v2026 =>
 bn .add a1 (LV.int .i64 20) fun v2029 =>
 (pr.minmax false v2026 [a2, v2029]).bind fun v2030 =>
 (pr.minmax true v2030 [(LV.int .i64 1280)]).bind fun v2031 =>
 cl g id_icmpmap_said v1.2 [v2024, (LV.int .i64 2), (LV.int .i64 0), v2031] fun v2032 =>
 ex v2032 0 fun v2033 =>
 ex v2032 1 fun v2034 =>
 sA 4 v1.2 v1.1 v2033 fun v2035 =>
 lA 4 v2035.2 v1.1 fun v2037 =>
 pr.fin none v2035.2 [v2037, v2034]) (
 lA 4 v1.2 v0 fun v2038 =>
 bn .add v2017 (LV.int .i64 20) fun v2040 =>
 bn .add a1 (LV.int .i64 20) fun v2043 =>
 (pr.minmax false v2040 [a2, v2043]).bind fun v2044 =>
 (pr.minmax true v2044 [(LV.int .i64 1280)]).bind fun v2045 =>
 cl g id_icmpmap_said v1.2 [v2038, (LV.int .i64 2), (LV.int .i64 0), v2045] fun v2046 =>
 ex v2046 0 fun v2047 =>
 ex v2046 1 fun v2048 =>
 sA 4 v1.2 v1.1 v2047 fun v2049 =>
 lA 4 v2049.2 v1.1 fun v2051 =>
 pr.fin none v2049.2 [v2051, v2048])) (
 (pr.parts (LV.agg [(LV.int .i64 0), (LV.int .i64 0), (LV.int .u32 0), (LV.str [])]) []).bind fun v2052 =>
 sA 4 v1.2 v1.1 v2052 fun v2053 =>
 lA 4 v2053.2 v1.1 fun v2055 =>
 pr.fin none v2053.2 [v2055, (LV.bool false)]))))))))) (
 bn .eql v4 (LV.int .i64 12) fun v2056 =>
 condK v2056 (
 lA 4 v1.2 v0 fun v2058 =>
 cl g id_icmpmap_said v1.2 [v2058, (LV.int .i64 1), (LV.int .i64 0), (LV.int .i64 0)] fun v2059 =>
 ex v2059 0 fun v2060 =>
 ex v2059 1 fun v2061 =>
 sA 4 v1.2 v1.1 v2060 fun v2062 =>
 lA 4 v2062.2 v1.1 fun v2064 =>
 pr.fin none v2062.2 [v2064, v2061]) (
 bn .eql v4 (LV.int .i64 9) fun v2065 =>
 condK v2065 (
 condK v2065 (
 lA 4 v1.2 v0 fun v2067 =>
 cl g id_icmpmap_said v1.2 [v2067, (LV.int .i64 1), (LV.int .i64 1), (LV.int .i64 0)] fun v2068 =>
 ex v2068 0 fun v2069 =>
 ex v2068 1 fun v2070 =>
 sA 4 v1.2 v1.1 v2069 fun v2071 =>
 lA 4 v2071.2 v1.1 fun v2073 =>
 pr.fin none v2071.2 [v2073, v2070]) (
 bn .eql v4 (LV.int .i64 3) fun v2074 =>
 condK v2074 (
 lA 4 v1.2 v0 fun v2076 =>
 cl g id_icmpmap_said v1.2 [v2076, (LV.int .i64 1), (LV.int .i64 4), (LV.int .i64 0)] fun v2077 =>
 ex v2077 0 fun v2078 =>
 ex v2077 1 fun v2079 =>
 sA 4 v1.2 v1.1 v2078 fun v2080 =>
 lA 4 v2080.2 v1.1 fun v2082 =>
 pr.fin none v2080.2 [v2082, v2079]) (
 bn .eql v4 (LV.int .i64 2) fun v2083 =>
 condK v2083 (
 lA 4 v1.2 v0 fun v2085 =>
 cl g id_icmpmap_said v1.2 [v2085, (LV.int .i64 4), (LV.int .i64 1), (LV.int .i64 6)] fun v2086 =>
 ex v2086 0 fun v2087 =>
 ex v2086 1 fun v2088 =>
 sA 4 v1.2 v1.1 v2087 fun v2089 =>
 lA 4 v2089.2 v1.1 fun v2091 =>
 pr.fin none v2089.2 [v2091, v2088]) (
 bn .eql v4 (LV.int .i64 4) fun v2092 =>
 condK v2092 (
 fA 2 2 v0 fun v2094 =>
 l1 v1.2 v2094 fun v2095 =>
 bn .and v2095 (LV.int .u32 65535) fun v2096 =>
 (pr.conv .i64 v2096).bind fun v2097 =>
 bn .eql v2097 (LV.int .i64 0) fun v2100 =>
 condK v2100 (
 cl g id_icmpmap_Plateau v1.2 [a3] fun v2102 =>
 lA 4 v1.2 v0 fun v2104 =>
 bn .add v2102 (LV.int .i64 20) fun v2106 =>
 bn .add a1 (LV.int .i64 20) fun v2109 =>
 (pr.minmax false v2106 [a2, v2109]).bind fun v2110 =>
 (pr.minmax true v2110 [(LV.int .i64 1280)]).bind fun v2111 =>
 cl g id_icmpmap_said v1.2 [v2104, (LV.int .i64 2), (LV.int .i64 0), v2111] fun v2112 =>
 ex v2112 0 fun v2113 =>
 ex v2112 1 fun v2114 =>
 sA 4 v1.2 v1.1 v2113 fun v2115 =>
 lA 4 v2115.2 v1.1 fun v2117 =>
 pr.fin none v2115.2 [v2117, v2114]) (
 lA 4 v1.2 v0 fun v2118 =>
 bn .add v2097 (LV.int .i64 20) fun v2120 =>
 bn .add a1 (LV.int .i64 20) fun v2123 =>
 (pr.minmax false v2120 [a2, v2123]).bind fun v2124 =>
 (pr.minmax true v2124 [(LV.int .i64 1280)]).bind fun v2125 =>
 cl g id_icmpmap_said v1.2 [v2118, (LV.int .i64 2), (LV.int .i64 0), v2125] fun v2126 =>
 ex v2126 0 fun v2127 =>
 ex v2126 1 fun v2128 =>
 sA 4 v1.2 v1.1 v2127 fun v2129 =>
 lA 4 v2129.2 v1.1 fun v2131 =>
 pr.fin none v2129.2 [v2131, v2128])) (
 (pr.parts (LV.agg [(LV.int .i64 0), (LV.int .i64 0), (LV.int .u32 0), (LV.str [])]) []).bind fun v2132 =>
 sA 4 v1.2 v1.1 v2132 fun v2133 =>
 lA 4 v2133.2 v1.1 fun v2135 =>
 pr.fin none v2133.2 [v2135, (LV.bool false)]))))) (
 bn .eql v4 (LV.int .i64 10) fun v2136 =>
 condK v2136 (
 condK v2136 (
 lA 4 v1.2 v0 fun v2138 =>
 cl g id_icmpmap_said v1.2 [v2138, (LV.int .i64 1), (LV.int .i64 1), (LV.int .i64 0)] fun v2139 =>
 ex v2139 0 fun v2140 =>
 ex v2139 1 fun v2141 =>
 sA 4 v1.2 v1.1 v2140 fun v2142 =>
 lA 4 v2142.2 v1.1 fun v2144 =>
 pr.fin none v2142.2 [v2144, v2141]) (
 bn .eql v4 (LV.int .i64 3) fun v2145 =>
 condK v2145 (
 lA 4 v1.2 v0 fun v2147 =>
 cl g id_icmpmap_said v1.2 [v2147, (LV.int .i64 1), (LV.int .i64 4), (LV.int .i64 0)] fun v2148 =>
 ex v2148 0 fun v2149 =>
 ex v2148 1 fun v2150 =>
 sA 4 v1.2 v1.1 v2149 fun v2151 =>
 lA 4 v2151.2 v1.1 fun v2153 =>
 pr.fin none v2151.2 [v2153, v2150]) (
 bn .eql v4 (LV.int .i64 2) fun v2154 =>
 condK v2154 (
 lA 4 v1.2 v0 fun v2156 =>
 cl g id_icmpmap_said v1.2 [v2156, (LV.int .i64 4), (LV.int .i64 1), (LV.int .i64 6)] fun v2157 =>
 ex v2157 0 fun v2158 =>
 ex v2157 1 fun v2159 =>
 sA 4 v1.2 v1.1 v2158 fun v2160 =>
 lA 4 v2160.2 v1.1 fun v2162 =>
 pr.fin none v2160.2 [v2162, v2159]) (
 bn .eql v4 (LV.int .i64 4) fun v2163 =>
 condK v2163 (
 fA 2 2 v0 fun v2165 =>
 l1 v1.2 v2165 fun v2166 =>
 bn .and v2166 (LV.int .u32 65535) fun v2167 =>
 (pr.conv .i64 v2167).bind fun v2168 =>
 bn .eql v2168 (LV.int .i64 0) fun v2171 =>
 condK v2171 (
 cl g id_icmpmap_Plateau v1.2 [a3] fun v2173 =>
 lA 4 v1.2 v0 fun v2175 =>
 bn .add v2173 (LV.int .i64 20) fun v2177 =>
 bn .add a1 (LV.int .i64 20) fun v2180 =>
 (pr.minmax false v2177 [a2, v2180]).bind fun v2181 =>
 (pr.minmax true v2181 [(LV.int .i64 1280)]).bind fun v2182 =>
 cl g id_icmpmap_said v1.2 [v2175, (LV.int .i64 2), (LV.int .i64 0), v2182] fun v2183 =>
 ex v2183 0 fun v2184 =>
 ex v2183 1 fun v2185 =>
 sA 4 v1.2 v1.1 v2184 fun v2186 =>
 lA 4 v2186.2 v1.1 fun v2188 =>
 pr.fin none v2186.2 [v2188, v2185]) (
 lA 4 v1.2 v0 fun v2189 =>
 bn .add v2168 (LV.int .i64 20) fun v2191 =>
 bn .add a1 (LV.int .i64 20) fun v2194 =>
 (pr.minmax false v2191 [a2, v2194]).bind fun v2195 =>
 (pr.minmax true v2195 [(LV.int .i64 1280)]).bind fun v2196 =>
 cl g id_icmpmap_said v1.2 [v2189, (LV.int .i64 2), (LV.int .i64 0), v2196] fun v2197 =>
 ex v2197 0 fun v2198 =>
 ex v2197 1 fun v2199 =>
 sA 4 v1.2 v1.1 v2198 fun v2200 =>
 lA 4 v2200.2 v1.1 fun v2202 =>
 pr.fin none v2200.2 [v2202, v2199])) (
 (pr.parts (LV.agg [(LV.int .i64 0), (LV.int .i64 0), (LV.int .u32 0), (LV.str [])]) []).bind fun v2203 =>
 sA 4 v1.2 v1.1 v2203 fun v2204 =>
 lA 4 v2204.2 v1.1 fun v2206 =>
 pr.fin none v2204.2 [v2206, (LV.bool false)]))))) (
 bn .eql v4 (LV.int .i64 13) fun v2207 =>
 condK v2207 (
 condK v2207 (
 lA 4 v1.2 v0 fun v2209 =>
 cl g id_icmpmap_said v1.2 [v2209, (LV.int .i64 1), (LV.int .i64 1), (LV.int .i64 0)] fun v2210 =>
 ex v2210 0 fun v2211 =>
 ex v2210 1 fun v2212 =>
 sA 4 v1.2 v1.1 v2211 fun v2213 =>
 lA 4 v2213.2 v1.1 fun v2215 =>
 pr.fin none v2213.2 [v2215, v2212]) (
 bn .eql v4 (LV.int .i64 3) fun v2216 =>
 condK v2216 (
 lA 4 v1.2 v0 fun v2218 =>
 cl g id_icmpmap_said v1.2 [v2218, (LV.int .i64 1), (LV.int .i64 4), (LV.int .i64 0)] fun v2219 =>
 ex v2219 0 fun v2220 =>
 ex v2219 1 fun v2221 =>
 sA 4 v1.2 v1.1 v2220 fun v2222 =>
 lA 4 v2222.2 v1.1 fun v2224 =>
 pr.fin none v2222.2 [v2224, v2221]) (
 bn .eql v4 (LV.int .i64 2) fun v2225 =>
 condK v2225 (
 lA 4 v1.2 v0 fun v2227 =>
 cl g id_icmpmap_said v1.2 [v2227, (LV.int .i64 4), (LV.int .i64 1), (LV.int .i64 6)] fun v2228 =>
 ex v2228 0 fun v2229 =>
 ex v2228 1 fun v2230 =>
 sA 4 v1.2 v1.1 v2229 fun v2231 =>
 lA 4 v2231.2 v1.1 fun v2233 =>
 pr.fin none v2231.2 [v2233, v2230]) (
 bn .eql v4 (LV.int .i64 4) fun v2234 =>
 condK v2234 (
 fA 2 2 v0 fun v2236 =>
 l1 v1.2 v2236 fun v2237 =>
 bn .and v2237 (LV.int .u32 65535) fun v2238 =>
 (pr.conv .i64 v2238).bind fun v2239 =>
 bn .eql v2239 (LV.int .i64 0) fun v2242 =>
 condK v2242 (
 cl g id_icmpmap_Plateau v1.2 [a3] fun v2244 =>
 lA 4 v1.2 v0 fun v2246 =>
 bn .add v2244 (LV.int .i64 20) fun v2248 =>
 bn .add a1 (LV.int .i64 20) fun v2251 =>
 (pr.minmax false v2248 [a2, v2251]).bind fun v2252 =>
 (pr.minmax true v2252 [(LV.int .i64 1280)]).bind fun v2253 =>
 cl g id_icmpmap_said v1.2 [v2246, (LV.int .i64 2), (LV.int .i64 0), v2253] fun v2254 =>
 ex v2254 0 fun v2255 =>
 ex v2254 1 fun v2256 =>
 sA 4 v1.2 v1.1 v2255 fun v2257 =>
 lA 4 v2257.2 v1.1 fun v2259 =>
 pr.fin none v2257.2 [v2259, v2256]) (
 lA 4 v1.2 v0 fun v2260 =>
 bn .add v2239 (LV.int .i64 20) fun v2262 =>
 bn .add a1 (LV.int .i64 20) fun v2265 =>
 (pr.minmax false v2262 [a2, v2265]).bind fun v2266 =>
 (pr.minmax true v2266 [(LV.int .i64 1280)]).bind fun v2267 =>
 cl g id_icmpmap_said v1.2 [v2260, (LV.int .i64 2), (LV.int .i64 0), v2267] fun v2268 =>
 ex v2268 0 fun v2269 =>
 ex v2268 1 fun v2270 =>
 sA 4 v1.2 v1.1 v2269 fun v2271 =>
 lA 4 v2271.2 v1.1 fun v2273 =>
 pr.fin none v2271.2 [v2273, v2270])) (
 (pr.parts (LV.agg [(LV.int .i64 0), (LV.int .i64 0), (LV.int .u32 0), (LV.str [])]) []).bind fun v2274 =>
 sA 4 v1.2 v1.1 v2274 fun v2275 =>
 lA 4 v2275.2 v1.1 fun v2277 =>
 pr.fin none v2275.2 [v2277, (LV.bool false)]))))) (
 bn .eql v4 (LV.int .i64 15) fun v2278 =>
 condK v2278 (
 lA 4 v1.2 v0 fun v2280 =>
 cl g id_icmpmap_said v1.2 [v2280, (LV.int .i64 1), (LV.int .i64 1), (LV.int .i64 0)] fun v2281 =>
 ex v2281 0 fun v2282 =>
 ex v2281 1 fun v2283 =>
 sA 4 v1.2 v1.1 v2282 fun v2284 =>
 lA 4 v2284.2 v1.1 fun v2286 =>
 pr.fin none v2284.2 [v2286, v2283]) (
 bn .eql v4 (LV.int .i64 3) fun v2287 =>
 condK v2287 (
 lA 4 v1.2 v0 fun v2289 =>
 cl g id_icmpmap_said v1.2 [v2289, (LV.int .i64 1), (LV.int .i64 4), (LV.int .i64 0)] fun v2290 =>
 ex v2290 0 fun v2291 =>
 ex v2290 1 fun v2292 =>
 sA 4 v1.2 v1.1 v2291 fun v2293 =>
 lA 4 v2293.2 v1.1 fun v2295 =>
 pr.fin none v2293.2 [v2295, v2292]) (
 bn .eql v4 (LV.int .i64 2) fun v2296 =>
 condK v2296 (
 lA 4 v1.2 v0 fun v2298 =>
 cl g id_icmpmap_said v1.2 [v2298, (LV.int .i64 4), (LV.int .i64 1), (LV.int .i64 6)] fun v2299 =>
 ex v2299 0 fun v2300 =>
 ex v2299 1 fun v2301 =>
 sA 4 v1.2 v1.1 v2300 fun v2302 =>
 lA 4 v2302.2 v1.1 fun v2304 =>
 pr.fin none v2302.2 [v2304, v2301]) (
 bn .eql v4 (LV.int .i64 4) fun v2305 =>
 condK v2305 (
 fA 2 2 v0 fun v2307 =>
 l1 v1.2 v2307 fun v2308 =>
 bn .and v2308 (LV.int .u32 65535) fun v2309 =>
 (pr.conv .i64 v2309).bind fun v2310 =>
 bn .eql v2310 (LV.int .i64 0) fun v2313 =>
 condK v2313 (
 cl g id_icmpmap_Plateau v1.2 [a3] fun v2315 =>
 lA 4 v1.2 v0 fun v2317 =>
 bn .add v2315 (LV.int .i64 20) fun v2319 =>
 bn .add a1 (LV.int .i64 20) fun v2322 =>
 (pr.minmax false v2319 [a2, v2322]).bind fun v2323 =>
 (pr.minmax true v2323 [(LV.int .i64 1280)]).bind fun v2324 =>
 cl g id_icmpmap_said v1.2 [v2317, (LV.int .i64 2), (LV.int .i64 0), v2324] fun v2325 =>
 ex v2325 0 fun v2326 =>
 ex v2325 1 fun v2327 =>
 sA 4 v1.2 v1.1 v2326 fun v2328 =>
 lA 4 v2328.2 v1.1 fun v2330 =>
 pr.fin none v2328.2 [v2330, v2327]) (
 lA 4 v1.2 v0 fun v2331 =>
 bn .add v2310 (LV.int .i64 20) fun v2333 =>
 bn .add a1 (LV.int .i64 20) fun v2336 =>
 (pr.minmax false v2333 [a2, v2336]).bind fun v2337 =>
 (pr.minmax true v2337 [(LV.int .i64 1280)]).bind fun v2338 =>
 cl g id_icmpmap_said v1.2 [v2331, (LV.int .i64 2), (LV.int .i64 0), v2338] fun v2339 =>
 ex v2339 0 fun v2340 =>
 ex v2339 1 fun v2341 =>
 sA 4 v1.2 v1.1 v2340 fun v2342 =>
 lA 4 v2342.2 v1.1 fun v2344 =>
 pr.fin none v2342.2 [v2344, v2341])) (
 (pr.parts (LV.agg [(LV.int .i64 0), (LV.int .i64 0), (LV.int .u32 0), (LV.str [])]) []).bind fun v2345 =>
 sA 4 v1.2 v1.1 v2345 fun v2346 =>
 lA 4 v2346.2 v1.1 fun v2348 =>
 pr.fin none v2346.2 [v2348, (LV.bool false)])))))))))))))))
theorem F_icmpmap_lost6_eq (g : Call) (a0 : LV) (a1 : LV) (a2 : LV) (a3 : LV) : fnEv g c_icmpmap_lost6 [a0, a1, a2, a3] none = F_icmpmap_lost6 g a0 a1 a2 a3 := by kernel_rfl

/-- interpreter/icmpmap.pointer6 -/
noncomputable def F_icmpmap_pointer6 (g : Call) (a0 : LV) : Option (LV × Option LV) :=
 bn .eql a0 (LV.int .i64 0) fun v3 =>
 gF v3 (some a0) fun v5 =>
 gF v3 (pr.bin .eql v5 (LV.int .i64 1)) fun v6 =>
 pF v3 v6 fun v7 =>
 condK v7 (
 pr.fin none noSlots [a0, (LV.bool true)]) (
 bn .eql a0 (LV.int .i64 2) fun v13 =>
 gF v13 (some a0) fun v15 =>
 gF v13 (pr.bin .eql v15 (LV.int .i64 3)) fun v16 =>
 pF v13 v16 fun v17 =>
 condK v17 (
 pr.fin none noSlots [(LV.int .i64 4), (LV.bool true)]) (
 bn .eql a0 (LV.int .i64 8) fun v22 =>
 condK v22 (
 pr.fin none noSlots [(LV.int .i64 7), (LV.bool true)]) (
 bn .eql a0 (LV.int .i64 9) fun v27 =>
 condK v27 (
 pr.fin none noSlots [(LV.int .i64 6), (LV.bool true)]) (
 bn .geq a0 (LV.int .i64 12) fun v32 =>
 gT v32 (some a0) fun v34 =>
 gT v32 (pr.bin .leq v34 (LV.int .i64 15)) fun v35 =>
 pT v32 v35 fun v36 =>
 condK v36 (
 pr.fin none noSlots [(LV.int .i64 8), (LV.bool true)]) (
 bn .geq a0 (LV.int .i64 16) fun v41 =>
 gT v41 (some a0) fun v43 =>
 gT v41 (pr.bin .leq v43 (LV.int .i64 19)) fun v44 =>
 pT v41 v44 fun v45 =>
 condK v45 (
 pr.fin none noSlots [(LV.int .i64 24), (LV.bool true)]) (
 pr.fin none noSlots [(LV.int .i64 0), (LV.bool false)]))))))
theorem F_icmpmap_pointer6_eq (g : Call) (a0 : LV) : fnEv g c_icmpmap_pointer6 [a0] none = F_icmpmap_pointer6 g a0 := by kernel_rfl

/-- interpreter/icmpmap.lost4 -/
noncomputable def F_icmpmap_lost4 (g : Call) (a0 : LV) : Option (LV × Option LV) :=
 bx a0 fun v0 =>
 (pr.alloc (LV.agg [(LV.int .i64 0), (LV.int .i64 0), (LV.int .u32 0), (LV.str [])]) 2 noSlots).bind fun v1 =>
 fA 1 1 v0 fun v3 =>
 l1 v1.2 v3 fun v4 =>
 bn .eql v4 (LV.int .i64 0) fun v5 =>
 condK v5 (
 condK v5 (
 lA 4 v1.2 v0 fun v7 =>
 cl g id_icmpmap_said v1.2 [v7, (LV.int .i64 3), (LV.int .i64 1), (LV.int .i64 0)] fun v8 =>
 ex v8 0 fun v9 =>
 ex v8 1 fun v10 =>
 sA 4 v1.2 v1.1 v9 fun v11 =>
 lA 4 v11.2 v1.1 fun v13 =>
 pr.fin none v11.2 [v13, v10]) (
 bn .eql v4 (LV.int .i64 1) fun v14 =>
 condK v14 (
 lA 4 v1.2 v0 fun v16 =>
 cl g id_icmpmap_said v1.2 [v16, (LV.int .i64 3), (LV.int .i64 10), (LV.int .i64 0)] fun v17 =>
 ex v17 0 fun v18 =>
 ex v17 1 fun v19 =>
 sA 4 v1.2 v1.1 v18 fun v20 =>
 lA 4 v20.2 v1.1 fun v22 =>
 pr.fin none v20.2 [v22, v19]) (
 bn .eql v4 (LV.int .i64 4) fun v23 =>
 condK v23 (
 lA 4 v1.2 v0 fun v25 =>
 cl g id_icmpmap_said v1.2 [v25, (LV.int .i64 3), (LV.int .i64 3), (LV.int .i64 0)] fun v26 =>
 ex v26 0 fun v27 =>
 ex v26 1 fun v28 =>
 sA 4 v1.2 v1.1 v27 fun v29 =>
 lA 4 v29.2 v1.1 fun v31 =>
 pr.fin none v29.2 [v31, v28]) (
 (pr.parts (LV.agg [(LV.int .i64 0), (LV.int .i64 0), (LV.int .u32 0), (LV.str [])]) []).bind fun v32 =>
 sA 4 v1.2 v1.1 v32 fun v33 =>
 lA 4 v33.2 v1.1 fun v35 =>
 pr.fin none v33.2 [v35, (LV.bool false)])))) (
 bn .eql v4 (LV.int .i64 2) fun v36 =>
 condK v36 (
 condK v36 (
 lA 4 v1.2 v0 fun v38 =>
 cl g id_icmpmap_said v1.2 [v38, (LV.int .i64 3), (LV.int .i64 1), (LV.int .i64 0)] fun v39 =>
 ex v39 0 fun v40 =>
 ex v39 1 fun v41 =>
 sA 4 v1.2 v1.1 v40 fun v42 =>
 lA 4 v42.2 v1.1 fun v44 =>
 pr.fin none v42.2 [v44, v41]) (
 bn .eql v4 (LV.int .i64 1) fun v45 =>
 condK v45 (
 lA 4 v1.2 v0 fun v47 =>
 cl g id_icmpmap_said v1.2 [v47, (LV.int .i64 3), (LV.int .i64 10), (LV.int .i64 0)] fun v48 =>
 ex v48 0 fun v49 =>
 ex v48 1 fun v50 =>
 sA 4 v1.2 v1.1 v49 fun v51 =>
 lA 4 v51.2 v1.1 fun v53 =>
 pr.fin none v51.2 [v53, v50]) (
 bn .eql v4 (LV.int .i64 4) fun v54 =>
 condK v54 (
 lA 4 v1.2 v0 fun v56 =>
 cl g id_icmpmap_said v1.2 [v56, (LV.int .i64 3), (LV.int .i64 3), (LV.int .i64 0)] fun v57 =>
 ex v57 0 fun v58 =>
 ex v57 1 fun v59 =>
 sA 4 v1.2 v1.1 v58 fun v60 =>
 lA 4 v60.2 v1.1 fun v62 =>
 pr.fin none v60.2 [v62, v59]) (
 (pr.parts (LV.agg [(LV.int .i64 0), (LV.int .i64 0), (LV.int .u32 0), (LV.str [])]) []).bind fun v63 =>
 sA 4 v1.2 v1.1 v63 fun v64 =>
 lA 4 v64.2 v1.1 fun v66 =>
 pr.fin none v64.2 [v66, (LV.bool false)])))) (
 bn .eql v4 (LV.int .i64 3) fun v67 =>
 condK v67 (
 lA 4 v1.2 v0 fun v69 =>
 cl g id_icmpmap_said v1.2 [v69, (LV.int .i64 3), (LV.int .i64 1), (LV.int .i64 0)] fun v70 =>
 ex v70 0 fun v71 =>
 ex v70 1 fun v72 =>
 sA 4 v1.2 v1.1 v71 fun v73 =>
 lA 4 v73.2 v1.1 fun v75 =>
 pr.fin none v73.2 [v75, v72]) (
 bn .eql v4 (LV.int .i64 1) fun v76 =>
 condK v76 (
 lA 4 v1.2 v0 fun v78 =>
 cl g id_icmpmap_said v1.2 [v78, (LV.int .i64 3), (LV.int .i64 10), (LV.int .i64 0)] fun v79 =>
 ex v79 0 fun v80 =>
 ex v79 1 fun v81 =>
 sA 4 v1.2 v1.1 v80 fun v82 =>
 lA 4 v82.2 v1.1 fun v84 =>
 pr.fin none v82.2 [v84, v81]) (
 bn .eql v4 (LV.int .i64 4) fun v85 =>
 condK v85 (
 lA 4 v1.2 v0 fun v87 =>
 cl g id_icmpmap_said v1.2 [v87, (LV.int .i64 3), (LV.int .i64 3), (LV.int .i64 0)] fun v88 =>
 ex v88 0 fun v89 =>
 ex v88 1 fun v90 =>
 sA 4 v1.2 v1.1 v89 fun v91 =>
 lA 4 v91.2 v1.1 fun v93 =>
 pr.fin none v91.2 [v93, v90]) (
 (pr.parts (LV.agg [(LV.int .i64 0), (LV.int .i64 0), (LV.int .u32 0), (LV.str [])]) []).bind fun v94 =>
 sA 4 v1.2 v1.1 v94 fun v95 =>
 lA 4 v95.2 v1.1 fun v97 =>
 pr.fin none v95.2 [v97, (LV.bool false)])))))
theorem F_icmpmap_lost4_eq (g : Call) (a0 : LV) : fnEv g c_icmpmap_lost4 [a0] none = F_icmpmap_lost4 g a0 := by kernel_rfl

/-- interpreter/icmpmap.pointer4 -/
noncomputable def F_icmpmap_pointer4 (g : Call) (a0 : LV) : Option (LV × Option LV) :=
 bn .eql a0 (LV.int .u32 0) fun v3 =>
 gF v3 (some a0) fun v5 =>
 gF v3 (pr.bin .eql v5 (LV.int .u32 1)) fun v6 =>
 pF v3 v6 fun v7 =>
 condK v7 (
 (pr.conv .i64 a0).bind fun v10 =>
 pr.fin none noSlots [v10, (LV.bool true)]) (
 bn .eql a0 (LV.int .u32 4) fun v14 =>
 gF v14 (some a0) fun v16 =>
 gF v14 (pr.bin .eql v16 (LV.int .u32 5)) fun v17 =>
 pF v14 v17 fun v18 =>
 condK v18 (
 pr.fin none noSlots [(LV.int .i64 2), (LV.bool true)]) (
 bn .eql a0 (LV.int .u32 6) fun v23 =>
 condK v23 (
 pr.fin none noSlots [(LV.int .i64 9), (LV.bool true)]) (
 bn .eql a0 (LV.int .u32 7) fun v28 =>
 condK v28 (
 pr.fin none noSlots [(LV.int .i64 8), (LV.bool true)]) (
 bn .geq a0 (LV.int .u32 8) fun v33 =>
 gT v33 (some a0) fun v35 =>
 gT v33 (pr.bin .leq v35 (LV.int .u32 23)) fun v36 =>
 pT v33 v36 fun v37 =>
 condK v37 (
 pr.fin none noSlots [(LV.int .i64 12), (LV.bool true)]) (
 bn .geq a0 (LV.int .u32 24) fun v42 =>
 gT v42 (some a0) fun v44 =>
 gT v42 (pr.bin .leq v44 (LV.int .u32 39)) fun v45 =>
 pT v42 v45 fun v46 =>
 condK v46 (
 pr.fin none noSlots [(LV.int .i64 16), (LV.bool true)]) (
 pr.fin none noSlots [(LV.int .i64 0), (LV.bool false)]))))))
theorem F_icmpmap_pointer4_eq (g : Call) (a0 : LV) : fnEv g c_icmpmap_pointer4 [a0] none = F_icmpmap_pointer4 g a0 := by kernel_rfl

/-- interpreter/fault.update -/
noncomputable def F_fault_update (g : Call) (a0 : LV) (a1 : LV) (a2 : LV) (a3 : LV) (a4 : LV) : Option (LV × Option LV) :=
 ln a0 fun v2 =>
 bn .add a1 (LV.int .i64 2) fun v4 =>
 bn .lss v2 v4 fun v5 =>
 condK v5 (
 pr.fin none noSlots [a0]) (
 xS a0 a1 fun v10 =>
 (pr.conv .i64 v10).bind fun v11 =>
 bn .shl v11 (LV.int .u64 8) fun v12 =>
 bn .add a1 (LV.int .i64 1) fun v15 =>
 xS a0 v15 fun v16 =>
 (pr.conv .i64 v16).bind fun v17 =>
 bn .or v12 v17 fun v18 =>
 gT a4 (some v18) fun v22 =>
 gT a4 (pr.bin .eql v22 (LV.int .i64 0)) fun v23 =>
 pT a4 v23 fun v24 =>
 condK v24 (
 pr.fin none noSlots [a0]) (
 cl g id_sum_Update noSlots [v18, a2, a3] fun v30 =>
 gT a4 (some v30) fun v34 =>
 gT a4 (pr.bin .eql v34 (LV.int .i64 0)) fun v35 =>
 pT a4 v35 fun v36 =>
 condK v36 (
 sl a0 none (some a1) fun v40 =>
 cl g id_fault_big noSlots [(LV.int .i64 65535), (LV.int .i64 2)] fun v42 =>
 bn .add v40 v42 fun v43 =>
 bn .add a1 (LV.int .i64 2) fun v46 =>
 sl a0 (some v46) none fun v47 =>
 bn .add v43 v47 fun v48 =>
 pr.fin none noSlots [v48]) (
 sl a0 none (some a1) fun v52 =>
 cl g id_fault_big noSlots [v30, (LV.int .i64 2)] fun v54 =>
 bn .add v52 v54 fun v55 =>
 bn .add a1 (LV.int .i64 2) fun v58 =>
 sl a0 (some v58) none fun v59 =>
 bn .add v55 v59 fun v60 =>
 pr.fin none noSlots [v60])))
theorem F_fault_update_eq (g : Call) (a0 : LV) (a1 : LV) (a2 : LV) (a3 : LV) (a4 : LV) : fnEv g c_fault_update [a0, a1, a2, a3, a4] none = F_fault_update g a0 a1 a2 a3 a4 := by kernel_rfl

/-- (*interpreter/interpreterref01.Reader).Text -/
noncomputable def F_interpreterref01_Reader_Text (g : Call) (h : LV) (a1 : LV) : Option (LV × Option LV) :=
 (pr.nilCheck (LV.ptr 0 0 [] 0)).bind fun v3 =>
 fA 2 2 v3 fun v4 =>
 l1 (upd noSlots 0 (.obj 0 h)) v4 fun v5 =>
 bn .neq v5 (LV.int .i64 0) fun v6 =>
 condK v6 (
 (pr.nilCheck (LV.ptr 0 0 [] 0)).bind fun v8 =>
 fA 2 2 v8 fun v9 =>
 l1 (upd noSlots 0 (.obj 0 h)) v9 fun v10 =>
 pr.fin (some h) (upd noSlots 0 (.obj 0 h)) [(LV.str []), v10]) (
 bn .lss a1 (LV.int .i64 0) fun v14 =>
 condK v14 (
 (pr.nilCheck (LV.ptr 0 0 [] 0)).bind fun v16 =>
 fA 2 2 v16 fun v17 =>
 s1 (upd noSlots 0 (.obj 0 h)) v17 (LV.int .i64 1) fun v18 =>
 (pr.nilCheck (LV.ptr 0 0 [] 0)).bind fun v20 =>
 fA 2 2 v20 fun v21 =>
 l1 v18.2 v21 fun v22 =>
 bn .neq v22 (LV.int .i64 0) fun v23 =>
 condK v23 (
 (pr.nilCheck (LV.ptr 0 0 [] 0)).bind fun v26 =>
 fA 1 1 v26 fun v27 =>
 l1 v18.2 v27 fun v28 =>
 (pr.nilCheck (LV.ptr 0 0 [] 0)).bind fun v29 =>
 fA 3 3 v29 fun v30 =>
 s1 v18.2 v30 v28 fun v31 =>
 (pr.nilCheck (LV.ptr 0 0 [] 0)).bind fun v33 =>
 fA 2 2 v33 fun v34 =>
 l1 v31.2 v34 fun v35 =>
 pr.fin (some h) v31.2 [(LV.str []), v35]) (
 (whileW (fun q40 : List LV × Slots =>
 bn .lss (getL q40.1 1) a1 fun v43 =>
 condK v43 (
 (pr.nilCheck (LV.ptr 0 0 [] 0)).bind fun v46 =>
 fA 0 0 v46 fun v47 =>
 l1 q40.2 v47 fun v48 =>
 (pr.nilCheck (LV.ptr 0 0 [] 0)).bind fun v50 =>
 fA 1 1 v50 fun v51 =>
 l1 q40.2 v51 fun v52 =>
 (pr.nilCheck (LV.ptr 0 0 [] 0)).bind fun v54 =>
 fA 1 1 v54 fun v55 =>
 l1 q40.2 v55 fun v56 =>
 bn .add v56 (LV.int .i64 1) fun v57 =>
 sl v48 (some v52) (some v57) fun v58 =>
 bn .add (getL q40.1 0) v58 fun v59 =>
 (pr.nilCheck (LV.ptr 0 0 [] 0)).bind fun v63 =>
 fA 1 1 v63 fun v64 =>
 l1 q40.2 v64 fun v65 =>
 bn .add v65 (LV.int .i64 1) fun v66 =>
 (pr.nilCheck (LV.ptr 0 0 [] 0)).bind fun v67 =>
 fA 1 1 v67 fun v68 =>
 s1 q40.2 v68 v66 fun v69 =>
 bn .add (getL q40.1 1) (LV.int .i64 1) fun v71 =>
 pr.round v18.2 .normal [v59, v71] v69.2) (
 pr.round v18.2 (.exit 0) [(getL q40.1 0), (getL q40.1 1)] q40.2)) ([(LV.str []), (LV.int .i64 0)], v18.2)).bind fun r40 =>
 exIf r40.1 (.exit 0) (
 pr.fin (some h) r40.2.2 [(getL r40.2.1 0), (LV.int .i64 0)]) (none))) (
 (pr.nilCheck (LV.ptr 0 0 [] 0)).bind fun v78 =>
 fA 0 0 v78 fun v79 =>
 l1 (upd noSlots 0 (.obj 0 h)) v79 fun v80 =>
 ln v80 fun v81 =>
 bn .gtr a1 v81 fun v82 =>
 gF v82 (some (LV.ptr 0 0 [] 0)) fun v84 =>
 gF v82 (pr.nilCheck v84) fun v85 =>
 gF v82 (pr.fieldAddr 1 1 v85) fun v86 =>
 gF v82 (pr.load 1 false (upd noSlots 0 (.obj 0 h)) v86) fun v87 =>
 gF v82 (some (LV.ptr 0 0 [] 0)) fun v88 =>
 gF v82 (pr.nilCheck v88) fun v89 =>
 gF v82 (pr.fieldAddr 0 0 v89) fun v90 =>
 gF v82 (pr.load 1 false (upd noSlots 0 (.obj 0 h)) v90) fun v91 =>
 gF v82 (pr.len true v91) fun v92 =>
 gF v82 (some a1) fun v93 =>
 gF v82 (pr.bin .sub v92 v93) fun v94 =>
 gF v82 (pr.bin .gtr v87 v94) fun v95 =>
 pF v82 v95 fun v96 =>
 condK v96 (
 (pr.nilCheck (LV.ptr 0 0 [] 0)).bind fun v98 =>
 fA 2 2 v98 fun v99 =>
 s1 (upd noSlots 0 (.obj 0 h)) v99 (LV.int .i64 7) fun v100 =>
 (pr.nilCheck (LV.ptr 0 0 [] 0)).bind fun v102 =>
 fA 2 2 v102 fun v103 =>
 l1 v100.2 v103 fun v104 =>
 bn .neq v104 (LV.int .i64 0) fun v105 =>
 condK v105 (
 (pr.nilCheck (LV.ptr 0 0 [] 0)).bind fun v108 =>
 fA 1 1 v108 fun v109 =>
 l1 v100.2 v109 fun v110 =>
 (pr.nilCheck (LV.ptr 0 0 [] 0)).bind fun v111 =>
 fA 3 3 v111 fun v112 =>
 s1 v100.2 v112 v110 fun v113 =>
 (pr.nilCheck (LV.ptr 0 0 [] 0)).bind fun v115 =>
 fA 2 2 v115 fun v116 =>
 l1 v113.2 v116 fun v117 =>
 pr.fin (some h) v113.2 [(LV.str []), v117]) (
 (whileW (fun q122 : List LV × Slots =>
 bn .lss (getL q122.1 1) a1 fun v125 =>
 condK v125 (
 (pr.nilCheck (LV.ptr 0 0 [] 0)).bind fun v128 =>
 fA 0 0 v128 fun v129 =>
 l1 q122.2 v129 fun v130 =>
 (pr.nilCheck (LV.ptr 0 0 [] 0)).bind fun v132 =>
 fA 1 1 v132 fun v133 =>
 l1 q122.2 v133 fun v134 =>
 (pr.nilCheck (LV.ptr 0 0 [] 0)).bind fun v136 =>
 fA 1 1 v136 fun v137 =>
 l1 q122.2 v137 fun v138 =>
 bn .add v138 (LV.int .i64 1) fun v139 =>
 sl v130 (some v134) (some v139) fun v140 =>
 bn .add (getL q122.1 0) v140 fun v141 =>
 (pr.nilCheck (LV.ptr 0 0 [] 0)).bind fun v145 =>
 fA 1 1 v145 fun v146 =>
 l1 q122.2 v146 fun v147 =>
 bn .add v147 (LV.int .i64 1) fun v148 =>
 (pr.nilCheck (LV.ptr 0 0 [] 0)).bind fun v149 =>
 fA 1 1 v149 fun v150 =>
 s1 q122.2 v150 v148 fun v151 =>
 bn .add (getL q122.1 1) (LV.int .i64 1) fun v153 =>
 pr.round v100.2 .normal [v141, v153] v151.2) (
 pr.round v100.2 (.exit 0) [(getL q122.1 0), (getL q122.1 1)] q122.2)) ([(LV.str []), (LV.int .i64 0)], v100.2)).bind fun r122 =>
 exIf r122.1 (.exit 0) (
 pr.fin (some h) r122.2.2 [(getL r122.2.1 0), (LV.int .i64 0)]) (none))) (
 (pr.nilCheck (LV.ptr 0 0 [] 0)).bind fun v159 =>
 fA 2 2 v159 fun v160 =>
 l1 (upd noSlots 0 (.obj 0 h)) v160 fun v161 =>
 bn .neq v161 (LV.int .i64 0) fun v162 =>
 condK v162 (
 (pr.nilCheck (LV.ptr 0 0 [] 0)).bind fun v165 =>
 fA 1 1 v165 fun v166 =>
 l1 (upd noSlots 0 (.obj 0 h)) v166 fun v167 =>
 (pr.nilCheck (LV.ptr 0 0 [] 0)).bind fun v168 =>
 fA 3 3 v168 fun v169 =>
 s1 (upd noSlots 0 (.obj 0 h)) v169 v167 fun v170 =>
 (pr.nilCheck (LV.ptr 0 0 [] 0)).bind fun v172 =>
 fA 2 2 v172 fun v173 =>
 l1 v170.2 v173 fun v174 =>
 pr.fin (some h) v170.2 [(LV.str []), v174]) (
 (whileW (fun q179 : List LV × Slots =>
 bn .lss (getL q179.1 1) a1 fun v182 =>
 condK v182 (
 (pr.nilCheck (LV.ptr 0 0 [] 0)).bind fun v185 =>
 fA 0 0 v185 fun v186 =>
 l1 q179.2 v186 fun v187 =>
 (pr.nilCheck (LV.ptr 0 0 [] 0)).bind fun v189 =>
 fA 1 1 v189 fun v190 =>
 l1 q179.2 v190 fun v191 =>
 (pr.nilCheck (LV.ptr 0 0 [] 0)).bind fun v193 =>
 fA 1 1 v193 fun v194 =>
 l1 q179.2 v194 fun v195 =>
 bn .add v195 (LV.int .i64 1) fun v196 =>
 sl v187 (some v191) (some v196) fun v197 =>
 bn .add (getL q179.1 0) v197 fun v198 =>
 (pr.nilCheck (LV.ptr 0 0 [] 0)).bind fun v202 =>
 fA 1 1 v202 fun v203 =>
 l1 q179.2 v203 fun v204 =>
 bn .add v204 (LV.int .i64 1) fun v205 =>
 (pr.nilCheck (LV.ptr 0 0 [] 0)).bind fun v206 =>
 fA 1 1 v206 fun v207 =>
 s1 q179.2 v207 v205 fun v208 =>
 bn .add (getL q179.1 1) (LV.int .i64 1) fun v210 =>
 pr.round (upd noSlots 0 (.obj 0 h)) .normal [v198, v210] v208.2) (
 pr.round (upd noSlots 0 (.obj 0 h)) (.exit 0) [(getL q179.1 0), (getL q179.1 1)] q179.2)) ([(LV.str []), (LV.int .i64 0)], (upd noSlots 0 (.obj 0 h)))).bind fun r179 =>
 exIf r179.1 (.exit 0) (
 pr.fin (some h) r179.2.2 [(getL r179.2.1 0), (LV.int .i64 0)]) (none)))))
theorem F_interpreterref01_Reader_Text_eq (g : Call) (h : LV) (a1 : LV) : fnEv g c_interpreterref01_Reader_Text [(LV.ptr 0 0 [] 0), a1] (some h) = F_interpreterref01_Reader_Text g h a1 := by kernel_rfl

/-- (*interpreter/num.Reader).Text -/
noncomputable def F_num_Reader_Text (g : Call) (h : LV) (a1 : LV) : Option (LV × Option LV) :=
 eN 0 false (LV.ptr 0 0 [] 0) fun v3 =>
 condK v3 (
 (pr.parts (LV.agg [(LV.int .i64 0), (LV.int .i64 0)]) [(0, (LV.int .i64 2))]).bind fun v5 =>
 bx v5 fun v6 =>
 (pr.iface ty_ptr_num_Fault v6).bind fun v7 =>
 pr.fin (some h) (upd noSlots 0 (.obj 0 h)) [(LV.str []), v7]) (
 (pr.nilCheck (LV.ptr 0 0 [] 0)).bind fun v11 =>
 fA 2 2 v11 fun v12 =>
 l1 (upd noSlots 0 (.obj 0 h)) v12 fun v13 =>
 eN 0 true v13 fun v14 =>
 condK v14 (
 (pr.nilCheck (LV.ptr 0 0 [] 0)).bind fun v17 =>
 fA 2 2 v17 fun v18 =>
 l1 (upd noSlots 0 (.obj 0 h)) v18 fun v19 =>
 (pr.nilCheck v19).bind fun v20 =>
 lA 2 (upd noSlots 0 (.obj 0 h)) v20 fun v21 =>
 (pr.alloc (LV.agg [(LV.int .i64 0), (LV.int .i64 0)]) 7 (upd noSlots 0 (.obj 0 h))).bind fun v22 =>
 sA 2 v22.2 v22.1 v21 fun v23 =>
 (pr.iface ty_ptr_num_Fault v22.1).bind fun v24 =>
 pr.fin (some h) v23.2 [(LV.str []), v24]) (
 bn .lss a1 (LV.int .i64 0) fun v28 =>
 condK v28 (
 (pr.nilCheck (LV.ptr 0 0 [] 0)).bind fun v32 =>
 fA 1 1 v32 fun v33 =>
 l1 (upd noSlots 0 (.obj 0 h)) v33 fun v34 =>
 (pr.parts (LV.agg [(LV.int .i64 0), (LV.int .i64 0)]) [(0, (LV.int .i64 1)), (1, v34)]).bind fun v35 =>
 bx v35 fun v36 =>
 (pr.nilCheck (LV.ptr 0 0 [] 0)).bind fun v37 =>
 fA 2 2 v37 fun v38 =>
 s1 (upd noSlots 0 (.obj 0 h)) v38 v36 fun v39 =>
 (pr.nilCheck (LV.ptr 0 0 [] 0)).bind fun v41 =>
 fA 2 2 v41 fun v42 =>
 l1 v39.2 v42 fun v43 =>
 (pr.nilCheck v43).bind fun v44 =>
 lA 2 v39.2 v44 fun v45 =>
 (pr.alloc (LV.agg [(LV.int .i64 0), (LV.int .i64 0)]) 7 v39.2).bind fun v46 =>
 sA 2 v46.2 v46.1 v45 fun v47 =>
 (pr.iface ty_ptr_num_Fault v46.1).bind fun v48 =>
 pr.fin (some h) v47.2 [(LV.str []), v48]) (
 (pr.nilCheck (LV.ptr 0 0 [] 0)).bind fun v53 =>
 fA 0 0 v53 fun v54 =>
 l1 (upd noSlots 0 (.obj 0 h)) v54 fun v55 =>
 ln v55 fun v56 =>
 (pr.nilCheck (LV.ptr 0 0 [] 0)).bind fun v58 =>
 fA 1 1 v58 fun v59 =>
 l1 (upd noSlots 0 (.obj 0 h)) v59 fun v60 =>
 bn .sub v56 v60 fun v61 =>
 bn .gtr a1 v61 fun v62 =>
 condK v62 (
 (pr.nilCheck (LV.ptr 0 0 [] 0)).bind fun v66 =>
 fA 1 1 v66 fun v67 =>
 l1 (upd noSlots 0 (.obj 0 h)) v67 fun v68 =>
 (pr.parts (LV.agg [(LV.int .i64 0), (LV.int .i64 0)]) [(0, (LV.int .i64 7)), (1, v68)]).bind fun v69 =>
 bx v69 fun v70 =>
 (pr.nilCheck (LV.ptr 0 0 [] 0)).bind fun v71 =>
 fA 2 2 v71 fun v72 =>
 s1 (upd noSlots 0 (.obj 0 h)) v72 v70 fun v73 =>
 (pr.nilCheck (LV.ptr 0 0 [] 0)).bind fun v75 =>
 fA 2 2 v75 fun v76 =>
 l1 v73.2 v76 fun v77 =>
 (pr.nilCheck v77).bind fun v78 =>
 lA 2 v73.2 v78 fun v79 =>
 (pr.alloc (LV.agg [(LV.int .i64 0), (LV.int .i64 0)]) 7 v73.2).bind fun v80 =>
 sA 2 v80.2 v80.1 v79 fun v81 =>
 (pr.iface ty_ptr_num_Fault v80.1).bind fun v82 =>
 pr.fin (some h) v81.2 [(LV.str []), v82]) (
 (pr.nilCheck (LV.ptr 0 0 [] 0)).bind fun v86 =>
 fA 0 0 v86 fun v87 =>
 l1 (upd noSlots 0 (.obj 0 h)) v87 fun v88 =>
 (pr.nilCheck (LV.ptr 0 0 [] 0)).bind fun v90 =>
 fA 1 1 v90 fun v91 =>
 l1 (upd noSlots 0 (.obj 0 h)) v91 fun v92 =>
 (pr.nilCheck (LV.ptr 0 0 [] 0)).bind fun v94 =>
 fA 1 1 v94 fun v95 =>
 l1 (upd noSlots 0 (.obj 0 h)) v95 fun v96 =>
 bn .add v96 a1 fun v98 =>
 sl v88 (some v92) (some v98) fun v99 =>
 (pr.nilCheck (LV.ptr 0 0 [] 0)).bind fun v102 =>
 fA 1 1 v102 fun v103 =>
 l1 (upd noSlots 0 (.obj 0 h)) v103 fun v104 =>
 bn .add v104 a1 fun v106 =>
 (pr.nilCheck (LV.ptr 0 0 [] 0)).bind fun v107 =>
 fA 1 1 v107 fun v108 =>
 s1 (upd noSlots 0 (.obj 0 h)) v108 v106 fun v109 =>
 pr.fin (some h) v109.2 [v99, LV.nili]))))
theorem F_num_Reader_Text_eq (g : Call) (h : LV) (a1 : LV) : fnEv g c_num_Reader_Text [(LV.ptr 0 0 [] 0), a1] (some h) = F_num_Reader_Text g h a1 := by kernel_rfl

/-- interpreter/icmpmap.Plateau -/
noncomputable def F_icmpmap_Plateau (g : Call) (a0 : LV) : Option (LV × Option LV) :=
 (pr.bsl (LV.int .i64 0) 10 [(0, (LV.int .i64 65535)), (1, (LV.int .i64 32000)), (2, (LV.int .i64 17914)), (3, (LV.int .i64 8166)), (4, (LV.int .i64 4352)), (5, (LV.int .i64 2002)), (6, (LV.int .i64 1492)), (7, (LV.int .i64 1006)), (8, (LV.int .i64 508)), (9, (LV.int .i64 296))]).bind fun v1 =>
 (pr.len false v1).bind fun v2 =>
 (whileW (fun q4 : List LV × Slots =>
 bn .lss (getL q4.1 1) v2 fun v5 =>
 condK v5 (
 (pr.idxAddr none 1 v1 (getL q4.1 1)).bind fun v6 =>
 l1 q4.2 v6 fun v7 =>
 bn .lss v7 a0 fun v11 =>
 condK v11 (
 pr.round noSlots .ret [v7, (getL q4.1 1)] q4.2) (
 bn .add (getL q4.1 1) (LV.int .i64 1) fun v14 =>
 pr.round noSlots .normal [(getL q4.1 0), v14] q4.2)) (
 pr.round noSlots (.exit 0) [(getL q4.1 0), (getL q4.1 1)] q4.2)) ([(LV.int .i64 0), (LV.int .i64 0)], noSlots)).bind fun r4 =>
 exIf r4.1 (.exit 0) (
 pr.fin none r4.2.2 [(LV.int .i64 68)]) (exIf r4.1 .ret (
 pr.fin none r4.2.2 [(getL r4.2.1 0)]) (none))
theorem F_icmpmap_Plateau_eq (g : Call) (a0 : LV) : fnEv g c_icmpmap_Plateau [a0] none = F_icmpmap_Plateau g a0 := by kernel_rfl

/-- interpreter/sum.Update -/
noncomputable def F_sum_Update (g : Call) (a0 : LV) (a1 : LV) (a2 : LV) : Option (LV × Option LV) :=
 bn .and a0 (LV.int .i64 65535) fun v2 =>
 bn .sub (LV.int .i64 65535) v2 fun v3 =>
 cl g id_sum_even noSlots [a1] fun v7 =>
 cl g id_sum_add noSlots [v3, (LV.int .i64 0), v7, (LV.int .u8 255)] fun v8 =>
 cl g id_sum_fold noSlots [v8] fun v9 =>
 cl g id_sum_add noSlots [v9, (LV.int .i64 0), a2, (LV.int .u8 0)] fun v13 =>
 cl g id_sum_fold noSlots [v13] fun v14 =>
 bn .sub (LV.int .i64 65535) v14 fun v15 =>
 pr.fin none noSlots [v15]
theorem F_sum_Update_eq (g : Call) (a0 : LV) (a1 : LV) (a2 : LV) : fnEv g c_sum_Update [a0, a1, a2] none = F_sum_Update g a0 a1 a2 := by kernel_rfl

/-- interpreter/sum.even -/
noncomputable def F_sum_even (g : Call) (a0 : LV) : Option (LV × Option LV) :=
 ln a0 fun v2 =>
 bn .rem v2 (LV.int .i64 2) fun v3 =>
 bn .eql v3 (LV.int .i64 1) fun v4 =>
 condK v4 (
 bn .add a0 (LV.str [0]) fun v6 =>
 pr.fin none noSlots [v6]) (
 pr.fin none noSlots [a0])
theorem F_sum_even_eq (g : Call) (a0 : LV) : fnEv g c_sum_even [a0] none = F_sum_even g a0 := by kernel_rfl


end Go.Ev
