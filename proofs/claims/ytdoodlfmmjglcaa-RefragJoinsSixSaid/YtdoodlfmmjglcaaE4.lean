/- Part 4 of a proof: what the functions yield. It stands by itself; no condition. -/
import Derived.Test.YtdoodlfmmjglcaaE3
import Derived.KernelRfl
import Derived.Test.YtdoodlfmmjglcaaE2
namespace Go.Ev.Q
section
variable {R : Type}
noncomputable abbrev fA (a b : Nat) (x : LV) (K : LV → Option R) : Option R := (pr.fieldAddr a b x).bind K
noncomputable abbrev l1 (s : Slots) (x : LV) (K : LV → Option R) : Option R := (pr.load 1 false s x).bind K
noncomputable abbrev lA (n : Nat) (s : Slots) (x : LV) (K : LV → Option R) : Option R := (pr.load n true s x).bind K
noncomputable abbrev gT (t : LV) (X : Option LV) (K : LV → Option R) : Option R := (pr.guard t true).bind fun b => (if b = true then X else some LV.undef).bind K
noncomputable abbrev gF (t : LV) (X : Option LV) (K : LV → Option R) : Option R := (pr.guard t false).bind fun b => (if b = true then X else some LV.undef).bind K
noncomputable abbrev bn (o : BinOp) (x y : LV) (K : LV → Option R) : Option R := (pr.bin o x y).bind K
noncomputable abbrev cl (g : Tab) (f : FuncId) (s : Slots) (l : List LV) (K : LV → Option R) : Option R := (pr.call g f s l).bind K
noncomputable abbrev ex (x : LV) (i : Nat) (K : LV → Option R) : Option R := (pr.extract x i).bind K
noncomputable abbrev ln (x : LV) (K : LV → Option R) : Option R := (pr.len true x).bind K
noncomputable abbrev pT (t x : LV) (K : LV → Option R) : Option R := (pr.pick t x (LV.bool false)).bind K
noncomputable abbrev pF (t x : LV) (K : LV → Option R) : Option R := (pr.pick t (LV.bool true) x).bind K
noncomputable abbrev sA (n : Nat) (s : Slots) (x y : LV) (K : LV × Slots → Option R) : Option R := (pr.store n true s x y).bind K
noncomputable abbrev s1 (s : Slots) (x y : LV) (K : LV × Slots → Option R) : Option R := (pr.store 1 false s x y).bind K
noncomputable abbrev nt (x : LV) (K : LV → Option R) : Option R := (pr.un .not x).bind K
noncomputable abbrev bx (x : LV) (K : LV → Option R) : Option R := (pr.box x).bind K
noncomputable abbrev xS (x y : LV) (K : LV → Option R) : Option R := (pr.idxStr x y).bind K
noncomputable abbrev eN (k : Nat) (w : Bool) (x : LV) (K : LV → Option R) : Option R := (pr.eqNil k w x).bind K
noncomputable abbrev sV (n : Nat) (s : Slots) (x : LV) (y z : Option LV) (K : LV → Option R) : Option R := (pr.slcArr n s x y z).bind K
noncomputable abbrev bS (s : Slots) (x : LV) (K : LV → Option R) : Option R := (pr.b2s s x).bind K
noncomputable abbrev sl (x : LV) (y z : Option LV) (K : LV → Option R) : Option R := (pr.slc 0 x y z).bind K
noncomputable abbrev tf (t : LV) (a b : Nat) (x : LV) (K : LV → Option R) : Option R := gT t (pr.fieldAddr a b x) K
noncomputable abbrev tl (t : LV) (s : Slots) (x : LV) (K : LV → Option R) : Option R := gT t (pr.load 1 false s x) K
noncomputable abbrev ff (t : LV) (a b : Nat) (x : LV) (K : LV → Option R) : Option R := gF t (pr.fieldAddr a b x) K
noncomputable abbrev fl (t : LV) (s : Slots) (x : LV) (K : LV → Option R) : Option R := gF t (pr.load 1 false s x) K
noncomputable abbrev tb (t : LV) (o : BinOp) (x y : LV) (K : LV → Option R) : Option R := gT t (pr.bin o x y) K
noncomputable abbrev fb (t : LV) (o : BinOp) (x y : LV) (K : LV → Option R) : Option R := gF t (pr.bin o x y) K
noncomputable abbrev ts (t x : LV) (K : LV → Option R) : Option R := gT t (some x) K
noncomputable abbrev fs (t x : LV) (K : LV → Option R) : Option R := gF t (some x) K
end
abbrev i (n : Int) : LV := .int .i64 n
abbrev z : Slots := noSlots
end Go.Ev.Q
open Go.Ev.Q
namespace Go.Ev
set_option linter.unusedVariables false
set_option maxRecDepth 100000
noncomputable def F_interpreterlaw17_RefragJoinsSix_k1 (g : Tab) (q59 : List LV × Slots) (vu : LV) (vJ : LV) (a1 : LV) (a2 : LV) (vW : LV × Slots) (vY : LV) (v0 : LV × Slots) :=
 bn .add (getL q59.1 1) vu fun v05 =>
 (pr.len false vJ).bind fun v07 =>
 bn .rem v05 v07 fun v08 =>
 (pr.idxAddr none 42 vJ v08).bind fun v09 =>
 lA 42 q59.2 v09 fun v0A =>
 (pr.alloc (LV.agg [(i 0), (i 0), (i 0), (LV.bytes [0, 0, 0, 0, 0, 0, 0, 0, 0, 0, 0, 0, 0, 0, 0, 0]), (LV.bytes [0, 0, 0, 0, 0, 0, 0, 0, 0, 0, 0, 0, 0, 0, 0, 0]), LV.nils, (LV.bool false), (LV.int .u32 0), (i 0), (LV.bool false), (i 0), (LV.str [])]) 15 q59.2).bind fun v0B =>
 sA 42 v0B.2 v0B.1 v0A fun v0C =>
 lA 42 v0C.2 v0B.1 fun v0D =>
 cl g id_ip6_Bytes v0C.2 [v0D] fun v0E =>
 ex v0E 0 fun v0G =>
 ex v0E 1 fun v0H =>
 cl g id_ip6_Parse v0C.2 [v0G] fun v0L =>
 ex v0L 0 fun v0N =>
 ex v0L 1 fun v0O =>
 (pr.alloc (LV.agg [(i 0), (i 0), (i 0), (LV.bytes [0, 0, 0, 0, 0, 0, 0, 0, 0, 0, 0, 0, 0, 0, 0, 0]), (LV.bytes [0, 0, 0, 0, 0, 0, 0, 0, 0, 0, 0, 0, 0, 0, 0, 0]), LV.nils, (LV.bool false), (LV.int .u32 0), (i 0), (LV.bool false), (i 0), (LV.str [])]) 18 v0C.2).bind fun v0P =>
 sA 42 v0P.2 v0P.1 v0N fun v0Q =>
 eN 1 true v0H fun v0T =>
 fs v0T v0O fun v0V =>
 gF v0T (pr.eqNil 1 true v0V) fun v0W =>
 pF v0T v0W fun v0X =>
 gF v0X (pr.load 42 true v0Q.2 v0P.1) fun v0Z =>
 gF v0X (pr.load 42 true v0Q.2 v0B.1) fun v0a =>
 gF v0X (pr.call g id_interpreterlaw17_same6 v0Q.2 [v0Z, v0a]) fun v0b =>
 gF v0X (pr.un .not v0b) fun v0c =>
 pF v0X v0c fun v0d =>
 fs v0d v0G fun v0f =>
 gF v0d (pr.len true v0f) fun v0g =>
 fs v0d a1 fun v0h =>
 fb v0d .gtr v0g v0h fun v0i =>
 pF v0d v0i fun v0j =>
 fs v0j vJ fun v0l =>
 gF v0j (pr.len false v0l) fun v0m =>
 fb v0j .gtr v0m (i 1) fun v0n =>
 fs v0j v0n fun v0o =>
 tf v0o 6 36 v0B.1 fun v0p =>
 tl v0o v0Q.2 v0p fun v0q =>
 gT v0o (pr.un .not v0q) fun v0r =>
 ts v0o v0r fun v0s =>
 ff v0s 7 37 v0B.1 fun v0t =>
 fl v0s v0Q.2 v0t fun v0u =>
 fs v0s a2 fun v0v =>
 fb v0s .neq v0u v0v fun v0w =>
 gT v0o (pr.pick v0s (LV.bool true) v0w) fun v0x =>
 ts v0o v0x fun v0y =>
 ff v0y 9 39 v0B.1 fun v0z =>
 fl v0y v0Q.2 v0z fun v10 =>
 fs v0y v10 fun v11 =>
 ts v11 v0G fun v12 =>
 gT v11 (pr.len true v12) fun v13 =>
 tb v11 .add v13 (i 8) fun v14 =>
 ts v11 a1 fun v15 =>
 tb v11 .leq v14 v15 fun v16 =>
 gF v0y (pr.pick v11 v16 (LV.bool false)) fun v17 =>
 gT v0o (pr.pick v0y (LV.bool true) v17) fun v18 =>
 gF v0j (pr.pick v0o v18 (LV.bool false)) fun v19 =>
 pF v0j v19 fun v1A =>
 condK v1A (
 pr.round vW.2 .ret [(LV.bool false), (getL q59.1 1)] v0Q.2) (
 fA 8 38 v0B.1 fun v1D =>
 l1 v0Q.2 v1D fun v1E =>
 fA 9 39 v0B.1 fun v1F =>
 l1 v0Q.2 v1F fun v1G =>
 fA 11 41 v0B.1 fun v1H =>
 l1 v0Q.2 v1H fun v1I =>
 (pr.parts (LV.agg [(LV.str []), (LV.str []), (i 0), (LV.bool false), (LV.str []), (LV.str [])]) [(0, (LV.str [107])), (1, (LV.str [115])), (2, v1E), (3, v1G), (4, v1I)]).bind fun v1J =>
 (pr.inl g id_frag_Store_Put v0Q.2 [vY, v1J, (i 1)]).bind fun v1K =>
 ex v1K.1 0 fun v1M =>
 ex v1K.1 1 fun v1N =>
 ex v1K.1 2 fun v1O =>
 (pr.alloc (LV.agg [(LV.str []), (LV.str []), (LV.str []), (i 0)]) 20 v1K.2).bind fun v1P =>
 sA 4 v1P.2 v1P.1 v1M fun v1Q =>
 bn .neq v1O (i 0) fun v1U =>
 fs v1U v1N fun v1W =>
 fs v1U (getL q59.1 1) fun v1X =>
 fs v1U vJ fun v1Y =>
 gF v1U (pr.len false v1Y) fun v1Z =>
 fb v1U .sub v1Z (i 1) fun v1a =>
 fb v1U .eql v1X v1a fun v1b =>
 gF v1U (pr.eqB true v1W v1b) fun v1c =>
 pF v1U v1c fun v1d =>
 fs v1d v1N fun v1f =>
 fs v1d v1f fun v1g =>
 tf v1g 2 2 v1P.1 fun v1h =>
 tl v1g v1Q.2 v1h fun v1i =>
 tf v1g 11 41 v0.1 fun v1j =>
 tl v1g v1Q.2 v1j fun v1k =>
 tb v1g .neq v1i v1k fun v1l =>
 gF v1d (pr.pick v1g v1l (LV.bool false)) fun v1m =>
 pF v1d v1m fun v1n =>
 condK v1n (
 pr.round vW.2 .ret [(LV.bool false), (getL q59.1 1)] v1Q.2) (
 bn .add (getL q59.1 1) (i 1) fun v1q =>
 pr.round vW.2 .normal [(getL q59.1 0), v1q] v1Q.2))
noncomputable def F_interpreterlaw17_RefragJoinsSix (g : Tab) (a0 : LV) (a1 : LV) (a2 : LV) (a3 : LV) : Option (LV × Option LV) :=
 (pr.boxM a0 4 z).bind fun v0 =>
 fA 6 36 v0.1 fun v2 =>
 s1 v0.2 v2 (LV.bool false) fun v3 =>
 fA 7 37 v0.1 fun v4 =>
 s1 v3.2 v4 (LV.int .u32 0) fun v5 =>
 fA 8 38 v0.1 fun v6 =>
 s1 v5.2 v6 (i 0) fun v7 =>
 fA 9 39 v0.1 fun v8 =>
 s1 v7.2 v8 (LV.bool false) fun v9 =>
 lA 42 v9.2 v0.1 fun vA =>
 cl g id_interpreterlaw17_Great6 v9.2 [vA] fun vB =>
 condK vB (
 cl g id_interpreterlaw17_wakes v9.2 [] fun vC =>
 pr.fin none v9.2 [vC]) (
 lA 42 v9.2 v0.1 fun vE =>
 cl g id_refrag_Cut6 v9.2 [vE, a1, a2] fun vH =>
 ex vH 0 fun vJ =>
 ex vH 1 fun vK =>
 bn .neq vK (i 0) fun vO =>
 condK vO (
 (pr.len false vJ).bind fun vQ =>
 bn .eql vQ (i 0) fun vR =>
 gT vR (pr.call g id_interpreterlaw17_wakes v9.2 []) fun vT =>
 pT vR vT fun vU =>
 pr.fin none v9.2 [vU]) (
 (pr.inl g id_frag_New v9.2 [(i 5000), (i 5000)]).bind fun vW =>
 ex vW.1 0 fun vY =>
 ex vW.1 1 fun vZ =>
 bn .neq vZ (i 0) fun vd =>
 fs vd vJ fun vf =>
 gF vd (pr.len false vf) fun vg =>
 fb vd .eql vg (i 0) fun vh =>
 pF vd vh fun vi =>
 condK vi (
 pr.fin none vW.2 [(LV.bool false)]) (
 (pr.len false vJ).bind fun vm =>
 bn .rem a3 vm fun vn =>
 bn .lss vn (i 0) fun vq =>
 condK vq (
 (pr.len false vJ).bind fun vt =>
 bn .add vn vt fun vu =>
 (whileW (fun q59 : List LV × Slots =>
 (pr.len false vJ).bind fun v00 =>
 bn .lss (getL q59.1 1) v00 fun v01 =>
 condK v01 (F_interpreterlaw17_RefragJoinsSix_k1 g q59 vu vJ a1 a2 vW vY v0) (
 pr.round vW.2 (.exit 0) [(getL q59.1 0), (getL q59.1 1)] q59.2)) ([(LV.bool false), (i 0)], vW.2)).bind fun r59 =>
 exIf r59.1 (.exit 0) (
 cl g id_interpreterlaw17_wakes r59.2.2 [] fun v1s =>
 pr.fin none r59.2.2 [v1s]) (exIf r59.1 .ret (
 pr.fin none r59.2.2 [(getL r59.2.1 0)]) (exIf r59.1 .ret (
 pr.fin none r59.2.2 [(getL r59.2.1 0)]) (none)))) (
 (whileW (fun q181 : List LV × Slots =>
 (pr.len false vJ).bind fun v1y =>
 bn .lss (getL q181.1 1) v1y fun v1z =>
 condK v1z (F_interpreterlaw17_RefragJoinsSix_k1 g q181 vn vJ a1 a2 vW vY v0) (
 pr.round vW.2 (.exit 0) [(getL q181.1 0), (getL q181.1 1)] q181.2)) ([(LV.bool false), (i 0)], vW.2)).bind fun r181 =>
 exIf r181.1 (.exit 0) (
 cl g id_interpreterlaw17_wakes r181.2.2 [] fun v3q =>
 pr.fin none r181.2.2 [v3q]) (exIf r181.1 .ret (
 pr.fin none r181.2.2 [(getL r181.2.1 0)]) (exIf r181.1 .ret (
 pr.fin none r181.2.2 [(getL r181.2.1 0)]) (none)))))))
theorem F_interpreterlaw17_RefragJoinsSix_eq (g : Tab) (a0 : LV) (a1 : LV) (a2 : LV) (a3 : LV) : fnEv g c_interpreterlaw17_RefragJoinsSix [a0, a1, a2, a3] none = F_interpreterlaw17_RefragJoinsSix g a0 a1 a2 a3 := by kernel_rfl
noncomputable def F_interpreterlaw17_Great4 (g : Tab) (a0 : LV) : Option (LV × Option LV) :=
 bx a0 fun v0 =>
 fA 10 16 v0 fun v2 =>
 l1 z v2 fun v3 =>
 ln v3 fun v4 =>
 bn .gtr v4 (i 4000) fun v5 =>
 ff v5 9 15 v0 fun v7 =>
 fl v5 z v7 fun v8 =>
 gF v5 (pr.len true v8) fun v9 =>
 fb v5 .gtr v9 (i 100) fun vA =>
 pF v5 vA fun vB =>
 pr.fin none z [vB]
theorem F_interpreterlaw17_Great4_eq (g : Tab) (a0 : LV) : fnEv g c_interpreterlaw17_Great4 [a0] none = F_interpreterlaw17_Great4 g a0 := by kernel_rfl
noncomputable def F_interpreterlaw17_wakes (g : Tab) : Option (LV × Option LV) :=
 cl g id_interpreterlaw17_four z [(i 100)] fun v1 =>
 cl g id_refrag_Cut4 z [v1, (i 68)] fun v2 =>
 ex v2 0 fun v4 =>
 ex v2 1 fun v5 =>
 cl g id_interpreterlaw17_six z [(i 1241)] fun v8 =>
 cl g id_refrag_Cut6 z [v8, (i 1280), (LV.int .u32 7)] fun v9 =>
 ex v9 0 fun vB =>
 ex v9 1 fun vC =>
 bn .eql v5 (i 0) fun vG =>
 ts vG v4 fun vI =>
 gT vG (pr.len false vI) fun vJ =>
 tb vG .eql vJ (i 3) fun vK =>
 pT vG vK fun vL =>
 ts vL v4 fun vN =>
 gT vL (pr.idxAddr none 17 vN (i 1)) fun vO =>
 tf vL 4 4 vO fun vP =>
 tl vL z vP fun vQ =>
 tb vL .eql vQ (i 48) fun vR =>
 pT vL vR fun vS =>
 ts vS v4 fun vU =>
 gT vS (pr.idxAddr none 17 vU (i 2)) fun vV =>
 tf vS 10 16 vV fun vW =>
 tl vS z vW fun vX =>
 gT vS (pr.len true vX) fun vY =>
 tb vS .eql vY (i 4) fun vZ =>
 pT vS vZ fun va =>
 ts va v4 fun vc =>
 gT va (pr.idxAddr none 17 vc (i 1)) fun vd =>
 tf va 6 6 vd fun ve =>
 tl va z ve fun vf =>
 pT va vf fun vg =>
 ts vg v4 fun vi =>
 gT vg (pr.idxAddr none 17 vi (i 2)) fun vj =>
 tf vg 6 6 vj fun vk =>
 tl vg z vk fun vl =>
 gT vg (pr.un .not vl) fun vm =>
 pT vg vm fun vn =>
 ts vn vC fun vp =>
 tb vn .eql vp (i 0) fun vq =>
 pT vn vq fun vr =>
 ts vr vB fun vt =>
 gT vr (pr.len false vt) fun vu =>
 tb vr .eql vu (i 2) fun vv =>
 pT vr vv fun vw =>
 ts vw vB fun vy =>
 gT vw (pr.idxAddr none 42 vy (i 1)) fun vz =>
 tf vw 8 38 vz fun v00 =>
 tl vw z v00 fun v01 =>
 tb vw .eql v01 (i 1232) fun v02 =>
 pT vw v02 fun v03 =>
 ts v03 vB fun v05 =>
 gT v03 (pr.idxAddr none 42 v05 (i 1)) fun v06 =>
 tf v03 7 37 v06 fun v07 =>
 tl v03 z v07 fun v08 =>
 tb v03 .eql v08 (LV.int .u32 7) fun v09 =>
 pT v03 v09 fun v0A =>
 gT v0A (pr.call g id_interpreterlaw17_four z [(i 10)]) fun v0C =>
 gT v0A (pr.call g id_refrag_Len4 z [v0C]) fun v0D =>
 tb v0A .eql v0D (i 30) fun v0E =>
 pT v0A v0E fun v0F =>
 pr.fin none z [v0F]
theorem F_interpreterlaw17_wakes_eq (g : Tab) : fnEv g c_interpreterlaw17_wakes [] none = F_interpreterlaw17_wakes g := by kernel_rfl
noncomputable def F_refrag_Cut4 (g : Tab) (a0 : LV) (a1 : LV) : Option (LV × Option LV) :=
 bx a0 fun v0 =>
 lA 17 z v0 fun v3 =>
 cl g id_refrag_Len4 z [v3] fun v4 =>
 bn .eql v4 (i 0) fun v7 =>
 fs v7 a1 fun v9 =>
 fb v7 .lss v9 (i 68) fun vA =>
 pF v7 vA fun vB =>
 fs vB a1 fun vD =>
 fb vB .gtr vD (i 65535) fun vE =>
 pF vB vE fun vF =>
 condK vF (
 pr.fin none z [LV.nils, (i 1)]) (
 bn .leq v4 a1 fun vL =>
 condK vL (
 lA 17 z v0 fun vN =>
 (pr.bsl (LV.agg [(i 0), (i 0), (i 0), (i 0), (i 0), (LV.bool false), (LV.bool false), (LV.bytes [0, 0, 0, 0]), (LV.bytes [0, 0, 0, 0]), (LV.str []), (LV.str [])]) 1 [(0, vN)]).bind fun vO =>
 pr.fin none z [vO, (i 0)]) (
 fA 5 5 v0 fun vR =>
 l1 z vR fun vS =>
 condK vS (
 pr.fin none z [LV.nils, (i 3)]) (
 fA 10 16 v0 fun vY =>
 l1 z vY fun vZ =>
 ln vZ fun va =>
 bn .sub v4 va fun vb =>
 bn .sub a1 vb fun vc =>
 bn .quo vc (i 8) fun vd =>
 bn .mul vd (i 8) fun ve =>
 (pr.nilT 17 8 z).bind fun vg =>
 fA 10 16 v0 fun vh =>
 l1 vg.2 vh fun vi =>
 ln vi fun vj =>
 cl g id_refrag_pieces vg.2 [vj, ve] fun vl =>
 (pr.len false vl).bind fun vm =>
 (whileW (fun q50 : List LV × Slots =>
 bn .lss (getL q50.1 1) vm fun vp =>
 condK vp (
 (pr.idxAddr none 2 vl (getL q50.1 1)).bind fun vq =>
 lA 2 q50.2 vq fun vr =>
 (pr.alloc (LV.agg [(i 0), (i 0)]) 10 q50.2).bind fun vs =>
 sA 2 vs.2 vs.1 vr fun vt =>
 lA 17 vt.2 v0 fun vu =>
 (pr.alloc (LV.agg [(i 0), (i 0), (i 0), (i 0), (i 0), (LV.bool false), (LV.bool false), (LV.bytes [0, 0, 0, 0]), (LV.bytes [0, 0, 0, 0]), (LV.str []), (LV.str [])]) 11 vt.2).bind fun vv =>
 sA 17 vv.2 vv.1 vu fun vw =>
 fA 4 4 v0 fun vx =>
 l1 vw.2 vx fun vy =>
 fA 0 0 vs.1 fun vz =>
 l1 vw.2 vz fun v00 =>
 bn .add vy v00 fun v01 =>
 fA 10 16 v0 fun v02 =>
 l1 vw.2 v02 fun v03 =>
 fA 0 0 vs.1 fun v04 =>
 l1 vw.2 v04 fun v05 =>
 fA 1 1 vs.1 fun v06 =>
 l1 vw.2 v06 fun v07 =>
 sl v03 (some v05) (some v07) fun v08 =>
 fA 6 6 v0 fun v09 =>
 l1 vw.2 v09 fun v0A =>
 ff v0A 1 1 vs.1 fun v0C =>
 fl v0A vw.2 v0C fun v0D =>
 ff v0A 10 16 v0 fun v0E =>
 fl v0A vw.2 v0E fun v0F =>
 gF v0A (pr.len true v0F) fun v0G =>
 fb v0A .lss v0D v0G fun v0H =>
 pF v0A v0H fun v0I =>
 fA 4 4 vv.1 fun v0J =>
 s1 vw.2 v0J v01 fun v0K =>
 fA 10 16 vv.1 fun v0L =>
 s1 v0K.2 v0L v08 fun v0M =>
 fA 6 6 vv.1 fun v0N =>
 s1 v0M.2 v0N v0I fun v0O =>
 if noMeet v02 v0J = true then (if noMeet v04 v0J = true then (if noMeet v06 v0J = true then (if noMeet v0C v0J = true then (if noMeet v0E v0J = true then (if noMeet v0C v0L = true then (if noMeet v0E v0L = true then ((pr.load 17 true v0O.2 vv.1).bind fun v0Q =>
 (pr.bsl (LV.agg [(i 0), (i 0), (i 0), (i 0), (i 0), (LV.bool false), (LV.bool false), (LV.bytes [0, 0, 0, 0]), (LV.bytes [0, 0, 0, 0]), (LV.str []), (LV.str [])]) 1 [(0, v0Q)]).bind fun v0R =>
 (pr.append 17 88 82 v0O.2 (getL q50.1 0) v0R).bind fun v0S =>
 bn .add (getL q50.1 1) (i 1) fun v0U =>
 pr.round vg.2 .normal [v0S.1, v0U] v0S.2) else none) else none) else none) else none) else none) else none) else none) (
 pr.round vg.2 (.exit 1) [(getL q50.1 0), (getL q50.1 1)] q50.2)) ([vg.1, (i 0)], vg.2)).bind fun r50 =>
 exIf r50.1 (.exit 1) (
 pr.fin none r50.2.2 [(getL r50.2.1 0), (i 0)]) (none))))
theorem F_refrag_Cut4_eq (g : Tab) (a0 : LV) (a1 : LV) : fnEv g c_refrag_Cut4 [a0, a1] none = F_refrag_Cut4 g a0 a1 := by kernel_rfl
noncomputable def F_frag_New (g : Tab) (a0 : LV) (a1 : LV) (hs : Slots) : Option (LV × Slots) :=
 bn .lss a0 (i 1) fun v3 =>
 fs v3 a0 fun v5 =>
 fb v3 .gtr v5 (i 65536) fun v6 =>
 pF v3 v6 fun v7 =>
 fs v7 a1 fun v9 =>
 fb v7 .lss v9 (i 1) fun vA =>
 pF v7 vA fun vB =>
 fs vB a1 fun vD =>
 fb vB .gtr vD (i 65536) fun vE =>
 pF vB vE fun vF =>
 condK vF (
 pr.finH hs [LV.nilp, (i 1)]) (
 (pr.mapNewH 1000001 hs).bind fun vK =>
 (pr.mapNewH 1000002 vK.2).bind fun vL =>
 (pr.parts (LV.agg [(i 0), (i 0), (i 0), (i 0), LV.nilm, LV.nilm]) [(0, a0), (1, a1), (4, vK.1), (5, vL.1)]).bind fun vM =>
 (pr.boxH 1000000 vL.2 vM).bind fun vN =>
 pr.finH vN.2 [vN.1, (i 0)])
theorem F_frag_New_eq (g : Tab) (a0 : LV) (a1 : LV) (hs : Slots) : hfnEv g c_frag_New [a0, a1] hs = F_frag_New g a0 a1 hs := by kernel_rfl
noncomputable def F_ip4_Bytes_k1 (g : Tab) (v0 : LV) (vJ : LV) :=
 fA 9 15 v0 fun v0P =>
 l1 z v0P fun v0Q =>
 ln v0Q fun v0R =>
 bn .add (i 20) v0R fun v0S =>
 bn .quo v0S (i 4) fun v0V =>
 bn .add (i 64) v0V fun v0W =>
 cl g id_ip4_big z [v0W, (i 1)] fun v0X =>
 fA 0 0 v0 fun v0Y =>
 l1 z v0Y fun v0Z =>
 cl g id_ip4_big z [v0Z, (i 1)] fun v0a =>
 bn .add v0X v0a fun v0b =>
 fA 10 16 v0 fun v0d =>
 l1 z v0d fun v0e =>
 ln v0e fun v0f =>
 bn .add v0S v0f fun v0g =>
 cl g id_ip4_big z [v0g, (i 2)] fun v0h =>
 bn .add v0b v0h fun v0i =>
 fA 1 1 v0 fun v0j =>
 l1 z v0j fun v0k =>
 cl g id_ip4_big z [v0k, (i 2)] fun v0l =>
 bn .add v0i v0l fun v0m =>
 cl g id_ip4_big z [vJ, (i 2)] fun v0o =>
 bn .add v0m v0o fun v0p =>
 fA 2 2 v0 fun v0q =>
 l1 z v0q fun v0r =>
 cl g id_ip4_big z [v0r, (i 1)] fun v0s =>
 bn .add v0p v0s fun v0t =>
 fA 3 3 v0 fun v0u =>
 l1 z v0u fun v0v =>
 cl g id_ip4_big z [v0v, (i 1)] fun v0w =>
 bn .add v0t v0w fun v0x =>
 fA 7 7 v0 fun v0z =>
 sV 4 z v0z none none fun v10 =>
 bS z v10 fun v11 =>
 fA 8 11 v0 fun v12 =>
 sV 4 z v12 none none fun v13 =>
 bS z v13 fun v14 =>
 bn .add v11 v14 fun v15 =>
 fA 9 15 v0 fun v16 =>
 l1 z v16 fun v17 =>
 bn .add v15 v17 fun v18 =>
 (pr.bsl (LV.str []) 2 [(0, v0x), (1, v18)]).bind fun v1D =>
 cl g id_sum_Of z [v1D] fun v1E =>
 cl g id_ip4_big z [v1E, (i 2)] fun v1F =>
 bn .add v0x v1F fun v1G =>
 bn .add v1G v18 fun v1I =>
 fA 10 16 v0 fun v1J =>
 l1 z v1J fun v1K =>
 bn .add v1I v1K fun v1L =>
 pr.fin none z [v1L, LV.nili]
noncomputable def F_ip4_Bytes_k2 (g : Tab) (vJ : LV) (v0 : LV) :=
 bn .or vJ (i 8192) fun vO =>
 fA 9 15 v0 fun vQ =>
 l1 z vQ fun vR =>
 ln vR fun vS =>
 bn .add (i 20) vS fun vT =>
 bn .quo vT (i 4) fun vW =>
 bn .add (i 64) vW fun vX =>
 cl g id_ip4_big z [vX, (i 1)] fun vY =>
 fA 0 0 v0 fun vZ =>
 l1 z vZ fun va =>
 cl g id_ip4_big z [va, (i 1)] fun vb =>
 bn .add vY vb fun vc =>
 fA 10 16 v0 fun ve =>
 l1 z ve fun vf =>
 ln vf fun vg =>
 bn .add vT vg fun vh =>
 cl g id_ip4_big z [vh, (i 2)] fun vi =>
 bn .add vc vi fun vj =>
 fA 1 1 v0 fun vk =>
 l1 z vk fun vl =>
 cl g id_ip4_big z [vl, (i 2)] fun vm =>
 bn .add vj vm fun vn =>
 cl g id_ip4_big z [vO, (i 2)] fun vp =>
 bn .add vn vp fun vq =>
 fA 2 2 v0 fun vr =>
 l1 z vr fun vs =>
 cl g id_ip4_big z [vs, (i 1)] fun vt =>
 bn .add vq vt fun vu =>
 fA 3 3 v0 fun vv =>
 l1 z vv fun vw =>
 cl g id_ip4_big z [vw, (i 1)] fun vx =>
 bn .add vu vx fun vy =>
 fA 7 7 v0 fun v00 =>
 sV 4 z v00 none none fun v01 =>
 bS z v01 fun v02 =>
 fA 8 11 v0 fun v03 =>
 sV 4 z v03 none none fun v04 =>
 bS z v04 fun v05 =>
 bn .add v02 v05 fun v06 =>
 fA 9 15 v0 fun v07 =>
 l1 z v07 fun v08 =>
 bn .add v06 v08 fun v09 =>
 (pr.bsl (LV.str []) 2 [(0, vy), (1, v09)]).bind fun v0E =>
 cl g id_sum_Of z [v0E] fun v0F =>
 cl g id_ip4_big z [v0F, (i 2)] fun v0G =>
 bn .add vy v0G fun v0H =>
 bn .add v0H v09 fun v0J =>
 fA 10 16 v0 fun v0K =>
 l1 z v0K fun v0L =>
 bn .add v0J v0L fun v0M =>
 pr.fin none z [v0M, LV.nili]
noncomputable def F_ip4_Bytes (g : Tab) (a0 : LV) : Option (LV × Option LV) :=
 bx a0 fun v0 =>
 lA 17 z v0 fun v3 =>
 cl g id_ip4_why z [v3] fun v4 =>
 bn .neq v4 (i 0) fun v7 =>
 condK v7 (
 cl g id_ip4_fault z [v4] fun v9 =>
 pr.fin none z [(LV.str []), v9]) (
 fA 4 4 v0 fun vC =>
 l1 z vC fun vD =>
 bn .quo vD (i 8) fun vE =>
 fA 5 5 v0 fun vG =>
 l1 z vG fun vH =>
 condK vH (
 bn .or vE (i 16384) fun vJ =>
 fA 6 6 v0 fun vL =>
 l1 z vL fun vM =>
 condK vM (F_ip4_Bytes_k2 g vJ v0) (F_ip4_Bytes_k1 g v0 vJ)) (
 fA 6 6 v0 fun v1O =>
 l1 z v1O fun v1P =>
 condK v1P (F_ip4_Bytes_k2 g vE v0) (F_ip4_Bytes_k1 g v0 vE)))
theorem F_ip4_Bytes_eq (g : Tab) (a0 : LV) : fnEv g c_ip4_Bytes [a0] none = F_ip4_Bytes g a0 := by kernel_rfl
noncomputable def F_frag_Store_Put (g : Tab) (a0 : LV) (a1 : LV) (a2 : LV) (hs : Slots) : Option (LV × Slots) :=
 bx a1 fun v0 =>
 (pr.alloc (LV.agg [(LV.str []), (LV.str []), (LV.str []), (i 0)]) 6 hs).bind fun v1 =>
 (pr.inl g id_frag_Store_none v1.2 [a0]).bind fun v5 =>
 condK v5.1 (
 (pr.parts (LV.agg [(LV.str []), (LV.str []), (LV.str []), (i 0)]) []).bind fun v7 =>
 sA 4 v5.2 v1.1 v7 fun v8 =>
 lA 4 v8.2 v1.1 fun vB =>
 pr.finH v8.2 [vB, (LV.bool false), (i 2)]) (
 bn .lss a2 (i 0) fun vD =>
 fs vD a2 fun vF =>
 fb vD .gtr vF (i 4611686018427387904) fun vG =>
 pF vD vG fun vH =>
 condK vH (
 (pr.parts (LV.agg [(LV.str []), (LV.str []), (LV.str []), (i 0)]) []).bind fun vJ =>
 sA 4 v5.2 v1.1 vJ fun vK =>
 lA 4 vK.2 v1.1 fun vN =>
 pr.finH vK.2 [vN, (LV.bool false), (i 1)]) (
 lA 6 v5.2 v0 fun vO =>
 cl g id_frag_Right v5.2 [vO] fun vP =>
 nt vP fun vQ =>
 condK vQ (
 (pr.parts (LV.agg [(LV.str []), (LV.str []), (LV.str []), (i 0)]) []).bind fun vS =>
 sA 4 v5.2 v1.1 vS fun vT =>
 lA 4 vT.2 v1.1 fun vW =>
 pr.finH vT.2 [vW, (LV.bool false), (i 8)]) (
 (pr.nilCheck a0).bind fun vY =>
 fA 4 4 vY fun vZ =>
 l1 v5.2 vZ fun va =>
 fA 0 0 v0 fun vb =>
 l1 v5.2 vb fun vc =>
 (pr.mapGet none LV.nilp true v5.2 va vc).bind fun vd =>
 ex vd 0 fun vf =>
 ex vd 1 fun vg =>
 ts vg vf fun vl =>
 gT vg (pr.nilCheck vl) fun vm =>
 tf vg 3 3 vm fun vn =>
 tl vg v5.2 vn fun vo =>
 gT vg (pr.load 6 true v5.2 v0) fun vp =>
 gT vg (pr.mkMth id_frag_Piece_same vp) fun vq =>
 (pr.guard vg true).bind fun b53 =>
 (if b53 = true then pr.inl g id_slices_ContainsFunc_frag_Piece_frag_Piece v5.2 [vo, vq] else some (LV.undef, v5.2)).bind fun vr =>
 pT vg vr.1 fun vs =>
 condK vs (
 (pr.parts (LV.agg [(LV.str []), (LV.str []), (LV.str []), (i 0)]) []).bind fun vt =>
 sA 4 vr.2 v1.1 vt fun vu =>
 lA 4 vu.2 v1.1 fun vx =>
 pr.finH vu.2 [vx, (LV.bool false), (i 0)]) (
 ts vg vf fun v00 =>
 gT vg (pr.load 6 true vr.2 v0) fun v01 =>
 (pr.guard vg true).bind fun b64 =>
 (if b64 = true then pr.inl g id_frag_datagram_fits vr.2 [v00, v01] else some (LV.undef, vr.2)).bind fun v02 =>
 gT vg (pr.un .not v02.1) fun v03 =>
 pT vg v03 fun v04 =>
 condK v04 (
 fA 0 0 v0 fun v06 =>
 l1 v02.2 v06 fun v07 =>
 (pr.inl g id_frag_Store_cut v02.2 [a0, v07]).bind fun v08 =>
 (pr.parts (LV.agg [(LV.str []), (LV.str []), (LV.str []), (i 0)]) []).bind fun v09 =>
 sA 4 v08.2 v1.1 v09 fun v0A =>
 lA 4 v0A.2 v1.1 fun v0D =>
 pr.finH v0A.2 [v0D, (LV.bool false), (i 5)]) (
 nt vg fun v0F =>
 tf v0F 2 2 v0 fun v0H =>
 tl v0F v02.2 v0H fun v0I =>
 tb v0F .eql v0I (i 0) fun v0J =>
 pT v0F v0J fun v0K =>
 tf v0K 3 3 v0 fun v0M =>
 tl v0K v02.2 v0M fun v0N =>
 gT v0K (pr.un .not v0N) fun v0O =>
 pT v0K v0O fun v0P =>
 condK v0P (
 fA 0 0 v0 fun v0Q =>
 l1 v02.2 v0Q fun v0R =>
 fA 5 5 v0 fun v0S =>
 l1 v02.2 v0S fun v0T =>
 fA 4 4 v0 fun v0U =>
 l1 v02.2 v0U fun v0V =>
 (pr.parts (LV.agg [(LV.str []), (LV.str []), (LV.str []), (i 0)]) [(0, v0R), (1, v0T), (2, v0V), (3, (i 1))]).bind fun v0W =>
 sA 4 v02.2 v1.1 v0W fun v0X =>
 lA 4 v0X.2 v1.1 fun v0a =>
 pr.finH v0X.2 [v0a, (LV.bool true), (i 0)]) (
 (pr.nilCheck a0).bind fun v0c =>
 fA 3 3 v0c fun v0d =>
 l1 v02.2 v0d fun v0e =>
 (pr.nilCheck a0).bind fun v0g =>
 fA 0 0 v0g fun v0h =>
 l1 v02.2 v0h fun v0i =>
 bn .geq v0e v0i fun v0j =>
 condK v0j (
 (pr.parts (LV.agg [(LV.str []), (LV.str []), (LV.str []), (i 0)]) []).bind fun v0l =>
 sA 4 v02.2 v1.1 v0l fun v0m =>
 lA 4 v0m.2 v1.1 fun v0p =>
 pr.finH v0m.2 [v0p, (LV.bool false), (i 6)]) (
 (pr.nilCheck a0).bind fun v0r =>
 fA 5 5 v0r fun v0s =>
 l1 v02.2 v0s fun v0t =>
 fA 1 1 v0 fun v0u =>
 l1 v02.2 v0u fun v0v =>
 (pr.mapGet none (i 0) false v02.2 v0t v0v).bind fun v0w =>
 (pr.nilCheck a0).bind fun v0y =>
 fA 1 1 v0y fun v0z =>
 l1 v02.2 v0z fun v10 =>
 bn .geq v0w v10 fun v11 =>
 condK v11 (
 (pr.parts (LV.agg [(LV.str []), (LV.str []), (LV.str []), (i 0)]) []).bind fun v13 =>
 sA 4 v02.2 v1.1 v13 fun v14 =>
 lA 4 v14.2 v1.1 fun v17 =>
 pr.finH v14.2 [v17, (LV.bool false), (i 11)]) (
 lA 6 v02.2 v0 fun v19 =>
 (pr.inl g id_frag_Store_takes v02.2 [a0, v19, a2]).bind fun v1B =>
 (pr.nilCheck a0).bind fun v1D =>
 fA 4 4 v1D fun v1E =>
 l1 v1B.2 v1E fun v1F =>
 fA 0 0 v0 fun v1G =>
 l1 v1B.2 v1G fun v1H =>
 (pr.mapGet none LV.nilp false v1B.2 v1F v1H).bind fun v1I =>
 fA 0 0 v0 fun v1J =>
 l1 v1B.2 v1J fun v1K =>
 (pr.inl g id_frag_datagram_whole v1B.2 [v1I, v1K]).bind fun v1L =>
 ex v1L.1 0 fun v1N =>
 ex v1L.1 1 fun v1O =>
 sA 4 v1L.2 v1.1 v1N fun v1P =>
 condK v1O (
 fA 0 0 v0 fun v1T =>
 l1 v1P.2 v1T fun v1U =>
 (pr.inl g id_frag_Store_cut v1P.2 [a0, v1U]).bind fun v1V =>
 lA 4 v1V.2 v1.1 fun v1W =>
 sA 4 v1V.2 v1.1 v1W fun v1Y =>
 lA 4 v1Y.2 v1.1 fun v1b =>
 pr.finH v1Y.2 [v1b, v1O, (i 0)]) (
 lA 4 v1P.2 v1.1 fun v1c =>
 sA 4 v1P.2 v1.1 v1c fun v1e =>
 lA 4 v1e.2 v1.1 fun v1h =>
 pr.finH v1e.2 [v1h, v1O, (i 0)])))))))))
theorem F_frag_Store_Put_eq (g : Tab) (a0 : LV) (a1 : LV) (a2 : LV) (hs : Slots) : hfnEv g c_frag_Store_Put [a0, a1, a2] hs = F_frag_Store_Put g a0 a1 a2 hs := by kernel_rfl
noncomputable def F_interpreterlaw17_Great6 (g : Tab) (a0 : LV) : Option (LV × Option LV) :=
 bx a0 fun v0 =>
 fA 5 35 v0 fun v2 =>
 l1 z v2 fun v3 =>
 (pr.len false v3).bind fun v4 =>
 bn .gtr v4 (i 20) fun v5 =>
 ff v5 11 41 v0 fun v7 =>
 fl v5 z v7 fun v8 =>
 gF v5 (pr.len true v8) fun v9 =>
 fb v5 .gtr v9 (i 4000) fun vA =>
 pF v5 vA fun vB =>
 condK vB (
 pr.fin none z [(LV.bool true)]) (
 (whileW (fun q14 : List LV × Slots =>
 fA 5 35 v0 fun vG =>
 l1 q14.2 vG fun vH =>
 (pr.len false vH).bind fun vI =>
 bn .lss (getL q14.1 1) vI fun vJ =>
 condK vJ (
 fA 5 35 v0 fun vK =>
 l1 q14.2 vK fun vL =>
 (pr.idxAddr none 2 vL (getL q14.1 1)).bind fun vN =>
 fA 1 1 vN fun vO =>
 l1 q14.2 vO fun vP =>
 ln vP fun vQ =>
 bn .gtr vQ (i 2100) fun vR =>
 condK vR (
 pr.round z .ret [(LV.bool true), (getL q14.1 1)] q14.2) (
 bn .add (getL q14.1 1) (i 1) fun vU =>
 pr.round z .normal [(getL q14.1 0), vU] q14.2)) (
 pr.round z (.exit 0) [(getL q14.1 0), (getL q14.1 1)] q14.2)) ([(LV.bool false), (i 0)], z)).bind fun r14 =>
 exIf r14.1 (.exit 0) (
 pr.fin none r14.2.2 [(LV.bool false)]) (exIf r14.1 .ret (
 pr.fin none r14.2.2 [(getL r14.2.1 0)]) (none)))
theorem F_interpreterlaw17_Great6_eq (g : Tab) (a0 : LV) : fnEv g c_interpreterlaw17_Great6 [a0] none = F_interpreterlaw17_Great6 g a0 := by kernel_rfl
noncomputable def F_refrag_Cut6_k1 (g : Tab) (vx : LV) (q62 : List LV × Slots) (v0 : LV × Slots) (vs : LV × Slots) :=
 (pr.idxAddr none 2 vx (getL q62.1 1)).bind fun v02 =>
 lA 2 q62.2 v02 fun v03 =>
 (pr.alloc (LV.agg [(i 0), (i 0)]) 13 q62.2).bind fun v04 =>
 sA 2 v04.2 v04.1 v03 fun v05 =>
 lA 42 v05.2 v0.1 fun v06 =>
 (pr.alloc (LV.agg [(i 0), (i 0), (i 0), (LV.bytes [0, 0, 0, 0, 0, 0, 0, 0, 0, 0, 0, 0, 0, 0, 0, 0]), (LV.bytes [0, 0, 0, 0, 0, 0, 0, 0, 0, 0, 0, 0, 0, 0, 0, 0]), LV.nils, (LV.bool false), (LV.int .u32 0), (i 0), (LV.bool false), (i 0), (LV.str [])]) 14 v05.2).bind fun v07 =>
 sA 42 v07.2 v07.1 v06 fun v08 =>
 fA 6 36 v07.1 fun v09 =>
 s1 v08.2 v09 (LV.bool true) fun v0A =>
 fA 5 35 v0.1 fun v0B =>
 l1 v0A.2 v0B fun v0C =>
 cl g id_slices_Clone_api_Ext_api_Ext v0A.2 [v0C] fun v0D =>
 fA 5 35 v07.1 fun v0E =>
 s1 v0A.2 v0E v0D fun v0F =>
 fA 8 38 v0.1 fun v0G =>
 l1 v0F.2 v0G fun v0H =>
 fA 0 0 v04.1 fun v0I =>
 l1 v0F.2 v0I fun v0J =>
 bn .add v0H v0J fun v0K =>
 fA 11 41 v0.1 fun v0L =>
 l1 v0F.2 v0L fun v0M =>
 fA 0 0 v04.1 fun v0N =>
 l1 v0F.2 v0N fun v0O =>
 fA 1 1 v04.1 fun v0P =>
 l1 v0F.2 v0P fun v0Q =>
 sl v0M (some v0O) (some v0Q) fun v0R =>
 fA 9 39 v0.1 fun v0S =>
 l1 v0F.2 v0S fun v0T =>
 ff v0T 1 1 v04.1 fun v0V =>
 fl v0T v0F.2 v0V fun v0W =>
 ff v0T 11 41 v0.1 fun v0X =>
 fl v0T v0F.2 v0X fun v0Y =>
 gF v0T (pr.len true v0Y) fun v0Z =>
 fb v0T .lss v0W v0Z fun v0a =>
 pF v0T v0a fun v0b =>
 fA 8 38 v07.1 fun v0c =>
 s1 v0F.2 v0c v0K fun v0d =>
 fA 11 41 v07.1 fun v0e =>
 s1 v0d.2 v0e v0R fun v0f =>
 fA 9 39 v07.1 fun v0g =>
 s1 v0f.2 v0g v0b fun v0h =>
 if noMeet v0L v0c = true then (if noMeet v0N v0c = true then (if noMeet v0P v0c = true then (if noMeet v0V v0c = true then (if noMeet v0X v0c = true then (if noMeet v0V v0e = true then (if noMeet v0X v0e = true then ((pr.load 42 true v0h.2 v07.1).bind fun v0j =>
 (pr.bsl (LV.agg [(i 0), (i 0), (i 0), (LV.bytes [0, 0, 0, 0, 0, 0, 0, 0, 0, 0, 0, 0, 0, 0, 0, 0]), (LV.bytes [0, 0, 0, 0, 0, 0, 0, 0, 0, 0, 0, 0, 0, 0, 0, 0]), LV.nils, (LV.bool false), (LV.int .u32 0), (i 0), (LV.bool false), (i 0), (LV.str [])]) 1 [(0, v0j)]).bind fun v0k =>
 (pr.append 42 128 99 v0h.2 (getL q62.1 0) v0k).bind fun v0l =>
 bn .add (getL q62.1 1) (i 1) fun v0n =>
 pr.round vs.2 .normal [v0l.1, v0n] v0l.2) else none) else none) else none) else none) else none) else none) else none
noncomputable def F_refrag_Cut6 (g : Tab) (a0 : LV) (a1 : LV) (a2 : LV) : Option (LV × Option LV) :=
 (pr.boxM a0 3 z).bind fun v0 =>
 lA 42 v0.2 v0.1 fun v3 =>
 cl g id_refrag_Len6 v0.2 [v3] fun v4 =>
 bn .eql v4 (i 0) fun v7 =>
 fs v7 a1 fun v9 =>
 fb v7 .lss v9 (i 1280) fun vA =>
 pF v7 vA fun vB =>
 fs vB a1 fun vD =>
 fb vB .gtr vD (i 65535) fun vE =>
 pF vB vE fun vF =>
 condK vF (
 pr.fin none v0.2 [LV.nils, (i 1)]) (
 bn .leq v4 a1 fun vL =>
 condK vL (
 lA 42 v0.2 v0.1 fun vN =>
 (pr.bsl (LV.agg [(i 0), (i 0), (i 0), (LV.bytes [0, 0, 0, 0, 0, 0, 0, 0, 0, 0, 0, 0, 0, 0, 0, 0]), (LV.bytes [0, 0, 0, 0, 0, 0, 0, 0, 0, 0, 0, 0, 0, 0, 0, 0]), LV.nils, (LV.bool false), (LV.int .u32 0), (i 0), (LV.bool false), (i 0), (LV.str [])]) 1 [(0, vN)]).bind fun vO =>
 pr.fin none v0.2 [vO, (i 0)]) (
 fA 11 41 v0.1 fun vS =>
 l1 v0.2 vS fun vT =>
 ln vT fun vU =>
 bn .sub v4 vU fun vV =>
 fA 6 36 v0.1 fun vX =>
 l1 v0.2 vX fun vY =>
 nt vY fun vZ =>
 condK vZ (
 bn .add vV (i 8) fun vb =>
 fA 7 37 v0.1 fun ve =>
 s1 v0.2 ve a2 fun vf =>
 bn .sub a1 vb fun vi =>
 bn .quo vi (i 8) fun vj =>
 bn .mul vj (i 8) fun vk =>
 bn .sub a1 vb fun vo =>
 bn .lss vo (i 8) fun vp =>
 condK vp (
 pr.fin none vf.2 [LV.nils, (i 13)]) (
 (pr.nilT 42 11 vf.2).bind fun vs =>
 fA 11 41 v0.1 fun vt =>
 l1 vs.2 vt fun vu =>
 ln vu fun vv =>
 cl g id_refrag_pieces vs.2 [vv, vk] fun vx =>
 (pr.len false vx).bind fun vy =>
 (whileW (fun q62 : List LV × Slots =>
 bn .lss (getL q62.1 1) vy fun v01 =>
 condK v01 (F_refrag_Cut6_k1 g vx q62 v0 vs) (
 pr.round vs.2 (.exit 1) [(getL q62.1 0), (getL q62.1 1)] q62.2)) ([vs.1, (i 0)], vs.2)).bind fun r62 =>
 exIf r62.1 (.exit 1) (
 pr.fin none r62.2.2 [(getL r62.2.1 0), (i 0)]) (none))) (
 bn .sub a1 vV fun v0u =>
 bn .quo v0u (i 8) fun v0v =>
 bn .mul v0v (i 8) fun v0w =>
 bn .sub a1 vV fun v10 =>
 bn .lss v10 (i 8) fun v11 =>
 condK v11 (
 pr.fin none v0.2 [LV.nils, (i 13)]) (
 (pr.nilT 42 11 v0.2).bind fun v14 =>
 fA 11 41 v0.1 fun v15 =>
 l1 v14.2 v15 fun v16 =>
 ln v16 fun v17 =>
 cl g id_refrag_pieces v14.2 [v17, v0w] fun v19 =>
 (pr.len false v19).bind fun v1A =>
 (whileW (fun q136 : List LV × Slots =>
 bn .lss (getL q136.1 1) v1A fun v1D =>
 condK v1D (F_refrag_Cut6_k1 g v19 q136 v0 v14) (
 pr.round v14.2 (.exit 1) [(getL q136.1 0), (getL q136.1 1)] q136.2)) ([v14.1, (i 0)], v14.2)).bind fun r136 =>
 exIf r136.1 (.exit 1) (
 pr.fin none r136.2.2 [(getL r136.2.1 0), (i 0)]) (none)))))
theorem F_refrag_Cut6_eq (g : Tab) (a0 : LV) (a1 : LV) (a2 : LV) : fnEv g c_refrag_Cut6 [a0, a1, a2] none = F_refrag_Cut6 g a0 a1 a2 := by kernel_rfl
noncomputable def F_ip6_Bytes_k1 (g : Tab) (v0 : LV) (r48 : Ex × List LV × Slots) :=
 fA 0 0 v0 fun v0G =>
 l1 r48.2.2 v0G fun v0H =>
 bn .shl v0H (LV.int .u64 20) fun v0I =>
 bn .or (i 1610612736) v0I fun v0J =>
 fA 1 1 v0 fun v0K =>
 l1 r48.2.2 v0K fun v0L =>
 bn .or v0J v0L fun v0M =>
 cl g id_ip6_big r48.2.2 [v0M, (i 4)] fun v0N =>
 ln (getL r48.2.1 0) fun v0P =>
 cl g id_ip6_big r48.2.2 [v0P, (i 2)] fun v0Q =>
 bn .add v0N v0Q fun v0R =>
 cl g id_ip6_big r48.2.2 [(getL r48.2.1 1), (i 1)] fun v0T =>
 bn .add v0R v0T fun v0U =>
 fA 2 2 v0 fun v0V =>
 l1 r48.2.2 v0V fun v0W =>
 cl g id_ip6_big r48.2.2 [v0W, (i 1)] fun v0X =>
 bn .add v0U v0X fun v0Y =>
 fA 3 3 v0 fun v0Z =>
 sV 16 r48.2.2 v0Z none none fun v0a =>
 bS r48.2.2 v0a fun v0b =>
 bn .add v0Y v0b fun v0c =>
 fA 4 19 v0 fun v0d =>
 sV 16 r48.2.2 v0d none none fun v0e =>
 bS r48.2.2 v0e fun v0f =>
 bn .add v0c v0f fun v0g =>
 bn .add v0g (getL r48.2.1 0) fun v0i =>
 pr.fin none r48.2.2 [v0i, LV.nili]
noncomputable def F_ip6_Bytes_k2 (g : Tab) (v0 : LV) (q48 : List LV × Slots) :=
 fA 5 35 v0 fun vp =>
 l1 q48.2 vp fun vq =>
 (pr.idxAddr none 2 vq (getL q48.1 2)).bind fun vs =>
 lA 2 q48.2 vs fun vt =>
 (pr.alloc (LV.agg [(i 0), (LV.str [])]) 9 q48.2).bind fun vu =>
 sA 2 vu.2 vu.1 vt fun vv =>
 cl g id_ip6_big vv.2 [(getL q48.1 1), (i 1)] fun vx =>
 fA 1 1 vu.1 fun vy =>
 l1 vv.2 vy fun vz =>
 ln vz fun v00 =>
 bn .quo v00 (i 8) fun v01 =>
 cl g id_ip6_big vv.2 [v01, (i 1)] fun v02 =>
 bn .add vx v02 fun v03 =>
 fA 1 1 vu.1 fun v04 =>
 l1 vv.2 v04 fun v05 =>
 bn .add v03 v05 fun v06 =>
 bn .add v06 (getL q48.1 0) fun v08 =>
 fA 0 0 vu.1 fun v0A =>
 l1 vv.2 v0A fun v0B =>
 bn .sub (getL q48.1 2) (i 1) fun v0E =>
 pr.round z .normal [v08, v0B, v0E] vv.2
noncomputable def F_ip6_Bytes (g : Tab) (a0 : LV) : Option (LV × Option LV) :=
 bx a0 fun v0 =>
 lA 42 z v0 fun v3 =>
 cl g id_ip6_why z [v3] fun v4 =>
 bn .neq v4 (i 0) fun v7 =>
 condK v7 (
 cl g id_ip6_fault z [v4] fun v9 =>
 pr.fin none z [(LV.str []), v9]) (
 fA 10 40 v0 fun vC =>
 l1 z vC fun vD =>
 fA 11 41 v0 fun vE =>
 l1 z vE fun vF =>
 fA 6 36 v0 fun vI =>
 l1 z vI fun vJ =>
 condK vJ (
 fA 8 38 v0 fun vK =>
 l1 z vK fun vL =>
 fA 9 39 v0 fun vN =>
 l1 z vN fun vO =>
 condK vO (
 bn .add vL (i 1) fun vQ =>
 cl g id_ip6_big z [vD, (i 1)] fun vT =>
 bn .add vT (LV.str [0]) fun vU =>
 cl g id_ip6_big z [vQ, (i 2)] fun vW =>
 bn .add vU vW fun vX =>
 fA 7 37 v0 fun vY =>
 l1 z vY fun vZ =>
 (pr.conv .i64 vZ).bind fun va =>
 cl g id_ip6_big z [va, (i 4)] fun vb =>
 bn .add vX vb fun vc =>
 bn .add vc vF fun ve =>
 fA 5 35 v0 fun vh =>
 l1 z vh fun vi =>
 (pr.len false vi).bind fun vj =>
 bn .sub vj (i 1) fun vk =>
 (whileW (fun q48 : List LV × Slots =>
 bn .geq (getL q48.1 2) (i 0) fun vo =>
 condK vo (F_ip6_Bytes_k2 g v0 q48) (
 pr.round z (.exit 0) [(getL q48.1 0), (getL q48.1 1), (getL q48.1 2)] q48.2)) ([ve, (i 44), vk], z)).bind fun r48 =>
 exIf r48.1 (.exit 0) (F_ip6_Bytes_k1 g v0 r48) (none)) (
 cl g id_ip6_big z [vD, (i 1)] fun v0m =>
 bn .add v0m (LV.str [0]) fun v0n =>
 cl g id_ip6_big z [vL, (i 2)] fun v0p =>
 bn .add v0n v0p fun v0q =>
 fA 7 37 v0 fun v0r =>
 l1 z v0r fun v0s =>
 (pr.conv .i64 v0s).bind fun v0t =>
 cl g id_ip6_big z [v0t, (i 4)] fun v0u =>
 bn .add v0q v0u fun v0v =>
 bn .add v0v vF fun v0x =>
 fA 5 35 v0 fun v10 =>
 l1 z v10 fun v11 =>
 (pr.len false v11).bind fun v12 =>
 bn .sub v12 (i 1) fun v13 =>
 (whileW (fun q129 : List LV × Slots =>
 bn .geq (getL q129.1 2) (i 0) fun v17 =>
 condK v17 (F_ip6_Bytes_k2 g v0 q129) (
 pr.round z (.exit 0) [(getL q129.1 0), (getL q129.1 1), (getL q129.1 2)] q129.2)) ([v0x, (i 44), v13], z)).bind fun r129 =>
 exIf r129.1 (.exit 0) (F_ip6_Bytes_k1 g v0 r129) (none))) (
 fA 5 35 v0 fun v24 =>
 l1 z v24 fun v25 =>
 (pr.len false v25).bind fun v26 =>
 bn .sub v26 (i 1) fun v27 =>
 (whileW (fun q195 : List LV × Slots =>
 bn .geq (getL q195.1 2) (i 0) fun v2B =>
 condK v2B (F_ip6_Bytes_k2 g v0 q195) (
 pr.round z (.exit 0) [(getL q195.1 0), (getL q195.1 1), (getL q195.1 2)] q195.2)) ([vF, vD, v27], z)).bind fun r195 =>
 exIf r195.1 (.exit 0) (F_ip6_Bytes_k1 g v0 r195) (none)))
theorem F_ip6_Bytes_eq (g : Tab) (a0 : LV) : fnEv g c_ip6_Bytes [a0] none = F_ip6_Bytes g a0 := by kernel_rfl
noncomputable def F_ip6_Parse (g : Tab) (a0 : LV) : Option (LV × Option LV) :=
 (pr.alloc (LV.agg [(i 0), (i 0), (i 0), (LV.bytes [0, 0, 0, 0, 0, 0, 0, 0, 0, 0, 0, 0, 0, 0, 0, 0]), (LV.bytes [0, 0, 0, 0, 0, 0, 0, 0, 0, 0, 0, 0, 0, 0, 0, 0]), LV.nils, (LV.bool false), (LV.int .u32 0), (i 0), (LV.bool false), (i 0), (LV.str [])]) 2 z).bind fun v0 =>
 (pr.alloc (LV.agg [(i 0), (i 0), (i 0), (LV.bytes [0, 0, 0, 0, 0, 0, 0, 0, 0, 0, 0, 0, 0, 0, 0, 0]), (LV.bytes [0, 0, 0, 0, 0, 0, 0, 0, 0, 0, 0, 0, 0, 0, 0, 0]), LV.nils, (LV.bool false), (LV.int .u32 0), (i 0), (LV.bool false), (i 0), (LV.str [])]) 4 v0.2).bind fun v2 =>
 ln a0 fun v4 =>
 bn .lss v4 (i 40) fun v5 =>
 condK v5 (
 lA 42 v2.2 v2.1 fun v6 =>
 cl g id_ip6_fault v2.2 [(i 7)] fun v7 =>
 sA 42 v2.2 v0.1 v6 fun v8 =>
 lA 42 v8.2 v0.1 fun vA =>
 pr.fin none v8.2 [vA, v7]) (
 xS a0 (i 0) fun vC =>
 bn .shr vC (LV.int .u64 4) fun vD =>
 bn .neq vD (LV.int .u8 6) fun vE =>
 condK vE (
 lA 42 v2.2 v2.1 fun vF =>
 cl g id_ip6_fault v2.2 [(i 8)] fun vG =>
 sA 42 v2.2 v0.1 vF fun vH =>
 lA 42 vH.2 v0.1 fun vJ =>
 pr.fin none vH.2 [vJ, vG]) (
 xS a0 (i 4) fun vL =>
 (pr.conv .i64 vL).bind fun vM =>
 bn .shl vM (LV.int .u64 8) fun vN =>
 xS a0 (i 5) fun vP =>
 (pr.conv .i64 vP).bind fun vQ =>
 bn .or vN vQ fun vR =>
 ln a0 fun vU =>
 bn .add (i 40) vR fun vW =>
 bn .lss vU vW fun vX =>
 condK vX (
 lA 42 v2.2 v2.1 fun vY =>
 cl g id_ip6_fault v2.2 [(i 7)] fun vZ =>
 sA 42 v2.2 v0.1 vY fun va =>
 lA 42 va.2 v0.1 fun vc =>
 pr.fin none va.2 [vc, vZ]) (
 (pr.callFr g id_num_New 41 v2.2 [a0]).bind fun ve =>
 (pr.callRw g id_num_Reader_U32 ve.2 [ve.1]).bind fun vf =>
 ex vf.1 0 fun vh =>
 ex vf.1 1 fun vi =>
 bn .shr vh (LV.int .u64 20) fun vm =>
 bn .and vm (i 255) fun vn =>
 bn .and vh (i 1048575) fun vp =>
 xS a0 (i 7) fun vr =>
 (pr.conv .i64 vr).bind fun vs =>
 (pr.parts (LV.agg [(i 0), (i 0), (i 0), (LV.bytes [0, 0, 0, 0, 0, 0, 0, 0, 0, 0, 0, 0, 0, 0, 0, 0]), (LV.bytes [0, 0, 0, 0, 0, 0, 0, 0, 0, 0, 0, 0, 0, 0, 0, 0]), LV.nils, (LV.bool false), (LV.int .u32 0), (i 0), (LV.bool false), (i 0), (LV.str [])]) [(0, vn), (1, vp), (2, vs)]).bind fun vt =>
 (pr.alloc (LV.agg [(i 0), (i 0), (i 0), (LV.bytes [0, 0, 0, 0, 0, 0, 0, 0, 0, 0, 0, 0, 0, 0, 0, 0]), (LV.bytes [0, 0, 0, 0, 0, 0, 0, 0, 0, 0, 0, 0, 0, 0, 0, 0]), LV.nils, (LV.bool false), (LV.int .u32 0), (i 0), (LV.bool false), (i 0), (LV.str [])]) 8 vf.2).bind fun vu =>
 sA 42 vu.2 vu.1 vt fun vv =>
 fA 3 3 vu.1 fun vw =>
 sV 16 vv.2 vw none none fun vx =>
 sl a0 (some (i 8)) none fun vz =>
 (pr.copy vv.2 vx vz).bind fun v00 =>
 fA 4 19 vu.1 fun v01 =>
 sV 16 v00.2 v01 none none fun v02 =>
 sl a0 (some (i 24)) none fun v04 =>
 (pr.copy v00.2 v02 v04).bind fun v05 =>
 xS a0 (i 6) fun v08 =>
 (pr.conv .i64 v08).bind fun v09 =>
 bn .add (i 40) vR fun v0C =>
 sl a0 (some (i 40)) (some v0C) fun v0D =>
 cl g id_ip6_Chain v05.2 [v09, v0D] fun v0E =>
 ex v0E 0 fun v0G =>
 ex v0E 1 fun v0H =>
 ex v0E 2 fun v0I =>
 ex v0E 3 fun v0J =>
 fA 5 35 vu.1 fun v0K =>
 s1 v05.2 v0K v0G fun v0L =>
 fA 10 40 vu.1 fun v0M =>
 s1 v0L.2 v0M v0H fun v0N =>
 fA 11 41 vu.1 fun v0O =>
 s1 v0N.2 v0O v0I fun v0P =>
 eN 1 true v0J fun v0S =>
 condK v0S (
 lA 42 v0P.2 v2.1 fun v0T =>
 sA 42 v0P.2 v0.1 v0T fun v0V =>
 lA 42 v0V.2 v0.1 fun v0X =>
 pr.fin none v0V.2 [v0X, v0J]) (
 fA 10 40 vu.1 fun v0Y =>
 l1 v0P.2 v0Y fun v0Z =>
 bn .neq v0Z (i 44) fun v0a =>
 condK v0a (
 lA 42 v0P.2 vu.1 fun v0b =>
 sA 42 v0P.2 v0.1 v0b fun v0c =>
 lA 42 v0c.2 v0.1 fun v0e =>
 pr.fin none v0c.2 [v0e, LV.nili]) (
 fA 11 41 vu.1 fun v0f =>
 l1 v0P.2 v0f fun v0g =>
 ln v0g fun v0h =>
 bn .lss v0h (i 8) fun v0i =>
 condK v0i (
 lA 42 v0P.2 v2.1 fun v0j =>
 cl g id_ip6_fault v0P.2 [(i 7)] fun v0k =>
 sA 42 v0P.2 v0.1 v0j fun v0l =>
 lA 42 v0l.2 v0.1 fun v0n =>
 pr.fin none v0l.2 [v0n, v0k]) (
 fA 11 41 vu.1 fun v0o =>
 l1 v0P.2 v0o fun v0p =>
 xS v0p (i 2) fun v0q =>
 (pr.conv .i64 v0q).bind fun v0r =>
 bn .shl v0r (LV.int .u64 8) fun v0s =>
 fA 11 41 vu.1 fun v0t =>
 l1 v0P.2 v0t fun v0u =>
 xS v0u (i 3) fun v0v =>
 (pr.conv .i64 v0v).bind fun v0w =>
 bn .or v0s v0w fun v0x =>
 fA 11 41 vu.1 fun v0z =>
 l1 v0P.2 v0z fun v10 =>
 sl v10 (some (i 4)) none fun v11 =>
 (pr.callFr g id_num_New 108 v0P.2 [v11]).bind fun v12 =>
 (pr.callRw g id_num_Reader_U32 v12.2 [v12.1]).bind fun v13 =>
 ex v13.1 0 fun v15 =>
 ex v13.1 1 fun v16 =>
 (pr.conv .u32 v15).bind fun v1A =>
 bn .andNot v0x (i 7) fun v1C =>
 bn .and v0x (i 1) fun v1E =>
 bn .neq v1E (i 0) fun v1F =>
 fA 11 41 vu.1 fun v1G =>
 l1 v13.2 v1G fun v1H =>
 xS v1H (i 0) fun v1I =>
 (pr.conv .i64 v1I).bind fun v1J =>
 fA 11 41 vu.1 fun v1K =>
 l1 v13.2 v1K fun v1L =>
 sl v1L (some (i 8)) none fun v1M =>
 fA 6 36 vu.1 fun v1N =>
 s1 v13.2 v1N (LV.bool true) fun v1O =>
 fA 7 37 vu.1 fun v1P =>
 s1 v1O.2 v1P v1A fun v1Q =>
 fA 8 38 vu.1 fun v1R =>
 s1 v1Q.2 v1R v1C fun v1S =>
 fA 9 39 vu.1 fun v1T =>
 s1 v1S.2 v1T v1F fun v1U =>
 fA 10 40 vu.1 fun v1V =>
 s1 v1U.2 v1V v1J fun v1W =>
 fA 11 41 vu.1 fun v1X =>
 s1 v1W.2 v1X v1M fun v1Y =>
 lA 42 v1Y.2 vu.1 fun v1Z =>
 cl g id_ip6_pieced v1Y.2 [v1Z] fun v1a =>
 nt v1a fun v1b =>
 ff v1b 11 41 vu.1 fun v1d =>
 fl v1b v1Y.2 v1d fun v1e =>
 gF v1b (pr.len true v1e) fun v1f =>
 ff v1b 8 38 vu.1 fun v1g =>
 fl v1b v1Y.2 v1g fun v1h =>
 fb v1b .sub (i 65535) v1h fun v1i =>
 fb v1b .gtr v1f v1i fun v1j =>
 pF v1b v1j fun v1k =>
 condK v1k (
 lA 42 v1Y.2 v2.1 fun v1l =>
 cl g id_ip6_fault v1Y.2 [(i 8)] fun v1m =>
 sA 42 v1Y.2 v0.1 v1l fun v1n =>
 lA 42 v1n.2 v0.1 fun v1p =>
 pr.fin none v1n.2 [v1p, v1m]) (
 lA 42 v1Y.2 vu.1 fun v1q =>
 sA 42 v1Y.2 v0.1 v1q fun v1r =>
 lA 42 v1r.2 v0.1 fun v1t =>
 pr.fin none v1r.2 [v1t, LV.nili])))))))
theorem F_ip6_Parse_eq (g : Tab) (a0 : LV) : fnEv g c_ip6_Parse [a0] none = F_ip6_Parse g a0 := by kernel_rfl
noncomputable def F_interpreterlaw17_same6 (g : Tab) (a0 : LV) (a1 : LV) : Option (LV × Option LV) :=
 bx a0 fun v0 =>
 bx a1 fun v1 =>
 fA 5 35 v0 fun v3 =>
 l1 z v3 fun v4 =>
 (pr.len false v4).bind fun v5 =>
 fA 5 35 v1 fun v6 =>
 l1 z v6 fun v7 =>
 (pr.len false v7).bind fun v8 =>
 bn .neq v5 v8 fun v9 =>
 condK v9 (
 pr.fin none z [(LV.bool false)]) (
 (whileW (fun q12 : List LV × Slots =>
 fA 5 35 v0 fun vE =>
 l1 q12.2 vE fun vF =>
 (pr.len false vF).bind fun vG =>
 bn .lss (getL q12.1 1) vG fun vH =>
 condK vH (
 fA 5 35 v0 fun vI =>
 l1 q12.2 vI fun vJ =>
 (pr.idxAddr none 2 vJ (getL q12.1 1)).bind fun vL =>
 lA 2 q12.2 vL fun vM =>
 fA 5 35 v1 fun vN =>
 l1 q12.2 vN fun vO =>
 (pr.idxAddr none 2 vO (getL q12.1 1)).bind fun vQ =>
 lA 2 q12.2 vQ fun vR =>
 (pr.eqS (Sh.agg [(Sh.int .i64), Sh.str]) true vM vR).bind fun vS =>
 condK vS (
 pr.round z .ret [(LV.bool false), (getL q12.1 1)] q12.2) (
 bn .add (getL q12.1 1) (i 1) fun vV =>
 pr.round z .normal [(getL q12.1 0), vV] q12.2)) (
 pr.round z (.exit 0) [(getL q12.1 0), (getL q12.1 1)] q12.2)) ([(LV.bool false), (i 0)], z)).bind fun r12 =>
 exIf r12.1 (.exit 0) (
 fA 0 0 v0 fun vX =>
 l1 r12.2.2 vX fun vY =>
 fA 0 0 v1 fun vZ =>
 l1 r12.2.2 vZ fun va =>
 bn .eql vY va fun vb =>
 tf vb 1 1 v0 fun vd =>
 tl vb r12.2.2 vd fun ve =>
 tf vb 1 1 v1 fun vf =>
 tl vb r12.2.2 vf fun vg =>
 tb vb .eql ve vg fun vh =>
 pT vb vh fun vi =>
 tf vi 2 2 v0 fun vk =>
 tl vi r12.2.2 vk fun vl =>
 tf vi 2 2 v1 fun vm =>
 tl vi r12.2.2 vm fun vn =>
 tb vi .eql vl vn fun vo =>
 pT vi vo fun vp =>
 tf vp 3 3 v0 fun vr =>
 gT vp (pr.load 16 true r12.2.2 vr) fun vs =>
 tf vp 3 3 v1 fun vt =>
 gT vp (pr.load 16 true r12.2.2 vt) fun vu =>
 gT vp (pr.eqS (Sh.bytes 16) false vs vu) fun vv =>
 pT vp vv fun vw =>
 tf vw 4 19 v0 fun vy =>
 gT vw (pr.load 16 true r12.2.2 vy) fun vz =>
 tf vw 4 19 v1 fun v00 =>
 gT vw (pr.load 16 true r12.2.2 v00) fun v01 =>
 gT vw (pr.eqS (Sh.bytes 16) false vz v01) fun v02 =>
 pT vw v02 fun v03 =>
 tf v03 6 36 v0 fun v05 =>
 tl v03 r12.2.2 v05 fun v06 =>
 tf v03 6 36 v1 fun v07 =>
 tl v03 r12.2.2 v07 fun v08 =>
 gT v03 (pr.eqB false v06 v08) fun v09 =>
 pT v03 v09 fun v0A =>
 tf v0A 7 37 v0 fun v0C =>
 tl v0A r12.2.2 v0C fun v0D =>
 tf v0A 7 37 v1 fun v0E =>
 tl v0A r12.2.2 v0E fun v0F =>
 tb v0A .eql v0D v0F fun v0G =>
 pT v0A v0G fun v0H =>
 tf v0H 8 38 v0 fun v0J =>
 tl v0H r12.2.2 v0J fun v0K =>
 tf v0H 8 38 v1 fun v0L =>
 tl v0H r12.2.2 v0L fun v0M =>
 tb v0H .eql v0K v0M fun v0N =>
 pT v0H v0N fun v0O =>
 tf v0O 9 39 v0 fun v0Q =>
 tl v0O r12.2.2 v0Q fun v0R =>
 tf v0O 9 39 v1 fun v0S =>
 tl v0O r12.2.2 v0S fun v0T =>
 gT v0O (pr.eqB false v0R v0T) fun v0U =>
 pT v0O v0U fun v0V =>
 tf v0V 10 40 v0 fun v0X =>
 tl v0V r12.2.2 v0X fun v0Y =>
 tf v0V 10 40 v1 fun v0Z =>
 tl v0V r12.2.2 v0Z fun v0a =>
 tb v0V .eql v0Y v0a fun v0b =>
 pT v0V v0b fun v0c =>
 tf v0c 11 41 v0 fun v0e =>
 tl v0c r12.2.2 v0e fun v0f =>
 tf v0c 11 41 v1 fun v0g =>
 tl v0c r12.2.2 v0g fun v0h =>
 tb v0c .eql v0f v0h fun v0i =>
 pT v0c v0i fun v0j =>
 pr.fin none r12.2.2 [v0j]) (exIf r12.1 .ret (
 pr.fin none r12.2.2 [(getL r12.2.1 0)]) (none)))
theorem F_interpreterlaw17_same6_eq (g : Tab) (a0 : LV) (a1 : LV) : fnEv g c_interpreterlaw17_same6 [a0, a1] none = F_interpreterlaw17_same6 g a0 a1 := by kernel_rfl
noncomputable def F_interpreterlaw17_four (g : Tab) (a0 : LV) : Option (LV × Option LV) :=
 (pr.alloc (LV.agg [(i 0), (i 0), (i 0), (i 0), (i 0), (LV.bool false), (LV.bool false), (LV.bytes [0, 0, 0, 0]), (LV.bytes [0, 0, 0, 0]), (LV.str []), (LV.str [])]) 2 z).bind fun v0 =>
 (pr.parts (LV.bytes [0, 0, 0, 0]) [(0, (LV.int .u8 1)), (1, (LV.int .u8 0)), (2, (LV.int .u8 0)), (3, (LV.int .u8 1))]).bind fun v1 =>
 (pr.parts (LV.bytes [0, 0, 0, 0]) [(0, (LV.int .u8 1)), (1, (LV.int .u8 0)), (2, (LV.int .u8 0)), (3, (LV.int .u8 2))]).bind fun v2 =>
 (pr.mkSl 6 v0.2 a0 a0).bind fun v4 =>
 bS v4.2 v4.1 fun v5 =>
 (pr.parts (LV.agg [(i 0), (i 0), (i 0), (i 0), (i 0), (LV.bool false), (LV.bool false), (LV.bytes [0, 0, 0, 0]), (LV.bytes [0, 0, 0, 0]), (LV.str []), (LV.str [])]) [(2, (i 9)), (3, (i 17)), (7, v1), (8, v2), (10, v5)]).bind fun v6 =>
 sA 17 v4.2 v0.1 v6 fun v7 =>
 lA 17 v7.2 v0.1 fun v8 =>
 pr.fin none v7.2 [v8]
theorem F_interpreterlaw17_four_eq (g : Tab) (a0 : LV) : fnEv g c_interpreterlaw17_four [a0] none = F_interpreterlaw17_four g a0 := by kernel_rfl
noncomputable def F_interpreterlaw17_six (g : Tab) (a0 : LV) : Option (LV × Option LV) :=
 (pr.alloc (LV.agg [(i 0), (i 0), (i 0), (LV.bytes [0, 0, 0, 0, 0, 0, 0, 0, 0, 0, 0, 0, 0, 0, 0, 0]), (LV.bytes [0, 0, 0, 0, 0, 0, 0, 0, 0, 0, 0, 0, 0, 0, 0, 0]), LV.nils, (LV.bool false), (LV.int .u32 0), (i 0), (LV.bool false), (i 0), (LV.str [])]) 2 z).bind fun v0 =>
 (pr.parts (LV.bytes [0, 0, 0, 0, 0, 0, 0, 0, 0, 0, 0, 0, 0, 0, 0, 0]) [(0, (LV.int .u8 1))]).bind fun v1 =>
 (pr.parts (LV.bytes [0, 0, 0, 0, 0, 0, 0, 0, 0, 0, 0, 0, 0, 0, 0, 0]) [(0, (LV.int .u8 2))]).bind fun v2 =>
 (pr.mkSl 6 v0.2 a0 a0).bind fun v4 =>
 bS v4.2 v4.1 fun v5 =>
 (pr.parts (LV.agg [(i 0), (i 0), (i 0), (LV.bytes [0, 0, 0, 0, 0, 0, 0, 0, 0, 0, 0, 0, 0, 0, 0, 0]), (LV.bytes [0, 0, 0, 0, 0, 0, 0, 0, 0, 0, 0, 0, 0, 0, 0, 0]), LV.nils, (LV.bool false), (LV.int .u32 0), (i 0), (LV.bool false), (i 0), (LV.str [])]) [(2, (i 9)), (10, (i 17)), (3, v1), (4, v2), (11, v5)]).bind fun v6 =>
 sA 42 v4.2 v0.1 v6 fun v7 =>
 lA 42 v7.2 v0.1 fun v8 =>
 pr.fin none v7.2 [v8]
theorem F_interpreterlaw17_six_eq (g : Tab) (a0 : LV) : fnEv g c_interpreterlaw17_six [a0] none = F_interpreterlaw17_six g a0 := by kernel_rfl
noncomputable def F_refrag_Len4 (g : Tab) (a0 : LV) : Option (LV × Option LV) :=
 bx a0 fun v0 =>
 lA 17 z v0 fun v2 =>
 cl g id_ip4_Bytes z [v2] fun v3 =>
 ex v3 0 fun v5 =>
 ex v3 1 fun v6 =>
 eN 1 true v6 fun vA =>
 condK vA (
 pr.fin none z [(i 0)]) (
 ln v5 fun vD =>
 pr.fin none z [vD])
theorem F_refrag_Len4_eq (g : Tab) (a0 : LV) : fnEv g c_refrag_Len4 [a0] none = F_refrag_Len4 g a0 := by kernel_rfl
noncomputable def F_refrag_pieces (g : Tab) (a0 : LV) (a1 : LV) : Option (LV × Option LV) :=
 (pr.nilT 2 5 z).bind fun v1 =>
 (whileW (fun q3 : List LV × Slots =>
 bn .lss (getL q3.1 1) a0 fun v6 =>
 condK v6 (
 bn .add (getL q3.1 1) a1 fun vB =>
 (pr.minmax false vB [a0]).bind fun vD =>
 (pr.parts (LV.agg [(i 0), (i 0)]) [(0, (getL q3.1 1)), (1, vD)]).bind fun vE =>
 (pr.bsl (LV.agg [(i 0), (i 0)]) 1 [(0, vE)]).bind fun vF =>
 (pr.append 2 16 22 q3.2 (getL q3.1 0) vF).bind fun vG =>
 bn .add (getL q3.1 1) a1 fun vK =>
 pr.round v1.2 .normal [vG.1, vK] vG.2) (
 pr.round v1.2 (.exit 0) [(getL q3.1 0), (getL q3.1 1)] q3.2)) ([v1.1, (i 0)], v1.2)).bind fun r3 =>
 exIf r3.1 (.exit 0) (
 pr.fin none r3.2.2 [(getL r3.2.1 0)]) (none)
theorem F_refrag_pieces_eq (g : Tab) (a0 : LV) (a1 : LV) : fnEv g c_refrag_pieces [a0, a1] none = F_refrag_pieces g a0 a1 := by kernel_rfl
noncomputable def F_ip4_why (g : Tab) (a0 : LV) : Option (LV × Option LV) :=
 bx a0 fun v0 =>
 fA 0 0 v0 fun v2 =>
 l1 z v2 fun v3 =>
 fA 2 2 v0 fun v4 =>
 l1 z v4 fun v5 =>
 fA 3 3 v0 fun v6 =>
 l1 z v6 fun v7 =>
 (pr.bsl (i 0) 3 [(0, v3), (1, v5), (2, v7)]).bind fun v8 =>
 cl g id_ip4_byteful z [v8] fun v9 =>
 nt v9 fun vA =>
 ff vA 1 1 v0 fun vC =>
 fl vA z vC fun vD =>
 fb vA .lss vD (i 0) fun vE =>
 pF vA vE fun vF =>
 ff vF 1 1 v0 fun vH =>
 fl vF z vH fun vI =>
 fb vF .gtr vI (i 65535) fun vJ =>
 pF vF vJ fun vK =>
 ff vK 4 4 v0 fun vM =>
 fl vK z vM fun vN =>
 fb vK .lss vN (i 0) fun vO =>
 pF vK vO fun vP =>
 ff vP 4 4 v0 fun vR =>
 fl vP z vR fun vS =>
 fb vP .gtr vS (i 65528) fun vT =>
 pF vP vT fun vU =>
 ff vU 4 4 v0 fun vW =>
 fl vU z vW fun vX =>
 fb vU .rem vX (i 8) fun vY =>
 fb vU .neq vY (i 0) fun vZ =>
 pF vU vZ fun va =>
 condK va (
 pr.fin none z [(i 13)]) (
 fA 9 15 v0 fun vd =>
 l1 z vd fun ve =>
 ln ve fun vf =>
 bn .gtr vf (i 40) fun vg =>
 ff vg 9 15 v0 fun vi =>
 fl vg z vi fun vj =>
 gF vg (pr.len true vj) fun vk =>
 fb vg .rem vk (i 4) fun vl =>
 fb vg .neq vl (i 0) fun vm =>
 pF vg vm fun vn =>
 ff vn 6 6 v0 fun vp =>
 fl vn z vp fun vq =>
 fs vn vq fun vr =>
 tf vr 10 16 v0 fun vs =>
 tl vr z vs fun vt =>
 tb vr .eql vt (LV.str []) fun vu =>
 ts vr vu fun vv =>
 ff vv 10 16 v0 fun vw =>
 fl vv z vw fun vx =>
 gF vv (pr.len true vx) fun vy =>
 fb vv .rem vy (i 8) fun vz =>
 fb vv .neq vz (i 0) fun v00 =>
 gT vr (pr.pick vv (LV.bool true) v00) fun v01 =>
 gF vn (pr.pick vr v01 (LV.bool false)) fun v02 =>
 pF vn v02 fun v03 =>
 condK v03 (
 pr.fin none z [(i 8)]) (
 fA 10 16 v0 fun v06 =>
 l1 z v06 fun v07 =>
 ln v07 fun v08 =>
 fA 9 15 v0 fun v09 =>
 l1 z v09 fun v0A =>
 ln v0A fun v0B =>
 bn .sub (i 65515) v0B fun v0C =>
 fA 4 4 v0 fun v0D =>
 l1 z v0D fun v0E =>
 bn .sub v0C v0E fun v0F =>
 bn .gtr v08 v0F fun v0G =>
 condK v0G (
 pr.fin none z [(i 3)]) (
 pr.fin none z [(i 0)])))
theorem F_ip4_why_eq (g : Tab) (a0 : LV) : fnEv g c_ip4_why [a0] none = F_ip4_why g a0 := by kernel_rfl
noncomputable def F_ip4_fault (g : Tab) (a0 : LV) : Option (LV × Option LV) :=
 (pr.parts (LV.agg [(i 0), (i 0)]) [(0, a0)]).bind fun v2 =>
 bx v2 fun v3 =>
 (pr.iface ty_ptr_num_Fault v3).bind fun v4 =>
 pr.fin none z [v4]
theorem F_ip4_fault_eq (g : Tab) (a0 : LV) : fnEv g c_ip4_fault [a0] none = F_ip4_fault g a0 := by kernel_rfl
noncomputable def F_ip4_big (g : Tab) (a0 : LV) (a1 : LV) : Option (LV × Option LV) :=
 cl g id_num_Big z [a0, a1] fun v3 =>
 ex v3 0 fun v5 =>
 ex v3 1 fun v6 =>
 pr.fin none z [v5]
theorem F_ip4_big_eq (g : Tab) (a0 : LV) (a1 : LV) : fnEv g c_ip4_big [a0, a1] none = F_ip4_big g a0 a1 := by kernel_rfl
noncomputable def F_sum_Of (g : Tab) (a0 : LV) : Option (LV × Option LV) :=
 (pr.len false a0).bind fun v4 =>
 (whileW (fun q6 : List LV × Slots =>
 bn .lss (getL q6.1 2) v4 fun v7 =>
 condK v7 (
 (pr.idxAddr none 1 a0 (getL q6.1 2)).bind fun v8 =>
 l1 q6.2 v8 fun v9 =>
 cl g id_sum_add q6.2 [(getL q6.1 0), (getL q6.1 1), v9, (LV.int .u8 0)] fun vE =>
 cl g id_sum_fold q6.2 [vE] fun vF =>
 ln v9 fun vJ =>
 bn .add (getL q6.1 1) vJ fun vK =>
 bn .add (getL q6.1 2) (i 1) fun vM =>
 pr.round z .normal [vF, vK, vM] q6.2) (
 pr.round z (.exit 0) [(getL q6.1 0), (getL q6.1 1), (getL q6.1 2)] q6.2)) ([(i 0), (i 0), (i 0)], z)).bind fun r6 =>
 exIf r6.1 (.exit 0) (
 bn .sub (i 65535) (getL r6.2.1 0) fun vP =>
 pr.fin none r6.2.2 [vP]) (none)
theorem F_sum_Of_eq (g : Tab) (a0 : LV) : fnEv g c_sum_Of [a0] none = F_sum_Of g a0 := by kernel_rfl
noncomputable def F_frag_Store_none (g : Tab) (a0 : LV) (hs : Slots) : Option (LV × Slots) :=
 eN 0 false a0 fun v2 =>
 fs v2 a0 fun v4 =>
 gF v2 (pr.nilCheck v4) fun v5 =>
 ff v2 4 4 v5 fun v6 =>
 fl v2 hs v6 fun v7 =>
 gF v2 (pr.eqNil 4 false v7) fun v8 =>
 pF v2 v8 fun v9 =>
 pr.finH hs [v9]
theorem F_frag_Store_none_eq (g : Tab) (a0 : LV) (hs : Slots) : hfnEv g c_frag_Store_none [a0] hs = F_frag_Store_none g a0 hs := by kernel_rfl
noncomputable def F_frag_Right (g : Tab) (a0 : LV) : Option (LV × Option LV) :=
 bx a0 fun v0 =>
 fA 2 2 v0 fun v2 =>
 l1 z v2 fun v3 =>
 bn .lss v3 (i 0) fun v4 =>
 ff v4 2 2 v0 fun v6 =>
 fl v4 z v6 fun v7 =>
 fb v4 .gtr v7 (i 65535) fun v8 =>
 pF v4 v8 fun v9 =>
 ff v9 2 2 v0 fun vB =>
 fl v9 z vB fun vC =>
 fb v9 .rem vC (i 8) fun vD =>
 fb v9 .neq vD (i 0) fun vE =>
 pF v9 vE fun vF =>
 ff vF 4 4 v0 fun vH =>
 fl vF z vH fun vI =>
 gF vF (pr.len true vI) fun vJ =>
 ff vF 2 2 v0 fun vK =>
 fl vF z vK fun vL =>
 fb vF .sub (i 65535) vL fun vM =>
 fb vF .gtr vJ vM fun vN =>
 pF vF vN fun vO =>
 condK vO (
 pr.fin none z [(LV.bool false)]) (
 fA 3 3 v0 fun vQ =>
 l1 z vQ fun vR =>
 nt vR fun vS =>
 ff vS 4 4 v0 fun vU =>
 fl vS z vU fun vV =>
 gF vS (pr.len true vV) fun vW =>
 fb vS .gtr vW (i 0) fun vX =>
 fs vS vX fun vY =>
 tf vY 4 4 v0 fun vZ =>
 tl vY z vZ fun va =>
 gT vY (pr.len true va) fun vb =>
 tb vY .rem vb (i 8) fun vc =>
 tb vY .eql vc (i 0) fun vd =>
 gF vS (pr.pick vY vd (LV.bool false)) fun ve =>
 pF vS ve fun vf =>
 pr.fin none z [vf])
theorem F_frag_Right_eq (g : Tab) (a0 : LV) : fnEv g c_frag_Right [a0] none = F_frag_Right g a0 := by kernel_rfl
noncomputable def F_slices_ContainsFunc_frag_Piece_frag_Piece (g : Tab) (a0 : LV) (a1 : LV) (hs : Slots) : Option (LV × Slots) :=
 (pr.inl g id_slices_IndexFunc_frag_Piece_frag_Piece hs [a0, a1]).bind fun v3 =>
 bn .geq v3.1 (i 0) fun v4 =>
 pr.finH v3.2 [v4]
theorem F_slices_ContainsFunc_frag_Piece_frag_Piece_eq (g : Tab) (a0 : LV) (a1 : LV) (hs : Slots) : hfnEv g c_slices_ContainsFunc_frag_Piece_frag_Piece [a0, a1] hs = F_slices_ContainsFunc_frag_Piece_frag_Piece g a0 a1 hs := by kernel_rfl
noncomputable def F_frag_Piece_same (g : Tab) (a0 : LV) (a1 : LV) : Option (LV × Option LV) :=
 bx a0 fun v0 =>
 bx a1 fun v1 =>
 fA 2 2 v0 fun v3 =>
 l1 z v3 fun v4 =>
 fA 2 2 v1 fun v5 =>
 l1 z v5 fun v6 =>
 bn .eql v4 v6 fun v7 =>
 tf v7 3 3 v0 fun v9 =>
 tl v7 z v9 fun vA =>
 tf v7 3 3 v1 fun vB =>
 tl v7 z vB fun vC =>
 gT v7 (pr.eqB false vA vC) fun vD =>
 pT v7 vD fun vE =>
 tf vE 4 4 v0 fun vG =>
 tl vE z vG fun vH =>
 tf vE 4 4 v1 fun vI =>
 tl vE z vI fun vJ =>
 tb vE .eql vH vJ fun vK =>
 pT vE vK fun vL =>
 pr.fin none z [vL]
theorem F_frag_Piece_same_eq (g : Tab) (a0 : LV) (a1 : LV) : fnEv g c_frag_Piece_same [a0, a1] none = F_frag_Piece_same g a0 a1 := by kernel_rfl
noncomputable def F_frag_datagram_fits (g : Tab) (a0 : LV) (a1 : LV) (hs : Slots) : Option (LV × Slots) :=
 bx a1 fun v0 =>
 (pr.nilCheck a0).bind fun v3 =>
 fA 2 2 v3 fun v4 =>
 l1 hs v4 fun v5 =>
 bn .geq v5 (i 0) fun v6 =>
 tf v6 3 3 v0 fun v8 =>
 tl v6 hs v8 fun v9 =>
 gT v6 (pr.un .not v9) fun vA =>
 ts v6 vA fun vB =>
 gF vB (pr.load 6 true hs v0) fun vC =>
 gF vB (pr.call g id_frag_Piece_to hs [vC]) fun vD =>
 fs vB a0 fun vE =>
 gF vB (pr.nilCheck vE) fun vF =>
 ff vB 2 2 vF fun vG =>
 fl vB hs vG fun vH =>
 fb vB .gtr vD vH fun vI =>
 gT v6 (pr.pick vB (LV.bool true) vI) fun vJ =>
 pT v6 vJ fun vK =>
 condK vK (
 pr.finH hs [(LV.bool false)]) (
 (pr.nilCheck a0).bind fun vN =>
 fA 3 3 vN fun vO =>
 l1 hs vO fun vP =>
 (pr.mkFunc id_frag_datagram_fits_1 [v0]).bind fun vQ =>
 (pr.inl g id_slices_ContainsFunc_frag_Piece_frag_Piece hs [vP, vQ]).bind fun vR =>
 nt vR.1 fun vS =>
 pr.finH vR.2 [vS])
theorem F_frag_datagram_fits_eq (g : Tab) (a0 : LV) (a1 : LV) (hs : Slots) : hfnEv g c_frag_datagram_fits [a0, a1] hs = F_frag_datagram_fits g a0 a1 hs := by kernel_rfl
noncomputable def F_frag_Store_cut (g : Tab) (a0 : LV) (a1 : LV) (hs : Slots) : Option (LV × Slots) :=
 (pr.nilCheck a0).bind fun v1 =>
 fA 4 4 v1 fun v2 =>
 l1 hs v2 fun v3 =>
 (pr.mapGet none LV.nilp false hs v3 a1).bind fun v5 =>
 (pr.nilCheck v5).bind fun v6 =>
 fA 3 3 v6 fun v7 =>
 l1 hs v7 fun v8 =>
 (pr.len false v8).bind fun v9 =>
 (whileW (fun q11 : List LV × Slots =>
 bn .lss (getL q11.1 0) v9 fun vC =>
 condK vC (
 (pr.idxAddr none 6 v8 (getL q11.1 0)).bind fun vD =>
 lA 6 q11.2 vD fun vE =>
 (pr.alloc (LV.agg [(LV.str []), (LV.str []), (i 0), (LV.bool false), (LV.str []), (LV.str [])]) 5 q11.2).bind fun vF =>
 sA 6 vF.2 vF.1 vE fun vG =>
 (pr.nilCheck a0).bind fun vI =>
 fA 3 3 vI fun vJ =>
 l1 vG.2 vJ fun vK =>
 bn .sub vK (i 1) fun vL =>
 (pr.nilCheck a0).bind fun vM =>
 fA 3 3 vM fun vN =>
 s1 vG.2 vN vL fun vO =>
 (pr.nilCheck a0).bind fun vQ =>
 fA 5 5 vQ fun vR =>
 l1 vO.2 vR fun vS =>
 fA 1 1 vF.1 fun vT =>
 l1 vO.2 vT fun vU =>
 (pr.mapGet none (i 0) false vO.2 vS vU).bind fun vV =>
 bn .sub vV (i 1) fun vW =>
 (pr.mapPut none vO.2 vS vU vW).bind fun vX =>
 (pr.nilCheck a0).bind fun vZ =>
 fA 5 5 vZ fun va =>
 l1 vX.2 va fun vb =>
 fA 1 1 vF.1 fun vc =>
 l1 vX.2 vc fun vd =>
 (pr.mapGet none (i 0) false vX.2 vb vd).bind fun ve =>
 bn .eql ve (i 0) fun vf =>
 condK vf (
 (pr.nilCheck a0).bind fun vh =>
 fA 5 5 vh fun vi =>
 l1 vX.2 vi fun vj =>
 fA 1 1 vF.1 fun vk =>
 l1 vX.2 vk fun vl =>
 (pr.mapDel none vX.2 vj vl).bind fun vm =>
 bn .add (getL q11.1 0) (i 1) fun vn =>
 pr.round hs .normal [vn] vm.2) (
 bn .add (getL q11.1 0) (i 1) fun vp =>
 pr.round hs .normal [vp] vX.2)) (
 pr.round hs (.exit 0) [(getL q11.1 0)] q11.2)) ([(i 0)], hs)).bind fun r11 =>
 exIf r11.1 (.exit 0) (
 (pr.nilCheck a0).bind fun vs =>
 fA 4 4 vs fun vt =>
 l1 r11.2.2 vt fun vu =>
 (pr.mapDel none r11.2.2 vu a1).bind fun vw =>
 pr.finH vw.2 []) (none)
theorem F_frag_Store_cut_eq (g : Tab) (a0 : LV) (a1 : LV) (hs : Slots) : hfnEv g c_frag_Store_cut [a0, a1] hs = F_frag_Store_cut g a0 a1 hs := by kernel_rfl
noncomputable def F_frag_Store_takes_k1 (g : Tab) (a0 : LV) (vn : LV × Slots) (v0 : LV) :=
 (pr.nilCheck a0).bind fun v0F =>
 fA 3 3 v0F fun v0G =>
 l1 vn.2 v0G fun v0H =>
 bn .add v0H (i 1) fun v0I =>
 (pr.nilCheck a0).bind fun v0J =>
 fA 3 3 v0J fun v0K =>
 s1 vn.2 v0K v0I fun v0L =>
 (pr.nilCheck a0).bind fun v0N =>
 fA 5 5 v0N fun v0O =>
 l1 v0L.2 v0O fun v0P =>
 fA 1 1 v0 fun v0Q =>
 l1 v0L.2 v0Q fun v0R =>
 (pr.mapGet none (i 0) false v0L.2 v0P v0R).bind fun v0S =>
 bn .add v0S (i 1) fun v0T =>
 (pr.mapPut none v0L.2 v0P v0R v0T).bind fun v0U =>
 pr.finH v0U.2 []
noncomputable def F_frag_Store_takes (g : Tab) (a0 : LV) (a1 : LV) (a2 : LV) (hs : Slots) : Option (LV × Slots) :=
 bx a1 fun v0 =>
 (pr.nilCheck a0).bind fun v2 =>
 fA 4 4 v2 fun v3 =>
 l1 hs v3 fun v4 =>
 fA 0 0 v0 fun v5 =>
 l1 hs v5 fun v6 =>
 (pr.mapGet none LV.nilp true hs v4 v6).bind fun v7 =>
 ex v7 0 fun v9 =>
 ex v7 1 fun vA =>
 nt vA fun vE =>
 condK vE (
 (pr.nilCheck a0).bind fun vG =>
 fA 2 2 vG fun vH =>
 l1 hs vH fun vI =>
 bn .add vI (i 1) fun vJ =>
 (pr.nilCheck a0).bind fun vK =>
 fA 2 2 vK fun vL =>
 s1 hs vL vJ fun vM =>
 (pr.nilCheck a0).bind fun vO =>
 fA 2 2 vO fun vP =>
 l1 vM.2 vP fun vQ =>
 (pr.parts (LV.agg [(i 0), (i 0), (i 0), LV.nils]) [(0, vQ), (1, a2), (2, (i (-1)))]).bind fun vS =>
 (pr.boxH 1000003 vM.2 vS).bind fun vT =>
 (pr.nilCheck a0).bind fun vW =>
 fA 4 4 vW fun vX =>
 l1 vT.2 vX fun vY =>
 fA 0 0 v0 fun vZ =>
 l1 vT.2 vZ fun va =>
 (pr.mapPut none vT.2 vY va vT.1).bind fun vc =>
 (pr.nilCheck vT.1).bind fun vf =>
 fA 3 3 vf fun vg =>
 l1 vc.2 vg fun vh =>
 lA 6 vc.2 v0 fun vi =>
 (pr.bsl (LV.agg [(LV.str []), (LV.str []), (i 0), (LV.bool false), (LV.str []), (LV.str [])]) 1 [(0, vi)]).bind fun vj =>
 (pr.appH 1000004 6 80 vc.2 vh vj).bind fun vk =>
 (pr.nilCheck vT.1).bind fun vl =>
 fA 3 3 vl fun vm =>
 s1 vk.2 vm vk.1 fun vn =>
 fA 3 3 v0 fun vo =>
 l1 vn.2 vo fun vp =>
 nt vp fun vq =>
 condK vq (
 lA 6 vn.2 v0 fun vs =>
 cl g id_frag_Piece_to vn.2 [vs] fun vt =>
 (pr.nilCheck vT.1).bind fun vu =>
 fA 2 2 vu fun vv =>
 s1 vn.2 vv vt fun vw =>
 (pr.nilCheck a0).bind fun vy =>
 fA 3 3 vy fun vz =>
 l1 vw.2 vz fun v00 =>
 bn .add v00 (i 1) fun v01 =>
 (pr.nilCheck a0).bind fun v02 =>
 fA 3 3 v02 fun v03 =>
 s1 vw.2 v03 v01 fun v04 =>
 (pr.nilCheck a0).bind fun v06 =>
 fA 5 5 v06 fun v07 =>
 l1 v04.2 v07 fun v08 =>
 fA 1 1 v0 fun v09 =>
 l1 v04.2 v09 fun v0A =>
 (pr.mapGet none (i 0) false v04.2 v08 v0A).bind fun v0B =>
 bn .add v0B (i 1) fun v0C =>
 (pr.mapPut none v04.2 v08 v0A v0C).bind fun v0D =>
 pr.finH v0D.2 []) (F_frag_Store_takes_k1 g a0 vn v0)) (
 (pr.nilCheck v9).bind fun v0X =>
 fA 3 3 v0X fun v0Y =>
 l1 hs v0Y fun v0Z =>
 lA 6 hs v0 fun v0a =>
 (pr.bsl (LV.agg [(LV.str []), (LV.str []), (i 0), (LV.bool false), (LV.str []), (LV.str [])]) 1 [(0, v0a)]).bind fun v0b =>
 (pr.appH 1000004 6 80 hs v0Z v0b).bind fun v0c =>
 (pr.nilCheck v9).bind fun v0d =>
 fA 3 3 v0d fun v0e =>
 s1 v0c.2 v0e v0c.1 fun v0f =>
 fA 3 3 v0 fun v0g =>
 l1 v0f.2 v0g fun v0h =>
 nt v0h fun v0i =>
 condK v0i (
 lA 6 v0f.2 v0 fun v0k =>
 cl g id_frag_Piece_to v0f.2 [v0k] fun v0l =>
 (pr.nilCheck v9).bind fun v0m =>
 fA 2 2 v0m fun v0n =>
 s1 v0f.2 v0n v0l fun v0o =>
 (pr.nilCheck a0).bind fun v0q =>
 fA 3 3 v0q fun v0r =>
 l1 v0o.2 v0r fun v0s =>
 bn .add v0s (i 1) fun v0t =>
 (pr.nilCheck a0).bind fun v0u =>
 fA 3 3 v0u fun v0v =>
 s1 v0o.2 v0v v0t fun v0w =>
 (pr.nilCheck a0).bind fun v0y =>
 fA 5 5 v0y fun v0z =>
 l1 v0w.2 v0z fun v10 =>
 fA 1 1 v0 fun v11 =>
 l1 v0w.2 v11 fun v12 =>
 (pr.mapGet none (i 0) false v0w.2 v10 v12).bind fun v13 =>
 bn .add v13 (i 1) fun v14 =>
 (pr.mapPut none v0w.2 v10 v12 v14).bind fun v15 =>
 pr.finH v15.2 []) (F_frag_Store_takes_k1 g a0 v0f v0))
theorem F_frag_Store_takes_eq (g : Tab) (a0 : LV) (a1 : LV) (a2 : LV) (hs : Slots) : hfnEv g c_frag_Store_takes [a0, a1, a2] hs = F_frag_Store_takes g a0 a1 a2 hs := by kernel_rfl
noncomputable def F_frag_datagram_whole (g : Tab) (a0 : LV) (a1 : LV) (hs : Slots) : Option (LV × Slots) :=
 (pr.alloc (LV.agg [(LV.str []), (LV.str []), (LV.str []), (i 0)]) 4 hs).bind fun v0 =>
 (pr.nilCheck a0).bind fun v3 =>
 fA 2 2 v3 fun v4 =>
 l1 v0.2 v4 fun v5 =>
 bn .lss v5 (i 0) fun v6 =>
 condK v6 (
 (pr.parts (LV.agg [(LV.str []), (LV.str []), (LV.str []), (i 0)]) []).bind fun v7 =>
 sA 4 v0.2 v0.1 v7 fun v8 =>
 lA 4 v8.2 v0.1 fun vA =>
 pr.finH v8.2 [vA, (LV.bool false)]) (
 (pr.nilCheck a0).bind fun vD =>
 fA 3 3 vD fun vE =>
 l1 v0.2 vE fun vF =>
 (pr.len false vF).bind fun vG =>
 (pr.inlR g id_frag_datagram_head v0.2 [a0]).bind fun vI =>
 (pr.parts (LV.agg [(LV.str []), (LV.str []), (LV.str []), (i 0)]) [(0, a1), (3, vG), (1, vI)]).bind fun vJ =>
 (pr.alloc (LV.agg [(LV.str []), (LV.str []), (LV.str []), (i 0)]) 6 v0.2).bind fun vK =>
 sA 4 vK.2 vK.1 vJ fun vL =>
 (pr.nilCheck a0).bind fun vN =>
 fA 3 3 vN fun vO =>
 l1 vL.2 vO fun vP =>
 (pr.inl g id_slices_SortStableFunc_frag_Piece_frag_Piece vL.2 [vP, (LV.clo id_frag_datagram_whole_1 [])]).bind fun vQ =>
 (pr.nilCheck a0).bind fun vS =>
 fA 3 3 vS fun vT =>
 l1 vQ.2 vT fun vU =>
 (pr.len false vU).bind fun vV =>
 (whileW (fun q33 : List LV × Slots =>
 bn .lss (getL q33.1 1) vV fun vY =>
 condK vY (
 (pr.idxAddr none 6 vU (getL q33.1 1)).bind fun vZ =>
 lA 6 q33.2 vZ fun va =>
 (pr.alloc (LV.agg [(LV.str []), (LV.str []), (i 0), (LV.bool false), (LV.str []), (LV.str [])]) 8 q33.2).bind fun vb =>
 sA 6 vb.2 vb.1 va fun vc =>
 fA 2 2 vb.1 fun vd =>
 l1 vc.2 vd fun ve =>
 fA 2 2 vK.1 fun vf =>
 l1 vc.2 vf fun vg =>
 ln vg fun vh =>
 bn .neq ve vh fun vi =>
 condK vi (
 (pr.parts (LV.agg [(LV.str []), (LV.str []), (LV.str []), (i 0)]) []).bind fun vj =>
 sA 4 vc.2 v0.1 vj fun vk =>
 pr.round vQ.2 .ret [(LV.bool false), (getL q33.1 1)] vk.2) (
 fA 2 2 vK.1 fun vm =>
 l1 vc.2 vm fun vn =>
 fA 4 4 vb.1 fun vo =>
 l1 vc.2 vo fun vp =>
 bn .add vn vp fun vq =>
 fA 2 2 vK.1 fun vr =>
 s1 vc.2 vr vq fun vs =>
 bn .add (getL q33.1 1) (i 1) fun vt =>
 pr.round vQ.2 .normal [(getL q33.1 0), vt] vs.2)) (
 pr.round vQ.2 (.exit 0) [(getL q33.1 0), (getL q33.1 1)] q33.2)) ([(LV.bool false), (i 0)], vQ.2)).bind fun r33 =>
 exIf r33.1 (.exit 0) (
 fA 2 2 vK.1 fun vv =>
 l1 r33.2.2 vv fun vw =>
 ln vw fun vx =>
 (pr.nilCheck a0).bind fun vz =>
 fA 2 2 vz fun v00 =>
 l1 r33.2.2 v00 fun v01 =>
 bn .neq vx v01 fun v02 =>
 condK v02 (
 (pr.parts (LV.agg [(LV.str []), (LV.str []), (LV.str []), (i 0)]) []).bind fun v03 =>
 sA 4 r33.2.2 v0.1 v03 fun v04 =>
 lA 4 v04.2 v0.1 fun v06 =>
 pr.finH v04.2 [v06, (LV.bool false)]) (
 lA 4 r33.2.2 vK.1 fun v07 =>
 sA 4 r33.2.2 v0.1 v07 fun v08 =>
 lA 4 v08.2 v0.1 fun v0A =>
 pr.finH v08.2 [v0A, (LV.bool true)])) (exIf r33.1 .ret (
 lA 4 r33.2.2 v0.1 fun v0B =>
 pr.finH r33.2.2 [v0B, (getL r33.2.1 0)]) (none)))
theorem F_frag_datagram_whole_eq (g : Tab) (a0 : LV) (a1 : LV) (hs : Slots) : hfnEv g c_frag_datagram_whole [a0, a1] hs = F_frag_datagram_whole g a0 a1 hs := by kernel_rfl
noncomputable def F_refrag_Len6 (g : Tab) (a0 : LV) : Option (LV × Option LV) :=
 bx a0 fun v0 =>
 lA 42 z v0 fun v2 =>
 cl g id_ip6_Bytes z [v2] fun v3 =>
 ex v3 0 fun v5 =>
 ex v3 1 fun v6 =>
 eN 1 true v6 fun vA =>
 condK vA (
 pr.fin none z [(i 0)]) (
 ln v5 fun vD =>
 pr.fin none z [vD])
theorem F_refrag_Len6_eq (g : Tab) (a0 : LV) : fnEv g c_refrag_Len6 [a0] none = F_refrag_Len6 g a0 := by kernel_rfl
noncomputable def F_slices_Clone_api_Ext_api_Ext (g : Tab) (a0 : LV) : Option (LV × Option LV) :=
 eN 3 false a0 fun v2 =>
 condK v2 (
 pr.fin none z [LV.nils]) (
 (pr.slc0 LV.nils).bind fun v4 =>
 (pr.append 2 24 7 z v4 a0).bind fun v6 =>
 pr.fin none v6.2 [v6.1])
theorem F_slices_Clone_api_Ext_api_Ext_eq (g : Tab) (a0 : LV) : fnEv g c_slices_Clone_api_Ext_api_Ext [a0] none = F_slices_Clone_api_Ext_api_Ext g a0 := by kernel_rfl
noncomputable def F_ip6_why (g : Tab) (a0 : LV) : Option (LV × Option LV) :=
 bx a0 fun v0 =>
 fA 0 0 v0 fun v2 =>
 l1 z v2 fun v3 =>
 cl g id_ip6_within z [v3, (i 255)] fun v4 =>
 nt v4 fun v5 =>
 ff v5 1 1 v0 fun v7 =>
 fl v5 z v7 fun v8 =>
 gF v5 (pr.call g id_ip6_within z [v8, (i 1048575)]) fun v9 =>
 gF v5 (pr.un .not v9) fun vA =>
 pF v5 vA fun vB =>
 ff vB 2 2 v0 fun vD =>
 fl vB z vD fun vE =>
 gF vB (pr.call g id_ip6_within z [vE, (i 255)]) fun vF =>
 gF vB (pr.un .not vF) fun vG =>
 pF vB vG fun vH =>
 ff vH 10 40 v0 fun vJ =>
 fl vH z vJ fun vK =>
 gF vH (pr.call g id_ip6_within z [vK, (i 255)]) fun vL =>
 gF vH (pr.un .not vL) fun vM =>
 pF vH vM fun vN =>
 ff vN 8 38 v0 fun vP =>
 fl vN z vP fun vQ =>
 gF vN (pr.call g id_ip6_within z [vQ, (i 65528)]) fun vR =>
 gF vN (pr.un .not vR) fun vS =>
 pF vN vS fun vT =>
 ff vT 8 38 v0 fun vV =>
 fl vT z vV fun vW =>
 fb vT .rem vW (i 8) fun vX =>
 fb vT .neq vX (i 0) fun vY =>
 pF vT vY fun vZ =>
 condK vZ (
 pr.fin none z [(i 13)]) (
 lA 42 z v0 fun vc =>
 cl g id_ip6_kinds z [vc] fun vd =>
 nt vd fun ve =>
 condK ve (
 pr.fin none z [(i 10)]) (
 lA 42 z v0 fun vh =>
 cl g id_ip6_formed z [vh] fun vi =>
 nt vi fun vj =>
 condK vj (
 pr.fin none z [(i 8)]) (
 fA 5 35 v0 fun vm =>
 l1 z vm fun vn =>
 (pr.len false vn).bind fun vo =>
 bn .gtr vo (i 8) fun vp =>
 ff vp 11 41 v0 fun vr =>
 fl vp z vr fun vs =>
 gF vp (pr.len true vs) fun vt =>
 ff vp 8 38 v0 fun vu =>
 fl vp z vu fun vv =>
 fb vp .sub (i 65535) vv fun vw =>
 fb vp .gtr vt vw fun vx =>
 pF vp vx fun vy =>
 gF vy (pr.load 42 true z v0) fun v00 =>
 gF vy (pr.call g id_ip6_size z [v00]) fun v01 =>
 fb vy .gtr v01 (i 65535) fun v02 =>
 pF vy v02 fun v03 =>
 condK v03 (
 pr.fin none z [(i 3)]) (
 pr.fin none z [(i 0)]))))
theorem F_ip6_why_eq (g : Tab) (a0 : LV) : fnEv g c_ip6_why [a0] none = F_ip6_why g a0 := by kernel_rfl
noncomputable def F_ip6_fault (g : Tab) (a0 : LV) : Option (LV × Option LV) :=
 (pr.parts (LV.agg [(i 0), (i 0)]) [(0, a0)]).bind fun v2 =>
 bx v2 fun v3 =>
 (pr.iface ty_ptr_num_Fault v3).bind fun v4 =>
 pr.fin none z [v4]
theorem F_ip6_fault_eq (g : Tab) (a0 : LV) : fnEv g c_ip6_fault [a0] none = F_ip6_fault g a0 := by kernel_rfl
noncomputable def F_ip6_big (g : Tab) (a0 : LV) (a1 : LV) : Option (LV × Option LV) :=
 cl g id_num_Big z [a0, a1] fun v3 =>
 ex v3 0 fun v5 =>
 ex v3 1 fun v6 =>
 pr.fin none z [v5]
theorem F_ip6_big_eq (g : Tab) (a0 : LV) (a1 : LV) : fnEv g c_ip6_big [a0, a1] none = F_ip6_big g a0 a1 := by kernel_rfl
noncomputable def F_num_New (g : Tab) (a0 : LV) : Option (LV × Option LV) :=
 (pr.parts (LV.agg [(LV.str []), (i 0), LV.nilp]) [(0, a0)]).bind fun v2 =>
 (pr.boxM v2 5 z).bind fun v3 =>
 pr.fin none v3.2 [v3.1]
theorem F_num_New_eq (g : Tab) (a0 : LV) : fnEv g c_num_New [a0] none = F_num_New g a0 := by kernel_rfl
noncomputable def F_num_Reader_U32 (g : Tab) (h : LV) : Option (LV × Option LV) :=
 (pr.callRw g id_num_Reader_number (upd z 0 (.obj 0 h)) [(LV.ptr 0 0 [] 0), (i 4)]).bind fun v3 =>
 ex v3.1 0 fun v4 =>
 ex v3.1 1 fun v5 =>
 pr.fin (some h) v3.2 [v4, v5]
theorem F_num_Reader_U32_eq (g : Tab) (h : LV) : fnEv g c_num_Reader_U32 [(LV.ptr 0 0 [] 0)] (some h) = F_num_Reader_U32 g h := by kernel_rfl
noncomputable def F_ip6_Chain_k1 (g : Tab) (q4 : List LV × Slots) :=
 sl (getL q4.1 5) (some (i 2)) (some (i 8)) fun v1a =>
 (pr.parts (LV.agg [(i 0), (LV.str [])]) [(0, (getL q4.1 4)), (1, v1a)]).bind fun v1b =>
 (pr.bsl (LV.agg [(i 0), (LV.str [])]) 1 [(0, v1b)]).bind fun v1c =>
 (pr.append 2 24 49 q4.2 (getL q4.1 0) v1c).bind fun v1d =>
 xS (getL q4.1 5) (i 0) fun v1g =>
 (pr.conv .i64 v1g).bind fun v1h =>
 sl (getL q4.1 5) (some (i 8)) none fun v1k =>
 pr.round z .normal [v1d.1, (getL q4.1 1), (getL q4.1 2), (getL q4.1 3), v1h, v1k] v1d.2
noncomputable def F_ip6_Chain_k2 (g : Tab) (q4 : List LV × Slots) (vH : LV) :=
 sl (getL q4.1 5) (some (i 2)) (some vH) fun ve =>
 (pr.parts (LV.agg [(i 0), (LV.str [])]) [(0, (getL q4.1 4)), (1, ve)]).bind fun vf =>
 (pr.bsl (LV.agg [(i 0), (LV.str [])]) 1 [(0, vf)]).bind fun vg =>
 (pr.append 2 24 49 q4.2 (getL q4.1 0) vg).bind fun vh =>
 xS (getL q4.1 5) (i 0) fun vk =>
 (pr.conv .i64 vk).bind fun vl =>
 sl (getL q4.1 5) (some vH) none fun vo =>
 pr.round z .normal [vh.1, (getL q4.1 1), (getL q4.1 2), (getL q4.1 3), vl, vo] vh.2
noncomputable def F_ip6_Chain (g : Tab) (a0 : LV) (a1 : LV) : Option (LV × Option LV) :=
 (whileW (fun q4 : List LV × Slots =>
 cl g id_ip6_extends q4.2 [(getL q4.1 4)] fun v6 =>
 condK v6 (
 ln (getL q4.1 5) fun vA =>
 bn .geq vA (i 2) fun vB =>
 condK vB (
 xS (getL q4.1 5) (i 1) fun vE =>
 (pr.conv .i64 vE).bind fun vF =>
 bn .mul vF (i 8) fun vG =>
 bn .add (i 8) vG fun vH =>
 bn .eql (getL q4.1 4) (i 0) fun vK =>
 ts vK (getL q4.1 0) fun vM =>
 gT vK (pr.len false vM) fun vN =>
 tb vK .gtr vN (i 0) fun vO =>
 pT vK vO fun vP =>
 condK vP (
 bn .neq (i 8) (i 0) fun vT =>
 condK vT (
 cl g id_ip6_fault q4.2 [(i 8)] fun vV =>
 pr.round z .ret [LV.nils, (i 0), (LV.str []), vV, (getL q4.1 4), (getL q4.1 5)] q4.2) (F_ip6_Chain_k2 g q4 vH)) (
 (pr.len false (getL q4.1 0)).bind fun vs =>
 bn .geq vs (i 8) fun vt =>
 condK vt (
 bn .neq (i 3) (i 0) fun vx =>
 condK vx (
 cl g id_ip6_fault q4.2 [(i 3)] fun vz =>
 pr.round z .ret [LV.nils, (i 0), (LV.str []), vz, (getL q4.1 4), (getL q4.1 5)] q4.2) (F_ip6_Chain_k2 g q4 vH)) (
 ln (getL q4.1 5) fun v0M =>
 bn .lss v0M vH fun v0O =>
 condK v0O (
 bn .neq (i 7) (i 0) fun v0S =>
 condK v0S (
 cl g id_ip6_fault q4.2 [(i 7)] fun v0U =>
 pr.round z .ret [LV.nils, (i 0), (LV.str []), v0U, (getL q4.1 4), (getL q4.1 5)] q4.2) (F_ip6_Chain_k2 g q4 vH)) (
 bn .neq (i 0) (i 0) fun v0r =>
 condK v0r (
 cl g id_ip6_fault q4.2 [(i 0)] fun v0t =>
 pr.round z .ret [LV.nils, (i 0), (LV.str []), v0t, (getL q4.1 4), (getL q4.1 5)] q4.2) (F_ip6_Chain_k2 g q4 vH))))) (
 bn .eql (getL q4.1 4) (i 0) fun v1G =>
 ts v1G (getL q4.1 0) fun v1I =>
 gT v1G (pr.len false v1I) fun v1J =>
 tb v1G .gtr v1J (i 0) fun v1K =>
 pT v1G v1K fun v1L =>
 condK v1L (
 bn .neq (i 8) (i 0) fun v1P =>
 condK v1P (
 cl g id_ip6_fault q4.2 [(i 8)] fun v1R =>
 pr.round z .ret [LV.nils, (i 0), (LV.str []), v1R, (getL q4.1 4), (getL q4.1 5)] q4.2) (F_ip6_Chain_k1 g q4)) (
 (pr.len false (getL q4.1 0)).bind fun v1o =>
 bn .geq v1o (i 8) fun v1p =>
 condK v1p (
 bn .neq (i 3) (i 0) fun v1t =>
 condK v1t (
 cl g id_ip6_fault q4.2 [(i 3)] fun v1v =>
 pr.round z .ret [LV.nils, (i 0), (LV.str []), v1v, (getL q4.1 4), (getL q4.1 5)] q4.2) (F_ip6_Chain_k1 g q4)) (
 ln (getL q4.1 5) fun v2I =>
 bn .lss v2I (i 8) fun v2K =>
 condK v2K (
 bn .neq (i 7) (i 0) fun v2O =>
 condK v2O (
 cl g id_ip6_fault q4.2 [(i 7)] fun v2Q =>
 pr.round z .ret [LV.nils, (i 0), (LV.str []), v2Q, (getL q4.1 4), (getL q4.1 5)] q4.2) (F_ip6_Chain_k1 g q4)) (
 bn .neq (i 0) (i 0) fun v2n =>
 condK v2n (
 cl g id_ip6_fault q4.2 [(i 0)] fun v2p =>
 pr.round z .ret [LV.nils, (i 0), (LV.str []), v2p, (getL q4.1 4), (getL q4.1 5)] q4.2) (F_ip6_Chain_k1 g q4)))))) (
 pr.round z (.exit 0) [(getL q4.1 0), (getL q4.1 1), (getL q4.1 2), (getL q4.1 3), (getL q4.1 4), (getL q4.1 5)] q4.2)) ([LV.nils, (i 0), (LV.str []), LV.nili, a0, a1], z)).bind fun r4 =>
 exIf r4.1 (.exit 0) (
 pr.fin none r4.2.2 [(getL r4.2.1 0), (getL r4.2.1 4), (getL r4.2.1 5), LV.nili]) (exIf r4.1 .ret (
 pr.fin none r4.2.2 [(getL r4.2.1 0), (getL r4.2.1 1), (getL r4.2.1 2), (getL r4.2.1 3)]) (none))
theorem F_ip6_Chain_eq (g : Tab) (a0 : LV) (a1 : LV) : fnEv g c_ip6_Chain [a0, a1] none = F_ip6_Chain g a0 a1 := by kernel_rfl
noncomputable def F_ip6_pieced (g : Tab) (a0 : LV) : Option (LV × Option LV) :=
 bx a0 fun v0 =>
 fA 9 39 v0 fun v2 =>
 l1 z v2 fun v3 =>
 nt v3 fun v4 =>
 ff v4 11 41 v0 fun v6 =>
 fl v4 z v6 fun v7 =>
 fb v4 .neq v7 (LV.str []) fun v8 =>
 fs v4 v8 fun v9 =>
 tf v9 11 41 v0 fun vA =>
 tl v9 z vA fun vB =>
 gT v9 (pr.len true vB) fun vC =>
 tb v9 .rem vC (i 8) fun vD =>
 tb v9 .eql vD (i 0) fun vE =>
 gF v4 (pr.pick v9 vE (LV.bool false)) fun vF =>
 pF v4 vF fun vG =>
 pr.fin none z [vG]
theorem F_ip6_pieced_eq (g : Tab) (a0 : LV) : fnEv g c_ip6_pieced [a0] none = F_ip6_pieced g a0 := by kernel_rfl
noncomputable def F_ip4_byteful (g : Tab) (a0 : LV) : Option (LV × Option LV) :=
 (pr.len false a0).bind fun v2 =>
 (whileW (fun q4 : List LV × Slots =>
 bn .lss (getL q4.1 1) v2 fun v5 =>
 condK v5 (
 (pr.idxAddr none 1 a0 (getL q4.1 1)).bind fun v6 =>
 l1 q4.2 v6 fun v7 =>
 bn .lss v7 (i 0) fun vA =>
 fs vA v7 fun vC =>
 fb vA .gtr vC (i 255) fun vD =>
 pF vA vD fun vE =>
 condK vE (
 pr.round z .ret [(LV.bool false), (getL q4.1 1)] q4.2) (
 bn .add (getL q4.1 1) (i 1) fun vG =>
 pr.round z .normal [(getL q4.1 0), vG] q4.2)) (
 pr.round z (.exit 0) [(getL q4.1 0), (getL q4.1 1)] q4.2)) ([(LV.bool false), (i 0)], z)).bind fun r4 =>
 exIf r4.1 (.exit 0) (
 pr.fin none r4.2.2 [(LV.bool true)]) (exIf r4.1 .ret (
 pr.fin none r4.2.2 [(getL r4.2.1 0)]) (none))
theorem F_ip4_byteful_eq (g : Tab) (a0 : LV) : fnEv g c_ip4_byteful [a0] none = F_ip4_byteful g a0 := by kernel_rfl
noncomputable def F_num_Big (g : Tab) (a0 : LV) (a1 : LV) : Option (LV × Option LV) :=
 bn .neq a1 (i 1) fun v3 =>
 ts v3 a1 fun v5 =>
 tb v3 .neq v5 (i 2) fun v6 =>
 pT v3 v6 fun v7 =>
 ts v7 a1 fun v9 =>
 tb v7 .neq v9 (i 4) fun vA =>
 pT v7 vA fun vB =>
 condK vB (
 (pr.parts (LV.agg [(i 0), (i 0)]) [(0, (i 1))]).bind fun vD =>
 bx vD fun vE =>
 (pr.iface ty_ptr_num_Fault vE).bind fun vF =>
 pr.fin none z [(LV.str []), vF]) (
 bn .lss a0 (i 0) fun vJ =>
 fs vJ a0 fun vL =>
 fs vJ a1 fun vM =>
 fb vJ .mul (i 8) vM fun vN =>
 fb vJ .shl (i 1) vN fun vO =>
 fb vJ .geq vL vO fun vP =>
 pF vJ vP fun vQ =>
 condK vQ (
 (pr.parts (LV.agg [(i 0), (i 0)]) [(0, (i 13))]).bind fun vS =>
 bx vS fun vT =>
 (pr.iface ty_ptr_num_Fault vT).bind fun vU =>
 pr.fin none z [(LV.str []), vU]) (
 (pr.mkSl 36 z a1 a1).bind fun vY =>
 (whileW (fun q38 : List LV × Slots =>
 bn .lss (getL q38.1 0) a1 fun vd =>
 condK vd (
 bn .sub a1 (i 1) fun vk =>
 bn .sub vk (getL q38.1 0) fun vm =>
 bn .mul (i 8) vm fun vn =>
 bn .shr a0 vn fun vo =>
 (pr.conv .u8 vo).bind fun vp =>
 (pr.idxAddr none 1 vY.1 (getL q38.1 0)).bind fun vq =>
 s1 q38.2 vq vp fun vr =>
 bn .add (getL q38.1 0) (i 1) fun vs =>
 pr.round vY.2 .normal [vs] vr.2) (
 pr.round vY.2 (.exit 1) [(getL q38.1 0)] q38.2)) ([(i 0)], vY.2)).bind fun r38 =>
 exIf r38.1 (.exit 1) (
 bS r38.2.2 vY.1 fun vv =>
 pr.fin none r38.2.2 [vv, LV.nili]) (none)))
theorem F_num_Big_eq (g : Tab) (a0 : LV) (a1 : LV) : fnEv g c_num_Big [a0, a1] none = F_num_Big g a0 a1 := by kernel_rfl
noncomputable def F_sum_fold (g : Tab) (a0 : LV) : Option (LV × Option LV) :=
 (whileW (fun q1 : List LV × Slots =>
 bn .gtr (getL q1.1 0) (i 65535) fun v3 =>
 condK v3 (
 bn .shr (getL q1.1 0) (LV.int .u64 16) fun v5 =>
 bn .and (getL q1.1 0) (i 65535) fun v7 =>
 bn .add v5 v7 fun v8 =>
 pr.round z .normal [v8] q1.2) (
 pr.round z (.exit 0) [(getL q1.1 0)] q1.2)) ([a0], z)).bind fun r1 =>
 exIf r1.1 (.exit 0) (
 pr.fin none r1.2.2 [(getL r1.2.1 0)]) (none)
theorem F_sum_fold_eq (g : Tab) (a0 : LV) : fnEv g c_sum_fold [a0] none = F_sum_fold g a0 := by kernel_rfl
noncomputable def F_sum_add (g : Tab) (a0 : LV) (a1 : LV) (a2 : LV) (a3 : LV) : Option (LV × Option LV) :=
 ln a2 fun v2 =>
 (whileW (fun q4 : List LV × Slots =>
 bn .lss (getL q4.1 1) v2 fun v5 =>
 condK v5 (
 xS a2 (getL q4.1 1) fun vA =>
 bn .xor vA a3 fun vC =>
 (pr.conv .i64 vC).bind fun vD =>
 bn .add a1 (getL q4.1 1) fun vH =>
 bn .rem vH (i 2) fun vI =>
 bn .eql vI (i 0) fun vJ =>
 condK vJ (
 bn .shl vD (LV.int .u64 8) fun vL =>
 bn .add (getL q4.1 0) vL fun vP =>
 bn .add (getL q4.1 1) (i 1) fun vR =>
 pr.round z .normal [vP, vR] q4.2) (
 bn .add (getL q4.1 0) vD fun vV =>
 bn .add (getL q4.1 1) (i 1) fun vX =>
 pr.round z .normal [vV, vX] q4.2)) (
 pr.round z (.exit 0) [(getL q4.1 0), (getL q4.1 1)] q4.2)) ([a0, (i 0)], z)).bind fun r4 =>
 exIf r4.1 (.exit 0) (
 pr.fin none r4.2.2 [(getL r4.2.1 0)]) (none)
theorem F_sum_add_eq (g : Tab) (a0 : LV) (a1 : LV) (a2 : LV) (a3 : LV) : fnEv g c_sum_add [a0, a1, a2, a3] none = F_sum_add g a0 a1 a2 a3 := by kernel_rfl
noncomputable def F_slices_IndexFunc_frag_Piece_frag_Piece (g : Tab) (a0 : LV) (a1 : LV) (hs : Slots) : Option (LV × Slots) :=
 (pr.len false a0).bind fun v2 =>
 (whileW (fun q4 : List LV × Slots =>
 bn .lss (getL q4.1 1) v2 fun v5 =>
 condK v5 (
 (pr.idxAddr none 6 a0 (getL q4.1 1)).bind fun vB =>
 lA 6 q4.2 vB fun vC =>
 (pr.callv g q4.2 a1 [vC]).bind fun vD =>
 condK vD (
 pr.round hs .ret [(getL q4.1 1), (getL q4.1 1)] q4.2) (
 bn .add (getL q4.1 1) (i 1) fun vG =>
 pr.round hs .normal [(getL q4.1 0), vG] q4.2)) (
 pr.round hs (.exit 0) [(getL q4.1 0), (getL q4.1 1)] q4.2)) ([(i 0), (i 0)], hs)).bind fun r4 =>
 exIf r4.1 (.exit 0) (
 pr.finH r4.2.2 [(i (-1))]) (exIf r4.1 .ret (
 pr.finH r4.2.2 [(getL r4.2.1 0)]) (none))
theorem F_slices_IndexFunc_frag_Piece_frag_Piece_eq (g : Tab) (a0 : LV) (a1 : LV) (hs : Slots) : hfnEv g c_slices_IndexFunc_frag_Piece_frag_Piece [a0, a1] hs = F_slices_IndexFunc_frag_Piece_frag_Piece g a0 a1 hs := by kernel_rfl
noncomputable def F_frag_Piece_to (g : Tab) (a0 : LV) : Option (LV × Option LV) :=
 bx a0 fun v0 =>
 fA 2 2 v0 fun v2 =>
 l1 z v2 fun v3 =>
 fA 4 4 v0 fun v4 =>
 l1 z v4 fun v5 =>
 ln v5 fun v6 =>
 bn .add v3 v6 fun v7 =>
 pr.fin none z [v7]
theorem F_frag_Piece_to_eq (g : Tab) (a0 : LV) : fnEv g c_frag_Piece_to [a0] none = F_frag_Piece_to g a0 := by kernel_rfl
noncomputable def F_frag_datagram_fits_1 (g : Tab) (a0 : LV) (a1 : LV) : Option (LV × Option LV) :=
 bx a0 fun v0 =>
 fA 2 2 a1 fun v2 =>
 l1 z v2 fun v3 =>
 lA 6 z v0 fun v4 =>
 cl g id_frag_Piece_to z [v4] fun v5 =>
 bn .lss v3 v5 fun v6 =>
 tf v6 2 2 v0 fun v8 =>
 tl v6 z v8 fun v9 =>
 gT v6 (pr.load 6 true z a1) fun vA =>
 gT v6 (pr.call g id_frag_Piece_to z [vA]) fun vB =>
 tb v6 .lss v9 vB fun vC =>
 pT v6 vC fun vD =>
 ff vD 3 3 a1 fun vF =>
 fl vD z vF fun vG =>
 gF vD (pr.un .not vG) fun vH =>
 fs vD vH fun vI =>
 gT vI (pr.load 6 true z v0) fun vJ =>
 gT vI (pr.call g id_frag_Piece_to z [vJ]) fun vK =>
 gT vI (pr.load 6 true z a1) fun vL =>
 gT vI (pr.call g id_frag_Piece_to z [vL]) fun vM =>
 tb vI .gtr vK vM fun vN =>
 gF vD (pr.pick vI vN (LV.bool false)) fun vO =>
 pF vD vO fun vP =>
 pr.fin none z [vP]
theorem F_frag_datagram_fits_1_eq (g : Tab) (a0 : LV) (a1 : LV) : fnEv g c_frag_datagram_fits_1 [a0, a1] none = F_frag_datagram_fits_1 g a0 a1 := by kernel_rfl
noncomputable def F_frag_datagram_head (g : Tab) (a0 : LV) (hs : Slots) : Option (LV × Slots) :=
 (pr.nilCheck a0).bind fun v2 =>
 fA 3 3 v2 fun v3 =>
 l1 hs v3 fun v4 =>
 (pr.len false v4).bind fun v5 =>
 (whileW (fun q7 : List LV × Slots =>
 bn .lss (getL q7.1 1) v5 fun v8 =>
 condK v8 (
 (pr.idxAddr none 6 v4 (getL q7.1 1)).bind fun v9 =>
 lA 6 q7.2 v9 fun vA =>
 (pr.alloc (LV.agg [(LV.str []), (LV.str []), (i 0), (LV.bool false), (LV.str []), (LV.str [])]) 4 q7.2).bind fun vB =>
 sA 6 vB.2 vB.1 vA fun vC =>
 fA 2 2 vB.1 fun vD =>
 l1 vC.2 vD fun vE =>
 bn .eql vE (i 0) fun vF =>
 condK vF (
 fA 5 5 vB.1 fun vG =>
 l1 vC.2 vG fun vH =>
 pr.round hs .ret [vH, (getL q7.1 1)] vC.2) (
 bn .add (getL q7.1 1) (i 1) fun vJ =>
 pr.round hs .normal [(getL q7.1 0), vJ] vC.2)) (
 pr.round hs (.exit 0) [(getL q7.1 0), (getL q7.1 1)] q7.2)) ([(LV.str []), (i 0)], hs)).bind fun r7 =>
 exIf r7.1 (.exit 0) (
 pr.finH r7.2.2 [(LV.str [])]) (exIf r7.1 .ret (
 pr.finH r7.2.2 [(getL r7.2.1 0)]) (none))
theorem F_frag_datagram_head_eq (g : Tab) (a0 : LV) (hs : Slots) : hfnEv g c_frag_datagram_head [a0] hs = F_frag_datagram_head g a0 hs := by kernel_rfl
noncomputable def F_slices_SortStableFunc_frag_Piece_frag_Piece (g : Tab) (a0 : LV) (a1 : LV) (hs : Slots) : Option (LV × Slots) :=
 (pr.len false a0).bind fun v2 =>
 (pr.inl g id_slices_stableCmpFunc_frag_Piece hs [a0, v2, a1]).bind fun v4 =>
 pr.finH v4.2 []
theorem F_slices_SortStableFunc_frag_Piece_frag_Piece_eq (g : Tab) (a0 : LV) (a1 : LV) (hs : Slots) : hfnEv g c_slices_SortStableFunc_frag_Piece_frag_Piece [a0, a1] hs = F_slices_SortStableFunc_frag_Piece_frag_Piece g a0 a1 hs := by kernel_rfl
noncomputable def F_frag_datagram_whole_1 (g : Tab) (a0 : LV) (a1 : LV) : Option (LV × Option LV) :=
 bx a0 fun v0 =>
 bx a1 fun v1 =>
 fA 2 2 v0 fun v3 =>
 l1 z v3 fun v4 =>
 fA 2 2 v1 fun v5 =>
 l1 z v5 fun v6 =>
 cl g id_cmp_Compare_int z [v4, v6] fun v7 =>
 lA 6 z v0 fun v8 =>
 cl g id_frag_Piece_to z [v8] fun v9 =>
 lA 6 z v1 fun vA =>
 cl g id_frag_Piece_to z [vA] fun vB =>
 cl g id_cmp_Compare_int z [v9, vB] fun vC =>
 (pr.bsl (i 0) 2 [(0, v7), (1, vC)]).bind fun vD =>
 cl g id_cmp_Or_int z [vD] fun vE =>
 pr.fin none z [vE]
theorem F_frag_datagram_whole_1_eq (g : Tab) (a0 : LV) (a1 : LV) : fnEv g c_frag_datagram_whole_1 [a0, a1] none = F_frag_datagram_whole_1 g a0 a1 := by kernel_rfl
noncomputable def F_cmp_Or_int (g : Tab) (a0 : LV) : Option (LV × Option LV) :=
 (pr.len false a0).bind fun v3 =>
 (whileW (fun q5 : List LV × Slots =>
 bn .lss (getL q5.1 1) v3 fun v6 =>
 condK v6 (
 (pr.idxAddr none 1 a0 (getL q5.1 1)).bind fun v7 =>
 l1 q5.2 v7 fun v8 =>
 bn .neq v8 (i 0) fun vC =>
 condK vC (
 pr.round z .ret [v8, (getL q5.1 1)] q5.2) (
 bn .add (getL q5.1 1) (i 1) fun vF =>
 pr.round z .normal [(getL q5.1 0), vF] q5.2)) (
 pr.round z (.exit 0) [(getL q5.1 0), (getL q5.1 1)] q5.2)) ([(i 0), (i 0)], z)).bind fun r5 =>
 exIf r5.1 (.exit 0) (
 pr.fin none r5.2.2 [(i 0)]) (exIf r5.1 .ret (
 pr.fin none r5.2.2 [(getL r5.2.1 0)]) (none))
theorem F_cmp_Or_int_eq (g : Tab) (a0 : LV) : fnEv g c_cmp_Or_int [a0] none = F_cmp_Or_int g a0 := by kernel_rfl
noncomputable def F_cmp_Compare_int (g : Tab) (a0 : LV) (a1 : LV) : Option (LV × Option LV) :=
 cl g id_cmp_isNaN_int z [a0] fun v2 =>
 cl g id_cmp_isNaN_int z [a1] fun v5 =>
 condK v2 (
 condK v5 (
 pr.fin none z [(i 0)]) (
 pr.fin none z [(i (-1))])) (
 condK v5 (
 pr.fin none z [(i 1)]) (
 bn .lss a0 a1 fun vF =>
 condK vF (
 pr.fin none z [(i (-1))]) (
 bn .gtr a0 a1 fun vJ =>
 condK vJ (
 pr.fin none z [(i 1)]) (
 pr.fin none z [(i 0)]))))
theorem F_cmp_Compare_int_eq (g : Tab) (a0 : LV) (a1 : LV) : fnEv g c_cmp_Compare_int [a0, a1] none = F_cmp_Compare_int g a0 a1 := by kernel_rfl
noncomputable def F_ip6_within (g : Tab) (a0 : LV) (a1 : LV) : Option (LV × Option LV) :=
 bn .geq a0 (i 0) fun v2 =>
 ts v2 a0 fun v4 =>
 ts v2 a1 fun v5 =>
 tb v2 .leq v4 v5 fun v6 =>
 pT v2 v6 fun v7 =>
 pr.fin none z [v7]
theorem F_ip6_within_eq (g : Tab) (a0 : LV) (a1 : LV) : fnEv g c_ip6_within [a0, a1] none = F_ip6_within g a0 a1 := by kernel_rfl
noncomputable def F_ip6_kinds (g : Tab) (a0 : LV) : Option (LV × Option LV) :=
 bx a0 fun v0 =>
 fA 5 35 v0 fun v2 =>
 l1 z v2 fun v3 =>
 (pr.len false v3).bind fun v4 =>
 (whileW (fun q6 : List LV × Slots =>
 bn .lss (getL q6.1 1) v4 fun v7 =>
 condK v7 (
 (pr.idxAddr none 2 v3 (getL q6.1 1)).bind fun v8 =>
 lA 2 q6.2 v8 fun v9 =>
 (pr.alloc (LV.agg [(i 0), (LV.str [])]) 4 q6.2).bind fun vA =>
 sA 2 vA.2 vA.1 v9 fun vB =>
 fA 0 0 vA.1 fun vC =>
 l1 vB.2 vC fun vD =>
 cl g id_ip6_extends vB.2 [vD] fun vE =>
 nt vE fun vF =>
 condK vF (
 pr.round z .ret [(LV.bool false), (getL q6.1 1)] vB.2) (
 bn .add (getL q6.1 1) (i 1) fun vH =>
 pr.round z .normal [(getL q6.1 0), vH] vB.2)) (
 pr.round z (.exit 0) [(getL q6.1 0), (getL q6.1 1)] q6.2)) ([(LV.bool false), (i 0)], z)).bind fun r6 =>
 exIf r6.1 (.exit 0) (
 fA 6 36 v0 fun vJ =>
 l1 r6.2.2 vJ fun vK =>
 ff vK 10 40 v0 fun vM =>
 fl vK r6.2.2 vM fun vN =>
 gF vK (pr.call g id_ip6_extends r6.2.2 [vN]) fun vO =>
 gF vK (pr.un .not vO) fun vP =>
 fs vK vP fun vQ =>
 tf vQ 10 40 v0 fun vR =>
 tl vQ r6.2.2 vR fun vS =>
 tb vQ .neq vS (i 44) fun vT =>
 gF vK (pr.pick vQ vT (LV.bool false)) fun vU =>
 pF vK vU fun vV =>
 pr.fin none r6.2.2 [vV]) (exIf r6.1 .ret (
 pr.fin none r6.2.2 [(getL r6.2.1 0)]) (none))
theorem F_ip6_kinds_eq (g : Tab) (a0 : LV) : fnEv g c_ip6_kinds [a0] none = F_ip6_kinds g a0 := by kernel_rfl
noncomputable def F_ip6_formed (g : Tab) (a0 : LV) : Option (LV × Option LV) :=
 bx a0 fun v0 =>
 fA 5 35 v0 fun v2 =>
 l1 z v2 fun v3 =>
 (pr.len false v3).bind fun v4 =>
 (whileW (fun q6 : List LV × Slots =>
 bn .lss (getL q6.1 1) v4 fun v7 =>
 condK v7 (
 (pr.idxAddr none 2 v3 (getL q6.1 1)).bind fun v9 =>
 lA 2 q6.2 v9 fun vA =>
 (pr.alloc (LV.agg [(i 0), (LV.str [])]) 4 q6.2).bind fun vB =>
 sA 2 vB.2 vB.1 vA fun vD =>
 fA 1 1 vB.1 fun vE =>
 l1 vD.2 vE fun vF =>
 ln vF fun vG =>
 bn .rem vG (i 8) fun vH =>
 bn .neq vH (i 6) fun vI =>
 ff vI 1 1 vB.1 fun vK =>
 fl vI vD.2 vK fun vL =>
 gF vI (pr.len true vL) fun vM =>
 fb vI .gtr vM (i 2046) fun vN =>
 pF vI vN fun vO =>
 ff vO 0 0 vB.1 fun vQ =>
 fl vO vD.2 vQ fun vR =>
 fb vO .eql vR (i 0) fun vS =>
 fs vO vS fun vT =>
 ts vT (getL q6.1 1) fun vU =>
 tb vT .gtr vU (i 0) fun vV =>
 gF vO (pr.pick vT vV (LV.bool false)) fun vW =>
 pF vO vW fun vX =>
 condK vX (
 pr.round z .ret [(LV.bool false), (getL q6.1 1)] vD.2) (
 bn .add (getL q6.1 1) (i 1) fun vZ =>
 pr.round z .normal [(getL q6.1 0), vZ] vD.2)) (
 pr.round z (.exit 0) [(getL q6.1 0), (getL q6.1 1)] q6.2)) ([(LV.bool false), (i 0)], z)).bind fun r6 =>
 exIf r6.1 (.exit 0) (
 fA 6 36 v0 fun vb =>
 l1 r6.2.2 vb fun vc =>
 condK vc (
 lA 42 r6.2.2 v0 fun vd =>
 cl g id_ip6_pieced r6.2.2 [vd] fun ve =>
 pr.fin none r6.2.2 [ve]) (
 fA 7 37 v0 fun vg =>
 l1 r6.2.2 vg fun vh =>
 bn .eql vh (LV.int .u32 0) fun vi =>
 tf vi 8 38 v0 fun vk =>
 tl vi r6.2.2 vk fun vl =>
 tb vi .eql vl (i 0) fun vm =>
 pT vi vm fun vn =>
 tf vn 9 39 v0 fun vp =>
 tl vn r6.2.2 vp fun vq =>
 gT vn (pr.un .not vq) fun vr =>
 pT vn vr fun vs =>
 pr.fin none r6.2.2 [vs])) (exIf r6.1 .ret (
 pr.fin none r6.2.2 [(getL r6.2.1 0)]) (none))
theorem F_ip6_formed_eq (g : Tab) (a0 : LV) : fnEv g c_ip6_formed [a0] none = F_ip6_formed g a0 := by kernel_rfl
noncomputable def F_ip6_size_k1 (g : Tab) (vC : LV) (q15 : List LV × Slots) :=
 (pr.idxAddr none 2 vC (getL q15.1 1)).bind fun vH =>
 lA 2 q15.2 vH fun vI =>
 (pr.alloc (LV.agg [(i 0), (LV.str [])]) 5 q15.2).bind fun vJ =>
 sA 2 vJ.2 vJ.1 vI fun vK =>
 fA 1 1 vJ.1 fun vM =>
 l1 vK.2 vM fun vN =>
 ln vN fun vO =>
 bn .add vO (i 2) fun vP =>
 bn .add (getL q15.1 0) vP fun vQ =>
 bn .add (getL q15.1 1) (i 1) fun vS =>
 pr.round z .normal [vQ, vS] vK.2
noncomputable def F_ip6_size (g : Tab) (a0 : LV) : Option (LV × Option LV) :=
 bx a0 fun v0 =>
 fA 11 41 v0 fun v2 =>
 l1 z v2 fun v3 =>
 ln v3 fun v4 =>
 fA 6 36 v0 fun v6 =>
 l1 z v6 fun v7 =>
 condK v7 (
 bn .add v4 (i 8) fun v9 =>
 fA 5 35 v0 fun vB =>
 l1 z vB fun vC =>
 (pr.len false vC).bind fun vD =>
 (whileW (fun q15 : List LV × Slots =>
 bn .lss (getL q15.1 1) vD fun vG =>
 condK vG (F_ip6_size_k1 g vC q15) (
 pr.round z (.exit 0) [(getL q15.1 0), (getL q15.1 1)] q15.2)) ([v9, (i 0)], z)).bind fun r15 =>
 exIf r15.1 (.exit 0) (
 pr.fin none r15.2.2 [(getL r15.2.1 0)]) (none)) (
 fA 5 35 v0 fun vW =>
 l1 z vW fun vX =>
 (pr.len false vX).bind fun vY =>
 (whileW (fun q36 : List LV × Slots =>
 bn .lss (getL q36.1 1) vY fun vb =>
 condK vb (F_ip6_size_k1 g vX q36) (
 pr.round z (.exit 0) [(getL q36.1 0), (getL q36.1 1)] q36.2)) ([v4, (i 0)], z)).bind fun r36 =>
 exIf r36.1 (.exit 0) (
 pr.fin none r36.2.2 [(getL r36.2.1 0)]) (none))
theorem F_ip6_size_eq (g : Tab) (a0 : LV) : fnEv g c_ip6_size [a0] none = F_ip6_size g a0 := by kernel_rfl
noncomputable def F_num_Reader_number (g : Tab) (h : LV) (a1 : LV) : Option (LV × Option LV) :=
 (pr.callRw g id_num_Reader_Text (upd z 0 (.obj 0 h)) [(LV.ptr 0 0 [] 0), a1]).bind fun v4 =>
 ex v4.1 0 fun v6 =>
 ex v4.1 1 fun v7 =>
 ln v6 fun vC =>
 (whileW (fun q14 : List LV × Slots =>
 bn .lss (getL q14.1 1) vC fun vF =>
 condK vF (
 bn .shl (getL q14.1 0) (LV.int .u64 8) fun vJ =>
 xS v6 (getL q14.1 1) fun vM =>
 (pr.conv .i64 vM).bind fun vN =>
 bn .or vJ vN fun vO =>
 bn .add (getL q14.1 1) (i 1) fun vQ =>
 pr.round v4.2 .normal [vO, vQ] q14.2) (
 pr.round v4.2 (.exit 0) [(getL q14.1 0), (getL q14.1 1)] q14.2)) ([(i 0), (i 0)], v4.2)).bind fun r14 =>
 exIf r14.1 (.exit 0) (
 pr.fin (some h) r14.2.2 [(getL r14.2.1 0), v7]) (none)
theorem F_num_Reader_number_eq (g : Tab) (h : LV) (a1 : LV) : fnEv g c_num_Reader_number [(LV.ptr 0 0 [] 0), a1] (some h) = F_num_Reader_number g h a1 := by kernel_rfl
noncomputable def F_ip6_extends (g : Tab) (a0 : LV) : Option (LV × Option LV) :=
 bn .eql a0 (i 0) fun v2 =>
 fs v2 a0 fun v4 =>
 fb v2 .eql v4 (i 43) fun v5 =>
 pF v2 v5 fun v6 =>
 fs v6 a0 fun v8 =>
 fb v6 .eql v8 (i 60) fun v9 =>
 pF v6 v9 fun vA =>
 pr.fin none z [vA]
theorem F_ip6_extends_eq (g : Tab) (a0 : LV) : fnEv g c_ip6_extends [a0] none = F_ip6_extends g a0 := by kernel_rfl
noncomputable def F_slices_stableCmpFunc_frag_Piece (g : Tab) (a0 : LV) (a1 : LV) (a2 : LV) (hs : Slots) : Option (LV × Slots) :=
 (whileW (fun q4 : List LV × Slots =>
 bn .leq (getL q4.1 1) a1 fun v7 =>
 condK v7 (
 (pr.inl g id_slices_insertionSortCmpFunc_frag_Piece q4.2 [a0, (getL q4.1 0), (getL q4.1 1), a2]).bind fun vC =>
 bn .add (getL q4.1 1) (i 20) fun vH =>
 pr.round hs .normal [(getL q4.1 1), vH] vC.2) (
 pr.round hs (.exit 0) [(getL q4.1 0), (getL q4.1 1)] q4.2)) ([(i 0), (i 20)], hs)).bind fun r4 =>
 exIf r4.1 (.exit 0) (
 (pr.inl g id_slices_insertionSortCmpFunc_frag_Piece r4.2.2 [a0, (getL r4.2.1 0), a1, a2]).bind fun vN =>
 (whileW (fun q24 : List LV × Slots =>
 bn .lss (getL q24.1 2) a1 fun vR =>
 condK vR (
 bn .mul (i 2) (getL q24.1 2) fun vT =>
 (whileW (fun q32 : List LV × Slots =>
 bn .leq (getL q32.1 1) a1 fun vZ =>
 condK vZ (
 bn .add (getL q32.1 0) (getL q24.1 2) fun ve =>
 (pr.inl g id_slices_symMergeCmpFunc_frag_Piece q32.2 [a0, (getL q32.1 0), ve, (getL q32.1 1), a2]).bind fun vh =>
 bn .mul (i 2) (getL q24.1 2) fun vm =>
 bn .add (getL q32.1 1) vm fun vn =>
 pr.round q24.2 .normal [(getL q32.1 1), vn] vh.2) (
 pr.round q24.2 (.exit 4) [(getL q32.1 0), (getL q32.1 1)] q32.2)) ([(i 0), vT], q24.2)).bind fun r32 =>
 exIf r32.1 (.exit 4) (
 bn .add (getL r32.2.1 0) (getL q24.1 2) fun vr =>
 bn .lss vr a1 fun vv =>
 condK vv (
 (pr.inl g id_slices_symMergeCmpFunc_frag_Piece r32.2.2 [a0, (getL r32.2.1 0), vr, a1, a2]).bind fun v01 =>
 bn .mul (getL q24.1 2) (i 2) fun v03 =>
 pr.round vN.2 .normal [(getL r32.2.1 0), (getL r32.2.1 1), v03] v01.2) (
 bn .mul (getL q24.1 2) (i 2) fun v06 =>
 pr.round vN.2 .normal [(getL r32.2.1 0), (getL r32.2.1 1), v06] r32.2.2)) (none)) (
 pr.round vN.2 (.exit 2) [(getL q24.1 0), (getL q24.1 1), (getL q24.1 2)] q24.2)) ([(getL r4.2.1 0), (getL r4.2.1 1), (i 20)], vN.2)).bind fun r24 =>
 exIf r24.1 (.exit 2) (
 pr.finH r24.2.2 []) (none)) (none)
theorem F_slices_stableCmpFunc_frag_Piece_eq (g : Tab) (a0 : LV) (a1 : LV) (a2 : LV) (hs : Slots) : hfnEv g c_slices_stableCmpFunc_frag_Piece [a0, a1, a2] hs = F_slices_stableCmpFunc_frag_Piece g a0 a1 a2 hs := by kernel_rfl
noncomputable def F_cmp_isNaN_int (g : Tab) (a0 : LV) : Option (LV × Option LV) :=
 bn .neq a0 a0 fun v3 =>
 pr.fin none z [v3]
theorem F_cmp_isNaN_int_eq (g : Tab) (a0 : LV) : fnEv g c_cmp_isNaN_int [a0] none = F_cmp_isNaN_int g a0 := by kernel_rfl
noncomputable def F_num_Reader_Text (g : Tab) (h : LV) (a1 : LV) : Option (LV × Option LV) :=
 eN 0 false (LV.ptr 0 0 [] 0) fun v3 =>
 condK v3 (
 (pr.parts (LV.agg [(i 0), (i 0)]) [(0, (i 2))]).bind fun v5 =>
 bx v5 fun v6 =>
 (pr.iface ty_ptr_num_Fault v6).bind fun v7 =>
 pr.fin (some h) (upd z 0 (.obj 0 h)) [(LV.str []), v7]) (
 (pr.nilCheck (LV.ptr 0 0 [] 0)).bind fun vB =>
 fA 2 2 vB fun vC =>
 l1 (upd z 0 (.obj 0 h)) vC fun vD =>
 eN 0 true vD fun vE =>
 condK vE (
 (pr.nilCheck (LV.ptr 0 0 [] 0)).bind fun vH =>
 fA 2 2 vH fun vI =>
 l1 (upd z 0 (.obj 0 h)) vI fun vJ =>
 (pr.nilCheck vJ).bind fun vK =>
 lA 2 (upd z 0 (.obj 0 h)) vK fun vL =>
 (pr.alloc (LV.agg [(i 0), (i 0)]) 7 (upd z 0 (.obj 0 h))).bind fun vM =>
 sA 2 vM.2 vM.1 vL fun vN =>
 (pr.iface ty_ptr_num_Fault vM.1).bind fun vO =>
 pr.fin (some h) vN.2 [(LV.str []), vO]) (
 bn .lss a1 (i 0) fun vS =>
 condK vS (
 (pr.nilCheck (LV.ptr 0 0 [] 0)).bind fun vW =>
 fA 1 1 vW fun vX =>
 l1 (upd z 0 (.obj 0 h)) vX fun vY =>
 (pr.parts (LV.agg [(i 0), (i 0)]) [(0, (i 1)), (1, vY)]).bind fun vZ =>
 bx vZ fun va =>
 (pr.nilCheck (LV.ptr 0 0 [] 0)).bind fun vb =>
 fA 2 2 vb fun vc =>
 s1 (upd z 0 (.obj 0 h)) vc va fun vd =>
 (pr.nilCheck (LV.ptr 0 0 [] 0)).bind fun vf =>
 fA 2 2 vf fun vg =>
 l1 vd.2 vg fun vh =>
 (pr.nilCheck vh).bind fun vi =>
 lA 2 vd.2 vi fun vj =>
 (pr.alloc (LV.agg [(i 0), (i 0)]) 7 vd.2).bind fun vk =>
 sA 2 vk.2 vk.1 vj fun vl =>
 (pr.iface ty_ptr_num_Fault vk.1).bind fun vm =>
 pr.fin (some h) vl.2 [(LV.str []), vm]) (
 (pr.nilCheck (LV.ptr 0 0 [] 0)).bind fun vr =>
 fA 0 0 vr fun vs =>
 l1 (upd z 0 (.obj 0 h)) vs fun vt =>
 ln vt fun vu =>
 (pr.nilCheck (LV.ptr 0 0 [] 0)).bind fun vw =>
 fA 1 1 vw fun vx =>
 l1 (upd z 0 (.obj 0 h)) vx fun vy =>
 bn .sub vu vy fun vz =>
 bn .gtr a1 vz fun v00 =>
 condK v00 (
 (pr.nilCheck (LV.ptr 0 0 [] 0)).bind fun v04 =>
 fA 1 1 v04 fun v05 =>
 l1 (upd z 0 (.obj 0 h)) v05 fun v06 =>
 (pr.parts (LV.agg [(i 0), (i 0)]) [(0, (i 7)), (1, v06)]).bind fun v07 =>
 bx v07 fun v08 =>
 (pr.nilCheck (LV.ptr 0 0 [] 0)).bind fun v09 =>
 fA 2 2 v09 fun v0A =>
 s1 (upd z 0 (.obj 0 h)) v0A v08 fun v0B =>
 (pr.nilCheck (LV.ptr 0 0 [] 0)).bind fun v0D =>
 fA 2 2 v0D fun v0E =>
 l1 v0B.2 v0E fun v0F =>
 (pr.nilCheck v0F).bind fun v0G =>
 lA 2 v0B.2 v0G fun v0H =>
 (pr.alloc (LV.agg [(i 0), (i 0)]) 7 v0B.2).bind fun v0I =>
 sA 2 v0I.2 v0I.1 v0H fun v0J =>
 (pr.iface ty_ptr_num_Fault v0I.1).bind fun v0K =>
 pr.fin (some h) v0J.2 [(LV.str []), v0K]) (
 (pr.nilCheck (LV.ptr 0 0 [] 0)).bind fun v0O =>
 fA 0 0 v0O fun v0P =>
 l1 (upd z 0 (.obj 0 h)) v0P fun v0Q =>
 (pr.nilCheck (LV.ptr 0 0 [] 0)).bind fun v0S =>
 fA 1 1 v0S fun v0T =>
 l1 (upd z 0 (.obj 0 h)) v0T fun v0U =>
 (pr.nilCheck (LV.ptr 0 0 [] 0)).bind fun v0W =>
 fA 1 1 v0W fun v0X =>
 l1 (upd z 0 (.obj 0 h)) v0X fun v0Y =>
 bn .add v0Y a1 fun v0a =>
 sl v0Q (some v0U) (some v0a) fun v0b =>
 (pr.nilCheck (LV.ptr 0 0 [] 0)).bind fun v0e =>
 fA 1 1 v0e fun v0f =>
 l1 (upd z 0 (.obj 0 h)) v0f fun v0g =>
 bn .add v0g a1 fun v0i =>
 (pr.nilCheck (LV.ptr 0 0 [] 0)).bind fun v0j =>
 fA 1 1 v0j fun v0k =>
 s1 (upd z 0 (.obj 0 h)) v0k v0i fun v0l =>
 pr.fin (some h) v0l.2 [v0b, LV.nili]))))
theorem F_num_Reader_Text_eq (g : Tab) (h : LV) (a1 : LV) : fnEv g c_num_Reader_Text [(LV.ptr 0 0 [] 0), a1] (some h) = F_num_Reader_Text g h a1 := by kernel_rfl
noncomputable def F_slices_insertionSortCmpFunc_frag_Piece (g : Tab) (a0 : LV) (a1 : LV) (a2 : LV) (a3 : LV) (hs : Slots) : Option (LV × Slots) :=
 bn .add a1 (i 1) fun v1 =>
 (whileW (fun q3 : List LV × Slots =>
 bn .lss (getL q3.1 0) a2 fun v6 =>
 condK v6 (
 (whileW (fun q9 : List LV × Slots =>
 bn .gtr (getL q9.1 0) a1 fun vC =>
 ts vC a3 fun vE =>
 ts vC a0 fun vF =>
 ts vC (getL q9.1 0) fun vG =>
 gT vC (pr.idxAddr none 6 vF vG) fun vH =>
 gT vC (pr.load 6 true q9.2 vH) fun vI =>
 ts vC a0 fun vJ =>
 ts vC (getL q9.1 0) fun vK =>
 tb vC .sub vK (i 1) fun vL =>
 gT vC (pr.idxAddr none 6 vJ vL) fun vM =>
 gT vC (pr.load 6 true q9.2 vM) fun vN =>
 gT vC (pr.callv g q9.2 vE [vI, vN]) fun vO =>
 tb vC .lss vO (i 0) fun vP =>
 pT vC vP fun vQ =>
 condK vQ (
 bn .sub (getL q9.1 0) (i 1) fun vV =>
 bn .sub (getL q9.1 0) (i 1) fun vY =>
 (pr.idxAddr none 6 a0 vY).bind fun vZ =>
 lA 6 q9.2 vZ fun va =>
 (pr.idxAddr none 6 a0 (getL q9.1 0)).bind fun vd =>
 lA 6 q9.2 vd fun ve =>
 (pr.idxAddr none 6 a0 (getL q9.1 0)).bind fun vf =>
 sA 6 q9.2 vf va fun vg =>
 (pr.idxAddr none 6 a0 vV).bind fun vh =>
 sA 6 vg.2 vh ve fun vi =>
 bn .sub (getL q9.1 0) (i 1) fun vk =>
 pr.round q3.2 .normal [vk] vi.2) (
 pr.round q3.2 (.exit 2) [(getL q9.1 0)] q9.2)) ([(getL q3.1 0)], q3.2)).bind fun r9 =>
 exIf r9.1 (.exit 2) (
 bn .add (getL q3.1 0) (i 1) fun vn =>
 pr.round hs .normal [vn] r9.2.2) (none)) (
 pr.round hs (.exit 0) [(getL q3.1 0)] q3.2)) ([v1], hs)).bind fun r3 =>
 exIf r3.1 (.exit 0) (
 pr.finH r3.2.2 []) (none)
theorem F_slices_insertionSortCmpFunc_frag_Piece_eq (g : Tab) (a0 : LV) (a1 : LV) (a2 : LV) (a3 : LV) (hs : Slots) : hfnEv g c_slices_insertionSortCmpFunc_frag_Piece [a0, a1, a2, a3] hs = F_slices_insertionSortCmpFunc_frag_Piece g a0 a1 a2 a3 hs := by kernel_rfl
noncomputable def F_slices_symMergeCmpFunc_frag_Piece_k1 (g : Tab) (v1B : LV) (r151 : Ex × List LV × Slots) (a2 : LV) (a0 : LV) (a4 : LV) (a1 : LV) (v17 : LV) (a3 : LV) :=
 bn .sub v1B (getL r151.2.1 0) fun v1x =>
 bn .lss (getL r151.2.1 0) a2 fun v21 =>
 ts v21 a2 fun v23 =>
 ts v21 v1x fun v24 =>
 tb v21 .lss v23 v24 fun v25 =>
 pT v21 v25 fun v26 =>
 condK v26 (
 (pr.inl g id_slices_rotateCmpFunc_frag_Piece r151.2.2 [a0, (getL r151.2.1 0), a2, v1x, a4]).bind fun v2C =>
 bn .lss a1 (getL r151.2.1 0) fun v2F =>
 ts v2F (getL r151.2.1 0) fun v2H =>
 ts v2F v17 fun v2I =>
 tb v2F .lss v2H v2I fun v2J =>
 pT v2F v2J fun v2K =>
 condK v2K (
 (pr.inl g id_slices_symMergeCmpFunc_frag_Piece v2C.2 [a0, a1, (getL r151.2.1 0), v17, a4]).bind fun v2Q =>
 bn .lss v17 v1x fun v2T =>
 ts v2T v1x fun v2V =>
 ts v2T a3 fun v2W =>
 tb v2T .lss v2V v2W fun v2X =>
 pT v2T v2X fun v2Y =>
 condK v2Y (
 (pr.inl g id_slices_symMergeCmpFunc_frag_Piece v2Q.2 [a0, v17, v1x, a3, a4]).bind fun v2e =>
 pr.finH v2e.2 []) (
 pr.finH v2Q.2 [])) (
 bn .lss v17 v1x fun v2h =>
 ts v2h v1x fun v2j =>
 ts v2h a3 fun v2k =>
 tb v2h .lss v2j v2k fun v2l =>
 pT v2h v2l fun v2m =>
 condK v2m (
 (pr.inl g id_slices_symMergeCmpFunc_frag_Piece v2C.2 [a0, v17, v1x, a3, a4]).bind fun v2s =>
 pr.finH v2s.2 []) (
 pr.finH v2C.2 []))) (
 bn .lss a1 (getL r151.2.1 0) fun v2v =>
 ts v2v (getL r151.2.1 0) fun v2x =>
 ts v2v v17 fun v2y =>
 tb v2v .lss v2x v2y fun v2z =>
 pT v2v v2z fun v30 =>
 condK v30 (
 (pr.inl g id_slices_symMergeCmpFunc_frag_Piece r151.2.2 [a0, a1, (getL r151.2.1 0), v17, a4]).bind fun v36 =>
 bn .lss v17 v1x fun v39 =>
 ts v39 v1x fun v3B =>
 ts v39 a3 fun v3C =>
 tb v39 .lss v3B v3C fun v3D =>
 pT v39 v3D fun v3E =>
 condK v3E (
 (pr.inl g id_slices_symMergeCmpFunc_frag_Piece v36.2 [a0, v17, v1x, a3, a4]).bind fun v3K =>
 pr.finH v3K.2 []) (
 pr.finH v36.2 [])) (
 bn .lss v17 v1x fun v3N =>
 ts v3N v1x fun v3P =>
 ts v3N a3 fun v3Q =>
 tb v3N .lss v3P v3Q fun v3R =>
 pT v3N v3R fun v3S =>
 condK v3S (
 (pr.inl g id_slices_symMergeCmpFunc_frag_Piece r151.2.2 [a0, v17, v1x, a3, a4]).bind fun v3Y =>
 pr.finH v3Y.2 []) (
 pr.finH r151.2.2 [])))
noncomputable def F_slices_symMergeCmpFunc_frag_Piece_k2 (g : Tab) (q151 : List LV × Slots) (v1P : LV) (a0 : LV) (a4 : LV) (hs : Slots) :=
 bn .add (getL q151.1 0) (getL q151.1 1) fun v1X =>
 (pr.conv .u64 v1X).bind fun v1Y =>
 bn .shr v1Y (LV.int .u64 1) fun v1Z =>
 (pr.conv .i64 v1Z).bind fun v1a =>
 bn .sub v1P v1a fun v1g =>
 (pr.idxAddr none 6 a0 v1g).bind fun v1h =>
 lA 6 q151.2 v1h fun v1i =>
 (pr.idxAddr none 6 a0 v1a).bind fun v1l =>
 lA 6 q151.2 v1l fun v1m =>
 (pr.callv g q151.2 a4 [v1i, v1m]).bind fun v1n =>
 bn .lss v1n (i 0) fun v1o =>
 nt v1o fun v1p =>
 condK v1p (
 bn .add v1a (i 1) fun v1r =>
 pr.round hs .normal [v1r, (getL q151.1 1)] q151.2) (
 pr.round hs .normal [(getL q151.1 0), v1a] q151.2)
noncomputable def F_slices_symMergeCmpFunc_frag_Piece (g : Tab) (a0 : LV) (a1 : LV) (a2 : LV) (a3 : LV) (a4 : LV) (hs : Slots) : Option (LV × Slots) :=
 bn .sub a2 a1 fun v2 =>
 bn .eql v2 (i 1) fun v3 =>
 condK v3 (
 (whileW (fun q8 : List LV × Slots =>
 bn .lss (getL q8.1 0) (getL q8.1 1) fun vB =>
 condK vB (
 bn .add (getL q8.1 0) (getL q8.1 1) fun vE =>
 (pr.conv .u64 vE).bind fun vF =>
 bn .shr vF (LV.int .u64 1) fun vG =>
 (pr.conv .i64 vG).bind fun vH =>
 (pr.idxAddr none 6 a0 vH).bind fun vM =>
 lA 6 q8.2 vM fun vN =>
 (pr.idxAddr none 6 a0 a1).bind fun vQ =>
 lA 6 q8.2 vQ fun vR =>
 (pr.callv g q8.2 a4 [vN, vR]).bind fun vS =>
 bn .lss vS (i 0) fun vT =>
 condK vT (
 bn .add vH (i 1) fun vV =>
 pr.round hs .normal [vV, (getL q8.1 1)] q8.2) (
 pr.round hs .normal [(getL q8.1 0), vH] q8.2)) (
 pr.round hs (.exit 0) [(getL q8.1 0), (getL q8.1 1)] q8.2)) ([a2, a3], hs)).bind fun r8 =>
 exIf r8.1 (.exit 0) (
 (whileW (fun q37 : List LV × Slots =>
 bn .sub (getL r8.2.1 0) (i 1) fun ve =>
 bn .lss (getL q37.1 0) ve fun vf =>
 condK vf (
 bn .add (getL q37.1 0) (i 1) fun vk =>
 bn .add (getL q37.1 0) (i 1) fun vn =>
 (pr.idxAddr none 6 a0 vn).bind fun vo =>
 lA 6 q37.2 vo fun vp =>
 (pr.idxAddr none 6 a0 (getL q37.1 0)).bind fun vs =>
 lA 6 q37.2 vs fun vt =>
 (pr.idxAddr none 6 a0 (getL q37.1 0)).bind fun vu =>
 sA 6 q37.2 vu vp fun vv =>
 (pr.idxAddr none 6 a0 vk).bind fun vw =>
 sA 6 vv.2 vw vt fun vx =>
 bn .add (getL q37.1 0) (i 1) fun vz =>
 pr.round r8.2.2 .normal [vz] vx.2) (
 pr.round r8.2.2 (.exit 2) [(getL q37.1 0)] q37.2)) ([a1], r8.2.2)).bind fun r37 =>
 exIf r37.1 (.exit 2) (
 pr.finH r37.2.2 []) (none)) (none)) (
 bn .sub a3 a2 fun v03 =>
 bn .eql v03 (i 1) fun v04 =>
 condK v04 (
 (whileW (fun q71 : List LV × Slots =>
 bn .lss (getL q71.1 0) (getL q71.1 1) fun v0C =>
 condK v0C (
 bn .add (getL q71.1 0) (getL q71.1 1) fun v0F =>
 (pr.conv .u64 v0F).bind fun v0G =>
 bn .shr v0G (LV.int .u64 1) fun v0H =>
 (pr.conv .i64 v0H).bind fun v0I =>
 (pr.idxAddr none 6 a0 a2).bind fun v0N =>
 lA 6 q71.2 v0N fun v0O =>
 (pr.idxAddr none 6 a0 v0I).bind fun v0R =>
 lA 6 q71.2 v0R fun v0S =>
 (pr.callv g q71.2 a4 [v0O, v0S]).bind fun v0T =>
 bn .lss v0T (i 0) fun v0U =>
 nt v0U fun v0V =>
 condK v0V (
 bn .add v0I (i 1) fun v0X =>
 pr.round hs .normal [v0X, (getL q71.1 1)] q71.2) (
 pr.round hs .normal [(getL q71.1 0), v0I] q71.2)) (
 pr.round hs (.exit 4) [(getL q71.1 0), (getL q71.1 1)] q71.2)) ([a1, a2], hs)).bind fun r71 =>
 exIf r71.1 (.exit 4) (
 (whileW (fun q101 : List LV × Slots =>
 bn .gtr (getL q101.1 0) (getL r71.2.1 0) fun v0g =>
 condK v0g (
 bn .sub (getL q101.1 0) (i 1) fun v0l =>
 bn .sub (getL q101.1 0) (i 1) fun v0o =>
 (pr.idxAddr none 6 a0 v0o).bind fun v0p =>
 lA 6 q101.2 v0p fun v0q =>
 (pr.idxAddr none 6 a0 (getL q101.1 0)).bind fun v0t =>
 lA 6 q101.2 v0t fun v0u =>
 (pr.idxAddr none 6 a0 (getL q101.1 0)).bind fun v0v =>
 sA 6 q101.2 v0v v0q fun v0w =>
 (pr.idxAddr none 6 a0 v0l).bind fun v0x =>
 sA 6 v0w.2 v0x v0u fun v0y =>
 bn .sub (getL q101.1 0) (i 1) fun v10 =>
 pr.round r71.2.2 .normal [v10] v0y.2) (
 pr.round r71.2.2 (.exit 6) [(getL q101.1 0)] q101.2)) ([a2], r71.2.2)).bind fun r101 =>
 exIf r101.1 (.exit 6) (
 pr.finH r101.2.2 []) (none)) (none)) (
 bn .add a1 a3 fun v14 =>
 (pr.conv .u64 v14).bind fun v15 =>
 bn .shr v15 (LV.int .u64 1) fun v16 =>
 (pr.conv .i64 v16).bind fun v17 =>
 bn .add v17 a2 fun v1B =>
 bn .gtr a2 v17 fun v1H =>
 condK v1H (
 bn .sub v1B a3 fun v1K =>
 bn .sub v1B (i 1) fun v1P =>
 (whileW (fun q151 : List LV × Slots =>
 bn .lss (getL q151.1 0) (getL q151.1 1) fun v1U =>
 condK v1U (F_slices_symMergeCmpFunc_frag_Piece_k2 g q151 v1P a0 a4 hs) (
 pr.round hs (.exit 8) [(getL q151.1 0), (getL q151.1 1)] q151.2)) ([v1K, v17], hs)).bind fun r151 =>
 exIf r151.1 (.exit 8) (F_slices_symMergeCmpFunc_frag_Piece_k1 g v1B r151 a2 a0 a4 a1 v17 a3) (none)) (
 bn .sub v1B (i 1) fun v3e =>
 (whileW (fun q290 : List LV × Slots =>
 bn .lss (getL q290.1 0) (getL q290.1 1) fun v3j =>
 condK v3j (F_slices_symMergeCmpFunc_frag_Piece_k2 g q290 v3e a0 a4 hs) (
 pr.round hs (.exit 8) [(getL q290.1 0), (getL q290.1 1)] q290.2)) ([a1, a2], hs)).bind fun r290 =>
 exIf r290.1 (.exit 8) (F_slices_symMergeCmpFunc_frag_Piece_k1 g v1B r290 a2 a0 a4 a1 v17 a3) (none))))
theorem F_slices_symMergeCmpFunc_frag_Piece_eq (g : Tab) (a0 : LV) (a1 : LV) (a2 : LV) (a3 : LV) (a4 : LV) (hs : Slots) : hfnEv g c_slices_symMergeCmpFunc_frag_Piece [a0, a1, a2, a3, a4] hs = F_slices_symMergeCmpFunc_frag_Piece g a0 a1 a2 a3 a4 hs := by kernel_rfl
noncomputable def F_slices_rotateCmpFunc_frag_Piece (g : Tab) (a0 : LV) (a1 : LV) (a2 : LV) (a3 : LV) (a4 : LV) (hs : Slots) : Option (LV × Slots) :=
 bn .sub a2 a1 fun v2 =>
 bn .sub a3 a2 fun v6 =>
 (whileW (fun q8 : List LV × Slots =>
 bn .neq (getL q8.1 0) (getL q8.1 1) fun vB =>
 condK vB (
 bn .gtr (getL q8.1 0) (getL q8.1 1) fun vE =>
 condK vE (
 bn .sub a2 (getL q8.1 0) fun vI =>
 (pr.inl g id_slices_swapRangeCmpFunc_frag_Piece q8.2 [a0, vI, a2, (getL q8.1 1), a4]).bind fun vM =>
 bn .sub (getL q8.1 0) (getL q8.1 1) fun vP =>
 pr.round hs .normal [vP, (getL q8.1 1)] vM.2) (
 bn .sub a2 (getL q8.1 0) fun vU =>
 bn .add a2 (getL q8.1 1) fun vX =>
 bn .sub vX (getL q8.1 0) fun vZ =>
 (pr.inl g id_slices_swapRangeCmpFunc_frag_Piece q8.2 [a0, vU, vZ, (getL q8.1 0), a4]).bind fun vc =>
 bn .sub (getL q8.1 1) (getL q8.1 0) fun vf =>
 pr.round hs .normal [(getL q8.1 0), vf] vc.2)) (
 pr.round hs (.exit 0) [(getL q8.1 0), (getL q8.1 1)] q8.2)) ([v2, v6], hs)).bind fun r8 =>
 exIf r8.1 (.exit 0) (
 bn .sub a2 (getL r8.2.1 0) fun vk =>
 (pr.inl g id_slices_swapRangeCmpFunc_frag_Piece r8.2.2 [a0, vk, a2, (getL r8.2.1 0), a4]).bind fun vo =>
 pr.finH vo.2 []) (none)
theorem F_slices_rotateCmpFunc_frag_Piece_eq (g : Tab) (a0 : LV) (a1 : LV) (a2 : LV) (a3 : LV) (a4 : LV) (hs : Slots) : hfnEv g c_slices_rotateCmpFunc_frag_Piece [a0, a1, a2, a3, a4] hs = F_slices_rotateCmpFunc_frag_Piece g a0 a1 a2 a3 a4 hs := by kernel_rfl
noncomputable def F_slices_swapRangeCmpFunc_frag_Piece (g : Tab) (a0 : LV) (a1 : LV) (a2 : LV) (a3 : LV) (a4 : LV) (hs : Slots) : Option (LV × Slots) :=
 (whileW (fun q1 : List LV × Slots =>
 bn .lss (getL q1.1 0) a3 fun v4 =>
 condK v4 (
 bn .add a1 (getL q1.1 0) fun v8 =>
 bn .add a2 (getL q1.1 0) fun vC =>
 bn .add a2 (getL q1.1 0) fun vG =>
 (pr.idxAddr none 6 a0 vG).bind fun vH =>
 lA 6 q1.2 vH fun vI =>
 bn .add a1 (getL q1.1 0) fun vM =>
 (pr.idxAddr none 6 a0 vM).bind fun vN =>
 lA 6 q1.2 vN fun vO =>
 (pr.idxAddr none 6 a0 v8).bind fun vP =>
 sA 6 q1.2 vP vI fun vQ =>
 (pr.idxAddr none 6 a0 vC).bind fun vR =>
 sA 6 vQ.2 vR vO fun vS =>
 bn .add (getL q1.1 0) (i 1) fun vU =>
 pr.round hs .normal [vU] vS.2) (
 pr.round hs (.exit 0) [(getL q1.1 0)] q1.2)) ([(i 0)], hs)).bind fun r1 =>
 exIf r1.1 (.exit 0) (
 pr.finH r1.2.2 []) (none)
theorem F_slices_swapRangeCmpFunc_frag_Piece_eq (g : Tab) (a0 : LV) (a1 : LV) (a2 : LV) (a3 : LV) (a4 : LV) (hs : Slots) : hfnEv g c_slices_swapRangeCmpFunc_frag_Piece [a0, a1, a2, a3, a4] hs = F_slices_swapRangeCmpFunc_frag_Piece g a0 a1 a2 a3 a4 hs := by kernel_rfl
end Go.Ev

namespace Go.Ev
structure Has (S : Sys) : Prop where
  h_interpreterlaw17_RefragJoinsSix : S.fns id_interpreterlaw17_RefragJoinsSix = some c_interpreterlaw17_RefragJoinsSix
  h_interpreterlaw17_Great4 : S.fns id_interpreterlaw17_Great4 = some c_interpreterlaw17_Great4
  h_interpreterlaw17_wakes : S.fns id_interpreterlaw17_wakes = some c_interpreterlaw17_wakes
  h_refrag_Cut4 : S.fns id_refrag_Cut4 = some c_refrag_Cut4
  h_frag_New : S.fns id_frag_New = some c_frag_New
  h_ip4_Bytes : S.fns id_ip4_Bytes = some c_ip4_Bytes
  h_frag_Store_Put : S.fns id_frag_Store_Put = some c_frag_Store_Put
  h_interpreterlaw17_Great6 : S.fns id_interpreterlaw17_Great6 = some c_interpreterlaw17_Great6
  h_refrag_Cut6 : S.fns id_refrag_Cut6 = some c_refrag_Cut6
  h_ip6_Bytes : S.fns id_ip6_Bytes = some c_ip6_Bytes
  h_ip6_Parse : S.fns id_ip6_Parse = some c_ip6_Parse
  h_interpreterlaw17_same6 : S.fns id_interpreterlaw17_same6 = some c_interpreterlaw17_same6
  h_interpreterlaw17_four : S.fns id_interpreterlaw17_four = some c_interpreterlaw17_four
  h_interpreterlaw17_six : S.fns id_interpreterlaw17_six = some c_interpreterlaw17_six
  h_refrag_Len4 : S.fns id_refrag_Len4 = some c_refrag_Len4
  h_refrag_pieces : S.fns id_refrag_pieces = some c_refrag_pieces
  h_ip4_why : S.fns id_ip4_why = some c_ip4_why
  h_ip4_fault : S.fns id_ip4_fault = some c_ip4_fault
  h_ip4_big : S.fns id_ip4_big = some c_ip4_big
  h_sum_Of : S.fns id_sum_Of = some c_sum_Of
  h_frag_Store_none : S.fns id_frag_Store_none = some c_frag_Store_none
  h_frag_Right : S.fns id_frag_Right = some c_frag_Right
  h_slices_ContainsFunc_frag_Piece_frag_Piece : S.fns id_slices_ContainsFunc_frag_Piece_frag_Piece = some c_slices_ContainsFunc_frag_Piece_frag_Piece
  h_frag_Piece_same : S.fns id_frag_Piece_same = some c_frag_Piece_same
  h_frag_datagram_fits : S.fns id_frag_datagram_fits = some c_frag_datagram_fits
  h_frag_Store_cut : S.fns id_frag_Store_cut = some c_frag_Store_cut
  h_frag_Store_takes : S.fns id_frag_Store_takes = some c_frag_Store_takes
  h_frag_datagram_whole : S.fns id_frag_datagram_whole = some c_frag_datagram_whole
  h_refrag_Len6 : S.fns id_refrag_Len6 = some c_refrag_Len6
  h_slices_Clone_api_Ext_api_Ext : S.fns id_slices_Clone_api_Ext_api_Ext = some c_slices_Clone_api_Ext_api_Ext
  h_ip6_why : S.fns id_ip6_why = some c_ip6_why
  h_ip6_fault : S.fns id_ip6_fault = some c_ip6_fault
  h_ip6_big : S.fns id_ip6_big = some c_ip6_big
  h_num_New : S.fns id_num_New = some c_num_New
  h_num_Reader_U32 : S.fns id_num_Reader_U32 = some c_num_Reader_U32
  h_ip6_Chain : S.fns id_ip6_Chain = some c_ip6_Chain
  h_ip6_pieced : S.fns id_ip6_pieced = some c_ip6_pieced
  h_ip4_byteful : S.fns id_ip4_byteful = some c_ip4_byteful
  h_num_Big : S.fns id_num_Big = some c_num_Big
  h_sum_fold : S.fns id_sum_fold = some c_sum_fold
  h_sum_add : S.fns id_sum_add = some c_sum_add
  h_slices_IndexFunc_frag_Piece_frag_Piece : S.fns id_slices_IndexFunc_frag_Piece_frag_Piece = some c_slices_IndexFunc_frag_Piece_frag_Piece
  h_frag_Piece_to : S.fns id_frag_Piece_to = some c_frag_Piece_to
  h_frag_datagram_fits_1 : S.fns id_frag_datagram_fits_1 = some c_frag_datagram_fits_1
  h_frag_datagram_head : S.fns id_frag_datagram_head = some c_frag_datagram_head
  h_slices_SortStableFunc_frag_Piece_frag_Piece : S.fns id_slices_SortStableFunc_frag_Piece_frag_Piece = some c_slices_SortStableFunc_frag_Piece_frag_Piece
  h_frag_datagram_whole_1 : S.fns id_frag_datagram_whole_1 = some c_frag_datagram_whole_1
  h_cmp_Or_int : S.fns id_cmp_Or_int = some c_cmp_Or_int
  h_cmp_Compare_int : S.fns id_cmp_Compare_int = some c_cmp_Compare_int
  h_ip6_within : S.fns id_ip6_within = some c_ip6_within
  h_ip6_kinds : S.fns id_ip6_kinds = some c_ip6_kinds
  h_ip6_formed : S.fns id_ip6_formed = some c_ip6_formed
  h_ip6_size : S.fns id_ip6_size = some c_ip6_size
  h_num_Reader_number : S.fns id_num_Reader_number = some c_num_Reader_number
  h_ip6_extends : S.fns id_ip6_extends = some c_ip6_extends
  h_slices_stableCmpFunc_frag_Piece : S.fns id_slices_stableCmpFunc_frag_Piece = some c_slices_stableCmpFunc_frag_Piece
  h_cmp_isNaN_int : S.fns id_cmp_isNaN_int = some c_cmp_isNaN_int
  h_num_Reader_Text : S.fns id_num_Reader_Text = some c_num_Reader_Text
  h_slices_insertionSortCmpFunc_frag_Piece : S.fns id_slices_insertionSortCmpFunc_frag_Piece = some c_slices_insertionSortCmpFunc_frag_Piece
  h_slices_symMergeCmpFunc_frag_Piece : S.fns id_slices_symMergeCmpFunc_frag_Piece = some c_slices_symMergeCmpFunc_frag_Piece
  h_slices_rotateCmpFunc_frag_Piece : S.fns id_slices_rotateCmpFunc_frag_Piece = some c_slices_rotateCmpFunc_frag_Piece
  h_slices_swapRangeCmpFunc_frag_Piece : S.fns id_slices_swapRangeCmpFunc_frag_Piece = some c_slices_swapRangeCmpFunc_frag_Piece
abbrev faultLV (c : Int) : LV := .ifc ty_ptr_num_Fault (.box (.agg [.int .i64 c, .int .i64 0]))
end Go.Ev

namespace Go.Ev
set_option maxRecDepth 100000
noncomputable def table : List (Nat × MFn) := [
  (id_interpreterlaw17_RefragJoinsSix, c_interpreterlaw17_RefragJoinsSix),
  (id_interpreterlaw17_Great4, c_interpreterlaw17_Great4),
  (id_interpreterlaw17_wakes, c_interpreterlaw17_wakes),
  (id_refrag_Cut4, c_refrag_Cut4),
  (id_frag_New, c_frag_New),
  (id_ip4_Bytes, c_ip4_Bytes),
  (id_frag_Store_Put, c_frag_Store_Put),
  (id_interpreterlaw17_Great6, c_interpreterlaw17_Great6),
  (id_refrag_Cut6, c_refrag_Cut6),
  (id_ip6_Bytes, c_ip6_Bytes),
  (id_ip6_Parse, c_ip6_Parse),
  (id_interpreterlaw17_same6, c_interpreterlaw17_same6),
  (id_interpreterlaw17_four, c_interpreterlaw17_four),
  (id_interpreterlaw17_six, c_interpreterlaw17_six),
  (id_refrag_Len4, c_refrag_Len4),
  (id_refrag_pieces, c_refrag_pieces),
  (id_ip4_why, c_ip4_why),
  (id_ip4_fault, c_ip4_fault),
  (id_ip4_big, c_ip4_big),
  (id_sum_Of, c_sum_Of),
  (id_frag_Store_none, c_frag_Store_none),
  (id_frag_Right, c_frag_Right),
  (id_slices_ContainsFunc_frag_Piece_frag_Piece, c_slices_ContainsFunc_frag_Piece_frag_Piece),
  (id_frag_Piece_same, c_frag_Piece_same),
  (id_frag_datagram_fits, c_frag_datagram_fits),
  (id_frag_Store_cut, c_frag_Store_cut),
  (id_frag_Store_takes, c_frag_Store_takes),
  (id_frag_datagram_whole, c_frag_datagram_whole),
  (id_refrag_Len6, c_refrag_Len6),
  (id_slices_Clone_api_Ext_api_Ext, c_slices_Clone_api_Ext_api_Ext),
  (id_ip6_why, c_ip6_why),
  (id_ip6_fault, c_ip6_fault),
  (id_ip6_big, c_ip6_big),
  (id_num_New, c_num_New),
  (id_num_Reader_U32, c_num_Reader_U32),
  (id_ip6_Chain, c_ip6_Chain),
  (id_ip6_pieced, c_ip6_pieced),
  (id_ip4_byteful, c_ip4_byteful),
  (id_num_Big, c_num_Big),
  (id_sum_fold, c_sum_fold),
  (id_sum_add, c_sum_add),
  (id_slices_IndexFunc_frag_Piece_frag_Piece, c_slices_IndexFunc_frag_Piece_frag_Piece),
  (id_frag_Piece_to, c_frag_Piece_to),
  (id_frag_datagram_fits_1, c_frag_datagram_fits_1),
  (id_frag_datagram_head, c_frag_datagram_head),
  (id_slices_SortStableFunc_frag_Piece_frag_Piece, c_slices_SortStableFunc_frag_Piece_frag_Piece),
  (id_frag_datagram_whole_1, c_frag_datagram_whole_1),
  (id_cmp_Or_int, c_cmp_Or_int),
  (id_cmp_Compare_int, c_cmp_Compare_int),
  (id_ip6_within, c_ip6_within),
  (id_ip6_kinds, c_ip6_kinds),
  (id_ip6_formed, c_ip6_formed),
  (id_ip6_size, c_ip6_size),
  (id_num_Reader_number, c_num_Reader_number),
  (id_ip6_extends, c_ip6_extends),
  (id_slices_stableCmpFunc_frag_Piece, c_slices_stableCmpFunc_frag_Piece),
  (id_cmp_isNaN_int, c_cmp_isNaN_int),
  (id_num_Reader_Text, c_num_Reader_Text),
  (id_slices_insertionSortCmpFunc_frag_Piece, c_slices_insertionSortCmpFunc_frag_Piece),
  (id_slices_symMergeCmpFunc_frag_Piece, c_slices_symMergeCmpFunc_frag_Piece),
  (id_slices_rotateCmpFunc_frag_Piece, c_slices_rotateCmpFunc_frag_Piece),
  (id_slices_swapRangeCmpFunc_frag_Piece, c_slices_swapRangeCmpFunc_frag_Piece)]
noncomputable def sys : Sys := { fns := fun f => (table.find? fun p => p.1 == f).map (·.2), ext := fun _ _ _ => none }
theorem sysHas : Has sys where
  h_interpreterlaw17_RefragJoinsSix := by kernel_rfl
  h_interpreterlaw17_Great4 := by kernel_rfl
  h_interpreterlaw17_wakes := by kernel_rfl
  h_refrag_Cut4 := by kernel_rfl
  h_frag_New := by kernel_rfl
  h_ip4_Bytes := by kernel_rfl
  h_frag_Store_Put := by kernel_rfl
  h_interpreterlaw17_Great6 := by kernel_rfl
  h_refrag_Cut6 := by kernel_rfl
  h_ip6_Bytes := by kernel_rfl
  h_ip6_Parse := by kernel_rfl
  h_interpreterlaw17_same6 := by kernel_rfl
  h_interpreterlaw17_four := by kernel_rfl
  h_interpreterlaw17_six := by kernel_rfl
  h_refrag_Len4 := by kernel_rfl
  h_refrag_pieces := by kernel_rfl
  h_ip4_why := by kernel_rfl
  h_ip4_fault := by kernel_rfl
  h_ip4_big := by kernel_rfl
  h_sum_Of := by kernel_rfl
  h_frag_Store_none := by kernel_rfl
  h_frag_Right := by kernel_rfl
  h_slices_ContainsFunc_frag_Piece_frag_Piece := by kernel_rfl
  h_frag_Piece_same := by kernel_rfl
  h_frag_datagram_fits := by kernel_rfl
  h_frag_Store_cut := by kernel_rfl
  h_frag_Store_takes := by kernel_rfl
  h_frag_datagram_whole := by kernel_rfl
  h_refrag_Len6 := by kernel_rfl
  h_slices_Clone_api_Ext_api_Ext := by kernel_rfl
  h_ip6_why := by kernel_rfl
  h_ip6_fault := by kernel_rfl
  h_ip6_big := by kernel_rfl
  h_num_New := by kernel_rfl
  h_num_Reader_U32 := by kernel_rfl
  h_ip6_Chain := by kernel_rfl
  h_ip6_pieced := by kernel_rfl
  h_ip4_byteful := by kernel_rfl
  h_num_Big := by kernel_rfl
  h_sum_fold := by kernel_rfl
  h_sum_add := by kernel_rfl
  h_slices_IndexFunc_frag_Piece_frag_Piece := by kernel_rfl
  h_frag_Piece_to := by kernel_rfl
  h_frag_datagram_fits_1 := by kernel_rfl
  h_frag_datagram_head := by kernel_rfl
  h_slices_SortStableFunc_frag_Piece_frag_Piece := by kernel_rfl
  h_frag_datagram_whole_1 := by kernel_rfl
  h_cmp_Or_int := by kernel_rfl
  h_cmp_Compare_int := by kernel_rfl
  h_ip6_within := by kernel_rfl
  h_ip6_kinds := by kernel_rfl
  h_ip6_formed := by kernel_rfl
  h_ip6_size := by kernel_rfl
  h_num_Reader_number := by kernel_rfl
  h_ip6_extends := by kernel_rfl
  h_slices_stableCmpFunc_frag_Piece := by kernel_rfl
  h_cmp_isNaN_int := by kernel_rfl
  h_num_Reader_Text := by kernel_rfl
  h_slices_insertionSortCmpFunc_frag_Piece := by kernel_rfl
  h_slices_symMergeCmpFunc_frag_Piece := by kernel_rfl
  h_slices_rotateCmpFunc_frag_Piece := by kernel_rfl
  h_slices_swapRangeCmpFunc_frag_Piece := by kernel_rfl
end Go.Ev
