/- Part 4 of a proof: what the functions yield. It stands by itself; no condition. -/
import Derived.Test.YtbdkfdkmefebnaaGreatDoorE3
import Derived.KernelRfl
import Derived.Test.YtbdkfdkmefebnaaGreatDoorE2
namespace Go.Ev.Q
section
variable {R : Type}
noncomputable abbrev fA (a b : Nat) (x : LV) (K : LV → Option R) : Option R := (pr.fieldAddr a b x).bind K
noncomputable abbrev l1 (s : Slots) (x : LV) (K : LV → Option R) : Option R := (pr.load 1 false s x).bind K
noncomputable abbrev lA (n : Nat) (s : Slots) (x : LV) (K : LV → Option R) : Option R := (pr.load n true s x).bind K
noncomputable abbrev gT (t : LV) (X : Option LV) (K : LV → Option R) : Option R := (pr.guard t true).bind fun b => (if b = true then X else some LV.undef).bind K
noncomputable abbrev gF (t : LV) (X : Option LV) (K : LV → Option R) : Option R := (pr.guard t false).bind fun b => (if b = true then X else some LV.undef).bind K
noncomputable abbrev bn (o : BinOp) (x y : LV) (K : LV → Option R) : Option R := (pr.bin o x y).bind K
noncomputable abbrev cl (g : Call) (f : FuncId) (s : Slots) (l : List LV) (K : LV → Option R) : Option R := (pr.call g f s l).bind K
noncomputable abbrev ex (x : LV) (i : Nat) (K : LV → Option R) : Option R := (pr.extract x i).bind K
noncomputable abbrev ln (x : LV) (K : LV → Option R) : Option R := (pr.len true x).bind K
noncomputable abbrev pT (t x : LV) (K : LV → Option R) : Option R := (pr.pick t x (LV.bool false)).bind K
noncomputable abbrev pF (t x : LV) (K : LV → Option R) : Option R := (pr.pick t (LV.bool true) x).bind K
noncomputable abbrev sA (n : Nat) (s : Slots) (x y : LV) (K : LV × Slots → Option R) : Option R := (pr.store n true s x y).bind K
noncomputable abbrev s1 (s : Slots) (x y : LV) (K : LV × Slots → Option R) : Option R := (pr.store 1 false s x y).bind K
noncomputable abbrev nt (x : LV) (K : LV → Option R) : Option R := (pr.un .not x).bind K
noncomputable abbrev bx (x : LV) (K : LV → Option R) : Option R := (pr.box x).bind K
noncomputable abbrev xS (x y : LV) (K : LV → Option R) : Option R := (pr.idxStr x y).bind K
noncomputable abbrev eN (k : Nat) (w : Bool) (x : LV) (K : LV → Option R) : Option R := (pr.eqNil k w x).bind K
noncomputable abbrev sV (n : Nat) (s : Slots) (x : LV) (y z : Option LV) (K : LV → Option R) : Option R := (pr.slcArr n s x y z).bind K
noncomputable abbrev bS (s : Slots) (x : LV) (K : LV → Option R) : Option R := (pr.b2s s x).bind K
noncomputable abbrev sl (x : LV) (y z : Option LV) (K : LV → Option R) : Option R := (pr.slc 0 x y z).bind K
noncomputable abbrev tf (t : LV) (a b : Nat) (x : LV) (K : LV → Option R) : Option R := gT t (pr.fieldAddr a b x) K
noncomputable abbrev tl (t : LV) (s : Slots) (x : LV) (K : LV → Option R) : Option R := gT t (pr.load 1 false s x) K
noncomputable abbrev ff (t : LV) (a b : Nat) (x : LV) (K : LV → Option R) : Option R := gF t (pr.fieldAddr a b x) K
noncomputable abbrev fl (t : LV) (s : Slots) (x : LV) (K : LV → Option R) : Option R := gF t (pr.load 1 false s x) K
noncomputable abbrev tb (t : LV) (o : BinOp) (x y : LV) (K : LV → Option R) : Option R := gT t (pr.bin o x y) K
noncomputable abbrev fb (t : LV) (o : BinOp) (x y : LV) (K : LV → Option R) : Option R := gF t (pr.bin o x y) K
noncomputable abbrev ts (t x : LV) (K : LV → Option R) : Option R := gT t (some x) K
noncomputable abbrev fs (t x : LV) (K : LV → Option R) : Option R := gF t (some x) K
end
abbrev i (n : Int) : LV := .int .i64 n
abbrev z : Slots := noSlots
end Go.Ev.Q
open Go.Ev.Q
namespace Go.Ev
set_option linter.unusedVariables false
set_option maxRecDepth 100000
noncomputable def F_interpreterlaw15_FaultWholeSix (g : Call) (a0 : LV) (a1 : LV) (a2 : LV) (a3 : LV) (a4 : LV) : Option (LV × Option LV) :=
 bx a1 fun v0 =>
 bx a2 fun v1 =>
 cl g id_interpreterlaw15_awake z [] fun v3 =>
 nt v3 fun v4 =>
 condK v4 (
 pr.fin none z [(LV.bool false)]) (
 ln a0 fun v7 =>
 bn .gtr v7 (i 70000) fun v8 =>
 condK v8 (
 pr.fin none z [(LV.bool true)]) (
 cl g id_fault_Inside6 z [a0] fun vB =>
 ex vB 0 fun vD =>
 ex vB 1 fun vE =>
 ex vB 2 fun vF =>
 (pr.alloc (LV.agg [(i 0), (i 0), (i 0), (LV.bytes [0, 0, 0, 0, 0, 0, 0, 0, 0, 0, 0, 0, 0, 0, 0, 0]), (LV.bytes [0, 0, 0, 0, 0, 0, 0, 0, 0, 0, 0, 0, 0, 0, 0, 0]), LV.nils, (LV.bool false), (LV.int .u32 0), (i 0), (LV.bool false), (i 0), (LV.str [])]) 11 z).bind fun vG =>
 sA 42 vG.2 vG.1 vD fun vH =>
 eN 1 true vF fun vL =>
 fs vL vE fun vN =>
 ff vL 11 41 vG.1 fun vO =>
 fl vL vH.2 vO fun vP =>
 gF vL (pr.len true vP) fun vQ =>
 fb vL .neq vN vQ fun vR =>
 pF vL vR fun vS =>
 condK vS (
 eN 1 false vF fun vU =>
 fs vU vE fun vW =>
 fb vU .eql vW (i 0) fun vX =>
 fs vU vX fun vY =>
 gT vY (pr.load 42 true vH.2 vG.1) fun vZ =>
 gT vY (pr.parts (LV.agg [(i 0), (i 0), (i 0), (LV.bytes [0, 0, 0, 0, 0, 0, 0, 0, 0, 0, 0, 0, 0, 0, 0, 0]), (LV.bytes [0, 0, 0, 0, 0, 0, 0, 0, 0, 0, 0, 0, 0, 0, 0, 0]), LV.nils, (LV.bool false), (LV.int .u32 0), (i 0), (LV.bool false), (i 0), (LV.str [])]) []) fun va =>
 gT vY (pr.call g id_interpreterref04_Same vH.2 [vZ, va]) fun vb =>
 gF vU (pr.pick vY vb (LV.bool false)) fun vc =>
 pF vU vc fun vd =>
 pr.fin none vH.2 [vd]) (
 lA 42 vH.2 vG.1 fun vf =>
 lA 4 vH.2 v0 fun vh =>
 (pr.conv .i64 a3).bind fun vj =>
 (pr.parts (LV.agg [(LV.bytes [0, 0, 0, 0]), (i 0)]) [(0, vh), (1, vj)]).bind fun vk =>
 lA 4 vH.2 v1 fun vl =>
 (pr.conv .i64 a4).bind fun vn =>
 (pr.parts (LV.agg [(LV.bytes [0, 0, 0, 0]), (i 0)]) [(0, vl), (1, vn)]).bind fun vo =>
 cl g id_fault_Quote4 vH.2 [vf, vE, vk, vo] fun vp =>
 ex vp 0 fun vr =>
 ex vp 1 fun vs =>
 eN 1 true vs fun vw =>
 condK vw (
 bn .eql vr (LV.str []) fun vy =>
 ts vy vs fun v00 =>
 gT vy (pr.call g id_num_Code vH.2 [v00]) fun v01 =>
 tb vy .neq v01 (i 0) fun v02 =>
 pT vy v02 fun v03 =>
 pr.fin none vH.2 [v03]) (
 fA 9 39 vG.1 fun v05 =>
 l1 vH.2 v05 fun v06 =>
 ff v06 8 38 vG.1 fun v08 =>
 fl v06 vH.2 v08 fun v09 =>
 fb v06 .gtr v09 (i 0) fun v0A =>
 pF v06 v0A fun v0B =>
 condK v0B (
 ln vr fun v0D =>
 bn .add (i 20) vE fun v0F =>
 bn .eql v0D v0F fun v0G =>
 pr.fin none vH.2 [v0G]) (
 cl g id_ip4_Parse vH.2 [vr] fun v0J =>
 ex v0J 0 fun v0L =>
 ex v0J 1 fun v0M =>
 (pr.alloc (LV.agg [(i 0), (i 0), (i 0), (i 0), (i 0), (LV.bool false), (LV.bool false), (LV.bytes [0, 0, 0, 0]), (LV.bytes [0, 0, 0, 0]), (LV.str []), (LV.str [])]) 16 vH.2).bind fun v0N =>
 sA 17 v0N.2 v0N.1 v0L fun v0O =>
 eN 1 true v0M fun v0R =>
 ff v0R 7 7 v0N.1 fun v0T =>
 gF v0R (pr.load 4 true v0O.2 v0T) fun v0U =>
 gF v0R (pr.load 4 true v0O.2 v0) fun v0V =>
 gF v0R (pr.eqS (Sh.bytes 4) true v0U v0V) fun v0W =>
 pF v0R v0W fun v0X =>
 ff v0X 8 11 v0N.1 fun v0Z =>
 gF v0X (pr.load 4 true v0O.2 v0Z) fun v0a =>
 gF v0X (pr.load 4 true v0O.2 v1) fun v0b =>
 gF v0X (pr.eqS (Sh.bytes 4) true v0a v0b) fun v0c =>
 pF v0X v0c fun v0d =>
 ff v0d 10 16 v0N.1 fun v0f =>
 fl v0d v0O.2 v0f fun v0g =>
 gF v0d (pr.len true v0g) fun v0h =>
 fs v0d vE fun v0i =>
 fb v0d .neq v0h v0i fun v0j =>
 pF v0d v0j fun v0k =>
 ff v0k 2 2 v0N.1 fun v0m =>
 fl v0k v0O.2 v0m fun v0n =>
 ff v0k 2 2 vG.1 fun v0o =>
 fl v0k v0O.2 v0o fun v0p =>
 fb v0k .neq v0n v0p fun v0q =>
 pF v0k v0q fun v0r =>
 ff v0r 0 0 v0N.1 fun v0t =>
 fl v0r v0O.2 v0t fun v0u =>
 ff v0r 0 0 vG.1 fun v0v =>
 fl v0r v0O.2 v0v fun v0w =>
 fb v0r .neq v0u v0w fun v0x =>
 pF v0r v0x fun v0y =>
 condK v0y (
 pr.fin none v0O.2 [(LV.bool false)]) (
 fA 10 40 vG.1 fun v10 =>
 l1 v0O.2 v10 fun v11 =>
 bn .eql v11 (i 6) fun v12 =>
 condK v12 (
 fA 11 41 vG.1 fun v14 =>
 l1 v0O.2 v14 fun v15 =>
 fA 3 3 vG.1 fun v16 =>
 lA 16 v0O.2 v16 fun v17 =>
 fA 4 19 vG.1 fun v18 =>
 lA 16 v0O.2 v18 fun v19 =>
 cl g id_sum_Pseudo6 v0O.2 [v17, v19, (i 6), vE] fun v1B =>
 cl g id_tcp_Check v0O.2 [v15, v1B] fun v1C =>
 eN 1 true v1C fun v1D =>
 ff v1D 10 16 v0N.1 fun v1F =>
 fl v1D v0O.2 v1F fun v1G =>
 gF v1D (pr.load 4 true v0O.2 v0) fun v1H =>
 gF v1D (pr.load 4 true v0O.2 v1) fun v1I =>
 fs v1D vE fun v1J =>
 gF v1D (pr.call g id_sum_Pseudo4 v0O.2 [v1H, v1I, (i 6), v1J]) fun v1K =>
 gF v1D (pr.call g id_tcp_Check v0O.2 [v1G, v1K]) fun v1L =>
 gF v1D (pr.eqNil 1 false v1L) fun v1M =>
 pF v1D v1M fun v1N =>
 pr.fin none v0O.2 [v1N]) (
 bn .eql v11 (i 17) fun v1P =>
 condK v1P (
 fA 11 41 vG.1 fun v1R =>
 l1 v0O.2 v1R fun v1S =>
 fA 3 3 vG.1 fun v1T =>
 lA 16 v0O.2 v1T fun v1U =>
 fA 4 19 vG.1 fun v1V =>
 lA 16 v0O.2 v1V fun v1W =>
 cl g id_sum_Pseudo6 v0O.2 [v1U, v1W, (i 17), vE] fun v1Y =>
 cl g id_udp_Check v0O.2 [v1S, v1Y] fun v1Z =>
 eN 1 true v1Z fun v1a =>
 ff v1a 10 16 v0N.1 fun v1c =>
 fl v1a v0O.2 v1c fun v1d =>
 gF v1a (pr.load 4 true v0O.2 v0) fun v1e =>
 gF v1a (pr.load 4 true v0O.2 v1) fun v1f =>
 fs v1a vE fun v1g =>
 gF v1a (pr.call g id_sum_Pseudo4 v0O.2 [v1e, v1f, (i 17), v1g]) fun v1h =>
 gF v1a (pr.call g id_udp_Check v0O.2 [v1d, v1h]) fun v1i =>
 gF v1a (pr.eqNil 1 false v1i) fun v1j =>
 pF v1a v1j fun v1k =>
 pr.fin none v0O.2 [v1k]) (
 bn .eql v11 (i 58) fun v1m =>
 condK v1m (
 fA 11 41 vG.1 fun v1o =>
 l1 v0O.2 v1o fun v1p =>
 fA 3 3 vG.1 fun v1q =>
 lA 16 v0O.2 v1q fun v1r =>
 fA 4 19 vG.1 fun v1s =>
 lA 16 v0O.2 v1s fun v1t =>
 cl g id_sum_Pseudo6 v0O.2 [v1r, v1t, (i 58), vE] fun v1v =>
 cl g id_icmp6_Parse v0O.2 [v1p, v1v] fun v1w =>
 ex v1w 0 fun v1y =>
 ex v1w 1 fun v1z =>
 (pr.alloc (LV.agg [(i 0), (i 0), (LV.int .u32 0), (LV.str [])]) 18 v0O.2).bind fun v20 =>
 sA 4 v20.2 v20.1 v1y fun v21 =>
 lA 4 v21.2 v20.1 fun v23 =>
 cl g id_icmp6_Echo v21.2 [v23] fun v24 =>
 ex v24 0 fun v26 =>
 ex v24 1 fun v27 =>
 ex v24 2 fun v28 =>
 eN 1 true v1z fun v2D =>
 condK v2D (
 pr.fin none v21.2 [(LV.bool true)]) (
 nt v28 fun v2G =>
 condK v2G (
 fA 10 16 v0N.1 fun v2H =>
 l1 v21.2 v2H fun v2I =>
 fA 11 41 vG.1 fun v2J =>
 l1 v21.2 v2J fun v2K =>
 bn .eql v2I v2K fun v2L =>
 pr.fin none v21.2 [v2L]) (
 fA 10 16 v0N.1 fun v2N =>
 l1 v21.2 v2N fun v2O =>
 cl g id_interpreterlaw15_bare v21.2 [v2O] fun v2P =>
 condK v2P (
 nt v27 fun v2R =>
 ts v2R a3 fun v2T =>
 tb v2R .eql v2T (LV.int .u16 0) fun v2U =>
 pT v2R v2U fun v2V =>
 pr.fin none v21.2 [v2V]) (
 fA 10 16 v0N.1 fun v2X =>
 l1 v21.2 v2X fun v2Y =>
 cl g id_icmp4_Parse v21.2 [v2Y] fun v2Z =>
 ex v2Z 0 fun v2b =>
 ex v2Z 1 fun v2c =>
 (pr.alloc (LV.agg [(i 0), (i 0), (LV.int .u32 0), (LV.str [])]) 23 v21.2).bind fun v2d =>
 sA 4 v2d.2 v2d.1 v2b fun v2e =>
 lA 4 v2e.2 v2d.1 fun v2g =>
 cl g id_icmp4_Echo v2e.2 [v2g] fun v2h =>
 ex v2h 0 fun v2j =>
 ex v2h 1 fun v2k =>
 ex v2h 2 fun v2l =>
 eN 1 false v2c fun v2q =>
 ts v2q v2l fun v2s =>
 pT v2q v2s fun v2t =>
 ts v2t v2k fun v2v =>
 ts v2t v27 fun v2w =>
 gT v2t (pr.eqB false v2v v2w) fun v2x =>
 pT v2t v2x fun v2y =>
 ts v2y v2j fun v30 =>
 ts v2y a3 fun v31 =>
 gT v2y (pr.conv .i64 v31) fun v32 =>
 tb v2y .eql v30 v32 fun v33 =>
 pT v2y v33 fun v34 =>
 tf v34 3 3 v2d.1 fun v36 =>
 tl v34 v2e.2 v36 fun v37 =>
 tf v34 3 3 v20.1 fun v38 =>
 tl v34 v2e.2 v38 fun v39 =>
 tb v34 .eql v37 v39 fun v3A =>
 pT v34 v3A fun v3B =>
 pr.fin none v2e.2 [v3B])))) (
 fA 10 16 v0N.1 fun v3D =>
 l1 v0O.2 v3D fun v3E =>
 fA 11 41 vG.1 fun v3F =>
 l1 v0O.2 v3F fun v3G =>
 bn .eql v3E v3G fun v3H =>
 pr.fin none v0O.2 [v3H])))))))))
theorem F_interpreterlaw15_FaultWholeSix_eq (g : Call) (a0 : LV) (a1 : LV) (a2 : LV) (a3 : LV) (a4 : LV) : fnEv g c_interpreterlaw15_FaultWholeSix [a0, a1, a2, a3, a4] none = F_interpreterlaw15_FaultWholeSix g a0 a1 a2 a3 a4 := by kernel_rfl
noncomputable def F_interpreterlaw15_awake (g : Call) : Option (LV × Option LV) :=
 cl g id_interpreterlaw15_gram z [(i 600)] fun v1 =>
 cl g id_interpreterref03_Bytes z [v1] fun v2 =>
 ex v2 0 fun v4 =>
 ex v2 1 fun v5 =>
 (pr.parts (LV.agg [(i 0), (i 0), (LV.int .u32 0), (LV.str [])]) [(0, (i 11))]).bind fun v8 =>
 (pr.parts (LV.bytes [0, 0, 0, 0]) [(0, (LV.int .u8 192)), (1, (LV.int .u8 0)), (2, (LV.int .u8 2)), (3, (LV.int .u8 9))]).bind fun vA =>
 cl g id_fault_Own4 z [v8, v4, vA, (i 5), (i 1500)] fun vB =>
 ex vB 0 fun vD =>
 ex vB 1 fun vE =>
 cl g id_interpreterref03_Parse z [vD] fun vI =>
 ex vI 0 fun vK =>
 ex vI 1 fun vL =>
 (pr.alloc (LV.agg [(i 0), (i 0), (i 0), (i 0), (i 0), (LV.bool false), (LV.bool false), (LV.bytes [0, 0, 0, 0]), (LV.bytes [0, 0, 0, 0]), (LV.str []), (LV.str [])]) 5 z).bind fun vM =>
 sA 17 vM.2 vM.1 vK fun vN =>
 nt vE fun vQ =>
 fs vQ vL fun vS =>
 fb vQ .neq vS (i 0) fun vT =>
 pF vQ vT fun vU =>
 fs vU vD fun vW =>
 gF vU (pr.len true vW) fun vX =>
 fb vU .neq vX (i 576) fun vY =>
 pF vU vY fun vZ =>
 ff vZ 8 11 vM.1 fun vb =>
 gF vZ (pr.load 4 true vN.2 vb) fun vc =>
 gF vZ (pr.call g id_interpreterlaw15_gram vN.2 [(i 0)]) fun vd =>
 gF vZ (pr.field 7 7 4 true vd) fun ve =>
 gF vZ (pr.eqS (Sh.bytes 4) true vc ve) fun vf =>
 pF vZ vf fun vg =>
 ff vg 3 3 vM.1 fun vi =>
 fl vg vN.2 vi fun vj =>
 fb vg .neq vj (i 1) fun vk =>
 pF vg vk fun vl =>
 ff vl 10 16 vM.1 fun vn =>
 fl vl vN.2 vn fun vo =>
 gF vl (pr.len true vo) fun vp =>
 fb vl .lss vp (i 8) fun vq =>
 pF vl vq fun vr =>
 ff vr 10 16 vM.1 fun vt =>
 fl vr vN.2 vt fun vu =>
 gF vr (pr.slc 0 vu (some (i 8)) none) fun vv =>
 fs vr v4 fun vw =>
 gF vr (pr.slc 0 vw none (some (i 548))) fun vx =>
 fb vr .neq vv vx fun vy =>
 pF vr vy fun vz =>
 condK vz (
 pr.fin none vN.2 [(LV.bool false)]) (
 fA 10 16 vM.1 fun v01 =>
 l1 vN.2 v01 fun v02 =>
 sl v02 (some (i 8)) none fun v03 =>
 cl g id_fault_Inside4 vN.2 [v03] fun v04 =>
 ex v04 0 fun v06 =>
 ex v04 1 fun v07 =>
 ex v04 2 fun v08 =>
 (pr.alloc (LV.agg [(i 0), (i 0), (i 0), (i 0), (i 0), (LV.bool false), (LV.bool false), (LV.bytes [0, 0, 0, 0]), (LV.bytes [0, 0, 0, 0]), (LV.str []), (LV.str [])]) 7 vN.2).bind fun v09 =>
 sA 17 v09.2 v09.1 v06 fun v0A =>
 lA 17 v0A.2 v09.1 fun v0D =>
 (pr.parts (LV.agg [(LV.bytes [0, 0, 0, 0, 0, 0, 0, 0, 0, 0, 0, 0, 0, 0, 0, 0]), (i 0)]) [(1, (i 1))]).bind fun v0F =>
 (pr.parts (LV.agg [(LV.bytes [0, 0, 0, 0, 0, 0, 0, 0, 0, 0, 0, 0, 0, 0, 0, 0]), (i 0)]) [(1, (i 2))]).bind fun v0G =>
 cl g id_fault_Quote6 v0A.2 [v0D, v07, v0F, v0G] fun v0H =>
 ex v0H 0 fun v0J =>
 ex v0H 1 fun v0K =>
 eN 1 false v08 fun v0O =>
 ts v0O v07 fun v0Q =>
 tb v0O .eql v0Q (i 600) fun v0R =>
 pT v0O v0R fun v0S =>
 tf v0S 10 16 v09.1 fun v0U =>
 tl v0S v0A.2 v0U fun v0V =>
 gT v0S (pr.len true v0V) fun v0W =>
 tb v0S .eql v0W (i 528) fun v0X =>
 pT v0S v0X fun v0Y =>
 ts v0Y v0K fun v0a =>
 gT v0Y (pr.eqNil 1 false v0a) fun v0b =>
 pT v0Y v0b fun v0c =>
 ts v0c v0J fun v0e =>
 gT v0c (pr.len true v0e) fun v0f =>
 tb v0c .eql v0f (i 568) fun v0g =>
 pT v0c v0g fun v0h =>
 ts v0h v0J fun v0j =>
 gT v0h (pr.slc 0 v0j (some (i 40)) (some (i 44))) fun v0k =>
 tb v0h .eql v0k (LV.str [0, 1, 0, 2]) fun v0l =>
 pT v0h v0l fun v0m =>
 pr.fin none v0A.2 [v0m])
theorem F_interpreterlaw15_awake_eq (g : Call) : fnEv g c_interpreterlaw15_awake [] none = F_interpreterlaw15_awake g := by kernel_rfl
noncomputable def F_fault_Inside4 (g : Call) (a0 : LV) : Option (LV × Option LV) :=
 bx a0 fun v0 =>
 (pr.alloc (LV.agg [(i 0), (i 0), (i 0), (i 0), (i 0), (LV.bool false), (LV.bool false), (LV.bytes [0, 0, 0, 0]), (LV.bytes [0, 0, 0, 0]), (LV.str []), (LV.str [])]) 2 z).bind fun v1 =>
 l1 v1.2 v0 fun v4 =>
 ln v4 fun v5 =>
 bn .lss v5 (i 20) fun v6 =>
 condK v6 (
 lA 17 v1.2 v1.1 fun v7 =>
 cl g id_fault_fault v1.2 [(i 7)] fun v8 =>
 sA 17 v1.2 v1.1 v7 fun v9 =>
 lA 17 v9.2 v1.1 fun vC =>
 pr.fin none v9.2 [vC, (i 0), v8]) (
 l1 v1.2 v0 fun vD =>
 xS vD (i 0) fun vE =>
 bn .and vE (LV.int .u8 15) fun vF =>
 (pr.conv .i64 vF).bind fun vG =>
 bn .mul vG (i 4) fun vH =>
 l1 v1.2 v0 fun vJ =>
 xS vJ (i 0) fun vK =>
 bn .shr vK (LV.int .u64 4) fun vL =>
 bn .neq vL (LV.int .u8 4) fun vM =>
 fs vM vH fun vO =>
 fb vM .lss vO (i 20) fun vP =>
 pF vM vP fun vQ =>
 condK vQ (
 lA 17 v1.2 v1.1 fun vS =>
 cl g id_fault_fault v1.2 [(i 8)] fun vT =>
 sA 17 v1.2 v1.1 vS fun vU =>
 lA 17 vU.2 v1.1 fun vX =>
 pr.fin none vU.2 [vX, (i 0), vT]) (
 l1 v1.2 v0 fun vY =>
 ln vY fun vZ =>
 bn .lss vZ vH fun vb =>
 condK vb (
 lA 17 v1.2 v1.1 fun vd =>
 cl g id_fault_fault v1.2 [(i 7)] fun ve =>
 sA 17 v1.2 v1.1 vd fun vf =>
 lA 17 vf.2 v1.1 fun vi =>
 pr.fin none vf.2 [vi, (i 0), ve]) (
 l1 v1.2 v0 fun vj =>
 sl vj none (some vH) fun vl =>
 (pr.bsl (LV.str []) 1 [(0, vl)]).bind fun vm =>
 cl g id_sum_Right v1.2 [vm] fun vn =>
 nt vn fun vo =>
 condK vo (
 lA 17 v1.2 v1.1 fun vq =>
 cl g id_fault_fault v1.2 [(i 9)] fun vr =>
 sA 17 v1.2 v1.1 vq fun vs =>
 lA 17 vs.2 v1.1 fun vv =>
 pr.fin none vs.2 [vv, (i 0), vr]) (
 (pr.mkFunc id_fault_Inside4_1 [v0]).bind fun vw =>
 (pr.callv g v1.2 vw [(i 2)]).bind fun vz =>
 (pr.callv g v1.2 vw [(i 6)]).bind fun v01 =>
 bn .lss vz vH fun v06 =>
 fs v06 v01 fun v08 =>
 fb v06 .and v08 (i 32768) fun v09 =>
 fb v06 .neq v09 (i 0) fun v0A =>
 pF v06 v0A fun v0B =>
 fs v0B v01 fun v0D =>
 fb v0B .and v0D (i 8191) fun v0E =>
 fb v0B .mul v0E (i 8) fun v0F =>
 fs v0B vz fun v0G =>
 fb v0B .add v0F v0G fun v0H =>
 fb v0B .gtr v0H (i 65535) fun v0I =>
 pF v0B v0I fun v0J =>
 condK v0J (
 lA 17 v1.2 v1.1 fun v0K =>
 cl g id_fault_fault v1.2 [(i 8)] fun v0L =>
 sA 17 v1.2 v1.1 v0K fun v0M =>
 lA 17 v0M.2 v1.1 fun v0P =>
 pr.fin none v0M.2 [v0P, (i 0), v0L]) (
 l1 v1.2 v0 fun v0Q =>
 l1 v1.2 v0 fun v0S =>
 ln v0S fun v0T =>
 (pr.minmax false v0T [vz]).bind fun v0V =>
 sl v0Q (some vH) (some v0V) fun v0W =>
 bn .sub vz vH fun v0b =>
 cl g id_fault_short v1.2 [v0W, v0b] fun v0c =>
 condK v0c (
 lA 17 v1.2 v1.1 fun v0d =>
 cl g id_fault_fault v1.2 [(i 7)] fun v0e =>
 sA 17 v1.2 v1.1 v0d fun v0f =>
 lA 17 v0f.2 v1.1 fun v0i =>
 pr.fin none v0f.2 [v0i, (i 0), v0e]) (
 l1 v1.2 v0 fun v0j =>
 xS v0j (i 1) fun v0k =>
 (pr.conv .i64 v0k).bind fun v0l =>
 (pr.callv g v1.2 vw [(i 4)]).bind fun v0n =>
 l1 v1.2 v0 fun v0o =>
 xS v0o (i 8) fun v0p =>
 (pr.conv .i64 v0p).bind fun v0q =>
 l1 v1.2 v0 fun v0r =>
 xS v0r (i 9) fun v0s =>
 (pr.conv .i64 v0s).bind fun v0t =>
 bn .and v01 (i 8191) fun v0v =>
 bn .mul v0v (i 8) fun v0w =>
 bn .and v01 (i 16384) fun v0y =>
 bn .neq v0y (i 0) fun v0z =>
 bn .and v01 (i 8192) fun v11 =>
 bn .neq v11 (i 0) fun v12 =>
 l1 v1.2 v0 fun v13 =>
 sl v13 (some (i 20)) (some vH) fun v15 =>
 (pr.parts (LV.agg [(i 0), (i 0), (i 0), (i 0), (i 0), (LV.bool false), (LV.bool false), (LV.bytes [0, 0, 0, 0]), (LV.bytes [0, 0, 0, 0]), (LV.str []), (LV.str [])]) [(0, v0l), (1, v0n), (2, v0q), (3, v0t), (4, v0w), (5, v0z), (6, v12), (9, v15), (10, v0W)]).bind fun v17 =>
 sA 17 v1.2 v1.1 v17 fun v18 =>
 fA 7 7 v1.1 fun v19 =>
 sV 4 v18.2 v19 none none fun v1A =>
 l1 v18.2 v0 fun v1B =>
 sl v1B (some (i 12)) none fun v1C =>
 (pr.copy v18.2 v1A v1C).bind fun v1D =>
 fA 8 11 v1.1 fun v1E =>
 sV 4 v1D.2 v1E none none fun v1F =>
 l1 v1D.2 v0 fun v1G =>
 sl v1G (some (i 16)) none fun v1H =>
 (pr.copy v1D.2 v1F v1H).bind fun v1I =>
 lA 17 v1I.2 v1.1 fun v1J =>
 bn .sub vz vH fun v1M =>
 sA 17 v1I.2 v1.1 v1J fun v1N =>
 lA 17 v1N.2 v1.1 fun v1Q =>
 pr.fin none v1N.2 [v1Q, v1M, LV.nili]))))))
theorem F_fault_Inside4_eq (g : Call) (a0 : LV) : fnEv g c_fault_Inside4 [a0] none = F_fault_Inside4 g a0 := by kernel_rfl
noncomputable def F_fault_Quote6 (g : Call) (a0 : LV) (a1 : LV) (a2 : LV) (a3 : LV) : Option (LV × Option LV) :=
 bx a0 fun v0 =>
 bx a2 fun v1 =>
 bx a3 fun v2 =>
 fA 3 3 v0 fun v5 =>
 l1 z v5 fun v6 =>
 cl g id_head46_Proto z [v6] fun v7 =>
 ex v7 0 fun v9 =>
 ex v7 1 fun vA =>
 fA 6 6 v0 fun vD =>
 l1 z vD fun vE =>
 ff vE 4 4 v0 fun vG =>
 fl vE z vG fun vH =>
 fb vE .neq vH (i 0) fun vI =>
 pF vE vI fun vJ =>
 condK vJ (
 bn .add a1 (i 8) fun vP =>
 fA 0 0 v0 fun vR =>
 l1 z vR fun vS =>
 fA 2 2 v0 fun vT =>
 l1 z vT fun vU =>
 (pr.bsl (i 0) 2 [(0, vS), (1, vU)]).bind fun vV =>
 cl g id_fault_within z [(i 255), vV] fun vW =>
 nt vW fun vX =>
 ff vX 1 1 v0 fun vZ =>
 fl vX z vZ fun va =>
 ff vX 1 16 v1 fun vb =>
 fl vX z vb fun vc =>
 ff vX 1 16 v2 fun vd =>
 fl vX z vd fun ve =>
 gF vX (pr.bsl (i 0) 3 [(0, va), (1, vc), (2, ve)]) fun vf =>
 gF vX (pr.call g id_fault_within z [(i 65535), vf]) fun vg =>
 gF vX (pr.un .not vg) fun vh =>
 pF vX vh fun vi =>
 ff vi 4 4 v0 fun vk =>
 fl vi z vk fun vl =>
 gF vi (pr.bsl (i 0) 1 [(0, vl)]) fun vm =>
 gF vi (pr.call g id_fault_within z [(i 65528), vm]) fun vn =>
 gF vi (pr.un .not vn) fun vo =>
 pF vi vo fun vp =>
 ff vp 4 4 v0 fun vr =>
 fl vp z vr fun vs =>
 fb vp .rem vs (i 8) fun vt =>
 fb vp .neq vt (i 0) fun vu =>
 pF vp vu fun vv =>
 fs vv a1 fun vx =>
 ff vv 10 16 v0 fun vy =>
 fl vv z vy fun vz =>
 gF vv (pr.len true vz) fun v00 =>
 fb vv .lss vx v00 fun v01 =>
 pF vv v01 fun v02 =>
 condK v02 (
 cl g id_fault_fault z [(i 13)] fun v04 =>
 pr.fin none z [(LV.str []), v04]) (
 nt vA fun v08 =>
 condK v08 (
 cl g id_fault_fault z [(i 10)] fun v0A =>
 pr.fin none z [(LV.str []), v0A]) (
 bn .gtr vP (i 65535) fun v0E =>
 condK v0E (
 cl g id_fault_fault z [(i 3)] fun v0G =>
 pr.fin none z [(LV.str []), v0G]) (
 condK vJ (
 fA 4 4 v0 fun v0N =>
 l1 z v0N fun v0O =>
 fA 6 6 v0 fun v0Q =>
 l1 z v0Q fun v0R =>
 condK v0R (
 bn .add v0O (i 1) fun v0T =>
 cl g id_fault_big z [v9, (i 1)] fun v0W =>
 bn .add v0W (LV.str [0]) fun v0X =>
 cl g id_fault_big z [v0T, (i 2)] fun v0Z =>
 bn .add v0X v0Z fun v0a =>
 fA 1 1 v0 fun v0b =>
 l1 z v0b fun v0c =>
 cl g id_fault_big z [v0c, (i 4)] fun v0d =>
 bn .add v0a v0d fun v0e =>
 fA 0 0 v0 fun v0h =>
 l1 z v0h fun v0i =>
 bn .shl v0i (LV.int .u64 20) fun v0j =>
 bn .or (i 1610612736) v0j fun v0k =>
 cl g id_fault_big z [v0k, (i 4)] fun v0l =>
 cl g id_fault_big z [vP, (i 2)] fun v0n =>
 bn .add v0l v0n fun v0o =>
 cl g id_fault_big z [(i 44), (i 1)] fun v0q =>
 bn .add v0o v0q fun v0r =>
 fA 2 2 v0 fun v0s =>
 l1 z v0s fun v0t =>
 cl g id_fault_big z [v0t, (i 1)] fun v0u =>
 bn .add v0r v0u fun v0v =>
 fA 0 0 v1 fun v0w =>
 sV 16 z v0w none none fun v0x =>
 bS z v0x fun v0y =>
 bn .add v0v v0y fun v0z =>
 fA 0 0 v2 fun v10 =>
 sV 16 z v10 none none fun v11 =>
 bS z v11 fun v12 =>
 bn .add v0z v12 fun v13 =>
 bn .add v13 v0e fun v15 =>
 lA 17 z v0 fun v16 =>
 lA 17 z v1 fun v18 =>
 lA 17 z v2 fun v19 =>
 cl g id_fault_turn6 z [v16, a1, v18, v19] fun v1A =>
 bn .add v15 v1A fun v1B =>
 pr.fin none z [v1B, LV.nili]) (
 cl g id_fault_big z [v9, (i 1)] fun v1F =>
 bn .add v1F (LV.str [0]) fun v1G =>
 cl g id_fault_big z [v0O, (i 2)] fun v1I =>
 bn .add v1G v1I fun v1J =>
 fA 1 1 v0 fun v1K =>
 l1 z v1K fun v1L =>
 cl g id_fault_big z [v1L, (i 4)] fun v1M =>
 bn .add v1J v1M fun v1N =>
 fA 0 0 v0 fun v1Q =>
 l1 z v1Q fun v1R =>
 bn .shl v1R (LV.int .u64 20) fun v1S =>
 bn .or (i 1610612736) v1S fun v1T =>
 cl g id_fault_big z [v1T, (i 4)] fun v1U =>
 cl g id_fault_big z [vP, (i 2)] fun v1W =>
 bn .add v1U v1W fun v1X =>
 cl g id_fault_big z [(i 44), (i 1)] fun v1Z =>
 bn .add v1X v1Z fun v1a =>
 fA 2 2 v0 fun v1b =>
 l1 z v1b fun v1c =>
 cl g id_fault_big z [v1c, (i 1)] fun v1d =>
 bn .add v1a v1d fun v1e =>
 fA 0 0 v1 fun v1f =>
 sV 16 z v1f none none fun v1g =>
 bS z v1g fun v1h =>
 bn .add v1e v1h fun v1i =>
 fA 0 0 v2 fun v1j =>
 sV 16 z v1j none none fun v1k =>
 bS z v1k fun v1l =>
 bn .add v1i v1l fun v1m =>
 bn .add v1m v1N fun v1o =>
 lA 17 z v0 fun v1p =>
 lA 17 z v1 fun v1r =>
 lA 17 z v2 fun v1s =>
 cl g id_fault_turn6 z [v1p, a1, v1r, v1s] fun v1t =>
 bn .add v1o v1t fun v1u =>
 pr.fin none z [v1u, LV.nili])) (
 fA 0 0 v0 fun v1x =>
 l1 z v1x fun v1y =>
 bn .shl v1y (LV.int .u64 20) fun v1z =>
 bn .or (i 1610612736) v1z fun v20 =>
 cl g id_fault_big z [v20, (i 4)] fun v21 =>
 cl g id_fault_big z [vP, (i 2)] fun v23 =>
 bn .add v21 v23 fun v24 =>
 cl g id_fault_big z [v9, (i 1)] fun v26 =>
 bn .add v24 v26 fun v27 =>
 fA 2 2 v0 fun v28 =>
 l1 z v28 fun v29 =>
 cl g id_fault_big z [v29, (i 1)] fun v2A =>
 bn .add v27 v2A fun v2B =>
 fA 0 0 v1 fun v2C =>
 sV 16 z v2C none none fun v2D =>
 bS z v2D fun v2E =>
 bn .add v2B v2E fun v2F =>
 fA 0 0 v2 fun v2G =>
 sV 16 z v2G none none fun v2H =>
 bS z v2H fun v2I =>
 bn .add v2F v2I fun v2J =>
 bn .add v2J (LV.str []) fun v2L =>
 lA 17 z v0 fun v2M =>
 lA 17 z v1 fun v2O =>
 lA 17 z v2 fun v2P =>
 cl g id_fault_turn6 z [v2M, a1, v2O, v2P] fun v2Q =>
 bn .add v2L v2Q fun v2R =>
 pr.fin none z [v2R, LV.nili]))))) (
 fA 0 0 v0 fun v2U =>
 l1 z v2U fun v2V =>
 fA 2 2 v0 fun v2W =>
 l1 z v2W fun v2X =>
 (pr.bsl (i 0) 2 [(0, v2V), (1, v2X)]).bind fun v2Y =>
 cl g id_fault_within z [(i 255), v2Y] fun v2Z =>
 nt v2Z fun v2a =>
 ff v2a 1 1 v0 fun v2c =>
 fl v2a z v2c fun v2d =>
 ff v2a 1 16 v1 fun v2e =>
 fl v2a z v2e fun v2f =>
 ff v2a 1 16 v2 fun v2g =>
 fl v2a z v2g fun v2h =>
 gF v2a (pr.bsl (i 0) 3 [(0, v2d), (1, v2f), (2, v2h)]) fun v2i =>
 gF v2a (pr.call g id_fault_within z [(i 65535), v2i]) fun v2j =>
 gF v2a (pr.un .not v2j) fun v2k =>
 pF v2a v2k fun v2l =>
 ff v2l 4 4 v0 fun v2n =>
 fl v2l z v2n fun v2o =>
 gF v2l (pr.bsl (i 0) 1 [(0, v2o)]) fun v2p =>
 gF v2l (pr.call g id_fault_within z [(i 65528), v2p]) fun v2q =>
 gF v2l (pr.un .not v2q) fun v2r =>
 pF v2l v2r fun v2s =>
 ff v2s 4 4 v0 fun v2u =>
 fl v2s z v2u fun v2v =>
 fb v2s .rem v2v (i 8) fun v2w =>
 fb v2s .neq v2w (i 0) fun v2x =>
 pF v2s v2x fun v2y =>
 fs v2y a1 fun v30 =>
 ff v2y 10 16 v0 fun v31 =>
 fl v2y z v31 fun v32 =>
 gF v2y (pr.len true v32) fun v33 =>
 fb v2y .lss v30 v33 fun v34 =>
 pF v2y v34 fun v35 =>
 condK v35 (
 cl g id_fault_fault z [(i 13)] fun v37 =>
 pr.fin none z [(LV.str []), v37]) (
 nt vA fun v3B =>
 condK v3B (
 cl g id_fault_fault z [(i 10)] fun v3D =>
 pr.fin none z [(LV.str []), v3D]) (
 bn .gtr a1 (i 65535) fun v3H =>
 condK v3H (
 cl g id_fault_fault z [(i 3)] fun v3J =>
 pr.fin none z [(LV.str []), v3J]) (
 condK vJ (
 fA 4 4 v0 fun v3Q =>
 l1 z v3Q fun v3R =>
 fA 6 6 v0 fun v3T =>
 l1 z v3T fun v3U =>
 condK v3U (
 bn .add v3R (i 1) fun v3W =>
 cl g id_fault_big z [v9, (i 1)] fun v3Z =>
 bn .add v3Z (LV.str [0]) fun v3a =>
 cl g id_fault_big z [v3W, (i 2)] fun v3c =>
 bn .add v3a v3c fun v3d =>
 fA 1 1 v0 fun v3e =>
 l1 z v3e fun v3f =>
 cl g id_fault_big z [v3f, (i 4)] fun v3g =>
 bn .add v3d v3g fun v3h =>
 fA 0 0 v0 fun v3k =>
 l1 z v3k fun v3l =>
 bn .shl v3l (LV.int .u64 20) fun v3m =>
 bn .or (i 1610612736) v3m fun v3n =>
 cl g id_fault_big z [v3n, (i 4)] fun v3o =>
 cl g id_fault_big z [a1, (i 2)] fun v3q =>
 bn .add v3o v3q fun v3r =>
 cl g id_fault_big z [(i 44), (i 1)] fun v3t =>
 bn .add v3r v3t fun v3u =>
 fA 2 2 v0 fun v3v =>
 l1 z v3v fun v3w =>
 cl g id_fault_big z [v3w, (i 1)] fun v3x =>
 bn .add v3u v3x fun v3y =>
 fA 0 0 v1 fun v3z =>
 sV 16 z v3z none none fun v40 =>
 bS z v40 fun v41 =>
 bn .add v3y v41 fun v42 =>
 fA 0 0 v2 fun v43 =>
 sV 16 z v43 none none fun v44 =>
 bS z v44 fun v45 =>
 bn .add v42 v45 fun v46 =>
 bn .add v46 v3h fun v48 =>
 lA 17 z v0 fun v49 =>
 lA 17 z v1 fun v4B =>
 lA 17 z v2 fun v4C =>
 cl g id_fault_turn6 z [v49, a1, v4B, v4C] fun v4D =>
 bn .add v48 v4D fun v4E =>
 pr.fin none z [v4E, LV.nili]) (
 cl g id_fault_big z [v9, (i 1)] fun v4I =>
 bn .add v4I (LV.str [0]) fun v4J =>
 cl g id_fault_big z [v3R, (i 2)] fun v4L =>
 bn .add v4J v4L fun v4M =>
 fA 1 1 v0 fun v4N =>
 l1 z v4N fun v4O =>
 cl g id_fault_big z [v4O, (i 4)] fun v4P =>
 bn .add v4M v4P fun v4Q =>
 fA 0 0 v0 fun v4T =>
 l1 z v4T fun v4U =>
 bn .shl v4U (LV.int .u64 20) fun v4V =>
 bn .or (i 1610612736) v4V fun v4W =>
 cl g id_fault_big z [v4W, (i 4)] fun v4X =>
 cl g id_fault_big z [a1, (i 2)] fun v4Z =>
 bn .add v4X v4Z fun v4a =>
 cl g id_fault_big z [(i 44), (i 1)] fun v4c =>
 bn .add v4a v4c fun v4d =>
 fA 2 2 v0 fun v4e =>
 l1 z v4e fun v4f =>
 cl g id_fault_big z [v4f, (i 1)] fun v4g =>
 bn .add v4d v4g fun v4h =>
 fA 0 0 v1 fun v4i =>
 sV 16 z v4i none none fun v4j =>
 bS z v4j fun v4k =>
 bn .add v4h v4k fun v4l =>
 fA 0 0 v2 fun v4m =>
 sV 16 z v4m none none fun v4n =>
 bS z v4n fun v4o =>
 bn .add v4l v4o fun v4p =>
 bn .add v4p v4Q fun v4r =>
 lA 17 z v0 fun v4s =>
 lA 17 z v1 fun v4u =>
 lA 17 z v2 fun v4v =>
 cl g id_fault_turn6 z [v4s, a1, v4u, v4v] fun v4w =>
 bn .add v4r v4w fun v4x =>
 pr.fin none z [v4x, LV.nili])) (
 fA 0 0 v0 fun v50 =>
 l1 z v50 fun v51 =>
 bn .shl v51 (LV.int .u64 20) fun v52 =>
 bn .or (i 1610612736) v52 fun v53 =>
 cl g id_fault_big z [v53, (i 4)] fun v54 =>
 cl g id_fault_big z [a1, (i 2)] fun v56 =>
 bn .add v54 v56 fun v57 =>
 cl g id_fault_big z [v9, (i 1)] fun v59 =>
 bn .add v57 v59 fun v5A =>
 fA 2 2 v0 fun v5B =>
 l1 z v5B fun v5C =>
 cl g id_fault_big z [v5C, (i 1)] fun v5D =>
 bn .add v5A v5D fun v5E =>
 fA 0 0 v1 fun v5F =>
 sV 16 z v5F none none fun v5G =>
 bS z v5G fun v5H =>
 bn .add v5E v5H fun v5I =>
 fA 0 0 v2 fun v5J =>
 sV 16 z v5J none none fun v5K =>
 bS z v5K fun v5L =>
 bn .add v5I v5L fun v5M =>
 bn .add v5M (LV.str []) fun v5O =>
 lA 17 z v0 fun v5P =>
 lA 17 z v1 fun v5R =>
 lA 17 z v2 fun v5S =>
 cl g id_fault_turn6 z [v5P, a1, v5R, v5S] fun v5T =>
 bn .add v5O v5T fun v5U =>
 pr.fin none z [v5U, LV.nili])))))
theorem F_fault_Quote6_eq (g : Call) (a0 : LV) (a1 : LV) (a2 : LV) (a3 : LV) : fnEv g c_fault_Quote6 [a0, a1, a2, a3] none = F_fault_Quote6 g a0 a1 a2 a3 := by kernel_rfl
noncomputable def F_ip6_Parse (g : Call) (a0 : LV) : Option (LV × Option LV) :=
 (pr.alloc (LV.agg [(i 0), (i 0), (i 0), (LV.bytes [0, 0, 0, 0, 0, 0, 0, 0, 0, 0, 0, 0, 0, 0, 0, 0]), (LV.bytes [0, 0, 0, 0, 0, 0, 0, 0, 0, 0, 0, 0, 0, 0, 0, 0]), LV.nils, (LV.bool false), (LV.int .u32 0), (i 0), (LV.bool false), (i 0), (LV.str [])]) 2 z).bind fun v0 =>
 (pr.alloc (LV.agg [(i 0), (i 0), (i 0), (LV.bytes [0, 0, 0, 0, 0, 0, 0, 0, 0, 0, 0, 0, 0, 0, 0, 0]), (LV.bytes [0, 0, 0, 0, 0, 0, 0, 0, 0, 0, 0, 0, 0, 0, 0, 0]), LV.nils, (LV.bool false), (LV.int .u32 0), (i 0), (LV.bool false), (i 0), (LV.str [])]) 4 v0.2).bind fun v2 =>
 ln a0 fun v4 =>
 bn .lss v4 (i 40) fun v5 =>
 condK v5 (
 lA 42 v2.2 v2.1 fun v6 =>
 cl g id_ip6_fault v2.2 [(i 7)] fun v7 =>
 sA 42 v2.2 v0.1 v6 fun v8 =>
 lA 42 v8.2 v0.1 fun vA =>
 pr.fin none v8.2 [vA, v7]) (
 xS a0 (i 0) fun vC =>
 bn .shr vC (LV.int .u64 4) fun vD =>
 bn .neq vD (LV.int .u8 6) fun vE =>
 condK vE (
 lA 42 v2.2 v2.1 fun vF =>
 cl g id_ip6_fault v2.2 [(i 8)] fun vG =>
 sA 42 v2.2 v0.1 vF fun vH =>
 lA 42 vH.2 v0.1 fun vJ =>
 pr.fin none vH.2 [vJ, vG]) (
 xS a0 (i 4) fun vL =>
 (pr.conv .i64 vL).bind fun vM =>
 bn .shl vM (LV.int .u64 8) fun vN =>
 xS a0 (i 5) fun vP =>
 (pr.conv .i64 vP).bind fun vQ =>
 bn .or vN vQ fun vR =>
 ln a0 fun vU =>
 bn .add (i 40) vR fun vW =>
 bn .lss vU vW fun vX =>
 condK vX (
 lA 42 v2.2 v2.1 fun vY =>
 cl g id_ip6_fault v2.2 [(i 7)] fun vZ =>
 sA 42 v2.2 v0.1 vY fun va =>
 lA 42 va.2 v0.1 fun vc =>
 pr.fin none va.2 [vc, vZ]) (
 (pr.callFr g id_num_New 41 v2.2 [a0]).bind fun ve =>
 (pr.callRw g id_num_Reader_U32 ve.2 [ve.1]).bind fun vf =>
 ex vf.1 0 fun vh =>
 ex vf.1 1 fun vi =>
 bn .shr vh (LV.int .u64 20) fun vm =>
 bn .and vm (i 255) fun vn =>
 bn .and vh (i 1048575) fun vp =>
 xS a0 (i 7) fun vr =>
 (pr.conv .i64 vr).bind fun vs =>
 (pr.parts (LV.agg [(i 0), (i 0), (i 0), (LV.bytes [0, 0, 0, 0, 0, 0, 0, 0, 0, 0, 0, 0, 0, 0, 0, 0]), (LV.bytes [0, 0, 0, 0, 0, 0, 0, 0, 0, 0, 0, 0, 0, 0, 0, 0]), LV.nils, (LV.bool false), (LV.int .u32 0), (i 0), (LV.bool false), (i 0), (LV.str [])]) [(0, vn), (1, vp), (2, vs)]).bind fun vt =>
 (pr.alloc (LV.agg [(i 0), (i 0), (i 0), (LV.bytes [0, 0, 0, 0, 0, 0, 0, 0, 0, 0, 0, 0, 0, 0, 0, 0]), (LV.bytes [0, 0, 0, 0, 0, 0, 0, 0, 0, 0, 0, 0, 0, 0, 0, 0]), LV.nils, (LV.bool false), (LV.int .u32 0), (i 0), (LV.bool false), (i 0), (LV.str [])]) 8 vf.2).bind fun vu =>
 sA 42 vu.2 vu.1 vt fun vv =>
 fA 3 3 vu.1 fun vw =>
 sV 16 vv.2 vw none none fun vx =>
 sl a0 (some (i 8)) none fun vz =>
 (pr.copy vv.2 vx vz).bind fun v00 =>
 fA 4 19 vu.1 fun v01 =>
 sV 16 v00.2 v01 none none fun v02 =>
 sl a0 (some (i 24)) none fun v04 =>
 (pr.copy v00.2 v02 v04).bind fun v05 =>
 xS a0 (i 6) fun v08 =>
 (pr.conv .i64 v08).bind fun v09 =>
 bn .add (i 40) vR fun v0C =>
 sl a0 (some (i 40)) (some v0C) fun v0D =>
 cl g id_ip6_Chain v05.2 [v09, v0D] fun v0E =>
 ex v0E 0 fun v0G =>
 ex v0E 1 fun v0H =>
 ex v0E 2 fun v0I =>
 ex v0E 3 fun v0J =>
 fA 5 35 vu.1 fun v0K =>
 s1 v05.2 v0K v0G fun v0L =>
 fA 10 40 vu.1 fun v0M =>
 s1 v0L.2 v0M v0H fun v0N =>
 fA 11 41 vu.1 fun v0O =>
 s1 v0N.2 v0O v0I fun v0P =>
 eN 1 true v0J fun v0S =>
 condK v0S (
 lA 42 v0P.2 v2.1 fun v0T =>
 sA 42 v0P.2 v0.1 v0T fun v0V =>
 lA 42 v0V.2 v0.1 fun v0X =>
 pr.fin none v0V.2 [v0X, v0J]) (
 fA 10 40 vu.1 fun v0Y =>
 l1 v0P.2 v0Y fun v0Z =>
 bn .neq v0Z (i 44) fun v0a =>
 condK v0a (
 lA 42 v0P.2 vu.1 fun v0b =>
 sA 42 v0P.2 v0.1 v0b fun v0c =>
 lA 42 v0c.2 v0.1 fun v0e =>
 pr.fin none v0c.2 [v0e, LV.nili]) (
 fA 11 41 vu.1 fun v0f =>
 l1 v0P.2 v0f fun v0g =>
 ln v0g fun v0h =>
 bn .lss v0h (i 8) fun v0i =>
 condK v0i (
 lA 42 v0P.2 v2.1 fun v0j =>
 cl g id_ip6_fault v0P.2 [(i 7)] fun v0k =>
 sA 42 v0P.2 v0.1 v0j fun v0l =>
 lA 42 v0l.2 v0.1 fun v0n =>
 pr.fin none v0l.2 [v0n, v0k]) (
 fA 11 41 vu.1 fun v0o =>
 l1 v0P.2 v0o fun v0p =>
 xS v0p (i 2) fun v0q =>
 (pr.conv .i64 v0q).bind fun v0r =>
 bn .shl v0r (LV.int .u64 8) fun v0s =>
 fA 11 41 vu.1 fun v0t =>
 l1 v0P.2 v0t fun v0u =>
 xS v0u (i 3) fun v0v =>
 (pr.conv .i64 v0v).bind fun v0w =>
 bn .or v0s v0w fun v0x =>
 fA 11 41 vu.1 fun v0z =>
 l1 v0P.2 v0z fun v10 =>
 sl v10 (some (i 4)) none fun v11 =>
 (pr.callFr g id_num_New 108 v0P.2 [v11]).bind fun v12 =>
 (pr.callRw g id_num_Reader_U32 v12.2 [v12.1]).bind fun v13 =>
 ex v13.1 0 fun v15 =>
 ex v13.1 1 fun v16 =>
 (pr.conv .u32 v15).bind fun v1A =>
 bn .andNot v0x (i 7) fun v1C =>
 bn .and v0x (i 1) fun v1E =>
 bn .neq v1E (i 0) fun v1F =>
 fA 11 41 vu.1 fun v1G =>
 l1 v13.2 v1G fun v1H =>
 xS v1H (i 0) fun v1I =>
 (pr.conv .i64 v1I).bind fun v1J =>
 fA 11 41 vu.1 fun v1K =>
 l1 v13.2 v1K fun v1L =>
 sl v1L (some (i 8)) none fun v1M =>
 fA 6 36 vu.1 fun v1N =>
 s1 v13.2 v1N (LV.bool true) fun v1O =>
 fA 7 37 vu.1 fun v1P =>
 s1 v1O.2 v1P v1A fun v1Q =>
 fA 8 38 vu.1 fun v1R =>
 s1 v1Q.2 v1R v1C fun v1S =>
 fA 9 39 vu.1 fun v1T =>
 s1 v1S.2 v1T v1F fun v1U =>
 fA 10 40 vu.1 fun v1V =>
 s1 v1U.2 v1V v1J fun v1W =>
 fA 11 41 vu.1 fun v1X =>
 s1 v1W.2 v1X v1M fun v1Y =>
 lA 42 v1Y.2 vu.1 fun v1Z =>
 cl g id_ip6_pieced v1Y.2 [v1Z] fun v1a =>
 nt v1a fun v1b =>
 ff v1b 11 41 vu.1 fun v1d =>
 fl v1b v1Y.2 v1d fun v1e =>
 gF v1b (pr.len true v1e) fun v1f =>
 ff v1b 8 38 vu.1 fun v1g =>
 fl v1b v1Y.2 v1g fun v1h =>
 fb v1b .sub (i 65535) v1h fun v1i =>
 fb v1b .gtr v1f v1i fun v1j =>
 pF v1b v1j fun v1k =>
 condK v1k (
 lA 42 v1Y.2 v2.1 fun v1l =>
 cl g id_ip6_fault v1Y.2 [(i 8)] fun v1m =>
 sA 42 v1Y.2 v0.1 v1l fun v1n =>
 lA 42 v1n.2 v0.1 fun v1p =>
 pr.fin none v1n.2 [v1p, v1m]) (
 lA 42 v1Y.2 vu.1 fun v1q =>
 sA 42 v1Y.2 v0.1 v1q fun v1r =>
 lA 42 v1r.2 v0.1 fun v1t =>
 pr.fin none v1r.2 [v1t, LV.nili])))))))
theorem F_ip6_Parse_eq (g : Call) (a0 : LV) : fnEv g c_ip6_Parse [a0] none = F_ip6_Parse g a0 := by kernel_rfl
noncomputable def F_tcp_Check (g : Call) (a0 : LV) (a1 : LV) : Option (LV × Option LV) :=
 cl g id_tcp_Parse z [a0] fun v2 =>
 ex v2 0 fun v4 =>
 ex v2 1 fun v5 =>
 (pr.alloc (LV.agg [(i 0), (i 0), (i 0), (LV.str [])]) 5 z).bind fun v6 =>
 sA 4 v6.2 v6.1 v4 fun v7 =>
 eN 1 true v5 fun vA =>
 condK vA (
 pr.fin none v7.2 [v5]) (
 (pr.bsl (LV.str []) 2 [(0, a1), (1, a0)]).bind fun vF =>
 cl g id_sum_Right v7.2 [vF] fun vG =>
 nt vG fun vH =>
 condK vH (
 cl g id_tcp_fault v7.2 [(i 9)] fun vI =>
 pr.fin none v7.2 [vI]) (
 pr.fin none v7.2 [LV.nili]))
theorem F_tcp_Check_eq (g : Call) (a0 : LV) (a1 : LV) : fnEv g c_tcp_Check [a0, a1] none = F_tcp_Check g a0 a1 := by kernel_rfl
noncomputable def F_sum_Pseudo4 (g : Call) (a0 : LV) (a1 : LV) (a2 : LV) (a3 : LV) : Option (LV × Option LV) :=
 bx a0 fun v0 =>
 bx a1 fun v1 =>
 sV 4 z v0 none none fun v3 =>
 bS z v3 fun v4 =>
 sV 4 z v1 none none fun v5 =>
 bS z v5 fun v6 =>
 bn .add v4 v6 fun v7 =>
 bn .add v7 (LV.str [0]) fun v8 =>
 cl g id_sum_big z [a2, (i 1)] fun vA =>
 bn .add v8 vA fun vB =>
 cl g id_sum_big z [a3, (i 2)] fun vD =>
 bn .add vB vD fun vE =>
 pr.fin none z [vE]
theorem F_sum_Pseudo4_eq (g : Call) (a0 : LV) (a1 : LV) (a2 : LV) (a3 : LV) : fnEv g c_sum_Pseudo4 [a0, a1, a2, a3] none = F_sum_Pseudo4 g a0 a1 a2 a3 := by kernel_rfl
noncomputable def F_sum_Pseudo6 (g : Call) (a0 : LV) (a1 : LV) (a2 : LV) (a3 : LV) : Option (LV × Option LV) :=
 bx a0 fun v0 =>
 bx a1 fun v1 =>
 sV 16 z v0 none none fun v3 =>
 bS z v3 fun v4 =>
 sV 16 z v1 none none fun v5 =>
 bS z v5 fun v6 =>
 bn .add v4 v6 fun v7 =>
 cl g id_sum_big z [a3, (i 4)] fun v9 =>
 bn .add v7 v9 fun vA =>
 bn .add vA (LV.str [0, 0, 0]) fun vB =>
 cl g id_sum_big z [a2, (i 1)] fun vD =>
 bn .add vB vD fun vE =>
 pr.fin none z [vE]
theorem F_sum_Pseudo6_eq (g : Call) (a0 : LV) (a1 : LV) (a2 : LV) (a3 : LV) : fnEv g c_sum_Pseudo6 [a0, a1, a2, a3] none = F_sum_Pseudo6 g a0 a1 a2 a3 := by kernel_rfl
noncomputable def F_udp_Check (g : Call) (a0 : LV) (a1 : LV) : Option (LV × Option LV) :=
 cl g id_udp_Parse z [a0] fun v2 =>
 ex v2 0 fun v4 =>
 ex v2 1 fun v5 =>
 (pr.alloc (LV.agg [(i 0), (i 0), (i 0), (LV.str [])]) 5 z).bind fun v6 =>
 sA 4 v6.2 v6.1 v4 fun v7 =>
 eN 1 true v5 fun vA =>
 condK vA (
 pr.fin none v7.2 [v5]) (
 fA 2 2 v6.1 fun vE =>
 l1 v7.2 vE fun vF =>
 bn .eql vF (i 0) fun vG =>
 condK vG (
 cl g id_udp_fault v7.2 [(i 4)] fun vI =>
 pr.fin none v7.2 [vI]) (
 (pr.bsl (LV.str []) 2 [(0, a1), (1, a0)]).bind fun vM =>
 cl g id_sum_Right v7.2 [vM] fun vN =>
 nt vN fun vO =>
 condK vO (
 cl g id_udp_fault v7.2 [(i 9)] fun vQ =>
 pr.fin none v7.2 [vQ]) (
 pr.fin none v7.2 [LV.nili])))
theorem F_udp_Check_eq (g : Call) (a0 : LV) (a1 : LV) : fnEv g c_udp_Check [a0, a1] none = F_udp_Check g a0 a1 := by kernel_rfl
noncomputable def F_icmp4_Parse (g : Call) (a0 : LV) : Option (LV × Option LV) :=
 (pr.alloc (LV.agg [(i 0), (i 0), (LV.int .u32 0), (LV.str [])]) 2 z).bind fun v0 =>
 ln a0 fun v3 =>
 bn .lss v3 (i 8) fun v4 =>
 condK v4 (
 (pr.parts (LV.agg [(i 0), (i 0), (LV.int .u32 0), (LV.str [])]) []).bind fun v6 =>
 cl g id_icmp4_fault v0.2 [(i 7)] fun v7 =>
 sA 4 v0.2 v0.1 v6 fun v8 =>
 lA 4 v8.2 v0.1 fun vA =>
 pr.fin none v8.2 [vA, v7]) (
 (pr.bsl (LV.str []) 1 [(0, a0)]).bind fun vC =>
 cl g id_sum_Right v0.2 [vC] fun vD =>
 nt vD fun vE =>
 condK vE (
 (pr.parts (LV.agg [(i 0), (i 0), (LV.int .u32 0), (LV.str [])]) []).bind fun vG =>
 cl g id_icmp4_fault v0.2 [(i 9)] fun vH =>
 sA 4 v0.2 v0.1 vG fun vI =>
 lA 4 vI.2 v0.1 fun vK =>
 pr.fin none vI.2 [vK, vH]) (
 sl a0 (some (i 4)) none fun vM =>
 (pr.callFr g id_num_New 22 v0.2 [vM]).bind fun vN =>
 (pr.callRw g id_num_Reader_U32 vN.2 [vN.1]).bind fun vO =>
 ex vO.1 0 fun vQ =>
 ex vO.1 1 fun vR =>
 xS a0 (i 0) fun vV =>
 (pr.conv .i64 vV).bind fun vW =>
 xS a0 (i 1) fun vY =>
 (pr.conv .i64 vY).bind fun vZ =>
 (pr.conv .u32 vQ).bind fun vb =>
 sl a0 (some (i 8)) none fun vd =>
 (pr.parts (LV.agg [(i 0), (i 0), (LV.int .u32 0), (LV.str [])]) [(0, vW), (1, vZ), (2, vb), (3, vd)]).bind fun ve =>
 sA 4 vO.2 v0.1 ve fun vg =>
 lA 4 vg.2 v0.1 fun vi =>
 pr.fin none vg.2 [vi, vR]))
theorem F_icmp4_Parse_eq (g : Call) (a0 : LV) : fnEv g c_icmp4_Parse [a0] none = F_icmp4_Parse g a0 := by kernel_rfl
noncomputable def F_icmp4_Echo (g : Call) (a0 : LV) : Option (LV × Option LV) :=
 bx a0 fun v0 =>
 fA 1 1 v0 fun v4 =>
 l1 z v4 fun v5 =>
 bn .neq v5 (i 0) fun v6 =>
 ff v6 0 0 v0 fun v8 =>
 fl v6 z v8 fun v9 =>
 fb v6 .neq v9 (i 8) fun vA =>
 fs v6 vA fun vB =>
 tf vB 0 0 v0 fun vC =>
 tl vB z vC fun vD =>
 tb vB .neq vD (i 0) fun vE =>
 gF v6 (pr.pick vB vE (LV.bool false)) fun vF =>
 pF v6 vF fun vG =>
 condK vG (
 pr.fin none z [(i 0), (LV.bool false), (LV.bool false)]) (
 fA 2 2 v0 fun vK =>
 l1 z vK fun vL =>
 bn .shr vL (LV.int .u64 16) fun vM =>
 (pr.conv .i64 vM).bind fun vN =>
 fA 0 0 v0 fun vO =>
 l1 z vO fun vP =>
 bn .eql vP (i 8) fun vQ =>
 pr.fin none z [vN, vQ, (LV.bool true)])
theorem F_icmp4_Echo_eq (g : Call) (a0 : LV) : fnEv g c_icmp4_Echo [a0] none = F_icmp4_Echo g a0 := by kernel_rfl
noncomputable def F_icmp6_Parse (g : Call) (a0 : LV) (a1 : LV) : Option (LV × Option LV) :=
 (pr.alloc (LV.agg [(i 0), (i 0), (LV.int .u32 0), (LV.str [])]) 4 z).bind fun v0 =>
 ln a0 fun v3 =>
 bn .lss v3 (i 8) fun v4 =>
 condK v4 (
 (pr.parts (LV.agg [(i 0), (i 0), (LV.int .u32 0), (LV.str [])]) []).bind fun v6 =>
 cl g id_icmp6_fault v0.2 [(i 7)] fun v7 =>
 sA 4 v0.2 v0.1 v6 fun v8 =>
 lA 4 v8.2 v0.1 fun vA =>
 pr.fin none v8.2 [vA, v7]) (
 (pr.bsl (LV.str []) 2 [(0, a1), (1, a0)]).bind fun vD =>
 cl g id_sum_Right v0.2 [vD] fun vE =>
 nt vE fun vF =>
 condK vF (
 (pr.parts (LV.agg [(i 0), (i 0), (LV.int .u32 0), (LV.str [])]) []).bind fun vH =>
 cl g id_icmp6_fault v0.2 [(i 9)] fun vI =>
 sA 4 v0.2 v0.1 vH fun vJ =>
 lA 4 vJ.2 v0.1 fun vL =>
 pr.fin none vJ.2 [vL, vI]) (
 sl a0 (some (i 4)) none fun vN =>
 (pr.callFr g id_num_New 25 v0.2 [vN]).bind fun vO =>
 (pr.callRw g id_num_Reader_U32 vO.2 [vO.1]).bind fun vP =>
 ex vP.1 0 fun vR =>
 ex vP.1 1 fun vS =>
 xS a0 (i 0) fun vW =>
 (pr.conv .i64 vW).bind fun vX =>
 xS a0 (i 1) fun vZ =>
 (pr.conv .i64 vZ).bind fun va =>
 (pr.conv .u32 vR).bind fun vc =>
 sl a0 (some (i 8)) none fun ve =>
 (pr.parts (LV.agg [(i 0), (i 0), (LV.int .u32 0), (LV.str [])]) [(0, vX), (1, va), (2, vc), (3, ve)]).bind fun vf =>
 sA 4 vP.2 v0.1 vf fun vh =>
 lA 4 vh.2 v0.1 fun vj =>
 pr.fin none vh.2 [vj, vS]))
theorem F_icmp6_Parse_eq (g : Call) (a0 : LV) (a1 : LV) : fnEv g c_icmp6_Parse [a0, a1] none = F_icmp6_Parse g a0 a1 := by kernel_rfl
noncomputable def F_icmp6_Echo (g : Call) (a0 : LV) : Option (LV × Option LV) :=
 bx a0 fun v0 =>
 fA 1 1 v0 fun v4 =>
 l1 z v4 fun v5 =>
 bn .neq v5 (i 0) fun v6 =>
 ff v6 0 0 v0 fun v8 =>
 fl v6 z v8 fun v9 =>
 fb v6 .neq v9 (i 128) fun vA =>
 fs v6 vA fun vB =>
 tf vB 0 0 v0 fun vC =>
 tl vB z vC fun vD =>
 tb vB .neq vD (i 129) fun vE =>
 gF v6 (pr.pick vB vE (LV.bool false)) fun vF =>
 pF v6 vF fun vG =>
 condK vG (
 pr.fin none z [(i 0), (LV.bool false), (LV.bool false)]) (
 fA 2 2 v0 fun vK =>
 l1 z vK fun vL =>
 bn .shr vL (LV.int .u64 16) fun vM =>
 (pr.conv .i64 vM).bind fun vN =>
 fA 0 0 v0 fun vO =>
 l1 z vO fun vP =>
 bn .eql vP (i 128) fun vQ =>
 pr.fin none z [vN, vQ, (LV.bool true)])
theorem F_icmp6_Echo_eq (g : Call) (a0 : LV) : fnEv g c_icmp6_Echo [a0] none = F_icmp6_Echo g a0 := by kernel_rfl
noncomputable def F_fault_Inside6 (g : Call) (a0 : LV) : Option (LV × Option LV) :=
 (pr.alloc (LV.agg [(i 0), (i 0), (i 0), (LV.bytes [0, 0, 0, 0, 0, 0, 0, 0, 0, 0, 0, 0, 0, 0, 0, 0]), (LV.bytes [0, 0, 0, 0, 0, 0, 0, 0, 0, 0, 0, 0, 0, 0, 0, 0]), LV.nils, (LV.bool false), (LV.int .u32 0), (i 0), (LV.bool false), (i 0), (LV.str [])]) 2 z).bind fun v0 =>
 ln a0 fun v4 =>
 bn .lss v4 (i 40) fun v5 =>
 condK v5 (
 lA 42 v0.2 v0.1 fun v6 =>
 cl g id_fault_fault v0.2 [(i 7)] fun v7 =>
 sA 42 v0.2 v0.1 v6 fun v8 =>
 lA 42 v8.2 v0.1 fun vB =>
 pr.fin none v8.2 [vB, (i 0), v7]) (
 xS a0 (i 0) fun vD =>
 bn .shr vD (LV.int .u64 4) fun vE =>
 bn .neq vE (LV.int .u8 6) fun vF =>
 condK vF (
 lA 42 v0.2 v0.1 fun vG =>
 cl g id_fault_fault v0.2 [(i 8)] fun vH =>
 sA 42 v0.2 v0.1 vG fun vI =>
 lA 42 vI.2 v0.1 fun vL =>
 pr.fin none vI.2 [vL, (i 0), vH]) (
 xS a0 (i 4) fun vN =>
 (pr.conv .i64 vN).bind fun vO =>
 bn .shl vO (LV.int .u64 8) fun vP =>
 xS a0 (i 5) fun vR =>
 (pr.conv .i64 vR).bind fun vS =>
 bn .or vP vS fun vT =>
 ln a0 fun vX =>
 bn .add (i 40) vT fun vZ =>
 (pr.minmax false vX [vZ]).bind fun va =>
 sl a0 (some (i 40)) (some va) fun vb =>
 xS a0 (i 6) fun ve =>
 (pr.conv .i64 ve).bind fun vf =>
 cl g id_ip6_Chain v0.2 [vf, vb] fun vh =>
 ex vh 0 fun vj =>
 ex vh 1 fun vk =>
 ex vh 2 fun vl =>
 ex vh 3 fun vm =>
 eN 1 true vm fun vs =>
 condK vs (
 lA 42 v0.2 v0.1 fun vt =>
 sA 42 v0.2 v0.1 vt fun vv =>
 lA 42 vv.2 v0.1 fun vy =>
 pr.fin none vv.2 [vy, (i 0), vm]) (
 (pr.callFr g id_num_New 58 v0.2 [a0]).bind fun v00 =>
 (pr.callRw g id_num_Reader_U32 v00.2 [v00.1]).bind fun v01 =>
 ex v01.1 0 fun v03 =>
 ex v01.1 1 fun v04 =>
 bn .shr v03 (LV.int .u64 20) fun v08 =>
 bn .and v08 (i 255) fun v09 =>
 bn .and v03 (i 1048575) fun v0B =>
 xS a0 (i 7) fun v0D =>
 (pr.conv .i64 v0D).bind fun v0E =>
 (pr.parts (LV.agg [(i 0), (i 0), (i 0), (LV.bytes [0, 0, 0, 0, 0, 0, 0, 0, 0, 0, 0, 0, 0, 0, 0, 0]), (LV.bytes [0, 0, 0, 0, 0, 0, 0, 0, 0, 0, 0, 0, 0, 0, 0, 0]), LV.nils, (LV.bool false), (LV.int .u32 0), (i 0), (LV.bool false), (i 0), (LV.str [])]) [(0, v09), (1, v0B), (2, v0E), (5, vj), (10, vk), (11, vl)]).bind fun v0I =>
 (pr.alloc (LV.agg [(i 0), (i 0), (i 0), (LV.bytes [0, 0, 0, 0, 0, 0, 0, 0, 0, 0, 0, 0, 0, 0, 0, 0]), (LV.bytes [0, 0, 0, 0, 0, 0, 0, 0, 0, 0, 0, 0, 0, 0, 0, 0]), LV.nils, (LV.bool false), (LV.int .u32 0), (i 0), (LV.bool false), (i 0), (LV.str [])]) 12 v01.2).bind fun v0J =>
 sA 42 v0J.2 v0J.1 v0I fun v0K =>
 fA 3 3 v0J.1 fun v0L =>
 sV 16 v0K.2 v0L none none fun v0M =>
 sl a0 (some (i 8)) none fun v0O =>
 (pr.copy v0K.2 v0M v0O).bind fun v0P =>
 fA 4 19 v0J.1 fun v0Q =>
 sV 16 v0P.2 v0Q none none fun v0R =>
 sl a0 (some (i 24)) none fun v0T =>
 (pr.copy v0P.2 v0R v0T).bind fun v0U =>
 bn .eql vk (i 44) fun v0W =>
 condK v0W (
 ln vl fun v0Y =>
 bn .lss v0Y (i 8) fun v0Z =>
 condK v0Z (
 lA 42 v0U.2 v0.1 fun v0a =>
 cl g id_fault_fault v0U.2 [(i 7)] fun v0b =>
 sA 42 v0U.2 v0.1 v0a fun v0c =>
 lA 42 v0c.2 v0.1 fun v0f =>
 pr.fin none v0c.2 [v0f, (i 0), v0b]) (
 xS vl (i 2) fun v0h =>
 (pr.conv .i64 v0h).bind fun v0i =>
 bn .shl v0i (LV.int .u64 8) fun v0j =>
 xS vl (i 3) fun v0l =>
 (pr.conv .i64 v0l).bind fun v0m =>
 bn .or v0j v0m fun v0n =>
 sl vl (some (i 4)) none fun v0q =>
 (pr.callFr g id_num_New 102 v0U.2 [v0q]).bind fun v0r =>
 (pr.callRw g id_num_Reader_U32 v0r.2 [v0r.1]).bind fun v0s =>
 ex v0s.1 0 fun v0u =>
 ex v0s.1 1 fun v0v =>
 (pr.conv .u32 v0u).bind fun v0z =>
 bn .andNot v0n (i 7) fun v11 =>
 bn .and v0n (i 1) fun v13 =>
 bn .neq v13 (i 0) fun v14 =>
 xS vl (i 0) fun v16 =>
 (pr.conv .i64 v16).bind fun v17 =>
 sl vl (some (i 8)) none fun v19 =>
 fA 6 36 v0J.1 fun v1A =>
 s1 v0s.2 v1A (LV.bool true) fun v1B =>
 fA 7 37 v0J.1 fun v1C =>
 s1 v1B.2 v1C v0z fun v1D =>
 fA 8 38 v0J.1 fun v1E =>
 s1 v1D.2 v1E v11 fun v1F =>
 fA 9 39 v0J.1 fun v1G =>
 s1 v1F.2 v1G v14 fun v1H =>
 fA 10 40 v0J.1 fun v1I =>
 s1 v1H.2 v1I v17 fun v1J =>
 fA 11 41 v0J.1 fun v1K =>
 s1 v1J.2 v1K v19 fun v1L =>
 ln vb fun v1O =>
 fA 11 41 v0J.1 fun v1P =>
 l1 v1L.2 v1P fun v1Q =>
 ln v1Q fun v1R =>
 bn .sub v1O v1R fun v1S =>
 bn .sub vT v1S fun v1T =>
 fA 11 41 v0J.1 fun v1V =>
 l1 v1L.2 v1V fun v1W =>
 cl g id_fault_short v1L.2 [v1W, v1T] fun v1Y =>
 condK v1Y (
 lA 42 v1L.2 v0.1 fun v1Z =>
 cl g id_fault_fault v1L.2 [(i 7)] fun v1a =>
 sA 42 v1L.2 v0.1 v1Z fun v1b =>
 lA 42 v1b.2 v0.1 fun v1e =>
 pr.fin none v1b.2 [v1e, (i 0), v1a]) (
 lA 42 v1L.2 v0J.1 fun v1f =>
 sA 42 v1L.2 v0.1 v1f fun v1h =>
 lA 42 v1h.2 v0.1 fun v1k =>
 pr.fin none v1h.2 [v1k, v1T, LV.nili]))) (
 ln vb fun v1n =>
 fA 11 41 v0J.1 fun v1o =>
 l1 v0U.2 v1o fun v1p =>
 ln v1p fun v1q =>
 bn .sub v1n v1q fun v1r =>
 bn .sub vT v1r fun v1s =>
 fA 11 41 v0J.1 fun v1u =>
 l1 v0U.2 v1u fun v1v =>
 cl g id_fault_short v0U.2 [v1v, v1s] fun v1x =>
 condK v1x (
 lA 42 v0U.2 v0.1 fun v1y =>
 cl g id_fault_fault v0U.2 [(i 7)] fun v1z =>
 sA 42 v0U.2 v0.1 v1y fun v20 =>
 lA 42 v20.2 v0.1 fun v23 =>
 pr.fin none v20.2 [v23, (i 0), v1z]) (
 lA 42 v0U.2 v0J.1 fun v24 =>
 sA 42 v0U.2 v0.1 v24 fun v26 =>
 lA 42 v26.2 v0.1 fun v29 =>
 pr.fin none v26.2 [v29, v1s, LV.nili])))))
theorem F_fault_Inside6_eq (g : Call) (a0 : LV) : fnEv g c_fault_Inside6 [a0] none = F_fault_Inside6 g a0 := by kernel_rfl
noncomputable def F_interpreterref04_Same (g : Call) (a0 : LV) (a1 : LV) : Option (LV × Option LV) :=
 bx a0 fun v0 =>
 bx a1 fun v1 =>
 fA 5 35 v0 fun v3 =>
 l1 z v3 fun v4 =>
 (pr.len false v4).bind fun v5 =>
 fA 5 35 v1 fun v6 =>
 l1 z v6 fun v7 =>
 (pr.len false v7).bind fun v8 =>
 bn .neq v5 v8 fun v9 =>
 condK v9 (
 pr.fin none z [(LV.bool false)]) (
 (whileW (fun q12 : List LV × Slots =>
 fA 5 35 v0 fun vE =>
 l1 q12.2 vE fun vF =>
 (pr.len false vF).bind fun vG =>
 bn .lss (getL q12.1 1) vG fun vH =>
 condK vH (
 fA 5 35 v0 fun vI =>
 l1 q12.2 vI fun vJ =>
 (pr.idxAddr none 2 vJ (getL q12.1 1)).bind fun vL =>
 lA 2 q12.2 vL fun vM =>
 fA 5 35 v1 fun vN =>
 l1 q12.2 vN fun vO =>
 (pr.idxAddr none 2 vO (getL q12.1 1)).bind fun vQ =>
 lA 2 q12.2 vQ fun vR =>
 (pr.eqS (Sh.agg [(Sh.int .i64), Sh.str]) true vM vR).bind fun vS =>
 condK vS (
 pr.round z .ret [(LV.bool false), (getL q12.1 1)] q12.2) (
 bn .add (getL q12.1 1) (i 1) fun vV =>
 pr.round z .normal [(getL q12.1 0), vV] q12.2)) (
 pr.round z (.exit 0) [(getL q12.1 0), (getL q12.1 1)] q12.2)) ([(LV.bool false), (i 0)], z)).bind fun r12 =>
 exIf r12.1 (.exit 0) (
 fA 0 0 v0 fun vX =>
 l1 r12.2.2 vX fun vY =>
 fA 0 0 v1 fun vZ =>
 l1 r12.2.2 vZ fun va =>
 bn .eql vY va fun vb =>
 tf vb 1 1 v0 fun vd =>
 tl vb r12.2.2 vd fun ve =>
 tf vb 1 1 v1 fun vf =>
 tl vb r12.2.2 vf fun vg =>
 tb vb .eql ve vg fun vh =>
 pT vb vh fun vi =>
 tf vi 2 2 v0 fun vk =>
 tl vi r12.2.2 vk fun vl =>
 tf vi 2 2 v1 fun vm =>
 tl vi r12.2.2 vm fun vn =>
 tb vi .eql vl vn fun vo =>
 pT vi vo fun vp =>
 tf vp 3 3 v0 fun vr =>
 gT vp (pr.load 16 true r12.2.2 vr) fun vs =>
 tf vp 3 3 v1 fun vt =>
 gT vp (pr.load 16 true r12.2.2 vt) fun vu =>
 gT vp (pr.eqS (Sh.bytes 16) false vs vu) fun vv =>
 pT vp vv fun vw =>
 tf vw 4 19 v0 fun vy =>
 gT vw (pr.load 16 true r12.2.2 vy) fun vz =>
 tf vw 4 19 v1 fun v00 =>
 gT vw (pr.load 16 true r12.2.2 v00) fun v01 =>
 gT vw (pr.eqS (Sh.bytes 16) false vz v01) fun v02 =>
 pT vw v02 fun v03 =>
 tf v03 6 36 v0 fun v05 =>
 tl v03 r12.2.2 v05 fun v06 =>
 tf v03 6 36 v1 fun v07 =>
 tl v03 r12.2.2 v07 fun v08 =>
 gT v03 (pr.eqB false v06 v08) fun v09 =>
 pT v03 v09 fun v0A =>
 tf v0A 7 37 v0 fun v0C =>
 tl v0A r12.2.2 v0C fun v0D =>
 tf v0A 7 37 v1 fun v0E =>
 tl v0A r12.2.2 v0E fun v0F =>
 tb v0A .eql v0D v0F fun v0G =>
 pT v0A v0G fun v0H =>
 tf v0H 8 38 v0 fun v0J =>
 tl v0H r12.2.2 v0J fun v0K =>
 tf v0H 8 38 v1 fun v0L =>
 tl v0H r12.2.2 v0L fun v0M =>
 tb v0H .eql v0K v0M fun v0N =>
 pT v0H v0N fun v0O =>
 tf v0O 9 39 v0 fun v0Q =>
 tl v0O r12.2.2 v0Q fun v0R =>
 tf v0O 9 39 v1 fun v0S =>
 tl v0O r12.2.2 v0S fun v0T =>
 gT v0O (pr.eqB false v0R v0T) fun v0U =>
 pT v0O v0U fun v0V =>
 tf v0V 10 40 v0 fun v0X =>
 tl v0V r12.2.2 v0X fun v0Y =>
 tf v0V 10 40 v1 fun v0Z =>
 tl v0V r12.2.2 v0Z fun v0a =>
 tb v0V .eql v0Y v0a fun v0b =>
 pT v0V v0b fun v0c =>
 tf v0c 11 41 v0 fun v0e =>
 tl v0c r12.2.2 v0e fun v0f =>
 tf v0c 11 41 v1 fun v0g =>
 tl v0c r12.2.2 v0g fun v0h =>
 tb v0c .eql v0f v0h fun v0i =>
 pT v0c v0i fun v0j =>
 pr.fin none r12.2.2 [v0j]) (exIf r12.1 .ret (
 pr.fin none r12.2.2 [(getL r12.2.1 0)]) (none)))
theorem F_interpreterref04_Same_eq (g : Call) (a0 : LV) (a1 : LV) : fnEv g c_interpreterref04_Same [a0, a1] none = F_interpreterref04_Same g a0 a1 := by kernel_rfl
noncomputable def F_fault_Quote4 (g : Call) (a0 : LV) (a1 : LV) (a2 : LV) (a3 : LV) : Option (LV × Option LV) :=
 bx a0 fun v0 =>
 bx a2 fun v1 =>
 bx a3 fun v2 =>
 fA 10 40 v0 fun v5 =>
 l1 z v5 fun v6 =>
 cl g id_head64_Proto z [v6] fun v7 =>
 ex v7 0 fun v9 =>
 ex v7 1 fun vA =>
 fA 0 0 v0 fun vD =>
 l1 z vD fun vE =>
 fA 2 2 v0 fun vF =>
 l1 z vF fun vG =>
 (pr.bsl (i 0) 2 [(0, vE), (1, vG)]).bind fun vH =>
 cl g id_fault_within z [(i 255), vH] fun vI =>
 nt vI fun vJ =>
 ff vJ 1 4 v1 fun vL =>
 fl vJ z vL fun vM =>
 ff vJ 1 4 v2 fun vN =>
 fl vJ z vN fun vO =>
 gF vJ (pr.bsl (i 0) 2 [(0, vM), (1, vO)]) fun vP =>
 gF vJ (pr.call g id_fault_within z [(i 65535), vP]) fun vQ =>
 gF vJ (pr.un .not vQ) fun vR =>
 pF vJ vR fun vS =>
 ff vS 8 38 v0 fun vU =>
 fl vS z vU fun vV =>
 gF vS (pr.bsl (i 0) 1 [(0, vV)]) fun vW =>
 gF vS (pr.call g id_fault_within z [(i 65528), vW]) fun vX =>
 gF vS (pr.un .not vX) fun vY =>
 pF vS vY fun vZ =>
 ff vZ 8 38 v0 fun vb =>
 fl vZ z vb fun vc =>
 fb vZ .rem vc (i 8) fun vd =>
 fb vZ .neq vd (i 0) fun ve =>
 pF vZ ve fun vf =>
 fs vf a1 fun vh =>
 ff vf 11 41 v0 fun vi =>
 fl vf z vi fun vj =>
 gF vf (pr.len true vj) fun vk =>
 fb vf .lss vh vk fun vl =>
 pF vf vl fun vm =>
 condK vm (
 cl g id_fault_fault z [(i 13)] fun vo =>
 pr.fin none z [(LV.str []), vo]) (
 nt vA fun vs =>
 condK vs (
 cl g id_fault_fault z [(i 10)] fun vu =>
 pr.fin none z [(LV.str []), vu]) (
 fA 8 38 v0 fun vy =>
 l1 z vy fun vz =>
 bn .sub (i 65515) vz fun v00 =>
 bn .gtr a1 v00 fun v01 =>
 condK v01 (
 cl g id_fault_fault z [(i 3)] fun v03 =>
 pr.fin none z [(LV.str []), v03]) (
 fA 8 38 v0 fun v06 =>
 l1 z v06 fun v07 =>
 bn .quo v07 (i 8) fun v08 =>
 fA 6 36 v0 fun v0B =>
 l1 z v0B fun v0C =>
 condK v0C (
 fA 7 37 v0 fun v0D =>
 l1 z v0D fun v0E =>
 bn .and v0E (LV.int .u32 65535) fun v0F =>
 (pr.conv .i64 v0F).bind fun v0G =>
 fA 9 39 v0 fun v0I =>
 l1 z v0I fun v0J =>
 condK v0J (
 bn .or v08 (i 8192) fun v0L =>
 fA 0 0 v0 fun v0N =>
 l1 z v0N fun v0O =>
 cl g id_fault_big z [v0O, (i 1)] fun v0P =>
 bn .add (LV.str [69]) v0P fun v0Q =>
 bn .add (i 20) a1 fun v0S =>
 cl g id_fault_big z [v0S, (i 2)] fun v0T =>
 bn .add v0Q v0T fun v0U =>
 cl g id_fault_big z [v0G, (i 2)] fun v0W =>
 bn .add v0U v0W fun v0X =>
 cl g id_fault_big z [v0L, (i 2)] fun v0Z =>
 bn .add v0X v0Z fun v0a =>
 fA 2 2 v0 fun v0b =>
 l1 z v0b fun v0c =>
 cl g id_fault_big z [v0c, (i 1)] fun v0d =>
 bn .add v0a v0d fun v0e =>
 cl g id_fault_big z [v9, (i 1)] fun v0g =>
 bn .add v0e v0g fun v0h =>
 fA 0 0 v1 fun v0j =>
 sV 4 z v0j none none fun v0k =>
 bS z v0k fun v0l =>
 fA 0 0 v2 fun v0m =>
 sV 4 z v0m none none fun v0n =>
 bS z v0n fun v0o =>
 bn .add v0l v0o fun v0p =>
 (pr.bsl (LV.str []) 2 [(0, v0h), (1, v0p)]).bind fun v0u =>
 cl g id_sum_Of z [v0u] fun v0v =>
 cl g id_fault_big z [v0v, (i 2)] fun v0w =>
 bn .add v0h v0w fun v0x =>
 bn .add v0x v0p fun v0z =>
 lA 42 z v0 fun v10 =>
 lA 5 z v1 fun v12 =>
 lA 5 z v2 fun v13 =>
 cl g id_fault_turn4 z [v10, a1, v12, v13] fun v14 =>
 bn .add v0z v14 fun v15 =>
 pr.fin none z [v15, LV.nili]) (
 fA 0 0 v0 fun v18 =>
 l1 z v18 fun v19 =>
 cl g id_fault_big z [v19, (i 1)] fun v1A =>
 bn .add (LV.str [69]) v1A fun v1B =>
 bn .add (i 20) a1 fun v1D =>
 cl g id_fault_big z [v1D, (i 2)] fun v1E =>
 bn .add v1B v1E fun v1F =>
 cl g id_fault_big z [v0G, (i 2)] fun v1H =>
 bn .add v1F v1H fun v1I =>
 cl g id_fault_big z [v08, (i 2)] fun v1K =>
 bn .add v1I v1K fun v1L =>
 fA 2 2 v0 fun v1M =>
 l1 z v1M fun v1N =>
 cl g id_fault_big z [v1N, (i 1)] fun v1O =>
 bn .add v1L v1O fun v1P =>
 cl g id_fault_big z [v9, (i 1)] fun v1R =>
 bn .add v1P v1R fun v1S =>
 fA 0 0 v1 fun v1U =>
 sV 4 z v1U none none fun v1V =>
 bS z v1V fun v1W =>
 fA 0 0 v2 fun v1X =>
 sV 4 z v1X none none fun v1Y =>
 bS z v1Y fun v1Z =>
 bn .add v1W v1Z fun v1a =>
 (pr.bsl (LV.str []) 2 [(0, v1S), (1, v1a)]).bind fun v1f =>
 cl g id_sum_Of z [v1f] fun v1g =>
 cl g id_fault_big z [v1g, (i 2)] fun v1h =>
 bn .add v1S v1h fun v1i =>
 bn .add v1i v1a fun v1k =>
 lA 42 z v0 fun v1l =>
 lA 5 z v1 fun v1n =>
 lA 5 z v2 fun v1o =>
 cl g id_fault_turn4 z [v1l, a1, v1n, v1o] fun v1p =>
 bn .add v1k v1p fun v1q =>
 pr.fin none z [v1q, LV.nili])) (
 bn .gtr a1 (i 1240) fun v1u =>
 condK v1u (
 bn .or v08 (i 16384) fun v1w =>
 fA 9 39 v0 fun v1y =>
 l1 z v1y fun v1z =>
 condK v1z (
 bn .or v1w (i 8192) fun v21 =>
 fA 0 0 v0 fun v23 =>
 l1 z v23 fun v24 =>
 cl g id_fault_big z [v24, (i 1)] fun v25 =>
 bn .add (LV.str [69]) v25 fun v26 =>
 bn .add (i 20) a1 fun v28 =>
 cl g id_fault_big z [v28, (i 2)] fun v29 =>
 bn .add v26 v29 fun v2A =>
 cl g id_fault_big z [(i 0), (i 2)] fun v2C =>
 bn .add v2A v2C fun v2D =>
 cl g id_fault_big z [v21, (i 2)] fun v2F =>
 bn .add v2D v2F fun v2G =>
 fA 2 2 v0 fun v2H =>
 l1 z v2H fun v2I =>
 cl g id_fault_big z [v2I, (i 1)] fun v2J =>
 bn .add v2G v2J fun v2K =>
 cl g id_fault_big z [v9, (i 1)] fun v2M =>
 bn .add v2K v2M fun v2N =>
 fA 0 0 v1 fun v2P =>
 sV 4 z v2P none none fun v2Q =>
 bS z v2Q fun v2R =>
 fA 0 0 v2 fun v2S =>
 sV 4 z v2S none none fun v2T =>
 bS z v2T fun v2U =>
 bn .add v2R v2U fun v2V =>
 (pr.bsl (LV.str []) 2 [(0, v2N), (1, v2V)]).bind fun v2a =>
 cl g id_sum_Of z [v2a] fun v2b =>
 cl g id_fault_big z [v2b, (i 2)] fun v2c =>
 bn .add v2N v2c fun v2d =>
 bn .add v2d v2V fun v2f =>
 lA 42 z v0 fun v2g =>
 lA 5 z v1 fun v2i =>
 lA 5 z v2 fun v2j =>
 cl g id_fault_turn4 z [v2g, a1, v2i, v2j] fun v2k =>
 bn .add v2f v2k fun v2l =>
 pr.fin none z [v2l, LV.nili]) (
 fA 0 0 v0 fun v2o =>
 l1 z v2o fun v2p =>
 cl g id_fault_big z [v2p, (i 1)] fun v2q =>
 bn .add (LV.str [69]) v2q fun v2r =>
 bn .add (i 20) a1 fun v2t =>
 cl g id_fault_big z [v2t, (i 2)] fun v2u =>
 bn .add v2r v2u fun v2v =>
 cl g id_fault_big z [(i 0), (i 2)] fun v2x =>
 bn .add v2v v2x fun v2y =>
 cl g id_fault_big z [v1w, (i 2)] fun v30 =>
 bn .add v2y v30 fun v31 =>
 fA 2 2 v0 fun v32 =>
 l1 z v32 fun v33 =>
 cl g id_fault_big z [v33, (i 1)] fun v34 =>
 bn .add v31 v34 fun v35 =>
 cl g id_fault_big z [v9, (i 1)] fun v37 =>
 bn .add v35 v37 fun v38 =>
 fA 0 0 v1 fun v3A =>
 sV 4 z v3A none none fun v3B =>
 bS z v3B fun v3C =>
 fA 0 0 v2 fun v3D =>
 sV 4 z v3D none none fun v3E =>
 bS z v3E fun v3F =>
 bn .add v3C v3F fun v3G =>
 (pr.bsl (LV.str []) 2 [(0, v38), (1, v3G)]).bind fun v3L =>
 cl g id_sum_Of z [v3L] fun v3M =>
 cl g id_fault_big z [v3M, (i 2)] fun v3N =>
 bn .add v38 v3N fun v3O =>
 bn .add v3O v3G fun v3Q =>
 lA 42 z v0 fun v3R =>
 lA 5 z v1 fun v3T =>
 lA 5 z v2 fun v3U =>
 cl g id_fault_turn4 z [v3R, a1, v3T, v3U] fun v3V =>
 bn .add v3Q v3V fun v3W =>
 pr.fin none z [v3W, LV.nili])) (
 fA 9 39 v0 fun v3Z =>
 l1 z v3Z fun v3a =>
 condK v3a (
 bn .or v08 (i 8192) fun v3c =>
 fA 0 0 v0 fun v3e =>
 l1 z v3e fun v3f =>
 cl g id_fault_big z [v3f, (i 1)] fun v3g =>
 bn .add (LV.str [69]) v3g fun v3h =>
 bn .add (i 20) a1 fun v3j =>
 cl g id_fault_big z [v3j, (i 2)] fun v3k =>
 bn .add v3h v3k fun v3l =>
 cl g id_fault_big z [(i 0), (i 2)] fun v3n =>
 bn .add v3l v3n fun v3o =>
 cl g id_fault_big z [v3c, (i 2)] fun v3q =>
 bn .add v3o v3q fun v3r =>
 fA 2 2 v0 fun v3s =>
 l1 z v3s fun v3t =>
 cl g id_fault_big z [v3t, (i 1)] fun v3u =>
 bn .add v3r v3u fun v3v =>
 cl g id_fault_big z [v9, (i 1)] fun v3x =>
 bn .add v3v v3x fun v3y =>
 fA 0 0 v1 fun v40 =>
 sV 4 z v40 none none fun v41 =>
 bS z v41 fun v42 =>
 fA 0 0 v2 fun v43 =>
 sV 4 z v43 none none fun v44 =>
 bS z v44 fun v45 =>
 bn .add v42 v45 fun v46 =>
 (pr.bsl (LV.str []) 2 [(0, v3y), (1, v46)]).bind fun v4B =>
 cl g id_sum_Of z [v4B] fun v4C =>
 cl g id_fault_big z [v4C, (i 2)] fun v4D =>
 bn .add v3y v4D fun v4E =>
 bn .add v4E v46 fun v4G =>
 lA 42 z v0 fun v4H =>
 lA 5 z v1 fun v4J =>
 lA 5 z v2 fun v4K =>
 cl g id_fault_turn4 z [v4H, a1, v4J, v4K] fun v4L =>
 bn .add v4G v4L fun v4M =>
 pr.fin none z [v4M, LV.nili]) (
 fA 0 0 v0 fun v4P =>
 l1 z v4P fun v4Q =>
 cl g id_fault_big z [v4Q, (i 1)] fun v4R =>
 bn .add (LV.str [69]) v4R fun v4S =>
 bn .add (i 20) a1 fun v4U =>
 cl g id_fault_big z [v4U, (i 2)] fun v4V =>
 bn .add v4S v4V fun v4W =>
 cl g id_fault_big z [(i 0), (i 2)] fun v4Y =>
 bn .add v4W v4Y fun v4Z =>
 cl g id_fault_big z [v08, (i 2)] fun v4b =>
 bn .add v4Z v4b fun v4c =>
 fA 2 2 v0 fun v4d =>
 l1 z v4d fun v4e =>
 cl g id_fault_big z [v4e, (i 1)] fun v4f =>
 bn .add v4c v4f fun v4g =>
 cl g id_fault_big z [v9, (i 1)] fun v4i =>
 bn .add v4g v4i fun v4j =>
 fA 0 0 v1 fun v4l =>
 sV 4 z v4l none none fun v4m =>
 bS z v4m fun v4n =>
 fA 0 0 v2 fun v4o =>
 sV 4 z v4o none none fun v4p =>
 bS z v4p fun v4q =>
 bn .add v4n v4q fun v4r =>
 (pr.bsl (LV.str []) 2 [(0, v4j), (1, v4r)]).bind fun v4w =>
 cl g id_sum_Of z [v4w] fun v4x =>
 cl g id_fault_big z [v4x, (i 2)] fun v4y =>
 bn .add v4j v4y fun v4z =>
 bn .add v4z v4r fun v51 =>
 lA 42 z v0 fun v52 =>
 lA 5 z v1 fun v54 =>
 lA 5 z v2 fun v55 =>
 cl g id_fault_turn4 z [v52, a1, v54, v55] fun v56 =>
 bn .add v51 v56 fun v57 =>
 pr.fin none z [v57, LV.nili]))))))
theorem F_fault_Quote4_eq (g : Call) (a0 : LV) (a1 : LV) (a2 : LV) (a3 : LV) : fnEv g c_fault_Quote4 [a0, a1, a2, a3] none = F_fault_Quote4 g a0 a1 a2 a3 := by kernel_rfl
noncomputable def F_ip4_Parse (g : Call) (a0 : LV) : Option (LV × Option LV) :=
 bx a0 fun v0 =>
 (pr.alloc (LV.agg [(i 0), (i 0), (i 0), (i 0), (i 0), (LV.bool false), (LV.bool false), (LV.bytes [0, 0, 0, 0]), (LV.bytes [0, 0, 0, 0]), (LV.str []), (LV.str [])]) 2 z).bind fun v1 =>
 (pr.alloc (LV.agg [(i 0), (i 0), (i 0), (i 0), (i 0), (LV.bool false), (LV.bool false), (LV.bytes [0, 0, 0, 0]), (LV.bytes [0, 0, 0, 0]), (LV.str []), (LV.str [])]) 4 v1.2).bind fun v3 =>
 l1 v3.2 v0 fun v4 =>
 ln v4 fun v5 =>
 bn .lss v5 (i 20) fun v6 =>
 condK v6 (
 lA 17 v3.2 v3.1 fun v7 =>
 cl g id_ip4_fault v3.2 [(i 7)] fun v8 =>
 sA 17 v3.2 v1.1 v7 fun v9 =>
 lA 17 v9.2 v1.1 fun vB =>
 pr.fin none v9.2 [vB, v8]) (
 l1 v3.2 v0 fun vC =>
 xS vC (i 0) fun vD =>
 bn .and vD (LV.int .u8 15) fun vE =>
 (pr.conv .i64 vE).bind fun vF =>
 bn .mul vF (i 4) fun vG =>
 l1 v3.2 v0 fun vI =>
 xS vI (i 0) fun vJ =>
 bn .shr vJ (LV.int .u64 4) fun vK =>
 bn .neq vK (LV.int .u8 4) fun vL =>
 fs vL vG fun vN =>
 fb vL .lss vN (i 20) fun vO =>
 pF vL vO fun vP =>
 condK vP (
 lA 17 v3.2 v3.1 fun vR =>
 cl g id_ip4_fault v3.2 [(i 8)] fun vS =>
 sA 17 v3.2 v1.1 vR fun vT =>
 lA 17 vT.2 v1.1 fun vV =>
 pr.fin none vT.2 [vV, vS]) (
 l1 v3.2 v0 fun vW =>
 ln vW fun vX =>
 bn .lss vX vG fun vZ =>
 condK vZ (
 lA 17 v3.2 v3.1 fun vb =>
 cl g id_ip4_fault v3.2 [(i 7)] fun vc =>
 sA 17 v3.2 v1.1 vb fun vd =>
 lA 17 vd.2 v1.1 fun vf =>
 pr.fin none vd.2 [vf, vc]) (
 l1 v3.2 v0 fun vg =>
 sl vg none (some vG) fun vi =>
 (pr.bsl (LV.str []) 1 [(0, vi)]).bind fun vj =>
 cl g id_sum_Right v3.2 [vj] fun vk =>
 nt vk fun vl =>
 condK vl (
 lA 17 v3.2 v3.1 fun vn =>
 cl g id_ip4_fault v3.2 [(i 9)] fun vo =>
 sA 17 v3.2 v1.1 vn fun vp =>
 lA 17 vp.2 v1.1 fun vr =>
 pr.fin none vp.2 [vr, vo]) (
 (pr.mkFunc id_ip4_Parse_1 [v0]).bind fun vs =>
 (pr.callv g v3.2 vs [(i 2)]).bind fun vv =>
 (pr.callv g v3.2 vs [(i 6)]).bind fun vx =>
 bn .lss vv vG fun v02 =>
 condK v02 (
 lA 17 v3.2 v3.1 fun v04 =>
 cl g id_ip4_fault v3.2 [(i 8)] fun v05 =>
 sA 17 v3.2 v1.1 v04 fun v06 =>
 lA 17 v06.2 v1.1 fun v08 =>
 pr.fin none v06.2 [v08, v05]) (
 l1 v3.2 v0 fun v09 =>
 ln v09 fun v0A =>
 bn .lss v0A vv fun v0C =>
 condK v0C (
 lA 17 v3.2 v3.1 fun v0E =>
 cl g id_ip4_fault v3.2 [(i 7)] fun v0F =>
 sA 17 v3.2 v1.1 v0E fun v0G =>
 lA 17 v0G.2 v1.1 fun v0I =>
 pr.fin none v0G.2 [v0I, v0F]) (
 l1 v3.2 v0 fun v0J =>
 xS v0J (i 1) fun v0K =>
 (pr.conv .i64 v0K).bind fun v0L =>
 (pr.callv g v3.2 vs [(i 4)]).bind fun v0N =>
 l1 v3.2 v0 fun v0O =>
 xS v0O (i 8) fun v0P =>
 (pr.conv .i64 v0P).bind fun v0Q =>
 l1 v3.2 v0 fun v0R =>
 xS v0R (i 9) fun v0S =>
 (pr.conv .i64 v0S).bind fun v0T =>
 bn .and vx (i 8191) fun v0V =>
 bn .mul v0V (i 8) fun v0W =>
 bn .and vx (i 16384) fun v0Y =>
 bn .neq v0Y (i 0) fun v0Z =>
 bn .and vx (i 8192) fun v0b =>
 bn .neq v0b (i 0) fun v0c =>
 l1 v3.2 v0 fun v0d =>
 sl v0d (some (i 20)) (some vG) fun v0f =>
 l1 v3.2 v0 fun v0g =>
 sl v0g (some vG) (some vv) fun v0j =>
 (pr.parts (LV.agg [(i 0), (i 0), (i 0), (i 0), (i 0), (LV.bool false), (LV.bool false), (LV.bytes [0, 0, 0, 0]), (LV.bytes [0, 0, 0, 0]), (LV.str []), (LV.str [])]) [(0, v0L), (1, v0N), (2, v0Q), (3, v0T), (4, v0W), (5, v0Z), (6, v0c), (9, v0f), (10, v0j)]).bind fun v0k =>
 (pr.alloc (LV.agg [(i 0), (i 0), (i 0), (i 0), (i 0), (LV.bool false), (LV.bool false), (LV.bytes [0, 0, 0, 0]), (LV.bytes [0, 0, 0, 0]), (LV.str []), (LV.str [])]) 9 v3.2).bind fun v0l =>
 sA 17 v0l.2 v0l.1 v0k fun v0m =>
 fA 7 7 v0l.1 fun v0n =>
 sV 4 v0m.2 v0n none none fun v0o =>
 l1 v0m.2 v0 fun v0p =>
 sl v0p (some (i 12)) none fun v0q =>
 (pr.copy v0m.2 v0o v0q).bind fun v0r =>
 fA 8 11 v0l.1 fun v0s =>
 sV 4 v0r.2 v0s none none fun v0t =>
 l1 v0r.2 v0 fun v0u =>
 sl v0u (some (i 16)) none fun v0v =>
 (pr.copy v0r.2 v0t v0v).bind fun v0w =>
 bn .and vx (i 32768) fun v0y =>
 bn .neq v0y (i 0) fun v0z =>
 gF v0z (pr.load 17 true v0w.2 v0l.1) fun v11 =>
 gF v0z (pr.call g id_ip4_why v0w.2 [v11]) fun v12 =>
 fb v0z .neq v12 (i 0) fun v13 =>
 pF v0z v13 fun v14 =>
 condK v14 (
 lA 17 v0w.2 v3.1 fun v15 =>
 cl g id_ip4_fault v0w.2 [(i 8)] fun v16 =>
 sA 17 v0w.2 v1.1 v15 fun v17 =>
 lA 17 v17.2 v1.1 fun v19 =>
 pr.fin none v17.2 [v19, v16]) (
 lA 17 v0w.2 v0l.1 fun v1A =>
 sA 17 v0w.2 v1.1 v1A fun v1B =>
 lA 17 v1B.2 v1.1 fun v1D =>
 pr.fin none v1B.2 [v1D, LV.nili])))))))
theorem F_ip4_Parse_eq (g : Call) (a0 : LV) : fnEv g c_ip4_Parse [a0] none = F_ip4_Parse g a0 := by kernel_rfl
noncomputable def F_interpreterlaw15_bare (g : Call) (a0 : LV) : Option (LV × Option LV) :=
 (whileW (fun q2 : List LV × Slots =>
 ln a0 fun v5 =>
 bn .lss (getL q2.1 1) v5 fun v6 =>
 condK v6 (
 xS a0 (getL q2.1 1) fun v9 =>
 bn .neq v9 (LV.int .u8 0) fun vA =>
 condK vA (
 pr.round z .ret [(LV.bool false), (getL q2.1 1)] q2.2) (
 bn .add (getL q2.1 1) (i 1) fun vD =>
 pr.round z .normal [(getL q2.1 0), vD] q2.2)) (
 pr.round z (.exit 0) [(getL q2.1 0), (getL q2.1 1)] q2.2)) ([(LV.bool false), (i 0)], z)).bind fun r2 =>
 exIf r2.1 (.exit 0) (
 pr.fin none r2.2.2 [(LV.bool true)]) (exIf r2.1 .ret (
 pr.fin none r2.2.2 [(getL r2.2.1 0)]) (none))
theorem F_interpreterlaw15_bare_eq (g : Call) (a0 : LV) : fnEv g c_interpreterlaw15_bare [a0] none = F_interpreterlaw15_bare g a0 := by kernel_rfl
noncomputable def F_interpreterref03_Bytes (g : Call) (a0 : LV) : Option (LV × Option LV) :=
 bx a0 fun v0 =>
 lA 17 z v0 fun v3 =>
 cl g id_interpreterref03_Why z [v3] fun v4 =>
 bn .neq v4 (i 0) fun v7 =>
 condK v7 (
 pr.fin none z [(LV.str []), v4]) (
 fA 9 15 v0 fun vB =>
 l1 z vB fun vC =>
 ln vC fun vD =>
 bn .add (i 20) vD fun vE =>
 fA 4 4 v0 fun vG =>
 l1 z vG fun vH =>
 bn .quo vH (i 8) fun vI =>
 fA 6 6 v0 fun vK =>
 l1 z vK fun vL =>
 condK vL (
 bn .add vI (i 8192) fun vN =>
 fA 5 5 v0 fun vP =>
 l1 z vP fun vQ =>
 condK vQ (
 bn .add vN (i 16384) fun vS =>
 fA 10 16 v0 fun vV =>
 l1 z vV fun vW =>
 ln vW fun vX =>
 bn .add vE vX fun vY =>
 bn .quo vE (i 4) fun vb =>
 bn .add (i 64) vb fun vc =>
 (pr.conv .u8 vc).bind fun vd =>
 fA 0 0 v0 fun ve =>
 l1 z ve fun vf =>
 (pr.conv .u8 vf).bind fun vg =>
 bn .quo vY (i 256) fun vi =>
 (pr.conv .u8 vi).bind fun vj =>
 bn .rem vY (i 256) fun vl =>
 (pr.conv .u8 vl).bind fun vm =>
 fA 1 1 v0 fun vn =>
 l1 z vn fun vo =>
 bn .quo vo (i 256) fun vp =>
 (pr.conv .u8 vp).bind fun vq =>
 fA 1 1 v0 fun vr =>
 l1 z vr fun vs =>
 bn .rem vs (i 256) fun vt =>
 (pr.conv .u8 vt).bind fun vu =>
 bn .quo vS (i 256) fun vw =>
 (pr.conv .u8 vw).bind fun vx =>
 bn .rem vS (i 256) fun vz =>
 (pr.conv .u8 vz).bind fun v00 =>
 fA 2 2 v0 fun v01 =>
 l1 z v01 fun v02 =>
 (pr.conv .u8 v02).bind fun v03 =>
 fA 3 3 v0 fun v04 =>
 l1 z v04 fun v05 =>
 (pr.conv .u8 v05).bind fun v06 =>
 (pr.bslM 12 [(0, vd), (1, vg), (2, vj), (3, vm), (4, vq), (5, vu), (6, vx), (7, v00), (8, v03), (9, v06), (10, (LV.int .u8 0)), (11, (LV.int .u8 0))] 70 z).bind fun v07 =>
 (whileW (fun q72 : List LV × Slots =>
 bn .lss (getL q72.1 1) (i 4) fun v0C =>
 condK v0C (
 fA 7 7 v0 fun v0F =>
 (pr.idxAddr (some 4) 1 v0F (getL q72.1 1)).bind fun v0G =>
 l1 q72.2 v0G fun v0H =>
 (pr.bsl (LV.int .u8 0) 1 [(0, v0H)]).bind fun v0I =>
 (pr.append 1 1 81 q72.2 (getL q72.1 0) v0I).bind fun v0J =>
 bn .add (getL q72.1 1) (i 1) fun v0M =>
 pr.round v07.2 .normal [v0J.1, v0M] v0J.2) (
 pr.round v07.2 (.exit 0) [(getL q72.1 0), (getL q72.1 1)] q72.2)) ([v07.1, (i 0)], v07.2)).bind fun r72 =>
 exIf r72.1 (.exit 0) (
 (whileW (fun q87 : List LV × Slots =>
 bn .lss (getL q87.1 1) (i 4) fun v0R =>
 condK v0R (
 fA 8 11 v0 fun v0U =>
 (pr.idxAddr (some 4) 1 v0U (getL q87.1 1)).bind fun v0V =>
 l1 q87.2 v0V fun v0W =>
 (pr.bsl (LV.int .u8 0) 1 [(0, v0W)]).bind fun v0X =>
 (pr.append 1 1 92 q87.2 (getL q87.1 0) v0X).bind fun v0Y =>
 bn .add (getL q87.1 1) (i 1) fun v0b =>
 pr.round r72.2.2 .normal [v0Y.1, v0b] v0Y.2) (
 pr.round r72.2.2 (.exit 2) [(getL q87.1 0), (getL q87.1 1)] q87.2)) ([(getL r72.2.1 0), (i 0)], r72.2.2)).bind fun r87 =>
 exIf r87.1 (.exit 2) (
 fA 9 15 v0 fun v0e =>
 l1 r87.2.2 v0e fun v0f =>
 (pr.append 1 1 96 r87.2.2 (getL r87.2.1 0) v0f).bind fun v0g =>
 bS v0g.2 v0g.1 fun v0j =>
 cl g id_interpreterref02_Of v0g.2 [v0j] fun v0k =>
 bn .quo v0k (i 256) fun v0o =>
 (pr.conv .u8 v0o).bind fun v0p =>
 (pr.idxAddr none 1 v0g.1 (i 10)).bind fun v0q =>
 s1 v0g.2 v0q v0p fun v0r =>
 bn .rem v0k (i 256) fun v0u =>
 (pr.conv .u8 v0u).bind fun v0v =>
 (pr.idxAddr none 1 v0g.1 (i 11)).bind fun v0w =>
 s1 v0r.2 v0w v0v fun v0x =>
 bS v0x.2 v0g.1 fun v0z =>
 fA 10 16 v0 fun v10 =>
 l1 v0x.2 v10 fun v11 =>
 bn .add v0z v11 fun v12 =>
 pr.fin none v0x.2 [v12, (i 0)]) (none)) (none)) (
 fA 10 16 v0 fun v16 =>
 l1 z v16 fun v17 =>
 ln v17 fun v18 =>
 bn .add vE v18 fun v19 =>
 bn .quo vE (i 4) fun v1C =>
 bn .add (i 64) v1C fun v1D =>
 (pr.conv .u8 v1D).bind fun v1E =>
 fA 0 0 v0 fun v1F =>
 l1 z v1F fun v1G =>
 (pr.conv .u8 v1G).bind fun v1H =>
 bn .quo v19 (i 256) fun v1J =>
 (pr.conv .u8 v1J).bind fun v1K =>
 bn .rem v19 (i 256) fun v1M =>
 (pr.conv .u8 v1M).bind fun v1N =>
 fA 1 1 v0 fun v1O =>
 l1 z v1O fun v1P =>
 bn .quo v1P (i 256) fun v1Q =>
 (pr.conv .u8 v1Q).bind fun v1R =>
 fA 1 1 v0 fun v1S =>
 l1 z v1S fun v1T =>
 bn .rem v1T (i 256) fun v1U =>
 (pr.conv .u8 v1U).bind fun v1V =>
 bn .quo vN (i 256) fun v1X =>
 (pr.conv .u8 v1X).bind fun v1Y =>
 bn .rem vN (i 256) fun v1a =>
 (pr.conv .u8 v1a).bind fun v1b =>
 fA 2 2 v0 fun v1c =>
 l1 z v1c fun v1d =>
 (pr.conv .u8 v1d).bind fun v1e =>
 fA 3 3 v0 fun v1f =>
 l1 z v1f fun v1g =>
 (pr.conv .u8 v1g).bind fun v1h =>
 (pr.bslM 12 [(0, v1E), (1, v1H), (2, v1K), (3, v1N), (4, v1R), (5, v1V), (6, v1Y), (7, v1b), (8, v1e), (9, v1h), (10, (LV.int .u8 0)), (11, (LV.int .u8 0))] 70 z).bind fun v1i =>
 (whileW (fun q171 : List LV × Slots =>
 bn .lss (getL q171.1 1) (i 4) fun v1n =>
 condK v1n (
 fA 7 7 v0 fun v1q =>
 (pr.idxAddr (some 4) 1 v1q (getL q171.1 1)).bind fun v1r =>
 l1 q171.2 v1r fun v1s =>
 (pr.bsl (LV.int .u8 0) 1 [(0, v1s)]).bind fun v1t =>
 (pr.append 1 1 81 q171.2 (getL q171.1 0) v1t).bind fun v1u =>
 bn .add (getL q171.1 1) (i 1) fun v1x =>
 pr.round v1i.2 .normal [v1u.1, v1x] v1u.2) (
 pr.round v1i.2 (.exit 0) [(getL q171.1 0), (getL q171.1 1)] q171.2)) ([v1i.1, (i 0)], v1i.2)).bind fun r171 =>
 exIf r171.1 (.exit 0) (
 (whileW (fun q186 : List LV × Slots =>
 bn .lss (getL q186.1 1) (i 4) fun v22 =>
 condK v22 (
 fA 8 11 v0 fun v25 =>
 (pr.idxAddr (some 4) 1 v25 (getL q186.1 1)).bind fun v26 =>
 l1 q186.2 v26 fun v27 =>
 (pr.bsl (LV.int .u8 0) 1 [(0, v27)]).bind fun v28 =>
 (pr.append 1 1 92 q186.2 (getL q186.1 0) v28).bind fun v29 =>
 bn .add (getL q186.1 1) (i 1) fun v2C =>
 pr.round r171.2.2 .normal [v29.1, v2C] v29.2) (
 pr.round r171.2.2 (.exit 2) [(getL q186.1 0), (getL q186.1 1)] q186.2)) ([(getL r171.2.1 0), (i 0)], r171.2.2)).bind fun r186 =>
 exIf r186.1 (.exit 2) (
 fA 9 15 v0 fun v2F =>
 l1 r186.2.2 v2F fun v2G =>
 (pr.append 1 1 96 r186.2.2 (getL r186.2.1 0) v2G).bind fun v2H =>
 bS v2H.2 v2H.1 fun v2K =>
 cl g id_interpreterref02_Of v2H.2 [v2K] fun v2L =>
 bn .quo v2L (i 256) fun v2P =>
 (pr.conv .u8 v2P).bind fun v2Q =>
 (pr.idxAddr none 1 v2H.1 (i 10)).bind fun v2R =>
 s1 v2H.2 v2R v2Q fun v2S =>
 bn .rem v2L (i 256) fun v2V =>
 (pr.conv .u8 v2V).bind fun v2W =>
 (pr.idxAddr none 1 v2H.1 (i 11)).bind fun v2X =>
 s1 v2S.2 v2X v2W fun v2Y =>
 bS v2Y.2 v2H.1 fun v2a =>
 fA 10 16 v0 fun v2b =>
 l1 v2Y.2 v2b fun v2c =>
 bn .add v2a v2c fun v2d =>
 pr.fin none v2Y.2 [v2d, (i 0)]) (none)) (none))) (
 fA 5 5 v0 fun v2g =>
 l1 z v2g fun v2h =>
 condK v2h (
 bn .add vI (i 16384) fun v2j =>
 fA 10 16 v0 fun v2m =>
 l1 z v2m fun v2n =>
 ln v2n fun v2o =>
 bn .add vE v2o fun v2p =>
 bn .quo vE (i 4) fun v2s =>
 bn .add (i 64) v2s fun v2t =>
 (pr.conv .u8 v2t).bind fun v2u =>
 fA 0 0 v0 fun v2v =>
 l1 z v2v fun v2w =>
 (pr.conv .u8 v2w).bind fun v2x =>
 bn .quo v2p (i 256) fun v2z =>
 (pr.conv .u8 v2z).bind fun v30 =>
 bn .rem v2p (i 256) fun v32 =>
 (pr.conv .u8 v32).bind fun v33 =>
 fA 1 1 v0 fun v34 =>
 l1 z v34 fun v35 =>
 bn .quo v35 (i 256) fun v36 =>
 (pr.conv .u8 v36).bind fun v37 =>
 fA 1 1 v0 fun v38 =>
 l1 z v38 fun v39 =>
 bn .rem v39 (i 256) fun v3A =>
 (pr.conv .u8 v3A).bind fun v3B =>
 bn .quo v2j (i 256) fun v3D =>
 (pr.conv .u8 v3D).bind fun v3E =>
 bn .rem v2j (i 256) fun v3G =>
 (pr.conv .u8 v3G).bind fun v3H =>
 fA 2 2 v0 fun v3I =>
 l1 z v3I fun v3J =>
 (pr.conv .u8 v3J).bind fun v3K =>
 fA 3 3 v0 fun v3L =>
 l1 z v3L fun v3M =>
 (pr.conv .u8 v3M).bind fun v3N =>
 (pr.bslM 12 [(0, v2u), (1, v2x), (2, v30), (3, v33), (4, v37), (5, v3B), (6, v3E), (7, v3H), (8, v3K), (9, v3N), (10, (LV.int .u8 0)), (11, (LV.int .u8 0))] 70 z).bind fun v3O =>
 (whileW (fun q275 : List LV × Slots =>
 bn .lss (getL q275.1 1) (i 4) fun v3T =>
 condK v3T (
 fA 7 7 v0 fun v3W =>
 (pr.idxAddr (some 4) 1 v3W (getL q275.1 1)).bind fun v3X =>
 l1 q275.2 v3X fun v3Y =>
 (pr.bsl (LV.int .u8 0) 1 [(0, v3Y)]).bind fun v3Z =>
 (pr.append 1 1 81 q275.2 (getL q275.1 0) v3Z).bind fun v3a =>
 bn .add (getL q275.1 1) (i 1) fun v3d =>
 pr.round v3O.2 .normal [v3a.1, v3d] v3a.2) (
 pr.round v3O.2 (.exit 0) [(getL q275.1 0), (getL q275.1 1)] q275.2)) ([v3O.1, (i 0)], v3O.2)).bind fun r275 =>
 exIf r275.1 (.exit 0) (
 (whileW (fun q290 : List LV × Slots =>
 bn .lss (getL q290.1 1) (i 4) fun v3i =>
 condK v3i (
 fA 8 11 v0 fun v3l =>
 (pr.idxAddr (some 4) 1 v3l (getL q290.1 1)).bind fun v3m =>
 l1 q290.2 v3m fun v3n =>
 (pr.bsl (LV.int .u8 0) 1 [(0, v3n)]).bind fun v3o =>
 (pr.append 1 1 92 q290.2 (getL q290.1 0) v3o).bind fun v3p =>
 bn .add (getL q290.1 1) (i 1) fun v3s =>
 pr.round r275.2.2 .normal [v3p.1, v3s] v3p.2) (
 pr.round r275.2.2 (.exit 2) [(getL q290.1 0), (getL q290.1 1)] q290.2)) ([(getL r275.2.1 0), (i 0)], r275.2.2)).bind fun r290 =>
 exIf r290.1 (.exit 2) (
 fA 9 15 v0 fun v3v =>
 l1 r290.2.2 v3v fun v3w =>
 (pr.append 1 1 96 r290.2.2 (getL r290.2.1 0) v3w).bind fun v3x =>
 bS v3x.2 v3x.1 fun v40 =>
 cl g id_interpreterref02_Of v3x.2 [v40] fun v41 =>
 bn .quo v41 (i 256) fun v45 =>
 (pr.conv .u8 v45).bind fun v46 =>
 (pr.idxAddr none 1 v3x.1 (i 10)).bind fun v47 =>
 s1 v3x.2 v47 v46 fun v48 =>
 bn .rem v41 (i 256) fun v4B =>
 (pr.conv .u8 v4B).bind fun v4C =>
 (pr.idxAddr none 1 v3x.1 (i 11)).bind fun v4D =>
 s1 v48.2 v4D v4C fun v4E =>
 bS v4E.2 v3x.1 fun v4G =>
 fA 10 16 v0 fun v4H =>
 l1 v4E.2 v4H fun v4I =>
 bn .add v4G v4I fun v4J =>
 pr.fin none v4E.2 [v4J, (i 0)]) (none)) (none)) (
 fA 10 16 v0 fun v4N =>
 l1 z v4N fun v4O =>
 ln v4O fun v4P =>
 bn .add vE v4P fun v4Q =>
 bn .quo vE (i 4) fun v4T =>
 bn .add (i 64) v4T fun v4U =>
 (pr.conv .u8 v4U).bind fun v4V =>
 fA 0 0 v0 fun v4W =>
 l1 z v4W fun v4X =>
 (pr.conv .u8 v4X).bind fun v4Y =>
 bn .quo v4Q (i 256) fun v4a =>
 (pr.conv .u8 v4a).bind fun v4b =>
 bn .rem v4Q (i 256) fun v4d =>
 (pr.conv .u8 v4d).bind fun v4e =>
 fA 1 1 v0 fun v4f =>
 l1 z v4f fun v4g =>
 bn .quo v4g (i 256) fun v4h =>
 (pr.conv .u8 v4h).bind fun v4i =>
 fA 1 1 v0 fun v4j =>
 l1 z v4j fun v4k =>
 bn .rem v4k (i 256) fun v4l =>
 (pr.conv .u8 v4l).bind fun v4m =>
 bn .quo vI (i 256) fun v4o =>
 (pr.conv .u8 v4o).bind fun v4p =>
 bn .rem vI (i 256) fun v4r =>
 (pr.conv .u8 v4r).bind fun v4s =>
 fA 2 2 v0 fun v4t =>
 l1 z v4t fun v4u =>
 (pr.conv .u8 v4u).bind fun v4v =>
 fA 3 3 v0 fun v4w =>
 l1 z v4w fun v4x =>
 (pr.conv .u8 v4x).bind fun v4y =>
 (pr.bslM 12 [(0, v4V), (1, v4Y), (2, v4b), (3, v4e), (4, v4i), (5, v4m), (6, v4p), (7, v4s), (8, v4v), (9, v4y), (10, (LV.int .u8 0)), (11, (LV.int .u8 0))] 70 z).bind fun v4z =>
 (whileW (fun q374 : List LV × Slots =>
 bn .lss (getL q374.1 1) (i 4) fun v54 =>
 condK v54 (
 fA 7 7 v0 fun v57 =>
 (pr.idxAddr (some 4) 1 v57 (getL q374.1 1)).bind fun v58 =>
 l1 q374.2 v58 fun v59 =>
 (pr.bsl (LV.int .u8 0) 1 [(0, v59)]).bind fun v5A =>
 (pr.append 1 1 81 q374.2 (getL q374.1 0) v5A).bind fun v5B =>
 bn .add (getL q374.1 1) (i 1) fun v5E =>
 pr.round v4z.2 .normal [v5B.1, v5E] v5B.2) (
 pr.round v4z.2 (.exit 0) [(getL q374.1 0), (getL q374.1 1)] q374.2)) ([v4z.1, (i 0)], v4z.2)).bind fun r374 =>
 exIf r374.1 (.exit 0) (
 (whileW (fun q389 : List LV × Slots =>
 bn .lss (getL q389.1 1) (i 4) fun v5J =>
 condK v5J (
 fA 8 11 v0 fun v5M =>
 (pr.idxAddr (some 4) 1 v5M (getL q389.1 1)).bind fun v5N =>
 l1 q389.2 v5N fun v5O =>
 (pr.bsl (LV.int .u8 0) 1 [(0, v5O)]).bind fun v5P =>
 (pr.append 1 1 92 q389.2 (getL q389.1 0) v5P).bind fun v5Q =>
 bn .add (getL q389.1 1) (i 1) fun v5T =>
 pr.round r374.2.2 .normal [v5Q.1, v5T] v5Q.2) (
 pr.round r374.2.2 (.exit 2) [(getL q389.1 0), (getL q389.1 1)] q389.2)) ([(getL r374.2.1 0), (i 0)], r374.2.2)).bind fun r389 =>
 exIf r389.1 (.exit 2) (
 fA 9 15 v0 fun v5W =>
 l1 r389.2.2 v5W fun v5X =>
 (pr.append 1 1 96 r389.2.2 (getL r389.2.1 0) v5X).bind fun v5Y =>
 bS v5Y.2 v5Y.1 fun v5b =>
 cl g id_interpreterref02_Of v5Y.2 [v5b] fun v5c =>
 bn .quo v5c (i 256) fun v5g =>
 (pr.conv .u8 v5g).bind fun v5h =>
 (pr.idxAddr none 1 v5Y.1 (i 10)).bind fun v5i =>
 s1 v5Y.2 v5i v5h fun v5j =>
 bn .rem v5c (i 256) fun v5m =>
 (pr.conv .u8 v5m).bind fun v5n =>
 (pr.idxAddr none 1 v5Y.1 (i 11)).bind fun v5o =>
 s1 v5j.2 v5o v5n fun v5p =>
 bS v5p.2 v5Y.1 fun v5r =>
 fA 10 16 v0 fun v5s =>
 l1 v5p.2 v5s fun v5t =>
 bn .add v5r v5t fun v5u =>
 pr.fin none v5p.2 [v5u, (i 0)]) (none)) (none))))
theorem F_interpreterref03_Bytes_eq (g : Call) (a0 : LV) : fnEv g c_interpreterref03_Bytes [a0] none = F_interpreterref03_Bytes g a0 := by kernel_rfl
noncomputable def F_interpreterlaw15_gram (g : Call) (a0 : LV) : Option (LV × Option LV) :=
 (pr.alloc (LV.agg [(i 0), (i 0), (i 0), (i 0), (i 0), (LV.bool false), (LV.bool false), (LV.bytes [0, 0, 0, 0]), (LV.bytes [0, 0, 0, 0]), (LV.str []), (LV.str [])]) 2 z).bind fun v0 =>
 (pr.parts (LV.bytes [0, 0, 0, 0]) [(0, (LV.int .u8 192)), (1, (LV.int .u8 0)), (2, (LV.int .u8 2)), (3, (LV.int .u8 1))]).bind fun v1 =>
 (pr.parts (LV.bytes [0, 0, 0, 0]) [(0, (LV.int .u8 192)), (1, (LV.int .u8 0)), (2, (LV.int .u8 2)), (3, (LV.int .u8 2))]).bind fun v2 =>
 cl g id_strings_Repeat v0.2 [(LV.str [120]), a0] fun v4 =>
 (pr.parts (LV.agg [(i 0), (i 0), (i 0), (i 0), (i 0), (LV.bool false), (LV.bool false), (LV.bytes [0, 0, 0, 0]), (LV.bytes [0, 0, 0, 0]), (LV.str []), (LV.str [])]) [(2, (i 9)), (3, (i 17)), (7, v1), (8, v2), (10, v4)]).bind fun v5 =>
 sA 17 v0.2 v0.1 v5 fun v6 =>
 lA 17 v6.2 v0.1 fun v7 =>
 pr.fin none v6.2 [v7]
theorem F_interpreterlaw15_gram_eq (g : Call) (a0 : LV) : fnEv g c_interpreterlaw15_gram [a0] none = F_interpreterlaw15_gram g a0 := by kernel_rfl
noncomputable def F_fault_Own4 (g : Call) (a0 : LV) (a1 : LV) (a2 : LV) (a3 : LV) (a4 : LV) : Option (LV × Option LV) :=
 (pr.boxM a0 5 z).bind fun v0 =>
 bx a2 fun v1 =>
 cl g id_ip4_Parse v0.2 [a1] fun v5 =>
 ex v5 0 fun v7 =>
 ex v5 1 fun v8 =>
 (pr.alloc (LV.agg [(i 0), (i 0), (i 0), (i 0), (i 0), (LV.bool false), (LV.bool false), (LV.bytes [0, 0, 0, 0]), (LV.bytes [0, 0, 0, 0]), (LV.str []), (LV.str [])]) 12 v0.2).bind fun v9 =>
 sA 17 v9.2 v9.1 v7 fun vA =>
 eN 1 true v8 fun vD =>
 gF vD (pr.load 4 true vA.2 v0.1) fun vF =>
 gF vD (pr.call g id_icmp4_Failure vA.2 [vF]) fun vG =>
 gF vD (pr.un .not vG) fun vH =>
 pF vD vH fun vI =>
 ff vI 4 4 v9.1 fun vK =>
 fl vI vA.2 vK fun vL =>
 fb vI .gtr vL (i 0) fun vM =>
 pF vI vM fun vN =>
 ff vN 7 7 v9.1 fun vP =>
 gF vN (pr.load 4 true vA.2 vP) fun vQ =>
 gF vN (pr.call g id_class_Martian4 vA.2 [vQ]) fun vR =>
 pF vN vR fun vS =>
 fs vS a4 fun vU =>
 fb vS .lss vU (i 68) fun vV =>
 pF vS vV fun vW =>
 fs vW a4 fun vY =>
 fb vW .gtr vY (i 65535) fun vZ =>
 pF vW vZ fun va =>
 condK va (
 pr.fin none vA.2 [(LV.str []), (LV.bool false)]) (
 fA 3 3 v9.1 fun ve =>
 l1 vA.2 ve fun vf =>
 bn .eql vf (i 1) fun vg =>
 tf vg 10 16 v9.1 fun vi =>
 tl vg vA.2 vi fun vj =>
 tb vg .eql vj (LV.str []) fun vk =>
 ts vg vk fun vl =>
 ff vl 10 16 v9.1 fun vm =>
 fl vl vA.2 vm fun vn =>
 gF vl (pr.idxStr vn (i 0)) fun vo =>
 gF vl (pr.conv .i64 vo) fun vp =>
 gF vl (pr.parts (LV.agg [(i 0), (i 0), (LV.int .u32 0), (LV.str [])]) [(0, vp)]) fun vq =>
 gF vl (pr.call g id_icmp4_Failure vA.2 [vq]) fun vr =>
 gT vg (pr.pick vl (LV.bool true) vr) fun vs =>
 pT vg vs fun vt =>
 condK vt (
 pr.fin none vA.2 [(LV.str []), (LV.bool false)]) (
 fA 9 15 v9.1 fun vx =>
 l1 vA.2 vx fun vy =>
 ln vy fun vz =>
 bn .add (i 20) vz fun v00 =>
 fA 10 16 v9.1 fun v04 =>
 l1 vA.2 v04 fun v05 =>
 ln v05 fun v06 =>
 bn .add v00 v06 fun v07 =>
 sl a1 none (some v07) fun v08 =>
 (pr.minmax false (i 576) [a4]).bind fun v0B =>
 bn .sub v0B (i 20) fun v0C =>
 bn .sub v0C (i 8) fun v0D =>
 cl g id_fault_beginning vA.2 [v08, v00, v0D] fun v0E =>
 ex v0E 0 fun v0G =>
 ex v0E 1 fun v0H =>
 fA 3 3 v0.1 fun v0L =>
 s1 vA.2 v0L v0G fun v0M =>
 lA 4 v0M.2 v0.1 fun v0N =>
 cl g id_icmp4_Bytes v0M.2 [v0N] fun v0O =>
 ex v0O 0 fun v0Q =>
 ex v0O 1 fun v0R =>
 nt v0H fun v0V =>
 fs v0V v0R fun v0X =>
 gF v0V (pr.eqNil 1 true v0X) fun v0Y =>
 pF v0V v0Y fun v0Z =>
 condK v0Z (
 pr.fin none v0M.2 [(LV.str []), (LV.bool false)]) (
 bn .and a3 (i 65535) fun v0d =>
 lA 4 v0M.2 v1 fun v0e =>
 fA 7 7 v9.1 fun v0f =>
 lA 4 v0M.2 v0f fun v0g =>
 (pr.parts (LV.agg [(i 0), (i 0), (i 0), (i 0), (i 0), (LV.bool false), (LV.bool false), (LV.bytes [0, 0, 0, 0]), (LV.bytes [0, 0, 0, 0]), (LV.str []), (LV.str [])]) [(1, v0d), (2, (i 64)), (3, (i 1)), (7, v0e), (8, v0g), (10, v0Q)]).bind fun v0i =>
 cl g id_ip4_Bytes v0M.2 [v0i] fun v0j =>
 ex v0j 0 fun v0l =>
 ex v0j 1 fun v0m =>
 eN 1 false v0m fun v0r =>
 pr.fin none v0M.2 [v0l, v0r])))
theorem F_fault_Own4_eq (g : Call) (a0 : LV) (a1 : LV) (a2 : LV) (a3 : LV) (a4 : LV) : fnEv g c_fault_Own4 [a0, a1, a2, a3, a4] none = F_fault_Own4 g a0 a1 a2 a3 a4 := by kernel_rfl
noncomputable def F_interpreterref03_Parse (g : Call) (a0 : LV) : Option (LV × Option LV) :=
 (pr.alloc (LV.agg [(i 0), (i 0), (i 0), (i 0), (i 0), (LV.bool false), (LV.bool false), (LV.bytes [0, 0, 0, 0]), (LV.bytes [0, 0, 0, 0]), (LV.str []), (LV.str [])]) 2 z).bind fun v0 =>
 (pr.parts (LV.agg [(i 0), (i 0), (i 0), (i 0), (i 0), (LV.bool false), (LV.bool false), (LV.bytes [0, 0, 0, 0]), (LV.bytes [0, 0, 0, 0]), (LV.str []), (LV.str [])]) []).bind fun v2 =>
 (pr.alloc (LV.agg [(i 0), (i 0), (i 0), (i 0), (i 0), (LV.bool false), (LV.bool false), (LV.bytes [0, 0, 0, 0]), (LV.bytes [0, 0, 0, 0]), (LV.str []), (LV.str [])]) 4 v0.2).bind fun v3 =>
 sA 17 v3.2 v3.1 v2 fun v4 =>
 ln a0 fun v6 =>
 bn .lss v6 (i 20) fun v7 =>
 condK v7 (
 lA 17 v4.2 v3.1 fun v8 =>
 sA 17 v4.2 v0.1 v8 fun v9 =>
 lA 17 v9.2 v0.1 fun vB =>
 pr.fin none v9.2 [vB, (i 7)]) (
 xS a0 (i 0) fun vD =>
 (pr.conv .i64 vD).bind fun vE =>
 bn .sub vE (i 64) fun vF =>
 bn .mul (i 4) vF fun vG =>
 bn .lss vG (i 20) fun vJ =>
 fs vJ vG fun vL =>
 fb vJ .gtr vL (i 60) fun vM =>
 pF vJ vM fun vN =>
 condK vN (
 lA 17 v4.2 v3.1 fun vO =>
 sA 17 v4.2 v0.1 vO fun vP =>
 lA 17 vP.2 v0.1 fun vR =>
 pr.fin none vP.2 [vR, (i 8)]) (
 ln a0 fun vT =>
 bn .lss vT vG fun vV =>
 condK vV (
 lA 17 v4.2 v3.1 fun vW =>
 sA 17 v4.2 v0.1 vW fun vX =>
 lA 17 vX.2 v0.1 fun vZ =>
 pr.fin none vX.2 [vZ, (i 7)]) (
 sl a0 none (some vG) fun vc =>
 cl g id_interpreterref02_Of v4.2 [vc] fun vd =>
 bn .neq vd (i 0) fun ve =>
 condK ve (
 lA 17 v4.2 v3.1 fun vf =>
 sA 17 v4.2 v0.1 vf fun vg =>
 lA 17 vg.2 v0.1 fun vi =>
 pr.fin none vg.2 [vi, (i 9)]) (
 cl g id_interpreterref03_number v4.2 [a0, (i 2)] fun vk =>
 bn .lss vk vG fun vo =>
 condK vo (
 lA 17 v4.2 v3.1 fun vp =>
 sA 17 v4.2 v0.1 vp fun vq =>
 lA 17 vq.2 v0.1 fun vs =>
 pr.fin none vq.2 [vs, (i 8)]) (
 ln a0 fun vu =>
 bn .lss vu vk fun vw =>
 condK vw (
 lA 17 v4.2 v3.1 fun vx =>
 sA 17 v4.2 v0.1 vx fun vy =>
 lA 17 vy.2 v0.1 fun v00 =>
 pr.fin none vy.2 [v00, (i 7)]) (
 cl g id_interpreterref03_number v4.2 [a0, (i 6)] fun v02 =>
 xS a0 (i 1) fun v05 =>
 (pr.conv .i64 v05).bind fun v06 =>
 cl g id_interpreterref03_number v4.2 [a0, (i 4)] fun v08 =>
 xS a0 (i 8) fun v0A =>
 (pr.conv .i64 v0A).bind fun v0B =>
 xS a0 (i 9) fun v0D =>
 (pr.conv .i64 v0D).bind fun v0E =>
 bn .rem v02 (i 8192) fun v0G =>
 bn .mul v0G (i 8) fun v0H =>
 bn .quo v02 (i 16384) fun v0J =>
 bn .rem v0J (i 2) fun v0K =>
 bn .eql v0K (i 1) fun v0L =>
 bn .quo v02 (i 8192) fun v0N =>
 bn .rem v0N (i 2) fun v0O =>
 bn .eql v0O (i 1) fun v0P =>
 sl a0 (some (i 20)) (some vG) fun v0S =>
 sl a0 (some vG) (some vk) fun v0W =>
 (pr.parts (LV.agg [(i 0), (i 0), (i 0), (i 0), (i 0), (LV.bool false), (LV.bool false), (LV.bytes [0, 0, 0, 0]), (LV.bytes [0, 0, 0, 0]), (LV.str []), (LV.str [])]) [(0, v06), (1, v08), (2, v0B), (3, v0E), (4, v0H), (5, v0L), (6, v0P), (9, v0S), (10, v0W)]).bind fun v0X =>
 (pr.alloc (LV.agg [(i 0), (i 0), (i 0), (i 0), (i 0), (LV.bool false), (LV.bool false), (LV.bytes [0, 0, 0, 0]), (LV.bytes [0, 0, 0, 0]), (LV.str []), (LV.str [])]) 8 v4.2).bind fun v0Y =>
 sA 17 v0Y.2 v0Y.1 v0X fun v0Z =>
 (whileW (fun q99 : List LV × Slots =>
 bn .lss (getL q99.1 0) (i 4) fun v0d =>
 condK v0d (
 bn .add (i 12) (getL q99.1 0) fun v0h =>
 xS a0 v0h fun v0i =>
 fA 7 7 v0Y.1 fun v0j =>
 (pr.idxAddr (some 4) 1 v0j (getL q99.1 0)).bind fun v0k =>
 s1 q99.2 v0k v0i fun v0l =>
 bn .add (i 16) (getL q99.1 0) fun v0p =>
 xS a0 v0p fun v0q =>
 fA 8 11 v0Y.1 fun v0r =>
 (pr.idxAddr (some 4) 1 v0r (getL q99.1 0)).bind fun v0s =>
 s1 v0l.2 v0s v0q fun v0t =>
 bn .add (getL q99.1 0) (i 1) fun v0v =>
 pr.round v0Z.2 .normal [v0v] v0t.2) (
 pr.round v0Z.2 (.exit 0) [(getL q99.1 0)] q99.2)) ([(i 0)], v0Z.2)).bind fun r99 =>
 exIf r99.1 (.exit 0) (
 bn .geq v02 (i 32768) fun v0y =>
 gF v0y (pr.load 17 true r99.2.2 v0Y.1) fun v10 =>
 gF v0y (pr.call g id_interpreterref03_Why r99.2.2 [v10]) fun v11 =>
 fb v0y .neq v11 (i 0) fun v12 =>
 pF v0y v12 fun v13 =>
 condK v13 (
 lA 17 r99.2.2 v3.1 fun v14 =>
 sA 17 r99.2.2 v0.1 v14 fun v15 =>
 lA 17 v15.2 v0.1 fun v17 =>
 pr.fin none v15.2 [v17, (i 8)]) (
 lA 17 r99.2.2 v0Y.1 fun v18 =>
 sA 17 r99.2.2 v0.1 v18 fun v19 =>
 lA 17 v19.2 v0.1 fun v1B =>
 pr.fin none v19.2 [v1B, (i 0)])) (none)))))))
theorem F_interpreterref03_Parse_eq (g : Call) (a0 : LV) : fnEv g c_interpreterref03_Parse [a0] none = F_interpreterref03_Parse g a0 := by kernel_rfl
noncomputable def F_fault_fault (g : Call) (a0 : LV) : Option (LV × Option LV) :=
 (pr.parts (LV.agg [(i 0), (i 0)]) [(0, a0)]).bind fun v2 =>
 bx v2 fun v3 =>
 (pr.iface ty_ptr_num_Fault v3).bind fun v4 =>
 pr.fin none z [v4]
theorem F_fault_fault_eq (g : Call) (a0 : LV) : fnEv g c_fault_fault [a0] none = F_fault_fault g a0 := by kernel_rfl
noncomputable def F_sum_Right (g : Call) (a0 : LV) : Option (LV × Option LV) :=
 cl g id_sum_Of z [a0] fun v2 =>
 bn .eql v2 (i 0) fun v3 =>
 pr.fin none z [v3]
theorem F_sum_Right_eq (g : Call) (a0 : LV) : fnEv g c_sum_Right [a0] none = F_sum_Right g a0 := by kernel_rfl
noncomputable def F_fault_Inside4_1 (g : Call) (a0 : LV) (a1 : LV) : Option (LV × Option LV) :=
 l1 z a1 fun v1 =>
 xS v1 a0 fun v3 =>
 (pr.conv .i64 v3).bind fun v4 =>
 bn .shl v4 (LV.int .u64 8) fun v5 =>
 l1 z a1 fun v6 =>
 bn .add a0 (i 1) fun v8 =>
 xS v6 v8 fun v9 =>
 (pr.conv .i64 v9).bind fun vA =>
 bn .or v5 vA fun vB =>
 pr.fin none z [vB]
theorem F_fault_Inside4_1_eq (g : Call) (a0 : LV) (a1 : LV) : fnEv g c_fault_Inside4_1 [a0, a1] none = F_fault_Inside4_1 g a0 a1 := by kernel_rfl
noncomputable def F_fault_short (g : Call) (a0 : LV) (a1 : LV) : Option (LV × Option LV) :=
 ln a0 fun v2 =>
 (pr.minmax false (i 8) [a1]).bind fun v4 =>
 bn .lss v2 v4 fun v5 =>
 pr.fin none z [v5]
theorem F_fault_short_eq (g : Call) (a0 : LV) (a1 : LV) : fnEv g c_fault_short [a0, a1] none = F_fault_short g a0 a1 := by kernel_rfl
noncomputable def F_head46_Proto (g : Call) (a0 : LV) : Option (LV × Option LV) :=
 bn .eql a0 (i 1) fun v3 =>
 condK v3 (
 pr.fin none z [(i 58), (LV.bool true)]) (
 bn .eql a0 (i 0) fun v7 =>
 condK v7 (
 condK v7 (
 pr.fin none z [(i 0), (LV.bool false)]) (
 bn .lss a0 (i 0) fun vC =>
 fs vC a0 fun vE =>
 fb vC .gtr vE (i 255) fun vF =>
 pF vC vF fun vG =>
 condK vG (
 pr.fin none z [(i 0), (LV.bool false)]) (
 pr.fin none z [a0, (LV.bool true)]))) (
 bn .eql a0 (i 2) fun vM =>
 condK vM (
 condK vM (
 pr.fin none z [(i 0), (LV.bool false)]) (
 bn .lss a0 (i 0) fun vR =>
 fs vR a0 fun vT =>
 fb vR .gtr vT (i 255) fun vU =>
 pF vR vU fun vV =>
 condK vV (
 pr.fin none z [(i 0), (LV.bool false)]) (
 pr.fin none z [a0, (LV.bool true)]))) (
 bn .eql a0 (i 43) fun vb =>
 condK vb (
 condK vb (
 pr.fin none z [(i 0), (LV.bool false)]) (
 bn .lss a0 (i 0) fun vg =>
 fs vg a0 fun vi =>
 fb vg .gtr vi (i 255) fun vj =>
 pF vg vj fun vk =>
 condK vk (
 pr.fin none z [(i 0), (LV.bool false)]) (
 pr.fin none z [a0, (LV.bool true)]))) (
 bn .eql a0 (i 44) fun vq =>
 condK vq (
 condK vq (
 pr.fin none z [(i 0), (LV.bool false)]) (
 bn .lss a0 (i 0) fun vv =>
 fs vv a0 fun vx =>
 fb vv .gtr vx (i 255) fun vy =>
 pF vv vy fun vz =>
 condK vz (
 pr.fin none z [(i 0), (LV.bool false)]) (
 pr.fin none z [a0, (LV.bool true)]))) (
 bn .eql a0 (i 58) fun v05 =>
 condK v05 (
 condK v05 (
 pr.fin none z [(i 0), (LV.bool false)]) (
 bn .lss a0 (i 0) fun v0A =>
 fs v0A a0 fun v0C =>
 fb v0A .gtr v0C (i 255) fun v0D =>
 pF v0A v0D fun v0E =>
 condK v0E (
 pr.fin none z [(i 0), (LV.bool false)]) (
 pr.fin none z [a0, (LV.bool true)]))) (
 bn .eql a0 (i 60) fun v0K =>
 condK v0K (
 pr.fin none z [(i 0), (LV.bool false)]) (
 bn .lss a0 (i 0) fun v0P =>
 fs v0P a0 fun v0R =>
 fb v0P .gtr v0R (i 255) fun v0S =>
 pF v0P v0S fun v0T =>
 condK v0T (
 pr.fin none z [(i 0), (LV.bool false)]) (
 pr.fin none z [a0, (LV.bool true)]))))))))
theorem F_head46_Proto_eq (g : Call) (a0 : LV) : fnEv g c_head46_Proto [a0] none = F_head46_Proto g a0 := by kernel_rfl
noncomputable def F_fault_within (g : Call) (a0 : LV) (a1 : LV) : Option (LV × Option LV) :=
 (pr.len false a1).bind fun v2 =>
 (whileW (fun q4 : List LV × Slots =>
 bn .lss (getL q4.1 1) v2 fun v5 =>
 condK v5 (
 (pr.idxAddr none 1 a1 (getL q4.1 1)).bind fun v6 =>
 l1 q4.2 v6 fun v7 =>
 bn .lss v7 (i 0) fun vA =>
 fs vA v7 fun vC =>
 fs vA a0 fun vD =>
 fb vA .gtr vC vD fun vE =>
 pF vA vE fun vF =>
 condK vF (
 pr.round z .ret [(LV.bool false), (getL q4.1 1)] q4.2) (
 bn .add (getL q4.1 1) (i 1) fun vH =>
 pr.round z .normal [(getL q4.1 0), vH] q4.2)) (
 pr.round z (.exit 0) [(getL q4.1 0), (getL q4.1 1)] q4.2)) ([(LV.bool false), (i 0)], z)).bind fun r4 =>
 exIf r4.1 (.exit 0) (
 pr.fin none r4.2.2 [(LV.bool true)]) (exIf r4.1 .ret (
 pr.fin none r4.2.2 [(getL r4.2.1 0)]) (none))
theorem F_fault_within_eq (g : Call) (a0 : LV) (a1 : LV) : fnEv g c_fault_within [a0, a1] none = F_fault_within g a0 a1 := by kernel_rfl
noncomputable def F_fault_big (g : Call) (a0 : LV) (a1 : LV) : Option (LV × Option LV) :=
 cl g id_num_Big z [a0, a1] fun v3 =>
 ex v3 0 fun v5 =>
 ex v3 1 fun v6 =>
 pr.fin none z [v5]
theorem F_fault_big_eq (g : Call) (a0 : LV) (a1 : LV) : fnEv g c_fault_big [a0, a1] none = F_fault_big g a0 a1 := by kernel_rfl
noncomputable def F_fault_turn6 (g : Call) (a0 : LV) (a1 : LV) (a2 : LV) (a3 : LV) : Option (LV × Option LV) :=
 bx a0 fun v0 =>
 bx a2 fun v1 =>
 bx a3 fun v2 =>
 fA 4 4 v0 fun v4 =>
 l1 z v4 fun v5 =>
 bn .gtr v5 (i 0) fun v6 =>
 condK v6 (
 fA 10 16 v0 fun v8 =>
 l1 z v8 fun v9 =>
 pr.fin none z [v9]) (
 fA 3 3 v0 fun vB =>
 l1 z vB fun vC =>
 bn .eql vC (i 6) fun vD =>
 ff vD 3 3 v0 fun vF =>
 fl vD z vF fun vG =>
 fb vD .eql vG (i 17) fun vH =>
 pF vD vH fun vI =>
 condK vI (
 fA 3 3 v0 fun vK =>
 l1 z vK fun vL =>
 fA 10 16 v0 fun vM =>
 l1 z vM fun vN =>
 fA 7 7 v0 fun vO =>
 sV 4 z vO none none fun vP =>
 bS z vP fun vQ =>
 fA 8 11 v0 fun vR =>
 sV 4 z vR none none fun vS =>
 bS z vS fun vT =>
 bn .add vQ vT fun vU =>
 fA 0 0 v1 fun vV =>
 sV 16 z vV none none fun vW =>
 bS z vW fun vX =>
 fA 0 0 v2 fun vY =>
 sV 16 z vY none none fun vZ =>
 bS z vZ fun va =>
 bn .add vX va fun vb =>
 fA 1 16 v1 fun vc =>
 l1 z vc fun vd =>
 fA 1 16 v2 fun ve =>
 l1 z ve fun vf =>
 cl g id_fault_ported z [vL, vN, vU, vb, vd, vf] fun vg =>
 pr.fin none z [vg]) (
 fA 3 3 v0 fun vi =>
 l1 z vi fun vj =>
 bn .eql vj (i 1) fun vk =>
 tf vk 10 16 v0 fun vm =>
 tl vk z vm fun vn =>
 gT vk (pr.len true vn) fun vo =>
 tb vk .geq vo (i 8) fun vp =>
 pT vk vp fun vq =>
 condK vq (
 (pr.mapNew 56 z).bind fun vs =>
 (pr.mapIns (some .u8) vs.2 vs.1 (LV.int .u8 8) (i 128)).bind fun vt =>
 (pr.mapIns (some .u8) vt.2 vs.1 (LV.int .u8 0) (i 129)).bind fun vu =>
 fA 10 16 v0 fun vw =>
 l1 vu.2 vw fun vx =>
 xS vx (i 0) fun vy =>
 (pr.mapGet (some .u8) (i 0) false vu.2 vs.1 vy).bind fun vz =>
 bn .gtr vz (i 0) fun v02 =>
 tf v02 10 16 v0 fun v04 =>
 tl v02 vu.2 v04 fun v05 =>
 gT v02 (pr.idxStr v05 (i 1)) fun v06 =>
 tb v02 .eql v06 (LV.int .u8 0) fun v07 =>
 pT v02 v07 fun v08 =>
 condK v08 (
 fA 10 16 v0 fun v09 =>
 l1 vu.2 v09 fun v0A =>
 fA 0 0 v1 fun v0B =>
 lA 16 vu.2 v0B fun v0C =>
 fA 0 0 v2 fun v0D =>
 lA 16 vu.2 v0D fun v0E =>
 cl g id_sum_Pseudo6 vu.2 [v0C, v0E, (i 58), a1] fun v0G =>
 fA 1 16 v1 fun v0I =>
 l1 vu.2 v0I fun v0J =>
 cl g id_fault_echoed vu.2 [v0A, (LV.str []), v0G, vz, v0J] fun v0K =>
 pr.fin none vu.2 [v0K]) (
 fA 10 16 v0 fun v0M =>
 l1 vu.2 v0M fun v0N =>
 pr.fin none vu.2 [v0N])) (
 fA 10 16 v0 fun v0P =>
 l1 z v0P fun v0Q =>
 pr.fin none z [v0Q])))
theorem F_fault_turn6_eq (g : Call) (a0 : LV) (a1 : LV) (a2 : LV) (a3 : LV) : fnEv g c_fault_turn6 [a0, a1, a2, a3] none = F_fault_turn6 g a0 a1 a2 a3 := by kernel_rfl
noncomputable def F_ip6_fault (g : Call) (a0 : LV) : Option (LV × Option LV) :=
 (pr.parts (LV.agg [(i 0), (i 0)]) [(0, a0)]).bind fun v2 =>
 bx v2 fun v3 =>
 (pr.iface ty_ptr_num_Fault v3).bind fun v4 =>
 pr.fin none z [v4]
theorem F_ip6_fault_eq (g : Call) (a0 : LV) : fnEv g c_ip6_fault [a0] none = F_ip6_fault g a0 := by kernel_rfl
noncomputable def F_num_New (g : Call) (a0 : LV) : Option (LV × Option LV) :=
 (pr.parts (LV.agg [(LV.str []), (i 0), LV.nilp]) [(0, a0)]).bind fun v2 =>
 (pr.boxM v2 5 z).bind fun v3 =>
 pr.fin none v3.2 [v3.1]
theorem F_num_New_eq (g : Call) (a0 : LV) : fnEv g c_num_New [a0] none = F_num_New g a0 := by kernel_rfl
noncomputable def F_num_Reader_U32 (g : Call) (h : LV) : Option (LV × Option LV) :=
 (pr.callRw g id_num_Reader_number (upd z 0 (.obj 0 h)) [(LV.ptr 0 0 [] 0), (i 4)]).bind fun v3 =>
 ex v3.1 0 fun v4 =>
 ex v3.1 1 fun v5 =>
 pr.fin (some h) v3.2 [v4, v5]
theorem F_num_Reader_U32_eq (g : Call) (h : LV) : fnEv g c_num_Reader_U32 [(LV.ptr 0 0 [] 0)] (some h) = F_num_Reader_U32 g h := by kernel_rfl
noncomputable def F_ip6_Chain (g : Call) (a0 : LV) (a1 : LV) : Option (LV × Option LV) :=
 (whileW (fun q4 : List LV × Slots =>
 cl g id_ip6_extends q4.2 [(getL q4.1 4)] fun v6 =>
 condK v6 (
 ln (getL q4.1 5) fun vA =>
 bn .geq vA (i 2) fun vB =>
 condK vB (
 xS (getL q4.1 5) (i 1) fun vE =>
 (pr.conv .i64 vE).bind fun vF =>
 bn .mul vF (i 8) fun vG =>
 bn .add (i 8) vG fun vH =>
 bn .eql (getL q4.1 4) (i 0) fun vK =>
 ts vK (getL q4.1 0) fun vM =>
 gT vK (pr.len false vM) fun vN =>
 tb vK .gtr vN (i 0) fun vO =>
 pT vK vO fun vP =>
 condK vP (
 bn .neq (i 8) (i 0) fun vT =>
 condK vT (
 cl g id_ip6_fault q4.2 [(i 8)] fun vV =>
 pr.round z .ret [LV.nils, (i 0), (LV.str []), vV, (getL q4.1 4), (getL q4.1 5)] q4.2) (
 sl (getL q4.1 5) (some (i 2)) (some vH) fun ve =>
 (pr.parts (LV.agg [(i 0), (LV.str [])]) [(0, (getL q4.1 4)), (1, ve)]).bind fun vf =>
 (pr.bsl (LV.agg [(i 0), (LV.str [])]) 1 [(0, vf)]).bind fun vg =>
 (pr.append 2 24 49 q4.2 (getL q4.1 0) vg).bind fun vh =>
 xS (getL q4.1 5) (i 0) fun vk =>
 (pr.conv .i64 vk).bind fun vl =>
 sl (getL q4.1 5) (some vH) none fun vo =>
 pr.round z .normal [vh.1, (getL q4.1 1), (getL q4.1 2), (getL q4.1 3), vl, vo] vh.2)) (
 (pr.len false (getL q4.1 0)).bind fun vs =>
 bn .geq vs (i 8) fun vt =>
 condK vt (
 bn .neq (i 3) (i 0) fun vx =>
 condK vx (
 cl g id_ip6_fault q4.2 [(i 3)] fun vz =>
 pr.round z .ret [LV.nils, (i 0), (LV.str []), vz, (getL q4.1 4), (getL q4.1 5)] q4.2) (
 sl (getL q4.1 5) (some (i 2)) (some vH) fun v08 =>
 (pr.parts (LV.agg [(i 0), (LV.str [])]) [(0, (getL q4.1 4)), (1, v08)]).bind fun v09 =>
 (pr.bsl (LV.agg [(i 0), (LV.str [])]) 1 [(0, v09)]).bind fun v0A =>
 (pr.append 2 24 49 q4.2 (getL q4.1 0) v0A).bind fun v0B =>
 xS (getL q4.1 5) (i 0) fun v0E =>
 (pr.conv .i64 v0E).bind fun v0F =>
 sl (getL q4.1 5) (some vH) none fun v0I =>
 pr.round z .normal [v0B.1, (getL q4.1 1), (getL q4.1 2), (getL q4.1 3), v0F, v0I] v0B.2)) (
 ln (getL q4.1 5) fun v0M =>
 bn .lss v0M vH fun v0O =>
 condK v0O (
 bn .neq (i 7) (i 0) fun v0S =>
 condK v0S (
 cl g id_ip6_fault q4.2 [(i 7)] fun v0U =>
 pr.round z .ret [LV.nils, (i 0), (LV.str []), v0U, (getL q4.1 4), (getL q4.1 5)] q4.2) (
 sl (getL q4.1 5) (some (i 2)) (some vH) fun v0d =>
 (pr.parts (LV.agg [(i 0), (LV.str [])]) [(0, (getL q4.1 4)), (1, v0d)]).bind fun v0e =>
 (pr.bsl (LV.agg [(i 0), (LV.str [])]) 1 [(0, v0e)]).bind fun v0f =>
 (pr.append 2 24 49 q4.2 (getL q4.1 0) v0f).bind fun v0g =>
 xS (getL q4.1 5) (i 0) fun v0j =>
 (pr.conv .i64 v0j).bind fun v0k =>
 sl (getL q4.1 5) (some vH) none fun v0n =>
 pr.round z .normal [v0g.1, (getL q4.1 1), (getL q4.1 2), (getL q4.1 3), v0k, v0n] v0g.2)) (
 bn .neq (i 0) (i 0) fun v0r =>
 condK v0r (
 cl g id_ip6_fault q4.2 [(i 0)] fun v0t =>
 pr.round z .ret [LV.nils, (i 0), (LV.str []), v0t, (getL q4.1 4), (getL q4.1 5)] q4.2) (
 sl (getL q4.1 5) (some (i 2)) (some vH) fun v12 =>
 (pr.parts (LV.agg [(i 0), (LV.str [])]) [(0, (getL q4.1 4)), (1, v12)]).bind fun v13 =>
 (pr.bsl (LV.agg [(i 0), (LV.str [])]) 1 [(0, v13)]).bind fun v14 =>
 (pr.append 2 24 49 q4.2 (getL q4.1 0) v14).bind fun v15 =>
 xS (getL q4.1 5) (i 0) fun v18 =>
 (pr.conv .i64 v18).bind fun v19 =>
 sl (getL q4.1 5) (some vH) none fun v1C =>
 pr.round z .normal [v15.1, (getL q4.1 1), (getL q4.1 2), (getL q4.1 3), v19, v1C] v15.2))))) (
 bn .eql (getL q4.1 4) (i 0) fun v1G =>
 ts v1G (getL q4.1 0) fun v1I =>
 gT v1G (pr.len false v1I) fun v1J =>
 tb v1G .gtr v1J (i 0) fun v1K =>
 pT v1G v1K fun v1L =>
 condK v1L (
 bn .neq (i 8) (i 0) fun v1P =>
 condK v1P (
 cl g id_ip6_fault q4.2 [(i 8)] fun v1R =>
 pr.round z .ret [LV.nils, (i 0), (LV.str []), v1R, (getL q4.1 4), (getL q4.1 5)] q4.2) (
 sl (getL q4.1 5) (some (i 2)) (some (i 8)) fun v1a =>
 (pr.parts (LV.agg [(i 0), (LV.str [])]) [(0, (getL q4.1 4)), (1, v1a)]).bind fun v1b =>
 (pr.bsl (LV.agg [(i 0), (LV.str [])]) 1 [(0, v1b)]).bind fun v1c =>
 (pr.append 2 24 49 q4.2 (getL q4.1 0) v1c).bind fun v1d =>
 xS (getL q4.1 5) (i 0) fun v1g =>
 (pr.conv .i64 v1g).bind fun v1h =>
 sl (getL q4.1 5) (some (i 8)) none fun v1k =>
 pr.round z .normal [v1d.1, (getL q4.1 1), (getL q4.1 2), (getL q4.1 3), v1h, v1k] v1d.2)) (
 (pr.len false (getL q4.1 0)).bind fun v1o =>
 bn .geq v1o (i 8) fun v1p =>
 condK v1p (
 bn .neq (i 3) (i 0) fun v1t =>
 condK v1t (
 cl g id_ip6_fault q4.2 [(i 3)] fun v1v =>
 pr.round z .ret [LV.nils, (i 0), (LV.str []), v1v, (getL q4.1 4), (getL q4.1 5)] q4.2) (
 sl (getL q4.1 5) (some (i 2)) (some (i 8)) fun v24 =>
 (pr.parts (LV.agg [(i 0), (LV.str [])]) [(0, (getL q4.1 4)), (1, v24)]).bind fun v25 =>
 (pr.bsl (LV.agg [(i 0), (LV.str [])]) 1 [(0, v25)]).bind fun v26 =>
 (pr.append 2 24 49 q4.2 (getL q4.1 0) v26).bind fun v27 =>
 xS (getL q4.1 5) (i 0) fun v2A =>
 (pr.conv .i64 v2A).bind fun v2B =>
 sl (getL q4.1 5) (some (i 8)) none fun v2E =>
 pr.round z .normal [v27.1, (getL q4.1 1), (getL q4.1 2), (getL q4.1 3), v2B, v2E] v27.2)) (
 ln (getL q4.1 5) fun v2I =>
 bn .lss v2I (i 8) fun v2K =>
 condK v2K (
 bn .neq (i 7) (i 0) fun v2O =>
 condK v2O (
 cl g id_ip6_fault q4.2 [(i 7)] fun v2Q =>
 pr.round z .ret [LV.nils, (i 0), (LV.str []), v2Q, (getL q4.1 4), (getL q4.1 5)] q4.2) (
 sl (getL q4.1 5) (some (i 2)) (some (i 8)) fun v2Z =>
 (pr.parts (LV.agg [(i 0), (LV.str [])]) [(0, (getL q4.1 4)), (1, v2Z)]).bind fun v2a =>
 (pr.bsl (LV.agg [(i 0), (LV.str [])]) 1 [(0, v2a)]).bind fun v2b =>
 (pr.append 2 24 49 q4.2 (getL q4.1 0) v2b).bind fun v2c =>
 xS (getL q4.1 5) (i 0) fun v2f =>
 (pr.conv .i64 v2f).bind fun v2g =>
 sl (getL q4.1 5) (some (i 8)) none fun v2j =>
 pr.round z .normal [v2c.1, (getL q4.1 1), (getL q4.1 2), (getL q4.1 3), v2g, v2j] v2c.2)) (
 bn .neq (i 0) (i 0) fun v2n =>
 condK v2n (
 cl g id_ip6_fault q4.2 [(i 0)] fun v2p =>
 pr.round z .ret [LV.nils, (i 0), (LV.str []), v2p, (getL q4.1 4), (getL q4.1 5)] q4.2) (
 sl (getL q4.1 5) (some (i 2)) (some (i 8)) fun v2y =>
 (pr.parts (LV.agg [(i 0), (LV.str [])]) [(0, (getL q4.1 4)), (1, v2y)]).bind fun v2z =>
 (pr.bsl (LV.agg [(i 0), (LV.str [])]) 1 [(0, v2z)]).bind fun v30 =>
 (pr.append 2 24 49 q4.2 (getL q4.1 0) v30).bind fun v31 =>
 xS (getL q4.1 5) (i 0) fun v34 =>
 (pr.conv .i64 v34).bind fun v35 =>
 sl (getL q4.1 5) (some (i 8)) none fun v38 =>
 pr.round z .normal [v31.1, (getL q4.1 1), (getL q4.1 2), (getL q4.1 3), v35, v38] v31.2)))))) (
 pr.round z (.exit 0) [(getL q4.1 0), (getL q4.1 1), (getL q4.1 2), (getL q4.1 3), (getL q4.1 4), (getL q4.1 5)] q4.2)) ([LV.nils, (i 0), (LV.str []), LV.nili, a0, a1], z)).bind fun r4 =>
 exIf r4.1 (.exit 0) (
 pr.fin none r4.2.2 [(getL r4.2.1 0), (getL r4.2.1 4), (getL r4.2.1 5), LV.nili]) (exIf r4.1 .ret (
 pr.fin none r4.2.2 [(getL r4.2.1 0), (getL r4.2.1 1), (getL r4.2.1 2), (getL r4.2.1 3)]) (none))
theorem F_ip6_Chain_eq (g : Call) (a0 : LV) (a1 : LV) : fnEv g c_ip6_Chain [a0, a1] none = F_ip6_Chain g a0 a1 := by kernel_rfl
noncomputable def F_ip6_pieced (g : Call) (a0 : LV) : Option (LV × Option LV) :=
 bx a0 fun v0 =>
 fA 9 39 v0 fun v2 =>
 l1 z v2 fun v3 =>
 nt v3 fun v4 =>
 ff v4 11 41 v0 fun v6 =>
 fl v4 z v6 fun v7 =>
 fb v4 .neq v7 (LV.str []) fun v8 =>
 fs v4 v8 fun v9 =>
 tf v9 11 41 v0 fun vA =>
 tl v9 z vA fun vB =>
 gT v9 (pr.len true vB) fun vC =>
 tb v9 .rem vC (i 8) fun vD =>
 tb v9 .eql vD (i 0) fun vE =>
 gF v4 (pr.pick v9 vE (LV.bool false)) fun vF =>
 pF v4 vF fun vG =>
 pr.fin none z [vG]
theorem F_ip6_pieced_eq (g : Call) (a0 : LV) : fnEv g c_ip6_pieced [a0] none = F_ip6_pieced g a0 := by kernel_rfl
noncomputable def F_tcp_Parse (g : Call) (a0 : LV) : Option (LV × Option LV) :=
 (pr.alloc (LV.agg [(i 0), (i 0), (i 0), (LV.str [])]) 2 z).bind fun v0 =>
 ln a0 fun v3 =>
 bn .lss v3 (i 20) fun v4 =>
 condK v4 (
 (pr.parts (LV.agg [(i 0), (i 0), (i 0), (LV.str [])]) []).bind fun v5 =>
 cl g id_tcp_fault v0.2 [(i 7)] fun v6 =>
 sA 4 v0.2 v0.1 v5 fun v7 =>
 lA 4 v7.2 v0.1 fun v9 =>
 pr.fin none v7.2 [v9, v6]) (
 xS a0 (i 12) fun vB =>
 bn .shr vB (LV.int .u64 4) fun vC =>
 (pr.conv .i64 vC).bind fun vD =>
 bn .mul vD (i 4) fun vE =>
 bn .lss vE (i 20) fun vH =>
 condK vH (
 (pr.parts (LV.agg [(i 0), (i 0), (i 0), (LV.str [])]) []).bind fun vJ =>
 cl g id_tcp_fault v0.2 [(i 8)] fun vK =>
 sA 4 v0.2 v0.1 vJ fun vL =>
 lA 4 vL.2 v0.1 fun vN =>
 pr.fin none vL.2 [vN, vK]) (
 ln a0 fun vP =>
 bn .lss vP vE fun vR =>
 condK vR (
 (pr.parts (LV.agg [(i 0), (i 0), (i 0), (LV.str [])]) []).bind fun vT =>
 cl g id_tcp_fault v0.2 [(i 7)] fun vU =>
 sA 4 v0.2 v0.1 vT fun vV =>
 lA 4 vV.2 v0.1 fun vX =>
 pr.fin none vV.2 [vX, vU]) (
 cl g id_tcp_two v0.2 [a0, (i 0)] fun vZ =>
 cl g id_tcp_two v0.2 [a0, (i 2)] fun vb =>
 xS a0 (i 13) fun vd =>
 bn .and vd (LV.int .u8 63) fun ve =>
 (pr.conv .i64 ve).bind fun vf =>
 (pr.parts (LV.agg [(i 0), (i 0), (i 0), (LV.str [])]) [(0, vZ), (1, vb), (2, vf), (3, a0)]).bind fun vh =>
 sA 4 v0.2 v0.1 vh fun vi =>
 lA 4 vi.2 v0.1 fun vk =>
 pr.fin none vi.2 [vk, LV.nili])))
theorem F_tcp_Parse_eq (g : Call) (a0 : LV) : fnEv g c_tcp_Parse [a0] none = F_tcp_Parse g a0 := by kernel_rfl
noncomputable def F_tcp_fault (g : Call) (a0 : LV) : Option (LV × Option LV) :=
 (pr.parts (LV.agg [(i 0), (i 0)]) [(0, a0)]).bind fun v2 =>
 bx v2 fun v3 =>
 (pr.iface ty_ptr_num_Fault v3).bind fun v4 =>
 pr.fin none z [v4]
theorem F_tcp_fault_eq (g : Call) (a0 : LV) : fnEv g c_tcp_fault [a0] none = F_tcp_fault g a0 := by kernel_rfl
noncomputable def F_sum_big (g : Call) (a0 : LV) (a1 : LV) : Option (LV × Option LV) :=
 bn .mul (i 8) a1 fun v3 =>
 bn .shl (i 1) v3 fun v4 =>
 bn .sub v4 (i 1) fun v5 =>
 bn .and a0 v5 fun v6 =>
 cl g id_num_Big z [v6, a1] fun v8 =>
 ex v8 0 fun vA =>
 ex v8 1 fun vB =>
 pr.fin none z [vA]
theorem F_sum_big_eq (g : Call) (a0 : LV) (a1 : LV) : fnEv g c_sum_big [a0, a1] none = F_sum_big g a0 a1 := by kernel_rfl
noncomputable def F_udp_Parse (g : Call) (a0 : LV) : Option (LV × Option LV) :=
 (pr.alloc (LV.agg [(i 0), (i 0), (i 0), (LV.str [])]) 2 z).bind fun v0 =>
 ln a0 fun v3 =>
 bn .lss v3 (i 8) fun v4 =>
 condK v4 (
 (pr.parts (LV.agg [(i 0), (i 0), (i 0), (LV.str [])]) []).bind fun v6 =>
 cl g id_udp_fault v0.2 [(i 7)] fun v7 =>
 sA 4 v0.2 v0.1 v6 fun v8 =>
 lA 4 v8.2 v0.1 fun vA =>
 pr.fin none v8.2 [vA, v7]) (
 cl g id_udp_two v0.2 [a0, (i 4)] fun vC =>
 ln a0 fun vE =>
 bn .neq vC vE fun vF =>
 condK vF (
 (pr.parts (LV.agg [(i 0), (i 0), (i 0), (LV.str [])]) []).bind fun vH =>
 cl g id_udp_fault v0.2 [(i 8)] fun vI =>
 sA 4 v0.2 v0.1 vH fun vJ =>
 lA 4 vJ.2 v0.1 fun vL =>
 pr.fin none vJ.2 [vL, vI]) (
 cl g id_udp_two v0.2 [a0, (i 0)] fun vN =>
 cl g id_udp_two v0.2 [a0, (i 2)] fun vP =>
 cl g id_udp_two v0.2 [a0, (i 6)] fun vR =>
 sl a0 (some (i 8)) none fun vT =>
 (pr.parts (LV.agg [(i 0), (i 0), (i 0), (LV.str [])]) [(0, vN), (1, vP), (2, vR), (3, vT)]).bind fun vU =>
 sA 4 v0.2 v0.1 vU fun vV =>
 lA 4 vV.2 v0.1 fun vX =>
 pr.fin none vV.2 [vX, LV.nili]))
theorem F_udp_Parse_eq (g : Call) (a0 : LV) : fnEv g c_udp_Parse [a0] none = F_udp_Parse g a0 := by kernel_rfl
noncomputable def F_udp_fault (g : Call) (a0 : LV) : Option (LV × Option LV) :=
 (pr.parts (LV.agg [(i 0), (i 0)]) [(0, a0)]).bind fun v2 =>
 bx v2 fun v3 =>
 (pr.iface ty_ptr_num_Fault v3).bind fun v4 =>
 pr.fin none z [v4]
theorem F_udp_fault_eq (g : Call) (a0 : LV) : fnEv g c_udp_fault [a0] none = F_udp_fault g a0 := by kernel_rfl
noncomputable def F_icmp4_fault (g : Call) (a0 : LV) : Option (LV × Option LV) :=
 (pr.parts (LV.agg [(i 0), (i 0)]) [(0, a0)]).bind fun v2 =>
 bx v2 fun v3 =>
 (pr.iface ty_ptr_num_Fault v3).bind fun v4 =>
 pr.fin none z [v4]
theorem F_icmp4_fault_eq (g : Call) (a0 : LV) : fnEv g c_icmp4_fault [a0] none = F_icmp4_fault g a0 := by kernel_rfl
noncomputable def F_icmp6_fault (g : Call) (a0 : LV) : Option (LV × Option LV) :=
 (pr.parts (LV.agg [(i 0), (i 0)]) [(0, a0)]).bind fun v2 =>
 bx v2 fun v3 =>
 (pr.iface ty_ptr_num_Fault v3).bind fun v4 =>
 pr.fin none z [v4]
theorem F_icmp6_fault_eq (g : Call) (a0 : LV) : fnEv g c_icmp6_fault [a0] none = F_icmp6_fault g a0 := by kernel_rfl
noncomputable def F_head64_Proto (g : Call) (a0 : LV) : Option (LV × Option LV) :=
 bn .eql a0 (i 58) fun v3 =>
 condK v3 (
 pr.fin none z [(i 1), (LV.bool true)]) (
 bn .eql a0 (i 0) fun v7 =>
 condK v7 (
 condK v7 (
 pr.fin none z [(i 0), (LV.bool false)]) (
 bn .lss a0 (i 0) fun vC =>
 fs vC a0 fun vE =>
 fb vC .gtr vE (i 255) fun vF =>
 pF vC vF fun vG =>
 condK vG (
 pr.fin none z [(i 0), (LV.bool false)]) (
 pr.fin none z [a0, (LV.bool true)]))) (
 bn .eql a0 (i 1) fun vM =>
 condK vM (
 condK vM (
 pr.fin none z [(i 0), (LV.bool false)]) (
 bn .lss a0 (i 0) fun vR =>
 fs vR a0 fun vT =>
 fb vR .gtr vT (i 255) fun vU =>
 pF vR vU fun vV =>
 condK vV (
 pr.fin none z [(i 0), (LV.bool false)]) (
 pr.fin none z [a0, (LV.bool true)]))) (
 bn .eql a0 (i 2) fun vb =>
 condK vb (
 condK vb (
 pr.fin none z [(i 0), (LV.bool false)]) (
 bn .lss a0 (i 0) fun vg =>
 fs vg a0 fun vi =>
 fb vg .gtr vi (i 255) fun vj =>
 pF vg vj fun vk =>
 condK vk (
 pr.fin none z [(i 0), (LV.bool false)]) (
 pr.fin none z [a0, (LV.bool true)]))) (
 bn .eql a0 (i 43) fun vq =>
 condK vq (
 condK vq (
 pr.fin none z [(i 0), (LV.bool false)]) (
 bn .lss a0 (i 0) fun vv =>
 fs vv a0 fun vx =>
 fb vv .gtr vx (i 255) fun vy =>
 pF vv vy fun vz =>
 condK vz (
 pr.fin none z [(i 0), (LV.bool false)]) (
 pr.fin none z [a0, (LV.bool true)]))) (
 bn .eql a0 (i 44) fun v05 =>
 condK v05 (
 condK v05 (
 pr.fin none z [(i 0), (LV.bool false)]) (
 bn .lss a0 (i 0) fun v0A =>
 fs v0A a0 fun v0C =>
 fb v0A .gtr v0C (i 255) fun v0D =>
 pF v0A v0D fun v0E =>
 condK v0E (
 pr.fin none z [(i 0), (LV.bool false)]) (
 pr.fin none z [a0, (LV.bool true)]))) (
 bn .eql a0 (i 60) fun v0K =>
 condK v0K (
 pr.fin none z [(i 0), (LV.bool false)]) (
 bn .lss a0 (i 0) fun v0P =>
 fs v0P a0 fun v0R =>
 fb v0P .gtr v0R (i 255) fun v0S =>
 pF v0P v0S fun v0T =>
 condK v0T (
 pr.fin none z [(i 0), (LV.bool false)]) (
 pr.fin none z [a0, (LV.bool true)]))))))))
theorem F_head64_Proto_eq (g : Call) (a0 : LV) : fnEv g c_head64_Proto [a0] none = F_head64_Proto g a0 := by kernel_rfl
noncomputable def F_sum_Of (g : Call) (a0 : LV) : Option (LV × Option LV) :=
 (pr.len false a0).bind fun v4 =>
 (whileW (fun q6 : List LV × Slots =>
 bn .lss (getL q6.1 2) v4 fun v7 =>
 condK v7 (
 (pr.idxAddr none 1 a0 (getL q6.1 2)).bind fun v8 =>
 l1 q6.2 v8 fun v9 =>
 cl g id_sum_add q6.2 [(getL q6.1 0), (getL q6.1 1), v9, (LV.int .u8 0)] fun vE =>
 cl g id_sum_fold q6.2 [vE] fun vF =>
 ln v9 fun vJ =>
 bn .add (getL q6.1 1) vJ fun vK =>
 bn .add (getL q6.1 2) (i 1) fun vM =>
 pr.round z .normal [vF, vK, vM] q6.2) (
 pr.round z (.exit 0) [(getL q6.1 0), (getL q6.1 1), (getL q6.1 2)] q6.2)) ([(i 0), (i 0), (i 0)], z)).bind fun r6 =>
 exIf r6.1 (.exit 0) (
 bn .sub (i 65535) (getL r6.2.1 0) fun vP =>
 pr.fin none r6.2.2 [vP]) (none)
theorem F_sum_Of_eq (g : Call) (a0 : LV) : fnEv g c_sum_Of [a0] none = F_sum_Of g a0 := by kernel_rfl
noncomputable def F_fault_turn4 (g : Call) (a0 : LV) (a1 : LV) (a2 : LV) (a3 : LV) : Option (LV × Option LV) :=
 bx a0 fun v0 =>
 bx a2 fun v1 =>
 bx a3 fun v2 =>
 fA 8 38 v0 fun v4 =>
 l1 z v4 fun v5 =>
 bn .gtr v5 (i 0) fun v6 =>
 condK v6 (
 fA 11 41 v0 fun v8 =>
 l1 z v8 fun v9 =>
 pr.fin none z [v9]) (
 fA 10 40 v0 fun vB =>
 l1 z vB fun vC =>
 bn .eql vC (i 6) fun vD =>
 ff vD 10 40 v0 fun vF =>
 fl vD z vF fun vG =>
 fb vD .eql vG (i 17) fun vH =>
 pF vD vH fun vI =>
 condK vI (
 fA 10 40 v0 fun vK =>
 l1 z vK fun vL =>
 fA 11 41 v0 fun vM =>
 l1 z vM fun vN =>
 fA 3 3 v0 fun vO =>
 sV 16 z vO none none fun vP =>
 bS z vP fun vQ =>
 fA 4 19 v0 fun vR =>
 sV 16 z vR none none fun vS =>
 bS z vS fun vT =>
 bn .add vQ vT fun vU =>
 fA 0 0 v1 fun vV =>
 sV 4 z vV none none fun vW =>
 bS z vW fun vX =>
 fA 0 0 v2 fun vY =>
 sV 4 z vY none none fun vZ =>
 bS z vZ fun va =>
 bn .add vX va fun vb =>
 fA 1 4 v1 fun vc =>
 l1 z vc fun vd =>
 fA 1 4 v2 fun ve =>
 l1 z ve fun vf =>
 cl g id_fault_ported z [vL, vN, vU, vb, vd, vf] fun vg =>
 pr.fin none z [vg]) (
 fA 10 40 v0 fun vi =>
 l1 z vi fun vj =>
 bn .eql vj (i 58) fun vk =>
 tf vk 11 41 v0 fun vm =>
 tl vk z vm fun vn =>
 gT vk (pr.len true vn) fun vo =>
 tb vk .geq vo (i 8) fun vp =>
 pT vk vp fun vq =>
 condK vq (
 (pr.mapNew 58 z).bind fun vs =>
 (pr.mapIns (some .u8) vs.2 vs.1 (LV.int .u8 128) (i 8)).bind fun vt =>
 (pr.mapIns (some .u8) vt.2 vs.1 (LV.int .u8 129) (i 0)).bind fun vu =>
 fA 11 41 v0 fun vw =>
 l1 vu.2 vw fun vx =>
 xS vx (i 0) fun vy =>
 (pr.mapGet (some .u8) (i 0) true vu.2 vs.1 vy).bind fun vz =>
 ex vz 0 fun v01 =>
 ex vz 1 fun v02 =>
 tf v02 11 41 v0 fun v07 =>
 tl v02 vu.2 v07 fun v08 =>
 gT v02 (pr.idxStr v08 (i 1)) fun v09 =>
 tb v02 .eql v09 (LV.int .u8 0) fun v0A =>
 pT v02 v0A fun v0B =>
 condK v0B (
 fA 11 41 v0 fun v0C =>
 l1 vu.2 v0C fun v0D =>
 fA 3 3 v0 fun v0E =>
 lA 16 vu.2 v0E fun v0F =>
 fA 4 19 v0 fun v0G =>
 lA 16 vu.2 v0G fun v0H =>
 cl g id_sum_Pseudo6 vu.2 [v0F, v0H, (i 58), a1] fun v0J =>
 fA 1 4 v1 fun v0L =>
 l1 vu.2 v0L fun v0M =>
 cl g id_fault_echoed vu.2 [v0D, v0J, (LV.str []), v01, v0M] fun v0N =>
 pr.fin none vu.2 [v0N]) (
 fA 11 41 v0 fun v0P =>
 l1 vu.2 v0P fun v0Q =>
 pr.fin none vu.2 [v0Q])) (
 fA 11 41 v0 fun v0S =>
 l1 z v0S fun v0T =>
 pr.fin none z [v0T])))
theorem F_fault_turn4_eq (g : Call) (a0 : LV) (a1 : LV) (a2 : LV) (a3 : LV) : fnEv g c_fault_turn4 [a0, a1, a2, a3] none = F_fault_turn4 g a0 a1 a2 a3 := by kernel_rfl
noncomputable def F_ip4_fault (g : Call) (a0 : LV) : Option (LV × Option LV) :=
 (pr.parts (LV.agg [(i 0), (i 0)]) [(0, a0)]).bind fun v2 =>
 bx v2 fun v3 =>
 (pr.iface ty_ptr_num_Fault v3).bind fun v4 =>
 pr.fin none z [v4]
theorem F_ip4_fault_eq (g : Call) (a0 : LV) : fnEv g c_ip4_fault [a0] none = F_ip4_fault g a0 := by kernel_rfl
noncomputable def F_ip4_Parse_1 (g : Call) (a0 : LV) (a1 : LV) : Option (LV × Option LV) :=
 l1 z a1 fun v1 =>
 xS v1 a0 fun v3 =>
 (pr.conv .i64 v3).bind fun v4 =>
 bn .shl v4 (LV.int .u64 8) fun v5 =>
 l1 z a1 fun v6 =>
 bn .add a0 (i 1) fun v8 =>
 xS v6 v8 fun v9 =>
 (pr.conv .i64 v9).bind fun vA =>
 bn .or v5 vA fun vB =>
 pr.fin none z [vB]
theorem F_ip4_Parse_1_eq (g : Call) (a0 : LV) (a1 : LV) : fnEv g c_ip4_Parse_1 [a0, a1] none = F_ip4_Parse_1 g a0 a1 := by kernel_rfl
noncomputable def F_ip4_why (g : Call) (a0 : LV) : Option (LV × Option LV) :=
 bx a0 fun v0 =>
 fA 0 0 v0 fun v2 =>
 l1 z v2 fun v3 =>
 fA 2 2 v0 fun v4 =>
 l1 z v4 fun v5 =>
 fA 3 3 v0 fun v6 =>
 l1 z v6 fun v7 =>
 (pr.bsl (i 0) 3 [(0, v3), (1, v5), (2, v7)]).bind fun v8 =>
 cl g id_ip4_byteful z [v8] fun v9 =>
 nt v9 fun vA =>
 ff vA 1 1 v0 fun vC =>
 fl vA z vC fun vD =>
 fb vA .lss vD (i 0) fun vE =>
 pF vA vE fun vF =>
 ff vF 1 1 v0 fun vH =>
 fl vF z vH fun vI =>
 fb vF .gtr vI (i 65535) fun vJ =>
 pF vF vJ fun vK =>
 ff vK 4 4 v0 fun vM =>
 fl vK z vM fun vN =>
 fb vK .lss vN (i 0) fun vO =>
 pF vK vO fun vP =>
 ff vP 4 4 v0 fun vR =>
 fl vP z vR fun vS =>
 fb vP .gtr vS (i 65528) fun vT =>
 pF vP vT fun vU =>
 ff vU 4 4 v0 fun vW =>
 fl vU z vW fun vX =>
 fb vU .rem vX (i 8) fun vY =>
 fb vU .neq vY (i 0) fun vZ =>
 pF vU vZ fun va =>
 condK va (
 pr.fin none z [(i 13)]) (
 fA 9 15 v0 fun vd =>
 l1 z vd fun ve =>
 ln ve fun vf =>
 bn .gtr vf (i 40) fun vg =>
 ff vg 9 15 v0 fun vi =>
 fl vg z vi fun vj =>
 gF vg (pr.len true vj) fun vk =>
 fb vg .rem vk (i 4) fun vl =>
 fb vg .neq vl (i 0) fun vm =>
 pF vg vm fun vn =>
 ff vn 6 6 v0 fun vp =>
 fl vn z vp fun vq =>
 fs vn vq fun vr =>
 tf vr 10 16 v0 fun vs =>
 tl vr z vs fun vt =>
 tb vr .eql vt (LV.str []) fun vu =>
 ts vr vu fun vv =>
 ff vv 10 16 v0 fun vw =>
 fl vv z vw fun vx =>
 gF vv (pr.len true vx) fun vy =>
 fb vv .rem vy (i 8) fun vz =>
 fb vv .neq vz (i 0) fun v00 =>
 gT vr (pr.pick vv (LV.bool true) v00) fun v01 =>
 gF vn (pr.pick vr v01 (LV.bool false)) fun v02 =>
 pF vn v02 fun v03 =>
 condK v03 (
 pr.fin none z [(i 8)]) (
 fA 10 16 v0 fun v06 =>
 l1 z v06 fun v07 =>
 ln v07 fun v08 =>
 fA 9 15 v0 fun v09 =>
 l1 z v09 fun v0A =>
 ln v0A fun v0B =>
 bn .sub (i 65515) v0B fun v0C =>
 fA 4 4 v0 fun v0D =>
 l1 z v0D fun v0E =>
 bn .sub v0C v0E fun v0F =>
 bn .gtr v08 v0F fun v0G =>
 condK v0G (
 pr.fin none z [(i 3)]) (
 pr.fin none z [(i 0)])))
theorem F_ip4_why_eq (g : Call) (a0 : LV) : fnEv g c_ip4_why [a0] none = F_ip4_why g a0 := by kernel_rfl
noncomputable def F_interpreterref03_Why (g : Call) (a0 : LV) : Option (LV × Option LV) :=
 bx a0 fun v0 =>
 fA 0 0 v0 fun v2 =>
 l1 z v2 fun v3 =>
 cl g id_interpreterref03_within z [v3, (i 255)] fun v4 =>
 nt v4 fun v5 =>
 ff v5 2 2 v0 fun v7 =>
 fl v5 z v7 fun v8 =>
 gF v5 (pr.call g id_interpreterref03_within z [v8, (i 255)]) fun v9 =>
 gF v5 (pr.un .not v9) fun vA =>
 pF v5 vA fun vB =>
 ff vB 3 3 v0 fun vD =>
 fl vB z vD fun vE =>
 gF vB (pr.call g id_interpreterref03_within z [vE, (i 255)]) fun vF =>
 gF vB (pr.un .not vF) fun vG =>
 pF vB vG fun vH =>
 ff vH 1 1 v0 fun vJ =>
 fl vH z vJ fun vK =>
 gF vH (pr.call g id_interpreterref03_within z [vK, (i 65535)]) fun vL =>
 gF vH (pr.un .not vL) fun vM =>
 pF vH vM fun vN =>
 ff vN 4 4 v0 fun vP =>
 fl vN z vP fun vQ =>
 gF vN (pr.call g id_interpreterref03_within z [vQ, (i 65528)]) fun vR =>
 gF vN (pr.un .not vR) fun vS =>
 pF vN vS fun vT =>
 ff vT 4 4 v0 fun vV =>
 fl vT z vV fun vW =>
 fb vT .rem vW (i 8) fun vX =>
 fb vT .neq vX (i 0) fun vY =>
 pF vT vY fun vZ =>
 condK vZ (
 pr.fin none z [(i 13)]) (
 fA 9 15 v0 fun vb =>
 l1 z vb fun vc =>
 ln vc fun vd =>
 bn .gtr vd (i 40) fun ve =>
 ff ve 9 15 v0 fun vg =>
 fl ve z vg fun vh =>
 gF ve (pr.len true vh) fun vi =>
 fb ve .rem vi (i 4) fun vj =>
 fb ve .neq vj (i 0) fun vk =>
 pF ve vk fun vl =>
 condK vl (
 pr.fin none z [(i 8)]) (
 fA 6 6 v0 fun vn =>
 l1 z vn fun vo =>
 tf vo 10 16 v0 fun vq =>
 tl vo z vq fun vr =>
 gT vo (pr.len true vr) fun vs =>
 tb vo .eql vs (i 0) fun vt =>
 ts vo vt fun vu =>
 ff vu 10 16 v0 fun vv =>
 fl vu z vv fun vw =>
 gF vu (pr.len true vw) fun vx =>
 fb vu .rem vx (i 8) fun vy =>
 fb vu .neq vy (i 0) fun vz =>
 gT vo (pr.pick vu (LV.bool true) vz) fun v00 =>
 pT vo v00 fun v01 =>
 condK v01 (
 pr.fin none z [(i 8)]) (
 fA 9 15 v0 fun v03 =>
 l1 z v03 fun v04 =>
 ln v04 fun v05 =>
 bn .add (i 20) v05 fun v06 =>
 fA 4 4 v0 fun v07 =>
 l1 z v07 fun v08 =>
 bn .add v06 v08 fun v09 =>
 fA 10 16 v0 fun v0A =>
 l1 z v0A fun v0B =>
 ln v0B fun v0C =>
 bn .add v09 v0C fun v0D =>
 bn .gtr v0D (i 65535) fun v0E =>
 condK v0E (
 pr.fin none z [(i 3)]) (
 pr.fin none z [(i 0)]))))
theorem F_interpreterref03_Why_eq (g : Call) (a0 : LV) : fnEv g c_interpreterref03_Why [a0] none = F_interpreterref03_Why g a0 := by kernel_rfl
noncomputable def F_interpreterref02_Of (g : Call) (a0 : LV) : Option (LV × Option LV) :=
 cl g id_interpreterref02_Words z [a0] fun v2 =>
 cl g id_interpreterref02_Total z [v2] fun v3 =>
 bn .sub (i 65535) v3 fun v4 =>
 pr.fin none z [v4]
theorem F_interpreterref02_Of_eq (g : Call) (a0 : LV) : fnEv g c_interpreterref02_Of [a0] none = F_interpreterref02_Of g a0 := by kernel_rfl
noncomputable def F_icmp4_Failure (g : Call) (a0 : LV) : Option (LV × Option LV) :=
 bx a0 fun v0 =>
 fA 0 0 v0 fun v2 =>
 l1 z v2 fun v3 =>
 bn .eql v3 (i 3) fun v4 =>
 condK v4 (
 condK v4 (
 pr.fin none z [(LV.bool true)]) (
 pr.fin none z [(LV.bool false)])) (
 bn .eql v3 (i 4) fun v8 =>
 condK v8 (
 condK v8 (
 pr.fin none z [(LV.bool true)]) (
 pr.fin none z [(LV.bool false)])) (
 bn .eql v3 (i 5) fun vC =>
 condK vC (
 condK vC (
 pr.fin none z [(LV.bool true)]) (
 pr.fin none z [(LV.bool false)])) (
 bn .eql v3 (i 11) fun vG =>
 condK vG (
 condK vG (
 pr.fin none z [(LV.bool true)]) (
 pr.fin none z [(LV.bool false)])) (
 bn .eql v3 (i 12) fun vK =>
 condK vK (
 pr.fin none z [(LV.bool true)]) (
 pr.fin none z [(LV.bool false)])))))
theorem F_icmp4_Failure_eq (g : Call) (a0 : LV) : fnEv g c_icmp4_Failure [a0] none = F_icmp4_Failure g a0 := by kernel_rfl
noncomputable def F_class_Martian4 (g : Call) (a0 : LV) : Option (LV × Option LV) :=
 bx a0 fun v0 =>
 (pr.idxAddr (some 4) 1 v0 (i 0)).bind fun v2 =>
 l1 z v2 fun v3 =>
 bn .eql v3 (LV.int .u8 0) fun v4 =>
 gF v4 (pr.idxAddr (some 4) 1 v0 (i 0)) fun v6 =>
 fl v4 z v6 fun v7 =>
 fb v4 .eql v7 (LV.int .u8 127) fun v8 =>
 pF v4 v8 fun v9 =>
 gF v9 (pr.idxAddr (some 4) 1 v0 (i 0)) fun vB =>
 fl v9 z vB fun vC =>
 fb v9 .geq vC (LV.int .u8 224) fun vD =>
 pF v9 vD fun vE =>
 gF vE (pr.idxAddr (some 4) 1 v0 (i 0)) fun vG =>
 fl vE z vG fun vH =>
 fb vE .eql vH (LV.int .u8 169) fun vI =>
 fs vE vI fun vJ =>
 gT vJ (pr.idxAddr (some 4) 1 v0 (i 1)) fun vK =>
 tl vJ z vK fun vL =>
 tb vJ .eql vL (LV.int .u8 254) fun vM =>
 gF vE (pr.pick vJ vM (LV.bool false)) fun vN =>
 pF vE vN fun vO =>
 pr.fin none z [vO]
theorem F_class_Martian4_eq (g : Call) (a0 : LV) : fnEv g c_class_Martian4 [a0] none = F_class_Martian4 g a0 := by kernel_rfl
noncomputable def F_fault_beginning (g : Call) (a0 : LV) (a1 : LV) (a2 : LV) : Option (LV × Option LV) :=
 ln a0 fun v3 =>
 (pr.minmax false v3 [a2]).bind fun v5 =>
 (pr.minmax true v5 [(i 0)]).bind fun v9 =>
 sl a0 none (some v9) fun vA =>
 bn .add a1 (i 8) fun vD =>
 ln a0 fun vF =>
 (pr.minmax false vD [vF]).bind fun vG =>
 bn .geq v5 vG fun vH =>
 pr.fin none z [vA, vH]
theorem F_fault_beginning_eq (g : Call) (a0 : LV) (a1 : LV) (a2 : LV) : fnEv g c_fault_beginning [a0, a1, a2] none = F_fault_beginning g a0 a1 a2 := by kernel_rfl
noncomputable def F_icmp4_Bytes (g : Call) (a0 : LV) : Option (LV × Option LV) :=
 bx a0 fun v0 =>
 fA 0 0 v0 fun v3 =>
 l1 z v3 fun v4 =>
 cl g id_num_Big z [v4, (i 1)] fun v5 =>
 ex v5 0 fun v7 =>
 ex v5 1 fun v8 =>
 eN 1 true v8 fun vC =>
 condK vC (
 pr.fin none z [(LV.str []), v8]) (
 fA 1 1 v0 fun vG =>
 l1 z vG fun vH =>
 cl g id_num_Big z [vH, (i 1)] fun vI =>
 ex vI 0 fun vK =>
 ex vI 1 fun vL =>
 eN 1 true vL fun vP =>
 condK vP (
 pr.fin none z [(LV.str []), vL]) (
 fA 2 2 v0 fun vT =>
 l1 z vT fun vU =>
 (pr.conv .i64 vU).bind fun vV =>
 cl g id_num_Big z [vV, (i 4)] fun vW =>
 ex vW 0 fun vY =>
 ex vW 1 fun vZ =>
 eN 1 true vZ fun vd =>
 condK vd (
 pr.fin none z [(LV.str []), vZ]) (
 fA 3 3 v0 fun vk =>
 l1 z vk fun vl =>
 (pr.bsl (LV.str []) 5 [(0, v7), (1, vK), (2, (LV.str [0, 0])), (3, vY), (4, vl)]).bind fun vm =>
 cl g id_sum_Of z [vm] fun vn =>
 cl g id_num_Big z [vn, (i 2)] fun vo =>
 ex vo 0 fun vq =>
 ex vo 1 fun vr =>
 bn .add v7 vK fun vw =>
 bn .add vw vq fun vy =>
 bn .add vy vY fun v00 =>
 fA 3 3 v0 fun v01 =>
 l1 z v01 fun v02 =>
 bn .add v00 v02 fun v03 =>
 pr.fin none z [v03, vr])))
theorem F_icmp4_Bytes_eq (g : Call) (a0 : LV) : fnEv g c_icmp4_Bytes [a0] none = F_icmp4_Bytes g a0 := by kernel_rfl
noncomputable def F_ip4_Bytes (g : Call) (a0 : LV) : Option (LV × Option LV) :=
 bx a0 fun v0 =>
 lA 17 z v0 fun v3 =>
 cl g id_ip4_why z [v3] fun v4 =>
 bn .neq v4 (i 0) fun v7 =>
 condK v7 (
 cl g id_ip4_fault z [v4] fun v9 =>
 pr.fin none z [(LV.str []), v9]) (
 fA 4 4 v0 fun vC =>
 l1 z vC fun vD =>
 bn .quo vD (i 8) fun vE =>
 fA 5 5 v0 fun vG =>
 l1 z vG fun vH =>
 condK vH (
 bn .or vE (i 16384) fun vJ =>
 fA 6 6 v0 fun vL =>
 l1 z vL fun vM =>
 condK vM (
 bn .or vJ (i 8192) fun vO =>
 fA 9 15 v0 fun vQ =>
 l1 z vQ fun vR =>
 ln vR fun vS =>
 bn .add (i 20) vS fun vT =>
 bn .quo vT (i 4) fun vW =>
 bn .add (i 64) vW fun vX =>
 cl g id_ip4_big z [vX, (i 1)] fun vY =>
 fA 0 0 v0 fun vZ =>
 l1 z vZ fun va =>
 cl g id_ip4_big z [va, (i 1)] fun vb =>
 bn .add vY vb fun vc =>
 fA 10 16 v0 fun ve =>
 l1 z ve fun vf =>
 ln vf fun vg =>
 bn .add vT vg fun vh =>
 cl g id_ip4_big z [vh, (i 2)] fun vi =>
 bn .add vc vi fun vj =>
 fA 1 1 v0 fun vk =>
 l1 z vk fun vl =>
 cl g id_ip4_big z [vl, (i 2)] fun vm =>
 bn .add vj vm fun vn =>
 cl g id_ip4_big z [vO, (i 2)] fun vp =>
 bn .add vn vp fun vq =>
 fA 2 2 v0 fun vr =>
 l1 z vr fun vs =>
 cl g id_ip4_big z [vs, (i 1)] fun vt =>
 bn .add vq vt fun vu =>
 fA 3 3 v0 fun vv =>
 l1 z vv fun vw =>
 cl g id_ip4_big z [vw, (i 1)] fun vx =>
 bn .add vu vx fun vy =>
 fA 7 7 v0 fun v00 =>
 sV 4 z v00 none none fun v01 =>
 bS z v01 fun v02 =>
 fA 8 11 v0 fun v03 =>
 sV 4 z v03 none none fun v04 =>
 bS z v04 fun v05 =>
 bn .add v02 v05 fun v06 =>
 fA 9 15 v0 fun v07 =>
 l1 z v07 fun v08 =>
 bn .add v06 v08 fun v09 =>
 (pr.bsl (LV.str []) 2 [(0, vy), (1, v09)]).bind fun v0E =>
 cl g id_sum_Of z [v0E] fun v0F =>
 cl g id_ip4_big z [v0F, (i 2)] fun v0G =>
 bn .add vy v0G fun v0H =>
 bn .add v0H v09 fun v0J =>
 fA 10 16 v0 fun v0K =>
 l1 z v0K fun v0L =>
 bn .add v0J v0L fun v0M =>
 pr.fin none z [v0M, LV.nili]) (
 fA 9 15 v0 fun v0P =>
 l1 z v0P fun v0Q =>
 ln v0Q fun v0R =>
 bn .add (i 20) v0R fun v0S =>
 bn .quo v0S (i 4) fun v0V =>
 bn .add (i 64) v0V fun v0W =>
 cl g id_ip4_big z [v0W, (i 1)] fun v0X =>
 fA 0 0 v0 fun v0Y =>
 l1 z v0Y fun v0Z =>
 cl g id_ip4_big z [v0Z, (i 1)] fun v0a =>
 bn .add v0X v0a fun v0b =>
 fA 10 16 v0 fun v0d =>
 l1 z v0d fun v0e =>
 ln v0e fun v0f =>
 bn .add v0S v0f fun v0g =>
 cl g id_ip4_big z [v0g, (i 2)] fun v0h =>
 bn .add v0b v0h fun v0i =>
 fA 1 1 v0 fun v0j =>
 l1 z v0j fun v0k =>
 cl g id_ip4_big z [v0k, (i 2)] fun v0l =>
 bn .add v0i v0l fun v0m =>
 cl g id_ip4_big z [vJ, (i 2)] fun v0o =>
 bn .add v0m v0o fun v0p =>
 fA 2 2 v0 fun v0q =>
 l1 z v0q fun v0r =>
 cl g id_ip4_big z [v0r, (i 1)] fun v0s =>
 bn .add v0p v0s fun v0t =>
 fA 3 3 v0 fun v0u =>
 l1 z v0u fun v0v =>
 cl g id_ip4_big z [v0v, (i 1)] fun v0w =>
 bn .add v0t v0w fun v0x =>
 fA 7 7 v0 fun v0z =>
 sV 4 z v0z none none fun v10 =>
 bS z v10 fun v11 =>
 fA 8 11 v0 fun v12 =>
 sV 4 z v12 none none fun v13 =>
 bS z v13 fun v14 =>
 bn .add v11 v14 fun v15 =>
 fA 9 15 v0 fun v16 =>
 l1 z v16 fun v17 =>
 bn .add v15 v17 fun v18 =>
 (pr.bsl (LV.str []) 2 [(0, v0x), (1, v18)]).bind fun v1D =>
 cl g id_sum_Of z [v1D] fun v1E =>
 cl g id_ip4_big z [v1E, (i 2)] fun v1F =>
 bn .add v0x v1F fun v1G =>
 bn .add v1G v18 fun v1I =>
 fA 10 16 v0 fun v1J =>
 l1 z v1J fun v1K =>
 bn .add v1I v1K fun v1L =>
 pr.fin none z [v1L, LV.nili])) (
 fA 6 6 v0 fun v1O =>
 l1 z v1O fun v1P =>
 condK v1P (
 bn .or vE (i 8192) fun v1R =>
 fA 9 15 v0 fun v1T =>
 l1 z v1T fun v1U =>
 ln v1U fun v1V =>
 bn .add (i 20) v1V fun v1W =>
 bn .quo v1W (i 4) fun v1Z =>
 bn .add (i 64) v1Z fun v1a =>
 cl g id_ip4_big z [v1a, (i 1)] fun v1b =>
 fA 0 0 v0 fun v1c =>
 l1 z v1c fun v1d =>
 cl g id_ip4_big z [v1d, (i 1)] fun v1e =>
 bn .add v1b v1e fun v1f =>
 fA 10 16 v0 fun v1h =>
 l1 z v1h fun v1i =>
 ln v1i fun v1j =>
 bn .add v1W v1j fun v1k =>
 cl g id_ip4_big z [v1k, (i 2)] fun v1l =>
 bn .add v1f v1l fun v1m =>
 fA 1 1 v0 fun v1n =>
 l1 z v1n fun v1o =>
 cl g id_ip4_big z [v1o, (i 2)] fun v1p =>
 bn .add v1m v1p fun v1q =>
 cl g id_ip4_big z [v1R, (i 2)] fun v1s =>
 bn .add v1q v1s fun v1t =>
 fA 2 2 v0 fun v1u =>
 l1 z v1u fun v1v =>
 cl g id_ip4_big z [v1v, (i 1)] fun v1w =>
 bn .add v1t v1w fun v1x =>
 fA 3 3 v0 fun v1y =>
 l1 z v1y fun v1z =>
 cl g id_ip4_big z [v1z, (i 1)] fun v20 =>
 bn .add v1x v20 fun v21 =>
 fA 7 7 v0 fun v23 =>
 sV 4 z v23 none none fun v24 =>
 bS z v24 fun v25 =>
 fA 8 11 v0 fun v26 =>
 sV 4 z v26 none none fun v27 =>
 bS z v27 fun v28 =>
 bn .add v25 v28 fun v29 =>
 fA 9 15 v0 fun v2A =>
 l1 z v2A fun v2B =>
 bn .add v29 v2B fun v2C =>
 (pr.bsl (LV.str []) 2 [(0, v21), (1, v2C)]).bind fun v2H =>
 cl g id_sum_Of z [v2H] fun v2I =>
 cl g id_ip4_big z [v2I, (i 2)] fun v2J =>
 bn .add v21 v2J fun v2K =>
 bn .add v2K v2C fun v2M =>
 fA 10 16 v0 fun v2N =>
 l1 z v2N fun v2O =>
 bn .add v2M v2O fun v2P =>
 pr.fin none z [v2P, LV.nili]) (
 fA 9 15 v0 fun v2S =>
 l1 z v2S fun v2T =>
 ln v2T fun v2U =>
 bn .add (i 20) v2U fun v2V =>
 bn .quo v2V (i 4) fun v2Y =>
 bn .add (i 64) v2Y fun v2Z =>
 cl g id_ip4_big z [v2Z, (i 1)] fun v2a =>
 fA 0 0 v0 fun v2b =>
 l1 z v2b fun v2c =>
 cl g id_ip4_big z [v2c, (i 1)] fun v2d =>
 bn .add v2a v2d fun v2e =>
 fA 10 16 v0 fun v2g =>
 l1 z v2g fun v2h =>
 ln v2h fun v2i =>
 bn .add v2V v2i fun v2j =>
 cl g id_ip4_big z [v2j, (i 2)] fun v2k =>
 bn .add v2e v2k fun v2l =>
 fA 1 1 v0 fun v2m =>
 l1 z v2m fun v2n =>
 cl g id_ip4_big z [v2n, (i 2)] fun v2o =>
 bn .add v2l v2o fun v2p =>
 cl g id_ip4_big z [vE, (i 2)] fun v2r =>
 bn .add v2p v2r fun v2s =>
 fA 2 2 v0 fun v2t =>
 l1 z v2t fun v2u =>
 cl g id_ip4_big z [v2u, (i 1)] fun v2v =>
 bn .add v2s v2v fun v2w =>
 fA 3 3 v0 fun v2x =>
 l1 z v2x fun v2y =>
 cl g id_ip4_big z [v2y, (i 1)] fun v2z =>
 bn .add v2w v2z fun v30 =>
 fA 7 7 v0 fun v32 =>
 sV 4 z v32 none none fun v33 =>
 bS z v33 fun v34 =>
 fA 8 11 v0 fun v35 =>
 sV 4 z v35 none none fun v36 =>
 bS z v36 fun v37 =>
 bn .add v34 v37 fun v38 =>
 fA 9 15 v0 fun v39 =>
 l1 z v39 fun v3A =>
 bn .add v38 v3A fun v3B =>
 (pr.bsl (LV.str []) 2 [(0, v30), (1, v3B)]).bind fun v3G =>
 cl g id_sum_Of z [v3G] fun v3H =>
 cl g id_ip4_big z [v3H, (i 2)] fun v3I =>
 bn .add v30 v3I fun v3J =>
 bn .add v3J v3B fun v3L =>
 fA 10 16 v0 fun v3M =>
 l1 z v3M fun v3N =>
 bn .add v3L v3N fun v3O =>
 pr.fin none z [v3O, LV.nili])))
theorem F_ip4_Bytes_eq (g : Call) (a0 : LV) : fnEv g c_ip4_Bytes [a0] none = F_ip4_Bytes g a0 := by kernel_rfl
noncomputable def F_interpreterref03_number (g : Call) (a0 : LV) (a1 : LV) : Option (LV × Option LV) :=
 (pr.parts (LV.agg [(LV.str []), (i 0), (i 0), (i 0)]) [(0, a0), (1, a1)]).bind fun v3 =>
 (pr.boxM v3 11 z).bind fun v4 =>
 (pr.callRw g id_interpreterref01_Reader_Number v4.2 [v4.1, (i 2)]).bind fun v7 =>
 ex v7.1 0 fun v9 =>
 ex v7.1 1 fun vA =>
 pr.fin none v7.2 [v9]
theorem F_interpreterref03_number_eq (g : Call) (a0 : LV) (a1 : LV) : fnEv g c_interpreterref03_number [a0, a1] none = F_interpreterref03_number g a0 a1 := by kernel_rfl
noncomputable def F_num_Big (g : Call) (a0 : LV) (a1 : LV) : Option (LV × Option LV) :=
 bn .neq a1 (i 1) fun v3 =>
 ts v3 a1 fun v5 =>
 tb v3 .neq v5 (i 2) fun v6 =>
 pT v3 v6 fun v7 =>
 ts v7 a1 fun v9 =>
 tb v7 .neq v9 (i 4) fun vA =>
 pT v7 vA fun vB =>
 condK vB (
 (pr.parts (LV.agg [(i 0), (i 0)]) [(0, (i 1))]).bind fun vD =>
 bx vD fun vE =>
 (pr.iface ty_ptr_num_Fault vE).bind fun vF =>
 pr.fin none z [(LV.str []), vF]) (
 bn .lss a0 (i 0) fun vJ =>
 fs vJ a0 fun vL =>
 fs vJ a1 fun vM =>
 fb vJ .mul (i 8) vM fun vN =>
 fb vJ .shl (i 1) vN fun vO =>
 fb vJ .geq vL vO fun vP =>
 pF vJ vP fun vQ =>
 condK vQ (
 (pr.parts (LV.agg [(i 0), (i 0)]) [(0, (i 13))]).bind fun vS =>
 bx vS fun vT =>
 (pr.iface ty_ptr_num_Fault vT).bind fun vU =>
 pr.fin none z [(LV.str []), vU]) (
 (pr.mkSl 36 z a1 a1).bind fun vY =>
 (whileW (fun q38 : List LV × Slots =>
 bn .lss (getL q38.1 0) a1 fun vd =>
 condK vd (
 bn .sub a1 (i 1) fun vk =>
 bn .sub vk (getL q38.1 0) fun vm =>
 bn .mul (i 8) vm fun vn =>
 bn .shr a0 vn fun vo =>
 (pr.conv .u8 vo).bind fun vp =>
 (pr.idxAddr none 1 vY.1 (getL q38.1 0)).bind fun vq =>
 s1 q38.2 vq vp fun vr =>
 bn .add (getL q38.1 0) (i 1) fun vs =>
 pr.round vY.2 .normal [vs] vr.2) (
 pr.round vY.2 (.exit 1) [(getL q38.1 0)] q38.2)) ([(i 0)], vY.2)).bind fun r38 =>
 exIf r38.1 (.exit 1) (
 bS r38.2.2 vY.1 fun vv =>
 pr.fin none r38.2.2 [vv, LV.nili]) (none)))
theorem F_num_Big_eq (g : Call) (a0 : LV) (a1 : LV) : fnEv g c_num_Big [a0, a1] none = F_num_Big g a0 a1 := by kernel_rfl
noncomputable def F_fault_ported (g : Call) (a0 : LV) (a1 : LV) (a2 : LV) (a3 : LV) (a4 : LV) (a5 : LV) : Option (LV × Option LV) :=
 ln a1 fun v2 =>
 bn .lss v2 (i 4) fun v3 =>
 condK v3 (
 pr.fin none z [a1]) (
 cl g id_fault_big z [a4, (i 2)] fun v7 =>
 cl g id_fault_big z [a5, (i 2)] fun v9 =>
 bn .add v7 v9 fun vA =>
 sl a1 none (some (i 4)) fun vD =>
 sl a1 (some (i 4)) none fun vH =>
 bn .add vA vH fun vI =>
 bn .eql a0 (i 17) fun vL =>
 condK vL (
 bn .add a2 vD fun vP =>
 bn .add a3 vA fun vS =>
 cl g id_fault_update z [vI, (i 6), vP, vS, (LV.bool true)] fun vT =>
 pr.fin none z [vT]) (
 bn .add a2 vD fun vY =>
 bn .add a3 vA fun vb =>
 cl g id_fault_update z [vI, (i 16), vY, vb, (LV.bool false)] fun vc =>
 pr.fin none z [vc]))
theorem F_fault_ported_eq (g : Call) (a0 : LV) (a1 : LV) (a2 : LV) (a3 : LV) (a4 : LV) (a5 : LV) : fnEv g c_fault_ported [a0, a1, a2, a3, a4, a5] none = F_fault_ported g a0 a1 a2 a3 a4 a5 := by kernel_rfl
noncomputable def F_fault_echoed (g : Call) (a0 : LV) (a1 : LV) (a2 : LV) (a3 : LV) (a4 : LV) : Option (LV × Option LV) :=
 sl a0 none (some (i 2)) fun v2 =>
 sl a0 (some (i 4)) (some (i 6)) fun v4 =>
 bn .add v2 v4 fun v5 =>
 cl g id_fault_big z [a3, (i 1)] fun v8 =>
 bn .add v8 (LV.str [0]) fun v9 =>
 sl a0 (some (i 2)) (some (i 4)) fun vD =>
 bn .add v9 vD fun vE =>
 cl g id_fault_big z [a4, (i 2)] fun vG =>
 bn .add vE vG fun vH =>
 sl a0 (some (i 6)) none fun vJ =>
 bn .add vH vJ fun vK =>
 bn .add a1 v5 fun vP =>
 bn .add a2 v9 fun vS =>
 cl g id_fault_big z [a4, (i 2)] fun vU =>
 bn .add vS vU fun vV =>
 cl g id_fault_update z [vK, (i 2), vP, vV, (LV.bool false)] fun vW =>
 pr.fin none z [vW]
theorem F_fault_echoed_eq (g : Call) (a0 : LV) (a1 : LV) (a2 : LV) (a3 : LV) (a4 : LV) : fnEv g c_fault_echoed [a0, a1, a2, a3, a4] none = F_fault_echoed g a0 a1 a2 a3 a4 := by kernel_rfl
noncomputable def F_num_Reader_number (g : Call) (h : LV) (a1 : LV) : Option (LV × Option LV) :=
 (pr.callRw g id_num_Reader_Text (upd z 0 (.obj 0 h)) [(LV.ptr 0 0 [] 0), a1]).bind fun v4 =>
 ex v4.1 0 fun v6 =>
 ex v4.1 1 fun v7 =>
 ln v6 fun vC =>
 (whileW (fun q14 : List LV × Slots =>
 bn .lss (getL q14.1 1) vC fun vF =>
 condK vF (
 bn .shl (getL q14.1 0) (LV.int .u64 8) fun vJ =>
 xS v6 (getL q14.1 1) fun vM =>
 (pr.conv .i64 vM).bind fun vN =>
 bn .or vJ vN fun vO =>
 bn .add (getL q14.1 1) (i 1) fun vQ =>
 pr.round v4.2 .normal [vO, vQ] q14.2) (
 pr.round v4.2 (.exit 0) [(getL q14.1 0), (getL q14.1 1)] q14.2)) ([(i 0), (i 0)], v4.2)).bind fun r14 =>
 exIf r14.1 (.exit 0) (
 pr.fin (some h) r14.2.2 [(getL r14.2.1 0), v7]) (none)
theorem F_num_Reader_number_eq (g : Call) (h : LV) (a1 : LV) : fnEv g c_num_Reader_number [(LV.ptr 0 0 [] 0), a1] (some h) = F_num_Reader_number g h a1 := by kernel_rfl
noncomputable def F_ip6_extends (g : Call) (a0 : LV) : Option (LV × Option LV) :=
 bn .eql a0 (i 0) fun v2 =>
 fs v2 a0 fun v4 =>
 fb v2 .eql v4 (i 43) fun v5 =>
 pF v2 v5 fun v6 =>
 fs v6 a0 fun v8 =>
 fb v6 .eql v8 (i 60) fun v9 =>
 pF v6 v9 fun vA =>
 pr.fin none z [vA]
theorem F_ip6_extends_eq (g : Call) (a0 : LV) : fnEv g c_ip6_extends [a0] none = F_ip6_extends g a0 := by kernel_rfl
noncomputable def F_tcp_two (g : Call) (a0 : LV) (a1 : LV) : Option (LV × Option LV) :=
 xS a0 a1 fun v3 =>
 (pr.conv .i64 v3).bind fun v4 =>
 bn .shl v4 (LV.int .u64 8) fun v5 =>
 bn .add a1 (i 1) fun v8 =>
 xS a0 v8 fun v9 =>
 (pr.conv .i64 v9).bind fun vA =>
 bn .or v5 vA fun vB =>
 pr.fin none z [vB]
theorem F_tcp_two_eq (g : Call) (a0 : LV) (a1 : LV) : fnEv g c_tcp_two [a0, a1] none = F_tcp_two g a0 a1 := by kernel_rfl
noncomputable def F_udp_two (g : Call) (a0 : LV) (a1 : LV) : Option (LV × Option LV) :=
 xS a0 a1 fun v3 =>
 (pr.conv .i64 v3).bind fun v4 =>
 bn .shl v4 (LV.int .u64 8) fun v5 =>
 bn .add a1 (i 1) fun v8 =>
 xS a0 v8 fun v9 =>
 (pr.conv .i64 v9).bind fun vA =>
 bn .or v5 vA fun vB =>
 pr.fin none z [vB]
theorem F_udp_two_eq (g : Call) (a0 : LV) (a1 : LV) : fnEv g c_udp_two [a0, a1] none = F_udp_two g a0 a1 := by kernel_rfl
noncomputable def F_sum_fold (g : Call) (a0 : LV) : Option (LV × Option LV) :=
 (whileW (fun q1 : List LV × Slots =>
 bn .gtr (getL q1.1 0) (i 65535) fun v3 =>
 condK v3 (
 bn .shr (getL q1.1 0) (LV.int .u64 16) fun v5 =>
 bn .and (getL q1.1 0) (i 65535) fun v7 =>
 bn .add v5 v7 fun v8 =>
 pr.round z .normal [v8] q1.2) (
 pr.round z (.exit 0) [(getL q1.1 0)] q1.2)) ([a0], z)).bind fun r1 =>
 exIf r1.1 (.exit 0) (
 pr.fin none r1.2.2 [(getL r1.2.1 0)]) (none)
theorem F_sum_fold_eq (g : Call) (a0 : LV) : fnEv g c_sum_fold [a0] none = F_sum_fold g a0 := by kernel_rfl
noncomputable def F_sum_add (g : Call) (a0 : LV) (a1 : LV) (a2 : LV) (a3 : LV) : Option (LV × Option LV) :=
 ln a2 fun v2 =>
 (whileW (fun q4 : List LV × Slots =>
 bn .lss (getL q4.1 1) v2 fun v5 =>
 condK v5 (
 xS a2 (getL q4.1 1) fun vA =>
 bn .xor vA a3 fun vC =>
 (pr.conv .i64 vC).bind fun vD =>
 bn .add a1 (getL q4.1 1) fun vH =>
 bn .rem vH (i 2) fun vI =>
 bn .eql vI (i 0) fun vJ =>
 condK vJ (
 bn .shl vD (LV.int .u64 8) fun vL =>
 bn .add (getL q4.1 0) vL fun vP =>
 bn .add (getL q4.1 1) (i 1) fun vR =>
 pr.round z .normal [vP, vR] q4.2) (
 bn .add (getL q4.1 0) vD fun vV =>
 bn .add (getL q4.1 1) (i 1) fun vX =>
 pr.round z .normal [vV, vX] q4.2)) (
 pr.round z (.exit 0) [(getL q4.1 0), (getL q4.1 1)] q4.2)) ([a0, (i 0)], z)).bind fun r4 =>
 exIf r4.1 (.exit 0) (
 pr.fin none r4.2.2 [(getL r4.2.1 0)]) (none)
theorem F_sum_add_eq (g : Call) (a0 : LV) (a1 : LV) (a2 : LV) (a3 : LV) : fnEv g c_sum_add [a0, a1, a2, a3] none = F_sum_add g a0 a1 a2 a3 := by kernel_rfl
noncomputable def F_ip4_byteful (g : Call) (a0 : LV) : Option (LV × Option LV) :=
 (pr.len false a0).bind fun v2 =>
 (whileW (fun q4 : List LV × Slots =>
 bn .lss (getL q4.1 1) v2 fun v5 =>
 condK v5 (
 (pr.idxAddr none 1 a0 (getL q4.1 1)).bind fun v6 =>
 l1 q4.2 v6 fun v7 =>
 bn .lss v7 (i 0) fun vA =>
 fs vA v7 fun vC =>
 fb vA .gtr vC (i 255) fun vD =>
 pF vA vD fun vE =>
 condK vE (
 pr.round z .ret [(LV.bool false), (getL q4.1 1)] q4.2) (
 bn .add (getL q4.1 1) (i 1) fun vG =>
 pr.round z .normal [(getL q4.1 0), vG] q4.2)) (
 pr.round z (.exit 0) [(getL q4.1 0), (getL q4.1 1)] q4.2)) ([(LV.bool false), (i 0)], z)).bind fun r4 =>
 exIf r4.1 (.exit 0) (
 pr.fin none r4.2.2 [(LV.bool true)]) (exIf r4.1 .ret (
 pr.fin none r4.2.2 [(getL r4.2.1 0)]) (none))
theorem F_ip4_byteful_eq (g : Call) (a0 : LV) : fnEv g c_ip4_byteful [a0] none = F_ip4_byteful g a0 := by kernel_rfl
noncomputable def F_interpreterref03_within (g : Call) (a0 : LV) (a1 : LV) : Option (LV × Option LV) :=
 bn .geq a0 (i 0) fun v2 =>
 ts v2 a0 fun v4 =>
 ts v2 a1 fun v5 =>
 tb v2 .leq v4 v5 fun v6 =>
 pT v2 v6 fun v7 =>
 pr.fin none z [v7]
theorem F_interpreterref03_within_eq (g : Call) (a0 : LV) (a1 : LV) : fnEv g c_interpreterref03_within [a0, a1] none = F_interpreterref03_within g a0 a1 := by kernel_rfl
noncomputable def F_interpreterref02_Total (g : Call) (a0 : LV) : Option (LV × Option LV) :=
 (whileW (fun q3 : List LV × Slots =>
 (pr.len false a0).bind fun v6 =>
 bn .lss (getL q3.1 1) v6 fun v7 =>
 condK v7 (
 (pr.idxAddr none 1 a0 (getL q3.1 1)).bind fun vB =>
 l1 q3.2 vB fun vC =>
 bn .add (getL q3.1 0) vC fun vD =>
 bn .add (getL q3.1 1) (i 1) fun vG =>
 pr.round z .normal [vD, vG] q3.2) (
 pr.round z (.exit 0) [(getL q3.1 0), (getL q3.1 1)] q3.2)) ([(i 0), (i 0)], z)).bind fun r3 =>
 exIf r3.1 (.exit 0) (
 (whileW (fun q18 : List LV × Slots =>
 bn .gtr (getL q18.1 0) (i 65535) fun vK =>
 condK vK (
 bn .quo (getL q18.1 0) (i 65536) fun vM =>
 bn .rem (getL q18.1 0) (i 65536) fun vO =>
 bn .add vM vO fun vP =>
 pr.round r3.2.2 .normal [vP] q18.2) (
 pr.round r3.2.2 (.exit 2) [(getL q18.1 0)] q18.2)) ([(getL r3.2.1 0)], r3.2.2)).bind fun r18 =>
 exIf r18.1 (.exit 2) (
 pr.fin none r18.2.2 [(getL r18.2.1 0)]) (none)) (none)
theorem F_interpreterref02_Total_eq (g : Call) (a0 : LV) : fnEv g c_interpreterref02_Total [a0] none = F_interpreterref02_Total g a0 := by kernel_rfl
noncomputable def F_interpreterref02_Words (g : Call) (a0 : LV) : Option (LV × Option LV) :=
 (pr.nilT 1 3 z).bind fun v1 =>
 ln a0 fun v3 =>
 bn .rem v3 (i 2) fun v4 =>
 bn .eql v4 (i 1) fun v5 =>
 condK v5 (
 (pr.bsl (LV.int .u8 0) 1 [(0, (LV.int .u8 0))]).bind fun v7 =>
 bS v1.2 v7 fun v8 =>
 bn .add a0 v8 fun v9 =>
 (whileW (fun q12 : List LV × Slots =>
 ln v9 fun vF =>
 bn .lss (getL q12.1 1) vF fun vG =>
 condK vG (
 xS v9 (getL q12.1 1) fun vK =>
 (pr.conv .i64 vK).bind fun vL =>
 bn .mul (i 256) vL fun vM =>
 bn .add (getL q12.1 1) (i 1) fun vP =>
 xS v9 vP fun vQ =>
 (pr.conv .i64 vQ).bind fun vR =>
 bn .add vM vR fun vS =>
 (pr.bsl (i 0) 1 [(0, vS)]).bind fun vT =>
 (pr.append 1 8 32 q12.2 (getL q12.1 0) vT).bind fun vU =>
 bn .add (getL q12.1 1) (i 2) fun vX =>
 pr.round v1.2 .normal [vU.1, vX] vU.2) (
 pr.round v1.2 (.exit 0) [(getL q12.1 0), (getL q12.1 1)] q12.2)) ([v1.1, (i 0)], v1.2)).bind fun r12 =>
 exIf r12.1 (.exit 0) (
 pr.fin none r12.2.2 [(getL r12.2.1 0)]) (none)) (
 (whileW (fun q38 : List LV × Slots =>
 ln a0 fun vf =>
 bn .lss (getL q38.1 1) vf fun vg =>
 condK vg (
 xS a0 (getL q38.1 1) fun vk =>
 (pr.conv .i64 vk).bind fun vl =>
 bn .mul (i 256) vl fun vm =>
 bn .add (getL q38.1 1) (i 1) fun vp =>
 xS a0 vp fun vq =>
 (pr.conv .i64 vq).bind fun vr =>
 bn .add vm vr fun vs =>
 (pr.bsl (i 0) 1 [(0, vs)]).bind fun vt =>
 (pr.append 1 8 32 q38.2 (getL q38.1 0) vt).bind fun vu =>
 bn .add (getL q38.1 1) (i 2) fun vx =>
 pr.round v1.2 .normal [vu.1, vx] vu.2) (
 pr.round v1.2 (.exit 0) [(getL q38.1 0), (getL q38.1 1)] q38.2)) ([v1.1, (i 0)], v1.2)).bind fun r38 =>
 exIf r38.1 (.exit 0) (
 pr.fin none r38.2.2 [(getL r38.2.1 0)]) (none))
theorem F_interpreterref02_Words_eq (g : Call) (a0 : LV) : fnEv g c_interpreterref02_Words [a0] none = F_interpreterref02_Words g a0 := by kernel_rfl
noncomputable def F_ip4_big (g : Call) (a0 : LV) (a1 : LV) : Option (LV × Option LV) :=
 cl g id_num_Big z [a0, a1] fun v3 =>
 ex v3 0 fun v5 =>
 ex v3 1 fun v6 =>
 pr.fin none z [v5]
theorem F_ip4_big_eq (g : Call) (a0 : LV) (a1 : LV) : fnEv g c_ip4_big [a0, a1] none = F_ip4_big g a0 a1 := by kernel_rfl
noncomputable def F_interpreterref01_Reader_Number (g : Call) (h : LV) (a1 : LV) : Option (LV × Option LV) :=
 (pr.callRw g id_interpreterref01_Reader_Text (upd z 0 (.obj 0 h)) [(LV.ptr 0 0 [] 0), a1]).bind fun v4 =>
 ex v4.1 0 fun v6 =>
 ex v4.1 1 fun v7 =>
 (whileW (fun q12 : List LV × Slots =>
 ln v6 fun vF =>
 bn .lss (getL q12.1 1) vF fun vG =>
 condK vG (
 bn .mul (getL q12.1 0) (i 256) fun vI =>
 xS v6 (getL q12.1 1) fun vL =>
 (pr.conv .i64 vL).bind fun vM =>
 bn .add vI vM fun vN =>
 bn .add (getL q12.1 1) (i 1) fun vQ =>
 pr.round v4.2 .normal [vN, vQ] q12.2) (
 pr.round v4.2 (.exit 0) [(getL q12.1 0), (getL q12.1 1)] q12.2)) ([(i 0), (i 0)], v4.2)).bind fun r12 =>
 exIf r12.1 (.exit 0) (
 pr.fin (some h) r12.2.2 [(getL r12.2.1 0), v7]) (none)
theorem F_interpreterref01_Reader_Number_eq (g : Call) (h : LV) (a1 : LV) : fnEv g c_interpreterref01_Reader_Number [(LV.ptr 0 0 [] 0), a1] (some h) = F_interpreterref01_Reader_Number g h a1 := by kernel_rfl
noncomputable def F_fault_update (g : Call) (a0 : LV) (a1 : LV) (a2 : LV) (a3 : LV) (a4 : LV) : Option (LV × Option LV) :=
 ln a0 fun v2 =>
 bn .add a1 (i 2) fun v4 =>
 bn .lss v2 v4 fun v5 =>
 condK v5 (
 pr.fin none z [a0]) (
 xS a0 a1 fun vA =>
 (pr.conv .i64 vA).bind fun vB =>
 bn .shl vB (LV.int .u64 8) fun vC =>
 bn .add a1 (i 1) fun vF =>
 xS a0 vF fun vG =>
 (pr.conv .i64 vG).bind fun vH =>
 bn .or vC vH fun vI =>
 ts a4 vI fun vM =>
 tb a4 .eql vM (i 0) fun vN =>
 pT a4 vN fun vO =>
 condK vO (
 pr.fin none z [a0]) (
 cl g id_sum_Update z [vI, a2, a3] fun vU =>
 ts a4 vU fun vY =>
 tb a4 .eql vY (i 0) fun vZ =>
 pT a4 vZ fun va =>
 condK va (
 sl a0 none (some a1) fun ve =>
 cl g id_fault_big z [(i 65535), (i 2)] fun vg =>
 bn .add ve vg fun vh =>
 bn .add a1 (i 2) fun vk =>
 sl a0 (some vk) none fun vl =>
 bn .add vh vl fun vm =>
 pr.fin none z [vm]) (
 sl a0 none (some a1) fun vq =>
 cl g id_fault_big z [vU, (i 2)] fun vs =>
 bn .add vq vs fun vt =>
 bn .add a1 (i 2) fun vw =>
 sl a0 (some vw) none fun vx =>
 bn .add vt vx fun vy =>
 pr.fin none z [vy])))
theorem F_fault_update_eq (g : Call) (a0 : LV) (a1 : LV) (a2 : LV) (a3 : LV) (a4 : LV) : fnEv g c_fault_update [a0, a1, a2, a3, a4] none = F_fault_update g a0 a1 a2 a3 a4 := by kernel_rfl
noncomputable def F_num_Reader_Text (g : Call) (h : LV) (a1 : LV) : Option (LV × Option LV) :=
 eN 0 false (LV.ptr 0 0 [] 0) fun v3 =>
 condK v3 (
 (pr.parts (LV.agg [(i 0), (i 0)]) [(0, (i 2))]).bind fun v5 =>
 bx v5 fun v6 =>
 (pr.iface ty_ptr_num_Fault v6).bind fun v7 =>
 pr.fin (some h) (upd z 0 (.obj 0 h)) [(LV.str []), v7]) (
 (pr.nilCheck (LV.ptr 0 0 [] 0)).bind fun vB =>
 fA 2 2 vB fun vC =>
 l1 (upd z 0 (.obj 0 h)) vC fun vD =>
 eN 0 true vD fun vE =>
 condK vE (
 (pr.nilCheck (LV.ptr 0 0 [] 0)).bind fun vH =>
 fA 2 2 vH fun vI =>
 l1 (upd z 0 (.obj 0 h)) vI fun vJ =>
 (pr.nilCheck vJ).bind fun vK =>
 lA 2 (upd z 0 (.obj 0 h)) vK fun vL =>
 (pr.alloc (LV.agg [(i 0), (i 0)]) 7 (upd z 0 (.obj 0 h))).bind fun vM =>
 sA 2 vM.2 vM.1 vL fun vN =>
 (pr.iface ty_ptr_num_Fault vM.1).bind fun vO =>
 pr.fin (some h) vN.2 [(LV.str []), vO]) (
 bn .lss a1 (i 0) fun vS =>
 condK vS (
 (pr.nilCheck (LV.ptr 0 0 [] 0)).bind fun vW =>
 fA 1 1 vW fun vX =>
 l1 (upd z 0 (.obj 0 h)) vX fun vY =>
 (pr.parts (LV.agg [(i 0), (i 0)]) [(0, (i 1)), (1, vY)]).bind fun vZ =>
 bx vZ fun va =>
 (pr.nilCheck (LV.ptr 0 0 [] 0)).bind fun vb =>
 fA 2 2 vb fun vc =>
 s1 (upd z 0 (.obj 0 h)) vc va fun vd =>
 (pr.nilCheck (LV.ptr 0 0 [] 0)).bind fun vf =>
 fA 2 2 vf fun vg =>
 l1 vd.2 vg fun vh =>
 (pr.nilCheck vh).bind fun vi =>
 lA 2 vd.2 vi fun vj =>
 (pr.alloc (LV.agg [(i 0), (i 0)]) 7 vd.2).bind fun vk =>
 sA 2 vk.2 vk.1 vj fun vl =>
 (pr.iface ty_ptr_num_Fault vk.1).bind fun vm =>
 pr.fin (some h) vl.2 [(LV.str []), vm]) (
 (pr.nilCheck (LV.ptr 0 0 [] 0)).bind fun vr =>
 fA 0 0 vr fun vs =>
 l1 (upd z 0 (.obj 0 h)) vs fun vt =>
 ln vt fun vu =>
 (pr.nilCheck (LV.ptr 0 0 [] 0)).bind fun vw =>
 fA 1 1 vw fun vx =>
 l1 (upd z 0 (.obj 0 h)) vx fun vy =>
 bn .sub vu vy fun vz =>
 bn .gtr a1 vz fun v00 =>
 condK v00 (
 (pr.nilCheck (LV.ptr 0 0 [] 0)).bind fun v04 =>
 fA 1 1 v04 fun v05 =>
 l1 (upd z 0 (.obj 0 h)) v05 fun v06 =>
 (pr.parts (LV.agg [(i 0), (i 0)]) [(0, (i 7)), (1, v06)]).bind fun v07 =>
 bx v07 fun v08 =>
 (pr.nilCheck (LV.ptr 0 0 [] 0)).bind fun v09 =>
 fA 2 2 v09 fun v0A =>
 s1 (upd z 0 (.obj 0 h)) v0A v08 fun v0B =>
 (pr.nilCheck (LV.ptr 0 0 [] 0)).bind fun v0D =>
 fA 2 2 v0D fun v0E =>
 l1 v0B.2 v0E fun v0F =>
 (pr.nilCheck v0F).bind fun v0G =>
 lA 2 v0B.2 v0G fun v0H =>
 (pr.alloc (LV.agg [(i 0), (i 0)]) 7 v0B.2).bind fun v0I =>
 sA 2 v0I.2 v0I.1 v0H fun v0J =>
 (pr.iface ty_ptr_num_Fault v0I.1).bind fun v0K =>
 pr.fin (some h) v0J.2 [(LV.str []), v0K]) (
 (pr.nilCheck (LV.ptr 0 0 [] 0)).bind fun v0O =>
 fA 0 0 v0O fun v0P =>
 l1 (upd z 0 (.obj 0 h)) v0P fun v0Q =>
 (pr.nilCheck (LV.ptr 0 0 [] 0)).bind fun v0S =>
 fA 1 1 v0S fun v0T =>
 l1 (upd z 0 (.obj 0 h)) v0T fun v0U =>
 (pr.nilCheck (LV.ptr 0 0 [] 0)).bind fun v0W =>
 fA 1 1 v0W fun v0X =>
 l1 (upd z 0 (.obj 0 h)) v0X fun v0Y =>
 bn .add v0Y a1 fun v0a =>
 sl v0Q (some v0U) (some v0a) fun v0b =>
 (pr.nilCheck (LV.ptr 0 0 [] 0)).bind fun v0e =>
 fA 1 1 v0e fun v0f =>
 l1 (upd z 0 (.obj 0 h)) v0f fun v0g =>
 bn .add v0g a1 fun v0i =>
 (pr.nilCheck (LV.ptr 0 0 [] 0)).bind fun v0j =>
 fA 1 1 v0j fun v0k =>
 s1 (upd z 0 (.obj 0 h)) v0k v0i fun v0l =>
 pr.fin (some h) v0l.2 [v0b, LV.nili]))))
theorem F_num_Reader_Text_eq (g : Call) (h : LV) (a1 : LV) : fnEv g c_num_Reader_Text [(LV.ptr 0 0 [] 0), a1] (some h) = F_num_Reader_Text g h a1 := by kernel_rfl
noncomputable def F_interpreterref01_Reader_Text (g : Call) (h : LV) (a1 : LV) : Option (LV × Option LV) :=
 (pr.nilCheck (LV.ptr 0 0 [] 0)).bind fun v3 =>
 fA 2 2 v3 fun v4 =>
 l1 (upd z 0 (.obj 0 h)) v4 fun v5 =>
 bn .neq v5 (i 0) fun v6 =>
 condK v6 (
 (pr.nilCheck (LV.ptr 0 0 [] 0)).bind fun v8 =>
 fA 2 2 v8 fun v9 =>
 l1 (upd z 0 (.obj 0 h)) v9 fun vA =>
 pr.fin (some h) (upd z 0 (.obj 0 h)) [(LV.str []), vA]) (
 bn .lss a1 (i 0) fun vE =>
 condK vE (
 (pr.nilCheck (LV.ptr 0 0 [] 0)).bind fun vG =>
 fA 2 2 vG fun vH =>
 s1 (upd z 0 (.obj 0 h)) vH (i 1) fun vI =>
 (pr.nilCheck (LV.ptr 0 0 [] 0)).bind fun vK =>
 fA 2 2 vK fun vL =>
 l1 vI.2 vL fun vM =>
 bn .neq vM (i 0) fun vN =>
 condK vN (
 (pr.nilCheck (LV.ptr 0 0 [] 0)).bind fun vQ =>
 fA 1 1 vQ fun vR =>
 l1 vI.2 vR fun vS =>
 (pr.nilCheck (LV.ptr 0 0 [] 0)).bind fun vT =>
 fA 3 3 vT fun vU =>
 s1 vI.2 vU vS fun vV =>
 (pr.nilCheck (LV.ptr 0 0 [] 0)).bind fun vX =>
 fA 2 2 vX fun vY =>
 l1 vV.2 vY fun vZ =>
 pr.fin (some h) vV.2 [(LV.str []), vZ]) (
 (whileW (fun q40 : List LV × Slots =>
 bn .lss (getL q40.1 1) a1 fun vh =>
 condK vh (
 (pr.nilCheck (LV.ptr 0 0 [] 0)).bind fun vk =>
 fA 0 0 vk fun vl =>
 l1 q40.2 vl fun vm =>
 (pr.nilCheck (LV.ptr 0 0 [] 0)).bind fun vo =>
 fA 1 1 vo fun vp =>
 l1 q40.2 vp fun vq =>
 (pr.nilCheck (LV.ptr 0 0 [] 0)).bind fun vs =>
 fA 1 1 vs fun vt =>
 l1 q40.2 vt fun vu =>
 bn .add vu (i 1) fun vv =>
 sl vm (some vq) (some vv) fun vw =>
 bn .add (getL q40.1 0) vw fun vx =>
 (pr.nilCheck (LV.ptr 0 0 [] 0)).bind fun v01 =>
 fA 1 1 v01 fun v02 =>
 l1 q40.2 v02 fun v03 =>
 bn .add v03 (i 1) fun v04 =>
 (pr.nilCheck (LV.ptr 0 0 [] 0)).bind fun v05 =>
 fA 1 1 v05 fun v06 =>
 s1 q40.2 v06 v04 fun v07 =>
 bn .add (getL q40.1 1) (i 1) fun v09 =>
 pr.round vI.2 .normal [vx, v09] v07.2) (
 pr.round vI.2 (.exit 0) [(getL q40.1 0), (getL q40.1 1)] q40.2)) ([(LV.str []), (i 0)], vI.2)).bind fun r40 =>
 exIf r40.1 (.exit 0) (
 pr.fin (some h) r40.2.2 [(getL r40.2.1 0), (i 0)]) (none))) (
 (pr.nilCheck (LV.ptr 0 0 [] 0)).bind fun v0G =>
 fA 0 0 v0G fun v0H =>
 l1 (upd z 0 (.obj 0 h)) v0H fun v0I =>
 ln v0I fun v0J =>
 bn .gtr a1 v0J fun v0K =>
 fs v0K (LV.ptr 0 0 [] 0) fun v0M =>
 gF v0K (pr.nilCheck v0M) fun v0N =>
 ff v0K 1 1 v0N fun v0O =>
 fl v0K (upd z 0 (.obj 0 h)) v0O fun v0P =>
 fs v0K (LV.ptr 0 0 [] 0) fun v0Q =>
 gF v0K (pr.nilCheck v0Q) fun v0R =>
 ff v0K 0 0 v0R fun v0S =>
 fl v0K (upd z 0 (.obj 0 h)) v0S fun v0T =>
 gF v0K (pr.len true v0T) fun v0U =>
 fs v0K a1 fun v0V =>
 fb v0K .sub v0U v0V fun v0W =>
 fb v0K .gtr v0P v0W fun v0X =>
 pF v0K v0X fun v0Y =>
 condK v0Y (
 (pr.nilCheck (LV.ptr 0 0 [] 0)).bind fun v0a =>
 fA 2 2 v0a fun v0b =>
 s1 (upd z 0 (.obj 0 h)) v0b (i 7) fun v0c =>
 (pr.nilCheck (LV.ptr 0 0 [] 0)).bind fun v0e =>
 fA 2 2 v0e fun v0f =>
 l1 v0c.2 v0f fun v0g =>
 bn .neq v0g (i 0) fun v0h =>
 condK v0h (
 (pr.nilCheck (LV.ptr 0 0 [] 0)).bind fun v0k =>
 fA 1 1 v0k fun v0l =>
 l1 v0c.2 v0l fun v0m =>
 (pr.nilCheck (LV.ptr 0 0 [] 0)).bind fun v0n =>
 fA 3 3 v0n fun v0o =>
 s1 v0c.2 v0o v0m fun v0p =>
 (pr.nilCheck (LV.ptr 0 0 [] 0)).bind fun v0r =>
 fA 2 2 v0r fun v0s =>
 l1 v0p.2 v0s fun v0t =>
 pr.fin (some h) v0p.2 [(LV.str []), v0t]) (
 (whileW (fun q122 : List LV × Slots =>
 bn .lss (getL q122.1 1) a1 fun v11 =>
 condK v11 (
 (pr.nilCheck (LV.ptr 0 0 [] 0)).bind fun v14 =>
 fA 0 0 v14 fun v15 =>
 l1 q122.2 v15 fun v16 =>
 (pr.nilCheck (LV.ptr 0 0 [] 0)).bind fun v18 =>
 fA 1 1 v18 fun v19 =>
 l1 q122.2 v19 fun v1A =>
 (pr.nilCheck (LV.ptr 0 0 [] 0)).bind fun v1C =>
 fA 1 1 v1C fun v1D =>
 l1 q122.2 v1D fun v1E =>
 bn .add v1E (i 1) fun v1F =>
 sl v16 (some v1A) (some v1F) fun v1G =>
 bn .add (getL q122.1 0) v1G fun v1H =>
 (pr.nilCheck (LV.ptr 0 0 [] 0)).bind fun v1L =>
 fA 1 1 v1L fun v1M =>
 l1 q122.2 v1M fun v1N =>
 bn .add v1N (i 1) fun v1O =>
 (pr.nilCheck (LV.ptr 0 0 [] 0)).bind fun v1P =>
 fA 1 1 v1P fun v1Q =>
 s1 q122.2 v1Q v1O fun v1R =>
 bn .add (getL q122.1 1) (i 1) fun v1T =>
 pr.round v0c.2 .normal [v1H, v1T] v1R.2) (
 pr.round v0c.2 (.exit 0) [(getL q122.1 0), (getL q122.1 1)] q122.2)) ([(LV.str []), (i 0)], v0c.2)).bind fun r122 =>
 exIf r122.1 (.exit 0) (
 pr.fin (some h) r122.2.2 [(getL r122.2.1 0), (i 0)]) (none))) (
 (pr.nilCheck (LV.ptr 0 0 [] 0)).bind fun v1Z =>
 fA 2 2 v1Z fun v1a =>
 l1 (upd z 0 (.obj 0 h)) v1a fun v1b =>
 bn .neq v1b (i 0) fun v1c =>
 condK v1c (
 (pr.nilCheck (LV.ptr 0 0 [] 0)).bind fun v1f =>
 fA 1 1 v1f fun v1g =>
 l1 (upd z 0 (.obj 0 h)) v1g fun v1h =>
 (pr.nilCheck (LV.ptr 0 0 [] 0)).bind fun v1i =>
 fA 3 3 v1i fun v1j =>
 s1 (upd z 0 (.obj 0 h)) v1j v1h fun v1k =>
 (pr.nilCheck (LV.ptr 0 0 [] 0)).bind fun v1m =>
 fA 2 2 v1m fun v1n =>
 l1 v1k.2 v1n fun v1o =>
 pr.fin (some h) v1k.2 [(LV.str []), v1o]) (
 (whileW (fun q179 : List LV × Slots =>
 bn .lss (getL q179.1 1) a1 fun v1w =>
 condK v1w (
 (pr.nilCheck (LV.ptr 0 0 [] 0)).bind fun v1z =>
 fA 0 0 v1z fun v20 =>
 l1 q179.2 v20 fun v21 =>
 (pr.nilCheck (LV.ptr 0 0 [] 0)).bind fun v23 =>
 fA 1 1 v23 fun v24 =>
 l1 q179.2 v24 fun v25 =>
 (pr.nilCheck (LV.ptr 0 0 [] 0)).bind fun v27 =>
 fA 1 1 v27 fun v28 =>
 l1 q179.2 v28 fun v29 =>
 bn .add v29 (i 1) fun v2A =>
 sl v21 (some v25) (some v2A) fun v2B =>
 bn .add (getL q179.1 0) v2B fun v2C =>
 (pr.nilCheck (LV.ptr 0 0 [] 0)).bind fun v2G =>
 fA 1 1 v2G fun v2H =>
 l1 q179.2 v2H fun v2I =>
 bn .add v2I (i 1) fun v2J =>
 (pr.nilCheck (LV.ptr 0 0 [] 0)).bind fun v2K =>
 fA 1 1 v2K fun v2L =>
 s1 q179.2 v2L v2J fun v2M =>
 bn .add (getL q179.1 1) (i 1) fun v2O =>
 pr.round (upd z 0 (.obj 0 h)) .normal [v2C, v2O] v2M.2) (
 pr.round (upd z 0 (.obj 0 h)) (.exit 0) [(getL q179.1 0), (getL q179.1 1)] q179.2)) ([(LV.str []), (i 0)], (upd z 0 (.obj 0 h)))).bind fun r179 =>
 exIf r179.1 (.exit 0) (
 pr.fin (some h) r179.2.2 [(getL r179.2.1 0), (i 0)]) (none)))))
theorem F_interpreterref01_Reader_Text_eq (g : Call) (h : LV) (a1 : LV) : fnEv g c_interpreterref01_Reader_Text [(LV.ptr 0 0 [] 0), a1] (some h) = F_interpreterref01_Reader_Text g h a1 := by kernel_rfl
noncomputable def F_sum_Update (g : Call) (a0 : LV) (a1 : LV) (a2 : LV) : Option (LV × Option LV) :=
 bn .and a0 (i 65535) fun v2 =>
 bn .sub (i 65535) v2 fun v3 =>
 cl g id_sum_even z [a1] fun v7 =>
 cl g id_sum_add z [v3, (i 0), v7, (LV.int .u8 255)] fun v8 =>
 cl g id_sum_fold z [v8] fun v9 =>
 cl g id_sum_add z [v9, (i 0), a2, (LV.int .u8 0)] fun vD =>
 cl g id_sum_fold z [vD] fun vE =>
 bn .sub (i 65535) vE fun vF =>
 pr.fin none z [vF]
theorem F_sum_Update_eq (g : Call) (a0 : LV) (a1 : LV) (a2 : LV) : fnEv g c_sum_Update [a0, a1, a2] none = F_sum_Update g a0 a1 a2 := by kernel_rfl
noncomputable def F_sum_even (g : Call) (a0 : LV) : Option (LV × Option LV) :=
 ln a0 fun v2 =>
 bn .rem v2 (i 2) fun v3 =>
 bn .eql v3 (i 1) fun v4 =>
 condK v4 (
 bn .add a0 (LV.str [0]) fun v6 =>
 pr.fin none z [v6]) (
 pr.fin none z [a0])
theorem F_sum_even_eq (g : Call) (a0 : LV) : fnEv g c_sum_even [a0] none = F_sum_even g a0 := by kernel_rfl
end Go.Ev

namespace Go.Ev
structure Has (S : Sys) : Prop where
  h_interpreterlaw15_FaultWholeSix : S.fns id_interpreterlaw15_FaultWholeSix = some c_interpreterlaw15_FaultWholeSix
  h_interpreterlaw15_awake : S.fns id_interpreterlaw15_awake = some c_interpreterlaw15_awake
  h_fault_Inside4 : S.fns id_fault_Inside4 = some c_fault_Inside4
  h_fault_Quote6 : S.fns id_fault_Quote6 = some c_fault_Quote6
  h_ip6_Parse : S.fns id_ip6_Parse = some c_ip6_Parse
  h_tcp_Check : S.fns id_tcp_Check = some c_tcp_Check
  h_sum_Pseudo4 : S.fns id_sum_Pseudo4 = some c_sum_Pseudo4
  h_sum_Pseudo6 : S.fns id_sum_Pseudo6 = some c_sum_Pseudo6
  h_udp_Check : S.fns id_udp_Check = some c_udp_Check
  h_icmp4_Parse : S.fns id_icmp4_Parse = some c_icmp4_Parse
  h_icmp4_Echo : S.fns id_icmp4_Echo = some c_icmp4_Echo
  h_icmp6_Parse : S.fns id_icmp6_Parse = some c_icmp6_Parse
  h_icmp6_Echo : S.fns id_icmp6_Echo = some c_icmp6_Echo
  h_fault_Inside6 : S.fns id_fault_Inside6 = some c_fault_Inside6
  h_interpreterref04_Same : S.fns id_interpreterref04_Same = some c_interpreterref04_Same
  h_fault_Quote4 : S.fns id_fault_Quote4 = some c_fault_Quote4
  h_ip4_Parse : S.fns id_ip4_Parse = some c_ip4_Parse
  h_interpreterlaw15_bare : S.fns id_interpreterlaw15_bare = some c_interpreterlaw15_bare
  h_interpreterref03_Bytes : S.fns id_interpreterref03_Bytes = some c_interpreterref03_Bytes
  h_interpreterlaw15_gram : S.fns id_interpreterlaw15_gram = some c_interpreterlaw15_gram
  h_fault_Own4 : S.fns id_fault_Own4 = some c_fault_Own4
  h_interpreterref03_Parse : S.fns id_interpreterref03_Parse = some c_interpreterref03_Parse
  h_fault_fault : S.fns id_fault_fault = some c_fault_fault
  h_sum_Right : S.fns id_sum_Right = some c_sum_Right
  h_fault_Inside4_1 : S.fns id_fault_Inside4_1 = some c_fault_Inside4_1
  h_fault_short : S.fns id_fault_short = some c_fault_short
  h_head46_Proto : S.fns id_head46_Proto = some c_head46_Proto
  h_fault_within : S.fns id_fault_within = some c_fault_within
  h_fault_big : S.fns id_fault_big = some c_fault_big
  h_fault_turn6 : S.fns id_fault_turn6 = some c_fault_turn6
  h_ip6_fault : S.fns id_ip6_fault = some c_ip6_fault
  h_num_New : S.fns id_num_New = some c_num_New
  h_num_Reader_U32 : S.fns id_num_Reader_U32 = some c_num_Reader_U32
  h_ip6_Chain : S.fns id_ip6_Chain = some c_ip6_Chain
  h_ip6_pieced : S.fns id_ip6_pieced = some c_ip6_pieced
  h_tcp_Parse : S.fns id_tcp_Parse = some c_tcp_Parse
  h_tcp_fault : S.fns id_tcp_fault = some c_tcp_fault
  h_sum_big : S.fns id_sum_big = some c_sum_big
  h_udp_Parse : S.fns id_udp_Parse = some c_udp_Parse
  h_udp_fault : S.fns id_udp_fault = some c_udp_fault
  h_icmp4_fault : S.fns id_icmp4_fault = some c_icmp4_fault
  h_icmp6_fault : S.fns id_icmp6_fault = some c_icmp6_fault
  h_head64_Proto : S.fns id_head64_Proto = some c_head64_Proto
  h_sum_Of : S.fns id_sum_Of = some c_sum_Of
  h_fault_turn4 : S.fns id_fault_turn4 = some c_fault_turn4
  h_ip4_fault : S.fns id_ip4_fault = some c_ip4_fault
  h_ip4_Parse_1 : S.fns id_ip4_Parse_1 = some c_ip4_Parse_1
  h_ip4_why : S.fns id_ip4_why = some c_ip4_why
  h_interpreterref03_Why : S.fns id_interpreterref03_Why = some c_interpreterref03_Why
  h_interpreterref02_Of : S.fns id_interpreterref02_Of = some c_interpreterref02_Of
  h_icmp4_Failure : S.fns id_icmp4_Failure = some c_icmp4_Failure
  h_class_Martian4 : S.fns id_class_Martian4 = some c_class_Martian4
  h_fault_beginning : S.fns id_fault_beginning = some c_fault_beginning
  h_icmp4_Bytes : S.fns id_icmp4_Bytes = some c_icmp4_Bytes
  h_ip4_Bytes : S.fns id_ip4_Bytes = some c_ip4_Bytes
  h_interpreterref03_number : S.fns id_interpreterref03_number = some c_interpreterref03_number
  h_num_Big : S.fns id_num_Big = some c_num_Big
  h_fault_ported : S.fns id_fault_ported = some c_fault_ported
  h_fault_echoed : S.fns id_fault_echoed = some c_fault_echoed
  h_num_Reader_number : S.fns id_num_Reader_number = some c_num_Reader_number
  h_ip6_extends : S.fns id_ip6_extends = some c_ip6_extends
  h_tcp_two : S.fns id_tcp_two = some c_tcp_two
  h_udp_two : S.fns id_udp_two = some c_udp_two
  h_sum_fold : S.fns id_sum_fold = some c_sum_fold
  h_sum_add : S.fns id_sum_add = some c_sum_add
  h_ip4_byteful : S.fns id_ip4_byteful = some c_ip4_byteful
  h_interpreterref03_within : S.fns id_interpreterref03_within = some c_interpreterref03_within
  h_interpreterref02_Total : S.fns id_interpreterref02_Total = some c_interpreterref02_Total
  h_interpreterref02_Words : S.fns id_interpreterref02_Words = some c_interpreterref02_Words
  h_ip4_big : S.fns id_ip4_big = some c_ip4_big
  h_interpreterref01_Reader_Number : S.fns id_interpreterref01_Reader_Number = some c_interpreterref01_Reader_Number
  h_fault_update : S.fns id_fault_update = some c_fault_update
  h_num_Reader_Text : S.fns id_num_Reader_Text = some c_num_Reader_Text
  h_interpreterref01_Reader_Text : S.fns id_interpreterref01_Reader_Text = some c_interpreterref01_Reader_Text
  h_sum_Update : S.fns id_sum_Update = some c_sum_Update
  h_sum_even : S.fns id_sum_even = some c_sum_even
  x_rep : HasRep S id_strings_Repeat
  x_code : HasCode S id_num_Code ty_ptr_num_Fault
abbrev faultLV (c : Int) : LV := .ifc ty_ptr_num_Fault (.box (.agg [.int .i64 c, .int .i64 0]))
end Go.Ev

namespace Go.Ev
set_option maxRecDepth 100000
def table : List (Nat × MFn) := [
  (id_interpreterlaw15_FaultWholeSix, c_interpreterlaw15_FaultWholeSix),
  (id_interpreterlaw15_awake, c_interpreterlaw15_awake),
  (id_fault_Inside4, c_fault_Inside4),
  (id_fault_Quote6, c_fault_Quote6),
  (id_ip6_Parse, c_ip6_Parse),
  (id_tcp_Check, c_tcp_Check),
  (id_sum_Pseudo4, c_sum_Pseudo4),
  (id_sum_Pseudo6, c_sum_Pseudo6),
  (id_udp_Check, c_udp_Check),
  (id_icmp4_Parse, c_icmp4_Parse),
  (id_icmp4_Echo, c_icmp4_Echo),
  (id_icmp6_Parse, c_icmp6_Parse),
  (id_icmp6_Echo, c_icmp6_Echo),
  (id_fault_Inside6, c_fault_Inside6),
  (id_interpreterref04_Same, c_interpreterref04_Same),
  (id_fault_Quote4, c_fault_Quote4),
  (id_ip4_Parse, c_ip4_Parse),
  (id_interpreterlaw15_bare, c_interpreterlaw15_bare),
  (id_interpreterref03_Bytes, c_interpreterref03_Bytes),
  (id_interpreterlaw15_gram, c_interpreterlaw15_gram),
  (id_fault_Own4, c_fault_Own4),
  (id_interpreterref03_Parse, c_interpreterref03_Parse),
  (id_fault_fault, c_fault_fault),
  (id_sum_Right, c_sum_Right),
  (id_fault_Inside4_1, c_fault_Inside4_1),
  (id_fault_short, c_fault_short),
  (id_head46_Proto, c_head46_Proto),
  (id_fault_within, c_fault_within),
  (id_fault_big, c_fault_big),
  (id_fault_turn6, c_fault_turn6),
  (id_ip6_fault, c_ip6_fault),
  (id_num_New, c_num_New),
  (id_num_Reader_U32, c_num_Reader_U32),
  (id_ip6_Chain, c_ip6_Chain),
  (id_ip6_pieced, c_ip6_pieced),
  (id_tcp_Parse, c_tcp_Parse),
  (id_tcp_fault, c_tcp_fault),
  (id_sum_big, c_sum_big),
  (id_udp_Parse, c_udp_Parse),
  (id_udp_fault, c_udp_fault),
  (id_icmp4_fault, c_icmp4_fault),
  (id_icmp6_fault, c_icmp6_fault),
  (id_head64_Proto, c_head64_Proto),
  (id_sum_Of, c_sum_Of),
  (id_fault_turn4, c_fault_turn4),
  (id_ip4_fault, c_ip4_fault),
  (id_ip4_Parse_1, c_ip4_Parse_1),
  (id_ip4_why, c_ip4_why),
  (id_interpreterref03_Why, c_interpreterref03_Why),
  (id_interpreterref02_Of, c_interpreterref02_Of),
  (id_icmp4_Failure, c_icmp4_Failure),
  (id_class_Martian4, c_class_Martian4),
  (id_fault_beginning, c_fault_beginning),
  (id_icmp4_Bytes, c_icmp4_Bytes),
  (id_ip4_Bytes, c_ip4_Bytes),
  (id_interpreterref03_number, c_interpreterref03_number),
  (id_num_Big, c_num_Big),
  (id_fault_ported, c_fault_ported),
  (id_fault_echoed, c_fault_echoed),
  (id_num_Reader_number, c_num_Reader_number),
  (id_ip6_extends, c_ip6_extends),
  (id_tcp_two, c_tcp_two),
  (id_udp_two, c_udp_two),
  (id_sum_fold, c_sum_fold),
  (id_sum_add, c_sum_add),
  (id_ip4_byteful, c_ip4_byteful),
  (id_interpreterref03_within, c_interpreterref03_within),
  (id_interpreterref02_Total, c_interpreterref02_Total),
  (id_interpreterref02_Words, c_interpreterref02_Words),
  (id_ip4_big, c_ip4_big),
  (id_interpreterref01_Reader_Number, c_interpreterref01_Reader_Number),
  (id_fault_update, c_fault_update),
  (id_num_Reader_Text, c_num_Reader_Text),
  (id_interpreterref01_Reader_Text, c_interpreterref01_Reader_Text),
  (id_sum_Update, c_sum_Update),
  (id_sum_even, c_sum_even)]
def sys : Sys := { fns := fun f => (table.find? fun p => p.1 == f).map (·.2), ext := orC (extR id_strings_Repeat) (extCode id_num_Code ty_ptr_num_Fault) }
theorem sysHas : Has sys where
  h_interpreterlaw15_FaultWholeSix := by kernel_rfl
  h_interpreterlaw15_awake := by kernel_rfl
  h_fault_Inside4 := by kernel_rfl
  h_fault_Quote6 := by kernel_rfl
  h_ip6_Parse := by kernel_rfl
  h_tcp_Check := by kernel_rfl
  h_sum_Pseudo4 := by kernel_rfl
  h_sum_Pseudo6 := by kernel_rfl
  h_udp_Check := by kernel_rfl
  h_icmp4_Parse := by kernel_rfl
  h_icmp4_Echo := by kernel_rfl
  h_icmp6_Parse := by kernel_rfl
  h_icmp6_Echo := by kernel_rfl
  h_fault_Inside6 := by kernel_rfl
  h_interpreterref04_Same := by kernel_rfl
  h_fault_Quote4 := by kernel_rfl
  h_ip4_Parse := by kernel_rfl
  h_interpreterlaw15_bare := by kernel_rfl
  h_interpreterref03_Bytes := by kernel_rfl
  h_interpreterlaw15_gram := by kernel_rfl
  h_fault_Own4 := by kernel_rfl
  h_interpreterref03_Parse := by kernel_rfl
  h_fault_fault := by kernel_rfl
  h_sum_Right := by kernel_rfl
  h_fault_Inside4_1 := by kernel_rfl
  h_fault_short := by kernel_rfl
  h_head46_Proto := by kernel_rfl
  h_fault_within := by kernel_rfl
  h_fault_big := by kernel_rfl
  h_fault_turn6 := by kernel_rfl
  h_ip6_fault := by kernel_rfl
  h_num_New := by kernel_rfl
  h_num_Reader_U32 := by kernel_rfl
  h_ip6_Chain := by kernel_rfl
  h_ip6_pieced := by kernel_rfl
  h_tcp_Parse := by kernel_rfl
  h_tcp_fault := by kernel_rfl
  h_sum_big := by kernel_rfl
  h_udp_Parse := by kernel_rfl
  h_udp_fault := by kernel_rfl
  h_icmp4_fault := by kernel_rfl
  h_icmp6_fault := by kernel_rfl
  h_head64_Proto := by kernel_rfl
  h_sum_Of := by kernel_rfl
  h_fault_turn4 := by kernel_rfl
  h_ip4_fault := by kernel_rfl
  h_ip4_Parse_1 := by kernel_rfl
  h_ip4_why := by kernel_rfl
  h_interpreterref03_Why := by kernel_rfl
  h_interpreterref02_Of := by kernel_rfl
  h_icmp4_Failure := by kernel_rfl
  h_class_Martian4 := by kernel_rfl
  h_fault_beginning := by kernel_rfl
  h_icmp4_Bytes := by kernel_rfl
  h_ip4_Bytes := by kernel_rfl
  h_interpreterref03_number := by kernel_rfl
  h_num_Big := by kernel_rfl
  h_fault_ported := by kernel_rfl
  h_fault_echoed := by kernel_rfl
  h_num_Reader_number := by kernel_rfl
  h_ip6_extends := by kernel_rfl
  h_tcp_two := by kernel_rfl
  h_udp_two := by kernel_rfl
  h_sum_fold := by kernel_rfl
  h_sum_add := by kernel_rfl
  h_ip4_byteful := by kernel_rfl
  h_interpreterref03_within := by kernel_rfl
  h_interpreterref02_Total := by kernel_rfl
  h_interpreterref02_Words := by kernel_rfl
  h_ip4_big := by kernel_rfl
  h_interpreterref01_Reader_Number := by kernel_rfl
  h_fault_update := by kernel_rfl
  h_num_Reader_Text := by kernel_rfl
  h_interpreterref01_Reader_Text := by kernel_rfl
  h_sum_Update := by kernel_rfl
  h_sum_even := by kernel_rfl
  x_rep := ⟨by kernel_rfl, fun l r h => by show orC _ _ _ _ _ = _; unfold orC; rw [h]⟩
  x_code := ⟨by kernel_rfl, fun l r h => by show orC _ _ _ _ _ = _; unfold orC; rw [show extR id_strings_Repeat id_num_Code l none = none by unfold extR; split <;> first | rfl | (rw [if_neg (fun q => absurd q.1 (by decide))])]; exact h⟩
end Go.Ev
