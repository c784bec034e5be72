/- Part 4 of a proof: what the functions yield. It stands by itself; no condition. -/
import Derived.Test.YtgellbiecjifbaaGreatE3
import Derived.KernelRfl
import Derived.Test.YtgellbiecjifbaaGreatE2
namespace Go.Ev.Q
section
variable {R : Type}
noncomputable abbrev fA (a b : Nat) (x : LV) (K : LV → Option R) : Option R := (pr.fieldAddr a b x).bind K
noncomputable abbrev l1 (s : Slots) (x : LV) (K : LV → Option R) : Option R := (pr.load 1 false s x).bind K
noncomputable abbrev lA (n : Nat) (s : Slots) (x : LV) (K : LV → Option R) : Option R := (pr.load n true s x).bind K
noncomputable abbrev gT (t : LV) (X : Option LV) (K : LV → Option R) : Option R := (pr.guard t true).bind fun b => (if b = true then X else some LV.undef).bind K
noncomputable abbrev gF (t : LV) (X : Option LV) (K : LV → Option R) : Option R := (pr.guard t false).bind fun b => (if b = true then X else some LV.undef).bind K
noncomputable abbrev bn (o : BinOp) (x y : LV) (K : LV → Option R) : Option R := (pr.bin o x y).bind K
noncomputable abbrev cl (g : Call) (f : FuncId) (s : Slots) (l : List LV) (K : LV → Option R) : Option R := (pr.call g f s l).bind K
noncomputable abbrev ex (x : LV) (i : Nat) (K : LV → Option R) : Option R := (pr.extract x i).bind K
noncomputable abbrev ln (x : LV) (K : LV → Option R) : Option R := (pr.len true x).bind K
noncomputable abbrev pT (t x : LV) (K : LV → Option R) : Option R := (pr.pick t x (LV.bool false)).bind K
noncomputable abbrev pF (t x : LV) (K : LV → Option R) : Option R := (pr.pick t (LV.bool true) x).bind K
noncomputable abbrev sA (n : Nat) (s : Slots) (x y : LV) (K : LV × Slots → Option R) : Option R := (pr.store n true s x y).bind K
noncomputable abbrev s1 (s : Slots) (x y : LV) (K : LV × Slots → Option R) : Option R := (pr.store 1 false s x y).bind K
noncomputable abbrev nt (x : LV) (K : LV → Option R) : Option R := (pr.un .not x).bind K
noncomputable abbrev bx (x : LV) (K : LV → Option R) : Option R := (pr.box x).bind K
noncomputable abbrev xS (x y : LV) (K : LV → Option R) : Option R := (pr.idxStr x y).bind K
noncomputable abbrev eN (k : Nat) (w : Bool) (x : LV) (K : LV → Option R) : Option R := (pr.eqNil k w x).bind K
noncomputable abbrev sV (n : Nat) (s : Slots) (x : LV) (y z : Option LV) (K : LV → Option R) : Option R := (pr.slcArr n s x y z).bind K
noncomputable abbrev bS (s : Slots) (x : LV) (K : LV → Option R) : Option R := (pr.b2s s x).bind K
noncomputable abbrev sl (x : LV) (y z : Option LV) (K : LV → Option R) : Option R := (pr.slc 0 x y z).bind K
noncomputable abbrev tf (t : LV) (a b : Nat) (x : LV) (K : LV → Option R) : Option R := gT t (pr.fieldAddr a b x) K
noncomputable abbrev tl (t : LV) (s : Slots) (x : LV) (K : LV → Option R) : Option R := gT t (pr.load 1 false s x) K
noncomputable abbrev ff (t : LV) (a b : Nat) (x : LV) (K : LV → Option R) : Option R := gF t (pr.fieldAddr a b x) K
noncomputable abbrev fl (t : LV) (s : Slots) (x : LV) (K : LV → Option R) : Option R := gF t (pr.load 1 false s x) K
noncomputable abbrev tb (t : LV) (o : BinOp) (x y : LV) (K : LV → Option R) : Option R := gT t (pr.bin o x y) K
noncomputable abbrev fb (t : LV) (o : BinOp) (x y : LV) (K : LV → Option R) : Option R := gF t (pr.bin o x y) K
noncomputable abbrev ts (t x : LV) (K : LV → Option R) : Option R := gT t (some x) K
noncomputable abbrev fs (t x : LV) (K : LV → Option R) : Option R := gF t (some x) K
end
abbrev i (n : Int) : LV := .int .i64 n
abbrev z : Slots := noSlots
end Go.Ev.Q
open Go.Ev.Q
namespace Go.Ev
set_option linter.unusedVariables false
set_option maxRecDepth 100000
noncomputable def F_interpreterlaw15_FaultCarries (g : Call) (a0 : LV) (a1 : LV) (a2 : LV) (a3 : LV) (a4 : LV) (a5 : LV) (a6 : LV) (a7 : LV) : Option (LV × Option LV) :=
 bx a0 fun v0 =>
 bx a1 fun v1 =>
 bx a4 fun v2 =>
 bx a5 fun v3 =>
 bx a6 fun v4 =>
 bx a7 fun v5 =>
 cl g id_interpreterlaw15_awake z [] fun v7 =>
 nt v7 fun v8 =>
 condK v8 (
 pr.fin none z [(LV.bool false)]) (
 fA 3 3 v0 fun vA =>
 l1 z vA fun vB =>
 ln vB fun vC =>
 bn .gtr vC (i 70000) fun vD =>
 ff vD 3 3 v1 fun vF =>
 fl vD z vF fun vG =>
 gF vD (pr.len true vG) fun vH =>
 fb vD .gtr vH (i 70000) fun vI =>
 pF vD vI fun vJ =>
 condK vJ (
 pr.fin none z [(LV.bool true)]) (
 lA 4 z v0 fun vL =>
 lA 17 z v2 fun vO =>
 lA 17 z v3 fun vP =>
 cl g id_fault_Carry6 z [vL, a2, a3, vO, vP] fun vQ =>
 ex vQ 0 fun vS =>
 ex vQ 1 fun vT =>
 (pr.alloc (LV.agg [(i 0), (i 0), (LV.int .u32 0), (LV.str [])]) 17 z).bind fun vU =>
 sA 4 vU.2 vU.1 vS fun vV =>
 lA 4 vV.2 v0 fun vX =>
 lA 17 vV.2 v2 fun va =>
 lA 17 vV.2 v3 fun vb =>
 cl g id_interpreterref15_Carry6 vV.2 [vX, a2, a3, va, vb] fun vc =>
 ex vc 0 fun ve =>
 ex vc 1 fun vf =>
 (pr.alloc (LV.agg [(i 0), (i 0), (LV.int .u32 0), (LV.str [])]) 19 vV.2).bind fun vg =>
 sA 4 vg.2 vg.1 ve fun vh =>
 lA 4 vh.2 v1 fun vj =>
 lA 5 vh.2 v4 fun vm =>
 lA 5 vh.2 v5 fun vn =>
 cl g id_fault_Carry4 vh.2 [vj, a2, a3, vm, vn] fun vo =>
 ex vo 0 fun vq =>
 ex vo 1 fun vr =>
 (pr.alloc (LV.agg [(i 0), (i 0), (LV.int .u32 0), (LV.str [])]) 21 vh.2).bind fun vs =>
 sA 4 vs.2 vs.1 vq fun vt =>
 lA 4 vt.2 v1 fun vv =>
 lA 5 vt.2 v4 fun vy =>
 lA 5 vt.2 v5 fun vz =>
 cl g id_interpreterref15_Carry4 vt.2 [vv, a2, a3, vy, vz] fun v00 =>
 ex v00 0 fun v02 =>
 ex v00 1 fun v03 =>
 (pr.alloc (LV.agg [(i 0), (i 0), (LV.int .u32 0), (LV.str [])]) 23 vt.2).bind fun v04 =>
 sA 4 v04.2 v04.1 v02 fun v05 =>
 lA 4 v05.2 vU.1 fun v07 =>
 lA 4 v05.2 vg.1 fun v08 =>
 (pr.eqS (Sh.agg [(Sh.int .i64), (Sh.int .i64), (Sh.int .u32), Sh.str]) false v07 v08).bind fun v09 =>
 ts v09 vT fun v0B =>
 ts v09 vf fun v0C =>
 gT v09 (pr.eqB false v0B v0C) fun v0D =>
 pT v09 v0D fun v0E =>
 gT v0E (pr.load 4 true v05.2 vs.1) fun v0G =>
 gT v0E (pr.load 4 true v05.2 v04.1) fun v0H =>
 gT v0E (pr.eqS (Sh.agg [(Sh.int .i64), (Sh.int .i64), (Sh.int .u32), Sh.str]) false v0G v0H) fun v0I =>
 pT v0E v0I fun v0J =>
 ts v0J vr fun v0L =>
 ts v0J v03 fun v0M =>
 gT v0J (pr.eqB false v0L v0M) fun v0N =>
 pT v0J v0N fun v0O =>
 pr.fin none v05.2 [v0O]))
theorem F_interpreterlaw15_FaultCarries_eq (g : Call) (a0 : LV) (a1 : LV) (a2 : LV) (a3 : LV) (a4 : LV) (a5 : LV) (a6 : LV) (a7 : LV) : fnEv g c_interpreterlaw15_FaultCarries [a0, a1, a2, a3, a4, a5, a6, a7] none = F_interpreterlaw15_FaultCarries g a0 a1 a2 a3 a4 a5 a6 a7 := by kernel_rfl
noncomputable def F_interpreterlaw15_awake (g : Call) : Option (LV × Option LV) :=
 cl g id_interpreterlaw15_gram z [(i 600)] fun v1 =>
 cl g id_interpreterref03_Bytes z [v1] fun v2 =>
 ex v2 0 fun v4 =>
 ex v2 1 fun v5 =>
 (pr.parts (LV.agg [(i 0), (i 0), (LV.int .u32 0), (LV.str [])]) [(0, (i 11))]).bind fun v8 =>
 (pr.parts (LV.bytes [0, 0, 0, 0]) [(0, (LV.int .u8 192)), (1, (LV.int .u8 0)), (2, (LV.int .u8 2)), (3, (LV.int .u8 9))]).bind fun vA =>
 cl g id_fault_Own4 z [v8, v4, vA, (i 5), (i 1500)] fun vB =>
 ex vB 0 fun vD =>
 ex vB 1 fun vE =>
 cl g id_interpreterref03_Parse z [vD] fun vI =>
 ex vI 0 fun vK =>
 ex vI 1 fun vL =>
 (pr.alloc (LV.agg [(i 0), (i 0), (i 0), (i 0), (i 0), (LV.bool false), (LV.bool false), (LV.bytes [0, 0, 0, 0]), (LV.bytes [0, 0, 0, 0]), (LV.str []), (LV.str [])]) 5 z).bind fun vM =>
 sA 17 vM.2 vM.1 vK fun vN =>
 nt vE fun vQ =>
 fs vQ vL fun vS =>
 fb vQ .neq vS (i 0) fun vT =>
 pF vQ vT fun vU =>
 fs vU vD fun vW =>
 gF vU (pr.len true vW) fun vX =>
 fb vU .neq vX (i 576) fun vY =>
 pF vU vY fun vZ =>
 ff vZ 8 11 vM.1 fun vb =>
 gF vZ (pr.load 4 true vN.2 vb) fun vc =>
 gF vZ (pr.call g id_interpreterlaw15_gram vN.2 [(i 0)]) fun vd =>
 gF vZ (pr.field 7 7 4 true vd) fun ve =>
 gF vZ (pr.eqS (Sh.bytes 4) true vc ve) fun vf =>
 pF vZ vf fun vg =>
 ff vg 3 3 vM.1 fun vi =>
 fl vg vN.2 vi fun vj =>
 fb vg .neq vj (i 1) fun vk =>
 pF vg vk fun vl =>
 ff vl 10 16 vM.1 fun vn =>
 fl vl vN.2 vn fun vo =>
 gF vl (pr.len true vo) fun vp =>
 fb vl .lss vp (i 8) fun vq =>
 pF vl vq fun vr =>
 ff vr 10 16 vM.1 fun vt =>
 fl vr vN.2 vt fun vu =>
 gF vr (pr.slc 0 vu (some (i 8)) none) fun vv =>
 fs vr v4 fun vw =>
 gF vr (pr.slc 0 vw none (some (i 548))) fun vx =>
 fb vr .neq vv vx fun vy =>
 pF vr vy fun vz =>
 condK vz (
 pr.fin none vN.2 [(LV.bool false)]) (
 fA 10 16 vM.1 fun v01 =>
 l1 vN.2 v01 fun v02 =>
 sl v02 (some (i 8)) none fun v03 =>
 cl g id_fault_Inside4 vN.2 [v03] fun v04 =>
 ex v04 0 fun v06 =>
 ex v04 1 fun v07 =>
 ex v04 2 fun v08 =>
 (pr.alloc (LV.agg [(i 0), (i 0), (i 0), (i 0), (i 0), (LV.bool false), (LV.bool false), (LV.bytes [0, 0, 0, 0]), (LV.bytes [0, 0, 0, 0]), (LV.str []), (LV.str [])]) 7 vN.2).bind fun v09 =>
 sA 17 v09.2 v09.1 v06 fun v0A =>
 lA 17 v0A.2 v09.1 fun v0D =>
 (pr.parts (LV.agg [(LV.bytes [0, 0, 0, 0, 0, 0, 0, 0, 0, 0, 0, 0, 0, 0, 0, 0]), (i 0)]) [(1, (i 1))]).bind fun v0F =>
 (pr.parts (LV.agg [(LV.bytes [0, 0, 0, 0, 0, 0, 0, 0, 0, 0, 0, 0, 0, 0, 0, 0]), (i 0)]) [(1, (i 2))]).bind fun v0G =>
 cl g id_fault_Quote6 v0A.2 [v0D, v07, v0F, v0G] fun v0H =>
 ex v0H 0 fun v0J =>
 ex v0H 1 fun v0K =>
 eN 1 false v08 fun v0O =>
 ts v0O v07 fun v0Q =>
 tb v0O .eql v0Q (i 600) fun v0R =>
 pT v0O v0R fun v0S =>
 tf v0S 10 16 v09.1 fun v0U =>
 tl v0S v0A.2 v0U fun v0V =>
 gT v0S (pr.len true v0V) fun v0W =>
 tb v0S .eql v0W (i 528) fun v0X =>
 pT v0S v0X fun v0Y =>
 ts v0Y v0K fun v0a =>
 gT v0Y (pr.eqNil 1 false v0a) fun v0b =>
 pT v0Y v0b fun v0c =>
 ts v0c v0J fun v0e =>
 gT v0c (pr.len true v0e) fun v0f =>
 tb v0c .eql v0f (i 568) fun v0g =>
 pT v0c v0g fun v0h =>
 ts v0h v0J fun v0j =>
 gT v0h (pr.slc 0 v0j (some (i 40)) (some (i 44))) fun v0k =>
 tb v0h .eql v0k (LV.str [0, 1, 0, 2]) fun v0l =>
 pT v0h v0l fun v0m =>
 pr.fin none v0A.2 [v0m])
theorem F_interpreterlaw15_awake_eq (g : Call) : fnEv g c_interpreterlaw15_awake [] none = F_interpreterlaw15_awake g := by kernel_rfl
noncomputable def F_fault_Carry6 (g : Call) (a0 : LV) (a1 : LV) (a2 : LV) (a3 : LV) (a4 : LV) : Option (LV × Option LV) :=
 bx a0 fun v0 =>
 bx a3 fun v1 =>
 bx a4 fun v2 =>
 (pr.alloc (LV.agg [(i 0), (i 0), (LV.int .u32 0), (LV.str [])]) 10 z).bind fun v3 =>
 fA 3 3 v0 fun v5 =>
 l1 v3.2 v5 fun v6 =>
 cl g id_fault_Inside4 v3.2 [v6] fun v7 =>
 ex v7 0 fun v9 =>
 ex v7 1 fun vA =>
 ex v7 2 fun vB =>
 (pr.alloc (LV.agg [(i 0), (i 0), (i 0), (i 0), (i 0), (LV.bool false), (LV.bool false), (LV.bytes [0, 0, 0, 0]), (LV.bytes [0, 0, 0, 0]), (LV.str []), (LV.str [])]) 12 v3.2).bind fun vC =>
 sA 17 vC.2 vC.1 v9 fun vD =>
 eN 1 true vB fun vH =>
 gF vH (pr.load 4 true vD.2 v0) fun vJ =>
 gF vH (pr.call g id_icmp4_Failure vD.2 [vJ]) fun vK =>
 gF vH (pr.un .not vK) fun vL =>
 pF vH vL fun vM =>
 condK vM (
 (pr.parts (LV.agg [(i 0), (i 0), (LV.int .u32 0), (LV.str [])]) []).bind fun vN =>
 sA 4 vD.2 v3.1 vN fun vO =>
 lA 4 vO.2 v3.1 fun vQ =>
 pr.fin none vO.2 [vQ, (LV.bool false)]) (
 lA 4 vD.2 v0 fun vR =>
 fA 9 15 vC.1 fun vU =>
 l1 vD.2 vU fun vV =>
 ln vV fun vW =>
 bn .add (i 20) vW fun vX =>
 bn .add vX vA fun vZ =>
 cl g id_icmpmap_To6 vD.2 [vR, a1, a2, vZ] fun va =>
 ex va 0 fun vc =>
 ex va 1 fun vd =>
 (pr.alloc (LV.agg [(i 0), (i 0), (LV.int .u32 0), (LV.str [])]) 15 vD.2).bind fun ve =>
 sA 4 ve.2 ve.1 vc fun vf =>
 lA 17 vf.2 vC.1 fun vh =>
 lA 17 vf.2 v1 fun vj =>
 lA 17 vf.2 v2 fun vk =>
 cl g id_fault_Quote6 vf.2 [vh, vA, vj, vk] fun vl =>
 ex vl 0 fun vn =>
 ex vl 1 fun vo =>
 nt vd fun vs =>
 fs vs vo fun vu =>
 gF vs (pr.eqNil 1 true vu) fun vv =>
 pF vs vv fun vw =>
 condK vw (
 (pr.parts (LV.agg [(i 0), (i 0), (LV.int .u32 0), (LV.str [])]) []).bind fun vx =>
 sA 4 vf.2 v3.1 vx fun vy =>
 lA 4 vy.2 v3.1 fun v00 =>
 pr.fin none vy.2 [v00, (LV.bool false)]) (
 ln vn fun v03 =>
 (pr.minmax false v03 [(i 1232)]).bind fun v04 =>
 sl vn none (some v04) fun v05 =>
 fA 3 3 ve.1 fun v06 =>
 s1 vf.2 v06 v05 fun v07 =>
 lA 4 v07.2 ve.1 fun v08 =>
 sA 4 v07.2 v3.1 v08 fun v09 =>
 lA 4 v09.2 v3.1 fun v0B =>
 pr.fin none v09.2 [v0B, (LV.bool true)]))
theorem F_fault_Carry6_eq (g : Call) (a0 : LV) (a1 : LV) (a2 : LV) (a3 : LV) (a4 : LV) : fnEv g c_fault_Carry6 [a0, a1, a2, a3, a4] none = F_fault_Carry6 g a0 a1 a2 a3 a4 := by kernel_rfl
noncomputable def F_interpreterref15_Carry6 (g : Call) (a0 : LV) (a1 : LV) (a2 : LV) (a3 : LV) (a4 : LV) : Option (LV × Option LV) :=
 bx a0 fun v0 =>
 bx a3 fun v1 =>
 bx a4 fun v2 =>
 (pr.alloc (LV.agg [(i 0), (i 0), (LV.int .u32 0), (LV.str [])]) 10 z).bind fun v3 =>
 fA 3 3 v0 fun v5 =>
 l1 v3.2 v5 fun v6 =>
 cl g id_interpreterref15_Inside4 v3.2 [v6] fun v7 =>
 ex v7 0 fun v9 =>
 ex v7 1 fun vA =>
 ex v7 2 fun vB =>
 (pr.alloc (LV.agg [(i 0), (i 0), (i 0), (i 0), (i 0), (LV.bool false), (LV.bool false), (LV.bytes [0, 0, 0, 0]), (LV.bytes [0, 0, 0, 0]), (LV.str []), (LV.str [])]) 12 v3.2).bind fun vC =>
 sA 17 vC.2 vC.1 v9 fun vD =>
 bn .neq vB (i 0) fun vH =>
 gF vH (pr.load 4 true vD.2 v0) fun vJ =>
 gF vH (pr.call g id_interpreterref07_Failure vD.2 [vJ]) fun vK =>
 gF vH (pr.un .not vK) fun vL =>
 pF vH vL fun vM =>
 condK vM (
 (pr.parts (LV.agg [(i 0), (i 0), (LV.int .u32 0), (LV.str [])]) []).bind fun vN =>
 sA 4 vD.2 v3.1 vN fun vO =>
 lA 4 vO.2 v3.1 fun vQ =>
 pr.fin none vO.2 [vQ, (LV.bool false)]) (
 lA 17 vD.2 vC.1 fun vR =>
 lA 17 vD.2 v1 fun vT =>
 lA 17 vD.2 v2 fun vU =>
 cl g id_interpreterref15_Quote6 vD.2 [vR, vA, vT, vU] fun vV =>
 ex vV 0 fun vX =>
 ex vV 1 fun vY =>
 lA 4 vD.2 v0 fun vb =>
 fA 9 15 vC.1 fun ve =>
 l1 vD.2 ve fun vf =>
 ln vf fun vg =>
 bn .add (i 20) vg fun vh =>
 bn .add vh vA fun vj =>
 cl g id_interpreterref14_To6 vD.2 [vb, a1, a2, vj] fun vk =>
 ex vk 0 fun vm =>
 ex vk 1 fun vn =>
 (pr.alloc (LV.agg [(i 0), (i 0), (LV.int .u32 0), (LV.str [])]) 17 vD.2).bind fun vo =>
 sA 4 vo.2 vo.1 vm fun vp =>
 bn .neq vY (i 0) fun vs =>
 fs vs vn fun vu =>
 gF vs (pr.un .not vu) fun vv =>
 pF vs vv fun vw =>
 condK vw (
 (pr.parts (LV.agg [(i 0), (i 0), (LV.int .u32 0), (LV.str [])]) []).bind fun vx =>
 sA 4 vp.2 v3.1 vx fun vy =>
 lA 4 vy.2 v3.1 fun v00 =>
 pr.fin none vy.2 [v00, (LV.bool false)]) (
 ln vX fun v02 =>
 bn .gtr v02 (i 1232) fun v03 =>
 condK v03 (
 sl vX none (some (i 1232)) fun v05 =>
 fA 3 3 vo.1 fun v08 =>
 s1 vp.2 v08 v05 fun v09 =>
 lA 4 v09.2 vo.1 fun v0A =>
 sA 4 v09.2 v3.1 v0A fun v0B =>
 lA 4 v0B.2 v3.1 fun v0D =>
 pr.fin none v0B.2 [v0D, (LV.bool true)]) (
 fA 3 3 vo.1 fun v0F =>
 s1 vp.2 v0F vX fun v0G =>
 lA 4 v0G.2 vo.1 fun v0H =>
 sA 4 v0G.2 v3.1 v0H fun v0I =>
 lA 4 v0I.2 v3.1 fun v0K =>
 pr.fin none v0I.2 [v0K, (LV.bool true)])))
theorem F_interpreterref15_Carry6_eq (g : Call) (a0 : LV) (a1 : LV) (a2 : LV) (a3 : LV) (a4 : LV) : fnEv g c_interpreterref15_Carry6 [a0, a1, a2, a3, a4] none = F_interpreterref15_Carry6 g a0 a1 a2 a3 a4 := by kernel_rfl
noncomputable def F_fault_Carry4 (g : Call) (a0 : LV) (a1 : LV) (a2 : LV) (a3 : LV) (a4 : LV) : Option (LV × Option LV) :=
 bx a0 fun v0 =>
 bx a3 fun v1 =>
 bx a4 fun v2 =>
 (pr.alloc (LV.agg [(i 0), (i 0), (LV.int .u32 0), (LV.str [])]) 10 z).bind fun v3 =>
 fA 3 3 v0 fun v5 =>
 l1 v3.2 v5 fun v6 =>
 cl g id_fault_Inside6 v3.2 [v6] fun v7 =>
 ex v7 0 fun v9 =>
 ex v7 1 fun vA =>
 ex v7 2 fun vB =>
 (pr.alloc (LV.agg [(i 0), (i 0), (i 0), (LV.bytes [0, 0, 0, 0, 0, 0, 0, 0, 0, 0, 0, 0, 0, 0, 0, 0]), (LV.bytes [0, 0, 0, 0, 0, 0, 0, 0, 0, 0, 0, 0, 0, 0, 0, 0]), LV.nils, (LV.bool false), (LV.int .u32 0), (i 0), (LV.bool false), (i 0), (LV.str [])]) 12 v3.2).bind fun vC =>
 sA 42 vC.2 vC.1 v9 fun vD =>
 eN 1 true vB fun vH =>
 gF vH (pr.load 4 true vD.2 v0) fun vJ =>
 gF vH (pr.call g id_icmp6_Failure vD.2 [vJ]) fun vK =>
 gF vH (pr.un .not vK) fun vL =>
 pF vH vL fun vM =>
 condK vM (
 (pr.parts (LV.agg [(i 0), (i 0), (LV.int .u32 0), (LV.str [])]) []).bind fun vN =>
 sA 4 vD.2 v3.1 vN fun vO =>
 lA 4 vO.2 v3.1 fun vQ =>
 pr.fin none vO.2 [vQ, (LV.bool false)]) (
 lA 4 vD.2 v0 fun vR =>
 cl g id_icmpmap_To4 vD.2 [vR, a1, a2] fun vU =>
 ex vU 0 fun vW =>
 ex vU 1 fun vX =>
 (pr.alloc (LV.agg [(i 0), (i 0), (LV.int .u32 0), (LV.str [])]) 15 vD.2).bind fun vY =>
 sA 4 vY.2 vY.1 vW fun vZ =>
 lA 42 vZ.2 vC.1 fun vb =>
 lA 5 vZ.2 v1 fun vd =>
 lA 5 vZ.2 v2 fun ve =>
 cl g id_fault_Quote4 vZ.2 [vb, vA, vd, ve] fun vf =>
 ex vf 0 fun vh =>
 ex vf 1 fun vi =>
 nt vX fun vm =>
 fs vm vi fun vo =>
 gF vm (pr.eqNil 1 true vo) fun vp =>
 pF vm vp fun vq =>
 condK vq (
 (pr.parts (LV.agg [(i 0), (i 0), (LV.int .u32 0), (LV.str [])]) []).bind fun vr =>
 sA 4 vZ.2 v3.1 vr fun vs =>
 lA 4 vs.2 v3.1 fun vu =>
 pr.fin none vs.2 [vu, (LV.bool false)]) (
 ln vh fun vx =>
 (pr.minmax false (i 576) [a1]).bind fun vz =>
 bn .sub vz (i 20) fun v00 =>
 bn .sub v00 (i 8) fun v01 =>
 (pr.minmax false vx [v01]).bind fun v02 =>
 sl vh none (some v02) fun v03 =>
 fA 3 3 vY.1 fun v04 =>
 s1 vZ.2 v04 v03 fun v05 =>
 lA 4 v05.2 vY.1 fun v06 =>
 sA 4 v05.2 v3.1 v06 fun v07 =>
 lA 4 v07.2 v3.1 fun v09 =>
 pr.fin none v07.2 [v09, (LV.bool true)]))
theorem F_fault_Carry4_eq (g : Call) (a0 : LV) (a1 : LV) (a2 : LV) (a3 : LV) (a4 : LV) : fnEv g c_fault_Carry4 [a0, a1, a2, a3, a4] none = F_fault_Carry4 g a0 a1 a2 a3 a4 := by kernel_rfl
noncomputable def F_interpreterref15_Carry4 (g : Call) (a0 : LV) (a1 : LV) (a2 : LV) (a3 : LV) (a4 : LV) : Option (LV × Option LV) :=
 bx a0 fun v0 =>
 bx a3 fun v1 =>
 bx a4 fun v2 =>
 (pr.alloc (LV.agg [(i 0), (i 0), (LV.int .u32 0), (LV.str [])]) 10 z).bind fun v3 =>
 fA 3 3 v0 fun v5 =>
 l1 v3.2 v5 fun v6 =>
 cl g id_interpreterref15_Inside6 v3.2 [v6] fun v7 =>
 ex v7 0 fun v9 =>
 ex v7 1 fun vA =>
 ex v7 2 fun vB =>
 (pr.alloc (LV.agg [(i 0), (i 0), (i 0), (LV.bytes [0, 0, 0, 0, 0, 0, 0, 0, 0, 0, 0, 0, 0, 0, 0, 0]), (LV.bytes [0, 0, 0, 0, 0, 0, 0, 0, 0, 0, 0, 0, 0, 0, 0, 0]), LV.nils, (LV.bool false), (LV.int .u32 0), (i 0), (LV.bool false), (i 0), (LV.str [])]) 12 v3.2).bind fun vC =>
 sA 42 vC.2 vC.1 v9 fun vD =>
 bn .neq vB (i 0) fun vH =>
 gF vH (pr.load 4 true vD.2 v0) fun vJ =>
 gF vH (pr.call g id_interpreterref08_Failure vD.2 [vJ]) fun vK =>
 gF vH (pr.un .not vK) fun vL =>
 pF vH vL fun vM =>
 condK vM (
 (pr.parts (LV.agg [(i 0), (i 0), (LV.int .u32 0), (LV.str [])]) []).bind fun vN =>
 sA 4 vD.2 v3.1 vN fun vO =>
 lA 4 vO.2 v3.1 fun vQ =>
 pr.fin none vO.2 [vQ, (LV.bool false)]) (
 lA 42 vD.2 vC.1 fun vR =>
 lA 5 vD.2 v1 fun vT =>
 lA 5 vD.2 v2 fun vU =>
 cl g id_interpreterref15_Quote4 vD.2 [vR, vA, vT, vU] fun vV =>
 ex vV 0 fun vX =>
 ex vV 1 fun vY =>
 lA 4 vD.2 v0 fun vb =>
 cl g id_interpreterref14_To4 vD.2 [vb, a1, a2] fun ve =>
 ex ve 0 fun vg =>
 ex ve 1 fun vh =>
 (pr.alloc (LV.agg [(i 0), (i 0), (LV.int .u32 0), (LV.str [])]) 17 vD.2).bind fun vi =>
 sA 4 vi.2 vi.1 vg fun vj =>
 bn .neq vY (i 0) fun vm =>
 fs vm vh fun vo =>
 gF vm (pr.un .not vo) fun vp =>
 pF vm vp fun vq =>
 condK vq (
 (pr.parts (LV.agg [(i 0), (i 0), (LV.int .u32 0), (LV.str [])]) []).bind fun vr =>
 sA 4 vj.2 v3.1 vr fun vs =>
 lA 4 vs.2 v3.1 fun vu =>
 pr.fin none vs.2 [vu, (LV.bool false)]) (
 bn .sub a1 (i 28) fun vw =>
 bn .gtr vw (i 548) fun vz =>
 condK vz (
 ln vX fun v02 =>
 bn .gtr v02 (i 548) fun v04 =>
 condK v04 (
 sl vX none (some (i 548)) fun v07 =>
 fA 3 3 vi.1 fun v0A =>
 s1 vj.2 v0A v07 fun v0B =>
 lA 4 v0B.2 vi.1 fun v0C =>
 sA 4 v0B.2 v3.1 v0C fun v0D =>
 lA 4 v0D.2 v3.1 fun v0F =>
 pr.fin none v0D.2 [v0F, (LV.bool true)]) (
 fA 3 3 vi.1 fun v0H =>
 s1 vj.2 v0H vX fun v0I =>
 lA 4 v0I.2 vi.1 fun v0J =>
 sA 4 v0I.2 v3.1 v0J fun v0K =>
 lA 4 v0K.2 v3.1 fun v0M =>
 pr.fin none v0K.2 [v0M, (LV.bool true)])) (
 ln vX fun v0O =>
 bn .gtr v0O vw fun v0Q =>
 condK v0Q (
 sl vX none (some vw) fun v0T =>
 fA 3 3 vi.1 fun v0W =>
 s1 vj.2 v0W v0T fun v0X =>
 lA 4 v0X.2 vi.1 fun v0Y =>
 sA 4 v0X.2 v3.1 v0Y fun v0Z =>
 lA 4 v0Z.2 v3.1 fun v0b =>
 pr.fin none v0Z.2 [v0b, (LV.bool true)]) (
 fA 3 3 vi.1 fun v0d =>
 s1 vj.2 v0d vX fun v0e =>
 lA 4 v0e.2 vi.1 fun v0f =>
 sA 4 v0e.2 v3.1 v0f fun v0g =>
 lA 4 v0g.2 v3.1 fun v0i =>
 pr.fin none v0g.2 [v0i, (LV.bool true)]))))
theorem F_interpreterref15_Carry4_eq (g : Call) (a0 : LV) (a1 : LV) (a2 : LV) (a3 : LV) (a4 : LV) : fnEv g c_interpreterref15_Carry4 [a0, a1, a2, a3, a4] none = F_interpreterref15_Carry4 g a0 a1 a2 a3 a4 := by kernel_rfl
noncomputable def F_interpreterref03_Bytes_k1 (g : Call) (v0 : LV) (r72 : Ex × List LV × Slots) :=
 (whileW (fun q87 : List LV × Slots =>
 bn .lss (getL q87.1 1) (i 4) fun v0R =>
 condK v0R (
 fA 8 11 v0 fun v0U =>
 (pr.idxAddr (some 4) 1 v0U (getL q87.1 1)).bind fun v0V =>
 l1 q87.2 v0V fun v0W =>
 (pr.bsl (LV.int .u8 0) 1 [(0, v0W)]).bind fun v0X =>
 (pr.append 1 1 92 q87.2 (getL q87.1 0) v0X).bind fun v0Y =>
 bn .add (getL q87.1 1) (i 1) fun v0b =>
 pr.round r72.2.2 .normal [v0Y.1, v0b] v0Y.2) (
 pr.round r72.2.2 (.exit 2) [(getL q87.1 0), (getL q87.1 1)] q87.2)) ([(getL r72.2.1 0), (i 0)], r72.2.2)).bind fun r87 =>
 exIf r87.1 (.exit 2) (
 fA 9 15 v0 fun v0e =>
 l1 r87.2.2 v0e fun v0f =>
 (pr.append 1 1 96 r87.2.2 (getL r87.2.1 0) v0f).bind fun v0g =>
 bS v0g.2 v0g.1 fun v0j =>
 cl g id_interpreterref02_Of v0g.2 [v0j] fun v0k =>
 bn .quo v0k (i 256) fun v0o =>
 (pr.conv .u8 v0o).bind fun v0p =>
 (pr.idxAddr none 1 v0g.1 (i 10)).bind fun v0q =>
 s1 v0g.2 v0q v0p fun v0r =>
 bn .rem v0k (i 256) fun v0u =>
 (pr.conv .u8 v0u).bind fun v0v =>
 (pr.idxAddr none 1 v0g.1 (i 11)).bind fun v0w =>
 s1 v0r.2 v0w v0v fun v0x =>
 bS v0x.2 v0g.1 fun v0z =>
 fA 10 16 v0 fun v10 =>
 l1 v0x.2 v10 fun v11 =>
 bn .add v0z v11 fun v12 =>
 pr.fin none v0x.2 [v12, (i 0)]) (none)
noncomputable def F_interpreterref03_Bytes_k4 (g : Call) (v0 : LV) (q171 : List LV × Slots) (v1i : LV × Slots) :=
 fA 7 7 v0 fun v1q =>
 (pr.idxAddr (some 4) 1 v1q (getL q171.1 1)).bind fun v1r =>
 l1 q171.2 v1r fun v1s =>
 (pr.bsl (LV.int .u8 0) 1 [(0, v1s)]).bind fun v1t =>
 (pr.append 1 1 81 q171.2 (getL q171.1 0) v1t).bind fun v1u =>
 bn .add (getL q171.1 1) (i 1) fun v1x =>
 pr.round v1i.2 .normal [v1u.1, v1x] v1u.2
noncomputable def F_interpreterref03_Bytes_k2 (g : Call) (v0 : LV) (vE : LV) (vN : LV) :=
 fA 10 16 v0 fun v16 =>
 l1 z v16 fun v17 =>
 ln v17 fun v18 =>
 bn .add vE v18 fun v19 =>
 bn .quo vE (i 4) fun v1C =>
 bn .add (i 64) v1C fun v1D =>
 (pr.conv .u8 v1D).bind fun v1E =>
 fA 0 0 v0 fun v1F =>
 l1 z v1F fun v1G =>
 (pr.conv .u8 v1G).bind fun v1H =>
 bn .quo v19 (i 256) fun v1J =>
 (pr.conv .u8 v1J).bind fun v1K =>
 bn .rem v19 (i 256) fun v1M =>
 (pr.conv .u8 v1M).bind fun v1N =>
 fA 1 1 v0 fun v1O =>
 l1 z v1O fun v1P =>
 bn .quo v1P (i 256) fun v1Q =>
 (pr.conv .u8 v1Q).bind fun v1R =>
 fA 1 1 v0 fun v1S =>
 l1 z v1S fun v1T =>
 bn .rem v1T (i 256) fun v1U =>
 (pr.conv .u8 v1U).bind fun v1V =>
 bn .quo vN (i 256) fun v1X =>
 (pr.conv .u8 v1X).bind fun v1Y =>
 bn .rem vN (i 256) fun v1a =>
 (pr.conv .u8 v1a).bind fun v1b =>
 fA 2 2 v0 fun v1c =>
 l1 z v1c fun v1d =>
 (pr.conv .u8 v1d).bind fun v1e =>
 fA 3 3 v0 fun v1f =>
 l1 z v1f fun v1g =>
 (pr.conv .u8 v1g).bind fun v1h =>
 (pr.bslM 12 [(0, v1E), (1, v1H), (2, v1K), (3, v1N), (4, v1R), (5, v1V), (6, v1Y), (7, v1b), (8, v1e), (9, v1h), (10, (LV.int .u8 0)), (11, (LV.int .u8 0))] 70 z).bind fun v1i =>
 (whileW (fun q171 : List LV × Slots =>
 bn .lss (getL q171.1 1) (i 4) fun v1n =>
 condK v1n (F_interpreterref03_Bytes_k4 g v0 q171 v1i) (
 pr.round v1i.2 (.exit 0) [(getL q171.1 0), (getL q171.1 1)] q171.2)) ([v1i.1, (i 0)], v1i.2)).bind fun r171 =>
 exIf r171.1 (.exit 0) (F_interpreterref03_Bytes_k1 g v0 r171) (none)
noncomputable def F_interpreterref03_Bytes_k3 (g : Call) (vN : LV) (v0 : LV) (vE : LV) :=
 bn .add vN (i 16384) fun vS =>
 fA 10 16 v0 fun vV =>
 l1 z vV fun vW =>
 ln vW fun vX =>
 bn .add vE vX fun vY =>
 bn .quo vE (i 4) fun vb =>
 bn .add (i 64) vb fun vc =>
 (pr.conv .u8 vc).bind fun vd =>
 fA 0 0 v0 fun ve =>
 l1 z ve fun vf =>
 (pr.conv .u8 vf).bind fun vg =>
 bn .quo vY (i 256) fun vi =>
 (pr.conv .u8 vi).bind fun vj =>
 bn .rem vY (i 256) fun vl =>
 (pr.conv .u8 vl).bind fun vm =>
 fA 1 1 v0 fun vn =>
 l1 z vn fun vo =>
 bn .quo vo (i 256) fun vp =>
 (pr.conv .u8 vp).bind fun vq =>
 fA 1 1 v0 fun vr =>
 l1 z vr fun vs =>
 bn .rem vs (i 256) fun vt =>
 (pr.conv .u8 vt).bind fun vu =>
 bn .quo vS (i 256) fun vw =>
 (pr.conv .u8 vw).bind fun vx =>
 bn .rem vS (i 256) fun vz =>
 (pr.conv .u8 vz).bind fun v00 =>
 fA 2 2 v0 fun v01 =>
 l1 z v01 fun v02 =>
 (pr.conv .u8 v02).bind fun v03 =>
 fA 3 3 v0 fun v04 =>
 l1 z v04 fun v05 =>
 (pr.conv .u8 v05).bind fun v06 =>
 (pr.bslM 12 [(0, vd), (1, vg), (2, vj), (3, vm), (4, vq), (5, vu), (6, vx), (7, v00), (8, v03), (9, v06), (10, (LV.int .u8 0)), (11, (LV.int .u8 0))] 70 z).bind fun v07 =>
 (whileW (fun q72 : List LV × Slots =>
 bn .lss (getL q72.1 1) (i 4) fun v0C =>
 condK v0C (F_interpreterref03_Bytes_k4 g v0 q72 v07) (
 pr.round v07.2 (.exit 0) [(getL q72.1 0), (getL q72.1 1)] q72.2)) ([v07.1, (i 0)], v07.2)).bind fun r72 =>
 exIf r72.1 (.exit 0) (F_interpreterref03_Bytes_k1 g v0 r72) (none)
noncomputable def F_interpreterref03_Bytes (g : Call) (a0 : LV) : Option (LV × Option LV) :=
 bx a0 fun v0 =>
 lA 17 z v0 fun v3 =>
 cl g id_interpreterref03_Why z [v3] fun v4 =>
 bn .neq v4 (i 0) fun v7 =>
 condK v7 (
 pr.fin none z [(LV.str []), v4]) (
 fA 9 15 v0 fun vB =>
 l1 z vB fun vC =>
 ln vC fun vD =>
 bn .add (i 20) vD fun vE =>
 fA 4 4 v0 fun vG =>
 l1 z vG fun vH =>
 bn .quo vH (i 8) fun vI =>
 fA 6 6 v0 fun vK =>
 l1 z vK fun vL =>
 condK vL (
 bn .add vI (i 8192) fun vN =>
 fA 5 5 v0 fun vP =>
 l1 z vP fun vQ =>
 condK vQ (F_interpreterref03_Bytes_k3 g vN v0 vE) (F_interpreterref03_Bytes_k2 g v0 vE vN)) (
 fA 5 5 v0 fun v2g =>
 l1 z v2g fun v2h =>
 condK v2h (F_interpreterref03_Bytes_k3 g vI v0 vE) (F_interpreterref03_Bytes_k2 g v0 vE vI)))
theorem F_interpreterref03_Bytes_eq (g : Call) (a0 : LV) : fnEv g c_interpreterref03_Bytes [a0] none = F_interpreterref03_Bytes g a0 := by kernel_rfl
noncomputable def F_interpreterlaw15_gram (g : Call) (a0 : LV) : Option (LV × Option LV) :=
 (pr.alloc (LV.agg [(i 0), (i 0), (i 0), (i 0), (i 0), (LV.bool false), (LV.bool false), (LV.bytes [0, 0, 0, 0]), (LV.bytes [0, 0, 0, 0]), (LV.str []), (LV.str [])]) 2 z).bind fun v0 =>
 (pr.parts (LV.bytes [0, 0, 0, 0]) [(0, (LV.int .u8 192)), (1, (LV.int .u8 0)), (2, (LV.int .u8 2)), (3, (LV.int .u8 1))]).bind fun v1 =>
 (pr.parts (LV.bytes [0, 0, 0, 0]) [(0, (LV.int .u8 192)), (1, (LV.int .u8 0)), (2, (LV.int .u8 2)), (3, (LV.int .u8 2))]).bind fun v2 =>
 cl g id_strings_Repeat v0.2 [(LV.str [120]), a0] fun v4 =>
 (pr.parts (LV.agg [(i 0), (i 0), (i 0), (i 0), (i 0), (LV.bool false), (LV.bool false), (LV.bytes [0, 0, 0, 0]), (LV.bytes [0, 0, 0, 0]), (LV.str []), (LV.str [])]) [(2, (i 9)), (3, (i 17)), (7, v1), (8, v2), (10, v4)]).bind fun v5 =>
 sA 17 v0.2 v0.1 v5 fun v6 =>
 lA 17 v6.2 v0.1 fun v7 =>
 pr.fin none v6.2 [v7]
theorem F_interpreterlaw15_gram_eq (g : Call) (a0 : LV) : fnEv g c_interpreterlaw15_gram [a0] none = F_interpreterlaw15_gram g a0 := by kernel_rfl
noncomputable def F_fault_Own4 (g : Call) (a0 : LV) (a1 : LV) (a2 : LV) (a3 : LV) (a4 : LV) : Option (LV × Option LV) :=
 (pr.boxM a0 5 z).bind fun v0 =>
 bx a2 fun v1 =>
 cl g id_ip4_Parse v0.2 [a1] fun v5 =>
 ex v5 0 fun v7 =>
 ex v5 1 fun v8 =>
 (pr.alloc (LV.agg [(i 0), (i 0), (i 0), (i 0), (i 0), (LV.bool false), (LV.bool false), (LV.bytes [0, 0, 0, 0]), (LV.bytes [0, 0, 0, 0]), (LV.str []), (LV.str [])]) 12 v0.2).bind fun v9 =>
 sA 17 v9.2 v9.1 v7 fun vA =>
 eN 1 true v8 fun vD =>
 gF vD (pr.load 4 true vA.2 v0.1) fun vF =>
 gF vD (pr.call g id_icmp4_Failure vA.2 [vF]) fun vG =>
 gF vD (pr.un .not vG) fun vH =>
 pF vD vH fun vI =>
 ff vI 4 4 v9.1 fun vK =>
 fl vI vA.2 vK fun vL =>
 fb vI .gtr vL (i 0) fun vM =>
 pF vI vM fun vN =>
 ff vN 7 7 v9.1 fun vP =>
 gF vN (pr.load 4 true vA.2 vP) fun vQ =>
 gF vN (pr.call g id_class_Martian4 vA.2 [vQ]) fun vR =>
 pF vN vR fun vS =>
 fs vS a4 fun vU =>
 fb vS .lss vU (i 68) fun vV =>
 pF vS vV fun vW =>
 fs vW a4 fun vY =>
 fb vW .gtr vY (i 65535) fun vZ =>
 pF vW vZ fun va =>
 condK va (
 pr.fin none vA.2 [(LV.str []), (LV.bool false)]) (
 fA 3 3 v9.1 fun ve =>
 l1 vA.2 ve fun vf =>
 bn .eql vf (i 1) fun vg =>
 tf vg 10 16 v9.1 fun vi =>
 tl vg vA.2 vi fun vj =>
 tb vg .eql vj (LV.str []) fun vk =>
 ts vg vk fun vl =>
 ff vl 10 16 v9.1 fun vm =>
 fl vl vA.2 vm fun vn =>
 gF vl (pr.idxStr vn (i 0)) fun vo =>
 gF vl (pr.conv .i64 vo) fun vp =>
 gF vl (pr.parts (LV.agg [(i 0), (i 0), (LV.int .u32 0), (LV.str [])]) [(0, vp)]) fun vq =>
 gF vl (pr.call g id_icmp4_Failure vA.2 [vq]) fun vr =>
 gT vg (pr.pick vl (LV.bool true) vr) fun vs =>
 pT vg vs fun vt =>
 condK vt (
 pr.fin none vA.2 [(LV.str []), (LV.bool false)]) (
 fA 9 15 v9.1 fun vx =>
 l1 vA.2 vx fun vy =>
 ln vy fun vz =>
 bn .add (i 20) vz fun v00 =>
 fA 10 16 v9.1 fun v04 =>
 l1 vA.2 v04 fun v05 =>
 ln v05 fun v06 =>
 bn .add v00 v06 fun v07 =>
 sl a1 none (some v07) fun v08 =>
 (pr.minmax false (i 576) [a4]).bind fun v0B =>
 bn .sub v0B (i 20) fun v0C =>
 bn .sub v0C (i 8) fun v0D =>
 cl g id_fault_beginning vA.2 [v08, v00, v0D] fun v0E =>
 ex v0E 0 fun v0G =>
 ex v0E 1 fun v0H =>
 fA 3 3 v0.1 fun v0L =>
 s1 vA.2 v0L v0G fun v0M =>
 lA 4 v0M.2 v0.1 fun v0N =>
 cl g id_icmp4_Bytes v0M.2 [v0N] fun v0O =>
 ex v0O 0 fun v0Q =>
 ex v0O 1 fun v0R =>
 nt v0H fun v0V =>
 fs v0V v0R fun v0X =>
 gF v0V (pr.eqNil 1 true v0X) fun v0Y =>
 pF v0V v0Y fun v0Z =>
 condK v0Z (
 pr.fin none v0M.2 [(LV.str []), (LV.bool false)]) (
 bn .and a3 (i 65535) fun v0d =>
 lA 4 v0M.2 v1 fun v0e =>
 fA 7 7 v9.1 fun v0f =>
 lA 4 v0M.2 v0f fun v0g =>
 (pr.parts (LV.agg [(i 0), (i 0), (i 0), (i 0), (i 0), (LV.bool false), (LV.bool false), (LV.bytes [0, 0, 0, 0]), (LV.bytes [0, 0, 0, 0]), (LV.str []), (LV.str [])]) [(1, v0d), (2, (i 64)), (3, (i 1)), (7, v0e), (8, v0g), (10, v0Q)]).bind fun v0i =>
 cl g id_ip4_Bytes v0M.2 [v0i] fun v0j =>
 ex v0j 0 fun v0l =>
 ex v0j 1 fun v0m =>
 eN 1 false v0m fun v0r =>
 pr.fin none v0M.2 [v0l, v0r])))
theorem F_fault_Own4_eq (g : Call) (a0 : LV) (a1 : LV) (a2 : LV) (a3 : LV) (a4 : LV) : fnEv g c_fault_Own4 [a0, a1, a2, a3, a4] none = F_fault_Own4 g a0 a1 a2 a3 a4 := by kernel_rfl
noncomputable def F_interpreterref03_Parse (g : Call) (a0 : LV) : Option (LV × Option LV) :=
 (pr.alloc (LV.agg [(i 0), (i 0), (i 0), (i 0), (i 0), (LV.bool false), (LV.bool false), (LV.bytes [0, 0, 0, 0]), (LV.bytes [0, 0, 0, 0]), (LV.str []), (LV.str [])]) 2 z).bind fun v0 =>
 (pr.parts (LV.agg [(i 0), (i 0), (i 0), (i 0), (i 0), (LV.bool false), (LV.bool false), (LV.bytes [0, 0, 0, 0]), (LV.bytes [0, 0, 0, 0]), (LV.str []), (LV.str [])]) []).bind fun v2 =>
 (pr.alloc (LV.agg [(i 0), (i 0), (i 0), (i 0), (i 0), (LV.bool false), (LV.bool false), (LV.bytes [0, 0, 0, 0]), (LV.bytes [0, 0, 0, 0]), (LV.str []), (LV.str [])]) 4 v0.2).bind fun v3 =>
 sA 17 v3.2 v3.1 v2 fun v4 =>
 ln a0 fun v6 =>
 bn .lss v6 (i 20) fun v7 =>
 condK v7 (
 lA 17 v4.2 v3.1 fun v8 =>
 sA 17 v4.2 v0.1 v8 fun v9 =>
 lA 17 v9.2 v0.1 fun vB =>
 pr.fin none v9.2 [vB, (i 7)]) (
 xS a0 (i 0) fun vD =>
 (pr.conv .i64 vD).bind fun vE =>
 bn .sub vE (i 64) fun vF =>
 bn .mul (i 4) vF fun vG =>
 bn .lss vG (i 20) fun vJ =>
 fs vJ vG fun vL =>
 fb vJ .gtr vL (i 60) fun vM =>
 pF vJ vM fun vN =>
 condK vN (
 lA 17 v4.2 v3.1 fun vO =>
 sA 17 v4.2 v0.1 vO fun vP =>
 lA 17 vP.2 v0.1 fun vR =>
 pr.fin none vP.2 [vR, (i 8)]) (
 ln a0 fun vT =>
 bn .lss vT vG fun vV =>
 condK vV (
 lA 17 v4.2 v3.1 fun vW =>
 sA 17 v4.2 v0.1 vW fun vX =>
 lA 17 vX.2 v0.1 fun vZ =>
 pr.fin none vX.2 [vZ, (i 7)]) (
 sl a0 none (some vG) fun vc =>
 cl g id_interpreterref02_Of v4.2 [vc] fun vd =>
 bn .neq vd (i 0) fun ve =>
 condK ve (
 lA 17 v4.2 v3.1 fun vf =>
 sA 17 v4.2 v0.1 vf fun vg =>
 lA 17 vg.2 v0.1 fun vi =>
 pr.fin none vg.2 [vi, (i 9)]) (
 cl g id_interpreterref03_number v4.2 [a0, (i 2)] fun vk =>
 bn .lss vk vG fun vo =>
 condK vo (
 lA 17 v4.2 v3.1 fun vp =>
 sA 17 v4.2 v0.1 vp fun vq =>
 lA 17 vq.2 v0.1 fun vs =>
 pr.fin none vq.2 [vs, (i 8)]) (
 ln a0 fun vu =>
 bn .lss vu vk fun vw =>
 condK vw (
 lA 17 v4.2 v3.1 fun vx =>
 sA 17 v4.2 v0.1 vx fun vy =>
 lA 17 vy.2 v0.1 fun v00 =>
 pr.fin none vy.2 [v00, (i 7)]) (
 cl g id_interpreterref03_number v4.2 [a0, (i 6)] fun v02 =>
 xS a0 (i 1) fun v05 =>
 (pr.conv .i64 v05).bind fun v06 =>
 cl g id_interpreterref03_number v4.2 [a0, (i 4)] fun v08 =>
 xS a0 (i 8) fun v0A =>
 (pr.conv .i64 v0A).bind fun v0B =>
 xS a0 (i 9) fun v0D =>
 (pr.conv .i64 v0D).bind fun v0E =>
 bn .rem v02 (i 8192) fun v0G =>
 bn .mul v0G (i 8) fun v0H =>
 bn .quo v02 (i 16384) fun v0J =>
 bn .rem v0J (i 2) fun v0K =>
 bn .eql v0K (i 1) fun v0L =>
 bn .quo v02 (i 8192) fun v0N =>
 bn .rem v0N (i 2) fun v0O =>
 bn .eql v0O (i 1) fun v0P =>
 sl a0 (some (i 20)) (some vG) fun v0S =>
 sl a0 (some vG) (some vk) fun v0W =>
 (pr.parts (LV.agg [(i 0), (i 0), (i 0), (i 0), (i 0), (LV.bool false), (LV.bool false), (LV.bytes [0, 0, 0, 0]), (LV.bytes [0, 0, 0, 0]), (LV.str []), (LV.str [])]) [(0, v06), (1, v08), (2, v0B), (3, v0E), (4, v0H), (5, v0L), (6, v0P), (9, v0S), (10, v0W)]).bind fun v0X =>
 (pr.alloc (LV.agg [(i 0), (i 0), (i 0), (i 0), (i 0), (LV.bool false), (LV.bool false), (LV.bytes [0, 0, 0, 0]), (LV.bytes [0, 0, 0, 0]), (LV.str []), (LV.str [])]) 8 v4.2).bind fun v0Y =>
 sA 17 v0Y.2 v0Y.1 v0X fun v0Z =>
 (whileW (fun q99 : List LV × Slots =>
 bn .lss (getL q99.1 0) (i 4) fun v0d =>
 condK v0d (
 bn .add (i 12) (getL q99.1 0) fun v0h =>
 xS a0 v0h fun v0i =>
 fA 7 7 v0Y.1 fun v0j =>
 (pr.idxAddr (some 4) 1 v0j (getL q99.1 0)).bind fun v0k =>
 s1 q99.2 v0k v0i fun v0l =>
 bn .add (i 16) (getL q99.1 0) fun v0p =>
 xS a0 v0p fun v0q =>
 fA 8 11 v0Y.1 fun v0r =>
 (pr.idxAddr (some 4) 1 v0r (getL q99.1 0)).bind fun v0s =>
 s1 v0l.2 v0s v0q fun v0t =>
 bn .add (getL q99.1 0) (i 1) fun v0v =>
 pr.round v0Z.2 .normal [v0v] v0t.2) (
 pr.round v0Z.2 (.exit 0) [(getL q99.1 0)] q99.2)) ([(i 0)], v0Z.2)).bind fun r99 =>
 exIf r99.1 (.exit 0) (
 bn .geq v02 (i 32768) fun v0y =>
 gF v0y (pr.load 17 true r99.2.2 v0Y.1) fun v10 =>
 gF v0y (pr.call g id_interpreterref03_Why r99.2.2 [v10]) fun v11 =>
 fb v0y .neq v11 (i 0) fun v12 =>
 pF v0y v12 fun v13 =>
 condK v13 (
 lA 17 r99.2.2 v3.1 fun v14 =>
 sA 17 r99.2.2 v0.1 v14 fun v15 =>
 lA 17 v15.2 v0.1 fun v17 =>
 pr.fin none v15.2 [v17, (i 8)]) (
 lA 17 r99.2.2 v0Y.1 fun v18 =>
 sA 17 r99.2.2 v0.1 v18 fun v19 =>
 lA 17 v19.2 v0.1 fun v1B =>
 pr.fin none v19.2 [v1B, (i 0)])) (none)))))))
theorem F_interpreterref03_Parse_eq (g : Call) (a0 : LV) : fnEv g c_interpreterref03_Parse [a0] none = F_interpreterref03_Parse g a0 := by kernel_rfl
noncomputable def F_fault_Inside4 (g : Call) (a0 : LV) : Option (LV × Option LV) :=
 bx a0 fun v0 =>
 (pr.alloc (LV.agg [(i 0), (i 0), (i 0), (i 0), (i 0), (LV.bool false), (LV.bool false), (LV.bytes [0, 0, 0, 0]), (LV.bytes [0, 0, 0, 0]), (LV.str []), (LV.str [])]) 2 z).bind fun v1 =>
 l1 v1.2 v0 fun v4 =>
 ln v4 fun v5 =>
 bn .lss v5 (i 20) fun v6 =>
 condK v6 (
 lA 17 v1.2 v1.1 fun v7 =>
 cl g id_fault_fault v1.2 [(i 7)] fun v8 =>
 sA 17 v1.2 v1.1 v7 fun v9 =>
 lA 17 v9.2 v1.1 fun vC =>
 pr.fin none v9.2 [vC, (i 0), v8]) (
 l1 v1.2 v0 fun vD =>
 xS vD (i 0) fun vE =>
 bn .and vE (LV.int .u8 15) fun vF =>
 (pr.conv .i64 vF).bind fun vG =>
 bn .mul vG (i 4) fun vH =>
 l1 v1.2 v0 fun vJ =>
 xS vJ (i 0) fun vK =>
 bn .shr vK (LV.int .u64 4) fun vL =>
 bn .neq vL (LV.int .u8 4) fun vM =>
 fs vM vH fun vO =>
 fb vM .lss vO (i 20) fun vP =>
 pF vM vP fun vQ =>
 condK vQ (
 lA 17 v1.2 v1.1 fun vS =>
 cl g id_fault_fault v1.2 [(i 8)] fun vT =>
 sA 17 v1.2 v1.1 vS fun vU =>
 lA 17 vU.2 v1.1 fun vX =>
 pr.fin none vU.2 [vX, (i 0), vT]) (
 l1 v1.2 v0 fun vY =>
 ln vY fun vZ =>
 bn .lss vZ vH fun vb =>
 condK vb (
 lA 17 v1.2 v1.1 fun vd =>
 cl g id_fault_fault v1.2 [(i 7)] fun ve =>
 sA 17 v1.2 v1.1 vd fun vf =>
 lA 17 vf.2 v1.1 fun vi =>
 pr.fin none vf.2 [vi, (i 0), ve]) (
 l1 v1.2 v0 fun vj =>
 sl vj none (some vH) fun vl =>
 (pr.bsl (LV.str []) 1 [(0, vl)]).bind fun vm =>
 cl g id_sum_Right v1.2 [vm] fun vn =>
 nt vn fun vo =>
 condK vo (
 lA 17 v1.2 v1.1 fun vq =>
 cl g id_fault_fault v1.2 [(i 9)] fun vr =>
 sA 17 v1.2 v1.1 vq fun vs =>
 lA 17 vs.2 v1.1 fun vv =>
 pr.fin none vs.2 [vv, (i 0), vr]) (
 (pr.mkFunc id_fault_Inside4_1 [v0]).bind fun vw =>
 (pr.callv g v1.2 vw [(i 2)]).bind fun vz =>
 (pr.callv g v1.2 vw [(i 6)]).bind fun v01 =>
 bn .lss vz vH fun v06 =>
 fs v06 v01 fun v08 =>
 fb v06 .and v08 (i 32768) fun v09 =>
 fb v06 .neq v09 (i 0) fun v0A =>
 pF v06 v0A fun v0B =>
 fs v0B v01 fun v0D =>
 fb v0B .and v0D (i 8191) fun v0E =>
 fb v0B .mul v0E (i 8) fun v0F =>
 fs v0B vz fun v0G =>
 fb v0B .add v0F v0G fun v0H =>
 fb v0B .gtr v0H (i 65535) fun v0I =>
 pF v0B v0I fun v0J =>
 condK v0J (
 lA 17 v1.2 v1.1 fun v0K =>
 cl g id_fault_fault v1.2 [(i 8)] fun v0L =>
 sA 17 v1.2 v1.1 v0K fun v0M =>
 lA 17 v0M.2 v1.1 fun v0P =>
 pr.fin none v0M.2 [v0P, (i 0), v0L]) (
 l1 v1.2 v0 fun v0Q =>
 l1 v1.2 v0 fun v0S =>
 ln v0S fun v0T =>
 (pr.minmax false v0T [vz]).bind fun v0V =>
 sl v0Q (some vH) (some v0V) fun v0W =>
 bn .sub vz vH fun v0b =>
 cl g id_fault_short v1.2 [v0W, v0b] fun v0c =>
 condK v0c (
 lA 17 v1.2 v1.1 fun v0d =>
 cl g id_fault_fault v1.2 [(i 7)] fun v0e =>
 sA 17 v1.2 v1.1 v0d fun v0f =>
 lA 17 v0f.2 v1.1 fun v0i =>
 pr.fin none v0f.2 [v0i, (i 0), v0e]) (
 l1 v1.2 v0 fun v0j =>
 xS v0j (i 1) fun v0k =>
 (pr.conv .i64 v0k).bind fun v0l =>
 (pr.callv g v1.2 vw [(i 4)]).bind fun v0n =>
 l1 v1.2 v0 fun v0o =>
 xS v0o (i 8) fun v0p =>
 (pr.conv .i64 v0p).bind fun v0q =>
 l1 v1.2 v0 fun v0r =>
 xS v0r (i 9) fun v0s =>
 (pr.conv .i64 v0s).bind fun v0t =>
 bn .and v01 (i 8191) fun v0v =>
 bn .mul v0v (i 8) fun v0w =>
 bn .and v01 (i 16384) fun v0y =>
 bn .neq v0y (i 0) fun v0z =>
 bn .and v01 (i 8192) fun v11 =>
 bn .neq v11 (i 0) fun v12 =>
 l1 v1.2 v0 fun v13 =>
 sl v13 (some (i 20)) (some vH) fun v15 =>
 (pr.parts (LV.agg [(i 0), (i 0), (i 0), (i 0), (i 0), (LV.bool false), (LV.bool false), (LV.bytes [0, 0, 0, 0]), (LV.bytes [0, 0, 0, 0]), (LV.str []), (LV.str [])]) [(0, v0l), (1, v0n), (2, v0q), (3, v0t), (4, v0w), (5, v0z), (6, v12), (9, v15), (10, v0W)]).bind fun v17 =>
 sA 17 v1.2 v1.1 v17 fun v18 =>
 fA 7 7 v1.1 fun v19 =>
 sV 4 v18.2 v19 none none fun v1A =>
 l1 v18.2 v0 fun v1B =>
 sl v1B (some (i 12)) none fun v1C =>
 (pr.copy v18.2 v1A v1C).bind fun v1D =>
 fA 8 11 v1.1 fun v1E =>
 sV 4 v1D.2 v1E none none fun v1F =>
 l1 v1D.2 v0 fun v1G =>
 sl v1G (some (i 16)) none fun v1H =>
 (pr.copy v1D.2 v1F v1H).bind fun v1I =>
 lA 17 v1I.2 v1.1 fun v1J =>
 bn .sub vz vH fun v1M =>
 sA 17 v1I.2 v1.1 v1J fun v1N =>
 lA 17 v1N.2 v1.1 fun v1Q =>
 pr.fin none v1N.2 [v1Q, v1M, LV.nili]))))))
theorem F_fault_Inside4_eq (g : Call) (a0 : LV) : fnEv g c_fault_Inside4 [a0] none = F_fault_Inside4 g a0 := by kernel_rfl
noncomputable def F_fault_Quote6 (g : Call) (a0 : LV) (a1 : LV) (a2 : LV) (a3 : LV) : Option (LV × Option LV) :=
 bx a0 fun v0 =>
 bx a2 fun v1 =>
 bx a3 fun v2 =>
 fA 3 3 v0 fun v5 =>
 l1 z v5 fun v6 =>
 cl g id_head46_Proto z [v6] fun v7 =>
 ex v7 0 fun v9 =>
 ex v7 1 fun vA =>
 fA 6 6 v0 fun vD =>
 l1 z vD fun vE =>
 ff vE 4 4 v0 fun vG =>
 fl vE z vG fun vH =>
 fb vE .neq vH (i 0) fun vI =>
 pF vE vI fun vJ =>
 condK vJ (
 bn .add a1 (i 8) fun vP =>
 fA 0 0 v0 fun vR =>
 l1 z vR fun vS =>
 fA 2 2 v0 fun vT =>
 l1 z vT fun vU =>
 (pr.bsl (i 0) 2 [(0, vS), (1, vU)]).bind fun vV =>
 cl g id_fault_within z [(i 255), vV] fun vW =>
 nt vW fun vX =>
 ff vX 1 1 v0 fun vZ =>
 fl vX z vZ fun va =>
 ff vX 1 16 v1 fun vb =>
 fl vX z vb fun vc =>
 ff vX 1 16 v2 fun vd =>
 fl vX z vd fun ve =>
 gF vX (pr.bsl (i 0) 3 [(0, va), (1, vc), (2, ve)]) fun vf =>
 gF vX (pr.call g id_fault_within z [(i 65535), vf]) fun vg =>
 gF vX (pr.un .not vg) fun vh =>
 pF vX vh fun vi =>
 ff vi 4 4 v0 fun vk =>
 fl vi z vk fun vl =>
 gF vi (pr.bsl (i 0) 1 [(0, vl)]) fun vm =>
 gF vi (pr.call g id_fault_within z [(i 65528), vm]) fun vn =>
 gF vi (pr.un .not vn) fun vo =>
 pF vi vo fun vp =>
 ff vp 4 4 v0 fun vr =>
 fl vp z vr fun vs =>
 fb vp .rem vs (i 8) fun vt =>
 fb vp .neq vt (i 0) fun vu =>
 pF vp vu fun vv =>
 fs vv a1 fun vx =>
 ff vv 10 16 v0 fun vy =>
 fl vv z vy fun vz =>
 gF vv (pr.len true vz) fun v00 =>
 fb vv .lss vx v00 fun v01 =>
 pF vv v01 fun v02 =>
 condK v02 (
 cl g id_fault_fault z [(i 13)] fun v04 =>
 pr.fin none z [(LV.str []), v04]) (
 nt vA fun v08 =>
 condK v08 (
 cl g id_fault_fault z [(i 10)] fun v0A =>
 pr.fin none z [(LV.str []), v0A]) (
 bn .gtr vP (i 65535) fun v0E =>
 condK v0E (
 cl g id_fault_fault z [(i 3)] fun v0G =>
 pr.fin none z [(LV.str []), v0G]) (
 condK vJ (
 fA 4 4 v0 fun v0N =>
 l1 z v0N fun v0O =>
 fA 6 6 v0 fun v0Q =>
 l1 z v0Q fun v0R =>
 condK v0R (
 bn .add v0O (i 1) fun v0T =>
 cl g id_fault_big z [v9, (i 1)] fun v0W =>
 bn .add v0W (LV.str [0]) fun v0X =>
 cl g id_fault_big z [v0T, (i 2)] fun v0Z =>
 bn .add v0X v0Z fun v0a =>
 fA 1 1 v0 fun v0b =>
 l1 z v0b fun v0c =>
 cl g id_fault_big z [v0c, (i 4)] fun v0d =>
 bn .add v0a v0d fun v0e =>
 fA 0 0 v0 fun v0h =>
 l1 z v0h fun v0i =>
 bn .shl v0i (LV.int .u64 20) fun v0j =>
 bn .or (i 1610612736) v0j fun v0k =>
 cl g id_fault_big z [v0k, (i 4)] fun v0l =>
 cl g id_fault_big z [vP, (i 2)] fun v0n =>
 bn .add v0l v0n fun v0o =>
 cl g id_fault_big z [(i 44), (i 1)] fun v0q =>
 bn .add v0o v0q fun v0r =>
 fA 2 2 v0 fun v0s =>
 l1 z v0s fun v0t =>
 cl g id_fault_big z [v0t, (i 1)] fun v0u =>
 bn .add v0r v0u fun v0v =>
 fA 0 0 v1 fun v0w =>
 sV 16 z v0w none none fun v0x =>
 bS z v0x fun v0y =>
 bn .add v0v v0y fun v0z =>
 fA 0 0 v2 fun v10 =>
 sV 16 z v10 none none fun v11 =>
 bS z v11 fun v12 =>
 bn .add v0z v12 fun v13 =>
 bn .add v13 v0e fun v15 =>
 lA 17 z v0 fun v16 =>
 lA 17 z v1 fun v18 =>
 lA 17 z v2 fun v19 =>
 cl g id_fault_turn6 z [v16, a1, v18, v19] fun v1A =>
 bn .add v15 v1A fun v1B =>
 pr.fin none z [v1B, LV.nili]) (
 cl g id_fault_big z [v9, (i 1)] fun v1F =>
 bn .add v1F (LV.str [0]) fun v1G =>
 cl g id_fault_big z [v0O, (i 2)] fun v1I =>
 bn .add v1G v1I fun v1J =>
 fA 1 1 v0 fun v1K =>
 l1 z v1K fun v1L =>
 cl g id_fault_big z [v1L, (i 4)] fun v1M =>
 bn .add v1J v1M fun v1N =>
 fA 0 0 v0 fun v1Q =>
 l1 z v1Q fun v1R =>
 bn .shl v1R (LV.int .u64 20) fun v1S =>
 bn .or (i 1610612736) v1S fun v1T =>
 cl g id_fault_big z [v1T, (i 4)] fun v1U =>
 cl g id_fault_big z [vP, (i 2)] fun v1W =>
 bn .add v1U v1W fun v1X =>
 cl g id_fault_big z [(i 44), (i 1)] fun v1Z =>
 bn .add v1X v1Z fun v1a =>
 fA 2 2 v0 fun v1b =>
 l1 z v1b fun v1c =>
 cl g id_fault_big z [v1c, (i 1)] fun v1d =>
 bn .add v1a v1d fun v1e =>
 fA 0 0 v1 fun v1f =>
 sV 16 z v1f none none fun v1g =>
 bS z v1g fun v1h =>
 bn .add v1e v1h fun v1i =>
 fA 0 0 v2 fun v1j =>
 sV 16 z v1j none none fun v1k =>
 bS z v1k fun v1l =>
 bn .add v1i v1l fun v1m =>
 bn .add v1m v1N fun v1o =>
 lA 17 z v0 fun v1p =>
 lA 17 z v1 fun v1r =>
 lA 17 z v2 fun v1s =>
 cl g id_fault_turn6 z [v1p, a1, v1r, v1s] fun v1t =>
 bn .add v1o v1t fun v1u =>
 pr.fin none z [v1u, LV.nili])) (
 fA 0 0 v0 fun v1x =>
 l1 z v1x fun v1y =>
 bn .shl v1y (LV.int .u64 20) fun v1z =>
 bn .or (i 1610612736) v1z fun v20 =>
 cl g id_fault_big z [v20, (i 4)] fun v21 =>
 cl g id_fault_big z [vP, (i 2)] fun v23 =>
 bn .add v21 v23 fun v24 =>
 cl g id_fault_big z [v9, (i 1)] fun v26 =>
 bn .add v24 v26 fun v27 =>
 fA 2 2 v0 fun v28 =>
 l1 z v28 fun v29 =>
 cl g id_fault_big z [v29, (i 1)] fun v2A =>
 bn .add v27 v2A fun v2B =>
 fA 0 0 v1 fun v2C =>
 sV 16 z v2C none none fun v2D =>
 bS z v2D fun v2E =>
 bn .add v2B v2E fun v2F =>
 fA 0 0 v2 fun v2G =>
 sV 16 z v2G none none fun v2H =>
 bS z v2H fun v2I =>
 bn .add v2F v2I fun v2J =>
 bn .add v2J (LV.str []) fun v2L =>
 lA 17 z v0 fun v2M =>
 lA 17 z v1 fun v2O =>
 lA 17 z v2 fun v2P =>
 cl g id_fault_turn6 z [v2M, a1, v2O, v2P] fun v2Q =>
 bn .add v2L v2Q fun v2R =>
 pr.fin none z [v2R, LV.nili]))))) (
 fA 0 0 v0 fun v2U =>
 l1 z v2U fun v2V =>
 fA 2 2 v0 fun v2W =>
 l1 z v2W fun v2X =>
 (pr.bsl (i 0) 2 [(0, v2V), (1, v2X)]).bind fun v2Y =>
 cl g id_fault_within z [(i 255), v2Y] fun v2Z =>
 nt v2Z fun v2a =>
 ff v2a 1 1 v0 fun v2c =>
 fl v2a z v2c fun v2d =>
 ff v2a 1 16 v1 fun v2e =>
 fl v2a z v2e fun v2f =>
 ff v2a 1 16 v2 fun v2g =>
 fl v2a z v2g fun v2h =>
 gF v2a (pr.bsl (i 0) 3 [(0, v2d), (1, v2f), (2, v2h)]) fun v2i =>
 gF v2a (pr.call g id_fault_within z [(i 65535), v2i]) fun v2j =>
 gF v2a (pr.un .not v2j) fun v2k =>
 pF v2a v2k fun v2l =>
 ff v2l 4 4 v0 fun v2n =>
 fl v2l z v2n fun v2o =>
 gF v2l (pr.bsl (i 0) 1 [(0, v2o)]) fun v2p =>
 gF v2l (pr.call g id_fault_within z [(i 65528), v2p]) fun v2q =>
 gF v2l (pr.un .not v2q) fun v2r =>
 pF v2l v2r fun v2s =>
 ff v2s 4 4 v0 fun v2u =>
 fl v2s z v2u fun v2v =>
 fb v2s .rem v2v (i 8) fun v2w =>
 fb v2s .neq v2w (i 0) fun v2x =>
 pF v2s v2x fun v2y =>
 fs v2y a1 fun v30 =>
 ff v2y 10 16 v0 fun v31 =>
 fl v2y z v31 fun v32 =>
 gF v2y (pr.len true v32) fun v33 =>
 fb v2y .lss v30 v33 fun v34 =>
 pF v2y v34 fun v35 =>
 condK v35 (
 cl g id_fault_fault z [(i 13)] fun v37 =>
 pr.fin none z [(LV.str []), v37]) (
 nt vA fun v3B =>
 condK v3B (
 cl g id_fault_fault z [(i 10)] fun v3D =>
 pr.fin none z [(LV.str []), v3D]) (
 bn .gtr a1 (i 65535) fun v3H =>
 condK v3H (
 cl g id_fault_fault z [(i 3)] fun v3J =>
 pr.fin none z [(LV.str []), v3J]) (
 condK vJ (
 fA 4 4 v0 fun v3Q =>
 l1 z v3Q fun v3R =>
 fA 6 6 v0 fun v3T =>
 l1 z v3T fun v3U =>
 condK v3U (
 bn .add v3R (i 1) fun v3W =>
 cl g id_fault_big z [v9, (i 1)] fun v3Z =>
 bn .add v3Z (LV.str [0]) fun v3a =>
 cl g id_fault_big z [v3W, (i 2)] fun v3c =>
 bn .add v3a v3c fun v3d =>
 fA 1 1 v0 fun v3e =>
 l1 z v3e fun v3f =>
 cl g id_fault_big z [v3f, (i 4)] fun v3g =>
 bn .add v3d v3g fun v3h =>
 fA 0 0 v0 fun v3k =>
 l1 z v3k fun v3l =>
 bn .shl v3l (LV.int .u64 20) fun v3m =>
 bn .or (i 1610612736) v3m fun v3n =>
 cl g id_fault_big z [v3n, (i 4)] fun v3o =>
 cl g id_fault_big z [a1, (i 2)] fun v3q =>
 bn .add v3o v3q fun v3r =>
 cl g id_fault_big z [(i 44), (i 1)] fun v3t =>
 bn .add v3r v3t fun v3u =>
 fA 2 2 v0 fun v3v =>
 l1 z v3v fun v3w =>
 cl g id_fault_big z [v3w, (i 1)] fun v3x =>
 bn .add v3u v3x fun v3y =>
 fA 0 0 v1 fun v3z =>
 sV 16 z v3z none none fun v40 =>
 bS z v40 fun v41 =>
 bn .add v3y v41 fun v42 =>
 fA 0 0 v2 fun v43 =>
 sV 16 z v43 none none fun v44 =>
 bS z v44 fun v45 =>
 bn .add v42 v45 fun v46 =>
 bn .add v46 v3h fun v48 =>
 lA 17 z v0 fun v49 =>
 lA 17 z v1 fun v4B =>
 lA 17 z v2 fun v4C =>
 cl g id_fault_turn6 z [v49, a1, v4B, v4C] fun v4D =>
 bn .add v48 v4D fun v4E =>
 pr.fin none z [v4E, LV.nili]) (
 cl g id_fault_big z [v9, (i 1)] fun v4I =>
 bn .add v4I (LV.str [0]) fun v4J =>
 cl g id_fault_big z [v3R, (i 2)] fun v4L =>
 bn .add v4J v4L fun v4M =>
 fA 1 1 v0 fun v4N =>
 l1 z v4N fun v4O =>
 cl g id_fault_big z [v4O, (i 4)] fun v4P =>
 bn .add v4M v4P fun v4Q =>
 fA 0 0 v0 fun v4T =>
 l1 z v4T fun v4U =>
 bn .shl v4U (LV.int .u64 20) fun v4V =>
 bn .or (i 1610612736) v4V fun v4W =>
 cl g id_fault_big z [v4W, (i 4)] fun v4X =>
 cl g id_fault_big z [a1, (i 2)] fun v4Z =>
 bn .add v4X v4Z fun v4a =>
 cl g id_fault_big z [(i 44), (i 1)] fun v4c =>
 bn .add v4a v4c fun v4d =>
 fA 2 2 v0 fun v4e =>
 l1 z v4e fun v4f =>
 cl g id_fault_big z [v4f, (i 1)] fun v4g =>
 bn .add v4d v4g fun v4h =>
 fA 0 0 v1 fun v4i =>
 sV 16 z v4i none none fun v4j =>
 bS z v4j fun v4k =>
 bn .add v4h v4k fun v4l =>
 fA 0 0 v2 fun v4m =>
 sV 16 z v4m none none fun v4n =>
 bS z v4n fun v4o =>
 bn .add v4l v4o fun v4p =>
 bn .add v4p v4Q fun v4r =>
 lA 17 z v0 fun v4s =>
 lA 17 z v1 fun v4u =>
 lA 17 z v2 fun v4v =>
 cl g id_fault_turn6 z [v4s, a1, v4u, v4v] fun v4w =>
 bn .add v4r v4w fun v4x =>
 pr.fin none z [v4x, LV.nili])) (
 fA 0 0 v0 fun v50 =>
 l1 z v50 fun v51 =>
 bn .shl v51 (LV.int .u64 20) fun v52 =>
 bn .or (i 1610612736) v52 fun v53 =>
 cl g id_fault_big z [v53, (i 4)] fun v54 =>
 cl g id_fault_big z [a1, (i 2)] fun v56 =>
 bn .add v54 v56 fun v57 =>
 cl g id_fault_big z [v9, (i 1)] fun v59 =>
 bn .add v57 v59 fun v5A =>
 fA 2 2 v0 fun v5B =>
 l1 z v5B fun v5C =>
 cl g id_fault_big z [v5C, (i 1)] fun v5D =>
 bn .add v5A v5D fun v5E =>
 fA 0 0 v1 fun v5F =>
 sV 16 z v5F none none fun v5G =>
 bS z v5G fun v5H =>
 bn .add v5E v5H fun v5I =>
 fA 0 0 v2 fun v5J =>
 sV 16 z v5J none none fun v5K =>
 bS z v5K fun v5L =>
 bn .add v5I v5L fun v5M =>
 bn .add v5M (LV.str []) fun v5O =>
 lA 17 z v0 fun v5P =>
 lA 17 z v1 fun v5R =>
 lA 17 z v2 fun v5S =>
 cl g id_fault_turn6 z [v5P, a1, v5R, v5S] fun v5T =>
 bn .add v5O v5T fun v5U =>
 pr.fin none z [v5U, LV.nili])))))
theorem F_fault_Quote6_eq (g : Call) (a0 : LV) (a1 : LV) (a2 : LV) (a3 : LV) : fnEv g c_fault_Quote6 [a0, a1, a2, a3] none = F_fault_Quote6 g a0 a1 a2 a3 := by kernel_rfl
noncomputable def F_icmp4_Failure (g : Call) (a0 : LV) : Option (LV × Option LV) :=
 bx a0 fun v0 =>
 fA 0 0 v0 fun v2 =>
 l1 z v2 fun v3 =>
 bn .eql v3 (i 3) fun v4 =>
 condK v4 (
 condK v4 (
 pr.fin none z [(LV.bool true)]) (
 pr.fin none z [(LV.bool false)])) (
 bn .eql v3 (i 4) fun v8 =>
 condK v8 (
 condK v8 (
 pr.fin none z [(LV.bool true)]) (
 pr.fin none z [(LV.bool false)])) (
 bn .eql v3 (i 5) fun vC =>
 condK vC (
 condK vC (
 pr.fin none z [(LV.bool true)]) (
 pr.fin none z [(LV.bool false)])) (
 bn .eql v3 (i 11) fun vG =>
 condK vG (
 condK vG (
 pr.fin none z [(LV.bool true)]) (
 pr.fin none z [(LV.bool false)])) (
 bn .eql v3 (i 12) fun vK =>
 condK vK (
 pr.fin none z [(LV.bool true)]) (
 pr.fin none z [(LV.bool false)])))))
theorem F_icmp4_Failure_eq (g : Call) (a0 : LV) : fnEv g c_icmp4_Failure [a0] none = F_icmp4_Failure g a0 := by kernel_rfl
noncomputable def F_icmpmap_To6_k1 (g : Call) (v1 : LV × Slots) :=
 (pr.parts (LV.agg [(i 0), (i 0), (LV.int .u32 0), (LV.str [])]) []).bind fun v8 =>
 sA 4 v1.2 v1.1 v8 fun v9 =>
 lA 4 v9.2 v1.1 fun vB =>
 pr.fin none v9.2 [vB, (LV.bool false)]
noncomputable def F_icmpmap_To6 (g : Call) (a0 : LV) (a1 : LV) (a2 : LV) (a3 : LV) : Option (LV × Option LV) :=
 bx a0 fun v0 =>
 (pr.alloc (LV.agg [(i 0), (i 0), (LV.int .u32 0), (LV.str [])]) 8 z).bind fun v1 =>
 cl g id_icmpmap_sides v1.2 [a1, a2] fun v5 =>
 nt v5 fun v6 =>
 condK v6 (F_icmpmap_To6_k1 g v1) (
 fA 0 0 v0 fun vC =>
 l1 v1.2 vC fun vD =>
 bn .eql vD (i 8) fun vE =>
 tf vE 1 1 v0 fun vG =>
 tl vE v1.2 vG fun vH =>
 tb vE .eql vH (i 0) fun vI =>
 pT vE vI fun vJ =>
 condK vJ (
 lA 4 v1.2 v0 fun vL =>
 fA 2 2 v0 fun vM =>
 l1 v1.2 vM fun vN =>
 (pr.conv .i64 vN).bind fun vO =>
 cl g id_icmpmap_said v1.2 [vL, (i 128), (i 0), vO] fun vP =>
 ex vP 0 fun vQ =>
 ex vP 1 fun vR =>
 sA 4 v1.2 v1.1 vQ fun vS =>
 lA 4 vS.2 v1.1 fun vU =>
 pr.fin none vS.2 [vU, vR]) (
 fA 0 0 v0 fun vV =>
 l1 v1.2 vV fun vW =>
 bn .eql vW (i 0) fun vX =>
 tf vX 1 1 v0 fun vZ =>
 tl vX v1.2 vZ fun va =>
 tb vX .eql va (i 0) fun vb =>
 pT vX vb fun vc =>
 condK vc (
 lA 4 v1.2 v0 fun ve =>
 fA 2 2 v0 fun vf =>
 l1 v1.2 vf fun vg =>
 (pr.conv .i64 vg).bind fun vh =>
 cl g id_icmpmap_said v1.2 [ve, (i 129), (i 0), vh] fun vi =>
 ex vi 0 fun vj =>
 ex vi 1 fun vk =>
 sA 4 v1.2 v1.1 vj fun vl =>
 lA 4 vl.2 v1.1 fun vn =>
 pr.fin none vl.2 [vn, vk]) (
 fA 0 0 v0 fun vo =>
 l1 v1.2 vo fun vp =>
 bn .eql vp (i 3) fun vq =>
 condK vq (
 lA 4 v1.2 v0 fun vs =>
 cl g id_icmpmap_lost6 v1.2 [vs, a1, a2, a3] fun vw =>
 ex vw 0 fun vx =>
 ex vw 1 fun vy =>
 sA 4 v1.2 v1.1 vx fun vz =>
 lA 4 vz.2 v1.1 fun v01 =>
 pr.fin none vz.2 [v01, vy]) (
 fA 0 0 v0 fun v02 =>
 l1 v1.2 v02 fun v03 =>
 bn .eql v03 (i 11) fun v04 =>
 tf v04 1 1 v0 fun v06 =>
 tl v04 v1.2 v06 fun v07 =>
 tb v04 .eql v07 (i 0) fun v08 =>
 ts v04 v08 fun v09 =>
 ff v09 1 1 v0 fun v0A =>
 fl v09 v1.2 v0A fun v0B =>
 fb v09 .eql v0B (i 1) fun v0C =>
 gT v04 (pr.pick v09 (LV.bool true) v0C) fun v0D =>
 pT v04 v0D fun v0E =>
 condK v0E (
 lA 4 v1.2 v0 fun v0G =>
 fA 1 1 v0 fun v0H =>
 l1 v1.2 v0H fun v0I =>
 cl g id_icmpmap_said v1.2 [v0G, (i 3), v0I, (i 0)] fun v0J =>
 ex v0J 0 fun v0K =>
 ex v0J 1 fun v0L =>
 sA 4 v1.2 v1.1 v0K fun v0M =>
 lA 4 v0M.2 v1.1 fun v0O =>
 pr.fin none v0M.2 [v0O, v0L]) (
 fA 0 0 v0 fun v0P =>
 l1 v1.2 v0P fun v0Q =>
 bn .eql v0Q (i 12) fun v0R =>
 tf v0R 1 1 v0 fun v0T =>
 tl v0R v1.2 v0T fun v0U =>
 tb v0R .eql v0U (i 0) fun v0V =>
 ts v0R v0V fun v0W =>
 ff v0W 1 1 v0 fun v0X =>
 fl v0W v1.2 v0X fun v0Y =>
 fb v0W .eql v0Y (i 2) fun v0Z =>
 gT v0R (pr.pick v0W (LV.bool true) v0Z) fun v0a =>
 pT v0R v0a fun v0b =>
 condK v0b (
 fA 2 2 v0 fun v0d =>
 l1 v1.2 v0d fun v0e =>
 bn .shr v0e (LV.int .u64 24) fun v0f =>
 (pr.conv .i64 v0f).bind fun v0g =>
 cl g id_icmpmap_pointer6 v1.2 [v0g] fun v0h =>
 ex v0h 0 fun v0j =>
 ex v0h 1 fun v0k =>
 condK v0k (
 lA 4 v1.2 v0 fun v0o =>
 cl g id_icmpmap_said v1.2 [v0o, (i 4), (i 0), v0j] fun v0q =>
 ex v0q 0 fun v0r =>
 ex v0q 1 fun v0s =>
 sA 4 v1.2 v1.1 v0r fun v0t =>
 lA 4 v0t.2 v1.1 fun v0v =>
 pr.fin none v0t.2 [v0v, v0s]) (F_icmpmap_To6_k1 g v1)) (F_icmpmap_To6_k1 g v1))))))
theorem F_icmpmap_To6_eq (g : Call) (a0 : LV) (a1 : LV) (a2 : LV) (a3 : LV) : fnEv g c_icmpmap_To6 [a0, a1, a2, a3] none = F_icmpmap_To6 g a0 a1 a2 a3 := by kernel_rfl
noncomputable def F_interpreterref15_Inside4_k1 (g : Call) (a0 : LV) (v5 : LV × Slots) (vs : LV) (vI : LV) (v0S : LV) (vp : LV) (v0 : LV × Slots) :=
 xS a0 (i 1) fun v0f =>
 (pr.conv .i64 v0f).bind fun v0g =>
 cl g id_interpreterref15_number v5.2 [a0, (i 4), (i 2)] fun v0i =>
 xS a0 (i 8) fun v0k =>
 (pr.conv .i64 v0k).bind fun v0l =>
 xS a0 (i 9) fun v0n =>
 (pr.conv .i64 v0n).bind fun v0o =>
 bn .rem vs (i 8192) fun v0q =>
 bn .mul v0q (i 8) fun v0r =>
 bn .quo vs (i 16384) fun v0t =>
 bn .eql v0t (i 1) fun v0u =>
 bn .quo vs (i 8192) fun v0w =>
 bn .rem v0w (i 2) fun v0x =>
 bn .eql v0x (i 1) fun v0y =>
 sl a0 (some (i 20)) (some vI) fun v11 =>
 (pr.parts (LV.agg [(i 0), (i 0), (i 0), (i 0), (i 0), (LV.bool false), (LV.bool false), (LV.bytes [0, 0, 0, 0]), (LV.bytes [0, 0, 0, 0]), (LV.str []), (LV.str [])]) [(0, v0g), (1, v0i), (2, v0l), (3, v0o), (4, v0r), (5, v0u), (6, v0y), (9, v11), (10, v0S)]).bind fun v13 =>
 (pr.alloc (LV.agg [(i 0), (i 0), (i 0), (i 0), (i 0), (LV.bool false), (LV.bool false), (LV.bytes [0, 0, 0, 0]), (LV.bytes [0, 0, 0, 0]), (LV.str []), (LV.str [])]) 10 v5.2).bind fun v14 =>
 sA 17 v14.2 v14.1 v13 fun v15 =>
 (whileW (fun q131 : List LV × Slots =>
 bn .lss (getL q131.1 0) (i 4) fun v19 =>
 condK v19 (
 bn .add (i 12) (getL q131.1 0) fun v1D =>
 xS a0 v1D fun v1E =>
 fA 7 7 v14.1 fun v1F =>
 (pr.idxAddr (some 4) 1 v1F (getL q131.1 0)).bind fun v1G =>
 s1 q131.2 v1G v1E fun v1H =>
 bn .add (i 16) (getL q131.1 0) fun v1L =>
 xS a0 v1L fun v1M =>
 fA 8 11 v14.1 fun v1N =>
 (pr.idxAddr (some 4) 1 v1N (getL q131.1 0)).bind fun v1O =>
 s1 v1H.2 v1O v1M fun v1P =>
 bn .add (getL q131.1 0) (i 1) fun v1R =>
 pr.round v15.2 .normal [v1R] v1P.2) (
 pr.round v15.2 (.exit 0) [(getL q131.1 0)] q131.2)) ([(i 0)], v15.2)).bind fun r131 =>
 exIf r131.1 (.exit 0) (
 lA 17 r131.2.2 v14.1 fun v1T =>
 bn .sub vp vI fun v1W =>
 sA 17 r131.2.2 v0.1 v1T fun v1X =>
 lA 17 v1X.2 v0.1 fun v1a =>
 pr.fin none v1X.2 [v1a, v1W, (i 0)]) (none)
noncomputable def F_interpreterref15_Inside4 (g : Call) (a0 : LV) : Option (LV × Option LV) :=
 (pr.alloc (LV.agg [(i 0), (i 0), (i 0), (i 0), (i 0), (LV.bool false), (LV.bool false), (LV.bytes [0, 0, 0, 0]), (LV.bytes [0, 0, 0, 0]), (LV.str []), (LV.str [])]) 2 z).bind fun v0 =>
 (pr.parts (LV.agg [(i 0), (i 0), (i 0), (i 0), (i 0), (LV.bool false), (LV.bool false), (LV.bytes [0, 0, 0, 0]), (LV.bytes [0, 0, 0, 0]), (LV.str []), (LV.str [])]) []).bind fun v3 =>
 (pr.alloc (LV.agg [(i 0), (i 0), (i 0), (i 0), (i 0), (LV.bool false), (LV.bool false), (LV.bytes [0, 0, 0, 0]), (LV.bytes [0, 0, 0, 0]), (LV.str []), (LV.str [])]) 5 v0.2).bind fun v4 =>
 sA 17 v4.2 v4.1 v3 fun v5 =>
 ln a0 fun v7 =>
 bn .lss v7 (i 20) fun v8 =>
 condK v8 (
 lA 17 v5.2 v4.1 fun v9 =>
 sA 17 v5.2 v0.1 v9 fun vA =>
 lA 17 vA.2 v0.1 fun vD =>
 pr.fin none vA.2 [vD, (i 0), (i 7)]) (
 xS a0 (i 0) fun vF =>
 (pr.conv .i64 vF).bind fun vG =>
 bn .sub vG (i 64) fun vH =>
 bn .mul (i 4) vH fun vI =>
 bn .lss vI (i 20) fun vL =>
 fs vL vI fun vN =>
 fb vL .gtr vN (i 60) fun vO =>
 pF vL vO fun vP =>
 condK vP (
 lA 17 v5.2 v4.1 fun vQ =>
 sA 17 v5.2 v0.1 vQ fun vR =>
 lA 17 vR.2 v0.1 fun vU =>
 pr.fin none vR.2 [vU, (i 0), (i 8)]) (
 ln a0 fun vW =>
 bn .lss vW vI fun vY =>
 condK vY (
 lA 17 v5.2 v4.1 fun vZ =>
 sA 17 v5.2 v0.1 vZ fun va =>
 lA 17 va.2 v0.1 fun vd =>
 pr.fin none va.2 [vd, (i 0), (i 7)]) (
 sl a0 none (some vI) fun vg =>
 cl g id_interpreterref02_Of v5.2 [vg] fun vh =>
 bn .neq vh (i 0) fun vi =>
 condK vi (
 lA 17 v5.2 v4.1 fun vj =>
 sA 17 v5.2 v0.1 vj fun vk =>
 lA 17 vk.2 v0.1 fun vn =>
 pr.fin none vk.2 [vn, (i 0), (i 9)]) (
 cl g id_interpreterref15_number v5.2 [a0, (i 2), (i 2)] fun vp =>
 cl g id_interpreterref15_number v5.2 [a0, (i 6), (i 2)] fun vs =>
 bn .lss vp vI fun vw =>
 fs vw vs fun vy =>
 fb vw .geq vy (i 32768) fun vz =>
 pF vw vz fun v00 =>
 fs v00 vs fun v02 =>
 fb v00 .rem v02 (i 8192) fun v03 =>
 fb v00 .mul v03 (i 8) fun v04 =>
 fs v00 vp fun v05 =>
 fb v00 .add v04 v05 fun v06 =>
 fb v00 .gtr v06 (i 65535) fun v07 =>
 pF v00 v07 fun v08 =>
 condK v08 (
 lA 17 v5.2 v4.1 fun v09 =>
 sA 17 v5.2 v0.1 v09 fun v0A =>
 lA 17 v0A.2 v0.1 fun v0D =>
 pr.fin none v0A.2 [v0D, (i 0), (i 8)]) (
 sl a0 (some vI) none fun v0G =>
 ln v0G fun v0J =>
 bn .sub vp vI fun v0M =>
 bn .gtr v0J v0M fun v0N =>
 condK v0N (
 bn .sub vp vI fun v0R =>
 sl v0G none (some v0R) fun v0S =>
 bn .sub vp vI fun v0X =>
 cl g id_interpreterref15_little v5.2 [v0S, v0X] fun v0Y =>
 condK v0Y (
 lA 17 v5.2 v4.1 fun v0Z =>
 sA 17 v5.2 v0.1 v0Z fun v0a =>
 lA 17 v0a.2 v0.1 fun v0d =>
 pr.fin none v0a.2 [v0d, (i 0), (i 7)]) (F_interpreterref15_Inside4_k1 g a0 v5 vs vI v0S vp v0)) (
 bn .sub vp vI fun v1e =>
 cl g id_interpreterref15_little v5.2 [v0G, v1e] fun v1f =>
 condK v1f (
 lA 17 v5.2 v4.1 fun v1g =>
 sA 17 v5.2 v0.1 v1g fun v1h =>
 lA 17 v1h.2 v0.1 fun v1k =>
 pr.fin none v1h.2 [v1k, (i 0), (i 7)]) (F_interpreterref15_Inside4_k1 g a0 v5 vs vI v0G vp v0)))))))
theorem F_interpreterref15_Inside4_eq (g : Call) (a0 : LV) : fnEv g c_interpreterref15_Inside4 [a0] none = F_interpreterref15_Inside4 g a0 := by kernel_rfl
noncomputable def F_interpreterref07_Failure (g : Call) (a0 : LV) : Option (LV × Option LV) :=
 bx a0 fun v0 =>
 fA 0 0 v0 fun v2 =>
 l1 z v2 fun v3 =>
 bn .eql v3 (i 3) fun v4 =>
 ff v4 0 0 v0 fun v6 =>
 fl v4 z v6 fun v7 =>
 fb v4 .eql v7 (i 4) fun v8 =>
 pF v4 v8 fun v9 =>
 ff v9 0 0 v0 fun vB =>
 fl v9 z vB fun vC =>
 fb v9 .eql vC (i 5) fun vD =>
 pF v9 vD fun vE =>
 ff vE 0 0 v0 fun vG =>
 fl vE z vG fun vH =>
 fb vE .eql vH (i 11) fun vI =>
 pF vE vI fun vJ =>
 ff vJ 0 0 v0 fun vL =>
 fl vJ z vL fun vM =>
 fb vJ .eql vM (i 12) fun vN =>
 pF vJ vN fun vO =>
 pr.fin none z [vO]
theorem F_interpreterref07_Failure_eq (g : Call) (a0 : LV) : fnEv g c_interpreterref07_Failure [a0] none = F_interpreterref07_Failure g a0 := by kernel_rfl
noncomputable def F_interpreterref15_Quote6 (g : Call) (a0 : LV) (a1 : LV) (a2 : LV) (a3 : LV) : Option (LV × Option LV) :=
 bx a0 fun v0 =>
 bx a2 fun v1 =>
 bx a3 fun v2 =>
 fA 0 0 v0 fun v5 =>
 l1 z v5 fun v6 =>
 fA 2 2 v0 fun v7 =>
 l1 z v7 fun v8 =>
 (pr.bsl (i 0) 2 [(0, v6), (1, v8)]).bind fun v9 =>
 cl g id_interpreterref15_bound z [(i 255), v9] fun vA =>
 nt vA fun vB =>
 ff vB 1 1 v0 fun vD =>
 fl vB z vD fun vE =>
 ff vB 1 16 v1 fun vF =>
 fl vB z vF fun vG =>
 ff vB 1 16 v2 fun vH =>
 fl vB z vH fun vI =>
 gF vB (pr.bsl (i 0) 3 [(0, vE), (1, vG), (2, vI)]) fun vJ =>
 gF vB (pr.call g id_interpreterref15_bound z [(i 65535), vJ]) fun vK =>
 gF vB (pr.un .not vK) fun vL =>
 pF vB vL fun vM =>
 ff vM 4 4 v0 fun vO =>
 fl vM z vO fun vP =>
 gF vM (pr.bsl (i 0) 1 [(0, vP)]) fun vQ =>
 gF vM (pr.call g id_interpreterref15_bound z [(i 65528), vQ]) fun vR =>
 gF vM (pr.un .not vR) fun vS =>
 pF vM vS fun vT =>
 ff vT 4 4 v0 fun vV =>
 fl vT z vV fun vW =>
 fb vT .rem vW (i 8) fun vX =>
 fb vT .neq vX (i 0) fun vY =>
 pF vT vY fun vZ =>
 fs vZ a1 fun vb =>
 ff vZ 10 16 v0 fun vc =>
 fl vZ z vc fun vd =>
 gF vZ (pr.len true vd) fun ve =>
 fb vZ .lss vb ve fun vf =>
 pF vZ vf fun vg =>
 condK vg (
 pr.fin none z [(LV.str []), (i 13)]) (
 fA 3 3 v0 fun vj =>
 l1 z vj fun vk =>
 cl g id_interpreterref12_Proto z [vk] fun vl =>
 ex vl 0 fun vn =>
 ex vl 1 fun vo =>
 nt vo fun vs =>
 condK vs (
 pr.fin none z [(LV.str []), (i 10)]) (
 fA 6 6 v0 fun vv =>
 l1 z vv fun vw =>
 ff vw 4 4 v0 fun vy =>
 fl vw z vy fun vz =>
 fb vw .neq vz (i 0) fun v00 =>
 pF vw v00 fun v01 =>
 bn .gtr a1 (i 65535) fun v04 =>
 fs v04 v01 fun v06 =>
 fs v04 v06 fun v07 =>
 ts v07 a1 fun v08 =>
 tb v07 .gtr v08 (i 65527) fun v09 =>
 gF v04 (pr.pick v07 v09 (LV.bool false)) fun v0A =>
 pF v04 v0A fun v0B =>
 condK v0B (
 pr.fin none z [(LV.str []), (i 3)]) (
 fA 7 7 v0 fun v0E =>
 sV 4 z v0E none none fun v0F =>
 bS z v0F fun v0G =>
 fA 8 11 v0 fun v0H =>
 sV 4 z v0H none none fun v0I =>
 bS z v0I fun v0J =>
 bn .add v0G v0J fun v0K =>
 fA 0 0 v1 fun v0M =>
 sV 16 z v0M none none fun v0N =>
 bS z v0N fun v0O =>
 fA 0 0 v2 fun v0P =>
 sV 16 z v0P none none fun v0Q =>
 bS z v0Q fun v0R =>
 bn .add v0O v0R fun v0S =>
 fA 3 3 v0 fun v0U =>
 l1 z v0U fun v0V =>
 fA 4 4 v0 fun v0W =>
 l1 z v0W fun v0X =>
 fA 10 16 v0 fun v0Y =>
 l1 z v0Y fun v0Z =>
 fA 0 0 v1 fun v0c =>
 lA 16 z v0c fun v0d =>
 fA 0 0 v2 fun v0e =>
 lA 16 z v0e fun v0f =>
 cl g id_interpreterref02_Pseudo6 z [v0d, v0f, (i 58), a1] fun v0h =>
 (pr.parts (LV.agg [(i 0), (i 0), (i 0), (i 0)]) [(0, (i 8)), (1, (i 128)), (2, (i 0)), (3, (i 129))]).bind fun v0i =>
 fA 1 16 v1 fun v0j =>
 l1 z v0j fun v0k =>
 fA 1 16 v2 fun v0l =>
 l1 z v0l fun v0m =>
 cl g id_interpreterref15_turn z [v0V, v0X, (i 1), v0Z, v0K, v0S, (LV.str []), v0h, v0i, v0k, v0m] fun v0n =>
 fA 0 0 v0 fun v0p =>
 l1 z v0p fun v0q =>
 bn .mul v0q (i 1048576) fun v0r =>
 bn .add (i 1610612736) v0r fun v0s =>
 cl g id_interpreterref15_put z [v0s, (i 4)] fun v0t =>
 nt v01 fun v0w =>
 condK v0w (
 cl g id_interpreterref15_put z [a1, (i 2)] fun v0z =>
 bn .add v0t v0z fun v10 =>
 cl g id_interpreterref15_put z [vn, (i 1)] fun v12 =>
 bn .add v10 v12 fun v13 =>
 fA 2 2 v0 fun v14 =>
 l1 z v14 fun v15 =>
 cl g id_interpreterref15_put z [v15, (i 1)] fun v16 =>
 bn .add v13 v16 fun v17 =>
 bn .add v17 v0S fun v19 =>
 bn .add v19 v0n fun v1B =>
 pr.fin none z [v1B, (i 0)]) (
 fA 4 4 v0 fun v1E =>
 l1 z v1E fun v1F =>
 fA 6 6 v0 fun v1H =>
 l1 z v1H fun v1I =>
 condK v1I (
 bn .add v1F (i 1) fun v1K =>
 bn .add a1 (i 8) fun v1O =>
 cl g id_interpreterref15_put z [v1O, (i 2)] fun v1P =>
 bn .add v0t v1P fun v1Q =>
 cl g id_interpreterref15_put z [(i 44), (i 1)] fun v1R =>
 bn .add v1Q v1R fun v1S =>
 fA 2 2 v0 fun v1T =>
 l1 z v1T fun v1U =>
 cl g id_interpreterref15_put z [v1U, (i 1)] fun v1V =>
 bn .add v1S v1V fun v1W =>
 bn .add v1W v0S fun v1Y =>
 cl g id_interpreterref15_put z [vn, (i 1)] fun v1a =>
 bn .add v1Y v1a fun v1b =>
 cl g id_interpreterref15_put z [(i 0), (i 1)] fun v1c =>
 bn .add v1b v1c fun v1d =>
 cl g id_interpreterref15_put z [v1K, (i 2)] fun v1f =>
 bn .add v1d v1f fun v1g =>
 fA 1 1 v0 fun v1h =>
 l1 z v1h fun v1i =>
 cl g id_interpreterref15_put z [v1i, (i 4)] fun v1j =>
 bn .add v1g v1j fun v1k =>
 bn .add v1k v0n fun v1m =>
 pr.fin none z [v1m, (i 0)]) (
 bn .add a1 (i 8) fun v1r =>
 cl g id_interpreterref15_put z [v1r, (i 2)] fun v1s =>
 bn .add v0t v1s fun v1t =>
 cl g id_interpreterref15_put z [(i 44), (i 1)] fun v1u =>
 bn .add v1t v1u fun v1v =>
 fA 2 2 v0 fun v1w =>
 l1 z v1w fun v1x =>
 cl g id_interpreterref15_put z [v1x, (i 1)] fun v1y =>
 bn .add v1v v1y fun v1z =>
 bn .add v1z v0S fun v21 =>
 cl g id_interpreterref15_put z [vn, (i 1)] fun v23 =>
 bn .add v21 v23 fun v24 =>
 cl g id_interpreterref15_put z [(i 0), (i 1)] fun v25 =>
 bn .add v24 v25 fun v26 =>
 cl g id_interpreterref15_put z [v1F, (i 2)] fun v28 =>
 bn .add v26 v28 fun v29 =>
 fA 1 1 v0 fun v2A =>
 l1 z v2A fun v2B =>
 cl g id_interpreterref15_put z [v2B, (i 4)] fun v2C =>
 bn .add v29 v2C fun v2D =>
 bn .add v2D v0n fun v2F =>
 pr.fin none z [v2F, (i 0)])))))
theorem F_interpreterref15_Quote6_eq (g : Call) (a0 : LV) (a1 : LV) (a2 : LV) (a3 : LV) : fnEv g c_interpreterref15_Quote6 [a0, a1, a2, a3] none = F_interpreterref15_Quote6 g a0 a1 a2 a3 := by kernel_rfl
noncomputable def F_interpreterref14_To6_k2 (g : Call) (v0 : LV) (v1 : LV × Slots) :=
 (pr.conv .u32 (i 1280)).bind fun vm =>
 fA 3 3 v0 fun vn =>
 l1 v1.2 vn fun vo =>
 (pr.parts (LV.agg [(i 0), (i 0), (LV.int .u32 0), (LV.str [])]) [(0, (i 2)), (2, vm), (3, vo)]).bind fun vp =>
 sA 4 v1.2 v1.1 vp fun vq =>
 lA 4 vq.2 v1.1 fun vs =>
 pr.fin none vq.2 [vs, (LV.bool true)]
noncomputable def F_interpreterref14_To6_k1 (g : Call) (a1 : LV) (a2 : LV) (v0 : LV) (v1 : LV × Slots) :=
 bn .add a1 (i 20) fun vd =>
 bn .gtr a2 vd fun ve =>
 condK ve (
 bn .add a1 (i 20) fun vg =>
 bn .lss vg (i 1280) fun vj =>
 condK vj (F_interpreterref14_To6_k2 g v0 v1) (
 (pr.conv .u32 vg).bind fun vu =>
 fA 3 3 v0 fun vv =>
 l1 v1.2 vv fun vw =>
 (pr.parts (LV.agg [(i 0), (i 0), (LV.int .u32 0), (LV.str [])]) [(0, (i 2)), (2, vu), (3, vw)]).bind fun vx =>
 sA 4 v1.2 v1.1 vx fun vy =>
 lA 4 vy.2 v1.1 fun v00 =>
 pr.fin none vy.2 [v00, (LV.bool true)])) (
 bn .lss a2 (i 1280) fun v02 =>
 condK v02 (F_interpreterref14_To6_k2 g v0 v1) (
 (pr.conv .u32 a2).bind fun v0D =>
 fA 3 3 v0 fun v0E =>
 l1 v1.2 v0E fun v0F =>
 (pr.parts (LV.agg [(i 0), (i 0), (LV.int .u32 0), (LV.str [])]) [(0, (i 2)), (2, v0D), (3, v0F)]).bind fun v0G =>
 sA 4 v1.2 v1.1 v0G fun v0H =>
 lA 4 v0H.2 v1.1 fun v0J =>
 pr.fin none v0H.2 [v0J, (LV.bool true)]))
noncomputable def F_interpreterref14_To6 (g : Call) (a0 : LV) (a1 : LV) (a2 : LV) (a3 : LV) : Option (LV × Option LV) :=
 bx a0 fun v0 =>
 (pr.alloc (LV.agg [(i 0), (i 0), (LV.int .u32 0), (LV.str [])]) 8 z).bind fun v1 =>
 cl g id_interpreterref14_bounds v1.2 [a1, a2] fun v5 =>
 nt v5 fun v6 =>
 condK v6 (
 (pr.parts (LV.agg [(i 0), (i 0), (LV.int .u32 0), (LV.str [])]) []).bind fun v7 =>
 sA 4 v1.2 v1.1 v7 fun v8 =>
 lA 4 v8.2 v1.1 fun vA =>
 pr.fin none v8.2 [vA, (LV.bool false)]) (
 fA 0 0 v0 fun vB =>
 l1 v1.2 vB fun vC =>
 bn .eql vC (i 3) fun vD =>
 tf vD 1 1 v0 fun vF =>
 tl vD v1.2 vF fun vG =>
 tb vD .eql vG (i 4) fun vH =>
 pT vD vH fun vI =>
 condK vI (
 fA 2 2 v0 fun vJ =>
 l1 v1.2 vJ fun vK =>
 bn .rem vK (LV.int .u32 65536) fun vL =>
 (pr.conv .i64 vL).bind fun vM =>
 bn .eql vM (i 0) fun vP =>
 condK vP (
 cl g id_interpreterref14_Plateau v1.2 [a3] fun vR =>
 bn .add vR (i 20) fun vU =>
 bn .gtr vU a2 fun vY =>
 condK vY (F_interpreterref14_To6_k1 g a1 a2 v0 v1) (F_interpreterref14_To6_k1 g a1 vU v0 v1)) (
 bn .add vM (i 20) fun v14 =>
 bn .gtr v14 a2 fun v18 =>
 condK v18 (F_interpreterref14_To6_k1 g a1 a2 v0 v1) (F_interpreterref14_To6_k1 g a1 v14 v0 v1))) (
 fA 0 0 v0 fun v2d =>
 l1 v1.2 v2d fun v2e =>
 bn .eql v2e (i 12) fun v2f =>
 tf v2f 1 1 v0 fun v2h =>
 tl v2f v1.2 v2h fun v2i =>
 tb v2f .eql v2i (i 0) fun v2j =>
 ts v2f v2j fun v2k =>
 ff v2k 1 1 v0 fun v2l =>
 fl v2k v1.2 v2l fun v2m =>
 fb v2k .eql v2m (i 2) fun v2n =>
 gT v2f (pr.pick v2k (LV.bool true) v2n) fun v2o =>
 pT v2f v2o fun v2p =>
 condK v2p (
 (pr.bsl (i 0) 20 [(0, (i 0)), (1, (i 1)), (2, (i 4)), (3, (i 4)), (4, (i (-1))), (5, (i (-1))), (6, (i (-1))), (7, (i (-1))), (8, (i 7)), (9, (i 6)), (10, (i (-1))), (11, (i (-1))), (12, (i 8)), (13, (i 8)), (14, (i 8)), (15, (i 8)), (16, (i 24)), (17, (i 24)), (18, (i 24)), (19, (i 24))]).bind fun v2q =>
 fA 2 2 v0 fun v2s =>
 l1 v1.2 v2s fun v2t =>
 bn .quo v2t (LV.int .u32 16777216) fun v2u =>
 (pr.conv .i64 v2u).bind fun v2v =>
 (pr.len false v2q).bind fun v2z =>
 bn .geq v2v v2z fun v30 =>
 fs v30 v2q fun v32 =>
 fs v30 v2v fun v33 =>
 gF v30 (pr.idxAddr none 1 v32 v33) fun v34 =>
 fl v30 v1.2 v34 fun v35 =>
 fb v30 .lss v35 (i 0) fun v36 =>
 pF v30 v36 fun v37 =>
 condK v37 (
 (pr.parts (LV.agg [(i 0), (i 0), (LV.int .u32 0), (LV.str [])]) []).bind fun v38 =>
 sA 4 v1.2 v1.1 v38 fun v39 =>
 lA 4 v39.2 v1.1 fun v3B =>
 pr.fin none v39.2 [v3B, (LV.bool false)]) (
 (pr.idxAddr none 1 v2q v2v).bind fun v3E =>
 l1 v1.2 v3E fun v3F =>
 (pr.conv .u32 v3F).bind fun v3G =>
 fA 3 3 v0 fun v3H =>
 l1 v1.2 v3H fun v3I =>
 (pr.parts (LV.agg [(i 0), (i 0), (LV.int .u32 0), (LV.str [])]) [(0, (i 4)), (2, v3G), (3, v3I)]).bind fun v3J =>
 sA 4 v1.2 v1.1 v3J fun v3K =>
 lA 4 v3K.2 v1.1 fun v3M =>
 pr.fin none v3K.2 [v3M, (LV.bool true)])) (
 fA 2 2 v0 fun v3N =>
 l1 v1.2 v3N fun v3O =>
 (pr.conv .i64 v3O).bind fun v3P =>
 cl g id_interpreterref14_lines6 v1.2 [v3P] fun v3Q =>
 lA 4 v1.2 v0 fun v3R =>
 cl g id_interpreterref14_find v1.2 [v3Q, v3R] fun v3S =>
 ex v3S 0 fun v3U =>
 ex v3S 1 fun v3V =>
 (pr.alloc (LV.agg [(i 0), (i 0), (i 0), (i 0), (i 0)]) 14 v1.2).bind fun v3W =>
 sA 5 v3W.2 v3W.1 v3U fun v3X =>
 nt v3V fun v3a =>
 condK v3a (
 (pr.parts (LV.agg [(i 0), (i 0), (LV.int .u32 0), (LV.str [])]) []).bind fun v3b =>
 sA 4 v3X.2 v1.1 v3b fun v3c =>
 lA 4 v3c.2 v1.1 fun v3e =>
 pr.fin none v3c.2 [v3e, (LV.bool false)]) (
 fA 2 2 v3W.1 fun v3f =>
 l1 v3X.2 v3f fun v3g =>
 fA 3 3 v3W.1 fun v3h =>
 l1 v3X.2 v3h fun v3i =>
 fA 4 4 v3W.1 fun v3j =>
 l1 v3X.2 v3j fun v3k =>
 (pr.conv .u32 v3k).bind fun v3l =>
 fA 3 3 v0 fun v3m =>
 l1 v3X.2 v3m fun v3n =>
 (pr.parts (LV.agg [(i 0), (i 0), (LV.int .u32 0), (LV.str [])]) [(0, v3g), (1, v3i), (2, v3l), (3, v3n)]).bind fun v3o =>
 sA 4 v3X.2 v1.1 v3o fun v3p =>
 lA 4 v3p.2 v1.1 fun v3r =>
 pr.fin none v3p.2 [v3r, (LV.bool true)]))))
theorem F_interpreterref14_To6_eq (g : Call) (a0 : LV) (a1 : LV) (a2 : LV) (a3 : LV) : fnEv g c_interpreterref14_To6 [a0, a1, a2, a3] none = F_interpreterref14_To6 g a0 a1 a2 a3 := by kernel_rfl
noncomputable def F_fault_Inside6_k1 (g : Call) (v0U : LV × Slots) (v0 : LV × Slots) :=
 lA 42 v0U.2 v0.1 fun v0a =>
 cl g id_fault_fault v0U.2 [(i 7)] fun v0b =>
 sA 42 v0U.2 v0.1 v0a fun v0c =>
 lA 42 v0c.2 v0.1 fun v0f =>
 pr.fin none v0c.2 [v0f, (i 0), v0b]
noncomputable def F_fault_Inside6 (g : Call) (a0 : LV) : Option (LV × Option LV) :=
 (pr.alloc (LV.agg [(i 0), (i 0), (i 0), (LV.bytes [0, 0, 0, 0, 0, 0, 0, 0, 0, 0, 0, 0, 0, 0, 0, 0]), (LV.bytes [0, 0, 0, 0, 0, 0, 0, 0, 0, 0, 0, 0, 0, 0, 0, 0]), LV.nils, (LV.bool false), (LV.int .u32 0), (i 0), (LV.bool false), (i 0), (LV.str [])]) 2 z).bind fun v0 =>
 ln a0 fun v4 =>
 bn .lss v4 (i 40) fun v5 =>
 condK v5 (
 lA 42 v0.2 v0.1 fun v6 =>
 cl g id_fault_fault v0.2 [(i 7)] fun v7 =>
 sA 42 v0.2 v0.1 v6 fun v8 =>
 lA 42 v8.2 v0.1 fun vB =>
 pr.fin none v8.2 [vB, (i 0), v7]) (
 xS a0 (i 0) fun vD =>
 bn .shr vD (LV.int .u64 4) fun vE =>
 bn .neq vE (LV.int .u8 6) fun vF =>
 condK vF (
 lA 42 v0.2 v0.1 fun vG =>
 cl g id_fault_fault v0.2 [(i 8)] fun vH =>
 sA 42 v0.2 v0.1 vG fun vI =>
 lA 42 vI.2 v0.1 fun vL =>
 pr.fin none vI.2 [vL, (i 0), vH]) (
 xS a0 (i 4) fun vN =>
 (pr.conv .i64 vN).bind fun vO =>
 bn .shl vO (LV.int .u64 8) fun vP =>
 xS a0 (i 5) fun vR =>
 (pr.conv .i64 vR).bind fun vS =>
 bn .or vP vS fun vT =>
 ln a0 fun vX =>
 bn .add (i 40) vT fun vZ =>
 (pr.minmax false vX [vZ]).bind fun va =>
 sl a0 (some (i 40)) (some va) fun vb =>
 xS a0 (i 6) fun ve =>
 (pr.conv .i64 ve).bind fun vf =>
 cl g id_ip6_Chain v0.2 [vf, vb] fun vh =>
 ex vh 0 fun vj =>
 ex vh 1 fun vk =>
 ex vh 2 fun vl =>
 ex vh 3 fun vm =>
 eN 1 true vm fun vs =>
 condK vs (
 lA 42 v0.2 v0.1 fun vt =>
 sA 42 v0.2 v0.1 vt fun vv =>
 lA 42 vv.2 v0.1 fun vy =>
 pr.fin none vv.2 [vy, (i 0), vm]) (
 (pr.callFr g id_num_New 58 v0.2 [a0]).bind fun v00 =>
 (pr.callRw g id_num_Reader_U32 v00.2 [v00.1]).bind fun v01 =>
 ex v01.1 0 fun v03 =>
 ex v01.1 1 fun v04 =>
 bn .shr v03 (LV.int .u64 20) fun v08 =>
 bn .and v08 (i 255) fun v09 =>
 bn .and v03 (i 1048575) fun v0B =>
 xS a0 (i 7) fun v0D =>
 (pr.conv .i64 v0D).bind fun v0E =>
 (pr.parts (LV.agg [(i 0), (i 0), (i 0), (LV.bytes [0, 0, 0, 0, 0, 0, 0, 0, 0, 0, 0, 0, 0, 0, 0, 0]), (LV.bytes [0, 0, 0, 0, 0, 0, 0, 0, 0, 0, 0, 0, 0, 0, 0, 0]), LV.nils, (LV.bool false), (LV.int .u32 0), (i 0), (LV.bool false), (i 0), (LV.str [])]) [(0, v09), (1, v0B), (2, v0E), (5, vj), (10, vk), (11, vl)]).bind fun v0I =>
 (pr.alloc (LV.agg [(i 0), (i 0), (i 0), (LV.bytes [0, 0, 0, 0, 0, 0, 0, 0, 0, 0, 0, 0, 0, 0, 0, 0]), (LV.bytes [0, 0, 0, 0, 0, 0, 0, 0, 0, 0, 0, 0, 0, 0, 0, 0]), LV.nils, (LV.bool false), (LV.int .u32 0), (i 0), (LV.bool false), (i 0), (LV.str [])]) 12 v01.2).bind fun v0J =>
 sA 42 v0J.2 v0J.1 v0I fun v0K =>
 fA 3 3 v0J.1 fun v0L =>
 sV 16 v0K.2 v0L none none fun v0M =>
 sl a0 (some (i 8)) none fun v0O =>
 (pr.copy v0K.2 v0M v0O).bind fun v0P =>
 fA 4 19 v0J.1 fun v0Q =>
 sV 16 v0P.2 v0Q none none fun v0R =>
 sl a0 (some (i 24)) none fun v0T =>
 (pr.copy v0P.2 v0R v0T).bind fun v0U =>
 bn .eql vk (i 44) fun v0W =>
 condK v0W (
 ln vl fun v0Y =>
 bn .lss v0Y (i 8) fun v0Z =>
 condK v0Z (F_fault_Inside6_k1 g v0U v0) (
 xS vl (i 2) fun v0h =>
 (pr.conv .i64 v0h).bind fun v0i =>
 bn .shl v0i (LV.int .u64 8) fun v0j =>
 xS vl (i 3) fun v0l =>
 (pr.conv .i64 v0l).bind fun v0m =>
 bn .or v0j v0m fun v0n =>
 sl vl (some (i 4)) none fun v0q =>
 (pr.callFr g id_num_New 102 v0U.2 [v0q]).bind fun v0r =>
 (pr.callRw g id_num_Reader_U32 v0r.2 [v0r.1]).bind fun v0s =>
 ex v0s.1 0 fun v0u =>
 ex v0s.1 1 fun v0v =>
 (pr.conv .u32 v0u).bind fun v0z =>
 bn .andNot v0n (i 7) fun v11 =>
 bn .and v0n (i 1) fun v13 =>
 bn .neq v13 (i 0) fun v14 =>
 xS vl (i 0) fun v16 =>
 (pr.conv .i64 v16).bind fun v17 =>
 sl vl (some (i 8)) none fun v19 =>
 fA 6 36 v0J.1 fun v1A =>
 s1 v0s.2 v1A (LV.bool true) fun v1B =>
 fA 7 37 v0J.1 fun v1C =>
 s1 v1B.2 v1C v0z fun v1D =>
 fA 8 38 v0J.1 fun v1E =>
 s1 v1D.2 v1E v11 fun v1F =>
 fA 9 39 v0J.1 fun v1G =>
 s1 v1F.2 v1G v14 fun v1H =>
 fA 10 40 v0J.1 fun v1I =>
 s1 v1H.2 v1I v17 fun v1J =>
 fA 11 41 v0J.1 fun v1K =>
 s1 v1J.2 v1K v19 fun v1L =>
 ln vb fun v1O =>
 fA 11 41 v0J.1 fun v1P =>
 l1 v1L.2 v1P fun v1Q =>
 ln v1Q fun v1R =>
 bn .sub v1O v1R fun v1S =>
 bn .sub vT v1S fun v1T =>
 fA 11 41 v0J.1 fun v1V =>
 l1 v1L.2 v1V fun v1W =>
 cl g id_fault_short v1L.2 [v1W, v1T] fun v1Y =>
 condK v1Y (F_fault_Inside6_k1 g v1L v0) (
 lA 42 v1L.2 v0J.1 fun v1f =>
 sA 42 v1L.2 v0.1 v1f fun v1h =>
 lA 42 v1h.2 v0.1 fun v1k =>
 pr.fin none v1h.2 [v1k, v1T, LV.nili]))) (
 ln vb fun v1n =>
 fA 11 41 v0J.1 fun v1o =>
 l1 v0U.2 v1o fun v1p =>
 ln v1p fun v1q =>
 bn .sub v1n v1q fun v1r =>
 bn .sub vT v1r fun v1s =>
 fA 11 41 v0J.1 fun v1u =>
 l1 v0U.2 v1u fun v1v =>
 cl g id_fault_short v0U.2 [v1v, v1s] fun v1x =>
 condK v1x (F_fault_Inside6_k1 g v0U v0) (
 lA 42 v0U.2 v0J.1 fun v24 =>
 sA 42 v0U.2 v0.1 v24 fun v26 =>
 lA 42 v26.2 v0.1 fun v29 =>
 pr.fin none v26.2 [v29, v1s, LV.nili])))))
theorem F_fault_Inside6_eq (g : Call) (a0 : LV) : fnEv g c_fault_Inside6 [a0] none = F_fault_Inside6 g a0 := by kernel_rfl
noncomputable def F_icmp6_Failure (g : Call) (a0 : LV) : Option (LV × Option LV) :=
 bx a0 fun v0 =>
 fA 0 0 v0 fun v2 =>
 l1 z v2 fun v3 =>
 bn .geq v3 (i 1) fun v4 =>
 tf v4 0 0 v0 fun v6 =>
 tl v4 z v6 fun v7 =>
 tb v4 .leq v7 (i 127) fun v8 =>
 pT v4 v8 fun v9 =>
 pr.fin none z [v9]
theorem F_icmp6_Failure_eq (g : Call) (a0 : LV) : fnEv g c_icmp6_Failure [a0] none = F_icmp6_Failure g a0 := by kernel_rfl
noncomputable def F_icmpmap_To4_k1 (g : Call) (v1 : LV × Slots) :=
 (pr.parts (LV.agg [(i 0), (i 0), (LV.int .u32 0), (LV.str [])]) []).bind fun v8 =>
 sA 4 v1.2 v1.1 v8 fun v9 =>
 lA 4 v9.2 v1.1 fun vB =>
 pr.fin none v9.2 [vB, (LV.bool false)]
noncomputable def F_icmpmap_To4 (g : Call) (a0 : LV) (a1 : LV) (a2 : LV) : Option (LV × Option LV) :=
 bx a0 fun v0 =>
 (pr.alloc (LV.agg [(i 0), (i 0), (LV.int .u32 0), (LV.str [])]) 6 z).bind fun v1 =>
 cl g id_icmpmap_sides v1.2 [a1, a2] fun v5 =>
 nt v5 fun v6 =>
 condK v6 (F_icmpmap_To4_k1 g v1) (
 fA 0 0 v0 fun vC =>
 l1 v1.2 vC fun vD =>
 bn .eql vD (i 128) fun vE =>
 tf vE 1 1 v0 fun vG =>
 tl vE v1.2 vG fun vH =>
 tb vE .eql vH (i 0) fun vI =>
 pT vE vI fun vJ =>
 condK vJ (
 lA 4 v1.2 v0 fun vL =>
 fA 2 2 v0 fun vM =>
 l1 v1.2 vM fun vN =>
 (pr.conv .i64 vN).bind fun vO =>
 cl g id_icmpmap_said v1.2 [vL, (i 8), (i 0), vO] fun vP =>
 ex vP 0 fun vQ =>
 ex vP 1 fun vR =>
 sA 4 v1.2 v1.1 vQ fun vS =>
 lA 4 vS.2 v1.1 fun vU =>
 pr.fin none vS.2 [vU, vR]) (
 fA 0 0 v0 fun vV =>
 l1 v1.2 vV fun vW =>
 bn .eql vW (i 129) fun vX =>
 tf vX 1 1 v0 fun vZ =>
 tl vX v1.2 vZ fun va =>
 tb vX .eql va (i 0) fun vb =>
 pT vX vb fun vc =>
 condK vc (
 lA 4 v1.2 v0 fun ve =>
 fA 2 2 v0 fun vf =>
 l1 v1.2 vf fun vg =>
 (pr.conv .i64 vg).bind fun vh =>
 cl g id_icmpmap_said v1.2 [ve, (i 0), (i 0), vh] fun vi =>
 ex vi 0 fun vj =>
 ex vi 1 fun vk =>
 sA 4 v1.2 v1.1 vj fun vl =>
 lA 4 vl.2 v1.1 fun vn =>
 pr.fin none vl.2 [vn, vk]) (
 fA 0 0 v0 fun vo =>
 l1 v1.2 vo fun vp =>
 bn .eql vp (i 1) fun vq =>
 condK vq (
 lA 4 v1.2 v0 fun vs =>
 cl g id_icmpmap_lost4 v1.2 [vs] fun vt =>
 ex vt 0 fun vu =>
 ex vt 1 fun vv =>
 sA 4 v1.2 v1.1 vu fun vw =>
 lA 4 vw.2 v1.1 fun vy =>
 pr.fin none vw.2 [vy, vv]) (
 fA 0 0 v0 fun vz =>
 l1 v1.2 vz fun v00 =>
 bn .eql v00 (i 2) fun v01 =>
 tf v01 1 1 v0 fun v03 =>
 tl v01 v1.2 v03 fun v04 =>
 tb v01 .eql v04 (i 0) fun v05 =>
 pT v01 v05 fun v06 =>
 condK v06 (
 lA 4 v1.2 v0 fun v08 =>
 fA 2 2 v0 fun v09 =>
 l1 v1.2 v09 fun v0A =>
 (pr.conv .i64 v0A).bind fun v0B =>
 bn .sub v0B (i 20) fun v0C =>
 bn .sub a2 (i 20) fun v0F =>
 (pr.minmax false v0C [a1, v0F]).bind fun v0G =>
 (pr.minmax true v0G [(i 68)]).bind fun v0H =>
 (pr.minmax false v0H [(i 65535)]).bind fun v0I =>
 cl g id_icmpmap_said v1.2 [v08, (i 3), (i 4), v0I] fun v0J =>
 ex v0J 0 fun v0K =>
 ex v0J 1 fun v0L =>
 sA 4 v1.2 v1.1 v0K fun v0M =>
 lA 4 v0M.2 v1.1 fun v0O =>
 pr.fin none v0M.2 [v0O, v0L]) (
 fA 0 0 v0 fun v0P =>
 l1 v1.2 v0P fun v0Q =>
 bn .eql v0Q (i 3) fun v0R =>
 tf v0R 1 1 v0 fun v0T =>
 tl v0R v1.2 v0T fun v0U =>
 tb v0R .eql v0U (i 0) fun v0V =>
 ts v0R v0V fun v0W =>
 ff v0W 1 1 v0 fun v0X =>
 fl v0W v1.2 v0X fun v0Y =>
 fb v0W .eql v0Y (i 1) fun v0Z =>
 gT v0R (pr.pick v0W (LV.bool true) v0Z) fun v0a =>
 pT v0R v0a fun v0b =>
 condK v0b (
 lA 4 v1.2 v0 fun v0d =>
 fA 1 1 v0 fun v0e =>
 l1 v1.2 v0e fun v0f =>
 cl g id_icmpmap_said v1.2 [v0d, (i 11), v0f, (i 0)] fun v0g =>
 ex v0g 0 fun v0h =>
 ex v0g 1 fun v0i =>
 sA 4 v1.2 v1.1 v0h fun v0j =>
 lA 4 v0j.2 v1.1 fun v0l =>
 pr.fin none v0j.2 [v0l, v0i]) (
 fA 0 0 v0 fun v0m =>
 l1 v1.2 v0m fun v0n =>
 bn .eql v0n (i 4) fun v0o =>
 tf v0o 1 1 v0 fun v0q =>
 tl v0o v1.2 v0q fun v0r =>
 tb v0o .eql v0r (i 0) fun v0s =>
 pT v0o v0s fun v0t =>
 condK v0t (
 fA 2 2 v0 fun v0v =>
 l1 v1.2 v0v fun v0w =>
 cl g id_icmpmap_pointer4 v1.2 [v0w] fun v0x =>
 ex v0x 0 fun v0z =>
 ex v0x 1 fun v10 =>
 condK v10 (
 lA 4 v1.2 v0 fun v14 =>
 bn .shl v0z (LV.int .u64 24) fun v16 =>
 cl g id_icmpmap_said v1.2 [v14, (i 12), (i 0), v16] fun v17 =>
 ex v17 0 fun v18 =>
 ex v17 1 fun v19 =>
 sA 4 v1.2 v1.1 v18 fun v1A =>
 lA 4 v1A.2 v1.1 fun v1C =>
 pr.fin none v1A.2 [v1C, v19]) (F_icmpmap_To4_k1 g v1)) (
 fA 0 0 v0 fun v1H =>
 l1 v1.2 v1H fun v1I =>
 bn .eql v1I (i 4) fun v1J =>
 tf v1J 1 1 v0 fun v1L =>
 tl v1J v1.2 v1L fun v1M =>
 tb v1J .eql v1M (i 1) fun v1N =>
 pT v1J v1N fun v1O =>
 condK v1O (
 lA 4 v1.2 v0 fun v1Q =>
 cl g id_icmpmap_said v1.2 [v1Q, (i 3), (i 2), (i 0)] fun v1R =>
 ex v1R 0 fun v1S =>
 ex v1R 1 fun v1T =>
 sA 4 v1.2 v1.1 v1S fun v1U =>
 lA 4 v1U.2 v1.1 fun v1W =>
 pr.fin none v1U.2 [v1W, v1T]) (F_icmpmap_To4_k1 g v1))))))))
theorem F_icmpmap_To4_eq (g : Call) (a0 : LV) (a1 : LV) (a2 : LV) : fnEv g c_icmpmap_To4 [a0, a1, a2] none = F_icmpmap_To4 g a0 a1 a2 := by kernel_rfl
noncomputable def F_fault_Quote4_k1 (g : Call) (v1w : LV) (v0 : LV) (a1 : LV) (v9 : LV) (v1 : LV) (v2 : LV) :=
 bn .or v1w (i 8192) fun v21 =>
 fA 0 0 v0 fun v23 =>
 l1 z v23 fun v24 =>
 cl g id_fault_big z [v24, (i 1)] fun v25 =>
 bn .add (LV.str [69]) v25 fun v26 =>
 bn .add (i 20) a1 fun v28 =>
 cl g id_fault_big z [v28, (i 2)] fun v29 =>
 bn .add v26 v29 fun v2A =>
 cl g id_fault_big z [(i 0), (i 2)] fun v2C =>
 bn .add v2A v2C fun v2D =>
 cl g id_fault_big z [v21, (i 2)] fun v2F =>
 bn .add v2D v2F fun v2G =>
 fA 2 2 v0 fun v2H =>
 l1 z v2H fun v2I =>
 cl g id_fault_big z [v2I, (i 1)] fun v2J =>
 bn .add v2G v2J fun v2K =>
 cl g id_fault_big z [v9, (i 1)] fun v2M =>
 bn .add v2K v2M fun v2N =>
 fA 0 0 v1 fun v2P =>
 sV 4 z v2P none none fun v2Q =>
 bS z v2Q fun v2R =>
 fA 0 0 v2 fun v2S =>
 sV 4 z v2S none none fun v2T =>
 bS z v2T fun v2U =>
 bn .add v2R v2U fun v2V =>
 (pr.bsl (LV.str []) 2 [(0, v2N), (1, v2V)]).bind fun v2a =>
 cl g id_sum_Of z [v2a] fun v2b =>
 cl g id_fault_big z [v2b, (i 2)] fun v2c =>
 bn .add v2N v2c fun v2d =>
 bn .add v2d v2V fun v2f =>
 lA 42 z v0 fun v2g =>
 lA 5 z v1 fun v2i =>
 lA 5 z v2 fun v2j =>
 cl g id_fault_turn4 z [v2g, a1, v2i, v2j] fun v2k =>
 bn .add v2f v2k fun v2l =>
 pr.fin none z [v2l, LV.nili]
noncomputable def F_fault_Quote4_k2 (g : Call) (v0 : LV) (a1 : LV) (v1w : LV) (v9 : LV) (v1 : LV) (v2 : LV) :=
 fA 0 0 v0 fun v2o =>
 l1 z v2o fun v2p =>
 cl g id_fault_big z [v2p, (i 1)] fun v2q =>
 bn .add (LV.str [69]) v2q fun v2r =>
 bn .add (i 20) a1 fun v2t =>
 cl g id_fault_big z [v2t, (i 2)] fun v2u =>
 bn .add v2r v2u fun v2v =>
 cl g id_fault_big z [(i 0), (i 2)] fun v2x =>
 bn .add v2v v2x fun v2y =>
 cl g id_fault_big z [v1w, (i 2)] fun v30 =>
 bn .add v2y v30 fun v31 =>
 fA 2 2 v0 fun v32 =>
 l1 z v32 fun v33 =>
 cl g id_fault_big z [v33, (i 1)] fun v34 =>
 bn .add v31 v34 fun v35 =>
 cl g id_fault_big z [v9, (i 1)] fun v37 =>
 bn .add v35 v37 fun v38 =>
 fA 0 0 v1 fun v3A =>
 sV 4 z v3A none none fun v3B =>
 bS z v3B fun v3C =>
 fA 0 0 v2 fun v3D =>
 sV 4 z v3D none none fun v3E =>
 bS z v3E fun v3F =>
 bn .add v3C v3F fun v3G =>
 (pr.bsl (LV.str []) 2 [(0, v38), (1, v3G)]).bind fun v3L =>
 cl g id_sum_Of z [v3L] fun v3M =>
 cl g id_fault_big z [v3M, (i 2)] fun v3N =>
 bn .add v38 v3N fun v3O =>
 bn .add v3O v3G fun v3Q =>
 lA 42 z v0 fun v3R =>
 lA 5 z v1 fun v3T =>
 lA 5 z v2 fun v3U =>
 cl g id_fault_turn4 z [v3R, a1, v3T, v3U] fun v3V =>
 bn .add v3Q v3V fun v3W =>
 pr.fin none z [v3W, LV.nili]
noncomputable def F_fault_Quote4 (g : Call) (a0 : LV) (a1 : LV) (a2 : LV) (a3 : LV) : Option (LV × Option LV) :=
 bx a0 fun v0 =>
 bx a2 fun v1 =>
 bx a3 fun v2 =>
 fA 10 40 v0 fun v5 =>
 l1 z v5 fun v6 =>
 cl g id_head64_Proto z [v6] fun v7 =>
 ex v7 0 fun v9 =>
 ex v7 1 fun vA =>
 fA 0 0 v0 fun vD =>
 l1 z vD fun vE =>
 fA 2 2 v0 fun vF =>
 l1 z vF fun vG =>
 (pr.bsl (i 0) 2 [(0, vE), (1, vG)]).bind fun vH =>
 cl g id_fault_within z [(i 255), vH] fun vI =>
 nt vI fun vJ =>
 ff vJ 1 4 v1 fun vL =>
 fl vJ z vL fun vM =>
 ff vJ 1 4 v2 fun vN =>
 fl vJ z vN fun vO =>
 gF vJ (pr.bsl (i 0) 2 [(0, vM), (1, vO)]) fun vP =>
 gF vJ (pr.call g id_fault_within z [(i 65535), vP]) fun vQ =>
 gF vJ (pr.un .not vQ) fun vR =>
 pF vJ vR fun vS =>
 ff vS 8 38 v0 fun vU =>
 fl vS z vU fun vV =>
 gF vS (pr.bsl (i 0) 1 [(0, vV)]) fun vW =>
 gF vS (pr.call g id_fault_within z [(i 65528), vW]) fun vX =>
 gF vS (pr.un .not vX) fun vY =>
 pF vS vY fun vZ =>
 ff vZ 8 38 v0 fun vb =>
 fl vZ z vb fun vc =>
 fb vZ .rem vc (i 8) fun vd =>
 fb vZ .neq vd (i 0) fun ve =>
 pF vZ ve fun vf =>
 fs vf a1 fun vh =>
 ff vf 11 41 v0 fun vi =>
 fl vf z vi fun vj =>
 gF vf (pr.len true vj) fun vk =>
 fb vf .lss vh vk fun vl =>
 pF vf vl fun vm =>
 condK vm (
 cl g id_fault_fault z [(i 13)] fun vo =>
 pr.fin none z [(LV.str []), vo]) (
 nt vA fun vs =>
 condK vs (
 cl g id_fault_fault z [(i 10)] fun vu =>
 pr.fin none z [(LV.str []), vu]) (
 fA 8 38 v0 fun vy =>
 l1 z vy fun vz =>
 bn .sub (i 65515) vz fun v00 =>
 bn .gtr a1 v00 fun v01 =>
 condK v01 (
 cl g id_fault_fault z [(i 3)] fun v03 =>
 pr.fin none z [(LV.str []), v03]) (
 fA 8 38 v0 fun v06 =>
 l1 z v06 fun v07 =>
 bn .quo v07 (i 8) fun v08 =>
 fA 6 36 v0 fun v0B =>
 l1 z v0B fun v0C =>
 condK v0C (
 fA 7 37 v0 fun v0D =>
 l1 z v0D fun v0E =>
 bn .and v0E (LV.int .u32 65535) fun v0F =>
 (pr.conv .i64 v0F).bind fun v0G =>
 fA 9 39 v0 fun v0I =>
 l1 z v0I fun v0J =>
 condK v0J (
 bn .or v08 (i 8192) fun v0L =>
 fA 0 0 v0 fun v0N =>
 l1 z v0N fun v0O =>
 cl g id_fault_big z [v0O, (i 1)] fun v0P =>
 bn .add (LV.str [69]) v0P fun v0Q =>
 bn .add (i 20) a1 fun v0S =>
 cl g id_fault_big z [v0S, (i 2)] fun v0T =>
 bn .add v0Q v0T fun v0U =>
 cl g id_fault_big z [v0G, (i 2)] fun v0W =>
 bn .add v0U v0W fun v0X =>
 cl g id_fault_big z [v0L, (i 2)] fun v0Z =>
 bn .add v0X v0Z fun v0a =>
 fA 2 2 v0 fun v0b =>
 l1 z v0b fun v0c =>
 cl g id_fault_big z [v0c, (i 1)] fun v0d =>
 bn .add v0a v0d fun v0e =>
 cl g id_fault_big z [v9, (i 1)] fun v0g =>
 bn .add v0e v0g fun v0h =>
 fA 0 0 v1 fun v0j =>
 sV 4 z v0j none none fun v0k =>
 bS z v0k fun v0l =>
 fA 0 0 v2 fun v0m =>
 sV 4 z v0m none none fun v0n =>
 bS z v0n fun v0o =>
 bn .add v0l v0o fun v0p =>
 (pr.bsl (LV.str []) 2 [(0, v0h), (1, v0p)]).bind fun v0u =>
 cl g id_sum_Of z [v0u] fun v0v =>
 cl g id_fault_big z [v0v, (i 2)] fun v0w =>
 bn .add v0h v0w fun v0x =>
 bn .add v0x v0p fun v0z =>
 lA 42 z v0 fun v10 =>
 lA 5 z v1 fun v12 =>
 lA 5 z v2 fun v13 =>
 cl g id_fault_turn4 z [v10, a1, v12, v13] fun v14 =>
 bn .add v0z v14 fun v15 =>
 pr.fin none z [v15, LV.nili]) (
 fA 0 0 v0 fun v18 =>
 l1 z v18 fun v19 =>
 cl g id_fault_big z [v19, (i 1)] fun v1A =>
 bn .add (LV.str [69]) v1A fun v1B =>
 bn .add (i 20) a1 fun v1D =>
 cl g id_fault_big z [v1D, (i 2)] fun v1E =>
 bn .add v1B v1E fun v1F =>
 cl g id_fault_big z [v0G, (i 2)] fun v1H =>
 bn .add v1F v1H fun v1I =>
 cl g id_fault_big z [v08, (i 2)] fun v1K =>
 bn .add v1I v1K fun v1L =>
 fA 2 2 v0 fun v1M =>
 l1 z v1M fun v1N =>
 cl g id_fault_big z [v1N, (i 1)] fun v1O =>
 bn .add v1L v1O fun v1P =>
 cl g id_fault_big z [v9, (i 1)] fun v1R =>
 bn .add v1P v1R fun v1S =>
 fA 0 0 v1 fun v1U =>
 sV 4 z v1U none none fun v1V =>
 bS z v1V fun v1W =>
 fA 0 0 v2 fun v1X =>
 sV 4 z v1X none none fun v1Y =>
 bS z v1Y fun v1Z =>
 bn .add v1W v1Z fun v1a =>
 (pr.bsl (LV.str []) 2 [(0, v1S), (1, v1a)]).bind fun v1f =>
 cl g id_sum_Of z [v1f] fun v1g =>
 cl g id_fault_big z [v1g, (i 2)] fun v1h =>
 bn .add v1S v1h fun v1i =>
 bn .add v1i v1a fun v1k =>
 lA 42 z v0 fun v1l =>
 lA 5 z v1 fun v1n =>
 lA 5 z v2 fun v1o =>
 cl g id_fault_turn4 z [v1l, a1, v1n, v1o] fun v1p =>
 bn .add v1k v1p fun v1q =>
 pr.fin none z [v1q, LV.nili])) (
 bn .gtr a1 (i 1240) fun v1u =>
 condK v1u (
 bn .or v08 (i 16384) fun v1w =>
 fA 9 39 v0 fun v1y =>
 l1 z v1y fun v1z =>
 condK v1z (F_fault_Quote4_k1 g v1w v0 a1 v9 v1 v2) (F_fault_Quote4_k2 g v0 a1 v1w v9 v1 v2)) (
 fA 9 39 v0 fun v3Z =>
 l1 z v3Z fun v3a =>
 condK v3a (F_fault_Quote4_k1 g v08 v0 a1 v9 v1 v2) (F_fault_Quote4_k2 g v0 a1 v08 v9 v1 v2))))))
theorem F_fault_Quote4_eq (g : Call) (a0 : LV) (a1 : LV) (a2 : LV) (a3 : LV) : fnEv g c_fault_Quote4 [a0, a1, a2, a3] none = F_fault_Quote4 g a0 a1 a2 a3 := by kernel_rfl
noncomputable def F_interpreterref15_Inside6_k1 (g : Call) (v5 : LV × Slots) (a0 : LV) (vh : LV) (vi : LV) (vj : LV) (v4 : LV × Slots) (v0 : LV × Slots) (vZ : LV) (vO : LV) :=
 cl g id_interpreterref15_number v5.2 [a0, (i 0), (i 4)] fun vy =>
 bn .quo vy (i 1048576) fun v01 =>
 bn .rem v01 (i 256) fun v02 =>
 bn .rem vy (i 1048576) fun v04 =>
 xS a0 (i 7) fun v06 =>
 (pr.conv .i64 v06).bind fun v07 =>
 (pr.parts (LV.agg [(i 0), (i 0), (i 0), (LV.bytes [0, 0, 0, 0, 0, 0, 0, 0, 0, 0, 0, 0, 0, 0, 0, 0]), (LV.bytes [0, 0, 0, 0, 0, 0, 0, 0, 0, 0, 0, 0, 0, 0, 0, 0]), LV.nils, (LV.bool false), (LV.int .u32 0), (i 0), (LV.bool false), (i 0), (LV.str [])]) [(0, v02), (1, v04), (2, v07), (5, vh), (10, vi), (11, vj)]).bind fun v0B =>
 (pr.alloc (LV.agg [(i 0), (i 0), (i 0), (LV.bytes [0, 0, 0, 0, 0, 0, 0, 0, 0, 0, 0, 0, 0, 0, 0, 0]), (LV.bytes [0, 0, 0, 0, 0, 0, 0, 0, 0, 0, 0, 0, 0, 0, 0, 0]), LV.nils, (LV.bool false), (LV.int .u32 0), (i 0), (LV.bool false), (i 0), (LV.str [])]) 13 v5.2).bind fun v0C =>
 sA 42 v0C.2 v0C.1 v0B fun v0D =>
 (whileW (fun q77 : List LV × Slots =>
 bn .lss (getL q77.1 0) (i 16) fun v0H =>
 condK v0H (
 bn .add (i 8) (getL q77.1 0) fun v0L =>
 xS a0 v0L fun v0M =>
 fA 3 3 v0C.1 fun v0N =>
 (pr.idxAddr (some 16) 1 v0N (getL q77.1 0)).bind fun v0O =>
 s1 q77.2 v0O v0M fun v0P =>
 bn .add (i 24) (getL q77.1 0) fun v0T =>
 xS a0 v0T fun v0U =>
 fA 4 19 v0C.1 fun v0V =>
 (pr.idxAddr (some 16) 1 v0V (getL q77.1 0)).bind fun v0W =>
 s1 v0P.2 v0W v0U fun v0X =>
 bn .add (getL q77.1 0) (i 1) fun v0Z =>
 pr.round v0D.2 .normal [v0Z] v0X.2) (
 pr.round v0D.2 (.exit 0) [(getL q77.1 0)] q77.2)) ([(i 0)], v0D.2)).bind fun r77 =>
 exIf r77.1 (.exit 0) (
 bn .eql vi (i 44) fun v0c =>
 condK v0c (
 ln vj fun v0e =>
 bn .lss v0e (i 8) fun v0f =>
 condK v0f (
 lA 42 r77.2.2 v4.1 fun v0g =>
 sA 42 r77.2.2 v0.1 v0g fun v0h =>
 lA 42 v0h.2 v0.1 fun v0k =>
 pr.fin none v0h.2 [v0k, (i 0), (i 7)]) (
 fA 6 36 v0C.1 fun v0l =>
 s1 r77.2.2 v0l (LV.bool true) fun v0m =>
 xS vj (i 0) fun v0o =>
 (pr.conv .i64 v0o).bind fun v0p =>
 fA 10 40 v0C.1 fun v0q =>
 s1 v0m.2 v0q v0p fun v0r =>
 cl g id_interpreterref15_number v0r.2 [vj, (i 2), (i 2)] fun v0t =>
 bn .quo v0t (i 8) fun v0u =>
 bn .mul v0u (i 8) fun v0v =>
 fA 8 38 v0C.1 fun v0w =>
 s1 v0r.2 v0w v0v fun v0x =>
 xS vj (i 3) fun v0z =>
 bn .rem v0z (LV.int .u8 2) fun v10 =>
 bn .eql v10 (LV.int .u8 1) fun v11 =>
 fA 9 39 v0C.1 fun v12 =>
 s1 v0x.2 v12 v11 fun v13 =>
 cl g id_interpreterref15_number v13.2 [vj, (i 4), (i 4)] fun v15 =>
 (pr.conv .u32 v15).bind fun v16 =>
 fA 7 37 v0C.1 fun v17 =>
 s1 v13.2 v17 v16 fun v18 =>
 sl vj (some (i 8)) none fun v1A =>
 fA 11 41 v0C.1 fun v1B =>
 s1 v18.2 v1B v1A fun v1C =>
 ln vZ fun v1F =>
 bn .sub vO v1F fun v1G =>
 fA 11 41 v0C.1 fun v1H =>
 l1 v1C.2 v1H fun v1I =>
 ln v1I fun v1J =>
 bn .add v1G v1J fun v1K =>
 fA 11 41 v0C.1 fun v1M =>
 l1 v1C.2 v1M fun v1N =>
 cl g id_interpreterref15_little v1C.2 [v1N, v1K] fun v1P =>
 condK v1P (
 lA 42 v1C.2 v4.1 fun v1Q =>
 sA 42 v1C.2 v0.1 v1Q fun v1R =>
 lA 42 v1R.2 v0.1 fun v1U =>
 pr.fin none v1R.2 [v1U, (i 0), (i 7)]) (
 lA 42 v1C.2 v0C.1 fun v1V =>
 sA 42 v1C.2 v0.1 v1V fun v1X =>
 lA 42 v1X.2 v0.1 fun v1a =>
 pr.fin none v1X.2 [v1a, v1K, (i 0)]))) (
 ln vZ fun v1d =>
 bn .sub vO v1d fun v1e =>
 fA 11 41 v0C.1 fun v1f =>
 l1 r77.2.2 v1f fun v1g =>
 ln v1g fun v1h =>
 bn .add v1e v1h fun v1i =>
 fA 11 41 v0C.1 fun v1k =>
 l1 r77.2.2 v1k fun v1l =>
 cl g id_interpreterref15_little r77.2.2 [v1l, v1i] fun v1n =>
 condK v1n (
 lA 42 r77.2.2 v4.1 fun v1o =>
 sA 42 r77.2.2 v0.1 v1o fun v1p =>
 lA 42 v1p.2 v0.1 fun v1s =>
 pr.fin none v1p.2 [v1s, (i 0), (i 7)]) (
 lA 42 r77.2.2 v0C.1 fun v1t =>
 sA 42 r77.2.2 v0.1 v1t fun v1v =>
 lA 42 v1v.2 v0.1 fun v1y =>
 pr.fin none v1v.2 [v1y, v1i, (i 0)]))) (none)
noncomputable def F_interpreterref15_Inside6 (g : Call) (a0 : LV) : Option (LV × Option LV) :=
 (pr.alloc (LV.agg [(i 0), (i 0), (i 0), (LV.bytes [0, 0, 0, 0, 0, 0, 0, 0, 0, 0, 0, 0, 0, 0, 0, 0]), (LV.bytes [0, 0, 0, 0, 0, 0, 0, 0, 0, 0, 0, 0, 0, 0, 0, 0]), LV.nils, (LV.bool false), (LV.int .u32 0), (i 0), (LV.bool false), (i 0), (LV.str [])]) 2 z).bind fun v0 =>
 (pr.parts (LV.agg [(i 0), (i 0), (i 0), (LV.bytes [0, 0, 0, 0, 0, 0, 0, 0, 0, 0, 0, 0, 0, 0, 0, 0]), (LV.bytes [0, 0, 0, 0, 0, 0, 0, 0, 0, 0, 0, 0, 0, 0, 0, 0]), LV.nils, (LV.bool false), (LV.int .u32 0), (i 0), (LV.bool false), (i 0), (LV.str [])]) []).bind fun v3 =>
 (pr.alloc (LV.agg [(i 0), (i 0), (i 0), (LV.bytes [0, 0, 0, 0, 0, 0, 0, 0, 0, 0, 0, 0, 0, 0, 0, 0]), (LV.bytes [0, 0, 0, 0, 0, 0, 0, 0, 0, 0, 0, 0, 0, 0, 0, 0]), LV.nils, (LV.bool false), (LV.int .u32 0), (i 0), (LV.bool false), (i 0), (LV.str [])]) 5 v0.2).bind fun v4 =>
 sA 42 v4.2 v4.1 v3 fun v5 =>
 ln a0 fun v7 =>
 bn .lss v7 (i 40) fun v8 =>
 condK v8 (
 lA 42 v5.2 v4.1 fun v9 =>
 sA 42 v5.2 v0.1 v9 fun vA =>
 lA 42 vA.2 v0.1 fun vD =>
 pr.fin none vA.2 [vD, (i 0), (i 7)]) (
 xS a0 (i 0) fun vF =>
 bn .quo vF (LV.int .u8 16) fun vG =>
 bn .neq vG (LV.int .u8 6) fun vH =>
 condK vH (
 lA 42 v5.2 v4.1 fun vI =>
 sA 42 v5.2 v0.1 vI fun vJ =>
 lA 42 vJ.2 v0.1 fun vM =>
 pr.fin none vJ.2 [vM, (i 0), (i 8)]) (
 cl g id_interpreterref15_number v5.2 [a0, (i 4), (i 2)] fun vO =>
 sl a0 (some (i 40)) none fun vR =>
 ln vR fun vU =>
 bn .gtr vU vO fun vW =>
 condK vW (
 sl vR none (some vO) fun vZ =>
 xS a0 (i 6) fun vc =>
 (pr.conv .i64 vc).bind fun vd =>
 cl g id_interpreterref04_Chain v5.2 [vd, vZ] fun vf =>
 ex vf 0 fun vh =>
 ex vf 1 fun vi =>
 ex vf 2 fun vj =>
 ex vf 3 fun vk =>
 bn .neq vk (i 0) fun vq =>
 condK vq (
 lA 42 v5.2 v4.1 fun vr =>
 sA 42 v5.2 v0.1 vr fun vt =>
 lA 42 vt.2 v0.1 fun vw =>
 pr.fin none vt.2 [vw, (i 0), vk]) (F_interpreterref15_Inside6_k1 g v5 a0 vh vi vj v4 v0 vZ vO)) (
 xS a0 (i 6) fun v20 =>
 (pr.conv .i64 v20).bind fun v21 =>
 cl g id_interpreterref04_Chain v5.2 [v21, vR] fun v23 =>
 ex v23 0 fun v25 =>
 ex v23 1 fun v26 =>
 ex v23 2 fun v27 =>
 ex v23 3 fun v28 =>
 bn .neq v28 (i 0) fun v2E =>
 condK v2E (
 lA 42 v5.2 v4.1 fun v2F =>
 sA 42 v5.2 v0.1 v2F fun v2H =>
 lA 42 v2H.2 v0.1 fun v2K =>
 pr.fin none v2H.2 [v2K, (i 0), v28]) (F_interpreterref15_Inside6_k1 g v5 a0 v25 v26 v27 v4 v0 vR vO))))
theorem F_interpreterref15_Inside6_eq (g : Call) (a0 : LV) : fnEv g c_interpreterref15_Inside6 [a0] none = F_interpreterref15_Inside6 g a0 := by kernel_rfl
noncomputable def F_interpreterref08_Failure (g : Call) (a0 : LV) : Option (LV × Option LV) :=
 bx a0 fun v0 =>
 fA 0 0 v0 fun v2 =>
 l1 z v2 fun v3 =>
 bn .gtr v3 (i 0) fun v4 =>
 tf v4 0 0 v0 fun v6 =>
 tl v4 z v6 fun v7 =>
 tb v4 .lss v7 (i 128) fun v8 =>
 pT v4 v8 fun v9 =>
 pr.fin none z [v9]
theorem F_interpreterref08_Failure_eq (g : Call) (a0 : LV) : fnEv g c_interpreterref08_Failure [a0] none = F_interpreterref08_Failure g a0 := by kernel_rfl
noncomputable def F_interpreterref15_Quote4_k1 (g : Call) (v2D : LV) (v0 : LV) (a1 : LV) (vl : LV) (v0E : LV) (v0Z : LV) :=
 bn .add v2D (i 8192) fun v2I =>
 cl g id_interpreterref15_put z [(i 69), (i 1)] fun v2K =>
 fA 0 0 v0 fun v2L =>
 l1 z v2L fun v2M =>
 cl g id_interpreterref15_put z [v2M, (i 1)] fun v2N =>
 bn .add v2K v2N fun v2O =>
 bn .add (i 20) a1 fun v2Q =>
 cl g id_interpreterref15_put z [v2Q, (i 2)] fun v2R =>
 bn .add v2O v2R fun v2S =>
 cl g id_interpreterref15_put z [(i 0), (i 2)] fun v2U =>
 bn .add v2S v2U fun v2V =>
 cl g id_interpreterref15_put z [v2I, (i 2)] fun v2X =>
 bn .add v2V v2X fun v2Y =>
 fA 2 2 v0 fun v2Z =>
 l1 z v2Z fun v2a =>
 cl g id_interpreterref15_put z [v2a, (i 1)] fun v2b =>
 bn .add v2Y v2b fun v2c =>
 cl g id_interpreterref15_put z [vl, (i 1)] fun v2e =>
 bn .add v2c v2e fun v2f =>
 cl g id_interpreterref15_put z [(i 0), (i 2)] fun v2i =>
 bn .add v2f v2i fun v2j =>
 bn .add v2j v0E fun v2l =>
 cl g id_interpreterref02_Of z [v2l] fun v2m =>
 cl g id_interpreterref15_put z [v2m, (i 2)] fun v2q =>
 bn .add v2f v2q fun v2r =>
 bn .add v2r v0E fun v2t =>
 bn .add v2t v0Z fun v2v =>
 pr.fin none z [v2v, (i 0)]
noncomputable def F_interpreterref15_Quote4_k2 (g : Call) (v0 : LV) (a1 : LV) (v2D : LV) (vl : LV) (v0E : LV) (v0Z : LV) :=
 cl g id_interpreterref15_put z [(i 69), (i 1)] fun v2y =>
 fA 0 0 v0 fun v2z =>
 l1 z v2z fun v30 =>
 cl g id_interpreterref15_put z [v30, (i 1)] fun v31 =>
 bn .add v2y v31 fun v32 =>
 bn .add (i 20) a1 fun v34 =>
 cl g id_interpreterref15_put z [v34, (i 2)] fun v35 =>
 bn .add v32 v35 fun v36 =>
 cl g id_interpreterref15_put z [(i 0), (i 2)] fun v38 =>
 bn .add v36 v38 fun v39 =>
 cl g id_interpreterref15_put z [v2D, (i 2)] fun v3B =>
 bn .add v39 v3B fun v3C =>
 fA 2 2 v0 fun v3D =>
 l1 z v3D fun v3E =>
 cl g id_interpreterref15_put z [v3E, (i 1)] fun v3F =>
 bn .add v3C v3F fun v3G =>
 cl g id_interpreterref15_put z [vl, (i 1)] fun v3I =>
 bn .add v3G v3I fun v3J =>
 cl g id_interpreterref15_put z [(i 0), (i 2)] fun v3M =>
 bn .add v3J v3M fun v3N =>
 bn .add v3N v0E fun v3P =>
 cl g id_interpreterref02_Of z [v3P] fun v3Q =>
 cl g id_interpreterref15_put z [v3Q, (i 2)] fun v3U =>
 bn .add v3J v3U fun v3V =>
 bn .add v3V v0E fun v3X =>
 bn .add v3X v0Z fun v3Z =>
 pr.fin none z [v3Z, (i 0)]
noncomputable def F_interpreterref15_Quote4 (g : Call) (a0 : LV) (a1 : LV) (a2 : LV) (a3 : LV) : Option (LV × Option LV) :=
 bx a0 fun v0 =>
 bx a2 fun v1 =>
 bx a3 fun v2 =>
 fA 0 0 v0 fun v5 =>
 l1 z v5 fun v6 =>
 fA 2 2 v0 fun v7 =>
 l1 z v7 fun v8 =>
 (pr.bsl (i 0) 2 [(0, v6), (1, v8)]).bind fun v9 =>
 cl g id_interpreterref15_bound z [(i 255), v9] fun vA =>
 nt vA fun vB =>
 ff vB 1 4 v1 fun vD =>
 fl vB z vD fun vE =>
 ff vB 1 4 v2 fun vF =>
 fl vB z vF fun vG =>
 gF vB (pr.bsl (i 0) 2 [(0, vE), (1, vG)]) fun vH =>
 gF vB (pr.call g id_interpreterref15_bound z [(i 65535), vH]) fun vI =>
 gF vB (pr.un .not vI) fun vJ =>
 pF vB vJ fun vK =>
 ff vK 8 38 v0 fun vM =>
 fl vK z vM fun vN =>
 gF vK (pr.bsl (i 0) 1 [(0, vN)]) fun vO =>
 gF vK (pr.call g id_interpreterref15_bound z [(i 65528), vO]) fun vP =>
 gF vK (pr.un .not vP) fun vQ =>
 pF vK vQ fun vR =>
 ff vR 8 38 v0 fun vT =>
 fl vR z vT fun vU =>
 fb vR .rem vU (i 8) fun vV =>
 fb vR .neq vV (i 0) fun vW =>
 pF vR vW fun vX =>
 fs vX a1 fun vZ =>
 ff vX 11 41 v0 fun va =>
 fl vX z va fun vb =>
 gF vX (pr.len true vb) fun vc =>
 fb vX .lss vZ vc fun vd =>
 pF vX vd fun ve =>
 condK ve (
 pr.fin none z [(LV.str []), (i 13)]) (
 fA 10 40 v0 fun vh =>
 l1 z vh fun vi =>
 cl g id_interpreterref13_Proto z [vi] fun vj =>
 ex vj 0 fun vl =>
 ex vj 1 fun vm =>
 nt vm fun vq =>
 condK vq (
 pr.fin none z [(LV.str []), (i 10)]) (
 fA 8 38 v0 fun vu =>
 l1 z vu fun vv =>
 bn .sub (i 65515) vv fun vw =>
 bn .gtr a1 vw fun vx =>
 condK vx (
 pr.fin none z [(LV.str []), (i 3)]) (
 fA 3 3 v0 fun v00 =>
 sV 16 z v00 none none fun v01 =>
 bS z v01 fun v02 =>
 fA 4 19 v0 fun v03 =>
 sV 16 z v03 none none fun v04 =>
 bS z v04 fun v05 =>
 bn .add v02 v05 fun v06 =>
 fA 0 0 v1 fun v08 =>
 sV 4 z v08 none none fun v09 =>
 bS z v09 fun v0A =>
 fA 0 0 v2 fun v0B =>
 sV 4 z v0B none none fun v0C =>
 bS z v0C fun v0D =>
 bn .add v0A v0D fun v0E =>
 fA 10 40 v0 fun v0G =>
 l1 z v0G fun v0H =>
 fA 8 38 v0 fun v0I =>
 l1 z v0I fun v0J =>
 fA 11 41 v0 fun v0K =>
 l1 z v0K fun v0L =>
 fA 3 3 v0 fun v0O =>
 lA 16 z v0O fun v0P =>
 fA 4 19 v0 fun v0Q =>
 lA 16 z v0Q fun v0R =>
 cl g id_interpreterref02_Pseudo6 z [v0P, v0R, (i 58), a1] fun v0T =>
 (pr.parts (LV.agg [(i 0), (i 0), (i 0), (i 0)]) [(0, (i 128)), (1, (i 8)), (2, (i 129)), (3, (i 0))]).bind fun v0U =>
 fA 1 4 v1 fun v0V =>
 l1 z v0V fun v0W =>
 fA 1 4 v2 fun v0X =>
 l1 z v0X fun v0Y =>
 cl g id_interpreterref15_turn z [v0H, v0J, (i 58), v0L, v06, v0E, v0T, (LV.str []), v0U, v0W, v0Y] fun v0Z =>
 fA 8 38 v0 fun v0c =>
 l1 z v0c fun v0d =>
 bn .quo v0d (i 8) fun v0e =>
 fA 6 36 v0 fun v0g =>
 l1 z v0g fun v0h =>
 condK v0h (
 fA 7 37 v0 fun v0i =>
 l1 z v0i fun v0j =>
 bn .rem v0j (LV.int .u32 65536) fun v0k =>
 (pr.conv .i64 v0k).bind fun v0l =>
 fA 9 39 v0 fun v0n =>
 l1 z v0n fun v0o =>
 condK v0o (
 bn .add v0e (i 8192) fun v0q =>
 cl g id_interpreterref15_put z [(i 69), (i 1)] fun v0s =>
 fA 0 0 v0 fun v0t =>
 l1 z v0t fun v0u =>
 cl g id_interpreterref15_put z [v0u, (i 1)] fun v0v =>
 bn .add v0s v0v fun v0w =>
 bn .add (i 20) a1 fun v0y =>
 cl g id_interpreterref15_put z [v0y, (i 2)] fun v0z =>
 bn .add v0w v0z fun v10 =>
 cl g id_interpreterref15_put z [v0l, (i 2)] fun v12 =>
 bn .add v10 v12 fun v13 =>
 cl g id_interpreterref15_put z [v0q, (i 2)] fun v15 =>
 bn .add v13 v15 fun v16 =>
 fA 2 2 v0 fun v17 =>
 l1 z v17 fun v18 =>
 cl g id_interpreterref15_put z [v18, (i 1)] fun v19 =>
 bn .add v16 v19 fun v1A =>
 cl g id_interpreterref15_put z [vl, (i 1)] fun v1C =>
 bn .add v1A v1C fun v1D =>
 cl g id_interpreterref15_put z [(i 0), (i 2)] fun v1G =>
 bn .add v1D v1G fun v1H =>
 bn .add v1H v0E fun v1J =>
 cl g id_interpreterref02_Of z [v1J] fun v1K =>
 cl g id_interpreterref15_put z [v1K, (i 2)] fun v1O =>
 bn .add v1D v1O fun v1P =>
 bn .add v1P v0E fun v1R =>
 bn .add v1R v0Z fun v1T =>
 pr.fin none z [v1T, (i 0)]) (
 cl g id_interpreterref15_put z [(i 69), (i 1)] fun v1W =>
 fA 0 0 v0 fun v1X =>
 l1 z v1X fun v1Y =>
 cl g id_interpreterref15_put z [v1Y, (i 1)] fun v1Z =>
 bn .add v1W v1Z fun v1a =>
 bn .add (i 20) a1 fun v1c =>
 cl g id_interpreterref15_put z [v1c, (i 2)] fun v1d =>
 bn .add v1a v1d fun v1e =>
 cl g id_interpreterref15_put z [v0l, (i 2)] fun v1g =>
 bn .add v1e v1g fun v1h =>
 cl g id_interpreterref15_put z [v0e, (i 2)] fun v1j =>
 bn .add v1h v1j fun v1k =>
 fA 2 2 v0 fun v1l =>
 l1 z v1l fun v1m =>
 cl g id_interpreterref15_put z [v1m, (i 1)] fun v1n =>
 bn .add v1k v1n fun v1o =>
 cl g id_interpreterref15_put z [vl, (i 1)] fun v1q =>
 bn .add v1o v1q fun v1r =>
 cl g id_interpreterref15_put z [(i 0), (i 2)] fun v1u =>
 bn .add v1r v1u fun v1v =>
 bn .add v1v v0E fun v1x =>
 cl g id_interpreterref02_Of z [v1x] fun v1y =>
 cl g id_interpreterref15_put z [v1y, (i 2)] fun v22 =>
 bn .add v1r v22 fun v23 =>
 bn .add v23 v0E fun v25 =>
 bn .add v25 v0Z fun v27 =>
 pr.fin none z [v27, (i 0)])) (
 bn .gtr a1 (i 1240) fun v2B =>
 condK v2B (
 bn .add v0e (i 16384) fun v2D =>
 fA 9 39 v0 fun v2F =>
 l1 z v2F fun v2G =>
 condK v2G (F_interpreterref15_Quote4_k1 g v2D v0 a1 vl v0E v0Z) (F_interpreterref15_Quote4_k2 g v0 a1 v2D vl v0E v0Z)) (
 fA 9 39 v0 fun v3c =>
 l1 z v3c fun v3d =>
 condK v3d (F_interpreterref15_Quote4_k1 g v0e v0 a1 vl v0E v0Z) (F_interpreterref15_Quote4_k2 g v0 a1 v0e vl v0E v0Z))))))
theorem F_interpreterref15_Quote4_eq (g : Call) (a0 : LV) (a1 : LV) (a2 : LV) (a3 : LV) : fnEv g c_interpreterref15_Quote4 [a0, a1, a2, a3] none = F_interpreterref15_Quote4 g a0 a1 a2 a3 := by kernel_rfl
noncomputable def F_interpreterref14_To4_k3 (g : Call) (v0 : LV) (v1 : LV × Slots) :=
 (pr.conv .u32 (i 65535)).bind fun vh =>
 fA 3 3 v0 fun vi =>
 l1 v1.2 vi fun vj =>
 (pr.parts (LV.agg [(i 0), (i 0), (LV.int .u32 0), (LV.str [])]) [(0, (i 3)), (1, (i 4)), (2, vh), (3, vj)]).bind fun vk =>
 sA 4 v1.2 v1.1 vk fun vl =>
 lA 4 vl.2 v1.1 fun vn =>
 pr.fin none vl.2 [vn, (LV.bool true)]
noncomputable def F_interpreterref14_To4_k4 (g : Call) (v0 : LV) (v1 : LV × Slots) :=
 bn .gtr (i 68) (i 65535) fun ve =>
 condK ve (F_interpreterref14_To4_k3 g v0 v1) (
 (pr.conv .u32 (i 68)).bind fun vp =>
 fA 3 3 v0 fun vq =>
 l1 v1.2 vq fun vr =>
 (pr.parts (LV.agg [(i 0), (i 0), (LV.int .u32 0), (LV.str [])]) [(0, (i 3)), (1, (i 4)), (2, vp), (3, vr)]).bind fun vs =>
 sA 4 v1.2 v1.1 vs fun vt =>
 lA 4 vt.2 v1.1 fun vv =>
 pr.fin none vt.2 [vv, (LV.bool true)])
noncomputable def F_interpreterref14_To4_k5 (g : Call) (vY : LV) (v0 : LV) (v1 : LV × Slots) :=
 bn .gtr vY (i 65535) fun vx =>
 condK vx (F_interpreterref14_To4_k3 g v0 v1) (
 (pr.conv .u32 vY).bind fun v08 =>
 fA 3 3 v0 fun v09 =>
 l1 v1.2 v09 fun v0A =>
 (pr.parts (LV.agg [(i 0), (i 0), (LV.int .u32 0), (LV.str [])]) [(0, (i 3)), (1, (i 4)), (2, v08), (3, v0A)]).bind fun v0B =>
 sA 4 v1.2 v1.1 v0B fun v0C =>
 lA 4 v0C.2 v1.1 fun v0E =>
 pr.fin none v0C.2 [v0E, (LV.bool true)])
noncomputable def F_interpreterref14_To4_k1 (g : Call) (a2 : LV) (a1 : LV) (v0 : LV) (v1 : LV × Slots) :=
 bn .sub a2 (i 20) fun vV =>
 bn .gtr a1 vV fun vW =>
 condK vW (
 bn .sub a2 (i 20) fun vY =>
 bn .lss vY (i 68) fun vb =>
 condK vb (F_interpreterref14_To4_k4 g v0 v1) (F_interpreterref14_To4_k5 g vY v0 v1)) (
 bn .lss a1 (i 68) fun v0G =>
 condK v0G (F_interpreterref14_To4_k4 g v0 v1) (F_interpreterref14_To4_k5 g a1 v0 v1))
noncomputable def F_interpreterref14_To4_k2 (g : Call) (v1 : LV × Slots) :=
 (pr.parts (LV.agg [(i 0), (i 0), (LV.int .u32 0), (LV.str [])]) []).bind fun v7 =>
 sA 4 v1.2 v1.1 v7 fun v8 =>
 lA 4 v8.2 v1.1 fun vA =>
 pr.fin none v8.2 [vA, (LV.bool false)]
noncomputable def F_interpreterref14_To4 (g : Call) (a0 : LV) (a1 : LV) (a2 : LV) : Option (LV × Option LV) :=
 bx a0 fun v0 =>
 (pr.alloc (LV.agg [(i 0), (i 0), (LV.int .u32 0), (LV.str [])]) 6 z).bind fun v1 =>
 cl g id_interpreterref14_bounds v1.2 [a1, a2] fun v5 =>
 nt v5 fun v6 =>
 condK v6 (F_interpreterref14_To4_k2 g v1) (
 fA 0 0 v0 fun vB =>
 l1 v1.2 vB fun vC =>
 bn .eql vC (i 2) fun vD =>
 tf vD 1 1 v0 fun vF =>
 tl vD v1.2 vF fun vG =>
 tb vD .eql vG (i 0) fun vH =>
 pT vD vH fun vI =>
 condK vI (
 fA 2 2 v0 fun vJ =>
 l1 v1.2 vJ fun vK =>
 (pr.conv .i64 vK).bind fun vL =>
 bn .sub vL (i 20) fun vM =>
 bn .gtr vM a1 fun vQ =>
 condK vQ (F_interpreterref14_To4_k1 g a2 a1 v0 v1) (F_interpreterref14_To4_k1 g a2 vM v0 v1)) (
 fA 0 0 v0 fun v2L =>
 l1 v1.2 v2L fun v2M =>
 bn .eql v2M (i 4) fun v2N =>
 tf v2N 1 1 v0 fun v2P =>
 tl v2N v1.2 v2P fun v2Q =>
 tb v2N .eql v2Q (i 0) fun v2R =>
 pT v2N v2R fun v2S =>
 condK v2S (
 fA 2 2 v0 fun v2U =>
 l1 v1.2 v2U fun v2V =>
 bn .leq v2V (LV.int .u32 1) fun v2W =>
 condK v2W (
 fA 2 2 v0 fun v2X =>
 l1 v1.2 v2X fun v2Y =>
 (pr.conv .i64 v2Y).bind fun v2Z =>
 bn .lss v2Z (i 0) fun v2c =>
 condK v2c (F_interpreterref14_To4_k2 g v1) (
 (pr.conv .u32 v2Z).bind fun v2i =>
 bn .mul v2i (LV.int .u32 16777216) fun v2j =>
 fA 3 3 v0 fun v2k =>
 l1 v1.2 v2k fun v2l =>
 (pr.parts (LV.agg [(i 0), (i 0), (LV.int .u32 0), (LV.str [])]) [(0, (i 12)), (2, v2j), (3, v2l)]).bind fun v2m =>
 sA 4 v1.2 v1.1 v2m fun v2n =>
 lA 4 v2n.2 v1.1 fun v2p =>
 pr.fin none v2n.2 [v2p, (LV.bool true)])) (
 fA 2 2 v0 fun v2q =>
 l1 v1.2 v2q fun v2r =>
 bn .eql v2r (LV.int .u32 4) fun v2s =>
 ff v2s 2 2 v0 fun v2u =>
 fl v2s v1.2 v2u fun v2v =>
 fb v2s .eql v2v (LV.int .u32 5) fun v2w =>
 pF v2s v2w fun v2x =>
 condK v2x (
 bn .lss (i 2) (i 0) fun v30 =>
 condK v30 (F_interpreterref14_To4_k2 g v1) (
 (pr.conv .u32 (i 2)).bind fun v36 =>
 bn .mul v36 (LV.int .u32 16777216) fun v37 =>
 fA 3 3 v0 fun v38 =>
 l1 v1.2 v38 fun v39 =>
 (pr.parts (LV.agg [(i 0), (i 0), (LV.int .u32 0), (LV.str [])]) [(0, (i 12)), (2, v37), (3, v39)]).bind fun v3A =>
 sA 4 v1.2 v1.1 v3A fun v3B =>
 lA 4 v3B.2 v1.1 fun v3D =>
 pr.fin none v3B.2 [v3D, (LV.bool true)])) (
 fA 2 2 v0 fun v3E =>
 l1 v1.2 v3E fun v3F =>
 bn .eql v3F (LV.int .u32 6) fun v3G =>
 condK v3G (
 bn .lss (i 9) (i 0) fun v3J =>
 condK v3J (F_interpreterref14_To4_k2 g v1) (
 (pr.conv .u32 (i 9)).bind fun v3P =>
 bn .mul v3P (LV.int .u32 16777216) fun v3Q =>
 fA 3 3 v0 fun v3R =>
 l1 v1.2 v3R fun v3S =>
 (pr.parts (LV.agg [(i 0), (i 0), (LV.int .u32 0), (LV.str [])]) [(0, (i 12)), (2, v3Q), (3, v3S)]).bind fun v3T =>
 sA 4 v1.2 v1.1 v3T fun v3U =>
 lA 4 v3U.2 v1.1 fun v3W =>
 pr.fin none v3U.2 [v3W, (LV.bool true)])) (
 fA 2 2 v0 fun v3X =>
 l1 v1.2 v3X fun v3Y =>
 bn .eql v3Y (LV.int .u32 7) fun v3Z =>
 condK v3Z (
 bn .lss (i 8) (i 0) fun v3c =>
 condK v3c (F_interpreterref14_To4_k2 g v1) (
 (pr.conv .u32 (i 8)).bind fun v3i =>
 bn .mul v3i (LV.int .u32 16777216) fun v3j =>
 fA 3 3 v0 fun v3k =>
 l1 v1.2 v3k fun v3l =>
 (pr.parts (LV.agg [(i 0), (i 0), (LV.int .u32 0), (LV.str [])]) [(0, (i 12)), (2, v3j), (3, v3l)]).bind fun v3m =>
 sA 4 v1.2 v1.1 v3m fun v3n =>
 lA 4 v3n.2 v1.1 fun v3p =>
 pr.fin none v3n.2 [v3p, (LV.bool true)])) (
 fA 2 2 v0 fun v3q =>
 l1 v1.2 v3q fun v3r =>
 bn .geq v3r (LV.int .u32 8) fun v3s =>
 tf v3s 2 2 v0 fun v3u =>
 tl v3s v1.2 v3u fun v3v =>
 tb v3s .lss v3v (LV.int .u32 24) fun v3w =>
 pT v3s v3w fun v3x =>
 condK v3x (
 bn .lss (i 12) (i 0) fun v40 =>
 condK v40 (F_interpreterref14_To4_k2 g v1) (
 (pr.conv .u32 (i 12)).bind fun v46 =>
 bn .mul v46 (LV.int .u32 16777216) fun v47 =>
 fA 3 3 v0 fun v48 =>
 l1 v1.2 v48 fun v49 =>
 (pr.parts (LV.agg [(i 0), (i 0), (LV.int .u32 0), (LV.str [])]) [(0, (i 12)), (2, v47), (3, v49)]).bind fun v4A =>
 sA 4 v1.2 v1.1 v4A fun v4B =>
 lA 4 v4B.2 v1.1 fun v4D =>
 pr.fin none v4B.2 [v4D, (LV.bool true)])) (
 fA 2 2 v0 fun v4E =>
 l1 v1.2 v4E fun v4F =>
 bn .geq v4F (LV.int .u32 24) fun v4G =>
 tf v4G 2 2 v0 fun v4I =>
 tl v4G v1.2 v4I fun v4J =>
 tb v4G .lss v4J (LV.int .u32 40) fun v4K =>
 pT v4G v4K fun v4L =>
 condK v4L (
 bn .lss (i 16) (i 0) fun v4O =>
 condK v4O (F_interpreterref14_To4_k2 g v1) (
 (pr.conv .u32 (i 16)).bind fun v4U =>
 bn .mul v4U (LV.int .u32 16777216) fun v4V =>
 fA 3 3 v0 fun v4W =>
 l1 v1.2 v4W fun v4X =>
 (pr.parts (LV.agg [(i 0), (i 0), (LV.int .u32 0), (LV.str [])]) [(0, (i 12)), (2, v4V), (3, v4X)]).bind fun v4Y =>
 sA 4 v1.2 v1.1 v4Y fun v4Z =>
 lA 4 v4Z.2 v1.1 fun v4b =>
 pr.fin none v4Z.2 [v4b, (LV.bool true)])) (
 bn .lss (i (-1)) (i 0) fun v4d =>
 condK v4d (F_interpreterref14_To4_k2 g v1) (
 (pr.conv .u32 (i (-1))).bind fun v4j =>
 bn .mul v4j (LV.int .u32 16777216) fun v4k =>
 fA 3 3 v0 fun v4l =>
 l1 v1.2 v4l fun v4m =>
 (pr.parts (LV.agg [(i 0), (i 0), (LV.int .u32 0), (LV.str [])]) [(0, (i 12)), (2, v4k), (3, v4m)]).bind fun v4n =>
 sA 4 v1.2 v1.1 v4n fun v4o =>
 lA 4 v4o.2 v1.1 fun v4q =>
 pr.fin none v4o.2 [v4q, (LV.bool true)])))))))) (
 fA 2 2 v0 fun v4r =>
 l1 v1.2 v4r fun v4s =>
 (pr.conv .i64 v4s).bind fun v4t =>
 (pr.parts (LV.agg [(i 0), (i 0), (i 0), (i 0), (i 0)]) [(0, (i 128)), (1, (i 0)), (2, (i 8)), (3, (i 0)), (4, v4t)]).bind fun v4w =>
 (pr.parts (LV.agg [(i 0), (i 0), (i 0), (i 0), (i 0)]) [(0, (i 129)), (1, (i 0)), (2, (i 0)), (3, (i 0)), (4, v4t)]).bind fun v4y =>
 (pr.parts (LV.agg [(i 0), (i 0), (i 0), (i 0), (i 0)]) [(0, (i 1)), (1, (i 0)), (2, (i 3)), (3, (i 1)), (4, (i 0))]).bind fun v4z =>
 (pr.parts (LV.agg [(i 0), (i 0), (i 0), (i 0), (i 0)]) [(0, (i 1)), (1, (i 2)), (2, (i 3)), (3, (i 1)), (4, (i 0))]).bind fun v50 =>
 (pr.parts (LV.agg [(i 0), (i 0), (i 0), (i 0), (i 0)]) [(0, (i 1)), (1, (i 3)), (2, (i 3)), (3, (i 1)), (4, (i 0))]).bind fun v51 =>
 (pr.parts (LV.agg [(i 0), (i 0), (i 0), (i 0), (i 0)]) [(0, (i 1)), (1, (i 1)), (2, (i 3)), (3, (i 10)), (4, (i 0))]).bind fun v52 =>
 (pr.parts (LV.agg [(i 0), (i 0), (i 0), (i 0), (i 0)]) [(0, (i 1)), (1, (i 4)), (2, (i 3)), (3, (i 3)), (4, (i 0))]).bind fun v53 =>
 (pr.parts (LV.agg [(i 0), (i 0), (i 0), (i 0), (i 0)]) [(0, (i 3)), (1, (i 0)), (2, (i 11)), (3, (i 0)), (4, (i 0))]).bind fun v54 =>
 (pr.parts (LV.agg [(i 0), (i 0), (i 0), (i 0), (i 0)]) [(0, (i 3)), (1, (i 1)), (2, (i 11)), (3, (i 1)), (4, (i 0))]).bind fun v55 =>
 (pr.parts (LV.agg [(i 0), (i 0), (i 0), (i 0), (i 0)]) [(0, (i 4)), (1, (i 1)), (2, (i 3)), (3, (i 2)), (4, (i 0))]).bind fun v56 =>
 (pr.bsl (LV.agg [(i 0), (i 0), (i 0), (i 0), (i 0)]) 10 [(0, v4w), (1, v4y), (2, v4z), (3, v50), (4, v51), (5, v52), (6, v53), (7, v54), (8, v55), (9, v56)]).bind fun v57 =>
 lA 4 v1.2 v0 fun v58 =>
 cl g id_interpreterref14_find v1.2 [v57, v58] fun v59 =>
 ex v59 0 fun v5B =>
 ex v59 1 fun v5C =>
 (pr.alloc (LV.agg [(i 0), (i 0), (i 0), (i 0), (i 0)]) 11 v1.2).bind fun v5D =>
 sA 5 v5D.2 v5D.1 v5B fun v5E =>
 nt v5C fun v5H =>
 condK v5H (
 (pr.parts (LV.agg [(i 0), (i 0), (LV.int .u32 0), (LV.str [])]) []).bind fun v5I =>
 sA 4 v5E.2 v1.1 v5I fun v5J =>
 lA 4 v5J.2 v1.1 fun v5L =>
 pr.fin none v5J.2 [v5L, (LV.bool false)]) (
 fA 2 2 v5D.1 fun v5M =>
 l1 v5E.2 v5M fun v5N =>
 fA 3 3 v5D.1 fun v5O =>
 l1 v5E.2 v5O fun v5P =>
 fA 4 4 v5D.1 fun v5Q =>
 l1 v5E.2 v5Q fun v5R =>
 (pr.conv .u32 v5R).bind fun v5S =>
 fA 3 3 v0 fun v5T =>
 l1 v5E.2 v5T fun v5U =>
 (pr.parts (LV.agg [(i 0), (i 0), (LV.int .u32 0), (LV.str [])]) [(0, v5N), (1, v5P), (2, v5S), (3, v5U)]).bind fun v5V =>
 sA 4 v5E.2 v1.1 v5V fun v5W =>
 lA 4 v5W.2 v1.1 fun v5Y =>
 pr.fin none v5W.2 [v5Y, (LV.bool true)]))))
theorem F_interpreterref14_To4_eq (g : Call) (a0 : LV) (a1 : LV) (a2 : LV) : fnEv g c_interpreterref14_To4 [a0, a1, a2] none = F_interpreterref14_To4 g a0 a1 a2 := by kernel_rfl
noncomputable def F_interpreterref03_Why (g : Call) (a0 : LV) : Option (LV × Option LV) :=
 bx a0 fun v0 =>
 fA 0 0 v0 fun v2 =>
 l1 z v2 fun v3 =>
 cl g id_interpreterref03_within z [v3, (i 255)] fun v4 =>
 nt v4 fun v5 =>
 ff v5 2 2 v0 fun v7 =>
 fl v5 z v7 fun v8 =>
 gF v5 (pr.call g id_interpreterref03_within z [v8, (i 255)]) fun v9 =>
 gF v5 (pr.un .not v9) fun vA =>
 pF v5 vA fun vB =>
 ff vB 3 3 v0 fun vD =>
 fl vB z vD fun vE =>
 gF vB (pr.call g id_interpreterref03_within z [vE, (i 255)]) fun vF =>
 gF vB (pr.un .not vF) fun vG =>
 pF vB vG fun vH =>
 ff vH 1 1 v0 fun vJ =>
 fl vH z vJ fun vK =>
 gF vH (pr.call g id_interpreterref03_within z [vK, (i 65535)]) fun vL =>
 gF vH (pr.un .not vL) fun vM =>
 pF vH vM fun vN =>
 ff vN 4 4 v0 fun vP =>
 fl vN z vP fun vQ =>
 gF vN (pr.call g id_interpreterref03_within z [vQ, (i 65528)]) fun vR =>
 gF vN (pr.un .not vR) fun vS =>
 pF vN vS fun vT =>
 ff vT 4 4 v0 fun vV =>
 fl vT z vV fun vW =>
 fb vT .rem vW (i 8) fun vX =>
 fb vT .neq vX (i 0) fun vY =>
 pF vT vY fun vZ =>
 condK vZ (
 pr.fin none z [(i 13)]) (
 fA 9 15 v0 fun vb =>
 l1 z vb fun vc =>
 ln vc fun vd =>
 bn .gtr vd (i 40) fun ve =>
 ff ve 9 15 v0 fun vg =>
 fl ve z vg fun vh =>
 gF ve (pr.len true vh) fun vi =>
 fb ve .rem vi (i 4) fun vj =>
 fb ve .neq vj (i 0) fun vk =>
 pF ve vk fun vl =>
 condK vl (
 pr.fin none z [(i 8)]) (
 fA 6 6 v0 fun vn =>
 l1 z vn fun vo =>
 tf vo 10 16 v0 fun vq =>
 tl vo z vq fun vr =>
 gT vo (pr.len true vr) fun vs =>
 tb vo .eql vs (i 0) fun vt =>
 ts vo vt fun vu =>
 ff vu 10 16 v0 fun vv =>
 fl vu z vv fun vw =>
 gF vu (pr.len true vw) fun vx =>
 fb vu .rem vx (i 8) fun vy =>
 fb vu .neq vy (i 0) fun vz =>
 gT vo (pr.pick vu (LV.bool true) vz) fun v00 =>
 pT vo v00 fun v01 =>
 condK v01 (
 pr.fin none z [(i 8)]) (
 fA 9 15 v0 fun v03 =>
 l1 z v03 fun v04 =>
 ln v04 fun v05 =>
 bn .add (i 20) v05 fun v06 =>
 fA 4 4 v0 fun v07 =>
 l1 z v07 fun v08 =>
 bn .add v06 v08 fun v09 =>
 fA 10 16 v0 fun v0A =>
 l1 z v0A fun v0B =>
 ln v0B fun v0C =>
 bn .add v09 v0C fun v0D =>
 bn .gtr v0D (i 65535) fun v0E =>
 condK v0E (
 pr.fin none z [(i 3)]) (
 pr.fin none z [(i 0)]))))
theorem F_interpreterref03_Why_eq (g : Call) (a0 : LV) : fnEv g c_interpreterref03_Why [a0] none = F_interpreterref03_Why g a0 := by kernel_rfl
noncomputable def F_interpreterref02_Of (g : Call) (a0 : LV) : Option (LV × Option LV) :=
 cl g id_interpreterref02_Words z [a0] fun v2 =>
 cl g id_interpreterref02_Total z [v2] fun v3 =>
 bn .sub (i 65535) v3 fun v4 =>
 pr.fin none z [v4]
theorem F_interpreterref02_Of_eq (g : Call) (a0 : LV) : fnEv g c_interpreterref02_Of [a0] none = F_interpreterref02_Of g a0 := by kernel_rfl
noncomputable def F_ip4_Parse (g : Call) (a0 : LV) : Option (LV × Option LV) :=
 bx a0 fun v0 =>
 (pr.alloc (LV.agg [(i 0), (i 0), (i 0), (i 0), (i 0), (LV.bool false), (LV.bool false), (LV.bytes [0, 0, 0, 0]), (LV.bytes [0, 0, 0, 0]), (LV.str []), (LV.str [])]) 2 z).bind fun v1 =>
 (pr.alloc (LV.agg [(i 0), (i 0), (i 0), (i 0), (i 0), (LV.bool false), (LV.bool false), (LV.bytes [0, 0, 0, 0]), (LV.bytes [0, 0, 0, 0]), (LV.str []), (LV.str [])]) 4 v1.2).bind fun v3 =>
 l1 v3.2 v0 fun v4 =>
 ln v4 fun v5 =>
 bn .lss v5 (i 20) fun v6 =>
 condK v6 (
 lA 17 v3.2 v3.1 fun v7 =>
 cl g id_ip4_fault v3.2 [(i 7)] fun v8 =>
 sA 17 v3.2 v1.1 v7 fun v9 =>
 lA 17 v9.2 v1.1 fun vB =>
 pr.fin none v9.2 [vB, v8]) (
 l1 v3.2 v0 fun vC =>
 xS vC (i 0) fun vD =>
 bn .and vD (LV.int .u8 15) fun vE =>
 (pr.conv .i64 vE).bind fun vF =>
 bn .mul vF (i 4) fun vG =>
 l1 v3.2 v0 fun vI =>
 xS vI (i 0) fun vJ =>
 bn .shr vJ (LV.int .u64 4) fun vK =>
 bn .neq vK (LV.int .u8 4) fun vL =>
 fs vL vG fun vN =>
 fb vL .lss vN (i 20) fun vO =>
 pF vL vO fun vP =>
 condK vP (
 lA 17 v3.2 v3.1 fun vR =>
 cl g id_ip4_fault v3.2 [(i 8)] fun vS =>
 sA 17 v3.2 v1.1 vR fun vT =>
 lA 17 vT.2 v1.1 fun vV =>
 pr.fin none vT.2 [vV, vS]) (
 l1 v3.2 v0 fun vW =>
 ln vW fun vX =>
 bn .lss vX vG fun vZ =>
 condK vZ (
 lA 17 v3.2 v3.1 fun vb =>
 cl g id_ip4_fault v3.2 [(i 7)] fun vc =>
 sA 17 v3.2 v1.1 vb fun vd =>
 lA 17 vd.2 v1.1 fun vf =>
 pr.fin none vd.2 [vf, vc]) (
 l1 v3.2 v0 fun vg =>
 sl vg none (some vG) fun vi =>
 (pr.bsl (LV.str []) 1 [(0, vi)]).bind fun vj =>
 cl g id_sum_Right v3.2 [vj] fun vk =>
 nt vk fun vl =>
 condK vl (
 lA 17 v3.2 v3.1 fun vn =>
 cl g id_ip4_fault v3.2 [(i 9)] fun vo =>
 sA 17 v3.2 v1.1 vn fun vp =>
 lA 17 vp.2 v1.1 fun vr =>
 pr.fin none vp.2 [vr, vo]) (
 (pr.mkFunc id_ip4_Parse_1 [v0]).bind fun vs =>
 (pr.callv g v3.2 vs [(i 2)]).bind fun vv =>
 (pr.callv g v3.2 vs [(i 6)]).bind fun vx =>
 bn .lss vv vG fun v02 =>
 condK v02 (
 lA 17 v3.2 v3.1 fun v04 =>
 cl g id_ip4_fault v3.2 [(i 8)] fun v05 =>
 sA 17 v3.2 v1.1 v04 fun v06 =>
 lA 17 v06.2 v1.1 fun v08 =>
 pr.fin none v06.2 [v08, v05]) (
 l1 v3.2 v0 fun v09 =>
 ln v09 fun v0A =>
 bn .lss v0A vv fun v0C =>
 condK v0C (
 lA 17 v3.2 v3.1 fun v0E =>
 cl g id_ip4_fault v3.2 [(i 7)] fun v0F =>
 sA 17 v3.2 v1.1 v0E fun v0G =>
 lA 17 v0G.2 v1.1 fun v0I =>
 pr.fin none v0G.2 [v0I, v0F]) (
 l1 v3.2 v0 fun v0J =>
 xS v0J (i 1) fun v0K =>
 (pr.conv .i64 v0K).bind fun v0L =>
 (pr.callv g v3.2 vs [(i 4)]).bind fun v0N =>
 l1 v3.2 v0 fun v0O =>
 xS v0O (i 8) fun v0P =>
 (pr.conv .i64 v0P).bind fun v0Q =>
 l1 v3.2 v0 fun v0R =>
 xS v0R (i 9) fun v0S =>
 (pr.conv .i64 v0S).bind fun v0T =>
 bn .and vx (i 8191) fun v0V =>
 bn .mul v0V (i 8) fun v0W =>
 bn .and vx (i 16384) fun v0Y =>
 bn .neq v0Y (i 0) fun v0Z =>
 bn .and vx (i 8192) fun v0b =>
 bn .neq v0b (i 0) fun v0c =>
 l1 v3.2 v0 fun v0d =>
 sl v0d (some (i 20)) (some vG) fun v0f =>
 l1 v3.2 v0 fun v0g =>
 sl v0g (some vG) (some vv) fun v0j =>
 (pr.parts (LV.agg [(i 0), (i 0), (i 0), (i 0), (i 0), (LV.bool false), (LV.bool false), (LV.bytes [0, 0, 0, 0]), (LV.bytes [0, 0, 0, 0]), (LV.str []), (LV.str [])]) [(0, v0L), (1, v0N), (2, v0Q), (3, v0T), (4, v0W), (5, v0Z), (6, v0c), (9, v0f), (10, v0j)]).bind fun v0k =>
 (pr.alloc (LV.agg [(i 0), (i 0), (i 0), (i 0), (i 0), (LV.bool false), (LV.bool false), (LV.bytes [0, 0, 0, 0]), (LV.bytes [0, 0, 0, 0]), (LV.str []), (LV.str [])]) 9 v3.2).bind fun v0l =>
 sA 17 v0l.2 v0l.1 v0k fun v0m =>
 fA 7 7 v0l.1 fun v0n =>
 sV 4 v0m.2 v0n none none fun v0o =>
 l1 v0m.2 v0 fun v0p =>
 sl v0p (some (i 12)) none fun v0q =>
 (pr.copy v0m.2 v0o v0q).bind fun v0r =>
 fA 8 11 v0l.1 fun v0s =>
 sV 4 v0r.2 v0s none none fun v0t =>
 l1 v0r.2 v0 fun v0u =>
 sl v0u (some (i 16)) none fun v0v =>
 (pr.copy v0r.2 v0t v0v).bind fun v0w =>
 bn .and vx (i 32768) fun v0y =>
 bn .neq v0y (i 0) fun v0z =>
 gF v0z (pr.load 17 true v0w.2 v0l.1) fun v11 =>
 gF v0z (pr.call g id_ip4_why v0w.2 [v11]) fun v12 =>
 fb v0z .neq v12 (i 0) fun v13 =>
 pF v0z v13 fun v14 =>
 condK v14 (
 lA 17 v0w.2 v3.1 fun v15 =>
 cl g id_ip4_fault v0w.2 [(i 8)] fun v16 =>
 sA 17 v0w.2 v1.1 v15 fun v17 =>
 lA 17 v17.2 v1.1 fun v19 =>
 pr.fin none v17.2 [v19, v16]) (
 lA 17 v0w.2 v0l.1 fun v1A =>
 sA 17 v0w.2 v1.1 v1A fun v1B =>
 lA 17 v1B.2 v1.1 fun v1D =>
 pr.fin none v1B.2 [v1D, LV.nili])))))))
theorem F_ip4_Parse_eq (g : Call) (a0 : LV) : fnEv g c_ip4_Parse [a0] none = F_ip4_Parse g a0 := by kernel_rfl
noncomputable def F_class_Martian4 (g : Call) (a0 : LV) : Option (LV × Option LV) :=
 bx a0 fun v0 =>
 (pr.idxAddr (some 4) 1 v0 (i 0)).bind fun v2 =>
 l1 z v2 fun v3 =>
 bn .eql v3 (LV.int .u8 0) fun v4 =>
 gF v4 (pr.idxAddr (some 4) 1 v0 (i 0)) fun v6 =>
 fl v4 z v6 fun v7 =>
 fb v4 .eql v7 (LV.int .u8 127) fun v8 =>
 pF v4 v8 fun v9 =>
 gF v9 (pr.idxAddr (some 4) 1 v0 (i 0)) fun vB =>
 fl v9 z vB fun vC =>
 fb v9 .geq vC (LV.int .u8 224) fun vD =>
 pF v9 vD fun vE =>
 gF vE (pr.idxAddr (some 4) 1 v0 (i 0)) fun vG =>
 fl vE z vG fun vH =>
 fb vE .eql vH (LV.int .u8 169) fun vI =>
 fs vE vI fun vJ =>
 gT vJ (pr.idxAddr (some 4) 1 v0 (i 1)) fun vK =>
 tl vJ z vK fun vL =>
 tb vJ .eql vL (LV.int .u8 254) fun vM =>
 gF vE (pr.pick vJ vM (LV.bool false)) fun vN =>
 pF vE vN fun vO =>
 pr.fin none z [vO]
theorem F_class_Martian4_eq (g : Call) (a0 : LV) : fnEv g c_class_Martian4 [a0] none = F_class_Martian4 g a0 := by kernel_rfl
noncomputable def F_fault_beginning (g : Call) (a0 : LV) (a1 : LV) (a2 : LV) : Option (LV × Option LV) :=
 ln a0 fun v3 =>
 (pr.minmax false v3 [a2]).bind fun v5 =>
 (pr.minmax true v5 [(i 0)]).bind fun v9 =>
 sl a0 none (some v9) fun vA =>
 bn .add a1 (i 8) fun vD =>
 ln a0 fun vF =>
 (pr.minmax false vD [vF]).bind fun vG =>
 bn .geq v5 vG fun vH =>
 pr.fin none z [vA, vH]
theorem F_fault_beginning_eq (g : Call) (a0 : LV) (a1 : LV) (a2 : LV) : fnEv g c_fault_beginning [a0, a1, a2] none = F_fault_beginning g a0 a1 a2 := by kernel_rfl
noncomputable def F_icmp4_Bytes (g : Call) (a0 : LV) : Option (LV × Option LV) :=
 bx a0 fun v0 =>
 fA 0 0 v0 fun v3 =>
 l1 z v3 fun v4 =>
 cl g id_num_Big z [v4, (i 1)] fun v5 =>
 ex v5 0 fun v7 =>
 ex v5 1 fun v8 =>
 eN 1 true v8 fun vC =>
 condK vC (
 pr.fin none z [(LV.str []), v8]) (
 fA 1 1 v0 fun vG =>
 l1 z vG fun vH =>
 cl g id_num_Big z [vH, (i 1)] fun vI =>
 ex vI 0 fun vK =>
 ex vI 1 fun vL =>
 eN 1 true vL fun vP =>
 condK vP (
 pr.fin none z [(LV.str []), vL]) (
 fA 2 2 v0 fun vT =>
 l1 z vT fun vU =>
 (pr.conv .i64 vU).bind fun vV =>
 cl g id_num_Big z [vV, (i 4)] fun vW =>
 ex vW 0 fun vY =>
 ex vW 1 fun vZ =>
 eN 1 true vZ fun vd =>
 condK vd (
 pr.fin none z [(LV.str []), vZ]) (
 fA 3 3 v0 fun vk =>
 l1 z vk fun vl =>
 (pr.bsl (LV.str []) 5 [(0, v7), (1, vK), (2, (LV.str [0, 0])), (3, vY), (4, vl)]).bind fun vm =>
 cl g id_sum_Of z [vm] fun vn =>
 cl g id_num_Big z [vn, (i 2)] fun vo =>
 ex vo 0 fun vq =>
 ex vo 1 fun vr =>
 bn .add v7 vK fun vw =>
 bn .add vw vq fun vy =>
 bn .add vy vY fun v00 =>
 fA 3 3 v0 fun v01 =>
 l1 z v01 fun v02 =>
 bn .add v00 v02 fun v03 =>
 pr.fin none z [v03, vr])))
theorem F_icmp4_Bytes_eq (g : Call) (a0 : LV) : fnEv g c_icmp4_Bytes [a0] none = F_icmp4_Bytes g a0 := by kernel_rfl
noncomputable def F_ip4_Bytes_k1 (g : Call) (v0 : LV) (vJ : LV) :=
 fA 9 15 v0 fun v0P =>
 l1 z v0P fun v0Q =>
 ln v0Q fun v0R =>
 bn .add (i 20) v0R fun v0S =>
 bn .quo v0S (i 4) fun v0V =>
 bn .add (i 64) v0V fun v0W =>
 cl g id_ip4_big z [v0W, (i 1)] fun v0X =>
 fA 0 0 v0 fun v0Y =>
 l1 z v0Y fun v0Z =>
 cl g id_ip4_big z [v0Z, (i 1)] fun v0a =>
 bn .add v0X v0a fun v0b =>
 fA 10 16 v0 fun v0d =>
 l1 z v0d fun v0e =>
 ln v0e fun v0f =>
 bn .add v0S v0f fun v0g =>
 cl g id_ip4_big z [v0g, (i 2)] fun v0h =>
 bn .add v0b v0h fun v0i =>
 fA 1 1 v0 fun v0j =>
 l1 z v0j fun v0k =>
 cl g id_ip4_big z [v0k, (i 2)] fun v0l =>
 bn .add v0i v0l fun v0m =>
 cl g id_ip4_big z [vJ, (i 2)] fun v0o =>
 bn .add v0m v0o fun v0p =>
 fA 2 2 v0 fun v0q =>
 l1 z v0q fun v0r =>
 cl g id_ip4_big z [v0r, (i 1)] fun v0s =>
 bn .add v0p v0s fun v0t =>
 fA 3 3 v0 fun v0u =>
 l1 z v0u fun v0v =>
 cl g id_ip4_big z [v0v, (i 1)] fun v0w =>
 bn .add v0t v0w fun v0x =>
 fA 7 7 v0 fun v0z =>
 sV 4 z v0z none none fun v10 =>
 bS z v10 fun v11 =>
 fA 8 11 v0 fun v12 =>
 sV 4 z v12 none none fun v13 =>
 bS z v13 fun v14 =>
 bn .add v11 v14 fun v15 =>
 fA 9 15 v0 fun v16 =>
 l1 z v16 fun v17 =>
 bn .add v15 v17 fun v18 =>
 (pr.bsl (LV.str []) 2 [(0, v0x), (1, v18)]).bind fun v1D =>
 cl g id_sum_Of z [v1D] fun v1E =>
 cl g id_ip4_big z [v1E, (i 2)] fun v1F =>
 bn .add v0x v1F fun v1G =>
 bn .add v1G v18 fun v1I =>
 fA 10 16 v0 fun v1J =>
 l1 z v1J fun v1K =>
 bn .add v1I v1K fun v1L =>
 pr.fin none z [v1L, LV.nili]
noncomputable def F_ip4_Bytes_k2 (g : Call) (vJ : LV) (v0 : LV) :=
 bn .or vJ (i 8192) fun vO =>
 fA 9 15 v0 fun vQ =>
 l1 z vQ fun vR =>
 ln vR fun vS =>
 bn .add (i 20) vS fun vT =>
 bn .quo vT (i 4) fun vW =>
 bn .add (i 64) vW fun vX =>
 cl g id_ip4_big z [vX, (i 1)] fun vY =>
 fA 0 0 v0 fun vZ =>
 l1 z vZ fun va =>
 cl g id_ip4_big z [va, (i 1)] fun vb =>
 bn .add vY vb fun vc =>
 fA 10 16 v0 fun ve =>
 l1 z ve fun vf =>
 ln vf fun vg =>
 bn .add vT vg fun vh =>
 cl g id_ip4_big z [vh, (i 2)] fun vi =>
 bn .add vc vi fun vj =>
 fA 1 1 v0 fun vk =>
 l1 z vk fun vl =>
 cl g id_ip4_big z [vl, (i 2)] fun vm =>
 bn .add vj vm fun vn =>
 cl g id_ip4_big z [vO, (i 2)] fun vp =>
 bn .add vn vp fun vq =>
 fA 2 2 v0 fun vr =>
 l1 z vr fun vs =>
 cl g id_ip4_big z [vs, (i 1)] fun vt =>
 bn .add vq vt fun vu =>
 fA 3 3 v0 fun vv =>
 l1 z vv fun vw =>
 cl g id_ip4_big z [vw, (i 1)] fun vx =>
 bn .add vu vx fun vy =>
 fA 7 7 v0 fun v00 =>
 sV 4 z v00 none none fun v01 =>
 bS z v01 fun v02 =>
 fA 8 11 v0 fun v03 =>
 sV 4 z v03 none none fun v04 =>
 bS z v04 fun v05 =>
 bn .add v02 v05 fun v06 =>
 fA 9 15 v0 fun v07 =>
 l1 z v07 fun v08 =>
 bn .add v06 v08 fun v09 =>
 (pr.bsl (LV.str []) 2 [(0, vy), (1, v09)]).bind fun v0E =>
 cl g id_sum_Of z [v0E] fun v0F =>
 cl g id_ip4_big z [v0F, (i 2)] fun v0G =>
 bn .add vy v0G fun v0H =>
 bn .add v0H v09 fun v0J =>
 fA 10 16 v0 fun v0K =>
 l1 z v0K fun v0L =>
 bn .add v0J v0L fun v0M =>
 pr.fin none z [v0M, LV.nili]
noncomputable def F_ip4_Bytes (g : Call) (a0 : LV) : Option (LV × Option LV) :=
 bx a0 fun v0 =>
 lA 17 z v0 fun v3 =>
 cl g id_ip4_why z [v3] fun v4 =>
 bn .neq v4 (i 0) fun v7 =>
 condK v7 (
 cl g id_ip4_fault z [v4] fun v9 =>
 pr.fin none z [(LV.str []), v9]) (
 fA 4 4 v0 fun vC =>
 l1 z vC fun vD =>
 bn .quo vD (i 8) fun vE =>
 fA 5 5 v0 fun vG =>
 l1 z vG fun vH =>
 condK vH (
 bn .or vE (i 16384) fun vJ =>
 fA 6 6 v0 fun vL =>
 l1 z vL fun vM =>
 condK vM (F_ip4_Bytes_k2 g vJ v0) (F_ip4_Bytes_k1 g v0 vJ)) (
 fA 6 6 v0 fun v1O =>
 l1 z v1O fun v1P =>
 condK v1P (F_ip4_Bytes_k2 g vE v0) (F_ip4_Bytes_k1 g v0 vE)))
theorem F_ip4_Bytes_eq (g : Call) (a0 : LV) : fnEv g c_ip4_Bytes [a0] none = F_ip4_Bytes g a0 := by kernel_rfl
noncomputable def F_interpreterref03_number (g : Call) (a0 : LV) (a1 : LV) : Option (LV × Option LV) :=
 (pr.parts (LV.agg [(LV.str []), (i 0), (i 0), (i 0)]) [(0, a0), (1, a1)]).bind fun v3 =>
 (pr.boxM v3 11 z).bind fun v4 =>
 (pr.callRw g id_interpreterref01_Reader_Number v4.2 [v4.1, (i 2)]).bind fun v7 =>
 ex v7.1 0 fun v9 =>
 ex v7.1 1 fun vA =>
 pr.fin none v7.2 [v9]
theorem F_interpreterref03_number_eq (g : Call) (a0 : LV) (a1 : LV) : fnEv g c_interpreterref03_number [a0, a1] none = F_interpreterref03_number g a0 a1 := by kernel_rfl
noncomputable def F_fault_fault (g : Call) (a0 : LV) : Option (LV × Option LV) :=
 (pr.parts (LV.agg [(i 0), (i 0)]) [(0, a0)]).bind fun v2 =>
 bx v2 fun v3 =>
 (pr.iface ty_ptr_num_Fault v3).bind fun v4 =>
 pr.fin none z [v4]
theorem F_fault_fault_eq (g : Call) (a0 : LV) : fnEv g c_fault_fault [a0] none = F_fault_fault g a0 := by kernel_rfl
noncomputable def F_sum_Right (g : Call) (a0 : LV) : Option (LV × Option LV) :=
 cl g id_sum_Of z [a0] fun v2 =>
 bn .eql v2 (i 0) fun v3 =>
 pr.fin none z [v3]
theorem F_sum_Right_eq (g : Call) (a0 : LV) : fnEv g c_sum_Right [a0] none = F_sum_Right g a0 := by kernel_rfl
noncomputable def F_fault_Inside4_1 (g : Call) (a0 : LV) (a1 : LV) : Option (LV × Option LV) :=
 l1 z a1 fun v1 =>
 xS v1 a0 fun v3 =>
 (pr.conv .i64 v3).bind fun v4 =>
 bn .shl v4 (LV.int .u64 8) fun v5 =>
 l1 z a1 fun v6 =>
 bn .add a0 (i 1) fun v8 =>
 xS v6 v8 fun v9 =>
 (pr.conv .i64 v9).bind fun vA =>
 bn .or v5 vA fun vB =>
 pr.fin none z [vB]
theorem F_fault_Inside4_1_eq (g : Call) (a0 : LV) (a1 : LV) : fnEv g c_fault_Inside4_1 [a0, a1] none = F_fault_Inside4_1 g a0 a1 := by kernel_rfl
noncomputable def F_fault_short (g : Call) (a0 : LV) (a1 : LV) : Option (LV × Option LV) :=
 ln a0 fun v2 =>
 (pr.minmax false (i 8) [a1]).bind fun v4 =>
 bn .lss v2 v4 fun v5 =>
 pr.fin none z [v5]
theorem F_fault_short_eq (g : Call) (a0 : LV) (a1 : LV) : fnEv g c_fault_short [a0, a1] none = F_fault_short g a0 a1 := by kernel_rfl
noncomputable def F_head46_Proto_k1 (g : Call) (v7 : LV) (a0 : LV) :=
 condK v7 (
 pr.fin none z [(i 0), (LV.bool false)]) (
 bn .lss a0 (i 0) fun vC =>
 fs vC a0 fun vE =>
 fb vC .gtr vE (i 255) fun vF =>
 pF vC vF fun vG =>
 condK vG (
 pr.fin none z [(i 0), (LV.bool false)]) (
 pr.fin none z [a0, (LV.bool true)]))
noncomputable def F_head46_Proto (g : Call) (a0 : LV) : Option (LV × Option LV) :=
 bn .eql a0 (i 1) fun v3 =>
 condK v3 (
 pr.fin none z [(i 58), (LV.bool true)]) (
 bn .eql a0 (i 0) fun v7 =>
 condK v7 (F_head46_Proto_k1 g v7 a0) (
 bn .eql a0 (i 2) fun vM =>
 condK vM (F_head46_Proto_k1 g vM a0) (
 bn .eql a0 (i 43) fun vb =>
 condK vb (F_head46_Proto_k1 g vb a0) (
 bn .eql a0 (i 44) fun vq =>
 condK vq (F_head46_Proto_k1 g vq a0) (
 bn .eql a0 (i 58) fun v05 =>
 condK v05 (F_head46_Proto_k1 g v05 a0) (
 bn .eql a0 (i 60) fun v0K =>
 condK v0K (
 pr.fin none z [(i 0), (LV.bool false)]) (
 bn .lss a0 (i 0) fun v0P =>
 fs v0P a0 fun v0R =>
 fb v0P .gtr v0R (i 255) fun v0S =>
 pF v0P v0S fun v0T =>
 condK v0T (
 pr.fin none z [(i 0), (LV.bool false)]) (
 pr.fin none z [a0, (LV.bool true)]))))))))
theorem F_head46_Proto_eq (g : Call) (a0 : LV) : fnEv g c_head46_Proto [a0] none = F_head46_Proto g a0 := by kernel_rfl
noncomputable def F_fault_within (g : Call) (a0 : LV) (a1 : LV) : Option (LV × Option LV) :=
 (pr.len false a1).bind fun v2 =>
 (whileW (fun q4 : List LV × Slots =>
 bn .lss (getL q4.1 1) v2 fun v5 =>
 condK v5 (
 (pr.idxAddr none 1 a1 (getL q4.1 1)).bind fun v6 =>
 l1 q4.2 v6 fun v7 =>
 bn .lss v7 (i 0) fun vA =>
 fs vA v7 fun vC =>
 fs vA a0 fun vD =>
 fb vA .gtr vC vD fun vE =>
 pF vA vE fun vF =>
 condK vF (
 pr.round z .ret [(LV.bool false), (getL q4.1 1)] q4.2) (
 bn .add (getL q4.1 1) (i 1) fun vH =>
 pr.round z .normal [(getL q4.1 0), vH] q4.2)) (
 pr.round z (.exit 0) [(getL q4.1 0), (getL q4.1 1)] q4.2)) ([(LV.bool false), (i 0)], z)).bind fun r4 =>
 exIf r4.1 (.exit 0) (
 pr.fin none r4.2.2 [(LV.bool true)]) (exIf r4.1 .ret (
 pr.fin none r4.2.2 [(getL r4.2.1 0)]) (none))
theorem F_fault_within_eq (g : Call) (a0 : LV) (a1 : LV) : fnEv g c_fault_within [a0, a1] none = F_fault_within g a0 a1 := by kernel_rfl
noncomputable def F_fault_big (g : Call) (a0 : LV) (a1 : LV) : Option (LV × Option LV) :=
 cl g id_num_Big z [a0, a1] fun v3 =>
 ex v3 0 fun v5 =>
 ex v3 1 fun v6 =>
 pr.fin none z [v5]
theorem F_fault_big_eq (g : Call) (a0 : LV) (a1 : LV) : fnEv g c_fault_big [a0, a1] none = F_fault_big g a0 a1 := by kernel_rfl
noncomputable def F_fault_turn6 (g : Call) (a0 : LV) (a1 : LV) (a2 : LV) (a3 : LV) : Option (LV × Option LV) :=
 bx a0 fun v0 =>
 bx a2 fun v1 =>
 bx a3 fun v2 =>
 fA 4 4 v0 fun v4 =>
 l1 z v4 fun v5 =>
 bn .gtr v5 (i 0) fun v6 =>
 condK v6 (
 fA 10 16 v0 fun v8 =>
 l1 z v8 fun v9 =>
 pr.fin none z [v9]) (
 fA 3 3 v0 fun vB =>
 l1 z vB fun vC =>
 bn .eql vC (i 6) fun vD =>
 ff vD 3 3 v0 fun vF =>
 fl vD z vF fun vG =>
 fb vD .eql vG (i 17) fun vH =>
 pF vD vH fun vI =>
 condK vI (
 fA 3 3 v0 fun vK =>
 l1 z vK fun vL =>
 fA 10 16 v0 fun vM =>
 l1 z vM fun vN =>
 fA 7 7 v0 fun vO =>
 sV 4 z vO none none fun vP =>
 bS z vP fun vQ =>
 fA 8 11 v0 fun vR =>
 sV 4 z vR none none fun vS =>
 bS z vS fun vT =>
 bn .add vQ vT fun vU =>
 fA 0 0 v1 fun vV =>
 sV 16 z vV none none fun vW =>
 bS z vW fun vX =>
 fA 0 0 v2 fun vY =>
 sV 16 z vY none none fun vZ =>
 bS z vZ fun va =>
 bn .add vX va fun vb =>
 fA 1 16 v1 fun vc =>
 l1 z vc fun vd =>
 fA 1 16 v2 fun ve =>
 l1 z ve fun vf =>
 cl g id_fault_ported z [vL, vN, vU, vb, vd, vf] fun vg =>
 pr.fin none z [vg]) (
 fA 3 3 v0 fun vi =>
 l1 z vi fun vj =>
 bn .eql vj (i 1) fun vk =>
 tf vk 10 16 v0 fun vm =>
 tl vk z vm fun vn =>
 gT vk (pr.len true vn) fun vo =>
 tb vk .geq vo (i 8) fun vp =>
 pT vk vp fun vq =>
 condK vq (
 (pr.mapNew 56 z).bind fun vs =>
 (pr.mapIns (some .u8) vs.2 vs.1 (LV.int .u8 8) (i 128)).bind fun vt =>
 (pr.mapIns (some .u8) vt.2 vs.1 (LV.int .u8 0) (i 129)).bind fun vu =>
 fA 10 16 v0 fun vw =>
 l1 vu.2 vw fun vx =>
 xS vx (i 0) fun vy =>
 (pr.mapGet (some .u8) (i 0) false vu.2 vs.1 vy).bind fun vz =>
 bn .gtr vz (i 0) fun v02 =>
 tf v02 10 16 v0 fun v04 =>
 tl v02 vu.2 v04 fun v05 =>
 gT v02 (pr.idxStr v05 (i 1)) fun v06 =>
 tb v02 .eql v06 (LV.int .u8 0) fun v07 =>
 pT v02 v07 fun v08 =>
 condK v08 (
 fA 10 16 v0 fun v09 =>
 l1 vu.2 v09 fun v0A =>
 fA 0 0 v1 fun v0B =>
 lA 16 vu.2 v0B fun v0C =>
 fA 0 0 v2 fun v0D =>
 lA 16 vu.2 v0D fun v0E =>
 cl g id_sum_Pseudo6 vu.2 [v0C, v0E, (i 58), a1] fun v0G =>
 fA 1 16 v1 fun v0I =>
 l1 vu.2 v0I fun v0J =>
 cl g id_fault_echoed vu.2 [v0A, (LV.str []), v0G, vz, v0J] fun v0K =>
 pr.fin none vu.2 [v0K]) (
 fA 10 16 v0 fun v0M =>
 l1 vu.2 v0M fun v0N =>
 pr.fin none vu.2 [v0N])) (
 fA 10 16 v0 fun v0P =>
 l1 z v0P fun v0Q =>
 pr.fin none z [v0Q])))
theorem F_fault_turn6_eq (g : Call) (a0 : LV) (a1 : LV) (a2 : LV) (a3 : LV) : fnEv g c_fault_turn6 [a0, a1, a2, a3] none = F_fault_turn6 g a0 a1 a2 a3 := by kernel_rfl
noncomputable def F_icmpmap_sides (g : Call) (a0 : LV) (a1 : LV) : Option (LV × Option LV) :=
 bn .geq a0 (i 68) fun v2 =>
 ts v2 a0 fun v4 =>
 tb v2 .leq v4 (i 65535) fun v5 =>
 pT v2 v5 fun v6 =>
 ts v6 a1 fun v8 =>
 tb v6 .geq v8 (i 1280) fun v9 =>
 pT v6 v9 fun vA =>
 ts vA a1 fun vC =>
 tb vA .leq vC (i 65575) fun vD =>
 pT vA vD fun vE =>
 pr.fin none z [vE]
theorem F_icmpmap_sides_eq (g : Call) (a0 : LV) (a1 : LV) : fnEv g c_icmpmap_sides [a0, a1] none = F_icmpmap_sides g a0 a1 := by kernel_rfl
noncomputable def F_icmpmap_said (g : Call) (a0 : LV) (a1 : LV) (a2 : LV) (a3 : LV) : Option (LV × Option LV) :=
 bx a0 fun v0 =>
 (pr.alloc (LV.agg [(i 0), (i 0), (LV.int .u32 0), (LV.str [])]) 8 z).bind fun v1 =>
 (pr.conv .u32 a3).bind fun v6 =>
 fA 3 3 v0 fun v7 =>
 l1 v1.2 v7 fun v8 =>
 (pr.parts (LV.agg [(i 0), (i 0), (LV.int .u32 0), (LV.str [])]) [(0, a1), (1, a2), (2, v6), (3, v8)]).bind fun v9 =>
 sA 4 v1.2 v1.1 v9 fun vA =>
 lA 4 vA.2 v1.1 fun vC =>
 pr.fin none vA.2 [vC, (LV.bool true)]
theorem F_icmpmap_said_eq (g : Call) (a0 : LV) (a1 : LV) (a2 : LV) (a3 : LV) : fnEv g c_icmpmap_said [a0, a1, a2, a3] none = F_icmpmap_said g a0 a1 a2 a3 := by kernel_rfl
noncomputable def F_icmpmap_lost6_k4 (g : Call) (v1 : LV × Slots) (v0 : LV) :=
 lA 4 v1.2 v0 fun vG =>
 cl g id_icmpmap_said v1.2 [vG, (i 1), (i 1), (i 0)] fun vH =>
 ex vH 0 fun vI =>
 ex vH 1 fun vJ =>
 sA 4 v1.2 v1.1 vI fun vK =>
 lA 4 vK.2 v1.1 fun vM =>
 pr.fin none vK.2 [vM, vJ]
noncomputable def F_icmpmap_lost6_k2 (g : Call) (v4 : LV) (v1 : LV × Slots) (v0 : LV) (a3 : LV) (a1 : LV) (a2 : LV) :=
 bn .eql v4 (i 3) fun vN =>
 condK vN (
 lA 4 v1.2 v0 fun vP =>
 cl g id_icmpmap_said v1.2 [vP, (i 1), (i 4), (i 0)] fun vQ =>
 ex vQ 0 fun vR =>
 ex vQ 1 fun vS =>
 sA 4 v1.2 v1.1 vR fun vT =>
 lA 4 vT.2 v1.1 fun vV =>
 pr.fin none vT.2 [vV, vS]) (
 bn .eql v4 (i 2) fun vW =>
 condK vW (
 lA 4 v1.2 v0 fun vY =>
 cl g id_icmpmap_said v1.2 [vY, (i 4), (i 1), (i 6)] fun vZ =>
 ex vZ 0 fun va =>
 ex vZ 1 fun vb =>
 sA 4 v1.2 v1.1 va fun vc =>
 lA 4 vc.2 v1.1 fun ve =>
 pr.fin none vc.2 [ve, vb]) (
 bn .eql v4 (i 4) fun vf =>
 condK vf (
 fA 2 2 v0 fun vh =>
 l1 v1.2 vh fun vi =>
 bn .and vi (LV.int .u32 65535) fun vj =>
 (pr.conv .i64 vj).bind fun vk =>
 bn .eql vk (i 0) fun vn =>
 condK vn (
 cl g id_icmpmap_Plateau v1.2 [a3] fun vp =>
 lA 4 v1.2 v0 fun vr =>
 bn .add vp (i 20) fun vt =>
 bn .add a1 (i 20) fun vw =>
 (pr.minmax false vt [a2, vw]).bind fun vx =>
 (pr.minmax true vx [(i 1280)]).bind fun vy =>
 cl g id_icmpmap_said v1.2 [vr, (i 2), (i 0), vy] fun vz =>
 ex vz 0 fun v00 =>
 ex vz 1 fun v01 =>
 sA 4 v1.2 v1.1 v00 fun v02 =>
 lA 4 v02.2 v1.1 fun v04 =>
 pr.fin none v02.2 [v04, v01]) (
 lA 4 v1.2 v0 fun v05 =>
 bn .add vk (i 20) fun v07 =>
 bn .add a1 (i 20) fun v0A =>
 (pr.minmax false v07 [a2, v0A]).bind fun v0B =>
 (pr.minmax true v0B [(i 1280)]).bind fun v0C =>
 cl g id_icmpmap_said v1.2 [v05, (i 2), (i 0), v0C] fun v0D =>
 ex v0D 0 fun v0E =>
 ex v0D 1 fun v0F =>
 sA 4 v1.2 v1.1 v0E fun v0G =>
 lA 4 v0G.2 v1.1 fun v0I =>
 pr.fin none v0G.2 [v0I, v0F])) (
 (pr.parts (LV.agg [(i 0), (i 0), (LV.int .u32 0), (LV.str [])]) []).bind fun v0J =>
 sA 4 v1.2 v1.1 v0J fun v0K =>
 lA 4 v0K.2 v1.1 fun v0M =>
 pr.fin none v0K.2 [v0M, (LV.bool false)])))
noncomputable def F_icmpmap_lost6_k1 (g : Call) (v4 : LV) (v1 : LV × Slots) (v0 : LV) (a3 : LV) (a1 : LV) (a2 : LV) :=
 bn .eql v4 (i 9) fun vE =>
 condK vE (
 condK vE (F_icmpmap_lost6_k4 g v1 v0) (F_icmpmap_lost6_k2 g v4 v1 v0 a3 a1 a2)) (
 bn .eql v4 (i 10) fun v0N =>
 condK v0N (
 condK v0N (F_icmpmap_lost6_k4 g v1 v0) (F_icmpmap_lost6_k2 g v4 v1 v0 a3 a1 a2)) (
 bn .eql v4 (i 13) fun v1W =>
 condK v1W (
 condK v1W (F_icmpmap_lost6_k4 g v1 v0) (F_icmpmap_lost6_k2 g v4 v1 v0 a3 a1 a2)) (
 bn .eql v4 (i 15) fun v2f =>
 condK v2f (F_icmpmap_lost6_k4 g v1 v0) (F_icmpmap_lost6_k2 g v4 v1 v0 a3 a1 a2))))
noncomputable def F_icmpmap_lost6_k3 (g : Call) (v1 : LV × Slots) (v0 : LV) :=
 lA 4 v1.2 v0 fun v7 =>
 cl g id_icmpmap_said v1.2 [v7, (i 1), (i 0), (i 0)] fun v8 =>
 ex v8 0 fun v9 =>
 ex v8 1 fun vA =>
 sA 4 v1.2 v1.1 v9 fun vB =>
 lA 4 vB.2 v1.1 fun vD =>
 pr.fin none vB.2 [vD, vA]
noncomputable def F_icmpmap_lost6 (g : Call) (a0 : LV) (a1 : LV) (a2 : LV) (a3 : LV) : Option (LV × Option LV) :=
 bx a0 fun v0 =>
 (pr.alloc (LV.agg [(i 0), (i 0), (LV.int .u32 0), (LV.str [])]) 8 z).bind fun v1 =>
 fA 1 1 v0 fun v3 =>
 l1 v1.2 v3 fun v4 =>
 bn .eql v4 (i 0) fun v5 =>
 condK v5 (
 condK v5 (F_icmpmap_lost6_k3 g v1 v0) (F_icmpmap_lost6_k1 g v4 v1 v0 a3 a1 a2)) (
 bn .eql v4 (i 1) fun v3o =>
 condK v3o (
 condK v3o (F_icmpmap_lost6_k3 g v1 v0) (F_icmpmap_lost6_k1 g v4 v1 v0 a3 a1 a2)) (
 bn .eql v4 (i 5) fun v8X =>
 condK v8X (
 condK v8X (F_icmpmap_lost6_k3 g v1 v0) (F_icmpmap_lost6_k1 g v4 v1 v0 a3 a1 a2)) (
 bn .eql v4 (i 6) fun vDG =>
 condK vDG (
 condK vDG (F_icmpmap_lost6_k3 g v1 v0) (F_icmpmap_lost6_k1 g v4 v1 v0 a3 a1 a2)) (
 bn .eql v4 (i 7) fun vHz =>
 condK vHz (
 condK vHz (F_icmpmap_lost6_k3 g v1 v0) (F_icmpmap_lost6_k1 g v4 v1 v0 a3 a1 a2)) (
 bn .eql v4 (i 8) fun vMi =>
 condK vMi (
 condK vMi (F_icmpmap_lost6_k3 g v1 v0) (F_icmpmap_lost6_k1 g v4 v1 v0 a3 a1 a2)) (
 bn .eql v4 (i 11) fun vRR =>
 condK vRR (
 condK vRR (F_icmpmap_lost6_k3 g v1 v0) (F_icmpmap_lost6_k1 g v4 v1 v0 a3 a1 a2)) (
 bn .eql v4 (i 12) fun vWA =>
 condK vWA (F_icmpmap_lost6_k3 g v1 v0) (F_icmpmap_lost6_k1 g v4 v1 v0 a3 a1 a2))))))))
theorem F_icmpmap_lost6_eq (g : Call) (a0 : LV) (a1 : LV) (a2 : LV) (a3 : LV) : fnEv g c_icmpmap_lost6 [a0, a1, a2, a3] none = F_icmpmap_lost6 g a0 a1 a2 a3 := by kernel_rfl
noncomputable def F_icmpmap_pointer6 (g : Call) (a0 : LV) : Option (LV × Option LV) :=
 bn .eql a0 (i 0) fun v3 =>
 fs v3 a0 fun v5 =>
 fb v3 .eql v5 (i 1) fun v6 =>
 pF v3 v6 fun v7 =>
 condK v7 (
 pr.fin none z [a0, (LV.bool true)]) (
 bn .eql a0 (i 2) fun vD =>
 fs vD a0 fun vF =>
 fb vD .eql vF (i 3) fun vG =>
 pF vD vG fun vH =>
 condK vH (
 pr.fin none z [(i 4), (LV.bool true)]) (
 bn .eql a0 (i 8) fun vM =>
 condK vM (
 pr.fin none z [(i 7), (LV.bool true)]) (
 bn .eql a0 (i 9) fun vR =>
 condK vR (
 pr.fin none z [(i 6), (LV.bool true)]) (
 bn .geq a0 (i 12) fun vW =>
 ts vW a0 fun vY =>
 tb vW .leq vY (i 15) fun vZ =>
 pT vW vZ fun va =>
 condK va (
 pr.fin none z [(i 8), (LV.bool true)]) (
 bn .geq a0 (i 16) fun vf =>
 ts vf a0 fun vh =>
 tb vf .leq vh (i 19) fun vi =>
 pT vf vi fun vj =>
 condK vj (
 pr.fin none z [(i 24), (LV.bool true)]) (
 pr.fin none z [(i 0), (LV.bool false)]))))))
theorem F_icmpmap_pointer6_eq (g : Call) (a0 : LV) : fnEv g c_icmpmap_pointer6 [a0] none = F_icmpmap_pointer6 g a0 := by kernel_rfl
noncomputable def F_interpreterref15_number (g : Call) (a0 : LV) (a1 : LV) (a2 : LV) : Option (LV × Option LV) :=
 (pr.parts (LV.agg [(LV.str []), (i 0), (i 0), (i 0)]) [(0, a0), (1, a1)]).bind fun v3 =>
 (pr.boxM v3 13 z).bind fun v4 =>
 (pr.callRw g id_interpreterref01_Reader_Number v4.2 [v4.1, a2]).bind fun v8 =>
 ex v8.1 0 fun vA =>
 ex v8.1 1 fun vB =>
 pr.fin none v8.2 [vA]
theorem F_interpreterref15_number_eq (g : Call) (a0 : LV) (a1 : LV) (a2 : LV) : fnEv g c_interpreterref15_number [a0, a1, a2] none = F_interpreterref15_number g a0 a1 a2 := by kernel_rfl
noncomputable def F_interpreterref15_little (g : Call) (a0 : LV) (a1 : LV) : Option (LV × Option LV) :=
 ln a0 fun v2 =>
 bn .lss v2 (i 8) fun v3 =>
 ts v3 a0 fun v5 =>
 gT v3 (pr.len true v5) fun v6 =>
 ts v3 a1 fun v7 =>
 tb v3 .lss v6 v7 fun v8 =>
 pT v3 v8 fun v9 =>
 pr.fin none z [v9]
theorem F_interpreterref15_little_eq (g : Call) (a0 : LV) (a1 : LV) : fnEv g c_interpreterref15_little [a0, a1] none = F_interpreterref15_little g a0 a1 := by kernel_rfl
noncomputable def F_interpreterref15_bound (g : Call) (a0 : LV) (a1 : LV) : Option (LV × Option LV) :=
 (whileW (fun q2 : List LV × Slots =>
 (pr.len false a1).bind fun v5 =>
 bn .lss (getL q2.1 1) v5 fun v6 =>
 condK v6 (
 (pr.idxAddr none 1 a1 (getL q2.1 1)).bind fun v9 =>
 l1 q2.2 v9 fun vA =>
 bn .lss vA (i 0) fun vB =>
 fs vB a1 fun vD =>
 fs vB (getL q2.1 1) fun vE =>
 gF vB (pr.idxAddr none 1 vD vE) fun vF =>
 fl vB q2.2 vF fun vG =>
 fs vB a0 fun vH =>
 fb vB .gtr vG vH fun vI =>
 pF vB vI fun vJ =>
 condK vJ (
 pr.round z .ret [(LV.bool false), (getL q2.1 1)] q2.2) (
 bn .add (getL q2.1 1) (i 1) fun vM =>
 pr.round z .normal [(getL q2.1 0), vM] q2.2)) (
 pr.round z (.exit 0) [(getL q2.1 0), (getL q2.1 1)] q2.2)) ([(LV.bool false), (i 0)], z)).bind fun r2 =>
 exIf r2.1 (.exit 0) (
 pr.fin none r2.2.2 [(LV.bool true)]) (exIf r2.1 .ret (
 pr.fin none r2.2.2 [(getL r2.2.1 0)]) (none))
theorem F_interpreterref15_bound_eq (g : Call) (a0 : LV) (a1 : LV) : fnEv g c_interpreterref15_bound [a0, a1] none = F_interpreterref15_bound g a0 a1 := by kernel_rfl
noncomputable def F_interpreterref12_Proto (g : Call) (a0 : LV) : Option (LV × Option LV) :=
 bn .eql a0 (i 1) fun v3 =>
 condK v3 (
 pr.fin none z [(i 58), (LV.bool true)]) (
 bn .leq a0 (i 0) fun v7 =>
 fs v7 a0 fun v9 =>
 fb v7 .eql v9 (i 2) fun vA =>
 pF v7 vA fun vB =>
 fs vB a0 fun vD =>
 fb vB .eql vD (i 43) fun vE =>
 pF vB vE fun vF =>
 fs vF a0 fun vH =>
 fb vF .eql vH (i 44) fun vI =>
 pF vF vI fun vJ =>
 fs vJ a0 fun vL =>
 fb vJ .eql vL (i 58) fun vM =>
 pF vJ vM fun vN =>
 fs vN a0 fun vP =>
 fb vN .eql vP (i 60) fun vQ =>
 pF vN vQ fun vR =>
 fs vR a0 fun vT =>
 fb vR .gtr vT (i 255) fun vU =>
 pF vR vU fun vV =>
 condK vV (
 pr.fin none z [(i 0), (LV.bool false)]) (
 pr.fin none z [a0, (LV.bool true)]))
theorem F_interpreterref12_Proto_eq (g : Call) (a0 : LV) : fnEv g c_interpreterref12_Proto [a0] none = F_interpreterref12_Proto g a0 := by kernel_rfl
noncomputable def F_interpreterref15_turn_k1 (g : Call) (a3 : LV) (v0C : LV) (a9 : LV) (a6 : LV) (a7 : LV) :=
 sl a3 none (some (i 2)) fun v0J =>
 sl a3 (some (i 4)) (some (i 6)) fun v0L =>
 bn .add v0J v0L fun v0M =>
 cl g id_interpreterref15_put z [v0C, (i 1)] fun v0P =>
 cl g id_interpreterref15_put z [(i 0), (i 1)] fun v0Q =>
 bn .add v0P v0Q fun v0R =>
 sl a3 (some (i 2)) (some (i 4)) fun v0T =>
 bn .add v0R v0T fun v0U =>
 cl g id_interpreterref15_put z [a9, (i 2)] fun v0W =>
 bn .add v0U v0W fun v0X =>
 sl a3 (some (i 6)) none fun v0Z =>
 bn .add v0X v0Z fun v0a =>
 bn .add a6 v0M fun v0f =>
 sl v0a none (some (i 2)) fun v0i =>
 bn .add a7 v0i fun v0j =>
 sl v0a (some (i 4)) (some (i 6)) fun v0l =>
 bn .add v0j v0l fun v0m =>
 cl g id_interpreterref15_sums z [v0a, (i 2), v0f, v0m, (LV.bool false)] fun v0n =>
 pr.fin none z [v0n]
noncomputable def F_interpreterref15_turn (g : Call) (a0 : LV) (a1 : LV) (a2 : LV) (a3 : LV) (a4 : LV) (a5 : LV) (a6 : LV) (a7 : LV) (a8 : LV) (a9 : LV) (a10 : LV) : Option (LV × Option LV) :=
 bx a8 fun v0 =>
 bn .neq a1 (i 0) fun v3 =>
 condK v3 (
 pr.fin none z [a3]) (
 bn .eql a0 (i 6) fun v7 =>
 fs v7 a0 fun v9 =>
 fb v7 .eql v9 (i 17) fun vA =>
 pF v7 vA fun vB =>
 ts vB a3 fun vD =>
 gT vB (pr.len true vD) fun vE =>
 tb vB .geq vE (i 4) fun vF =>
 pT vB vF fun vG =>
 condK vG (
 sl a3 none (some (i 4)) fun vI =>
 cl g id_interpreterref15_put z [a9, (i 2)] fun vL =>
 cl g id_interpreterref15_put z [a10, (i 2)] fun vN =>
 bn .add vL vN fun vO =>
 sl a3 (some (i 4)) none fun vQ =>
 bn .add vO vQ fun vR =>
 bn .eql a0 (i 17) fun vU =>
 condK vU (
 bn .add a4 vI fun vY =>
 sl vR none (some (i 4)) fun vb =>
 bn .add a5 vb fun vc =>
 cl g id_interpreterref15_sums z [vR, (i 6), vY, vc, (LV.bool true)] fun vd =>
 pr.fin none z [vd]) (
 bn .add a4 vI fun vi =>
 sl vR none (some (i 4)) fun vl =>
 bn .add a5 vl fun vm =>
 cl g id_interpreterref15_sums z [vR, (i 16), vi, vm, (LV.bool false)] fun vn =>
 pr.fin none z [vn])) (
 bn .neq a0 a2 fun vr =>
 fs vr a3 fun vt =>
 gF vr (pr.len true vt) fun vu =>
 fb vr .lss vu (i 8) fun vv =>
 pF vr vv fun vw =>
 fs vw a3 fun vy =>
 gF vw (pr.idxStr vy (i 1)) fun vz =>
 fb vw .neq vz (LV.int .u8 0) fun v00 =>
 pF vw v00 fun v01 =>
 condK v01 (
 pr.fin none z [a3]) (
 xS a3 (i 0) fun v06 =>
 (pr.conv .i64 v06).bind fun v07 =>
 (pr.idxAddr (some 4) 1 v0 (i 0)).bind fun v08 =>
 l1 z v08 fun v09 =>
 bn .eql v07 v09 fun v0A =>
 condK v0A (
 (pr.idxAddr (some 4) 1 v0 (i 1)).bind fun v0B =>
 l1 z v0B fun v0C =>
 bn .lss v0C (i 0) fun v0F =>
 condK v0F (
 pr.fin none z [a3]) (F_interpreterref15_turn_k1 g a3 v0C a9 a6 a7)) (
 xS a3 (i 0) fun v0q =>
 (pr.conv .i64 v0q).bind fun v0r =>
 (pr.idxAddr (some 4) 1 v0 (i 2)).bind fun v0s =>
 l1 z v0s fun v0t =>
 bn .eql v0r v0t fun v0u =>
 condK v0u (
 (pr.idxAddr (some 4) 1 v0 (i 3)).bind fun v0v =>
 l1 z v0v fun v0w =>
 bn .lss v0w (i 0) fun v0z =>
 condK v0z (
 pr.fin none z [a3]) (F_interpreterref15_turn_k1 g a3 v0w a9 a6 a7)) (
 bn .lss (i (-1)) (i 0) fun v1a =>
 condK v1a (
 pr.fin none z [a3]) (
 sl a3 none (some (i 2)) fun v1e =>
 sl a3 (some (i 4)) (some (i 6)) fun v1g =>
 bn .add v1e v1g fun v1h =>
 cl g id_interpreterref15_put z [(i (-1)), (i 1)] fun v1k =>
 cl g id_interpreterref15_put z [(i 0), (i 1)] fun v1l =>
 bn .add v1k v1l fun v1m =>
 sl a3 (some (i 2)) (some (i 4)) fun v1o =>
 bn .add v1m v1o fun v1p =>
 cl g id_interpreterref15_put z [a9, (i 2)] fun v1r =>
 bn .add v1p v1r fun v1s =>
 sl a3 (some (i 6)) none fun v1u =>
 bn .add v1s v1u fun v1v =>
 bn .add a6 v1h fun v20 =>
 sl v1v none (some (i 2)) fun v23 =>
 bn .add a7 v23 fun v24 =>
 sl v1v (some (i 4)) (some (i 6)) fun v26 =>
 bn .add v24 v26 fun v27 =>
 cl g id_interpreterref15_sums z [v1v, (i 2), v20, v27, (LV.bool false)] fun v28 =>
 pr.fin none z [v28]))))))
theorem F_interpreterref15_turn_eq (g : Call) (a0 : LV) (a1 : LV) (a2 : LV) (a3 : LV) (a4 : LV) (a5 : LV) (a6 : LV) (a7 : LV) (a8 : LV) (a9 : LV) (a10 : LV) : fnEv g c_interpreterref15_turn [a0, a1, a2, a3, a4, a5, a6, a7, a8, a9, a10] none = F_interpreterref15_turn g a0 a1 a2 a3 a4 a5 a6 a7 a8 a9 a10 := by kernel_rfl
noncomputable def F_interpreterref02_Pseudo6 (g : Call) (a0 : LV) (a1 : LV) (a2 : LV) (a3 : LV) : Option (LV × Option LV) :=
 bx a0 fun v0 =>
 bx a1 fun v1 =>
 (whileW (fun q5 : List LV × Slots =>
 bn .lss (getL q5.1 1) (i 16) fun v7 =>
 condK v7 (
 (pr.idxAddr (some 16) 1 v0 (getL q5.1 1)).bind fun vA =>
 l1 q5.2 vA fun vB =>
 (pr.bsl (LV.int .u8 0) 1 [(0, vB)]).bind fun vC =>
 bS q5.2 vC fun vD =>
 bn .add (getL q5.1 0) vD fun vE =>
 bn .add (getL q5.1 1) (i 1) fun vH =>
 pr.round z .normal [vE, vH] q5.2) (
 pr.round z (.exit 0) [(getL q5.1 0), (getL q5.1 1)] q5.2)) ([(LV.str []), (i 0)], z)).bind fun r5 =>
 exIf r5.1 (.exit 0) (
 (whileW (fun q20 : List LV × Slots =>
 bn .lss (getL q20.1 1) (i 16) fun vM =>
 condK vM (
 (pr.idxAddr (some 16) 1 v1 (getL q20.1 1)).bind fun vP =>
 l1 q20.2 vP fun vQ =>
 (pr.bsl (LV.int .u8 0) 1 [(0, vQ)]).bind fun vR =>
 bS q20.2 vR fun vS =>
 bn .add (getL q20.1 0) vS fun vT =>
 bn .add (getL q20.1 1) (i 1) fun vW =>
 pr.round r5.2.2 .normal [vT, vW] q20.2) (
 pr.round r5.2.2 (.exit 2) [(getL q20.1 0), (getL q20.1 1)] q20.2)) ([(getL r5.2.1 0), (i 0)], r5.2.2)).bind fun r20 =>
 exIf r20.1 (.exit 2) (
 cl g id_interpreterref02_low r20.2.2 [a3, (i 4)] fun va =>
 bn .add (getL r20.2.1 0) va fun vb =>
 cl g id_interpreterref02_low r20.2.2 [(i 0), (i 3)] fun vc =>
 bn .add vb vc fun vd =>
 cl g id_interpreterref02_low r20.2.2 [a2, (i 1)] fun vf =>
 bn .add vd vf fun vg =>
 pr.fin none r20.2.2 [vg]) (none)) (none)
theorem F_interpreterref02_Pseudo6_eq (g : Call) (a0 : LV) (a1 : LV) (a2 : LV) (a3 : LV) : fnEv g c_interpreterref02_Pseudo6 [a0, a1, a2, a3] none = F_interpreterref02_Pseudo6 g a0 a1 a2 a3 := by kernel_rfl
noncomputable def F_interpreterref15_put (g : Call) (a0 : LV) (a1 : LV) : Option (LV × Option LV) :=
 cl g id_interpreterref01_Put z [a0, a1] fun v3 =>
 pr.fin none z [v3]
theorem F_interpreterref15_put_eq (g : Call) (a0 : LV) (a1 : LV) : fnEv g c_interpreterref15_put [a0, a1] none = F_interpreterref15_put g a0 a1 := by kernel_rfl
noncomputable def F_interpreterref14_bounds (g : Call) (a0 : LV) (a1 : LV) : Option (LV × Option LV) :=
 bn .geq a0 (i 68) fun v2 =>
 ts v2 a0 fun v4 =>
 tb v2 .leq v4 (i 65535) fun v5 =>
 pT v2 v5 fun v6 =>
 ts v6 a1 fun v8 =>
 tb v6 .geq v8 (i 1280) fun v9 =>
 pT v6 v9 fun vA =>
 ts vA a1 fun vC =>
 tb vA .leq vC (i 65575) fun vD =>
 pT vA vD fun vE =>
 pr.fin none z [vE]
theorem F_interpreterref14_bounds_eq (g : Call) (a0 : LV) (a1 : LV) : fnEv g c_interpreterref14_bounds [a0, a1] none = F_interpreterref14_bounds g a0 a1 := by kernel_rfl
noncomputable def F_interpreterref14_Plateau (g : Call) (a0 : LV) : Option (LV × Option LV) :=
 (pr.bsl (i 0) 11 [(0, (i 68)), (1, (i 296)), (2, (i 508)), (3, (i 1006)), (4, (i 1492)), (5, (i 2002)), (6, (i 4352)), (7, (i 8166)), (8, (i 17914)), (9, (i 32000)), (10, (i 65535))]).bind fun v1 =>
 (whileW (fun q5 : List LV × Slots =>
 (pr.len false v1).bind fun v8 =>
 bn .lss (getL q5.1 1) v8 fun v9 =>
 condK v9 (
 (pr.idxAddr none 1 v1 (getL q5.1 1)).bind fun vC =>
 l1 q5.2 vC fun vD =>
 bn .lss vD a0 fun vF =>
 condK vF (
 (pr.idxAddr none 1 v1 (getL q5.1 1)).bind fun vI =>
 l1 q5.2 vI fun vJ =>
 bn .add (getL q5.1 1) (i 1) fun vM =>
 pr.round z .normal [vJ, vM] q5.2) (
 bn .add (getL q5.1 1) (i 1) fun vP =>
 pr.round z .normal [(getL q5.1 0), vP] q5.2)) (
 pr.round z (.exit 0) [(getL q5.1 0), (getL q5.1 1)] q5.2)) ([(i 68), (i 0)], z)).bind fun r5 =>
 exIf r5.1 (.exit 0) (
 pr.fin none r5.2.2 [(getL r5.2.1 0)]) (none)
theorem F_interpreterref14_Plateau_eq (g : Call) (a0 : LV) : fnEv g c_interpreterref14_Plateau [a0] none = F_interpreterref14_Plateau g a0 := by kernel_rfl
noncomputable def F_interpreterref14_find (g : Call) (a0 : LV) (a1 : LV) : Option (LV × Option LV) :=
 bx a1 fun v0 =>
 (pr.alloc (LV.agg [(i 0), (i 0), (i 0), (i 0), (i 0)]) 4 z).bind fun v1 =>
 (whileW (fun q4 : List LV × Slots =>
 (pr.len false a0).bind fun v7 =>
 bn .lss (getL q4.1 1) v7 fun v8 =>
 condK v8 (
 (pr.idxAddr none 5 a0 (getL q4.1 1)).bind fun vB =>
 fA 0 0 vB fun vC =>
 l1 q4.2 vC fun vD =>
 fA 0 0 v0 fun vE =>
 l1 q4.2 vE fun vF =>
 bn .eql vD vF fun vG =>
 ts vG a0 fun vI =>
 ts vG (getL q4.1 1) fun vJ =>
 gT vG (pr.idxAddr none 5 vI vJ) fun vK =>
 tf vG 1 1 vK fun vL =>
 tl vG q4.2 vL fun vM =>
 tf vG 1 1 v0 fun vN =>
 tl vG q4.2 vN fun vO =>
 tb vG .eql vM vO fun vP =>
 pT vG vP fun vQ =>
 condK vQ (
 (pr.idxAddr none 5 a0 (getL q4.1 1)).bind fun vT =>
 lA 5 q4.2 vT fun vU =>
 sA 5 q4.2 v1.1 vU fun vV =>
 pr.round v1.2 .ret [(LV.bool true), (getL q4.1 1)] vV.2) (
 bn .add (getL q4.1 1) (i 1) fun vY =>
 pr.round v1.2 .normal [(getL q4.1 0), vY] q4.2)) (
 pr.round v1.2 (.exit 0) [(getL q4.1 0), (getL q4.1 1)] q4.2)) ([(LV.bool false), (i 0)], v1.2)).bind fun r4 =>
 exIf r4.1 (.exit 0) (
 (pr.parts (LV.agg [(i 0), (i 0), (i 0), (i 0), (i 0)]) []).bind fun va =>
 sA 5 r4.2.2 v1.1 va fun vb =>
 lA 5 vb.2 v1.1 fun vd =>
 pr.fin none vb.2 [vd, (LV.bool false)]) (exIf r4.1 .ret (
 lA 5 r4.2.2 v1.1 fun ve =>
 pr.fin none r4.2.2 [ve, (getL r4.2.1 0)]) (none))
theorem F_interpreterref14_find_eq (g : Call) (a0 : LV) (a1 : LV) : fnEv g c_interpreterref14_find [a0, a1] none = F_interpreterref14_find g a0 a1 := by kernel_rfl
noncomputable def F_interpreterref14_lines6 (g : Call) (a0 : LV) : Option (LV × Option LV) :=
 (pr.parts (LV.agg [(i 0), (i 0), (i 0), (i 0), (i 0)]) [(0, (i 8)), (1, (i 0)), (2, (i 128)), (3, (i 0)), (4, a0)]).bind fun v2 =>
 (pr.parts (LV.agg [(i 0), (i 0), (i 0), (i 0), (i 0)]) [(0, (i 0)), (1, (i 0)), (2, (i 129)), (3, (i 0)), (4, a0)]).bind fun v4 =>
 (pr.parts (LV.agg [(i 0), (i 0), (i 0), (i 0), (i 0)]) [(0, (i 3)), (1, (i 3)), (2, (i 1)), (3, (i 4)), (4, (i 0))]).bind fun v5 =>
 (pr.parts (LV.agg [(i 0), (i 0), (i 0), (i 0), (i 0)]) [(0, (i 3)), (1, (i 2)), (2, (i 4)), (3, (i 1)), (4, (i 6))]).bind fun v6 =>
 (pr.parts (LV.agg [(i 0), (i 0), (i 0), (i 0), (i 0)]) [(0, (i 11)), (1, (i 0)), (2, (i 3)), (3, (i 0)), (4, (i 0))]).bind fun v7 =>
 (pr.parts (LV.agg [(i 0), (i 0), (i 0), (i 0), (i 0)]) [(0, (i 11)), (1, (i 1)), (2, (i 3)), (3, (i 1)), (4, (i 0))]).bind fun v8 =>
 (pr.bslT (LV.agg [(i 0), (i 0), (i 0), (i 0), (i 0)]) 6 [(0, v2), (1, v4), (2, v5), (3, v6), (4, v7), (5, v8)] 16 z).bind fun v9 =>
 (pr.bsl (i 0) 8 [(0, (i 0)), (1, (i 1)), (2, (i 5)), (3, (i 6)), (4, (i 7)), (5, (i 8)), (6, (i 11)), (7, (i 12))]).bind fun vB =>
 (whileW (fun q14 : List LV × Slots =>
 (pr.len false vB).bind fun vH =>
 bn .lss (getL q14.1 1) vH fun vI =>
 condK vI (
 (pr.idxAddr none 1 vB (getL q14.1 1)).bind fun vM =>
 l1 q14.2 vM fun vN =>
 (pr.parts (LV.agg [(i 0), (i 0), (i 0), (i 0), (i 0)]) [(0, (i 3)), (1, vN), (2, (i 1)), (3, (i 0)), (4, (i 0))]).bind fun vO =>
 (pr.bsl (LV.agg [(i 0), (i 0), (i 0), (i 0), (i 0)]) 1 [(0, vO)]).bind fun vP =>
 (pr.append 5 40 31 q14.2 (getL q14.1 0) vP).bind fun vQ =>
 bn .add (getL q14.1 1) (i 1) fun vT =>
 pr.round v9.2 .normal [vQ.1, vT] vQ.2) (
 pr.round v9.2 (.exit 0) [(getL q14.1 0), (getL q14.1 1)] q14.2)) ([v9.1, (i 0)], v9.2)).bind fun r14 =>
 exIf r14.1 (.exit 0) (
 (pr.bsl (i 0) 4 [(0, (i 9)), (1, (i 10)), (2, (i 13)), (3, (i 15))]).bind fun vV =>
 (whileW (fun q34 : List LV × Slots =>
 (pr.len false vV).bind fun vb =>
 bn .lss (getL q34.1 1) vb fun vc =>
 condK vc (
 (pr.idxAddr none 1 vV (getL q34.1 1)).bind fun vg =>
 l1 q34.2 vg fun vh =>
 (pr.parts (LV.agg [(i 0), (i 0), (i 0), (i 0), (i 0)]) [(0, (i 3)), (1, vh), (2, (i 1)), (3, (i 1)), (4, (i 0))]).bind fun vi =>
 (pr.bsl (LV.agg [(i 0), (i 0), (i 0), (i 0), (i 0)]) 1 [(0, vi)]).bind fun vj =>
 (pr.append 5 40 46 q34.2 (getL q34.1 0) vj).bind fun vk =>
 bn .add (getL q34.1 1) (i 1) fun vn =>
 pr.round r14.2.2 .normal [vk.1, vn] vk.2) (
 pr.round r14.2.2 (.exit 2) [(getL q34.1 0), (getL q34.1 1)] q34.2)) ([(getL r14.2.1 0), (i 0)], r14.2.2)).bind fun r34 =>
 exIf r34.1 (.exit 2) (
 pr.fin none r34.2.2 [(getL r34.2.1 0)]) (none)) (none)
theorem F_interpreterref14_lines6_eq (g : Call) (a0 : LV) : fnEv g c_interpreterref14_lines6 [a0] none = F_interpreterref14_lines6 g a0 := by kernel_rfl
noncomputable def F_ip6_Chain_k1 (g : Call) (q4 : List LV × Slots) :=
 sl (getL q4.1 5) (some (i 2)) (some (i 8)) fun v1a =>
 (pr.parts (LV.agg [(i 0), (LV.str [])]) [(0, (getL q4.1 4)), (1, v1a)]).bind fun v1b =>
 (pr.bsl (LV.agg [(i 0), (LV.str [])]) 1 [(0, v1b)]).bind fun v1c =>
 (pr.append 2 24 49 q4.2 (getL q4.1 0) v1c).bind fun v1d =>
 xS (getL q4.1 5) (i 0) fun v1g =>
 (pr.conv .i64 v1g).bind fun v1h =>
 sl (getL q4.1 5) (some (i 8)) none fun v1k =>
 pr.round z .normal [v1d.1, (getL q4.1 1), (getL q4.1 2), (getL q4.1 3), v1h, v1k] v1d.2
noncomputable def F_ip6_Chain_k2 (g : Call) (q4 : List LV × Slots) (vH : LV) :=
 sl (getL q4.1 5) (some (i 2)) (some vH) fun ve =>
 (pr.parts (LV.agg [(i 0), (LV.str [])]) [(0, (getL q4.1 4)), (1, ve)]).bind fun vf =>
 (pr.bsl (LV.agg [(i 0), (LV.str [])]) 1 [(0, vf)]).bind fun vg =>
 (pr.append 2 24 49 q4.2 (getL q4.1 0) vg).bind fun vh =>
 xS (getL q4.1 5) (i 0) fun vk =>
 (pr.conv .i64 vk).bind fun vl =>
 sl (getL q4.1 5) (some vH) none fun vo =>
 pr.round z .normal [vh.1, (getL q4.1 1), (getL q4.1 2), (getL q4.1 3), vl, vo] vh.2
noncomputable def F_ip6_Chain (g : Call) (a0 : LV) (a1 : LV) : Option (LV × Option LV) :=
 (whileW (fun q4 : List LV × Slots =>
 cl g id_ip6_extends q4.2 [(getL q4.1 4)] fun v6 =>
 condK v6 (
 ln (getL q4.1 5) fun vA =>
 bn .geq vA (i 2) fun vB =>
 condK vB (
 xS (getL q4.1 5) (i 1) fun vE =>
 (pr.conv .i64 vE).bind fun vF =>
 bn .mul vF (i 8) fun vG =>
 bn .add (i 8) vG fun vH =>
 bn .eql (getL q4.1 4) (i 0) fun vK =>
 ts vK (getL q4.1 0) fun vM =>
 gT vK (pr.len false vM) fun vN =>
 tb vK .gtr vN (i 0) fun vO =>
 pT vK vO fun vP =>
 condK vP (
 bn .neq (i 8) (i 0) fun vT =>
 condK vT (
 cl g id_ip6_fault q4.2 [(i 8)] fun vV =>
 pr.round z .ret [LV.nils, (i 0), (LV.str []), vV, (getL q4.1 4), (getL q4.1 5)] q4.2) (F_ip6_Chain_k2 g q4 vH)) (
 (pr.len false (getL q4.1 0)).bind fun vs =>
 bn .geq vs (i 8) fun vt =>
 condK vt (
 bn .neq (i 3) (i 0) fun vx =>
 condK vx (
 cl g id_ip6_fault q4.2 [(i 3)] fun vz =>
 pr.round z .ret [LV.nils, (i 0), (LV.str []), vz, (getL q4.1 4), (getL q4.1 5)] q4.2) (F_ip6_Chain_k2 g q4 vH)) (
 ln (getL q4.1 5) fun v0M =>
 bn .lss v0M vH fun v0O =>
 condK v0O (
 bn .neq (i 7) (i 0) fun v0S =>
 condK v0S (
 cl g id_ip6_fault q4.2 [(i 7)] fun v0U =>
 pr.round z .ret [LV.nils, (i 0), (LV.str []), v0U, (getL q4.1 4), (getL q4.1 5)] q4.2) (F_ip6_Chain_k2 g q4 vH)) (
 bn .neq (i 0) (i 0) fun v0r =>
 condK v0r (
 cl g id_ip6_fault q4.2 [(i 0)] fun v0t =>
 pr.round z .ret [LV.nils, (i 0), (LV.str []), v0t, (getL q4.1 4), (getL q4.1 5)] q4.2) (F_ip6_Chain_k2 g q4 vH))))) (
 bn .eql (getL q4.1 4) (i 0) fun v1G =>
 ts v1G (getL q4.1 0) fun v1I =>
 gT v1G (pr.len false v1I) fun v1J =>
 tb v1G .gtr v1J (i 0) fun v1K =>
 pT v1G v1K fun v1L =>
 condK v1L (
 bn .neq (i 8) (i 0) fun v1P =>
 condK v1P (
 cl g id_ip6_fault q4.2 [(i 8)] fun v1R =>
 pr.round z .ret [LV.nils, (i 0), (LV.str []), v1R, (getL q4.1 4), (getL q4.1 5)] q4.2) (F_ip6_Chain_k1 g q4)) (
 (pr.len false (getL q4.1 0)).bind fun v1o =>
 bn .geq v1o (i 8) fun v1p =>
 condK v1p (
 bn .neq (i 3) (i 0) fun v1t =>
 condK v1t (
 cl g id_ip6_fault q4.2 [(i 3)] fun v1v =>
 pr.round z .ret [LV.nils, (i 0), (LV.str []), v1v, (getL q4.1 4), (getL q4.1 5)] q4.2) (F_ip6_Chain_k1 g q4)) (
 ln (getL q4.1 5) fun v2I =>
 bn .lss v2I (i 8) fun v2K =>
 condK v2K (
 bn .neq (i 7) (i 0) fun v2O =>
 condK v2O (
 cl g id_ip6_fault q4.2 [(i 7)] fun v2Q =>
 pr.round z .ret [LV.nils, (i 0), (LV.str []), v2Q, (getL q4.1 4), (getL q4.1 5)] q4.2) (F_ip6_Chain_k1 g q4)) (
 bn .neq (i 0) (i 0) fun v2n =>
 condK v2n (
 cl g id_ip6_fault q4.2 [(i 0)] fun v2p =>
 pr.round z .ret [LV.nils, (i 0), (LV.str []), v2p, (getL q4.1 4), (getL q4.1 5)] q4.2) (F_ip6_Chain_k1 g q4)))))) (
 pr.round z (.exit 0) [(getL q4.1 0), (getL q4.1 1), (getL q4.1 2), (getL q4.1 3), (getL q4.1 4), (getL q4.1 5)] q4.2)) ([LV.nils, (i 0), (LV.str []), LV.nili, a0, a1], z)).bind fun r4 =>
 exIf r4.1 (.exit 0) (
 pr.fin none r4.2.2 [(getL r4.2.1 0), (getL r4.2.1 4), (getL r4.2.1 5), LV.nili]) (exIf r4.1 .ret (
 pr.fin none r4.2.2 [(getL r4.2.1 0), (getL r4.2.1 1), (getL r4.2.1 2), (getL r4.2.1 3)]) (none))
theorem F_ip6_Chain_eq (g : Call) (a0 : LV) (a1 : LV) : fnEv g c_ip6_Chain [a0, a1] none = F_ip6_Chain g a0 a1 := by kernel_rfl
noncomputable def F_num_New (g : Call) (a0 : LV) : Option (LV × Option LV) :=
 (pr.parts (LV.agg [(LV.str []), (i 0), LV.nilp]) [(0, a0)]).bind fun v2 =>
 (pr.boxM v2 5 z).bind fun v3 =>
 pr.fin none v3.2 [v3.1]
theorem F_num_New_eq (g : Call) (a0 : LV) : fnEv g c_num_New [a0] none = F_num_New g a0 := by kernel_rfl
noncomputable def F_num_Reader_U32 (g : Call) (h : LV) : Option (LV × Option LV) :=
 (pr.callRw g id_num_Reader_number (upd z 0 (.obj 0 h)) [(LV.ptr 0 0 [] 0), (i 4)]).bind fun v3 =>
 ex v3.1 0 fun v4 =>
 ex v3.1 1 fun v5 =>
 pr.fin (some h) v3.2 [v4, v5]
theorem F_num_Reader_U32_eq (g : Call) (h : LV) : fnEv g c_num_Reader_U32 [(LV.ptr 0 0 [] 0)] (some h) = F_num_Reader_U32 g h := by kernel_rfl
noncomputable def F_icmpmap_lost4_k1 (g : Call) (v4 : LV) (v1 : LV × Slots) (v0 : LV) :=
 bn .eql v4 (i 1) fun vE =>
 condK vE (
 lA 4 v1.2 v0 fun vG =>
 cl g id_icmpmap_said v1.2 [vG, (i 3), (i 10), (i 0)] fun vH =>
 ex vH 0 fun vI =>
 ex vH 1 fun vJ =>
 sA 4 v1.2 v1.1 vI fun vK =>
 lA 4 vK.2 v1.1 fun vM =>
 pr.fin none vK.2 [vM, vJ]) (
 bn .eql v4 (i 4) fun vN =>
 condK vN (
 lA 4 v1.2 v0 fun vP =>
 cl g id_icmpmap_said v1.2 [vP, (i 3), (i 3), (i 0)] fun vQ =>
 ex vQ 0 fun vR =>
 ex vQ 1 fun vS =>
 sA 4 v1.2 v1.1 vR fun vT =>
 lA 4 vT.2 v1.1 fun vV =>
 pr.fin none vT.2 [vV, vS]) (
 (pr.parts (LV.agg [(i 0), (i 0), (LV.int .u32 0), (LV.str [])]) []).bind fun vW =>
 sA 4 v1.2 v1.1 vW fun vX =>
 lA 4 vX.2 v1.1 fun vZ =>
 pr.fin none vX.2 [vZ, (LV.bool false)]))
noncomputable def F_icmpmap_lost4_k2 (g : Call) (v1 : LV × Slots) (v0 : LV) :=
 lA 4 v1.2 v0 fun v7 =>
 cl g id_icmpmap_said v1.2 [v7, (i 3), (i 1), (i 0)] fun v8 =>
 ex v8 0 fun v9 =>
 ex v8 1 fun vA =>
 sA 4 v1.2 v1.1 v9 fun vB =>
 lA 4 vB.2 v1.1 fun vD =>
 pr.fin none vB.2 [vD, vA]
noncomputable def F_icmpmap_lost4 (g : Call) (a0 : LV) : Option (LV × Option LV) :=
 bx a0 fun v0 =>
 (pr.alloc (LV.agg [(i 0), (i 0), (LV.int .u32 0), (LV.str [])]) 2 z).bind fun v1 =>
 fA 1 1 v0 fun v3 =>
 l1 v1.2 v3 fun v4 =>
 bn .eql v4 (i 0) fun v5 =>
 condK v5 (
 condK v5 (F_icmpmap_lost4_k2 g v1 v0) (F_icmpmap_lost4_k1 g v4 v1 v0)) (
 bn .eql v4 (i 2) fun va =>
 condK va (
 condK va (F_icmpmap_lost4_k2 g v1 v0) (F_icmpmap_lost4_k1 g v4 v1 v0)) (
 bn .eql v4 (i 3) fun v05 =>
 condK v05 (F_icmpmap_lost4_k2 g v1 v0) (F_icmpmap_lost4_k1 g v4 v1 v0)))
theorem F_icmpmap_lost4_eq (g : Call) (a0 : LV) : fnEv g c_icmpmap_lost4 [a0] none = F_icmpmap_lost4 g a0 := by kernel_rfl
noncomputable def F_icmpmap_pointer4 (g : Call) (a0 : LV) : Option (LV × Option LV) :=
 bn .eql a0 (LV.int .u32 0) fun v3 =>
 fs v3 a0 fun v5 =>
 fb v3 .eql v5 (LV.int .u32 1) fun v6 =>
 pF v3 v6 fun v7 =>
 condK v7 (
 (pr.conv .i64 a0).bind fun vA =>
 pr.fin none z [vA, (LV.bool true)]) (
 bn .eql a0 (LV.int .u32 4) fun vE =>
 fs vE a0 fun vG =>
 fb vE .eql vG (LV.int .u32 5) fun vH =>
 pF vE vH fun vI =>
 condK vI (
 pr.fin none z [(i 2), (LV.bool true)]) (
 bn .eql a0 (LV.int .u32 6) fun vN =>
 condK vN (
 pr.fin none z [(i 9), (LV.bool true)]) (
 bn .eql a0 (LV.int .u32 7) fun vS =>
 condK vS (
 pr.fin none z [(i 8), (LV.bool true)]) (
 bn .geq a0 (LV.int .u32 8) fun vX =>
 ts vX a0 fun vZ =>
 tb vX .leq vZ (LV.int .u32 23) fun va =>
 pT vX va fun vb =>
 condK vb (
 pr.fin none z [(i 12), (LV.bool true)]) (
 bn .geq a0 (LV.int .u32 24) fun vg =>
 ts vg a0 fun vi =>
 tb vg .leq vi (LV.int .u32 39) fun vj =>
 pT vg vj fun vk =>
 condK vk (
 pr.fin none z [(i 16), (LV.bool true)]) (
 pr.fin none z [(i 0), (LV.bool false)]))))))
theorem F_icmpmap_pointer4_eq (g : Call) (a0 : LV) : fnEv g c_icmpmap_pointer4 [a0] none = F_icmpmap_pointer4 g a0 := by kernel_rfl
noncomputable def F_head64_Proto_k1 (g : Call) (v7 : LV) (a0 : LV) :=
 condK v7 (
 pr.fin none z [(i 0), (LV.bool false)]) (
 bn .lss a0 (i 0) fun vC =>
 fs vC a0 fun vE =>
 fb vC .gtr vE (i 255) fun vF =>
 pF vC vF fun vG =>
 condK vG (
 pr.fin none z [(i 0), (LV.bool false)]) (
 pr.fin none z [a0, (LV.bool true)]))
noncomputable def F_head64_Proto (g : Call) (a0 : LV) : Option (LV × Option LV) :=
 bn .eql a0 (i 58) fun v3 =>
 condK v3 (
 pr.fin none z [(i 1), (LV.bool true)]) (
 bn .eql a0 (i 0) fun v7 =>
 condK v7 (F_head64_Proto_k1 g v7 a0) (
 bn .eql a0 (i 1) fun vM =>
 condK vM (F_head64_Proto_k1 g vM a0) (
 bn .eql a0 (i 2) fun vb =>
 condK vb (F_head64_Proto_k1 g vb a0) (
 bn .eql a0 (i 43) fun vq =>
 condK vq (F_head64_Proto_k1 g vq a0) (
 bn .eql a0 (i 44) fun v05 =>
 condK v05 (F_head64_Proto_k1 g v05 a0) (
 bn .eql a0 (i 60) fun v0K =>
 condK v0K (
 pr.fin none z [(i 0), (LV.bool false)]) (
 bn .lss a0 (i 0) fun v0P =>
 fs v0P a0 fun v0R =>
 fb v0P .gtr v0R (i 255) fun v0S =>
 pF v0P v0S fun v0T =>
 condK v0T (
 pr.fin none z [(i 0), (LV.bool false)]) (
 pr.fin none z [a0, (LV.bool true)]))))))))
theorem F_head64_Proto_eq (g : Call) (a0 : LV) : fnEv g c_head64_Proto [a0] none = F_head64_Proto g a0 := by kernel_rfl
noncomputable def F_sum_Of (g : Call) (a0 : LV) : Option (LV × Option LV) :=
 (pr.len false a0).bind fun v4 =>
 (whileW (fun q6 : List LV × Slots =>
 bn .lss (getL q6.1 2) v4 fun v7 =>
 condK v7 (
 (pr.idxAddr none 1 a0 (getL q6.1 2)).bind fun v8 =>
 l1 q6.2 v8 fun v9 =>
 cl g id_sum_add q6.2 [(getL q6.1 0), (getL q6.1 1), v9, (LV.int .u8 0)] fun vE =>
 cl g id_sum_fold q6.2 [vE] fun vF =>
 ln v9 fun vJ =>
 bn .add (getL q6.1 1) vJ fun vK =>
 bn .add (getL q6.1 2) (i 1) fun vM =>
 pr.round z .normal [vF, vK, vM] q6.2) (
 pr.round z (.exit 0) [(getL q6.1 0), (getL q6.1 1), (getL q6.1 2)] q6.2)) ([(i 0), (i 0), (i 0)], z)).bind fun r6 =>
 exIf r6.1 (.exit 0) (
 bn .sub (i 65535) (getL r6.2.1 0) fun vP =>
 pr.fin none r6.2.2 [vP]) (none)
theorem F_sum_Of_eq (g : Call) (a0 : LV) : fnEv g c_sum_Of [a0] none = F_sum_Of g a0 := by kernel_rfl
noncomputable def F_fault_turn4 (g : Call) (a0 : LV) (a1 : LV) (a2 : LV) (a3 : LV) : Option (LV × Option LV) :=
 bx a0 fun v0 =>
 bx a2 fun v1 =>
 bx a3 fun v2 =>
 fA 8 38 v0 fun v4 =>
 l1 z v4 fun v5 =>
 bn .gtr v5 (i 0) fun v6 =>
 condK v6 (
 fA 11 41 v0 fun v8 =>
 l1 z v8 fun v9 =>
 pr.fin none z [v9]) (
 fA 10 40 v0 fun vB =>
 l1 z vB fun vC =>
 bn .eql vC (i 6) fun vD =>
 ff vD 10 40 v0 fun vF =>
 fl vD z vF fun vG =>
 fb vD .eql vG (i 17) fun vH =>
 pF vD vH fun vI =>
 condK vI (
 fA 10 40 v0 fun vK =>
 l1 z vK fun vL =>
 fA 11 41 v0 fun vM =>
 l1 z vM fun vN =>
 fA 3 3 v0 fun vO =>
 sV 16 z vO none none fun vP =>
 bS z vP fun vQ =>
 fA 4 19 v0 fun vR =>
 sV 16 z vR none none fun vS =>
 bS z vS fun vT =>
 bn .add vQ vT fun vU =>
 fA 0 0 v1 fun vV =>
 sV 4 z vV none none fun vW =>
 bS z vW fun vX =>
 fA 0 0 v2 fun vY =>
 sV 4 z vY none none fun vZ =>
 bS z vZ fun va =>
 bn .add vX va fun vb =>
 fA 1 4 v1 fun vc =>
 l1 z vc fun vd =>
 fA 1 4 v2 fun ve =>
 l1 z ve fun vf =>
 cl g id_fault_ported z [vL, vN, vU, vb, vd, vf] fun vg =>
 pr.fin none z [vg]) (
 fA 10 40 v0 fun vi =>
 l1 z vi fun vj =>
 bn .eql vj (i 58) fun vk =>
 tf vk 11 41 v0 fun vm =>
 tl vk z vm fun vn =>
 gT vk (pr.len true vn) fun vo =>
 tb vk .geq vo (i 8) fun vp =>
 pT vk vp fun vq =>
 condK vq (
 (pr.mapNew 58 z).bind fun vs =>
 (pr.mapIns (some .u8) vs.2 vs.1 (LV.int .u8 128) (i 8)).bind fun vt =>
 (pr.mapIns (some .u8) vt.2 vs.1 (LV.int .u8 129) (i 0)).bind fun vu =>
 fA 11 41 v0 fun vw =>
 l1 vu.2 vw fun vx =>
 xS vx (i 0) fun vy =>
 (pr.mapGet (some .u8) (i 0) true vu.2 vs.1 vy).bind fun vz =>
 ex vz 0 fun v01 =>
 ex vz 1 fun v02 =>
 tf v02 11 41 v0 fun v07 =>
 tl v02 vu.2 v07 fun v08 =>
 gT v02 (pr.idxStr v08 (i 1)) fun v09 =>
 tb v02 .eql v09 (LV.int .u8 0) fun v0A =>
 pT v02 v0A fun v0B =>
 condK v0B (
 fA 11 41 v0 fun v0C =>
 l1 vu.2 v0C fun v0D =>
 fA 3 3 v0 fun v0E =>
 lA 16 vu.2 v0E fun v0F =>
 fA 4 19 v0 fun v0G =>
 lA 16 vu.2 v0G fun v0H =>
 cl g id_sum_Pseudo6 vu.2 [v0F, v0H, (i 58), a1] fun v0J =>
 fA 1 4 v1 fun v0L =>
 l1 vu.2 v0L fun v0M =>
 cl g id_fault_echoed vu.2 [v0D, v0J, (LV.str []), v01, v0M] fun v0N =>
 pr.fin none vu.2 [v0N]) (
 fA 11 41 v0 fun v0P =>
 l1 vu.2 v0P fun v0Q =>
 pr.fin none vu.2 [v0Q])) (
 fA 11 41 v0 fun v0S =>
 l1 z v0S fun v0T =>
 pr.fin none z [v0T])))
theorem F_fault_turn4_eq (g : Call) (a0 : LV) (a1 : LV) (a2 : LV) (a3 : LV) : fnEv g c_fault_turn4 [a0, a1, a2, a3] none = F_fault_turn4 g a0 a1 a2 a3 := by kernel_rfl
noncomputable def F_interpreterref04_Chain (g : Call) (a0 : LV) (a1 : LV) : Option (LV × Option LV) :=
 (pr.nilT 2 8 z).bind fun v4 =>
 (whileW (fun q5 : List LV × Slots =>
 bn .eql (getL q5.1 5) (i 0) fun v7 =>
 fs v7 (getL q5.1 5) fun v9 =>
 fb v7 .eql v9 (i 43) fun vA =>
 pF v7 vA fun vB =>
 fs vB (getL q5.1 5) fun vD =>
 fb vB .eql vD (i 60) fun vE =>
 pF vB vE fun vF =>
 condK vF (
 bn .eql (getL q5.1 5) (i 0) fun vH =>
 ts vH (getL q5.1 4) fun vJ =>
 gT vH (pr.len false vJ) fun vK =>
 tb vH .gtr vK (i 0) fun vL =>
 pT vH vL fun vM =>
 condK vM (
 pr.round v4.2 .ret [LV.nils, (i 0), (LV.str []), (i 8), (getL q5.1 4), (getL q5.1 5), (getL q5.1 6)] q5.2) (
 (pr.len false (getL q5.1 4)).bind fun vS =>
 bn .eql vS (i 8) fun vT =>
 condK vT (
 pr.round v4.2 .ret [LV.nils, (i 0), (LV.str []), (i 3), (getL q5.1 4), (getL q5.1 5), (getL q5.1 6)] q5.2) (
 ln (getL q5.1 6) fun vZ =>
 bn .lss vZ (i 8) fun va =>
 fs va (getL q5.1 6) fun vc =>
 gF va (pr.len true vc) fun vd =>
 fs va (getL q5.1 6) fun ve =>
 gF va (pr.idxStr ve (i 1)) fun vf =>
 gF va (pr.conv .i64 vf) fun vg =>
 fb va .add (i 1) vg fun vh =>
 fb va .mul (i 8) vh fun vi =>
 fb va .lss vd vi fun vj =>
 pF va vj fun vk =>
 condK vk (
 pr.round v4.2 .ret [LV.nils, (i 0), (LV.str []), (i 7), (getL q5.1 4), (getL q5.1 5), (getL q5.1 6)] q5.2) (
 xS (getL q5.1 6) (i 1) fun vq =>
 (pr.conv .i64 vq).bind fun vr =>
 bn .add (i 1) vr fun vs =>
 bn .mul (i 8) vs fun vt =>
 sl (getL q5.1 6) (some (i 2)) (some vt) fun vz =>
 (pr.parts (LV.agg [(i 0), (LV.str [])]) [(0, (getL q5.1 5)), (1, vz)]).bind fun v00 =>
 (pr.bsl (LV.agg [(i 0), (LV.str [])]) 1 [(0, v00)]).bind fun v01 =>
 (pr.append 2 24 55 q5.2 (getL q5.1 4) v01).bind fun v02 =>
 xS (getL q5.1 6) (i 0) fun v05 =>
 (pr.conv .i64 v05).bind fun v06 =>
 sl (getL q5.1 6) (some vt) none fun v0A =>
 pr.round v4.2 .normal [(getL q5.1 0), (getL q5.1 1), (getL q5.1 2), (getL q5.1 3), v02.1, v06, v0A] v02.2)))) (
 pr.round v4.2 (.exit 0) [(getL q5.1 0), (getL q5.1 1), (getL q5.1 2), (getL q5.1 3), (getL q5.1 4), (getL q5.1 5), (getL q5.1 6)] q5.2)) ([LV.nils, (i 0), (LV.str []), (i 0), v4.1, a0, a1], v4.2)).bind fun r5 =>
 exIf r5.1 (.exit 0) (
 pr.fin none r5.2.2 [(getL r5.2.1 4), (getL r5.2.1 5), (getL r5.2.1 6), (i 0)]) (exIf r5.1 .ret (
 pr.fin none r5.2.2 [(getL r5.2.1 0), (getL r5.2.1 1), (getL r5.2.1 2), (getL r5.2.1 3)]) (exIf r5.1 .ret (
 pr.fin none r5.2.2 [(getL r5.2.1 0), (getL r5.2.1 1), (getL r5.2.1 2), (getL r5.2.1 3)]) (exIf r5.1 .ret (
 pr.fin none r5.2.2 [(getL r5.2.1 0), (getL r5.2.1 1), (getL r5.2.1 2), (getL r5.2.1 3)]) (none))))
theorem F_interpreterref04_Chain_eq (g : Call) (a0 : LV) (a1 : LV) : fnEv g c_interpreterref04_Chain [a0, a1] none = F_interpreterref04_Chain g a0 a1 := by kernel_rfl
noncomputable def F_interpreterref13_Proto (g : Call) (a0 : LV) : Option (LV × Option LV) :=
 bn .eql a0 (i 58) fun v3 =>
 condK v3 (
 pr.fin none z [(i 1), (LV.bool true)]) (
 bn .leq a0 (i 2) fun v7 =>
 fs v7 a0 fun v9 =>
 fb v7 .eql v9 (i 43) fun vA =>
 pF v7 vA fun vB =>
 fs vB a0 fun vD =>
 fb vB .eql vD (i 44) fun vE =>
 pF vB vE fun vF =>
 fs vF a0 fun vH =>
 fb vF .eql vH (i 60) fun vI =>
 pF vF vI fun vJ =>
 fs vJ a0 fun vL =>
 fb vJ .gtr vL (i 255) fun vM =>
 pF vJ vM fun vN =>
 condK vN (
 pr.fin none z [(i 0), (LV.bool false)]) (
 pr.fin none z [a0, (LV.bool true)]))
theorem F_interpreterref13_Proto_eq (g : Call) (a0 : LV) : fnEv g c_interpreterref13_Proto [a0] none = F_interpreterref13_Proto g a0 := by kernel_rfl
noncomputable def F_interpreterref03_within (g : Call) (a0 : LV) (a1 : LV) : Option (LV × Option LV) :=
 bn .geq a0 (i 0) fun v2 =>
 ts v2 a0 fun v4 =>
 ts v2 a1 fun v5 =>
 tb v2 .leq v4 v5 fun v6 =>
 pT v2 v6 fun v7 =>
 pr.fin none z [v7]
theorem F_interpreterref03_within_eq (g : Call) (a0 : LV) (a1 : LV) : fnEv g c_interpreterref03_within [a0, a1] none = F_interpreterref03_within g a0 a1 := by kernel_rfl
noncomputable def F_interpreterref02_Total (g : Call) (a0 : LV) : Option (LV × Option LV) :=
 (whileW (fun q3 : List LV × Slots =>
 (pr.len false a0).bind fun v6 =>
 bn .lss (getL q3.1 1) v6 fun v7 =>
 condK v7 (
 (pr.idxAddr none 1 a0 (getL q3.1 1)).bind fun vB =>
 l1 q3.2 vB fun vC =>
 bn .add (getL q3.1 0) vC fun vD =>
 bn .add (getL q3.1 1) (i 1) fun vG =>
 pr.round z .normal [vD, vG] q3.2) (
 pr.round z (.exit 0) [(getL q3.1 0), (getL q3.1 1)] q3.2)) ([(i 0), (i 0)], z)).bind fun r3 =>
 exIf r3.1 (.exit 0) (
 (whileW (fun q18 : List LV × Slots =>
 bn .gtr (getL q18.1 0) (i 65535) fun vK =>
 condK vK (
 bn .quo (getL q18.1 0) (i 65536) fun vM =>
 bn .rem (getL q18.1 0) (i 65536) fun vO =>
 bn .add vM vO fun vP =>
 pr.round r3.2.2 .normal [vP] q18.2) (
 pr.round r3.2.2 (.exit 2) [(getL q18.1 0)] q18.2)) ([(getL r3.2.1 0)], r3.2.2)).bind fun r18 =>
 exIf r18.1 (.exit 2) (
 pr.fin none r18.2.2 [(getL r18.2.1 0)]) (none)) (none)
theorem F_interpreterref02_Total_eq (g : Call) (a0 : LV) : fnEv g c_interpreterref02_Total [a0] none = F_interpreterref02_Total g a0 := by kernel_rfl
noncomputable def F_interpreterref02_Words_k1 (g : Call) (v9 : LV) (q12 : List LV × Slots) (v1 : LV × Slots) :=
 xS v9 (getL q12.1 1) fun vK =>
 (pr.conv .i64 vK).bind fun vL =>
 bn .mul (i 256) vL fun vM =>
 bn .add (getL q12.1 1) (i 1) fun vP =>
 xS v9 vP fun vQ =>
 (pr.conv .i64 vQ).bind fun vR =>
 bn .add vM vR fun vS =>
 (pr.bsl (i 0) 1 [(0, vS)]).bind fun vT =>
 (pr.append 1 8 32 q12.2 (getL q12.1 0) vT).bind fun vU =>
 bn .add (getL q12.1 1) (i 2) fun vX =>
 pr.round v1.2 .normal [vU.1, vX] vU.2
noncomputable def F_interpreterref02_Words (g : Call) (a0 : LV) : Option (LV × Option LV) :=
 (pr.nilT 1 3 z).bind fun v1 =>
 ln a0 fun v3 =>
 bn .rem v3 (i 2) fun v4 =>
 bn .eql v4 (i 1) fun v5 =>
 condK v5 (
 (pr.bsl (LV.int .u8 0) 1 [(0, (LV.int .u8 0))]).bind fun v7 =>
 bS v1.2 v7 fun v8 =>
 bn .add a0 v8 fun v9 =>
 (whileW (fun q12 : List LV × Slots =>
 ln v9 fun vF =>
 bn .lss (getL q12.1 1) vF fun vG =>
 condK vG (F_interpreterref02_Words_k1 g v9 q12 v1) (
 pr.round v1.2 (.exit 0) [(getL q12.1 0), (getL q12.1 1)] q12.2)) ([v1.1, (i 0)], v1.2)).bind fun r12 =>
 exIf r12.1 (.exit 0) (
 pr.fin none r12.2.2 [(getL r12.2.1 0)]) (none)) (
 (whileW (fun q38 : List LV × Slots =>
 ln a0 fun vf =>
 bn .lss (getL q38.1 1) vf fun vg =>
 condK vg (F_interpreterref02_Words_k1 g a0 q38 v1) (
 pr.round v1.2 (.exit 0) [(getL q38.1 0), (getL q38.1 1)] q38.2)) ([v1.1, (i 0)], v1.2)).bind fun r38 =>
 exIf r38.1 (.exit 0) (
 pr.fin none r38.2.2 [(getL r38.2.1 0)]) (none))
theorem F_interpreterref02_Words_eq (g : Call) (a0 : LV) : fnEv g c_interpreterref02_Words [a0] none = F_interpreterref02_Words g a0 := by kernel_rfl
noncomputable def F_ip4_fault (g : Call) (a0 : LV) : Option (LV × Option LV) :=
 (pr.parts (LV.agg [(i 0), (i 0)]) [(0, a0)]).bind fun v2 =>
 bx v2 fun v3 =>
 (pr.iface ty_ptr_num_Fault v3).bind fun v4 =>
 pr.fin none z [v4]
theorem F_ip4_fault_eq (g : Call) (a0 : LV) : fnEv g c_ip4_fault [a0] none = F_ip4_fault g a0 := by kernel_rfl
noncomputable def F_ip4_Parse_1 (g : Call) (a0 : LV) (a1 : LV) : Option (LV × Option LV) :=
 l1 z a1 fun v1 =>
 xS v1 a0 fun v3 =>
 (pr.conv .i64 v3).bind fun v4 =>
 bn .shl v4 (LV.int .u64 8) fun v5 =>
 l1 z a1 fun v6 =>
 bn .add a0 (i 1) fun v8 =>
 xS v6 v8 fun v9 =>
 (pr.conv .i64 v9).bind fun vA =>
 bn .or v5 vA fun vB =>
 pr.fin none z [vB]
theorem F_ip4_Parse_1_eq (g : Call) (a0 : LV) (a1 : LV) : fnEv g c_ip4_Parse_1 [a0, a1] none = F_ip4_Parse_1 g a0 a1 := by kernel_rfl
noncomputable def F_ip4_why (g : Call) (a0 : LV) : Option (LV × Option LV) :=
 bx a0 fun v0 =>
 fA 0 0 v0 fun v2 =>
 l1 z v2 fun v3 =>
 fA 2 2 v0 fun v4 =>
 l1 z v4 fun v5 =>
 fA 3 3 v0 fun v6 =>
 l1 z v6 fun v7 =>
 (pr.bsl (i 0) 3 [(0, v3), (1, v5), (2, v7)]).bind fun v8 =>
 cl g id_ip4_byteful z [v8] fun v9 =>
 nt v9 fun vA =>
 ff vA 1 1 v0 fun vC =>
 fl vA z vC fun vD =>
 fb vA .lss vD (i 0) fun vE =>
 pF vA vE fun vF =>
 ff vF 1 1 v0 fun vH =>
 fl vF z vH fun vI =>
 fb vF .gtr vI (i 65535) fun vJ =>
 pF vF vJ fun vK =>
 ff vK 4 4 v0 fun vM =>
 fl vK z vM fun vN =>
 fb vK .lss vN (i 0) fun vO =>
 pF vK vO fun vP =>
 ff vP 4 4 v0 fun vR =>
 fl vP z vR fun vS =>
 fb vP .gtr vS (i 65528) fun vT =>
 pF vP vT fun vU =>
 ff vU 4 4 v0 fun vW =>
 fl vU z vW fun vX =>
 fb vU .rem vX (i 8) fun vY =>
 fb vU .neq vY (i 0) fun vZ =>
 pF vU vZ fun va =>
 condK va (
 pr.fin none z [(i 13)]) (
 fA 9 15 v0 fun vd =>
 l1 z vd fun ve =>
 ln ve fun vf =>
 bn .gtr vf (i 40) fun vg =>
 ff vg 9 15 v0 fun vi =>
 fl vg z vi fun vj =>
 gF vg (pr.len true vj) fun vk =>
 fb vg .rem vk (i 4) fun vl =>
 fb vg .neq vl (i 0) fun vm =>
 pF vg vm fun vn =>
 ff vn 6 6 v0 fun vp =>
 fl vn z vp fun vq =>
 fs vn vq fun vr =>
 tf vr 10 16 v0 fun vs =>
 tl vr z vs fun vt =>
 tb vr .eql vt (LV.str []) fun vu =>
 ts vr vu fun vv =>
 ff vv 10 16 v0 fun vw =>
 fl vv z vw fun vx =>
 gF vv (pr.len true vx) fun vy =>
 fb vv .rem vy (i 8) fun vz =>
 fb vv .neq vz (i 0) fun v00 =>
 gT vr (pr.pick vv (LV.bool true) v00) fun v01 =>
 gF vn (pr.pick vr v01 (LV.bool false)) fun v02 =>
 pF vn v02 fun v03 =>
 condK v03 (
 pr.fin none z [(i 8)]) (
 fA 10 16 v0 fun v06 =>
 l1 z v06 fun v07 =>
 ln v07 fun v08 =>
 fA 9 15 v0 fun v09 =>
 l1 z v09 fun v0A =>
 ln v0A fun v0B =>
 bn .sub (i 65515) v0B fun v0C =>
 fA 4 4 v0 fun v0D =>
 l1 z v0D fun v0E =>
 bn .sub v0C v0E fun v0F =>
 bn .gtr v08 v0F fun v0G =>
 condK v0G (
 pr.fin none z [(i 3)]) (
 pr.fin none z [(i 0)])))
theorem F_ip4_why_eq (g : Call) (a0 : LV) : fnEv g c_ip4_why [a0] none = F_ip4_why g a0 := by kernel_rfl
noncomputable def F_num_Big (g : Call) (a0 : LV) (a1 : LV) : Option (LV × Option LV) :=
 bn .neq a1 (i 1) fun v3 =>
 ts v3 a1 fun v5 =>
 tb v3 .neq v5 (i 2) fun v6 =>
 pT v3 v6 fun v7 =>
 ts v7 a1 fun v9 =>
 tb v7 .neq v9 (i 4) fun vA =>
 pT v7 vA fun vB =>
 condK vB (
 (pr.parts (LV.agg [(i 0), (i 0)]) [(0, (i 1))]).bind fun vD =>
 bx vD fun vE =>
 (pr.iface ty_ptr_num_Fault vE).bind fun vF =>
 pr.fin none z [(LV.str []), vF]) (
 bn .lss a0 (i 0) fun vJ =>
 fs vJ a0 fun vL =>
 fs vJ a1 fun vM =>
 fb vJ .mul (i 8) vM fun vN =>
 fb vJ .shl (i 1) vN fun vO =>
 fb vJ .geq vL vO fun vP =>
 pF vJ vP fun vQ =>
 condK vQ (
 (pr.parts (LV.agg [(i 0), (i 0)]) [(0, (i 13))]).bind fun vS =>
 bx vS fun vT =>
 (pr.iface ty_ptr_num_Fault vT).bind fun vU =>
 pr.fin none z [(LV.str []), vU]) (
 (pr.mkSl 36 z a1 a1).bind fun vY =>
 (whileW (fun q38 : List LV × Slots =>
 bn .lss (getL q38.1 0) a1 fun vd =>
 condK vd (
 bn .sub a1 (i 1) fun vk =>
 bn .sub vk (getL q38.1 0) fun vm =>
 bn .mul (i 8) vm fun vn =>
 bn .shr a0 vn fun vo =>
 (pr.conv .u8 vo).bind fun vp =>
 (pr.idxAddr none 1 vY.1 (getL q38.1 0)).bind fun vq =>
 s1 q38.2 vq vp fun vr =>
 bn .add (getL q38.1 0) (i 1) fun vs =>
 pr.round vY.2 .normal [vs] vr.2) (
 pr.round vY.2 (.exit 1) [(getL q38.1 0)] q38.2)) ([(i 0)], vY.2)).bind fun r38 =>
 exIf r38.1 (.exit 1) (
 bS r38.2.2 vY.1 fun vv =>
 pr.fin none r38.2.2 [vv, LV.nili]) (none)))
theorem F_num_Big_eq (g : Call) (a0 : LV) (a1 : LV) : fnEv g c_num_Big [a0, a1] none = F_num_Big g a0 a1 := by kernel_rfl
noncomputable def F_ip4_big (g : Call) (a0 : LV) (a1 : LV) : Option (LV × Option LV) :=
 cl g id_num_Big z [a0, a1] fun v3 =>
 ex v3 0 fun v5 =>
 ex v3 1 fun v6 =>
 pr.fin none z [v5]
theorem F_ip4_big_eq (g : Call) (a0 : LV) (a1 : LV) : fnEv g c_ip4_big [a0, a1] none = F_ip4_big g a0 a1 := by kernel_rfl
noncomputable def F_interpreterref01_Reader_Number (g : Call) (h : LV) (a1 : LV) : Option (LV × Option LV) :=
 (pr.callRw g id_interpreterref01_Reader_Text (upd z 0 (.obj 0 h)) [(LV.ptr 0 0 [] 0), a1]).bind fun v4 =>
 ex v4.1 0 fun v6 =>
 ex v4.1 1 fun v7 =>
 (whileW (fun q12 : List LV × Slots =>
 ln v6 fun vF =>
 bn .lss (getL q12.1 1) vF fun vG =>
 condK vG (
 bn .mul (getL q12.1 0) (i 256) fun vI =>
 xS v6 (getL q12.1 1) fun vL =>
 (pr.conv .i64 vL).bind fun vM =>
 bn .add vI vM fun vN =>
 bn .add (getL q12.1 1) (i 1) fun vQ =>
 pr.round v4.2 .normal [vN, vQ] q12.2) (
 pr.round v4.2 (.exit 0) [(getL q12.1 0), (getL q12.1 1)] q12.2)) ([(i 0), (i 0)], v4.2)).bind fun r12 =>
 exIf r12.1 (.exit 0) (
 pr.fin (some h) r12.2.2 [(getL r12.2.1 0), v7]) (none)
theorem F_interpreterref01_Reader_Number_eq (g : Call) (h : LV) (a1 : LV) : fnEv g c_interpreterref01_Reader_Number [(LV.ptr 0 0 [] 0), a1] (some h) = F_interpreterref01_Reader_Number g h a1 := by kernel_rfl
noncomputable def F_fault_ported (g : Call) (a0 : LV) (a1 : LV) (a2 : LV) (a3 : LV) (a4 : LV) (a5 : LV) : Option (LV × Option LV) :=
 ln a1 fun v2 =>
 bn .lss v2 (i 4) fun v3 =>
 condK v3 (
 pr.fin none z [a1]) (
 cl g id_fault_big z [a4, (i 2)] fun v7 =>
 cl g id_fault_big z [a5, (i 2)] fun v9 =>
 bn .add v7 v9 fun vA =>
 sl a1 none (some (i 4)) fun vD =>
 sl a1 (some (i 4)) none fun vH =>
 bn .add vA vH fun vI =>
 bn .eql a0 (i 17) fun vL =>
 condK vL (
 bn .add a2 vD fun vP =>
 bn .add a3 vA fun vS =>
 cl g id_fault_update z [vI, (i 6), vP, vS, (LV.bool true)] fun vT =>
 pr.fin none z [vT]) (
 bn .add a2 vD fun vY =>
 bn .add a3 vA fun vb =>
 cl g id_fault_update z [vI, (i 16), vY, vb, (LV.bool false)] fun vc =>
 pr.fin none z [vc]))
theorem F_fault_ported_eq (g : Call) (a0 : LV) (a1 : LV) (a2 : LV) (a3 : LV) (a4 : LV) (a5 : LV) : fnEv g c_fault_ported [a0, a1, a2, a3, a4, a5] none = F_fault_ported g a0 a1 a2 a3 a4 a5 := by kernel_rfl
noncomputable def F_fault_echoed (g : Call) (a0 : LV) (a1 : LV) (a2 : LV) (a3 : LV) (a4 : LV) : Option (LV × Option LV) :=
 sl a0 none (some (i 2)) fun v2 =>
 sl a0 (some (i 4)) (some (i 6)) fun v4 =>
 bn .add v2 v4 fun v5 =>
 cl g id_fault_big z [a3, (i 1)] fun v8 =>
 bn .add v8 (LV.str [0]) fun v9 =>
 sl a0 (some (i 2)) (some (i 4)) fun vD =>
 bn .add v9 vD fun vE =>
 cl g id_fault_big z [a4, (i 2)] fun vG =>
 bn .add vE vG fun vH =>
 sl a0 (some (i 6)) none fun vJ =>
 bn .add vH vJ fun vK =>
 bn .add a1 v5 fun vP =>
 bn .add a2 v9 fun vS =>
 cl g id_fault_big z [a4, (i 2)] fun vU =>
 bn .add vS vU fun vV =>
 cl g id_fault_update z [vK, (i 2), vP, vV, (LV.bool false)] fun vW =>
 pr.fin none z [vW]
theorem F_fault_echoed_eq (g : Call) (a0 : LV) (a1 : LV) (a2 : LV) (a3 : LV) (a4 : LV) : fnEv g c_fault_echoed [a0, a1, a2, a3, a4] none = F_fault_echoed g a0 a1 a2 a3 a4 := by kernel_rfl
noncomputable def F_sum_Pseudo6 (g : Call) (a0 : LV) (a1 : LV) (a2 : LV) (a3 : LV) : Option (LV × Option LV) :=
 bx a0 fun v0 =>
 bx a1 fun v1 =>
 sV 16 z v0 none none fun v3 =>
 bS z v3 fun v4 =>
 sV 16 z v1 none none fun v5 =>
 bS z v5 fun v6 =>
 bn .add v4 v6 fun v7 =>
 cl g id_sum_big z [a3, (i 4)] fun v9 =>
 bn .add v7 v9 fun vA =>
 bn .add vA (LV.str [0, 0, 0]) fun vB =>
 cl g id_sum_big z [a2, (i 1)] fun vD =>
 bn .add vB vD fun vE =>
 pr.fin none z [vE]
theorem F_sum_Pseudo6_eq (g : Call) (a0 : LV) (a1 : LV) (a2 : LV) (a3 : LV) : fnEv g c_sum_Pseudo6 [a0, a1, a2, a3] none = F_sum_Pseudo6 g a0 a1 a2 a3 := by kernel_rfl
noncomputable def F_icmpmap_Plateau (g : Call) (a0 : LV) : Option (LV × Option LV) :=
 (pr.bsl (i 0) 10 [(0, (i 65535)), (1, (i 32000)), (2, (i 17914)), (3, (i 8166)), (4, (i 4352)), (5, (i 2002)), (6, (i 1492)), (7, (i 1006)), (8, (i 508)), (9, (i 296))]).bind fun v1 =>
 (pr.len false v1).bind fun v2 =>
 (whileW (fun q4 : List LV × Slots =>
 bn .lss (getL q4.1 1) v2 fun v5 =>
 condK v5 (
 (pr.idxAddr none 1 v1 (getL q4.1 1)).bind fun v6 =>
 l1 q4.2 v6 fun v7 =>
 bn .lss v7 a0 fun vB =>
 condK vB (
 pr.round z .ret [v7, (getL q4.1 1)] q4.2) (
 bn .add (getL q4.1 1) (i 1) fun vE =>
 pr.round z .normal [(getL q4.1 0), vE] q4.2)) (
 pr.round z (.exit 0) [(getL q4.1 0), (getL q4.1 1)] q4.2)) ([(i 0), (i 0)], z)).bind fun r4 =>
 exIf r4.1 (.exit 0) (
 pr.fin none r4.2.2 [(i 68)]) (exIf r4.1 .ret (
 pr.fin none r4.2.2 [(getL r4.2.1 0)]) (none))
theorem F_icmpmap_Plateau_eq (g : Call) (a0 : LV) : fnEv g c_icmpmap_Plateau [a0] none = F_icmpmap_Plateau g a0 := by kernel_rfl
noncomputable def F_interpreterref15_sums (g : Call) (a0 : LV) (a1 : LV) (a2 : LV) (a3 : LV) (a4 : LV) : Option (LV × Option LV) :=
 ln a0 fun v2 =>
 bn .add a1 (i 2) fun v4 =>
 bn .lss v2 v4 fun v5 =>
 condK v5 (
 pr.fin none z [a0]) (
 cl g id_interpreterref15_number z [a0, a1, (i 2)] fun vA =>
 ts a4 vA fun vE =>
 tb a4 .eql vE (i 0) fun vF =>
 pT a4 vF fun vG =>
 condK vG (
 pr.fin none z [a0]) (
 cl g id_interpreterref02_Update z [vA, a2, a3] fun vM =>
 ts a4 vM fun vQ =>
 tb a4 .eql vQ (i 0) fun vR =>
 pT a4 vR fun vS =>
 condK vS (
 sl a0 none (some a1) fun vW =>
 cl g id_interpreterref15_put z [(i 65535), (i 2)] fun vY =>
 bn .add vW vY fun vZ =>
 bn .add a1 (i 2) fun vc =>
 sl a0 (some vc) none fun vd =>
 bn .add vZ vd fun ve =>
 pr.fin none z [ve]) (
 sl a0 none (some a1) fun vi =>
 cl g id_interpreterref15_put z [vM, (i 2)] fun vk =>
 bn .add vi vk fun vl =>
 bn .add a1 (i 2) fun vo =>
 sl a0 (some vo) none fun vp =>
 bn .add vl vp fun vq =>
 pr.fin none z [vq])))
theorem F_interpreterref15_sums_eq (g : Call) (a0 : LV) (a1 : LV) (a2 : LV) (a3 : LV) (a4 : LV) : fnEv g c_interpreterref15_sums [a0, a1, a2, a3, a4] none = F_interpreterref15_sums g a0 a1 a2 a3 a4 := by kernel_rfl
noncomputable def F_interpreterref02_low (g : Call) (a0 : LV) (a1 : LV) : Option (LV × Option LV) :=
 (whileW (fun q3 : List LV × Slots =>
 bn .lss (getL q3.1 1) a1 fun v6 =>
 condK v6 (
 bn .mul (getL q3.1 0) (i 256) fun v8 =>
 bn .add (getL q3.1 1) (i 1) fun vB =>
 pr.round z .normal [v8, vB] q3.2) (
 pr.round z (.exit 0) [(getL q3.1 0), (getL q3.1 1)] q3.2)) ([(i 1), (i 0)], z)).bind fun r3 =>
 exIf r3.1 (.exit 0) (
 bn .rem a0 (getL r3.2.1 0) fun vF =>
 bn .lss vF (i 0) fun vI =>
 condK vI (
 bn .add vF (getL r3.2.1 0) fun vL =>
 cl g id_interpreterref01_Put r3.2.2 [vL, a1] fun vP =>
 pr.fin none r3.2.2 [vP]) (
 cl g id_interpreterref01_Put r3.2.2 [vF, a1] fun vT =>
 pr.fin none r3.2.2 [vT])) (none)
theorem F_interpreterref02_low_eq (g : Call) (a0 : LV) (a1 : LV) : fnEv g c_interpreterref02_low [a0, a1] none = F_interpreterref02_low g a0 a1 := by kernel_rfl
noncomputable def F_interpreterref01_Put (g : Call) (a0 : LV) (a1 : LV) : Option (LV × Option LV) :=
 (whileW (fun q3 : List LV × Slots =>
 bn .lss (getL q3.1 2) a1 fun v6 =>
 condK v6 (
 bn .rem (getL q3.1 1) (i 256) fun v8 =>
 (pr.conv .u8 v8).bind fun v9 =>
 (pr.bsl (LV.int .u8 0) 1 [(0, v9)]).bind fun vA =>
 bS q3.2 vA fun vB =>
 bn .add vB (getL q3.1 0) fun vD =>
 bn .quo (getL q3.1 1) (i 256) fun vG =>
 bn .add (getL q3.1 2) (i 1) fun vJ =>
 pr.round z .normal [vD, vG, vJ] q3.2) (
 pr.round z (.exit 0) [(getL q3.1 0), (getL q3.1 1), (getL q3.1 2)] q3.2)) ([(LV.str []), a0, (i 0)], z)).bind fun r3 =>
 exIf r3.1 (.exit 0) (
 pr.fin none r3.2.2 [(getL r3.2.1 0)]) (none)
theorem F_interpreterref01_Put_eq (g : Call) (a0 : LV) (a1 : LV) : fnEv g c_interpreterref01_Put [a0, a1] none = F_interpreterref01_Put g a0 a1 := by kernel_rfl
noncomputable def F_ip6_extends (g : Call) (a0 : LV) : Option (LV × Option LV) :=
 bn .eql a0 (i 0) fun v2 =>
 fs v2 a0 fun v4 =>
 fb v2 .eql v4 (i 43) fun v5 =>
 pF v2 v5 fun v6 =>
 fs v6 a0 fun v8 =>
 fb v6 .eql v8 (i 60) fun v9 =>
 pF v6 v9 fun vA =>
 pr.fin none z [vA]
theorem F_ip6_extends_eq (g : Call) (a0 : LV) : fnEv g c_ip6_extends [a0] none = F_ip6_extends g a0 := by kernel_rfl
noncomputable def F_ip6_fault (g : Call) (a0 : LV) : Option (LV × Option LV) :=
 (pr.parts (LV.agg [(i 0), (i 0)]) [(0, a0)]).bind fun v2 =>
 bx v2 fun v3 =>
 (pr.iface ty_ptr_num_Fault v3).bind fun v4 =>
 pr.fin none z [v4]
theorem F_ip6_fault_eq (g : Call) (a0 : LV) : fnEv g c_ip6_fault [a0] none = F_ip6_fault g a0 := by kernel_rfl
noncomputable def F_num_Reader_number (g : Call) (h : LV) (a1 : LV) : Option (LV × Option LV) :=
 (pr.callRw g id_num_Reader_Text (upd z 0 (.obj 0 h)) [(LV.ptr 0 0 [] 0), a1]).bind fun v4 =>
 ex v4.1 0 fun v6 =>
 ex v4.1 1 fun v7 =>
 ln v6 fun vC =>
 (whileW (fun q14 : List LV × Slots =>
 bn .lss (getL q14.1 1) vC fun vF =>
 condK vF (
 bn .shl (getL q14.1 0) (LV.int .u64 8) fun vJ =>
 xS v6 (getL q14.1 1) fun vM =>
 (pr.conv .i64 vM).bind fun vN =>
 bn .or vJ vN fun vO =>
 bn .add (getL q14.1 1) (i 1) fun vQ =>
 pr.round v4.2 .normal [vO, vQ] q14.2) (
 pr.round v4.2 (.exit 0) [(getL q14.1 0), (getL q14.1 1)] q14.2)) ([(i 0), (i 0)], v4.2)).bind fun r14 =>
 exIf r14.1 (.exit 0) (
 pr.fin (some h) r14.2.2 [(getL r14.2.1 0), v7]) (none)
theorem F_num_Reader_number_eq (g : Call) (h : LV) (a1 : LV) : fnEv g c_num_Reader_number [(LV.ptr 0 0 [] 0), a1] (some h) = F_num_Reader_number g h a1 := by kernel_rfl
noncomputable def F_sum_fold (g : Call) (a0 : LV) : Option (LV × Option LV) :=
 (whileW (fun q1 : List LV × Slots =>
 bn .gtr (getL q1.1 0) (i 65535) fun v3 =>
 condK v3 (
 bn .shr (getL q1.1 0) (LV.int .u64 16) fun v5 =>
 bn .and (getL q1.1 0) (i 65535) fun v7 =>
 bn .add v5 v7 fun v8 =>
 pr.round z .normal [v8] q1.2) (
 pr.round z (.exit 0) [(getL q1.1 0)] q1.2)) ([a0], z)).bind fun r1 =>
 exIf r1.1 (.exit 0) (
 pr.fin none r1.2.2 [(getL r1.2.1 0)]) (none)
theorem F_sum_fold_eq (g : Call) (a0 : LV) : fnEv g c_sum_fold [a0] none = F_sum_fold g a0 := by kernel_rfl
noncomputable def F_sum_add (g : Call) (a0 : LV) (a1 : LV) (a2 : LV) (a3 : LV) : Option (LV × Option LV) :=
 ln a2 fun v2 =>
 (whileW (fun q4 : List LV × Slots =>
 bn .lss (getL q4.1 1) v2 fun v5 =>
 condK v5 (
 xS a2 (getL q4.1 1) fun vA =>
 bn .xor vA a3 fun vC =>
 (pr.conv .i64 vC).bind fun vD =>
 bn .add a1 (getL q4.1 1) fun vH =>
 bn .rem vH (i 2) fun vI =>
 bn .eql vI (i 0) fun vJ =>
 condK vJ (
 bn .shl vD (LV.int .u64 8) fun vL =>
 bn .add (getL q4.1 0) vL fun vP =>
 bn .add (getL q4.1 1) (i 1) fun vR =>
 pr.round z .normal [vP, vR] q4.2) (
 bn .add (getL q4.1 0) vD fun vV =>
 bn .add (getL q4.1 1) (i 1) fun vX =>
 pr.round z .normal [vV, vX] q4.2)) (
 pr.round z (.exit 0) [(getL q4.1 0), (getL q4.1 1)] q4.2)) ([a0, (i 0)], z)).bind fun r4 =>
 exIf r4.1 (.exit 0) (
 pr.fin none r4.2.2 [(getL r4.2.1 0)]) (none)
theorem F_sum_add_eq (g : Call) (a0 : LV) (a1 : LV) (a2 : LV) (a3 : LV) : fnEv g c_sum_add [a0, a1, a2, a3] none = F_sum_add g a0 a1 a2 a3 := by kernel_rfl
noncomputable def F_ip4_byteful (g : Call) (a0 : LV) : Option (LV × Option LV) :=
 (pr.len false a0).bind fun v2 =>
 (whileW (fun q4 : List LV × Slots =>
 bn .lss (getL q4.1 1) v2 fun v5 =>
 condK v5 (
 (pr.idxAddr none 1 a0 (getL q4.1 1)).bind fun v6 =>
 l1 q4.2 v6 fun v7 =>
 bn .lss v7 (i 0) fun vA =>
 fs vA v7 fun vC =>
 fb vA .gtr vC (i 255) fun vD =>
 pF vA vD fun vE =>
 condK vE (
 pr.round z .ret [(LV.bool false), (getL q4.1 1)] q4.2) (
 bn .add (getL q4.1 1) (i 1) fun vG =>
 pr.round z .normal [(getL q4.1 0), vG] q4.2)) (
 pr.round z (.exit 0) [(getL q4.1 0), (getL q4.1 1)] q4.2)) ([(LV.bool false), (i 0)], z)).bind fun r4 =>
 exIf r4.1 (.exit 0) (
 pr.fin none r4.2.2 [(LV.bool true)]) (exIf r4.1 .ret (
 pr.fin none r4.2.2 [(getL r4.2.1 0)]) (none))
theorem F_ip4_byteful_eq (g : Call) (a0 : LV) : fnEv g c_ip4_byteful [a0] none = F_ip4_byteful g a0 := by kernel_rfl
noncomputable def F_interpreterref01_Reader_Text_k1 (g : Call) (a1 : LV) (vI : LV × Slots) (h : LV) :=
 (whileW (fun q40 : List LV × Slots =>
 bn .lss (getL q40.1 1) a1 fun vh =>
 condK vh (
 (pr.nilCheck (LV.ptr 0 0 [] 0)).bind fun vk =>
 fA 0 0 vk fun vl =>
 l1 q40.2 vl fun vm =>
 (pr.nilCheck (LV.ptr 0 0 [] 0)).bind fun vo =>
 fA 1 1 vo fun vp =>
 l1 q40.2 vp fun vq =>
 (pr.nilCheck (LV.ptr 0 0 [] 0)).bind fun vs =>
 fA 1 1 vs fun vt =>
 l1 q40.2 vt fun vu =>
 bn .add vu (i 1) fun vv =>
 sl vm (some vq) (some vv) fun vw =>
 bn .add (getL q40.1 0) vw fun vx =>
 (pr.nilCheck (LV.ptr 0 0 [] 0)).bind fun v01 =>
 fA 1 1 v01 fun v02 =>
 l1 q40.2 v02 fun v03 =>
 bn .add v03 (i 1) fun v04 =>
 (pr.nilCheck (LV.ptr 0 0 [] 0)).bind fun v05 =>
 fA 1 1 v05 fun v06 =>
 s1 q40.2 v06 v04 fun v07 =>
 bn .add (getL q40.1 1) (i 1) fun v09 =>
 pr.round vI.2 .normal [vx, v09] v07.2) (
 pr.round vI.2 (.exit 0) [(getL q40.1 0), (getL q40.1 1)] q40.2)) ([(LV.str []), (i 0)], vI.2)).bind fun r40 =>
 exIf r40.1 (.exit 0) (
 pr.fin (some h) r40.2.2 [(getL r40.2.1 0), (i 0)]) (none)
noncomputable def F_interpreterref01_Reader_Text_k2 (g : Call) (vI : LV × Slots) (h : LV) :=
 (pr.nilCheck (LV.ptr 0 0 [] 0)).bind fun vQ =>
 fA 1 1 vQ fun vR =>
 l1 vI.2 vR fun vS =>
 (pr.nilCheck (LV.ptr 0 0 [] 0)).bind fun vT =>
 fA 3 3 vT fun vU =>
 s1 vI.2 vU vS fun vV =>
 (pr.nilCheck (LV.ptr 0 0 [] 0)).bind fun vX =>
 fA 2 2 vX fun vY =>
 l1 vV.2 vY fun vZ =>
 pr.fin (some h) vV.2 [(LV.str []), vZ]
noncomputable def F_interpreterref01_Reader_Text (g : Call) (h : LV) (a1 : LV) : Option (LV × Option LV) :=
 (pr.nilCheck (LV.ptr 0 0 [] 0)).bind fun v3 =>
 fA 2 2 v3 fun v4 =>
 l1 (upd z 0 (.obj 0 h)) v4 fun v5 =>
 bn .neq v5 (i 0) fun v6 =>
 condK v6 (
 (pr.nilCheck (LV.ptr 0 0 [] 0)).bind fun v8 =>
 fA 2 2 v8 fun v9 =>
 l1 (upd z 0 (.obj 0 h)) v9 fun vA =>
 pr.fin (some h) (upd z 0 (.obj 0 h)) [(LV.str []), vA]) (
 bn .lss a1 (i 0) fun vE =>
 condK vE (
 (pr.nilCheck (LV.ptr 0 0 [] 0)).bind fun vG =>
 fA 2 2 vG fun vH =>
 s1 (upd z 0 (.obj 0 h)) vH (i 1) fun vI =>
 (pr.nilCheck (LV.ptr 0 0 [] 0)).bind fun vK =>
 fA 2 2 vK fun vL =>
 l1 vI.2 vL fun vM =>
 bn .neq vM (i 0) fun vN =>
 condK vN (F_interpreterref01_Reader_Text_k2 g vI h) (F_interpreterref01_Reader_Text_k1 g a1 vI h)) (
 (pr.nilCheck (LV.ptr 0 0 [] 0)).bind fun v0G =>
 fA 0 0 v0G fun v0H =>
 l1 (upd z 0 (.obj 0 h)) v0H fun v0I =>
 ln v0I fun v0J =>
 bn .gtr a1 v0J fun v0K =>
 fs v0K (LV.ptr 0 0 [] 0) fun v0M =>
 gF v0K (pr.nilCheck v0M) fun v0N =>
 ff v0K 1 1 v0N fun v0O =>
 fl v0K (upd z 0 (.obj 0 h)) v0O fun v0P =>
 fs v0K (LV.ptr 0 0 [] 0) fun v0Q =>
 gF v0K (pr.nilCheck v0Q) fun v0R =>
 ff v0K 0 0 v0R fun v0S =>
 fl v0K (upd z 0 (.obj 0 h)) v0S fun v0T =>
 gF v0K (pr.len true v0T) fun v0U =>
 fs v0K a1 fun v0V =>
 fb v0K .sub v0U v0V fun v0W =>
 fb v0K .gtr v0P v0W fun v0X =>
 pF v0K v0X fun v0Y =>
 condK v0Y (
 (pr.nilCheck (LV.ptr 0 0 [] 0)).bind fun v0a =>
 fA 2 2 v0a fun v0b =>
 s1 (upd z 0 (.obj 0 h)) v0b (i 7) fun v0c =>
 (pr.nilCheck (LV.ptr 0 0 [] 0)).bind fun v0e =>
 fA 2 2 v0e fun v0f =>
 l1 v0c.2 v0f fun v0g =>
 bn .neq v0g (i 0) fun v0h =>
 condK v0h (F_interpreterref01_Reader_Text_k2 g v0c h) (F_interpreterref01_Reader_Text_k1 g a1 v0c h)) (
 (pr.nilCheck (LV.ptr 0 0 [] 0)).bind fun v1Z =>
 fA 2 2 v1Z fun v1a =>
 l1 (upd z 0 (.obj 0 h)) v1a fun v1b =>
 bn .neq v1b (i 0) fun v1c =>
 condK v1c (
 (pr.nilCheck (LV.ptr 0 0 [] 0)).bind fun v1f =>
 fA 1 1 v1f fun v1g =>
 l1 (upd z 0 (.obj 0 h)) v1g fun v1h =>
 (pr.nilCheck (LV.ptr 0 0 [] 0)).bind fun v1i =>
 fA 3 3 v1i fun v1j =>
 s1 (upd z 0 (.obj 0 h)) v1j v1h fun v1k =>
 (pr.nilCheck (LV.ptr 0 0 [] 0)).bind fun v1m =>
 fA 2 2 v1m fun v1n =>
 l1 v1k.2 v1n fun v1o =>
 pr.fin (some h) v1k.2 [(LV.str []), v1o]) (
 (whileW (fun q179 : List LV × Slots =>
 bn .lss (getL q179.1 1) a1 fun v1w =>
 condK v1w (
 (pr.nilCheck (LV.ptr 0 0 [] 0)).bind fun v1z =>
 fA 0 0 v1z fun v20 =>
 l1 q179.2 v20 fun v21 =>
 (pr.nilCheck (LV.ptr 0 0 [] 0)).bind fun v23 =>
 fA 1 1 v23 fun v24 =>
 l1 q179.2 v24 fun v25 =>
 (pr.nilCheck (LV.ptr 0 0 [] 0)).bind fun v27 =>
 fA 1 1 v27 fun v28 =>
 l1 q179.2 v28 fun v29 =>
 bn .add v29 (i 1) fun v2A =>
 sl v21 (some v25) (some v2A) fun v2B =>
 bn .add (getL q179.1 0) v2B fun v2C =>
 (pr.nilCheck (LV.ptr 0 0 [] 0)).bind fun v2G =>
 fA 1 1 v2G fun v2H =>
 l1 q179.2 v2H fun v2I =>
 bn .add v2I (i 1) fun v2J =>
 (pr.nilCheck (LV.ptr 0 0 [] 0)).bind fun v2K =>
 fA 1 1 v2K fun v2L =>
 s1 q179.2 v2L v2J fun v2M =>
 bn .add (getL q179.1 1) (i 1) fun v2O =>
 pr.round (upd z 0 (.obj 0 h)) .normal [v2C, v2O] v2M.2) (
 pr.round (upd z 0 (.obj 0 h)) (.exit 0) [(getL q179.1 0), (getL q179.1 1)] q179.2)) ([(LV.str []), (i 0)], (upd z 0 (.obj 0 h)))).bind fun r179 =>
 exIf r179.1 (.exit 0) (
 pr.fin (some h) r179.2.2 [(getL r179.2.1 0), (i 0)]) (none)))))
theorem F_interpreterref01_Reader_Text_eq (g : Call) (h : LV) (a1 : LV) : fnEv g c_interpreterref01_Reader_Text [(LV.ptr 0 0 [] 0), a1] (some h) = F_interpreterref01_Reader_Text g h a1 := by kernel_rfl
noncomputable def F_fault_update (g : Call) (a0 : LV) (a1 : LV) (a2 : LV) (a3 : LV) (a4 : LV) : Option (LV × Option LV) :=
 ln a0 fun v2 =>
 bn .add a1 (i 2) fun v4 =>
 bn .lss v2 v4 fun v5 =>
 condK v5 (
 pr.fin none z [a0]) (
 xS a0 a1 fun vA =>
 (pr.conv .i64 vA).bind fun vB =>
 bn .shl vB (LV.int .u64 8) fun vC =>
 bn .add a1 (i 1) fun vF =>
 xS a0 vF fun vG =>
 (pr.conv .i64 vG).bind fun vH =>
 bn .or vC vH fun vI =>
 ts a4 vI fun vM =>
 tb a4 .eql vM (i 0) fun vN =>
 pT a4 vN fun vO =>
 condK vO (
 pr.fin none z [a0]) (
 cl g id_sum_Update z [vI, a2, a3] fun vU =>
 ts a4 vU fun vY =>
 tb a4 .eql vY (i 0) fun vZ =>
 pT a4 vZ fun va =>
 condK va (
 sl a0 none (some a1) fun ve =>
 cl g id_fault_big z [(i 65535), (i 2)] fun vg =>
 bn .add ve vg fun vh =>
 bn .add a1 (i 2) fun vk =>
 sl a0 (some vk) none fun vl =>
 bn .add vh vl fun vm =>
 pr.fin none z [vm]) (
 sl a0 none (some a1) fun vq =>
 cl g id_fault_big z [vU, (i 2)] fun vs =>
 bn .add vq vs fun vt =>
 bn .add a1 (i 2) fun vw =>
 sl a0 (some vw) none fun vx =>
 bn .add vt vx fun vy =>
 pr.fin none z [vy])))
theorem F_fault_update_eq (g : Call) (a0 : LV) (a1 : LV) (a2 : LV) (a3 : LV) (a4 : LV) : fnEv g c_fault_update [a0, a1, a2, a3, a4] none = F_fault_update g a0 a1 a2 a3 a4 := by kernel_rfl
noncomputable def F_sum_big (g : Call) (a0 : LV) (a1 : LV) : Option (LV × Option LV) :=
 bn .mul (i 8) a1 fun v3 =>
 bn .shl (i 1) v3 fun v4 =>
 bn .sub v4 (i 1) fun v5 =>
 bn .and a0 v5 fun v6 =>
 cl g id_num_Big z [v6, a1] fun v8 =>
 ex v8 0 fun vA =>
 ex v8 1 fun vB =>
 pr.fin none z [vA]
theorem F_sum_big_eq (g : Call) (a0 : LV) (a1 : LV) : fnEv g c_sum_big [a0, a1] none = F_sum_big g a0 a1 := by kernel_rfl
noncomputable def F_interpreterref02_Update (g : Call) (a0 : LV) (a1 : LV) (a2 : LV) : Option (LV × Option LV) :=
 bn .rem a0 (i 65536) fun v2 =>
 bn .lss v2 (i 0) fun v5 =>
 condK v5 (
 bn .add v2 (i 65536) fun v7 =>
 bn .sub (i 65535) v7 fun vA =>
 (pr.bslT (i 0) 1 [(0, vA)] 18 z).bind fun vB =>
 cl g id_interpreterref02_Words vB.2 [a1] fun vE =>
 (whileW (fun q17 : List LV × Slots =>
 (pr.len false vE).bind fun vK =>
 bn .lss (getL q17.1 1) vK fun vL =>
 condK vL (
 (pr.idxAddr none 1 vE (getL q17.1 1)).bind fun vP =>
 l1 q17.2 vP fun vQ =>
 bn .sub (i 65535) vQ fun vR =>
 (pr.bsl (i 0) 1 [(0, vR)]).bind fun vS =>
 (pr.append 1 8 34 q17.2 (getL q17.1 0) vS).bind fun vT =>
 bn .add (getL q17.1 1) (i 1) fun vW =>
 pr.round vB.2 .normal [vT.1, vW] vT.2) (
 pr.round vB.2 (.exit 0) [(getL q17.1 0), (getL q17.1 1)] q17.2)) ([vB.1, (i 0)], vB.2)).bind fun r17 =>
 exIf r17.1 (.exit 0) (
 cl g id_interpreterref02_Words r17.2.2 [a2] fun va =>
 (pr.append 1 8 38 r17.2.2 (getL r17.2.1 0) va).bind fun vb =>
 cl g id_interpreterref02_Total vb.2 [vb.1] fun ve =>
 bn .sub (i 65535) ve fun vf =>
 pr.fin none vb.2 [vf]) (none)) (
 bn .sub (i 65535) v2 fun vi =>
 (pr.bslT (i 0) 1 [(0, vi)] 18 z).bind fun vj =>
 cl g id_interpreterref02_Words vj.2 [a1] fun vm =>
 (whileW (fun q51 : List LV × Slots =>
 (pr.len false vm).bind fun vs =>
 bn .lss (getL q51.1 1) vs fun vt =>
 condK vt (
 (pr.idxAddr none 1 vm (getL q51.1 1)).bind fun vx =>
 l1 q51.2 vx fun vy =>
 bn .sub (i 65535) vy fun vz =>
 (pr.bsl (i 0) 1 [(0, vz)]).bind fun v00 =>
 (pr.append 1 8 34 q51.2 (getL q51.1 0) v00).bind fun v01 =>
 bn .add (getL q51.1 1) (i 1) fun v04 =>
 pr.round vj.2 .normal [v01.1, v04] v01.2) (
 pr.round vj.2 (.exit 0) [(getL q51.1 0), (getL q51.1 1)] q51.2)) ([vj.1, (i 0)], vj.2)).bind fun r51 =>
 exIf r51.1 (.exit 0) (
 cl g id_interpreterref02_Words r51.2.2 [a2] fun v08 =>
 (pr.append 1 8 38 r51.2.2 (getL r51.2.1 0) v08).bind fun v09 =>
 cl g id_interpreterref02_Total v09.2 [v09.1] fun v0C =>
 bn .sub (i 65535) v0C fun v0D =>
 pr.fin none v09.2 [v0D]) (none))
theorem F_interpreterref02_Update_eq (g : Call) (a0 : LV) (a1 : LV) (a2 : LV) : fnEv g c_interpreterref02_Update [a0, a1, a2] none = F_interpreterref02_Update g a0 a1 a2 := by kernel_rfl
noncomputable def F_num_Reader_Text (g : Call) (h : LV) (a1 : LV) : Option (LV × Option LV) :=
 eN 0 false (LV.ptr 0 0 [] 0) fun v3 =>
 condK v3 (
 (pr.parts (LV.agg [(i 0), (i 0)]) [(0, (i 2))]).bind fun v5 =>
 bx v5 fun v6 =>
 (pr.iface ty_ptr_num_Fault v6).bind fun v7 =>
 pr.fin (some h) (upd z 0 (.obj 0 h)) [(LV.str []), v7]) (
 (pr.nilCheck (LV.ptr 0 0 [] 0)).bind fun vB =>
 fA 2 2 vB fun vC =>
 l1 (upd z 0 (.obj 0 h)) vC fun vD =>
 eN 0 true vD fun vE =>
 condK vE (
 (pr.nilCheck (LV.ptr 0 0 [] 0)).bind fun vH =>
 fA 2 2 vH fun vI =>
 l1 (upd z 0 (.obj 0 h)) vI fun vJ =>
 (pr.nilCheck vJ).bind fun vK =>
 lA 2 (upd z 0 (.obj 0 h)) vK fun vL =>
 (pr.alloc (LV.agg [(i 0), (i 0)]) 7 (upd z 0 (.obj 0 h))).bind fun vM =>
 sA 2 vM.2 vM.1 vL fun vN =>
 (pr.iface ty_ptr_num_Fault vM.1).bind fun vO =>
 pr.fin (some h) vN.2 [(LV.str []), vO]) (
 bn .lss a1 (i 0) fun vS =>
 condK vS (
 (pr.nilCheck (LV.ptr 0 0 [] 0)).bind fun vW =>
 fA 1 1 vW fun vX =>
 l1 (upd z 0 (.obj 0 h)) vX fun vY =>
 (pr.parts (LV.agg [(i 0), (i 0)]) [(0, (i 1)), (1, vY)]).bind fun vZ =>
 bx vZ fun va =>
 (pr.nilCheck (LV.ptr 0 0 [] 0)).bind fun vb =>
 fA 2 2 vb fun vc =>
 s1 (upd z 0 (.obj 0 h)) vc va fun vd =>
 (pr.nilCheck (LV.ptr 0 0 [] 0)).bind fun vf =>
 fA 2 2 vf fun vg =>
 l1 vd.2 vg fun vh =>
 (pr.nilCheck vh).bind fun vi =>
 lA 2 vd.2 vi fun vj =>
 (pr.alloc (LV.agg [(i 0), (i 0)]) 7 vd.2).bind fun vk =>
 sA 2 vk.2 vk.1 vj fun vl =>
 (pr.iface ty_ptr_num_Fault vk.1).bind fun vm =>
 pr.fin (some h) vl.2 [(LV.str []), vm]) (
 (pr.nilCheck (LV.ptr 0 0 [] 0)).bind fun vr =>
 fA 0 0 vr fun vs =>
 l1 (upd z 0 (.obj 0 h)) vs fun vt =>
 ln vt fun vu =>
 (pr.nilCheck (LV.ptr 0 0 [] 0)).bind fun vw =>
 fA 1 1 vw fun vx =>
 l1 (upd z 0 (.obj 0 h)) vx fun vy =>
 bn .sub vu vy fun vz =>
 bn .gtr a1 vz fun v00 =>
 condK v00 (
 (pr.nilCheck (LV.ptr 0 0 [] 0)).bind fun v04 =>
 fA 1 1 v04 fun v05 =>
 l1 (upd z 0 (.obj 0 h)) v05 fun v06 =>
 (pr.parts (LV.agg [(i 0), (i 0)]) [(0, (i 7)), (1, v06)]).bind fun v07 =>
 bx v07 fun v08 =>
 (pr.nilCheck (LV.ptr 0 0 [] 0)).bind fun v09 =>
 fA 2 2 v09 fun v0A =>
 s1 (upd z 0 (.obj 0 h)) v0A v08 fun v0B =>
 (pr.nilCheck (LV.ptr 0 0 [] 0)).bind fun v0D =>
 fA 2 2 v0D fun v0E =>
 l1 v0B.2 v0E fun v0F =>
 (pr.nilCheck v0F).bind fun v0G =>
 lA 2 v0B.2 v0G fun v0H =>
 (pr.alloc (LV.agg [(i 0), (i 0)]) 7 v0B.2).bind fun v0I =>
 sA 2 v0I.2 v0I.1 v0H fun v0J =>
 (pr.iface ty_ptr_num_Fault v0I.1).bind fun v0K =>
 pr.fin (some h) v0J.2 [(LV.str []), v0K]) (
 (pr.nilCheck (LV.ptr 0 0 [] 0)).bind fun v0O =>
 fA 0 0 v0O fun v0P =>
 l1 (upd z 0 (.obj 0 h)) v0P fun v0Q =>
 (pr.nilCheck (LV.ptr 0 0 [] 0)).bind fun v0S =>
 fA 1 1 v0S fun v0T =>
 l1 (upd z 0 (.obj 0 h)) v0T fun v0U =>
 (pr.nilCheck (LV.ptr 0 0 [] 0)).bind fun v0W =>
 fA 1 1 v0W fun v0X =>
 l1 (upd z 0 (.obj 0 h)) v0X fun v0Y =>
 bn .add v0Y a1 fun v0a =>
 sl v0Q (some v0U) (some v0a) fun v0b =>
 (pr.nilCheck (LV.ptr 0 0 [] 0)).bind fun v0e =>
 fA 1 1 v0e fun v0f =>
 l1 (upd z 0 (.obj 0 h)) v0f fun v0g =>
 bn .add v0g a1 fun v0i =>
 (pr.nilCheck (LV.ptr 0 0 [] 0)).bind fun v0j =>
 fA 1 1 v0j fun v0k =>
 s1 (upd z 0 (.obj 0 h)) v0k v0i fun v0l =>
 pr.fin (some h) v0l.2 [v0b, LV.nili]))))
theorem F_num_Reader_Text_eq (g : Call) (h : LV) (a1 : LV) : fnEv g c_num_Reader_Text [(LV.ptr 0 0 [] 0), a1] (some h) = F_num_Reader_Text g h a1 := by kernel_rfl
noncomputable def F_sum_Update (g : Call) (a0 : LV) (a1 : LV) (a2 : LV) : Option (LV × Option LV) :=
 bn .and a0 (i 65535) fun v2 =>
 bn .sub (i 65535) v2 fun v3 =>
 cl g id_sum_even z [a1] fun v7 =>
 cl g id_sum_add z [v3, (i 0), v7, (LV.int .u8 255)] fun v8 =>
 cl g id_sum_fold z [v8] fun v9 =>
 cl g id_sum_add z [v9, (i 0), a2, (LV.int .u8 0)] fun vD =>
 cl g id_sum_fold z [vD] fun vE =>
 bn .sub (i 65535) vE fun vF =>
 pr.fin none z [vF]
theorem F_sum_Update_eq (g : Call) (a0 : LV) (a1 : LV) (a2 : LV) : fnEv g c_sum_Update [a0, a1, a2] none = F_sum_Update g a0 a1 a2 := by kernel_rfl
noncomputable def F_sum_even (g : Call) (a0 : LV) : Option (LV × Option LV) :=
 ln a0 fun v2 =>
 bn .rem v2 (i 2) fun v3 =>
 bn .eql v3 (i 1) fun v4 =>
 condK v4 (
 bn .add a0 (LV.str [0]) fun v6 =>
 pr.fin none z [v6]) (
 pr.fin none z [a0])
theorem F_sum_even_eq (g : Call) (a0 : LV) : fnEv g c_sum_even [a0] none = F_sum_even g a0 := by kernel_rfl
end Go.Ev

namespace Go.Ev
structure Has (S : Sys) : Prop where
  h_interpreterlaw15_FaultCarries : S.fns id_interpreterlaw15_FaultCarries = some c_interpreterlaw15_FaultCarries
  h_interpreterlaw15_awake : S.fns id_interpreterlaw15_awake = some c_interpreterlaw15_awake
  h_fault_Carry6 : S.fns id_fault_Carry6 = some c_fault_Carry6
  h_interpreterref15_Carry6 : S.fns id_interpreterref15_Carry6 = some c_interpreterref15_Carry6
  h_fault_Carry4 : S.fns id_fault_Carry4 = some c_fault_Carry4
  h_interpreterref15_Carry4 : S.fns id_interpreterref15_Carry4 = some c_interpreterref15_Carry4
  h_interpreterref03_Bytes : S.fns id_interpreterref03_Bytes = some c_interpreterref03_Bytes
  h_interpreterlaw15_gram : S.fns id_interpreterlaw15_gram = some c_interpreterlaw15_gram
  h_fault_Own4 : S.fns id_fault_Own4 = some c_fault_Own4
  h_interpreterref03_Parse : S.fns id_interpreterref03_Parse = some c_interpreterref03_Parse
  h_fault_Inside4 : S.fns id_fault_Inside4 = some c_fault_Inside4
  h_fault_Quote6 : S.fns id_fault_Quote6 = some c_fault_Quote6
  h_icmp4_Failure : S.fns id_icmp4_Failure = some c_icmp4_Failure
  h_icmpmap_To6 : S.fns id_icmpmap_To6 = some c_icmpmap_To6
  h_interpreterref15_Inside4 : S.fns id_interpreterref15_Inside4 = some c_interpreterref15_Inside4
  h_interpreterref07_Failure : S.fns id_interpreterref07_Failure = some c_interpreterref07_Failure
  h_interpreterref15_Quote6 : S.fns id_interpreterref15_Quote6 = some c_interpreterref15_Quote6
  h_interpreterref14_To6 : S.fns id_interpreterref14_To6 = some c_interpreterref14_To6
  h_fault_Inside6 : S.fns id_fault_Inside6 = some c_fault_Inside6
  h_icmp6_Failure : S.fns id_icmp6_Failure = some c_icmp6_Failure
  h_icmpmap_To4 : S.fns id_icmpmap_To4 = some c_icmpmap_To4
  h_fault_Quote4 : S.fns id_fault_Quote4 = some c_fault_Quote4
  h_interpreterref15_Inside6 : S.fns id_interpreterref15_Inside6 = some c_interpreterref15_Inside6
  h_interpreterref08_Failure : S.fns id_interpreterref08_Failure = some c_interpreterref08_Failure
  h_interpreterref15_Quote4 : S.fns id_interpreterref15_Quote4 = some c_interpreterref15_Quote4
  h_interpreterref14_To4 : S.fns id_interpreterref14_To4 = some c_interpreterref14_To4
  h_interpreterref03_Why : S.fns id_interpreterref03_Why = some c_interpreterref03_Why
  h_interpreterref02_Of : S.fns id_interpreterref02_Of = some c_interpreterref02_Of
  h_ip4_Parse : S.fns id_ip4_Parse = some c_ip4_Parse
  h_class_Martian4 : S.fns id_class_Martian4 = some c_class_Martian4
  h_fault_beginning : S.fns id_fault_beginning = some c_fault_beginning
  h_icmp4_Bytes : S.fns id_icmp4_Bytes = some c_icmp4_Bytes
  h_ip4_Bytes : S.fns id_ip4_Bytes = some c_ip4_Bytes
  h_interpreterref03_number : S.fns id_interpreterref03_number = some c_interpreterref03_number
  h_fault_fault : S.fns id_fault_fault = some c_fault_fault
  h_sum_Right : S.fns id_sum_Right = some c_sum_Right
  h_fault_Inside4_1 : S.fns id_fault_Inside4_1 = some c_fault_Inside4_1
  h_fault_short : S.fns id_fault_short = some c_fault_short
  h_head46_Proto : S.fns id_head46_Proto = some c_head46_Proto
  h_fault_within : S.fns id_fault_within = some c_fault_within
  h_fault_big : S.fns id_fault_big = some c_fault_big
  h_fault_turn6 : S.fns id_fault_turn6 = some c_fault_turn6
  h_icmpmap_sides : S.fns id_icmpmap_sides = some c_icmpmap_sides
  h_icmpmap_said : S.fns id_icmpmap_said = some c_icmpmap_said
  h_icmpmap_lost6 : S.fns id_icmpmap_lost6 = some c_icmpmap_lost6
  h_icmpmap_pointer6 : S.fns id_icmpmap_pointer6 = some c_icmpmap_pointer6
  h_interpreterref15_number : S.fns id_interpreterref15_number = some c_interpreterref15_number
  h_interpreterref15_little : S.fns id_interpreterref15_little = some c_interpreterref15_little
  h_interpreterref15_bound : S.fns id_interpreterref15_bound = some c_interpreterref15_bound
  h_interpreterref12_Proto : S.fns id_interpreterref12_Proto = some c_interpreterref12_Proto
  h_interpreterref15_turn : S.fns id_interpreterref15_turn = some c_interpreterref15_turn
  h_interpreterref02_Pseudo6 : S.fns id_interpreterref02_Pseudo6 = some c_interpreterref02_Pseudo6
  h_interpreterref15_put : S.fns id_interpreterref15_put = some c_interpreterref15_put
  h_interpreterref14_bounds : S.fns id_interpreterref14_bounds = some c_interpreterref14_bounds
  h_interpreterref14_Plateau : S.fns id_interpreterref14_Plateau = some c_interpreterref14_Plateau
  h_interpreterref14_find : S.fns id_interpreterref14_find = some c_interpreterref14_find
  h_interpreterref14_lines6 : S.fns id_interpreterref14_lines6 = some c_interpreterref14_lines6
  h_ip6_Chain : S.fns id_ip6_Chain = some c_ip6_Chain
  h_num_New : S.fns id_num_New = some c_num_New
  h_num_Reader_U32 : S.fns id_num_Reader_U32 = some c_num_Reader_U32
  h_icmpmap_lost4 : S.fns id_icmpmap_lost4 = some c_icmpmap_lost4
  h_icmpmap_pointer4 : S.fns id_icmpmap_pointer4 = some c_icmpmap_pointer4
  h_head64_Proto : S.fns id_head64_Proto = some c_head64_Proto
  h_sum_Of : S.fns id_sum_Of = some c_sum_Of
  h_fault_turn4 : S.fns id_fault_turn4 = some c_fault_turn4
  h_interpreterref04_Chain : S.fns id_interpreterref04_Chain = some c_interpreterref04_Chain
  h_interpreterref13_Proto : S.fns id_interpreterref13_Proto = some c_interpreterref13_Proto
  h_interpreterref03_within : S.fns id_interpreterref03_within = some c_interpreterref03_within
  h_interpreterref02_Total : S.fns id_interpreterref02_Total = some c_interpreterref02_Total
  h_interpreterref02_Words : S.fns id_interpreterref02_Words = some c_interpreterref02_Words
  h_ip4_fault : S.fns id_ip4_fault = some c_ip4_fault
  h_ip4_Parse_1 : S.fns id_ip4_Parse_1 = some c_ip4_Parse_1
  h_ip4_why : S.fns id_ip4_why = some c_ip4_why
  h_num_Big : S.fns id_num_Big = some c_num_Big
  h_ip4_big : S.fns id_ip4_big = some c_ip4_big
  h_interpreterref01_Reader_Number : S.fns id_interpreterref01_Reader_Number = some c_interpreterref01_Reader_Number
  h_fault_ported : S.fns id_fault_ported = some c_fault_ported
  h_fault_echoed : S.fns id_fault_echoed = some c_fault_echoed
  h_sum_Pseudo6 : S.fns id_sum_Pseudo6 = some c_sum_Pseudo6
  h_icmpmap_Plateau : S.fns id_icmpmap_Plateau = some c_icmpmap_Plateau
  h_interpreterref15_sums : S.fns id_interpreterref15_sums = some c_interpreterref15_sums
  h_interpreterref02_low : S.fns id_interpreterref02_low = some c_interpreterref02_low
  h_interpreterref01_Put : S.fns id_interpreterref01_Put = some c_interpreterref01_Put
  h_ip6_extends : S.fns id_ip6_extends = some c_ip6_extends
  h_ip6_fault : S.fns id_ip6_fault = some c_ip6_fault
  h_num_Reader_number : S.fns id_num_Reader_number = some c_num_Reader_number
  h_sum_fold : S.fns id_sum_fold = some c_sum_fold
  h_sum_add : S.fns id_sum_add = some c_sum_add
  h_ip4_byteful : S.fns id_ip4_byteful = some c_ip4_byteful
  h_interpreterref01_Reader_Text : S.fns id_interpreterref01_Reader_Text = some c_interpreterref01_Reader_Text
  h_fault_update : S.fns id_fault_update = some c_fault_update
  h_sum_big : S.fns id_sum_big = some c_sum_big
  h_interpreterref02_Update : S.fns id_interpreterref02_Update = some c_interpreterref02_Update
  h_num_Reader_Text : S.fns id_num_Reader_Text = some c_num_Reader_Text
  h_sum_Update : S.fns id_sum_Update = some c_sum_Update
  h_sum_even : S.fns id_sum_even = some c_sum_even
  x_rep : HasRep S id_strings_Repeat
abbrev faultLV (c : Int) : LV := .ifc ty_ptr_num_Fault (.box (.agg [.int .i64 c, .int .i64 0]))
end Go.Ev

namespace Go.Ev
set_option maxRecDepth 100000
noncomputable def table : List (Nat × MFn) := [
  (id_interpreterlaw15_FaultCarries, c_interpreterlaw15_FaultCarries),
  (id_interpreterlaw15_awake, c_interpreterlaw15_awake),
  (id_fault_Carry6, c_fault_Carry6),
  (id_interpreterref15_Carry6, c_interpreterref15_Carry6),
  (id_fault_Carry4, c_fault_Carry4),
  (id_interpreterref15_Carry4, c_interpreterref15_Carry4),
  (id_interpreterref03_Bytes, c_interpreterref03_Bytes),
  (id_interpreterlaw15_gram, c_interpreterlaw15_gram),
  (id_fault_Own4, c_fault_Own4),
  (id_interpreterref03_Parse, c_interpreterref03_Parse),
  (id_fault_Inside4, c_fault_Inside4),
  (id_fault_Quote6, c_fault_Quote6),
  (id_icmp4_Failure, c_icmp4_Failure),
  (id_icmpmap_To6, c_icmpmap_To6),
  (id_interpreterref15_Inside4, c_interpreterref15_Inside4),
  (id_interpreterref07_Failure, c_interpreterref07_Failure),
  (id_interpreterref15_Quote6, c_interpreterref15_Quote6),
  (id_interpreterref14_To6, c_interpreterref14_To6),
  (id_fault_Inside6, c_fault_Inside6),
  (id_icmp6_Failure, c_icmp6_Failure),
  (id_icmpmap_To4, c_icmpmap_To4),
  (id_fault_Quote4, c_fault_Quote4),
  (id_interpreterref15_Inside6, c_interpreterref15_Inside6),
  (id_interpreterref08_Failure, c_interpreterref08_Failure),
  (id_interpreterref15_Quote4, c_interpreterref15_Quote4),
  (id_interpreterref14_To4, c_interpreterref14_To4),
  (id_interpreterref03_Why, c_interpreterref03_Why),
  (id_interpreterref02_Of, c_interpreterref02_Of),
  (id_ip4_Parse, c_ip4_Parse),
  (id_class_Martian4, c_class_Martian4),
  (id_fault_beginning, c_fault_beginning),
  (id_icmp4_Bytes, c_icmp4_Bytes),
  (id_ip4_Bytes, c_ip4_Bytes),
  (id_interpreterref03_number, c_interpreterref03_number),
  (id_fault_fault, c_fault_fault),
  (id_sum_Right, c_sum_Right),
  (id_fault_Inside4_1, c_fault_Inside4_1),
  (id_fault_short, c_fault_short),
  (id_head46_Proto, c_head46_Proto),
  (id_fault_within, c_fault_within),
  (id_fault_big, c_fault_big),
  (id_fault_turn6, c_fault_turn6),
  (id_icmpmap_sides, c_icmpmap_sides),
  (id_icmpmap_said, c_icmpmap_said),
  (id_icmpmap_lost6, c_icmpmap_lost6),
  (id_icmpmap_pointer6, c_icmpmap_pointer6),
  (id_interpreterref15_number, c_interpreterref15_number),
  (id_interpreterref15_little, c_interpreterref15_little),
  (id_interpreterref15_bound, c_interpreterref15_bound),
  (id_interpreterref12_Proto, c_interpreterref12_Proto),
  (id_interpreterref15_turn, c_interpreterref15_turn),
  (id_interpreterref02_Pseudo6, c_interpreterref02_Pseudo6),
  (id_interpreterref15_put, c_interpreterref15_put),
  (id_interpreterref14_bounds, c_interpreterref14_bounds),
  (id_interpreterref14_Plateau, c_interpreterref14_Plateau),
  (id_interpreterref14_find, c_interpreterref14_find),
  (id_interpreterref14_lines6, c_interpreterref14_lines6),
  (id_ip6_Chain, c_ip6_Chain),
  (id_num_New, c_num_New),
  (id_num_Reader_U32, c_num_Reader_U32),
  (id_icmpmap_lost4, c_icmpmap_lost4),
  (id_icmpmap_pointer4, c_icmpmap_pointer4),
  (id_head64_Proto, c_head64_Proto),
  (id_sum_Of, c_sum_Of),
  (id_fault_turn4, c_fault_turn4),
  (id_interpreterref04_Chain, c_interpreterref04_Chain),
  (id_interpreterref13_Proto, c_interpreterref13_Proto),
  (id_interpreterref03_within, c_interpreterref03_within),
  (id_interpreterref02_Total, c_interpreterref02_Total),
  (id_interpreterref02_Words, c_interpreterref02_Words),
  (id_ip4_fault, c_ip4_fault),
  (id_ip4_Parse_1, c_ip4_Parse_1),
  (id_ip4_why, c_ip4_why),
  (id_num_Big, c_num_Big),
  (id_ip4_big, c_ip4_big),
  (id_interpreterref01_Reader_Number, c_interpreterref01_Reader_Number),
  (id_fault_ported, c_fault_ported),
  (id_fault_echoed, c_fault_echoed),
  (id_sum_Pseudo6, c_sum_Pseudo6),
  (id_icmpmap_Plateau, c_icmpmap_Plateau),
  (id_interpreterref15_sums, c_interpreterref15_sums),
  (id_interpreterref02_low, c_interpreterref02_low),
  (id_interpreterref01_Put, c_interpreterref01_Put),
  (id_ip6_extends, c_ip6_extends),
  (id_ip6_fault, c_ip6_fault),
  (id_num_Reader_number, c_num_Reader_number),
  (id_sum_fold, c_sum_fold),
  (id_sum_add, c_sum_add),
  (id_ip4_byteful, c_ip4_byteful),
  (id_interpreterref01_Reader_Text, c_interpreterref01_Reader_Text),
  (id_fault_update, c_fault_update),
  (id_sum_big, c_sum_big),
  (id_interpreterref02_Update, c_interpreterref02_Update),
  (id_num_Reader_Text, c_num_Reader_Text),
  (id_sum_Update, c_sum_Update),
  (id_sum_even, c_sum_even)]
noncomputable def sys : Sys := { fns := fun f => (table.find? fun p => p.1 == f).map (·.2), ext := extR id_strings_Repeat }
theorem sysHas : Has sys where
  h_interpreterlaw15_FaultCarries := by kernel_rfl
  h_interpreterlaw15_awake := by kernel_rfl
  h_fault_Carry6 := by kernel_rfl
  h_interpreterref15_Carry6 := by kernel_rfl
  h_fault_Carry4 := by kernel_rfl
  h_interpreterref15_Carry4 := by kernel_rfl
  h_interpreterref03_Bytes := by kernel_rfl
  h_interpreterlaw15_gram := by kernel_rfl
  h_fault_Own4 := by kernel_rfl
  h_interpreterref03_Parse := by kernel_rfl
  h_fault_Inside4 := by kernel_rfl
  h_fault_Quote6 := by kernel_rfl
  h_icmp4_Failure := by kernel_rfl
  h_icmpmap_To6 := by kernel_rfl
  h_interpreterref15_Inside4 := by kernel_rfl
  h_interpreterref07_Failure := by kernel_rfl
  h_interpreterref15_Quote6 := by kernel_rfl
  h_interpreterref14_To6 := by kernel_rfl
  h_fault_Inside6 := by kernel_rfl
  h_icmp6_Failure := by kernel_rfl
  h_icmpmap_To4 := by kernel_rfl
  h_fault_Quote4 := by kernel_rfl
  h_interpreterref15_Inside6 := by kernel_rfl
  h_interpreterref08_Failure := by kernel_rfl
  h_interpreterref15_Quote4 := by kernel_rfl
  h_interpreterref14_To4 := by kernel_rfl
  h_interpreterref03_Why := by kernel_rfl
  h_interpreterref02_Of := by kernel_rfl
  h_ip4_Parse := by kernel_rfl
  h_class_Martian4 := by kernel_rfl
  h_fault_beginning := by kernel_rfl
  h_icmp4_Bytes := by kernel_rfl
  h_ip4_Bytes := by kernel_rfl
  h_interpreterref03_number := by kernel_rfl
  h_fault_fault := by kernel_rfl
  h_sum_Right := by kernel_rfl
  h_fault_Inside4_1 := by kernel_rfl
  h_fault_short := by kernel_rfl
  h_head46_Proto := by kernel_rfl
  h_fault_within := by kernel_rfl
  h_fault_big := by kernel_rfl
  h_fault_turn6 := by kernel_rfl
  h_icmpmap_sides := by kernel_rfl
  h_icmpmap_said := by kernel_rfl
  h_icmpmap_lost6 := by kernel_rfl
  h_icmpmap_pointer6 := by kernel_rfl
  h_interpreterref15_number := by kernel_rfl
  h_interpreterref15_little := by kernel_rfl
  h_interpreterref15_bound := by kernel_rfl
  h_interpreterref12_Proto := by kernel_rfl
  h_interpreterref15_turn := by kernel_rfl
  h_interpreterref02_Pseudo6 := by kernel_rfl
  h_interpreterref15_put := by kernel_rfl
  h_interpreterref14_bounds := by kernel_rfl
  h_interpreterref14_Plateau := by kernel_rfl
  h_interpreterref14_find := by kernel_rfl
  h_interpreterref14_lines6 := by kernel_rfl
  h_ip6_Chain := by kernel_rfl
  h_num_New := by kernel_rfl
  h_num_Reader_U32 := by kernel_rfl
  h_icmpmap_lost4 := by kernel_rfl
  h_icmpmap_pointer4 := by kernel_rfl
  h_head64_Proto := by kernel_rfl
  h_sum_Of := by kernel_rfl
  h_fault_turn4 := by kernel_rfl
  h_interpreterref04_Chain := by kernel_rfl
  h_interpreterref13_Proto := by kernel_rfl
  h_interpreterref03_within := by kernel_rfl
  h_interpreterref02_Total := by kernel_rfl
  h_interpreterref02_Words := by kernel_rfl
  h_ip4_fault := by kernel_rfl
  h_ip4_Parse_1 := by kernel_rfl
  h_ip4_why := by kernel_rfl
  h_num_Big := by kernel_rfl
  h_ip4_big := by kernel_rfl
  h_interpreterref01_Reader_Number := by kernel_rfl
  h_fault_ported := by kernel_rfl
  h_fault_echoed := by kernel_rfl
  h_sum_Pseudo6 := by kernel_rfl
  h_icmpmap_Plateau := by kernel_rfl
  h_interpreterref15_sums := by kernel_rfl
  h_interpreterref02_low := by kernel_rfl
  h_interpreterref01_Put := by kernel_rfl
  h_ip6_extends := by kernel_rfl
  h_ip6_fault := by kernel_rfl
  h_num_Reader_number := by kernel_rfl
  h_sum_fold := by kernel_rfl
  h_sum_add := by kernel_rfl
  h_ip4_byteful := by kernel_rfl
  h_interpreterref01_Reader_Text := by kernel_rfl
  h_fault_update := by kernel_rfl
  h_sum_big := by kernel_rfl
  h_interpreterref02_Update := by kernel_rfl
  h_num_Reader_Text := by kernel_rfl
  h_sum_Update := by kernel_rfl
  h_sum_even := by kernel_rfl
  x_rep := ⟨by kernel_rfl, fun _ _ h => h⟩
end Go.Ev
