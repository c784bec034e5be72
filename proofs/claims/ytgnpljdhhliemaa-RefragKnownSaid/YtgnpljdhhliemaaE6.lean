/- Part 6 of a proof: what the functions yield. It stands by itself; no condition. -/
import Derived.Test.YtgnpljdhhliemaaE5
/- Layer 17: RefragKnown. -/
namespace Go.Ev
set_option linter.unusedSimpArgs false
set_option linter.unusedVariables false
set_option maxRecDepth 10000
set_option maxHeartbeats 8000000
theorem k_df (mtu : Int) : (cutC 0 0 9 17 0 true false [] (List.replicate 100 0) mtu = if mtu < 68 ∨ 65535 < mtu then 1 else if 120 ≤ mtu then 0 else 3) ∧
    (cutL 0 0 9 17 0 true false [1, 0, 0, 1] [1, 0, 0, 2] [] (List.replicate 100 0) mtu = if mtu < 68 ∨ 65535 < mtu then [] else if 120 ≤ mtu then [ip4LV 0 0 9 17 0 true false [1, 0, 0, 1] [1, 0, 0, 2] [] (List.replicate 100 0)] else []) := by
  unfold cutC cutL
  rw [ln_four 100 (by omega)]
  have h : (20 + 100 = 0 ∨ mtu < 68 ∨ 65535 < mtu) ↔ (mtu < 68 ∨ 65535 < mtu) := by omega
  simp only [h, if_true]
  exact ⟨rfl, rfl⟩
theorem k_ttl : why4 0 0 256 17 0 false [] (List.replicate 1 0) ≠ 0 := fun h => by
  have := (why4_zero.1 h).kttl
  omega
theorem k_ttlC : cutC 0 0 256 17 0 false false [] (List.replicate 1 0) 100 = 1 := by unfold cutC ln4; rw [if_neg k_ttl]; rfl
theorem k_ttlL : cutL 0 0 256 17 0 false false [1, 0, 0, 1] [1, 0, 0, 2] [] (List.replicate 1 0) 100 = [] := by unfold cutL ln4; rw [if_neg k_ttl]; rfl
theorem k_ttlN : ln4 0 0 256 17 0 false [] (List.replicate 1 0) = 0 := by unfold ln4; rw [if_neg k_ttl]
theorem k_fit (k : Nat) (hk : k ≤ 5000) : FitIp4 0 0 256 17 0 [1, 0, 0, 1] [1, 0, 0, 2] [] (List.replicate k 0) := ⟨by unfold I64; omega, by unfold I64; omega, by unfold I64; omega, by unfold I64; omega, by unfold I64; omega, rfl, rfl, by simp, by rw [List.length_replicate]; omega⟩
theorem k_six (k : Nat) (hk : k ≤ 1240) : cut6C 0 0 9 [] false 0 0 false 17 (List.replicate k 0) 1280 = 0 := by unfold cut6C; rw [ln_six k (by omega), if_neg (by omega), if_pos (by omega)]
theorem k_sixL (k : Nat) (hk : k ≤ 1240) : cut6L 0 0 9 [1, 0, 0, 0, 0, 0, 0, 0, 0, 0, 0, 0, 0, 0, 0, 0] [2, 0, 0, 0, 0, 0, 0, 0, 0, 0, 0, 0, 0, 0, 0, 0] [] false 0 0 false 17 (List.replicate k 0) 1280 7 = [ip6LV 0 0 9 [1, 0, 0, 0, 0, 0, 0, 0, 0, 0, 0, 0, 0, 0, 0, 0] [2, 0, 0, 0, 0, 0, 0, 0, 0, 0, 0, 0, 0, 0, 0, 0] (extsLV []) false 0 0 false 17 (List.replicate k 0)] := by unfold cut6L; rw [ln_six k (by omega), if_neg (by omega), if_pos (by omega)]
theorem k_less (da : List UInt8) : cut6C 0 0 9 [] false 0 0 false 17 da 1279 = 1 ∧ cut6L 0 0 9 [1, 0, 0, 0, 0, 0, 0, 0, 0, 0, 0, 0, 0, 0, 0, 0] [2, 0, 0, 0, 0, 0, 0, 0, 0, 0, 0, 0, 0, 0, 0, 0] [] false 0 0 false 17 da 1279 7 = [] := by
  unfold cut6C cut6L
  rw [if_pos (by omega), if_pos (by omega)]
  exact ⟨rfl, rfl⟩
abbrev kEx : List (Int × List UInt8) := [(60, List.replicate 1230 0)]
theorem k_sz : szE kEx = 1232 := by simp [szE]
theorem k_lnx (k : Nat) (hk : k ≤ 9) : ln6 0 0 9 kEx false 0 0 false 17 (List.replicate k 0) = 1272 + k := by
  unfold ln6
  have hs := k_sz
  have hb : bh6 kEx false (List.replicate k 0) = 1232 + k := by unfold bh6; rw [hs]; simp
  rw [hb, if_pos (why6_zero.2 ⟨by decide, ⟨by simp [kB], fun _ => ⟨by decide, by omega⟩⟩, by simp [fm6', fB], by simp, by rw [List.length_replicate]; omega, by rw [hb]; omega⟩)]
  omega
theorem k_hdx : hd6 kEx true = 1280 := by unfold hd6; rw [k_sz]; rfl
theorem k_x0 : cut6C 0 0 9 kEx false 0 0 false 17 (List.replicate 1 0) 1280 = 0 ∧ cut6C 0 0 9 kEx false 0 0 false 17 (List.replicate 9 0) 1280 = 13 := by
  unfold cut6C
  rw [k_lnx 1 (by omega), k_lnx 9 (by omega), k_hdx]
  exact ⟨by decide, by decide⟩
theorem k_fitx (k : Nat) (hk : k ≤ 9) : FitIp6 0 0 9 [1, 0, 0, 0, 0, 0, 0, 0, 0, 0, 0, 0, 0, 0, 0, 0] [2, 0, 0, 0, 0, 0, 0, 0, 0, 0, 0, 0, 0, 0, 0, 0] kEx 0 0 17 (List.replicate k 0) := ⟨by unfold I64; omega, by unfold I64; omega, by unfold I64; omega, rfl, rfl, by simp, by intro e he; rw [List.mem_singleton.1 he]; exact ⟨by unfold I64; omega, by rw [List.length_replicate]; omega⟩, by omega, by unfold I64; omega, by unfold I64; omega, by rw [List.length_replicate]; omega⟩
noncomputable def FB17 (g : Call) (r21 : Ex × List LV × Slots) : Option (LV × Option LV) :=
 exIf r21.1 (.exit 0) (
 (pr.call g id_interpreterlaw17_four r21.2.2 [(LV.int .i64 100)]).bind fun t89_69 =>
 (pr.alloc (LV.agg [(LV.int .i64 0), (LV.int .i64 0), (LV.int .i64 0), (LV.int .i64 0), (LV.int .i64 0), (LV.bool false), (LV.bool false), (LV.bytes [0, 0, 0, 0]), (LV.bytes [0, 0, 0, 0]), (LV.str []), (LV.str [])]) 6 r21.2.2).bind fun t6_70 =>
 (pr.store 17 true t6_70.2 t6_70.1 t89_69).bind fun u71 =>
 (pr.fieldAddr 5 5 t6_70.1).bind fun t90_72 =>
 (pr.store 1 false u71.2 t90_72 (LV.bool true)).bind fun u73 =>
 (pr.load 17 true u73.2 t6_70.1).bind fun t92_74 =>
 (pr.call g id_refrag_Cut4 u73.2 [t92_74, (LV.int .i64 68)]).bind fun t93_75 =>
 (pr.extract t93_75 0).bind fun t94_77 =>
 (pr.extract t93_75 1).bind fun t95_78 =>
 (pr.load 17 true u73.2 t6_70.1).bind fun t97_81 =>
 (pr.call g id_refrag_Cut4 u73.2 [t97_81, (LV.int .i64 67)]).bind fun t98_82 =>
 (pr.extract t98_82 0).bind fun t99_84 =>
 (pr.extract t98_82 1).bind fun t100_85 =>
 (pr.load 17 true u73.2 t6_70.1).bind fun t102_88 =>
 (pr.call g id_refrag_Cut4 u73.2 [t102_88, (LV.int .i64 65536)]).bind fun t103_89 =>
 (pr.extract t103_89 0).bind fun t104_91 =>
 (pr.extract t103_89 1).bind fun t105_92 =>
 (pr.load 17 true u73.2 t6_70.1).bind fun t107_95 =>
 (pr.call g id_refrag_Cut4 u73.2 [t107_95, (LV.int .i64 120)]).bind fun t108_96 =>
 (pr.extract t108_96 0).bind fun t109_98 =>
 (pr.extract t108_96 1).bind fun t110_99 =>
 (pr.call g id_interpreterlaw17_four u73.2 [(LV.int .i64 1)]).bind fun t111_102 =>
 (pr.alloc (LV.agg [(LV.int .i64 0), (LV.int .i64 0), (LV.int .i64 0), (LV.int .i64 0), (LV.int .i64 0), (LV.bool false), (LV.bool false), (LV.bytes [0, 0, 0, 0]), (LV.bytes [0, 0, 0, 0]), (LV.str []), (LV.str [])]) 15 u73.2).bind fun t15_103 =>
 (pr.store 17 true t15_103.2 t15_103.1 t111_102).bind fun u104 =>
 (pr.fieldAddr 2 2 t15_103.1).bind fun t112_105 =>
 (pr.store 1 false u104.2 t112_105 (LV.int .i64 256)).bind fun u106 =>
 (pr.load 17 true u106.2 t15_103.1).bind fun t114_107 =>
 (pr.call g id_refrag_Cut4 u106.2 [t114_107, (LV.int .i64 100)]).bind fun t115_108 =>
 (pr.extract t115_108 0).bind fun t116_110 =>
 (pr.extract t115_108 1).bind fun t117_111 =>
 (pr.call g id_interpreterlaw17_six u106.2 [(LV.int .i64 1241)]).bind fun t119_114 =>
 (pr.call g id_refrag_Cut6 u106.2 [t119_114, (LV.int .i64 1280), (LV.int .u32 7)]).bind fun t120_115 =>
 (pr.extract t120_115 0).bind fun t121_117 =>
 (pr.extract t120_115 1).bind fun t122_118 =>
 (pr.bin .neq t122_118 (LV.int .i64 0)).bind fun t124_122 =>
 (pr.guard t124_122 false).bind fun b124 =>
 (if b124 = true then some t121_117 else some LV.undef).bind fun t126_124 =>
 (pr.guard t124_122 false).bind fun b125 =>
 (if b125 = true then pr.len false t126_124 else some LV.undef).bind fun t127_125 =>
 (pr.guard t124_122 false).bind fun b126 =>
 (if b126 = true then pr.bin .neq t127_125 (LV.int .i64 2) else some LV.undef).bind fun t128_126 =>
 (pr.pick t124_122 (LV.bool true) t128_126).bind fun t129_127 =>
 condK t129_127 (
 pr.fin none u106.2 [(LV.bool false)]) (
 (pr.call g id_interpreterlaw17_six u106.2 [(LV.int .i64 1240)]).bind fun t131_129 =>
 (pr.call g id_refrag_Cut6 u106.2 [t131_129, (LV.int .i64 1280), (LV.int .u32 7)]).bind fun t132_130 =>
 (pr.extract t132_130 0).bind fun t133_132 =>
 (pr.extract t132_130 1).bind fun t134_133 =>
 (pr.call g id_interpreterlaw17_six u106.2 [(LV.int .i64 1)]).bind fun t136_136 =>
 (pr.call g id_refrag_Cut6 u106.2 [t136_136, (LV.int .i64 1279), (LV.int .u32 7)]).bind fun t137_137 =>
 (pr.extract t137_137 0).bind fun t138_139 =>
 (pr.extract t137_137 1).bind fun t139_140 =>
 (pr.call g id_interpreterlaw17_six u106.2 [(LV.int .i64 1)]).bind fun t140_143 =>
 (pr.alloc (LV.agg [(LV.int .i64 0), (LV.int .i64 0), (LV.int .i64 0), (LV.bytes [0, 0, 0, 0, 0, 0, 0, 0, 0, 0, 0, 0, 0, 0, 0, 0]), (LV.bytes [0, 0, 0, 0, 0, 0, 0, 0, 0, 0, 0, 0, 0, 0, 0, 0]), LV.nils, (LV.bool false), (LV.int .u32 0), (LV.int .i64 0), (LV.bool false), (LV.int .i64 0), (LV.str [])]) 24 u106.2).bind fun t24_144 =>
 (pr.store 42 true t24_144.2 t24_144.1 t140_143).bind fun u145 =>
 (pr.mkSl 141 u145.2 (LV.int .i64 1230) (LV.int .i64 1230)).bind fun t141_146 =>
 (pr.b2s t141_146.2 t141_146.1).bind fun t142_147 =>
 (pr.parts (LV.agg [(LV.int .i64 0), (LV.str [])]) [(0, (LV.int .i64 60)), (1, t142_147)]).bind fun t143_148 =>
 (pr.bsl (LV.agg [(LV.int .i64 0), (LV.str [])]) 1 [(0, t143_148)]).bind fun t144_149 =>
 (pr.fieldAddr 5 35 t24_144.1).bind fun t145_150 =>
 (pr.store 1 false t141_146.2 t145_150 t144_149).bind fun u151 =>
 (pr.load 42 true u151.2 t24_144.1).bind fun t147_152 =>
 (pr.call g id_refrag_Cut6 u151.2 [t147_152, (LV.int .i64 1280), (LV.int .u32 7)]).bind fun t148_153 =>
 (pr.extract t148_153 0).bind fun t149_155 =>
 (pr.extract t148_153 1).bind fun t150_156 =>
 (pr.mkSl 151 u151.2 (LV.int .i64 9) (LV.int .i64 9)).bind fun t151_159 =>
 (pr.b2s t151_159.2 t151_159.1).bind fun t152_160 =>
 (pr.fieldAddr 11 41 t24_144.1).bind fun t153_161 =>
 (pr.store 1 false t151_159.2 t153_161 t152_160).bind fun u162 =>
 (pr.load 42 true u162.2 t24_144.1).bind fun t155_163 =>
 (pr.call g id_refrag_Cut6 u162.2 [t155_163, (LV.int .i64 1280), (LV.int .u32 7)]).bind fun t156_164 =>
 (pr.extract t156_164 0).bind fun t157_166 =>
 (pr.extract t156_164 1).bind fun t158_167 =>
 (pr.idxAddr none 42 t121_117 (LV.int .i64 0)).bind fun t160_171 =>
 (pr.fieldAddr 8 38 t160_171).bind fun t161_172 =>
 (pr.load 1 false u162.2 t161_172).bind fun t162_173 =>
 (pr.bin .eql t162_173 (LV.int .i64 0)).bind fun t163_174 =>
 (pr.guard t163_174 true).bind fun b176 =>
 (if b176 = true then some t121_117 else some LV.undef).bind fun t165_176 =>
 (pr.guard t163_174 true).bind fun b177 =>
 (if b177 = true then pr.idxAddr none 42 t165_176 (LV.int .i64 0) else some LV.undef).bind fun t166_177 =>
 (pr.guard t163_174 true).bind fun b178 =>
 (if b178 = true then pr.fieldAddr 11 41 t166_177 else some LV.undef).bind fun t167_178 =>
 (pr.guard t163_174 true).bind fun b179 =>
 (if b179 = true then pr.load 1 false u162.2 t167_178 else some LV.undef).bind fun t168_179 =>
 (pr.guard t163_174 true).bind fun b180 =>
 (if b180 = true then pr.len true t168_179 else some LV.undef).bind fun t169_180 =>
 (pr.guard t163_174 true).bind fun b181 =>
 (if b181 = true then pr.bin .eql t169_180 (LV.int .i64 1232) else some LV.undef).bind fun t170_181 =>
 (pr.pick t163_174 t170_181 (LV.bool false)).bind fun t171_182 =>
 (pr.guard t171_182 true).bind fun b184 =>
 (if b184 = true then some t121_117 else some LV.undef).bind fun t173_184 =>
 (pr.guard t171_182 true).bind fun b185 =>
 (if b185 = true then pr.idxAddr none 42 t173_184 (LV.int .i64 0) else some LV.undef).bind fun t174_185 =>
 (pr.guard t171_182 true).bind fun b186 =>
 (if b186 = true then pr.fieldAddr 9 39 t174_185 else some LV.undef).bind fun t175_186 =>
 (pr.guard t171_182 true).bind fun b187 =>
 (if b187 = true then pr.load 1 false u162.2 t175_186 else some LV.undef).bind fun t176_187 =>
 (pr.pick t171_182 t176_187 (LV.bool false)).bind fun t177_188 =>
 (pr.guard t177_188 true).bind fun b190 =>
 (if b190 = true then some t121_117 else some LV.undef).bind fun t179_190 =>
 (pr.guard t177_188 true).bind fun b191 =>
 (if b191 = true then pr.idxAddr none 42 t179_190 (LV.int .i64 0) else some LV.undef).bind fun t180_191 =>
 (pr.guard t177_188 true).bind fun b192 =>
 (if b192 = true then pr.fieldAddr 6 36 t180_191 else some LV.undef).bind fun t181_192 =>
 (pr.guard t177_188 true).bind fun b193 =>
 (if b193 = true then pr.load 1 false u162.2 t181_192 else some LV.undef).bind fun t182_193 =>
 (pr.pick t177_188 t182_193 (LV.bool false)).bind fun t183_194 =>
 (pr.guard t183_194 true).bind fun b196 =>
 (if b196 = true then some t121_117 else some LV.undef).bind fun t185_196 =>
 (pr.guard t183_194 true).bind fun b197 =>
 (if b197 = true then pr.idxAddr none 42 t185_196 (LV.int .i64 1) else some LV.undef).bind fun t186_197 =>
 (pr.guard t183_194 true).bind fun b198 =>
 (if b198 = true then pr.fieldAddr 8 38 t186_197 else some LV.undef).bind fun t187_198 =>
 (pr.guard t183_194 true).bind fun b199 =>
 (if b199 = true then pr.load 1 false u162.2 t187_198 else some LV.undef).bind fun t188_199 =>
 (pr.guard t183_194 true).bind fun b200 =>
 (if b200 = true then pr.bin .eql t188_199 (LV.int .i64 1232) else some LV.undef).bind fun t189_200 =>
 (pr.pick t183_194 t189_200 (LV.bool false)).bind fun t190_201 =>
 (pr.guard t190_201 true).bind fun b203 =>
 (if b203 = true then some t121_117 else some LV.undef).bind fun t192_203 =>
 (pr.guard t190_201 true).bind fun b204 =>
 (if b204 = true then pr.idxAddr none 42 t192_203 (LV.int .i64 1) else some LV.undef).bind fun t193_204 =>
 (pr.guard t190_201 true).bind fun b205 =>
 (if b205 = true then pr.fieldAddr 11 41 t193_204 else some LV.undef).bind fun t194_205 =>
 (pr.guard t190_201 true).bind fun b206 =>
 (if b206 = true then pr.load 1 false u162.2 t194_205 else some LV.undef).bind fun t195_206 =>
 (pr.guard t190_201 true).bind fun b207 =>
 (if b207 = true then pr.len true t195_206 else some LV.undef).bind fun t196_207 =>
 (pr.guard t190_201 true).bind fun b208 =>
 (if b208 = true then pr.bin .eql t196_207 (LV.int .i64 9) else some LV.undef).bind fun t197_208 =>
 (pr.pick t190_201 t197_208 (LV.bool false)).bind fun t198_209 =>
 (pr.guard t198_209 true).bind fun b211 =>
 (if b211 = true then some t121_117 else some LV.undef).bind fun t200_211 =>
 (pr.guard t198_209 true).bind fun b212 =>
 (if b212 = true then pr.idxAddr none 42 t200_211 (LV.int .i64 1) else some LV.undef).bind fun t201_212 =>
 (pr.guard t198_209 true).bind fun b213 =>
 (if b213 = true then pr.fieldAddr 9 39 t201_212 else some LV.undef).bind fun t202_213 =>
 (pr.guard t198_209 true).bind fun b214 =>
 (if b214 = true then pr.load 1 false u162.2 t202_213 else some LV.undef).bind fun t203_214 =>
 (pr.guard t198_209 true).bind fun b215 =>
 (if b215 = true then pr.un .not t203_214 else some LV.undef).bind fun t204_215 =>
 (pr.pick t198_209 t204_215 (LV.bool false)).bind fun t205_216 =>
 (pr.guard t205_216 true).bind fun b218 =>
 (if b218 = true then some t121_117 else some LV.undef).bind fun t207_218 =>
 (pr.guard t205_216 true).bind fun b219 =>
 (if b219 = true then pr.idxAddr none 42 t207_218 (LV.int .i64 1) else some LV.undef).bind fun t208_219 =>
 (pr.guard t205_216 true).bind fun b220 =>
 (if b220 = true then pr.fieldAddr 7 37 t208_219 else some LV.undef).bind fun t209_220 =>
 (pr.guard t205_216 true).bind fun b221 =>
 (if b221 = true then pr.load 1 false u162.2 t209_220 else some LV.undef).bind fun t210_221 =>
 (pr.guard t205_216 true).bind fun b222 =>
 (if b222 = true then pr.bin .eql t210_221 (LV.int .u32 7) else some LV.undef).bind fun t211_222 =>
 (pr.pick t205_216 t211_222 (LV.bool false)).bind fun t212_223 =>
 (pr.bin .eql t95_78 (LV.int .i64 3)).bind fun t214_226 =>
 (pr.guard t214_226 true).bind fun b228 =>
 (if b228 = true then some t100_85 else some LV.undef).bind fun t216_228 =>
 (pr.guard t214_226 true).bind fun b229 =>
 (if b229 = true then pr.bin .eql t216_228 (LV.int .i64 1) else some LV.undef).bind fun t217_229 =>
 (pr.pick t214_226 t217_229 (LV.bool false)).bind fun t218_230 =>
 (pr.guard t218_230 true).bind fun b232 =>
 (if b232 = true then some t105_92 else some LV.undef).bind fun t220_232 =>
 (pr.guard t218_230 true).bind fun b233 =>
 (if b233 = true then pr.bin .eql t220_232 (LV.int .i64 1) else some LV.undef).bind fun t221_233 =>
 (pr.pick t218_230 t221_233 (LV.bool false)).bind fun t222_234 =>
 (pr.guard t222_234 true).bind fun b236 =>
 (if b236 = true then some t110_99 else some LV.undef).bind fun t224_236 =>
 (pr.guard t222_234 true).bind fun b237 =>
 (if b237 = true then pr.bin .eql t224_236 (LV.int .i64 0) else some LV.undef).bind fun t225_237 =>
 (pr.pick t222_234 t225_237 (LV.bool false)).bind fun t226_238 =>
 (pr.guard t226_238 true).bind fun b240 =>
 (if b240 = true then some t109_98 else some LV.undef).bind fun t228_240 =>
 (pr.guard t226_238 true).bind fun b241 =>
 (if b241 = true then pr.len false t228_240 else some LV.undef).bind fun t229_241 =>
 (pr.guard t226_238 true).bind fun b242 =>
 (if b242 = true then pr.bin .eql t229_241 (LV.int .i64 1) else some LV.undef).bind fun t230_242 =>
 (pr.pick t226_238 t230_242 (LV.bool false)).bind fun t231_243 =>
 (pr.guard t231_243 true).bind fun b245 =>
 (if b245 = true then some t109_98 else some LV.undef).bind fun t233_245 =>
 (pr.guard t231_243 true).bind fun b246 =>
 (if b246 = true then pr.idxAddr none 17 t233_245 (LV.int .i64 0) else some LV.undef).bind fun t234_246 =>
 (pr.guard t231_243 true).bind fun b247 =>
 (if b247 = true then pr.load 17 true u162.2 t234_246 else some LV.undef).bind fun t235_247 =>
 (pr.guard t231_243 true).bind fun b248 =>
 (if b248 = true then pr.load 17 true u162.2 t6_70.1 else some LV.undef).bind fun t236_248 =>
 (pr.guard t231_243 true).bind fun b249 =>
 (if b249 = true then pr.eqS (Sh.agg [(Sh.int .i64), (Sh.int .i64), (Sh.int .i64), (Sh.int .i64), (Sh.int .i64), Sh.bool, Sh.bool, (Sh.bytes 4), (Sh.bytes 4), Sh.str, Sh.str]) false t235_247 t236_248 else some LV.undef).bind fun t237_249 =>
 (pr.pick t231_243 t237_249 (LV.bool false)).bind fun t238_250 =>
 (pr.guard t238_250 true).bind fun b252 =>
 (if b252 = true then some t117_111 else some LV.undef).bind fun t240_252 =>
 (pr.guard t238_250 true).bind fun b253 =>
 (if b253 = true then pr.bin .eql t240_252 (LV.int .i64 1) else some LV.undef).bind fun t241_253 =>
 (pr.pick t238_250 t241_253 (LV.bool false)).bind fun t242_254 =>
 (pr.guard t242_254 true).bind fun b256 =>
 (if b256 = true then some t212_223 else some LV.undef).bind fun t244_256 =>
 (pr.pick t242_254 t244_256 (LV.bool false)).bind fun t245_257 =>
 (pr.guard t245_257 true).bind fun b259 =>
 (if b259 = true then some t134_133 else some LV.undef).bind fun t247_259 =>
 (pr.guard t245_257 true).bind fun b260 =>
 (if b260 = true then pr.bin .eql t247_259 (LV.int .i64 0) else some LV.undef).bind fun t248_260 =>
 (pr.pick t245_257 t248_260 (LV.bool false)).bind fun t249_261 =>
 (pr.guard t249_261 true).bind fun b263 =>
 (if b263 = true then some t133_132 else some LV.undef).bind fun t251_263 =>
 (pr.guard t249_261 true).bind fun b264 =>
 (if b264 = true then pr.len false t251_263 else some LV.undef).bind fun t252_264 =>
 (pr.guard t249_261 true).bind fun b265 =>
 (if b265 = true then pr.bin .eql t252_264 (LV.int .i64 1) else some LV.undef).bind fun t253_265 =>
 (pr.pick t249_261 t253_265 (LV.bool false)).bind fun t254_266 =>
 (pr.guard t254_266 true).bind fun b268 =>
 (if b268 = true then some t133_132 else some LV.undef).bind fun t256_268 =>
 (pr.guard t254_266 true).bind fun b269 =>
 (if b269 = true then pr.idxAddr none 42 t256_268 (LV.int .i64 0) else some LV.undef).bind fun t257_269 =>
 (pr.guard t254_266 true).bind fun b270 =>
 (if b270 = true then pr.fieldAddr 6 36 t257_269 else some LV.undef).bind fun t258_270 =>
 (pr.guard t254_266 true).bind fun b271 =>
 (if b271 = true then pr.load 1 false u162.2 t258_270 else some LV.undef).bind fun t259_271 =>
 (pr.guard t254_266 true).bind fun b272 =>
 (if b272 = true then pr.un .not t259_271 else some LV.undef).bind fun t260_272 =>
 (pr.pick t254_266 t260_272 (LV.bool false)).bind fun t261_273 =>
 (pr.guard t261_273 true).bind fun b275 =>
 (if b275 = true then some t139_140 else some LV.undef).bind fun t263_275 =>
 (pr.guard t261_273 true).bind fun b276 =>
 (if b276 = true then pr.bin .eql t263_275 (LV.int .i64 1) else some LV.undef).bind fun t264_276 =>
 (pr.pick t261_273 t264_276 (LV.bool false)).bind fun t265_277 =>
 (pr.guard t265_277 true).bind fun b279 =>
 (if b279 = true then some t150_156 else some LV.undef).bind fun t267_279 =>
 (pr.guard t265_277 true).bind fun b280 =>
 (if b280 = true then pr.bin .eql t267_279 (LV.int .i64 0) else some LV.undef).bind fun t268_280 =>
 (pr.pick t265_277 t268_280 (LV.bool false)).bind fun t269_281 =>
 (pr.guard t269_281 true).bind fun b283 =>
 (if b283 = true then some t158_167 else some LV.undef).bind fun t271_283 =>
 (pr.guard t269_281 true).bind fun b284 =>
 (if b284 = true then pr.bin .eql t271_283 (LV.int .i64 13) else some LV.undef).bind fun t272_284 =>
 (pr.pick t269_281 t272_284 (LV.bool false)).bind fun t273_285 =>
 (pr.guard t273_285 true).bind fun b287 =>
 (if b287 = true then pr.call g id_interpreterlaw17_six u162.2 [(LV.int .i64 3)] else some LV.undef).bind fun t275_287 =>
 (pr.guard t273_285 true).bind fun b288 =>
 (if b288 = true then pr.call g id_refrag_Len6 u162.2 [t275_287] else some LV.undef).bind fun t276_288 =>
 (pr.guard t273_285 true).bind fun b289 =>
 (if b289 = true then pr.bin .eql t276_288 (LV.int .i64 43) else some LV.undef).bind fun t277_289 =>
 (pr.pick t273_285 t277_289 (LV.bool false)).bind fun t278_290 =>
 (pr.guard t278_290 true).bind fun b292 =>
 (if b292 = true then pr.load 17 true u162.2 t15_103.1 else some LV.undef).bind fun t280_292 =>
 (pr.guard t278_290 true).bind fun b293 =>
 (if b293 = true then pr.call g id_refrag_Len4 u162.2 [t280_292] else some LV.undef).bind fun t281_293 =>
 (pr.guard t278_290 true).bind fun b294 =>
 (if b294 = true then pr.bin .eql t281_293 (LV.int .i64 0) else some LV.undef).bind fun t282_294 =>
 (pr.pick t278_290 t282_294 (LV.bool false)).bind fun t283_295 =>
 (pr.guard t283_295 true).bind fun b297 =>
 (if b297 = true then pr.call g id_interpreterlaw17_wakes u162.2 [] else some LV.undef).bind fun t285_297 =>
 (pr.pick t283_295 t285_297 (LV.bool false)).bind fun t286_298 =>
 pr.fin none u162.2 [t286_298])) (exIf r21.1 .ret (
 pr.fin none r21.2.2 [(getL r21.2.1 0)]) (none))
noncomputable def FA17 (g : Call) : Option (LV × Option LV) :=
 (pr.call g id_interpreterlaw17_four noSlots [(LV.int .i64 100)]).bind fun t31_1 =>
 (pr.call g id_refrag_Cut4 noSlots [t31_1, (LV.int .i64 68)]).bind fun t32_2 =>
 (pr.extract t32_2 0).bind fun t33_4 =>
 (pr.extract t32_2 1).bind fun t34_5 =>
 (pr.bin .neq t34_5 (LV.int .i64 0)).bind fun t36_9 =>
 (pr.guard t36_9 false).bind fun b11 =>
 (if b11 = true then some t33_4 else some LV.undef).bind fun t38_11 =>
 (pr.guard t36_9 false).bind fun b12 =>
 (if b12 = true then pr.len false t38_11 else some LV.undef).bind fun t39_12 =>
 (pr.guard t36_9 false).bind fun b13 =>
 (if b13 = true then pr.bin .neq t39_12 (LV.int .i64 3) else some LV.undef).bind fun t40_13 =>
 (pr.pick t36_9 (LV.bool true) t40_13).bind fun t41_14 =>
 condK t41_14 (
 pr.fin none noSlots [(LV.bool false)]) (
 (pr.bsl (LV.int .i64 0) 3 [(0, (LV.int .i64 0)), (1, (LV.int .i64 48)), (2, (LV.int .i64 96))]).bind fun t42_16 =>
 (pr.bsl (LV.int .i64 0) 3 [(0, (LV.int .i64 48)), (1, (LV.int .i64 48)), (2, (LV.int .i64 4))]).bind fun t43_18 =>
 (whileW (fun q21 : List LV × Slots =>
 (pr.bin .lss (getL q21.1 1) (LV.int .i64 3)).bind fun t45_23 =>
 condK t45_23 (
 (pr.idxAddr none 17 t33_4 (getL q21.1 1)).bind fun t50_26 =>
 (pr.fieldAddr 4 4 t50_26).bind fun t51_27 =>
 (pr.load 1 false q21.2 t51_27).bind fun t52_28 =>
 (pr.idxAddr none 1 t42_16 (getL q21.1 1)).bind fun t55_31 =>
 (pr.load 1 false q21.2 t55_31).bind fun t56_32 =>
 (pr.bin .neq t52_28 t56_32).bind fun t57_33 =>
 (pr.guard t57_33 false).bind fun b35 =>
 (if b35 = true then some t33_4 else some LV.undef).bind fun t59_35 =>
 (pr.guard t57_33 false).bind fun b36 =>
 (if b36 = true then some (getL q21.1 1) else some LV.undef).bind fun t60_36 =>
 (pr.guard t57_33 false).bind fun b37 =>
 (if b37 = true then pr.idxAddr none 17 t59_35 t60_36 else some LV.undef).bind fun t61_37 =>
 (pr.guard t57_33 false).bind fun b38 =>
 (if b38 = true then pr.fieldAddr 10 16 t61_37 else some LV.undef).bind fun t62_38 =>
 (pr.guard t57_33 false).bind fun b39 =>
 (if b39 = true then pr.load 1 false q21.2 t62_38 else some LV.undef).bind fun t63_39 =>
 (pr.guard t57_33 false).bind fun b40 =>
 (if b40 = true then pr.len true t63_39 else some LV.undef).bind fun t64_40 =>
 (pr.guard t57_33 false).bind fun b41 =>
 (if b41 = true then some t43_18 else some LV.undef).bind fun t65_41 =>
 (pr.guard t57_33 false).bind fun b42 =>
 (if b42 = true then some (getL q21.1 1) else some LV.undef).bind fun t66_42 =>
 (pr.guard t57_33 false).bind fun b43 =>
 (if b43 = true then pr.idxAddr none 1 t65_41 t66_42 else some LV.undef).bind fun t67_43 =>
 (pr.guard t57_33 false).bind fun b44 =>
 (if b44 = true then pr.load 1 false q21.2 t67_43 else some LV.undef).bind fun t68_44 =>
 (pr.guard t57_33 false).bind fun b45 =>
 (if b45 = true then pr.bin .neq t64_40 t68_44 else some LV.undef).bind fun t69_45 =>
 (pr.pick t57_33 (LV.bool true) t69_45).bind fun t70_46 =>
 (pr.guard t70_46 false).bind fun b48 =>
 (if b48 = true then some t33_4 else some LV.undef).bind fun t72_48 =>
 (pr.guard t70_46 false).bind fun b49 =>
 (if b49 = true then some (getL q21.1 1) else some LV.undef).bind fun t73_49 =>
 (pr.guard t70_46 false).bind fun b50 =>
 (if b50 = true then pr.idxAddr none 17 t72_48 t73_49 else some LV.undef).bind fun t74_50 =>
 (pr.guard t70_46 false).bind fun b51 =>
 (if b51 = true then pr.fieldAddr 6 6 t74_50 else some LV.undef).bind fun t75_51 =>
 (pr.guard t70_46 false).bind fun b52 =>
 (if b52 = true then pr.load 1 false q21.2 t75_51 else some LV.undef).bind fun t76_52 =>
 (pr.guard t70_46 false).bind fun b53 =>
 (if b53 = true then some (getL q21.1 1) else some LV.undef).bind fun t77_53 =>
 (pr.guard t70_46 false).bind fun b54 =>
 (if b54 = true then pr.bin .lss t77_53 (LV.int .i64 2) else some LV.undef).bind fun t78_54 =>
 (pr.guard t70_46 false).bind fun b55 =>
 (if b55 = true then pr.eqB true t76_52 t78_54 else some LV.undef).bind fun t79_55 =>
 (pr.pick t70_46 (LV.bool true) t79_55).bind fun t80_56 =>
 (pr.guard t80_56 false).bind fun b58 =>
 (if b58 = true then some t33_4 else some LV.undef).bind fun t82_58 =>
 (pr.guard t80_56 false).bind fun b59 =>
 (if b59 = true then some (getL q21.1 1) else some LV.undef).bind fun t83_59 =>
 (pr.guard t80_56 false).bind fun b60 =>
 (if b60 = true then pr.idxAddr none 17 t82_58 t83_59 else some LV.undef).bind fun t84_60 =>
 (pr.guard t80_56 false).bind fun b61 =>
 (if b61 = true then pr.fieldAddr 3 3 t84_60 else some LV.undef).bind fun t85_61 =>
 (pr.guard t80_56 false).bind fun b62 =>
 (if b62 = true then pr.load 1 false q21.2 t85_61 else some LV.undef).bind fun t86_62 =>
 (pr.guard t80_56 false).bind fun b63 =>
 (if b63 = true then pr.bin .neq t86_62 (LV.int .i64 17) else some LV.undef).bind fun t87_63 =>
 (pr.pick t80_56 (LV.bool true) t87_63).bind fun t88_64 =>
 condK t88_64 (
 pr.round noSlots .ret [(LV.bool false), (getL q21.1 1)] q21.2) (
 (pr.bin .add (getL q21.1 1) (LV.int .i64 1)).bind fun t47_67 =>
 pr.round noSlots .normal [(getL q21.1 0), t47_67] q21.2)) (
 pr.round noSlots (.exit 0) [(getL q21.1 0), (getL q21.1 1)] q21.2)) ([(LV.bool false), (LV.int .i64 0)], noSlots)).bind fun r21 =>
 FB17 g r21)
theorem FA17_eq (g : Call) : F_interpreterlaw17_RefragKnown g = FA17 g := rfl
section
variable {S : Sys} (hS : Has S) (n : Nat)
include hS
theorem ev_RefragKnown {vs : List LV} (h : fitVL [] vs) : S.ev (n + 8) id_interpreterlaw17_RefragKnown vs none = some (.bool true, none) := by
  obtain rfl := fit_nil h
  rw [Sys.step hS.h_interpreterlaw17_RefragKnown, F_interpreterlaw17_RefragKnown_eq]
  rw [FA17_eq]
  unfold FA17
  have hw := ev_wakes17 hS n
  have h1 : S.ev (n + 7) id_interpreterlaw17_four [.int .i64 100] none = _ := ev_four hS (n + 6) 100 (by omega)
  have h2 : S.ev (n + 7) id_interpreterlaw17_six [.int .i64 1241] none = _ := ev_six hS (n + 6) 1241 (by omega)
  have h3 : S.ev (n + 7) id_interpreterlaw17_four [.int .i64 1] none = _ := ev_four hS (n + 6) 1 (by omega)
  have h4 : S.ev (n + 7) id_interpreterlaw17_six [.int .i64 1240] none = _ := ev_six hS (n + 6) 1240 (by omega)
  have h5 : S.ev (n + 7) id_interpreterlaw17_six [.int .i64 1] none = _ := ev_six hS (n + 6) 1 (by omega)
  have h6 : S.ev (n + 7) id_interpreterlaw17_six [.int .i64 3] none = _ := ev_six hS (n + 6) 3 (by omega)
  have c1 := ev_cut4 hS (n + 2) (df := false) (mo := false) (fit_four 100 (by omega)) 68
  have c2 := ev_cut4 hS (n + 2) (df := true) (mo := false) (fit_four 100 (by omega)) 68
  have c3 := ev_cut4 hS (n + 2) (df := true) (mo := false) (fit_four 100 (by omega)) 67
  have c4 := ev_cut4 hS (n + 2) (df := true) (mo := false) (fit_four 100 (by omega)) 65536
  have c5 := ev_cut4 hS (n + 2) (df := true) (mo := false) (fit_four 100 (by omega)) 120
  have c6 := ev_cut4 hS (n + 2) (df := false) (mo := false) (k_fit 1 (by omega)) 100
  have c7 := ev_cut6 hS (n + 1) (fg := false) (mo := false) (fit_six 1241 (by omega)) 1280 7
  have c8 := ev_cut6 hS (n + 1) (fg := false) (mo := false) (fit_six 1240 (by omega)) 1280 7
  have c9 := ev_cut6 hS (n + 1) (fg := false) (mo := false) (fit_six 1 (by omega)) 1279 7
  have d1 := ev_cut6 hS (n + 1) (fg := false) (mo := false) (k_fitx 1 (by omega)) 1280 7
  have d2 := ev_cut6 hS (n + 1) (fg := false) (mo := false) (k_fitx 9 (by omega)) 1280 7
  have l6 := ev_len6 hS (n + 2) (fg := false) (mo := false) (fit_six 3 (by omega))
  have l4 := ev_len4 hS (n + 3) (df := false) (mo := false) (k_fit 1 (by omega))
  rw [cutC_four, cutL_four] at c1
  rw [(k_df 68).1, (k_df 68).2] at c2
  rw [(k_df 67).1, (k_df 67).2] at c3
  rw [(k_df 65536).1, (k_df 65536).2] at c4
  rw [(k_df 120).1, (k_df 120).2] at c5
  rw [k_ttlC, k_ttlL] at c6
  rw [cutC_six, cutL_six] at c7
  rw [k_six 1240 (by omega), k_sixL 1240 (by omega)] at c8
  rw [(k_less _).1, (k_less _).2] at c9
  rw [k_x0.1] at d1
  rw [k_x0.2] at d2
  rw [ln_six 3 (by omega)] at l6
  rw [k_ttlN] at l4
  simp only [Int.reduceLT, Int.reduceLE, if_true, if_false, or_false, or_true, or_self, false_or, true_or] at c2 c3 c4 c5
  simp only [extsLV, List.map_nil, List.map_cons] at h2 h4 h5 h6 c7 c8 c9 d1 d2 l6
  generalize cut6L 0 0 9 [1, 0, 0, 0, 0, 0, 0, 0, 0, 0, 0, 0, 0, 0, 0, 0] [2, 0, 0, 0, 0, 0, 0, 0, 0, 0, 0, 0, 0, 0, 0, 0] kEx false 0 0 false 17 (List.replicate 1 0) 1280 7 = L1 at d1
  generalize cut6L 0 0 9 [1, 0, 0, 0, 0, 0, 0, 0, 0, 0, 0, 0, 0, 0, 0, 0] [2, 0, 0, 0, 0, 0, 0, 0, 0, 0, 0, 0, 0, 0, 0, 0] kEx false 0 0 false 17 (List.replicate 9 0) 1280 7 = L2 at d2
  have hr1 : List.replicate (Int.toNat 1230) (0 : UInt8) = List.replicate 1230 0 := rfl
  have hr9 : List.replicate (Int.toNat 9) (0 : UInt8) = List.replicate 9 0 := rfl
  have y1 : (List.replicate 48 (0 : UInt8)).length = 48 := List.length_replicate
  have y2 : (List.replicate 4 (0 : UInt8)).length = 4 := List.length_replicate
  have y3 : (List.replicate 1232 (0 : UInt8)).length = 1232 := List.length_replicate
  have y4 : (List.replicate 9 (0 : UInt8)).length = 9 := List.length_replicate
  have y5 : (List.replicate 1230 (0 : UInt8)).length = 1230 := List.length_replicate
  generalize hz0 : List.replicate 100 (0 : UInt8) = z0 at *
  generalize hz1 : List.replicate 1241 (0 : UInt8) = z1 at *
  generalize hz3 : List.replicate 48 (0 : UInt8) = z3 at *
  generalize hz4 : List.replicate 4 (0 : UInt8) = z4 at *
  generalize hz5 : List.replicate 1232 (0 : UInt8) = z5 at *
  generalize hz6 : List.replicate 9 (0 : UInt8) = z6 at *
  generalize hz7 : List.replicate 1230 (0 : UInt8) = z7 at *
  generalize hz8 : List.replicate 1240 (0 : UInt8) = z8 at *
  generalize hz9 : List.replicate 3 (0 : UInt8) = z9 at *
  generalize hz10 : List.replicate 1 (0 : UInt8) = z10 at *
  have t7 : List.take 1230 z7 = z7 := List.take_of_length_le (by omega)
  have t6 : List.take 9 z6 = z6 := List.take_of_length_le (by omega)
  have n1 : ((1 : Nat) : Int) = 1 := rfl
  have n2 : ((2 : Nat) : Int) = 2 := rfl
  have n3 : ((3 : Nat) : Int) = 3 := rfl
  have n4 : ((4 : Nat) : Int) = 4 := rfl
  have n9 : ((9 : Nat) : Int) = 9 := rfl
  have n43 : ((43 : Nat) : Int) = 43 := rfl
  have n48 : ((48 : Nat) : Int) = 48 := rfl
  have n0 : ((0 : Nat) : Int) = 0 := rfl
  have nz : ((1232 : Nat) : Int) = 1232 := rfl
  (try simp only [guard_merge, or_merge, and_merge, or_pick, and_pick, guard_or, guard_and]); simp only [to_ob]
  simp only [go_sem, ↓reduceIte, reduceCtorEq, upd_ne, back_new (no_at), Nat.reduceAdd, Nat.reduceEqDiff, Nat.reduceMul, Nat.reduceSub, Nat.reduceLeDiff, Nat.reduceLT, Int.reduceToNat, Int.reduceLE, Int.reduceLT, Int.reduceEq, UInt8.reduceOfNat, h1, c1, n3, decide_true, Bool.not_true, List.length_cons, List.length_nil]
  refine while_rule (fun k q => ∃ i : Nat, q = ([.bool false, .int .i64 (i : Int)], noSlots) ∧ i + k = 3) 3 ⟨0, rfl, rfl⟩ ?_
  rintro k q ⟨i, rfl, hi⟩
  have hi4 : i = 0 ∨ i = 1 ∨ i = 2 ∨ i = 3 := by omega
  rcases hi4 with rfl | rfl | rfl | rfl
  · simp only [go_sem, ↓reduceIte, reduceCtorEq, upd_ne, back_new (no_at), Nat.reduceAdd, Nat.reduceEqDiff, Nat.reduceMul, Nat.reduceSub, Nat.reduceLeDiff, Nat.reduceLT, Int.reduceToNat, Int.reduceLE, Int.reduceLT, Int.reduceEq, UInt8.reduceOfNat, List.getElem?_map, Int.toNat_natCast, n0, n48, n4, n1, n2, n3, y1, y2, List.getElem?_cons_zero, List.getElem?_cons_succ, decide_true, beq_self_eq_true, Bool.not_true, Bool.false_eq_true, Int.reduceAdd]
    exact ⟨2, by omega, 1, rfl, rfl⟩
  · simp only [go_sem, ↓reduceIte, reduceCtorEq, upd_ne, back_new (no_at), Nat.reduceAdd, Nat.reduceEqDiff, Nat.reduceMul, Nat.reduceSub, Nat.reduceLeDiff, Nat.reduceLT, Int.reduceToNat, Int.reduceLE, Int.reduceLT, Int.reduceEq, UInt8.reduceOfNat, List.getElem?_map, Int.toNat_natCast, n0, n48, n4, n1, n2, n3, y1, y2, List.getElem?_cons_zero, List.getElem?_cons_succ, decide_true, beq_self_eq_true, Bool.not_true, Bool.false_eq_true, Int.reduceAdd]
    exact ⟨1, by omega, 2, rfl, rfl⟩
  · simp only [go_sem, ↓reduceIte, reduceCtorEq, upd_ne, back_new (no_at), Nat.reduceAdd, Nat.reduceEqDiff, Nat.reduceMul, Nat.reduceSub, Nat.reduceLeDiff, Nat.reduceLT, Int.reduceToNat, Int.reduceLE, Int.reduceLT, Int.reduceEq, UInt8.reduceOfNat, List.getElem?_map, Int.toNat_natCast, n0, n48, n4, n1, n2, n3, y1, y2, List.getElem?_cons_zero, List.getElem?_cons_succ, decide_true, beq_self_eq_true, Bool.not_true, Bool.false_eq_true, Int.reduceAdd]
    exact ⟨0, by omega, 3, rfl, rfl⟩
  · simp only [go_sem, ↓reduceIte, reduceCtorEq, upd_ne, back_new (no_at), Nat.reduceAdd, Nat.reduceEqDiff, Nat.reduceMul, Nat.reduceSub, Nat.reduceLeDiff, Nat.reduceLT, Int.reduceToNat, Int.reduceLE, Int.reduceLT, Int.reduceEq, UInt8.reduceOfNat, List.getElem?_map, Int.toNat_natCast, n3]
    unfold Nxt FB17
    (try simp only [guard_merge, or_merge, and_merge, or_pick, and_pick, guard_or, guard_and]); simp only [to_ob]
    simp only [-List.reduceReplicate, go_sem, ↓reduceIte, reduceCtorEq, upd_ne, back_new (no_at), Nat.reduceAdd, Nat.reduceEqDiff, Nat.reduceMul, Nat.reduceSub, Nat.reduceLeDiff, Nat.reduceLT, Int.reduceToNat, Int.reduceLE, Int.reduceLT, Int.reduceEq, UInt8.reduceOfNat, List.getElem?_map, Int.toNat_natCast, exIf, hz7, hz6, t7, t6, hw, h1, h2, h3, h4, h5, h6, c1, c2, c3, c4, c5, c6, c7, c8, c9, d1, d2, l4, l6, n0, n1, n2, n3, n4, n9, n43, n48, nz, y1, y2, y3, y4, y5, hr1, hr9, List.length_cons, List.length_nil, List.getElem?_cons_zero, List.getElem?_cons_succ, decide_true, beq_self_eq_true, Bool.not_true, Bool.not_false, Bool.false_eq_true, Bool.and_self]
end
end Go.Ev
