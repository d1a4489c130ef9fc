/- The law QuotKnown's region 7 (written by its generator). -/
import Derived.Test.YtngpibfakemmhaaGreatDoorQKnL
import Derived.Test.YtngpibfakemmhaaGreatDoorEarlyW
namespace Go.Proofs.YtngpibfakemmhaaGreatDoor
open Go Go.RowKit Dig
set_option linter.unusedSimpArgs false in
set_option linter.unusedVariables false in
set_option maxRecDepth 100000 in
set_option maxHeartbeats 16000000 in
theorem qkn_r7 {w wc : World} (G : Glob w) (M : MaxL w) {T : Nat} {ns : List UInt8} {NB LB : ByteArray} {bm bl bb : Nat} {a0 a1 a2 a3 c0 c1 c2 c3 d0 d1 d2 d3 : Value} {n1 n2 : Bool} {l1 l2 : List Int}
    (HM : Hid (MostQ T ns)) (HNB : Hid (NB.data.toList = ns)) (HNZ : Hid (NB.size = 5400)) (HLB : Hid ((⟨#[49, 47]⟩ : ByteArray) ++ NB = LB)) (HLD : Hid (LB.data.toList = [49] ++ 47 :: ns)) (HBQ : Hid (qOf n1 l1 n2 l2 = none))
    {K : Act → World → Prop} {Q : Exit → Act → World → Prop} (hQ : ∀ c a d v w, Q (.panic c) (Act.put a d v) w → Q (.panic c) a w) {u0 u6 u7 u8 u9 u10 u11 u12 u13 u14 u15 u16 u17 u18 u19 u20 u21 u22 u23 u24 u25 u26 u27 u28 u29 u30 u31 u32 u33 u34 u35 u36 u37 u38 u39 u40 u41 u42 u43 u44 u45 u46 u47 u48 u49 u50 u51 u52 u53 u54 u55 u56 u57 u58 u59 u60 u61 u62 u63 u64 u65 u66 u67 u68 u69 u70 u71 u72 u73 u74 u75 u76 u77 u78 u79 u80 u81 u82 u83 u84 u85 u86 u87 u88 u89 u90 u91 u92 u93 u94 u95 u96 u97 u98 u99 u100 u101 u102 u103 u104 u105 u106 u107 u108 u109 u110 u111 u112 u113 u114 u115 u116 u117 u118 u119 u120 u121 u122 u123 u124 u125 u126 u127 u128 u129 u130 u131 u132 u133 u134 u135 u136 u137 u138 u139 u140 u141 u142 u143 u144 u145 u146 u147 u148 u149 u150 u151 u152 u153 u154 u155 u156 u157 u158 u159 u160 u161 u162 u163 u164 u165 u166 u167 u168 u169 u170 u171 u172 u173 u174 u175 u176 u177 u178 u179 u180 u181 u182 u183 u184 u185 u186 u187 u188 u189 u190 u191 u192 u193 u194 u195 u196 u197 u198 u199 u200 u201 u202 u203 u204 u205 u206 u207 u208 u209 u210 u211 u212 u213 u214 u215 u216 u217 u218 u219 u220 u221 u222 u223 u224 u225 u226 u227 u228 u229 u230 u231 u232 u233 u234 u235 u236 u237 u238 u239 u240 u241 u242 u243 u244 u245 u246 u247 u248 u249 u250 u251 u252 u253 u254 u255 u256 u257 u258 u259 u260 u261 u262 u263 u264 u265 u266 u267 u268 u269 u270 u271 u272 u273 u274 u275 u276 u277 u278 u279 u280 u281 u282 u283 u284 u285 u286 u287 u288 u289 u290 u291 u292 u293 u294 u295 u296 u297 u298 u299 u300 u301 u302 u303 u304 u305 u306 u307 u308 u309 u310 u311 u312 u313 u314 u315 u316 u317 u318 u319 u320 u321 u322 u323 u324 u325 u326 u327 u328 u329 u330 u331 u332 u333 u334 u335 u336 u337 u338 u339 u340 u341 u342 u343 u344 u345 u346 u347 u348 u349 u350 u351 u352 u353 u354 u355 u356 u357 u358 u359 u360 u361 u362 u363 u364 u365 u366 u367 u368 u369 u370 u371 u372 u373 u374 u375 u376 u377 u378 u379 u380 u381 u382 u383 u384 u385 u386 u387 u388 u389 u390 u391 u392 u393 u394 u395 u396 u397 u398 u399 u400 u401 u402 u403 u404 u405 u406 u407 u408 u409 u410 u411 u412 u413 u414 u415 u416 u417 u418 u419 u420 u421 u422 u423 u424 u425 u426 u427 u428 u429 u430 u431 u432 u433 u434 u435 u436 u437 u438 u439 u440 u441 u442 u443 u444 u445 u446 u447 u448 u449 u450 u451 u452 u453 u454 u455 u456 u457 u458 u459 u460 u461 u462 u463 u464 u465 u466 u467 u468 u469 u470 u471 u472 u473 : Value} (HB0 : Hid (Below w.heap.size w wc)) (Lm0 : CB wc bm 28 #[a0, a1, a2, a3]) (Hm0 : Hid (QV wc wc.heap.size (.agg #[a0, a1, a2, a3]) (mkRat (T : Int) 1))) (Ll0 : CB wc bl 28 #[c0, c1, c2, c3]) (Hl0 : Hid (QV wc wc.heap.size (.agg #[c0, c1, c2, c3]) (mkRat 1 T))) (Lb0 : CB wc bb 28 #[d0, d1, d2, d3]) (Hb0 : Hid (QR wc wc.heap.size (.agg #[d0, d1, d2, d3]) n1 l1 n2 l2))
    (hK : ∀ (x75 x76 x77 x78 x79 x80 x81 x82 x83 x84 x85 x86 x87 x88 x89 x90 x91 x92 x93 x94 x95 x96 x97 x98 x99 x100 x101 x102 x103 x104 x105 x106 x107 x108 x109 x110 x111 x112 x113 x114 x115 x116 x117 x118 x119 x120 x121 x122 x123 x124 x125 x126 x127 x128 x129 x130 x131 x132 x133 x134 x135 x136 x137 x138 x139 x140 x141 x142 x143 x144 x145 x146 x147 x148 x149 x150 x151 x152 x153 x154 x155 x156 x157 x158 x159 : Value) (wx : World), Hid (Below w.heap.size w wx) → CB wx bm 28 #[a0, a1, a2, a3] → Hid (QV wx wx.heap.size (.agg #[a0, a1, a2, a3]) (mkRat (T : Int) 1)) → CB wx bl 28 #[c0, c1, c2, c3] → Hid (QV wx wx.heap.size (.agg #[c0, c1, c2, c3]) (mkRat 1 T)) → CB wx bb 28 #[d0, d1, d2, d3] → Hid (QR wx wx.heap.size (.agg #[d0, d1, d2, d3]) n1 l1 n2 l2) → K ⟨#[u0, .string NB, .pointer (some ⟨bm, 0, none⟩), .pointer (some ⟨bl, 0, none⟩), .pointer (some ⟨bb, 0, none⟩), .bool true, u6, u7, u8, u9, u10, u11, u12, u13, u14, u15, u16, u17, u18, u19, u20, u21, u22, u23, u24, u25, u26, u27, u28, u29, u30, u31, u32, u33, u34, u35, u36, u37, u38, u39, u40, u41, u42, u43, u44, u45, u46, u47, u48, u49, u50, u51, u52, u53, u54, u55, u56, u57, u58, u59, u60, u61, u62, u63, u64, u65, u66, u67, u68, u69, u70, u71, u72, u73, u74, x75, x76, x77, x78, x79, x80, x81, x82, x83, x84, x85, x86, x87, x88, x89, x90, x91, x92, x93, x94, x95, x96, x97, x98, x99, x100, x101, x102, x103, x104, x105, x106, x107, x108, x109, x110, x111, x112, x113, x114, x115, x116, x117, x118, x119, x120, x121, x122, x123, x124, x125, x126, x127, x128, x129, x130, x131, x132, x133, x134, x135, x136, x137, x138, x139, x140, x141, x142, x143, x144, x145, x146, x147, x148, x149, x150, x151, x152, x153, x154, x155, x156, x157, x158, x159, u160, u161, u162, u163, u164, u165, u166, u167, u168, u169, u170, u171, u172, u173, u174, u175, u176, u177, u178, u179, u180, u181, u182, u183, u184, u185, u186, u187, u188, u189, u190, u191, u192, u193, u194, u195, u196, u197, u198, u199, u200, u201, u202, u203, u204, u205, u206, u207, u208, u209, u210, u211, u212, u213, u214, u215, u216, u217, u218, u219, u220, u221, u222, u223, u224, u225, u226, u227, u228, u229, u230, u231, u232, u233, u234, u235, u236, u237, u238, u239, u240, u241, u242, u243, u244, u245, u246, u247, u248, u249, u250, u251, u252, u253, u254, u255, u256, u257, u258, u259, u260, u261, u262, u263, u264, u265, u266, u267, u268, u269, u270, u271, u272, u273, u274, u275, u276, u277, u278, u279, u280, u281, u282, u283, u284, u285, u286, u287, u288, u289, u290, u291, u292, u293, u294, u295, u296, u297, u298, u299, u300, u301, u302, u303, u304, u305, u306, u307, u308, u309, u310, u311, u312, u313, u314, u315, u316, u317, u318, u319, u320, u321, u322, u323, u324, u325, u326, u327, u328, u329, u330, u331, u332, u333, u334, u335, u336, u337, u338, u339, u340, u341, u342, u343, u344, u345, u346, u347, u348, u349, u350, u351, u352, u353, u354, u355, u356, u357, u358, u359, u360, u361, u362, u363, u364, u365, u366, u367, u368, u369, u370, u371, u372, u373, u374, u375, u376, u377, u378, u379, u380, u381, u382, u383, u384, u385, u386, u387, u388, u389, u390, u391, u392, u393, u394, u395, u396, u397, u398, u399, u400, u401, u402, u403, u404, u405, u406, u407, u408, u409, u410, u411, u412, u413, u414, u415, u416, u417, u418, u419, u420, u421, u422, u423, u424, u425, u426, u427, u428, u429, u430, u431, u432, u433, u434, u435, u436, u437, u438, u439, u440, u441, u442, u443, u444, u445, u446, u447, u448, u449, u450, u451, u452, u453, u454, u455, u456, u457, u458, u459, u460, u461, u462, u463, u464, u465, u466, u467, u468, u469, u470, u471, u472, u473], []⟩ wx) :
    Code.wp Tryz.prog (kn_fst (kn_snd (kn_snd (kn_snd (kn_snd (kn_snd (kn_snd (Tryz.f3.body.getD .skip)))))))) (Exit.then K Q) ⟨#[u0, .string NB, .pointer (some ⟨bm, 0, none⟩), .pointer (some ⟨bl, 0, none⟩), .pointer (some ⟨bb, 0, none⟩), .bool true, u6, u7, u8, u9, u10, u11, u12, u13, u14, u15, u16, u17, u18, u19, u20, u21, u22, u23, u24, u25, u26, u27, u28, u29, u30, u31, u32, u33, u34, u35, u36, u37, u38, u39, u40, u41, u42, u43, u44, u45, u46, u47, u48, u49, u50, u51, u52, u53, u54, u55, u56, u57, u58, u59, u60, u61, u62, u63, u64, u65, u66, u67, u68, u69, u70, u71, u72, u73, u74, u75, u76, u77, u78, u79, u80, u81, u82, u83, u84, u85, u86, u87, u88, u89, u90, u91, u92, u93, u94, u95, u96, u97, u98, u99, u100, u101, u102, u103, u104, u105, u106, u107, u108, u109, u110, u111, u112, u113, u114, u115, u116, u117, u118, u119, u120, u121, u122, u123, u124, u125, u126, u127, u128, u129, u130, u131, u132, u133, u134, u135, u136, u137, u138, u139, u140, u141, u142, u143, u144, u145, u146, u147, u148, u149, u150, u151, u152, u153, u154, u155, u156, u157, u158, u159, u160, u161, u162, u163, u164, u165, u166, u167, u168, u169, u170, u171, u172, u173, u174, u175, u176, u177, u178, u179, u180, u181, u182, u183, u184, u185, u186, u187, u188, u189, u190, u191, u192, u193, u194, u195, u196, u197, u198, u199, u200, u201, u202, u203, u204, u205, u206, u207, u208, u209, u210, u211, u212, u213, u214, u215, u216, u217, u218, u219, u220, u221, u222, u223, u224, u225, u226, u227, u228, u229, u230, u231, u232, u233, u234, u235, u236, u237, u238, u239, u240, u241, u242, u243, u244, u245, u246, u247, u248, u249, u250, u251, u252, u253, u254, u255, u256, u257, u258, u259, u260, u261, u262, u263, u264, u265, u266, u267, u268, u269, u270, u271, u272, u273, u274, u275, u276, u277, u278, u279, u280, u281, u282, u283, u284, u285, u286, u287, u288, u289, u290, u291, u292, u293, u294, u295, u296, u297, u298, u299, u300, u301, u302, u303, u304, u305, u306, u307, u308, u309, u310, u311, u312, u313, u314, u315, u316, u317, u318, u319, u320, u321, u322, u323, u324, u325, u326, u327, u328, u329, u330, u331, u332, u333, u334, u335, u336, u337, u338, u339, u340, u341, u342, u343, u344, u345, u346, u347, u348, u349, u350, u351, u352, u353, u354, u355, u356, u357, u358, u359, u360, u361, u362, u363, u364, u365, u366, u367, u368, u369, u370, u371, u372, u373, u374, u375, u376, u377, u378, u379, u380, u381, u382, u383, u384, u385, u386, u387, u388, u389, u390, u391, u392, u393, u394, u395, u396, u397, u398, u399, u400, u401, u402, u403, u404, u405, u406, u407, u408, u409, u410, u411, u412, u413, u414, u415, u416, u417, u418, u419, u420, u421, u422, u423, u424, u425, u426, u427, u428, u429, u430, u431, u432, u433, u434, u435, u436, u437, u438, u439, u440, u441, u442, u443, u444, u445, u446, u447, u448, u449, u450, u451, u452, u453, u454, u455, u456, u457, u458, u459, u460, u461, u462, u463, u464, u465, u466, u467, u468, u469, u470, u471, u472, u473], []⟩ wc := by
  replace hK := Lib.hid hK
  have hcat1 : ¬ 9223372036854775807 < 2 + NB.size := by rw [HNZ.out]; omega
  have hlb := HLB.out
  show Code.wp _ (Code.region 7 _ _) _ _ _
  have KS1 : ∀ w' : World, Below wc.heap.size wc w' → (Below wc.heap.size wc w' ∧ w'.cell? ⟨bm, 0, none⟩ = some (a0) ∧ w'.cell? ⟨bm, 1, none⟩ = some (a1) ∧ w'.cell? ⟨bm, 2, none⟩ = some (a2) ∧ w'.cell? ⟨bm, 3, none⟩ = some (a3) ∧ w'.cell? ⟨bl, 0, none⟩ = some (c0) ∧ w'.cell? ⟨bl, 1, none⟩ = some (c1) ∧ w'.cell? ⟨bl, 2, none⟩ = some (c2) ∧ w'.cell? ⟨bl, 3, none⟩ = some (c3) ∧ w'.cell? ⟨bb, 0, none⟩ = some (d0) ∧ w'.cell? ⟨bb, 1, none⟩ = some (d1) ∧ w'.cell? ⟨bb, 2, none⟩ = some (d2) ∧ w'.cell? ⟨bb, 3, none⟩ = some (d3)) := fun w' h => ⟨h, (CB.step Lm0 h).cell 0 rfl, (CB.step Lm0 h).cell 1 rfl, (CB.step Lm0 h).cell 2 rfl, (CB.step Lm0 h).cell 3 rfl, (CB.step Ll0 h).cell 0 rfl, (CB.step Ll0 h).cell 1 rfl, (CB.step Ll0 h).cell 2 rfl, (CB.step Ll0 h).cell 3 rfl, (CB.step Lb0 h).cell 0 rfl, (CB.step Lb0 h).cell 1 rfl, (CB.step Lb0 h).cell 2 rfl, (CB.step Lb0 h).cell 3 rfl⟩
  refine Early.start 86 (fun w' => Below wc.heap.size wc w' ∧ w'.cell? ⟨bm, 0, none⟩ = some (a0) ∧ w'.cell? ⟨bm, 1, none⟩ = some (a1) ∧ w'.cell? ⟨bm, 2, none⟩ = some (a2) ∧ w'.cell? ⟨bm, 3, none⟩ = some (a3) ∧ w'.cell? ⟨bl, 0, none⟩ = some (c0) ∧ w'.cell? ⟨bl, 1, none⟩ = some (c1) ∧ w'.cell? ⟨bl, 2, none⟩ = some (c2) ∧ w'.cell? ⟨bl, 3, none⟩ = some (c3) ∧ w'.cell? ⟨bb, 0, none⟩ = some (d0) ∧ w'.cell? ⟨bb, 1, none⟩ = some (d1) ∧ w'.cell? ⟨bb, 2, none⟩ = some (d2) ∧ w'.cell? ⟨bb, 3, none⟩ = some (d3)) (by kernel_rfl) ?_
  change Early _ _ _ _ _ _ _ #[false, false, false, false, false, false, false, false, false, false, false, false, false, false, false, false, false, false, false, false, false, false, false, false, false, false, false, false, false, false, false, false, false, false, false, false, false, false, false, false, false, false, false, false, false, false, false, false, false, false, false, false, false, false, false, false, false, false, false, false, false, false, false, false, false, false, false, false, false, false, false, false, false, false, false, false, false, false, false, false, false, false, false, false, false, false] _ _
  refine Early.take (i := 0) (.bool true) rfl (by kernel_rfl) (by kernel_rfl) (by kernel_rfl) (by kernel_rfl) (by kernel_rfl) (fun c a w h => hQ c a _ _ w h) (Or.inl ⟨by rfl, ?_⟩) ?_ ?_
  · intro w' _; go_simp
  · exact KS1 _ (below_drew1 (Below.refl _ _))
  (try simp only [Act.put, List.setIfInBounds_toArray, List.set_cons_zero, List.set_cons_succ])
  refine Early.take (i := 1) (.bool true) rfl (by kernel_rfl) (by kernel_rfl) (by kernel_rfl) (by kernel_rfl) (by kernel_rfl) (fun c a w h => hQ c a _ _ w h) (Or.inl ⟨by rfl, ?_⟩) ?_ ?_
  · intro w' _; go_simp
  · exact KS1 _ (below_drew1 (Below.refl _ _))
  (try simp only [Act.put, List.setIfInBounds_toArray, List.set_cons_zero, List.set_cons_succ])
  refine Early.take (i := 3) (.agg #[a0, a1, a2, a3]) rfl (by kernel_rfl) (by kernel_rfl) (by kernel_rfl) (by kernel_rfl) (by kernel_rfl) (fun c a w h => hQ c a _ _ w h) (Or.inl ⟨by rfl, ?_⟩) ?_ ?_
  · intro w' hSw; obtain ⟨-, t0, t1, t2, t3, t4, t5, t6, t7, t8, t9, t10, t11⟩ := hSw; go_simp
  · exact KS1 _ (below_drew1 (Below.refl _ _))
  (try simp only [Act.put, List.setIfInBounds_toArray, List.set_cons_zero, List.set_cons_succ])
  refine Early.nextw (i := 2) (by kernel_rfl) rfl (by rfl) (fun K hK => ?_)
  go_simp
  (with_reducible refine (failsQ_new _ 6).mono ?_)
  rintro e w3 ⟨hb3, N2, rfl, hN2⟩
  replace hb3 := below_undrew hb3
  have B4 := Lib.hid hb3
  have z4 := B4.out.size
  have HB5 := Lib.hid (HB0.out.trans (B4.out.mono HB0.out.size))
  clear hb3
  refine hK _ _ (fun _ => KS1 _ B4.out) ?_; clear hK K
  (try simp only [Act.put, List.setIfInBounds_toArray, List.set_cons_zero, List.set_cons_succ])
  refine Early.nextw (i := 4) (by kernel_rfl) rfl (by rfl) (fun K hK => ?_)
  go_simp
  (with_reducible refine (ofQ_lit _ ⟨#[49]⟩ (mkRat 1 1) plit_49 (by decide +kernel) (M.step HB5.out)).mono ?_)
  rintro e w7 ⟨hb7, v6, rfl, hv6⟩
  have B8 := Lib.hid hb7
  have z8 := B8.out.size
  have HB9 := Lib.hid (HB5.out.trans (B8.out.mono HB5.out.size))
  clear hb7
  have P1_3_10 := Lib.hid (B4.out.trans (B8.out.mono B4.out.size))
  refine hK _ _ (fun _ => KS1 _ P1_3_10.out) ?_; clear hK K
  (try simp only [Act.put, List.setIfInBounds_toArray, List.set_cons_zero, List.set_cons_succ])
  have Ho6_11 := Lib.hid hv6; clear hv6
  refine Early.nextw (i := 5) (by kernel_rfl) rfl (by rfl) (fun K hK => ?_)
  go_simp
  have Hmost_13 := Lib.hid (QV.step Hm0.out P1_3_10.out)
  (with_reducible refine (((QAdd_good _ _ _ (mkRat (T : Int) 1) (mkRat 1 1) Hmost_13.out Ho6_11.out HM.out.lm (lit_QL (x := 1) (d := 1) (by decide) (by decide +kernel) (by decide +kernel) (by decide +kernel))).mono fun e w' h => And.intro h.1 (ret_no HM.out.add1 h.2))).mono ?_)
  rintro e w14 ⟨hb14, v12, rfl, hv12⟩
  have B15 := Lib.hid hb14
  have z15 := B15.out.size
  have HB16 := Lib.hid (HB9.out.trans (B15.out.mono HB9.out.size))
  clear hb14
  have P1_4_17 := Lib.hid (P1_3_10.out.trans (B15.out.mono P1_3_10.out.size))
  refine hK _ _ (fun _ => KS1 _ P1_4_17.out) ?_; clear hK K
  (try simp only [Act.put, List.setIfInBounds_toArray, List.set_cons_zero, List.set_cons_succ])
  have Hr12_18 := Lib.hid hv12; clear hv12
  refine Early.take (i := 6) (v12) rfl (by kernel_rfl) (by kernel_rfl) (by kernel_rfl) (by kernel_rfl) (by kernel_rfl) (fun c a w h => hQ c a _ _ w h) (Or.inl ⟨by rfl, ?_⟩) ?_ ?_
  · intro w' _; go_simp
  · exact KS1 _ (P1_4_17.out)
  (try simp only [Act.put, List.setIfInBounds_toArray, List.set_cons_zero, List.set_cons_succ])
  refine Early.take (i := 7) (.int .i64 6) rfl (by kernel_rfl) (by kernel_rfl) (by kernel_rfl) (by kernel_rfl) (by kernel_rfl) (fun c a w h => hQ c a _ _ w h) (Or.inl ⟨by rfl, ?_⟩) ?_ ?_
  · intro w' _; go_simp
  · exact KS1 _ (P1_4_17.out)
  (try simp only [Act.put, List.setIfInBounds_toArray, List.set_cons_zero, List.set_cons_succ])
  refine Early.nextw (i := 8) (by kernel_rfl) rfl (by rfl) (fun K hK => ?_)
  go_simp
  have P2_4_20 := Lib.hid (B8.out.trans (B15.out.mono B8.out.size))
  have LN_19 := One.step hN2 P2_4_20.out
  (with_reducible refine (failsQ_yes LN_19 Hr12_18.out).mono ?_)
  rintro e w21 ⟨hb21, rfl⟩
  have B22 := Lib.hid hb21
  have z22 := B22.out.size
  have HB23 := Lib.hid (HB16.out.trans (B22.out.mono HB16.out.size))
  clear hb21
  have P1_5_24 := Lib.hid (P1_4_17.out.trans (B22.out.mono P1_4_17.out.size))
  refine hK _ _ (fun _ => KS1 _ P1_5_24.out) ?_; clear hK K
  (try simp only [Act.put, List.setIfInBounds_toArray, List.set_cons_zero, List.set_cons_succ])
  clear LN_19
  as_aux_lemma =>
    refine Early.take (i := 9) (.bool true) rfl (by kernel_rfl) (by kernel_rfl) (by kernel_rfl) (by kernel_rfl) (by kernel_rfl) (fun c a w h => hQ c a _ _ w h) (Or.inl ⟨by rfl, ?_⟩) ?_ ?_
    · intro w' _; go_simp
    · exact KS1 _ (P1_5_24.out)
    (try simp only [Act.put, List.setIfInBounds_toArray, List.set_cons_zero, List.set_cons_succ])
    refine Early.take (i := 10) (.bool true) rfl (by kernel_rfl) (by kernel_rfl) (by kernel_rfl) (by kernel_rfl) (by kernel_rfl) (fun c a w h => hQ c a _ _ w h) (Or.inl ⟨by rfl, ?_⟩) ?_ ?_
    · intro w' _; go_simp
    · exact KS1 _ (P1_5_24.out)
    (try simp only [Act.put, List.setIfInBounds_toArray, List.set_cons_zero, List.set_cons_succ])
    refine Early.take (i := 12) (.agg #[c0, c1, c2, c3]) rfl (by kernel_rfl) (by kernel_rfl) (by kernel_rfl) (by kernel_rfl) (by kernel_rfl) (fun c a w h => hQ c a _ _ w h) (Or.inl ⟨by rfl, ?_⟩) ?_ ?_
    · intro w' hSw; obtain ⟨-, t0, t1, t2, t3, t4, t5, t6, t7, t8, t9, t10, t11⟩ := hSw; go_simp
    · exact KS1 _ (P1_5_24.out)
    (try simp only [Act.put, List.setIfInBounds_toArray, List.set_cons_zero, List.set_cons_succ])
    refine Early.nextw (i := 11) (by kernel_rfl) rfl (by rfl) (fun K hK => ?_)
    go_simp
    (with_reducible refine (failsQ_new _ 6).mono ?_)
    rintro e w26 ⟨hb26, N25, rfl, hN25⟩
    have B27 := Lib.hid hb26
    have z27 := B27.out.size
    have HB28 := Lib.hid (HB23.out.trans (B27.out.mono HB23.out.size))
    clear hb26
    have P1_6_29 := Lib.hid (P1_5_24.out.trans (B27.out.mono P1_5_24.out.size))
    refine hK _ _ (fun _ => KS1 _ P1_6_29.out) ?_; clear hK K
    (try simp only [Act.put, List.setIfInBounds_toArray, List.set_cons_zero, List.set_cons_succ])
    refine Early.nextw (i := 13) (by kernel_rfl) rfl (by rfl) (fun K hK => ?_)
    go_simp
    (with_reducible refine (ofQ_lit _ ⟨#[49, 47, 50]⟩ (mkRat 1 2) plit_49_47_50 (by decide +kernel) (M.step HB28.out)).mono ?_)
    rintro e w31 ⟨hb31, v30, rfl, hv30⟩
    have B32 := Lib.hid hb31
    have z32 := B32.out.size
    have HB33 := Lib.hid (HB28.out.trans (B32.out.mono HB28.out.size))
    clear hb31
    have P1_7_34 := Lib.hid (P1_6_29.out.trans (B32.out.mono P1_6_29.out.size))
    refine hK _ _ (fun _ => KS1 _ P1_7_34.out) ?_; clear hK K
    (try simp only [Act.put, List.setIfInBounds_toArray, List.set_cons_zero, List.set_cons_succ])
    have Ho30_35 := Lib.hid hv30; clear hv30
    refine Early.nextw (i := 14) (by kernel_rfl) rfl (by rfl) (fun K hK => ?_)
    go_simp
    have Hleast_37 := Lib.hid (QV.step Hl0.out P1_7_34.out)
    (with_reducible refine (((QAdd_good _ _ _ (mkRat 1 T) (mkRat 1 2) Hleast_37.out Ho30_35.out HM.out.ll (lit_QL (x := 1) (d := 2) (by decide) (by decide +kernel) (by decide +kernel) (by decide +kernel))).mono fun e w' h => And.intro h.1 (ret_no HM.out.add2 h.2))).mono ?_)
    rintro e w38 ⟨hb38, v36, rfl, hv36⟩
    have B39 := Lib.hid hb38
    have z39 := B39.out.size
    have HB40 := Lib.hid (HB33.out.trans (B39.out.mono HB33.out.size))
    clear hb38
    have P1_8_41 := Lib.hid (P1_7_34.out.trans (B39.out.mono P1_7_34.out.size))
    refine hK _ _ (fun _ => KS1 _ P1_8_41.out) ?_; clear hK K
    (try simp only [Act.put, List.setIfInBounds_toArray, List.set_cons_zero, List.set_cons_succ])
    have Hr36_42 := Lib.hid hv36; clear hv36
    refine Early.take (i := 15) (v36) rfl (by kernel_rfl) (by kernel_rfl) (by kernel_rfl) (by kernel_rfl) (by kernel_rfl) (fun c a w h => hQ c a _ _ w h) (Or.inl ⟨by rfl, ?_⟩) ?_ ?_
    · intro w' _; go_simp
    · exact KS1 _ (P1_8_41.out)
    (try simp only [Act.put, List.setIfInBounds_toArray, List.set_cons_zero, List.set_cons_succ])
    refine Early.take (i := 16) (.int .i64 6) rfl (by kernel_rfl) (by kernel_rfl) (by kernel_rfl) (by kernel_rfl) (by kernel_rfl) (fun c a w h => hQ c a _ _ w h) (Or.inl ⟨by rfl, ?_⟩) ?_ ?_
    · intro w' _; go_simp
    · exact KS1 _ (P1_8_41.out)
    (try simp only [Act.put, List.setIfInBounds_toArray, List.set_cons_zero, List.set_cons_succ])
    refine Early.nextw (i := 17) (by kernel_rfl) rfl (by rfl) (fun K hK => ?_)
    go_simp
    have P6_8_44 := Lib.hid (B32.out.trans (B39.out.mono B32.out.size))
    have LN_43 := One.step hN25 P6_8_44.out
    (with_reducible refine (failsQ_yes LN_43 Hr36_42.out).mono ?_)
    rintro e w45 ⟨hb45, rfl⟩
    have B46 := Lib.hid hb45
    have z46 := B46.out.size
    have HB47 := Lib.hid (HB40.out.trans (B46.out.mono HB40.out.size))
    clear hb45
    have P1_9_48 := Lib.hid (P1_8_41.out.trans (B46.out.mono P1_8_41.out.size))
    refine hK _ _ (fun _ => KS1 _ P1_9_48.out) ?_; clear hK K
    (try simp only [Act.put, List.setIfInBounds_toArray, List.set_cons_zero, List.set_cons_succ])
    clear LN_43
    as_aux_lemma =>
      refine Early.take (i := 18) (.bool true) rfl (by kernel_rfl) (by kernel_rfl) (by kernel_rfl) (by kernel_rfl) (by kernel_rfl) (fun c a w h => hQ c a _ _ w h) (Or.inl ⟨by rfl, ?_⟩) ?_ ?_
      · intro w' _; go_simp
      · exact KS1 _ (P1_9_48.out)
      (try simp only [Act.put, List.setIfInBounds_toArray, List.set_cons_zero, List.set_cons_succ])
      refine Early.take (i := 19) (.bool true) rfl (by kernel_rfl) (by kernel_rfl) (by kernel_rfl) (by kernel_rfl) (by kernel_rfl) (fun c a w h => hQ c a _ _ w h) (Or.inl ⟨by rfl, ?_⟩) ?_ ?_
      · intro w' _; go_simp
      · exact KS1 _ (P1_9_48.out)
      (try simp only [Act.put, List.setIfInBounds_toArray, List.set_cons_zero, List.set_cons_succ])
      refine Early.take (i := 21) (.agg #[a0, a1, a2, a3]) rfl (by kernel_rfl) (by kernel_rfl) (by kernel_rfl) (by kernel_rfl) (by kernel_rfl) (fun c a w h => hQ c a _ _ w h) (Or.inl ⟨by rfl, ?_⟩) ?_ ?_
      · intro w' hSw; obtain ⟨-, t0, t1, t2, t3, t4, t5, t6, t7, t8, t9, t10, t11⟩ := hSw; go_simp
      · exact KS1 _ (P1_9_48.out)
      (try simp only [Act.put, List.setIfInBounds_toArray, List.set_cons_zero, List.set_cons_succ])
      refine Early.take (i := 22) (.agg #[c0, c1, c2, c3]) rfl (by kernel_rfl) (by kernel_rfl) (by kernel_rfl) (by kernel_rfl) (by kernel_rfl) (fun c a w h => hQ c a _ _ w h) (Or.inl ⟨by rfl, ?_⟩) ?_ ?_
      · intro w' hSw; obtain ⟨-, t0, t1, t2, t3, t4, t5, t6, t7, t8, t9, t10, t11⟩ := hSw; go_simp
      · exact KS1 _ (P1_9_48.out)
      (try simp only [Act.put, List.setIfInBounds_toArray, List.set_cons_zero, List.set_cons_succ])
      refine Early.nextw (i := 20) (by kernel_rfl) rfl (by rfl) (fun K hK => ?_)
      go_simp
      (with_reducible refine (isQ_new _ ⟨#[49]⟩).mono ?_)
      rintro e w50 ⟨hb50, N49, rfl, hN49⟩
      have B51 := Lib.hid hb50
      have z51 := B51.out.size
      have HB52 := Lib.hid (HB47.out.trans (B51.out.mono HB47.out.size))
      clear hb50
      have P1_10_53 := Lib.hid (P1_9_48.out.trans (B51.out.mono P1_9_48.out.size))
      refine hK _ _ (fun _ => KS1 _ P1_10_53.out) ?_; clear hK K
      (try simp only [Act.put, List.setIfInBounds_toArray, List.set_cons_zero, List.set_cons_succ])
      refine Early.nextw (i := 23) (by kernel_rfl) rfl (by rfl) (fun K hK => ?_)
      go_simp
      have P3_5_55 := Lib.hid (B15.out.trans (B22.out.mono B15.out.size))
      have P3_6_56 := Lib.hid (P3_5_55.out.trans (B27.out.mono P3_5_55.out.size))
      have P3_7_57 := Lib.hid (P3_6_56.out.trans (B32.out.mono P3_6_56.out.size))
      have P3_8_58 := Lib.hid (P3_7_57.out.trans (B39.out.mono P3_7_57.out.size))
      have P3_9_59 := Lib.hid (P3_8_58.out.trans (B46.out.mono P3_8_58.out.size))
      have P3_10_60 := Lib.hid (P3_9_59.out.trans (B51.out.mono P3_9_59.out.size))
      have Hmost_61 := Lib.hid (QV.step Hmost_13.out P3_10_60.out)
      have P7_9_62 := Lib.hid (B39.out.trans (B46.out.mono B39.out.size))
      have P7_10_63 := Lib.hid (P7_9_62.out.trans (B51.out.mono P7_9_62.out.size))
      have Hleast_64 := Lib.hid (QV.step Hleast_37.out P7_10_63.out)
      (with_reducible refine (((QMul_good _ _ _ (mkRat (T : Int) 1) (mkRat 1 T) Hmost_61.out Hleast_64.out HM.out.lm HM.out.ll).mono fun e w' h => And.intro h.1 (ret_yes HM.out.mul1 h.2))).mono ?_)
      rintro e w65 ⟨hb65, v54, rfl, hv54⟩
      have B66 := Lib.hid hb65
      have z66 := B66.out.size
      have HB67 := Lib.hid (HB52.out.trans (B66.out.mono HB52.out.size))
      clear hb65
      have P1_11_68 := Lib.hid (P1_10_53.out.trans (B66.out.mono P1_10_53.out.size))
      refine hK _ _ (fun _ => KS1 _ P1_11_68.out) ?_; clear hK K
      (try simp only [Act.put, List.setIfInBounds_toArray, List.set_cons_zero, List.set_cons_succ])
      have Hr54_69 := Lib.hid hv54; clear hv54
      refine Early.take (i := 24) (v54) rfl (by kernel_rfl) (by kernel_rfl) (by kernel_rfl) (by kernel_rfl) (by kernel_rfl) (fun c a w h => hQ c a _ _ w h) (Or.inl ⟨by rfl, ?_⟩) ?_ ?_
      · intro w' _; go_simp
      · exact KS1 _ (P1_11_68.out)
      (try simp only [Act.put, List.setIfInBounds_toArray, List.set_cons_zero, List.set_cons_succ])
      refine Early.take (i := 25) (.int .i64 0) rfl (by kernel_rfl) (by kernel_rfl) (by kernel_rfl) (by kernel_rfl) (by kernel_rfl) (fun c a w h => hQ c a _ _ w h) (Or.inl ⟨by rfl, ?_⟩) ?_ ?_
      · intro w' _; go_simp
      · exact KS1 _ (P1_11_68.out)
      (try simp only [Act.put, List.setIfInBounds_toArray, List.set_cons_zero, List.set_cons_succ])
      refine Early.nextw (i := 26) (by kernel_rfl) rfl (by rfl) (fun K hK => ?_)
      go_simp
      have LN_70 := One.step hN49 B66.out
      (with_reducible refine (isQ_yes LN_70 Hr54_69.out (lit_QL (x := 1) (d := 1) (by decide) (by decide +kernel) (by decide +kernel) (by decide +kernel)) (lit_whole (s := [49]) (x := 1) (by decide +kernel)) (G.step HB67.out)).mono ?_)
      rintro e w71 ⟨hb71, rfl⟩
      have B72 := Lib.hid hb71
      have z72 := B72.out.size
      have HB73 := Lib.hid (HB67.out.trans (B72.out.mono HB67.out.size))
      clear hb71
      have P1_12_74 := Lib.hid (P1_11_68.out.trans (B72.out.mono P1_11_68.out.size))
      refine hK _ _ (fun _ => KS1 _ P1_12_74.out) ?_; clear hK K
      (try simp only [Act.put, List.setIfInBounds_toArray, List.set_cons_zero, List.set_cons_succ])
      clear LN_70
      as_aux_lemma =>
        refine Early.take (i := 27) (.bool true) rfl (by kernel_rfl) (by kernel_rfl) (by kernel_rfl) (by kernel_rfl) (by kernel_rfl) (fun c a w h => hQ c a _ _ w h) (Or.inl ⟨by rfl, ?_⟩) ?_ ?_
        · intro w' _; go_simp
        · exact KS1 _ (P1_12_74.out)
        (try simp only [Act.put, List.setIfInBounds_toArray, List.set_cons_zero, List.set_cons_succ])
        refine Early.take (i := 28) (.bool true) rfl (by kernel_rfl) (by kernel_rfl) (by kernel_rfl) (by kernel_rfl) (by kernel_rfl) (fun c a w h => hQ c a _ _ w h) (Or.inl ⟨by rfl, ?_⟩) ?_ ?_
        · intro w' _; go_simp
        · exact KS1 _ (P1_12_74.out)
        (try simp only [Act.put, List.setIfInBounds_toArray, List.set_cons_zero, List.set_cons_succ])
        refine Early.take (i := 30) (.agg #[a0, a1, a2, a3]) rfl (by kernel_rfl) (by kernel_rfl) (by kernel_rfl) (by kernel_rfl) (by kernel_rfl) (fun c a w h => hQ c a _ _ w h) (Or.inl ⟨by rfl, ?_⟩) ?_ ?_
        · intro w' hSw; obtain ⟨-, t0, t1, t2, t3, t4, t5, t6, t7, t8, t9, t10, t11⟩ := hSw; go_simp
        · exact KS1 _ (P1_12_74.out)
        (try simp only [Act.put, List.setIfInBounds_toArray, List.set_cons_zero, List.set_cons_succ])
        refine Early.take (i := 31) (.agg #[c0, c1, c2, c3]) rfl (by kernel_rfl) (by kernel_rfl) (by kernel_rfl) (by kernel_rfl) (by kernel_rfl) (fun c a w h => hQ c a _ _ w h) (Or.inl ⟨by rfl, ?_⟩) ?_ ?_
        · intro w' hSw; obtain ⟨-, t0, t1, t2, t3, t4, t5, t6, t7, t8, t9, t10, t11⟩ := hSw; go_simp
        · exact KS1 _ (P1_12_74.out)
        (try simp only [Act.put, List.setIfInBounds_toArray, List.set_cons_zero, List.set_cons_succ])
        refine Early.nextw (i := 29) (by kernel_rfl) rfl (by rfl) (fun K hK => ?_)
        go_simp
        (with_reducible refine (failsQ_new _ 6).mono ?_)
        rintro e w76 ⟨hb76, N75, rfl, hN75⟩
        have B77 := Lib.hid hb76
        have z77 := B77.out.size
        have HB78 := Lib.hid (HB73.out.trans (B77.out.mono HB73.out.size))
        clear hb76
        have P1_13_79 := Lib.hid (P1_12_74.out.trans (B77.out.mono P1_12_74.out.size))
        refine hK _ _ (fun _ => KS1 _ P1_13_79.out) ?_; clear hK K
        (try simp only [Act.put, List.setIfInBounds_toArray, List.set_cons_zero, List.set_cons_succ])
        refine Early.nextw (i := 32) (by kernel_rfl) rfl (by rfl) (fun K hK => ?_)
        go_simp
        have P10_12_81 := Lib.hid (B66.out.trans (B72.out.mono B66.out.size))
        have P10_13_82 := Lib.hid (P10_12_81.out.trans (B77.out.mono P10_12_81.out.size))
        have Hmost_83 := Lib.hid (QV.step Hmost_61.out P10_13_82.out)
        have Hleast_84 := Lib.hid (QV.step Hleast_64.out P10_13_82.out)
        (with_reducible refine (((QDiv_good _ _ _ (mkRat (T : Int) 1) (mkRat 1 T) Hmost_83.out Hleast_84.out HM.out.lm HM.out.ll).mono fun e w' h => And.intro h.1 (ret_no HM.out.div1 h.2))).mono ?_)
        rintro e w85 ⟨hb85, v80, rfl, hv80⟩
        have B86 := Lib.hid hb85
        have z86 := B86.out.size
        have HB87 := Lib.hid (HB78.out.trans (B86.out.mono HB78.out.size))
        clear hb85
        have P1_14_88 := Lib.hid (P1_13_79.out.trans (B86.out.mono P1_13_79.out.size))
        refine hK _ _ (fun _ => KS1 _ P1_14_88.out) ?_; clear hK K
        (try simp only [Act.put, List.setIfInBounds_toArray, List.set_cons_zero, List.set_cons_succ])
        have Hr80_89 := Lib.hid hv80; clear hv80
        refine Early.take (i := 33) (v80) rfl (by kernel_rfl) (by kernel_rfl) (by kernel_rfl) (by kernel_rfl) (by kernel_rfl) (fun c a w h => hQ c a _ _ w h) (Or.inl ⟨by rfl, ?_⟩) ?_ ?_
        · intro w' _; go_simp
        · exact KS1 _ (P1_14_88.out)
        (try simp only [Act.put, List.setIfInBounds_toArray, List.set_cons_zero, List.set_cons_succ])
        refine Early.take (i := 34) (.int .i64 6) rfl (by kernel_rfl) (by kernel_rfl) (by kernel_rfl) (by kernel_rfl) (by kernel_rfl) (fun c a w h => hQ c a _ _ w h) (Or.inl ⟨by rfl, ?_⟩) ?_ ?_
        · intro w' _; go_simp
        · exact KS1 _ (P1_14_88.out)
        (try simp only [Act.put, List.setIfInBounds_toArray, List.set_cons_zero, List.set_cons_succ])
        refine Early.nextw (i := 35) (by kernel_rfl) rfl (by rfl) (fun K hK => ?_)
        go_simp
        have LN_90 := One.step hN75 B86.out
        (with_reducible refine (failsQ_yes LN_90 Hr80_89.out).mono ?_)
        rintro e w91 ⟨hb91, rfl⟩
        have B92 := Lib.hid hb91
        have z92 := B92.out.size
        have HB93 := Lib.hid (HB87.out.trans (B92.out.mono HB87.out.size))
        clear hb91
        have P1_15_94 := Lib.hid (P1_14_88.out.trans (B92.out.mono P1_14_88.out.size))
        refine hK _ _ (fun _ => KS1 _ P1_15_94.out) ?_; clear hK K
        (try simp only [Act.put, List.setIfInBounds_toArray, List.set_cons_zero, List.set_cons_succ])
        clear LN_90
        as_aux_lemma =>
          refine Early.take (i := 36) (.bool true) rfl (by kernel_rfl) (by kernel_rfl) (by kernel_rfl) (by kernel_rfl) (by kernel_rfl) (fun c a w h => hQ c a _ _ w h) (Or.inl ⟨by rfl, ?_⟩) ?_ ?_
          · intro w' _; go_simp
          · exact KS1 _ (P1_15_94.out)
          (try simp only [Act.put, List.setIfInBounds_toArray, List.set_cons_zero, List.set_cons_succ])
          refine Early.take (i := 37) (.bool true) rfl (by kernel_rfl) (by kernel_rfl) (by kernel_rfl) (by kernel_rfl) (by kernel_rfl) (fun c a w h => hQ c a _ _ w h) (Or.inl ⟨by rfl, ?_⟩) ?_ ?_
          · intro w' _; go_simp
          · exact KS1 _ (P1_15_94.out)
          (try simp only [Act.put, List.setIfInBounds_toArray, List.set_cons_zero, List.set_cons_succ])
          refine Early.take (i := 39) (.agg #[c0, c1, c2, c3]) rfl (by kernel_rfl) (by kernel_rfl) (by kernel_rfl) (by kernel_rfl) (by kernel_rfl) (fun c a w h => hQ c a _ _ w h) (Or.inl ⟨by rfl, ?_⟩) ?_ ?_
          · intro w' hSw; obtain ⟨-, t0, t1, t2, t3, t4, t5, t6, t7, t8, t9, t10, t11⟩ := hSw; go_simp
          · exact KS1 _ (P1_15_94.out)
          (try simp only [Act.put, List.setIfInBounds_toArray, List.set_cons_zero, List.set_cons_succ])
          refine Early.nextw (i := 38) (by kernel_rfl) rfl (by rfl) (fun K hK => ?_)
          go_simp
          (with_reducible refine (failsQ_new _ 6).mono ?_)
          rintro e w96 ⟨hb96, N95, rfl, hN95⟩
          have B97 := Lib.hid hb96
          have z97 := B97.out.size
          have HB98 := Lib.hid (HB93.out.trans (B97.out.mono HB93.out.size))
          clear hb96
          have P1_16_99 := Lib.hid (P1_15_94.out.trans (B97.out.mono P1_15_94.out.size))
          refine hK _ _ (fun _ => KS1 _ P1_16_99.out) ?_; clear hK K
          (try simp only [Act.put, List.setIfInBounds_toArray, List.set_cons_zero, List.set_cons_succ])
          refine Early.nextw (i := 40) (by kernel_rfl) rfl (by rfl) (fun K hK => ?_)
          go_simp
          (with_reducible refine (ofQ_lit _ ⟨#[49, 47, 50]⟩ (mkRat 1 2) plit_49_47_50 (by decide +kernel) (M.step HB98.out)).mono ?_)
          rintro e w101 ⟨hb101, v100, rfl, hv100⟩
          have B102 := Lib.hid hb101
          have z102 := B102.out.size
          have HB103 := Lib.hid (HB98.out.trans (B102.out.mono HB98.out.size))
          clear hb101
          have P1_17_104 := Lib.hid (P1_16_99.out.trans (B102.out.mono P1_16_99.out.size))
          refine hK _ _ (fun _ => KS1 _ P1_17_104.out) ?_; clear hK K
          (try simp only [Act.put, List.setIfInBounds_toArray, List.set_cons_zero, List.set_cons_succ])
          have Ho100_105 := Lib.hid hv100; clear hv100
          refine Early.nextw (i := 41) (by kernel_rfl) rfl (by rfl) (fun K hK => ?_)
          go_simp
          have P13_15_107 := Lib.hid (B86.out.trans (B92.out.mono B86.out.size))
          have P13_16_108 := Lib.hid (P13_15_107.out.trans (B97.out.mono P13_15_107.out.size))
          have P13_17_109 := Lib.hid (P13_16_108.out.trans (B102.out.mono P13_16_108.out.size))
          have Hleast_110 := Lib.hid (QV.step Hleast_84.out P13_17_109.out)
          (with_reducible refine (((QMul_good _ _ _ (mkRat 1 T) (mkRat 1 2) Hleast_110.out Ho100_105.out HM.out.ll (lit_QL (x := 1) (d := 2) (by decide) (by decide +kernel) (by decide +kernel) (by decide +kernel))).mono fun e w' h => And.intro h.1 (ret_no HM.out.mul2 h.2))).mono ?_)
          rintro e w111 ⟨hb111, v106, rfl, hv106⟩
          have B112 := Lib.hid hb111
          have z112 := B112.out.size
          have HB113 := Lib.hid (HB103.out.trans (B112.out.mono HB103.out.size))
          clear hb111
          have P1_18_114 := Lib.hid (P1_17_104.out.trans (B112.out.mono P1_17_104.out.size))
          refine hK _ _ (fun _ => KS1 _ P1_18_114.out) ?_; clear hK K
          (try simp only [Act.put, List.setIfInBounds_toArray, List.set_cons_zero, List.set_cons_succ])
          have Hr106_115 := Lib.hid hv106; clear hv106
          refine Early.take (i := 42) (v106) rfl (by kernel_rfl) (by kernel_rfl) (by kernel_rfl) (by kernel_rfl) (by kernel_rfl) (fun c a w h => hQ c a _ _ w h) (Or.inl ⟨by rfl, ?_⟩) ?_ ?_
          · intro w' _; go_simp
          · exact KS1 _ (P1_18_114.out)
          (try simp only [Act.put, List.setIfInBounds_toArray, List.set_cons_zero, List.set_cons_succ])
          refine Early.take (i := 43) (.int .i64 6) rfl (by kernel_rfl) (by kernel_rfl) (by kernel_rfl) (by kernel_rfl) (by kernel_rfl) (fun c a w h => hQ c a _ _ w h) (Or.inl ⟨by rfl, ?_⟩) ?_ ?_
          · intro w' _; go_simp
          · exact KS1 _ (P1_18_114.out)
          (try simp only [Act.put, List.setIfInBounds_toArray, List.set_cons_zero, List.set_cons_succ])
          refine Early.nextw (i := 44) (by kernel_rfl) rfl (by rfl) (fun K hK => ?_)
          go_simp
          have P16_18_117 := Lib.hid (B102.out.trans (B112.out.mono B102.out.size))
          have LN_116 := One.step hN95 P16_18_117.out
          (with_reducible refine (failsQ_yes LN_116 Hr106_115.out).mono ?_)
          rintro e w118 ⟨hb118, rfl⟩
          have B119 := Lib.hid hb118
          have z119 := B119.out.size
          have HB120 := Lib.hid (HB113.out.trans (B119.out.mono HB113.out.size))
          clear hb118
          have P1_19_121 := Lib.hid (P1_18_114.out.trans (B119.out.mono P1_18_114.out.size))
          refine hK _ _ (fun _ => KS1 _ P1_19_121.out) ?_; clear hK K
          (try simp only [Act.put, List.setIfInBounds_toArray, List.set_cons_zero, List.set_cons_succ])
          clear LN_116
          as_aux_lemma =>
            refine Early.take (i := 45) (.bool true) rfl (by kernel_rfl) (by kernel_rfl) (by kernel_rfl) (by kernel_rfl) (by kernel_rfl) (fun c a w h => hQ c a _ _ w h) (Or.inl ⟨by rfl, ?_⟩) ?_ ?_
            · intro w' _; go_simp
            · exact KS1 _ (P1_19_121.out)
            (try simp only [Act.put, List.setIfInBounds_toArray, List.set_cons_zero, List.set_cons_succ])
            refine Early.take (i := 46) (.bool true) rfl (by kernel_rfl) (by kernel_rfl) (by kernel_rfl) (by kernel_rfl) (by kernel_rfl) (fun c a w h => hQ c a _ _ w h) (Or.inl ⟨by rfl, ?_⟩) ?_ ?_
            · intro w' _; go_simp
            · exact KS1 _ (P1_19_121.out)
            (try simp only [Act.put, List.setIfInBounds_toArray, List.set_cons_zero, List.set_cons_succ])
            refine Early.take (i := 48) (.agg #[c0, c1, c2, c3]) rfl (by kernel_rfl) (by kernel_rfl) (by kernel_rfl) (by kernel_rfl) (by kernel_rfl) (fun c a w h => hQ c a _ _ w h) (Or.inl ⟨by rfl, ?_⟩) ?_ ?_
            · intro w' hSw; obtain ⟨-, t0, t1, t2, t3, t4, t5, t6, t7, t8, t9, t10, t11⟩ := hSw; go_simp
            · exact KS1 _ (P1_19_121.out)
            (try simp only [Act.put, List.setIfInBounds_toArray, List.set_cons_zero, List.set_cons_succ])
            refine Early.take (i := 49) (.agg #[c0, c1, c2, c3]) rfl (by kernel_rfl) (by kernel_rfl) (by kernel_rfl) (by kernel_rfl) (by kernel_rfl) (fun c a w h => hQ c a _ _ w h) (Or.inl ⟨by rfl, ?_⟩) ?_ ?_
            · intro w' hSw; obtain ⟨-, t0, t1, t2, t3, t4, t5, t6, t7, t8, t9, t10, t11⟩ := hSw; go_simp
            · exact KS1 _ (P1_19_121.out)
            (try simp only [Act.put, List.setIfInBounds_toArray, List.set_cons_zero, List.set_cons_succ])
            refine Early.nextw (i := 47) (by kernel_rfl) rfl (by rfl) (fun K hK => ?_)
            go_simp
            (with_reducible refine (isQ_new _ ⟨#[48]⟩).mono ?_)
            rintro e w123 ⟨hb123, N122, rfl, hN122⟩
            have B124 := Lib.hid hb123
            have z124 := B124.out.size
            have HB125 := Lib.hid (HB120.out.trans (B124.out.mono HB120.out.size))
            clear hb123
            have P1_20_126 := Lib.hid (P1_19_121.out.trans (B124.out.mono P1_19_121.out.size))
            refine hK _ _ (fun _ => KS1 _ P1_20_126.out) ?_; clear hK K
            (try simp only [Act.put, List.setIfInBounds_toArray, List.set_cons_zero, List.set_cons_succ])
            refine Early.nextw (i := 50) (by kernel_rfl) rfl (by rfl) (fun K hK => ?_)
            go_simp
            have P17_19_128 := Lib.hid (B112.out.trans (B119.out.mono B112.out.size))
            have P17_20_129 := Lib.hid (P17_19_128.out.trans (B124.out.mono P17_19_128.out.size))
            have Hleast_130 := Lib.hid (QV.step Hleast_110.out P17_20_129.out)
            (with_reducible refine (((QSub_good _ _ _ (mkRat 1 T) (mkRat 1 T) Hleast_130.out Hleast_130.out HM.out.ll HM.out.ll).mono fun e w' h => And.intro h.1 (ret_yes HM.out.sub1 h.2))).mono ?_)
            rintro e w131 ⟨hb131, v127, rfl, hv127⟩
            have B132 := Lib.hid hb131
            have z132 := B132.out.size
            have HB133 := Lib.hid (HB125.out.trans (B132.out.mono HB125.out.size))
            clear hb131
            have P1_21_134 := Lib.hid (P1_20_126.out.trans (B132.out.mono P1_20_126.out.size))
            refine hK _ _ (fun _ => KS1 _ P1_21_134.out) ?_; clear hK K
            (try simp only [Act.put, List.setIfInBounds_toArray, List.set_cons_zero, List.set_cons_succ])
            have Hr127_135 := Lib.hid hv127; clear hv127
            refine Early.take (i := 51) (v127) rfl (by kernel_rfl) (by kernel_rfl) (by kernel_rfl) (by kernel_rfl) (by kernel_rfl) (fun c a w h => hQ c a _ _ w h) (Or.inl ⟨by rfl, ?_⟩) ?_ ?_
            · intro w' _; go_simp
            · exact KS1 _ (P1_21_134.out)
            (try simp only [Act.put, List.setIfInBounds_toArray, List.set_cons_zero, List.set_cons_succ])
            refine Early.take (i := 52) (.int .i64 0) rfl (by kernel_rfl) (by kernel_rfl) (by kernel_rfl) (by kernel_rfl) (by kernel_rfl) (fun c a w h => hQ c a _ _ w h) (Or.inl ⟨by rfl, ?_⟩) ?_ ?_
            · intro w' _; go_simp
            · exact KS1 _ (P1_21_134.out)
            (try simp only [Act.put, List.setIfInBounds_toArray, List.set_cons_zero, List.set_cons_succ])
            refine Early.nextw (i := 53) (by kernel_rfl) rfl (by rfl) (fun K hK => ?_)
            go_simp
            have LN_136 := One.step hN122 B132.out
            (with_reducible refine (isQ_yes LN_136 Hr127_135.out (lit_QL (x := 0) (d := 1) (by decide) (by decide +kernel) (by decide +kernel) (by decide +kernel)) (lit_whole (s := [48]) (x := 0) (by decide +kernel)) (G.step HB133.out)).mono ?_)
            rintro e w137 ⟨hb137, rfl⟩
            have B138 := Lib.hid hb137
            have z138 := B138.out.size
            have HB139 := Lib.hid (HB133.out.trans (B138.out.mono HB133.out.size))
            clear hb137
            have P1_22_140 := Lib.hid (P1_21_134.out.trans (B138.out.mono P1_21_134.out.size))
            refine hK _ _ (fun _ => KS1 _ P1_22_140.out) ?_; clear hK K
            (try simp only [Act.put, List.setIfInBounds_toArray, List.set_cons_zero, List.set_cons_succ])
            clear LN_136
            as_aux_lemma =>
              refine Early.take (i := 54) (.bool true) rfl (by kernel_rfl) (by kernel_rfl) (by kernel_rfl) (by kernel_rfl) (by kernel_rfl) (fun c a w h => hQ c a _ _ w h) (Or.inl ⟨by rfl, ?_⟩) ?_ ?_
              · intro w' _; go_simp
              · exact KS1 _ (P1_22_140.out)
              (try simp only [Act.put, List.setIfInBounds_toArray, List.set_cons_zero, List.set_cons_succ])
              refine Early.take (i := 55) (.bool true) rfl (by kernel_rfl) (by kernel_rfl) (by kernel_rfl) (by kernel_rfl) (by kernel_rfl) (fun c a w h => hQ c a _ _ w h) (Or.inl ⟨by rfl, ?_⟩) ?_ ?_
              · intro w' _; go_simp
              · exact KS1 _ (P1_22_140.out)
              (try simp only [Act.put, List.setIfInBounds_toArray, List.set_cons_zero, List.set_cons_succ])
              refine Early.take (i := 56) (.string NB) rfl (by kernel_rfl) (by kernel_rfl) (by kernel_rfl) (by kernel_rfl) (by kernel_rfl) (fun c a w h => hQ c a _ _ w h) (Or.inl ⟨by rfl, ?_⟩) ?_ ?_
              · intro w' _; go_simp
              · exact KS1 _ (P1_22_140.out)
              (try simp only [Act.put, List.setIfInBounds_toArray, List.set_cons_zero, List.set_cons_succ])
              refine Early.take (i := 59) (.agg #[c0, c1, c2, c3]) rfl (by kernel_rfl) (by kernel_rfl) (by kernel_rfl) (by kernel_rfl) (by kernel_rfl) (fun c a w h => hQ c a _ _ w h) (Or.inl ⟨by rfl, ?_⟩) ?_ ?_
              · intro w' hSw; obtain ⟨-, t0, t1, t2, t3, t4, t5, t6, t7, t8, t9, t10, t11⟩ := hSw; go_simp
              · exact KS1 _ (P1_22_140.out)
              (try simp only [Act.put, List.setIfInBounds_toArray, List.set_cons_zero, List.set_cons_succ])
              refine Early.nextw (i := 57) (by kernel_rfl) rfl (by rfl) (fun K hK => ?_)
              go_simp
              (with_reducible refine (isQ_new _ NB).mono ?_)
              rintro e w142 ⟨hb142, N141, rfl, hN141⟩
              have B143 := Lib.hid hb142
              have z143 := B143.out.size
              have HB144 := Lib.hid (HB139.out.trans (B143.out.mono HB139.out.size))
              clear hb142
              have P1_23_145 := Lib.hid (P1_22_140.out.trans (B143.out.mono P1_22_140.out.size))
              refine hK _ _ (fun _ => KS1 _ P1_23_145.out) ?_; clear hK K
              (try simp only [Act.put, List.setIfInBounds_toArray, List.set_cons_zero, List.set_cons_succ])
              refine Early.nextw (i := 58) (by kernel_rfl) rfl (by rfl) (fun K hK => ?_)
              go_simp
              (with_reducible refine (ofQ_lit _ ⟨#[49]⟩ (mkRat 1 1) plit_49 (by decide +kernel) (M.step HB144.out)).mono ?_)
              rintro e w147 ⟨hb147, v146, rfl, hv146⟩
              have B148 := Lib.hid hb147
              have z148 := B148.out.size
              have HB149 := Lib.hid (HB144.out.trans (B148.out.mono HB144.out.size))
              clear hb147
              have P1_24_150 := Lib.hid (P1_23_145.out.trans (B148.out.mono P1_23_145.out.size))
              refine hK _ _ (fun _ => KS1 _ P1_24_150.out) ?_; clear hK K
              (try simp only [Act.put, List.setIfInBounds_toArray, List.set_cons_zero, List.set_cons_succ])
              have Ho146_151 := Lib.hid hv146; clear hv146
              refine Early.nextw (i := 60) (by kernel_rfl) rfl (by rfl) (fun K hK => ?_)
              go_simp
              have P20_22_153 := Lib.hid (B132.out.trans (B138.out.mono B132.out.size))
              have P20_23_154 := Lib.hid (P20_22_153.out.trans (B143.out.mono P20_22_153.out.size))
              have P20_24_155 := Lib.hid (P20_23_154.out.trans (B148.out.mono P20_23_154.out.size))
              have Hleast_156 := Lib.hid (QV.step Hleast_130.out P20_24_155.out)
              (with_reducible refine (((QDiv_good _ _ _ (mkRat 1 1) (mkRat 1 T) Ho146_151.out Hleast_156.out (lit_QL (x := 1) (d := 1) (by decide) (by decide +kernel) (by decide +kernel) (by decide +kernel)) HM.out.ll).mono fun e w' h => And.intro h.1 (ret_yes HM.out.div2 h.2))).mono ?_)
              rintro e w157 ⟨hb157, v152, rfl, hv152⟩
              have B158 := Lib.hid hb157
              have z158 := B158.out.size
              have HB159 := Lib.hid (HB149.out.trans (B158.out.mono HB149.out.size))
              clear hb157
              have P1_25_160 := Lib.hid (P1_24_150.out.trans (B158.out.mono P1_24_150.out.size))
              refine hK _ _ (fun _ => KS1 _ P1_25_160.out) ?_; clear hK K
              (try simp only [Act.put, List.setIfInBounds_toArray, List.set_cons_zero, List.set_cons_succ])
              have Hr152_161 := Lib.hid hv152; clear hv152
              refine Early.take (i := 61) (v152) rfl (by kernel_rfl) (by kernel_rfl) (by kernel_rfl) (by kernel_rfl) (by kernel_rfl) (fun c a w h => hQ c a _ _ w h) (Or.inl ⟨by rfl, ?_⟩) ?_ ?_
              · intro w' _; go_simp
              · exact KS1 _ (P1_25_160.out)
              (try simp only [Act.put, List.setIfInBounds_toArray, List.set_cons_zero, List.set_cons_succ])
              refine Early.take (i := 62) (.int .i64 0) rfl (by kernel_rfl) (by kernel_rfl) (by kernel_rfl) (by kernel_rfl) (by kernel_rfl) (fun c a w h => hQ c a _ _ w h) (Or.inl ⟨by rfl, ?_⟩) ?_ ?_
              · intro w' _; go_simp
              · exact KS1 _ (P1_25_160.out)
              (try simp only [Act.put, List.setIfInBounds_toArray, List.set_cons_zero, List.set_cons_succ])
              refine Early.nextw (i := 63) (by kernel_rfl) rfl (by rfl) (fun K hK => ?_)
              go_simp
              have P23_25_163 := Lib.hid (B148.out.trans (B158.out.mono B148.out.size))
              have LN_162 := One.step hN141 P23_25_163.out
              (with_reducible refine (isQ_yes LN_162 Hr152_161.out HM.out.lm (HM.out.tm.trans HNB.out.symm) (G.step HB159.out)).mono ?_)
              rintro e w164 ⟨hb164, rfl⟩
              have B165 := Lib.hid hb164
              have z165 := B165.out.size
              have HB166 := Lib.hid (HB159.out.trans (B165.out.mono HB159.out.size))
              clear hb164
              have P1_26_167 := Lib.hid (P1_25_160.out.trans (B165.out.mono P1_25_160.out.size))
              refine hK _ _ (fun _ => KS1 _ P1_26_167.out) ?_; clear hK K
              (try simp only [Act.put, List.setIfInBounds_toArray, List.set_cons_zero, List.set_cons_succ])
              clear LN_162
              as_aux_lemma =>
                refine Early.take (i := 64) (.bool true) rfl (by kernel_rfl) (by kernel_rfl) (by kernel_rfl) (by kernel_rfl) (by kernel_rfl) (fun c a w h => hQ c a _ _ w h) (Or.inl ⟨by rfl, ?_⟩) ?_ ?_
                · intro w' _; go_simp
                · exact KS1 _ (P1_26_167.out)
                (try simp only [Act.put, List.setIfInBounds_toArray, List.set_cons_zero, List.set_cons_succ])
                refine Early.take (i := 65) (.bool true) rfl (by kernel_rfl) (by kernel_rfl) (by kernel_rfl) (by kernel_rfl) (by kernel_rfl) (fun c a w h => hQ c a _ _ w h) (Or.inl ⟨by rfl, ?_⟩) ?_ ?_
                · intro w' _; go_simp
                · exact KS1 _ (P1_26_167.out)
                (try simp only [Act.put, List.setIfInBounds_toArray, List.set_cons_zero, List.set_cons_succ])
                refine Early.take (i := 66) (.string NB) rfl (by kernel_rfl) (by kernel_rfl) (by kernel_rfl) (by kernel_rfl) (by kernel_rfl) (fun c a w h => hQ c a _ _ w h) (Or.inl ⟨by rfl, ?_⟩) ?_ ?_
                · intro w' _; go_simp
                · exact KS1 _ (P1_26_167.out)
                (try simp only [Act.put, List.setIfInBounds_toArray, List.set_cons_zero, List.set_cons_succ])
                refine Early.take (i := 67) (.string LB) rfl (by kernel_rfl) (by kernel_rfl) (by kernel_rfl) (by kernel_rfl) (by kernel_rfl) (fun c a w h => hQ c a _ _ w h) (Or.inl ⟨by rfl, ?_⟩) ?_ ?_
                · intro w' _; go_simp
                · exact KS1 _ (P1_26_167.out)
                (try simp only [Act.put, List.setIfInBounds_toArray, List.set_cons_zero, List.set_cons_succ])
                refine Early.take (i := 70) (.agg #[a0, a1, a2, a3]) rfl (by kernel_rfl) (by kernel_rfl) (by kernel_rfl) (by kernel_rfl) (by kernel_rfl) (fun c a w h => hQ c a _ _ w h) (Or.inl ⟨by rfl, ?_⟩) ?_ ?_
                · intro w' hSw; obtain ⟨-, t0, t1, t2, t3, t4, t5, t6, t7, t8, t9, t10, t11⟩ := hSw; go_simp
                · exact KS1 _ (P1_26_167.out)
                (try simp only [Act.put, List.setIfInBounds_toArray, List.set_cons_zero, List.set_cons_succ])
                refine Early.nextw (i := 68) (by kernel_rfl) rfl (by rfl) (fun K hK => ?_)
                go_simp
                (with_reducible refine (isQ_new _ LB).mono ?_)
                rintro e w169 ⟨hb169, N168, rfl, hN168⟩
                have B170 := Lib.hid hb169
                have z170 := B170.out.size
                have HB171 := Lib.hid (HB166.out.trans (B170.out.mono HB166.out.size))
                clear hb169
                have P1_27_172 := Lib.hid (P1_26_167.out.trans (B170.out.mono P1_26_167.out.size))
                refine hK _ _ (fun _ => KS1 _ P1_27_172.out) ?_; clear hK K
                (try simp only [Act.put, List.setIfInBounds_toArray, List.set_cons_zero, List.set_cons_succ])
                refine Early.nextw (i := 69) (by kernel_rfl) rfl (by rfl) (fun K hK => ?_)
                go_simp
                (with_reducible refine (ofQ_lit _ ⟨#[49]⟩ (mkRat 1 1) plit_49 (by decide +kernel) (M.step HB171.out)).mono ?_)
                rintro e w174 ⟨hb174, v173, rfl, hv173⟩
                have B175 := Lib.hid hb174
                have z175 := B175.out.size
                have HB176 := Lib.hid (HB171.out.trans (B175.out.mono HB171.out.size))
                clear hb174
                have P1_28_177 := Lib.hid (P1_27_172.out.trans (B175.out.mono P1_27_172.out.size))
                refine hK _ _ (fun _ => KS1 _ P1_28_177.out) ?_; clear hK K
                (try simp only [Act.put, List.setIfInBounds_toArray, List.set_cons_zero, List.set_cons_succ])
                have Ho173_178 := Lib.hid hv173; clear hv173
                refine Early.nextw (i := 71) (by kernel_rfl) rfl (by rfl) (fun K hK => ?_)
                go_simp
                have P13_18_180 := Lib.hid (P13_17_109.out.trans (B112.out.mono P13_17_109.out.size))
                have P13_19_181 := Lib.hid (P13_18_180.out.trans (B119.out.mono P13_18_180.out.size))
                have P13_20_182 := Lib.hid (P13_19_181.out.trans (B124.out.mono P13_19_181.out.size))
                have P13_21_183 := Lib.hid (P13_20_182.out.trans (B132.out.mono P13_20_182.out.size))
                have P13_22_184 := Lib.hid (P13_21_183.out.trans (B138.out.mono P13_21_183.out.size))
                have P13_23_185 := Lib.hid (P13_22_184.out.trans (B143.out.mono P13_22_184.out.size))
                have P13_24_186 := Lib.hid (P13_23_185.out.trans (B148.out.mono P13_23_185.out.size))
                have P13_25_187 := Lib.hid (P13_24_186.out.trans (B158.out.mono P13_24_186.out.size))
                have P13_26_188 := Lib.hid (P13_25_187.out.trans (B165.out.mono P13_25_187.out.size))
                have P13_27_189 := Lib.hid (P13_26_188.out.trans (B170.out.mono P13_26_188.out.size))
                have P13_28_190 := Lib.hid (P13_27_189.out.trans (B175.out.mono P13_27_189.out.size))
                have Hmost_191 := Lib.hid (QV.step Hmost_83.out P13_28_190.out)
                (with_reducible refine (((QDiv_good _ _ _ (mkRat 1 1) (mkRat (T : Int) 1) Ho173_178.out Hmost_191.out (lit_QL (x := 1) (d := 1) (by decide) (by decide +kernel) (by decide +kernel) (by decide +kernel)) HM.out.lm).mono fun e w' h => And.intro h.1 (ret_yes HM.out.div3 h.2))).mono ?_)
                rintro e w192 ⟨hb192, v179, rfl, hv179⟩
                have B193 := Lib.hid hb192
                have z193 := B193.out.size
                have HB194 := Lib.hid (HB176.out.trans (B193.out.mono HB176.out.size))
                clear hb192
                have P1_29_195 := Lib.hid (P1_28_177.out.trans (B193.out.mono P1_28_177.out.size))
                refine hK _ _ (fun _ => KS1 _ P1_29_195.out) ?_; clear hK K
                (try simp only [Act.put, List.setIfInBounds_toArray, List.set_cons_zero, List.set_cons_succ])
                have Hr179_196 := Lib.hid hv179; clear hv179
                refine Early.take (i := 72) (v179) rfl (by kernel_rfl) (by kernel_rfl) (by kernel_rfl) (by kernel_rfl) (by kernel_rfl) (fun c a w h => hQ c a _ _ w h) (Or.inl ⟨by rfl, ?_⟩) ?_ ?_
                · intro w' _; go_simp
                · exact KS1 _ (P1_29_195.out)
                (try simp only [Act.put, List.setIfInBounds_toArray, List.set_cons_zero, List.set_cons_succ])
                refine Early.take (i := 73) (.int .i64 0) rfl (by kernel_rfl) (by kernel_rfl) (by kernel_rfl) (by kernel_rfl) (by kernel_rfl) (fun c a w h => hQ c a _ _ w h) (Or.inl ⟨by rfl, ?_⟩) ?_ ?_
                · intro w' _; go_simp
                · exact KS1 _ (P1_29_195.out)
                (try simp only [Act.put, List.setIfInBounds_toArray, List.set_cons_zero, List.set_cons_succ])
                refine Early.nextw (i := 74) (by kernel_rfl) rfl (by rfl) (fun K hK => ?_)
                go_simp
                have P27_29_198 := Lib.hid (B175.out.trans (B193.out.mono B175.out.size))
                have LN_197 := One.step hN168 P27_29_198.out
                (with_reducible refine (isQ_yes LN_197 Hr179_196.out HM.out.ll (HM.out.tl.trans HLD.out.symm) (G.step HB194.out)).mono ?_)
                rintro e w199 ⟨hb199, rfl⟩
                have B200 := Lib.hid hb199
                have z200 := B200.out.size
                have HB201 := Lib.hid (HB194.out.trans (B200.out.mono HB194.out.size))
                clear hb199
                have P1_30_202 := Lib.hid (P1_29_195.out.trans (B200.out.mono P1_29_195.out.size))
                refine hK _ _ (fun _ => KS1 _ P1_30_202.out) ?_; clear hK K
                (try simp only [Act.put, List.setIfInBounds_toArray, List.set_cons_zero, List.set_cons_succ])
                clear LN_197
                as_aux_lemma =>
                  refine Early.take (i := 75) (.bool true) rfl (by kernel_rfl) (by kernel_rfl) (by kernel_rfl) (by kernel_rfl) (by kernel_rfl) (fun c a w h => hQ c a _ _ w h) (Or.inl ⟨by rfl, ?_⟩) ?_ ?_
                  · intro w' _; go_simp
                  · exact KS1 _ (P1_30_202.out)
                  (try simp only [Act.put, List.setIfInBounds_toArray, List.set_cons_zero, List.set_cons_succ])
                  refine Early.take (i := 76) (.bool true) rfl (by kernel_rfl) (by kernel_rfl) (by kernel_rfl) (by kernel_rfl) (by kernel_rfl) (fun c a w h => hQ c a _ _ w h) (Or.inl ⟨by rfl, ?_⟩) ?_ ?_
                  · intro w' _; go_simp
                  · exact KS1 _ (P1_30_202.out)
                  (try simp only [Act.put, List.setIfInBounds_toArray, List.set_cons_zero, List.set_cons_succ])
                  refine Early.take (i := 78) (.agg #[a0, a1, a2, a3]) rfl (by kernel_rfl) (by kernel_rfl) (by kernel_rfl) (by kernel_rfl) (by kernel_rfl) (fun c a w h => hQ c a _ _ w h) (Or.inl ⟨by rfl, ?_⟩) ?_ ?_
                  · intro w' hSw; obtain ⟨-, t0, t1, t2, t3, t4, t5, t6, t7, t8, t9, t10, t11⟩ := hSw; go_simp
                  · exact KS1 _ (P1_30_202.out)
                  (try simp only [Act.put, List.setIfInBounds_toArray, List.set_cons_zero, List.set_cons_succ])
                  refine Early.nextw (i := 77) (by kernel_rfl) rfl (by rfl) (fun K hK => ?_)
                  go_simp
                  (with_reducible refine (failsQ_new _ 6).mono ?_)
                  rintro e w204 ⟨hb204, N203, rfl, hN203⟩
                  have B205 := Lib.hid hb204
                  have z205 := B205.out.size
                  have HB206 := Lib.hid (HB201.out.trans (B205.out.mono HB201.out.size))
                  clear hb204
                  have P1_31_207 := Lib.hid (P1_30_202.out.trans (B205.out.mono P1_30_202.out.size))
                  refine hK _ _ (fun _ => KS1 _ P1_31_207.out) ?_; clear hK K
                  (try simp only [Act.put, List.setIfInBounds_toArray, List.set_cons_zero, List.set_cons_succ])
                  refine Early.nextw (i := 79) (by kernel_rfl) rfl (by rfl) (fun K hK => ?_)
                  go_simp
                  (with_reducible refine (ofQ_lit _ ⟨#[45, 49]⟩ (mkRat (-1) 1) plit_45_49 (by decide +kernel) (M.step HB206.out)).mono ?_)
                  rintro e w209 ⟨hb209, v208, rfl, hv208⟩
                  have B210 := Lib.hid hb209
                  have z210 := B210.out.size
                  have HB211 := Lib.hid (HB206.out.trans (B210.out.mono HB206.out.size))
                  clear hb209
                  have P1_32_212 := Lib.hid (P1_31_207.out.trans (B210.out.mono P1_31_207.out.size))
                  refine hK _ _ (fun _ => KS1 _ P1_32_212.out) ?_; clear hK K
                  (try simp only [Act.put, List.setIfInBounds_toArray, List.set_cons_zero, List.set_cons_succ])
                  have Ho208_213 := Lib.hid hv208; clear hv208
                  refine Early.nextw (i := 80) (by kernel_rfl) rfl (by rfl) (fun K hK => ?_)
                  go_simp
                  have P28_30_215 := Lib.hid (B193.out.trans (B200.out.mono B193.out.size))
                  have P28_31_216 := Lib.hid (P28_30_215.out.trans (B205.out.mono P28_30_215.out.size))
                  have P28_32_217 := Lib.hid (P28_31_216.out.trans (B210.out.mono P28_31_216.out.size))
                  have Hmost_218 := Lib.hid (QV.step Hmost_191.out P28_32_217.out)
                  (with_reducible refine (((QSub_good _ _ _ (mkRat (T : Int) 1) (mkRat (-1) 1) Hmost_218.out Ho208_213.out HM.out.lm (lit_QL (x := (-1)) (d := 1) (by decide) (by decide +kernel) (by decide +kernel) (by decide +kernel))).mono fun e w' h => And.intro h.1 (ret_no HM.out.sub2 h.2))).mono ?_)
                  rintro e w219 ⟨hb219, v214, rfl, hv214⟩
                  have B220 := Lib.hid hb219
                  have z220 := B220.out.size
                  have HB221 := Lib.hid (HB211.out.trans (B220.out.mono HB211.out.size))
                  clear hb219
                  have P1_33_222 := Lib.hid (P1_32_212.out.trans (B220.out.mono P1_32_212.out.size))
                  refine hK _ _ (fun _ => KS1 _ P1_33_222.out) ?_; clear hK K
                  (try simp only [Act.put, List.setIfInBounds_toArray, List.set_cons_zero, List.set_cons_succ])
                  have Hr214_223 := Lib.hid hv214; clear hv214
                  refine Early.take (i := 81) (v214) rfl (by kernel_rfl) (by kernel_rfl) (by kernel_rfl) (by kernel_rfl) (by kernel_rfl) (fun c a w h => hQ c a _ _ w h) (Or.inl ⟨by rfl, ?_⟩) ?_ ?_
                  · intro w' _; go_simp
                  · exact KS1 _ (P1_33_222.out)
                  (try simp only [Act.put, List.setIfInBounds_toArray, List.set_cons_zero, List.set_cons_succ])
                  refine Early.take (i := 82) (.int .i64 6) rfl (by kernel_rfl) (by kernel_rfl) (by kernel_rfl) (by kernel_rfl) (by kernel_rfl) (fun c a w h => hQ c a _ _ w h) (Or.inl ⟨by rfl, ?_⟩) ?_ ?_
                  · intro w' _; go_simp
                  · exact KS1 _ (P1_33_222.out)
                  (try simp only [Act.put, List.setIfInBounds_toArray, List.set_cons_zero, List.set_cons_succ])
                  refine Early.nextw (i := 83) (by kernel_rfl) rfl (by rfl) (fun K hK => ?_)
                  go_simp
                  have P31_33_225 := Lib.hid (B210.out.trans (B220.out.mono B210.out.size))
                  have LN_224 := One.step hN203 P31_33_225.out
                  (with_reducible refine (failsQ_yes LN_224 Hr214_223.out).mono ?_)
                  rintro e w226 ⟨hb226, rfl⟩
                  have B227 := Lib.hid hb226
                  have z227 := B227.out.size
                  have HB228 := Lib.hid (HB221.out.trans (B227.out.mono HB221.out.size))
                  clear hb226
                  have P1_34_229 := Lib.hid (P1_33_222.out.trans (B227.out.mono P1_33_222.out.size))
                  refine hK _ _ (fun _ => KS1 _ P1_34_229.out) ?_; clear hK K
                  (try simp only [Act.put, List.setIfInBounds_toArray, List.set_cons_zero, List.set_cons_succ])
                  clear LN_224
                  as_aux_lemma =>
                    refine Early.take (i := 84) (.bool true) rfl (by kernel_rfl) (by kernel_rfl) (by kernel_rfl) (by kernel_rfl) (by kernel_rfl) (fun c a w h => hQ c a _ _ w h) (Or.inl ⟨by rfl, ?_⟩) ?_ ?_
                    · intro w' _; go_simp
                    · exact KS1 _ (P1_34_229.out)
                    (try simp only [Act.put, List.setIfInBounds_toArray, List.set_cons_zero, List.set_cons_succ])
                    refine Early.take (i := 85) (.bool true) rfl (by kernel_rfl) (by kernel_rfl) (by kernel_rfl) (by kernel_rfl) (by kernel_rfl) (fun c a w h => hQ c a _ _ w h) (Or.inl ⟨by rfl, ?_⟩) ?_ ?_
                    · intro w' _; go_simp
                    · exact KS1 _ (P1_34_229.out)
                    (try simp only [Act.put, List.setIfInBounds_toArray, List.set_cons_zero, List.set_cons_succ])
                    refine Early.done (by kernel_rfl) ?_ _; (try simp only [Exit.then])
                    clear KS1
                    have Lmost_230 := CB.step Lm0 P1_34_229.out
                    have P32_34_231 := Lib.hid (B220.out.trans (B227.out.mono B220.out.size))
                    have Hmost_232 := Lib.hid (QV.step Hmost_218.out P32_34_231.out)
                    have Lleast_233 := CB.step Ll0 P1_34_229.out
                    have P24_26_234 := Lib.hid (B158.out.trans (B165.out.mono B158.out.size))
                    have P24_27_235 := Lib.hid (P24_26_234.out.trans (B170.out.mono P24_26_234.out.size))
                    have P24_28_236 := Lib.hid (P24_27_235.out.trans (B175.out.mono P24_27_235.out.size))
                    have P24_29_237 := Lib.hid (P24_28_236.out.trans (B193.out.mono P24_28_236.out.size))
                    have P24_30_238 := Lib.hid (P24_29_237.out.trans (B200.out.mono P24_29_237.out.size))
                    have P24_31_239 := Lib.hid (P24_30_238.out.trans (B205.out.mono P24_30_238.out.size))
                    have P24_32_240 := Lib.hid (P24_31_239.out.trans (B210.out.mono P24_31_239.out.size))
                    have P24_33_241 := Lib.hid (P24_32_240.out.trans (B220.out.mono P24_32_240.out.size))
                    have P24_34_242 := Lib.hid (P24_33_241.out.trans (B227.out.mono P24_33_241.out.size))
                    have Hleast_243 := Lib.hid (QV.step Hleast_156.out P24_34_242.out)
                    have Lbad_244 := CB.step Lb0 P1_34_229.out
                    have Hbad_245 := Lib.hid (QR.step Hb0.out P1_34_229.out)
                    exact hK.out _ _ _ _ _ _ _ _ _ _ _ _ _ _ _ _ _ _ _ _ _ _ _ _ _ _ _ _ _ _ _ _ _ _ _ _ _ _ _ _ _ _ _ _ _ _ _ _ _ _ _ _ _ _ _ _ _ _ _ _ _ _ _ _ _ _ _ _ _ _ _ _ _ _ _ _ _ _ _ _ _ _ _ _ _ _ HB228 Lmost_230 Hmost_232 Lleast_233 Hleast_243 Lbad_244 Hbad_245
end Go.Proofs.YtngpibfakemmhaaGreatDoor
