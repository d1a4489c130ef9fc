/- The law QuotKnown's region 9 (written by its generator). -/
import Derived.Test.YtngpibfakemmhaaGreatDoorQKnL
import Derived.Test.YtngpibfakemmhaaGreatDoorEarlyW
namespace Go.Proofs.YtngpibfakemmhaaGreatDoor
open Go Go.RowKit Dig
set_option linter.unusedSimpArgs false in
set_option linter.unusedVariables false in
set_option maxRecDepth 100000 in
set_option maxHeartbeats 16000000 in
theorem qkn_r9 {w wc : World} (G : Glob w) (M : MaxL w) {T : Nat} {ns : List UInt8} {NB LB : ByteArray} {bm bl bb : Nat} {a0 a1 a2 a3 c0 c1 c2 c3 d0 d1 d2 d3 : Value} {n1 n2 : Bool} {l1 l2 : List Int}
    (HM : Hid (MostQ T ns)) (HNB : Hid (NB.data.toList = ns)) (HNZ : Hid (NB.size = 5400)) (HLB : Hid ((⟨#[49, 47]⟩ : ByteArray) ++ NB = LB)) (HLD : Hid (LB.data.toList = [49] ++ 47 :: ns)) (HBQ : Hid (qOf n1 l1 n2 l2 = none))
    {K : Act → World → Prop} {Q : Exit → Act → World → Prop} (hQ : ∀ c a d v w, Q (.panic c) (Act.put a d v) w → Q (.panic c) a w) {u0 u6 u7 u8 u9 u10 u11 u12 u13 u14 u15 u16 u17 u18 u19 u20 u21 u22 u23 u24 u25 u26 u27 u28 u29 u30 u31 u32 u33 u34 u35 u36 u37 u38 u39 u40 u41 u42 u43 u44 u45 u46 u47 u48 u49 u50 u51 u52 u53 u54 u55 u56 u57 u58 u59 u60 u61 u62 u63 u64 u65 u66 u67 u68 u69 u70 u71 u72 u73 u74 u75 u76 u77 u78 u79 u80 u81 u82 u83 u84 u85 u86 u87 u88 u89 u90 u91 u92 u93 u94 u95 u96 u97 u98 u99 u100 u101 u102 u103 u104 u105 u106 u107 u108 u109 u110 u111 u112 u113 u114 u115 u116 u117 u118 u119 u120 u121 u122 u123 u124 u125 u126 u127 u128 u129 u130 u131 u132 u133 u134 u135 u136 u137 u138 u139 u140 u141 u142 u143 u144 u145 u146 u147 u148 u149 u150 u151 u152 u153 u154 u155 u156 u157 u158 u159 u160 u161 u162 u163 u164 u165 u166 u167 u168 u169 u170 u171 u172 u173 u174 u175 u176 u177 u178 u179 u180 u181 u182 u183 u184 u185 u186 u187 u188 u189 u190 u191 u192 u193 u194 u195 u196 u197 u198 u199 u200 u201 u202 u203 u204 u205 u206 u207 u208 u209 u210 u211 u212 u213 u214 u215 u216 u217 u218 u219 u220 u221 u222 u223 u224 u225 u226 u227 u228 u229 u230 u231 u232 u233 u234 u235 u236 u237 u238 u239 u240 u241 u242 u243 u244 u245 u246 u247 u248 u249 u250 u251 u252 u253 u254 u255 u256 u257 u258 u259 u260 u261 u262 u263 u264 u265 u266 u267 u268 u269 u270 u271 u272 u273 u274 u275 u276 u277 u278 u279 u280 u281 u282 u283 u284 u285 u286 u287 u288 u289 u290 u291 u292 u293 u294 u295 u296 u297 u298 u299 u300 u301 u302 u303 u304 u305 u306 u307 u308 u309 u310 u311 u312 u313 u314 u315 u316 u317 u318 u319 u320 u321 u322 u323 u324 u325 u326 u327 u328 u329 u330 u331 u332 u333 u334 u335 u336 u337 u338 u339 u340 u341 u342 u343 u344 u345 u346 u347 u348 u349 u350 u351 u352 u353 u354 u355 u356 u357 u358 u359 u360 u361 u362 u363 u364 u365 u366 u367 u368 u369 u370 u371 u372 u373 u374 u375 u376 u377 u378 u379 u380 u381 u382 u383 u384 u385 u386 u387 u388 u389 u390 u391 u392 u393 u394 u395 u396 u397 u398 u399 u400 u401 u402 u403 u404 u405 u406 u407 u408 u409 u410 u411 u412 u413 u414 u415 u416 u417 u418 u419 u420 u421 u422 u423 u424 u425 u426 u427 u428 u429 u430 u431 u432 u433 u434 u435 u436 u437 u438 u439 u440 u441 u442 u443 u444 u445 u446 u447 u448 u449 u450 u451 u452 u453 u454 u455 u456 u457 u458 u459 u460 u461 u462 u463 u464 u465 u466 u467 u468 u469 u470 u471 u472 u473 : Value} (HB0 : Hid (Below w.heap.size w wc)) (Lm0 : CB wc bm 28 #[a0, a1, a2, a3]) (Hm0 : Hid (QV wc wc.heap.size (.agg #[a0, a1, a2, a3]) (mkRat (T : Int) 1))) (Ll0 : CB wc bl 28 #[c0, c1, c2, c3]) (Hl0 : Hid (QV wc wc.heap.size (.agg #[c0, c1, c2, c3]) (mkRat 1 T))) (Lb0 : CB wc bb 28 #[d0, d1, d2, d3]) (Hb0 : Hid (QR wc wc.heap.size (.agg #[d0, d1, d2, d3]) n1 l1 n2 l2))
    (hK : ∀ (x253 x254 x255 x256 x257 x258 x259 x260 x261 x262 x263 x264 x265 x266 x267 x268 x269 x270 x271 x272 x273 x274 x275 x276 x277 x278 x279 x280 x281 x282 x283 x284 x285 x286 x287 x288 x289 x290 x291 x292 x293 x294 x295 x296 x297 x298 x299 x300 x301 x302 x303 x304 x305 x306 x307 x308 x309 x310 x311 x312 x313 x314 x315 x316 x317 x318 x319 x320 x321 x322 x323 x324 x325 x326 : Value) (wx : World), Hid (Below w.heap.size w wx) → CB wx bm 28 #[a0, a1, a2, a3] → Hid (QV wx wx.heap.size (.agg #[a0, a1, a2, a3]) (mkRat (T : Int) 1)) → CB wx bl 28 #[c0, c1, c2, c3] → Hid (QV wx wx.heap.size (.agg #[c0, c1, c2, c3]) (mkRat 1 T)) → CB wx bb 28 #[d0, d1, d2, d3] → Hid (QR wx wx.heap.size (.agg #[d0, d1, d2, d3]) n1 l1 n2 l2) → K ⟨#[u0, .string NB, .pointer (some ⟨bm, 0, none⟩), .pointer (some ⟨bl, 0, none⟩), .pointer (some ⟨bb, 0, none⟩), .bool true, u6, u7, u8, u9, u10, u11, u12, u13, u14, u15, u16, u17, u18, u19, u20, u21, u22, u23, u24, u25, u26, u27, u28, u29, u30, u31, u32, u33, u34, u35, u36, u37, u38, u39, u40, u41, u42, u43, u44, u45, u46, u47, u48, u49, u50, u51, u52, u53, u54, u55, u56, u57, u58, u59, u60, u61, u62, u63, u64, u65, u66, u67, u68, u69, u70, u71, u72, u73, u74, u75, u76, u77, u78, u79, u80, u81, u82, u83, u84, u85, u86, u87, u88, u89, u90, u91, u92, u93, u94, u95, u96, u97, u98, u99, u100, u101, u102, u103, u104, u105, u106, u107, u108, u109, u110, u111, u112, u113, u114, u115, u116, u117, u118, u119, u120, u121, u122, u123, u124, u125, u126, u127, u128, u129, u130, u131, u132, u133, u134, u135, u136, u137, u138, u139, u140, u141, u142, u143, u144, u145, u146, u147, u148, u149, u150, u151, u152, u153, u154, u155, u156, u157, u158, u159, u160, u161, u162, u163, u164, u165, u166, u167, u168, u169, u170, u171, u172, u173, u174, u175, u176, u177, u178, u179, u180, u181, u182, u183, u184, u185, u186, u187, u188, u189, u190, u191, u192, u193, u194, u195, u196, u197, u198, u199, u200, u201, u202, u203, u204, u205, u206, u207, u208, u209, u210, u211, u212, u213, u214, u215, u216, u217, u218, u219, u220, u221, u222, u223, u224, u225, u226, u227, u228, u229, u230, u231, u232, u233, u234, u235, u236, u237, u238, u239, u240, u241, u242, u243, u244, u245, u246, u247, u248, u249, u250, u251, u252, x253, x254, x255, x256, x257, x258, x259, x260, x261, x262, x263, x264, x265, x266, x267, x268, x269, x270, x271, x272, x273, x274, x275, x276, x277, x278, x279, x280, x281, x282, x283, x284, x285, x286, x287, x288, x289, x290, x291, x292, x293, x294, x295, x296, x297, x298, x299, x300, x301, x302, x303, x304, x305, x306, x307, x308, x309, x310, x311, x312, x313, x314, x315, x316, x317, x318, x319, x320, x321, x322, x323, x324, x325, x326, u327, u328, u329, u330, u331, u332, u333, u334, u335, u336, u337, u338, u339, u340, u341, u342, u343, u344, u345, u346, u347, u348, u349, u350, u351, u352, u353, u354, u355, u356, u357, u358, u359, u360, u361, u362, u363, u364, u365, u366, u367, u368, u369, u370, u371, u372, u373, u374, u375, u376, u377, u378, u379, u380, u381, u382, u383, u384, u385, u386, u387, u388, u389, u390, u391, u392, u393, u394, u395, u396, u397, u398, u399, u400, u401, u402, u403, u404, u405, u406, u407, u408, u409, u410, u411, u412, u413, u414, u415, u416, u417, u418, u419, u420, u421, u422, u423, u424, u425, u426, u427, u428, u429, u430, u431, u432, u433, u434, u435, u436, u437, u438, u439, u440, u441, u442, u443, u444, u445, u446, u447, u448, u449, u450, u451, u452, u453, u454, u455, u456, u457, u458, u459, u460, u461, u462, u463, u464, u465, u466, u467, u468, u469, u470, u471, u472, u473], []⟩ wx) :
    Code.wp Tryz.prog (kn_fst (kn_snd (kn_snd (kn_snd (kn_snd (kn_snd (kn_snd (kn_snd (kn_snd (Tryz.f3.body.getD .skip)))))))))) (Exit.then K Q) ⟨#[u0, .string NB, .pointer (some ⟨bm, 0, none⟩), .pointer (some ⟨bl, 0, none⟩), .pointer (some ⟨bb, 0, none⟩), .bool true, u6, u7, u8, u9, u10, u11, u12, u13, u14, u15, u16, u17, u18, u19, u20, u21, u22, u23, u24, u25, u26, u27, u28, u29, u30, u31, u32, u33, u34, u35, u36, u37, u38, u39, u40, u41, u42, u43, u44, u45, u46, u47, u48, u49, u50, u51, u52, u53, u54, u55, u56, u57, u58, u59, u60, u61, u62, u63, u64, u65, u66, u67, u68, u69, u70, u71, u72, u73, u74, u75, u76, u77, u78, u79, u80, u81, u82, u83, u84, u85, u86, u87, u88, u89, u90, u91, u92, u93, u94, u95, u96, u97, u98, u99, u100, u101, u102, u103, u104, u105, u106, u107, u108, u109, u110, u111, u112, u113, u114, u115, u116, u117, u118, u119, u120, u121, u122, u123, u124, u125, u126, u127, u128, u129, u130, u131, u132, u133, u134, u135, u136, u137, u138, u139, u140, u141, u142, u143, u144, u145, u146, u147, u148, u149, u150, u151, u152, u153, u154, u155, u156, u157, u158, u159, u160, u161, u162, u163, u164, u165, u166, u167, u168, u169, u170, u171, u172, u173, u174, u175, u176, u177, u178, u179, u180, u181, u182, u183, u184, u185, u186, u187, u188, u189, u190, u191, u192, u193, u194, u195, u196, u197, u198, u199, u200, u201, u202, u203, u204, u205, u206, u207, u208, u209, u210, u211, u212, u213, u214, u215, u216, u217, u218, u219, u220, u221, u222, u223, u224, u225, u226, u227, u228, u229, u230, u231, u232, u233, u234, u235, u236, u237, u238, u239, u240, u241, u242, u243, u244, u245, u246, u247, u248, u249, u250, u251, u252, u253, u254, u255, u256, u257, u258, u259, u260, u261, u262, u263, u264, u265, u266, u267, u268, u269, u270, u271, u272, u273, u274, u275, u276, u277, u278, u279, u280, u281, u282, u283, u284, u285, u286, u287, u288, u289, u290, u291, u292, u293, u294, u295, u296, u297, u298, u299, u300, u301, u302, u303, u304, u305, u306, u307, u308, u309, u310, u311, u312, u313, u314, u315, u316, u317, u318, u319, u320, u321, u322, u323, u324, u325, u326, u327, u328, u329, u330, u331, u332, u333, u334, u335, u336, u337, u338, u339, u340, u341, u342, u343, u344, u345, u346, u347, u348, u349, u350, u351, u352, u353, u354, u355, u356, u357, u358, u359, u360, u361, u362, u363, u364, u365, u366, u367, u368, u369, u370, u371, u372, u373, u374, u375, u376, u377, u378, u379, u380, u381, u382, u383, u384, u385, u386, u387, u388, u389, u390, u391, u392, u393, u394, u395, u396, u397, u398, u399, u400, u401, u402, u403, u404, u405, u406, u407, u408, u409, u410, u411, u412, u413, u414, u415, u416, u417, u418, u419, u420, u421, u422, u423, u424, u425, u426, u427, u428, u429, u430, u431, u432, u433, u434, u435, u436, u437, u438, u439, u440, u441, u442, u443, u444, u445, u446, u447, u448, u449, u450, u451, u452, u453, u454, u455, u456, u457, u458, u459, u460, u461, u462, u463, u464, u465, u466, u467, u468, u469, u470, u471, u472, u473], []⟩ wc := by
  replace hK := Lib.hid hK
  have hcat1 : ¬ 9223372036854775807 < 2 + NB.size := by rw [HNZ.out]; omega
  have hlb := HLB.out
  show Code.wp _ (Code.region 9 _ _) _ _ _
  have KS1 : ∀ w' : World, Below wc.heap.size wc w' → (Below wc.heap.size wc w' ∧ w'.cell? ⟨bm, 0, none⟩ = some (a0) ∧ w'.cell? ⟨bm, 1, none⟩ = some (a1) ∧ w'.cell? ⟨bm, 2, none⟩ = some (a2) ∧ w'.cell? ⟨bm, 3, none⟩ = some (a3) ∧ w'.cell? ⟨bl, 0, none⟩ = some (c0) ∧ w'.cell? ⟨bl, 1, none⟩ = some (c1) ∧ w'.cell? ⟨bl, 2, none⟩ = some (c2) ∧ w'.cell? ⟨bl, 3, none⟩ = some (c3) ∧ w'.cell? ⟨bb, 0, none⟩ = some (d0) ∧ w'.cell? ⟨bb, 1, none⟩ = some (d1) ∧ w'.cell? ⟨bb, 2, none⟩ = some (d2) ∧ w'.cell? ⟨bb, 3, none⟩ = some (d3)) := fun w' h => ⟨h, (CB.step Lm0 h).cell 0 rfl, (CB.step Lm0 h).cell 1 rfl, (CB.step Lm0 h).cell 2 rfl, (CB.step Lm0 h).cell 3 rfl, (CB.step Ll0 h).cell 0 rfl, (CB.step Ll0 h).cell 1 rfl, (CB.step Ll0 h).cell 2 rfl, (CB.step Ll0 h).cell 3 rfl, (CB.step Lb0 h).cell 0 rfl, (CB.step Lb0 h).cell 1 rfl, (CB.step Lb0 h).cell 2 rfl, (CB.step Lb0 h).cell 3 rfl⟩
  refine Early.start 75 (fun w' => Below wc.heap.size wc w' ∧ w'.cell? ⟨bm, 0, none⟩ = some (a0) ∧ w'.cell? ⟨bm, 1, none⟩ = some (a1) ∧ w'.cell? ⟨bm, 2, none⟩ = some (a2) ∧ w'.cell? ⟨bm, 3, none⟩ = some (a3) ∧ w'.cell? ⟨bl, 0, none⟩ = some (c0) ∧ w'.cell? ⟨bl, 1, none⟩ = some (c1) ∧ w'.cell? ⟨bl, 2, none⟩ = some (c2) ∧ w'.cell? ⟨bl, 3, none⟩ = some (c3) ∧ w'.cell? ⟨bb, 0, none⟩ = some (d0) ∧ w'.cell? ⟨bb, 1, none⟩ = some (d1) ∧ w'.cell? ⟨bb, 2, none⟩ = some (d2) ∧ w'.cell? ⟨bb, 3, none⟩ = some (d3)) (by kernel_rfl) ?_
  change Early _ _ _ _ _ _ _ #[false, false, false, false, false, false, false, false, false, false, false, false, false, false, false, false, false, false, false, false, false, false, false, false, false, false, false, false, false, false, false, false, false, false, false, false, false, false, false, false, false, false, false, false, false, false, false, false, false, false, false, false, false, false, false, false, false, false, false, false, false, false, false, false, false, false, false, false, false, false, false, false, false, false, false] _ _
  refine Early.take (i := 0) (.bool true) rfl (by kernel_rfl) (by kernel_rfl) (by kernel_rfl) (by kernel_rfl) (by kernel_rfl) (fun c a w h => hQ c a _ _ w h) (Or.inl ⟨by rfl, ?_⟩) ?_ ?_
  · intro w' _; go_simp
  · exact KS1 _ (below_drew1 (Below.refl _ _))
  (try simp only [Act.put, List.setIfInBounds_toArray, List.set_cons_zero, List.set_cons_succ])
  refine Early.take (i := 1) (.bool true) rfl (by kernel_rfl) (by kernel_rfl) (by kernel_rfl) (by kernel_rfl) (by kernel_rfl) (fun c a w h => hQ c a _ _ w h) (Or.inl ⟨by rfl, ?_⟩) ?_ ?_
  · intro w' _; go_simp
  · exact KS1 _ (below_drew1 (Below.refl _ _))
  (try simp only [Act.put, List.setIfInBounds_toArray, List.set_cons_zero, List.set_cons_succ])
  refine Early.nextw (i := 2) (by kernel_rfl) rfl (by rfl) (fun K hK => ?_)
  go_simp
  (with_reducible refine (spansQ_new _ 4503599627370496 4503599627370496).mono ?_)
  rintro e w3 ⟨hb3, N2, N2', rfl, hN2, hN2'⟩
  replace hb3 := below_undrew hb3
  have B4 := Lib.hid hb3
  have z4 := B4.out.size
  have HB5 := Lib.hid (HB0.out.trans (B4.out.mono HB0.out.size))
  clear hb3
  refine hK _ _ (fun _ => KS1 _ B4.out) ?_; clear hK K
  (try simp only [Act.put, List.setIfInBounds_toArray, List.set_cons_zero, List.set_cons_succ])
  refine Early.nextw (i := 3) (by kernel_rfl) rfl (by rfl) (fun K hK => ?_)
  go_simp
  (with_reducible refine (ofQ_lit _ ⟨#[49, 48, 52, 56, 53, 55, 54]⟩ (mkRat 1048576 1) plit_49_48_52_56_53_55_54 (by decide +kernel) (M.step HB5.out)).mono ?_)
  rintro e w7 ⟨hb7, v6, rfl, hv6⟩
  have B8 := Lib.hid hb7
  have z8 := B8.out.size
  have HB9 := Lib.hid (HB5.out.trans (B8.out.mono HB5.out.size))
  clear hb7
  have P1_3_10 := Lib.hid (B4.out.trans (B8.out.mono B4.out.size))
  refine hK _ _ (fun _ => KS1 _ P1_3_10.out) ?_; clear hK K
  (try simp only [Act.put, List.setIfInBounds_toArray, List.set_cons_zero, List.set_cons_succ])
  have Ho6_11 := Lib.hid hv6; clear hv6
  refine Early.nextw (i := 4) (by kernel_rfl) rfl (by rfl) (fun K hK => ?_)
  go_simp
  (with_reducible refine (QSpan_lit Ho6_11.out (lit_QL (x := 1048576) (d := 1) (by decide) (by decide +kernel) (by decide +kernel) (by decide +kernel)) (r := ((4503599627370496, 4503599627370496), 0)) (by decide +kernel) (G.step HB9.out)).mono ?_)
  rintro e w13 ⟨hb13, rfl⟩
  have B14 := Lib.hid hb13
  have z14 := B14.out.size
  have HB15 := Lib.hid (HB9.out.trans (B14.out.mono HB9.out.size))
  clear hb13
  have P1_4_16 := Lib.hid (P1_3_10.out.trans (B14.out.mono P1_3_10.out.size))
  refine hK _ _ (fun _ => KS1 _ P1_4_16.out) ?_; clear hK K
  (try simp only [Act.put, List.setIfInBounds_toArray, List.set_cons_zero, List.set_cons_succ])
  refine Early.take (i := 5) (.agg #[.int .i64 4503599627370496, .int .i64 4503599627370496]) rfl (by kernel_rfl) (by kernel_rfl) (by kernel_rfl) (by kernel_rfl) (by kernel_rfl) (fun c a w h => hQ c a _ _ w h) (Or.inl ⟨by rfl, ?_⟩) ?_ ?_
  · intro w' _; go_simp
  · exact KS1 _ (P1_4_16.out)
  (try simp only [Act.put, List.setIfInBounds_toArray, List.set_cons_zero, List.set_cons_succ])
  refine Early.take (i := 6) (.int .i64 0) rfl (by kernel_rfl) (by kernel_rfl) (by kernel_rfl) (by kernel_rfl) (by kernel_rfl) (fun c a w h => hQ c a _ _ w h) (Or.inl ⟨by rfl, ?_⟩) ?_ ?_
  · intro w' _; go_simp
  · exact KS1 _ (P1_4_16.out)
  (try simp only [Act.put, List.setIfInBounds_toArray, List.set_cons_zero, List.set_cons_succ])
  refine Early.nextw (i := 7) (by kernel_rfl) rfl (by rfl) (fun K hK => ?_)
  go_simp
  have P2_4_18 := Lib.hid (B8.out.trans (B14.out.mono B8.out.size))
  have LN_17 := One.step hN2 P2_4_18.out
  have LN2_19 := One.step hN2' P2_4_18.out
  (with_reducible refine (spansQ_yes LN_17 LN2_19).mono ?_)
  rintro e w20 ⟨hb20, rfl⟩
  have B21 := Lib.hid hb20
  have z21 := B21.out.size
  have HB22 := Lib.hid (HB15.out.trans (B21.out.mono HB15.out.size))
  clear hb20
  have P1_5_23 := Lib.hid (P1_4_16.out.trans (B21.out.mono P1_4_16.out.size))
  refine hK _ _ (fun _ => KS1 _ P1_5_23.out) ?_; clear hK K
  (try simp only [Act.put, List.setIfInBounds_toArray, List.set_cons_zero, List.set_cons_succ])
  clear LN_17
  clear LN2_19
  as_aux_lemma =>
    refine Early.take (i := 8) (.bool true) rfl (by kernel_rfl) (by kernel_rfl) (by kernel_rfl) (by kernel_rfl) (by kernel_rfl) (fun c a w h => hQ c a _ _ w h) (Or.inl ⟨by rfl, ?_⟩) ?_ ?_
    · intro w' _; go_simp
    · exact KS1 _ (P1_5_23.out)
    (try simp only [Act.put, List.setIfInBounds_toArray, List.set_cons_zero, List.set_cons_succ])
    refine Early.take (i := 9) (.bool true) rfl (by kernel_rfl) (by kernel_rfl) (by kernel_rfl) (by kernel_rfl) (by kernel_rfl) (fun c a w h => hQ c a _ _ w h) (Or.inl ⟨by rfl, ?_⟩) ?_ ?_
    · intro w' _; go_simp
    · exact KS1 _ (P1_5_23.out)
    (try simp only [Act.put, List.setIfInBounds_toArray, List.set_cons_zero, List.set_cons_succ])
    refine Early.take (i := 11) (.agg #[c0, c1, c2, c3]) rfl (by kernel_rfl) (by kernel_rfl) (by kernel_rfl) (by kernel_rfl) (by kernel_rfl) (fun c a w h => hQ c a _ _ w h) (Or.inl ⟨by rfl, ?_⟩) ?_ ?_
    · intro w' hSw; obtain ⟨-, t0, t1, t2, t3, t4, t5, t6, t7, t8, t9, t10, t11⟩ := hSw; go_simp
    · exact KS1 _ (P1_5_23.out)
    (try simp only [Act.put, List.setIfInBounds_toArray, List.set_cons_zero, List.set_cons_succ])
    refine Early.nextw (i := 10) (by kernel_rfl) rfl (by rfl) (fun K hK => ?_)
    go_simp
    (with_reducible refine (spansQ_new _ 0 1).mono ?_)
    rintro e w25 ⟨hb25, N24, N24', rfl, hN24, hN24'⟩
    have B26 := Lib.hid hb25
    have z26 := B26.out.size
    have HB27 := Lib.hid (HB22.out.trans (B26.out.mono HB22.out.size))
    clear hb25
    have P1_6_28 := Lib.hid (P1_5_23.out.trans (B26.out.mono P1_5_23.out.size))
    refine hK _ _ (fun _ => KS1 _ P1_6_28.out) ?_; clear hK K
    (try simp only [Act.put, List.setIfInBounds_toArray, List.set_cons_zero, List.set_cons_succ])
    refine Early.nextw (i := 12) (by kernel_rfl) rfl (by rfl) (fun K hK => ?_)
    go_simp
    have Hleast_30 := Lib.hid (QV.step Hl0.out P1_6_28.out)
    (with_reducible refine (QSpan_lit Hleast_30.out HM.out.ll (r := ((0, 1), 0)) HM.out.span (G.step HB27.out)).mono ?_)
    rintro e w31 ⟨hb31, rfl⟩
    have B32 := Lib.hid hb31
    have z32 := B32.out.size
    have HB33 := Lib.hid (HB27.out.trans (B32.out.mono HB27.out.size))
    clear hb31
    have P1_7_34 := Lib.hid (P1_6_28.out.trans (B32.out.mono P1_6_28.out.size))
    refine hK _ _ (fun _ => KS1 _ P1_7_34.out) ?_; clear hK K
    (try simp only [Act.put, List.setIfInBounds_toArray, List.set_cons_zero, List.set_cons_succ])
    refine Early.take (i := 13) (.agg #[.int .i64 0, .int .i64 1]) rfl (by kernel_rfl) (by kernel_rfl) (by kernel_rfl) (by kernel_rfl) (by kernel_rfl) (fun c a w h => hQ c a _ _ w h) (Or.inl ⟨by rfl, ?_⟩) ?_ ?_
    · intro w' _; go_simp
    · exact KS1 _ (P1_7_34.out)
    (try simp only [Act.put, List.setIfInBounds_toArray, List.set_cons_zero, List.set_cons_succ])
    refine Early.take (i := 14) (.int .i64 0) rfl (by kernel_rfl) (by kernel_rfl) (by kernel_rfl) (by kernel_rfl) (by kernel_rfl) (fun c a w h => hQ c a _ _ w h) (Or.inl ⟨by rfl, ?_⟩) ?_ ?_
    · intro w' _; go_simp
    · exact KS1 _ (P1_7_34.out)
    (try simp only [Act.put, List.setIfInBounds_toArray, List.set_cons_zero, List.set_cons_succ])
    refine Early.nextw (i := 15) (by kernel_rfl) rfl (by rfl) (fun K hK => ?_)
    go_simp
    have LN_35 := One.step hN24 B32.out
    have LN2_36 := One.step hN24' B32.out
    (with_reducible refine (spansQ_yes LN_35 LN2_36).mono ?_)
    rintro e w37 ⟨hb37, rfl⟩
    have B38 := Lib.hid hb37
    have z38 := B38.out.size
    have HB39 := Lib.hid (HB33.out.trans (B38.out.mono HB33.out.size))
    clear hb37
    have P1_8_40 := Lib.hid (P1_7_34.out.trans (B38.out.mono P1_7_34.out.size))
    refine hK _ _ (fun _ => KS1 _ P1_8_40.out) ?_; clear hK K
    (try simp only [Act.put, List.setIfInBounds_toArray, List.set_cons_zero, List.set_cons_succ])
    clear LN_35
    clear LN2_36
    as_aux_lemma =>
      refine Early.take (i := 16) (.bool true) rfl (by kernel_rfl) (by kernel_rfl) (by kernel_rfl) (by kernel_rfl) (by kernel_rfl) (fun c a w h => hQ c a _ _ w h) (Or.inl ⟨by rfl, ?_⟩) ?_ ?_
      · intro w' _; go_simp
      · exact KS1 _ (P1_8_40.out)
      (try simp only [Act.put, List.setIfInBounds_toArray, List.set_cons_zero, List.set_cons_succ])
      refine Early.take (i := 17) (.bool true) rfl (by kernel_rfl) (by kernel_rfl) (by kernel_rfl) (by kernel_rfl) (by kernel_rfl) (fun c a w h => hQ c a _ _ w h) (Or.inl ⟨by rfl, ?_⟩) ?_ ?_
      · intro w' _; go_simp
      · exact KS1 _ (P1_8_40.out)
      (try simp only [Act.put, List.setIfInBounds_toArray, List.set_cons_zero, List.set_cons_succ])
      refine Early.take (i := 19) (.agg #[c0, c1, c2, c3]) rfl (by kernel_rfl) (by kernel_rfl) (by kernel_rfl) (by kernel_rfl) (by kernel_rfl) (fun c a w h => hQ c a _ _ w h) (Or.inl ⟨by rfl, ?_⟩) ?_ ?_
      · intro w' hSw; obtain ⟨-, t0, t1, t2, t3, t4, t5, t6, t7, t8, t9, t10, t11⟩ := hSw; go_simp
      · exact KS1 _ (P1_8_40.out)
      (try simp only [Act.put, List.setIfInBounds_toArray, List.set_cons_zero, List.set_cons_succ])
      refine Early.nextw (i := 18) (by kernel_rfl) rfl (by rfl) (fun K hK => ?_)
      go_simp
      (with_reducible refine (saysQ_new _ 0).mono ?_)
      rintro e w42 ⟨hb42, N41, rfl, hN41⟩
      have B43 := Lib.hid hb42
      have z43 := B43.out.size
      have HB44 := Lib.hid (HB39.out.trans (B43.out.mono HB39.out.size))
      clear hb42
      have P1_9_45 := Lib.hid (P1_8_40.out.trans (B43.out.mono P1_8_40.out.size))
      refine hK _ _ (fun _ => KS1 _ P1_9_45.out) ?_; clear hK K
      (try simp only [Act.put, List.setIfInBounds_toArray, List.set_cons_zero, List.set_cons_succ])
      refine Early.nextw (i := 20) (by kernel_rfl) rfl (by rfl) (fun K hK => ?_)
      go_simp
      have P6_8_47 := Lib.hid (B32.out.trans (B38.out.mono B32.out.size))
      have P6_9_48 := Lib.hid (P6_8_47.out.trans (B43.out.mono P6_8_47.out.size))
      have Hleast_49 := Lib.hid (QV.step Hleast_30.out P6_9_48.out)
      (with_reducible refine (QNear_lit Hleast_49.out HM.out.ll (s := 1000000000000) (r := (0, 0)) HM.out.near (G.step HB44.out)).mono ?_)
      rintro e w50 ⟨hb50, rfl⟩
      have B51 := Lib.hid hb50
      have z51 := B51.out.size
      have HB52 := Lib.hid (HB44.out.trans (B51.out.mono HB44.out.size))
      clear hb50
      have P1_10_53 := Lib.hid (P1_9_45.out.trans (B51.out.mono P1_9_45.out.size))
      refine hK _ _ (fun _ => KS1 _ P1_10_53.out) ?_; clear hK K
      (try simp only [Act.put, List.setIfInBounds_toArray, List.set_cons_zero, List.set_cons_succ])
      refine Early.take (i := 21) (.int .i64 0) rfl (by kernel_rfl) (by kernel_rfl) (by kernel_rfl) (by kernel_rfl) (by kernel_rfl) (fun c a w h => hQ c a _ _ w h) (Or.inl ⟨by rfl, ?_⟩) ?_ ?_
      · intro w' _; go_simp
      · exact KS1 _ (P1_10_53.out)
      (try simp only [Act.put, List.setIfInBounds_toArray, List.set_cons_zero, List.set_cons_succ])
      refine Early.take (i := 22) (.int .i64 0) rfl (by kernel_rfl) (by kernel_rfl) (by kernel_rfl) (by kernel_rfl) (by kernel_rfl) (fun c a w h => hQ c a _ _ w h) (Or.inl ⟨by rfl, ?_⟩) ?_ ?_
      · intro w' _; go_simp
      · exact KS1 _ (P1_10_53.out)
      (try simp only [Act.put, List.setIfInBounds_toArray, List.set_cons_zero, List.set_cons_succ])
      refine Early.nextw (i := 23) (by kernel_rfl) rfl (by rfl) (fun K hK => ?_)
      go_simp
      have LN_54 := One.step hN41 B51.out
      (with_reducible refine (saysQ_yes LN_54).mono ?_)
      rintro e w55 ⟨hb55, rfl⟩
      have B56 := Lib.hid hb55
      have z56 := B56.out.size
      have HB57 := Lib.hid (HB52.out.trans (B56.out.mono HB52.out.size))
      clear hb55
      have P1_11_58 := Lib.hid (P1_10_53.out.trans (B56.out.mono P1_10_53.out.size))
      refine hK _ _ (fun _ => KS1 _ P1_11_58.out) ?_; clear hK K
      (try simp only [Act.put, List.setIfInBounds_toArray, List.set_cons_zero, List.set_cons_succ])
      clear LN_54
      as_aux_lemma =>
        refine Early.take (i := 24) (.bool true) rfl (by kernel_rfl) (by kernel_rfl) (by kernel_rfl) (by kernel_rfl) (by kernel_rfl) (fun c a w h => hQ c a _ _ w h) (Or.inl ⟨by rfl, ?_⟩) ?_ ?_
        · intro w' _; go_simp
        · exact KS1 _ (P1_11_58.out)
        (try simp only [Act.put, List.setIfInBounds_toArray, List.set_cons_zero, List.set_cons_succ])
        refine Early.take (i := 25) (.bool true) rfl (by kernel_rfl) (by kernel_rfl) (by kernel_rfl) (by kernel_rfl) (by kernel_rfl) (fun c a w h => hQ c a _ _ w h) (Or.inl ⟨by rfl, ?_⟩) ?_ ?_
        · intro w' _; go_simp
        · exact KS1 _ (P1_11_58.out)
        (try simp only [Act.put, List.setIfInBounds_toArray, List.set_cons_zero, List.set_cons_succ])
        refine Early.nextw (i := 26) (by kernel_rfl) rfl (by rfl) (fun K hK => ?_)
        go_simp
        (with_reducible refine (saysQ_new _ 4611686018427387904).mono ?_)
        rintro e w60 ⟨hb60, N59, rfl, hN59⟩
        have B61 := Lib.hid hb60
        have z61 := B61.out.size
        have HB62 := Lib.hid (HB57.out.trans (B61.out.mono HB57.out.size))
        clear hb60
        have P1_12_63 := Lib.hid (P1_11_58.out.trans (B61.out.mono P1_11_58.out.size))
        refine hK _ _ (fun _ => KS1 _ P1_12_63.out) ?_; clear hK K
        (try simp only [Act.put, List.setIfInBounds_toArray, List.set_cons_zero, List.set_cons_succ])
        refine Early.nextw (i := 27) (by kernel_rfl) rfl (by rfl) (fun K hK => ?_)
        go_simp
        (with_reducible refine (ofQ_lit _ ⟨#[52, 54, 49, 49, 54, 56, 54, 48, 49, 56, 52, 50, 55, 51, 56, 55, 57, 48, 52]⟩ (mkRat 4611686018427387904 1) plit_52_54_49_49_54_56_54_48_49_56_52_50_55_51_56_55_57_48_52 (by decide +kernel) (M.step HB62.out)).mono ?_)
        rintro e w65 ⟨hb65, v64, rfl, hv64⟩
        have B66 := Lib.hid hb65
        have z66 := B66.out.size
        have HB67 := Lib.hid (HB62.out.trans (B66.out.mono HB62.out.size))
        clear hb65
        have P1_13_68 := Lib.hid (P1_12_63.out.trans (B66.out.mono P1_12_63.out.size))
        refine hK _ _ (fun _ => KS1 _ P1_13_68.out) ?_; clear hK K
        (try simp only [Act.put, List.setIfInBounds_toArray, List.set_cons_zero, List.set_cons_succ])
        have Ho64_69 := Lib.hid hv64; clear hv64
        refine Early.nextw (i := 28) (by kernel_rfl) rfl (by rfl) (fun K hK => ?_)
        go_simp
        (with_reducible refine (QNear_lit Ho64_69.out (lit_QL (x := 4611686018427387904) (d := 1) (by decide) (by decide +kernel) (by decide +kernel) (by decide +kernel)) (s := 1) (r := (4611686018427387904, 0)) (by decide +kernel) (G.step HB67.out)).mono ?_)
        rintro e w71 ⟨hb71, rfl⟩
        have B72 := Lib.hid hb71
        have z72 := B72.out.size
        have HB73 := Lib.hid (HB67.out.trans (B72.out.mono HB67.out.size))
        clear hb71
        have P1_14_74 := Lib.hid (P1_13_68.out.trans (B72.out.mono P1_13_68.out.size))
        refine hK _ _ (fun _ => KS1 _ P1_14_74.out) ?_; clear hK K
        (try simp only [Act.put, List.setIfInBounds_toArray, List.set_cons_zero, List.set_cons_succ])
        refine Early.take (i := 29) (.int .i64 4611686018427387904) rfl (by kernel_rfl) (by kernel_rfl) (by kernel_rfl) (by kernel_rfl) (by kernel_rfl) (fun c a w h => hQ c a _ _ w h) (Or.inl ⟨by rfl, ?_⟩) ?_ ?_
        · intro w' _; go_simp
        · exact KS1 _ (P1_14_74.out)
        (try simp only [Act.put, List.setIfInBounds_toArray, List.set_cons_zero, List.set_cons_succ])
        refine Early.take (i := 30) (.int .i64 0) rfl (by kernel_rfl) (by kernel_rfl) (by kernel_rfl) (by kernel_rfl) (by kernel_rfl) (fun c a w h => hQ c a _ _ w h) (Or.inl ⟨by rfl, ?_⟩) ?_ ?_
        · intro w' _; go_simp
        · exact KS1 _ (P1_14_74.out)
        (try simp only [Act.put, List.setIfInBounds_toArray, List.set_cons_zero, List.set_cons_succ])
        refine Early.nextw (i := 31) (by kernel_rfl) rfl (by rfl) (fun K hK => ?_)
        go_simp
        have P12_14_76 := Lib.hid (B66.out.trans (B72.out.mono B66.out.size))
        have LN_75 := One.step hN59 P12_14_76.out
        (with_reducible refine (saysQ_yes LN_75).mono ?_)
        rintro e w77 ⟨hb77, rfl⟩
        have B78 := Lib.hid hb77
        have z78 := B78.out.size
        have HB79 := Lib.hid (HB73.out.trans (B78.out.mono HB73.out.size))
        clear hb77
        have P1_15_80 := Lib.hid (P1_14_74.out.trans (B78.out.mono P1_14_74.out.size))
        refine hK _ _ (fun _ => KS1 _ P1_15_80.out) ?_; clear hK K
        (try simp only [Act.put, List.setIfInBounds_toArray, List.set_cons_zero, List.set_cons_succ])
        clear LN_75
        as_aux_lemma =>
          refine Early.take (i := 32) (.bool true) rfl (by kernel_rfl) (by kernel_rfl) (by kernel_rfl) (by kernel_rfl) (by kernel_rfl) (fun c a w h => hQ c a _ _ w h) (Or.inl ⟨by rfl, ?_⟩) ?_ ?_
          · intro w' _; go_simp
          · exact KS1 _ (P1_15_80.out)
          (try simp only [Act.put, List.setIfInBounds_toArray, List.set_cons_zero, List.set_cons_succ])
          refine Early.take (i := 33) (.bool true) rfl (by kernel_rfl) (by kernel_rfl) (by kernel_rfl) (by kernel_rfl) (by kernel_rfl) (fun c a w h => hQ c a _ _ w h) (Or.inl ⟨by rfl, ?_⟩) ?_ ?_
          · intro w' _; go_simp
          · exact KS1 _ (P1_15_80.out)
          (try simp only [Act.put, List.setIfInBounds_toArray, List.set_cons_zero, List.set_cons_succ])
          refine Early.nextw (i := 34) (by kernel_rfl) rfl (by rfl) (fun K hK => ?_)
          go_simp
          (with_reducible refine (saysQ_new _ 4611686018427387904).mono ?_)
          rintro e w82 ⟨hb82, N81, rfl, hN81⟩
          have B83 := Lib.hid hb82
          have z83 := B83.out.size
          have HB84 := Lib.hid (HB79.out.trans (B83.out.mono HB79.out.size))
          clear hb82
          have P1_16_85 := Lib.hid (P1_15_80.out.trans (B83.out.mono P1_15_80.out.size))
          refine hK _ _ (fun _ => KS1 _ P1_16_85.out) ?_; clear hK K
          (try simp only [Act.put, List.setIfInBounds_toArray, List.set_cons_zero, List.set_cons_succ])
          refine Early.nextw (i := 35) (by kernel_rfl) rfl (by rfl) (fun K hK => ?_)
          go_simp
          (with_reducible refine (ofQ_lit _ ⟨#[57, 50, 50, 51, 51, 55, 50, 48, 51, 54, 56, 53, 52, 55, 55, 53, 56, 48, 55, 47, 50]⟩ (mkRat 9223372036854775807 2) plit_57_50_50_51_51_55_50_48_51_54_56_53_52_55_55_53_56_48_55_47_50 (by decide +kernel) (M.step HB84.out)).mono ?_)
          rintro e w87 ⟨hb87, v86, rfl, hv86⟩
          have B88 := Lib.hid hb87
          have z88 := B88.out.size
          have HB89 := Lib.hid (HB84.out.trans (B88.out.mono HB84.out.size))
          clear hb87
          have P1_17_90 := Lib.hid (P1_16_85.out.trans (B88.out.mono P1_16_85.out.size))
          refine hK _ _ (fun _ => KS1 _ P1_17_90.out) ?_; clear hK K
          (try simp only [Act.put, List.setIfInBounds_toArray, List.set_cons_zero, List.set_cons_succ])
          have Ho86_91 := Lib.hid hv86; clear hv86
          refine Early.nextw (i := 36) (by kernel_rfl) rfl (by rfl) (fun K hK => ?_)
          go_simp
          (with_reducible refine (QNear_lit Ho86_91.out (lit_QL (x := 9223372036854775807) (d := 2) (by decide) (by decide +kernel) (by decide +kernel) (by decide +kernel)) (s := 1) (r := (4611686018427387904, 0)) (by decide +kernel) (G.step HB89.out)).mono ?_)
          rintro e w93 ⟨hb93, rfl⟩
          have B94 := Lib.hid hb93
          have z94 := B94.out.size
          have HB95 := Lib.hid (HB89.out.trans (B94.out.mono HB89.out.size))
          clear hb93
          have P1_18_96 := Lib.hid (P1_17_90.out.trans (B94.out.mono P1_17_90.out.size))
          refine hK _ _ (fun _ => KS1 _ P1_18_96.out) ?_; clear hK K
          (try simp only [Act.put, List.setIfInBounds_toArray, List.set_cons_zero, List.set_cons_succ])
          refine Early.take (i := 37) (.int .i64 4611686018427387904) rfl (by kernel_rfl) (by kernel_rfl) (by kernel_rfl) (by kernel_rfl) (by kernel_rfl) (fun c a w h => hQ c a _ _ w h) (Or.inl ⟨by rfl, ?_⟩) ?_ ?_
          · intro w' _; go_simp
          · exact KS1 _ (P1_18_96.out)
          (try simp only [Act.put, List.setIfInBounds_toArray, List.set_cons_zero, List.set_cons_succ])
          refine Early.take (i := 38) (.int .i64 0) rfl (by kernel_rfl) (by kernel_rfl) (by kernel_rfl) (by kernel_rfl) (by kernel_rfl) (fun c a w h => hQ c a _ _ w h) (Or.inl ⟨by rfl, ?_⟩) ?_ ?_
          · intro w' _; go_simp
          · exact KS1 _ (P1_18_96.out)
          (try simp only [Act.put, List.setIfInBounds_toArray, List.set_cons_zero, List.set_cons_succ])
          refine Early.nextw (i := 39) (by kernel_rfl) rfl (by rfl) (fun K hK => ?_)
          go_simp
          have P16_18_98 := Lib.hid (B88.out.trans (B94.out.mono B88.out.size))
          have LN_97 := One.step hN81 P16_18_98.out
          (with_reducible refine (saysQ_yes LN_97).mono ?_)
          rintro e w99 ⟨hb99, rfl⟩
          have B100 := Lib.hid hb99
          have z100 := B100.out.size
          have HB101 := Lib.hid (HB95.out.trans (B100.out.mono HB95.out.size))
          clear hb99
          have P1_19_102 := Lib.hid (P1_18_96.out.trans (B100.out.mono P1_18_96.out.size))
          refine hK _ _ (fun _ => KS1 _ P1_19_102.out) ?_; clear hK K
          (try simp only [Act.put, List.setIfInBounds_toArray, List.set_cons_zero, List.set_cons_succ])
          clear LN_97
          as_aux_lemma =>
            refine Early.take (i := 40) (.bool true) rfl (by kernel_rfl) (by kernel_rfl) (by kernel_rfl) (by kernel_rfl) (by kernel_rfl) (fun c a w h => hQ c a _ _ w h) (Or.inl ⟨by rfl, ?_⟩) ?_ ?_
            · intro w' _; go_simp
            · exact KS1 _ (P1_19_102.out)
            (try simp only [Act.put, List.setIfInBounds_toArray, List.set_cons_zero, List.set_cons_succ])
            refine Early.take (i := 41) (.bool true) rfl (by kernel_rfl) (by kernel_rfl) (by kernel_rfl) (by kernel_rfl) (by kernel_rfl) (fun c a w h => hQ c a _ _ w h) (Or.inl ⟨by rfl, ?_⟩) ?_ ?_
            · intro w' _; go_simp
            · exact KS1 _ (P1_19_102.out)
            (try simp only [Act.put, List.setIfInBounds_toArray, List.set_cons_zero, List.set_cons_succ])
            refine Early.nextw (i := 42) (by kernel_rfl) rfl (by rfl) (fun K hK => ?_)
            go_simp
            (with_reducible refine (saysQ_new _ (-4611686018427387904)).mono ?_)
            rintro e w104 ⟨hb104, N103, rfl, hN103⟩
            have B105 := Lib.hid hb104
            have z105 := B105.out.size
            have HB106 := Lib.hid (HB101.out.trans (B105.out.mono HB101.out.size))
            clear hb104
            have P1_20_107 := Lib.hid (P1_19_102.out.trans (B105.out.mono P1_19_102.out.size))
            refine hK _ _ (fun _ => KS1 _ P1_20_107.out) ?_; clear hK K
            (try simp only [Act.put, List.setIfInBounds_toArray, List.set_cons_zero, List.set_cons_succ])
            refine Early.nextw (i := 43) (by kernel_rfl) rfl (by rfl) (fun K hK => ?_)
            go_simp
            (with_reducible refine (ofQ_lit _ ⟨#[45, 57, 50, 50, 51, 51, 55, 50, 48, 51, 54, 56, 53, 52, 55, 55, 53, 56, 48, 57, 47, 50]⟩ (mkRat (-9223372036854775809) 2) plit_45_57_50_50_51_51_55_50_48_51_54_56_53_52_55_55_53_56_48_57_47_50 (by decide +kernel) (M.step HB106.out)).mono ?_)
            rintro e w109 ⟨hb109, v108, rfl, hv108⟩
            have B110 := Lib.hid hb109
            have z110 := B110.out.size
            have HB111 := Lib.hid (HB106.out.trans (B110.out.mono HB106.out.size))
            clear hb109
            have P1_21_112 := Lib.hid (P1_20_107.out.trans (B110.out.mono P1_20_107.out.size))
            refine hK _ _ (fun _ => KS1 _ P1_21_112.out) ?_; clear hK K
            (try simp only [Act.put, List.setIfInBounds_toArray, List.set_cons_zero, List.set_cons_succ])
            have Ho108_113 := Lib.hid hv108; clear hv108
            refine Early.nextw (i := 44) (by kernel_rfl) rfl (by rfl) (fun K hK => ?_)
            go_simp
            (with_reducible refine (QNear_lit Ho108_113.out (lit_QL (x := (-9223372036854775809)) (d := 2) (by decide) (by decide +kernel) (by decide +kernel) (by decide +kernel)) (s := 1) (r := ((-4611686018427387904), 0)) (by decide +kernel) (G.step HB111.out)).mono ?_)
            rintro e w115 ⟨hb115, rfl⟩
            have B116 := Lib.hid hb115
            have z116 := B116.out.size
            have HB117 := Lib.hid (HB111.out.trans (B116.out.mono HB111.out.size))
            clear hb115
            have P1_22_118 := Lib.hid (P1_21_112.out.trans (B116.out.mono P1_21_112.out.size))
            refine hK _ _ (fun _ => KS1 _ P1_22_118.out) ?_; clear hK K
            (try simp only [Act.put, List.setIfInBounds_toArray, List.set_cons_zero, List.set_cons_succ])
            refine Early.take (i := 45) (.int .i64 (-4611686018427387904)) rfl (by kernel_rfl) (by kernel_rfl) (by kernel_rfl) (by kernel_rfl) (by kernel_rfl) (fun c a w h => hQ c a _ _ w h) (Or.inl ⟨by rfl, ?_⟩) ?_ ?_
            · intro w' _; go_simp
            · exact KS1 _ (P1_22_118.out)
            (try simp only [Act.put, List.setIfInBounds_toArray, List.set_cons_zero, List.set_cons_succ])
            refine Early.take (i := 46) (.int .i64 0) rfl (by kernel_rfl) (by kernel_rfl) (by kernel_rfl) (by kernel_rfl) (by kernel_rfl) (fun c a w h => hQ c a _ _ w h) (Or.inl ⟨by rfl, ?_⟩) ?_ ?_
            · intro w' _; go_simp
            · exact KS1 _ (P1_22_118.out)
            (try simp only [Act.put, List.setIfInBounds_toArray, List.set_cons_zero, List.set_cons_succ])
            refine Early.nextw (i := 47) (by kernel_rfl) rfl (by rfl) (fun K hK => ?_)
            go_simp
            have P20_22_120 := Lib.hid (B110.out.trans (B116.out.mono B110.out.size))
            have LN_119 := One.step hN103 P20_22_120.out
            (with_reducible refine (saysQ_yes LN_119).mono ?_)
            rintro e w121 ⟨hb121, rfl⟩
            have B122 := Lib.hid hb121
            have z122 := B122.out.size
            have HB123 := Lib.hid (HB117.out.trans (B122.out.mono HB117.out.size))
            clear hb121
            have P1_23_124 := Lib.hid (P1_22_118.out.trans (B122.out.mono P1_22_118.out.size))
            refine hK _ _ (fun _ => KS1 _ P1_23_124.out) ?_; clear hK K
            (try simp only [Act.put, List.setIfInBounds_toArray, List.set_cons_zero, List.set_cons_succ])
            clear LN_119
            as_aux_lemma =>
              refine Early.take (i := 48) (.bool true) rfl (by kernel_rfl) (by kernel_rfl) (by kernel_rfl) (by kernel_rfl) (by kernel_rfl) (fun c a w h => hQ c a _ _ w h) (Or.inl ⟨by rfl, ?_⟩) ?_ ?_
              · intro w' _; go_simp
              · exact KS1 _ (P1_23_124.out)
              (try simp only [Act.put, List.setIfInBounds_toArray, List.set_cons_zero, List.set_cons_succ])
              refine Early.take (i := 49) (.bool true) rfl (by kernel_rfl) (by kernel_rfl) (by kernel_rfl) (by kernel_rfl) (by kernel_rfl) (fun c a w h => hQ c a _ _ w h) (Or.inl ⟨by rfl, ?_⟩) ?_ ?_
              · intro w' _; go_simp
              · exact KS1 _ (P1_23_124.out)
              (try simp only [Act.put, List.setIfInBounds_toArray, List.set_cons_zero, List.set_cons_succ])
              refine Early.nextw (i := 50) (by kernel_rfl) rfl (by rfl) (fun K hK => ?_)
              go_simp
              (with_reducible refine (saysQ_new _ (-7)).mono ?_)
              rintro e w126 ⟨hb126, N125, rfl, hN125⟩
              have B127 := Lib.hid hb126
              have z127 := B127.out.size
              have HB128 := Lib.hid (HB123.out.trans (B127.out.mono HB123.out.size))
              clear hb126
              have P1_24_129 := Lib.hid (P1_23_124.out.trans (B127.out.mono P1_23_124.out.size))
              refine hK _ _ (fun _ => KS1 _ P1_24_129.out) ?_; clear hK K
              (try simp only [Act.put, List.setIfInBounds_toArray, List.set_cons_zero, List.set_cons_succ])
              refine Early.nextw (i := 51) (by kernel_rfl) rfl (by rfl) (fun K hK => ?_)
              go_simp
              (with_reducible refine (ofQ_lit _ ⟨#[45, 49, 53, 47, 50]⟩ (mkRat (-15) 2) plit_45_49_53_47_50 (by decide +kernel) (M.step HB128.out)).mono ?_)
              rintro e w131 ⟨hb131, v130, rfl, hv130⟩
              have B132 := Lib.hid hb131
              have z132 := B132.out.size
              have HB133 := Lib.hid (HB128.out.trans (B132.out.mono HB128.out.size))
              clear hb131
              have P1_25_134 := Lib.hid (P1_24_129.out.trans (B132.out.mono P1_24_129.out.size))
              refine hK _ _ (fun _ => KS1 _ P1_25_134.out) ?_; clear hK K
              (try simp only [Act.put, List.setIfInBounds_toArray, List.set_cons_zero, List.set_cons_succ])
              have Ho130_135 := Lib.hid hv130; clear hv130
              refine Early.nextw (i := 52) (by kernel_rfl) rfl (by rfl) (fun K hK => ?_)
              go_simp
              (with_reducible refine (QNear_lit Ho130_135.out (lit_QL (x := (-15)) (d := 2) (by decide) (by decide +kernel) (by decide +kernel) (by decide +kernel)) (s := 1) (r := ((-7), 0)) (by decide +kernel) (G.step HB133.out)).mono ?_)
              rintro e w137 ⟨hb137, rfl⟩
              have B138 := Lib.hid hb137
              have z138 := B138.out.size
              have HB139 := Lib.hid (HB133.out.trans (B138.out.mono HB133.out.size))
              clear hb137
              have P1_26_140 := Lib.hid (P1_25_134.out.trans (B138.out.mono P1_25_134.out.size))
              refine hK _ _ (fun _ => KS1 _ P1_26_140.out) ?_; clear hK K
              (try simp only [Act.put, List.setIfInBounds_toArray, List.set_cons_zero, List.set_cons_succ])
              refine Early.take (i := 53) (.int .i64 (-7)) rfl (by kernel_rfl) (by kernel_rfl) (by kernel_rfl) (by kernel_rfl) (by kernel_rfl) (fun c a w h => hQ c a _ _ w h) (Or.inl ⟨by rfl, ?_⟩) ?_ ?_
              · intro w' _; go_simp
              · exact KS1 _ (P1_26_140.out)
              (try simp only [Act.put, List.setIfInBounds_toArray, List.set_cons_zero, List.set_cons_succ])
              refine Early.take (i := 54) (.int .i64 0) rfl (by kernel_rfl) (by kernel_rfl) (by kernel_rfl) (by kernel_rfl) (by kernel_rfl) (fun c a w h => hQ c a _ _ w h) (Or.inl ⟨by rfl, ?_⟩) ?_ ?_
              · intro w' _; go_simp
              · exact KS1 _ (P1_26_140.out)
              (try simp only [Act.put, List.setIfInBounds_toArray, List.set_cons_zero, List.set_cons_succ])
              refine Early.nextw (i := 55) (by kernel_rfl) rfl (by rfl) (fun K hK => ?_)
              go_simp
              have P24_26_142 := Lib.hid (B132.out.trans (B138.out.mono B132.out.size))
              have LN_141 := One.step hN125 P24_26_142.out
              (with_reducible refine (saysQ_yes LN_141).mono ?_)
              rintro e w143 ⟨hb143, rfl⟩
              have B144 := Lib.hid hb143
              have z144 := B144.out.size
              have HB145 := Lib.hid (HB139.out.trans (B144.out.mono HB139.out.size))
              clear hb143
              have P1_27_146 := Lib.hid (P1_26_140.out.trans (B144.out.mono P1_26_140.out.size))
              refine hK _ _ (fun _ => KS1 _ P1_27_146.out) ?_; clear hK K
              (try simp only [Act.put, List.setIfInBounds_toArray, List.set_cons_zero, List.set_cons_succ])
              clear LN_141
              as_aux_lemma =>
                refine Early.take (i := 56) (.bool true) rfl (by kernel_rfl) (by kernel_rfl) (by kernel_rfl) (by kernel_rfl) (by kernel_rfl) (fun c a w h => hQ c a _ _ w h) (Or.inl ⟨by rfl, ?_⟩) ?_ ?_
                · intro w' _; go_simp
                · exact KS1 _ (P1_27_146.out)
                (try simp only [Act.put, List.setIfInBounds_toArray, List.set_cons_zero, List.set_cons_succ])
                refine Early.take (i := 57) (.bool true) rfl (by kernel_rfl) (by kernel_rfl) (by kernel_rfl) (by kernel_rfl) (by kernel_rfl) (fun c a w h => hQ c a _ _ w h) (Or.inl ⟨by rfl, ?_⟩) ?_ ?_
                · intro w' _; go_simp
                · exact KS1 _ (P1_27_146.out)
                (try simp only [Act.put, List.setIfInBounds_toArray, List.set_cons_zero, List.set_cons_succ])
                refine Early.nextw (i := 58) (by kernel_rfl) rfl (by rfl) (fun K hK => ?_)
                go_simp
                (with_reducible refine (saysQ_new _ 0).mono ?_)
                rintro e w148 ⟨hb148, N147, rfl, hN147⟩
                have B149 := Lib.hid hb148
                have z149 := B149.out.size
                have HB150 := Lib.hid (HB145.out.trans (B149.out.mono HB145.out.size))
                clear hb148
                have P1_28_151 := Lib.hid (P1_27_146.out.trans (B149.out.mono P1_27_146.out.size))
                refine hK _ _ (fun _ => KS1 _ P1_28_151.out) ?_; clear hK K
                (try simp only [Act.put, List.setIfInBounds_toArray, List.set_cons_zero, List.set_cons_succ])
                refine Early.nextw (i := 59) (by kernel_rfl) rfl (by rfl) (fun K hK => ?_)
                go_simp
                (with_reducible refine (ofQ_lit _ ⟨#[48]⟩ (mkRat 0 1) plit_48 (by decide +kernel) (M.step HB150.out)).mono ?_)
                rintro e w153 ⟨hb153, v152, rfl, hv152⟩
                have B154 := Lib.hid hb153
                have z154 := B154.out.size
                have HB155 := Lib.hid (HB150.out.trans (B154.out.mono HB150.out.size))
                clear hb153
                have P1_29_156 := Lib.hid (P1_28_151.out.trans (B154.out.mono P1_28_151.out.size))
                refine hK _ _ (fun _ => KS1 _ P1_29_156.out) ?_; clear hK K
                (try simp only [Act.put, List.setIfInBounds_toArray, List.set_cons_zero, List.set_cons_succ])
                have Ho152_157 := Lib.hid hv152; clear hv152
                refine Early.nextw (i := 60) (by kernel_rfl) rfl (by rfl) (fun K hK => ?_)
                go_simp
                (with_reducible refine (QSign_lit (s := 0) (mkRat 0 1) Ho152_157.out (lit_QL (x := 0) (d := 1) (by decide) (by decide +kernel) (by decide +kernel) (by decide +kernel)) (by decide +kernel)).mono ?_)
                rintro e w159 ⟨hb159, rfl⟩
                have B160 := Lib.hid hb159
                have z160 := B160.out.size
                have HB161 := Lib.hid (HB155.out.trans (B160.out.mono HB155.out.size))
                clear hb159
                have P1_30_162 := Lib.hid (P1_29_156.out.trans (B160.out.mono P1_29_156.out.size))
                refine hK _ _ (fun _ => KS1 _ P1_30_162.out) ?_; clear hK K
                (try simp only [Act.put, List.setIfInBounds_toArray, List.set_cons_zero, List.set_cons_succ])
                refine Early.take (i := 61) (.int .i64 0) rfl (by kernel_rfl) (by kernel_rfl) (by kernel_rfl) (by kernel_rfl) (by kernel_rfl) (fun c a w h => hQ c a _ _ w h) (Or.inl ⟨by rfl, ?_⟩) ?_ ?_
                · intro w' _; go_simp
                · exact KS1 _ (P1_30_162.out)
                (try simp only [Act.put, List.setIfInBounds_toArray, List.set_cons_zero, List.set_cons_succ])
                refine Early.take (i := 62) (.int .i64 0) rfl (by kernel_rfl) (by kernel_rfl) (by kernel_rfl) (by kernel_rfl) (by kernel_rfl) (fun c a w h => hQ c a _ _ w h) (Or.inl ⟨by rfl, ?_⟩) ?_ ?_
                · intro w' _; go_simp
                · exact KS1 _ (P1_30_162.out)
                (try simp only [Act.put, List.setIfInBounds_toArray, List.set_cons_zero, List.set_cons_succ])
                refine Early.nextw (i := 63) (by kernel_rfl) rfl (by rfl) (fun K hK => ?_)
                go_simp
                have P28_30_164 := Lib.hid (B154.out.trans (B160.out.mono B154.out.size))
                have LN_163 := One.step hN147 P28_30_164.out
                (with_reducible refine (saysQ_yes LN_163).mono ?_)
                rintro e w165 ⟨hb165, rfl⟩
                have B166 := Lib.hid hb165
                have z166 := B166.out.size
                have HB167 := Lib.hid (HB161.out.trans (B166.out.mono HB161.out.size))
                clear hb165
                have P1_31_168 := Lib.hid (P1_30_162.out.trans (B166.out.mono P1_30_162.out.size))
                refine hK _ _ (fun _ => KS1 _ P1_31_168.out) ?_; clear hK K
                (try simp only [Act.put, List.setIfInBounds_toArray, List.set_cons_zero, List.set_cons_succ])
                clear LN_163
                as_aux_lemma =>
                  refine Early.take (i := 64) (.bool true) rfl (by kernel_rfl) (by kernel_rfl) (by kernel_rfl) (by kernel_rfl) (by kernel_rfl) (fun c a w h => hQ c a _ _ w h) (Or.inl ⟨by rfl, ?_⟩) ?_ ?_
                  · intro w' _; go_simp
                  · exact KS1 _ (P1_31_168.out)
                  (try simp only [Act.put, List.setIfInBounds_toArray, List.set_cons_zero, List.set_cons_succ])
                  refine Early.take (i := 65) (.bool true) rfl (by kernel_rfl) (by kernel_rfl) (by kernel_rfl) (by kernel_rfl) (by kernel_rfl) (fun c a w h => hQ c a _ _ w h) (Or.inl ⟨by rfl, ?_⟩) ?_ ?_
                  · intro w' _; go_simp
                  · exact KS1 _ (P1_31_168.out)
                  (try simp only [Act.put, List.setIfInBounds_toArray, List.set_cons_zero, List.set_cons_succ])
                  refine Early.take (i := 67) (.agg #[a0, a1, a2, a3]) rfl (by kernel_rfl) (by kernel_rfl) (by kernel_rfl) (by kernel_rfl) (by kernel_rfl) (fun c a w h => hQ c a _ _ w h) (Or.inl ⟨by rfl, ?_⟩) ?_ ?_
                  · intro w' hSw; obtain ⟨-, t0, t1, t2, t3, t4, t5, t6, t7, t8, t9, t10, t11⟩ := hSw; go_simp
                  · exact KS1 _ (P1_31_168.out)
                  (try simp only [Act.put, List.setIfInBounds_toArray, List.set_cons_zero, List.set_cons_succ])
                  refine Early.take (i := 68) (.agg #[c0, c1, c2, c3]) rfl (by kernel_rfl) (by kernel_rfl) (by kernel_rfl) (by kernel_rfl) (by kernel_rfl) (fun c a w h => hQ c a _ _ w h) (Or.inl ⟨by rfl, ?_⟩) ?_ ?_
                  · intro w' hSw; obtain ⟨-, t0, t1, t2, t3, t4, t5, t6, t7, t8, t9, t10, t11⟩ := hSw; go_simp
                  · exact KS1 _ (P1_31_168.out)
                  (try simp only [Act.put, List.setIfInBounds_toArray, List.set_cons_zero, List.set_cons_succ])
                  refine Early.nextw (i := 66) (by kernel_rfl) rfl (by rfl) (fun K hK => ?_)
                  go_simp
                  (with_reducible refine (saysQ_new _ 1).mono ?_)
                  rintro e w170 ⟨hb170, N169, rfl, hN169⟩
                  have B171 := Lib.hid hb170
                  have z171 := B171.out.size
                  have HB172 := Lib.hid (HB167.out.trans (B171.out.mono HB167.out.size))
                  clear hb170
                  have P1_32_173 := Lib.hid (P1_31_168.out.trans (B171.out.mono P1_31_168.out.size))
                  refine hK _ _ (fun _ => KS1 _ P1_32_173.out) ?_; clear hK K
                  (try simp only [Act.put, List.setIfInBounds_toArray, List.set_cons_zero, List.set_cons_succ])
                  refine Early.nextw (i := 69) (by kernel_rfl) rfl (by rfl) (fun K hK => ?_)
                  go_simp
                  have Hmost_175 := Lib.hid (QV.step Hm0.out P1_32_173.out)
                  have P9_11_176 := Lib.hid (B51.out.trans (B56.out.mono B51.out.size))
                  have P9_12_177 := Lib.hid (P9_11_176.out.trans (B61.out.mono P9_11_176.out.size))
                  have P9_13_178 := Lib.hid (P9_12_177.out.trans (B66.out.mono P9_12_177.out.size))
                  have P9_14_179 := Lib.hid (P9_13_178.out.trans (B72.out.mono P9_13_178.out.size))
                  have P9_15_180 := Lib.hid (P9_14_179.out.trans (B78.out.mono P9_14_179.out.size))
                  have P9_16_181 := Lib.hid (P9_15_180.out.trans (B83.out.mono P9_15_180.out.size))
                  have P9_17_182 := Lib.hid (P9_16_181.out.trans (B88.out.mono P9_16_181.out.size))
                  have P9_18_183 := Lib.hid (P9_17_182.out.trans (B94.out.mono P9_17_182.out.size))
                  have P9_19_184 := Lib.hid (P9_18_183.out.trans (B100.out.mono P9_18_183.out.size))
                  have P9_20_185 := Lib.hid (P9_19_184.out.trans (B105.out.mono P9_19_184.out.size))
                  have P9_21_186 := Lib.hid (P9_20_185.out.trans (B110.out.mono P9_20_185.out.size))
                  have P9_22_187 := Lib.hid (P9_21_186.out.trans (B116.out.mono P9_21_186.out.size))
                  have P9_23_188 := Lib.hid (P9_22_187.out.trans (B122.out.mono P9_22_187.out.size))
                  have P9_24_189 := Lib.hid (P9_23_188.out.trans (B127.out.mono P9_23_188.out.size))
                  have P9_25_190 := Lib.hid (P9_24_189.out.trans (B132.out.mono P9_24_189.out.size))
                  have P9_26_191 := Lib.hid (P9_25_190.out.trans (B138.out.mono P9_25_190.out.size))
                  have P9_27_192 := Lib.hid (P9_26_191.out.trans (B144.out.mono P9_26_191.out.size))
                  have P9_28_193 := Lib.hid (P9_27_192.out.trans (B149.out.mono P9_27_192.out.size))
                  have P9_29_194 := Lib.hid (P9_28_193.out.trans (B154.out.mono P9_28_193.out.size))
                  have P9_30_195 := Lib.hid (P9_29_194.out.trans (B160.out.mono P9_29_194.out.size))
                  have P9_31_196 := Lib.hid (P9_30_195.out.trans (B166.out.mono P9_30_195.out.size))
                  have P9_32_197 := Lib.hid (P9_31_196.out.trans (B171.out.mono P9_31_196.out.size))
                  have Hleast_198 := Lib.hid (QV.step Hleast_49.out P9_32_197.out)
                  (with_reducible refine (QCmp_isK Hmost_175.out Hleast_198.out HM.out.lm HM.out.ll HM.out.cmp).mono ?_)
                  rintro e w199 ⟨hb199, rfl⟩
                  have B200 := Lib.hid hb199
                  have z200 := B200.out.size
                  have HB201 := Lib.hid (HB172.out.trans (B200.out.mono HB172.out.size))
                  clear hb199
                  have P1_33_202 := Lib.hid (P1_32_173.out.trans (B200.out.mono P1_32_173.out.size))
                  refine hK _ _ (fun _ => KS1 _ P1_33_202.out) ?_; clear hK K
                  (try simp only [Act.put, List.setIfInBounds_toArray, List.set_cons_zero, List.set_cons_succ])
                  refine Early.take (i := 70) (.int .i64 1) rfl (by kernel_rfl) (by kernel_rfl) (by kernel_rfl) (by kernel_rfl) (by kernel_rfl) (fun c a w h => hQ c a _ _ w h) (Or.inl ⟨by rfl, ?_⟩) ?_ ?_
                  · intro w' _; go_simp
                  · exact KS1 _ (P1_33_202.out)
                  (try simp only [Act.put, List.setIfInBounds_toArray, List.set_cons_zero, List.set_cons_succ])
                  refine Early.take (i := 71) (.int .i64 0) rfl (by kernel_rfl) (by kernel_rfl) (by kernel_rfl) (by kernel_rfl) (by kernel_rfl) (fun c a w h => hQ c a _ _ w h) (Or.inl ⟨by rfl, ?_⟩) ?_ ?_
                  · intro w' _; go_simp
                  · exact KS1 _ (P1_33_202.out)
                  (try simp only [Act.put, List.setIfInBounds_toArray, List.set_cons_zero, List.set_cons_succ])
                  refine Early.nextw (i := 72) (by kernel_rfl) rfl (by rfl) (fun K hK => ?_)
                  go_simp
                  have LN_203 := One.step hN169 B200.out
                  (with_reducible refine (saysQ_yes LN_203).mono ?_)
                  rintro e w204 ⟨hb204, rfl⟩
                  have B205 := Lib.hid hb204
                  have z205 := B205.out.size
                  have HB206 := Lib.hid (HB201.out.trans (B205.out.mono HB201.out.size))
                  clear hb204
                  have P1_34_207 := Lib.hid (P1_33_202.out.trans (B205.out.mono P1_33_202.out.size))
                  refine hK _ _ (fun _ => KS1 _ P1_34_207.out) ?_; clear hK K
                  (try simp only [Act.put, List.setIfInBounds_toArray, List.set_cons_zero, List.set_cons_succ])
                  clear LN_203
                  as_aux_lemma =>
                    refine Early.take (i := 73) (.bool true) rfl (by kernel_rfl) (by kernel_rfl) (by kernel_rfl) (by kernel_rfl) (by kernel_rfl) (fun c a w h => hQ c a _ _ w h) (Or.inl ⟨by rfl, ?_⟩) ?_ ?_
                    · intro w' _; go_simp
                    · exact KS1 _ (P1_34_207.out)
                    (try simp only [Act.put, List.setIfInBounds_toArray, List.set_cons_zero, List.set_cons_succ])
                    refine Early.take (i := 74) (.bool true) rfl (by kernel_rfl) (by kernel_rfl) (by kernel_rfl) (by kernel_rfl) (by kernel_rfl) (fun c a w h => hQ c a _ _ w h) (Or.inl ⟨by rfl, ?_⟩) ?_ ?_
                    · intro w' _; go_simp
                    · exact KS1 _ (P1_34_207.out)
                    (try simp only [Act.put, List.setIfInBounds_toArray, List.set_cons_zero, List.set_cons_succ])
                    refine Early.done (by kernel_rfl) ?_ _; (try simp only [Exit.then])
                    clear KS1
                    have Lmost_208 := CB.step Lm0 P1_34_207.out
                    have P32_34_209 := Lib.hid (B200.out.trans (B205.out.mono B200.out.size))
                    have Hmost_210 := Lib.hid (QV.step Hmost_175.out P32_34_209.out)
                    have Lleast_211 := CB.step Ll0 P1_34_207.out
                    have Hleast_212 := Lib.hid (QV.step Hleast_198.out P32_34_209.out)
                    have Lbad_213 := CB.step Lb0 P1_34_207.out
                    have Hbad_214 := Lib.hid (QR.step Hb0.out P1_34_207.out)
                    exact hK.out _ _ _ _ _ _ _ _ _ _ _ _ _ _ _ _ _ _ _ _ _ _ _ _ _ _ _ _ _ _ _ _ _ _ _ _ _ _ _ _ _ _ _ _ _ _ _ _ _ _ _ _ _ _ _ _ _ _ _ _ _ _ _ _ _ _ _ _ _ _ _ _ _ _ _ HB206 Lmost_208 Hmost_210 Lleast_211 Hleast_212 Lbad_213 Hbad_214
end Go.Proofs.YtngpibfakemmhaaGreatDoor
