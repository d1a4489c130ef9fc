/- The law QuotKnown's region 8 (written by its generator). -/
import Derived.Test.YtngpibfakemmhaaGreatDoorQKnL
import Derived.Test.YtngpibfakemmhaaGreatDoorEarlyW
namespace Go.Proofs.YtngpibfakemmhaaGreatDoor
open Go Go.RowKit Dig
set_option linter.unusedSimpArgs false in
set_option linter.unusedVariables false in
set_option maxRecDepth 100000 in
set_option maxHeartbeats 16000000 in
theorem qkn_r8 {w wc : World} (G : Glob w) (M : MaxL w) {T : Nat} {ns : List UInt8} {NB LB : ByteArray} {bm bl bb : Nat} {a0 a1 a2 a3 c0 c1 c2 c3 d0 d1 d2 d3 : Value} {n1 n2 : Bool} {l1 l2 : List Int}
    (HM : Hid (MostQ T ns)) (HNB : Hid (NB.data.toList = ns)) (HNZ : Hid (NB.size = 5400)) (HLB : Hid ((⟨#[49, 47]⟩ : ByteArray) ++ NB = LB)) (HLD : Hid (LB.data.toList = [49] ++ 47 :: ns)) (HBQ : Hid (qOf n1 l1 n2 l2 = none))
    {K : Act → World → Prop} {Q : Exit → Act → World → Prop} (hQ : ∀ c a d v w, Q (.panic c) (Act.put a d v) w → Q (.panic c) a w) {u0 u6 u7 u8 u9 u10 u11 u12 u13 u14 u15 u16 u17 u18 u19 u20 u21 u22 u23 u24 u25 u26 u27 u28 u29 u30 u31 u32 u33 u34 u35 u36 u37 u38 u39 u40 u41 u42 u43 u44 u45 u46 u47 u48 u49 u50 u51 u52 u53 u54 u55 u56 u57 u58 u59 u60 u61 u62 u63 u64 u65 u66 u67 u68 u69 u70 u71 u72 u73 u74 u75 u76 u77 u78 u79 u80 u81 u82 u83 u84 u85 u86 u87 u88 u89 u90 u91 u92 u93 u94 u95 u96 u97 u98 u99 u100 u101 u102 u103 u104 u105 u106 u107 u108 u109 u110 u111 u112 u113 u114 u115 u116 u117 u118 u119 u120 u121 u122 u123 u124 u125 u126 u127 u128 u129 u130 u131 u132 u133 u134 u135 u136 u137 u138 u139 u140 u141 u142 u143 u144 u145 u146 u147 u148 u149 u150 u151 u152 u153 u154 u155 u156 u157 u158 u159 u160 u161 u162 u163 u164 u165 u166 u167 u168 u169 u170 u171 u172 u173 u174 u175 u176 u177 u178 u179 u180 u181 u182 u183 u184 u185 u186 u187 u188 u189 u190 u191 u192 u193 u194 u195 u196 u197 u198 u199 u200 u201 u202 u203 u204 u205 u206 u207 u208 u209 u210 u211 u212 u213 u214 u215 u216 u217 u218 u219 u220 u221 u222 u223 u224 u225 u226 u227 u228 u229 u230 u231 u232 u233 u234 u235 u236 u237 u238 u239 u240 u241 u242 u243 u244 u245 u246 u247 u248 u249 u250 u251 u252 u253 u254 u255 u256 u257 u258 u259 u260 u261 u262 u263 u264 u265 u266 u267 u268 u269 u270 u271 u272 u273 u274 u275 u276 u277 u278 u279 u280 u281 u282 u283 u284 u285 u286 u287 u288 u289 u290 u291 u292 u293 u294 u295 u296 u297 u298 u299 u300 u301 u302 u303 u304 u305 u306 u307 u308 u309 u310 u311 u312 u313 u314 u315 u316 u317 u318 u319 u320 u321 u322 u323 u324 u325 u326 u327 u328 u329 u330 u331 u332 u333 u334 u335 u336 u337 u338 u339 u340 u341 u342 u343 u344 u345 u346 u347 u348 u349 u350 u351 u352 u353 u354 u355 u356 u357 u358 u359 u360 u361 u362 u363 u364 u365 u366 u367 u368 u369 u370 u371 u372 u373 u374 u375 u376 u377 u378 u379 u380 u381 u382 u383 u384 u385 u386 u387 u388 u389 u390 u391 u392 u393 u394 u395 u396 u397 u398 u399 u400 u401 u402 u403 u404 u405 u406 u407 u408 u409 u410 u411 u412 u413 u414 u415 u416 u417 u418 u419 u420 u421 u422 u423 u424 u425 u426 u427 u428 u429 u430 u431 u432 u433 u434 u435 u436 u437 u438 u439 u440 u441 u442 u443 u444 u445 u446 u447 u448 u449 u450 u451 u452 u453 u454 u455 u456 u457 u458 u459 u460 u461 u462 u463 u464 u465 u466 u467 u468 u469 u470 u471 u472 u473 : Value} (HB0 : Hid (Below w.heap.size w wc)) (Lm0 : CB wc bm 28 #[a0, a1, a2, a3]) (Hm0 : Hid (QV wc wc.heap.size (.agg #[a0, a1, a2, a3]) (mkRat (T : Int) 1))) (Ll0 : CB wc bl 28 #[c0, c1, c2, c3]) (Hl0 : Hid (QV wc wc.heap.size (.agg #[c0, c1, c2, c3]) (mkRat 1 T))) (Lb0 : CB wc bb 28 #[d0, d1, d2, d3]) (Hb0 : Hid (QR wc wc.heap.size (.agg #[d0, d1, d2, d3]) n1 l1 n2 l2))
    (hK : ∀ (x160 x161 x162 x163 x164 x165 x166 x167 x168 x169 x170 x171 x172 x173 x174 x175 x176 x177 x178 x179 x180 x181 x182 x183 x184 x185 x186 x187 x188 x189 x190 x191 x192 x193 x194 x195 x196 x197 x198 x199 x200 x201 x202 x203 x204 x205 x206 x207 x208 x209 x210 x211 x212 x213 x214 x215 x216 x217 x218 x219 x220 x221 x222 x223 x224 x225 x226 x227 x228 x229 x230 x231 x232 x233 x234 x235 x236 x237 x238 x239 x240 x241 x242 x243 x244 x245 x246 x247 x248 x249 x250 x251 x252 : Value) (wx : World), Hid (Below w.heap.size w wx) → CB wx bm 28 #[a0, a1, a2, a3] → Hid (QV wx wx.heap.size (.agg #[a0, a1, a2, a3]) (mkRat (T : Int) 1)) → CB wx bl 28 #[c0, c1, c2, c3] → Hid (QV wx wx.heap.size (.agg #[c0, c1, c2, c3]) (mkRat 1 T)) → CB wx bb 28 #[d0, d1, d2, d3] → Hid (QR wx wx.heap.size (.agg #[d0, d1, d2, d3]) n1 l1 n2 l2) → K ⟨#[u0, .string NB, .pointer (some ⟨bm, 0, none⟩), .pointer (some ⟨bl, 0, none⟩), .pointer (some ⟨bb, 0, none⟩), .bool true, u6, u7, u8, u9, u10, u11, u12, u13, u14, u15, u16, u17, u18, u19, u20, u21, u22, u23, u24, u25, u26, u27, u28, u29, u30, u31, u32, u33, u34, u35, u36, u37, u38, u39, u40, u41, u42, u43, u44, u45, u46, u47, u48, u49, u50, u51, u52, u53, u54, u55, u56, u57, u58, u59, u60, u61, u62, u63, u64, u65, u66, u67, u68, u69, u70, u71, u72, u73, u74, u75, u76, u77, u78, u79, u80, u81, u82, u83, u84, u85, u86, u87, u88, u89, u90, u91, u92, u93, u94, u95, u96, u97, u98, u99, u100, u101, u102, u103, u104, u105, u106, u107, u108, u109, u110, u111, u112, u113, u114, u115, u116, u117, u118, u119, u120, u121, u122, u123, u124, u125, u126, u127, u128, u129, u130, u131, u132, u133, u134, u135, u136, u137, u138, u139, u140, u141, u142, u143, u144, u145, u146, u147, u148, u149, u150, u151, u152, u153, u154, u155, u156, u157, u158, u159, x160, x161, x162, x163, x164, x165, x166, x167, x168, x169, x170, x171, x172, x173, x174, x175, x176, x177, x178, x179, x180, x181, x182, x183, x184, x185, x186, x187, x188, x189, x190, x191, x192, x193, x194, x195, x196, x197, x198, x199, x200, x201, x202, x203, x204, x205, x206, x207, x208, x209, x210, x211, x212, x213, x214, x215, x216, x217, x218, x219, x220, x221, x222, x223, x224, x225, x226, x227, x228, x229, x230, x231, x232, x233, x234, x235, x236, x237, x238, x239, x240, x241, x242, x243, x244, x245, x246, x247, x248, x249, x250, x251, x252, u253, u254, u255, u256, u257, u258, u259, u260, u261, u262, u263, u264, u265, u266, u267, u268, u269, u270, u271, u272, u273, u274, u275, u276, u277, u278, u279, u280, u281, u282, u283, u284, u285, u286, u287, u288, u289, u290, u291, u292, u293, u294, u295, u296, u297, u298, u299, u300, u301, u302, u303, u304, u305, u306, u307, u308, u309, u310, u311, u312, u313, u314, u315, u316, u317, u318, u319, u320, u321, u322, u323, u324, u325, u326, u327, u328, u329, u330, u331, u332, u333, u334, u335, u336, u337, u338, u339, u340, u341, u342, u343, u344, u345, u346, u347, u348, u349, u350, u351, u352, u353, u354, u355, u356, u357, u358, u359, u360, u361, u362, u363, u364, u365, u366, u367, u368, u369, u370, u371, u372, u373, u374, u375, u376, u377, u378, u379, u380, u381, u382, u383, u384, u385, u386, u387, u388, u389, u390, u391, u392, u393, u394, u395, u396, u397, u398, u399, u400, u401, u402, u403, u404, u405, u406, u407, u408, u409, u410, u411, u412, u413, u414, u415, u416, u417, u418, u419, u420, u421, u422, u423, u424, u425, u426, u427, u428, u429, u430, u431, u432, u433, u434, u435, u436, u437, u438, u439, u440, u441, u442, u443, u444, u445, u446, u447, u448, u449, u450, u451, u452, u453, u454, u455, u456, u457, u458, u459, u460, u461, u462, u463, u464, u465, u466, u467, u468, u469, u470, u471, u472, u473], []⟩ wx) :
    Code.wp Tryz.prog (kn_fst (kn_snd (kn_snd (kn_snd (kn_snd (kn_snd (kn_snd (kn_snd (Tryz.f3.body.getD .skip))))))))) (Exit.then K Q) ⟨#[u0, .string NB, .pointer (some ⟨bm, 0, none⟩), .pointer (some ⟨bl, 0, none⟩), .pointer (some ⟨bb, 0, none⟩), .bool true, u6, u7, u8, u9, u10, u11, u12, u13, u14, u15, u16, u17, u18, u19, u20, u21, u22, u23, u24, u25, u26, u27, u28, u29, u30, u31, u32, u33, u34, u35, u36, u37, u38, u39, u40, u41, u42, u43, u44, u45, u46, u47, u48, u49, u50, u51, u52, u53, u54, u55, u56, u57, u58, u59, u60, u61, u62, u63, u64, u65, u66, u67, u68, u69, u70, u71, u72, u73, u74, u75, u76, u77, u78, u79, u80, u81, u82, u83, u84, u85, u86, u87, u88, u89, u90, u91, u92, u93, u94, u95, u96, u97, u98, u99, u100, u101, u102, u103, u104, u105, u106, u107, u108, u109, u110, u111, u112, u113, u114, u115, u116, u117, u118, u119, u120, u121, u122, u123, u124, u125, u126, u127, u128, u129, u130, u131, u132, u133, u134, u135, u136, u137, u138, u139, u140, u141, u142, u143, u144, u145, u146, u147, u148, u149, u150, u151, u152, u153, u154, u155, u156, u157, u158, u159, u160, u161, u162, u163, u164, u165, u166, u167, u168, u169, u170, u171, u172, u173, u174, u175, u176, u177, u178, u179, u180, u181, u182, u183, u184, u185, u186, u187, u188, u189, u190, u191, u192, u193, u194, u195, u196, u197, u198, u199, u200, u201, u202, u203, u204, u205, u206, u207, u208, u209, u210, u211, u212, u213, u214, u215, u216, u217, u218, u219, u220, u221, u222, u223, u224, u225, u226, u227, u228, u229, u230, u231, u232, u233, u234, u235, u236, u237, u238, u239, u240, u241, u242, u243, u244, u245, u246, u247, u248, u249, u250, u251, u252, u253, u254, u255, u256, u257, u258, u259, u260, u261, u262, u263, u264, u265, u266, u267, u268, u269, u270, u271, u272, u273, u274, u275, u276, u277, u278, u279, u280, u281, u282, u283, u284, u285, u286, u287, u288, u289, u290, u291, u292, u293, u294, u295, u296, u297, u298, u299, u300, u301, u302, u303, u304, u305, u306, u307, u308, u309, u310, u311, u312, u313, u314, u315, u316, u317, u318, u319, u320, u321, u322, u323, u324, u325, u326, u327, u328, u329, u330, u331, u332, u333, u334, u335, u336, u337, u338, u339, u340, u341, u342, u343, u344, u345, u346, u347, u348, u349, u350, u351, u352, u353, u354, u355, u356, u357, u358, u359, u360, u361, u362, u363, u364, u365, u366, u367, u368, u369, u370, u371, u372, u373, u374, u375, u376, u377, u378, u379, u380, u381, u382, u383, u384, u385, u386, u387, u388, u389, u390, u391, u392, u393, u394, u395, u396, u397, u398, u399, u400, u401, u402, u403, u404, u405, u406, u407, u408, u409, u410, u411, u412, u413, u414, u415, u416, u417, u418, u419, u420, u421, u422, u423, u424, u425, u426, u427, u428, u429, u430, u431, u432, u433, u434, u435, u436, u437, u438, u439, u440, u441, u442, u443, u444, u445, u446, u447, u448, u449, u450, u451, u452, u453, u454, u455, u456, u457, u458, u459, u460, u461, u462, u463, u464, u465, u466, u467, u468, u469, u470, u471, u472, u473], []⟩ wc := by
  replace hK := Lib.hid hK
  have hcat1 : ¬ 9223372036854775807 < 2 + NB.size := by rw [HNZ.out]; omega
  have hlb := HLB.out
  show Code.wp _ (Code.region 8 _ _) _ _ _
  have KS1 : ∀ w' : World, Below wc.heap.size wc w' → (Below wc.heap.size wc w' ∧ w'.cell? ⟨bm, 0, none⟩ = some (a0) ∧ w'.cell? ⟨bm, 1, none⟩ = some (a1) ∧ w'.cell? ⟨bm, 2, none⟩ = some (a2) ∧ w'.cell? ⟨bm, 3, none⟩ = some (a3) ∧ w'.cell? ⟨bl, 0, none⟩ = some (c0) ∧ w'.cell? ⟨bl, 1, none⟩ = some (c1) ∧ w'.cell? ⟨bl, 2, none⟩ = some (c2) ∧ w'.cell? ⟨bl, 3, none⟩ = some (c3) ∧ w'.cell? ⟨bb, 0, none⟩ = some (d0) ∧ w'.cell? ⟨bb, 1, none⟩ = some (d1) ∧ w'.cell? ⟨bb, 2, none⟩ = some (d2) ∧ w'.cell? ⟨bb, 3, none⟩ = some (d3)) := fun w' h => ⟨h, (CB.step Lm0 h).cell 0 rfl, (CB.step Lm0 h).cell 1 rfl, (CB.step Lm0 h).cell 2 rfl, (CB.step Lm0 h).cell 3 rfl, (CB.step Ll0 h).cell 0 rfl, (CB.step Ll0 h).cell 1 rfl, (CB.step Ll0 h).cell 2 rfl, (CB.step Ll0 h).cell 3 rfl, (CB.step Lb0 h).cell 0 rfl, (CB.step Lb0 h).cell 1 rfl, (CB.step Lb0 h).cell 2 rfl, (CB.step Lb0 h).cell 3 rfl⟩
  refine Early.start 94 (fun w' => Below wc.heap.size wc w' ∧ w'.cell? ⟨bm, 0, none⟩ = some (a0) ∧ w'.cell? ⟨bm, 1, none⟩ = some (a1) ∧ w'.cell? ⟨bm, 2, none⟩ = some (a2) ∧ w'.cell? ⟨bm, 3, none⟩ = some (a3) ∧ w'.cell? ⟨bl, 0, none⟩ = some (c0) ∧ w'.cell? ⟨bl, 1, none⟩ = some (c1) ∧ w'.cell? ⟨bl, 2, none⟩ = some (c2) ∧ w'.cell? ⟨bl, 3, none⟩ = some (c3) ∧ w'.cell? ⟨bb, 0, none⟩ = some (d0) ∧ w'.cell? ⟨bb, 1, none⟩ = some (d1) ∧ w'.cell? ⟨bb, 2, none⟩ = some (d2) ∧ w'.cell? ⟨bb, 3, none⟩ = some (d3)) (by kernel_rfl) ?_
  change Early _ _ _ _ _ _ _ #[false, false, false, false, false, false, false, false, false, false, false, false, false, false, false, false, false, false, false, false, false, false, false, false, false, false, false, false, false, false, false, false, false, false, false, false, false, false, false, false, false, false, false, false, false, false, false, false, false, false, false, false, false, false, false, false, false, false, false, false, false, false, false, false, false, false, false, false, false, false, false, false, false, false, false, false, false, false, false, false, false, false, false, false, false, false, false, false, false, false, false, false, false, false] _ _
  refine Early.take (i := 0) (.bool true) rfl (by kernel_rfl) (by kernel_rfl) (by kernel_rfl) (by kernel_rfl) (by kernel_rfl) (fun c a w h => hQ c a _ _ w h) (Or.inl ⟨by rfl, ?_⟩) ?_ ?_
  · intro w' _; go_simp
  · exact KS1 _ (below_drew1 (Below.refl _ _))
  (try simp only [Act.put, List.setIfInBounds_toArray, List.set_cons_zero, List.set_cons_succ])
  refine Early.take (i := 1) (.bool true) rfl (by kernel_rfl) (by kernel_rfl) (by kernel_rfl) (by kernel_rfl) (by kernel_rfl) (fun c a w h => hQ c a _ _ w h) (Or.inl ⟨by rfl, ?_⟩) ?_ ?_
  · intro w' _; go_simp
  · exact KS1 _ (below_drew1 (Below.refl _ _))
  (try simp only [Act.put, List.setIfInBounds_toArray, List.set_cons_zero, List.set_cons_succ])
  refine Early.take (i := 3) (.agg #[d0, d1, d2, d3]) rfl (by kernel_rfl) (by kernel_rfl) (by kernel_rfl) (by kernel_rfl) (by kernel_rfl) (fun c a w h => hQ c a _ _ w h) (Or.inl ⟨by rfl, ?_⟩) ?_ ?_
  · intro w' hSw; obtain ⟨-, t0, t1, t2, t3, t4, t5, t6, t7, t8, t9, t10, t11⟩ := hSw; go_simp
  · exact KS1 _ (below_drew1 (Below.refl _ _))
  (try simp only [Act.put, List.setIfInBounds_toArray, List.set_cons_zero, List.set_cons_succ])
  refine Early.take (i := 4) (.agg #[a0, a1, a2, a3]) rfl (by kernel_rfl) (by kernel_rfl) (by kernel_rfl) (by kernel_rfl) (by kernel_rfl) (fun c a w h => hQ c a _ _ w h) (Or.inl ⟨by rfl, ?_⟩) ?_ ?_
  · intro w' hSw; obtain ⟨-, t0, t1, t2, t3, t4, t5, t6, t7, t8, t9, t10, t11⟩ := hSw; go_simp
  · exact KS1 _ (below_drew1 (Below.refl _ _))
  (try simp only [Act.put, List.setIfInBounds_toArray, List.set_cons_zero, List.set_cons_succ])
  refine Early.nextw (i := 2) (by kernel_rfl) rfl (by rfl) (fun K hK => ?_)
  go_simp
  (with_reducible refine (failsQ_new _ 40).mono ?_)
  rintro e w3 ⟨hb3, N2, rfl, hN2⟩
  replace hb3 := below_undrew hb3
  have B4 := Lib.hid hb3
  have z4 := B4.out.size
  have HB5 := Lib.hid (HB0.out.trans (B4.out.mono HB0.out.size))
  clear hb3
  refine hK _ _ (fun _ => KS1 _ B4.out) ?_; clear hK K
  (try simp only [Act.put, List.setIfInBounds_toArray, List.set_cons_zero, List.set_cons_succ])
  refine Early.nextw (i := 5) (by kernel_rfl) rfl (by rfl) (fun K hK => ?_)
  go_simp
  have Hbad_7 := Lib.hid (QR.step Hb0.out B4.out)
  have Hmost_8 := Lib.hid (QV.step Hm0.out B4.out)
  (with_reducible refine (((QAdd_bad _ _ _ _ _ _ _ _ _ _ _ Hbad_7.out (QV.qr Hmost_8.out) (.inl HBQ.out)).mono fun e w' h => And.intro h.1 (ret_no rfl h.2))).mono ?_)
  rintro e w9 ⟨hb9, v6, rfl, hv6⟩
  have B10 := Lib.hid hb9
  have z10 := B10.out.size
  have HB11 := Lib.hid (HB5.out.trans (B10.out.mono HB5.out.size))
  clear hb9
  have P1_3_12 := Lib.hid (B4.out.trans (B10.out.mono B4.out.size))
  refine hK _ _ (fun _ => KS1 _ P1_3_12.out) ?_; clear hK K
  (try simp only [Act.put, List.setIfInBounds_toArray, List.set_cons_zero, List.set_cons_succ])
  have Hr6_13 := Lib.hid hv6; clear hv6
  refine Early.take (i := 6) (v6) rfl (by kernel_rfl) (by kernel_rfl) (by kernel_rfl) (by kernel_rfl) (by kernel_rfl) (fun c a w h => hQ c a _ _ w h) (Or.inl ⟨by rfl, ?_⟩) ?_ ?_
  · intro w' _; go_simp
  · exact KS1 _ (P1_3_12.out)
  (try simp only [Act.put, List.setIfInBounds_toArray, List.set_cons_zero, List.set_cons_succ])
  refine Early.take (i := 7) (.int .i64 40) rfl (by kernel_rfl) (by kernel_rfl) (by kernel_rfl) (by kernel_rfl) (by kernel_rfl) (fun c a w h => hQ c a _ _ w h) (Or.inl ⟨by rfl, ?_⟩) ?_ ?_
  · intro w' _; go_simp
  · exact KS1 _ (P1_3_12.out)
  (try simp only [Act.put, List.setIfInBounds_toArray, List.set_cons_zero, List.set_cons_succ])
  refine Early.nextw (i := 8) (by kernel_rfl) rfl (by rfl) (fun K hK => ?_)
  go_simp
  have LN_14 := One.step hN2 B10.out
  (with_reducible refine (failsQ_yes LN_14 Hr6_13.out).mono ?_)
  rintro e w15 ⟨hb15, rfl⟩
  have B16 := Lib.hid hb15
  have z16 := B16.out.size
  have HB17 := Lib.hid (HB11.out.trans (B16.out.mono HB11.out.size))
  clear hb15
  have P1_4_18 := Lib.hid (P1_3_12.out.trans (B16.out.mono P1_3_12.out.size))
  refine hK _ _ (fun _ => KS1 _ P1_4_18.out) ?_; clear hK K
  (try simp only [Act.put, List.setIfInBounds_toArray, List.set_cons_zero, List.set_cons_succ])
  clear LN_14
  as_aux_lemma =>
    refine Early.take (i := 9) (.bool true) rfl (by kernel_rfl) (by kernel_rfl) (by kernel_rfl) (by kernel_rfl) (by kernel_rfl) (fun c a w h => hQ c a _ _ w h) (Or.inl ⟨by rfl, ?_⟩) ?_ ?_
    · intro w' _; go_simp
    · exact KS1 _ (P1_4_18.out)
    (try simp only [Act.put, List.setIfInBounds_toArray, List.set_cons_zero, List.set_cons_succ])
    refine Early.take (i := 10) (.bool true) rfl (by kernel_rfl) (by kernel_rfl) (by kernel_rfl) (by kernel_rfl) (by kernel_rfl) (fun c a w h => hQ c a _ _ w h) (Or.inl ⟨by rfl, ?_⟩) ?_ ?_
    · intro w' _; go_simp
    · exact KS1 _ (P1_4_18.out)
    (try simp only [Act.put, List.setIfInBounds_toArray, List.set_cons_zero, List.set_cons_succ])
    refine Early.take (i := 12) (.agg #[d0, d1, d2, d3]) rfl (by kernel_rfl) (by kernel_rfl) (by kernel_rfl) (by kernel_rfl) (by kernel_rfl) (fun c a w h => hQ c a _ _ w h) (Or.inl ⟨by rfl, ?_⟩) ?_ ?_
    · intro w' hSw; obtain ⟨-, t0, t1, t2, t3, t4, t5, t6, t7, t8, t9, t10, t11⟩ := hSw; go_simp
    · exact KS1 _ (P1_4_18.out)
    (try simp only [Act.put, List.setIfInBounds_toArray, List.set_cons_zero, List.set_cons_succ])
    refine Early.nextw (i := 11) (by kernel_rfl) rfl (by rfl) (fun K hK => ?_)
    go_simp
    (with_reducible refine (failsQ_new _ 40).mono ?_)
    rintro e w20 ⟨hb20, N19, rfl, hN19⟩
    have B21 := Lib.hid hb20
    have z21 := B21.out.size
    have HB22 := Lib.hid (HB17.out.trans (B21.out.mono HB17.out.size))
    clear hb20
    have P1_5_23 := Lib.hid (P1_4_18.out.trans (B21.out.mono P1_4_18.out.size))
    refine hK _ _ (fun _ => KS1 _ P1_5_23.out) ?_; clear hK K
    (try simp only [Act.put, List.setIfInBounds_toArray, List.set_cons_zero, List.set_cons_succ])
    refine Early.nextw (i := 13) (by kernel_rfl) rfl (by rfl) (fun K hK => ?_)
    go_simp
    (with_reducible refine (ofQ_lit _ ⟨#[48]⟩ (mkRat 0 1) plit_48 (by decide +kernel) (M.step HB22.out)).mono ?_)
    rintro e w25 ⟨hb25, v24, rfl, hv24⟩
    have B26 := Lib.hid hb25
    have z26 := B26.out.size
    have HB27 := Lib.hid (HB22.out.trans (B26.out.mono HB22.out.size))
    clear hb25
    have P1_6_28 := Lib.hid (P1_5_23.out.trans (B26.out.mono P1_5_23.out.size))
    refine hK _ _ (fun _ => KS1 _ P1_6_28.out) ?_; clear hK K
    (try simp only [Act.put, List.setIfInBounds_toArray, List.set_cons_zero, List.set_cons_succ])
    have Ho24_29 := Lib.hid hv24; clear hv24
    refine Early.nextw (i := 14) (by kernel_rfl) rfl (by rfl) (fun K hK => ?_)
    go_simp
    have P2_4_31 := Lib.hid (B10.out.trans (B16.out.mono B10.out.size))
    have P2_5_32 := Lib.hid (P2_4_31.out.trans (B21.out.mono P2_4_31.out.size))
    have P2_6_33 := Lib.hid (P2_5_32.out.trans (B26.out.mono P2_5_32.out.size))
    have Hbad_34 := Lib.hid (QR.step Hbad_7.out P2_6_33.out)
    (with_reducible refine (((QDiv_bad _ _ _ _ _ _ _ _ _ _ _ Hbad_34.out (QV.qr Ho24_29.out) (.inl HBQ.out)).mono fun e w' h => And.intro h.1 (ret_no rfl h.2))).mono ?_)
    rintro e w35 ⟨hb35, v30, rfl, hv30⟩
    have B36 := Lib.hid hb35
    have z36 := B36.out.size
    have HB37 := Lib.hid (HB27.out.trans (B36.out.mono HB27.out.size))
    clear hb35
    have P1_7_38 := Lib.hid (P1_6_28.out.trans (B36.out.mono P1_6_28.out.size))
    refine hK _ _ (fun _ => KS1 _ P1_7_38.out) ?_; clear hK K
    (try simp only [Act.put, List.setIfInBounds_toArray, List.set_cons_zero, List.set_cons_succ])
    have Hr30_39 := Lib.hid hv30; clear hv30
    refine Early.take (i := 15) (v30) rfl (by kernel_rfl) (by kernel_rfl) (by kernel_rfl) (by kernel_rfl) (by kernel_rfl) (fun c a w h => hQ c a _ _ w h) (Or.inl ⟨by rfl, ?_⟩) ?_ ?_
    · intro w' _; go_simp
    · exact KS1 _ (P1_7_38.out)
    (try simp only [Act.put, List.setIfInBounds_toArray, List.set_cons_zero, List.set_cons_succ])
    refine Early.take (i := 16) (.int .i64 40) rfl (by kernel_rfl) (by kernel_rfl) (by kernel_rfl) (by kernel_rfl) (by kernel_rfl) (fun c a w h => hQ c a _ _ w h) (Or.inl ⟨by rfl, ?_⟩) ?_ ?_
    · intro w' _; go_simp
    · exact KS1 _ (P1_7_38.out)
    (try simp only [Act.put, List.setIfInBounds_toArray, List.set_cons_zero, List.set_cons_succ])
    refine Early.nextw (i := 17) (by kernel_rfl) rfl (by rfl) (fun K hK => ?_)
    go_simp
    have P5_7_41 := Lib.hid (B26.out.trans (B36.out.mono B26.out.size))
    have LN_40 := One.step hN19 P5_7_41.out
    (with_reducible refine (failsQ_yes LN_40 Hr30_39.out).mono ?_)
    rintro e w42 ⟨hb42, rfl⟩
    have B43 := Lib.hid hb42
    have z43 := B43.out.size
    have HB44 := Lib.hid (HB37.out.trans (B43.out.mono HB37.out.size))
    clear hb42
    have P1_8_45 := Lib.hid (P1_7_38.out.trans (B43.out.mono P1_7_38.out.size))
    refine hK _ _ (fun _ => KS1 _ P1_8_45.out) ?_; clear hK K
    (try simp only [Act.put, List.setIfInBounds_toArray, List.set_cons_zero, List.set_cons_succ])
    clear LN_40
    as_aux_lemma =>
      refine Early.take (i := 18) (.bool true) rfl (by kernel_rfl) (by kernel_rfl) (by kernel_rfl) (by kernel_rfl) (by kernel_rfl) (fun c a w h => hQ c a _ _ w h) (Or.inl ⟨by rfl, ?_⟩) ?_ ?_
      · intro w' _; go_simp
      · exact KS1 _ (P1_8_45.out)
      (try simp only [Act.put, List.setIfInBounds_toArray, List.set_cons_zero, List.set_cons_succ])
      refine Early.take (i := 19) (.bool true) rfl (by kernel_rfl) (by kernel_rfl) (by kernel_rfl) (by kernel_rfl) (by kernel_rfl) (fun c a w h => hQ c a _ _ w h) (Or.inl ⟨by rfl, ?_⟩) ?_ ?_
      · intro w' _; go_simp
      · exact KS1 _ (P1_8_45.out)
      (try simp only [Act.put, List.setIfInBounds_toArray, List.set_cons_zero, List.set_cons_succ])
      refine Early.take (i := 21) (.agg #[a0, a1, a2, a3]) rfl (by kernel_rfl) (by kernel_rfl) (by kernel_rfl) (by kernel_rfl) (by kernel_rfl) (fun c a w h => hQ c a _ _ w h) (Or.inl ⟨by rfl, ?_⟩) ?_ ?_
      · intro w' hSw; obtain ⟨-, t0, t1, t2, t3, t4, t5, t6, t7, t8, t9, t10, t11⟩ := hSw; go_simp
      · exact KS1 _ (P1_8_45.out)
      (try simp only [Act.put, List.setIfInBounds_toArray, List.set_cons_zero, List.set_cons_succ])
      refine Early.take (i := 22) (.agg #[d0, d1, d2, d3]) rfl (by kernel_rfl) (by kernel_rfl) (by kernel_rfl) (by kernel_rfl) (by kernel_rfl) (fun c a w h => hQ c a _ _ w h) (Or.inl ⟨by rfl, ?_⟩) ?_ ?_
      · intro w' hSw; obtain ⟨-, t0, t1, t2, t3, t4, t5, t6, t7, t8, t9, t10, t11⟩ := hSw; go_simp
      · exact KS1 _ (P1_8_45.out)
      (try simp only [Act.put, List.setIfInBounds_toArray, List.set_cons_zero, List.set_cons_succ])
      refine Early.nextw (i := 20) (by kernel_rfl) rfl (by rfl) (fun K hK => ?_)
      go_simp
      (with_reducible refine (failsQ_new _ 40).mono ?_)
      rintro e w47 ⟨hb47, N46, rfl, hN46⟩
      have B48 := Lib.hid hb47
      have z48 := B48.out.size
      have HB49 := Lib.hid (HB44.out.trans (B48.out.mono HB44.out.size))
      clear hb47
      have P1_9_50 := Lib.hid (P1_8_45.out.trans (B48.out.mono P1_8_45.out.size))
      refine hK _ _ (fun _ => KS1 _ P1_9_50.out) ?_; clear hK K
      (try simp only [Act.put, List.setIfInBounds_toArray, List.set_cons_zero, List.set_cons_succ])
      refine Early.nextw (i := 23) (by kernel_rfl) rfl (by rfl) (fun K hK => ?_)
      go_simp
      have P2_7_52 := Lib.hid (P2_6_33.out.trans (B36.out.mono P2_6_33.out.size))
      have P2_8_53 := Lib.hid (P2_7_52.out.trans (B43.out.mono P2_7_52.out.size))
      have P2_9_54 := Lib.hid (P2_8_53.out.trans (B48.out.mono P2_8_53.out.size))
      have Hmost_55 := Lib.hid (QV.step Hmost_8.out P2_9_54.out)
      have P6_8_56 := Lib.hid (B36.out.trans (B43.out.mono B36.out.size))
      have P6_9_57 := Lib.hid (P6_8_56.out.trans (B48.out.mono P6_8_56.out.size))
      have Hbad_58 := Lib.hid (QR.step Hbad_34.out P6_9_57.out)
      (with_reducible refine (((QDiv_bad _ _ _ _ _ _ _ _ _ _ _ (QV.qr Hmost_55.out) Hbad_58.out (.inr HBQ.out)).mono fun e w' h => And.intro h.1 (ret_no rfl h.2))).mono ?_)
      rintro e w59 ⟨hb59, v51, rfl, hv51⟩
      have B60 := Lib.hid hb59
      have z60 := B60.out.size
      have HB61 := Lib.hid (HB49.out.trans (B60.out.mono HB49.out.size))
      clear hb59
      have P1_10_62 := Lib.hid (P1_9_50.out.trans (B60.out.mono P1_9_50.out.size))
      refine hK _ _ (fun _ => KS1 _ P1_10_62.out) ?_; clear hK K
      (try simp only [Act.put, List.setIfInBounds_toArray, List.set_cons_zero, List.set_cons_succ])
      have Hr51_63 := Lib.hid hv51; clear hv51
      refine Early.take (i := 24) (v51) rfl (by kernel_rfl) (by kernel_rfl) (by kernel_rfl) (by kernel_rfl) (by kernel_rfl) (fun c a w h => hQ c a _ _ w h) (Or.inl ⟨by rfl, ?_⟩) ?_ ?_
      · intro w' _; go_simp
      · exact KS1 _ (P1_10_62.out)
      (try simp only [Act.put, List.setIfInBounds_toArray, List.set_cons_zero, List.set_cons_succ])
      refine Early.take (i := 25) (.int .i64 40) rfl (by kernel_rfl) (by kernel_rfl) (by kernel_rfl) (by kernel_rfl) (by kernel_rfl) (fun c a w h => hQ c a _ _ w h) (Or.inl ⟨by rfl, ?_⟩) ?_ ?_
      · intro w' _; go_simp
      · exact KS1 _ (P1_10_62.out)
      (try simp only [Act.put, List.setIfInBounds_toArray, List.set_cons_zero, List.set_cons_succ])
      refine Early.nextw (i := 26) (by kernel_rfl) rfl (by rfl) (fun K hK => ?_)
      go_simp
      have LN_64 := One.step hN46 B60.out
      (with_reducible refine (failsQ_yes LN_64 Hr51_63.out).mono ?_)
      rintro e w65 ⟨hb65, rfl⟩
      have B66 := Lib.hid hb65
      have z66 := B66.out.size
      have HB67 := Lib.hid (HB61.out.trans (B66.out.mono HB61.out.size))
      clear hb65
      have P1_11_68 := Lib.hid (P1_10_62.out.trans (B66.out.mono P1_10_62.out.size))
      refine hK _ _ (fun _ => KS1 _ P1_11_68.out) ?_; clear hK K
      (try simp only [Act.put, List.setIfInBounds_toArray, List.set_cons_zero, List.set_cons_succ])
      clear LN_64
      as_aux_lemma =>
        refine Early.take (i := 27) (.bool true) rfl (by kernel_rfl) (by kernel_rfl) (by kernel_rfl) (by kernel_rfl) (by kernel_rfl) (fun c a w h => hQ c a _ _ w h) (Or.inl ⟨by rfl, ?_⟩) ?_ ?_
        · intro w' _; go_simp
        · exact KS1 _ (P1_11_68.out)
        (try simp only [Act.put, List.setIfInBounds_toArray, List.set_cons_zero, List.set_cons_succ])
        refine Early.take (i := 28) (.bool true) rfl (by kernel_rfl) (by kernel_rfl) (by kernel_rfl) (by kernel_rfl) (by kernel_rfl) (fun c a w h => hQ c a _ _ w h) (Or.inl ⟨by rfl, ?_⟩) ?_ ?_
        · intro w' _; go_simp
        · exact KS1 _ (P1_11_68.out)
        (try simp only [Act.put, List.setIfInBounds_toArray, List.set_cons_zero, List.set_cons_succ])
        refine Early.take (i := 30) (.agg #[d0, d1, d2, d3]) rfl (by kernel_rfl) (by kernel_rfl) (by kernel_rfl) (by kernel_rfl) (by kernel_rfl) (fun c a w h => hQ c a _ _ w h) (Or.inl ⟨by rfl, ?_⟩) ?_ ?_
        · intro w' hSw; obtain ⟨-, t0, t1, t2, t3, t4, t5, t6, t7, t8, t9, t10, t11⟩ := hSw; go_simp
        · exact KS1 _ (P1_11_68.out)
        (try simp only [Act.put, List.setIfInBounds_toArray, List.set_cons_zero, List.set_cons_succ])
        refine Early.nextw (i := 29) (by kernel_rfl) rfl (by rfl) (fun K hK => ?_)
        go_simp
        (with_reducible refine (failsQ_new _ 40).mono ?_)
        rintro e w70 ⟨hb70, N69, rfl, hN69⟩
        have B71 := Lib.hid hb70
        have z71 := B71.out.size
        have HB72 := Lib.hid (HB67.out.trans (B71.out.mono HB67.out.size))
        clear hb70
        have P1_12_73 := Lib.hid (P1_11_68.out.trans (B71.out.mono P1_11_68.out.size))
        refine hK _ _ (fun _ => KS1 _ P1_12_73.out) ?_; clear hK K
        (try simp only [Act.put, List.setIfInBounds_toArray, List.set_cons_zero, List.set_cons_succ])
        refine Early.nextw (i := 31) (by kernel_rfl) rfl (by rfl) (fun K hK => ?_)
        go_simp
        have P9_11_75 := Lib.hid (B60.out.trans (B66.out.mono B60.out.size))
        have P9_12_76 := Lib.hid (P9_11_75.out.trans (B71.out.mono P9_11_75.out.size))
        have Hbad_77 := Lib.hid (QR.step Hbad_58.out P9_12_76.out)
        (with_reducible refine (((QNeg_bad _ _ _ _ _ _ Hbad_77.out HBQ.out).mono fun e w' h => And.intro h.1 (ret_no rfl h.2))).mono ?_)
        rintro e w78 ⟨hb78, v74, rfl, hv74⟩
        have B79 := Lib.hid hb78
        have z79 := B79.out.size
        have HB80 := Lib.hid (HB72.out.trans (B79.out.mono HB72.out.size))
        clear hb78
        have P1_13_81 := Lib.hid (P1_12_73.out.trans (B79.out.mono P1_12_73.out.size))
        refine hK _ _ (fun _ => KS1 _ P1_13_81.out) ?_; clear hK K
        (try simp only [Act.put, List.setIfInBounds_toArray, List.set_cons_zero, List.set_cons_succ])
        have Hr74_82 := Lib.hid hv74; clear hv74
        refine Early.take (i := 32) (v74) rfl (by kernel_rfl) (by kernel_rfl) (by kernel_rfl) (by kernel_rfl) (by kernel_rfl) (fun c a w h => hQ c a _ _ w h) (Or.inl ⟨by rfl, ?_⟩) ?_ ?_
        · intro w' _; go_simp
        · exact KS1 _ (P1_13_81.out)
        (try simp only [Act.put, List.setIfInBounds_toArray, List.set_cons_zero, List.set_cons_succ])
        refine Early.take (i := 33) (.int .i64 40) rfl (by kernel_rfl) (by kernel_rfl) (by kernel_rfl) (by kernel_rfl) (by kernel_rfl) (fun c a w h => hQ c a _ _ w h) (Or.inl ⟨by rfl, ?_⟩) ?_ ?_
        · intro w' _; go_simp
        · exact KS1 _ (P1_13_81.out)
        (try simp only [Act.put, List.setIfInBounds_toArray, List.set_cons_zero, List.set_cons_succ])
        refine Early.nextw (i := 34) (by kernel_rfl) rfl (by rfl) (fun K hK => ?_)
        go_simp
        have LN_83 := One.step hN69 B79.out
        (with_reducible refine (failsQ_yes LN_83 Hr74_82.out).mono ?_)
        rintro e w84 ⟨hb84, rfl⟩
        have B85 := Lib.hid hb84
        have z85 := B85.out.size
        have HB86 := Lib.hid (HB80.out.trans (B85.out.mono HB80.out.size))
        clear hb84
        have P1_14_87 := Lib.hid (P1_13_81.out.trans (B85.out.mono P1_13_81.out.size))
        refine hK _ _ (fun _ => KS1 _ P1_14_87.out) ?_; clear hK K
        (try simp only [Act.put, List.setIfInBounds_toArray, List.set_cons_zero, List.set_cons_succ])
        clear LN_83
        as_aux_lemma =>
          refine Early.take (i := 35) (.bool true) rfl (by kernel_rfl) (by kernel_rfl) (by kernel_rfl) (by kernel_rfl) (by kernel_rfl) (fun c a w h => hQ c a _ _ w h) (Or.inl ⟨by rfl, ?_⟩) ?_ ?_
          · intro w' _; go_simp
          · exact KS1 _ (P1_14_87.out)
          (try simp only [Act.put, List.setIfInBounds_toArray, List.set_cons_zero, List.set_cons_succ])
          refine Early.take (i := 36) (.bool true) rfl (by kernel_rfl) (by kernel_rfl) (by kernel_rfl) (by kernel_rfl) (by kernel_rfl) (fun c a w h => hQ c a _ _ w h) (Or.inl ⟨by rfl, ?_⟩) ?_ ?_
          · intro w' _; go_simp
          · exact KS1 _ (P1_14_87.out)
          (try simp only [Act.put, List.setIfInBounds_toArray, List.set_cons_zero, List.set_cons_succ])
          refine Early.take (i := 38) (.agg #[d0, d1, d2, d3]) rfl (by kernel_rfl) (by kernel_rfl) (by kernel_rfl) (by kernel_rfl) (by kernel_rfl) (fun c a w h => hQ c a _ _ w h) (Or.inl ⟨by rfl, ?_⟩) ?_ ?_
          · intro w' hSw; obtain ⟨-, t0, t1, t2, t3, t4, t5, t6, t7, t8, t9, t10, t11⟩ := hSw; go_simp
          · exact KS1 _ (P1_14_87.out)
          (try simp only [Act.put, List.setIfInBounds_toArray, List.set_cons_zero, List.set_cons_succ])
          refine Early.nextw (i := 37) (by kernel_rfl) rfl (by rfl) (fun K hK => ?_)
          go_simp
          (with_reducible refine (failsQ_new _ 40).mono ?_)
          rintro e w89 ⟨hb89, N88, rfl, hN88⟩
          have B90 := Lib.hid hb89
          have z90 := B90.out.size
          have HB91 := Lib.hid (HB86.out.trans (B90.out.mono HB86.out.size))
          clear hb89
          have P1_15_92 := Lib.hid (P1_14_87.out.trans (B90.out.mono P1_14_87.out.size))
          refine hK _ _ (fun _ => KS1 _ P1_15_92.out) ?_; clear hK K
          (try simp only [Act.put, List.setIfInBounds_toArray, List.set_cons_zero, List.set_cons_succ])
          refine Early.nextw (i := 39) (by kernel_rfl) rfl (by rfl) (fun K hK => ?_)
          go_simp
          have P12_14_94 := Lib.hid (B79.out.trans (B85.out.mono B79.out.size))
          have P12_15_95 := Lib.hid (P12_14_94.out.trans (B90.out.mono P12_14_94.out.size))
          have Hbad_96 := Lib.hid (QR.step Hbad_77.out P12_15_95.out)
          (with_reducible refine (((QAbs_bad _ _ _ _ _ _ Hbad_96.out HBQ.out).mono fun e w' h => And.intro h.1 (ret_no rfl h.2))).mono ?_)
          rintro e w97 ⟨hb97, v93, rfl, hv93⟩
          have B98 := Lib.hid hb97
          have z98 := B98.out.size
          have HB99 := Lib.hid (HB91.out.trans (B98.out.mono HB91.out.size))
          clear hb97
          have P1_16_100 := Lib.hid (P1_15_92.out.trans (B98.out.mono P1_15_92.out.size))
          refine hK _ _ (fun _ => KS1 _ P1_16_100.out) ?_; clear hK K
          (try simp only [Act.put, List.setIfInBounds_toArray, List.set_cons_zero, List.set_cons_succ])
          have Hr93_101 := Lib.hid hv93; clear hv93
          refine Early.take (i := 40) (v93) rfl (by kernel_rfl) (by kernel_rfl) (by kernel_rfl) (by kernel_rfl) (by kernel_rfl) (fun c a w h => hQ c a _ _ w h) (Or.inl ⟨by rfl, ?_⟩) ?_ ?_
          · intro w' _; go_simp
          · exact KS1 _ (P1_16_100.out)
          (try simp only [Act.put, List.setIfInBounds_toArray, List.set_cons_zero, List.set_cons_succ])
          refine Early.take (i := 41) (.int .i64 40) rfl (by kernel_rfl) (by kernel_rfl) (by kernel_rfl) (by kernel_rfl) (by kernel_rfl) (fun c a w h => hQ c a _ _ w h) (Or.inl ⟨by rfl, ?_⟩) ?_ ?_
          · intro w' _; go_simp
          · exact KS1 _ (P1_16_100.out)
          (try simp only [Act.put, List.setIfInBounds_toArray, List.set_cons_zero, List.set_cons_succ])
          refine Early.nextw (i := 42) (by kernel_rfl) rfl (by rfl) (fun K hK => ?_)
          go_simp
          have LN_102 := One.step hN88 B98.out
          (with_reducible refine (failsQ_yes LN_102 Hr93_101.out).mono ?_)
          rintro e w103 ⟨hb103, rfl⟩
          have B104 := Lib.hid hb103
          have z104 := B104.out.size
          have HB105 := Lib.hid (HB99.out.trans (B104.out.mono HB99.out.size))
          clear hb103
          have P1_17_106 := Lib.hid (P1_16_100.out.trans (B104.out.mono P1_16_100.out.size))
          refine hK _ _ (fun _ => KS1 _ P1_17_106.out) ?_; clear hK K
          (try simp only [Act.put, List.setIfInBounds_toArray, List.set_cons_zero, List.set_cons_succ])
          clear LN_102
          as_aux_lemma =>
            refine Early.take (i := 43) (.bool true) rfl (by kernel_rfl) (by kernel_rfl) (by kernel_rfl) (by kernel_rfl) (by kernel_rfl) (fun c a w h => hQ c a _ _ w h) (Or.inl ⟨by rfl, ?_⟩) ?_ ?_
            · intro w' _; go_simp
            · exact KS1 _ (P1_17_106.out)
            (try simp only [Act.put, List.setIfInBounds_toArray, List.set_cons_zero, List.set_cons_succ])
            refine Early.take (i := 44) (.bool true) rfl (by kernel_rfl) (by kernel_rfl) (by kernel_rfl) (by kernel_rfl) (by kernel_rfl) (fun c a w h => hQ c a _ _ w h) (Or.inl ⟨by rfl, ?_⟩) ?_ ?_
            · intro w' _; go_simp
            · exact KS1 _ (P1_17_106.out)
            (try simp only [Act.put, List.setIfInBounds_toArray, List.set_cons_zero, List.set_cons_succ])
            refine Early.nextw (i := 45) (by kernel_rfl) rfl (by rfl) (fun K hK => ?_)
            go_simp
            (with_reducible refine (isQ_new _ ⟨#[48]⟩).mono ?_)
            rintro e w108 ⟨hb108, N107, rfl, hN107⟩
            have B109 := Lib.hid hb108
            have z109 := B109.out.size
            have HB110 := Lib.hid (HB105.out.trans (B109.out.mono HB105.out.size))
            clear hb108
            have P1_18_111 := Lib.hid (P1_17_106.out.trans (B109.out.mono P1_17_106.out.size))
            refine hK _ _ (fun _ => KS1 _ P1_18_111.out) ?_; clear hK K
            (try simp only [Act.put, List.setIfInBounds_toArray, List.set_cons_zero, List.set_cons_succ])
            refine Early.nextw (i := 46) (by kernel_rfl) rfl (by rfl) (fun K hK => ?_)
            go_simp
            (with_reducible refine (ofQ_lit _ ⟨#[48]⟩ (mkRat 0 1) plit_48 (by decide +kernel) (M.step HB110.out)).mono ?_)
            rintro e w113 ⟨hb113, v112, rfl, hv112⟩
            have B114 := Lib.hid hb113
            have z114 := B114.out.size
            have HB115 := Lib.hid (HB110.out.trans (B114.out.mono HB110.out.size))
            clear hb113
            have P1_19_116 := Lib.hid (P1_18_111.out.trans (B114.out.mono P1_18_111.out.size))
            refine hK _ _ (fun _ => KS1 _ P1_19_116.out) ?_; clear hK K
            (try simp only [Act.put, List.setIfInBounds_toArray, List.set_cons_zero, List.set_cons_succ])
            have Ho112_117 := Lib.hid hv112; clear hv112
            refine Early.nextw (i := 47) (by kernel_rfl) rfl (by rfl) (fun K hK => ?_)
            go_simp
            (with_reducible refine (((QNeg_good _ _ (mkRat 0 1) Ho112_117.out (lit_QL (x := 0) (d := 1) (by decide) (by decide +kernel) (by decide +kernel) (by decide +kernel))).mono fun e w' h => And.intro h.1 (ret_yes neg_zero h.2))).mono ?_)
            rintro e w119 ⟨hb119, v118, rfl, hv118⟩
            have B120 := Lib.hid hb119
            have z120 := B120.out.size
            have HB121 := Lib.hid (HB115.out.trans (B120.out.mono HB115.out.size))
            clear hb119
            have P1_20_122 := Lib.hid (P1_19_116.out.trans (B120.out.mono P1_19_116.out.size))
            refine hK _ _ (fun _ => KS1 _ P1_20_122.out) ?_; clear hK K
            (try simp only [Act.put, List.setIfInBounds_toArray, List.set_cons_zero, List.set_cons_succ])
            have Hr118_123 := Lib.hid hv118; clear hv118
            refine Early.take (i := 48) (v118) rfl (by kernel_rfl) (by kernel_rfl) (by kernel_rfl) (by kernel_rfl) (by kernel_rfl) (fun c a w h => hQ c a _ _ w h) (Or.inl ⟨by rfl, ?_⟩) ?_ ?_
            · intro w' _; go_simp
            · exact KS1 _ (P1_20_122.out)
            (try simp only [Act.put, List.setIfInBounds_toArray, List.set_cons_zero, List.set_cons_succ])
            refine Early.take (i := 49) (.int .i64 0) rfl (by kernel_rfl) (by kernel_rfl) (by kernel_rfl) (by kernel_rfl) (by kernel_rfl) (fun c a w h => hQ c a _ _ w h) (Or.inl ⟨by rfl, ?_⟩) ?_ ?_
            · intro w' _; go_simp
            · exact KS1 _ (P1_20_122.out)
            (try simp only [Act.put, List.setIfInBounds_toArray, List.set_cons_zero, List.set_cons_succ])
            refine Early.nextw (i := 50) (by kernel_rfl) rfl (by rfl) (fun K hK => ?_)
            go_simp
            have P18_20_125 := Lib.hid (B114.out.trans (B120.out.mono B114.out.size))
            have LN_124 := One.step hN107 P18_20_125.out
            (with_reducible refine (isQ_yes LN_124 Hr118_123.out (lit_QL (x := 0) (d := 1) (by decide) (by decide +kernel) (by decide +kernel) (by decide +kernel)) (lit_whole (s := [48]) (x := 0) (by decide +kernel)) (G.step HB121.out)).mono ?_)
            rintro e w126 ⟨hb126, rfl⟩
            have B127 := Lib.hid hb126
            have z127 := B127.out.size
            have HB128 := Lib.hid (HB121.out.trans (B127.out.mono HB121.out.size))
            clear hb126
            have P1_21_129 := Lib.hid (P1_20_122.out.trans (B127.out.mono P1_20_122.out.size))
            refine hK _ _ (fun _ => KS1 _ P1_21_129.out) ?_; clear hK K
            (try simp only [Act.put, List.setIfInBounds_toArray, List.set_cons_zero, List.set_cons_succ])
            clear LN_124
            as_aux_lemma =>
              refine Early.take (i := 51) (.bool true) rfl (by kernel_rfl) (by kernel_rfl) (by kernel_rfl) (by kernel_rfl) (by kernel_rfl) (fun c a w h => hQ c a _ _ w h) (Or.inl ⟨by rfl, ?_⟩) ?_ ?_
              · intro w' _; go_simp
              · exact KS1 _ (P1_21_129.out)
              (try simp only [Act.put, List.setIfInBounds_toArray, List.set_cons_zero, List.set_cons_succ])
              refine Early.take (i := 52) (.bool true) rfl (by kernel_rfl) (by kernel_rfl) (by kernel_rfl) (by kernel_rfl) (by kernel_rfl) (fun c a w h => hQ c a _ _ w h) (Or.inl ⟨by rfl, ?_⟩) ?_ ?_
              · intro w' _; go_simp
              · exact KS1 _ (P1_21_129.out)
              (try simp only [Act.put, List.setIfInBounds_toArray, List.set_cons_zero, List.set_cons_succ])
              refine Early.take (i := 54) (.agg #[.bool true, .slice none 0 0]) rfl (by kernel_rfl) (by kernel_rfl) (by kernel_rfl) (by kernel_rfl) (by kernel_rfl) (fun c a w h => hQ c a _ _ w h) (Or.inl ⟨by rfl, ?_⟩) ?_ ?_
              · intro w' _; go_simp
              · exact KS1 _ (P1_21_129.out)
              (try simp only [Act.put, List.setIfInBounds_toArray, List.set_cons_zero, List.set_cons_succ])
              refine Early.take (i := 55) (.agg #[.bool false, .slice none 0 0]) rfl (by kernel_rfl) (by kernel_rfl) (by kernel_rfl) (by kernel_rfl) (by kernel_rfl) (fun c a w h => hQ c a _ _ w h) (Or.inl ⟨by rfl, ?_⟩) ?_ ?_
              · intro w' _; go_simp
              · exact KS1 _ (P1_21_129.out)
              (try simp only [Act.put, List.setIfInBounds_toArray, List.set_cons_zero, List.set_cons_succ])
              refine Early.nextw (i := 53) (by kernel_rfl) rfl (by rfl) (fun K hK => ?_)
              go_simp
              (with_reducible refine (failsQ_new _ 30).mono ?_)
              rintro e w131 ⟨hb131, N130, rfl, hN130⟩
              have B132 := Lib.hid hb131
              have z132 := B132.out.size
              have HB133 := Lib.hid (HB128.out.trans (B132.out.mono HB128.out.size))
              clear hb131
              have P1_22_134 := Lib.hid (P1_21_129.out.trans (B132.out.mono P1_21_129.out.size))
              refine hK _ _ (fun _ => KS1 _ P1_22_134.out) ?_; clear hK K
              (try simp only [Act.put, List.setIfInBounds_toArray, List.set_cons_zero, List.set_cons_succ])
              refine Early.nextw (i := 56) (by kernel_rfl) rfl (by rfl) (fun K hK => ?_)
              go_simp
              (with_reducible refine (((QMake_bad _ _ _ _ _ _ _ (LR.neg0 _ _) (LR.zero _ _) (fun h => absurd h.1 neg0_bad)).mono fun e w' h => And.intro h.1 (ret_no rfl h.2))).mono ?_)
              rintro e w136 ⟨hb136, v135, rfl, hv135⟩
              have B137 := Lib.hid hb136
              have z137 := B137.out.size
              have HB138 := Lib.hid (HB133.out.trans (B137.out.mono HB133.out.size))
              clear hb136
              have P1_23_139 := Lib.hid (P1_22_134.out.trans (B137.out.mono P1_22_134.out.size))
              refine hK _ _ (fun _ => KS1 _ P1_23_139.out) ?_; clear hK K
              (try simp only [Act.put, List.setIfInBounds_toArray, List.set_cons_zero, List.set_cons_succ])
              have Hr135_140 := Lib.hid hv135; clear hv135
              refine Early.take (i := 57) (v135) rfl (by kernel_rfl) (by kernel_rfl) (by kernel_rfl) (by kernel_rfl) (by kernel_rfl) (fun c a w h => hQ c a _ _ w h) (Or.inl ⟨by rfl, ?_⟩) ?_ ?_
              · intro w' _; go_simp
              · exact KS1 _ (P1_23_139.out)
              (try simp only [Act.put, List.setIfInBounds_toArray, List.set_cons_zero, List.set_cons_succ])
              refine Early.take (i := 58) (.int .i64 30) rfl (by kernel_rfl) (by kernel_rfl) (by kernel_rfl) (by kernel_rfl) (by kernel_rfl) (fun c a w h => hQ c a _ _ w h) (Or.inl ⟨by rfl, ?_⟩) ?_ ?_
              · intro w' _; go_simp
              · exact KS1 _ (P1_23_139.out)
              (try simp only [Act.put, List.setIfInBounds_toArray, List.set_cons_zero, List.set_cons_succ])
              refine Early.nextw (i := 59) (by kernel_rfl) rfl (by rfl) (fun K hK => ?_)
              go_simp
              have LN_141 := One.step hN130 B137.out
              (with_reducible refine (failsQ_yes LN_141 Hr135_140.out).mono ?_)
              rintro e w142 ⟨hb142, rfl⟩
              have B143 := Lib.hid hb142
              have z143 := B143.out.size
              have HB144 := Lib.hid (HB138.out.trans (B143.out.mono HB138.out.size))
              clear hb142
              have P1_24_145 := Lib.hid (P1_23_139.out.trans (B143.out.mono P1_23_139.out.size))
              refine hK _ _ (fun _ => KS1 _ P1_24_145.out) ?_; clear hK K
              (try simp only [Act.put, List.setIfInBounds_toArray, List.set_cons_zero, List.set_cons_succ])
              clear LN_141
              as_aux_lemma =>
                refine Early.take (i := 60) (.bool true) rfl (by kernel_rfl) (by kernel_rfl) (by kernel_rfl) (by kernel_rfl) (by kernel_rfl) (fun c a w h => hQ c a _ _ w h) (Or.inl ⟨by rfl, ?_⟩) ?_ ?_
                · intro w' _; go_simp
                · exact KS1 _ (P1_24_145.out)
                (try simp only [Act.put, List.setIfInBounds_toArray, List.set_cons_zero, List.set_cons_succ])
                refine Early.take (i := 61) (.bool true) rfl (by kernel_rfl) (by kernel_rfl) (by kernel_rfl) (by kernel_rfl) (by kernel_rfl) (fun c a w h => hQ c a _ _ w h) (Or.inl ⟨by rfl, ?_⟩) ?_ ?_
                · intro w' _; go_simp
                · exact KS1 _ (P1_24_145.out)
                (try simp only [Act.put, List.setIfInBounds_toArray, List.set_cons_zero, List.set_cons_succ])
                refine Early.take (i := 64) (.agg #[.bool true, .slice none 0 0]) rfl (by kernel_rfl) (by kernel_rfl) (by kernel_rfl) (by kernel_rfl) (by kernel_rfl) (fun c a w h => hQ c a _ _ w h) (Or.inl ⟨by rfl, ?_⟩) ?_ ?_
                · intro w' _; go_simp
                · exact KS1 _ (P1_24_145.out)
                (try simp only [Act.put, List.setIfInBounds_toArray, List.set_cons_zero, List.set_cons_succ])
                refine Early.nextw (i := 62) (by kernel_rfl) rfl (by rfl) (fun K hK => ?_)
                go_simp
                (with_reducible refine (failsQ_new _ 30).mono ?_)
                rintro e w147 ⟨hb147, N146, rfl, hN146⟩
                have B148 := Lib.hid hb147
                have z148 := B148.out.size
                have HB149 := Lib.hid (HB144.out.trans (B148.out.mono HB144.out.size))
                clear hb147
                have P1_25_150 := Lib.hid (P1_24_145.out.trans (B148.out.mono P1_24_145.out.size))
                refine hK _ _ (fun _ => KS1 _ P1_25_150.out) ?_; clear hK K
                (try simp only [Act.put, List.setIfInBounds_toArray, List.set_cons_zero, List.set_cons_succ])
                refine Early.nextw (i := 63) (by kernel_rfl) rfl (by rfl) (fun K hK => ?_)
                go_simp
                (with_reducible refine (Of_any _ 1 (by decide) (by decide)).mono ?_)
                rintro e w152 ⟨hb152, v151, rfl, hv151⟩
                have B153 := Lib.hid hb152
                have z153 := B153.out.size
                have HB154 := Lib.hid (HB149.out.trans (B153.out.mono HB149.out.size))
                clear hb152
                have P1_26_155 := Lib.hid (P1_25_150.out.trans (B153.out.mono P1_25_150.out.size))
                refine hK _ _ (fun _ => KS1 _ P1_26_155.out) ?_; clear hK K
                (try simp only [Act.put, List.setIfInBounds_toArray, List.set_cons_zero, List.set_cons_succ])
                have Ho151_156 := Lib.hid hv151; clear hv151
                refine Early.nextw (i := 65) (by kernel_rfl) rfl (by rfl) (fun K hK => ?_)
                go_simp
                (with_reducible refine (((QMake_bad _ _ _ _ _ _ _ (LV.raw Ho151_156.out) (LR.neg0 _ _) (fun h => absurd h.2 neg0_bad)).mono fun e w' h => And.intro h.1 (ret_no rfl h.2))).mono ?_)
                rintro e w158 ⟨hb158, v157, rfl, hv157⟩
                have B159 := Lib.hid hb158
                have z159 := B159.out.size
                have HB160 := Lib.hid (HB154.out.trans (B159.out.mono HB154.out.size))
                clear hb158
                have P1_27_161 := Lib.hid (P1_26_155.out.trans (B159.out.mono P1_26_155.out.size))
                refine hK _ _ (fun _ => KS1 _ P1_27_161.out) ?_; clear hK K
                (try simp only [Act.put, List.setIfInBounds_toArray, List.set_cons_zero, List.set_cons_succ])
                have Hr157_162 := Lib.hid hv157; clear hv157
                refine Early.take (i := 66) (v157) rfl (by kernel_rfl) (by kernel_rfl) (by kernel_rfl) (by kernel_rfl) (by kernel_rfl) (fun c a w h => hQ c a _ _ w h) (Or.inl ⟨by rfl, ?_⟩) ?_ ?_
                · intro w' _; go_simp
                · exact KS1 _ (P1_27_161.out)
                (try simp only [Act.put, List.setIfInBounds_toArray, List.set_cons_zero, List.set_cons_succ])
                refine Early.take (i := 67) (.int .i64 30) rfl (by kernel_rfl) (by kernel_rfl) (by kernel_rfl) (by kernel_rfl) (by kernel_rfl) (fun c a w h => hQ c a _ _ w h) (Or.inl ⟨by rfl, ?_⟩) ?_ ?_
                · intro w' _; go_simp
                · exact KS1 _ (P1_27_161.out)
                (try simp only [Act.put, List.setIfInBounds_toArray, List.set_cons_zero, List.set_cons_succ])
                refine Early.nextw (i := 68) (by kernel_rfl) rfl (by rfl) (fun K hK => ?_)
                go_simp
                have P25_27_164 := Lib.hid (B153.out.trans (B159.out.mono B153.out.size))
                have LN_163 := One.step hN146 P25_27_164.out
                (with_reducible refine (failsQ_yes LN_163 Hr157_162.out).mono ?_)
                rintro e w165 ⟨hb165, rfl⟩
                have B166 := Lib.hid hb165
                have z166 := B166.out.size
                have HB167 := Lib.hid (HB160.out.trans (B166.out.mono HB160.out.size))
                clear hb165
                have P1_28_168 := Lib.hid (P1_27_161.out.trans (B166.out.mono P1_27_161.out.size))
                refine hK _ _ (fun _ => KS1 _ P1_28_168.out) ?_; clear hK K
                (try simp only [Act.put, List.setIfInBounds_toArray, List.set_cons_zero, List.set_cons_succ])
                clear LN_163
                as_aux_lemma =>
                  refine Early.take (i := 69) (.bool true) rfl (by kernel_rfl) (by kernel_rfl) (by kernel_rfl) (by kernel_rfl) (by kernel_rfl) (fun c a w h => hQ c a _ _ w h) (Or.inl ⟨by rfl, ?_⟩) ?_ ?_
                  · intro w' _; go_simp
                  · exact KS1 _ (P1_28_168.out)
                  (try simp only [Act.put, List.setIfInBounds_toArray, List.set_cons_zero, List.set_cons_succ])
                  refine Early.take (i := 70) (.bool true) rfl (by kernel_rfl) (by kernel_rfl) (by kernel_rfl) (by kernel_rfl) (by kernel_rfl) (fun c a w h => hQ c a _ _ w h) (Or.inl ⟨by rfl, ?_⟩) ?_ ?_
                  · intro w' _; go_simp
                  · exact KS1 _ (P1_28_168.out)
                  (try simp only [Act.put, List.setIfInBounds_toArray, List.set_cons_zero, List.set_cons_succ])
                  refine Early.take (i := 73) (.agg #[.bool false, .slice none 0 0]) rfl (by kernel_rfl) (by kernel_rfl) (by kernel_rfl) (by kernel_rfl) (by kernel_rfl) (fun c a w h => hQ c a _ _ w h) (Or.inl ⟨by rfl, ?_⟩) ?_ ?_
                  · intro w' _; go_simp
                  · exact KS1 _ (P1_28_168.out)
                  (try simp only [Act.put, List.setIfInBounds_toArray, List.set_cons_zero, List.set_cons_succ])
                  refine Early.nextw (i := 71) (by kernel_rfl) rfl (by rfl) (fun K hK => ?_)
                  go_simp
                  (with_reducible refine (failsQ_new _ 7).mono ?_)
                  rintro e w170 ⟨hb170, N169, rfl, hN169⟩
                  have B171 := Lib.hid hb170
                  have z171 := B171.out.size
                  have HB172 := Lib.hid (HB167.out.trans (B171.out.mono HB167.out.size))
                  clear hb170
                  have P1_29_173 := Lib.hid (P1_28_168.out.trans (B171.out.mono P1_28_168.out.size))
                  refine hK _ _ (fun _ => KS1 _ P1_29_173.out) ?_; clear hK K
                  (try simp only [Act.put, List.setIfInBounds_toArray, List.set_cons_zero, List.set_cons_succ])
                  refine Early.nextw (i := 72) (by kernel_rfl) rfl (by rfl) (fun K hK => ?_)
                  go_simp
                  (with_reducible refine (Of_any _ 1 (by decide) (by decide)).mono ?_)
                  rintro e w175 ⟨hb175, v174, rfl, hv174⟩
                  have B176 := Lib.hid hb175
                  have z176 := B176.out.size
                  have HB177 := Lib.hid (HB172.out.trans (B176.out.mono HB172.out.size))
                  clear hb175
                  have P1_30_178 := Lib.hid (P1_29_173.out.trans (B176.out.mono P1_29_173.out.size))
                  refine hK _ _ (fun _ => KS1 _ P1_30_178.out) ?_; clear hK K
                  (try simp only [Act.put, List.setIfInBounds_toArray, List.set_cons_zero, List.set_cons_succ])
                  have Ho174_179 := Lib.hid hv174; clear hv174
                  refine Early.nextw (i := 74) (by kernel_rfl) rfl (by rfl) (fun K hK => ?_)
                  go_simp
                  (with_reducible refine (((QMake_good _ _ _ 1 0 Ho174_179.out (LV.zero _ _) (Nat.le_trans (fit_i64 (by decide) (by decide)) (by decide)) (Nat.le_trans (fit_i64 (by decide) (by decide)) (by decide))).mono fun e w' h => And.intro h.1 (ret_no mk10 h.2))).mono ?_)
                  rintro e w181 ⟨hb181, v180, rfl, hv180⟩
                  have B182 := Lib.hid hb181
                  have z182 := B182.out.size
                  have HB183 := Lib.hid (HB177.out.trans (B182.out.mono HB177.out.size))
                  clear hb181
                  have P1_31_184 := Lib.hid (P1_30_178.out.trans (B182.out.mono P1_30_178.out.size))
                  refine hK _ _ (fun _ => KS1 _ P1_31_184.out) ?_; clear hK K
                  (try simp only [Act.put, List.setIfInBounds_toArray, List.set_cons_zero, List.set_cons_succ])
                  have Hr180_185 := Lib.hid hv180; clear hv180
                  refine Early.take (i := 75) (v180) rfl (by kernel_rfl) (by kernel_rfl) (by kernel_rfl) (by kernel_rfl) (by kernel_rfl) (fun c a w h => hQ c a _ _ w h) (Or.inl ⟨by rfl, ?_⟩) ?_ ?_
                  · intro w' _; go_simp
                  · exact KS1 _ (P1_31_184.out)
                  (try simp only [Act.put, List.setIfInBounds_toArray, List.set_cons_zero, List.set_cons_succ])
                  refine Early.take (i := 76) (.int .i64 7) rfl (by kernel_rfl) (by kernel_rfl) (by kernel_rfl) (by kernel_rfl) (by kernel_rfl) (fun c a w h => hQ c a _ _ w h) (Or.inl ⟨by rfl, ?_⟩) ?_ ?_
                  · intro w' _; go_simp
                  · exact KS1 _ (P1_31_184.out)
                  (try simp only [Act.put, List.setIfInBounds_toArray, List.set_cons_zero, List.set_cons_succ])
                  refine Early.nextw (i := 77) (by kernel_rfl) rfl (by rfl) (fun K hK => ?_)
                  go_simp
                  have P29_31_187 := Lib.hid (B176.out.trans (B182.out.mono B176.out.size))
                  have LN_186 := One.step hN169 P29_31_187.out
                  (with_reducible refine (failsQ_yes LN_186 Hr180_185.out).mono ?_)
                  rintro e w188 ⟨hb188, rfl⟩
                  have B189 := Lib.hid hb188
                  have z189 := B189.out.size
                  have HB190 := Lib.hid (HB183.out.trans (B189.out.mono HB183.out.size))
                  clear hb188
                  have P1_32_191 := Lib.hid (P1_31_184.out.trans (B189.out.mono P1_31_184.out.size))
                  refine hK _ _ (fun _ => KS1 _ P1_32_191.out) ?_; clear hK K
                  (try simp only [Act.put, List.setIfInBounds_toArray, List.set_cons_zero, List.set_cons_succ])
                  clear LN_186
                  as_aux_lemma =>
                    refine Early.take (i := 78) (.bool true) rfl (by kernel_rfl) (by kernel_rfl) (by kernel_rfl) (by kernel_rfl) (by kernel_rfl) (fun c a w h => hQ c a _ _ w h) (Or.inl ⟨by rfl, ?_⟩) ?_ ?_
                    · intro w' _; go_simp
                    · exact KS1 _ (P1_32_191.out)
                    (try simp only [Act.put, List.setIfInBounds_toArray, List.set_cons_zero, List.set_cons_succ])
                    refine Early.take (i := 79) (.bool true) rfl (by kernel_rfl) (by kernel_rfl) (by kernel_rfl) (by kernel_rfl) (by kernel_rfl) (fun c a w h => hQ c a _ _ w h) (Or.inl ⟨by rfl, ?_⟩) ?_ ?_
                    · intro w' _; go_simp
                    · exact KS1 _ (P1_32_191.out)
                    (try simp only [Act.put, List.setIfInBounds_toArray, List.set_cons_zero, List.set_cons_succ])
                    refine Early.nextw (i := 80) (by kernel_rfl) rfl (by rfl) (fun K hK => ?_)
                    go_simp
                    (with_reducible refine (isQ_new _ ⟨#[45, 49, 47, 57, 50, 50, 51, 51, 55, 50, 48, 51, 54, 56, 53, 52, 55, 55, 53, 56, 48, 56]⟩).mono ?_)
                    rintro e w193 ⟨hb193, N192, rfl, hN192⟩
                    have B194 := Lib.hid hb193
                    have z194 := B194.out.size
                    have HB195 := Lib.hid (HB190.out.trans (B194.out.mono HB190.out.size))
                    clear hb193
                    have P1_33_196 := Lib.hid (P1_32_191.out.trans (B194.out.mono P1_32_191.out.size))
                    refine hK _ _ (fun _ => KS1 _ P1_33_196.out) ?_; clear hK K
                    (try simp only [Act.put, List.setIfInBounds_toArray, List.set_cons_zero, List.set_cons_succ])
                    refine Early.nextw (i := 81) (by kernel_rfl) rfl (by rfl) (fun K hK => ?_)
                    go_simp
                    (with_reducible refine (((QOf_any _ 1 (-9223372036854775808) (by decide) (by decide) (by decide) (by decide)).mono fun e w' h => And.intro h.1 (ret_yes (mkQ_lit (x := 1) (y := (-9223372036854775808)) (c := (mkRat (-1) 9223372036854775808)) (by decide) (by decide +kernel) (lit_QL (x := (-1)) (d := 9223372036854775808) (by decide) (by decide +kernel) (by decide +kernel) (by decide +kernel))) h.2))).mono ?_)
                    rintro e w198 ⟨hb198, v197, rfl, hv197⟩
                    have B199 := Lib.hid hb198
                    have z199 := B199.out.size
                    have HB200 := Lib.hid (HB195.out.trans (B199.out.mono HB195.out.size))
                    clear hb198
                    have P1_34_201 := Lib.hid (P1_33_196.out.trans (B199.out.mono P1_33_196.out.size))
                    refine hK _ _ (fun _ => KS1 _ P1_34_201.out) ?_; clear hK K
                    (try simp only [Act.put, List.setIfInBounds_toArray, List.set_cons_zero, List.set_cons_succ])
                    have Hr197_202 := Lib.hid hv197; clear hv197
                    refine Early.take (i := 82) (v197) rfl (by kernel_rfl) (by kernel_rfl) (by kernel_rfl) (by kernel_rfl) (by kernel_rfl) (fun c a w h => hQ c a _ _ w h) (Or.inl ⟨by rfl, ?_⟩) ?_ ?_
                    · intro w' _; go_simp
                    · exact KS1 _ (P1_34_201.out)
                    (try simp only [Act.put, List.setIfInBounds_toArray, List.set_cons_zero, List.set_cons_succ])
                    refine Early.take (i := 83) (.int .i64 0) rfl (by kernel_rfl) (by kernel_rfl) (by kernel_rfl) (by kernel_rfl) (by kernel_rfl) (fun c a w h => hQ c a _ _ w h) (Or.inl ⟨by rfl, ?_⟩) ?_ ?_
                    · intro w' _; go_simp
                    · exact KS1 _ (P1_34_201.out)
                    (try simp only [Act.put, List.setIfInBounds_toArray, List.set_cons_zero, List.set_cons_succ])
                    refine Early.nextw (i := 84) (by kernel_rfl) rfl (by rfl) (fun K hK => ?_)
                    go_simp
                    have LN_203 := One.step hN192 B199.out
                    (with_reducible refine (isQ_yes LN_203 Hr197_202.out (lit_QL (x := (-1)) (d := 9223372036854775808) (by decide) (by decide +kernel) (by decide +kernel) (by decide +kernel)) txm1 (G.step HB200.out)).mono ?_)
                    rintro e w204 ⟨hb204, rfl⟩
                    have B205 := Lib.hid hb204
                    have z205 := B205.out.size
                    have HB206 := Lib.hid (HB200.out.trans (B205.out.mono HB200.out.size))
                    clear hb204
                    have P1_35_207 := Lib.hid (P1_34_201.out.trans (B205.out.mono P1_34_201.out.size))
                    refine hK _ _ (fun _ => KS1 _ P1_35_207.out) ?_; clear hK K
                    (try simp only [Act.put, List.setIfInBounds_toArray, List.set_cons_zero, List.set_cons_succ])
                    clear LN_203
                    as_aux_lemma =>
                      refine Early.take (i := 85) (.bool true) rfl (by kernel_rfl) (by kernel_rfl) (by kernel_rfl) (by kernel_rfl) (by kernel_rfl) (fun c a w h => hQ c a _ _ w h) (Or.inl ⟨by rfl, ?_⟩) ?_ ?_
                      · intro w' _; go_simp
                      · exact KS1 _ (P1_35_207.out)
                      (try simp only [Act.put, List.setIfInBounds_toArray, List.set_cons_zero, List.set_cons_succ])
                      refine Early.take (i := 86) (.bool true) rfl (by kernel_rfl) (by kernel_rfl) (by kernel_rfl) (by kernel_rfl) (by kernel_rfl) (fun c a w h => hQ c a _ _ w h) (Or.inl ⟨by rfl, ?_⟩) ?_ ?_
                      · intro w' _; go_simp
                      · exact KS1 _ (P1_35_207.out)
                      (try simp only [Act.put, List.setIfInBounds_toArray, List.set_cons_zero, List.set_cons_succ])
                      refine Early.nextw (i := 87) (by kernel_rfl) rfl (by rfl) (fun K hK => ?_)
                      go_simp
                      (with_reducible refine (isQ_new _ ⟨#[49]⟩).mono ?_)
                      rintro e w209 ⟨hb209, N208, rfl, hN208⟩
                      have B210 := Lib.hid hb209
                      have z210 := B210.out.size
                      have HB211 := Lib.hid (HB206.out.trans (B210.out.mono HB206.out.size))
                      clear hb209
                      have P1_36_212 := Lib.hid (P1_35_207.out.trans (B210.out.mono P1_35_207.out.size))
                      refine hK _ _ (fun _ => KS1 _ P1_36_212.out) ?_; clear hK K
                      (try simp only [Act.put, List.setIfInBounds_toArray, List.set_cons_zero, List.set_cons_succ])
                      refine Early.nextw (i := 88) (by kernel_rfl) rfl (by rfl) (fun K hK => ?_)
                      go_simp
                      (with_reducible refine (((QOf_any _ (-9223372036854775808) (-9223372036854775808) (by decide) (by decide) (by decide) (by decide)).mono fun e w' h => And.intro h.1 (ret_yes (mkQ_lit (x := (-9223372036854775808)) (y := (-9223372036854775808)) (c := (mkRat 1 1)) (by decide) (by decide +kernel) (lit_QL (x := 1) (d := 1) (by decide) (by decide +kernel) (by decide +kernel) (by decide +kernel))) h.2))).mono ?_)
                      rintro e w214 ⟨hb214, v213, rfl, hv213⟩
                      have B215 := Lib.hid hb214
                      have z215 := B215.out.size
                      have HB216 := Lib.hid (HB211.out.trans (B215.out.mono HB211.out.size))
                      clear hb214
                      have P1_37_217 := Lib.hid (P1_36_212.out.trans (B215.out.mono P1_36_212.out.size))
                      refine hK _ _ (fun _ => KS1 _ P1_37_217.out) ?_; clear hK K
                      (try simp only [Act.put, List.setIfInBounds_toArray, List.set_cons_zero, List.set_cons_succ])
                      have Hr213_218 := Lib.hid hv213; clear hv213
                      refine Early.take (i := 89) (v213) rfl (by kernel_rfl) (by kernel_rfl) (by kernel_rfl) (by kernel_rfl) (by kernel_rfl) (fun c a w h => hQ c a _ _ w h) (Or.inl ⟨by rfl, ?_⟩) ?_ ?_
                      · intro w' _; go_simp
                      · exact KS1 _ (P1_37_217.out)
                      (try simp only [Act.put, List.setIfInBounds_toArray, List.set_cons_zero, List.set_cons_succ])
                      refine Early.take (i := 90) (.int .i64 0) rfl (by kernel_rfl) (by kernel_rfl) (by kernel_rfl) (by kernel_rfl) (by kernel_rfl) (fun c a w h => hQ c a _ _ w h) (Or.inl ⟨by rfl, ?_⟩) ?_ ?_
                      · intro w' _; go_simp
                      · exact KS1 _ (P1_37_217.out)
                      (try simp only [Act.put, List.setIfInBounds_toArray, List.set_cons_zero, List.set_cons_succ])
                      refine Early.nextw (i := 91) (by kernel_rfl) rfl (by rfl) (fun K hK => ?_)
                      go_simp
                      have LN_219 := One.step hN208 B215.out
                      (with_reducible refine (isQ_yes LN_219 Hr213_218.out (lit_QL (x := 1) (d := 1) (by decide) (by decide +kernel) (by decide +kernel) (by decide +kernel)) (lit_whole (s := [49]) (x := 1) (by decide +kernel)) (G.step HB216.out)).mono ?_)
                      rintro e w220 ⟨hb220, rfl⟩
                      have B221 := Lib.hid hb220
                      have z221 := B221.out.size
                      have HB222 := Lib.hid (HB216.out.trans (B221.out.mono HB216.out.size))
                      clear hb220
                      have P1_38_223 := Lib.hid (P1_37_217.out.trans (B221.out.mono P1_37_217.out.size))
                      refine hK _ _ (fun _ => KS1 _ P1_38_223.out) ?_; clear hK K
                      (try simp only [Act.put, List.setIfInBounds_toArray, List.set_cons_zero, List.set_cons_succ])
                      clear LN_219
                      as_aux_lemma =>
                        refine Early.take (i := 92) (.bool true) rfl (by kernel_rfl) (by kernel_rfl) (by kernel_rfl) (by kernel_rfl) (by kernel_rfl) (fun c a w h => hQ c a _ _ w h) (Or.inl ⟨by rfl, ?_⟩) ?_ ?_
                        · intro w' _; go_simp
                        · exact KS1 _ (P1_38_223.out)
                        (try simp only [Act.put, List.setIfInBounds_toArray, List.set_cons_zero, List.set_cons_succ])
                        refine Early.take (i := 93) (.bool true) rfl (by kernel_rfl) (by kernel_rfl) (by kernel_rfl) (by kernel_rfl) (by kernel_rfl) (fun c a w h => hQ c a _ _ w h) (Or.inl ⟨by rfl, ?_⟩) ?_ ?_
                        · intro w' _; go_simp
                        · exact KS1 _ (P1_38_223.out)
                        (try simp only [Act.put, List.setIfInBounds_toArray, List.set_cons_zero, List.set_cons_succ])
                        refine Early.done (by kernel_rfl) ?_ _; (try simp only [Exit.then])
                        clear KS1
                        have Lmost_224 := CB.step Lm0 P1_38_223.out
                        have P9_13_225 := Lib.hid (P9_12_76.out.trans (B79.out.mono P9_12_76.out.size))
                        have P9_14_226 := Lib.hid (P9_13_225.out.trans (B85.out.mono P9_13_225.out.size))
                        have P9_15_227 := Lib.hid (P9_14_226.out.trans (B90.out.mono P9_14_226.out.size))
                        have P9_16_228 := Lib.hid (P9_15_227.out.trans (B98.out.mono P9_15_227.out.size))
                        have P9_17_229 := Lib.hid (P9_16_228.out.trans (B104.out.mono P9_16_228.out.size))
                        have P9_18_230 := Lib.hid (P9_17_229.out.trans (B109.out.mono P9_17_229.out.size))
                        have P9_19_231 := Lib.hid (P9_18_230.out.trans (B114.out.mono P9_18_230.out.size))
                        have P9_20_232 := Lib.hid (P9_19_231.out.trans (B120.out.mono P9_19_231.out.size))
                        have P9_21_233 := Lib.hid (P9_20_232.out.trans (B127.out.mono P9_20_232.out.size))
                        have P9_22_234 := Lib.hid (P9_21_233.out.trans (B132.out.mono P9_21_233.out.size))
                        have P9_23_235 := Lib.hid (P9_22_234.out.trans (B137.out.mono P9_22_234.out.size))
                        have P9_24_236 := Lib.hid (P9_23_235.out.trans (B143.out.mono P9_23_235.out.size))
                        have P9_25_237 := Lib.hid (P9_24_236.out.trans (B148.out.mono P9_24_236.out.size))
                        have P9_26_238 := Lib.hid (P9_25_237.out.trans (B153.out.mono P9_25_237.out.size))
                        have P9_27_239 := Lib.hid (P9_26_238.out.trans (B159.out.mono P9_26_238.out.size))
                        have P9_28_240 := Lib.hid (P9_27_239.out.trans (B166.out.mono P9_27_239.out.size))
                        have P9_29_241 := Lib.hid (P9_28_240.out.trans (B171.out.mono P9_28_240.out.size))
                        have P9_30_242 := Lib.hid (P9_29_241.out.trans (B176.out.mono P9_29_241.out.size))
                        have P9_31_243 := Lib.hid (P9_30_242.out.trans (B182.out.mono P9_30_242.out.size))
                        have P9_32_244 := Lib.hid (P9_31_243.out.trans (B189.out.mono P9_31_243.out.size))
                        have P9_33_245 := Lib.hid (P9_32_244.out.trans (B194.out.mono P9_32_244.out.size))
                        have P9_34_246 := Lib.hid (P9_33_245.out.trans (B199.out.mono P9_33_245.out.size))
                        have P9_35_247 := Lib.hid (P9_34_246.out.trans (B205.out.mono P9_34_246.out.size))
                        have P9_36_248 := Lib.hid (P9_35_247.out.trans (B210.out.mono P9_35_247.out.size))
                        have P9_37_249 := Lib.hid (P9_36_248.out.trans (B215.out.mono P9_36_248.out.size))
                        have P9_38_250 := Lib.hid (P9_37_249.out.trans (B221.out.mono P9_37_249.out.size))
                        have Hmost_251 := Lib.hid (QV.step Hmost_55.out P9_38_250.out)
                        have Lleast_252 := CB.step Ll0 P1_38_223.out
                        have Hleast_253 := Lib.hid (QV.step Hl0.out P1_38_223.out)
                        have Lbad_254 := CB.step Lb0 P1_38_223.out
                        have P15_17_255 := Lib.hid (B98.out.trans (B104.out.mono B98.out.size))
                        have P15_18_256 := Lib.hid (P15_17_255.out.trans (B109.out.mono P15_17_255.out.size))
                        have P15_19_257 := Lib.hid (P15_18_256.out.trans (B114.out.mono P15_18_256.out.size))
                        have P15_20_258 := Lib.hid (P15_19_257.out.trans (B120.out.mono P15_19_257.out.size))
                        have P15_21_259 := Lib.hid (P15_20_258.out.trans (B127.out.mono P15_20_258.out.size))
                        have P15_22_260 := Lib.hid (P15_21_259.out.trans (B132.out.mono P15_21_259.out.size))
                        have P15_23_261 := Lib.hid (P15_22_260.out.trans (B137.out.mono P15_22_260.out.size))
                        have P15_24_262 := Lib.hid (P15_23_261.out.trans (B143.out.mono P15_23_261.out.size))
                        have P15_25_263 := Lib.hid (P15_24_262.out.trans (B148.out.mono P15_24_262.out.size))
                        have P15_26_264 := Lib.hid (P15_25_263.out.trans (B153.out.mono P15_25_263.out.size))
                        have P15_27_265 := Lib.hid (P15_26_264.out.trans (B159.out.mono P15_26_264.out.size))
                        have P15_28_266 := Lib.hid (P15_27_265.out.trans (B166.out.mono P15_27_265.out.size))
                        have P15_29_267 := Lib.hid (P15_28_266.out.trans (B171.out.mono P15_28_266.out.size))
                        have P15_30_268 := Lib.hid (P15_29_267.out.trans (B176.out.mono P15_29_267.out.size))
                        have P15_31_269 := Lib.hid (P15_30_268.out.trans (B182.out.mono P15_30_268.out.size))
                        have P15_32_270 := Lib.hid (P15_31_269.out.trans (B189.out.mono P15_31_269.out.size))
                        have P15_33_271 := Lib.hid (P15_32_270.out.trans (B194.out.mono P15_32_270.out.size))
                        have P15_34_272 := Lib.hid (P15_33_271.out.trans (B199.out.mono P15_33_271.out.size))
                        have P15_35_273 := Lib.hid (P15_34_272.out.trans (B205.out.mono P15_34_272.out.size))
                        have P15_36_274 := Lib.hid (P15_35_273.out.trans (B210.out.mono P15_35_273.out.size))
                        have P15_37_275 := Lib.hid (P15_36_274.out.trans (B215.out.mono P15_36_274.out.size))
                        have P15_38_276 := Lib.hid (P15_37_275.out.trans (B221.out.mono P15_37_275.out.size))
                        have Hbad_277 := Lib.hid (QR.step Hbad_96.out P15_38_276.out)
                        exact hK.out _ _ _ _ _ _ _ _ _ _ _ _ _ _ _ _ _ _ _ _ _ _ _ _ _ _ _ _ _ _ _ _ _ _ _ _ _ _ _ _ _ _ _ _ _ _ _ _ _ _ _ _ _ _ _ _ _ _ _ _ _ _ _ _ _ _ _ _ _ _ _ _ _ _ _ _ _ _ _ _ _ _ _ _ _ _ _ _ _ _ _ _ _ _ HB222 Lmost_224 Hmost_251 Lleast_252 Hleast_253 Lbad_254 Hbad_277
end Go.Proofs.YtngpibfakemmhaaGreatDoor
