/- Region 6 of the law LongKnown (written by gen_known.py): it leaves true, and all that was there. -/
import Derived.Test.YtnbanlmkoljghaaGreatDoorWorks
import Derived.Test.YtnbanlmkoljghaaGreatDoorOdd
import Derived.Test.YtnbanlmkoljghaaGreatDoorSquares
import Derived.Maps.AppendAt
import Derived.Deep.RegionHeld3
namespace Go.Proofs.YtnbanlmkoljghaaGreatDoor
open Go Go.RowKit Dig

set_option maxRecDepth 100000 in
set_option maxHeartbeats 20000000 in
theorem known_r6 {w wc : World} (G : Glob w) {T H Z : Int} {ns ms : List UInt8} {NB : ByteArray} {lb lt : List Int} {bb bm cm : Nat} {AB Am : Option Addr} (HM : Hid (Most T H ns ms)) (HZ : Hid (Z = 0)) (HNBs : Hid (NB.size = 5400)) (HNB9 : Hid (NB.data.toList = ns)) (Hlt : Hid (lt.length = 600)) (HVT : Hid (Valid false lt)) (HVB : Hid (¬ Valid false lb))
    {K : Act → World → Prop} {Q : Exit → Act → World → Prop} {u0 u4 u5 u6 u7 u8 u9 u10 u11 u12 u13 u14 u15 u16 u17 u18 u19 u20 u21 u22 u23 u24 u25 u26 u27 u28 u29 u30 u31 u32 u33 u34 u35 u36 u37 u38 u39 u40 u41 u42 u43 u44 u45 u46 u47 u48 u49 u50 u51 u52 u53 u54 u55 u56 u57 u58 u59 u60 u61 u62 u63 u64 u65 u66 u67 u68 u69 u70 u71 u72 u73 u74 u75 u76 u77 u78 u79 u80 u81 u82 u83 u84 u85 u86 u87 u88 u89 u90 u91 u92 u93 u94 u95 u96 u97 u98 u99 u100 u101 u102 u103 u104 u105 u106 u107 u108 u109 u110 u111 u112 u113 u114 u115 u116 u117 u118 u119 u120 u121 u122 u123 u124 u125 u126 u127 u128 u129 u130 u131 u132 u133 u134 u135 u136 u137 u138 u139 u140 u141 u142 u143 u144 u145 u146 u147 u148 u149 u150 u151 u152 u153 u154 u155 u156 u157 u158 u159 u160 u161 u162 u163 u164 u165 u166 u167 u168 u169 u170 u171 u172 u173 u174 u175 u176 u177 u178 u179 u180 u181 u182 u183 u184 u185 u186 u187 u188 u189 u190 u191 u192 u193 u194 u195 u196 u197 u198 u199 u200 u201 u202 u203 u204 u205 u206 u207 u208 u209 u210 u211 u212 u213 u214 u215 u216 u217 u218 u219 u220 u221 u222 u223 u224 u225 u226 u227 u228 u229 u230 u231 u232 u233 u234 u235 u236 u237 u238 u239 u240 u241 u242 u243 u244 u245 u246 u247 u248 u249 u250 u251 u252 u253 u254 u255 u256 u257 u258 u259 u260 u261 u262 u263 u264 u265 u266 u267 u268 u269 u270 u271 u272 u273 u274 u275 u276 u277 u278 u279 u280 u281 u282 u283 u284 u285 u286 u287 u288 u289 u290 u291 u292 u293 u294 u295 u296 u297 u298 u299 u300 u301 u302 u303 u304 u305 u306 u307 u308 u309 u310 u311 u312 u313 u314 u315 u316 u317 u318 u319 u320 u321 u322 u323 u324 u325 u326 u327 u328 u329 u330 u331 u332 u333 u334 u335 u336 u337 u338 u339 u340 u341 u342 u343 u344 u345 u346 u347 u348 u349 u350 u351 u352 u353 u354 u355 u356 u357 u358 u359 u360 u361 u362 u363 u364 u365 u366 u367 u368 u369 : Value}
    (HB_0 : Hid (Below w.heap.size w wc)) (Lbad_0 : LB wc bb (.bool false) (.slice AB 1 1)) (Hbad_0 : Hid (LR wc wc.heap.size (.agg #[.bool false, .slice AB 1 1]) false lb)) (Lmost_0 : LB wc bm (.bool false) (.slice Am 600 cm)) (Hmost_0 : Hid (LR wc wc.heap.size (.agg #[.bool false, .slice Am 600 cm]) false lt)) (hlb : bb < bm)
    (hK : ∀ (v28 v29 v30 v31 v32 v33 v34 v35 v36 v37 v38 v39 v40 v41 v42 v43 v44 v45 v46 v47 v48 v49 v50 v51 v52 v53 v54 v55 v56 v57 v58 v59 v60 v61 v62 v63 v64 v65 v66 v67 v68 v69 v70 v71 v72 v73 v74 v75 v76 v77 v78 v79 v80 v81 v82 v83 v84 v85 v86 v87 v88 v89 v90 v91 v92 v93 v94 v95 v96 v97 v98 v99 v100 v101 v102 : Value) (wx : World), Hid (Below w.heap.size w wx) → LB wx bb (.bool false) (.slice AB 1 1) → Hid (LR wx wx.heap.size (.agg #[.bool false, .slice AB 1 1]) false lb) → LB wx bm (.bool false) (.slice Am 600 cm) → Hid (LR wx wx.heap.size (.agg #[.bool false, .slice Am 600 cm]) false lt) → K ⟨#[u0, .pointer (some ⟨bb, 0, none⟩), .string NB, .pointer (some ⟨bm, 0, none⟩), .bool true, u5, u6, u7, u8, u9, u10, u11, u12, u13, u14, u15, u16, u17, u18, u19, u20, u21, u22, u23, u24, u25, u26, u27, v28, v29, v30, v31, v32, v33, v34, v35, v36, v37, v38, v39, v40, v41, v42, v43, v44, v45, v46, v47, v48, v49, v50, v51, v52, v53, v54, v55, v56, v57, v58, v59, v60, v61, v62, v63, v64, v65, v66, v67, v68, v69, v70, v71, v72, v73, v74, v75, v76, v77, v78, v79, v80, v81, v82, v83, v84, v85, v86, v87, v88, v89, v90, v91, v92, v93, v94, v95, v96, v97, v98, v99, v100, v101, v102, u103, u104, u105, u106, u107, u108, u109, u110, u111, u112, u113, u114, u115, u116, u117, u118, u119, u120, u121, u122, u123, u124, u125, u126, u127, u128, u129, u130, u131, u132, u133, u134, u135, u136, u137, u138, u139, u140, u141, u142, u143, u144, u145, u146, u147, u148, u149, u150, u151, u152, u153, u154, u155, u156, u157, u158, u159, u160, u161, u162, u163, u164, u165, u166, u167, u168, u169, u170, u171, u172, u173, u174, u175, u176, u177, u178, u179, u180, u181, u182, u183, u184, u185, u186, u187, u188, u189, u190, u191, u192, u193, u194, u195, u196, u197, u198, u199, u200, u201, u202, u203, u204, u205, u206, u207, u208, u209, u210, u211, u212, u213, u214, u215, u216, u217, u218, u219, u220, u221, u222, u223, u224, u225, u226, u227, u228, u229, u230, u231, u232, u233, u234, u235, u236, u237, u238, u239, u240, u241, u242, u243, u244, u245, u246, u247, u248, u249, u250, u251, u252, u253, u254, u255, u256, u257, u258, u259, u260, u261, u262, u263, u264, u265, u266, u267, u268, u269, u270, u271, u272, u273, u274, u275, u276, u277, u278, u279, u280, u281, u282, u283, u284, u285, u286, u287, u288, u289, u290, u291, u292, u293, u294, u295, u296, u297, u298, u299, u300, u301, u302, u303, u304, u305, u306, u307, u308, u309, u310, u311, u312, u313, u314, u315, u316, u317, u318, u319, u320, u321, u322, u323, u324, u325, u326, u327, u328, u329, u330, u331, u332, u333, u334, u335, u336, u337, u338, u339, u340, u341, u342, u343, u344, u345, u346, u347, u348, u349, u350, u351, u352, u353, u354, u355, u356, u357, u358, u359, u360, u361, u362, u363, u364, u365, u366, u367, u368, u369], []⟩ wx) :
    Code.wp Tryz.prog (kn_fst (kn_snd (kn_snd (kn_snd (kn_snd (kn_snd (Tryz.f15.body.getD .skip))))))) (Exit.then K Q) ⟨#[u0, .pointer (some ⟨bb, 0, none⟩), .string NB, .pointer (some ⟨bm, 0, none⟩), u4, u5, u6, u7, u8, u9, u10, u11, u12, u13, u14, u15, u16, u17, u18, u19, u20, u21, u22, u23, u24, u25, u26, u27, u28, u29, u30, u31, u32, u33, u34, u35, u36, u37, u38, u39, u40, u41, u42, u43, u44, u45, u46, u47, u48, u49, u50, u51, u52, u53, u54, u55, u56, u57, u58, u59, u60, u61, u62, u63, u64, u65, u66, u67, u68, u69, u70, u71, u72, u73, u74, u75, u76, u77, u78, u79, u80, u81, u82, u83, u84, u85, u86, u87, u88, u89, u90, u91, u92, u93, u94, u95, u96, u97, u98, u99, u100, u101, u102, u103, u104, u105, u106, u107, u108, u109, u110, u111, u112, u113, u114, u115, u116, u117, u118, u119, u120, u121, u122, u123, u124, u125, u126, u127, u128, u129, u130, u131, u132, u133, u134, u135, u136, u137, u138, u139, u140, u141, u142, u143, u144, u145, u146, u147, u148, u149, u150, u151, u152, u153, u154, u155, u156, u157, u158, u159, u160, u161, u162, u163, u164, u165, u166, u167, u168, u169, u170, u171, u172, u173, u174, u175, u176, u177, u178, u179, u180, u181, u182, u183, u184, u185, u186, u187, u188, u189, u190, u191, u192, u193, u194, u195, u196, u197, u198, u199, u200, u201, u202, u203, u204, u205, u206, u207, u208, u209, u210, u211, u212, u213, u214, u215, u216, u217, u218, u219, u220, u221, u222, u223, u224, u225, u226, u227, u228, u229, u230, u231, u232, u233, u234, u235, u236, u237, u238, u239, u240, u241, u242, u243, u244, u245, u246, u247, u248, u249, u250, u251, u252, u253, u254, u255, u256, u257, u258, u259, u260, u261, u262, u263, u264, u265, u266, u267, u268, u269, u270, u271, u272, u273, u274, u275, u276, u277, u278, u279, u280, u281, u282, u283, u284, u285, u286, u287, u288, u289, u290, u291, u292, u293, u294, u295, u296, u297, u298, u299, u300, u301, u302, u303, u304, u305, u306, u307, u308, u309, u310, u311, u312, u313, u314, u315, u316, u317, u318, u319, u320, u321, u322, u323, u324, u325, u326, u327, u328, u329, u330, u331, u332, u333, u334, u335, u336, u337, u338, u339, u340, u341, u342, u343, u344, u345, u346, u347, u348, u349, u350, u351, u352, u353, u354, u355, u356, u357, u358, u359, u360, u361, u362, u363, u364, u365, u366, u367, u368, u369], []⟩ wc := by
  have ne_bad_most := Nat.ne_of_lt hlb
  show Code.wp _ (Code.region 6 _ _) _ _ _
  replace hK := Lib.hid hK
  have HSZ1 : Hid (ByteArray.size (NB ++ ⟨#[57]⟩ : ByteArray) = 5401) := Lib.hid (by rw [size_list]; simp only [app_list, List.length_append, ← size_list, HNBs.out]; rfl)
  have HSZ2 : Hid (ByteArray.size (NB ++ ⟨#[120]⟩ : ByteArray) = 5401) := Lib.hid (by rw [size_list]; simp only [app_list, List.length_append, ← size_list, HNBs.out]; rfl)
  have HSZ3 : Hid (ByteArray.size (⟨#[45]⟩ ++ NB : ByteArray) = 5401) := Lib.hid (by rw [size_list]; simp only [app_list, List.length_append, ← size_list, HNBs.out]; rfl)
  have HSZ4 : Hid (ByteArray.size (⟨#[45]⟩ ++ NB ++ ⟨#[57]⟩ : ByteArray) = 5402) := Lib.hid (by rw [size_list]; simp only [app_list, List.length_append, ← size_list, HNBs.out]; rfl)
  have HFT : Hid ((dig T.natAbs).length ≤ 600) := Lib.hid (by rw [HM.out.len]; decide)
  have HFMT : Hid ((dig (-T).natAbs).length ≤ 600) := Lib.hid (by rw [Int.natAbs_neg, HM.out.len]; decide)
  have HFH : Hid ((dig H.natAbs).length ≤ 600) := Lib.hid (by rw [← HM.out.root, Int.natAbs_natCast]; exact Nat.le_trans (dig_len_mono (rootN_le _)) HFT.out)
  have TNB : Hid (Lib.itoa T = NB.data.toList) := Lib.hid (by rw [HNB9.out]; exact HM.out.text)
  have TDA : Hid (Lib.itoa (-T) = (⟨#[45]⟩ ++ NB : ByteArray).data.toList) := Lib.hid (by simp only [app_list]; rw [HNB9.out]; exact HM.out.dtext)
  have TZ : Hid (Lib.itoa Z = (⟨#[48]⟩ : ByteArray).data.toList) := Lib.hid (by rw [HZ.out]; exact lit_itoa (by decide +kernel))
  have HFZ : Hid ((dig Z.natAbs).length ≤ 600) := Lib.hid (by rw [HZ.out]; exact fit_small (by decide))
  have FA1 : Hid (A2 (fun a b => toldZ (a + b)) (some T) (some 1) = (Z, 6)) := Lib.hid (by rw [HZ.out]; exact HM.out.plus)
  have FA2 : Hid (A2 (fun a b => toldZ (a + b)) (some T) (some 0) = (T, 0)) := Lib.hid (by show toldZ (T + 0) = _; rw [Int.add_zero]; exact told_fit HFT.out)
  have FA3 : Hid (A2 (fun a b => toldZ (a - b)) (some T) (some T) = (Z, 0)) := Lib.hid (by show toldZ (T - T) = _; rw [Int.sub_self, HZ.out]; exact told_fit (fit_small (by decide)))
  have FA4 : Hid (A2 (fun a b => toldZ (a - b)) (some (-1)) (some T) = (Z, 6)) := Lib.hid (by rw [HZ.out]; exact HM.out.less)
  have FA5 : Hid (A2 (fun a b => toldZ (a * b)) (some T) (some 2) = (Z, 6)) := Lib.hid (by rw [HZ.out]; exact HM.out.twice)
  have FA6 : Hid (A2 (fun a b => toldZ (a * b)) (some T) (some (-1)) = (-T, 0)) := Lib.hid (by show toldZ (T * -1) = _; rw [Int.mul_neg, Int.mul_one]; exact told_fit HFMT.out)
  have FA7 : Hid (A1 (fun a => (-a, 0)) (some T) = (-T, 0)) := Lib.hid (by rfl)
  have FA8 : Hid (A1 (fun a => (-a, 0)) (some 0) = (Z, 0)) := Lib.hid (by rw [HZ.out]; rfl)
  have FA9 : Hid (A1 sqrtZ (some 0) = (Z, 0)) := Lib.hid (by show sqrtZ 0 = _; rw [sqrtZ, if_neg (by decide), HZ.out, ← rootN_eq (s := 0) (by decide) (by decide)]; rfl)
  have FA10 : Hid (A1 sqrtZ (some T) = (H, 0)) := Lib.hid (by show sqrtZ T = _; rw [sqrtZ, if_neg (by have := HM.out.pos; omega), HM.out.root])
  have FA11 : Hid (A2 (fun a b => toldZ (Int.gcd a b : Int)) (some T) (some 0) = (T, 0)) := Lib.hid (by show toldZ (Int.gcd T 0 : Int) = _; rw [Int.gcd_zero_right, show ((T.natAbs : Nat) : Int) = T by have := HM.out.pos; omega]; exact told_fit HFT.out)
  have FB1 : Hid (∀ (f : Int → Int → Int × Int) (x : Option Int), A2 f none x = (Z, 30)) := Lib.hid (by intro f x; rw [HZ.out]; rfl)
  have FB2 : Hid (∀ (f : Int → Int → Int × Int) (x : Option Int), A2 f x none = (Z, 30)) := Lib.hid (by intro f x; rw [HZ.out]; cases x <;> rfl)
  have FB3 : Hid (∀ (f : Int → Int × Int), A1 f none = (Z, 30)) := Lib.hid (by intro f; rw [HZ.out]; rfl)
  have q5_0 := Lbad_0.cell0
  have q5_1 := Lbad_0.cell1
  have q5_2 := Lbad_0.frozen 0
  have q5_3 := Lbad_0.frozen 1
  have q5_lt := Lbad_0.lt
  have q6_0 := Lmost_0.cell0
  have q6_1 := Lmost_0.cell1
  have q6_2 := Lmost_0.frozen 0
  have q6_3 := Lmost_0.frozen 1
  have q6_lt := Lmost_0.lt
  have q7_0 := Lmost_0.cell0
  have q7_1 := Lmost_0.cell1
  have q7_2 := Lmost_0.frozen 0
  have q7_3 := Lmost_0.frozen 1
  have q7_lt := Lmost_0.lt
  go_wp2_with fail
  refine (Check_good Hmost_0.out HVT.out).mono ?_
  rintro e w8 ⟨hb8, rfl⟩
  have HB_9 := Lib.hid (HB_0.out.trans (hb8.mono HB_0.out.size))
  clear HB_0
  have Lbad_10 := Lbad_0.step hb8
  clear Lbad_0
  have Lmost_10 := Lmost_0.step hb8
  clear Lmost_0
  have Hbad_10 := Lib.hid (Hbad_0.out.step hb8)
  clear Hbad_0
  have Hmost_10 := Lib.hid (Hmost_0.out.step hb8)
  clear Hmost_0
  clear hb8
  clear q5_0 q5_1 q5_2 q5_3 q5_lt q6_0 q6_1 q6_2 q6_3 q6_lt q7_0 q7_1 q7_2 q7_3 q7_lt
  have q11_0 := Lmost_10.cell0
  have q11_1 := Lmost_10.cell1
  have q11_2 := Lmost_10.frozen 0
  have q11_3 := Lmost_10.frozen 1
  have q11_lt := Lmost_10.lt
  obtain ⟨sT, hsT1, hsT⟩ := Hmost_10.out
  injection hsT1 with hsT1; simp at hsT1; subst hsT1
  go_wp2_with fail
  refine (clone_ints _ _ lt hsT (by rw [Hlt.out]; decide)).mono ?_
  rintro e w12 ⟨hb12, vc, rfl, hvc⟩
  clear hsT
  have HVC := Lib.hid hvc
  clear hvc
  clear q11_0 q11_1 q11_2 q11_3 q11_lt
  obtain ⟨i0, hi, hz0, hz1, hz2⟩ := info_parts info_int
  obtain ⟨gc, capc, rfl, -⟩ : ∃ g cap, vc = .slice (some ⟨g, 0, none⟩) 600 cap ∧ True := by rcases HVC.out.form with ⟨_, h⟩ | ⟨g, cap, h, _⟩; (have h1 := Hlt.out; rw [h] at h1; simp at h1); (rw [Hlt.out] at h; exact ⟨g, cap, h, trivial⟩)
  have hown := HVC.out.alloc (.cells #[.int .i64 1] 3)
  unfold OwnV at hown
  rw [Hlt.out] at hown
  have hszc := hb12.size
  go_wp2_with fail
  (refine append_guarded (by rfl) _ _ 22 rfl (w8.heap.size) 3 i0 (.int .i64 0) 1 8 Tryz.underlying22 hi hz0 hz1 hz2 rfl (by decide) (.slice (some ⟨gc, 0, none⟩) 600 capc) 600 (lt.map (Value.int .i64)) rfl hown ⟨w12.heap.size, 0, none⟩ 1 1 [.int .i64 1] rfl rfl (cell_one_new _ _ _) (by intro u hu; simp at hu; subst hu; rfl) (by unfold maxLen; omega) (by omega) (by simp; omega) ?_)
  intro va wa hown' hgrow
  have hba : Below w8.heap.size w8 wa := (hb12.alloc hb12.size (.cells #[.int .i64 1] 3)).grown hgrow (by simp; omega) (fun g he => by have := (World.ownsRow.lt hown g he).1; omega)
  have hva : OwnV wa w8.heap.size va (lt ++ [1]) := by rw [OwnV, List.length_append, Hlt.out, List.map_append]; exact hown'
  have hl601 : (lt ++ [1]).length = 601 := by rw [List.length_append, Hlt.out]; rfl
  obtain ⟨ga, capa, rfl⟩ : ∃ g cap, va = .slice (some ⟨g, 0, none⟩) 601 cap := by rcases hva.form with ⟨_, h⟩ | ⟨g, cap, h, _⟩; (rw [h] at hl601; simp at hl601); (rw [hl601] at h; exact ⟨g, cap, h⟩)
  have HLA := Lib.hid (show LR wa wa.heap.size (.agg #[.bool false, .slice (some ⟨ga, 0, none⟩) 601 capa]) false (lt ++ [1]) from ⟨_, rfl, hva.ri⟩)
  clear hl601 hown hown' hgrow hva HVC hb12 hszc hi hz0 hz1 hz2
  have HB_13 := Lib.hid (HB_9.out.trans (hba.mono HB_9.out.size))
  clear HB_9
  have Lbad_14 := Lbad_10.step hba
  clear Lbad_10
  have Lmost_14 := Lmost_10.step hba
  clear Lmost_10
  have Hbad_14 := Lib.hid (Hbad_10.out.step hba)
  clear Hbad_10
  have Hmost_14 := Lib.hid (Hmost_10.out.step hba)
  clear Hmost_10
  clear hba
  go_wp2_with fail
  refine (Check_bad HLA.out (bad_long (by rw [List.length_append, Hlt.out]; decide))).mono ?_
  rintro e w15 ⟨hb15, rfl⟩
  clear HLA
  have HB_16 := Lib.hid (HB_13.out.trans (hb15.mono HB_13.out.size))
  clear HB_13
  have Lbad_17 := Lbad_14.step hb15
  clear Lbad_14
  have Lmost_17 := Lmost_14.step hb15
  clear Lmost_14
  have Hbad_17 := Lib.hid (Hbad_14.out.step hb15)
  clear Hbad_14
  have Hmost_17 := Lib.hid (Hmost_14.out.step hb15)
  clear Hmost_14
  clear hb15
  have q18_0 := Lbad_17.cell0
  have q18_1 := Lbad_17.cell1
  have q18_2 := Lbad_17.frozen 0
  have q18_3 := Lbad_17.frozen 1
  have q18_lt := Lbad_17.lt
  go_wp2_with fail
  refine (Check_bad Hbad_17.out HVB.out).mono ?_
  rintro e w19 ⟨hb19, rfl⟩
  have HB_20 := Lib.hid (HB_16.out.trans (hb19.mono HB_16.out.size))
  clear HB_16
  have Lbad_21 := Lbad_17.step hb19
  clear Lbad_17
  have Lmost_21 := Lmost_17.step hb19
  clear Lmost_17
  have Hbad_21 := Lib.hid (Hbad_17.out.step hb19)
  clear Hbad_17
  have Hmost_21 := Lib.hid (Hmost_17.out.step hb19)
  clear Hmost_17
  clear hb19
  clear q18_0 q18_1 q18_2 q18_3 q18_lt
  go_wp2_with fail
  refine (Check_bad (LR.row1 _ (1000000000)) (bad_digit (by omega))).mono ?_
  rintro e w23 ⟨hb23, rfl⟩
  have hk22 := ((Below.refl w19.heap.size w19).alloc (Nat.le_refl _) (.cells #[.int .i64 (1000000000)] 3)).trans (hb23.mono (by simp))
  clear hb23
  have HB_24 := Lib.hid (HB_20.out.trans (hk22.mono HB_20.out.size))
  clear HB_20
  have Lbad_25 := Lbad_21.step hk22
  clear Lbad_21
  have Lmost_25 := Lmost_21.step hk22
  clear Lmost_21
  have Hbad_25 := Lib.hid (Hbad_21.out.step hk22)
  clear Hbad_21
  have Hmost_25 := Lib.hid (Hmost_21.out.step hk22)
  clear Hmost_21
  clear hk22
  go_wp2_with fail
  refine (Check_bad (LR.row1 _ (-1)) (bad_digit (by omega))).mono ?_
  rintro e w27 ⟨hb27, rfl⟩
  have hk26 := ((Below.refl w23.heap.size w23).alloc (Nat.le_refl _) (.cells #[.int .i64 (-1)] 3)).trans (hb27.mono (by simp))
  clear hb27
  have HB_28 := Lib.hid (HB_24.out.trans (hk26.mono HB_24.out.size))
  clear HB_24
  have Lbad_29 := Lbad_25.step hk26
  clear Lbad_25
  have Lmost_29 := Lmost_25.step hk26
  clear Lmost_25
  have Hbad_29 := Lib.hid (Hbad_25.out.step hk26)
  clear Hbad_25
  have Hmost_29 := Lib.hid (Hmost_25.out.step hk26)
  clear Hmost_25
  clear hk26
  go_wp2_with fail
  refine (fails_any _ 6).mono ?_
  rintro e w31 ⟨hb31, N30, rfl, hN30⟩
  have HB_32 := Lib.hid (HB_28.out.trans (hb31.mono HB_28.out.size))
  clear HB_28
  have Lbad_33 := Lbad_29.step hb31
  clear Lbad_29
  have Lmost_33 := Lmost_29.step hb31
  clear Lmost_29
  have Hbad_33 := Lib.hid (Hbad_29.out.step hb31)
  clear Hbad_29
  have Hmost_33 := Lib.hid (Hmost_29.out.step hb31)
  clear Hmost_29
  clear hb31
  have HN30 := Lib.hid hN30
  clear hN30
  have zz34 := HNBs.out
  have tp35 : parseZ ((NB ++ ⟨#[57]⟩ : ByteArray)).data.toList = (Z, 6) := by simp only [app_list]; rw [HNB9.out, HZ.out]; exact HM.out.more
  have TP35 := Lib.hid tp35
  clear tp35
  go_wp2_with fail
  refine (Parse_is (by rw [HSZ1.out]; decide) TP35.out).mono ?_
  rintro e w36 ⟨hb36, v35, rfl, hv35⟩
  have HB_37 := Lib.hid (HB_32.out.trans (hb36.mono HB_32.out.size))
  clear HB_32
  have Lbad_38 := Lbad_33.step hb36
  clear Lbad_33
  have Lmost_38 := Lmost_33.step hb36
  clear Lmost_33
  have Hbad_38 := Lib.hid (Hbad_33.out.step hb36)
  clear Hbad_33
  have Hmost_38 := Lib.hid (Hmost_33.out.step hb36)
  clear Hmost_33
  have Oc_38 := Lib.hid (HN30.out.step hb36)
  clear HN30
  clear hb36
  clear zz34
  clear TP35
  have HV35 := Lib.hid hv35
  clear hv35
  go_wp2_with fail
  refine (fails1_z HZ.out Oc_38.out HV35.out).mono ?_
  rintro e w39 ⟨hb39, rfl⟩
  clear Oc_38
  clear HV35
  have HB_40 := Lib.hid (HB_37.out.trans (hb39.mono HB_37.out.size))
  clear HB_37
  have Lbad_41 := Lbad_38.step hb39
  clear Lbad_38
  have Lmost_41 := Lmost_38.step hb39
  clear Lmost_38
  have Hbad_41 := Lib.hid (Hbad_38.out.step hb39)
  clear Hbad_38
  have Hmost_41 := Lib.hid (Hmost_38.out.step hb39)
  clear Hmost_38
  clear hb39
  go_wp2_with fail
  refine (fails_any _ 5).mono ?_
  rintro e w43 ⟨hb43, N42, rfl, hN42⟩
  have HB_44 := Lib.hid (HB_40.out.trans (hb43.mono HB_40.out.size))
  clear HB_40
  have Lbad_45 := Lbad_41.step hb43
  clear Lbad_41
  have Lmost_45 := Lmost_41.step hb43
  clear Lmost_41
  have Hbad_45 := Lib.hid (Hbad_41.out.step hb43)
  clear Hbad_41
  have Hmost_45 := Lib.hid (Hmost_41.out.step hb43)
  clear Hmost_41
  clear hb43
  have HN42 := Lib.hid hN42
  clear hN42
  have zz46 := HNBs.out
  have tp47 : parseZ ((NB ++ ⟨#[120]⟩ : ByteArray)).data.toList = (Z, 5) := by simp only [app_list]; rw [HNB9.out, HZ.out]; exact HM.out.letter
  have TP47 := Lib.hid tp47
  clear tp47
  go_wp2_with fail
  refine (Parse_is (by rw [HSZ2.out]; decide) TP47.out).mono ?_
  rintro e w48 ⟨hb48, v47, rfl, hv47⟩
  have HB_49 := Lib.hid (HB_44.out.trans (hb48.mono HB_44.out.size))
  clear HB_44
  have Lbad_50 := Lbad_45.step hb48
  clear Lbad_45
  have Lmost_50 := Lmost_45.step hb48
  clear Lmost_45
  have Hbad_50 := Lib.hid (Hbad_45.out.step hb48)
  clear Hbad_45
  have Hmost_50 := Lib.hid (Hmost_45.out.step hb48)
  clear Hmost_45
  have Oc_50 := Lib.hid (HN42.out.step hb48)
  clear HN42
  clear hb48
  clear zz46
  clear TP47
  have HV47 := Lib.hid hv47
  clear hv47
  go_wp2_with fail
  refine (fails1_z HZ.out Oc_50.out HV47.out).mono ?_
  rintro e w51 ⟨hb51, rfl⟩
  clear Oc_50
  clear HV47
  have HB_52 := Lib.hid (HB_49.out.trans (hb51.mono HB_49.out.size))
  clear HB_49
  have Lbad_53 := Lbad_50.step hb51
  clear Lbad_50
  have Lmost_53 := Lmost_50.step hb51
  clear Lmost_50
  have Hbad_53 := Lib.hid (Hbad_50.out.step hb51)
  clear Hbad_50
  have Hmost_53 := Lib.hid (Hmost_50.out.step hb51)
  clear Hmost_50
  clear hb51
  go_wp2_with fail
  refine (fails_any _ 6).mono ?_
  rintro e w55 ⟨hb55, N54, rfl, hN54⟩
  have HB_56 := Lib.hid (HB_52.out.trans (hb55.mono HB_52.out.size))
  clear HB_52
  have Lbad_57 := Lbad_53.step hb55
  clear Lbad_53
  have Lmost_57 := Lmost_53.step hb55
  clear Lmost_53
  have Hbad_57 := Lib.hid (Hbad_53.out.step hb55)
  clear Hbad_53
  have Hmost_57 := Lib.hid (Hmost_53.out.step hb55)
  clear Hmost_53
  clear hb55
  have HN54 := Lib.hid hN54
  clear hN54
  have zz58 := HNBs.out
  have zz59 := HSZ3.out
  have tp60 : parseZ ((⟨#[45]⟩ ++ NB ++ ⟨#[57]⟩ : ByteArray)).data.toList = (Z, 6) := by simp only [app_list]; rw [HNB9.out, HZ.out]; exact HM.out.dmore
  have TP60 := Lib.hid tp60
  clear tp60
  go_wp2_with fail
  refine (Parse_is (by rw [HSZ4.out]; decide) TP60.out).mono ?_
  rintro e w61 ⟨hb61, v60, rfl, hv60⟩
  have HB_62 := Lib.hid (HB_56.out.trans (hb61.mono HB_56.out.size))
  clear HB_56
  have Lbad_63 := Lbad_57.step hb61
  clear Lbad_57
  have Lmost_63 := Lmost_57.step hb61
  clear Lmost_57
  have Hbad_63 := Lib.hid (Hbad_57.out.step hb61)
  clear Hbad_57
  have Hmost_63 := Lib.hid (Hmost_57.out.step hb61)
  clear Hmost_57
  have Oc_63 := Lib.hid (HN54.out.step hb61)
  clear HN54
  clear hb61
  clear zz58 zz59
  clear TP60
  have HV60 := Lib.hid hv60
  clear hv60
  go_wp2_with fail
  refine (fails1_z HZ.out Oc_63.out HV60.out).mono ?_
  rintro e w64 ⟨hb64, rfl⟩
  clear Oc_63
  clear HV60
  have HB_65 := Lib.hid (HB_62.out.trans (hb64.mono HB_62.out.size))
  clear HB_62
  have Lbad_66 := Lbad_63.step hb64
  clear Lbad_63
  have Lmost_66 := Lmost_63.step hb64
  clear Lmost_63
  have Hbad_66 := Lib.hid (Hbad_63.out.step hb64)
  clear Hbad_63
  have Hmost_66 := Lib.hid (Hmost_63.out.step hb64)
  clear Hmost_63
  clear hb64
  have zz67 := HNBs.out
  go_wp2_with fail
  refine (is_any _ (⟨#[45]⟩ ++ NB)).mono ?_
  rintro e w69 ⟨hb69, N68, rfl, hN68⟩
  have HB_70 := Lib.hid (HB_65.out.trans (hb69.mono HB_65.out.size))
  clear HB_65
  have Lbad_71 := Lbad_66.step hb69
  clear Lbad_66
  have Lmost_71 := Lmost_66.step hb69
  clear Lmost_66
  have Hbad_71 := Lib.hid (Hbad_66.out.step hb69)
  clear Hbad_66
  have Hmost_71 := Lib.hid (Hmost_66.out.step hb69)
  clear Hmost_66
  clear hb69
  clear zz67
  have HN68 := Lib.hid hN68
  clear hN68
  have zz72 := HNBs.out
  have tp73 : parseZ ((⟨#[45]⟩ ++ NB : ByteArray)).data.toList = ((-T), 0) := by simp only [app_list]; rw [HNB9.out]; exact HM.out.dash
  have TP73 := Lib.hid tp73
  clear tp73
  go_wp2_with fail
  refine (Parse_is (by rw [HSZ3.out]; decide) TP73.out).mono ?_
  rintro e w74 ⟨hb74, v73, rfl, hv73⟩
  have HB_75 := Lib.hid (HB_70.out.trans (hb74.mono HB_70.out.size))
  clear HB_70
  have Lbad_76 := Lbad_71.step hb74
  clear Lbad_71
  have Lmost_76 := Lmost_71.step hb74
  clear Lmost_71
  have Hbad_76 := Lib.hid (Hbad_71.out.step hb74)
  clear Hbad_71
  have Hmost_76 := Lib.hid (Hmost_71.out.step hb74)
  clear Hmost_71
  have Oc_76 := Lib.hid (HN68.out.step hb74)
  clear HN68
  clear hb74
  clear zz72
  clear TP73
  have HV73 := Lib.hid hv73
  clear hv73
  have ti77 : Lib.itoa (-T) = ((⟨#[45]⟩ ++ NB) : ByteArray).data.toList := by simp only [app_list]; rw [HNB9.out]; exact HM.out.dtext
  have TI77 := Lib.hid ti77
  clear ti77
  go_wp2_with fail
  refine (is1_yes _ _ (⟨#[45]⟩ ++ NB) _ (-T) Oc_76.out HV73.out HFMT.out TI77.out (G.step HB_75.out)).mono ?_
  rintro e w78 ⟨hb78, rfl⟩
  clear Oc_76
  clear HV73
  have HB_79 := Lib.hid (HB_75.out.trans (hb78.mono HB_75.out.size))
  clear HB_75
  have Lbad_80 := Lbad_76.step hb78
  clear Lbad_76
  have Lmost_80 := Lmost_76.step hb78
  clear Lmost_76
  have Hbad_80 := Lib.hid (Hbad_76.out.step hb78)
  clear Hbad_76
  have Hmost_80 := Lib.hid (Hmost_76.out.step hb78)
  clear Hmost_76
  clear hb78
  clear TI77
  have q81_0 := Lbad_80.cell0
  have q81_1 := Lbad_80.cell1
  have q81_2 := Lbad_80.frozen 0
  have q81_3 := Lbad_80.frozen 1
  have q81_lt := Lbad_80.lt
  have q82_0 := Lmost_80.cell0
  have q82_1 := Lmost_80.cell1
  have q82_2 := Lmost_80.frozen 0
  have q82_3 := Lmost_80.frozen 1
  have q82_lt := Lmost_80.lt
  go_wp2
  exact hK.out _ _ _ _ _ _ _ _ _ _ _ _ _ _ _ _ _ _ _ _ _ _ _ _ _ _ _ _ _ _ _ _ _ _ _ _ _ _ _ _ _ _ _ _ _ _ _ _ _ _ _ _ _ _ _ _ _ _ _ _ _ _ _ _ _ _ _ _ _ _ _ _ _ _ _ _ HB_79 Lbad_80 Hbad_80 Lmost_80 Hmost_80
end Go.Proofs.YtnbanlmkoljghaaGreatDoor
