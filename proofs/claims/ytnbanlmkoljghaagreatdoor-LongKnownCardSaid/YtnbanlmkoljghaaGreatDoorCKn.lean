/- The law LongKnown: its row's statement and its card, out of its walk; with the witness world that every law of this seat shares (put together by gen_ckn.py out of Law, Known, CKnown: a claim bears at most 60 files). For every input that the row speaks of, the call returns true and the input reads as it did; the listed variables of Go's library hold what their text lays. -/
import Derived.Test.YtnbanlmkoljghaaGreatDoorCards
import Derived.Test.YtnbanlmkoljghaaGreatDoorTie
import Derived.Test.YtnbanlmkoljghaaGreatDoorGlob
import Derived.Test.YtnbanlmkoljghaaGreatDoorBack
import Derived.WalkKit
import Derived.ProofKit
import Derived.OpenShut
import Derived.Deep.DeepHandedRow
import Derived.Deep.DeepWitnessRowRef
import Derived.Lib.LaidTab
import Derived.Lib.LaidU8
import Derived.Stop.LaidErr
import Derived.Test.YtnbanlmkoljghaaGreatDoorWorks
import Derived.Test.YtnbanlmkoljghaaGreatDoorOdd
import Derived.Test.YtnbanlmkoljghaaGreatDoorSquares
import Derived.Maps.AppendAt
import Derived.Test.YtnbanlmkoljghaaGreatDoorKnR6
import Derived.Test.YtnbanlmkoljghaaGreatDoorKnR7
import Derived.Test.YtnbanlmkoljghaaGreatDoorKnR8
import Derived.Deep.RegionHeld3
import Derived.Test.YtnbanlmkoljghaaGreatDoorArgs
namespace Go.Proofs.YtnbanlmkoljghaaGreatDoor
open Go Go.RowKit Go.WideShapes Go.ChangeShapes

theorem own_knob : ownKnob Tryz.prog.godebug = none := by kernel_rfl
theorem error_star : "*" ++ "errors.errorString" = "*errors.errorString" := by decide
theorem error_row (u : TypeId) (h : Tryz.prog.typeName? 3 u = some "*errors.errorString") : u = 171 :=
  typeName_ptr_named (nm := "errors.errorString") (by rw [error_star]; kernel_rfl) (by kernel_rfl) (by decide) u (by rw [error_star]; exact h)

/-- The list that every row of this seat bears. -/
def laidList : List (String × DataW Unit) := [("math/bits.deBruijn32tab", Rows.laid_math_bits_deBruijn32tab), ("math/bits.deBruijn64tab", Rows.laid_math_bits_deBruijn64tab), ("internal/strconv.uint64pow10", Rows.laid_internal_strconv_uint64pow10), ("unicode/utf8.acceptRanges", Rows.laid_unicode_utf8_acceptRanges), ("strconv.ErrRange", Rows.laid_strconv_ErrRange), ("strconv.ErrSyntax", Rows.laid_strconv_ErrSyntax), ("unicode/utf8.first", Rows.laid_unicode_utf8_first)]
theorem laid_glob {W : World} (h : laidMet Tryz.prog laidList W) : Glob W := by
  have h1 := laidMet.tail (laidMet.tail h)
  have h2 := laidMet.tail (laidMet.tail h1)
  refine ⟨?_, ?_⟩
  · exact Lib.tabIs_of_head (g := 2) (t := 159) (e := 129) (n := 20) (by kernel_rfl) (by kernel_rfl) (by kernel_rfl) (by kernel_rfl) (by kernel_rfl) (by kernel_rfl) h1
  · obtain ⟨a, s, hv, _⟩ := laid_sentinel (g := 1) (ti := 95) (tp := 171) (te := 173) (ts := 9) h2 (by kernel_rfl) (by kernel_rfl) Tryz.underlying95 error_row Tryz.underlying171 Tryz.underlying173 rfl rfl Tryz.underlying9 (by kernel_rfl) (by kernel_rfl)
    exact ⟨_, _, hv⟩

/-- A world for the witness: the settled one, the listed variables holding what their texts lay. -/
noncomputable def laidWorld (os : Os) : World :=
  let N := (World.settled Tryz.prog os).heap.size
  let w0 := World.holding Tryz.prog os ⟨#[.cells #[.string ⟨#[118, 97, 108, 117, 101, 32, 111, 117, 116, 32, 111, 102, 32, 114, 97, 110, 103, 101]⟩] 173, .cells #[.string ⟨#[105, 110, 118, 97, 108, 105, 100, 32, 115, 121, 110, 116, 97, 120]⟩] 173], #[], []⟩
  let put (h : Array Obj) (g : Nat) (cs : Array Value) : Array Obj := h.modify g fun
    | .cells _ t frozen => .cells cs t frozen
    | o => o
  let ints (k : IntKind) : DataW Unit → Array Value
    | .agg l => (l.map fun | .lit (.int _ n) => Value.int k n | _ => undef).toArray
    | _ => #[]
  let h1 := put w0.heap 1 #[.iface 171 (.pointer (some ⟨N, 0, none⟩))]
  let h2 := put h1 0 #[.iface 171 (.pointer (some ⟨N + 1, 0, none⟩))]
  let h3 := put h2 2 (ints .u64 Rows.laid_internal_strconv_uint64pow10)
  let h4 := put h3 4 (ints .u8 Rows.laid_unicode_utf8_first)
  let h5 := put h4 5 ((List.range 16).flatMap fun i => [Value.int .u8 (Lib.accLo i), Value.int .u8 (Lib.accHi i)]).toArray
  let h6 := put h5 6 (ints .u8 Rows.laid_math_bits_deBruijn32tab)
  let h7 := put h6 7 (ints .u8 Rows.laid_math_bits_deBruijn64tab)
  { w0 with heap := h7 }
set_option maxRecDepth 100000 in
theorem laid_met (os : Os) (args : Array Value) : laidMet Tryz.prog laidList ((laidWorld os).forCall (fun _ _ => 0) ⟨#[], args, []⟩).memory :=
  laidMet_of_run' 8 (by kernel_rfl) (by kernel_rfl)
end Go.Proofs.YtnbanlmkoljghaaGreatDoor

namespace Go.Proofs.YtnbanlmkoljghaaGreatDoor
open Go Go.RowKit Dig

set_option maxRecDepth 100000 in
set_option maxHeartbeats 8000000 in
theorem LongKnown_any (w : World) (G : Glob w) :
    Calls Tryz.prog 15 #[] w fun e w' => Below w.heap.size w w' ∧ e = .returned (.bool true) := by
  obtain ⟨T, H, ns, ms, hM⟩ := most
  have HM := Lib.hid hM
  clear hM
  obtain ⟨Z, hZ⟩ : ∃ Z : Int, Z = 0 := ⟨_, rfl⟩
  have HZ := Lib.hid hZ
  clear hZ
  go_enter Tryz.func15, Tryz.ntmps15
  go_wp2_with fail
  refine (works_any _ G).mono ?_
  rintro e w1 ⟨hb1, rfl⟩
  have HB_2 := Lib.hid (hb1)
  clear hb1
  go_wp2_with fail
  obtain ⟨w5, hW5⟩ : ∃ w5 : World, w5 = w1.alloc (.cells #[.int .i64 0] 3) := ⟨_, rfl⟩
  rw [← hW5]
  have hal4 : Below w1.heap.size w1 w5 := by rw [hW5]; exact (Below.refl _ _).alloc (Nat.le_refl _) _
  have Hb0 : Hid (LR w5 w5.heap.size (.agg #[.bool false, .slice (some ⟨w1.heap.size, 0, none⟩) 1 1]) false [0]) := Lib.hid (by rw [hW5]; exact LR.row1 _ _)
  have hs5 : w5.heap.size = w1.heap.size + 1 := by rw [hW5]; simp
  have HB_6 := Lib.hid (HB_2.out.trans (hal4.mono HB_2.out.size))
  clear HB_2
  obtain ⟨lb, hlb⟩ : ∃ lb : List Int, lb = [0] := ⟨_, rfl⟩
  rw [← hlb] at Hb0
  have HVB : Hid (¬ Valid false lb) := Lib.hid (by rw [hlb]; exact bad_zero)
  have HNB : Hid (numOf false lb = none) := Lib.hid (numOf_bad HVB.out)
  have HLB := Lib.hid hlb
  clear hlb hal4 hW5
  obtain ⟨w7, hW7⟩ : ∃ w7 : World, w7 = w5.alloc (.cells #[.bool false, .slice (some ⟨w1.heap.size, 0, none⟩) 1 1] 24) := ⟨_, rfl⟩
  rw [← hW7]
  have hal8 : Below w5.heap.size w5 w7 := by rw [hW7]; exact (Below.refl _ _).alloc (Nat.le_refl _) _
  have Lbad_8 : LB w7 (w5.heap.size) (.bool false) (.slice (some ⟨w1.heap.size, 0, none⟩) 1 1) := by rw [hW7]; exact LB.new' (show w5.heap.size = w5.heap.size from (rfl).symm)
  have ge_bad : w.heap.size ≤ w5.heap.size := by have h1 : w.heap.size ≤ w5.heap.size := HB_6.out.size; have h2 : w5.heap.size = w5.heap.size := rfl; omega
  have HSZ_8 := Lib.hid (show w7.heap.size = w5.heap.size + 1 by rw [hW7]; have h2 : w5.heap.size = w5.heap.size := rfl; simp <;> omega)
  have HB_9 := Lib.hid (HB_6.out.trans (hal8.mono HB_6.out.size))
  clear HB_6
  have Hbad_tmp_10 := Lib.hid (Hb0.out.step hal8)
  clear Hb0
  clear hal8 hW7
  rw [hs5] at Lbad_8 ge_bad
  clear hs5
  obtain ⟨bb, hbb⟩ : ∃ bb : Nat, bb = w1.heap.size + 1 := ⟨_, rfl⟩
  rw [← hbb] at Lbad_8 ge_bad ⊢
  clear hbb
  refine (Repeat_nine 5400 _ (by decide)).mono ?_
  rintro e w11 ⟨hb11, NB, rfl, hNB⟩
  have HB_12 := Lib.hid (HB_9.out.trans (hb11.mono HB_9.out.size))
  clear HB_9
  have Lbad_13 := Lbad_8.step hb11
  clear Lbad_8
  have Hbad_13 := Lib.hid (Hbad_tmp_10.out.step hb11)
  clear Hbad_tmp_10
  clear hb11
  clear HSZ_8
  have HNBs : Hid (NB.size = 5400) := Lib.hid (by rw [size_list, hNB]; exact List.length_replicate)
  rw [← HM.out.nines] at hNB
  have HNB9 := Lib.hid hNB
  clear hNB
  go_wp2_with fail
  refine (of_most HM.out.pos HM.out.len (by rw [HNBs.out]; decide) (by rw [HNB9.out]; exact HM.out.parse)).mono ?_
  rintro e w14 ⟨hb14, Am, cm, lt, rfl, hT, hNT, hlt⟩
  have HB_15 := Lib.hid (HB_12.out.trans (hb14.mono HB_12.out.size))
  clear HB_12
  have Lbad_16 := Lbad_13.step hb14
  clear Lbad_13
  have Hbad_16 := Lib.hid (Hbad_13.out.step hb14)
  clear Hbad_13
  clear hb14
  have HT := Lib.hid hT
  have HNT := Lib.hid hNT
  have Hlt := Lib.hid hlt
  clear hT hNT hlt
  have HVT : Hid (Valid false lt) := Lib.hid (valid_of HNT.out)
  have hbb_lt := Lbad_16.lt
  have q17_0 := Lbad_16.cell0
  have q17_1 := Lbad_16.cell1
  have q17_2 := Lbad_16.frozen 0
  have q17_3 := Lbad_16.frozen 1
  have q17_lt := Lbad_16.lt
  go_upto_region 6 with (fail)
  clear q17_0 q17_1 q17_2 q17_3 q17_lt
  obtain ⟨w18, hW18⟩ : ∃ w18 : World, w18 = w14.alloc (.cells #[.bool false, .slice Am 600 cm] 24) := ⟨_, rfl⟩
  rw [← hW18]
  have hal19 : Below w14.heap.size w14 w18 := by rw [hW18]; exact (Below.refl _ _).alloc (Nat.le_refl _) _
  have Lmost_19 : LB w18 (w14.heap.size) (.bool false) (.slice Am 600 cm) := by rw [hW18]; exact LB.new' (show w14.heap.size = w14.heap.size from (rfl).symm)
  have ne_bad_most : bb ≠ w14.heap.size := Nat.ne_of_lt (by have h1 := Lbad_16.lt; have h2 : w14.heap.size = w14.heap.size := rfl; omega)
  have ge_most : w.heap.size ≤ w14.heap.size := by have h1 : w.heap.size ≤ w14.heap.size := HB_15.out.size; have h2 : w14.heap.size = w14.heap.size := rfl; omega
  have HSZ_19 := Lib.hid (show w18.heap.size = w14.heap.size + 1 by rw [hW18]; have h2 : w14.heap.size = w14.heap.size := rfl; simp <;> omega)
  have HB_20 := Lib.hid (HB_15.out.trans (hal19.mono HB_15.out.size))
  clear HB_15
  have Lbad_21 := Lbad_16.step hal19
  clear Lbad_16
  have Hbad_21 := Lib.hid (Hbad_16.out.step hal19)
  clear Hbad_16
  have Hmost_tmp_21 := Lib.hid (HT.out.step hal19)
  clear HT
  clear hal19 hW18
  have bb_lt0 : bb < w14.heap.size := by have h1 := hbb_lt; omega
  obtain ⟨bm, hbm⟩ : ∃ bm : Nat, bm = w14.heap.size := ⟨_, rfl⟩
  rw [← hbm] at Lmost_19 ge_most ne_bad_most bb_lt0 ⊢
  clear hbm
  have bb_lt := bb_lt0
  refine known_r6 G HM HZ HNBs HNB9 Hlt HVT HVB HB_20 Lbad_21 Hbad_21 Lmost_19 Hmost_tmp_21 bb_lt ?_
  intro v28 v29 v30 v31 v32 v33 v34 v35 v36 v37 v38 v39 v40 v41 v42 v43 v44 v45 v46 v47 v48 v49 v50 v51 v52 v53 v54 v55 v56 v57 v58 v59 v60 v61 v62 v63 v64 v65 v66 v67 v68 v69 v70 v71 v72 v73 v74 v75 v76 v77 v78 v79 v80 v81 v82 v83 v84 v85 v86 v87 v88 v89 v90 v91 v92 v93 v94 v95 v96 v97 v98 v99 v100 v101 v102 wc22 HB_22 Lbad_22 Hbad_22 Lmost_22 Hmost_22
  go_upto_region 7 with (fail)
  refine known_r7 G HM HZ HNBs HNB9 HNT HB_22 Lbad_22 Hbad_22 Lmost_22 Hmost_22 bb_lt ?_
  intro v103 v104 v105 v106 v107 v108 v109 v110 v111 v112 v113 v114 v115 v116 v117 v118 v119 v120 v121 v122 v123 v124 v125 v126 v127 v128 v129 v130 v131 v132 v133 v134 v135 v136 v137 v138 v139 v140 v141 v142 v143 v144 v145 v146 v147 v148 v149 v150 v151 v152 v153 v154 v155 v156 v157 v158 v159 v160 v161 v162 v163 v164 v165 v166 v167 v168 v169 v170 v171 v172 v173 v174 v175 v176 v177 v178 wc23 HB_23 Lbad_23 Hbad_23 Lmost_23 Hmost_23
  go_upto_region 8 with (fail)
  refine known_r8 G HM HZ HNBs HNB9 HNT HNB HB_23 Lbad_23 Hbad_23 Lmost_23 Hmost_23 bb_lt ?_
  intro v179 v180 v181 v182 v183 v184 v185 v186 v187 v188 v189 v190 v191 v192 v193 v194 v195 v196 v197 v198 v199 v200 v201 v202 v203 v204 v205 v206 v207 v208 v209 v210 v211 v212 v213 v214 v215 v216 v217 v218 v219 v220 v221 v222 v223 v224 v225 v226 v227 v228 v229 v230 v231 v232 v233 v234 v235 v236 v237 v238 v239 v240 v241 v242 v243 v244 v245 v246 v247 v248 v249 wc24 HB_24 Lbad_24 Hbad_24 Lmost_24 Hmost_24
  have HSZ25 : Hid (ByteArray.size (NB ++ ⟨#[57]⟩ : ByteArray) = 5401) := Lib.hid (by rw [size_list]; simp only [app_list, List.length_append, ← size_list, HNBs.out]; rfl)
  have HSZ26 : Hid (ByteArray.size (NB ++ ⟨#[120]⟩ : ByteArray) = 5401) := Lib.hid (by rw [size_list]; simp only [app_list, List.length_append, ← size_list, HNBs.out]; rfl)
  have HSZ27 : Hid (ByteArray.size (⟨#[45]⟩ ++ NB : ByteArray) = 5401) := Lib.hid (by rw [size_list]; simp only [app_list, List.length_append, ← size_list, HNBs.out]; rfl)
  have HSZ28 : Hid (ByteArray.size (⟨#[45]⟩ ++ NB ++ ⟨#[57]⟩ : ByteArray) = 5402) := Lib.hid (by rw [size_list]; simp only [app_list, List.length_append, ← size_list, HNBs.out]; rfl)
  have HFT : Hid ((dig T.natAbs).length ≤ 600) := Lib.hid (by rw [HM.out.len]; decide)
  have HFMT : Hid ((dig (-T).natAbs).length ≤ 600) := Lib.hid (by rw [Int.natAbs_neg, HM.out.len]; decide)
  have HFH : Hid ((dig H.natAbs).length ≤ 600) := Lib.hid (by rw [← HM.out.root, Int.natAbs_natCast]; exact Nat.le_trans (dig_len_mono (rootN_le _)) HFT.out)
  have TNB : Hid (Lib.itoa T = NB.data.toList) := Lib.hid (by rw [HNB9.out]; exact HM.out.text)
  have TDA : Hid (Lib.itoa (-T) = (⟨#[45]⟩ ++ NB : ByteArray).data.toList) := Lib.hid (by simp only [app_list]; rw [HNB9.out]; exact HM.out.dtext)
  have TZ : Hid (Lib.itoa Z = (⟨#[48]⟩ : ByteArray).data.toList) := Lib.hid (by rw [HZ.out]; exact lit_itoa (by decide +kernel))
  have HFZ : Hid ((dig Z.natAbs).length ≤ 600) := Lib.hid (by rw [HZ.out]; exact fit_small (by decide))
  have FA1 : Hid (A2 (fun a b => toldZ (a + b)) (some T) (some 1) = (Z, 6)) := Lib.hid (by rw [HZ.out]; exact HM.out.plus)
  have FA2 : Hid (A2 (fun a b => toldZ (a + b)) (some T) (some 0) = (T, 0)) := Lib.hid (by show toldZ (T + 0) = _; rw [Int.add_zero]; exact told_fit HFT.out)
  have FA3 : Hid (A2 (fun a b => toldZ (a - b)) (some T) (some T) = (Z, 0)) := Lib.hid (by show toldZ (T - T) = _; rw [Int.sub_self, HZ.out]; exact told_fit (fit_small (by decide)))
  have FA4 : Hid (A2 (fun a b => toldZ (a - b)) (some (-1)) (some T) = (Z, 6)) := Lib.hid (by rw [HZ.out]; exact HM.out.less)
  have FA5 : Hid (A2 (fun a b => toldZ (a * b)) (some T) (some 2) = (Z, 6)) := Lib.hid (by rw [HZ.out]; exact HM.out.twice)
  have FA6 : Hid (A2 (fun a b => toldZ (a * b)) (some T) (some (-1)) = (-T, 0)) := Lib.hid (by show toldZ (T * -1) = _; rw [Int.mul_neg, Int.mul_one]; exact told_fit HFMT.out)
  have FA7 : Hid (A1 (fun a => (-a, 0)) (some T) = (-T, 0)) := Lib.hid (by rfl)
  have FA8 : Hid (A1 (fun a => (-a, 0)) (some 0) = (Z, 0)) := Lib.hid (by rw [HZ.out]; rfl)
  have FA9 : Hid (A1 sqrtZ (some 0) = (Z, 0)) := Lib.hid (by show sqrtZ 0 = _; rw [sqrtZ, if_neg (by decide), HZ.out, ← rootN_eq (s := 0) (by decide) (by decide)]; rfl)
  have FA10 : Hid (A1 sqrtZ (some T) = (H, 0)) := Lib.hid (by show sqrtZ T = _; rw [sqrtZ, if_neg (by have := HM.out.pos; omega), HM.out.root])
  have FA11 : Hid (A2 (fun a b => toldZ (Int.gcd a b : Int)) (some T) (some 0) = (T, 0)) := Lib.hid (by show toldZ (Int.gcd T 0 : Int) = _; rw [Int.gcd_zero_right, show ((T.natAbs : Nat) : Int) = T by have := HM.out.pos; omega]; exact told_fit HFT.out)
  have FB1 : Hid (∀ (f : Int → Int → Int × Int) (x : Option Int), A2 f none x = (Z, 30)) := Lib.hid (by intro f x; rw [HZ.out]; rfl)
  have FB2 : Hid (∀ (f : Int → Int → Int × Int) (x : Option Int), A2 f x none = (Z, 30)) := Lib.hid (by intro f x; rw [HZ.out]; cases x <;> rfl)
  have FB3 : Hid (∀ (f : Int → Int × Int), A1 f none = (Z, 30)) := Lib.hid (by intro f; rw [HZ.out]; rfl)
  have TPN : Hid (parseZ NB.data.toList = (T, 0)) := Lib.hid (by rw [HNB9.out]; exact HM.out.parse)
  have TSZ : Hid (NB.size ≤ 1000000) := Lib.hid (by rw [HNBs.out]; decide)
  have HT0 : Hid (T ≠ 0) := Lib.hid (by have := HM.out.pos; omega)
  have FD1 : Hid (Lib.itoa (Int.tdiv T 1) = NB.data.toList) := Lib.hid (by rw [Int.tdiv_one]; exact TNB.out)
  have FD2 : Hid (Lib.itoa (Int.tmod T 1) = (⟨#[48]⟩ : ByteArray).data.toList) := Lib.hid (by rw [Int.tmod_one]; exact lit_itoa (by decide +kernel))
  have FD3 : Hid (Lib.itoa (Int.tdiv T T) = (⟨#[49]⟩ : ByteArray).data.toList) := Lib.hid (by rw [Int.tdiv_self HT0.out]; exact lit_itoa (by decide +kernel))
  have FD4 : Hid (Lib.itoa (Int.tmod T T) = (⟨#[48]⟩ : ByteArray).data.toList) := Lib.hid (by rw [Int.tmod_self]; exact lit_itoa (by decide +kernel))
  go_wp2_with fail
  refine (divides_yes _ NB ⟨#[49]⟩ NB ⟨#[48]⟩ T 1 TSZ.out (by decide) TPN.out (lit_parse (by decide +kernel) (by decide)) HFT.out (small_len (by decide)) (by decide) FD1.out FD2.out (G.step HB_24.out)).mono ?_
  rintro e w29 ⟨hb29, rfl⟩
  have HB_30 := Lib.hid (HB_24.out.trans (hb29.mono HB_24.out.size))
  clear HB_24
  have Lbad_31 := Lbad_24.step hb29
  clear Lbad_24
  have Lmost_31 := Lmost_24.step hb29
  clear Lmost_24
  have Hbad_31 := Lib.hid (Hbad_24.out.step hb29)
  clear Hbad_24
  have Hmost_31 := Lib.hid (Hmost_24.out.step hb29)
  clear Hmost_24
  clear hb29
  go_wp2_with fail
  refine (divides_yes _ NB NB ⟨#[49]⟩ ⟨#[48]⟩ T T TSZ.out TSZ.out TPN.out TPN.out HFT.out HFT.out HT0.out FD3.out FD4.out (G.step HB_30.out)).mono ?_
  rintro e w32 ⟨hb32, rfl⟩
  have HB_33 := Lib.hid (HB_30.out.trans (hb32.mono HB_30.out.size))
  clear HB_30
  have Lbad_34 := Lbad_31.step hb32
  clear Lbad_31
  have Lmost_34 := Lmost_31.step hb32
  clear Lmost_31
  have Hbad_34 := Lib.hid (Hbad_31.out.step hb32)
  clear Hbad_31
  have Hmost_34 := Lib.hid (Hmost_31.out.step hb32)
  clear Hmost_31
  clear hb32
  go_wp2_with fail
  refine (divides_yes _ ⟨#[48]⟩ ⟨#[45, 51]⟩ ⟨#[48]⟩ ⟨#[48]⟩ 0 (-3) (by decide) (by decide) (lit_parse (by decide +kernel) (by decide)) (lit_parse (by decide +kernel) (by decide)) (small_len (by decide)) (small_len (by decide)) (by decide) (lit_itoa (by decide +kernel)) (lit_itoa (by decide +kernel)) (G.step HB_33.out)).mono ?_
  rintro e w35 ⟨hb35, rfl⟩
  have HB_36 := Lib.hid (HB_33.out.trans (hb35.mono HB_33.out.size))
  clear HB_33
  have Lbad_37 := Lbad_34.step hb35
  clear Lbad_34
  have Lmost_37 := Lmost_34.step hb35
  clear Lmost_34
  have Hbad_37 := Lib.hid (Hbad_34.out.step hb35)
  clear Hbad_34
  have Hmost_37 := Lib.hid (Hmost_34.out.step hb35)
  clear Hmost_34
  clear hb35
  go_wp2_with fail
  refine (divides_yes _ ⟨#[57, 57, 57, 57, 57, 57, 57, 57, 57, 57, 57, 57, 57, 57, 57, 57, 57, 57]⟩ ⟨#[57, 57, 57, 57, 57, 57, 57, 57, 57]⟩ ⟨#[49, 48, 48, 48, 48, 48, 48, 48, 48, 49]⟩ ⟨#[48]⟩ 999999999999999999 999999999 (by decide) (by decide) (lit_parse (by decide +kernel) (by decide)) (lit_parse (by decide +kernel) (by decide)) (small_len (by decide)) (small_len (by decide)) (by decide) (lit_itoa (by decide +kernel)) (lit_itoa (by decide +kernel)) (G.step HB_36.out)).mono ?_
  rintro e w38 ⟨hb38, rfl⟩
  have HB_39 := Lib.hid (HB_36.out.trans (hb38.mono HB_36.out.size))
  clear HB_36
  have Lbad_40 := Lbad_37.step hb38
  clear Lbad_37
  have Lmost_40 := Lmost_37.step hb38
  clear Lmost_37
  have Hbad_40 := Lib.hid (Hbad_37.out.step hb38)
  clear Hbad_37
  have Hmost_40 := Lib.hid (Hmost_37.out.step hb38)
  clear Hmost_37
  clear hb38
  go_wp2_with fail
  refine (divides_yes _ ⟨#[49, 48, 48, 48, 48, 48, 48, 48, 48, 48, 48, 48, 48, 48, 48, 48, 48, 48, 48]⟩ ⟨#[49, 48, 48, 48, 48, 48, 48, 48, 48, 49]⟩ ⟨#[57, 57, 57, 57, 57, 57, 57, 57, 57]⟩ ⟨#[49]⟩ 1000000000000000000 1000000001 (by decide) (by decide) (lit_parse (by decide +kernel) (by decide)) (lit_parse (by decide +kernel) (by decide)) (small_len (by decide)) (small_len (by decide)) (by decide) (lit_itoa (by decide +kernel)) (lit_itoa (by decide +kernel)) (G.step HB_39.out)).mono ?_
  rintro e w41 ⟨hb41, rfl⟩
  have HB_42 := Lib.hid (HB_39.out.trans (hb41.mono HB_39.out.size))
  clear HB_39
  have Lbad_43 := Lbad_40.step hb41
  clear Lbad_40
  have Lmost_43 := Lmost_40.step hb41
  clear Lmost_40
  have Hbad_43 := Lib.hid (Hbad_40.out.step hb41)
  clear Hbad_40
  have Hmost_43 := Lib.hid (Hmost_40.out.step hb41)
  clear Hmost_40
  clear hb41
  go_wp2_with fail
  refine (divides_yes _ ⟨#[52, 57, 57, 57, 57, 57, 57, 57, 57, 53, 48, 48, 48, 48, 48, 48, 48, 48, 48, 48, 48, 48, 48, 48, 48, 48, 48, 57, 57, 57, 57, 57, 57, 57, 57, 56]⟩ ⟨#[53, 48, 48, 48, 48, 48, 48, 48, 48, 48, 48, 48, 48, 48, 48, 48, 48, 48, 48, 48, 48, 48, 48, 48, 48, 48, 49]⟩ ⟨#[57, 57, 57, 57, 57, 57, 57, 57, 56]⟩ ⟨#[53, 48, 48, 48, 48, 48, 48, 48, 48, 48, 48, 48, 48, 48, 48, 48, 48, 48, 48, 48, 48, 48, 48, 48, 48, 48, 48]⟩ 499999999500000000000000000999999998 500000000000000000000000001 (by decide) (by decide) (parseZ_some (lit (by decide +kernel)) (mid_len (by decide))) (lit_parse (by decide +kernel) (by decide)) (mid_len (by decide)) (small_len (by decide)) (by decide) (lit_itoa (by decide +kernel)) (lit_itoa (by decide +kernel)) (G.step HB_42.out)).mono ?_
  rintro e w44 ⟨hb44, rfl⟩
  have HB_45 := Lib.hid (HB_42.out.trans (hb44.mono HB_42.out.size))
  clear HB_42
  have Lbad_46 := Lbad_43.step hb44
  clear Lbad_43
  have Lmost_46 := Lmost_43.step hb44
  clear Lmost_43
  have Hbad_46 := Lib.hid (Hbad_43.out.step hb44)
  clear Hbad_43
  have Hmost_46 := Lib.hid (Hmost_43.out.step hb44)
  clear Hmost_43
  clear hb44
  have q47_0 := Lbad_46.cell0
  have q47_1 := Lbad_46.cell1
  have q47_2 := Lbad_46.frozen 0
  have q47_3 := Lbad_46.frozen 1
  have q47_lt := Lbad_46.lt
  go_wp2_with fail
  refine (Div_bad HZ.out Hbad_46.out (LR.zero _ _) (fun h => HVB.out h.1)).mono ?_
  rintro e w49 ⟨hb49, vq48, vr48, rfl, hq48, hr48⟩
  have HB_50 := Lib.hid (HB_45.out.trans (hb49.mono HB_45.out.size))
  clear HB_45
  have Lbad_51 := Lbad_46.step hb49
  clear Lbad_46
  have Lmost_51 := Lmost_46.step hb49
  clear Lmost_46
  have Hbad_51 := Lib.hid (Hbad_46.out.step hb49)
  clear Hbad_46
  have Hmost_51 := Lib.hid (Hmost_46.out.step hb49)
  clear Hmost_46
  clear hb49
  clear q47_0 q47_1 q47_2 q47_3 q47_lt
  obtain ⟨A52, c52, rfl, -⟩ := hq48.parts
  have Hq1_52 := Lib.hid hq48
  clear hq48
  obtain ⟨A53, c53, rfl, -⟩ := hr48.parts
  have Hr1_53 := Lib.hid hr48
  clear hr48
  have q54_0 := Lbad_51.cell0
  have q54_1 := Lbad_51.cell1
  have q54_2 := Lbad_51.frozen 0
  have q54_3 := Lbad_51.frozen 1
  have q54_lt := Lbad_51.lt
  have q55_0 := Lmost_51.cell0
  have q55_1 := Lmost_51.cell1
  have q55_2 := Lmost_51.frozen 0
  have q55_3 := Lmost_51.frozen 1
  have q55_lt := Lmost_51.lt
  go_wp2_with fail
  clear q54_0 q54_1 q54_2 q54_3 q54_lt q55_0 q55_1 q55_2 q55_3 q55_lt
  obtain ⟨w56, hW56⟩ : ∃ w56 : World, w56 = w49.alloc (.cells #[.bool (decide (Z < 0)), .slice A52 (dig (Z).natAbs).length c52] 24) := ⟨_, rfl⟩
  rw [← hW56]
  have hal57 : Below w49.heap.size w49 w56 := by rw [hW56]; exact (Below.refl _ _).alloc (Nat.le_refl _) _
  have Lvq1_57 : LB w56 (w49.heap.size) (.bool (decide (Z < 0))) (.slice A52 (dig (Z).natAbs).length c52) := by rw [hW56]; exact LB.new' (show w49.heap.size = w49.heap.size from (rfl).symm)
  have ne_bad_vq1 : bb ≠ w49.heap.size := Nat.ne_of_lt (by have h1 := Lbad_51.lt; have h2 : w49.heap.size = w49.heap.size := rfl; omega)
  have ne_most_vq1 : bm ≠ w49.heap.size := Nat.ne_of_lt (by have h1 := Lmost_51.lt; have h2 : w49.heap.size = w49.heap.size := rfl; omega)
  have ge_vq1 : w.heap.size ≤ w49.heap.size := by have h1 : w.heap.size ≤ w49.heap.size := HB_50.out.size; have h2 : w49.heap.size = w49.heap.size := rfl; omega
  have HSZ_57 := Lib.hid (show w56.heap.size = w49.heap.size + 1 by rw [hW56]; have h2 : w49.heap.size = w49.heap.size := rfl; simp <;> omega)
  have HB_58 := Lib.hid (HB_50.out.trans (hal57.mono HB_50.out.size))
  clear HB_50
  have Lbad_59 := Lbad_51.step hal57
  clear Lbad_51
  have Lmost_59 := Lmost_51.step hal57
  clear Lmost_51
  have Hbad_59 := Lib.hid (Hbad_51.out.step hal57)
  clear Hbad_51
  have Hmost_59 := Lib.hid (Hmost_51.out.step hal57)
  clear Hmost_51
  have Hr1_59 := Lib.hid (Hr1_53.out.step hal57)
  clear Hr1_53
  have Hvq1_tmp_59 := Lib.hid (Hq1_52.out.step hal57)
  clear Hq1_52
  clear hal57 hW56
  obtain ⟨w60, hW60⟩ : ∃ w60 : World, w60 = w56.alloc (.cells #[.bool (decide (Z < 0)), .slice A53 (dig (Z).natAbs).length c53] 24) := ⟨_, rfl⟩
  rw [← hW60]
  have hal61 : Below w56.heap.size w56 w60 := by rw [hW60]; exact (Below.refl _ _).alloc (Nat.le_refl _) _
  have Lvr1_61 : LB w60 (w49.heap.size + 1) (.bool (decide (Z < 0))) (.slice A53 (dig (Z).natAbs).length c53) := by rw [hW60]; exact LB.new' (show w49.heap.size + 1 = w56.heap.size from (HSZ_57.out).symm)
  have ne_bad_vr1 : bb ≠ w49.heap.size + 1 := Nat.ne_of_lt (by have h1 := Lbad_59.lt; have h2 : w56.heap.size = w49.heap.size + 1 := HSZ_57.out; omega)
  have ne_most_vr1 : bm ≠ w49.heap.size + 1 := Nat.ne_of_lt (by have h1 := Lmost_59.lt; have h2 : w56.heap.size = w49.heap.size + 1 := HSZ_57.out; omega)
  have ne_vq1_vr1 : w49.heap.size ≠ w49.heap.size + 1 := Nat.ne_of_lt (by have h1 := Lvq1_57.lt; have h2 : w56.heap.size = w49.heap.size + 1 := HSZ_57.out; omega)
  have ge_vr1 : w.heap.size ≤ w49.heap.size + 1 := by have h1 : w.heap.size ≤ w56.heap.size := HB_58.out.size; have h2 : w56.heap.size = w49.heap.size + 1 := HSZ_57.out; omega
  have HSZ_61 := Lib.hid (show w60.heap.size = w49.heap.size + 1 + 1 by rw [hW60]; have h2 : w56.heap.size = w49.heap.size + 1 := HSZ_57.out; simp <;> omega)
  clear HSZ_57
  have HB_62 := Lib.hid (HB_58.out.trans (hal61.mono HB_58.out.size))
  clear HB_58
  have Lbad_63 := Lbad_59.step hal61
  clear Lbad_59
  have Lmost_63 := Lmost_59.step hal61
  clear Lmost_59
  have Lvq1_63 := Lvq1_57.step hal61
  clear Lvq1_57
  have Hbad_63 := Lib.hid (Hbad_59.out.step hal61)
  clear Hbad_59
  have Hmost_63 := Lib.hid (Hmost_59.out.step hal61)
  clear Hmost_59
  have Hvq1_63 := Lib.hid (Hvq1_tmp_59.out.step hal61)
  clear Hvq1_tmp_59
  have Hvr1_tmp_63 := Lib.hid (Hr1_59.out.step hal61)
  clear Hr1_59
  clear hal61 hW60
  clear Lvq1_63
  clear Hvq1_63
  clear Lvr1_61
  clear Hvr1_tmp_63
  have q64_0 := Lbad_63.cell0
  have q64_1 := Lbad_63.cell1
  have q64_2 := Lbad_63.frozen 0
  have q64_3 := Lbad_63.frozen 1
  have q64_lt := Lbad_63.lt
  refine (Div_bad HZ.out (LR.zero _ _) Hbad_63.out (fun h => HVB.out h.2)).mono ?_
  rintro e w66 ⟨hb66, vq65, vr65, rfl, hq65, hr65⟩
  have HB_67 := Lib.hid (HB_62.out.trans (hb66.mono HB_62.out.size))
  clear HB_62
  have Lbad_68 := Lbad_63.step hb66
  clear Lbad_63
  have Lmost_68 := Lmost_63.step hb66
  clear Lmost_63
  have Hbad_68 := Lib.hid (Hbad_63.out.step hb66)
  clear Hbad_63
  have Hmost_68 := Lib.hid (Hmost_63.out.step hb66)
  clear Hmost_63
  clear hb66
  clear HSZ_61
  clear q64_0 q64_1 q64_2 q64_3 q64_lt
  obtain ⟨A69, c69, rfl, -⟩ := hq65.parts
  have Hq2_69 := Lib.hid hq65
  clear hq65
  obtain ⟨A70, c70, rfl, -⟩ := hr65.parts
  have Hr2_70 := Lib.hid hr65
  clear hr65
  have q71_0 := Lbad_68.cell0
  have q71_1 := Lbad_68.cell1
  have q71_2 := Lbad_68.frozen 0
  have q71_3 := Lbad_68.frozen 1
  have q71_lt := Lbad_68.lt
  have q72_0 := Lmost_68.cell0
  have q72_1 := Lmost_68.cell1
  have q72_2 := Lmost_68.frozen 0
  have q72_3 := Lmost_68.frozen 1
  have q72_lt := Lmost_68.lt
  go_wp2_with fail
  clear q71_0 q71_1 q71_2 q71_3 q71_lt q72_0 q72_1 q72_2 q72_3 q72_lt
  obtain ⟨w73, hW73⟩ : ∃ w73 : World, w73 = w66.alloc (.cells #[.bool (decide (Z < 0)), .slice A69 (dig (Z).natAbs).length c69] 24) := ⟨_, rfl⟩
  rw [← hW73]
  have hal74 : Below w66.heap.size w66 w73 := by rw [hW73]; exact (Below.refl _ _).alloc (Nat.le_refl _) _
  have Lvq2_74 : LB w73 (w66.heap.size) (.bool (decide (Z < 0))) (.slice A69 (dig (Z).natAbs).length c69) := by rw [hW73]; exact LB.new' (show w66.heap.size = w66.heap.size from (rfl).symm)
  have ne_bad_vq2 : bb ≠ w66.heap.size := Nat.ne_of_lt (by have h1 := Lbad_68.lt; have h2 : w66.heap.size = w66.heap.size := rfl; omega)
  have ne_most_vq2 : bm ≠ w66.heap.size := Nat.ne_of_lt (by have h1 := Lmost_68.lt; have h2 : w66.heap.size = w66.heap.size := rfl; omega)
  have ge_vq2 : w.heap.size ≤ w66.heap.size := by have h1 : w.heap.size ≤ w66.heap.size := HB_67.out.size; have h2 : w66.heap.size = w66.heap.size := rfl; omega
  have HSZ_74 := Lib.hid (show w73.heap.size = w66.heap.size + 1 by rw [hW73]; have h2 : w66.heap.size = w66.heap.size := rfl; simp <;> omega)
  have HB_75 := Lib.hid (HB_67.out.trans (hal74.mono HB_67.out.size))
  clear HB_67
  have Lbad_76 := Lbad_68.step hal74
  clear Lbad_68
  have Lmost_76 := Lmost_68.step hal74
  clear Lmost_68
  have Hbad_76 := Lib.hid (Hbad_68.out.step hal74)
  clear Hbad_68
  have Hmost_76 := Lib.hid (Hmost_68.out.step hal74)
  clear Hmost_68
  have Hr2_76 := Lib.hid (Hr2_70.out.step hal74)
  clear Hr2_70
  have Hvq2_tmp_76 := Lib.hid (Hq2_69.out.step hal74)
  clear Hq2_69
  clear hal74 hW73
  obtain ⟨w77, hW77⟩ : ∃ w77 : World, w77 = w73.alloc (.cells #[.bool (decide (Z < 0)), .slice A70 (dig (Z).natAbs).length c70] 24) := ⟨_, rfl⟩
  rw [← hW77]
  have hal78 : Below w73.heap.size w73 w77 := by rw [hW77]; exact (Below.refl _ _).alloc (Nat.le_refl _) _
  have Lvr2_78 : LB w77 (w66.heap.size + 1) (.bool (decide (Z < 0))) (.slice A70 (dig (Z).natAbs).length c70) := by rw [hW77]; exact LB.new' (show w66.heap.size + 1 = w73.heap.size from (HSZ_74.out).symm)
  have ne_bad_vr2 : bb ≠ w66.heap.size + 1 := Nat.ne_of_lt (by have h1 := Lbad_76.lt; have h2 : w73.heap.size = w66.heap.size + 1 := HSZ_74.out; omega)
  have ne_most_vr2 : bm ≠ w66.heap.size + 1 := Nat.ne_of_lt (by have h1 := Lmost_76.lt; have h2 : w73.heap.size = w66.heap.size + 1 := HSZ_74.out; omega)
  have ne_vq2_vr2 : w66.heap.size ≠ w66.heap.size + 1 := Nat.ne_of_lt (by have h1 := Lvq2_74.lt; have h2 : w73.heap.size = w66.heap.size + 1 := HSZ_74.out; omega)
  have ge_vr2 : w.heap.size ≤ w66.heap.size + 1 := by have h1 : w.heap.size ≤ w73.heap.size := HB_75.out.size; have h2 : w73.heap.size = w66.heap.size + 1 := HSZ_74.out; omega
  have HSZ_78 := Lib.hid (show w77.heap.size = w66.heap.size + 1 + 1 by rw [hW77]; have h2 : w73.heap.size = w66.heap.size + 1 := HSZ_74.out; simp <;> omega)
  clear HSZ_74
  have HB_79 := Lib.hid (HB_75.out.trans (hal78.mono HB_75.out.size))
  clear HB_75
  have Lbad_80 := Lbad_76.step hal78
  clear Lbad_76
  have Lmost_80 := Lmost_76.step hal78
  clear Lmost_76
  have Lvq2_80 := Lvq2_74.step hal78
  clear Lvq2_74
  have Hbad_80 := Lib.hid (Hbad_76.out.step hal78)
  clear Hbad_76
  have Hmost_80 := Lib.hid (Hmost_76.out.step hal78)
  clear Hmost_76
  have Hvq2_80 := Lib.hid (Hvq2_tmp_76.out.step hal78)
  clear Hvq2_tmp_76
  have Hvr2_tmp_80 := Lib.hid (Hr2_76.out.step hal78)
  clear Hr2_76
  clear hal78 hW77
  clear Lvq2_80
  clear Hvq2_80
  clear Lvr2_78
  clear Hvr2_tmp_80
  refine (of_lr (a := (-9223372036854775808)) (s := ⟨#[45, 57, 50, 50, 51, 51, 55, 50, 48, 51, 54, 56, 53, 52, 55, 55, 53, 56, 48, 56]⟩) (by decide) (lit_parse (by decide +kernel) (by decide)) (fit_small (by decide))).mono ?_
  rintro e w82 ⟨hb82, vi81, ni81, li81, rfl, hv, hn⟩
  have HB_83 := Lib.hid (HB_79.out.trans (hb82.mono HB_79.out.size))
  clear HB_79
  have Lbad_84 := Lbad_80.step hb82
  clear Lbad_80
  have Lmost_84 := Lmost_80.step hb82
  clear Lmost_80
  have Hbad_84 := Lib.hid (Hbad_80.out.step hb82)
  clear Hbad_80
  have Hmost_84 := Lib.hid (Hmost_80.out.step hb82)
  clear Hmost_80
  clear hb82
  clear HSZ_78
  have HI := Lib.hid hv
  have HIN := Lib.hid hn
  clear hv hn
  go_wp2_with fail
  refine (Int_is (z := (-9223372036854775808)) (c := 0) HI.out (G.step HB_83.out) (by rw [HIN.out]; exact (by decide : intZ (-9223372036854775808) = ((-9223372036854775808), 0)))).mono ?_
  rintro e w85 ⟨hb85, rfl⟩
  clear HI
  clear HIN
  have HB_86 := Lib.hid (HB_83.out.trans (hb85.mono HB_83.out.size))
  clear HB_83
  have Lbad_87 := Lbad_84.step hb85
  clear Lbad_84
  have Lmost_87 := Lmost_84.step hb85
  clear Lmost_84
  have Hbad_87 := Lib.hid (Hbad_84.out.step hb85)
  clear Hbad_84
  have Hmost_87 := Lib.hid (Hmost_84.out.step hb85)
  clear Hmost_84
  clear hb85
  go_wp2_with fail
  refine (of_lr (a := (-9223372036854775809)) (s := ⟨#[45, 57, 50, 50, 51, 51, 55, 50, 48, 51, 54, 56, 53, 52, 55, 55, 53, 56, 48, 57]⟩) (by decide) (lit_parse (by decide +kernel) (by decide)) (fit_small (by decide))).mono ?_
  rintro e w89 ⟨hb89, vi88, ni88, li88, rfl, hv, hn⟩
  have HB_90 := Lib.hid (HB_86.out.trans (hb89.mono HB_86.out.size))
  clear HB_86
  have Lbad_91 := Lbad_87.step hb89
  clear Lbad_87
  have Lmost_91 := Lmost_87.step hb89
  clear Lmost_87
  have Hbad_91 := Lib.hid (Hbad_87.out.step hb89)
  clear Hbad_87
  have Hmost_91 := Lib.hid (Hmost_87.out.step hb89)
  clear Hmost_87
  clear hb89
  have HI := Lib.hid hv
  have HIN := Lib.hid hn
  clear hv hn
  go_wp2_with fail
  refine (Int_is (z := 0) (c := 6) HI.out (G.step HB_90.out) (by rw [HIN.out]; exact (by decide : intZ (-9223372036854775809) = (0, 6)))).mono ?_
  rintro e w92 ⟨hb92, rfl⟩
  clear HI
  clear HIN
  have HB_93 := Lib.hid (HB_90.out.trans (hb92.mono HB_90.out.size))
  clear HB_90
  have Lbad_94 := Lbad_91.step hb92
  clear Lbad_91
  have Lmost_94 := Lmost_91.step hb92
  clear Lmost_91
  have Hbad_94 := Lib.hid (Hbad_91.out.step hb92)
  clear Hbad_91
  have Hmost_94 := Lib.hid (Hmost_91.out.step hb92)
  clear Hmost_91
  clear hb92
  have q95_0 := Lbad_94.cell0
  have q95_1 := Lbad_94.cell1
  have q95_2 := Lbad_94.frozen 0
  have q95_3 := Lbad_94.frozen 1
  have q95_lt := Lbad_94.lt
  go_wp2_with fail
  refine (Int_is (z := 0) (c := 30) Hbad_94.out (G.step HB_93.out) (by rw [HNB.out]; rfl)).mono ?_
  rintro e w96 ⟨hb96, rfl⟩
  have HB_97 := Lib.hid (HB_93.out.trans (hb96.mono HB_93.out.size))
  clear HB_93
  have Lbad_98 := Lbad_94.step hb96
  clear Lbad_94
  have Lmost_98 := Lmost_94.step hb96
  clear Lmost_94
  have Hbad_98 := Lib.hid (Hbad_94.out.step hb96)
  clear Hbad_94
  have Hmost_98 := Lib.hid (Hmost_94.out.step hb96)
  clear Hmost_94
  clear hb96
  clear q95_0 q95_1 q95_2 q95_3 q95_lt
  have q99_0 := Lbad_98.cell0
  have q99_1 := Lbad_98.cell1
  have q99_2 := Lbad_98.frozen 0
  have q99_3 := Lbad_98.frozen 1
  have q99_lt := Lbad_98.lt
  go_wp2_with fail
  refine (Text_is Hbad_98.out (G.step HB_97.out) HNB.out).mono ?_
  rintro e w100 ⟨hb100, rfl⟩
  have HB_101 := Lib.hid (HB_97.out.trans (hb100.mono HB_97.out.size))
  clear HB_97
  have Lbad_102 := Lbad_98.step hb100
  clear Lbad_98
  have Lmost_102 := Lmost_98.step hb100
  clear Lmost_98
  have Hbad_102 := Lib.hid (Hbad_98.out.step hb100)
  clear Hbad_98
  have Hmost_102 := Lib.hid (Hmost_98.out.step hb100)
  clear Hmost_98
  clear hb100
  clear q99_0 q99_1 q99_2 q99_3 q99_lt
  have q103_0 := Lbad_102.cell0
  have q103_1 := Lbad_102.cell1
  have q103_2 := Lbad_102.frozen 0
  have q103_3 := Lbad_102.frozen 1
  have q103_lt := Lbad_102.lt
  go_wp2_with fail
  refine (Cmp_is (z := 0) (c := 30) Hbad_102.out (LR.zero _ _) (by rw [HNB.out]; rfl)).mono ?_
  rintro e w104 ⟨hb104, rfl⟩
  have HB_105 := Lib.hid (HB_101.out.trans (hb104.mono HB_101.out.size))
  clear HB_101
  have Lbad_106 := Lbad_102.step hb104
  clear Lbad_102
  have Lmost_106 := Lmost_102.step hb104
  clear Lmost_102
  have Hbad_106 := Lib.hid (Hbad_102.out.step hb104)
  clear Hbad_102
  have Hmost_106 := Lib.hid (Hmost_102.out.step hb104)
  clear Hmost_102
  clear hb104
  clear q103_0 q103_1 q103_2 q103_3 q103_lt
  go_wp2_with fail
  refine (works_any _ (G.step HB_105.out)).mono ?_
  rintro e w107 ⟨hb107, rfl⟩
  have HB_108 := Lib.hid (HB_105.out.trans (hb107.mono HB_105.out.size))
  clear HB_105
  have Lbad_109 := Lbad_106.step hb107
  clear Lbad_106
  have Lmost_109 := Lmost_106.step hb107
  clear Lmost_106
  have Hbad_109 := Lib.hid (Hbad_106.out.step hb107)
  clear Hbad_106
  have Hmost_109 := Lib.hid (Hmost_106.out.step hb107)
  clear Hmost_106
  clear hb107
  have q110_0 := Lbad_109.cell0
  have q110_1 := Lbad_109.cell1
  have q110_2 := Lbad_109.frozen 0
  have q110_3 := Lbad_109.frozen 1
  have q110_lt := Lbad_109.lt
  go_wp2_with fail
  refine (Same_self Hbad_109.out).mono ?_
  rintro e w111 ⟨hb111, rfl⟩
  have HB_112 := Lib.hid (HB_108.out.trans (hb111.mono HB_108.out.size))
  clear HB_108
  have Lbad_113 := Lbad_109.step hb111
  clear Lbad_109
  have Lmost_113 := Lmost_109.step hb111
  clear Lmost_109
  have Hbad_113 := Lib.hid (Hbad_109.out.step hb111)
  clear Hbad_109
  have Hmost_113 := Lib.hid (Hmost_109.out.step hb111)
  clear Hmost_109
  clear hb111
  clear q110_0 q110_1 q110_2 q110_3 q110_lt
  have q114_0 := Lbad_113.cell0
  have q114_1 := Lbad_113.cell1
  have q114_2 := Lbad_113.frozen 0
  have q114_3 := Lbad_113.frozen 1
  have q114_lt := Lbad_113.lt
  go_wp2_with fail
  refine (Same_not Hbad_113.out (LR.zero _ _) (by rw [HLB.out]; simp)).mono ?_
  rintro e w115 ⟨hb115, rfl⟩
  have HB_116 := Lib.hid (HB_112.out.trans (hb115.mono HB_112.out.size))
  clear HB_112
  have Lbad_117 := Lbad_113.step hb115
  clear Lbad_113
  have Lmost_117 := Lmost_113.step hb115
  clear Lmost_113
  have Hbad_117 := Lib.hid (Hbad_113.out.step hb115)
  clear Hbad_113
  have Hmost_117 := Lib.hid (Hmost_113.out.step hb115)
  clear Hmost_113
  clear hb115
  clear q114_0 q114_1 q114_2 q114_3 q114_lt
  go_wp2
  go_ret
  exact ⟨HB_116.out, rfl⟩
end Go.Proofs.YtnbanlmkoljghaaGreatDoor

namespace Go.Proofs.YtnbanlmkoljghaaGreatDoor.longKnown
open Go Go.RowKit Go.WideShapes Go.ChangeShapes
open Go.ChangeMaps (open_string)

theorem types_good : (([3, 5, 50, 88, 4, 9, 22, 25, 24, 27, 29] : List TypeId).all fun t => goodAt Tryz.prog [3, 5, 50, 88, 4, 9, 22, 25, 24, 27, 29] t) = true := by kernel_rfl
set_option maxRecDepth 100000 in
theorem contract (H : Type) (enc : TypeId × Value → H) (W : World) (base : Nat) (args : Array Value) (ds gs : List (DataW H)) (before : List MemPlace)
    (hval : ∀ (j : Nat) t v, Tryz.f15.params[j]? = some t → args[j]? = some v → Value.okWide Tryz.prog W .any base t v)
    (hW : DataW.Whole enc Tryz.prog Tryz.f15.params.toList Rows.longKnownSpec.vars false W args.toList ds gs before) (hL : laidMetH Tryz.prog Rows.longKnownRow.laid W) :
    Calls Tryz.prog 15 args W fun e W' => ∃ v, e = .returned v ∧ Rows.longKnownSpec.post enc Tryz.prog Tryz.f15 false true false false W args v W' := by
  have G : Glob W := laid_glob hL
  have hW' := hW
  obtain ⟨p, q, hA0, hV, rfl, hfz, hnd⟩ := hW
  have hA : DataW.TrodAll enc Tryz.prog W 0 (fun _ => true) true Tryz.f15.params.toList args.toList ds p := hA0
  rw [Tryz.params15] at hA hval
  obtain ⟨hargs, rfl, rfl⟩ := trodAll_nil hA
  obtain rfl : args = #[] := by cases args; simp_all
  obtain ⟨rfl, rfl⟩ := trodVars_none hV
  clear hA0
  simp only [List.append_nil] at hW'
  exact (LongKnown_any W G).mono fun e W' ⟨hb, he⟩ => ⟨_, he, post_law types_good rfl (by kernel_rfl) Tryz.underlying4 rfl (by kernel_rfl) hW' hb⟩

theorem reads (os : Os) {H : Type} (enc : TypeId × Value → H) : ∃ places, DataW.whole enc Tryz.prog ((laidWorld os).forCall (fun _ _ => 0) ⟨#[], (#[] : Array Value), []⟩).memory Tryz.f15.params.toList Rows.longKnownSpec.vars false (#[] : Array Value).toList 8 = some ([], [], places) :=
  ⟨[], by kernel_rfl⟩
set_option maxRecDepth 100000 in
theorem lifted (os : Os) (started : os.Started) (H : Type) (enc : TypeId × Value → H) (F : Stop.Interp) :
    ReturnsInHanded {} Tryz.checked os 15 .any ((OpenSpec.ofChange Rows.longKnownSpec).preRow enc Tryz.prog Tryz.f15 Rows.longKnownRow.domain false Rows.longKnownRow.laid) (((OpenSpec.ofChange Rows.longKnownSpec).at F).post enc Tryz.prog Tryz.f15 false true false false) := by
  obtain ⟨places, hx⟩ := reads os enc
  refine returnsInHanded_of_row (C := Tryz.checked) (s := OpenSpec.ofChange Rows.longKnownSpec) own_knob started (by kernel_rfl) Tryz.func15
    (witness_row_atRef (enc := enc) (C := Tryz.checked) false (laidWorld os) (#[] : Array Value) rfl (by kernel_rfl) (by kernel_rfl) (by kernel_rfl)
      (OpenSpec.preRow_of_cond 8 hx (by kernel_rfl) (fun k hk => by cases hk) (by kernel_rfl) (laid_met os _))) ?_
  intro W base args ds gs before hval hW _ _ _ hL _ _
  exact contract H enc W base args ds gs before hval hW hL
theorem said : Rows.LongKnownSaid :=
  OpenClaim.holds_of_cond 15 Tryz.f15 rfl rfl rfl rfl rfl rfl rfl ⟨rfl, rfl, rfl, rfl, rfl⟩ rfl rfl rfl rfl rfl (by kernel_rfl) Tryz.func15 (by kernel_rfl)
    (of_decide_eq_true (by kernel_rfl)) (by unfold Func.isWrapper; first | (rw [if_pos (by decide +kernel)]; kernel_rfl) | (rw [if_neg (by decide +kernel)]; exact ⟨rfl, rfl⟩))
    (fun os started H enc _ F => by rw [OpenClaim.pre_eq_preRow]; exact lifted os started H enc F)
theorem plain (f : FuncId) (fn : Func) (hf : Tryz.pinned.checked.prog.funcNamed "monocle/monoclelaw03.LongKnown" = some f) (hfn : Tryz.pinned.checked.prog.funcs[f]? = some fn) :
    true = Tryz.pinned.checked.prog.looks [] ∧ ∀ (j : Nat) t, fn.params[j]? = some t → Tryz.pinned.checked.prog.wantsStandIn t = false := by
  obtain rfl : f = 15 := Option.some.inj ((show Tryz.prog.funcNamed "monocle/monoclelaw03.LongKnown" = some 15 by kernel_rfl).symm.trans hf) |>.symm
  obtain rfl : fn = Tryz.f15 := (Option.some.inj (Tryz.func15.symm.trans hfn)).symm
  refine ⟨by kernel_rfl, fun j t ht => ?_⟩
  rw [Tryz.params15] at ht
  have hm := Array.mem_of_getElem? ht
  exact List.all_eq_true.1 (show ([] : List TypeId).all (fun t => Tryz.prog.wantsStandIn t == false) = true by kernel_rfl) t (by simp at hm) |> eq_of_beq
/-- The card. -/
theorem card : Rows.LongKnownCardSaid :=
  Claim7.holds_tied_plain_at .later [] _ _ _ _ said (fun _ h => by cases h) (by kernel_rfl) (fun _ h => by cases h) longKnown_row_tie rfl ⟨rfl, rfl⟩ (by kernel_rfl) rfl plain (by kernel_rfl)
end Go.Proofs.YtnbanlmkoljghaaGreatDoor.longKnown
