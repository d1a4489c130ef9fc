/- The law QuotKnown (written by its generator). -/
import Derived.Test.YtngpibfakemmhaaGreatDoorQKn7
import Derived.Test.YtngpibfakemmhaaGreatDoorQKn8
import Derived.Test.YtngpibfakemmhaaGreatDoorQKn9
namespace Go.Proofs.YtngpibfakemmhaaGreatDoor
open Go Go.RowKit Dig
set_option linter.unusedVariables false in
set_option maxRecDepth 100000 in
set_option maxHeartbeats 16000000 in
theorem QuotKnown_any (w : World) (G : Glob w) (M : MaxL w) :
    Calls Tryz.prog 3 #[] w fun e w' => Below w.heap.size w w' ∧ e = .returned (.bool true) := by
  obtain ⟨T, hT⟩ := most_q_ex; obtain ⟨ns, hns⟩ : ∃ ns, ns = nine 5400 := ⟨_, rfl⟩; rw [← hns] at hT; have HM := Lib.hid hT; clear hT
  have hnl : ns.length = 5400 := by rw [hns]; exact nine_len 5400
  have GX := Lib.hid G; have MX := Lib.hid M
  go_enter Tryz.func3, Tryz.ntmps3
  go_wp2_with fail
  refine (worksQ_any _ G M).mono ?_
  rintro e w1 ⟨hb1, rfl⟩
  have B2 := Lib.hid hb1
  have z2 := B2.out.size
  clear hb1
  go_wp2_with fail
  refine (Repeat_nineQ 5400 _ (by decide)).mono ?_
  rintro e w4 ⟨hb4, NB, rfl, hNB⟩
  have B5 := Lib.hid hb4
  have z5 := B5.out.size
  have HB6 := Lib.hid (B2.out.trans (B5.out.mono B2.out.size))
  clear hb4
  rw [← hns] at hNB; have hnz : NB.size = 5400 := by rw [Lib.size_eq, hNB]; exact hnl
  have HNB := Lib.hid hNB; have HNZ := Lib.hid hnz; clear hNB hnl hns
  have hcat1 : ¬ 9223372036854775807 < 2 + NB.size := by omega
  obtain ⟨LB, hlb⟩ : ∃ s : ByteArray, (⟨#[49, 47]⟩ : ByteArray) ++ NB = s := ⟨_, rfl⟩
  have HLB := Lib.hid hlb; have HLD := Lib.hid (show LB.data.toList = [49] ++ 47 :: ns by rw [← hlb]; exact cat2 HNB.out); have HLZ := Lib.hid (show LB.size ≤ 1000000 by rw [← hlb, ByteArray.size_append, hnz, sz2]; omega)
  clear hnz
  go_wp2_with fail
  refine (ofQ_lit _ NB (mkRat (T : Int) 1) (parse_lit (HM.out.tm.trans HNB.out.symm) HM.out.lm) (by rw [HNZ.out]; omega) (M.step HB6.out)).mono ?_
  rintro e w8 ⟨hb8, v7, rfl, hv7⟩
  have B9 := Lib.hid hb8
  have z9 := B9.out.size
  have HB10 := Lib.hid (HB6.out.trans (B9.out.mono HB6.out.size))
  clear hb8
  obtain ⟨on11, oA11, ol11, oc11, oB11, om_11, od11, rfl, ha11, hb11, hc11⟩ := hv7
  have Hmost_11 := Lib.hid (show QV w8 w8.heap.size (.agg #[.bool on11, .slice oA11 ol11 oc11, .bool false, .slice oB11 om_11 od11]) (mkRat (T : Int) 1) from ⟨_, _, _, _, _, _, _, rfl, ha11, hb11, hc11⟩)
  clear ha11 hb11 hc11
  go_wp2_with fail
  refine (ofQ_lit _ LB (mkRat 1 T) (parse_lit (HM.out.tl.trans HLD.out.symm) HM.out.ll) HLZ.out (M.step HB10.out)).mono ?_
  rintro e w13 ⟨hb13, v12, rfl, hv12⟩
  have B14 := Lib.hid hb13
  have z14 := B14.out.size
  have HB15 := Lib.hid (HB10.out.trans (B14.out.mono HB10.out.size))
  clear hb13
  obtain ⟨on16, oA16, ol16, oc16, oB16, om_16, od16, rfl, ha16, hb16, hc16⟩ := hv12
  have Hleast_16 := Lib.hid (show QV w13 w13.heap.size (.agg #[.bool on16, .slice oA16 ol16 oc16, .bool false, .slice oB16 om_16 od16]) (mkRat 1 T) from ⟨_, _, _, _, _, _, _, rfl, ha16, hb16, hc16⟩)
  clear ha16 hb16 hc16
  clear hcat1 hlb
  go_upto_region 5 with (fail)
  obtain ⟨w17, hW17⟩ : ∃ w17 : World, w17 = ((w13.alloc (.cells #[.bool on11, .slice oA11 ol11 oc11, .bool false, .slice oB11 om_11 od11] 28)).alloc (.cells #[.bool on16, .slice oA16 ol16 oc16, .bool false, .slice oB16 om_16 od16] 28)) := ⟨_, rfl⟩; rw [← hW17]
  have Lmost_17 := n2_0 hW17
  have Lleast_17 := n2_1 hW17
  have za17 := n2_z hW17
  have B18 := Lib.hid (n2_b hW17)
  have z18 := B18.out.size
  have HB19 := Lib.hid (HB15.out.trans (B18.out.mono HB15.out.size))
  clear hW17
  go_wp2_with fail
  refine (Of_any _ 2 (by decide) (by decide)).mono ?_
  rintro e w20 ⟨hb20, v, rfl, hv⟩
  have B21 := Lib.hid hb20
  have z21 := B21.out.size
  have HB22 := Lib.hid (HB19.out.trans (B21.out.mono HB19.out.size))
  clear hb20
  obtain ⟨n23, Ad23, l23, c23, rfl, hv23⟩ := hv.opened
  have Hb1_23 := Lib.hid hv23
  clear hv hv23
  go_wp2_with fail
  refine (Of_any _ 2 (by decide) (by decide)).mono ?_
  rintro e w24 ⟨hb24, v, rfl, hv⟩
  have B25 := Lib.hid hb24
  have z25 := B25.out.size
  have HB26 := Lib.hid (HB22.out.trans (B25.out.mono HB22.out.size))
  clear hb24
  obtain ⟨n27, Ad27, l27, c27, rfl, hv27⟩ := hv.opened
  have Hb2_27 := Lib.hid hv27
  clear hv hv27
  go_upto_region 6 with (fail)
  have Hb1_28 := Lib.hid (LV.step Hb1_23.out B25.out)
  obtain ⟨w29, hW29⟩ : ∃ w29 : World, w29 = (w24.alloc (.cells #[.bool n23, .slice Ad23 l23 c23, .bool n27, .slice Ad27 l27 c27] 28)) := ⟨_, rfl⟩; rw [← hW29]
  have Lbad_29 := n1_0 hW29
  have za29 := n1_z hW29
  have B30 := Lib.hid (n1_b hW29)
  have z30 := B30.out.size
  have HB31 := Lib.hid (HB26.out.trans (B30.out.mono HB26.out.size))
  clear hW29
  have Hb1_32 := Lib.hid (LV.step Hb1_28.out B30.out)
  have Hb2_33 := Lib.hid (LV.step Hb2_27.out B30.out)
  have HBAD := Lib.hid (QR.of Hb1_32.out Hb2_33.out); have HBQ := Lib.hid (qOf_lit (x := 2) (y := 2) (by decide) (by decide) (by decide))
  have P5_7_36 := Lib.hid (B21.out.trans (B25.out.mono B21.out.size))
  have P5_8_37 := Lib.hid (P5_7_36.out.trans (B30.out.mono P5_7_36.out.size))
  have Lmost_35 := CB.step Lmost_17 P5_8_37.out
  have q38_0 := Lmost_35.cell 0 rfl
  have q38_1 := Lmost_35.cell 1 rfl
  have q38_2 := Lmost_35.cell 2 rfl
  have q38_3 := Lmost_35.cell 3 rfl
  have q38_lt := Lmost_35.lt
  go_wp2_with fail
  have P3_5_39 := Lib.hid (B14.out.trans (B18.out.mono B14.out.size))
  have P3_6_40 := Lib.hid (P3_5_39.out.trans (B21.out.mono P3_5_39.out.size))
  have P3_7_41 := Lib.hid (P3_6_40.out.trans (B25.out.mono P3_6_40.out.size))
  have P3_8_42 := Lib.hid (P3_7_41.out.trans (B30.out.mono P3_7_41.out.size))
  have Hmost_43 := Lib.hid (QV.step Hmost_11.out P3_8_42.out)
  refine (QCheck_good Hmost_43.out HM.out.lm).mono ?_
  rintro e w34 ⟨hb34, rfl⟩
  have B44 := Lib.hid hb34
  have z44 := B44.out.size
  have HB45 := Lib.hid (HB31.out.trans (B44.out.mono HB31.out.size))
  clear hb34
  clear q38_0 q38_1 q38_2 q38_3 q38_lt
  have P5_9_48 := Lib.hid (P5_8_37.out.trans (B44.out.mono P5_8_37.out.size))
  have Lleast_47 := CB.step Lleast_17 P5_9_48.out
  have q49_0 := Lleast_47.cell 0 rfl
  have q49_1 := Lleast_47.cell 1 rfl
  have q49_2 := Lleast_47.cell 2 rfl
  have q49_3 := Lleast_47.cell 3 rfl
  have q49_lt := Lleast_47.lt
  go_wp2_with fail
  have P4_6_50 := Lib.hid (B18.out.trans (B21.out.mono B18.out.size))
  have P4_7_51 := Lib.hid (P4_6_50.out.trans (B25.out.mono P4_6_50.out.size))
  have P4_8_52 := Lib.hid (P4_7_51.out.trans (B30.out.mono P4_7_51.out.size))
  have P4_9_53 := Lib.hid (P4_8_52.out.trans (B44.out.mono P4_8_52.out.size))
  have Hleast_54 := Lib.hid (QV.step Hleast_16.out P4_9_53.out)
  refine (QCheck_good Hleast_54.out HM.out.ll).mono ?_
  rintro e w46 ⟨hb46, rfl⟩
  have B55 := Lib.hid hb46
  have z55 := B55.out.size
  have HB56 := Lib.hid (HB45.out.trans (B55.out.mono HB45.out.size))
  clear hb46
  clear q49_0 q49_1 q49_2 q49_3 q49_lt
  have P8_10_59 := Lib.hid (B44.out.trans (B55.out.mono B44.out.size))
  have Lbad_58 := CB.step Lbad_29 P8_10_59.out
  have q60_0 := Lbad_58.cell 0 rfl
  have q60_1 := Lbad_58.cell 1 rfl
  have q60_2 := Lbad_58.cell 2 rfl
  have q60_3 := Lbad_58.cell 3 rfl
  have q60_lt := Lbad_58.lt
  go_wp2_with fail
  have Hbad_61 := Lib.hid (QR.step HBAD.out P8_10_59.out)
  refine (QCheck_no Hbad_61.out HBQ.out).mono ?_
  rintro e w57 ⟨hb57, rfl⟩
  have B62 := Lib.hid hb57
  have z62 := B62.out.size
  have HB63 := Lib.hid (HB56.out.trans (B62.out.mono HB56.out.size))
  clear hb57
  clear q60_0 q60_1 q60_2 q60_3 q60_lt
  go_wp2_with fail
  refine (QCheck_no (zeroQ _ _) (qOf_none2' rfl)).mono ?_
  rintro e w64 ⟨hb64, rfl⟩
  have B65 := Lib.hid hb64
  have z65 := B65.out.size
  have HB66 := Lib.hid (HB63.out.trans (B65.out.mono HB63.out.size))
  clear hb64
  go_wp2_with fail
  refine (Of_any _ 1 (by decide) (by decide)).mono ?_
  rintro e w67 ⟨hb67, v, rfl, hv⟩
  have B68 := Lib.hid hb67
  have z68 := B68.out.size
  have HB69 := Lib.hid (HB66.out.trans (B68.out.mono HB66.out.size))
  clear hb67
  obtain ⟨n70, Ad70, l70, c70, rfl, hv70⟩ := hv.opened
  have Hx_70 := Lib.hid hv70
  clear hv hv70
  go_wp2_with fail
  refine (Of_any _ (-2) (by decide) (by decide)).mono ?_
  rintro e w71 ⟨hb71, v, rfl, hv⟩
  have B72 := Lib.hid hb71
  have z72 := B72.out.size
  have HB73 := Lib.hid (HB69.out.trans (B72.out.mono HB69.out.size))
  clear hb71
  obtain ⟨n74, Ad74, l74, c74, rfl, hv74⟩ := hv.opened
  have Hy_74 := Lib.hid hv74
  clear hv hv74
  go_wp2_with fail
  have Hx_76 := Lib.hid (LV.step Hx_70.out B72.out)
  refine (QCheck_no (QR.of Hx_76.out Hy_74.out) (qOf_lit (by decide) (by decide) (by decide))).mono ?_
  rintro e w75 ⟨hb75, rfl⟩
  have B77 := Lib.hid hb75
  have z77 := B77.out.size
  have HB78 := Lib.hid (HB73.out.trans (B77.out.mono HB73.out.size))
  clear hb75
  go_wp2_with fail
  refine (Of_any _ 1 (by decide) (by decide)).mono ?_
  rintro e w79 ⟨hb79, v, rfl, hv⟩
  have B80 := Lib.hid hb79
  have z80 := B80.out.size
  have HB81 := Lib.hid (HB78.out.trans (B80.out.mono HB78.out.size))
  clear hb79
  obtain ⟨n82, Ad82, l82, c82, rfl, hv82⟩ := hv.opened
  have Hz_82 := Lib.hid hv82
  clear hv hv82
  go_wp2_with fail
  refine (QCheck_no (QR.neg0 Hz_82.out) (qOf_none1 neg0_bad)).mono ?_
  rintro e w83 ⟨hb83, rfl⟩
  have B84 := Lib.hid hb83
  have z84 := B84.out.size
  have HB85 := Lib.hid (HB81.out.trans (B84.out.mono HB81.out.size))
  clear hb83
  go_wp2_with fail
  refine (Of_any _ 2 (by decide) (by decide)).mono ?_
  rintro e w86 ⟨hb86, v, rfl, hv⟩
  have B87 := Lib.hid hb86
  have z87 := B87.out.size
  have HB88 := Lib.hid (HB85.out.trans (B87.out.mono HB85.out.size))
  clear hb86
  obtain ⟨n89, Ad89, l89, c89, rfl, hv89⟩ := hv.opened
  have Hu_89 := Lib.hid hv89
  clear hv hv89
  go_wp2_with fail
  refine (QCheck_no (QR.of (LV.zero _ _) Hu_89.out) (qOf_lit (by decide) (by decide) (by decide))).mono ?_
  rintro e w90 ⟨hb90, rfl⟩
  have B91 := Lib.hid hb90
  have z91 := B91.out.size
  have HB92 := Lib.hid (HB88.out.trans (B91.out.mono HB88.out.size))
  clear hb90
  go_upto_region 7 with (fail)
  have P8_11_94 := Lib.hid (P8_10_59.out.trans (B62.out.mono P8_10_59.out.size))
  have P8_12_95 := Lib.hid (P8_11_94.out.trans (B65.out.mono P8_11_94.out.size))
  have P8_13_96 := Lib.hid (P8_12_95.out.trans (B68.out.mono P8_12_95.out.size))
  have P8_14_97 := Lib.hid (P8_13_96.out.trans (B72.out.mono P8_13_96.out.size))
  have P8_15_98 := Lib.hid (P8_14_97.out.trans (B77.out.mono P8_14_97.out.size))
  have P8_16_99 := Lib.hid (P8_15_98.out.trans (B80.out.mono P8_15_98.out.size))
  have P8_17_100 := Lib.hid (P8_16_99.out.trans (B84.out.mono P8_16_99.out.size))
  have P8_18_101 := Lib.hid (P8_17_100.out.trans (B87.out.mono P8_17_100.out.size))
  have P8_19_102 := Lib.hid (P8_18_101.out.trans (B91.out.mono P8_18_101.out.size))
  have Lmost_93 := CB.step Lmost_35 P8_19_102.out
  have Hmost_103 := Lib.hid (QV.step Hmost_43.out P8_19_102.out)
  have P9_11_105 := Lib.hid (B55.out.trans (B62.out.mono B55.out.size))
  have P9_12_106 := Lib.hid (P9_11_105.out.trans (B65.out.mono P9_11_105.out.size))
  have P9_13_107 := Lib.hid (P9_12_106.out.trans (B68.out.mono P9_12_106.out.size))
  have P9_14_108 := Lib.hid (P9_13_107.out.trans (B72.out.mono P9_13_107.out.size))
  have P9_15_109 := Lib.hid (P9_14_108.out.trans (B77.out.mono P9_14_108.out.size))
  have P9_16_110 := Lib.hid (P9_15_109.out.trans (B80.out.mono P9_15_109.out.size))
  have P9_17_111 := Lib.hid (P9_16_110.out.trans (B84.out.mono P9_16_110.out.size))
  have P9_18_112 := Lib.hid (P9_17_111.out.trans (B87.out.mono P9_17_111.out.size))
  have P9_19_113 := Lib.hid (P9_18_112.out.trans (B91.out.mono P9_18_112.out.size))
  have Lleast_104 := CB.step Lleast_47 P9_19_113.out
  have Hleast_114 := Lib.hid (QV.step Hleast_54.out P9_19_113.out)
  have P10_12_116 := Lib.hid (B62.out.trans (B65.out.mono B62.out.size))
  have P10_13_117 := Lib.hid (P10_12_116.out.trans (B68.out.mono P10_12_116.out.size))
  have P10_14_118 := Lib.hid (P10_13_117.out.trans (B72.out.mono P10_13_117.out.size))
  have P10_15_119 := Lib.hid (P10_14_118.out.trans (B77.out.mono P10_14_118.out.size))
  have P10_16_120 := Lib.hid (P10_15_119.out.trans (B80.out.mono P10_15_119.out.size))
  have P10_17_121 := Lib.hid (P10_16_120.out.trans (B84.out.mono P10_16_120.out.size))
  have P10_18_122 := Lib.hid (P10_17_121.out.trans (B87.out.mono P10_17_121.out.size))
  have P10_19_123 := Lib.hid (P10_18_122.out.trans (B91.out.mono P10_18_122.out.size))
  have Lbad_115 := CB.step Lbad_58 P10_19_123.out
  have Hbad_124 := Lib.hid (QR.step Hbad_61.out P10_19_123.out)
  refine qkn_r7 G M HM HNB HNZ HLB HLD HBQ (fun _ _ d _ _ h => by cases d <;> exact h) HB92 Lmost_93 Hmost_103 Lleast_104 Hleast_114 Lbad_115 Hbad_124 ?_
  intro x75_125 x76_125 x77_125 x78_125 x79_125 x80_125 x81_125 x82_125 x83_125 x84_125 x85_125 x86_125 x87_125 x88_125 x89_125 x90_125 x91_125 x92_125 x93_125 x94_125 x95_125 x96_125 x97_125 x98_125 x99_125 x100_125 x101_125 x102_125 x103_125 x104_125 x105_125 x106_125 x107_125 x108_125 x109_125 x110_125 x111_125 x112_125 x113_125 x114_125 x115_125 x116_125 x117_125 x118_125 x119_125 x120_125 x121_125 x122_125 x123_125 x124_125 x125_125 x126_125 x127_125 x128_125 x129_125 x130_125 x131_125 x132_125 x133_125 x134_125 x135_125 x136_125 x137_125 x138_125 x139_125 x140_125 x141_125 x142_125 x143_125 x144_125 x145_125 x146_125 x147_125 x148_125 x149_125 x150_125 x151_125 x152_125 x153_125 x154_125 x155_125 x156_125 x157_125 x158_125 x159_125 wx125 HB125 Lm125 Hm125 Ll125 Hl125 Lb125 Hb125
  go_upto_region 8 with (fail)
  refine qkn_r8 G M HM HNB HNZ HLB HLD HBQ (fun _ _ d _ _ h => by cases d <;> exact h) HB125 Lm125 Hm125 Ll125 Hl125 Lb125 Hb125 ?_
  intro x160_126 x161_126 x162_126 x163_126 x164_126 x165_126 x166_126 x167_126 x168_126 x169_126 x170_126 x171_126 x172_126 x173_126 x174_126 x175_126 x176_126 x177_126 x178_126 x179_126 x180_126 x181_126 x182_126 x183_126 x184_126 x185_126 x186_126 x187_126 x188_126 x189_126 x190_126 x191_126 x192_126 x193_126 x194_126 x195_126 x196_126 x197_126 x198_126 x199_126 x200_126 x201_126 x202_126 x203_126 x204_126 x205_126 x206_126 x207_126 x208_126 x209_126 x210_126 x211_126 x212_126 x213_126 x214_126 x215_126 x216_126 x217_126 x218_126 x219_126 x220_126 x221_126 x222_126 x223_126 x224_126 x225_126 x226_126 x227_126 x228_126 x229_126 x230_126 x231_126 x232_126 x233_126 x234_126 x235_126 x236_126 x237_126 x238_126 x239_126 x240_126 x241_126 x242_126 x243_126 x244_126 x245_126 x246_126 x247_126 x248_126 x249_126 x250_126 x251_126 x252_126 wx126 HB126 Lm126 Hm126 Ll126 Hl126 Lb126 Hb126
  go_upto_region 9 with (fail)
  refine qkn_r9 G M HM HNB HNZ HLB HLD HBQ (fun _ _ d _ _ h => by cases d <;> exact h) HB126 Lm126 Hm126 Ll126 Hl126 Lb126 Hb126 ?_
  intro x253_127 x254_127 x255_127 x256_127 x257_127 x258_127 x259_127 x260_127 x261_127 x262_127 x263_127 x264_127 x265_127 x266_127 x267_127 x268_127 x269_127 x270_127 x271_127 x272_127 x273_127 x274_127 x275_127 x276_127 x277_127 x278_127 x279_127 x280_127 x281_127 x282_127 x283_127 x284_127 x285_127 x286_127 x287_127 x288_127 x289_127 x290_127 x291_127 x292_127 x293_127 x294_127 x295_127 x296_127 x297_127 x298_127 x299_127 x300_127 x301_127 x302_127 x303_127 x304_127 x305_127 x306_127 x307_127 x308_127 x309_127 x310_127 x311_127 x312_127 x313_127 x314_127 x315_127 x316_127 x317_127 x318_127 x319_127 x320_127 x321_127 x322_127 x323_127 x324_127 x325_127 x326_127 wx127 HB127 Lm127 Hm127 Ll127 Hl127 Lb127 Hb127
  go_upto_region 10 with (fail)
  go_wp2_with fail
  refine (ofQ_lit _ ⟨#[49, 48, 52, 56, 53, 55, 55]⟩ (mkRat 1048577 1) plit_49_48_52_56_53_55_55 (by decide +kernel) (M.step HB127.out)).mono ?_
  rintro e w129 ⟨hb129, v128, rfl, hv128⟩
  have B130 := Lib.hid hb129
  have z130 := B130.out.size
  have HB131 := Lib.hid (HB127.out.trans (B130.out.mono HB127.out.size))
  clear hb129
  have Ha_132 := Lib.hid hv128; clear hv128
  go_wp2_with fail
  refine (QSpan_lit Ha_132.out (lit_QL (x := 1048577) (d := 1) (by decide) (by decide +kernel) (by decide +kernel) (by decide +kernel)) (r := ((0, 0), 6)) (by decide +kernel) (G.step HB131.out)).mono ?_
  rintro e w133 ⟨hb133, rfl⟩
  have B134 := Lib.hid hb133
  have z134 := B134.out.size
  have HB135 := Lib.hid (HB131.out.trans (B134.out.mono HB131.out.size))
  clear hb133
  go_upto_region 11 with (fail)
  obtain ⟨w136, hW136⟩ : ∃ w136 : World, w136 = (w133.alloc (.cells #[.int .i64 0, .int .i64 0] 44)) := ⟨_, rfl⟩; rw [← hW136]
  have Ls1_136 := n1_0 hW136
  have za136 := n1_z hW136
  have B137 := Lib.hid (n1_b hW136)
  have z137 := B137.out.size
  have HB138 := Lib.hid (HB135.out.trans (B137.out.mono HB135.out.size))
  clear hW136
  go_wp2_with fail
  refine (ofQ_lit _ ⟨#[52, 53, 48, 51, 53, 57, 57, 54, 50, 55, 51, 55, 48, 52, 57, 55, 47, 52, 50, 57, 52, 57, 54, 55, 50, 57, 54]⟩ (mkRat 4503599627370497 4294967296) plit_52_53_48_51_53_57_57_54_50_55_51_55_48_52_57_55_47_52_50_57_52_57_54_55_50_57_54 (by decide +kernel) (M.step HB138.out)).mono ?_
  rintro e w140 ⟨hb140, v139, rfl, hv139⟩
  have B141 := Lib.hid hb140
  have z141 := B141.out.size
  have HB142 := Lib.hid (HB138.out.trans (B141.out.mono HB138.out.size))
  clear hb140
  have Ha_143 := Lib.hid hv139; clear hv139
  go_wp2_with fail
  refine (QSpan_lit Ha_143.out (lit_QL (x := 4503599627370497) (d := 4294967296) (by decide) (by decide +kernel) (by decide +kernel) (by decide +kernel)) (r := ((0, 0), 6)) (by decide +kernel) (G.step HB142.out)).mono ?_
  rintro e w144 ⟨hb144, rfl⟩
  have B145 := Lib.hid hb144
  have z145 := B145.out.size
  have HB146 := Lib.hid (HB142.out.trans (B145.out.mono HB142.out.size))
  clear hb144
  go_upto_region 12 with (fail)
  obtain ⟨w147, hW147⟩ : ∃ w147 : World, w147 = (w144.alloc (.cells #[.int .i64 0, .int .i64 0] 44)) := ⟨_, rfl⟩; rw [← hW147]
  have Ls2_147 := n1_0 hW147
  have za147 := n1_z hW147
  have B148 := Lib.hid (n1_b hW147)
  have z148 := B148.out.size
  have HB149 := Lib.hid (HB146.out.trans (B148.out.mono HB146.out.size))
  clear hW147
  go_wp2_with fail
  refine (ofQ_lit _ ⟨#[57, 50, 50, 51, 51, 55, 50, 48, 51, 54, 56, 53, 52, 55, 55, 53, 56, 48, 57, 47, 50]⟩ (mkRat 9223372036854775809 2) plit_57_50_50_51_51_55_50_48_51_54_56_53_52_55_55_53_56_48_57_47_50 (by decide +kernel) (M.step HB149.out)).mono ?_
  rintro e w151 ⟨hb151, v150, rfl, hv150⟩
  have B152 := Lib.hid hb151
  have z152 := B152.out.size
  have HB153 := Lib.hid (HB149.out.trans (B152.out.mono HB149.out.size))
  clear hb151
  have Ha_154 := Lib.hid hv150; clear hv150
  go_wp2_with fail
  refine (QNear_lit Ha_154.out (lit_QL (x := 9223372036854775809) (d := 2) (by decide) (by decide +kernel) (by decide +kernel) (by decide +kernel)) (s := 1) (r := (0, 6)) (by decide +kernel) (G.step HB153.out)).mono ?_
  rintro e w155 ⟨hb155, rfl⟩
  have B156 := Lib.hid hb155
  have z156 := B156.out.size
  have HB157 := Lib.hid (HB153.out.trans (B156.out.mono HB153.out.size))
  clear hb155
  go_wp2_with fail
  refine (ofQ_lit _ ⟨#[49]⟩ (mkRat 1 1) plit_49 (by decide +kernel) (M.step HB157.out)).mono ?_
  rintro e w159 ⟨hb159, v158, rfl, hv158⟩
  have B160 := Lib.hid hb159
  have z160 := B160.out.size
  have HB161 := Lib.hid (HB157.out.trans (B160.out.mono HB157.out.size))
  clear hb159
  have Ha_162 := Lib.hid hv158; clear hv158
  go_wp2_with fail
  refine (QNear_lit Ha_162.out (lit_QL (x := 1) (d := 1) (by decide) (by decide +kernel) (by decide +kernel) (by decide +kernel)) (s := 1000000000001) (r := (0, 2)) (by decide +kernel) (G.step HB161.out)).mono ?_
  rintro e w163 ⟨hb163, rfl⟩
  have B164 := Lib.hid hb163
  have z164 := B164.out.size
  have HB165 := Lib.hid (HB161.out.trans (B164.out.mono HB161.out.size))
  clear hb163
  have P1_3_168 := Lib.hid (B130.out.trans (B134.out.mono B130.out.size))
  have P1_4_169 := Lib.hid (P1_3_168.out.trans (B137.out.mono P1_3_168.out.size))
  have P1_5_170 := Lib.hid (P1_4_169.out.trans (B141.out.mono P1_4_169.out.size))
  have P1_6_171 := Lib.hid (P1_5_170.out.trans (B145.out.mono P1_5_170.out.size))
  have P1_7_172 := Lib.hid (P1_6_171.out.trans (B148.out.mono P1_6_171.out.size))
  have P1_8_173 := Lib.hid (P1_7_172.out.trans (B152.out.mono P1_7_172.out.size))
  have P1_9_174 := Lib.hid (P1_8_173.out.trans (B156.out.mono P1_8_173.out.size))
  have P1_10_175 := Lib.hid (P1_9_174.out.trans (B160.out.mono P1_9_174.out.size))
  have P1_11_176 := Lib.hid (P1_10_175.out.trans (B164.out.mono P1_10_175.out.size))
  have Lbad_167 := CB.step Lb127 P1_11_176.out
  have q177_0 := Lbad_167.cell 0 rfl
  have q177_1 := Lbad_167.cell 1 rfl
  have q177_2 := Lbad_167.cell 2 rfl
  have q177_3 := Lbad_167.cell 3 rfl
  have q177_lt := Lbad_167.lt
  go_wp2_with fail
  have Hbad_178 := Lib.hid (QR.step Hb127.out P1_11_176.out)
  refine (QNear_bad _ _ _ _ _ _ 0 Hbad_178.out HBQ.out).mono ?_
  rintro e w166 ⟨hb166, rfl⟩
  have B179 := Lib.hid hb166
  have z179 := B179.out.size
  have HB180 := Lib.hid (HB165.out.trans (B179.out.mono HB165.out.size))
  clear hb166
  clear q177_0 q177_1 q177_2 q177_3 q177_lt
  have Lbad_182 := CB.step Lbad_167 B179.out
  have q183_0 := Lbad_182.cell 0 rfl
  have q183_1 := Lbad_182.cell 1 rfl
  have q183_2 := Lbad_182.cell 2 rfl
  have q183_3 := Lbad_182.cell 3 rfl
  have q183_lt := Lbad_182.lt
  go_wp2_with fail
  have Hbad_184 := Lib.hid (QR.step Hbad_178.out B179.out)
  refine (QFloor_bad _ _ _ _ _ _ Hbad_184.out HBQ.out).mono ?_
  rintro e w181 ⟨hb181, v, rfl, hv⟩
  have B185 := Lib.hid hb181
  have z185 := B185.out.size
  have HB186 := Lib.hid (HB180.out.trans (B185.out.mono HB180.out.size))
  clear hb181
  clear q183_0 q183_1 q183_2 q183_3 q183_lt
  replace hv : LV w181 w181.heap.size v 0 := hv
  obtain ⟨n187, Ad187, l187, c187, rfl, hv187⟩ := hv.opened
  have Hfl_187 := Lib.hid hv187
  clear hv hv187
  go_upto_region 16 with (fail)
  obtain ⟨w188, hW188⟩ : ∃ w188 : World, w188 = (w181.alloc (.cells #[.bool n187, .slice Ad187 l187 c187] 26)) := ⟨_, rfl⟩; rw [← hW188]
  have Lflv_188 := n1_0 hW188
  have za188 := n1_z hW188
  have B189 := Lib.hid (n1_b hW188)
  have z189 := B189.out.size
  have HB190 := Lib.hid (HB186.out.trans (B189.out.mono HB186.out.size))
  clear hW188
  have P12_14_193 := Lib.hid (B185.out.trans (B189.out.mono B185.out.size))
  have Lbad_192 := CB.step Lbad_182 P12_14_193.out
  have q194_0 := Lbad_192.cell 0 rfl
  have q194_1 := Lbad_192.cell 1 rfl
  have q194_2 := Lbad_192.cell 2 rfl
  have q194_3 := Lbad_192.cell 3 rfl
  have q194_lt := Lbad_192.lt
  go_wp2_with fail
  have Hbad_195 := Lib.hid (QR.step Hbad_184.out P12_14_193.out)
  refine (QText_bad _ _ _ _ _ _ Hbad_195.out HBQ.out).mono ?_
  rintro e w191 ⟨hb191, rfl⟩
  have B196 := Lib.hid hb191
  have z196 := B196.out.size
  have HB197 := Lib.hid (HB190.out.trans (B196.out.mono HB190.out.size))
  clear hb191
  clear q194_0 q194_1 q194_2 q194_3 q194_lt
  have P1_12_200 := Lib.hid (P1_11_176.out.trans (B179.out.mono P1_11_176.out.size))
  have P1_13_201 := Lib.hid (P1_12_200.out.trans (B185.out.mono P1_12_200.out.size))
  have P1_14_202 := Lib.hid (P1_13_201.out.trans (B189.out.mono P1_13_201.out.size))
  have P1_15_203 := Lib.hid (P1_14_202.out.trans (B196.out.mono P1_14_202.out.size))
  have Lmost_199 := CB.step Lm127 P1_15_203.out
  have q204_0 := Lmost_199.cell 0 rfl
  have q204_1 := Lmost_199.cell 1 rfl
  have q204_2 := Lmost_199.cell 2 rfl
  have q204_3 := Lmost_199.cell 3 rfl
  have q204_lt := Lmost_199.lt
  have Lbad_205 := CB.step Lbad_192 B196.out
  have q206_0 := Lbad_205.cell 0 rfl
  have q206_1 := Lbad_205.cell 1 rfl
  have q206_2 := Lbad_205.cell 2 rfl
  have q206_3 := Lbad_205.cell 3 rfl
  have q206_lt := Lbad_205.lt
  go_wp2_with fail
  have Hmost_207 := Lib.hid (QV.step Hm127.out P1_15_203.out)
  have Hbad_208 := Lib.hid (QR.step Hbad_195.out B196.out)
  refine (QCmp_bad _ _ _ _ _ _ _ _ _ _ _ (QV.qr Hmost_207.out) Hbad_208.out (.inr HBQ.out)).mono ?_
  rintro e w198 ⟨hb198, rfl⟩
  have B209 := Lib.hid hb198
  have z209 := B209.out.size
  have HB210 := Lib.hid (HB197.out.trans (B209.out.mono HB197.out.size))
  clear hb198
  clear q204_0 q204_1 q204_2 q204_3 q204_lt q206_0 q206_1 q206_2 q206_3 q206_lt
  have Lbad_212 := CB.step Lbad_205 B209.out
  have q213_0 := Lbad_212.cell 0 rfl
  have q213_1 := Lbad_212.cell 1 rfl
  have q213_2 := Lbad_212.cell 2 rfl
  have q213_3 := Lbad_212.cell 3 rfl
  have q213_lt := Lbad_212.lt
  go_wp2_with fail
  have Hbad_214 := Lib.hid (QR.step Hbad_208.out B209.out)
  refine (QSign_no Hbad_214.out HBQ.out).mono ?_
  rintro e w211 ⟨hb211, rfl⟩
  have B215 := Lib.hid hb211
  have z215 := B215.out.size
  have HB216 := Lib.hid (HB210.out.trans (B215.out.mono HB210.out.size))
  clear hb211
  clear q213_0 q213_1 q213_2 q213_3 q213_lt
  have Lbad_218 := CB.step Lbad_212 B215.out
  have q219_0 := Lbad_218.cell 0 rfl
  have q219_1 := Lbad_218.cell 1 rfl
  have q219_2 := Lbad_218.cell 2 rfl
  have q219_3 := Lbad_218.cell 3 rfl
  have q219_lt := Lbad_218.lt
  go_wp2_with fail
  have Hbad_220 := Lib.hid (QR.step Hbad_214.out B215.out)
  refine (QSpan_bad _ _ _ _ _ _ Hbad_220.out HBQ.out).mono ?_
  rintro e w217 ⟨hb217, rfl⟩
  have B221 := Lib.hid hb217
  have z221 := B221.out.size
  have HB222 := Lib.hid (HB216.out.trans (B221.out.mono HB216.out.size))
  clear hb217
  clear q219_0 q219_1 q219_2 q219_3 q219_lt
  go_upto_region 20 with (fail)
  obtain ⟨w223, hW223⟩ : ∃ w223 : World, w223 = (w217.alloc (.cells #[.int .i64 0, .int .i64 0] 44)) := ⟨_, rfl⟩; rw [← hW223]
  have Ls3_223 := n1_0 hW223
  have za223 := n1_z hW223
  have B224 := Lib.hid (n1_b hW223)
  have z224 := B224.out.size
  have HB225 := Lib.hid (HB222.out.trans (B224.out.mono HB222.out.size))
  clear hW223
  go_wp2_with fail
  refine (worksQ_any _ (G.step HB225.out) (M.step HB225.out)).mono ?_
  rintro e w226 ⟨hb226, rfl⟩
  have B227 := Lib.hid hb226
  have z227 := B227.out.size
  have HB228 := Lib.hid (HB225.out.trans (B227.out.mono HB225.out.size))
  clear hb226
  obtain ⟨S1, hs1⟩ : ∃ s : ByteArray, NB ++ (⟨#[57, 47, 120]⟩ : ByteArray) = s := ⟨_, rfl⟩; obtain ⟨T2, ht2⟩ : ∃ s : ByteArray, (⟨#[120, 47]⟩ : ByteArray) ++ NB = s := ⟨_, rfl⟩; obtain ⟨S2, hs2⟩ : ∃ s : ByteArray, T2 ++ (⟨#[57]⟩ : ByteArray) = s := ⟨_, rfl⟩; obtain ⟨T3, ht3⟩ : ∃ s : ByteArray, (⟨#[50, 47]⟩ : ByteArray) ++ NB = s := ⟨_, rfl⟩; obtain ⟨S3, hs3⟩ : ∃ s : ByteArray, T3 ++ (⟨#[57]⟩ : ByteArray) = s := ⟨_, rfl⟩
  have KP1 := Lib.hid (show parseQ S1.data.toList = (none, 6) by rw [← hs1, ByteArray.data_append, Array.toList_append, HNB.out]; exact HM.out.p1)
  have KP2 := Lib.hid (show parseQ S2.data.toList = (none, 5) by rw [← hs2, ← ht2, ByteArray.data_append, Array.toList_append, ByteArray.data_append, Array.toList_append, HNB.out]; exact HM.out.p2)
  have KP3 := Lib.hid (show parseQ S3.data.toList = (none, 6) by rw [← hs3, ← ht3, ByteArray.data_append, Array.toList_append, ByteArray.data_append, Array.toList_append, HNB.out]; exact HM.out.p3)
  have KT2 := Lib.hid (show T2.size = 5402 by rw [← ht2, ByteArray.size_append, HNZ.out, sz2]); have KT3 := Lib.hid (show T3.size = 5402 by rw [← ht3, ByteArray.size_append, HNZ.out, sz2])
  have KZ1 := Lib.hid (show S1.size ≤ 1000000 by rw [← hs1, ByteArray.size_append, HNZ.out, sz3]; omega); have KZ2 := Lib.hid (show S2.size ≤ 1000000 by rw [← hs2, ByteArray.size_append, KT2.out, sz1]; omega); have KZ3 := Lib.hid (show S3.size ≤ 1000000 by rw [← hs3, ByteArray.size_append, KT3.out, sz1]; omega)
  have hc1 : ¬ 9223372036854775807 < NB.size + 3 := by rw [HNZ.out]; omega
  have hc2 : ¬ 9223372036854775807 < 2 + NB.size := by rw [HNZ.out]; omega
  have hc3 : ¬ 9223372036854775807 < T2.size + 1 := by rw [KT2.out]; omega
  have hc4 : ¬ 9223372036854775807 < T3.size + 1 := by rw [KT3.out]; omega
  go_wp2_with fail
  refine (failsQ_new _ 6).mono ?_
  rintro e w230 ⟨hb230, N229, rfl, hN229⟩
  have B231 := Lib.hid hb230
  have z231 := B231.out.size
  have HB232 := Lib.hid (HB228.out.trans (B231.out.mono HB228.out.size))
  clear hb230
  go_wp2_with fail
  refine (((QParse_any _ S1 KZ1.out (M.step HB232.out)).mono fun e w' h => And.intro h.1 (ret_no KP1.out h.2))).mono ?_
  rintro e w234 ⟨hb234, v233, rfl, hv233⟩
  have B235 := Lib.hid hb234
  have z235 := B235.out.size
  have HB236 := Lib.hid (HB232.out.trans (B235.out.mono HB232.out.size))
  clear hb234
  have Hr_237 := Lib.hid hv233; clear hv233
  have LN_238 := One.step hN229 B235.out
  go_wp2_with fail
  refine (failsQ_yes LN_238 Hr_237.out).mono ?_
  rintro e w239 ⟨hb239, rfl⟩
  have B240 := Lib.hid hb239
  have z240 := B240.out.size
  have HB241 := Lib.hid (HB236.out.trans (B240.out.mono HB236.out.size))
  clear hb239
  clear LN_238
  go_wp2_with fail
  refine (failsQ_new _ 5).mono ?_
  rintro e w243 ⟨hb243, N242, rfl, hN242⟩
  have B244 := Lib.hid hb243
  have z244 := B244.out.size
  have HB245 := Lib.hid (HB241.out.trans (B244.out.mono HB241.out.size))
  clear hb243
  go_wp2_with fail
  refine (((QParse_any _ S2 KZ2.out (M.step HB245.out)).mono fun e w' h => And.intro h.1 (ret_no KP2.out h.2))).mono ?_
  rintro e w247 ⟨hb247, v246, rfl, hv246⟩
  have B248 := Lib.hid hb247
  have z248 := B248.out.size
  have HB249 := Lib.hid (HB245.out.trans (B248.out.mono HB245.out.size))
  clear hb247
  have Hr_250 := Lib.hid hv246; clear hv246
  have LN_251 := One.step hN242 B248.out
  go_wp2_with fail
  refine (failsQ_yes LN_251 Hr_250.out).mono ?_
  rintro e w252 ⟨hb252, rfl⟩
  have B253 := Lib.hid hb252
  have z253 := B253.out.size
  have HB254 := Lib.hid (HB249.out.trans (B253.out.mono HB249.out.size))
  clear hb252
  clear LN_251
  go_wp2_with fail
  refine (failsQ_new _ 6).mono ?_
  rintro e w256 ⟨hb256, N255, rfl, hN255⟩
  have B257 := Lib.hid hb256
  have z257 := B257.out.size
  have HB258 := Lib.hid (HB254.out.trans (B257.out.mono HB254.out.size))
  clear hb256
  go_wp2_with fail
  refine (((QParse_any _ S3 KZ3.out (M.step HB258.out)).mono fun e w' h => And.intro h.1 (ret_no KP3.out h.2))).mono ?_
  rintro e w260 ⟨hb260, v259, rfl, hv259⟩
  have B261 := Lib.hid hb260
  have z261 := B261.out.size
  have HB262 := Lib.hid (HB258.out.trans (B261.out.mono HB258.out.size))
  clear hb260
  have Hr_263 := Lib.hid hv259; clear hv259
  have LN_264 := One.step hN255 B261.out
  go_wp2_with fail
  refine (failsQ_yes LN_264 Hr_263.out).mono ?_
  rintro e w265 ⟨hb265, rfl⟩
  have B266 := Lib.hid hb265
  have z266 := B266.out.size
  have HB267 := Lib.hid (HB262.out.trans (B266.out.mono HB262.out.size))
  clear hb265
  clear LN_264
  go_wp2_with fail
  refine (failsQ_new _ 5).mono ?_
  rintro e w269 ⟨hb269, N268, rfl, hN268⟩
  have B270 := Lib.hid hb269
  have z270 := B270.out.size
  have HB271 := Lib.hid (HB267.out.trans (B270.out.mono HB267.out.size))
  clear hb269
  go_wp2_with fail
  refine (QParse_any _ ⟨#[50, 47, 51, 47, 52]⟩ (by decide +kernel) (M.step HB271.out)).mono ?_
  rintro e w273 ⟨hb273, v272, rfl, hv272⟩
  have B274 := Lib.hid hb273
  have z274 := B274.out.size
  have HB275 := Lib.hid (HB271.out.trans (B274.out.mono HB271.out.size))
  clear hb273
  have heq272 := k0; rw [heq272] at hv272; rw [heq272]; clear heq272
  replace hv272 : QR w273 w273.heap.size v272 false [] false [] := hv272
  have Hr_276 := Lib.hid hv272; clear hv272
  have LN_277 := One.step hN268 B274.out
  go_wp2_with fail
  refine (failsQ_yes LN_277 Hr_276.out).mono ?_
  rintro e w278 ⟨hb278, rfl⟩
  have B279 := Lib.hid hb278
  have z279 := B279.out.size
  have HB280 := Lib.hid (HB275.out.trans (B279.out.mono HB275.out.size))
  clear hb278
  clear LN_277
  go_wp2_with fail
  refine (failsQ_new _ 5).mono ?_
  rintro e w282 ⟨hb282, N281, rfl, hN281⟩
  have B283 := Lib.hid hb282
  have z283 := B283.out.size
  have HB284 := Lib.hid (HB280.out.trans (B283.out.mono HB280.out.size))
  clear hb282
  go_wp2_with fail
  refine (QParse_any _ ⟨#[48, 47, 50]⟩ (by decide +kernel) (M.step HB284.out)).mono ?_
  rintro e w286 ⟨hb286, v285, rfl, hv285⟩
  have B287 := Lib.hid hb286
  have z287 := B287.out.size
  have HB288 := Lib.hid (HB284.out.trans (B287.out.mono HB284.out.size))
  clear hb286
  have heq285 := k1; rw [heq285] at hv285; rw [heq285]; clear heq285
  replace hv285 : QR w286 w286.heap.size v285 false [] false [] := hv285
  have Hr_289 := Lib.hid hv285; clear hv285
  have LN_290 := One.step hN281 B287.out
  go_wp2_with fail
  refine (failsQ_yes LN_290 Hr_289.out).mono ?_
  rintro e w291 ⟨hb291, rfl⟩
  have B292 := Lib.hid hb291
  have z292 := B292.out.size
  have HB293 := Lib.hid (HB288.out.trans (B292.out.mono HB288.out.size))
  clear hb291
  clear LN_290
  go_wp2_with fail
  refine (failsQ_new _ 5).mono ?_
  rintro e w295 ⟨hb295, N294, rfl, hN294⟩
  have B296 := Lib.hid hb295
  have z296 := B296.out.size
  have HB297 := Lib.hid (HB293.out.trans (B296.out.mono HB293.out.size))
  clear hb295
  go_wp2_with fail
  refine (QParse_any _ ⟨#[49, 47, 48]⟩ (by decide +kernel) (M.step HB297.out)).mono ?_
  rintro e w299 ⟨hb299, v298, rfl, hv298⟩
  have B300 := Lib.hid hb299
  have z300 := B300.out.size
  have HB301 := Lib.hid (HB297.out.trans (B300.out.mono HB297.out.size))
  clear hb299
  have heq298 := k2; rw [heq298] at hv298; rw [heq298]; clear heq298
  replace hv298 : QR w299 w299.heap.size v298 false [] false [] := hv298
  have Hr_302 := Lib.hid hv298; clear hv298
  have LN_303 := One.step hN294 B300.out
  go_wp2_with fail
  refine (failsQ_yes LN_303 Hr_302.out).mono ?_
  rintro e w304 ⟨hb304, rfl⟩
  have B305 := Lib.hid hb304
  have z305 := B305.out.size
  have HB306 := Lib.hid (HB301.out.trans (B305.out.mono HB301.out.size))
  clear hb304
  clear LN_303
  go_wp2
  go_ret
  exact ⟨HB306.out, rfl⟩
end Go.Proofs.YtngpibfakemmhaaGreatDoor
