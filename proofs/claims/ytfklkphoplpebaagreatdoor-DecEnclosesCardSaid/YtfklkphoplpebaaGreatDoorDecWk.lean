/- The law package's works (layer 05; written by gen_decwk.py). -/
import Derived.Test.YtfklkphoplpebaaGreatDoorDecL
namespace Go.Proofs.YtfklkphoplpebaaGreatDoor
open Go Go.RowKit Dig

theorem idx6_0 (a b c d e f : Value) (w : World) : (Instr.index 32 (.agg #[a, b, c, d, e, f]) (.int .i64 0)).run Tryz.prog w = .ok a w := by kernel_rfl
theorem idx6_1 (a b c d e f : Value) (w : World) : (Instr.index 32 (.agg #[a, b, c, d, e, f]) (.int .i64 1)).run Tryz.prog w = .ok b w := by kernel_rfl
theorem idx6_2 (a b c d e f : Value) (w : World) : (Instr.index 32 (.agg #[a, b, c, d, e, f]) (.int .i64 2)).run Tryz.prog w = .ok c w := by kernel_rfl
theorem idx6_3 (a b c d e f : Value) (w : World) : (Instr.index 32 (.agg #[a, b, c, d, e, f]) (.int .i64 3)).run Tryz.prog w = .ok d w := by kernel_rfl
theorem idx6_4 (a b c d e f : Value) (w : World) : (Instr.index 32 (.agg #[a, b, c, d, e, f]) (.int .i64 4)).run Tryz.prog w = .ok e w := by kernel_rfl
theorem idx6_5 (a b c d e f : Value) (w : World) : (Instr.index 32 (.agg #[a, b, c, d, e, f]) (.int .i64 5)).run Tryz.prog w = .ok f w := by kernel_rfl
set_option linter.unusedVariables false in
set_option maxRecDepth 100000 in
set_option maxHeartbeats 8000000 in
theorem worksD_any (w : World) (G : Glob w) (M : MaxL w) :
    Calls Tryz.prog 10 #[] w fun e w' => Below w.heap.size w w' ∧ e = .returned (.bool true) := by
  go_enter Tryz.func10, Tryz.ntmps10
  go_wp2_with fail
  refine (isD_new _ ⟨#[49, 50, 46, 53]⟩).mono ?_
  rintro e w2 ⟨hb2, N1, rfl, hN1⟩
  have B3 := Lib.hid hb2
  have z3 := B3.out.size
  clear hb2
  go_wp2_with fail
  refine (DText_lit (textD_lit (n := 12500) (d := 3) (s := [49, 50, 46, 53]) 2 (by decide +kernel)) (by decide +kernel) (by decide +kernel) (by decide +kernel) (by decide +kernel) (G.step B3.out)).mono ?_
  rintro e w5 ⟨hb5, t4, rfl, ht4⟩
  have B6 := Lib.hid hb5
  have z6 := B6.out.size
  have HB7 := Lib.hid (B3.out.trans (B6.out.mono B3.out.size))
  clear hb5
  have Ht4 := Lib.hid ht4; clear ht4
  have LN_8 := One.step hN1 B6.out
  go_wp2_with fail
  refine (isD_yes LN_8 Ht4.out).mono ?_
  rintro e w9 ⟨hb9, rfl⟩
  have B10 := Lib.hid hb9
  have z10 := B10.out.size
  have HB11 := Lib.hid (HB7.out.trans (B10.out.mono HB7.out.size))
  clear hb9
  clear LN_8
  clear Ht4
  go_wp2_with fail
  refine (isD_new _ ⟨#[45, 48, 46, 53]⟩).mono ?_
  rintro e w13 ⟨hb13, N12, rfl, hN12⟩
  have B14 := Lib.hid hb13
  have z14 := B14.out.size
  have HB15 := Lib.hid (HB11.out.trans (B14.out.mono HB11.out.size))
  clear hb13
  go_wp2_with fail
  refine (DText_lit (textD_lit (n := (-5)) (d := 1) (s := [45, 48, 46, 53]) 0 (by decide +kernel)) (by decide +kernel) (by decide +kernel) (by decide +kernel) (by decide +kernel) (G.step HB15.out)).mono ?_
  rintro e w17 ⟨hb17, t16, rfl, ht16⟩
  have B18 := Lib.hid hb17
  have z18 := B18.out.size
  have HB19 := Lib.hid (HB15.out.trans (B18.out.mono HB15.out.size))
  clear hb17
  have Ht16 := Lib.hid ht16; clear ht16
  have LN_20 := One.step hN12 B18.out
  go_wp2_with fail
  refine (isD_yes LN_20 Ht16.out).mono ?_
  rintro e w21 ⟨hb21, rfl⟩
  have B22 := Lib.hid hb21
  have z22 := B22.out.size
  have HB23 := Lib.hid (HB19.out.trans (B22.out.mono HB19.out.size))
  clear hb21
  clear LN_20
  clear Ht16
  go_wp2_with fail
  refine (isD_new _ ⟨#[48]⟩).mono ?_
  rintro e w25 ⟨hb25, N24, rfl, hN24⟩
  have B26 := Lib.hid hb25
  have z26 := B26.out.size
  have HB27 := Lib.hid (HB23.out.trans (B26.out.mono HB23.out.size))
  clear hb25
  go_wp2_with fail
  refine (DText_lit (textD_lit (n := 0) (d := 6) (s := [48]) 6 (by decide +kernel)) (by decide +kernel) (by decide +kernel) (by decide +kernel) (by decide +kernel) (G.step HB27.out)).mono ?_
  rintro e w29 ⟨hb29, t28, rfl, ht28⟩
  have B30 := Lib.hid hb29
  have z30 := B30.out.size
  have HB31 := Lib.hid (HB27.out.trans (B30.out.mono HB27.out.size))
  clear hb29
  have Ht28 := Lib.hid ht28; clear ht28
  have LN_32 := One.step hN24 B30.out
  go_wp2_with fail
  refine (isD_yes LN_32 Ht28.out).mono ?_
  rintro e w33 ⟨hb33, rfl⟩
  have B34 := Lib.hid hb33
  have z34 := B34.out.size
  have HB35 := Lib.hid (HB31.out.trans (B34.out.mono HB31.out.size))
  clear hb33
  clear LN_32
  clear Ht28
  go_wp2_with fail
  refine (isD_new _ ⟨#[55]⟩).mono ?_
  rintro e w37 ⟨hb37, N36, rfl, hN36⟩
  have B38 := Lib.hid hb37
  have z38 := B38.out.size
  have HB39 := Lib.hid (HB35.out.trans (B38.out.mono HB35.out.size))
  clear hb37
  go_wp2_with fail
  refine (DText_lit (textD_lit (n := 7) (d := 0) (s := [55]) 0 (by decide +kernel)) (by decide +kernel) (by decide +kernel) (by decide +kernel) (by decide +kernel) (G.step HB39.out)).mono ?_
  rintro e w41 ⟨hb41, t40, rfl, ht40⟩
  have B42 := Lib.hid hb41
  have z42 := B42.out.size
  have HB43 := Lib.hid (HB39.out.trans (B42.out.mono HB39.out.size))
  clear hb41
  have Ht40 := Lib.hid ht40; clear ht40
  have LN_44 := One.step hN36 B42.out
  go_wp2_with fail
  refine (isD_yes LN_44 Ht40.out).mono ?_
  rintro e w45 ⟨hb45, rfl⟩
  have B46 := Lib.hid hb45
  have z46 := B46.out.size
  have HB47 := Lib.hid (HB43.out.trans (B46.out.mono HB43.out.size))
  clear hb45
  clear LN_44
  clear Ht40
  go_wp2_with fail
  refine (failsD_new _ 2).mono ?_
  rintro e w49 ⟨hb49, N48, rfl, hN48⟩
  have B50 := Lib.hid hb49
  have z50 := B50.out.size
  have HB51 := Lib.hid (HB47.out.trans (B50.out.mono HB47.out.size))
  clear hb49
  go_wp2_with fail
  refine (DText_lit (textD_bad (n := 1) (d := 19) (by decide +kernel)) (by decide +kernel) (by decide +kernel) (by decide +kernel) (by decide +kernel) (G.step HB51.out)).mono ?_
  rintro e w53 ⟨hb53, t52, rfl, ht52⟩
  have B54 := Lib.hid hb53
  have z54 := B54.out.size
  have HB55 := Lib.hid (HB51.out.trans (B54.out.mono HB51.out.size))
  clear hb53
  have Ht52 := Lib.hid ht52; clear ht52
  have LN_56 := One.step hN48 B54.out
  go_wp2_with fail
  refine (failsD_yes LN_56 Ht52.out).mono ?_
  rintro e w57 ⟨hb57, rfl⟩
  have B58 := Lib.hid hb57
  have z58 := B58.out.size
  have HB59 := Lib.hid (HB55.out.trans (B58.out.mono HB55.out.size))
  clear hb57
  clear LN_56
  clear Ht52
  go_wp2_with fail
  refine (saysD_new _ 12500).mono ?_
  rintro e w61 ⟨hb61, N60, rfl, hN60⟩
  have B62 := Lib.hid hb61
  have z62 := B62.out.size
  have HB63 := Lib.hid (HB59.out.trans (B62.out.mono HB59.out.size))
  clear hb61
  go_wp2_with fail
  refine (DParse_lit (s := ⟨#[49, 50, 46, 53]⟩) (parseD_lit (s := [49, 50, 46, 53]) (d := 3) (r := (12500, 0)) (by decide +kernel)) (by decide +kernel) (by decide +kernel) (by decide +kernel) (G.step HB63.out) (M.step HB63.out)).mono ?_
  rintro e w65 ⟨hb65, rfl⟩
  have B66 := Lib.hid hb65
  have z66 := B66.out.size
  have HB67 := Lib.hid (HB63.out.trans (B66.out.mono HB63.out.size))
  clear hb65
  have LN_68 := One.step hN60 B66.out
  go_wp2_with fail
  refine (saysD_yes LN_68).mono ?_
  rintro e w69 ⟨hb69, rfl⟩
  have B70 := Lib.hid hb69
  have z70 := B70.out.size
  have HB71 := Lib.hid (HB67.out.trans (B70.out.mono HB67.out.size))
  clear hb69
  clear LN_68
  go_wp2_with fail
  refine (saysD_new _ (-5)).mono ?_
  rintro e w73 ⟨hb73, N72, rfl, hN72⟩
  have B74 := Lib.hid hb73
  have z74 := B74.out.size
  have HB75 := Lib.hid (HB71.out.trans (B74.out.mono HB71.out.size))
  clear hb73
  go_wp2_with fail
  refine (DParse_lit (s := ⟨#[45, 48, 46, 53]⟩) (parseD_lit (s := [45, 48, 46, 53]) (d := 1) (r := ((-5), 0)) (by decide +kernel)) (by decide +kernel) (by decide +kernel) (by decide +kernel) (G.step HB75.out) (M.step HB75.out)).mono ?_
  rintro e w77 ⟨hb77, rfl⟩
  have B78 := Lib.hid hb77
  have z78 := B78.out.size
  have HB79 := Lib.hid (HB75.out.trans (B78.out.mono HB75.out.size))
  clear hb77
  have LN_80 := One.step hN72 B78.out
  go_wp2_with fail
  refine (saysD_yes LN_80).mono ?_
  rintro e w81 ⟨hb81, rfl⟩
  have B82 := Lib.hid hb81
  have z82 := B82.out.size
  have HB83 := Lib.hid (HB79.out.trans (B82.out.mono HB79.out.size))
  clear hb81
  clear LN_80
  go_wp2_with fail
  refine (refusesD_new _ 5).mono ?_
  rintro e w85 ⟨hb85, N84, rfl, hN84⟩
  have B86 := Lib.hid hb85
  have z86 := B86.out.size
  have HB87 := Lib.hid (HB83.out.trans (B86.out.mono HB83.out.size))
  clear hb85
  go_wp2_with fail
  refine (DParse_lit (s := ⟨#[48, 46, 50, 53]⟩) (parseD_lit (s := [48, 46, 50, 53]) (d := 1) (r := (0, 5)) (by decide +kernel)) (by decide +kernel) (by decide +kernel) (by decide +kernel) (G.step HB87.out) (M.step HB87.out)).mono ?_
  rintro e w89 ⟨hb89, rfl⟩
  have B90 := Lib.hid hb89
  have z90 := B90.out.size
  have HB91 := Lib.hid (HB87.out.trans (B90.out.mono HB87.out.size))
  clear hb89
  have LN_92 := One.step hN84 B90.out
  go_wp2_with fail
  refine (refusesD_yes LN_92).mono ?_
  rintro e w93 ⟨hb93, rfl⟩
  have B94 := Lib.hid hb93
  have z94 := B94.out.size
  have HB95 := Lib.hid (HB91.out.trans (B94.out.mono HB91.out.size))
  clear hb93
  clear LN_92
  go_upto_region 2 with (fail)
  have i0 := idx6_0
  have i1 := idx6_1
  have i2 := idx6_2
  have i3 := idx6_3
  have i4 := idx6_4
  have i5 := idx6_5
  go_wp2
  go_loopw [59] (fun i wr => ∃ j : Nat, j ≤ 6 ∧ i = .int .i64 j ∧ Hid (Below w.heap.size w wr)) (fun i _ => 6 - (intOf i).toNat)
  case atStart => exact ⟨0, by omega, rfl, HB95⟩
  case round =>
    clear HB95
    obtain ⟨j, hj, rfl, HBI⟩ := hrel
    have hj3 : j = 0 ∨ j = 1 ∨ j = 2 ∨ j = 3 ∨ j = 4 ∨ j = 5 ∨ j = 6 := by omega
    rcases hj3 with rfl | rfl | rfl | rfl | rfl | rfl | rfl
    · rw [show ((0 : Nat) : Int) = 0 from rfl]
      go_wp2_with fail
      refine (refusesD_new _ 5).mono ?_
      rintro e w97 ⟨hb97, N96, rfl, hN96⟩
      have B98 := Lib.hid hb97
      have z98 := B98.out.size
      have HB99 := Lib.hid (HBI.out.trans (B98.out.mono HBI.out.size))
      clear hb97
      go_wp2_with fail
      refine (DParse_lit (s := ⟨#[49, 46, 48]⟩) (parseD_lit (s := [49, 46, 48]) (d := 3) (r := (0, 5)) (by decide +kernel)) (by decide +kernel) (by decide +kernel) (by decide +kernel) (G.step HB99.out) (M.step HB99.out)).mono ?_
      rintro e w101 ⟨hb101, rfl⟩
      have B102 := Lib.hid hb101
      have z102 := B102.out.size
      have HB103 := Lib.hid (HB99.out.trans (B102.out.mono HB99.out.size))
      clear hb101
      have LN_104 := One.step hN96 B102.out
      go_wp2_with fail
      refine (refusesD_yes LN_104).mono ?_
      rintro e w105 ⟨hb105, rfl⟩
      have B106 := Lib.hid hb105
      have z106 := B106.out.size
      have HB107 := Lib.hid (HB103.out.trans (B106.out.mono HB103.out.size))
      clear hb105
      clear LN_104
      go_wp2
      go_roundw
      case rel => exact ⟨1, by omega, rfl, Lib.hid HB107.out⟩
      case measure => simp [intOf]
    · rw [show ((1 : Nat) : Int) = 1 from rfl]
      go_wp2_with fail
      refine (refusesD_new _ 5).mono ?_
      rintro e w109 ⟨hb109, N108, rfl, hN108⟩
      have B110 := Lib.hid hb109
      have z110 := B110.out.size
      have HB111 := Lib.hid (HBI.out.trans (B110.out.mono HBI.out.size))
      clear hb109
      go_wp2_with fail
      refine (DParse_lit (s := ⟨#[46, 53]⟩) (parseD_lit (s := [46, 53]) (d := 3) (r := (0, 5)) (by decide +kernel)) (by decide +kernel) (by decide +kernel) (by decide +kernel) (G.step HB111.out) (M.step HB111.out)).mono ?_
      rintro e w113 ⟨hb113, rfl⟩
      have B114 := Lib.hid hb113
      have z114 := B114.out.size
      have HB115 := Lib.hid (HB111.out.trans (B114.out.mono HB111.out.size))
      clear hb113
      have LN_116 := One.step hN108 B114.out
      go_wp2_with fail
      refine (refusesD_yes LN_116).mono ?_
      rintro e w117 ⟨hb117, rfl⟩
      have B118 := Lib.hid hb117
      have z118 := B118.out.size
      have HB119 := Lib.hid (HB115.out.trans (B118.out.mono HB115.out.size))
      clear hb117
      clear LN_116
      go_wp2
      go_roundw
      case rel => exact ⟨2, by omega, rfl, Lib.hid HB119.out⟩
      case measure => simp [intOf]
    · rw [show ((2 : Nat) : Int) = 2 from rfl]
      go_wp2_with fail
      refine (refusesD_new _ 5).mono ?_
      rintro e w121 ⟨hb121, N120, rfl, hN120⟩
      have B122 := Lib.hid hb121
      have z122 := B122.out.size
      have HB123 := Lib.hid (HBI.out.trans (B122.out.mono HBI.out.size))
      clear hb121
      go_wp2_with fail
      refine (DParse_lit (s := ⟨#[43, 49]⟩) (parseD_lit (s := [43, 49]) (d := 3) (r := (0, 5)) (by decide +kernel)) (by decide +kernel) (by decide +kernel) (by decide +kernel) (G.step HB123.out) (M.step HB123.out)).mono ?_
      rintro e w125 ⟨hb125, rfl⟩
      have B126 := Lib.hid hb125
      have z126 := B126.out.size
      have HB127 := Lib.hid (HB123.out.trans (B126.out.mono HB123.out.size))
      clear hb125
      have LN_128 := One.step hN120 B126.out
      go_wp2_with fail
      refine (refusesD_yes LN_128).mono ?_
      rintro e w129 ⟨hb129, rfl⟩
      have B130 := Lib.hid hb129
      have z130 := B130.out.size
      have HB131 := Lib.hid (HB127.out.trans (B130.out.mono HB127.out.size))
      clear hb129
      clear LN_128
      go_wp2
      go_roundw
      case rel => exact ⟨3, by omega, rfl, Lib.hid HB131.out⟩
      case measure => simp [intOf]
    · rw [show ((3 : Nat) : Int) = 3 from rfl]
      go_wp2_with fail
      refine (refusesD_new _ 5).mono ?_
      rintro e w133 ⟨hb133, N132, rfl, hN132⟩
      have B134 := Lib.hid hb133
      have z134 := B134.out.size
      have HB135 := Lib.hid (HBI.out.trans (B134.out.mono HBI.out.size))
      clear hb133
      go_wp2_with fail
      refine (DParse_lit (s := ⟨#[48, 49]⟩) (parseD_lit (s := [48, 49]) (d := 3) (r := (0, 5)) (by decide +kernel)) (by decide +kernel) (by decide +kernel) (by decide +kernel) (G.step HB135.out) (M.step HB135.out)).mono ?_
      rintro e w137 ⟨hb137, rfl⟩
      have B138 := Lib.hid hb137
      have z138 := B138.out.size
      have HB139 := Lib.hid (HB135.out.trans (B138.out.mono HB135.out.size))
      clear hb137
      have LN_140 := One.step hN132 B138.out
      go_wp2_with fail
      refine (refusesD_yes LN_140).mono ?_
      rintro e w141 ⟨hb141, rfl⟩
      have B142 := Lib.hid hb141
      have z142 := B142.out.size
      have HB143 := Lib.hid (HB139.out.trans (B142.out.mono HB139.out.size))
      clear hb141
      clear LN_140
      go_wp2
      go_roundw
      case rel => exact ⟨4, by omega, rfl, Lib.hid HB143.out⟩
      case measure => simp [intOf]
    · rw [show ((4 : Nat) : Int) = 4 from rfl]
      go_wp2_with fail
      refine (refusesD_new _ 5).mono ?_
      rintro e w145 ⟨hb145, N144, rfl, hN144⟩
      have B146 := Lib.hid hb145
      have z146 := B146.out.size
      have HB147 := Lib.hid (HBI.out.trans (B146.out.mono HBI.out.size))
      clear hb145
      go_wp2_with fail
      refine (DParse_lit (s := ⟨#[45, 48]⟩) (parseD_lit (s := [45, 48]) (d := 3) (r := (0, 5)) (by decide +kernel)) (by decide +kernel) (by decide +kernel) (by decide +kernel) (G.step HB147.out) (M.step HB147.out)).mono ?_
      rintro e w149 ⟨hb149, rfl⟩
      have B150 := Lib.hid hb149
      have z150 := B150.out.size
      have HB151 := Lib.hid (HB147.out.trans (B150.out.mono HB147.out.size))
      clear hb149
      have LN_152 := One.step hN144 B150.out
      go_wp2_with fail
      refine (refusesD_yes LN_152).mono ?_
      rintro e w153 ⟨hb153, rfl⟩
      have B154 := Lib.hid hb153
      have z154 := B154.out.size
      have HB155 := Lib.hid (HB151.out.trans (B154.out.mono HB151.out.size))
      clear hb153
      clear LN_152
      go_wp2
      go_roundw
      case rel => exact ⟨5, by omega, rfl, Lib.hid HB155.out⟩
      case measure => simp [intOf]
    · rw [show ((5 : Nat) : Int) = 5 from rfl]
      go_wp2_with fail
      refine (refusesD_new _ 5).mono ?_
      rintro e w157 ⟨hb157, N156, rfl, hN156⟩
      have B158 := Lib.hid hb157
      have z158 := B158.out.size
      have HB159 := Lib.hid (HBI.out.trans (B158.out.mono HBI.out.size))
      clear hb157
      go_wp2_with fail
      refine (DParse_lit (s := ⟨#[49, 46]⟩) (parseD_lit (s := [49, 46]) (d := 3) (r := (0, 5)) (by decide +kernel)) (by decide +kernel) (by decide +kernel) (by decide +kernel) (G.step HB159.out) (M.step HB159.out)).mono ?_
      rintro e w161 ⟨hb161, rfl⟩
      have B162 := Lib.hid hb161
      have z162 := B162.out.size
      have HB163 := Lib.hid (HB159.out.trans (B162.out.mono HB159.out.size))
      clear hb161
      have LN_164 := One.step hN156 B162.out
      go_wp2_with fail
      refine (refusesD_yes LN_164).mono ?_
      rintro e w165 ⟨hb165, rfl⟩
      have B166 := Lib.hid hb165
      have z166 := B166.out.size
      have HB167 := Lib.hid (HB163.out.trans (B166.out.mono HB163.out.size))
      clear hb165
      clear LN_164
      go_wp2
      go_roundw
      case rel => exact ⟨6, by omega, rfl, Lib.hid HB167.out⟩
      case measure => simp [intOf]
    · rw [show ((6 : Nat) : Int) = 6 from rfl]
      go_wp2_with fail
      refine (refusesD_new _ 6).mono ?_
      rintro e w169 ⟨hb169, N168, rfl, hN168⟩
      have B170 := Lib.hid hb169
      have z170 := B170.out.size
      have HB171 := Lib.hid (HBI.out.trans (B170.out.mono HBI.out.size))
      clear hb169
      go_wp2_with fail
      refine (DParse_lit (s := ⟨#[57, 50, 50, 51, 51, 55, 50, 48, 51, 54, 56, 53, 52, 55, 55, 53, 56, 48, 56]⟩) (parseD_lit (s := [57, 50, 50, 51, 51, 55, 50, 48, 51, 54, 56, 53, 52, 55, 55, 53, 56, 48, 56]) (d := 0) (r := (0, 6)) (by decide +kernel)) (by decide +kernel) (by decide +kernel) (by decide +kernel) (G.step HB171.out) (M.step HB171.out)).mono ?_
      rintro e w173 ⟨hb173, rfl⟩
      have B174 := Lib.hid hb173
      have z174 := B174.out.size
      have HB175 := Lib.hid (HB171.out.trans (B174.out.mono HB171.out.size))
      clear hb173
      have LN_176 := One.step hN168 B174.out
      go_wp2_with fail
      refine (refusesD_yes LN_176).mono ?_
      rintro e w177 ⟨hb177, rfl⟩
      have B178 := Lib.hid hb177
      have z178 := B178.out.size
      have HB179 := Lib.hid (HB175.out.trans (B178.out.mono HB175.out.size))
      clear hb177
      clear LN_176
      go_wp2_with fail
      refine (refusesD_new _ 2).mono ?_
      rintro e w181 ⟨hb181, N180, rfl, hN180⟩
      have B182 := Lib.hid hb181
      have z182 := B182.out.size
      have HB183 := Lib.hid (HB179.out.trans (B182.out.mono HB179.out.size))
      clear hb181
      go_wp2_with fail
      refine (DParse_lit (s := ⟨#[49]⟩) (parseD_lit (s := [49]) (d := 19) (r := (0, 2)) (by decide +kernel)) (by decide +kernel) (by decide +kernel) (by decide +kernel) (G.step HB183.out) (M.step HB183.out)).mono ?_
      rintro e w185 ⟨hb185, rfl⟩
      have B186 := Lib.hid hb185
      have z186 := B186.out.size
      have HB187 := Lib.hid (HB183.out.trans (B186.out.mono HB183.out.size))
      clear hb185
      have LN_188 := One.step hN180 B186.out
      go_wp2_with fail
      refine (refusesD_yes LN_188).mono ?_
      rintro e w189 ⟨hb189, rfl⟩
      have B190 := Lib.hid hb189
      have z190 := B190.out.size
      have HB191 := Lib.hid (HB187.out.trans (B190.out.mono HB187.out.size))
      clear hb189
      clear LN_188
      go_wp2_with fail
      refine (isD_new _ ⟨#[48]⟩).mono ?_
      rintro e w193 ⟨hb193, N192, rfl, hN192⟩
      have B194 := Lib.hid hb193
      have z194 := B194.out.size
      have HB195 := Lib.hid (HB191.out.trans (B194.out.mono HB191.out.size))
      clear hb193
      go_wp2_with fail
      refine (DFixed_lit (fixedD_lit (v := 2147483648) (d := 0) (up := false) (s := [48]) 0 (by decide +kernel)) (G.step HB195.out)).mono ?_
      rintro e w197 ⟨hb197, t196, rfl, ht196⟩
      have B198 := Lib.hid hb197
      have z198 := B198.out.size
      have HB199 := Lib.hid (HB195.out.trans (B198.out.mono HB195.out.size))
      clear hb197
      have Ht196 := Lib.hid ht196; clear ht196
      have LN_200 := One.step hN192 B198.out
      go_wp2_with fail
      refine (isD_yes LN_200 Ht196.out).mono ?_
      rintro e w201 ⟨hb201, rfl⟩
      have B202 := Lib.hid hb201
      have z202 := B202.out.size
      have HB203 := Lib.hid (HB199.out.trans (B202.out.mono HB199.out.size))
      clear hb201
      clear LN_200
      clear Ht196
      go_wp2_with fail
      refine (isD_new _ ⟨#[49]⟩).mono ?_
      rintro e w205 ⟨hb205, N204, rfl, hN204⟩
      have B206 := Lib.hid hb205
      have z206 := B206.out.size
      have HB207 := Lib.hid (HB203.out.trans (B206.out.mono HB203.out.size))
      clear hb205
      go_wp2_with fail
      refine (DFixed_lit (fixedD_lit (v := 2147483648) (d := 0) (up := true) (s := [49]) 0 (by decide +kernel)) (G.step HB207.out)).mono ?_
      rintro e w209 ⟨hb209, t208, rfl, ht208⟩
      have B210 := Lib.hid hb209
      have z210 := B210.out.size
      have HB211 := Lib.hid (HB207.out.trans (B210.out.mono HB207.out.size))
      clear hb209
      have Ht208 := Lib.hid ht208; clear ht208
      have LN_212 := One.step hN204 B210.out
      go_wp2_with fail
      refine (isD_yes LN_212 Ht208.out).mono ?_
      rintro e w213 ⟨hb213, rfl⟩
      have B214 := Lib.hid hb213
      have z214 := B214.out.size
      have HB215 := Lib.hid (HB211.out.trans (B214.out.mono HB211.out.size))
      clear hb213
      clear LN_212
      clear Ht208
      go_wp2_with fail
      refine (isD_new _ ⟨#[45, 48, 46, 48, 48, 49]⟩).mono ?_
      rintro e w217 ⟨hb217, N216, rfl, hN216⟩
      have B218 := Lib.hid hb217
      have z218 := B218.out.size
      have HB219 := Lib.hid (HB215.out.trans (B218.out.mono HB215.out.size))
      clear hb217
      go_wp2_with fail
      refine (DFixed_lit (fixedD_lit (v := (-1)) (d := 3) (up := false) (s := [45, 48, 46, 48, 48, 49]) 0 (by decide +kernel)) (G.step HB219.out)).mono ?_
      rintro e w221 ⟨hb221, t220, rfl, ht220⟩
      have B222 := Lib.hid hb221
      have z222 := B222.out.size
      have HB223 := Lib.hid (HB219.out.trans (B222.out.mono HB219.out.size))
      clear hb221
      have Ht220 := Lib.hid ht220; clear ht220
      have LN_224 := One.step hN216 B222.out
      go_wp2_with fail
      refine (isD_yes LN_224 Ht220.out).mono ?_
      rintro e w225 ⟨hb225, rfl⟩
      have B226 := Lib.hid hb225
      have z226 := B226.out.size
      have HB227 := Lib.hid (HB223.out.trans (B226.out.mono HB223.out.size))
      clear hb225
      clear LN_224
      clear Ht220
      go_wp2_with fail
      refine (isD_new _ ⟨#[48, 46, 53]⟩).mono ?_
      rintro e w229 ⟨hb229, N228, rfl, hN228⟩
      have B230 := Lib.hid hb229
      have z230 := B230.out.size
      have HB231 := Lib.hid (HB227.out.trans (B230.out.mono HB227.out.size))
      clear hb229
      go_wp2_with fail
      refine (DFixed_lit (fixedD_lit (v := 2147483648) (d := 3) (up := true) (s := [48, 46, 53]) 2 (by decide +kernel)) (G.step HB231.out)).mono ?_
      rintro e w233 ⟨hb233, t232, rfl, ht232⟩
      have B234 := Lib.hid hb233
      have z234 := B234.out.size
      have HB235 := Lib.hid (HB231.out.trans (B234.out.mono HB231.out.size))
      clear hb233
      have Ht232 := Lib.hid ht232; clear ht232
      have LN_236 := One.step hN228 B234.out
      go_wp2_with fail
      refine (isD_yes LN_236 Ht232.out).mono ?_
      rintro e w237 ⟨hb237, rfl⟩
      have B238 := Lib.hid hb237
      have z238 := B238.out.size
      have HB239 := Lib.hid (HB235.out.trans (B238.out.mono HB235.out.size))
      clear hb237
      clear LN_236
      clear Ht232
      go_wp2_with fail
      refine (isD_new _ ⟨#[91, 45, 48, 46, 51, 51, 52, 44, 32, 48, 46, 54, 54, 55, 93]⟩).mono ?_
      rintro e w241 ⟨hb241, N240, rfl, hN240⟩
      have B242 := Lib.hid hb241
      have z242 := B242.out.size
      have HB243 := Lib.hid (HB239.out.trans (B242.out.mono HB239.out.size))
      clear hb241
      go_wp2_with fail
      refine (DBoth_lit (bothD_lit (lo := (-1431655766)) (hi := 2863311531) (d := 3) (s := [45, 48, 46, 51, 51, 52]) (t := [48, 46, 54, 54, 55]) 0 0 (by decide +kernel)) (G.step HB243.out)).mono ?_
      rintro e w245 ⟨hb245, t244, rfl, ht244⟩
      have B246 := Lib.hid hb245
      have z246 := B246.out.size
      have HB247 := Lib.hid (HB243.out.trans (B246.out.mono HB243.out.size))
      clear hb245
      have Ht244 := Lib.hid ht244; clear ht244
      have LN_248 := One.step hN240 B246.out
      go_wp2_with fail
      refine (isD_yes LN_248 Ht244.out).mono ?_
      rintro e w249 ⟨hb249, rfl⟩
      have B250 := Lib.hid hb249
      have z250 := B250.out.size
      have HB251 := Lib.hid (HB247.out.trans (B250.out.mono HB247.out.size))
      clear hb249
      clear LN_248
      clear Ht244
      go_wp2_with fail
      refine (failsD_new _ 20).mono ?_
      rintro e w253 ⟨hb253, N252, rfl, hN252⟩
      have B254 := Lib.hid hb253
      have z254 := B254.out.size
      have HB255 := Lib.hid (HB251.out.trans (B254.out.mono HB251.out.size))
      clear hb253
      go_wp2_with fail
      refine (DBoth_lit (bothD_bad (lo := 1) (hi := 0) (d := 3) (c := 20) (by decide +kernel)) (G.step HB255.out)).mono ?_
      rintro e w257 ⟨hb257, t256, rfl, ht256⟩
      have B258 := Lib.hid hb257
      have z258 := B258.out.size
      have HB259 := Lib.hid (HB255.out.trans (B258.out.mono HB255.out.size))
      clear hb257
      have Ht256 := Lib.hid ht256; clear ht256
      have LN_260 := One.step hN252 B258.out
      go_wp2_with fail
      refine (failsD_yes LN_260 Ht256.out).mono ?_
      rintro e w261 ⟨hb261, rfl⟩
      have B262 := Lib.hid hb261
      have z262 := B262.out.size
      have HB263 := Lib.hid (HB259.out.trans (B262.out.mono HB259.out.size))
      clear hb261
      clear LN_260
      clear Ht256
      go_wp2
      go_ret
      exact ⟨HB263.out, rfl⟩
end Go.Proofs.YtfklkphoplpebaaGreatDoor
