/- The law DecKnown (written by gen_decknown.py). -/
import Derived.Test.YtfklkphoplpebaaGreatDoorDecWk
namespace Go.Proofs.YtfklkphoplpebaaGreatDoor
open Go Go.RowKit Dig

set_option linter.unusedVariables false in
set_option maxRecDepth 100000 in
set_option maxHeartbeats 16000000 in
theorem DecKnown_any (w : World) (G : Glob w) (M : MaxL w) :
    Calls Tryz.prog 7 #[] w fun e w' => Below w.heap.size w w' ∧ e = .returned (.bool true) := by
  go_enter Tryz.func7, Tryz.ntmps7
  go_wp2_with fail
  refine (worksD_any _ G M).mono ?_
  rintro e w1 ⟨hb1, rfl⟩
  have B2 := Lib.hid hb1
  have z2 := B2.out.size
  clear hb1
  go_wp2_with fail
  refine (isD_new _ ⟨#[45, 57, 46, 50, 50, 51, 51, 55, 50, 48, 51, 54, 56, 53, 52, 55, 55, 53, 56, 48, 56]⟩).mono ?_
  rintro e w4 ⟨hb4, N3, rfl, hN3⟩
  have B5 := Lib.hid hb4
  have z5 := B5.out.size
  have HB6 := Lib.hid (B2.out.trans (B5.out.mono B2.out.size))
  clear hb4
  go_wp2_with fail
  refine (DText_lit (textD_lit (n := (-9223372036854775808)) (d := 18) (s := [45, 57, 46, 50, 50, 51, 51, 55, 50, 48, 51, 54, 56, 53, 52, 55, 55, 53, 56, 48, 56]) 0 (by decide +kernel)) (by decide +kernel) (by decide +kernel) (by decide +kernel) (by decide +kernel) (G.step HB6.out)).mono ?_
  rintro e w8 ⟨hb8, t7, rfl, ht7⟩
  have B9 := Lib.hid hb8
  have z9 := B9.out.size
  have HB10 := Lib.hid (HB6.out.trans (B9.out.mono HB6.out.size))
  clear hb8
  have Ht7 := Lib.hid ht7; clear ht7
  have LN_11 := One.step hN3 B9.out
  go_wp2_with fail
  refine (isD_yes LN_11 Ht7.out).mono ?_
  rintro e w12 ⟨hb12, rfl⟩
  have B13 := Lib.hid hb12
  have z13 := B13.out.size
  have HB14 := Lib.hid (HB10.out.trans (B13.out.mono HB10.out.size))
  clear hb12
  clear LN_11
  clear Ht7
  go_wp2_with fail
  refine (isD_new _ ⟨#[57, 50, 50, 51, 51, 55, 50, 48, 51, 54, 56, 53, 52, 55, 55, 53, 56, 48, 55]⟩).mono ?_
  rintro e w16 ⟨hb16, N15, rfl, hN15⟩
  have B17 := Lib.hid hb16
  have z17 := B17.out.size
  have HB18 := Lib.hid (HB14.out.trans (B17.out.mono HB14.out.size))
  clear hb16
  go_wp2_with fail
  refine (DText_lit (textD_lit (n := 9223372036854775807) (d := 0) (s := [57, 50, 50, 51, 51, 55, 50, 48, 51, 54, 56, 53, 52, 55, 55, 53, 56, 48, 55]) 0 (by decide +kernel)) (by decide +kernel) (by decide +kernel) (by decide +kernel) (by decide +kernel) (G.step HB18.out)).mono ?_
  rintro e w20 ⟨hb20, t19, rfl, ht19⟩
  have B21 := Lib.hid hb20
  have z21 := B21.out.size
  have HB22 := Lib.hid (HB18.out.trans (B21.out.mono HB18.out.size))
  clear hb20
  have Ht19 := Lib.hid ht19; clear ht19
  have LN_23 := One.step hN15 B21.out
  go_wp2_with fail
  refine (isD_yes LN_23 Ht19.out).mono ?_
  rintro e w24 ⟨hb24, rfl⟩
  have B25 := Lib.hid hb24
  have z25 := B25.out.size
  have HB26 := Lib.hid (HB22.out.trans (B25.out.mono HB22.out.size))
  clear hb24
  clear LN_23
  clear Ht19
  go_wp2_with fail
  refine (isD_new _ ⟨#[45, 48, 46, 48, 48, 48, 48, 48, 48, 48, 48, 48, 48, 48, 48, 48, 48, 48, 48, 48, 49]⟩).mono ?_
  rintro e w28 ⟨hb28, N27, rfl, hN27⟩
  have B29 := Lib.hid hb28
  have z29 := B29.out.size
  have HB30 := Lib.hid (HB26.out.trans (B29.out.mono HB26.out.size))
  clear hb28
  go_wp2_with fail
  refine (DText_lit (textD_lit (n := (-1)) (d := 18) (s := [45, 48, 46, 48, 48, 48, 48, 48, 48, 48, 48, 48, 48, 48, 48, 48, 48, 48, 48, 48, 49]) 0 (by decide +kernel)) (by decide +kernel) (by decide +kernel) (by decide +kernel) (by decide +kernel) (G.step HB30.out)).mono ?_
  rintro e w32 ⟨hb32, t31, rfl, ht31⟩
  have B33 := Lib.hid hb32
  have z33 := B33.out.size
  have HB34 := Lib.hid (HB30.out.trans (B33.out.mono HB30.out.size))
  clear hb32
  have Ht31 := Lib.hid ht31; clear ht31
  have LN_35 := One.step hN27 B33.out
  go_wp2_with fail
  refine (isD_yes LN_35 Ht31.out).mono ?_
  rintro e w36 ⟨hb36, rfl⟩
  have B37 := Lib.hid hb36
  have z37 := B37.out.size
  have HB38 := Lib.hid (HB34.out.trans (B37.out.mono HB34.out.size))
  clear hb36
  clear LN_35
  clear Ht31
  go_wp2_with fail
  refine (isD_new _ ⟨#[49, 48, 48]⟩).mono ?_
  rintro e w40 ⟨hb40, N39, rfl, hN39⟩
  have B41 := Lib.hid hb40
  have z41 := B41.out.size
  have HB42 := Lib.hid (HB38.out.trans (B41.out.mono HB38.out.size))
  clear hb40
  go_wp2_with fail
  refine (DText_lit (textD_lit (n := 100000) (d := 3) (s := [49, 48, 48]) 3 (by decide +kernel)) (by decide +kernel) (by decide +kernel) (by decide +kernel) (by decide +kernel) (G.step HB42.out)).mono ?_
  rintro e w44 ⟨hb44, t43, rfl, ht43⟩
  have B45 := Lib.hid hb44
  have z45 := B45.out.size
  have HB46 := Lib.hid (HB42.out.trans (B45.out.mono HB42.out.size))
  clear hb44
  have Ht43 := Lib.hid ht43; clear ht43
  have LN_47 := One.step hN39 B45.out
  go_wp2_with fail
  refine (isD_yes LN_47 Ht43.out).mono ?_
  rintro e w48 ⟨hb48, rfl⟩
  have B49 := Lib.hid hb48
  have z49 := B49.out.size
  have HB50 := Lib.hid (HB46.out.trans (B49.out.mono HB46.out.size))
  clear hb48
  clear LN_47
  clear Ht43
  go_wp2_with fail
  refine (failsD_new _ 2).mono ?_
  rintro e w52 ⟨hb52, N51, rfl, hN51⟩
  have B53 := Lib.hid hb52
  have z53 := B53.out.size
  have HB54 := Lib.hid (HB50.out.trans (B53.out.mono HB50.out.size))
  clear hb52
  go_wp2_with fail
  refine (DText_lit (textD_bad (n := 1) (d := (-1)) (by decide +kernel)) (by decide +kernel) (by decide +kernel) (by decide +kernel) (by decide +kernel) (G.step HB54.out)).mono ?_
  rintro e w56 ⟨hb56, t55, rfl, ht55⟩
  have B57 := Lib.hid hb56
  have z57 := B57.out.size
  have HB58 := Lib.hid (HB54.out.trans (B57.out.mono HB54.out.size))
  clear hb56
  have Ht55 := Lib.hid ht55; clear ht55
  have LN_59 := One.step hN51 B57.out
  go_wp2_with fail
  refine (failsD_yes LN_59 Ht55.out).mono ?_
  rintro e w60 ⟨hb60, rfl⟩
  have B61 := Lib.hid hb60
  have z61 := B61.out.size
  have HB62 := Lib.hid (HB58.out.trans (B61.out.mono HB58.out.size))
  clear hb60
  clear LN_59
  clear Ht55
  go_wp2_with fail
  refine (saysD_new _ (-9223372036854775808)).mono ?_
  rintro e w64 ⟨hb64, N63, rfl, hN63⟩
  have B65 := Lib.hid hb64
  have z65 := B65.out.size
  have HB66 := Lib.hid (HB62.out.trans (B65.out.mono HB62.out.size))
  clear hb64
  go_wp2_with fail
  refine (DParse_lit (s := ⟨#[45, 57, 46, 50, 50, 51, 51, 55, 50, 48, 51, 54, 56, 53, 52, 55, 55, 53, 56, 48, 56]⟩) (parseD_lit (s := [45, 57, 46, 50, 50, 51, 51, 55, 50, 48, 51, 54, 56, 53, 52, 55, 55, 53, 56, 48, 56]) (d := 18) (r := ((-9223372036854775808), 0)) (by decide +kernel)) (by decide +kernel) (by decide +kernel) (by decide +kernel) (G.step HB66.out) (M.step HB66.out)).mono ?_
  rintro e w68 ⟨hb68, rfl⟩
  have B69 := Lib.hid hb68
  have z69 := B69.out.size
  have HB70 := Lib.hid (HB66.out.trans (B69.out.mono HB66.out.size))
  clear hb68
  have LN_71 := One.step hN63 B69.out
  go_wp2_with fail
  refine (saysD_yes LN_71).mono ?_
  rintro e w72 ⟨hb72, rfl⟩
  have B73 := Lib.hid hb72
  have z73 := B73.out.size
  have HB74 := Lib.hid (HB70.out.trans (B73.out.mono HB70.out.size))
  clear hb72
  clear LN_71
  go_wp2_with fail
  refine (refusesD_new _ 6).mono ?_
  rintro e w76 ⟨hb76, N75, rfl, hN75⟩
  have B77 := Lib.hid hb76
  have z77 := B77.out.size
  have HB78 := Lib.hid (HB74.out.trans (B77.out.mono HB74.out.size))
  clear hb76
  go_wp2_with fail
  refine (DParse_lit (s := ⟨#[45, 57, 46, 50, 50, 51, 51, 55, 50, 48, 51, 54, 56, 53, 52, 55, 55, 53, 56, 48, 57]⟩) (parseD_lit (s := [45, 57, 46, 50, 50, 51, 51, 55, 50, 48, 51, 54, 56, 53, 52, 55, 55, 53, 56, 48, 57]) (d := 18) (r := (0, 6)) (by decide +kernel)) (by decide +kernel) (by decide +kernel) (by decide +kernel) (G.step HB78.out) (M.step HB78.out)).mono ?_
  rintro e w80 ⟨hb80, rfl⟩
  have B81 := Lib.hid hb80
  have z81 := B81.out.size
  have HB82 := Lib.hid (HB78.out.trans (B81.out.mono HB78.out.size))
  clear hb80
  have LN_83 := One.step hN75 B81.out
  go_wp2_with fail
  refine (refusesD_yes LN_83).mono ?_
  rintro e w84 ⟨hb84, rfl⟩
  have B85 := Lib.hid hb84
  have z85 := B85.out.size
  have HB86 := Lib.hid (HB82.out.trans (B85.out.mono HB82.out.size))
  clear hb84
  clear LN_83
  go_wp2_with fail
  refine (refusesD_new _ 6).mono ?_
  rintro e w88 ⟨hb88, N87, rfl, hN87⟩
  have B89 := Lib.hid hb88
  have z89 := B89.out.size
  have HB90 := Lib.hid (HB86.out.trans (B89.out.mono HB86.out.size))
  clear hb88
  go_wp2_with fail
  refine (DParse_lit (s := ⟨#[49, 48]⟩) (parseD_lit (s := [49, 48]) (d := 18) (r := (0, 6)) (by decide +kernel)) (by decide +kernel) (by decide +kernel) (by decide +kernel) (G.step HB90.out) (M.step HB90.out)).mono ?_
  rintro e w92 ⟨hb92, rfl⟩
  have B93 := Lib.hid hb92
  have z93 := B93.out.size
  have HB94 := Lib.hid (HB90.out.trans (B93.out.mono HB90.out.size))
  clear hb92
  have LN_95 := One.step hN87 B93.out
  go_wp2_with fail
  refine (refusesD_yes LN_95).mono ?_
  rintro e w96 ⟨hb96, rfl⟩
  have B97 := Lib.hid hb96
  have z97 := B97.out.size
  have HB98 := Lib.hid (HB94.out.trans (B97.out.mono HB94.out.size))
  clear hb96
  clear LN_95
  go_wp2_with fail
  refine (saysD_new _ 9000000000000000000).mono ?_
  rintro e w100 ⟨hb100, N99, rfl, hN99⟩
  have B101 := Lib.hid hb100
  have z101 := B101.out.size
  have HB102 := Lib.hid (HB98.out.trans (B101.out.mono HB98.out.size))
  clear hb100
  go_wp2_with fail
  refine (DParse_lit (s := ⟨#[57]⟩) (parseD_lit (s := [57]) (d := 18) (r := (9000000000000000000, 0)) (by decide +kernel)) (by decide +kernel) (by decide +kernel) (by decide +kernel) (G.step HB102.out) (M.step HB102.out)).mono ?_
  rintro e w104 ⟨hb104, rfl⟩
  have B105 := Lib.hid hb104
  have z105 := B105.out.size
  have HB106 := Lib.hid (HB102.out.trans (B105.out.mono HB102.out.size))
  clear hb104
  have LN_107 := One.step hN99 B105.out
  go_wp2_with fail
  refine (saysD_yes LN_107).mono ?_
  rintro e w108 ⟨hb108, rfl⟩
  have B109 := Lib.hid hb108
  have z109 := B109.out.size
  have HB110 := Lib.hid (HB106.out.trans (B109.out.mono HB106.out.size))
  clear hb108
  clear LN_107
  go_wp2_with fail
  refine (refusesD_new _ 5).mono ?_
  rintro e w112 ⟨hb112, N111, rfl, hN111⟩
  have B113 := Lib.hid hb112
  have z113 := B113.out.size
  have HB114 := Lib.hid (HB110.out.trans (B113.out.mono HB110.out.size))
  clear hb112
  go_wp2_with fail
  refine (DParse_lit (s := ⟨#[]⟩) (parseD_lit (s := []) (d := 0) (r := (0, 5)) (by decide +kernel)) (by decide +kernel) (by decide +kernel) (by decide +kernel) (G.step HB114.out) (M.step HB114.out)).mono ?_
  rintro e w116 ⟨hb116, rfl⟩
  have B117 := Lib.hid hb116
  have z117 := B117.out.size
  have HB118 := Lib.hid (HB114.out.trans (B117.out.mono HB114.out.size))
  clear hb116
  have LN_119 := One.step hN111 B117.out
  go_wp2_with fail
  refine (refusesD_yes LN_119).mono ?_
  rintro e w120 ⟨hb120, rfl⟩
  have B121 := Lib.hid hb120
  have z121 := B121.out.size
  have HB122 := Lib.hid (HB118.out.trans (B121.out.mono HB118.out.size))
  clear hb120
  clear LN_119
  go_wp2_with fail
  refine (refusesD_new _ 5).mono ?_
  rintro e w124 ⟨hb124, N123, rfl, hN123⟩
  have B125 := Lib.hid hb124
  have z125 := B125.out.size
  have HB126 := Lib.hid (HB122.out.trans (B125.out.mono HB122.out.size))
  clear hb124
  go_wp2_with fail
  refine (DParse_lit (s := ⟨#[45]⟩) (parseD_lit (s := [45]) (d := 0) (r := (0, 5)) (by decide +kernel)) (by decide +kernel) (by decide +kernel) (by decide +kernel) (G.step HB126.out) (M.step HB126.out)).mono ?_
  rintro e w128 ⟨hb128, rfl⟩
  have B129 := Lib.hid hb128
  have z129 := B129.out.size
  have HB130 := Lib.hid (HB126.out.trans (B129.out.mono HB126.out.size))
  clear hb128
  have LN_131 := One.step hN123 B129.out
  go_wp2_with fail
  refine (refusesD_yes LN_131).mono ?_
  rintro e w132 ⟨hb132, rfl⟩
  have B133 := Lib.hid hb132
  have z133 := B133.out.size
  have HB134 := Lib.hid (HB130.out.trans (B133.out.mono HB130.out.size))
  clear hb132
  clear LN_131
  go_wp2_with fail
  refine (refusesD_new _ 5).mono ?_
  rintro e w136 ⟨hb136, N135, rfl, hN135⟩
  have B137 := Lib.hid hb136
  have z137 := B137.out.size
  have HB138 := Lib.hid (HB134.out.trans (B137.out.mono HB134.out.size))
  clear hb136
  go_wp2_with fail
  refine (DParse_lit (s := ⟨#[49, 46, 53]⟩) (parseD_lit (s := [49, 46, 53]) (d := 0) (r := (0, 5)) (by decide +kernel)) (by decide +kernel) (by decide +kernel) (by decide +kernel) (G.step HB138.out) (M.step HB138.out)).mono ?_
  rintro e w140 ⟨hb140, rfl⟩
  have B141 := Lib.hid hb140
  have z141 := B141.out.size
  have HB142 := Lib.hid (HB138.out.trans (B141.out.mono HB138.out.size))
  clear hb140
  have LN_143 := One.step hN135 B141.out
  go_wp2_with fail
  refine (refusesD_yes LN_143).mono ?_
  rintro e w144 ⟨hb144, rfl⟩
  have B145 := Lib.hid hb144
  have z145 := B145.out.size
  have HB146 := Lib.hid (HB142.out.trans (B145.out.mono HB142.out.size))
  clear hb144
  clear LN_143
  go_wp2_with fail
  refine (refusesD_new _ 5).mono ?_
  rintro e w148 ⟨hb148, N147, rfl, hN147⟩
  have B149 := Lib.hid hb148
  have z149 := B149.out.size
  have HB150 := Lib.hid (HB146.out.trans (B149.out.mono HB146.out.size))
  clear hb148
  go_wp2_with fail
  refine (DParse_lit (s := ⟨#[48, 46, 48, 48, 48, 48, 48, 48, 48, 48, 48, 48, 48, 48, 48, 48, 48, 48, 48, 48, 49]⟩) (parseD_lit (s := [48, 46, 48, 48, 48, 48, 48, 48, 48, 48, 48, 48, 48, 48, 48, 48, 48, 48, 48, 48, 49]) (d := 18) (r := (0, 5)) (by decide +kernel)) (by decide +kernel) (by decide +kernel) (by decide +kernel) (G.step HB150.out) (M.step HB150.out)).mono ?_
  rintro e w152 ⟨hb152, rfl⟩
  have B153 := Lib.hid hb152
  have z153 := B153.out.size
  have HB154 := Lib.hid (HB150.out.trans (B153.out.mono HB150.out.size))
  clear hb152
  have LN_155 := One.step hN147 B153.out
  go_wp2_with fail
  refine (refusesD_yes LN_155).mono ?_
  rintro e w156 ⟨hb156, rfl⟩
  have B157 := Lib.hid hb156
  have z157 := B157.out.size
  have HB158 := Lib.hid (HB154.out.trans (B157.out.mono HB154.out.size))
  clear hb156
  clear LN_155
  go_wp2_with fail
  refine (refusesD_new _ 2).mono ?_
  rintro e w160 ⟨hb160, N159, rfl, hN159⟩
  have B161 := Lib.hid hb160
  have z161 := B161.out.size
  have HB162 := Lib.hid (HB158.out.trans (B161.out.mono HB158.out.size))
  clear hb160
  go_wp2_with fail
  refine (DParse_lit (s := ⟨#[]⟩) (parseD_lit (s := []) (d := (-1)) (r := (0, 2)) (by decide +kernel)) (by decide +kernel) (by decide +kernel) (by decide +kernel) (G.step HB162.out) (M.step HB162.out)).mono ?_
  rintro e w164 ⟨hb164, rfl⟩
  have B165 := Lib.hid hb164
  have z165 := B165.out.size
  have HB166 := Lib.hid (HB162.out.trans (B165.out.mono HB162.out.size))
  clear hb164
  have LN_167 := One.step hN159 B165.out
  go_wp2_with fail
  refine (refusesD_yes LN_167).mono ?_
  rintro e w168 ⟨hb168, rfl⟩
  have B169 := Lib.hid hb168
  have z169 := B169.out.size
  have HB170 := Lib.hid (HB166.out.trans (B169.out.mono HB166.out.size))
  clear hb168
  clear LN_167
  go_wp2_with fail
  refine (refusesD_new _ 5).mono ?_
  rintro e w172 ⟨hb172, N171, rfl, hN171⟩
  have B173 := Lib.hid hb172
  have z173 := B173.out.size
  have HB174 := Lib.hid (HB170.out.trans (B173.out.mono HB170.out.size))
  clear hb172
  go_wp2_with fail
  refine (DParse_lit (s := ⟨#[49, 46, 50, 46, 51]⟩) (parseD_lit (s := [49, 46, 50, 46, 51]) (d := 5) (r := (0, 5)) (by decide +kernel)) (by decide +kernel) (by decide +kernel) (by decide +kernel) (G.step HB174.out) (M.step HB174.out)).mono ?_
  rintro e w176 ⟨hb176, rfl⟩
  have B177 := Lib.hid hb176
  have z177 := B177.out.size
  have HB178 := Lib.hid (HB174.out.trans (B177.out.mono HB174.out.size))
  clear hb176
  have LN_179 := One.step hN171 B177.out
  go_wp2_with fail
  refine (refusesD_yes LN_179).mono ?_
  rintro e w180 ⟨hb180, rfl⟩
  have B181 := Lib.hid hb180
  have z181 := B181.out.size
  have HB182 := Lib.hid (HB178.out.trans (B181.out.mono HB178.out.size))
  clear hb180
  clear LN_179
  go_wp2_with fail
  refine (refusesD_new _ 5).mono ?_
  rintro e w184 ⟨hb184, N183, rfl, hN183⟩
  have B185 := Lib.hid hb184
  have z185 := B185.out.size
  have HB186 := Lib.hid (HB182.out.trans (B185.out.mono HB182.out.size))
  clear hb184
  go_wp2_with fail
  refine (DParse_lit (s := ⟨#[45, 45, 49]⟩) (parseD_lit (s := [45, 45, 49]) (d := 5) (r := (0, 5)) (by decide +kernel)) (by decide +kernel) (by decide +kernel) (by decide +kernel) (G.step HB186.out) (M.step HB186.out)).mono ?_
  rintro e w188 ⟨hb188, rfl⟩
  have B189 := Lib.hid hb188
  have z189 := B189.out.size
  have HB190 := Lib.hid (HB186.out.trans (B189.out.mono HB186.out.size))
  clear hb188
  have LN_191 := One.step hN183 B189.out
  go_wp2_with fail
  refine (refusesD_yes LN_191).mono ?_
  rintro e w192 ⟨hb192, rfl⟩
  have B193 := Lib.hid hb192
  have z193 := B193.out.size
  have HB194 := Lib.hid (HB190.out.trans (B193.out.mono HB190.out.size))
  clear hb192
  clear LN_191
  go_wp2_with fail
  refine (refusesD_new _ 5).mono ?_
  rintro e w196 ⟨hb196, N195, rfl, hN195⟩
  have B197 := Lib.hid hb196
  have z197 := B197.out.size
  have HB198 := Lib.hid (HB194.out.trans (B197.out.mono HB194.out.size))
  clear hb196
  go_wp2_with fail
  refine (DParse_lit (s := ⟨#[45, 48, 46, 48]⟩) (parseD_lit (s := [45, 48, 46, 48]) (d := 5) (r := (0, 5)) (by decide +kernel)) (by decide +kernel) (by decide +kernel) (by decide +kernel) (G.step HB198.out) (M.step HB198.out)).mono ?_
  rintro e w200 ⟨hb200, rfl⟩
  have B201 := Lib.hid hb200
  have z201 := B201.out.size
  have HB202 := Lib.hid (HB198.out.trans (B201.out.mono HB198.out.size))
  clear hb200
  have LN_203 := One.step hN195 B201.out
  go_wp2_with fail
  refine (refusesD_yes LN_203).mono ?_
  rintro e w204 ⟨hb204, rfl⟩
  have B205 := Lib.hid hb204
  have z205 := B205.out.size
  have HB206 := Lib.hid (HB202.out.trans (B205.out.mono HB202.out.size))
  clear hb204
  clear LN_203
  go_wp2_with fail
  refine (refusesD_new _ 5).mono ?_
  rintro e w208 ⟨hb208, N207, rfl, hN207⟩
  have B209 := Lib.hid hb208
  have z209 := B209.out.size
  have HB210 := Lib.hid (HB206.out.trans (B209.out.mono HB206.out.size))
  clear hb208
  go_wp2_with fail
  refine (DParse_lit (s := ⟨#[49, 44, 53]⟩) (parseD_lit (s := [49, 44, 53]) (d := 5) (r := (0, 5)) (by decide +kernel)) (by decide +kernel) (by decide +kernel) (by decide +kernel) (G.step HB210.out) (M.step HB210.out)).mono ?_
  rintro e w212 ⟨hb212, rfl⟩
  have B213 := Lib.hid hb212
  have z213 := B213.out.size
  have HB214 := Lib.hid (HB210.out.trans (B213.out.mono HB210.out.size))
  clear hb212
  have LN_215 := One.step hN207 B213.out
  go_wp2_with fail
  refine (refusesD_yes LN_215).mono ?_
  rintro e w216 ⟨hb216, rfl⟩
  have B217 := Lib.hid hb216
  have z217 := B217.out.size
  have HB218 := Lib.hid (HB214.out.trans (B217.out.mono HB214.out.size))
  clear hb216
  clear LN_215
  go_wp2_with fail
  refine (refusesD_new _ 5).mono ?_
  rintro e w220 ⟨hb220, N219, rfl, hN219⟩
  have B221 := Lib.hid hb220
  have z221 := B221.out.size
  have HB222 := Lib.hid (HB218.out.trans (B221.out.mono HB218.out.size))
  clear hb220
  go_wp2_with fail
  refine (DParse_lit (s := ⟨#[57, 57, 57, 57, 57, 57, 57, 57, 57, 57, 57, 57, 57, 57, 57, 57, 57, 57, 57, 57, 120]⟩) (parseD_lit (s := [57, 57, 57, 57, 57, 57, 57, 57, 57, 57, 57, 57, 57, 57, 57, 57, 57, 57, 57, 57, 120]) (d := 5) (r := (0, 5)) (by decide +kernel)) (by decide +kernel) (by decide +kernel) (by decide +kernel) (G.step HB222.out) (M.step HB222.out)).mono ?_
  rintro e w224 ⟨hb224, rfl⟩
  have B225 := Lib.hid hb224
  have z225 := B225.out.size
  have HB226 := Lib.hid (HB222.out.trans (B225.out.mono HB222.out.size))
  clear hb224
  have LN_227 := One.step hN219 B225.out
  go_wp2_with fail
  refine (refusesD_yes LN_227).mono ?_
  rintro e w228 ⟨hb228, rfl⟩
  have B229 := Lib.hid hb228
  have z229 := B229.out.size
  have HB230 := Lib.hid (HB226.out.trans (B229.out.mono HB226.out.size))
  clear hb228
  clear LN_227
  go_wp2_with fail
  refine (refusesD_new _ 5).mono ?_
  rintro e w232 ⟨hb232, N231, rfl, hN231⟩
  have B233 := Lib.hid hb232
  have z233 := B233.out.size
  have HB234 := Lib.hid (HB230.out.trans (B233.out.mono HB230.out.size))
  clear hb232
  go_wp2_with fail
  refine (DParse_lit (s := ⟨#[49, 255]⟩) (parseD_lit (s := [49, 255]) (d := 5) (r := (0, 5)) (by decide +kernel)) (by decide +kernel) (by decide +kernel) (by decide +kernel) (G.step HB234.out) (M.step HB234.out)).mono ?_
  rintro e w236 ⟨hb236, rfl⟩
  have B237 := Lib.hid hb236
  have z237 := B237.out.size
  have HB238 := Lib.hid (HB234.out.trans (B237.out.mono HB234.out.size))
  clear hb236
  have LN_239 := One.step hN231 B237.out
  go_wp2_with fail
  refine (refusesD_yes LN_239).mono ?_
  rintro e w240 ⟨hb240, rfl⟩
  have B241 := Lib.hid hb240
  have z241 := B241.out.size
  have HB242 := Lib.hid (HB238.out.trans (B241.out.mono HB238.out.size))
  clear hb240
  clear LN_239
  go_wp2_with fail
  refine (refusesD_new _ 5).mono ?_
  rintro e w244 ⟨hb244, N243, rfl, hN243⟩
  have B245 := Lib.hid hb244
  have z245 := B245.out.size
  have HB246 := Lib.hid (HB242.out.trans (B245.out.mono HB242.out.size))
  clear hb244
  go_wp2_with fail
  refine (DParse_lit (s := ⟨#[45, 46, 53]⟩) (parseD_lit (s := [45, 46, 53]) (d := 5) (r := (0, 5)) (by decide +kernel)) (by decide +kernel) (by decide +kernel) (by decide +kernel) (G.step HB246.out) (M.step HB246.out)).mono ?_
  rintro e w248 ⟨hb248, rfl⟩
  have B249 := Lib.hid hb248
  have z249 := B249.out.size
  have HB250 := Lib.hid (HB246.out.trans (B249.out.mono HB246.out.size))
  clear hb248
  have LN_251 := One.step hN243 B249.out
  go_wp2_with fail
  refine (refusesD_yes LN_251).mono ?_
  rintro e w252 ⟨hb252, rfl⟩
  have B253 := Lib.hid hb252
  have z253 := B253.out.size
  have HB254 := Lib.hid (HB250.out.trans (B253.out.mono HB250.out.size))
  clear hb252
  clear LN_251
  go_wp2_with fail
  refine (isD_new _ ⟨#[49, 48, 52, 56, 53, 55, 54]⟩).mono ?_
  rintro e w256 ⟨hb256, N255, rfl, hN255⟩
  have B257 := Lib.hid hb256
  have z257 := B257.out.size
  have HB258 := Lib.hid (HB254.out.trans (B257.out.mono HB254.out.size))
  clear hb256
  go_wp2_with fail
  refine (DFixed_lit (fixedD_lit (v := 4503599627370496) (d := 12) (up := false) (s := [49, 48, 52, 56, 53, 55, 54]) 12 (by decide +kernel)) (G.step HB258.out)).mono ?_
  rintro e w260 ⟨hb260, t259, rfl, ht259⟩
  have B261 := Lib.hid hb260
  have z261 := B261.out.size
  have HB262 := Lib.hid (HB258.out.trans (B261.out.mono HB258.out.size))
  clear hb260
  have Ht259 := Lib.hid ht259; clear ht259
  have LN_263 := One.step hN255 B261.out
  go_wp2_with fail
  refine (isD_yes LN_263 Ht259.out).mono ?_
  rintro e w264 ⟨hb264, rfl⟩
  have B265 := Lib.hid hb264
  have z265 := B265.out.size
  have HB266 := Lib.hid (HB262.out.trans (B265.out.mono HB262.out.size))
  clear hb264
  clear LN_263
  clear Ht259
  go_wp2_with fail
  refine (isD_new _ ⟨#[45, 49, 48, 52, 56, 53, 55, 54]⟩).mono ?_
  rintro e w268 ⟨hb268, N267, rfl, hN267⟩
  have B269 := Lib.hid hb268
  have z269 := B269.out.size
  have HB270 := Lib.hid (HB266.out.trans (B269.out.mono HB266.out.size))
  clear hb268
  go_wp2_with fail
  refine (DFixed_lit (fixedD_lit (v := (-4503599627370496)) (d := 0) (up := true) (s := [45, 49, 48, 52, 56, 53, 55, 54]) 0 (by decide +kernel)) (G.step HB270.out)).mono ?_
  rintro e w272 ⟨hb272, t271, rfl, ht271⟩
  have B273 := Lib.hid hb272
  have z273 := B273.out.size
  have HB274 := Lib.hid (HB270.out.trans (B273.out.mono HB270.out.size))
  clear hb272
  have Ht271 := Lib.hid ht271; clear ht271
  have LN_275 := One.step hN267 B273.out
  go_wp2_with fail
  refine (isD_yes LN_275 Ht271.out).mono ?_
  rintro e w276 ⟨hb276, rfl⟩
  have B277 := Lib.hid hb276
  have z277 := B277.out.size
  have HB278 := Lib.hid (HB274.out.trans (B277.out.mono HB274.out.size))
  clear hb276
  clear LN_275
  clear Ht271
  go_wp2_with fail
  refine (isD_new _ ⟨#[48, 46, 48, 48, 48, 48, 48, 48, 48, 48, 48, 50, 51, 50]⟩).mono ?_
  rintro e w280 ⟨hb280, N279, rfl, hN279⟩
  have B281 := Lib.hid hb280
  have z281 := B281.out.size
  have HB282 := Lib.hid (HB278.out.trans (B281.out.mono HB278.out.size))
  clear hb280
  go_wp2_with fail
  refine (DFixed_lit (fixedD_lit (v := 1) (d := 12) (up := false) (s := [48, 46, 48, 48, 48, 48, 48, 48, 48, 48, 48, 50, 51, 50]) 0 (by decide +kernel)) (G.step HB282.out)).mono ?_
  rintro e w284 ⟨hb284, t283, rfl, ht283⟩
  have B285 := Lib.hid hb284
  have z285 := B285.out.size
  have HB286 := Lib.hid (HB282.out.trans (B285.out.mono HB282.out.size))
  clear hb284
  have Ht283 := Lib.hid ht283; clear ht283
  have LN_287 := One.step hN279 B285.out
  go_wp2_with fail
  refine (isD_yes LN_287 Ht283.out).mono ?_
  rintro e w288 ⟨hb288, rfl⟩
  have B289 := Lib.hid hb288
  have z289 := B289.out.size
  have HB290 := Lib.hid (HB286.out.trans (B289.out.mono HB286.out.size))
  clear hb288
  clear LN_287
  clear Ht283
  go_wp2_with fail
  refine (isD_new _ ⟨#[48, 46, 48, 48, 48, 48, 48, 48, 48, 48, 48, 50, 51, 51]⟩).mono ?_
  rintro e w292 ⟨hb292, N291, rfl, hN291⟩
  have B293 := Lib.hid hb292
  have z293 := B293.out.size
  have HB294 := Lib.hid (HB290.out.trans (B293.out.mono HB290.out.size))
  clear hb292
  go_wp2_with fail
  refine (DFixed_lit (fixedD_lit (v := 1) (d := 12) (up := true) (s := [48, 46, 48, 48, 48, 48, 48, 48, 48, 48, 48, 50, 51, 51]) 0 (by decide +kernel)) (G.step HB294.out)).mono ?_
  rintro e w296 ⟨hb296, t295, rfl, ht295⟩
  have B297 := Lib.hid hb296
  have z297 := B297.out.size
  have HB298 := Lib.hid (HB294.out.trans (B297.out.mono HB294.out.size))
  clear hb296
  have Ht295 := Lib.hid ht295; clear ht295
  have LN_299 := One.step hN291 B297.out
  go_wp2_with fail
  refine (isD_yes LN_299 Ht295.out).mono ?_
  rintro e w300 ⟨hb300, rfl⟩
  have B301 := Lib.hid hb300
  have z301 := B301.out.size
  have HB302 := Lib.hid (HB298.out.trans (B301.out.mono HB298.out.size))
  clear hb300
  clear LN_299
  clear Ht295
  go_wp2_with fail
  refine (failsD_new _ 2).mono ?_
  rintro e w304 ⟨hb304, N303, rfl, hN303⟩
  have B305 := Lib.hid hb304
  have z305 := B305.out.size
  have HB306 := Lib.hid (HB302.out.trans (B305.out.mono HB302.out.size))
  clear hb304
  go_wp2_with fail
  refine (DFixed_lit (fixedD_bad (v := 4503599627370497) (d := 0) (up := true) (by decide +kernel)) (G.step HB306.out)).mono ?_
  rintro e w308 ⟨hb308, t307, rfl, ht307⟩
  have B309 := Lib.hid hb308
  have z309 := B309.out.size
  have HB310 := Lib.hid (HB306.out.trans (B309.out.mono HB306.out.size))
  clear hb308
  have Ht307 := Lib.hid ht307; clear ht307
  have LN_311 := One.step hN303 B309.out
  go_wp2_with fail
  refine (failsD_yes LN_311 Ht307.out).mono ?_
  rintro e w312 ⟨hb312, rfl⟩
  have B313 := Lib.hid hb312
  have z313 := B313.out.size
  have HB314 := Lib.hid (HB310.out.trans (B313.out.mono HB310.out.size))
  clear hb312
  clear LN_311
  clear Ht307
  go_wp2_with fail
  refine (failsD_new _ 2).mono ?_
  rintro e w316 ⟨hb316, N315, rfl, hN315⟩
  have B317 := Lib.hid hb316
  have z317 := B317.out.size
  have HB318 := Lib.hid (HB314.out.trans (B317.out.mono HB314.out.size))
  clear hb316
  go_wp2_with fail
  refine (DFixed_lit (fixedD_bad (v := 0) (d := 13) (up := true) (by decide +kernel)) (G.step HB318.out)).mono ?_
  rintro e w320 ⟨hb320, t319, rfl, ht319⟩
  have B321 := Lib.hid hb320
  have z321 := B321.out.size
  have HB322 := Lib.hid (HB318.out.trans (B321.out.mono HB318.out.size))
  clear hb320
  have Ht319 := Lib.hid ht319; clear ht319
  have LN_323 := One.step hN315 B321.out
  go_wp2_with fail
  refine (failsD_yes LN_323 Ht319.out).mono ?_
  rintro e w324 ⟨hb324, rfl⟩
  have B325 := Lib.hid hb324
  have z325 := B325.out.size
  have HB326 := Lib.hid (HB322.out.trans (B325.out.mono HB322.out.size))
  clear hb324
  clear LN_323
  clear Ht319
  go_wp2_with fail
  refine (failsD_new _ 2).mono ?_
  rintro e w328 ⟨hb328, N327, rfl, hN327⟩
  have B329 := Lib.hid hb328
  have z329 := B329.out.size
  have HB330 := Lib.hid (HB326.out.trans (B329.out.mono HB326.out.size))
  clear hb328
  go_wp2_with fail
  refine (DFixed_lit (fixedD_bad (v := 0) (d := (-1)) (up := true) (by decide +kernel)) (G.step HB330.out)).mono ?_
  rintro e w332 ⟨hb332, t331, rfl, ht331⟩
  have B333 := Lib.hid hb332
  have z333 := B333.out.size
  have HB334 := Lib.hid (HB330.out.trans (B333.out.mono HB330.out.size))
  clear hb332
  have Ht331 := Lib.hid ht331; clear ht331
  have LN_335 := One.step hN327 B333.out
  go_wp2_with fail
  refine (failsD_yes LN_335 Ht331.out).mono ?_
  rintro e w336 ⟨hb336, rfl⟩
  have B337 := Lib.hid hb336
  have z337 := B337.out.size
  have HB338 := Lib.hid (HB334.out.trans (B337.out.mono HB334.out.size))
  clear hb336
  clear LN_335
  clear Ht331
  go_wp2_with fail
  refine (isD_new _ ⟨#[48]⟩).mono ?_
  rintro e w340 ⟨hb340, N339, rfl, hN339⟩
  have B341 := Lib.hid hb340
  have z341 := B341.out.size
  have HB342 := Lib.hid (HB338.out.trans (B341.out.mono HB338.out.size))
  clear hb340
  go_wp2_with fail
  refine (DFixed_lit (fixedD_lit (v := (-1)) (d := 3) (up := true) (s := [48]) 3 (by decide +kernel)) (G.step HB342.out)).mono ?_
  rintro e w344 ⟨hb344, t343, rfl, ht343⟩
  have B345 := Lib.hid hb344
  have z345 := B345.out.size
  have HB346 := Lib.hid (HB342.out.trans (B345.out.mono HB342.out.size))
  clear hb344
  have Ht343 := Lib.hid ht343; clear ht343
  have LN_347 := One.step hN339 B345.out
  go_wp2_with fail
  refine (isD_yes LN_347 Ht343.out).mono ?_
  rintro e w348 ⟨hb348, rfl⟩
  have B349 := Lib.hid hb348
  have z349 := B349.out.size
  have HB350 := Lib.hid (HB346.out.trans (B349.out.mono HB346.out.size))
  clear hb348
  clear LN_347
  clear Ht343
  go_wp2_with fail
  refine (isD_new _ ⟨#[45, 49]⟩).mono ?_
  rintro e w352 ⟨hb352, N351, rfl, hN351⟩
  have B353 := Lib.hid hb352
  have z353 := B353.out.size
  have HB354 := Lib.hid (HB350.out.trans (B353.out.mono HB350.out.size))
  clear hb352
  go_wp2_with fail
  refine (DFixed_lit (fixedD_lit (v := (-1)) (d := 0) (up := false) (s := [45, 49]) 0 (by decide +kernel)) (G.step HB354.out)).mono ?_
  rintro e w356 ⟨hb356, t355, rfl, ht355⟩
  have B357 := Lib.hid hb356
  have z357 := B357.out.size
  have HB358 := Lib.hid (HB354.out.trans (B357.out.mono HB354.out.size))
  clear hb356
  have Ht355 := Lib.hid ht355; clear ht355
  have LN_359 := One.step hN351 B357.out
  go_wp2_with fail
  refine (isD_yes LN_359 Ht355.out).mono ?_
  rintro e w360 ⟨hb360, rfl⟩
  have B361 := Lib.hid hb360
  have z361 := B361.out.size
  have HB362 := Lib.hid (HB358.out.trans (B361.out.mono HB358.out.size))
  clear hb360
  clear LN_359
  clear Ht355
  go_wp2_with fail
  refine (worksD_any _ (G.step HB362.out) (M.step HB362.out)).mono ?_
  rintro e w363 ⟨hb363, rfl⟩
  have B364 := Lib.hid hb363
  have z364 := B364.out.size
  have HB365 := Lib.hid (HB362.out.trans (B364.out.mono HB362.out.size))
  clear hb363
  go_wp2_with fail
  refine (failsD_new _ 20).mono ?_
  rintro e w367 ⟨hb367, N366, rfl, hN366⟩
  have B368 := Lib.hid hb367
  have z368 := B368.out.size
  have HB369 := Lib.hid (HB365.out.trans (B368.out.mono HB365.out.size))
  clear hb367
  go_wp2_with fail
  refine (DBoth_lit (bothD_bad (lo := 1) (hi := 0) (d := 13) (c := 20) (by decide +kernel)) (G.step HB369.out)).mono ?_
  rintro e w371 ⟨hb371, t370, rfl, ht370⟩
  have B372 := Lib.hid hb371
  have z372 := B372.out.size
  have HB373 := Lib.hid (HB369.out.trans (B372.out.mono HB369.out.size))
  clear hb371
  have Ht370 := Lib.hid ht370; clear ht370
  have LN_374 := One.step hN366 B372.out
  go_wp2_with fail
  refine (failsD_yes LN_374 Ht370.out).mono ?_
  rintro e w375 ⟨hb375, rfl⟩
  have B376 := Lib.hid hb375
  have z376 := B376.out.size
  have HB377 := Lib.hid (HB373.out.trans (B376.out.mono HB373.out.size))
  clear hb375
  clear LN_374
  clear Ht370
  go_wp2_with fail
  refine (failsD_new _ 2).mono ?_
  rintro e w379 ⟨hb379, N378, rfl, hN378⟩
  have B380 := Lib.hid hb379
  have z380 := B380.out.size
  have HB381 := Lib.hid (HB377.out.trans (B380.out.mono HB377.out.size))
  clear hb379
  go_wp2_with fail
  refine (DBoth_lit (bothD_bad (lo := 0) (hi := 0) (d := 13) (c := 2) (by decide +kernel)) (G.step HB381.out)).mono ?_
  rintro e w383 ⟨hb383, t382, rfl, ht382⟩
  have B384 := Lib.hid hb383
  have z384 := B384.out.size
  have HB385 := Lib.hid (HB381.out.trans (B384.out.mono HB381.out.size))
  clear hb383
  have Ht382 := Lib.hid ht382; clear ht382
  have LN_386 := One.step hN378 B384.out
  go_wp2_with fail
  refine (failsD_yes LN_386 Ht382.out).mono ?_
  rintro e w387 ⟨hb387, rfl⟩
  have B388 := Lib.hid hb387
  have z388 := B388.out.size
  have HB389 := Lib.hid (HB385.out.trans (B388.out.mono HB385.out.size))
  clear hb387
  clear LN_386
  clear Ht382
  go_wp2_with fail
  refine (isD_new _ ⟨#[91, 48, 44, 32, 48, 93]⟩).mono ?_
  rintro e w391 ⟨hb391, N390, rfl, hN390⟩
  have B392 := Lib.hid hb391
  have z392 := B392.out.size
  have HB393 := Lib.hid (HB389.out.trans (B392.out.mono HB389.out.size))
  clear hb391
  go_wp2_with fail
  refine (DBoth_lit (bothD_lit (lo := 0) (hi := 0) (d := 12) (s := [48]) (t := [48]) 12 12 (by decide +kernel)) (G.step HB393.out)).mono ?_
  rintro e w395 ⟨hb395, t394, rfl, ht394⟩
  have B396 := Lib.hid hb395
  have z396 := B396.out.size
  have HB397 := Lib.hid (HB393.out.trans (B396.out.mono HB393.out.size))
  clear hb395
  have Ht394 := Lib.hid ht394; clear ht394
  have LN_398 := One.step hN390 B396.out
  go_wp2_with fail
  refine (isD_yes LN_398 Ht394.out).mono ?_
  rintro e w399 ⟨hb399, rfl⟩
  have B400 := Lib.hid hb399
  have z400 := B400.out.size
  have HB401 := Lib.hid (HB397.out.trans (B400.out.mono HB397.out.size))
  clear hb399
  clear LN_398
  clear Ht394
  go_wp2_with fail
  refine (isD_new _ ⟨#[91, 45, 49, 48, 52, 56, 53, 55, 54, 44, 32, 49, 48, 52, 56, 53, 55, 54, 93]⟩).mono ?_
  rintro e w403 ⟨hb403, N402, rfl, hN402⟩
  have B404 := Lib.hid hb403
  have z404 := B404.out.size
  have HB405 := Lib.hid (HB401.out.trans (B404.out.mono HB401.out.size))
  clear hb403
  go_wp2_with fail
  refine (DBoth_lit (bothD_lit (lo := (-4503599627370496)) (hi := 4503599627370496) (d := 0) (s := [45, 49, 48, 52, 56, 53, 55, 54]) (t := [49, 48, 52, 56, 53, 55, 54]) 0 0 (by decide +kernel)) (G.step HB405.out)).mono ?_
  rintro e w407 ⟨hb407, t406, rfl, ht406⟩
  have B408 := Lib.hid hb407
  have z408 := B408.out.size
  have HB409 := Lib.hid (HB405.out.trans (B408.out.mono HB405.out.size))
  clear hb407
  have Ht406 := Lib.hid ht406; clear ht406
  have LN_410 := One.step hN402 B408.out
  go_wp2_with fail
  refine (isD_yes LN_410 Ht406.out).mono ?_
  rintro e w411 ⟨hb411, rfl⟩
  have B412 := Lib.hid hb411
  have z412 := B412.out.size
  have HB413 := Lib.hid (HB409.out.trans (B412.out.mono HB409.out.size))
  clear hb411
  clear LN_410
  clear Ht406
  go_wp2
  go_ret
  exact ⟨HB413.out, rfl⟩
end Go.Proofs.YtfklkphoplpebaaGreatDoor
