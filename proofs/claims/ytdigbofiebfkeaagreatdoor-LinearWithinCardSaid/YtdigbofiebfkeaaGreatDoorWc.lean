/- Layer 35, the law package: works (written by gen_wc.py). -/
import Derived.Test.YtdigbofiebfkeaaGreatDoorWab
import Derived.Test.YtdigbofiebfkeaaGreatDoorLy
import Derived.Test.YtdigbofiebfkeaaGreatDoorQa
namespace Go.Proofs.YtdigbofiebfkeaaGreatDoor
open Go Go.RowKit Dig
set_option maxRecDepth 100000
set_option linter.unusedSimpArgs false
set_option maxHeartbeats 8000000 in
theorem works35 (w:World) (M:MaxL w) :
  Calls Tryz.prog 5 #[] w fun e w'=>Below w.heap.size w w'∧e=.returned (.bool true):=by
 go_enter Tryz.func5,Tryz.ntmps5
 have A6:=zz (Below.refl w.heap.size w);go_wp2_with fail
 refine(of1 _ plit_49 (by decide +kernel) (M.step A6.out)).mono ?_;rintro e w2 ⟨B6,A1,c1,rfl,h1⟩;have B3:=zz B6;have z3:=B3.out.size;have C6:=tr A6 B3;clear B6;have F6:=zz h1;clear h1;go_wp2_with fail
 refine(of1 _ plit_50 (by decide +kernel) (M.step C6.out)).mono ?_;rintro e w6 ⟨D6,A5,c5,rfl,h5⟩;have B7:=zz D6;have z7:=B7.out.size;have R6:=tr C6 B7;clear D6;have G6:=zz h5;clear h5;go_wp2_with fail
 have g5:=zz (VL.step F6.out B7.out);refine(rows2 _ g5.out G6.out).mono ?_;rintro e w10 ⟨K2,g9,rfl,h9⟩;have B12:=zz K2;have z12:=B12.out.size;have H6:=tr R6 B12;clear K2;have I6:=zz h9;clear h9;go_wp2_with fail
 refine(is2 _).mono ?_;rintro e w15 ⟨L2,N14,rfl,hN14⟩;have B16:=zz L2;have z16:=B16.out.size;have M2:=tr H6 B16;clear L2;have V7:=zz hN14;clear hN14;go_wp2_with fail
 refine(of2 _ plit_50 plit_49 (by decide +kernel) (by decide +kernel) (M.step M2.out)).mono ?_;rintro e w19 ⟨N2,A18,c18,rfl,h18⟩;have B20:=zz N2;have z20:=B20.out.size;have O2:=tr M2 B20;clear N2;have P2:=zz h18;clear h18;go_wp2_with fail
 refine(of2 _ plit_49 plit_51 (by decide +kernel) (by decide +kernel) (M.step O2.out)).mono ?_;rintro e w23 ⟨Q2,A22,c22,rfl,h22⟩;have B24:=zz Q2;have z24:=B24.out.size;have J6:=tr O2 B24;clear Q2;have R2:=zz h22;clear h22;go_wp2_with fail
 have S2:=zz (VL.step P2.out B24.out);refine(rows2 _ S2.out R2.out).mono ?_;rintro e w27 ⟨T2,g26,rfl,h26⟩;have B29:=zz T2;have z29:=B29.out.size;have U2:=tr J6 B29;clear T2;have i5:=zz h26;clear h26;go_wp2_with fail
 refine(of2 _ plit_51 plit_53 (by decide +kernel) (by decide +kernel) (M.step U2.out)).mono ?_;rintro e w32 ⟨V2,A31,c31,rfl,h31⟩;have B33:=zz V2;have z33:=B33.out.size;have K6:=tr U2 B33;clear V2;have j5:=zz h31;clear h31;have k5:=zz (VM.step i5.out B33.out);go_wp2_with fail
 refine(LSolve_any _ _ _ _ _ _ _ _ _ k5.out.rat j5.out.rat).mono ?_;rintro e w37 ⟨W2,hr⟩;have B38:=zz W2;have z38:=B38.out.size;have X2:=tr K6 B38;clear W2;obtain⟨A35,c35,rfl,h35⟩:=ret_list (n:=2) hr wk1 rfl;have l5:=zz h35;clear h35 hr;go_wp2_with fail
 have P2_4_41:=tr B20 B24;have P2_5_42:=tr P2_4_41 B29;have P2_6_43:=tr P2_5_42 B33;have P2_7_44:=tr P2_6_43 B38;have m5:=zz (IsC.step V7.out P2_7_44.out);refine(yes2 m5.out l5.out plit_52_47_53 plit_55_47_53 (by decide +kernel) (by decide +kernel) (M.step X2.out)).mono ?_;rintro e w40 ⟨Y2,rfl⟩;have B46:=zz Y2;have z46:=B46.out.size;have L6:=tr X2 B46;clear Y2;have P1_3_48:=tr B16 B20;have P1_4_49:=tr P1_3_48 B24;have P1_5_50:=tr P1_4_49 B29;have P1_6_51:=tr P1_5_50 B33;have P1_7_52:=tr P1_6_51 B38;have P1_8_53:=tr P1_7_52 B46;have n5:=zz (VM.step I6.out P1_8_53.out);go_wp2_with fail
 refine(lfails_any _ 7).mono ?_;rintro e w56 ⟨Z2,N55,rfl,hN55⟩;have B57:=zz Z2;have z57:=B57.out.size;have a3:=tr L6 B57;clear Z2;go_wp2_with fail
 refine(of2 _ plit_49 plit_50 (by decide +kernel) (by decide +kernel) (M.step a3.out)).mono ?_;rintro e w60 ⟨b3,A59,c59,rfl,h59⟩;have B61:=zz b3;have z61:=B61.out.size;have d3:=tr a3 B61;clear b3;have e3:=zz h59;clear h59;go_wp2_with fail
 refine(of2 _ plit_50 plit_52 (by decide +kernel) (by decide +kernel) (M.step d3.out)).mono ?_;rintro e w64 ⟨f3,A63,c63,rfl,h63⟩;have B65:=zz f3;have z65:=B65.out.size;have M6:=tr d3 B65;clear f3;have g3:=zz h63;clear h63;go_wp2_with fail
 have h3:=zz (VL.step e3.out B65.out);refine(rows2 _ h3.out g3.out).mono ?_;rintro e w68 ⟨i3,g67,rfl,h67⟩;have B70:=zz i3;have z70:=B70.out.size;have j3:=tr M6 B70;clear i3;have o5:=zz h67;clear h67;go_wp2_with fail
 refine(of2 _ plit_49 plit_50 (by decide +kernel) (by decide +kernel) (M.step j3.out)).mono ?_;rintro e w73 ⟨k3,A72,c72,rfl,h72⟩;have B74:=zz k3;have z74:=B74.out.size;have N6:=tr j3 B74;clear k3;have p5:=zz h72;clear h72;have q5:=zz (VM.step o5.out B74.out);go_wp2_with fail
 refine(LSolve_any _ _ _ _ _ _ _ _ _ q5.out.rat p5.out.rat).mono ?_;rintro e w78 ⟨l3,hr⟩;have B79:=zz l3;have z79:=B79.out.size;have O6:=tr N6 B79;clear l3;obtain rfl:=ret_err hr wk2;clear hr;go_wp2_with fail
 have P2_4_83:=tr B61 B65;have P2_5_84:=tr P2_4_83 B70;have P2_6_85:=tr P2_5_84 B74;have P2_7_86:=tr P2_6_85 B79;have r5:=One.step hN55 P2_7_86.out;refine(lfails_yes r5).mono ?_;rintro e w81 ⟨m3,rfl⟩;have B87:=zz m3;have z87:=B87.out.size;have P6:=tr O6 B87;clear m3;have P1_3_89:=tr B57 B61;have P1_4_90:=tr P1_3_89 B65;have P1_5_91:=tr P1_4_90 B70;have P1_6_92:=tr P1_5_91 B74;have P1_7_93:=tr P1_6_92 B79;have P1_8_94:=tr P1_7_93 B87;have s5:=zz (VM.step n5.out P1_8_94.out);go_wp2_with fail
 refine(lfails_any _ 2).mono ?_;rintro e w97 ⟨n3,N96,rfl,hN96⟩;have B98:=zz n3;have z98:=B98.out.size;have o3:=tr P6 B98;clear n3;go_wp2_with fail
 refine(of2 _ plit_49 plit_50 (by decide +kernel) (by decide +kernel) (M.step o3.out)).mono ?_;rintro e w101 ⟨v0,A100,c100,rfl,h100⟩;have B102:=zz v0;have z102:=B102.out.size;have t5:=tr o3 B102;clear v0;have C2:=zz h100;clear h100;go_wp2_with fail
 refine(rows1 _ C2.out).mono ?_;rintro e w105 ⟨w0,g104,rfl,h104⟩;have B106:=zz w0;have z106:=B106.out.size;have x0:=tr t5 B106;clear w0;have p3:=zz h104;clear h104;go_wp2_with fail
 refine(of1 _ plit_49 (by decide +kernel) (M.step x0.out)).mono ?_;rintro e w109 ⟨y0,A108,c108,rfl,h108⟩;have B110:=zz y0;have z110:=B110.out.size;have u5:=tr x0 B110;clear y0;have q3:=zz h108;clear h108;have r3:=zz (VM.step p3.out B110.out);go_wp2_with fail
 refine(LSolve_any _ _ _ _ _ _ _ _ _ r3.out.rat q3.out.rat).mono ?_;rintro e w114 ⟨z0,hr⟩;have B115:=zz z0;have z115:=B115.out.size;have v5:=tr u5 B115;clear z0;obtain rfl:=ret_err hr wk3;clear hr;go_wp2_with fail
 have P2_4_119:=tr B102 B106;have P2_5_120:=tr P2_4_119 B110;have P2_6_121:=tr P2_5_120 B115;have s3:=One.step hN96 P2_6_121.out;refine(lfails_yes s3).mono ?_;rintro e w117 ⟨A0,rfl⟩;have B122:=zz A0;have z122:=B122.out.size;have w5:=tr v5 B122;clear A0;have P1_3_124:=tr B98 B102;have P1_4_125:=tr P1_3_124 B106;have P1_5_126:=tr P1_4_125 B110;have P1_6_127:=tr P1_5_126 B115;have P1_7_128:=tr P1_6_127 B122;have t3:=zz (VM.step s5.out P1_7_128.out);go_wp2_with fail
 refine(lfails_any _ 350).mono ?_;rintro e w131 ⟨B0,N130,rfl,hN130⟩;have B132:=zz B0;have z132:=B132.out.size;have C0:=tr w5 B132;clear B0;go_wp2_with fail
 refine(of1 _ plit_49 (by decide +kernel) (M.step C0.out)).mono ?_;rintro e w135 ⟨D0,A134,c134,rfl,h134⟩;have B136:=zz D0;have z136:=B136.out.size;have x5:=tr C0 B136;clear D0;have u3:=zz h134;clear h134;go_wp2_with fail
 refine(LSolve_any _ _ _ _ _ _ _ _ _ (VM.nil _ _).rat u3.out.rat).mono ?_;rintro e w139 ⟨E0,hr⟩;have B140:=zz E0;have z140:=B140.out.size;have y5:=tr x5 B140;clear E0;obtain rfl:=ret_err hr wk4;clear hr;go_wp2_with fail
 have P2_4_144:=tr B136 B140;have v3:=One.step hN130 P2_4_144.out;refine(lfails_yes v3).mono ?_;rintro e w142 ⟨F0,rfl⟩;have B145:=zz F0;have z145:=B145.out.size;have G0:=tr y5 B145;clear F0;have P1_3_147:=tr B132 B136;have P1_4_148:=tr P1_3_147 B140;have P1_5_149:=tr P1_4_148 B145;have w3:=zz (VM.step t3.out P1_5_149.out);go_wp2_with fail
 refine(of2 _ plit_51 plit_52 (by decide +kernel) (by decide +kernel) (M.step G0.out)).mono ?_;rintro e w152 ⟨H0,A151,c151,rfl,h151⟩;have B153:=zz H0;have z153:=B153.out.size;have z5:=tr G0 B153;clear H0;have x3:=zz h151;clear h151;go_wp2_with fail
 have j0:=zz (VM.step w3.out B153.out);refine(LNormal_any _ _ _ _ _ _ _ _ _ j0.out.rat x3.out.rat).mono ?_;rintro e w156 ⟨I0,hr⟩;have B158:=zz I0;have z158:=B158.out.size;have J0:=tr z5 B158;clear I0;obtain⟨A155,c155,B155,d155,rfl,h155,k155⟩:=ret_normal (n:=1) (m:=1) hr wkN rfl rfl;have y3:=zz h155;have A3:=zz k155;clear h155 k155 hr;have C3:=zz (VM.step j0.out B158.out);go_wp2_with fail
 refine(of2 _ plit_51 plit_52 (by decide +kernel) (by decide +kernel) (M.step J0.out)).mono ?_;rintro e w162 ⟨K0,A161,c161,rfl,h161⟩;have B163:=zz K0;have z163:=B163.out.size;have L0:=tr J0 B163;clear K0;have D3:=zz h161;clear h161;go_wp2_with fail
 refine(of1 _ plit_49 (by decide +kernel) (M.step L0.out)).mono ?_;rintro e w166 ⟨M0,A165,c165,rfl,h165⟩;have B167:=zz M0;have z167:=B167.out.size;have B5:=tr L0 B167;clear M0;have E3:=zz h165;clear h165;go_wp2_with fail
 have P1_3_171:=tr B163 B167;have k0:=zz (VM.step C3.out P1_3_171.out);have F3:=zz (VL.step D3.out B167.out);refine(LMeasure_any _ _ _ _ _ _ _ _ _ _ _ _ _ k0.out.rat F3.out.rat E3.out.rat).mono ?_;rintro e w170 ⟨N0,hr⟩;have B174:=zz N0;have z174:=B174.out.size;have C5:=tr B5 B174;clear N0;obtain⟨v169,rfl,D5⟩:=ret_quot hr wkQ;clear hr;obtain⟨A7,C7,D7,E7,F7,b0,G7,rfl,ha176,O0,hc176⟩:=D5;have G3:=zz (show QV w170 w170.heap.size (.agg #[.bool A7,.slice C7 D7 E7,.bool false,.slice F7 b0 G7]) (mkRat 8 1) from⟨_,_,_,_,_,_,_,rfl,ha176,O0,hc176⟩);clear ha176 O0 hc176;go_upto_region 5 with (fail)
 obtain⟨w177,d0⟩:∃ w177:World,w177=(w170.alloc (.cells #[.bool A7,.slice C7 D7 E7,.bool false,.slice F7 b0 G7] 33)):=⟨_,rfl⟩;rw[← d0];have H3:=n1_0 d0;have za177:=n1_z d0;have B178:=zz (n1_b d0);have z178:=B178.out.size;have a0:=tr C5 B178;clear d0;have P3_5_180:=tr B174 B178;have l0:=zz (VM.step k0.out P3_5_180.out);have P1_4_182:=tr P1_3_171 B174;have P1_5_183:=tr P1_4_182 B178;have I3:=zz (VM.step y3.out P1_5_183.out);have J3:=zz (VL.step A3.out P1_5_183.out);have K3:=zz (QV.step G3.out B178.out);obtain⟨g187,off187,B187,d187,rfl,hc187,hr187⟩:=VM.row0 I3.out;have I7:=zz hc187;have M7:=zz hr187;clear hc187 hr187;have N7:=zz (cell_lt I7.out);refine Chunk.start (by kernel_rfl) ?_;intro wd188 hbd188
 change Early _ _ _ _ _ _ 57 #[false,false,false,false,false,false,false,false,false,false,false,false,false,false,false,false,false,false,false,false,false,false,false,false,false,false,false,false,false,false,false,false,false,false,false,false,false,false,false,false,false,false,false,false,false,false,false,false,false,false,false,false,false,false,false,false,false] _ _
 have B189:=zz hbd188;have z189:=B189.out.size;have E5:=tr a0 B189;clear hbd188;refine ChunkS.run [se 0 84 [] (.bool true),se 1 85 [0] (.bool true),se 2 86 [1] (.slice (some ⟨g187,off187,none⟩) 1 c155),se 3 87 [1,2] (.int .i64 1),se 4 88 [1,3] (.bool true),se 5 89 [1,4] (.bool true),se 6 90 [5] (.bool true)] 6 #[false,false,false,false,false,false,false,false,false,false,false,false,false,false,false,false,false,false,false,false,false,false,false,false,false,false,false,false,false,false,false,false,false,false,false,false,false,false,false,false,false,false,false,false,false,false,false,false,false,false,false,false,false,false,false,false,false] #[true,true,true,true,true,true,true,false,false,false,false,false,false,false,false,false,false,false,false,false,false,false,false,false,false,false,false,false,false,false,false,false,false,false,false,false,false,false,false,false,false,false,false,false,false,false,false,false,false,false,false,false,false,false,false,false,false] 50 S0 trivial ?_ ?_
 ·intro xs a_ hA;simp only[SX] at hA
  iterate 7 (refine ac ?_ ?_;rotate_left)
  exact all_nil
  all_goals (intro wk hb;simp only[SX,↓reduceIte,Nat.reduceEqDiff,Nat.reduceAdd];have b_:=zz hb;have z_:=hb.size;clear hb;subst hA)
  any_goals (intros;refine wpOp_step rfl ?_;intro K hK;go_simp;refine hK _ _ ⟨_,?_,Below.refl _ _,rfl⟩;simp only[*,FL] <;> kernel_rfl)
 intro xs n8 hbf;simp only[SY];have B192:=zz hbf;have z192:=B192.out.size;have F5:=tr E5 B192;clear hbf;refine ChunkS.run [sf 7 91 [] (fun fv fw=>∃ zb,fv=.slice (some ⟨zb,0,none⟩) 1 1∧CB fw zb 9 #[.string ⟨#[53]⟩]),sf 8 92 [7] (fun fv fw=>∃ N,fv=.func (.func 66) #[] #[.pointer (some ⟨N,0,none⟩)]∧IsC fw fw.heap.size N [⟨#[53]⟩]),se 9 93 [] (.slice (some ⟨g187,off187,none⟩) 1 c155),se 10 94 [9] (.pointer (some ⟨g187,off187,none⟩)),se 11 95 [10] (.slice B187 1 d187),se 12 96 [] (.int .i64 0),se 13 97 [8,11,12] (.bool true),se 14 98 [13] (.bool true),se 15 99 [14] (.bool true)] 15 #[true,true,true,true,true,true,true,false,false,false,false,false,false,false,false,false,false,false,false,false,false,false,false,false,false,false,false,false,false,false,false,false,false,false,false,false,false,false,false,false,false,false,false,false,false,false,false,false,false,false,false,false,false,false,false,false,false] #[true,true,true,true,true,true,true,true,true,true,true,true,true,true,true,true,false,false,false,false,false,false,false,false,false,false,false,false,false,false,false,false,false,false,false,false,false,false,false,false,false,false,false,false,false,false,false,false,false,false,false,false,false,false,false,false,false] 41 S0 (MA (fun _ _ _ h hb=>let ⟨b,e,h⟩:=h;⟨b,e,h.step hb⟩) (MA (fun _ _ _ h hb=>let ⟨N,e,h⟩:=h;⟨N,e,IsC.step h hb⟩) trivial)) ?_ ?_
 ·intro xs a_ hA;simp only[SX] at hA
  iterate 9 (refine ac ?_ ?_;rotate_left)
  exact all_nil
  all_goals (intro wk hb;simp only[SX,↓reduceIte,Nat.reduceEqDiff,Nat.reduceAdd];have b_:=zz hb;have z_:=hb.size;clear hb;subst hA)
  any_goals (intro f10;intros;refine wpOp_step (i:=11) (o:=?go194) ?S6 ?gh194;(case S6=>exact rfl);intro K hK;have P1_3_195:=tr B189 B192;have P1_4_196:=tr P1_3_195 b_;have qv0:=(Below.cell P1_4_196.out (p:=⟨g187,off187,none⟩) N7.out).trans I7.out;go_simp;(refine hK _ _ ⟨.slice B187 1 d187,by simp only[FL,f10] <;> kernel_rfl,Below.refl _ _,rfl⟩))
  any_goals (intros;refine wpOp_step rfl ?_;intro K hK;go_simp;refine hK _ _ ⟨_,?_,Below.refl _ _,rfl⟩;simp only[*,FL] <;> kernel_rfl)
  ·intros
   refine wpOp_step (o:=?_) ?T6 ?_
   case T6=>exact rfl
   intro K hK;go_simp;refine hK _ _ ⟨.slice (some ⟨wk.heap.size,0,none⟩) 1 1,by kernel_rfl,(Below.refl _ _).alloc (Nat.le_refl _) _,⟨_,rfl,CB.new _ _ _⟩⟩
  ·intro f7;intros;refine wpOp_step (o:=?_) ?U6 ?_
   case U6=>exact rfl
   intro K hK;obtain⟨zb7,hz7,hC7⟩:=f7;rw[hz7];have m8:=zz hC7;clear hC7;go_simp;(with_reducible refine(lis_any _ _ _ _ [⟨#[53]⟩] (SS.cb1 m8.out)).mono ?_)
   rintro e wc199 ⟨G5,N199,rfl,hN199⟩;refine hK _ _ ⟨.func (.func 66) #[] #[.pointer (some ⟨N199,0,none⟩)],by simp only[FL,hz7] <;> kernel_rfl,G5,⟨N199,rfl,hN199⟩⟩
  ·intro f8 f11 f12;intros;refine wpOp_step (o:=?_) ?V6 ?_
   case V6=>exact rfl
   intro K hK;obtain⟨N,hN,hO⟩:=f8;rw[hN];have HO:=zz hO;clear hO;go_simp;have P1_3_202:=tr B189 B192;have P1_4_203:=tr P1_3_202 b_;have r0:=zz (VL.step M7.out P1_4_203.out);(with_reducible refine(yes1 HO.out r0.out plit_53 (by decide +kernel) (M.step (a0.out.trans (P1_4_203.out.mono a0.out.size)))).mono ?_)
   rintro e wc201 ⟨H5,rfl⟩;refine hK _ _ ⟨.bool true,by simp only[FL,f11,f12,hN] <;> kernel_rfl,H5,rfl⟩
 intro xs o8 hbf;simp only[SY];have B206:=zz hbf;have z206:=B206.out.size;have I5:=tr F5 B206;clear hbf;generalize xs 7=x7,xs 8=x8;rintro f7 f8;clear f7;clear f8;refine ChunkS.run [sf 16 100 [] (fun fv fw=>∃ zb,fv=.slice (some ⟨zb,0,none⟩) 1 1∧CB fw zb 9 #[.string ⟨#[49,49]⟩]),sf 17 101 [16] (fun fv fw=>∃ N,fv=.func (.func 66) #[] #[.pointer (some ⟨N,0,none⟩)]∧IsC fw fw.heap.size N [⟨#[49,49]⟩]),se 18 102 [] (.slice B155 1 d155),se 19 103 [] (.int .i64 0),se 20 104 [17,18,19] (.bool true),se 21 105 [20] (.bool true),se 22 106 [21] (.bool true)] 22 #[true,true,true,true,true,true,true,true,true,true,true,true,true,true,true,true,false,false,false,false,false,false,false,false,false,false,false,false,false,false,false,false,false,false,false,false,false,false,false,false,false,false,false,false,false,false,false,false,false,false,false,false,false,false,false,false,false] #[true,true,true,true,true,true,true,true,true,true,true,true,true,true,true,true,true,true,true,true,true,true,true,false,false,false,false,false,false,false,false,false,false,false,false,false,false,false,false,false,false,false,false,false,false,false,false,false,false,false,false,false,false,false,false,false,false] 34 S0 (MA (fun _ _ _ h hb=>let ⟨b,e,h⟩:=h;⟨b,e,h.step hb⟩) (MA (fun _ _ _ h hb=>let ⟨N,e,h⟩:=h;⟨N,e,IsC.step h hb⟩) trivial)) ?_ ?_
 ·intro xs a_ hA;simp only[SX] at hA
  iterate 7 (refine ac ?_ ?_;rotate_left)
  exact all_nil
  all_goals (intro wk hb;simp only[SX,↓reduceIte,Nat.reduceEqDiff,Nat.reduceAdd];have b_:=zz hb;have z_:=hb.size;clear hb;subst hA)
  any_goals (intros;refine wpOp_step rfl ?_;intro K hK;go_simp;refine hK _ _ ⟨_,?_,Below.refl _ _,rfl⟩;simp only[*,FL] <;> kernel_rfl)
  ·intros
   refine wpOp_step (o:=?_) ?W6 ?_
   case W6=>exact rfl
   intro K hK;go_simp;refine hK _ _ ⟨.slice (some ⟨wk.heap.size,0,none⟩) 1 1,by kernel_rfl,(Below.refl _ _).alloc (Nat.le_refl _) _,⟨_,rfl,CB.new _ _ _⟩⟩
  ·intro f16;intros;refine wpOp_step (o:=?_) ?X6 ?_
   case X6=>exact rfl
   intro K hK;obtain⟨zb16,hz16,hC16⟩:=f16;rw[hz16];have W7:=zz hC16;clear hC16;go_simp;(with_reducible refine(lis_any _ _ _ _ [⟨#[49,49]⟩] (SS.cb1 W7.out)).mono ?_)
   rintro e wc210 ⟨J5,N210,rfl,hN210⟩;refine hK _ _ ⟨.func (.func 66) #[] #[.pointer (some ⟨N210,0,none⟩)],by simp only[FL,hz16] <;> kernel_rfl,J5,⟨N210,rfl,hN210⟩⟩
  ·intro f17 f18 f19;intros;refine wpOp_step (o:=?_) ?Y6 ?_
   case Y6=>exact rfl
   intro K hK;obtain⟨N,hN,hO⟩:=f17;rw[hN];have HO:=zz hO;clear hO;go_simp;have P1_3_213:=tr B189 B192;have P1_4_214:=tr P1_3_213 B206;have P1_5_215:=tr P1_4_214 b_;have L3:=zz (VL.step J3.out P1_5_215.out);(with_reducible refine(yes1 HO.out L3.out plit_49_49 (by decide +kernel) (M.step (a0.out.trans (P1_5_215.out.mono a0.out.size)))).mono ?_)
   rintro e wc212 ⟨K5,rfl⟩;refine hK _ _ ⟨.bool true,by simp only[FL,f18,f19,hN] <;> kernel_rfl,K5,rfl⟩
 intro xs p8 hbf;simp only[SY];have B218:=zz hbf;have z218:=B218.out.size;have L5:=tr I5 B218;clear hbf;generalize xs 16=x16,xs 17=x17;rintro f16 f17;clear f16;clear f17;have P1_3_221:=tr B189 B192;have P1_4_222:=tr P1_3_221 B206;have P1_5_223:=tr P1_4_222 B218;have M3:=CB.step H3 P1_5_223.out
 refine ChunkS.run [sf 23 107 [] (fun fv fw=>∃ zb,fv=.slice (some ⟨zb,0,none⟩) 1 1∧CB fw zb 9 #[.string ⟨#[56]⟩]),sf 24 108 [23] (fun fv fw=>∃ N,fv=.func (.func 66) #[] #[.pointer (some ⟨N,0,none⟩)]∧IsC fw fw.heap.size N [⟨#[56]⟩]),se 25 109 [] (.agg #[.bool A7,.slice C7 D7 E7,.bool false,.slice F7 b0 G7]),sf 26 110 [25] (fun fv fw=>∃ b,fv=.slice (some ⟨b,0,none⟩) 1 1∧VL fw fw.heap.size (.slice (some ⟨b,0,none⟩) 1 1) [mkRat 8 1]),se 27 111 [] (.int .i64 0),se 28 112 [24,26,27] (.bool true),se 29 113 [28] (.bool true),se 30 114 [29] (.bool true)] 30 #[true,true,true,true,true,true,true,true,true,true,true,true,true,true,true,true,true,true,true,true,true,true,true,false,false,false,false,false,false,false,false,false,false,false,false,false,false,false,false,false,false,false,false,false,false,false,false,false,false,false,false,false,false,false,false,false,false] #[true,true,true,true,true,true,true,true,true,true,true,true,true,true,true,true,true,true,true,true,true,true,true,true,true,true,true,true,true,true,true,false,false,false,false,false,false,false,false,false,false,false,false,false,false,false,false,false,false,false,false,false,false,false,false,false,false] 26 (SB M3 S0) (MA (fun _ _ _ h hb=>let ⟨b,e,h⟩:=h;⟨b,e,h.step hb⟩) (MA (fun _ _ _ h hb=>let ⟨N,e,h⟩:=h;⟨N,e,IsC.step h hb⟩) (MA (fun _ _ _ h hb=>let ⟨b,e,h⟩:=h;⟨b,e,VL.step h hb⟩) trivial))) ?_ ?_
 ·intro xs a_ hA;simp only[SX] at hA
  iterate 8 (refine ac ?_ ?_;rotate_left)
  exact all_nil
  all_goals (intro wk hb;simp only[SX,↓reduceIte,Nat.reduceEqDiff,Nat.reduceAdd];have b_:=zz hb;have z_:=hb.size;clear hb;subst hA)
  any_goals (intros;refine wpOp_step rfl ?_;intro K hK;go_simp;refine hK _ _ ⟨_,?_,Below.refl _ _,rfl⟩;simp only[*,FL] <;> kernel_rfl)
  ·intros
   refine wpOp_step (o:=?_) ?Z6 ?_
   case Z6=>exact rfl
   intro K hK;go_simp;refine hK _ _ ⟨.slice (some ⟨wk.heap.size,0,none⟩) 1 1,by kernel_rfl,(Below.refl _ _).alloc (Nat.le_refl _) _,⟨_,rfl,CB.new _ _ _⟩⟩
  ·intro f23;intros;refine wpOp_step (o:=?_) ?a7 ?_
   case a7=>exact rfl
   intro K hK;obtain⟨zb23,hz23,hC23⟩:=f23;rw[hz23];have X7:=zz hC23;clear hC23;go_simp;(with_reducible refine(lis_any _ _ _ _ [⟨#[56]⟩] (SS.cb1 X7.out)).mono ?_)
   rintro e wc226 ⟨M5,N226,rfl,hN226⟩;refine hK _ _ ⟨.func (.func 66) #[] #[.pointer (some ⟨N226,0,none⟩)],by simp only[FL,hz23] <;> kernel_rfl,M5,⟨N226,rfl,hN226⟩⟩
  ·intro f25;intros;refine wpOp_step (o:=?_) ?b7 ?_
   case b7=>exact rfl
   intro K hK;go_simp;have hbn:Below wk.heap.size wk (wk.alloc (.cells #[.bool A7,.slice C7 D7 E7,.bool false,.slice F7 b0 G7] 33)):=below_alloc1 (Below.refl _ _) _;have P1_6_228:=tr P1_5_223 b_;have N3:=zz (QV.step K3.out P1_6_228.out);refine hK _ _ ⟨.slice (some ⟨wk.heap.size,0,none⟩) 1 1,by simp only[FL,f25] <;> kernel_rfl,hbn,⟨_,rfl,VL.cb1 (CB.new _ _ _) (QV.step N3.out hbn)⟩⟩
  ·intro f24 f26 f27;intros;refine wpOp_step (o:=?_) ?c7 ?_
   case c7=>exact rfl
   intro K hK;obtain⟨N,hN,hO⟩:=f24;rw[hN];have HO:=zz hO;clear hO;obtain⟨zq,hzq,hq⟩:=f26;rw[hzq];have Y7:=zz hq;clear hq;go_simp;have P1_6_232:=tr P1_5_223 b_;(with_reducible refine(yes1 HO.out Y7.out plit_56 (by decide +kernel) (M.step (a0.out.trans (P1_6_232.out.mono a0.out.size)))).mono ?_)
   rintro e wc231 ⟨N5,rfl⟩;refine hK _ _ ⟨.bool true,by simp only[FL,f27,hN,hzq] <;> kernel_rfl,N5,rfl⟩
 intro xs q8 hbf;simp only[SY];have B234:=zz hbf;have z234:=B234.out.size;have O5:=tr L5 B234;clear hbf;generalize xs 23=x23,xs 24=x24,xs 26=x26;rintro f23 f24 f26;clear f23;clear f24;clear f26
 refine ChunkS.run [sf 31 115 [] (fun fv fw=>∃ zb,fv=.slice (some ⟨zb,0,none⟩) 1 1∧CB fw zb 9 #[.string ⟨#[49,49,47,53]⟩]),sf 32 116 [31] (fun fv fw=>∃ N,fv=.func (.func 66) #[] #[.pointer (some ⟨N,0,none⟩)]∧IsC fw fw.heap.size N [⟨#[49,49,47,53]⟩]),se 33 117 [] (.slice (some ⟨g9,0,none⟩) 2 2),sf 34 118 [] (fun fv fw=>∃ zb,fv=.slice (some ⟨zb,0,none⟩) 2 2∧CB fw zb 9 #[.string ⟨#[51]⟩,.string ⟨#[52]⟩]),sf 35 119 [34] (fun fv fw=>∃ A c,fv=.slice A 2 c∧VL fw fw.heap.size (.slice A 2 c) [(mkRat 3 1),(mkRat 4 1)]),sf 36 120 [33,35] (fun fv fw=>∃ A c,fv=.tuple #[.slice A 1 c,.int .i64 0]∧VL fw fw.heap.size (.slice A 1 c) [(mkRat 11 5)]),sf 37 121 [36] (fun fv fw=>∃ A c,fv=.slice A 1 c∧VL fw fw.heap.size (.slice A 1 c) [(mkRat 11 5)]),se 38 122 [36] (.int .i64 0),se 39 123 [32,37,38] (.bool true),se 40 124 [39] (.bool true),se 41 125 [40] (.bool true)] 41 #[true,true,true,true,true,true,true,true,true,true,true,true,true,true,true,true,true,true,true,true,true,true,true,true,true,true,true,true,true,true,true,false,false,false,false,false,false,false,false,false,false,false,false,false,false,false,false,false,false,false,false,false,false,false,false,false,false] #[true,true,true,true,true,true,true,true,true,true,true,true,true,true,true,true,true,true,true,true,true,true,true,true,true,true,true,true,true,true,true,true,true,true,true,true,true,true,true,true,true,true,false,false,false,false,false,false,false,false,false,false,false,false,false,false,false] 15 S0 (MA (fun _ _ _ h hb=>let ⟨b,e,h⟩:=h;⟨b,e,h.step hb⟩) (MA (fun _ _ _ h hb=>let ⟨N,e,h⟩:=h;⟨N,e,IsC.step h hb⟩) (MA (fun _ _ _ h hb=>let ⟨b,e,h⟩:=h;⟨b,e,h.step hb⟩) (MA (fun _ _ _ h hb=>let ⟨A,c,e,h⟩:=h;⟨A,c,e,VL.step h hb⟩) (MA (fun _ _ _ h hb=>let ⟨A,c,e,h⟩:=h;⟨A,c,e,VL.step h hb⟩) (MA (fun _ _ _ h hb=>let ⟨A,c,e,h⟩:=h;⟨A,c,e,VL.step h hb⟩) trivial)))))) ?_ ?_
 ·intro xs a_ hA;simp only[SX] at hA
  iterate 11 (refine ac ?_ ?_;rotate_left)
  exact all_nil
  all_goals (intro wk hb;simp only[SX,↓reduceIte,Nat.reduceEqDiff,Nat.reduceAdd];have b_:=zz hb;have z_:=hb.size;clear hb;subst hA)
  any_goals (intros;refine wpOp_step rfl ?_;intro K hK;go_simp;refine hK _ _ ⟨_,?_,Below.refl _ _,rfl⟩;simp only[*,FL] <;> kernel_rfl)
  ·intros
   refine wpOp_step (o:=?_) ?d7 ?_
   case d7=>exact rfl
   intro K hK;go_simp;refine hK _ _ ⟨.slice (some ⟨wk.heap.size,0,none⟩) 1 1,by kernel_rfl,(Below.refl _ _).alloc (Nat.le_refl _) _,⟨_,rfl,CB.new _ _ _⟩⟩
  ·intro f31;intros;refine wpOp_step (o:=?_) ?e7 ?_
   case e7=>exact rfl
   intro K hK;obtain⟨zb31,hz31,hC31⟩:=f31;rw[hz31];have Z7:=zz hC31;clear hC31;go_simp;(with_reducible refine(lis_any _ _ _ _ [⟨#[49,49,47,53]⟩] (SS.cb1 Z7.out)).mono ?_)
   rintro e wc238 ⟨P5,N238,rfl,hN238⟩;refine hK _ _ ⟨.func (.func 66) #[] #[.pointer (some ⟨N238,0,none⟩)],by simp only[FL,hz31] <;> kernel_rfl,P5,⟨N238,rfl,hN238⟩⟩
  ·intros
   refine wpOp_step (o:=?_) ?g7 ?_
   case g7=>exact rfl
   intro K hK;go_simp;refine hK _ _ ⟨.slice (some ⟨wk.heap.size,0,none⟩) 2 2,by kernel_rfl,(Below.refl _ _).alloc (Nat.le_refl _) _,⟨_,rfl,CB.new _ _ _⟩⟩
  ·intro f34;intros;refine wpOp_step (o:=?_) ?h7 ?_
   case h7=>exact rfl
   intro K hK;obtain⟨zb34,hz34,hC34⟩:=f34;rw[hz34];have a8:=zz hC34;clear hC34;go_simp;have P1_6_242:=tr P1_5_223 B234;have P1_7_243:=tr P1_6_242 b_;(with_reducible refine(of2c a8.out plit_51 plit_52 (by decide +kernel) (by decide +kernel) (M.step (a0.out.trans (P1_7_243.out.mono a0.out.size)))).mono ?_)
   rintro e wc241 ⟨Q5,A241,c241,rfl,h241⟩;refine hK _ _ ⟨.slice A241 2 c241,by simp only[FL,hz34] <;> kernel_rfl,Q5,⟨A241,c241,rfl,h241⟩⟩
  ·intro f33 f35;intros;refine wpOp_step (o:=?_) ?i7 ?_
   case i7=>exact rfl
   intro K hK;obtain⟨A35,c35,hs35,hV35⟩:=f35;rw[hs35];have b8:=zz hV35;clear hV35;go_simp;have P1_6_246:=tr P1_5_223 B234;have P1_7_247:=tr P1_6_246 b_;have O3:=zz (VM.step l0.out P1_7_247.out);(with_reducible refine(LLeast_any _ _ _ _ _ _ _ _ _ O3.out.rat b8.out.rat).mono ?_)
   rintro e wc245 ⟨R5,hr⟩;obtain⟨A245,c245,rfl,h245⟩:=ret_list (n:=1) hr wk5 rfl;refine hK _ _ ⟨.tuple #[.slice A245 1 c245,.int .i64 0],by simp only[FL,f33,hs35] <;> kernel_rfl,R5,⟨_,_,rfl,h245⟩⟩
  ·intro f36;intros;refine wpOp_step (o:=?_) ?j7 ?_
   case j7=>exact rfl
   intro K hK;obtain⟨A,c,hu,hl⟩:=f36;rw[hu];go_simp;refine hK _ _ ⟨.slice A 1 c,by simp only[FL,hu] <;> kernel_rfl,Below.refl _ _,⟨A,c,rfl,hl⟩⟩
  ·intro f36;intros;refine wpOp_step (o:=?_) ?k7 ?_
   case k7=>exact rfl
   intro K hK;obtain⟨A,c,hu,hl⟩:=f36;rw[hu];go_simp;refine hK _ _ ⟨.int .i64 0,by simp only[FL,hu] <;> kernel_rfl,Below.refl _ _,rfl⟩
  ·intro f32 f37 f38;intros;refine wpOp_step (o:=?_) ?l7 ?_
   case l7=>exact rfl
   intro K hK;obtain⟨N,hN,hO⟩:=f32;rw[hN];have HO:=zz hO;clear hO;obtain⟨A37,c37,hs37,hV37⟩:=f37;rw[hs37];have c8:=zz hV37;clear hV37;go_simp;have P1_6_253:=tr P1_5_223 B234;have P1_7_254:=tr P1_6_253 b_;(with_reducible refine(yes1 HO.out c8.out plit_49_49_47_53 (by decide +kernel) (M.step (a0.out.trans (P1_7_254.out.mono a0.out.size)))).mono ?_)
   rintro e wc252 ⟨S5,rfl⟩;refine hK _ _ ⟨.bool true,by simp only[FL,f38,hN,hs37] <;> kernel_rfl,S5,rfl⟩
 intro xs r8 hbf;simp only[SY];have B256:=zz hbf;have z256:=B256.out.size;have T5:=tr O5 B256;clear hbf;generalize xs 31=x31,xs 32=x32,xs 34=x34,xs 35=x35,xs 36=x36,xs 37=x37;rintro f31 f32 f34 f35 f36 f37;clear f31;clear f32;clear f34;clear f35;clear f36;clear f37
 refine ChunkS.run [sf 42 126 [] (fun fv fw=>∃ N,fv=.func (.func 68) #[] #[.pointer (some ⟨N,0,none⟩)]∧One fw N 37 (.int .i64 7)),sf 43 127 [] (fun fv fw=>∃ zb,fv=.slice (some ⟨zb,0,none⟩) 2 2∧CB fw zb 9 #[.string ⟨#[49]⟩,.string ⟨#[49]⟩]),sf 44 128 [43] (fun fv fw=>∃ A c,fv=.slice A 2 c∧VL fw fw.heap.size (.slice A 2 c) [(mkRat 1 1),(mkRat 1 1)]),sf 45 129 [] (fun fv fw=>∃ zb,fv=.slice (some ⟨zb,0,none⟩) 2 2∧CB fw zb 9 #[.string ⟨#[50]⟩,.string ⟨#[50]⟩]),sf 46 130 [45] (fun fv fw=>∃ A c,fv=.slice A 2 c∧VL fw fw.heap.size (.slice A 2 c) [(mkRat 2 1),(mkRat 2 1)]),sf 47 131 [44,46] (fun fv fw=>∃ b,fv=.slice (some ⟨b,0,none⟩) 2 2∧VM fw fw.heap.size (.slice (some ⟨b,0,none⟩) 2 2) [[(mkRat 1 1),(mkRat 1 1)],[(mkRat 2 1),(mkRat 2 1)]]),sf 48 132 [47] (fun fv fw=>∃ b,fv=.slice (some ⟨b,0,none⟩) 2 2∧VM fw fw.heap.size (.slice (some ⟨b,0,none⟩) 2 2) [[(mkRat 1 1),(mkRat 1 1)],[(mkRat 2 1),(mkRat 2 1)]]),sf 49 133 [] (fun fv fw=>∃ zb,fv=.slice (some ⟨zb,0,none⟩) 2 2∧CB fw zb 9 #[.string ⟨#[49]⟩,.string ⟨#[49]⟩]),sf 50 134 [49] (fun fv fw=>∃ A c,fv=.slice A 2 c∧VL fw fw.heap.size (.slice A 2 c) [(mkRat 1 1),(mkRat 1 1)]),se 51 135 [48,50] (.tuple #[.slice none 0 0,.int .i64 7]),se 52 136 [51] (.slice none 0 0),se 53 137 [51] (.int .i64 7),se 54 138 [42,52,53] (.bool true),se 55 139 [54] (.bool true)] 55 #[true,true,true,true,true,true,true,true,true,true,true,true,true,true,true,true,true,true,true,true,true,true,true,true,true,true,true,true,true,true,true,true,true,true,true,true,true,true,true,true,true,true,false,false,false,false,false,false,false,false,false,false,false,false,false,false,false] #[true,true,true,true,true,true,true,true,true,true,true,true,true,true,true,true,true,true,true,true,true,true,true,true,true,true,true,true,true,true,true,true,true,true,true,true,true,true,true,true,true,true,true,true,true,true,true,true,true,true,true,true,true,true,true,true,false] 1 S0 (MA (fun _ _ _ h hb=>let ⟨N,e,h⟩:=h;⟨N,e,One.step h hb⟩) (MA (fun _ _ _ h hb=>let ⟨b,e,h⟩:=h;⟨b,e,h.step hb⟩) (MA (fun _ _ _ h hb=>let ⟨A,c,e,h⟩:=h;⟨A,c,e,VL.step h hb⟩) (MA (fun _ _ _ h hb=>let ⟨b,e,h⟩:=h;⟨b,e,h.step hb⟩) (MA (fun _ _ _ h hb=>let ⟨A,c,e,h⟩:=h;⟨A,c,e,VL.step h hb⟩) (MA (fun _ _ _ h hb=>let ⟨b,e,h⟩:=h;⟨b,e,VM.step h hb⟩) (MA (fun _ _ _ h hb=>let ⟨b,e,h⟩:=h;⟨b,e,VM.step h hb⟩) (MA (fun _ _ _ h hb=>let ⟨b,e,h⟩:=h;⟨b,e,h.step hb⟩) (MA (fun _ _ _ h hb=>let ⟨A,c,e,h⟩:=h;⟨A,c,e,VL.step h hb⟩) trivial))))))))) ?_ ?_
 ·intro xs a_ hA;simp only[SX] at hA
  iterate 14 (refine ac ?_ ?_;rotate_left)
  exact all_nil
  all_goals (intro wk hb;simp only[SX,↓reduceIte,Nat.reduceEqDiff,Nat.reduceAdd];have b_:=zz hb;have z_:=hb.size;clear hb;subst hA)
  any_goals (intros;refine wpOp_step rfl ?_;intro K hK;go_simp;refine hK _ _ ⟨_,?_,Below.refl _ _,rfl⟩;simp only[*,FL] <;> kernel_rfl)
  ·intros
   refine wpOp_step (o:=?_) ?m7 ?_
   case m7=>exact rfl
   intro K hK;go_simp;(with_reducible refine(lfails_any _ 7).mono ?_)
   rintro e wc259 ⟨U5,N259,rfl,hN259⟩;refine hK _ _ ⟨.func (.func 68) #[] #[.pointer (some ⟨N259,0,none⟩)],by kernel_rfl,U5,⟨N259,rfl,hN259⟩⟩
  ·intros
   refine wpOp_step (o:=?_) ?n7 ?_
   case n7=>exact rfl
   intro K hK;go_simp;refine hK _ _ ⟨.slice (some ⟨wk.heap.size,0,none⟩) 2 2,by kernel_rfl,(Below.refl _ _).alloc (Nat.le_refl _) _,⟨_,rfl,CB.new _ _ _⟩⟩
  ·intro f43;intros;refine wpOp_step (o:=?_) ?o7 ?_
   case o7=>exact rfl
   intro K hK;obtain⟨zb43,hz43,hC43⟩:=f43;rw[hz43];have d8:=zz hC43;clear hC43;go_simp;have P1_6_263:=tr P1_5_223 B234;have P1_7_264:=tr P1_6_263 B256;have P1_8_265:=tr P1_7_264 b_;(with_reducible refine(of2c d8.out plit_49 plit_49 (by decide +kernel) (by decide +kernel) (M.step (a0.out.trans (P1_8_265.out.mono a0.out.size)))).mono ?_)
   rintro e wc262 ⟨V5,A262,c262,rfl,h262⟩;refine hK _ _ ⟨.slice A262 2 c262,by simp only[FL,hz43] <;> kernel_rfl,V5,⟨A262,c262,rfl,h262⟩⟩
  ·intros
   refine wpOp_step (o:=?_) ?p7 ?_
   case p7=>exact rfl
   intro K hK;go_simp;refine hK _ _ ⟨.slice (some ⟨wk.heap.size,0,none⟩) 2 2,by kernel_rfl,(Below.refl _ _).alloc (Nat.le_refl _) _,⟨_,rfl,CB.new _ _ _⟩⟩
  ·intro f45;intros;refine wpOp_step (o:=?_) ?q7 ?_
   case q7=>exact rfl
   intro K hK;obtain⟨zb45,hz45,hC45⟩:=f45;rw[hz45];have e8:=zz hC45;clear hC45;go_simp;have P1_6_269:=tr P1_5_223 B234;have P1_7_270:=tr P1_6_269 B256;have P1_8_271:=tr P1_7_270 b_;(with_reducible refine(of2c e8.out plit_50 plit_50 (by decide +kernel) (by decide +kernel) (M.step (a0.out.trans (P1_8_271.out.mono a0.out.size)))).mono ?_)
   rintro e wc268 ⟨W5,A268,c268,rfl,h268⟩;refine hK _ _ ⟨.slice A268 2 c268,by simp only[FL,hz45] <;> kernel_rfl,W5,⟨A268,c268,rfl,h268⟩⟩
  ·intro f44 f46;intros;refine wpOp_step (o:=?_) ?r7 ?_
   case r7=>exact rfl
   intro K hK;obtain⟨A44,c44,hs44,hV44⟩:=f44;rw[hs44];have g8:=zz hV44;clear hV44;obtain⟨A46,c46,hs46,hV46⟩:=f46;rw[hs46];have h8:=zz hV46;clear hV46;go_simp;have hbn:Below wk.heap.size wk (wk.alloc (.cells #[.slice A44 2 c44,.slice A46 2 c46] 28)):=below_alloc1 (Below.refl _ _) _;refine hK _ _ ⟨.slice (some ⟨wk.heap.size,0,none⟩) 2 2,by simp only[FL,hs44,hs46] <;> kernel_rfl,hbn,⟨_,rfl,VM.cb2 (CB.new _ _ _) (g8.out.step hbn) (h8.out.step hbn)⟩⟩
  ·intro f47;intros;refine wpOp_step (o:=?_) ?s7 ?_
   case s7=>exact rfl
   intro K hK;obtain⟨zb47,hz47,hM47⟩:=f47;rw[hz47];have i8:=zz hM47;clear hM47;go_simp;(with_reducible refine(lrows_any _ _ rfl).mono ?_)
   rintro e wc274 ⟨P0,rfl⟩;refine hK _ _ ⟨.slice (some ⟨zb47,0,none⟩) 2 2,by simp only[FL,hz47] <;> kernel_rfl,P0,⟨_,rfl,VM.step i8.out P0⟩⟩
  ·intros
   refine wpOp_step (o:=?_) ?t7 ?_
   case t7=>exact rfl
   intro K hK;go_simp;refine hK _ _ ⟨.slice (some ⟨wk.heap.size,0,none⟩) 2 2,by kernel_rfl,(Below.refl _ _).alloc (Nat.le_refl _) _,⟨_,rfl,CB.new _ _ _⟩⟩
  ·intro f49;intros;refine wpOp_step (o:=?_) ?u7 ?_
   case u7=>exact rfl
   intro K hK;obtain⟨zb49,hz49,hC49⟩:=f49;rw[hz49];have j8:=zz hC49;clear hC49;go_simp;have P1_6_278:=tr P1_5_223 B234;have P1_7_279:=tr P1_6_278 B256;have P1_8_280:=tr P1_7_279 b_;(with_reducible refine(of2c j8.out plit_49 plit_49 (by decide +kernel) (by decide +kernel) (M.step (a0.out.trans (P1_8_280.out.mono a0.out.size)))).mono ?_)
   rintro e wc277 ⟨X5,A277,c277,rfl,h277⟩;refine hK _ _ ⟨.slice A277 2 c277,by simp only[FL,hz49] <;> kernel_rfl,X5,⟨A277,c277,rfl,h277⟩⟩
  ·intro f48 f50;intros;refine wpOp_step (o:=?_) ?v7 ?_
   case v7=>exact rfl
   intro K hK;obtain⟨zb48,hz48,hM48⟩:=f48;rw[hz48];have k8:=zz hM48;clear hM48;obtain⟨A50,c50,hs50,hV50⟩:=f50;rw[hs50];have l8:=zz hV50;clear hV50;go_simp;(with_reducible refine(LLeast_any _ _ _ _ _ _ _ _ _ k8.out.rat l8.out.rat).mono ?_)
   rintro e wc282 ⟨Y5,hr⟩;obtain rfl:=ret_err hr wk6;refine hK _ _ ⟨.tuple #[.slice none 0 0,.int .i64 7],by simp only[FL,hz48,hs50] <;> kernel_rfl,Y5,rfl⟩
  ·intro f42 f52 f53;intros;refine wpOp_step (o:=?_) ?w7 ?_
   case w7=>exact rfl
   intro K hK;obtain⟨N,hN,hO⟩:=f42;rw[hN];have HO:=zz hO;clear hO;go_simp;(with_reducible refine(lfails_yes HO.out).mono ?_)
   rintro e wc284 ⟨Z5,rfl⟩;refine hK _ _ ⟨.bool true,by simp only[FL,f52,f53,hN] <;> kernel_rfl,Z5,rfl⟩
 intro xs s8 hbf;simp only[SY];have B286:=zz hbf;have z286:=B286.out.size;have a6:=tr T5 B286;clear hbf;generalize xs 42=x42,xs 43=x43,xs 44=x44,xs 45=x45,xs 46=x46,xs 47=x47,xs 48=x48,xs 49=x49,xs 50=x50;rintro f42 f43 f44 f45 f46 f47 f48 f49 f50;clear f42;clear f43;clear f44;clear f45;clear f46;clear f47;clear f48;clear f49;clear f50;refine EN 56 rfl fun K hK=>?_
 go_simp;refine hK _ _ ?_;clear hK K;(try simp only[PT])
 refine ED ?_;(try simp only[Exit.then])
 have P1_6_288:=tr P1_5_223 B234;have P1_7_289:=tr P1_6_288 B256;have P1_8_290:=tr P1_7_289 B286;have P3:=zz (VM.step l0.out P1_8_290.out);go_wp2_with fail
 refine(is1 _).mono ?_;rintro e w293 ⟨Q0,N292,rfl,hN292⟩;have B294:=zz Q0;have z294:=B294.out.size;have R0:=tr a6 B294;clear Q0;have O7:=zz hN292;clear hN292;go_wp2_with fail
 refine(of2 _ plit_51 plit_52 (by decide +kernel) (by decide +kernel) (M.step R0.out)).mono ?_;rintro e w297 ⟨T0,A296,c296,rfl,h296⟩;have B298:=zz T0;have z298:=B298.out.size;have U0:=tr R0 B298;clear T0;have Q3:=zz h296;clear h296;go_wp2_with fail
 refine(of1 _ plit_49 (by decide +kernel) (M.step U0.out)).mono ?_;rintro e w301 ⟨V0,A300,c300,rfl,h300⟩;have B302:=zz V0;have z302:=B302.out.size;have W0:=tr U0 B302;clear V0;have R3:=zz h300;clear h300;go_wp2_with fail
 refine(of1 _ plit_53 (by decide +kernel) (M.step W0.out)).mono ?_;rintro e w305 ⟨X0,A304,c304,rfl,h304⟩;have B306:=zz X0;have z306:=B306.out.size;have b6:=tr W0 B306;clear X0;have S3:=zz h304;clear h304;obtain⟨g308,off308,x308A,x308l,x308c,x308B,x308u,x308d,rfl,hE308,hx308⟩:=VL.elem0 S3.out;have P7:=zz hx308;clear hx308;have P1_3_310:=tr B294 B298;have P1_4_311:=tr P1_3_310 B302;have P1_5_312:=tr P1_4_311 B306;have m0:=zz (VM.step P3.out P1_5_312.out);have P3_5_314:=tr B302 B306;have T3:=zz (VL.step Q3.out P3_5_314.out);have U3:=zz (VL.step R3.out B306.out);have V3:=hE308.c0;have W3:=hE308.c1;have X3:=hE308.c2;have Y3:=hE308.c3;have J7:=hE308.lt;go_wp2_with fail
 refine(LDamped_any _ _ _ _ _ _ _ _ _ _ _ _ _ _ _ _ _ _ _ _ _ _ _ m0.out.rat T3.out.rat U3.out.rat P7.out).mono ?_;rintro e w317 ⟨Y0,hr⟩;have B319:=zz Y0;have z319:=B319.out.size;have Z0:=tr b6 B319;clear Y0;clear V3 W3 X3 Y3 J7;obtain⟨A309,c309,rfl,h309⟩:=ret_list (n:=1) hr wk7 rfl;have Z3:=zz h309;clear h309 hr;go_wp2_with fail
 have P2_4_322:=tr B298 B302;have P2_5_323:=tr P2_4_322 B306;have P2_6_324:=tr P2_5_323 B319;have a4:=zz (IsC.step O7.out P2_6_324.out);refine(yes1 a4.out Z3.out plit_49_49_47_49_48 (by decide +kernel) (M.step Z0.out)).mono ?_;rintro e w321 ⟨a1,rfl⟩;have B326:=zz a1;have z326:=B326.out.size;have c6:=tr Z0 B326;clear a1;have P5_7_328:=tr B319 B326;have b4:=zz (VM.step m0.out P5_7_328.out);go_wp2_with fail
 refine(is2 _).mono ?_;rintro e w331 ⟨b1,N330,rfl,hN330⟩;have B332:=zz b1;have z332:=B332.out.size;have d1:=tr c6 B332;clear b1;have Q7:=zz hN330;clear hN330;go_wp2_with fail
 refine(of2 _ plit_49 plit_49 (by decide +kernel) (by decide +kernel) (M.step d1.out)).mono ?_;rintro e w335 ⟨e1,A334,c334,rfl,h334⟩;have B336:=zz e1;have z336:=B336.out.size;have d6:=tr d1 B336;clear e1;have D2:=zz h334;clear h334;go_wp2_with fail
 refine(rows1 _ D2.out).mono ?_;rintro e w339 ⟨f1,g338,rfl,h338⟩;have B340:=zz f1;have z340:=B340.out.size;have g1:=tr d6 B340;clear f1;have c4:=zz h338;clear h338;go_wp2_with fail
 refine(of1 _ plit_49 (by decide +kernel) (M.step g1.out)).mono ?_;rintro e w343 ⟨i1,A342,c342,rfl,h342⟩;have B344:=zz i1;have z344:=B344.out.size;have j1:=tr g1 B344;clear i1;have d4:=zz h342;clear h342;go_wp2_with fail
 refine(of2 _ plit_49 plit_49 (by decide +kernel) (by decide +kernel) (M.step j1.out)).mono ?_;rintro e w347 ⟨k1,A346,c346,rfl,h346⟩;have B348:=zz k1;have z348:=B348.out.size;have l1:=tr j1 B348;clear k1;have e4:=zz h346;clear h346;go_wp2_with fail
 refine(of1 _ plit_49_47_50 (by decide +kernel) (M.step l1.out)).mono ?_;rintro e w351 ⟨m1,A350,c350,rfl,h350⟩;have B352:=zz m1;have z352:=B352.out.size;have e6:=tr l1 B352;clear m1;have f4:=zz h350;clear h350;obtain⟨g354,off354,x354A,x354l,x354c,x354B,x354u,x354d,rfl,hE354,hx354⟩:=VL.elem0 f4.out;have R7:=zz hx354;clear hx354;have P4_6_356:=tr B344 B348;have P4_7_357:=tr P4_6_356 B352;have g4:=zz (VM.step c4.out P4_7_357.out);have P5_7_359:=tr B348 B352;have h4:=zz (VL.step d4.out P5_7_359.out);have i4:=zz (VL.step e4.out B352.out);have j4:=hE354.c0;have k4:=hE354.c1;have l4:=hE354.c2;have m4:=hE354.c3;have K7:=hE354.lt;go_wp2_with fail
 refine(LDamped_any _ _ _ _ _ _ _ _ _ _ _ _ _ _ _ _ _ _ _ _ _ _ _ g4.out.rat h4.out.rat i4.out.rat R7.out).mono ?_;rintro e w362 ⟨n1,hr⟩;have B364:=zz n1;have z364:=B364.out.size;have o1:=tr e6 B364;clear n1;clear j4 k4 l4 m4 K7;obtain⟨A355,c355,rfl,h355⟩:=ret_list (n:=2) hr wk8 rfl;have n4:=zz h355;clear h355 hr;go_wp2_with fail
 have P2_4_367:=tr B336 B340;have P2_5_368:=tr P2_4_367 B344;have P2_6_369:=tr P2_5_368 B348;have P2_7_370:=tr P2_6_369 B352;have P2_8_371:=tr P2_7_370 B364;have o4:=zz (IsC.step Q7.out P2_8_371.out);refine(yes2 o4.out n4.out plit_50_47_53 plit_50_47_53 (by decide +kernel) (by decide +kernel) (M.step o1.out)).mono ?_;rintro e w366 ⟨p1,rfl⟩;have B373:=zz p1;have z373:=B373.out.size;have f6:=tr o1 B373;clear p1;have P1_3_375:=tr B332 B336;have P1_4_376:=tr P1_3_375 B340;have P1_5_377:=tr P1_4_376 B344;have P1_6_378:=tr P1_5_377 B348;have P1_7_379:=tr P1_6_378 B352;have P1_8_380:=tr P1_7_379 B364;have P1_9_381:=tr P1_8_380 B373;have p4:=zz (VM.step b4.out P1_9_381.out);go_wp2_with fail
 refine(lfails_any _ 2).mono ?_;rintro e w384 ⟨q1,N383,rfl,hN383⟩;have B385:=zz q1;have z385:=B385.out.size;have r1:=tr f6 B385;clear q1;go_wp2_with fail
 refine(of1 _ plit_49 (by decide +kernel) (M.step r1.out)).mono ?_;rintro e w388 ⟨s1,A387,c387,rfl,h387⟩;have B389:=zz s1;have z389:=B389.out.size;have g6:=tr r1 B389;clear s1;have E2:=zz h387;clear h387;go_wp2_with fail
 refine(rows1 _ E2.out).mono ?_;rintro e w392 ⟨t1,g391,rfl,h391⟩;have B393:=zz t1;have z393:=B393.out.size;have u1:=tr g6 B393;clear t1;have q4:=zz h391;clear h391;go_wp2_with fail
 refine(of1 _ plit_49 (by decide +kernel) (M.step u1.out)).mono ?_;rintro e w396 ⟨v1,A395,c395,rfl,h395⟩;have B397:=zz v1;have z397:=B397.out.size;have w1:=tr u1 B397;clear v1;have r4:=zz h395;clear h395;go_wp2_with fail
 refine(of1 _ plit_49 (by decide +kernel) (M.step w1.out)).mono ?_;rintro e w400 ⟨x1,A399,c399,rfl,h399⟩;have B401:=zz x1;have z401:=B401.out.size;have y1:=tr w1 B401;clear x1;have s4:=zz h399;clear h399;go_wp2_with fail
 refine(of1 _ plit_45_49 (by decide +kernel) (M.step y1.out)).mono ?_;rintro e w404 ⟨z1,A403,c403,rfl,h403⟩;have B405:=zz z1;have z405:=B405.out.size;have h6:=tr y1 B405;clear z1;have t4:=zz h403;clear h403;obtain⟨g407,off407,x407A,x407l,x407c,x407B,x407u,x407d,rfl,hE407,hx407⟩:=VL.elem0 t4.out;have S7:=zz hx407;clear hx407;have P4_6_409:=tr B397 B401;have P4_7_410:=tr P4_6_409 B405;have u4:=zz (VM.step q4.out P4_7_410.out);have P5_7_412:=tr B401 B405;have v4:=zz (VL.step r4.out P5_7_412.out);have w4:=zz (VL.step s4.out B405.out);have x4:=hE407.c0;have y4:=hE407.c1;have z4:=hE407.c2;have A4:=hE407.c3;have L7:=hE407.lt;go_wp2_with fail
 refine(LDamped_any _ _ _ _ _ _ _ _ _ _ _ _ _ _ _ _ _ _ _ _ _ _ _ u4.out.rat v4.out.rat w4.out.rat S7.out).mono ?_;rintro e w415 ⟨B1,hr⟩;have B417:=zz B1;have z417:=B417.out.size;have i6:=tr h6 B417;clear B1;clear x4 y4 z4 A4 L7;obtain rfl:=ret_err hr wk9;clear hr;go_wp2_with fail
 have P2_4_421:=tr B389 B393;have P2_5_422:=tr P2_4_421 B397;have P2_6_423:=tr P2_5_422 B401;have P2_7_424:=tr P2_6_423 B405;have P2_8_425:=tr P2_7_424 B417;have B4:=One.step hN383 P2_8_425.out;refine(lfails_yes B4).mono ?_;rintro e w419 ⟨C1,rfl⟩;have B426:=zz C1;have z426:=B426.out.size;have j6:=tr i6 B426;clear C1;have P1_3_428:=tr B385 B389;have P1_4_429:=tr P1_3_428 B393;have P1_5_430:=tr P1_4_429 B397;have P1_6_431:=tr P1_5_430 B401;have P1_7_432:=tr P1_6_431 B405;have P1_8_433:=tr P1_7_432 B417;have P1_9_434:=tr P1_8_433 B426;have C4:=zz (VM.step p4.out P1_9_434.out);go_wp2_with fail
 refine(is2 _).mono ?_;rintro e w437 ⟨D1,N436,rfl,hN436⟩;have B438:=zz D1;have z438:=B438.out.size;have E1:=tr j6 B438;clear D1;have T7:=zz hN436;clear hN436;go_wp2_with fail
 refine(of2 _ plit_49 plit_48 (by decide +kernel) (by decide +kernel) (M.step E1.out)).mono ?_;rintro e w441 ⟨F1,A440,c440,rfl,h440⟩;have B442:=zz F1;have z442:=B442.out.size;have G1:=tr E1 B442;clear F1;have F2:=zz h440;clear h440;go_wp2_with fail
 refine(of2 _ plit_48 plit_49 (by decide +kernel) (by decide +kernel) (M.step G1.out)).mono ?_;rintro e w445 ⟨H1,A444,c444,rfl,h444⟩;have B446:=zz H1;have z446:=B446.out.size;have k6:=tr G1 B446;clear H1;have G2:=zz h444;clear h444;go_wp2_with fail
 have H2:=zz (VL.step F2.out B446.out);refine(rows2 _ H2.out G2.out).mono ?_;rintro e w449 ⟨I1,g448,rfl,h448⟩;have B451:=zz I1;have z451:=B451.out.size;have J1:=tr k6 B451;clear I1;have D4:=zz h448;clear h448;go_wp2_with fail
 refine(of2 _ plit_51 plit_52 (by decide +kernel) (by decide +kernel) (M.step J1.out)).mono ?_;rintro e w454 ⟨K1,A453,c453,rfl,h453⟩;have B455:=zz K1;have z455:=B455.out.size;have L1:=tr J1 B455;clear K1;have E4:=zz h453;clear h453;go_wp2_with fail
 refine(of2 _ plit_49 plit_49 (by decide +kernel) (by decide +kernel) (M.step L1.out)).mono ?_;rintro e w458 ⟨M1,A457,c457,rfl,h457⟩;have B459:=zz M1;have z459:=B459.out.size;have l6:=tr L1 B459;clear M1;have I2:=zz h457;clear h457;go_wp2_with fail
 refine(rows1 _ I2.out).mono ?_;rintro e w462 ⟨N1,g461,rfl,h461⟩;have B463:=zz N1;have z463:=B463.out.size;have O1:=tr l6 B463;clear N1;have F4:=zz h461;clear h461;go_wp2_with fail
 refine(of1 _ plit_49 (by decide +kernel) (M.step O1.out)).mono ?_;rintro e w466 ⟨P1,A465,c465,rfl,h465⟩;have B467:=zz P1;have z467:=B467.out.size;have m6:=tr O1 B467;clear P1;have G4:=zz h465;clear h465;have P5_7_470:=tr B455 B459;have P5_8_471:=tr P5_7_470 B463;have P5_9_472:=tr P5_8_471 B467;have H4:=zz (VM.step D4.out P5_9_472.out);have P6_8_474:=tr B459 B463;have P6_9_475:=tr P6_8_474 B467;have I4:=zz (VL.step E4.out P6_9_475.out);have J4:=zz (VM.step F4.out B467.out);go_wp2_with fail
 refine(LBound_any _ _ _ _ _ _ _ _ _ _ _ _ _ _ _ _ _ H4.out.rat I4.out.rat J4.out.rat G4.out.rat).mono ?_;rintro e w478 ⟨Q1,hr⟩;have B479:=zz Q1;have z479:=B479.out.size;have R1:=tr m6 B479;clear Q1;obtain⟨A469,c469,rfl,h469⟩:=ret_list (n:=2) hr wk10 rfl;have K4:=zz h469;clear h469 hr;go_wp2_with fail
 have P2_4_482:=tr B442 B446;have P2_5_483:=tr P2_4_482 B451;have P2_6_484:=tr P2_5_483 B455;have P2_7_485:=tr P2_6_484 B459;have P2_8_486:=tr P2_7_485 B463;have P2_9_487:=tr P2_8_486 B467;have P2_10_488:=tr P2_9_487 B479;have L4:=zz (IsC.step T7.out P2_10_488.out);refine(yes2 L4.out K4.out plit_48 plit_49 (by decide +kernel) (by decide +kernel) (M.step R1.out)).mono ?_;rintro e w481 ⟨S1,rfl⟩;have B490:=zz S1;have z490:=B490.out.size;have T1:=tr R1 B490;clear S1;have P1_3_492:=tr B438 B442;have P1_4_493:=tr P1_3_492 B446;have P1_5_494:=tr P1_4_493 B451;have P1_6_495:=tr P1_5_494 B455;have P1_7_496:=tr P1_6_495 B459;have P1_8_497:=tr P1_7_496 B463;have P1_9_498:=tr P1_8_497 B467;have P1_10_499:=tr P1_9_498 B479;have P1_11_500:=tr P1_10_499 B490;have y7:=zz (VM.step C4.out P1_11_500.out);go_wp2_with fail
 refine(of2 _ plit_49 plit_48 (by decide +kernel) (by decide +kernel) (M.step T1.out)).mono ?_;rintro e w503 ⟨U1,A502,c502,rfl,h502⟩;have B504:=zz U1;have z504:=B504.out.size;have n6:=tr T1 B504;clear U1;have M4:=zz h502;clear h502;go_wp2_with fail
 refine(rows1 _ M4.out).mono ?_;rintro e w507 ⟨V1,g506,rfl,h506⟩;have B508:=zz V1;have z508:=B508.out.size;have W1:=tr n6 B508;clear V1;have n0:=zz h506;clear h506;go_wp2_with fail
 refine(of2 _ plit_48 plit_49 (by decide +kernel) (by decide +kernel) (M.step W1.out)).mono ?_;rintro e w511 ⟨X1,A510,c510,rfl,h510⟩;have B512:=zz X1;have z512:=B512.out.size;have Y1:=tr W1 B512;clear X1;have N4:=zz h510;clear h510;go_wp2_with fail
 refine(of2 _ plit_48 plit_50 (by decide +kernel) (by decide +kernel) (M.step Y1.out)).mono ?_;rintro e w515 ⟨Z1,A514,c514,rfl,h514⟩;have B516:=zz Z1;have z516:=B516.out.size;have o6:=tr Y1 B516;clear Z1;have O4:=zz h514;clear h514;go_wp2_with fail
 have P4:=zz (VL.step N4.out B516.out);refine(rows2 _ P4.out O4.out).mono ?_;rintro e w519 ⟨a2,g518,rfl,h518⟩;have B521:=zz a2;have z521:=B521.out.size;have p6:=tr o6 B521;clear a2;have s0:=zz h518;clear h518;have P3_5_523:=tr B512 B516;have P3_6_524:=tr P3_5_523 B521;have o0:=zz (VM.step n0.out P3_6_524.out);go_wp2_with fail
 refine(is2 _).mono ?_;rintro e w527 ⟨b2,N526,rfl,hN526⟩;have B528:=zz b2;have z528:=B528.out.size;have d2:=tr p6 B528;clear b2;have U7:=zz hN526;clear hN526;go_wp2_with fail
 refine(of1 _ plit_49 (by decide +kernel) (M.step d2.out)).mono ?_;rintro e w531 ⟨e2,A530,c530,rfl,h530⟩;have B532:=zz e2;have z532:=B532.out.size;have f2:=tr d2 B532;clear e2;have Q4:=zz h530;clear h530;go_wp2_with fail
 refine(of2 _ plit_49 plit_50 (by decide +kernel) (by decide +kernel) (M.step f2.out)).mono ?_;rintro e w535 ⟨g2,A534,c534,rfl,h534⟩;have B536:=zz g2;have z536:=B536.out.size;have q6:=tr f2 B536;clear g2;have R4:=zz h534;clear h534;have P1_3_539:=tr B528 B532;have P1_4_540:=tr P1_3_539 B536;have e0:=zz (VM.step o0.out P1_4_540.out);have S4:=zz (VL.step Q4.out B536.out);have h0:=zz (VM.step s0.out P1_4_540.out);go_wp2_with fail
 refine(LBound_any _ _ _ _ _ _ _ _ _ _ _ _ _ _ _ _ _ e0.out.rat S4.out.rat h0.out.rat R4.out.rat).mono ?_;rintro e w544 ⟨h2,hr⟩;have B545:=zz h2;have z545:=B545.out.size;have i2:=tr q6 B545;clear h2;obtain⟨A538,c538,rfl,h538⟩:=ret_list (n:=2) hr wk11 rfl;have T4:=zz h538;clear h538 hr;go_wp2_with fail
 have P2_4_548:=tr B532 B536;have P2_5_549:=tr P2_4_548 B545;have U4:=zz (IsC.step U7.out P2_5_549.out);refine(yes2 U4.out T4.out plit_49 plit_49 (by decide +kernel) (by decide +kernel) (M.step i2.out)).mono ?_;rintro e w547 ⟨j2,rfl⟩;have B551:=zz j2;have z551:=B551.out.size;have r6:=tr i2 B551;clear j2;have P4_6_553:=tr B545 B551;have p0:=zz (VM.step e0.out P4_6_553.out);have t0:=zz (VM.step h0.out P4_6_553.out);go_wp2_with fail
 refine(lfails_any _ 4).mono ?_;rintro e w557 ⟨k2,N556,rfl,hN556⟩;have B558:=zz k2;have z558:=B558.out.size;have l2:=tr r6 B558;clear k2;go_wp2_with fail
 refine(of1 _ plit_49 (by decide +kernel) (M.step l2.out)).mono ?_;rintro e w561 ⟨m2,A560,c560,rfl,h560⟩;have B562:=zz m2;have z562:=B562.out.size;have n2:=tr l2 B562;clear m2;have V4:=zz h560;clear h560;go_wp2_with fail
 refine(of2 _ plit_49 plit_51 (by decide +kernel) (by decide +kernel) (M.step n2.out)).mono ?_;rintro e w565 ⟨o2,A564,c564,rfl,h564⟩;have B566:=zz o2;have z566:=B566.out.size;have s6:=tr n2 B566;clear o2;have W4:=zz h564;clear h564;have P1_3_569:=tr B558 B562;have P1_4_570:=tr P1_3_569 B566;have f0:=zz (VM.step p0.out P1_4_570.out);have X4:=zz (VL.step V4.out B566.out);have i0:=zz (VM.step t0.out P1_4_570.out);go_wp2_with fail
 refine(LBound_any _ _ _ _ _ _ _ _ _ _ _ _ _ _ _ _ _ f0.out.rat X4.out.rat i0.out.rat W4.out.rat).mono ?_;rintro e w574 ⟨p2,hr⟩;have B575:=zz p2;have z575:=B575.out.size;have t6:=tr s6 B575;clear p2;obtain rfl:=ret_err hr wk12;clear hr;go_wp2_with fail
 have P2_4_579:=tr B562 B566;have P2_5_580:=tr P2_4_579 B575;have Y4:=One.step hN556 P2_5_580.out;refine(lfails_yes Y4).mono ?_;rintro e w577 ⟨q2,rfl⟩;have B581:=zz q2;have z581:=B581.out.size;have u6:=tr t6 B581;clear q2;have P4_6_583:=tr B575 B581;have q0:=zz (VM.step f0.out P4_6_583.out);have u0:=zz (VM.step i0.out P4_6_583.out);go_wp2_with fail
 refine(lfails_any _ 7).mono ?_;rintro e w587 ⟨r2,N586,rfl,hN586⟩;have B588:=zz r2;have z588:=B588.out.size;have s2:=tr u6 B588;clear r2;go_wp2_with fail
 refine(of1 _ plit_49 (by decide +kernel) (M.step s2.out)).mono ?_;rintro e w591 ⟨t2,A590,c590,rfl,h590⟩;have B592:=zz t2;have z592:=B592.out.size;have u2:=tr s2 B592;clear t2;have Z4:=zz h590;clear h590;go_wp2_with fail
 refine(of2 _ plit_49 plit_48 (by decide +kernel) (by decide +kernel) (M.step u2.out)).mono ?_;rintro e w595 ⟨v2,A594,c594,rfl,h594⟩;have B596:=zz v2;have z596:=B596.out.size;have v6:=tr u2 B596;clear v2;have J2:=zz h594;clear h594;go_wp2_with fail
 refine(rows1 _ J2.out).mono ?_;rintro e w599 ⟨x2,g598,rfl,h598⟩;have B600:=zz x2;have z600:=B600.out.size;have y2:=tr v6 B600;clear x2;have a5:=zz h598;clear h598;go_wp2_with fail
 refine(of1 _ plit_49 (by decide +kernel) (M.step y2.out)).mono ?_;rintro e w603 ⟨z2,A602,c602,rfl,h602⟩;have B604:=zz z2;have z604:=B604.out.size;have x6:=tr y2 B604;clear z2;have b5:=zz h602;clear h602;have P1_3_607:=tr B588 B592;have P1_4_608:=tr P1_3_607 B596;have P1_5_609:=tr P1_4_608 B600;have P1_6_610:=tr P1_5_609 B604;have g0:=zz (VM.step q0.out P1_6_610.out);have P3_5_612:=tr B596 B600;have P3_6_613:=tr P3_5_612 B604;have d5:=zz (VL.step Z4.out P3_6_613.out);have e5:=zz (VM.step a5.out B604.out);go_wp2_with fail
 refine(LBound_any _ _ _ _ _ _ _ _ _ _ _ _ _ _ _ _ _ g0.out.rat d5.out.rat e5.out.rat b5.out.rat).mono ?_;rintro e w616 ⟨A2,hr⟩;have B617:=zz A2;have z617:=B617.out.size;have y6:=tr x6 B617;clear A2;obtain rfl:=ret_err hr wk13;clear hr;go_wp2_with fail
 have P2_4_621:=tr B592 B596;have P2_5_622:=tr P2_4_621 B600;have P2_6_623:=tr P2_5_622 B604;have P2_7_624:=tr P2_6_623 B617;have f5:=One.step hN586 P2_7_624.out;refine(lfails_yes f5).mono ?_;rintro e w619 ⟨B2,rfl⟩;have B625:=zz B2;have z625:=B625.out.size;have z6:=tr y6 B625;clear B2;have P6_8_627:=tr B617 B625;have E6:=zz (VM.step g0.out P6_8_627.out);have P1_7_629:=tr P1_6_610 B617;have P1_8_630:=tr P1_7_629 B625;have Q6:=zz (VM.step u0.out P1_8_630.out);go_wp2;go_ret;exact⟨z6.out,rfl⟩
end Go.Proofs.YtdigbofiebfkeaaGreatDoor
