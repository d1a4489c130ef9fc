/- Layer 35, the law package: works (written by gen_wc.py). -/
import Derived.Test.YtencnahjgbdeoaaGreatDoorWab
import Derived.Test.YtencnahjgbdeoaaGreatDoorLy
import Derived.Test.YtencnahjgbdeoaaGreatDoorQa
namespace Go.Proofs.YtencnahjgbdeoaaGreatDoor
open Go Go.RowKit Dig
set_option maxRecDepth 100000
set_option linter.unusedSimpArgs false
theorem ny {n:FuncId} {args:Array Value} {v w w1:World} {p:Ending→World→Prop} (B:Hi (Below w.heap.size w w1)) (h:Calls Tryz.prog n args v fun e w'=>Below w1.heap.size w1 w'∧p e w'):
 Calls Tryz.prog n args v fun e w'=>(Hi (Below w1.heap.size w1 w')∧w1.heap.size≤w'.heap.size∧Hi (Below w.heap.size w w'))∧p e w':=h.mono fun _ _ h=>⟨⟨zz h.1,h.1.size,tr B (zz h.1)⟩,h.2⟩
set_option maxHeartbeats 8000000 in
theorem aCx (w:World) (M:MaxL w) :
  CV 7 #[] w fun e _=>e=.returned (.bool true):=by
 go_enter Tryz.func7,Tryz.ntmps7
 have A6:=zz (aDy w.heap.size w);go_wp2_with fail
 refine(ny A6 (CK _ aX (by decide +kernel) (M.step A6.o))).mono ?_;rintro e w2 ⟨⟨B3,z3,C6⟩,A1,c1,rfl,h1⟩;have F6:=zz h1;clear h1;go_wp2_with fail
 refine(ny C6 (CK _ iN (by decide +kernel) (M.step C6.o))).mono ?_;rintro e w6 ⟨⟨B7,z7,R6⟩,A5,c5,rfl,h5⟩;have G6:=zz h5;clear h5;go_wp2_with fail
 have g5:=st aIm F6 B7;refine(ny R6 (CQ _ g5.o G6.o)).mono ?_;rintro e w10 ⟨⟨B12,z12,H6⟩,g9,rfl,h9⟩;have I6:=zz h9;clear h9;go_wp2_with fail
 refine(ny H6 (is2 _)).mono ?_;rintro e w15 ⟨⟨B16,z16,M2⟩,N14,rfl,hN14⟩;have V7:=zz hN14;clear hN14;go_wp2_with fail
 refine(ny M2 (xO _ iN aX (by decide +kernel) (by decide +kernel) (M.step M2.o))).mono ?_;rintro e w19 ⟨⟨B20,z20,O2⟩,A18,c18,rfl,h18⟩;have P2:=zz h18;clear h18;go_wp2_with fail
 refine(ny O2 (xO _ aX kD (by decide +kernel) (by decide +kernel) (M.step O2.o))).mono ?_;rintro e w23 ⟨⟨B24,z24,J6⟩,A22,c22,rfl,h22⟩;have R2:=zz h22;clear h22;go_wp2_with fail
 have S2:=st aIm P2 B24;refine(ny J6 (CQ _ S2.o R2.o)).mono ?_;rintro e w27 ⟨⟨B29,z29,U2⟩,g26,rfl,h26⟩;have i5:=zz h26;clear h26;go_wp2_with fail
 refine(ny U2 (xO _ kD BE (by decide +kernel) (by decide +kernel) (M.step U2.o))).mono ?_;rintro e w32 ⟨⟨B33,z33,K6⟩,A31,c31,rfl,h31⟩;have j5:=zz h31;clear h31;have k5:=st aHd i5 B33;go_wp2_with fail
 refine(ny K6 (mI _ _ _ _ _ _ _ _ _ k5.o.rat j5.o.rat)).mono ?_;rintro e w37 ⟨⟨B38,z38,X2⟩,hr⟩;obtain⟨A35,c35,rfl,h35⟩:=kY (n:=2) hr wk1 rfl;have l5:=zz h35;clear h35 hr;go_wp2_with fail
 have P8:=tr B20 B24;have W8:=tr P8 B29;have Y8:=tr W8 B33;have X8:=tr Y8 B38;have m5:=st IsC.step V7 X8;refine(ny X2 (YB m5.o l5.o xV xU (by decide +kernel) (by decide +kernel) (M.step X2.o))).mono ?_;rintro e w40 ⟨⟨B46,z46,L6⟩,rfl⟩;have Z8:=tr B16 B20;have M8:=tr Z8 B24;have N8:=tr M8 B29;have Q8:=tr N8 B33;have P9:=tr Q8 B38;have W9:=tr P9 B46;have n5:=st aHd I6 W9;go_wp2_with fail
 refine(ny L6 (fY _ 7)).mono ?_;rintro e w56 ⟨⟨B57,z57,a3⟩,N55,rfl,hN55⟩;go_wp2_with fail
 refine(ny a3 (xO _ aX iN (by decide +kernel) (by decide +kernel) (M.step a3.o))).mono ?_;rintro e w60 ⟨⟨B61,z61,d3⟩,A59,c59,rfl,h59⟩;have e3:=zz h59;clear h59;go_wp2_with fail
 refine(ny d3 (xO _ iN nU (by decide +kernel) (by decide +kernel) (M.step d3.o))).mono ?_;rintro e w64 ⟨⟨B65,z65,M6⟩,A63,c63,rfl,h63⟩;have g3:=zz h63;clear h63;go_wp2_with fail
 have h3:=st aIm e3 B65;refine(ny M6 (CQ _ h3.o g3.o)).mono ?_;rintro e w68 ⟨⟨B70,z70,j3⟩,g67,rfl,h67⟩;have o5:=zz h67;clear h67;go_wp2_with fail
 refine(ny j3 (xO _ aX iN (by decide +kernel) (by decide +kernel) (M.step j3.o))).mono ?_;rintro e w73 ⟨⟨B74,z74,N6⟩,A72,c72,rfl,h72⟩;have p5:=zz h72;clear h72;have q5:=st aHd o5 B74;go_wp2_with fail
 refine(ny N6 (mI _ _ _ _ _ _ _ _ _ q5.o.rat p5.o.rat)).mono ?_;rintro e w78 ⟨⟨B79,z79,O6⟩,hr⟩;obtain rfl:=lR hr wk2;clear hr;go_wp2_with fail
 have Y9:=tr B61 B65;have X9:=tr Y9 B70;have Z9:=tr X9 B74;have M9:=tr Z9 B79;have r5:=aNf hN55 M9.o;refine(ny O6 (fW r5)).mono ?_;rintro e w81 ⟨⟨B87,z87,P6⟩,rfl⟩;have N9:=tr B57 B61;have Q9:=tr N9 B65;have P10:=tr Q9 B70;have W10:=tr P10 B74;have Y10:=tr W10 B79;have X10:=tr Y10 B87;have s5:=st aHd n5 X10;go_wp2_with fail
 refine(ny P6 (fY _ 2)).mono ?_;rintro e w97 ⟨⟨B98,z98,o3⟩,N96,rfl,hN96⟩;go_wp2_with fail
 refine(ny o3 (xO _ aX iN (by decide +kernel) (by decide +kernel) (M.step o3.o))).mono ?_;rintro e w101 ⟨⟨B102,z102,t5⟩,A100,c100,rfl,h100⟩;have C2:=zz h100;clear h100;go_wp2_with fail
 refine(ny t5 (yF _ C2.o)).mono ?_;rintro e w105 ⟨⟨B106,z106,x0⟩,g104,rfl,h104⟩;have p3:=zz h104;clear h104;go_wp2_with fail
 refine(ny x0 (CK _ aX (by decide +kernel) (M.step x0.o))).mono ?_;rintro e w109 ⟨⟨B110,z110,u5⟩,A108,c108,rfl,h108⟩;have q3:=zz h108;clear h108;have r3:=st aHd p3 B110;go_wp2_with fail
 refine(ny u5 (mI _ _ _ _ _ _ _ _ _ r3.o.rat q3.o.rat)).mono ?_;rintro e w114 ⟨⟨B115,z115,v5⟩,hr⟩;obtain rfl:=lR hr wk3;clear hr;go_wp2_with fail
 have Z10:=tr B102 B106;have M10:=tr Z10 B110;have N10:=tr M10 B115;have s3:=aNf hN96 N10.o;refine(ny v5 (fW s3)).mono ?_;rintro e w117 ⟨⟨B122,z122,w5⟩,rfl⟩;have Q10:=tr B98 B102;have P11:=tr Q10 B106;have W11:=tr P11 B110;have Y11:=tr W11 B115;have X11:=tr Y11 B122;have t3:=st aHd s5 X11;go_wp2_with fail
 refine(ny w5 (fY _ 350)).mono ?_;rintro e w131 ⟨⟨B132,z132,C0⟩,N130,rfl,hN130⟩;go_wp2_with fail
 refine(ny C0 (CK _ aX (by decide +kernel) (M.step C0.o))).mono ?_;rintro e w135 ⟨⟨B136,z136,x5⟩,A134,c134,rfl,h134⟩;have u3:=zz h134;clear h134;go_wp2_with fail
 refine(ny x5 (mI _ _ _ _ _ _ _ _ _ (VM.nil _ _).rat u3.o.rat)).mono ?_;rintro e w139 ⟨⟨B140,z140,y5⟩,hr⟩;obtain rfl:=lR hr wk4;clear hr;go_wp2_with fail
 have Z11:=tr B136 B140;have v3:=aNf hN130 Z11.o;refine(ny y5 (fW v3)).mono ?_;rintro e w142 ⟨⟨B145,z145,G0⟩,rfl⟩;have M11:=tr B132 B136;have N11:=tr M11 B140;have Q11:=tr N11 B145;have w3:=st aHd t3 Q11;go_wp2_with fail
 refine(ny G0 (xO _ kD nU (by decide +kernel) (by decide +kernel) (M.step G0.o))).mono ?_;rintro e w152 ⟨⟨B153,z153,z5⟩,A151,c151,rfl,h151⟩;have x3:=zz h151;clear h151;go_wp2_with fail
 have j0:=st aHd w3 B153;refine(ny z5 (JG _ _ _ _ _ _ _ _ _ j0.o.rat x3.o.rat)).mono ?_;rintro e w156 ⟨⟨B158,z158,J0⟩,hr⟩;obtain⟨A155,c155,B155,d155,rfl,h155,k155⟩:=KV (n:=1) (m:=1) hr wkN rfl rfl;have y3:=zz h155;have A3:=zz k155;clear h155 k155 hr;have C3:=st aHd j0 B158;go_wp2_with fail
 refine(ny J0 (xO _ kD nU (by decide +kernel) (by decide +kernel) (M.step J0.o))).mono ?_;rintro e w162 ⟨⟨B163,z163,L0⟩,A161,c161,rfl,h161⟩;have D3:=zz h161;clear h161;go_wp2_with fail
 refine(ny L0 (CK _ aX (by decide +kernel) (M.step L0.o))).mono ?_;rintro e w166 ⟨⟨B167,z167,B5⟩,A165,c165,rfl,h165⟩;have E3:=zz h165;clear h165;go_wp2_with fail
 have P12:=tr B163 B167;have k0:=st aHd C3 P12;have F3:=st aIm D3 B167;refine(ny B5 (CJ _ _ _ _ _ _ _ _ _ _ _ _ _ k0.o.rat F3.o.rat E3.o.rat)).mono ?_;rintro e w170 ⟨⟨B174,z174,C5⟩,hr⟩;obtain⟨v169,rfl,D5⟩:=VJ hr wkQ;clear hr;obtain⟨A7,C7,D7,E7,F7,b0,G7,rfl,ha176,O0,hc176⟩:=D5;have G3:=zz (show QV w170 w170.heap.size (.agg #[.bool A7,.slice C7 D7 E7,.bool false,.slice F7 b0 G7]) (mkRat 8 1) from⟨_,_,_,_,_,_,_,rfl,ha176,O0,hc176⟩);clear ha176 O0 hc176;go_upto_region 5 with (fail)
 obtain⟨w177,d0⟩:=ex (w170.alloc (.cells #[.bool A7,.slice C7 D7 E7,.bool false,.slice F7 b0 G7] 28));rw[← d0];have H3:=cL d0;have za177:=cJ d0;have B178:=zz (cK d0);have z178:=B178.o.size;have a0:=tr C5 B178;clear d0;have W12:=tr B174 B178;have l0:=st aHd k0 W12;have Y12:=tr P12 B174;have X12:=tr Y12 B178;have I3:=st aHd y3 X12;have J3:=st aIm A3 X12;have K3:=st aHf G3 B178;obtain⟨g187,off187,B187,d187,rfl,hc187,hr187⟩:=VM.row0 I3.o;have I7:=zz hc187;have M7:=zz hr187;clear hc187 hr187;have N7:=zz (iX I7.o);refine Chunk.start (by kernel_rfl) ?_;intro wd188 hbd188
 change Early _ _ _ _ _ _ 57 #[false,false,false,false,false,false,false,false,false,false,false,false,false,false,false,false,false,false,false,false,false,false,false,false,false,false,false,false,false,false,false,false,false,false,false,false,false,false,false,false,false,false,false,false,false,false,false,false,false,false,false,false,false,false,false,false,false] _ _
 have B189:=zz hbd188;have z189:=B189.o.size;have E5:=tr a0 B189;clear hbd188;refine ChunkS.run [se 0 84 [] (.bool true),se 1 85 [0] (.bool true),se 2 86 [1] (.slice (some ⟨g187,off187,none⟩) 1 c155),se 3 87 [1,2] (.int .i64 1),se 4 88 [1,3] (.bool true),se 5 89 [1,4] (.bool true),se 6 90 [5] (.bool true)] 6 #[false,false,false,false,false,false,false,false,false,false,false,false,false,false,false,false,false,false,false,false,false,false,false,false,false,false,false,false,false,false,false,false,false,false,false,false,false,false,false,false,false,false,false,false,false,false,false,false,false,false,false,false,false,false,false,false,false] #[true,true,true,true,true,true,true,false,false,false,false,false,false,false,false,false,false,false,false,false,false,false,false,false,false,false,false,false,false,false,false,false,false,false,false,false,false,false,false,false,false,false,false,false,false,false,false,false,false,false,false,false,false,false,false,false,false] 50 S0 aFi ?_ ?_
 ·intro xs a_ hA;simp only[SX,↓reduceIte,Nat.reduceEqDiff,Nat.reduceAdd] at hA⊢;subst hA;and_intros
  all_goals intro wk b_ z_
  all_goals try exact pl
 intro xs n8 B192 z192;simp only[SY];have F5:=tr E5 B192;refine ChunkS.run [sf 7 91 [] (fun fv fw=>∃ zb,fv=.slice (some ⟨zb,0,none⟩) 1 1∧CB fw zb 9 #[.string ⟨#[53]⟩]),sf 8 92 [7] (fun fv fw=>∃ N,fv=.func (.func 83) #[] #[.pointer (some ⟨N,0,none⟩)]∧IsC fw fw.heap.size N [⟨#[53]⟩]),se 9 93 [] (.slice (some ⟨g187,off187,none⟩) 1 c155),se 10 94 [9] (.pointer (some ⟨g187,off187,none⟩)),se 11 95 [10] (.slice B187 1 d187),se 12 96 [] (.int .i64 0),se 13 97 [8,11,12] (.bool true),se 14 98 [13] (.bool true),se 15 99 [14] (.bool true)] 15 #[true,true,true,true,true,true,true,false,false,false,false,false,false,false,false,false,false,false,false,false,false,false,false,false,false,false,false,false,false,false,false,false,false,false,false,false,false,false,false,false,false,false,false,false,false,false,false,false,false,false,false,false,false,false,false,false,false] #[true,true,true,true,true,true,true,true,true,true,true,true,true,true,true,true,false,false,false,false,false,false,false,false,false,false,false,false,false,false,false,false,false,false,false,false,false,false,false,false,false,false,false,false,false,false,false,false,false,false,false,false,false,false,false,false,false] 41 S0 (MA (fun _ _ _ h hb=>let ⟨b,e,h⟩:=h;⟨b,e,h.step hb⟩) (MA (fun _ _ _ h hb=>let ⟨N,e,h⟩:=h;⟨N,e,IsC.step h hb⟩) aFi)) ?_ ?_
 ·intro xs a_ hA;simp only[SX,↓reduceIte,Nat.reduceEqDiff,Nat.reduceAdd] at hA⊢;subst hA;and_intros
  all_goals intro wk b_ z_
  any_goals (intro f10;intros;refine aDz (i:=11) (o:=?go194) ?S6 ?gh194;(case S6=>exact rfl);intro K hK;have Z12:=tr B189 B192;have M12:=tr Z12 b_;have qv0:=(aGn M12.o (p:=⟨g187,off187,none⟩) N7.o).trans I7.o;go_simp;(refine hK _ _ ⟨_,by simp only[FL,f10] <;> kernel_rfl,aDy _ _,rfl⟩))
  all_goals try exact pl
  ·intros
   refine aDz (o:=?_) ?T6 ?_
   case T6=>exact rfl
   intro K hK;go_simp;refine hK _ _ ⟨.slice (some ⟨wk.heap.size,0,none⟩) 1 1,by kernel_rfl,(aDy _ _).alloc (aEa _) _,⟨_,rfl,aHl _ _ _⟩⟩
  ·intro f7;intros;refine aDz (o:=?_) ?U6 ?_
   case U6=>exact rfl
   intro K hK;obtain⟨zb7,hz7,hC7⟩:=f7;rw[hz7];have m8:=zz hC7;clear hC7;go_simp;(with_reducible refine(oE _ _ _ _ [⟨#[53]⟩] (SS.cb1 m8.o)).mono ?_)
   rintro e wc199 ⟨G5,N199,rfl,hN199⟩;refine hK _ _ ⟨.func (.func 83) #[] #[.pointer (some ⟨N199,0,none⟩)],by simp only[FL,hz7] <;> kernel_rfl,G5,⟨N199,rfl,hN199⟩⟩
  ·intro f8 f11 f12;intros;refine aDz (o:=?_) ?V6 ?_
   case V6=>exact rfl
   intro K hK;obtain⟨N,hN,hO⟩:=f8;rw[hN];have HO:=zz hO;clear hO;go_simp;have N12:=tr B189 B192;have Q12:=tr N12 b_;have r0:=st aIm M7 Q12;(with_reducible refine(UA HO.o r0.o BE (by decide +kernel) (M.step (a0.o.trans (Q12.o.mono a0.o.size)))).mono ?_)
   rintro e wc201 ⟨H5,rfl⟩;refine hK _ _ ⟨_,by simp only[FL,f11,f12,hN] <;> kernel_rfl,H5,rfl⟩
 intro xs o8 B206 z206;simp only[SY];have I5:=tr F5 B206;generalize xs 7=x7,xs 8=x8;rintro f7 f8;clear f7;clear f8;refine ChunkS.run [sf 16 100 [] (fun fv fw=>∃ zb,fv=.slice (some ⟨zb,0,none⟩) 1 1∧CB fw zb 9 #[.string ⟨#[49,49]⟩]),sf 17 101 [16] (fun fv fw=>∃ N,fv=.func (.func 83) #[] #[.pointer (some ⟨N,0,none⟩)]∧IsC fw fw.heap.size N [⟨#[49,49]⟩]),se 18 102 [] (.slice B155 1 d155),se 19 103 [] (.int .i64 0),se 20 104 [17,18,19] (.bool true),se 21 105 [20] (.bool true),se 22 106 [21] (.bool true)] 22 #[true,true,true,true,true,true,true,true,true,true,true,true,true,true,true,true,false,false,false,false,false,false,false,false,false,false,false,false,false,false,false,false,false,false,false,false,false,false,false,false,false,false,false,false,false,false,false,false,false,false,false,false,false,false,false,false,false] #[true,true,true,true,true,true,true,true,true,true,true,true,true,true,true,true,true,true,true,true,true,true,true,false,false,false,false,false,false,false,false,false,false,false,false,false,false,false,false,false,false,false,false,false,false,false,false,false,false,false,false,false,false,false,false,false,false] 34 S0 (MA (fun _ _ _ h hb=>let ⟨b,e,h⟩:=h;⟨b,e,h.step hb⟩) (MA (fun _ _ _ h hb=>let ⟨N,e,h⟩:=h;⟨N,e,IsC.step h hb⟩) aFi)) ?_ ?_
 ·intro xs a_ hA;simp only[SX,↓reduceIte,Nat.reduceEqDiff,Nat.reduceAdd] at hA⊢;subst hA;and_intros
  all_goals intro wk b_ z_
  all_goals try exact pl
  ·intros
   refine aDz (o:=?_) ?W6 ?_
   case W6=>exact rfl
   intro K hK;go_simp;refine hK _ _ ⟨.slice (some ⟨wk.heap.size,0,none⟩) 1 1,by kernel_rfl,(aDy _ _).alloc (aEa _) _,⟨_,rfl,aHl _ _ _⟩⟩
  ·intro f16;intros;refine aDz (o:=?_) ?X6 ?_
   case X6=>exact rfl
   intro K hK;obtain⟨zb16,hz16,hC16⟩:=f16;rw[hz16];have W7:=zz hC16;clear hC16;go_simp;(with_reducible refine(oE _ _ _ _ [⟨#[49,49]⟩] (SS.cb1 W7.o)).mono ?_)
   rintro e wc210 ⟨J5,N210,rfl,hN210⟩;refine hK _ _ ⟨.func (.func 83) #[] #[.pointer (some ⟨N210,0,none⟩)],by simp only[FL,hz16] <;> kernel_rfl,J5,⟨N210,rfl,hN210⟩⟩
  ·intro f17 f18 f19;intros;refine aDz (o:=?_) ?Y6 ?_
   case Y6=>exact rfl
   intro K hK;obtain⟨N,hN,hO⟩:=f17;rw[hN];have HO:=zz hO;clear hO;go_simp;have P13:=tr B189 B192;have W13:=tr P13 B206;have Y13:=tr W13 b_;have L3:=st aIm J3 Y13;(with_reducible refine(UA HO.o L3.o KZ (by decide +kernel) (M.step (a0.o.trans (Y13.o.mono a0.o.size)))).mono ?_)
   rintro e wc212 ⟨K5,rfl⟩;refine hK _ _ ⟨_,by simp only[FL,f18,f19,hN] <;> kernel_rfl,K5,rfl⟩
 intro xs p8 B218 z218;simp only[SY];have L5:=tr I5 B218;generalize xs 16=x16,xs 17=x17;rintro f16 f17;clear f16;clear f17;have X13:=tr B189 B192;have Z13:=tr X13 B206;have M13:=tr Z13 B218;have M3:=aEd H3 M13.o
 refine ChunkS.run [sf 23 107 [] (fun fv fw=>∃ zb,fv=.slice (some ⟨zb,0,none⟩) 1 1∧CB fw zb 9 #[.string ⟨#[56]⟩]),sf 24 108 [23] (fun fv fw=>∃ N,fv=.func (.func 83) #[] #[.pointer (some ⟨N,0,none⟩)]∧IsC fw fw.heap.size N [⟨#[56]⟩]),se 25 109 [] (.agg #[.bool A7,.slice C7 D7 E7,.bool false,.slice F7 b0 G7]),sf 26 110 [25] (fun fv fw=>∃ b,fv=.slice (some ⟨b,0,none⟩) 1 1∧VL fw fw.heap.size (.slice (some ⟨b,0,none⟩) 1 1) [mkRat 8 1]),se 27 111 [] (.int .i64 0),se 28 112 [24,26,27] (.bool true),se 29 113 [28] (.bool true),se 30 114 [29] (.bool true)] 30 #[true,true,true,true,true,true,true,true,true,true,true,true,true,true,true,true,true,true,true,true,true,true,true,false,false,false,false,false,false,false,false,false,false,false,false,false,false,false,false,false,false,false,false,false,false,false,false,false,false,false,false,false,false,false,false,false,false] #[true,true,true,true,true,true,true,true,true,true,true,true,true,true,true,true,true,true,true,true,true,true,true,true,true,true,true,true,true,true,true,false,false,false,false,false,false,false,false,false,false,false,false,false,false,false,false,false,false,false,false,false,false,false,false,false,false] 26 (SB M3 S0) (MA (fun _ _ _ h hb=>let ⟨b,e,h⟩:=h;⟨b,e,h.step hb⟩) (MA (fun _ _ _ h hb=>let ⟨N,e,h⟩:=h;⟨N,e,IsC.step h hb⟩) (MA (fun _ _ _ h hb=>let ⟨b,e,h⟩:=h;⟨b,e,aIm h hb⟩) aFi))) ?_ ?_
 ·intro xs a_ hA;simp only[SX,↓reduceIte,Nat.reduceEqDiff,Nat.reduceAdd] at hA⊢;subst hA;and_intros
  all_goals intro wk b_ z_
  all_goals try exact pl
  ·intros
   refine aDz (o:=?_) ?Z6 ?_
   case Z6=>exact rfl
   intro K hK;go_simp;refine hK _ _ ⟨.slice (some ⟨wk.heap.size,0,none⟩) 1 1,by kernel_rfl,(aDy _ _).alloc (aEa _) _,⟨_,rfl,aHl _ _ _⟩⟩
  ·intro f23;intros;refine aDz (o:=?_) ?a7 ?_
   case a7=>exact rfl
   intro K hK;obtain⟨zb23,hz23,hC23⟩:=f23;rw[hz23];have X7:=zz hC23;clear hC23;go_simp;(with_reducible refine(oE _ _ _ _ [⟨#[56]⟩] (SS.cb1 X7.o)).mono ?_)
   rintro e wc226 ⟨M5,N226,rfl,hN226⟩;refine hK _ _ ⟨.func (.func 83) #[] #[.pointer (some ⟨N226,0,none⟩)],by simp only[FL,hz23] <;> kernel_rfl,M5,⟨N226,rfl,hN226⟩⟩
  ·intro f25;intros;refine aDz (o:=?_) ?b7 ?_
   case b7=>exact rfl
   intro K hK;go_simp;have hbn:Below wk.heap.size wk (wk.alloc (.cells #[.bool A7,.slice C7 D7 E7,.bool false,.slice F7 b0 G7] 28)):=aB (aDy _ _) _;have N13:=tr M13 b_;have N3:=st aHf K3 N13;refine hK _ _ ⟨.slice (some ⟨wk.heap.size,0,none⟩) 1 1,by simp only[FL,f25] <;> kernel_rfl,hbn,⟨_,rfl,VL.cb1 (aHl _ _ _) (aHf N3.o hbn)⟩⟩
  ·intro f24 f26 f27;intros;refine aDz (o:=?_) ?c7 ?_
   case c7=>exact rfl
   intro K hK;obtain⟨N,hN,hO⟩:=f24;rw[hN];have HO:=zz hO;clear hO;obtain⟨zq,hzq,hq⟩:=f26;rw[hzq];have Y7:=zz hq;clear hq;go_simp;have Q13:=tr M13 b_;(with_reducible refine(UA HO.o Y7.o YY (by decide +kernel) (M.step (a0.o.trans (Q13.o.mono a0.o.size)))).mono ?_)
   rintro e wc231 ⟨N5,rfl⟩;refine hK _ _ ⟨_,by simp only[FL,f27,hN,hzq] <;> kernel_rfl,N5,rfl⟩
 intro xs q8 B234 z234;simp only[SY];have O5:=tr L5 B234;generalize xs 23=x23,xs 24=x24,xs 26=x26;rintro f23 f24 f26;clear f23;clear f24;clear f26
 refine ChunkS.run [sf 31 115 [] (fun fv fw=>∃ zb,fv=.slice (some ⟨zb,0,none⟩) 1 1∧CB fw zb 9 #[.string ⟨#[49,49,47,53]⟩]),sf 32 116 [31] (fun fv fw=>∃ N,fv=.func (.func 83) #[] #[.pointer (some ⟨N,0,none⟩)]∧IsC fw fw.heap.size N [⟨#[49,49,47,53]⟩]),se 33 117 [] (.slice (some ⟨g9,0,none⟩) 2 2),sf 34 118 [] (fun fv fw=>∃ zb,fv=.slice (some ⟨zb,0,none⟩) 2 2∧CB fw zb 9 #[.string ⟨#[51]⟩,.string ⟨#[52]⟩]),sf 35 119 [34] (fun fv fw=>∃ A c,fv=.slice A 2 c∧VL fw fw.heap.size (.slice A 2 c) [(mkRat 3 1),(mkRat 4 1)]),sf 36 120 [33,35] (fun fv fw=>∃ A c,fv=.tuple #[.slice A 1 c,.int .i64 0]∧VL fw fw.heap.size (.slice A 1 c) [(mkRat 11 5)]),sf 37 121 [36] (fun fv fw=>∃ A c,fv=.slice A 1 c∧VL fw fw.heap.size (.slice A 1 c) [(mkRat 11 5)]),se 38 122 [36] (.int .i64 0),se 39 123 [32,37,38] (.bool true),se 40 124 [39] (.bool true),se 41 125 [40] (.bool true)] 41 #[true,true,true,true,true,true,true,true,true,true,true,true,true,true,true,true,true,true,true,true,true,true,true,true,true,true,true,true,true,true,true,false,false,false,false,false,false,false,false,false,false,false,false,false,false,false,false,false,false,false,false,false,false,false,false,false,false] #[true,true,true,true,true,true,true,true,true,true,true,true,true,true,true,true,true,true,true,true,true,true,true,true,true,true,true,true,true,true,true,true,true,true,true,true,true,true,true,true,true,true,false,false,false,false,false,false,false,false,false,false,false,false,false,false,false] 15 S0 (MA (fun _ _ _ h hb=>let ⟨b,e,h⟩:=h;⟨b,e,h.step hb⟩) (MA (fun _ _ _ h hb=>let ⟨N,e,h⟩:=h;⟨N,e,IsC.step h hb⟩) (MA (fun _ _ _ h hb=>let ⟨b,e,h⟩:=h;⟨b,e,h.step hb⟩) (MA (fun _ _ _ h hb=>let ⟨A,c,e,h⟩:=h;⟨A,c,e,aIm h hb⟩) (MA (fun _ _ _ h hb=>let ⟨A,c,e,h⟩:=h;⟨A,c,e,aIm h hb⟩) (MA (fun _ _ _ h hb=>let ⟨A,c,e,h⟩:=h;⟨A,c,e,aIm h hb⟩) aFi)))))) ?_ ?_
 ·intro xs a_ hA;simp only[SX,↓reduceIte,Nat.reduceEqDiff,Nat.reduceAdd] at hA⊢;subst hA;and_intros
  all_goals intro wk b_ z_
  all_goals try exact pl
  ·intros
   refine aDz (o:=?_) ?d7 ?_
   case d7=>exact rfl
   intro K hK;go_simp;refine hK _ _ ⟨.slice (some ⟨wk.heap.size,0,none⟩) 1 1,by kernel_rfl,(aDy _ _).alloc (aEa _) _,⟨_,rfl,aHl _ _ _⟩⟩
  ·intro f31;intros;refine aDz (o:=?_) ?e7 ?_
   case e7=>exact rfl
   intro K hK;obtain⟨zb31,hz31,hC31⟩:=f31;rw[hz31];have Z7:=zz hC31;clear hC31;go_simp;(with_reducible refine(oE _ _ _ _ [⟨#[49,49,47,53]⟩] (SS.cb1 Z7.o)).mono ?_)
   rintro e wc238 ⟨P5,N238,rfl,hN238⟩;refine hK _ _ ⟨.func (.func 83) #[] #[.pointer (some ⟨N238,0,none⟩)],by simp only[FL,hz31] <;> kernel_rfl,P5,⟨N238,rfl,hN238⟩⟩
  ·intros
   refine aDz (o:=?_) ?g7 ?_
   case g7=>exact rfl
   intro K hK;go_simp;refine hK _ _ ⟨.slice (some ⟨wk.heap.size,0,none⟩) 2 2,by kernel_rfl,(aDy _ _).alloc (aEa _) _,⟨_,rfl,aHl _ _ _⟩⟩
  ·intro f34;intros;refine aDz (o:=?_) ?h7 ?_
   case h7=>exact rfl
   intro K hK;obtain⟨zb34,hz34,hC34⟩:=f34;rw[hz34];have a8:=zz hC34;clear hC34;go_simp;have P14:=tr M13 B234;have W14:=tr P14 b_;(with_reducible refine(YF a8.o kD nU (by decide +kernel) (by decide +kernel) (M.step (a0.o.trans (W14.o.mono a0.o.size)))).mono ?_)
   rintro e wc241 ⟨Q5,A241,c241,rfl,h241⟩;refine hK _ _ ⟨.slice A241 2 c241,by simp only[FL,hz34] <;> kernel_rfl,Q5,⟨A241,c241,rfl,h241⟩⟩
  ·intro f33 f35;intros;refine aDz (o:=?_) ?i7 ?_
   case i7=>exact rfl
   intro K hK;obtain⟨A35,c35,hs35,hV35⟩:=f35;rw[hs35];have b8:=zz hV35;clear hV35;go_simp;have Y14:=tr M13 B234;have X14:=tr Y14 b_;have O3:=st aHd l0 X14;(with_reducible refine(xI _ _ _ _ _ _ _ _ _ O3.o.rat b8.o.rat).mono ?_)
   rintro e wc245 ⟨R5,hr⟩;obtain⟨A245,c245,rfl,h245⟩:=kY (n:=1) hr wk5 rfl;refine hK _ _ ⟨.tuple #[.slice A245 1 c245,.int .i64 0],by simp only[FL,f33,hs35] <;> kernel_rfl,R5,⟨_,_,rfl,h245⟩⟩
  ·intro f36;intros;refine aDz (o:=?_) ?j7 ?_
   case j7=>exact rfl
   intro K hK;obtain⟨A,c,hu,hl⟩:=f36;rw[hu];go_simp;refine hK _ _ ⟨.slice A 1 c,by simp only[FL,hu] <;> kernel_rfl,aDy _ _,⟨A,c,rfl,hl⟩⟩
  ·intro f36;intros;refine aDz (o:=?_) ?k7 ?_
   case k7=>exact rfl
   intro K hK;obtain⟨A,c,hu,hl⟩:=f36;rw[hu];go_simp;refine hK _ _ ⟨_,by simp only[FL,hu] <;> kernel_rfl,aDy _ _,rfl⟩
  ·intro f32 f37 f38;intros;refine aDz (o:=?_) ?l7 ?_
   case l7=>exact rfl
   intro K hK;obtain⟨N,hN,hO⟩:=f32;rw[hN];have HO:=zz hO;clear hO;obtain⟨A37,c37,hs37,hV37⟩:=f37;rw[hs37];have c8:=zz hV37;clear hV37;go_simp;have Z14:=tr M13 B234;have M14:=tr Z14 b_;(with_reducible refine(UA HO.o c8.o tI (by decide +kernel) (M.step (a0.o.trans (M14.o.mono a0.o.size)))).mono ?_)
   rintro e wc252 ⟨S5,rfl⟩;refine hK _ _ ⟨_,by simp only[FL,f38,hN,hs37] <;> kernel_rfl,S5,rfl⟩
 intro xs r8 B256 z256;simp only[SY];have T5:=tr O5 B256;generalize xs 31=x31,xs 32=x32,xs 34=x34,xs 35=x35,xs 36=x36,xs 37=x37;rintro f31 f32 f34 f35 f36 f37;clear f31;clear f32;clear f34;clear f35;clear f36;clear f37
 refine ChunkS.run [sf 42 126 [] (fun fv fw=>∃ N,fv=.func (.func 84) #[] #[.pointer (some ⟨N,0,none⟩)]∧One fw N 40 (.int .i64 7)),sf 43 127 [] (fun fv fw=>∃ zb,fv=.slice (some ⟨zb,0,none⟩) 2 2∧CB fw zb 9 #[.string ⟨#[49]⟩,.string ⟨#[49]⟩]),sf 44 128 [43] (fun fv fw=>∃ A c,fv=.slice A 2 c∧VL fw fw.heap.size (.slice A 2 c) [(mkRat 1 1),(mkRat 1 1)]),sf 45 129 [] (fun fv fw=>∃ zb,fv=.slice (some ⟨zb,0,none⟩) 2 2∧CB fw zb 9 #[.string ⟨#[50]⟩,.string ⟨#[50]⟩]),sf 46 130 [45] (fun fv fw=>∃ A c,fv=.slice A 2 c∧VL fw fw.heap.size (.slice A 2 c) [(mkRat 2 1),(mkRat 2 1)]),sf 47 131 [44,46] (fun fv fw=>∃ b,fv=.slice (some ⟨b,0,none⟩) 2 2∧VM fw fw.heap.size (.slice (some ⟨b,0,none⟩) 2 2) [[(mkRat 1 1),(mkRat 1 1)],[(mkRat 2 1),(mkRat 2 1)]]),sf 48 132 [47] (fun fv fw=>∃ b,fv=.slice (some ⟨b,0,none⟩) 2 2∧VM fw fw.heap.size (.slice (some ⟨b,0,none⟩) 2 2) [[(mkRat 1 1),(mkRat 1 1)],[(mkRat 2 1),(mkRat 2 1)]]),sf 49 133 [] (fun fv fw=>∃ zb,fv=.slice (some ⟨zb,0,none⟩) 2 2∧CB fw zb 9 #[.string ⟨#[49]⟩,.string ⟨#[49]⟩]),sf 50 134 [49] (fun fv fw=>∃ A c,fv=.slice A 2 c∧VL fw fw.heap.size (.slice A 2 c) [(mkRat 1 1),(mkRat 1 1)]),se 51 135 [48,50] (.tuple #[.slice none 0 0,.int .i64 7]),se 52 136 [51] (.slice none 0 0),se 53 137 [51] (.int .i64 7),se 54 138 [42,52,53] (.bool true),se 55 139 [54] (.bool true)] 55 #[true,true,true,true,true,true,true,true,true,true,true,true,true,true,true,true,true,true,true,true,true,true,true,true,true,true,true,true,true,true,true,true,true,true,true,true,true,true,true,true,true,true,false,false,false,false,false,false,false,false,false,false,false,false,false,false,false] #[true,true,true,true,true,true,true,true,true,true,true,true,true,true,true,true,true,true,true,true,true,true,true,true,true,true,true,true,true,true,true,true,true,true,true,true,true,true,true,true,true,true,true,true,true,true,true,true,true,true,true,true,true,true,true,true,false] 1 S0 (MA (fun _ _ _ h hb=>let ⟨N,e,h⟩:=h;⟨N,e,aNf h hb⟩) (MA (fun _ _ _ h hb=>let ⟨b,e,h⟩:=h;⟨b,e,h.step hb⟩) (MA (fun _ _ _ h hb=>let ⟨A,c,e,h⟩:=h;⟨A,c,e,aIm h hb⟩) (MA (fun _ _ _ h hb=>let ⟨b,e,h⟩:=h;⟨b,e,h.step hb⟩) (MA (fun _ _ _ h hb=>let ⟨A,c,e,h⟩:=h;⟨A,c,e,aIm h hb⟩) (MA (fun _ _ _ h hb=>let ⟨b,e,h⟩:=h;⟨b,e,aHd h hb⟩) (MA (fun _ _ _ h hb=>let ⟨b,e,h⟩:=h;⟨b,e,aHd h hb⟩) (MA (fun _ _ _ h hb=>let ⟨b,e,h⟩:=h;⟨b,e,h.step hb⟩) (MA (fun _ _ _ h hb=>let ⟨A,c,e,h⟩:=h;⟨A,c,e,aIm h hb⟩) aFi))))))))) ?_ ?_
 ·intro xs a_ hA;simp only[SX,↓reduceIte,Nat.reduceEqDiff,Nat.reduceAdd] at hA⊢;subst hA;and_intros
  all_goals intro wk b_ z_
  all_goals try exact pl
  ·intros
   refine aDz (o:=?_) ?m7 ?_
   case m7=>exact rfl
   intro K hK;go_simp;(with_reducible refine(fY _ 7).mono ?_)
   rintro e wc259 ⟨U5,N259,rfl,hN259⟩;refine hK _ _ ⟨.func (.func 84) #[] #[.pointer (some ⟨N259,0,none⟩)],by kernel_rfl,U5,⟨N259,rfl,hN259⟩⟩
  ·intros
   refine aDz (o:=?_) ?n7 ?_
   case n7=>exact rfl
   intro K hK;go_simp;refine hK _ _ ⟨.slice (some ⟨wk.heap.size,0,none⟩) 2 2,by kernel_rfl,(aDy _ _).alloc (aEa _) _,⟨_,rfl,aHl _ _ _⟩⟩
  ·intro f43;intros;refine aDz (o:=?_) ?o7 ?_
   case o7=>exact rfl
   intro K hK;obtain⟨zb43,hz43,hC43⟩:=f43;rw[hz43];have d8:=zz hC43;clear hC43;go_simp;have Q14:=tr M13 B234;have P15:=tr Q14 B256;have W15:=tr P15 b_;(with_reducible refine(YF d8.o aX aX (by decide +kernel) (by decide +kernel) (M.step (a0.o.trans (W15.o.mono a0.o.size)))).mono ?_)
   rintro e wc262 ⟨V5,A262,c262,rfl,h262⟩;refine hK _ _ ⟨.slice A262 2 c262,by simp only[FL,hz43] <;> kernel_rfl,V5,⟨A262,c262,rfl,h262⟩⟩
  ·intros
   refine aDz (o:=?_) ?p7 ?_
   case p7=>exact rfl
   intro K hK;go_simp;refine hK _ _ ⟨.slice (some ⟨wk.heap.size,0,none⟩) 2 2,by kernel_rfl,(aDy _ _).alloc (aEa _) _,⟨_,rfl,aHl _ _ _⟩⟩
  ·intro f45;intros;refine aDz (o:=?_) ?q7 ?_
   case q7=>exact rfl
   intro K hK;obtain⟨zb45,hz45,hC45⟩:=f45;rw[hz45];have e8:=zz hC45;clear hC45;go_simp;have Y15:=tr M13 B234;have X15:=tr Y15 B256;have Z15:=tr X15 b_;(with_reducible refine(YF e8.o iN iN (by decide +kernel) (by decide +kernel) (M.step (a0.o.trans (Z15.o.mono a0.o.size)))).mono ?_)
   rintro e wc268 ⟨W5,A268,c268,rfl,h268⟩;refine hK _ _ ⟨.slice A268 2 c268,by simp only[FL,hz45] <;> kernel_rfl,W5,⟨A268,c268,rfl,h268⟩⟩
  ·intro f44 f46;intros;refine aDz (o:=?_) ?r7 ?_
   case r7=>exact rfl
   intro K hK;obtain⟨A44,c44,hs44,hV44⟩:=f44;rw[hs44];have g8:=zz hV44;clear hV44;obtain⟨A46,c46,hs46,hV46⟩:=f46;rw[hs46];have h8:=zz hV46;clear hV46;go_simp;have hbn:Below wk.heap.size wk (wk.alloc (.cells #[.slice A44 2 c44,.slice A46 2 c46] 23)):=aB (aDy _ _) _;refine hK _ _ ⟨.slice (some ⟨wk.heap.size,0,none⟩) 2 2,by simp only[FL,hs44,hs46] <;> kernel_rfl,hbn,⟨_,rfl,VM.cb2 (aHl _ _ _) (g8.o.step hbn) (h8.o.step hbn)⟩⟩
  ·intro f47;intros;refine aDz (o:=?_) ?s7 ?_
   case s7=>exact rfl
   intro K hK;obtain⟨zb47,hz47,hM47⟩:=f47;rw[hz47];have i8:=zz hM47;clear hM47;go_simp;(with_reducible refine(sW _ _ rfl).mono ?_)
   rintro e wc274 ⟨P0,rfl⟩;refine hK _ _ ⟨.slice (some ⟨zb47,0,none⟩) 2 2,by simp only[FL,hz47] <;> kernel_rfl,P0,⟨_,rfl,aHd i8.o P0⟩⟩
  ·intros
   refine aDz (o:=?_) ?t7 ?_
   case t7=>exact rfl
   intro K hK;go_simp;refine hK _ _ ⟨.slice (some ⟨wk.heap.size,0,none⟩) 2 2,by kernel_rfl,(aDy _ _).alloc (aEa _) _,⟨_,rfl,aHl _ _ _⟩⟩
  ·intro f49;intros;refine aDz (o:=?_) ?u7 ?_
   case u7=>exact rfl
   intro K hK;obtain⟨zb49,hz49,hC49⟩:=f49;rw[hz49];have j8:=zz hC49;clear hC49;go_simp;have M15:=tr M13 B234;have N15:=tr M15 B256;have Q15:=tr N15 b_;(with_reducible refine(YF j8.o aX aX (by decide +kernel) (by decide +kernel) (M.step (a0.o.trans (Q15.o.mono a0.o.size)))).mono ?_)
   rintro e wc277 ⟨X5,A277,c277,rfl,h277⟩;refine hK _ _ ⟨.slice A277 2 c277,by simp only[FL,hz49] <;> kernel_rfl,X5,⟨A277,c277,rfl,h277⟩⟩
  ·intro f48 f50;intros;refine aDz (o:=?_) ?v7 ?_
   case v7=>exact rfl
   intro K hK;obtain⟨zb48,hz48,hM48⟩:=f48;rw[hz48];have k8:=zz hM48;clear hM48;obtain⟨A50,c50,hs50,hV50⟩:=f50;rw[hs50];have l8:=zz hV50;clear hV50;go_simp;(with_reducible refine(xI _ _ _ _ _ _ _ _ _ k8.o.rat l8.o.rat).mono ?_)
   rintro e wc282 ⟨Y5,hr⟩;obtain rfl:=lR hr wk6;refine hK _ _ ⟨_,by simp only[FL,hz48,hs50] <;> kernel_rfl,Y5,rfl⟩
  ·intro f42 f52 f53;intros;refine aDz (o:=?_) ?w7 ?_
   case w7=>exact rfl
   intro K hK;obtain⟨N,hN,hO⟩:=f42;rw[hN];have HO:=zz hO;clear hO;go_simp;(with_reducible refine(fW HO.o).mono ?_)
   rintro e wc284 ⟨Z5,rfl⟩;refine hK _ _ ⟨_,by simp only[FL,f52,f53,hN] <;> kernel_rfl,Z5,rfl⟩
 intro xs s8 B286 z286;simp only[SY];have a6:=tr T5 B286;generalize xs 42=x42,xs 43=x43,xs 44=x44,xs 45=x45,xs 46=x46,xs 47=x47,xs 48=x48,xs 49=x49,xs 50=x50;rintro f42 f43 f44 f45 f46 f47 f48 f49 f50;clear f42;clear f43;clear f44;clear f45;clear f46;clear f47;clear f48;clear f49;clear f50;refine EN 56 rfl fun K hK=>?_
 go_simp;refine hK _ _ ?_;clear hK K;(try simp only[PT])
 refine ED ?_;(try simp only[Exit.then])
 have P16:=tr M13 B234;have W16:=tr P16 B256;have Y16:=tr W16 B286;have P3:=st aHd l0 Y16;go_wp2_with fail
 refine(ny a6 (is1 _)).mono ?_;rintro e w293 ⟨⟨B294,z294,R0⟩,N292,rfl,hN292⟩;have O7:=zz hN292;clear hN292;go_wp2_with fail
 refine(ny R0 (xO _ kD nU (by decide +kernel) (by decide +kernel) (M.step R0.o))).mono ?_;rintro e w297 ⟨⟨B298,z298,U0⟩,A296,c296,rfl,h296⟩;have Q3:=zz h296;clear h296;go_wp2_with fail
 refine(ny U0 (CK _ aX (by decide +kernel) (M.step U0.o))).mono ?_;rintro e w301 ⟨⟨B302,z302,W0⟩,A300,c300,rfl,h300⟩;have R3:=zz h300;clear h300;go_wp2_with fail
 refine(ny W0 (CK _ BE (by decide +kernel) (M.step W0.o))).mono ?_;rintro e w305 ⟨⟨B306,z306,b6⟩,A304,c304,rfl,h304⟩;have S3:=zz h304;clear h304;obtain⟨g308,off308,x308A,x308l,x308c,x308B,x308u,x308d,rfl,hE308,hx308⟩:=VL.elem0 S3.o;have P7:=zz hx308;clear hx308;have X16:=tr B294 B298;have Z16:=tr X16 B302;have M16:=tr Z16 B306;have m0:=st aHd P3 M16;have N16:=tr B302 B306;have T3:=st aIm Q3 N16;have U3:=st aIm R3 B306;have V3:=ez4 hE308;go_wp2_with fail
 refine(ny b6 (nQ _ _ _ _ _ _ _ _ _ _ _ _ _ _ _ _ _ _ _ _ _ _ _ m0.o.rat T3.o.rat U3.o.rat P7.o)).mono ?_;rintro e w317 ⟨⟨B319,z319,Z0⟩,hr⟩;clear V3;obtain⟨A309,c309,rfl,h309⟩:=kY (n:=1) hr wk7 rfl;have Z3:=zz h309;clear h309 hr;go_wp2_with fail
 have Q16:=tr B298 B302;have P17:=tr Q16 B306;have W17:=tr P17 B319;have a4:=st IsC.step O7 W17;refine(ny Z0 (UA a4.o Z3.o oY (by decide +kernel) (M.step Z0.o))).mono ?_;rintro e w321 ⟨⟨B326,z326,c6⟩,rfl⟩;have Y17:=tr B319 B326;have b4:=st aHd m0 Y17;go_wp2_with fail
 refine(ny c6 (is2 _)).mono ?_;rintro e w331 ⟨⟨B332,z332,d1⟩,N330,rfl,hN330⟩;have Q7:=zz hN330;clear hN330;go_wp2_with fail
 refine(ny d1 (xO _ aX aX (by decide +kernel) (by decide +kernel) (M.step d1.o))).mono ?_;rintro e w335 ⟨⟨B336,z336,d6⟩,A334,c334,rfl,h334⟩;have D2:=zz h334;clear h334;go_wp2_with fail
 refine(ny d6 (yF _ D2.o)).mono ?_;rintro e w339 ⟨⟨B340,z340,g1⟩,g338,rfl,h338⟩;have c4:=zz h338;clear h338;go_wp2_with fail
 refine(ny g1 (CK _ aX (by decide +kernel) (M.step g1.o))).mono ?_;rintro e w343 ⟨⟨B344,z344,j1⟩,A342,c342,rfl,h342⟩;have d4:=zz h342;clear h342;go_wp2_with fail
 refine(ny j1 (xO _ aX aX (by decide +kernel) (by decide +kernel) (M.step j1.o))).mono ?_;rintro e w347 ⟨⟨B348,z348,l1⟩,A346,c346,rfl,h346⟩;have e4:=zz h346;clear h346;go_wp2_with fail
 refine(ny l1 (CK _ xW (by decide +kernel) (M.step l1.o))).mono ?_;rintro e w351 ⟨⟨B352,z352,e6⟩,A350,c350,rfl,h350⟩;have f4:=zz h350;clear h350;obtain⟨g354,off354,x354A,x354l,x354c,x354B,x354u,x354d,rfl,hE354,hx354⟩:=VL.elem0 f4.o;have R7:=zz hx354;clear hx354;have X17:=tr B344 B348;have Z17:=tr X17 B352;have g4:=st aHd c4 Z17;have M17:=tr B348 B352;have h4:=st aIm d4 M17;have i4:=st aIm e4 B352;have j4:=ez4 hE354;go_wp2_with fail
 refine(ny e6 (nQ _ _ _ _ _ _ _ _ _ _ _ _ _ _ _ _ _ _ _ _ _ _ _ g4.o.rat h4.o.rat i4.o.rat R7.o)).mono ?_;rintro e w362 ⟨⟨B364,z364,o1⟩,hr⟩;clear j4;obtain⟨A355,c355,rfl,h355⟩:=kY (n:=2) hr wk8 rfl;have n4:=zz h355;clear h355 hr;go_wp2_with fail
 have N17:=tr B336 B340;have Q17:=tr N17 B344;have P18:=tr Q17 B348;have W18:=tr P18 B352;have Y18:=tr W18 B364;have o4:=st IsC.step Q7 Y18;refine(ny o1 (YB o4.o n4.o pD pD (by decide +kernel) (by decide +kernel) (M.step o1.o))).mono ?_;rintro e w366 ⟨⟨B373,z373,f6⟩,rfl⟩;have X18:=tr B332 B336;have Z18:=tr X18 B340;have M18:=tr Z18 B344;have N18:=tr M18 B348;have Q18:=tr N18 B352;have P19:=tr Q18 B364;have W19:=tr P19 B373;have p4:=st aHd b4 W19;go_wp2_with fail
 refine(ny f6 (fY _ 2)).mono ?_;rintro e w384 ⟨⟨B385,z385,r1⟩,N383,rfl,hN383⟩;go_wp2_with fail
 refine(ny r1 (CK _ aX (by decide +kernel) (M.step r1.o))).mono ?_;rintro e w388 ⟨⟨B389,z389,g6⟩,A387,c387,rfl,h387⟩;have E2:=zz h387;clear h387;go_wp2_with fail
 refine(ny g6 (yF _ E2.o)).mono ?_;rintro e w392 ⟨⟨B393,z393,u1⟩,g391,rfl,h391⟩;have q4:=zz h391;clear h391;go_wp2_with fail
 refine(ny u1 (CK _ aX (by decide +kernel) (M.step u1.o))).mono ?_;rintro e w396 ⟨⟨B397,z397,w1⟩,A395,c395,rfl,h395⟩;have r4:=zz h395;clear h395;go_wp2_with fail
 refine(ny w1 (CK _ aX (by decide +kernel) (M.step w1.o))).mono ?_;rintro e w400 ⟨⟨B401,z401,y1⟩,A399,c399,rfl,h399⟩;have s4:=zz h399;clear h399;go_wp2_with fail
 refine(ny y1 (CK _ LC (by decide +kernel) (M.step y1.o))).mono ?_;rintro e w404 ⟨⟨B405,z405,h6⟩,A403,c403,rfl,h403⟩;have t4:=zz h403;clear h403;obtain⟨g407,off407,x407A,x407l,x407c,x407B,x407u,x407d,rfl,hE407,hx407⟩:=VL.elem0 t4.o;have S7:=zz hx407;clear hx407;have Y19:=tr B397 B401;have X19:=tr Y19 B405;have u4:=st aHd q4 X19;have Z19:=tr B401 B405;have v4:=st aIm r4 Z19;have w4:=st aIm s4 B405;have x4:=ez4 hE407;go_wp2_with fail
 refine(ny h6 (nQ _ _ _ _ _ _ _ _ _ _ _ _ _ _ _ _ _ _ _ _ _ _ _ u4.o.rat v4.o.rat w4.o.rat S7.o)).mono ?_;rintro e w415 ⟨⟨B417,z417,i6⟩,hr⟩;clear x4;obtain rfl:=lR hr wk9;clear hr;go_wp2_with fail
 have M19:=tr B389 B393;have N19:=tr M19 B397;have Q19:=tr N19 B401;have P20:=tr Q19 B405;have W20:=tr P20 B417;have B4:=aNf hN383 W20.o;refine(ny i6 (fW B4)).mono ?_;rintro e w419 ⟨⟨B426,z426,j6⟩,rfl⟩;have Y20:=tr B385 B389;have X20:=tr Y20 B393;have Z20:=tr X20 B397;have M20:=tr Z20 B401;have N20:=tr M20 B405;have Q20:=tr N20 B417;have P21:=tr Q20 B426;have C4:=st aHd p4 P21;go_wp2_with fail
 refine(ny j6 (is2 _)).mono ?_;rintro e w437 ⟨⟨B438,z438,E1⟩,N436,rfl,hN436⟩;have T7:=zz hN436;clear hN436;go_wp2_with fail
 refine(ny E1 (xO _ aX lU (by decide +kernel) (by decide +kernel) (M.step E1.o))).mono ?_;rintro e w441 ⟨⟨B442,z442,G1⟩,A440,c440,rfl,h440⟩;have F2:=zz h440;clear h440;go_wp2_with fail
 refine(ny G1 (xO _ lU aX (by decide +kernel) (by decide +kernel) (M.step G1.o))).mono ?_;rintro e w445 ⟨⟨B446,z446,k6⟩,A444,c444,rfl,h444⟩;have G2:=zz h444;clear h444;go_wp2_with fail
 have H2:=st aIm F2 B446;refine(ny k6 (CQ _ H2.o G2.o)).mono ?_;rintro e w449 ⟨⟨B451,z451,J1⟩,g448,rfl,h448⟩;have D4:=zz h448;clear h448;go_wp2_with fail
 refine(ny J1 (xO _ kD nU (by decide +kernel) (by decide +kernel) (M.step J1.o))).mono ?_;rintro e w454 ⟨⟨B455,z455,L1⟩,A453,c453,rfl,h453⟩;have E4:=zz h453;clear h453;go_wp2_with fail
 refine(ny L1 (xO _ aX aX (by decide +kernel) (by decide +kernel) (M.step L1.o))).mono ?_;rintro e w458 ⟨⟨B459,z459,l6⟩,A457,c457,rfl,h457⟩;have I2:=zz h457;clear h457;go_wp2_with fail
 refine(ny l6 (yF _ I2.o)).mono ?_;rintro e w462 ⟨⟨B463,z463,O1⟩,g461,rfl,h461⟩;have F4:=zz h461;clear h461;go_wp2_with fail
 refine(ny O1 (CK _ aX (by decide +kernel) (M.step O1.o))).mono ?_;rintro e w466 ⟨⟨B467,z467,m6⟩,A465,c465,rfl,h465⟩;have G4:=zz h465;clear h465;have W21:=tr B455 B459;have Y21:=tr W21 B463;have X21:=tr Y21 B467;have H4:=st aHd D4 X21;have Z21:=tr B459 B463;have M21:=tr Z21 B467;have I4:=st aIm E4 M21;have J4:=st aHd F4 B467;go_wp2_with fail
 refine(ny m6 (mJ _ _ _ _ _ _ _ _ _ _ _ _ _ _ _ _ _ H4.o.rat I4.o.rat J4.o.rat G4.o.rat)).mono ?_;rintro e w478 ⟨⟨B479,z479,R1⟩,hr⟩;obtain⟨A469,c469,rfl,h469⟩:=kY (n:=2) hr wk10 rfl;have K4:=zz h469;clear h469 hr;go_wp2_with fail
 have N21:=tr B442 B446;have Q21:=tr N21 B451;have P22:=tr Q21 B455;have W22:=tr P22 B459;have Y22:=tr W22 B463;have X22:=tr Y22 B467;have Z22:=tr X22 B479;have L4:=st IsC.step T7 Z22;refine(ny R1 (YB L4.o K4.o lU aX (by decide +kernel) (by decide +kernel) (M.step R1.o))).mono ?_;rintro e w481 ⟨⟨B490,z490,T1⟩,rfl⟩;have M22:=tr B438 B442;have N22:=tr M22 B446;have Q22:=tr N22 B451;have P23:=tr Q22 B455;have W23:=tr P23 B459;have Y23:=tr W23 B463;have X23:=tr Y23 B467;have Z23:=tr X23 B479;have M23:=tr Z23 B490;have y7:=st aHd C4 M23;go_wp2_with fail
 refine(ny T1 (xO _ aX lU (by decide +kernel) (by decide +kernel) (M.step T1.o))).mono ?_;rintro e w503 ⟨⟨B504,z504,n6⟩,A502,c502,rfl,h502⟩;have M4:=zz h502;clear h502;go_wp2_with fail
 refine(ny n6 (yF _ M4.o)).mono ?_;rintro e w507 ⟨⟨B508,z508,W1⟩,g506,rfl,h506⟩;have n0:=zz h506;clear h506;go_wp2_with fail
 refine(ny W1 (xO _ lU aX (by decide +kernel) (by decide +kernel) (M.step W1.o))).mono ?_;rintro e w511 ⟨⟨B512,z512,Y1⟩,A510,c510,rfl,h510⟩;have N4:=zz h510;clear h510;go_wp2_with fail
 refine(ny Y1 (xO _ lU iN (by decide +kernel) (by decide +kernel) (M.step Y1.o))).mono ?_;rintro e w515 ⟨⟨B516,z516,o6⟩,A514,c514,rfl,h514⟩;have O4:=zz h514;clear h514;go_wp2_with fail
 have P4:=st aIm N4 B516;refine(ny o6 (CQ _ P4.o O4.o)).mono ?_;rintro e w519 ⟨⟨B521,z521,p6⟩,g518,rfl,h518⟩;have s0:=zz h518;clear h518;have N23:=tr B512 B516;have Q23:=tr N23 B521;have o0:=st aHd n0 Q23;go_wp2_with fail
 refine(ny p6 (is2 _)).mono ?_;rintro e w527 ⟨⟨B528,z528,d2⟩,N526,rfl,hN526⟩;have U7:=zz hN526;clear hN526;go_wp2_with fail
 refine(ny d2 (CK _ aX (by decide +kernel) (M.step d2.o))).mono ?_;rintro e w531 ⟨⟨B532,z532,f2⟩,A530,c530,rfl,h530⟩;have Q4:=zz h530;clear h530;go_wp2_with fail
 refine(ny f2 (xO _ aX iN (by decide +kernel) (by decide +kernel) (M.step f2.o))).mono ?_;rintro e w535 ⟨⟨B536,z536,q6⟩,A534,c534,rfl,h534⟩;have R4:=zz h534;clear h534;have P24:=tr B528 B532;have W24:=tr P24 B536;have e0:=st aHd o0 W24;have S4:=st aIm Q4 B536;have h0:=st aHd s0 W24;go_wp2_with fail
 refine(ny q6 (mJ _ _ _ _ _ _ _ _ _ _ _ _ _ _ _ _ _ e0.o.rat S4.o.rat h0.o.rat R4.o.rat)).mono ?_;rintro e w544 ⟨⟨B545,z545,i2⟩,hr⟩;obtain⟨A538,c538,rfl,h538⟩:=kY (n:=2) hr wk11 rfl;have T4:=zz h538;clear h538 hr;go_wp2_with fail
 have Y24:=tr B532 B536;have X24:=tr Y24 B545;have U4:=st IsC.step U7 X24;refine(ny i2 (YB U4.o T4.o aX aX (by decide +kernel) (by decide +kernel) (M.step i2.o))).mono ?_;rintro e w547 ⟨⟨B551,z551,r6⟩,rfl⟩;have Z24:=tr B545 B551;have p0:=st aHd e0 Z24;have t0:=st aHd h0 Z24;go_wp2_with fail
 refine(ny r6 (fY _ 4)).mono ?_;rintro e w557 ⟨⟨B558,z558,l2⟩,N556,rfl,hN556⟩;go_wp2_with fail
 refine(ny l2 (CK _ aX (by decide +kernel) (M.step l2.o))).mono ?_;rintro e w561 ⟨⟨B562,z562,n2⟩,A560,c560,rfl,h560⟩;have V4:=zz h560;clear h560;go_wp2_with fail
 refine(ny n2 (xO _ aX kD (by decide +kernel) (by decide +kernel) (M.step n2.o))).mono ?_;rintro e w565 ⟨⟨B566,z566,s6⟩,A564,c564,rfl,h564⟩;have W4:=zz h564;clear h564;have M24:=tr B558 B562;have N24:=tr M24 B566;have f0:=st aHd p0 N24;have X4:=st aIm V4 B566;have i0:=st aHd t0 N24;go_wp2_with fail
 refine(ny s6 (mJ _ _ _ _ _ _ _ _ _ _ _ _ _ _ _ _ _ f0.o.rat X4.o.rat i0.o.rat W4.o.rat)).mono ?_;rintro e w574 ⟨⟨B575,z575,t6⟩,hr⟩;obtain rfl:=lR hr aDd;clear hr;go_wp2_with fail
 have Q24:=tr B562 B566;have P25:=tr Q24 B575;have Y4:=aNf hN556 P25.o;refine(ny t6 (fW Y4)).mono ?_;rintro e w577 ⟨⟨B581,z581,u6⟩,rfl⟩;have W25:=tr B575 B581;have q0:=st aHd f0 W25;have u0:=st aHd i0 W25;go_wp2_with fail
 refine(ny u6 (fY _ 7)).mono ?_;rintro e w587 ⟨⟨B588,z588,s2⟩,N586,rfl,hN586⟩;go_wp2_with fail
 refine(ny s2 (CK _ aX (by decide +kernel) (M.step s2.o))).mono ?_;rintro e w591 ⟨⟨B592,z592,u2⟩,A590,c590,rfl,h590⟩;have Z4:=zz h590;clear h590;go_wp2_with fail
 refine(ny u2 (xO _ aX lU (by decide +kernel) (by decide +kernel) (M.step u2.o))).mono ?_;rintro e w595 ⟨⟨B596,z596,v6⟩,A594,c594,rfl,h594⟩;have J2:=zz h594;clear h594;go_wp2_with fail
 refine(ny v6 (yF _ J2.o)).mono ?_;rintro e w599 ⟨⟨B600,z600,y2⟩,g598,rfl,h598⟩;have a5:=zz h598;clear h598;go_wp2_with fail
 refine(ny y2 (CK _ aX (by decide +kernel) (M.step y2.o))).mono ?_;rintro e w603 ⟨⟨B604,z604,x6⟩,A602,c602,rfl,h602⟩;have b5:=zz h602;clear h602;have Y25:=tr B588 B592;have X25:=tr Y25 B596;have Z25:=tr X25 B600;have M25:=tr Z25 B604;have g0:=st aHd q0 M25;have N25:=tr B596 B600;have Q25:=tr N25 B604;have d5:=st aIm Z4 Q25;have e5:=st aHd a5 B604;go_wp2_with fail
 refine(ny x6 (mJ _ _ _ _ _ _ _ _ _ _ _ _ _ _ _ _ _ g0.o.rat d5.o.rat e5.o.rat b5.o.rat)).mono ?_;rintro e w616 ⟨⟨B617,z617,y6⟩,hr⟩;obtain rfl:=lR hr aCf;clear hr;go_wp2_with fail
 have P26:=tr B592 B596;have W26:=tr P26 B600;have Y26:=tr W26 B604;have X26:=tr Y26 B617;have f5:=aNf hN586 X26.o;refine(ny y6 (fW f5)).mono ?_;rintro e w619 ⟨⟨B625,z625,z6⟩,rfl⟩;have Z26:=tr B617 B625;have E6:=st aHd g0 Z26;have M26:=tr M25 B617;have N26:=tr M26 B625;have Q6:=st aHd u0 N26;go_wp2;go_ret;exact⟨z6.o,rfl⟩
end Go.Proofs.YtencnahjgbdeoaaGreatDoor
