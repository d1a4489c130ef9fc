/- The law LinearWithin, walked (written by gen_within.py). -/
import Derived.Test.YtdigbofiebfkeaaGreatDoorWc
import Derived.Test.YtdigbofiebfkeaaGreatDoorWs
import Derived.Test.YtdigbofiebfkeaaGreatDoorWt
import Derived.Test.YtdigbofiebfkeaaGreatDoorLy
import Derived.Test.YtdigbofiebfkeaaGreatDoorQKz
namespace Go.Proofs.YtdigbofiebfkeaaGreatDoor
open Go Go.RowKit Dig
set_option maxRecDepth 100000
set_option maxHeartbeats 4000000
set_option linter.unusedSimpArgs false
theorem EQz.free:Elem.Free EQ:=by
 rintro w B cs a ⟨c0,c1,c2,c3,rfl,A,l,c,A',l',c',e,-,-⟩ v hv;injection e with e
 simp at e
 obtain⟨rfl,rfl,rfl,rfl⟩:=e;simp at hv
 rcases hv with rfl | rfl | rfl | rfl <;> rfl
theorem OB.elem4 {T:TypeId} {w:World} {g n j:Nat} {l:List Rat} (h:OB 4 EQ T w g n (l.map qx)) (hn:n≤9223372036854775807) (hj:j<l.length):∃ xA xl xc xB xu xd,E4 w g (j*4) (.bool (qx (l.getD j 0)).1.1) (.slice xA xl xc) (.bool (qx (l.getD j 0)).2.1) (.slice xB xu xd)∧QV w w.heap.size (.agg #[.bool (qx (l.getD j 0)).1.1,.slice xA xl xc,.bool (qx (l.getD j 0)).2.1,.slice xB xu xd]) (l.getD j 0):=by
 obtain⟨g',off,xA,xl,xc,xB,xu,xd,e,-,h1,h2⟩:=QS.elem (h.sl h.len hn) (j:=j) (by simpa using hj);injection e with e;injection e with e1 e2;subst e1;subst e2
 simp only[List.getElem_map] at h1 h2
 rw[← getD_is (d:=0) hj,Nat.zero_add] at h1;rw[← getD_is (d:=0) hj] at h2;exact⟨xA,xl,xc,xB,xu,xd,h1,QR.qv h2⟩
theorem QSub_ok {w:World} {va vb:Value} {q r:Rat} (ha:QV w w.heap.size va q) (hb:QV w w.heap.size vb r) (lq:QL 600 600 q) (lr:QL 600 600 r) (l:QL 600 600 (q-r)) :
  Calls Tryz.prog 11 #[va,vb] w fun e w'=>Below w.heap.size w w'∧∃ v,e=.returned (.tuple #[v,.int .i64 0])∧QV w' w'.heap.size v (q-r):=by
 have h:=QSub_good w va vb q r ha hb lq lr;rw[toldQ_lit rfl l] at h;exact h
theorem rowsD_one (N D:List Int) (k m:Nat) (h:1≤m):((rowsD N D k m).map (List.map qx)).take 1=(rowsD N D k 1).map (List.map qx):=by
 unfold rowsD;rw[← List.map_take,← List.map_take,List.take_range,Nat.min_eq_left h]
theorem listD_one (N D:List Int) (g m:Nat) (h:1≤m):((listD N D g m).map qx).take 1=(listD N D g 1).map qx:=by
 unfold listD;rw[← List.map_take,← List.map_take,List.take_range,Nat.min_eq_left h]
theorem VM.take1 {w:World} {A:Option Addr} {m c k:Nat} {N D:List Int} (h:VM w w.heap.size (.slice A m c) (rowsD N D k m)) (hm:1≤m):VM w w.heap.size (.slice A 1 c) (rowsD N D k 1):=by
 have h1:=SL.take (n:=1) h (by rw[List.length_map,rowsD_len];exact hm)
 rwa [rowsD_one N D k m hm] at h1
theorem VL.take1 {w:World} {A:Option Addr} {m c g:Nat} {N D:List Int} (h:VL w w.heap.size (.slice A m c) (listD N D g m)) (hm:1≤m):VL w w.heap.size (.slice A 1 c) (listD N D g 1):=by
 have h1:=SL.take (n:=1) h (by rw[List.length_map,listD_len];exact hm)
 rwa [listD_one N D g m hm] at h1
theorem LinearWithin_any (w:World) (_G:Glob w) (M:MaxL w) (v:Value) (r c:Int) (N D:List Int) (h:DV w w.heap.size v r c N D) (v2:Value) (r2 c2:Int) (N2 D2:List Int) (h2:DV w w.heap.size v2 r2 c2 N2 D2) (i:Int) (hi0:0≤i) (hi1:i≤255) (j:Int) (hj0:0≤j) (hj1:j≤255) :
  Calls Tryz.prog 3 #[v,v2,.int .u8 i,.int .u8 j] w fun e w'=>Below w.heap.size w w'∧e=.returned (.bool true):=by
 obtain⟨A,ca,A',ca',rfl,h0⟩:=h.parts;obtain⟨B,cb,B',cb',rfl,h02⟩:=h2.parts;obtain⟨n,hn⟩:∃ n:Nat,1+(r % 6).toNat=n:=⟨_,rfl⟩;obtain⟨k,hk⟩:∃ k:Nat,1+(c % 4).toNat=k:=⟨_,rfl⟩;obtain⟨m,hm⟩:∃ m:Nat,1+(r2 % 4).toNat=m:=⟨_,rfl⟩;have HK:=zz (show 1≤k∧k≤4 by omega);have HN:=zz (show 1≤n∧n≤6 by omega);have x4:=zz (show 1≤m∧m≤4 by omega);have u5:=zz (And.intro hn (And.intro hk hm));have n5:=zz (And.intro hi0 (And.intro hi1 (And.intro hj0 hj1)));have HM:=zz M;have X5:=zz h;have Y5:=zz h2;clear h h2 h0 h02 hn hk hm M hi0 hi1 hj0 hj1;obtain⟨w0,hw0⟩:∃ w0:World,w0=((w.alloc (.cells #[.int .u8 r,.int .u8 c,.slice A N.length ca,.slice A' D.length ca'] 25)).alloc (.cells #[.int .u8 r2,.int .u8 c2,.slice B N2.length cb,.slice B' D2.length cb'] 25)):=⟨_,rfl⟩;have B0:=zz (n2_b hw0);have z0:=n2_z hw0;have Ldd:=n2_0 hw0;have Ldc:=n2_1 hw0;go_enter Tryz.func3,Tryz.ntmps3
 go_upto_region 1 with (fail)
 rw[← hw0];clear hw0;go_wp2_with fail
 refine(works35 _ (HM.out.step B0.out)).mono ?_;rintro e w1 ⟨E0,rfl⟩;have B2:=zz E0;have z2:=B2.out.size;have o1:=tr B0 B2;clear E0;have k0:=CB.step Ldd B2.out;have N3:=k0.cell 0 rfl;have O3:=k0.cell 1 rfl;have P3:=k0.cell 2 rfl;have Q3:=k0.cell 3 rfl;have H5:=k0.lt;have l0:=CB.step Ldc B2.out;have R3:=l0.cell 0 rfl;have S3:=l0.cell 1 rfl;have T3:=l0.cell 2 rfl;have U3:=l0.cell 3 rfl;have I5:=l0.lt;go_wp2_with fail
 refine(system_any _ _ r c N D (X5.out.step o1.out) _ r2 c2 N2 D2 (Y5.out.step o1.out) n k m u5.out.1 u5.out.2.1 u5.out.2.2).mono ?_;rintro e w4 ⟨M3,ga,oa,sa,gb,ob,sb,A1,s1,A2,s2,A3,s3,m0,A4,l4,s4,m5,A5,l5,s5,rfl,e1,e2,e3,-,e5,-⟩;have B9:=zz M3;have z9:=B9.out.size;have V3:=tr o1 B9;clear M3;clear N3 O3 P3 Q3 H5 R3 S3 T3 U3 I5;obtain⟨gf,of,rfl,-⟩:=SL.addr e5.rat (by rw[List.length_map,listD_len];have:=x4.out;omega);have E1:=zz e1;have E2:=zz e2;have E3:=zz e3;have E5:=zz e5;clear e1 e2 e3 e5;go_upto_region 4 with (fail)
 obtain⟨w11,y0⟩:∃ w11:World,w11=(w4.alloc (.cells #[.slice (some ⟨ga,oa,none⟩) n sa,.slice (some ⟨gb,ob,none⟩) m sb,.slice A1 n s1,.slice A2 k s2,.slice (some ⟨gf,of,none⟩) m s3,.bool m0,.slice A4 l4 s4,.bool m5,.slice A5 l5 s5] 35)):=⟨_,rfl⟩;rw[← y0];have e0:=n1_0 y0;have za11:=n1_z y0;have B12:=zz (n1_b y0);have z12:=B12.out.size;have W3:=tr V3 B12;clear y0;have x2:=e0.cell 0 rfl;have y2:=e0.cell 1 rfl;have C2:=e0.cell 2 rfl;have F2:=e0.cell 3 rfl;have G2:=e0.cell 4 rfl;have H2:=e0.cell 5 rfl;have I2:=e0.cell 6 rfl;have J2:=e0.cell 7 rfl;have K2:=e0.cell 8 rfl;have v5:=e0.lt;go_wp2_with fail
 have u0:=zz (VM.step E1.out B12.out);have v0:=zz (VL.step E3.out B12.out);have W0:=zz (VM.step E2.out B12.out);have X0:=zz (VL.step E5.out B12.out);refine(LBound_any _ _ _ _ _ _ _ _ _ _ _ _ _ _ _ _ _ u0.out.rat v0.out.rat W0.out.rat X0.out.rat).mono ?_;rintro e w14 ⟨p1,hr⟩;have B20:=zz p1;have z20:=B20.out.size;have V0:=tr W3 B20;clear p1;clear x2 y2 C2 F2 G2 H2 I2 J2 K2 v5;rcases bound_is (N:=N) (D:=D) (N2:=N2) (D2:=D2) (f:=11) (g:=3) HK.out.1 HK.out.2 HN.out.1 HN.out.2 x4.out.1 x4.out.2 with ⟨hq,-⟩ | hq | ⟨x,hq,hx1,hx2,hx3,-⟩
 ·obtain rfl:=ret_err hr hq;clear hr hq;go_wp2;go_ret;exact⟨V0.out,rfl⟩
 ·obtain rfl:=ret_err hr hq;clear hr hq;go_wp2;go_ret;exact⟨V0.out,rfl⟩
 ·obtain⟨AX,cX,rfl,h8⟩:=ret_list (n:=k) hr hq hx1;have HX:=zz h8;have o5:=zz (And.intro hx1 (And.intro hx2 hx3));clear h8 hr hq hx1 hx2 hx3;have Z5:=zz (within_holds (g:=3) HK.out.1 HK.out.2 o5.out.1 o5.out.2.1 o5.out.2.2);have f0:=CB.step e0 B20.out;have L2:=f0.cell 0 rfl;have M2:=f0.cell 1 rfl;have O2:=f0.cell 2 rfl;have P2:=f0.cell 3 rfl;have Q2:=f0.cell 4 rfl;have R2:=f0.cell 5 rfl;have S2:=f0.cell 6 rfl;have T2:=f0.cell 7 rfl;have U2:=f0.cell 8 rfl;have w5:=f0.lt;go_wp2_with fail
  have Y0:=zz (VM.step W0.out B20.out);have Z0:=zz (VL.step X0.out B20.out);refine(holds_any _ _ _ _ _ _ _ _ _ _ _ _ _ Y0.out HX.out Z0.out Z5.out).mono ?_;rintro e w22 ⟨q1,rfl⟩;have B27:=zz q1;have z27:=B27.out.size;have r1:=tr V0 B27;clear q1;clear L2 M2 O2 P2 Q2 R2 S2 T2 U2 w5;have F0:=zz (VM.step Y0.out B27.out);obtain⟨A0,c0,hg0,hc0,hl0⟩:=VM.head0 (k:=k) F0.out (rowsD_wide k m) (by rw[rowsD_len];have:=x4.out;omega);rw[rowsD_at (show 0<m by have:=x4.out;omega),Nat.mul_zero] at hl0;have o6:=zz hg0;have p6:=zz hc0;have a6:=zz hl0;clear hg0 hl0;have hm0:(0:Int)<(m:Int):=by have:=x4.out;omega
  have hm0':0<m:=by have:=x4.out;omega
  have a0:=CB.step f0 B27.out;have V2:=a0.cell 0 rfl;have W2:=a0.cell 1 rfl;have X2:=a0.cell 2 rfl;have Y2:=a0.cell 3 rfl;have Z2:=a0.cell 4 rfl;have a3:=a0.cell 5 rfl;have b3:=a0.cell 6 rfl;have g3:=a0.cell 7 rfl;have i3:=a0.cell 8 rfl;have x5:=a0.lt;go_upto_region 10 with (fail)
  clear V2 W2 X2 Y2 Z2 a3 b3 g3 i3 x5;clear hc0 hm0 hm0';have a1:=zz (VL.step Z0.out B27.out);obtain⟨-,hmb1,hmb2⟩:=SL.len F0.out.rat;obtain⟨-,hmf1,hmf2⟩:=SL.len a1.out.rat;have hm1:=x4.out;have E0:(1:Int)≤(sb:Int):=by omega
  have hf1:(1:Int)≤(s3:Int):=by omega
  have hm2:(1:Int)≤(m:Int):=by omega
  have E21:=zz (VM.take1 F0.out x4.out.1);have E51:=zz (VL.take1 a1.out x4.out.1);rcases bound_is (N:=N) (D:=D) (N2:=N2) (D2:=D2) (f:=11) (g:=3) (m:=1) HK.out.1 HK.out.2 HN.out.1 HN.out.2 (by decide) (by decide) with ⟨-,hq⟩ | hq | ⟨x1,hq,hx1,hx2,hx3,hx4⟩
  ·exact absurd (sol_first x4.out.1 o5.out.2.1) (hq x)
  ·have HQ:=zz hq;clear hq;refine Sweep.run [se 0 64 [] (.pointer (some ⟨w4.heap.size,0,none⟩)),se 1 65 [0] (.slice (some ⟨ga,oa,none⟩) n sa),se 2 66 [] (.pointer (some ⟨w4.heap.size,2,none⟩)),se 3 67 [2] (.slice A1 n s1),se 4 68 [] (.pointer (some ⟨w4.heap.size,1,none⟩)),se 5 69 [4] (.slice (some ⟨gb,ob,none⟩) m sb),se 6 70 [5] (.slice (some ⟨gb,ob,none⟩) 1 sb),se 7 71 [] (.pointer (some ⟨w4.heap.size,4,none⟩)),se 8 72 [7] (.slice (some ⟨gf,of,none⟩) m s3),se 9 73 [8] (.slice (some ⟨gf,of,none⟩) 1 s3),se 10 74 [1,3,6,9] (.tuple #[.slice none 0 0,.int .i64 7]),se 11 63 [10] (.tuple #[.slice none 0 0,.int .i64 7]),se 12 75 [11] (.slice none 0 0)] [se 13 76 [11] (.int .i64 7)] [] 2 (SC (v:=.slice (some ⟨ga,oa,none⟩) n sa) (fun _ h=>(CB.step a0 h).cell 0 rfl) (SC (v:=.slice A1 n s1) (fun _ h=>(CB.step a0 h).cell 2 rfl) (SC (v:=.slice (some ⟨gb,ob,none⟩) m sb) (fun _ h=>(CB.step a0 h).cell 1 rfl) (SC (v:=.slice (some ⟨gf,of,none⟩) m s3) (fun _ h=>(CB.step a0 h).cell 4 rfl) S0)))) trivial ?_ ?_ ?_
   ·intro xs a_ hA;simp only[SX] at hA
    iterate 13 (refine ac ?_ ?_;rotate_left)
    exact all_nil
    all_goals (intro wk hb;simp only[SX,↓reduceIte,Nat.reduceEqDiff,Nat.reduceAdd];have b_:=zz hb;have z_:=hb.size;clear hb;subst hA)
    all_goals try (intros;refine wpOp_step rfl ?_;intro K hK;go_simp;refine hK _ _ ⟨_,?_,Below.refl _ _,rfl,nF⟩;simp only[*,FL] <;> kernel_rfl)
    ·intro f1 f3 f6 f9;intros;refine wpOp_step (o:=_) rfl (fun K hK=>?_);go_simp;have P4_6_33:=tr B20 B27;have P4_7_34:=tr P4_6_33 b_;have j3:=zz (VM.step u0.out P4_7_34.out);have k3:=zz (VL.step v0.out P4_7_34.out);have t1:=zz (VM.step E21.out b_.out);have u1:=zz (VL.step E51.out b_.out);(with_reducible refine(LBound_any _ _ _ _ _ _ _ _ _ _ _ _ _ _ _ _ _ j3.out.rat k3.out.rat t1.out.rat u1.out.rat).mono ?_)
     rintro e wc39 ⟨X3,hr39⟩;obtain rfl:=ret_err hr39 HQ.out;refine hK _ _ ⟨.tuple #[.slice none 0 0,.int .i64 7],by simp only[FL,f1,f3,f6,f9] <;> kernel_rfl,X3,rfl,nF⟩
   ·intro xs a_ hA;simp only[SX] at hA;refine(ac ?_ all_nil)
    all_goals (intro wk hb;simp only[SX,↓reduceIte,Nat.reduceEqDiff,Nat.reduceAdd];have b_:=zz hb;have z_:=hb.size;clear hb;subst hA)
    any_goals (intros;refine⟨_,_,rfl,Or.inl ⟨by rfl,fun w=>?_⟩,rfl⟩;go_simp)
   ·intro xs m6 hbf hn hd;simp only[SY];clear hn hd;have B41:=zz hbf;have z41:=B41.out.size;have Y3:=tr r1 B41;clear hbf;refine EN 14 rfl fun K hK=>?_
    go_simp;refine hK _ _ ?_;clear hK K;(try simp only[PT])
    refine EN 15 rfl fun K hK=>?_
    go_simp;refine hK _ _ ?_;clear hK K;(try simp only[PT])
    refine ED ?_;(try simp only[Exit.then])
    go_wp2;go_ret;exact⟨Y3.out,rfl⟩
  ·have HQ:=zz hq;have r4:=zz (And.intro hx1 (And.intro hx2 (And.intro hx3 hx4)));clear hq hx1 hx2 hx3 hx4;refine Sweep.run [se 0 64 [] (.pointer (some ⟨w4.heap.size,0,none⟩)),se 1 65 [0] (.slice (some ⟨ga,oa,none⟩) n sa),se 2 66 [] (.pointer (some ⟨w4.heap.size,2,none⟩)),se 3 67 [2] (.slice A1 n s1),se 4 68 [] (.pointer (some ⟨w4.heap.size,1,none⟩)),se 5 69 [4] (.slice (some ⟨gb,ob,none⟩) m sb),se 6 70 [5] (.slice (some ⟨gb,ob,none⟩) 1 sb),se 7 71 [] (.pointer (some ⟨w4.heap.size,4,none⟩)),se 8 72 [7] (.slice (some ⟨gf,of,none⟩) m s3),se 9 73 [8] (.slice (some ⟨gf,of,none⟩) 1 s3),sf 10 74 [1,3,6,9] (fun fv fw=>∃ A c,fv=.tuple #[.slice A k c,.int .i64 0]∧VL fw fw.heap.size (.slice A k c) x1),sf 11 63 [10] (fun fv fw=>∃ A c,fv=.tuple #[.slice A k c,.int .i64 0]∧VL fw fw.heap.size (.slice A k c) x1),sf 12 75 [11] (fun fv fw=>∃ A c,fv=.slice A k c∧VL fw fw.heap.size (.slice A k c) x1)] [se 13 76 [11] (.int .i64 0)] [] 2 (SC (v:=.slice (some ⟨ga,oa,none⟩) n sa) (fun _ h=>(CB.step a0 h).cell 0 rfl) (SC (v:=.slice A1 n s1) (fun _ h=>(CB.step a0 h).cell 2 rfl) (SC (v:=.slice (some ⟨gb,ob,none⟩) m sb) (fun _ h=>(CB.step a0 h).cell 1 rfl) (SC (v:=.slice (some ⟨gf,of,none⟩) m s3) (fun _ h=>(CB.step a0 h).cell 4 rfl) S0)))) (MA (fun _ _ _ h hb=>let ⟨A,c,e,h⟩:=h;⟨A,c,e,VL.step h hb⟩) (MA (fun _ _ _ h hb=>let ⟨A,c,e,h⟩:=h;⟨A,c,e,VL.step h hb⟩) (MA (fun _ _ _ h hb=>let ⟨A,c,e,h⟩:=h;⟨A,c,e,VL.step h hb⟩) trivial))) ?_ ?_ ?_
   ·intro xs a_ hA;simp only[SX] at hA
    iterate 13 (refine ac ?_ ?_;rotate_left)
    exact all_nil
    all_goals (intro wk hb;simp only[SX,↓reduceIte,Nat.reduceEqDiff,Nat.reduceAdd];have b_:=zz hb;have z_:=hb.size;clear hb;subst hA)
    all_goals try (intros;refine wpOp_step rfl ?_;intro K hK;go_simp;refine hK _ _ ⟨_,?_,Below.refl _ _,rfl,nF⟩;simp only[*,FL] <;> kernel_rfl)
    ·intro f1 f3 f6 f9;intros;refine wpOp_step (o:=_) rfl (fun K hK=>?_);go_simp;have P4_6_43:=tr B20 B27;have P4_7_44:=tr P4_6_43 b_;have l3:=zz (VM.step u0.out P4_7_44.out);have m3:=zz (VL.step v0.out P4_7_44.out);have v1:=zz (VM.step E21.out b_.out);have y1:=zz (VL.step E51.out b_.out);(with_reducible refine(LBound_any _ _ _ _ _ _ _ _ _ _ _ _ _ _ _ _ _ l3.out.rat m3.out.rat v1.out.rat y1.out.rat).mono ?_)
     rintro e wc49 ⟨Z3,hr49⟩;obtain⟨A49,c49,rfl,h49⟩:=ret_list (n:=k) hr49 HQ.out r4.out.1;refine hK _ _ ⟨.tuple #[.slice A49 k c49,.int .i64 0],by simp only[FL,f1,f3,f6,f9] <;> kernel_rfl,Z3,⟨A49,c49,rfl,h49⟩,nF⟩
    ·intro f10;intros;refine wpOp_step (o:=_) rfl (fun K hK=>?_);go_simp;refine hK _ _ ⟨xs 10,by kernel_rfl,Below.refl _ _,f10,nF⟩
    ·intro f11;intros;refine wpOp_step (o:=_) rfl (fun K hK=>?_);obtain⟨A,c,hu,hl⟩:=f11;rw[hu];go_simp;refine hK _ _ ⟨.slice A k c,by simp only[FL,hu] <;> kernel_rfl,Below.refl _ _,⟨A,c,rfl,hl⟩,nF⟩
   ·intro xs a_ hA;simp only[SX] at hA;refine(ac ?_ all_nil)
    all_goals (intro wk hb;simp only[SX,↓reduceIte,Nat.reduceEqDiff,Nat.reduceAdd];have b_:=zz hb;have z_:=hb.size;clear hb;subst hA)
    ·intro f11;skip;obtain⟨A,c,hu,-⟩:=f11;refine⟨_,.int .i64 0,rfl,Or.inl ⟨by rfl,fun w=>?_⟩,rfl⟩
     try simp only[FL]
     rw[hu];go_simp
   ·intro xs v4 hbf hn hd;simp only[SY];clear hn hd;have B51:=zz hbf;have z51:=B51.out.size;have a4:=tr r1 B51;clear hbf;generalize xs 10=x10,xs 11=x11,xs 12=x12;rintro f10 f11 f12;clear f10;clear f11;obtain⟨AW,cW,rfl,h9⟩:=f12;have L5:=zz h9;clear h9;refine EN 14 rfl fun K hK=>?_
    go_simp;refine hK _ _ ?_;clear hK K;(try simp only[PT])
    refine EN 15 rfl fun K hK=>?_
    go_simp;refine hK _ _ ?_;clear hK K;(try simp only[PT])
    refine ED ?_;(try simp only[Exit.then])
    have V5:=zz E0;have W5:=zz hf1;clear E0 hf1 hm1 hm2 hmb1 hmb2 hmf1 hmf2;obtain⟨ki,hki⟩:∃ q:Nat,(i % (k:Int)).toNat=q:=⟨_,rfl⟩;obtain⟨li,hli⟩:∃ q:Nat,(j % (k:Int)).toNat=q:=⟨_,rfl⟩;have hki1:ki<k:=by have h1:=HK.out;have h2:=Int.emod_lt_of_pos i (show(0:Int)<(k:Int) by omega);have h3:=Int.emod_nonneg i (show(k:Int)≠0 by omega);omega
    have hki2:Int.tmod i (k:Int)=(ki:Int):=by have h0:=n5.out;rw[Int.tmod_eq_emod_of_nonneg (by omega),← hki];have h1:=HK.out;have h3:=Int.emod_nonneg i (show(k:Int)≠0 by omega);omega
    have hki3:IntKind.i64.wrap i=i:=by have h0:=n5.out;unfold IntKind.wrap;simp only[IntKind.bits,IntKind.signed];simp;omega
    have hki4:IntKind.i64.wrap (ki:Int)=(ki:Int):=by have h1:=HK.out;unfold IntKind.wrap;simp only[IntKind.bits,IntKind.signed];simp;omega
    have hli1:li<k:=by have h1:=HK.out;have h2:=Int.emod_lt_of_pos j (show(0:Int)<(k:Int) by omega);have h3:=Int.emod_nonneg j (show(k:Int)≠0 by omega);omega
    have hli2:Int.tmod j (k:Int)=(li:Int):=by have h0:=n5.out;rw[Int.tmod_eq_emod_of_nonneg (by omega),← hli];have h1:=HK.out;have h3:=Int.emod_nonneg j (show(k:Int)≠0 by omega);omega
    have hli3:IntKind.i64.wrap j=j:=by have h0:=n5.out;unfold IntKind.wrap;simp only[IntKind.bits,IntKind.signed];simp;omega
    have hli4:IntKind.i64.wrap (li:Int)=(li:Int):=by have h1:=HK.out;unfold IntKind.wrap;simp only[IntKind.bits,IntKind.signed];simp;omega
    have hun:((k:Int)=0)=False:=by have:=HK.out;simp;omega
    have hun':(k=0)=False:=by have:=HK.out;simp;omega
    clear hki hli;go_upto_region 13 with (fail)
    have G0:=CB.step a0 B51.out;have t4:∀ w':World,Below v4.heap.size v4 w'→(Below v4.heap.size v4 w'∧w'.cell? ⟨w4.heap.size,3,none⟩=some (.slice A2 k s2)):=fun w' h=>⟨h,(CB.step G0 h).cell 3 rfl⟩
    refine Early.start 12 (fun w'=>Below v4.heap.size v4 w'∧w'.cell? ⟨w4.heap.size,3,none⟩=some (.slice A2 k s2)) (by kernel_rfl) ?_;refine Early.take (i:=0) (.int .u8 i) rfl (by kernel_rfl) (by kernel_rfl) (by kernel_rfl) (by kernel_rfl) (by kernel_rfl) (fun _ _ _ h=>h) (Or.inl ⟨by rfl,?_⟩) ?_ ?_
    ·intro w' hSw;obtain⟨-,t0⟩:=hSw;go_simp
    ·exact t4 _ (below_drew1 (Below.refl _ _))
    (try simp only[PT])
    refine Early.take (i:=1) (.int .i64 i) rfl (by kernel_rfl) (by kernel_rfl) (by kernel_rfl) (by kernel_rfl) (by kernel_rfl) (fun _ _ _ h=>h) (Or.inl ⟨by rfl,?_⟩) ?_ ?_
    ·intro w' hSw;obtain⟨-,t0⟩:=hSw;go_simp
    ·exact t4 _ (below_drew1 (Below.refl _ _))
    (try simp only[PT])
    refine Early.take (i:=2) (.slice A0 k c0) rfl (by kernel_rfl) (by kernel_rfl) (by kernel_rfl) (by kernel_rfl) (by kernel_rfl) (fun _ _ _ h=>h) (Or.inl ⟨by rfl,?_⟩) ?_ ?_
    ·intro w' hSw;obtain⟨-,t0⟩:=hSw;go_simp
    ·exact t4 _ (below_drew1 (Below.refl _ _))
    (try simp only[PT])
    refine Early.take (i:=3) (.int .i64 (k:Int)) rfl (by kernel_rfl) (by kernel_rfl) (by kernel_rfl) (by kernel_rfl) (by kernel_rfl) (fun _ _ _ h=>h) (Or.inl ⟨by rfl,?_⟩) ?_ ?_
    ·intro w' hSw;obtain⟨-,t0⟩:=hSw;go_simp
    ·exact t4 _ (below_drew1 (Below.refl _ _))
    (try simp only[PT])
    refine Early.take (i:=4) (.int .i64 (ki:Int)) rfl (by kernel_rfl) (by kernel_rfl) (by kernel_rfl) (by kernel_rfl) (by kernel_rfl) (fun _ _ _ h=>h) (Or.inl ⟨by rfl,?_⟩) ?_ ?_
    ·intro w' hSw;obtain⟨-,t0⟩:=hSw;go_simp
    ·exact t4 _ (below_drew1 (Below.refl _ _))
    (try simp only[PT])
    refine Early.take (i:=5) (.int .u8 j) rfl (by kernel_rfl) (by kernel_rfl) (by kernel_rfl) (by kernel_rfl) (by kernel_rfl) (fun _ _ _ h=>h) (Or.inl ⟨by rfl,?_⟩) ?_ ?_
    ·intro w' hSw;obtain⟨-,t0⟩:=hSw;go_simp
    ·exact t4 _ (below_drew1 (Below.refl _ _))
    (try simp only[PT])
    refine Early.take (i:=6) (.int .i64 j) rfl (by kernel_rfl) (by kernel_rfl) (by kernel_rfl) (by kernel_rfl) (by kernel_rfl) (fun _ _ _ h=>h) (Or.inl ⟨by rfl,?_⟩) ?_ ?_
    ·intro w' hSw;obtain⟨-,t0⟩:=hSw;go_simp
    ·exact t4 _ (below_drew1 (Below.refl _ _))
    (try simp only[PT])
    refine Early.take (i:=7) (.slice A0 k c0) rfl (by kernel_rfl) (by kernel_rfl) (by kernel_rfl) (by kernel_rfl) (by kernel_rfl) (fun _ _ _ h=>h) (Or.inl ⟨by rfl,?_⟩) ?_ ?_
    ·intro w' hSw;obtain⟨-,t0⟩:=hSw;go_simp
    ·exact t4 _ (below_drew1 (Below.refl _ _))
    (try simp only[PT])
    refine Early.take (i:=8) (.int .i64 (k:Int)) rfl (by kernel_rfl) (by kernel_rfl) (by kernel_rfl) (by kernel_rfl) (by kernel_rfl) (fun _ _ _ h=>h) (Or.inl ⟨by rfl,?_⟩) ?_ ?_
    ·intro w' hSw;obtain⟨-,t0⟩:=hSw;go_simp
    ·exact t4 _ (below_drew1 (Below.refl _ _))
    (try simp only[PT])
    refine Early.take (i:=9) (.int .i64 (li:Int)) rfl (by kernel_rfl) (by kernel_rfl) (by kernel_rfl) (by kernel_rfl) (by kernel_rfl) (fun _ _ _ h=>h) (Or.inl ⟨by rfl,?_⟩) ?_ ?_
    ·intro w' hSw;obtain⟨-,t0⟩:=hSw;go_simp
    ·exact t4 _ (below_drew1 (Below.refl _ _))
    (try simp only[PT])
    refine Early.next (i:=10) (by kernel_rfl) rfl (fun K hK=>?_);go_simp;refine hK _ _ (fun _=>t4 _ (below_drew1 (Below.refl _ _))) ?_;clear hK K;(try simp only[PT])
    refine Early.next (i:=11) (by kernel_rfl) rfl (fun K hK=>?_);go_simp;refine hK _ _ (fun _=>t4 _ (below_drew1 (Below.refl _ _))) ?_;clear hK K;(try simp only[PT])
    refine Early.done (by kernel_rfl) ?_ _;(try simp only[Exit.then])
    clear t4;obtain⟨wd,hwd⟩:∃ wd:World,wd=v4.drew:=⟨_,rfl⟩;rw[← hwd];have hbd:Below v4.heap.size v4 wd:=by rw[hwd];exact below_drew1 (Below.refl _ _)
    clear hwd;have B55:=zz hbd;have z55:=B55.out.size;have H0:=tr a4 B55;clear hbd;have z4:=zz (And.intro hki1 hli1);clear hki2 hki3 hki4 hli2 hli3 hli4 hun hun' hki1 hli1;by_cases hkl:ki=li
    ·have hkl':(((ki:Nat):Int)==((li:Nat):Int))=true:=by rw[hkl];exact beq_self_eq_true _
     go_wp2;go_ret;exact⟨H0.out,rfl⟩
    ·have hkl':(((ki:Nat):Int)==((li:Nat):Int))=false:=by rw[beq_eq_false_iff_ne];omega
     have y5:=zz hkl;clear hkl;have hkk:=z4.out;have hki0:(0:Int)≤(ki:Int)∧(ki:Int)<(k:Int):=by omega
     have hli0:(0:Int)≤(li:Int)∧(li:Int)<(k:Int):=by omega
     have P6_8_57:=tr B51 B55;have M0:=zz (VL.step a6.out P6_8_57.out);obtain⟨gc,oc,pA,pl,pc,pB,pu,pd,hAe,-,hEp,hp⟩:=QS.elem (show QS _ _ _ ((listD N2 D2 0 k).map qx) from M0.out) (j:=li) (by rw[List.length_map,listD_len];exact hkk.2);subst hAe;obtain⟨g9,o9,rA,rl,rc,rB,ru,rd,hAe,-,hEr,hr⟩:=QS.elem (show QS _ _ _ ((listD N2 D2 0 k).map qx) from M0.out) (j:=ki) (by rw[List.length_map,listD_len];exact hkk.1);injection hAe with hAe;injection hAe with hA1 hA2;subst hA1;subst hA2
     simp only[List.getElem_map] at hEp hp hEr hr;rw[← getD_is (l:=listD N2 D2 0 k) (d:=0) (by rw[listD_len];exact hkk.2)] at hEp hp;rw[← getD_is (l:=listD N2 D2 0 k) (d:=0) (by rw[listD_len];exact hkk.1)] at hEr hr;have HP:=zz (QR.qv hp);have HR:=zz (QR.qv hr);clear hp hr
     obtain⟨xk,hxk⟩:∃ q,x1.getD ki 0=q:=⟨_,rfl⟩;obtain⟨xl,hxl⟩:∃ q,x1.getD li 0=q:=⟨_,rfl⟩;obtain⟨ck,hck⟩:∃ q,(listD N2 D2 0 k).getD ki 0=q:=⟨_,rfl⟩;obtain⟨cl,hcl⟩:∃ q,(listD N2 D2 0 k).getD li 0=q:=⟨_,rfl⟩;rw[hcl] at hEp HP;rw[hck] at hEr HR;have d6:=zz (show stepY x1 (listD N2 D2 0 k) ki li=(x1.set ki (xk+cl)).set li (xl-ck) by unfold stepY;rw[hxk,hxl,hck,hcl]);have C4:=zz (within_ql (g:=0) (N2:=N2) (D2:=D2) r4.out.1 r4.out.2.2.1 hkk.1 hkk.2);rw[hxk,hxl,hck,hcl] at C4;have M5:=zz (And.intro hxk (And.intro hxl (And.intro hck hcl)));clear hxk hxl hck hcl;clear hkk;go_wp2_with fail
     have z1:=zz (VL.step L5.out B55.out);refine(cloneQ_any _ _ _ _ _ z1.out.rat (by rw[List.length_map,r4.out.1];have:=HK.out;omega) (by rw[List.length_map,r4.out.1];have:=HK.out;omega)).mono ?_;rintro e w59 ⟨B1,vy,rfl,hy⟩;have B61:=zz B1;have z61:=B61.out.size;have b4:=tr H0 B61;clear B1;clear hkl';obtain⟨gy,cy,rfl,hgy,hcy,hob⟩:=OA.block hy (n:=k) (by rw[List.length_map,r4.out.1]) (by have:=HK.out;omega);have N5:=zz hob;have O5:=zz hgy;have z5:=zz hcy.2;clear hob hgy hcy hy;obtain⟨yA,yl,yc,yB,yu,yd,hEy,hy⟩:=N5.out.elem4 (j:=ki) z5.out (by rw[r4.out.1];exact z4.out.1);rw[M5.out.1] at hEy hy;have HY:=zz hy;clear hy;go_upto_region 17 with (fail)
     have n0:=E4.step hEp B61.out;refine Sweep.run [se 0 97 [] (.slice (some ⟨gy,0,none⟩) k cy),se 1 98 [] (.int .i64 (ki:Int)),se 2 99 [] (.slice (some ⟨gy,0,none⟩) k cy),se 3 100 [] (.int .i64 (ki:Int)),se 4 101 [2,3] (.pointer (some ⟨gy,ki*4,none⟩)),se 5 102 [4] (.agg #[.bool (qx xk).1.1,.slice yA yl yc,.bool (qx xk).2.1,.slice yB yu yd]),se 6 103 [] (.slice (some ⟨gc,oc,none⟩) k c0),se 7 104 [] (.int .i64 (li:Int)),se 8 105 [6,7] (.pointer (some ⟨gc,oc+li*4,none⟩)),se 9 106 [8] (.agg #[.bool (qx cl).1.1,.slice pA pl pc,.bool (qx cl).2.1,.slice pB pu pd]),sf 10 107 [5,9] (fun fv fw=>∃ u,fv=.tuple #[u,.int .i64 0]∧QV fw fw.heap.size u (xk+cl)),sf 11 96 [10] (fun fv fw=>∃ u,fv=.tuple #[u,.int .i64 0]∧QV fw fw.heap.size u (xk+cl)),sf 12 108 [11] (fun fv fw=>QV fw fw.heap.size fv (xk+cl)),se 14 110 [0,1] (.pointer (some ⟨gy,ki*4,none⟩))] [se 13 109 [11] (.int .i64 0)] [] 2 (SC (fun _ h=>(E4.step hEy h).c0) (SC (fun _ h=>(E4.step hEy h).c1) (SC (fun _ h=>(E4.step hEy h).c2) (SC (fun _ h=>(E4.step hEy h).c3) (SC (fun _ h=>(E4.step n0 h).c0) (SC (fun _ h=>(E4.step n0 h).c1) (SC (fun _ h=>(E4.step n0 h).c2) (SC (fun _ h=>(E4.step n0 h).c3) S0)))))))) (MA (fun _ _ _ h hb=>let ⟨u,e,h⟩:=h;⟨u,e,h.step hb⟩) (MA (fun _ _ _ h hb=>let ⟨u,e,h⟩:=h;⟨u,e,h.step hb⟩) (MA (fun _ _ _ h hb=>h.step hb) trivial))) ?_ ?_ ?_
     ·intro xs a_ hA;simp only[SX] at hA
      iterate 14 (refine ac ?_ ?_;rotate_left)
      exact all_nil
      all_goals (intro wk hb;simp only[SX,↓reduceIte,Nat.reduceEqDiff,Nat.reduceAdd];have b_:=zz hb;have z_:=hb.size;clear hb;subst hA)
      all_goals try (intros;refine wpOp_step rfl ?_;intro K hK;go_simp;refine hK _ _ ⟨_,?_,Below.refl _ _,rfl,nF⟩;simp only[*,FL] <;> kernel_rfl)
      ·intro f5 f9;intros;refine wpOp_step (o:=_) rfl (fun K hK=>?_);go_simp;have C1:=zz (QV.step HY.out b_.out);have P8_10_65:=tr B61 b_;have D1:=zz (QV.step HP.out P8_10_65.out);(with_reducible refine(QAdd_ok C1.out D1.out C4.out.1 C4.out.2.2.1 C4.out.2.2.2.2.1).mono ?_)
       rintro e wc67 ⟨c4,v67,rfl,d4⟩;refine hK _ _ ⟨.tuple #[v67,.int .i64 0],by simp only[FL,f5,f9] <;> kernel_rfl,c4,⟨v67,rfl,d4⟩,nF⟩
      ·intro f10;intros;refine wpOp_step (o:=_) rfl (fun K hK=>?_);go_simp;refine hK _ _ ⟨xs 10,by kernel_rfl,Below.refl _ _,f10,nF⟩
      ·intro f11;intros;refine wpOp_step (o:=_) rfl (fun K hK=>?_);obtain⟨u,hu,hl⟩:=f11;rw[hu];go_simp;refine hK _ _ ⟨u,by simp only[FL,hu] <;> kernel_rfl,Below.refl _ _,hl,nF⟩
     ·intro xs a_ hA;simp only[SX] at hA;refine(ac ?_ all_nil)
      all_goals (intro wk hb;simp only[SX,↓reduceIte,Nat.reduceEqDiff,Nat.reduceAdd];have b_:=zz hb;have z_:=hb.size;clear hb;subst hA)
      ·intro f11;skip;obtain⟨u,hu,-⟩:=f11;refine⟨_,.int .i64 0,rfl,Or.inl ⟨by rfl,fun w=>?_⟩,rfl⟩
       try simp only[FL]
       rw[hu];go_simp
     ·intro xs M4 hbf hn hd;simp only[SY];clear hn hd;have B69:=zz hbf;have z69:=B69.out.size;have p4:=tr b4 B69;clear hbf;generalize xs 10=x10,xs 11=x11,xs 12=x12;rintro f10 f11 f12;clear f10;clear f11;obtain⟨N4,O4,P4,Q4,R4,x0,S4,rfl,ha71,F1,hc71⟩:=f12;have G1:=zz (show QV M4 M4.heap.size (.agg #[.bool N4,.slice O4 P4 Q4,.bool false,.slice R4 x0 S4]) (xk+cl) from⟨_,_,_,_,_,_,_,rfl,ha71,F1,hc71⟩);clear ha71 F1 hc71;have i0:=E4.step hEy B69.out;have n3:=i0.c0;have o3:=i0.c1;have p3:=i0.c2;have q3:=i0.c3;have B5:=i0.lt;have K4:=zz (OB.step N5.out EQ.stable B69.out);have fz0:=OB.frozen K4.out (ki*4);have fz1:=OB.frozen K4.out (ki*4+1);have fz2:=OB.frozen K4.out (ki*4+2);have fz3:=OB.frozen K4.out (ki*4+3);have flt:=OB.lt K4.out;refine EN 15 rfl fun K hK=>?_
      go_simp;refine hK _ _ ?_;clear hK K;(try simp only[PT])
      clear n3 o3 p3 q3 B5;clear fz0 fz1 fz2 fz3 flt;refine EN 16 rfl fun K hK=>?_
      go_simp;refine hK _ _ ?_;clear hK K;(try simp only[PT])
      refine ED ?_;(try simp only[Exit.then])
      obtain⟨wS,hS⟩:∃ wS:World,wS=setCells M4 gy (ki*4) [.bool N4,.slice O4 P4 Q4,.bool false,.slice R4 x0 S4]:=⟨_,rfl⟩;rw[show((((M4.setCell ⟨gy,ki*4,none⟩ (.bool N4)).setCell ⟨gy,ki*4+1,none⟩ (.slice O4 P4 Q4)).setCell ⟨gy,ki*4+2,none⟩ (.bool false)).setCell ⟨gy,ki*4+3,none⟩ (.slice R4 x0 S4))=wS from hS.symm];have P5:=zz (show OB 4 EQ 33 wS gy cy ((x1.set ki (xk+cl)).map qx) by rw[hS,List.map_set];exact K4.out.set EQ.soft EQz.free ki (by rw[List.length_map,r4.out.1];exact z4.out.1) (cs:=[.bool N4,.slice O4 P4 Q4,.bool false,.slice R4 x0 S4]) rfl ⟨_,_,_,_,rfl,(G1.out).qr⟩);have P8_10_74:=tr B61 B69;have B4:=zz (show Below wd.heap.size wd wS by rw[hS];exact below_sets O5.out P8_10_74.out);clear hS;have HWwS:=tr H0 B4;have zwS:=B4.out.size;obtain⟨tA,tl,tc,tB,tu,td,hEt,ht⟩:=P5.out.elem4 (j:=li) z5.out (by rw[List.length_set,r4.out.1];exact z4.out.2);rw[show(x1.set ki (xk+cl)).getD li 0=xl by rw[← M5.out.2.1];simp only[List.getD_eq_getElem?_getD,List.getElem?_set_ne y5.out]] at hEt ht;have e6:=zz ht;clear ht;go_upto_region 18 with (fail)
      have o0:=E4.step hEr B4.out;refine Sweep.run [se 0 112 [] (.slice (some ⟨gy,0,none⟩) k cy),se 1 113 [] (.int .i64 (li:Int)),se 2 114 [0,1] (.pointer (some ⟨gy,li*4,none⟩)),se 3 115 [2] (.agg #[.bool (qx xl).1.1,.slice tA tl tc,.bool (qx xl).2.1,.slice tB tu td]),se 4 116 [] (.slice (some ⟨gc,oc,none⟩) k c0),se 5 117 [] (.int .i64 (ki:Int)),se 6 118 [4,5] (.pointer (some ⟨gc,oc+ki*4,none⟩)),se 7 119 [6] (.agg #[.bool (qx ck).1.1,.slice rA rl rc,.bool (qx ck).2.1,.slice rB ru rd]),sf 8 120 [3,7] (fun fv fw=>∃ u,fv=.tuple #[u,.int .i64 0]∧QV fw fw.heap.size u (xl-ck)),sf 9 111 [8] (fun fv fw=>∃ u,fv=.tuple #[u,.int .i64 0]∧QV fw fw.heap.size u (xl-ck)),sf 10 121 [9] (fun fv fw=>QV fw fw.heap.size fv (xl-ck)),sf 12 16 [] (fun fv fw=>∃ b,fv=.pointer (some ⟨b,0,none⟩)∧CB fw b 33 #[.bool false,.slice none 0 0,.bool false,.slice none 0 0])] [se 11 122 [9] (.int .i64 0)] [12] 2 (SC (fun _ h=>(E4.step hEt h).c0) (SC (fun _ h=>(E4.step hEt h).c1) (SC (fun _ h=>(E4.step hEt h).c2) (SC (fun _ h=>(E4.step hEt h).c3) (SC (fun _ h=>(E4.step o0 h).c0) (SC (fun _ h=>(E4.step o0 h).c1) (SC (fun _ h=>(E4.step o0 h).c2) (SC (fun _ h=>(E4.step o0 h).c3) S0)))))))) (MA (fun _ _ _ h hb=>let ⟨u,e,h⟩:=h;⟨u,e,h.step hb⟩) (MA (fun _ _ _ h hb=>let ⟨u,e,h⟩:=h;⟨u,e,h.step hb⟩) (MA (fun _ _ _ h hb=>h.step hb) (MA (fun _ _ _ h hb=>let ⟨b,e,h⟩:=h;⟨b,e,h.step hb⟩) trivial)))) ?_ ?_ ?_
      ·intro xs a_ hA;simp only[SX] at hA
       iterate 12 (refine ac ?_ ?_;rotate_left)
       exact all_nil
       all_goals (intro wk hb;simp only[SX,↓reduceIte,Nat.reduceEqDiff,Nat.reduceAdd];have b_:=zz hb;have z_:=hb.size;clear hb;subst hA)
       all_goals try (intros;refine wpOp_step rfl ?_;intro K hK;go_simp;refine hK _ _ ⟨_,?_,Below.refl _ _,rfl,nF⟩;simp only[*,FL] <;> kernel_rfl)
       ·intro f3 f7;intros;refine wpOp_step (o:=_) rfl (fun K hK=>?_);go_simp;have H1:=zz (QV.step e6.out b_.out);have P8_10_77:=tr B4 b_;have I1:=zz (QV.step HR.out P8_10_77.out);(with_reducible refine(QSub_ok H1.out I1.out C4.out.2.1 C4.out.2.2.2.1 C4.out.2.2.2.2.2).mono ?_)
        rintro e wc79 ⟨e4,v79,rfl,f4⟩;refine hK _ _ ⟨.tuple #[v79,.int .i64 0],by simp only[FL,f3,f7] <;> kernel_rfl,e4,⟨v79,rfl,f4⟩,nF⟩
       ·intro f8;intros;refine wpOp_step (o:=_) rfl (fun K hK=>?_);go_simp;refine hK _ _ ⟨xs 8,by kernel_rfl,Below.refl _ _,f8,nF⟩
       ·intro f9;intros;refine wpOp_step (o:=_) rfl (fun K hK=>?_);obtain⟨u,hu,hl⟩:=f9;rw[hu];go_simp;refine hK _ _ ⟨u,by simp only[FL,hu] <;> kernel_rfl,Below.refl _ _,hl,nF⟩
       ·intros
        refine wpOp_step (o:=_) rfl (fun K hK=>?_);go_simp;refine hK _ _ ⟨.pointer (some ⟨wk.heap.size,0,none⟩),by kernel_rfl,(Below.refl _ _).alloc (Nat.le_refl _) _,⟨_,rfl,CB.new _ _ _⟩,fun _=>⟨_,rfl,Nat.le_refl _,by simp⟩⟩
      ·intro xs a_ hA;simp only[SX] at hA;refine(ac ?_ all_nil)
       all_goals (intro wk hb;simp only[SX,↓reduceIte,Nat.reduceEqDiff,Nat.reduceAdd];have b_:=zz hb;have z_:=hb.size;clear hb;subst hA)
       ·intro f9;skip;obtain⟨u,hu,-⟩:=f9;refine⟨_,.int .i64 0,rfl,Or.inl ⟨by rfl,fun w=>?_⟩,rfl⟩
        try simp only[FL]
        rw[hu];go_simp
      ·intro xs k5 hbf hn hd;simp only[SY];have n12:=hn 12 (by decide);clear hn hd;have B81:=zz hbf;have z81:=B81.out.size;have g4:=tr HWwS B81;clear hbf;generalize xs 8=x8,xs 9=x9,xs 10=x10,xs 12=x12 at *
       rintro f8 f9 f10 f12;clear f8;clear f9;obtain⟨D4,F4,G4,H4,I4,p0,J4,rfl,ha83,J1,hc83⟩:=f10;have K1:=zz (show QV k5 k5.heap.size (.agg #[.bool D4,.slice F4 G4 H4,.bool false,.slice I4 p0 J4]) (xl-ck) from⟨_,_,_,_,_,_,_,rfl,ha83,J1,hc83⟩);clear ha83 J1 hc83;obtain⟨y4,rfl,q4⟩:=f12;have T4:=zz (show wS.heap.size≤y4 by obtain⟨b',e,h,-⟩:=n12;injection e with e;injection e with e;injection e with e _ _;omega);clear n12;have J5:=q4.lt;have K5:=T4.out;have r3:=q4.cell 0 rfl;have t3:=q4.cell 1 rfl;have u3:=q4.cell 2 rfl;have v3:=q4.cell 3 rfl;have C5:=q4.lt;have w3:=q4.frozen 0;have x3:=q4.frozen 1;have y3:=q4.frozen 2;have z3:=q4.frozen 3;have D5:=q4.lt;refine EN 13 rfl fun K hK=>?_;go_simp;refine hK _ _ ?_;clear hK K;(try simp only[PT])
       clear r3 t3 u3 v3 C5 w3 x3 y3 z3 D5;refine EN 14 rfl fun K hK=>?_
       go_simp;refine hK _ _ ?_;clear hK K;(try simp only[PT])
       refine ED ?_;(try simp only[Exit.then])
       have P2_4_89:=tr B9 B12;have P2_5_90:=tr P2_4_89 B20;have P2_6_91:=tr P2_5_90 B27;have P2_7_92:=tr P2_6_91 B51;have P2_8_93:=tr P2_7_92 B55;have P2_9_94:=tr P2_8_93 B4;have P2_10_95:=tr P2_9_94 B81;have L1:=CB.step k0 P2_10_95.out;have M1:=CB.step l0 P2_10_95.out;have P7_9_98:=tr B55 B4;have P7_10_99:=tr P7_9_98 B81;have B3:=CB.step G0 P7_10_99.out;obtain⟨w100,g0⟩:∃ w100:World,w100=((((k5.setCell ⟨y4,0,none⟩ (.bool D4)).setCell ⟨y4,1,none⟩ (.slice F4 G4 H4)).setCell ⟨y4,2,none⟩ (.bool false)).setCell ⟨y4,3,none⟩ (.slice I4 p0 J4)):=⟨_,rfl⟩;rw[← g0];have S100:=zz (p4_s g0 q4 (by simp[noInt_b,noInt_s]));have h4:=p4_f g0 L1 ((by omega));have i4:=p4_f g0 M1 ((by omega));have j4:=p4_f g0 B3 ((by omega));have j0:=p4_p g0 q4;have k4:=zz (p4_b g0 g4.out (by omega));have F5:=zz (show Below wS.heap.size wS w100 by rw[g0];exact p4_b rfl B81.out (by omega));have o4:=p4_z g0;clear g0;replace hEt:=hEt.step F5.out;have N1:=j0.cell 0 rfl;have O1:=j0.cell 1 rfl;have P1:=j0.cell 2 rfl;have Q1:=j0.cell 3 rfl;have p5:=j0.lt;have R1:=hEt.c0;have S1:=hEt.c1;have T1:=hEt.c2;have U1:=hEt.c3;have q5:=hEt.lt;have L4:=zz (OB.step P5.out EQ.stable F5.out);have fz0:=OB.frozen L4.out (li*4);have fz1:=OB.frozen L4.out (li*4+1);have fz2:=OB.frozen L4.out (li*4+2);have fz3:=OB.frozen L4.out (li*4+3);have flt:=OB.lt L4.out;go_upto_region 20 with (fail)
       clear N1 O1 P1 Q1 p5 R1 S1 T1 U1 q5;clear fz0 fz1 fz2 fz3 flt;obtain⟨wU,hS⟩:∃ wS:World,wS=setCells w100 gy (li*4) [.bool D4,.slice F4 G4 H4,.bool false,.slice I4 p0 J4]:=⟨_,rfl⟩;rw[show((((w100.setCell ⟨gy,li*4,none⟩ (.bool D4)).setCell ⟨gy,li*4+1,none⟩ (.slice F4 G4 H4)).setCell ⟨gy,li*4+2,none⟩ (.bool false)).setCell ⟨gy,li*4+3,none⟩ (.slice I4 p0 J4))=wU from hS.symm];have k1:=zz (QV.soft K1.out (S100.out));have g6:=zz (show VL wU wU.heap.size (.slice (some ⟨gy,0,none⟩) k cy) (stepY x1 (listD N2 D2 0 k) ki li) by rw[d6.out];have h1:=L4.out.set EQ.soft EQz.free li (by rw[List.length_map,List.length_set,r4.out.1];exact z4.out.2) (cs:=[.bool D4,.slice F4 G4 H4,.bool false,.slice I4 p0 J4]) (x:=qx (xl-ck)) rfl ⟨_,_,_,_,rfl,(k1.out).qr⟩;rw[← hS,← List.map_set] at h1;have h2:=h1.sl h1.len z5.out;rw[List.length_map,List.length_set,List.length_set,r4.out.1] at h2;exact h2);have j5:=zz (show Below wd.heap.size wd wU by rw[hS];exact below_sets O5.out (B4.out.trans (F5.out.mono B4.out.size)));clear hS;have HWwU:=tr H0 j5;have zwU:=j5.out.size;have Q5:=zz (show ∃ D',0<D'∧D'≤wY∧∀ q,q<k→FR D' wY ((stepY x1 (listD N2 D2 0 k) ki li).getD q 0) from by obtain⟨D',d1,d2,d3⟩:=r4.out.2.2.1;exact⟨D'*60,by omega,by unfold wY;omega,stepY_fr r4.out.1 d2 d3 z4.out.1 z4.out.2⟩);have G5:=zz (show(stepY x1 (listD N2 D2 0 k) ki li).length=k by rw[stepY_len];exact r4.out.1);have R5:=zz (stepY_sol (g:=3) r4.out.1 z4.out.1 z4.out.2 y5.out r4.out.2.1)
       have S5:=zz (show _∧_ from by obtain⟨D',d1,d2,d3⟩:=r4.out.2.2.1;exact wide_meas (N:=N) (D:=D) (f:=11) (n:=n) HK.out.1 HK.out.2 HN.out.1 HN.out.2 r4.out.1 d1 (Nat.le_trans d2 wXY) (fun q hq=>(d3 q hq).mono wXY));have T5:=zz (show _∧_ from by obtain⟨D',d1,d2,d3⟩:=Q5.out;exact wide_meas (N:=N) (D:=D) (f:=11) (n:=n) HK.out.1 HK.out.2 HN.out.1 HN.out.2 G5.out d1 d2 d3);have h6:=zz (show _ from by obtain⟨D',d1,d2,d3⟩:=Q5.out;exact wide_holds (g:=3) HK.out.2 G5.out R5.out d1 d2 d3);have i6:=zz (show squaresQ (rowsD N D k n) (listD N D 11 n) x1≤squaresQ (rowsD N D k n) (listD N D 11 n) (stepY x1 (listD N2 D2 0 k) ki li) by rw[sq_is (rowsD_wide k n) r4.out.1,sq_is (rowsD_wide k n) G5.out];exact r4.out.2.2.2 (by have h1:=z4.out;have h2:=y5.out;omega) _ R5.out);have P7_9_106:=tr B55 j5;have b0:=CB.step G0 P7_9_106.out;have V1:=b0.cell 0 rfl;have W1:=b0.cell 1 rfl;have X1:=b0.cell 2 rfl;have Y1:=b0.cell 3 rfl;have Z1:=b0.cell 4 rfl;have a2:=b0.cell 5 rfl;have b2:=b0.cell 6 rfl;have f2:=b0.cell 7 rfl;have g2:=b0.cell 8 rfl;have r5:=b0.lt;go_wp2_with fail
       have P4_6_108:=tr B20 B27;have P4_7_109:=tr P4_6_108 B51;have P4_8_110:=tr P4_7_109 B55;have P4_9_111:=tr P4_8_110 j5;have N0:=zz (VM.step u0.out P4_9_111.out);have O0:=zz (VL.step v0.out P4_9_111.out);have l1:=zz (VL.step L5.out P7_9_106.out);refine(LMeasure_any _ _ _ _ _ _ _ _ _ _ _ _ _ N0.out.rat O0.out.rat l1.out.rat).mono ?_;rintro e w104 ⟨b1,hr⟩;have B115:=zz b1;have z115:=B115.out.size;have C3:=tr HWwU B115;clear b1;clear V1 W1 X1 Y1 Z1 a2 b2 f2 g2 r5;obtain⟨v117,rfl,D3⟩:=ret_quot hr S5.out.1;clear hr;obtain⟨U4,V4,W4,X4,Y4,C0,Z4,rfl,ha118,g1,hc118⟩:=D3;have I0:=zz (show QV w104 w104.heap.size (.agg #[.bool U4,.slice V4 W4 X4,.bool false,.slice Y4 C0 Z4]) (squaresQ (rowsD N D k n) (listD N D 11 n) x1) from⟨_,_,_,_,_,_,_,rfl,ha118,g1,hc118⟩);clear ha118 g1 hc118;go_upto_region 21 with (fail)
       obtain⟨w119,q0⟩:∃ w119:World,w119=(w104.alloc (.cells #[.bool U4,.slice V4 W4 X4,.bool false,.slice Y4 C0 Z4] 33)):=⟨_,rfl⟩;rw[← q0];have J0:=n1_0 q0;have za119:=n1_z q0;have B120:=zz (n1_b q0);have z120:=B120.out.size;have F3:=tr C3 B120;clear q0;have P9_11_124:=tr B115 B120;have d0:=CB.step b0 P9_11_124.out;have i2:=d0.cell 0 rfl;have j2:=d0.cell 1 rfl;have k2:=d0.cell 2 rfl;have l2:=d0.cell 3 rfl;have m2:=d0.cell 4 rfl;have n2:=d0.cell 5 rfl;have o2:=d0.cell 6 rfl;have p2:=d0.cell 7 rfl;have q2:=d0.cell 8 rfl;have t5:=d0.lt;go_wp2_with fail
       have t2:=zz (VM.step N0.out P9_11_124.out);have u2:=zz (VL.step O0.out P9_11_124.out);have P0:=zz (VL.step g6.out P9_11_124.out);refine(LMeasure_any _ _ _ _ _ _ _ _ _ _ _ _ _ t2.out.rat u2.out.rat P0.out.rat).mono ?_;rintro e w122 ⟨i1,hr⟩;have B129:=zz i1;have z129:=B129.out.size;have G3:=tr F3 B129;clear i1;clear i2 j2 k2 l2 m2 n2 o2 p2 q2 t5;obtain⟨v131,rfl,H3⟩:=ret_quot hr T5.out.1;clear hr;obtain⟨a5,b5,c5,d5,g5,D0,h5,rfl,ha132,j1,hc132⟩:=H3;have Q0:=zz (show QV w122 w122.heap.size (.agg #[.bool a5,.slice b5 c5 d5,.bool false,.slice g5 D0 h5]) (squaresQ (rowsD N D k n) (listD N D 11 n) (stepY x1 (listD N2 D2 0 k) ki li)) from⟨_,_,_,_,_,_,_,rfl,ha132,j1,hc132⟩);clear ha132 j1 hc132;go_upto_region 22 with (fail)
       obtain⟨w133,s0⟩:∃ w133:World,w133=(w122.alloc (.cells #[.bool a5,.slice b5 c5 d5,.bool false,.slice g5 D0 h5] 33)):=⟨_,rfl⟩;rw[← s0];have R0:=n1_0 s0;have za133:=n1_z s0;have B134:=zz (n1_b s0);have z134:=B134.out.size;have I3:=tr G3 B134;clear s0;have hm1:=x4.out;have E0:(1:Int)≤(sb:Int):=V5.out;have hf1:(1:Int)≤(s3:Int):=W5.out;have hm2:(1:Int)≤(m:Int):=by omega
       have P11_13_137:=tr B129 B134;have T0:=CB.step d0 P11_13_137.out;have K0:=CB.step J0 P11_13_137.out;refine Sweep.r0 [se 0 145 [] (.int .i64 0),se 1 146 [0] (.bool true),se 2 147 [1] (.bool true),se 3 148 [2] (.int .i64 0),se 4 149 [2,3] (.bool true),se 5 150 [2,4] (.bool true),se 6 151 [5] (.bool true),se 7 152 [6] (.int .i64 0),se 8 153 [6,7] (.bool true),se 9 154 [6,8] (.bool true),se 10 155 [9] (.bool true),se 11 156 [10] (.int .i64 0),se 12 157 [10,11] (.bool true),se 13 158 [10,12] (.bool true),se 14 159 [13] (.bool true),se 15 160 [14] (.pointer (some ⟨w4.heap.size,1,none⟩)),se 16 161 [14,15] (.slice (some ⟨gb,ob,none⟩) m sb),se 17 162 [14,16] (.slice (some ⟨gb,ob,none⟩) 1 sb),se 18 163 [14] (.slice (some ⟨gy,0,none⟩) k cy),se 19 164 [14] (.pointer (some ⟨w4.heap.size,4,none⟩)),se 20 165 [14,19] (.slice (some ⟨gf,of,none⟩) m s3),se 21 166 [14,20] (.slice (some ⟨gf,of,none⟩) 1 s3),se 22 167 [14,17,18,21] (.bool true),se 23 168 [14,22] (.bool true),se 24 169 [23] (.bool true),se 25 170 [24] (.agg #[.bool U4,.slice V4 W4 X4,.bool false,.slice Y4 C0 Z4]),se 26 171 [24] (.agg #[.bool a5,.slice b5 c5 d5,.bool false,.slice g5 D0 h5]),se 27 172 [24,25,26] (.bool true),se 28 173 [24,27] (.bool true)] 1 (SC (v:=.slice (some ⟨gb,ob,none⟩) m sb) (fun _ h=>(CB.step T0 h).cell 1 rfl) (SC (v:=.slice (some ⟨gf,of,none⟩) m s3) (fun _ h=>(CB.step T0 h).cell 4 rfl) (SB K0 (SB R0 S0)))) trivial ?_ ?_
       ·intro xs a_ hA;simp only[SX] at hA
        iterate 29 (refine ac ?_ ?_;rotate_left)
        exact all_nil
        all_goals (intro wk hb;simp only[SX,↓reduceIte,Nat.reduceEqDiff,Nat.reduceAdd];have b_:=zz hb;have z_:=hb.size;clear hb;subst hA)
        all_goals try (intros;refine wpOp_step rfl ?_;intro K hK;go_simp;refine hK _ _ ⟨_,?_,Below.refl _ _,rfl⟩;simp only[*,FL] <;> kernel_rfl)
        ·intro f14 f17 f18 f21;intros;refine wpOp_step (o:=?_) ?m4 ?_
         case m4=>exact rfl
         intro K hK;go_simp;have P6_9_140:=tr P6_8_57 j5;have P6_10_141:=tr P6_9_140 B115;have P6_11_142:=tr P6_10_141 B120;have P6_12_143:=tr P6_11_142 B129;have P6_13_144:=tr P6_12_143 B134;have P6_14_145:=tr P6_13_144 b_;have m1:=zz (VM.step E21.out P6_14_145.out);have P11_14_147:=tr P11_13_137 b_;have w2:=zz (VL.step P0.out P11_14_147.out);have n1:=zz (VL.step E51.out P6_14_145.out);(with_reducible refine(holds_any _ _ _ _ _ _ _ _ _ _ _ _ _ m1.out w2.out n1.out h6.out).mono ?_)
         rintro e wc150 ⟨J3,rfl⟩;refine hK _ _ ⟨.bool true,by simp only[FL,f14,f17,f18,f21] <;> kernel_rfl,J3,rfl⟩
        ·intro f24 f25 f26;intros;refine wpOp_step (o:=?_) ?n4 ?_
         case n4=>exact rfl
         intro K hK;go_simp;have P10_12_152:=tr B120 B129;have P10_13_153:=tr P10_12_152 B134;have P10_14_154:=tr P10_13_153 b_;have L0:=zz (QV.step I0.out P10_14_154.out);have P12_14_156:=tr B134 b_;have U0:=zz (QV.step Q0.out P12_14_156.out);(with_reducible refine(atMost_yes L0.out U0.out S5.out.2 T5.out.2 i6.out).mono ?_)
         rintro e wc158 ⟨K3,rfl⟩;refine hK _ _ ⟨.bool true,by simp only[FL,f24,f25,f26] <;> kernel_rfl,K3,rfl⟩
       ·intro xs j6 hbf;simp only[SY];have B160:=zz hbf;have z160:=B160.out.size;have L3:=tr I3 B160;clear hbf;refine EN 29 rfl fun K hK=>?_
        go_simp;refine hK _ _ ?_;clear hK K;(try simp only[PT])
        refine ED ?_;(try simp only[Exit.then])
        go_wp2;go_ret;exact⟨L3.out,rfl⟩
end Go.Proofs.YtdigbofiebfkeaaGreatDoor
