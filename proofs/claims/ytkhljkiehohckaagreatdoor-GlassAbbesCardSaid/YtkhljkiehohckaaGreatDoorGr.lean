/- Texts put together: Layer 09, the reference: power (written by gen_gt.py). Layer 09, the reference: root, square (written by gen_gu.py). -/
import Derived.Test.YtkhljkiehohckaaGreatDoorGR
namespace Go.Proofs.YtkhljkiehohckaaGreatDoor
open Go Go.RowKit Dig
set_option maxRecDepth 100000 in
set_option maxHeartbeats 4000000 in
theorem rpow1 (w:World) (L:Int) (hL:300000≤L∧L≤2500000) :
  Calls Tryz.prog 73 #[.int .i64 L,.int .i64 1] w fun e w'=>Below w.heap.size w w'∧R1 w' (wv L) e:=by
 obtain⟨x,hx⟩:∃ x,L*L=x:=⟨_,rfl⟩;have hb:=sq_bound hL;rw[hx] at hb;have hw:wrap64 (L*L)=x:=by rw[hx];exact IntWalk.wrap64_in _ (by omega)
 have HV:=zz (show Rat.divInt x 1000000000000=wv L by rw[← hx];rfl);have HB:=zz (show -9223372036854775808≤x∧x≤9223372036854775807 by omega);have V1:=zz (wv_QL hL);have Z1:=zz (wv_ne hL);clear hx hb hL;obtain⟨w0,hw0⟩:∃ w0:World,w0=(w.alloc (.cells #[.bool false,.slice none 0 0,.bool false,.slice none 0 0] 43)):=⟨_,rfl⟩;have B0:=zz (n1_b hw0);have z0:=n1_z hw0;have Lr4:=n1_0 hw0;go_enter Tryz.func73,Tryz.ntmps73
 go_upto_region 1 with (fail)
 rw[← hw0];clear hw0;go_wp2_with fail
 refine((show Calls Tryz.prog _ _ _ _ from HV.out▸rof (n:=x) (d:=1000000000000) HB.out (by decide) (by decide))).mono ?_;rintro e w1 ⟨e1,v,rfl,hv⟩;have B2:=zz e1;have z2:=B2.out.size;have f1:=zz (B0.out.trans (B2.out.mono B0.out.size));clear e1;obtain⟨x1,y1,z1,A1,B1,d0,C1,rfl,ha4,g1,hc4⟩:=hv;have u0:=zz (show QV w1 w1.heap.size (.agg #[.bool x1,.slice y1 z1 A1,.bool false,.slice B1 d0 C1]) (wv L) from⟨_,_,_,_,_,_,_,rfl,ha4,g1,hc4⟩);clear ha4 g1 hc4;go_upto_region 2 with (fail)
 obtain⟨w5,f0⟩:∃ w5:World,w5=(w1.alloc (.cells #[.bool x1,.slice y1 z1 A1,.bool false,.slice B1 d0 C1] 43)):=⟨_,rfl⟩;rw[← f0];have Lw__5:=n1_0 f0;have za5:=n1_z f0;have B6:=zz (n1_b f0);have z6:=B6.out.size;have h1:=zz (f1.out.trans (B6.out.mono f1.out.size));clear f0;go_wp2_with fail
 refine(rof (n:=1) (d:=1) (by decide) (by decide) (by decide)).mono ?_;rintro e w8 ⟨i1,v,rfl,hv⟩;have B9:=zz i1;have z9:=B9.out.size;have k0:=zz (h1.out.trans (B9.out.mono h1.out.size));clear i1;obtain⟨q1,r1,s1,t1,u1,e0,v1,rfl,ha11,l0,hc11⟩:=hv;have h0:=zz (show QV w8 w8.heap.size (.agg #[.bool q1,.slice r1 s1 t1,.bool false,.slice u1 e0 v1]) (Rat.divInt 1 1) from⟨_,_,_,_,_,_,_,rfl,ha11,l0,hc11⟩);clear ha11 l0 hc11;have H0:=zz (show QV w8 w8.heap.size (.agg #[.bool q1,.slice r1 s1 t1,.bool false,.slice u1 e0 v1]) (dn 1 (wv L) 0) from h0.out);go_upto_region 3 with (fail)
 obtain⟨w12,c0⟩:∃ w12:World,w12=(w8.alloc (.cells #[.bool q1,.slice r1 s1 t1,.bool false,.slice u1 e0 v1] 43)):=⟨_,rfl⟩;rw[← c0];have i0:=n1_0 c0;have za12:=n1_z c0;have B13:=zz (n1_b c0);have z13:=B13.out.size;have j1:=zz (k0.out.trans (B13.out.mono k0.out.size));clear c0;go_wp2;have D1:=zz (show w.heap.size<w1.heap.size∧w1.heap.size<w8.heap.size by omega);have P2_4_15:=zz (B6.out.trans (B9.out.mono B6.out.size));have P2_5_16:=zz (P2_4_15.out.trans (B13.out.mono P2_4_15.out.size));have m0:=zz (QV.step u0.out P2_5_16.out);have n0:=zz (QV.step H0.out B13.out);have P3_5_20:=zz (B9.out.trans (B13.out.mono B9.out.size));have Lw__19:=CB.step Lw__5 P3_5_20.out;have P1_3_22:=zz (B2.out.trans (B6.out.mono B2.out.size));have P1_4_23:=zz (P1_3_22.out.trans (B9.out.mono P1_3_22.out.size));have P1_5_24:=zz (P1_4_23.out.trans (B13.out.mono P1_4_23.out.size));have o0:=CB.step Lr4 P1_5_24.out
 go_loopw [7] (fun iv wr=>∃ (j:Nat) (on:Bool) (oA:Option Addr) (ol oc:Nat) (oB:Option Addr) (om od:Nat),j≤1∧iv=.int .i64 j∧Hid (CB wr w8.heap.size 43 #[.bool on,.slice oA ol oc,.bool false,.slice oB om od])∧Hid (QV wr wr.heap.size (.agg #[.bool on,.slice oA ol oc,.bool false,.slice oB om od]) (if j=0 then 1 else wv L))∧Hid (CB wr w1.heap.size 43 #[.bool x1,.slice y1 z1 A1,.bool false,.slice B1 d0 C1])∧Hid (QV wr wr.heap.size (.agg #[.bool x1,.slice y1 z1 A1,.bool false,.slice B1 d0 C1]) (wv L))∧Hid (CB wr w.heap.size 43 #[.bool false,.slice none 0 0,.bool false,.slice none 0 0])∧Hid (Below w.heap.size w wr)) (fun iv _=>1-(intOf iv).toNat)
 case atStart=>exact⟨0,_,_,_,_,_,_,_,by decide,rfl,zz i0,zz n0.out,zz Lw__19,zz m0.out,zz o0,j1⟩
 case round=>
  obtain⟨j,on,oA,ol,oc,oB,om,od,hj,rfl,HC,T1,p1,U1,HR,HW⟩:=hrel;have zr:=HW.out.size;obtain rfl | rfl:j=0∨j=1:=by omega
  ·rw[show((0:Nat):Int)=0 from rfl];have v0:=HC.out.cell 0 rfl;have x0:=HC.out.cell 1 rfl;have y0:=HC.out.cell 2 rfl;have A0:=HC.out.cell 3 rfl;have E1:=HC.out.lt;have C0:=p1.out.cell 0 rfl;have D0:=p1.out.cell 1 rfl;have E0:=p1.out.cell 2 rfl;have F0:=p1.out.cell 3 rfl;have F1:=p1.out.lt;go_wp2_with fail
   refine((show Calls Tryz.prog _ _ _ _ from Rat.one_mul (wv L)▸rtimes (q:=1) (r:=wv L) T1.out U1.out one_QL V1.out (by decide))).mono ?_;rintro e w25 ⟨p0,v,rfl,hv⟩;have B28:=zz p0;have z28:=B28.out.size;have k1:=zz (HW.out.trans (B28.out.mono HW.out.size));clear p0;clear v0 x0 y0 A0 E1 C0 D0 E0 F0 F1;obtain⟨G1,H1,I1,J1,K1,g0,L1,rfl,ha30,q0,hc30⟩:=hv;have G0:=zz (show QV w25 w25.heap.size (.agg #[.bool G1,.slice H1 I1 J1,.bool false,.slice K1 g0 L1]) (wv L) from⟨_,_,_,_,_,_,_,rfl,ha30,q0,hc30⟩);clear ha30 q0 hc30;have a0:=CB.step HC.out B28.out;have I0:=a0.cell 0 rfl;have J0:=a0.cell 1 rfl;have K0:=a0.cell 2 rfl;have L0:=a0.cell 3 rfl;have M1:=a0.lt;have M0:=a0.frozen 0;have N0:=a0.frozen 1;have O0:=a0.frozen 2;have P0:=a0.frozen 3;have N1:=a0.lt;go_upto_region 5 with (fail)
   clear I0 J0 K0 L0 M1 M0 N0 O0 P0 N1;have r0:=CB.step HR.out B28.out;have Lw__35:=CB.step p1.out B28.out;obtain⟨w36,b0⟩:∃ w36:World,w36=((((w25.setCell ⟨w8.heap.size,0,none⟩ (.bool G1)).setCell ⟨w8.heap.size,1,none⟩ (.slice H1 I1 J1)).setCell ⟨w8.heap.size,2,none⟩ (.bool false)).setCell ⟨w8.heap.size,3,none⟩ (.slice K1 g0 L1)):=⟨_,rfl⟩;rw[← b0];have S36:=zz (p4_s b0 a0 (by simp[noInt_b,noInt_s]));have s0:=p4_f b0 r0 ((by have:=D1.out;omega));have Lw__36:=p4_f b0 Lw__35 ((by have:=D1.out;omega));have j0:=p4_p b0 a0;have Q0:=zz (p4_b b0 k1.out (by have:=D1.out;omega));have l1:=p4_z b0;clear b0;go_wp2;go_roundw;have R0:=zz (QV.soft G0.out (S36.out));have t0:=zz (QV.soft U1.out ((Soft.of B28.out).trans (S36.out)))
   case rel=>exact⟨1,_,_,_,_,_,_,_,by decide,by go_num,zz j0,zz R0.out,zz Lw__36,zz t0.out,zz s0,Q0⟩
   case measure=>simp[intOf]
  ·rw[show((1:Nat):Int)=1 from rfl];go_wp2;go_loopw [8] (fun iv wr'=>iv=.int .i64 0∧Hid (wr'=wr)) (fun _ _=>0)
   case atStart=>exact⟨rfl,zz rfl⟩
   case round=>
    obtain⟨rfl,HX⟩:=hrel;obtain rfl:=HX.out;have S0:=HC.out.cell 0 rfl;have T0:=HC.out.cell 1 rfl;have U0:=HC.out.cell 2 rfl;have V0:=HC.out.cell 3 rfl;have O1:=HC.out.lt;have m1:=D1.out;have W0:=HR.out.cell 0 rfl;have X0:=HR.out.cell 1 rfl;have Y0:=HR.out.cell 2 rfl;have Z0:=HR.out.cell 3 rfl;have P1:=HR.out.lt;have a1:=HR.out.frozen 0;have b1:=HR.out.frozen 1;have c1:=HR.out.frozen 2;have d1:=HR.out.frozen 3;have Q1:=HR.out.lt;go_wp2;clear S0 T0 U0 V0 O1 W0 X0 Y0 Z0 P1 a1 b1 c1 d1 Q1;exact QB.fin1 rfl HR.out (by simp[noInt_b,noInt_s]) HW.out (by omega) T1.out rfl
set_option maxRecDepth 100000 in
set_option maxHeartbeats 4000000 in
theorem rpow (w:World) (L:Int) (hL:300000≤L∧L≤2500000) (k:Nat) (hk:k≤4) :
  Calls Tryz.prog 73 #[.int .i64 L,.int .i64 (-(k:Int))] w fun e w'=>Below w.heap.size w w'∧R1 w' (dn 1 (wv L) k) e:=by
 obtain⟨x,hx⟩:∃ x,L*L=x:=⟨_,rfl⟩;have hb:=sq_bound hL;rw[hx] at hb;have hw:wrap64 (L*L)=x:=by rw[hx];exact IntWalk.wrap64_in _ (by omega)
 have HV:=zz (show Rat.divInt x 1000000000000=wv L by rw[← hx];rfl);have HB:=zz (show -9223372036854775808≤x∧x≤9223372036854775807 by omega);have U1:=zz (wv_QL hL);have V1:=zz (wv_ne hL);clear hx hb hL;obtain⟨w0,hw0⟩:∃ w0:World,w0=(w.alloc (.cells #[.bool false,.slice none 0 0,.bool false,.slice none 0 0] 43)):=⟨_,rfl⟩;have B0:=zz (n1_b hw0);have z0:=n1_z hw0;have Lr4:=n1_0 hw0;have hneg:decide (0 < -(k:Int))=false:=by rw[decide_eq_false_iff_not];omega
 have m1:(0:Int)≤(k:Int)∧(k:Int)≤4:=by omega
 go_enter Tryz.func73,Tryz.ntmps73
 go_upto_region 1 with (fail)
 rw[← hw0];clear hw0;go_wp2_with fail
 refine((show Calls Tryz.prog _ _ _ _ from HV.out▸rof (n:=x) (d:=1000000000000) HB.out (by decide) (by decide))).mono ?_;rintro e w1 ⟨e1,v,rfl,hv⟩;have B2:=zz e1;have z2:=B2.out.size;have f1:=zz (B0.out.trans (B2.out.mono B0.out.size));clear e1;obtain⟨y1,z1,A1,B1,C1,d0,D1,rfl,ha4,g1,hc4⟩:=hv;have u0:=zz (show QV w1 w1.heap.size (.agg #[.bool y1,.slice z1 A1 B1,.bool false,.slice C1 d0 D1]) (wv L) from⟨_,_,_,_,_,_,_,rfl,ha4,g1,hc4⟩);clear ha4 g1 hc4;go_upto_region 2 with (fail)
 obtain⟨w5,f0⟩:∃ w5:World,w5=(w1.alloc (.cells #[.bool y1,.slice z1 A1 B1,.bool false,.slice C1 d0 D1] 43)):=⟨_,rfl⟩;rw[← f0];have Lw__5:=n1_0 f0;have za5:=n1_z f0;have B6:=zz (n1_b f0);have z6:=B6.out.size;have h1:=zz (f1.out.trans (B6.out.mono f1.out.size));clear f0;go_wp2_with fail
 refine(rof (n:=1) (d:=1) (by decide) (by decide) (by decide)).mono ?_;rintro e w8 ⟨i1,v,rfl,hv⟩;have B9:=zz i1;have z9:=B9.out.size;have k0:=zz (h1.out.trans (B9.out.mono h1.out.size));clear i1;obtain⟨r1,s1,t1,u1,v1,e0,x1,rfl,ha11,l0,hc11⟩:=hv;have h0:=zz (show QV w8 w8.heap.size (.agg #[.bool r1,.slice s1 t1 u1,.bool false,.slice v1 e0 x1]) (Rat.divInt 1 1) from⟨_,_,_,_,_,_,_,rfl,ha11,l0,hc11⟩);clear ha11 l0 hc11;have H0:=zz (show QV w8 w8.heap.size (.agg #[.bool r1,.slice s1 t1 u1,.bool false,.slice v1 e0 x1]) (dn 1 (wv L) 0) from h0.out);go_upto_region 3 with (fail)
 obtain⟨w12,c0⟩:∃ w12:World,w12=(w8.alloc (.cells #[.bool r1,.slice s1 t1 u1,.bool false,.slice v1 e0 x1] 43)):=⟨_,rfl⟩;rw[← c0];have i0:=n1_0 c0;have za12:=n1_z c0;have B13:=zz (n1_b c0);have z13:=B13.out.size;have j1:=zz (k0.out.trans (B13.out.mono k0.out.size));clear c0;go_wp2;have E1:=zz (show w.heap.size<w1.heap.size∧w1.heap.size<w8.heap.size by omega);have P2_4_15:=zz (B6.out.trans (B9.out.mono B6.out.size));have P2_5_16:=zz (P2_4_15.out.trans (B13.out.mono P2_4_15.out.size));have m0:=zz (QV.step u0.out P2_5_16.out);have n0:=zz (QV.step H0.out B13.out);have P3_5_20:=zz (B9.out.trans (B13.out.mono B9.out.size));have Lw__19:=CB.step Lw__5 P3_5_20.out;have P1_3_22:=zz (B2.out.trans (B6.out.mono B2.out.size));have P1_4_23:=zz (P1_3_22.out.trans (B9.out.mono P1_3_22.out.size));have P1_5_24:=zz (P1_4_23.out.trans (B13.out.mono P1_4_23.out.size));have o0:=CB.step Lr4 P1_5_24.out;go_loopw [7] (fun iv wr=>iv=.int .i64 0∧Hid (wr=w12)) (fun _ _=>0)
 case atStart=>exact⟨rfl,zz rfl⟩
 case round=>
  obtain⟨rfl,HX⟩:=hrel;obtain rfl:=HX.out;go_wp2;clear hneg;go_loopw [8] (fun iv wr=>∃ (j:Nat) (on:Bool) (oA:Option Addr) (ol oc:Nat) (oB:Option Addr) (om od:Nat),j≤k∧iv=.int .i64 (-(j:Int))∧Hid (CB wr w8.heap.size 43 #[.bool on,.slice oA ol oc,.bool false,.slice oB om od])∧Hid (QV wr wr.heap.size (.agg #[.bool on,.slice oA ol oc,.bool false,.slice oB om od]) (dn 1 (wv L) j))∧Hid (CB wr w1.heap.size 43 #[.bool y1,.slice z1 A1 B1,.bool false,.slice C1 d0 D1])∧Hid (QV wr wr.heap.size (.agg #[.bool y1,.slice z1 A1 B1,.bool false,.slice C1 d0 D1]) (wv L))∧Hid (CB wr w.heap.size 43 #[.bool false,.slice none 0 0,.bool false,.slice none 0 0])∧Hid (Below w.heap.size w wr)) (fun iv _=>k-(-(intOf iv)).toNat)
  case atStart=>exact⟨0,_,_,_,_,_,_,_,Nat.zero_le _,rfl,zz i0,zz n0.out,zz Lw__19,zz m0.out,zz o0,j1⟩
  case round=>
   obtain⟨j,on,oA,ol,oc,oB,om,od,hj,rfl,HC,W1,q1,X1,HR,HW⟩:=hrel;have zr:=HW.out.size;by_cases hlt:j<k
   ·have hgt:decide (-(k:Int) < -(j:Int))=true:=by rw[decide_eq_true_eq];omega
    have hj1:(0:Int)≤(j:Int)∧(j:Int)<(k:Int):=by omega
    have v0:=HC.out.cell 0 rfl;have x0:=HC.out.cell 1 rfl;have y0:=HC.out.cell 2 rfl;have A0:=HC.out.cell 3 rfl;have F1:=HC.out.lt;have C0:=q1.out.cell 0 rfl;have D0:=q1.out.cell 1 rfl;have E0:=q1.out.cell 2 rfl;have F0:=q1.out.cell 3 rfl;have G1:=q1.out.lt;go_wp2_with fail
    refine(rover (q:=dn 1 (wv L) j) (r:=wv L) W1.out X1.out (dn_QL one_QL U1.out V1.out j) U1.out V1.out (by omega)).mono ?_;rintro e w25 ⟨p0,v,rfl,hv⟩;have B28:=zz p0;have z28:=B28.out.size;have k1:=zz (HW.out.trans (B28.out.mono HW.out.size));clear p0;clear v0 x0 y0 A0 F1 C0 D0 E0 F0 G1;obtain⟨H1,I1,J1,K1,L1,g0,M1,rfl,ha30,q0,hc30⟩:=hv;have G0:=zz (show QV w25 w25.heap.size (.agg #[.bool H1,.slice I1 J1 K1,.bool false,.slice L1 g0 M1]) (dn 1 (wv L) (j+1)) from⟨_,_,_,_,_,_,_,rfl,ha30,q0,hc30⟩);clear ha30 q0 hc30;have a0:=CB.step HC.out B28.out;have I0:=a0.cell 0 rfl;have J0:=a0.cell 1 rfl;have K0:=a0.cell 2 rfl;have L0:=a0.cell 3 rfl;have N1:=a0.lt;have M0:=a0.frozen 0;have N0:=a0.frozen 1;have O0:=a0.frozen 2;have P0:=a0.frozen 3;have O1:=a0.lt;go_upto_region 9 with (fail)
    clear I0 J0 K0 L0 N1 M0 N0 O0 P0 O1;have r0:=CB.step HR.out B28.out;have Lw__35:=CB.step q1.out B28.out;obtain⟨w36,b0⟩:∃ w36:World,w36=((((w25.setCell ⟨w8.heap.size,0,none⟩ (.bool H1)).setCell ⟨w8.heap.size,1,none⟩ (.slice I1 J1 K1)).setCell ⟨w8.heap.size,2,none⟩ (.bool false)).setCell ⟨w8.heap.size,3,none⟩ (.slice L1 g0 M1)):=⟨_,rfl⟩;rw[← b0];have S36:=zz (p4_s b0 a0 (by simp[noInt_b,noInt_s]));have s0:=p4_f b0 r0 ((by have:=E1.out;omega));have Lw__36:=p4_f b0 Lw__35 ((by have:=E1.out;omega));have j0:=p4_p b0 a0;have Q0:=zz (p4_b b0 k1.out (by have:=E1.out;omega));have l1:=p4_z b0;clear b0;go_wp2;go_roundw;have R0:=zz (QV.soft G0.out (S36.out));have t0:=zz (QV.soft X1.out ((Soft.of B28.out).trans (S36.out)))
    case rel=>exact⟨j+1,_,_,_,_,_,_,_,by omega,by go_num,zz j0,zz R0.out,zz Lw__36,zz t0.out,zz s0,Q0⟩
    case measure=>simp[intOf];omega
   ·obtain rfl:j=k:=by omega
    have hgt:decide (-(j:Int) < -(j:Int))=false:=by rw[decide_eq_false_iff_not];omega
    have S0:=HC.out.cell 0 rfl;have T0:=HC.out.cell 1 rfl;have U0:=HC.out.cell 2 rfl;have V0:=HC.out.cell 3 rfl;have P1:=HC.out.lt;have n1:=E1.out;have W0:=HR.out.cell 0 rfl;have X0:=HR.out.cell 1 rfl;have Y0:=HR.out.cell 2 rfl;have Z0:=HR.out.cell 3 rfl;have Q1:=HR.out.lt;have a1:=HR.out.frozen 0;have b1:=HR.out.frozen 1;have c1:=HR.out.frozen 2;have d1:=HR.out.frozen 3;have S1:=HR.out.lt;go_wp2;clear S0 T0 U0 V0 P1 W0 X0 Y0 Z0 Q1 a1 b1 c1 d1 S1;exact QB.fin1 rfl HR.out (by simp[noInt_b,noInt_s]) HW.out (by omega) W1.out rfl
end Go.Proofs.YtkhljkiehohckaaGreatDoor
namespace Go.Proofs.YtkhljkiehohckaaGreatDoor
open Go Go.RowKit Dig
def lnP (g:GL) (L:Int):Nat→Rat
 | 0=>0
 | k+1=>lnP g L k+dn (av (g.c k)) (wv L) k
theorem lnP_3 (g:GL) (L:Int):lnP g L 3=lnG g L:=by show 0+_+_+_=_;rw[Rat.zero_add];rfl
theorem lnP_QL {g:GL} {L:Int} (h:okL g L) {k:Nat} (hk:k≤3):QL 40 16 (lnP g L k):=by
 obtain rfl | rfl | rfl | rfl:k=0∨k=1∨k=2∨k=3:=by omega
 ·exact nil_QL.mono (by decide) (by decide)
 ·show QL 40 16 (0+_);rw[Rat.zero_add];exact(h.a 0).mono (by decide) (by decide)
 ·show QL 40 16 (0+_+_);rw[Rat.zero_add];exact h.ln1.mono (by decide) (by decide)
 ·rw[lnP_3];exact h.ln.mono (by decide) (by decide)
theorem okL.dk {g:GL} {L:Int} (h:okL g L) (i:Nat) {k:Nat} (hk:k≤4):QL 10 10 (dn (av (g.c i)) (wv L) k):=(h.d i k).mono (by omega) (by omega)
theorem okL.ok {g:GL} {L:Int} (h:okL g L) {k:Nat} (hk:k≤4):QL 9 9 (dn 1 (wv L) k):=(dn_QL one_QL h.w (wv_ne h.b) k).mono (by omega) (by omega)
theorem rplusE {w:World} {va vb:Value} {q r s:Rat} {a b a' b':Nat} (he:q+r=s) (ha:QV w w.heap.size va q) (hb:QV w w.heap.size vb r) (lq:QL a b q) (lr:QL a' b' r) (h:a+b'+a'+b+1≤600∧b+b'≤600) :
  Calls Tryz.prog 74 #[va,vb] w fun e w'=>Below w.heap.size w w'∧R1 w' s e:=by subst he;exact rplus ha hb lq lr h
theorem rtimesE {w:World} {va vb:Value} {q r s:Rat} {a b a' b':Nat} (he:q*r=s) (ha:QV w w.heap.size va q) (hb:QV w w.heap.size vb r) (lq:QL a b q) (lr:QL a' b' r) (h:a+a'≤600∧b+b'≤600) :
  Calls Tryz.prog 54 #[va,vb] w fun e w'=>Below w.heap.size w w'∧R1 w' s e:=by subst he;exact rtimes ha hb lq lr h
theorem rofC {w:World} {g:GL} {L:Int} (h:okL g L) (i:Nat) :
  Calls Tryz.prog 55 #[.int .i64 (g.c i),.int .i64 1000000000] w fun e w'=>Below w.heap.size w w'∧R1 w' (av (g.c i)) e:=
 rof (n:=g.c i) (d:=1000000000) (by have:=h.cb i;omega) (by decide) (by decide)
set_option maxRecDepth 100000 in
set_option maxHeartbeats 4000000 in
theorem root_any (w:World) (g:GL) (L:Int) (h:okL g L) :
  Calls Tryz.prog 52 #[.agg (GC g),.int .i64 L] w fun e w'=>Below w.heap.size w w'∧R1 w' (lnG g L) e:=by
 have HL:=zz h;clear h;obtain⟨w0,hw0⟩:∃ w0:World,w0=((w.alloc (.cells (GC g) 32)).alloc (.cells #[.bool false,.slice none 0 0,.bool false,.slice none 0 0] 43)):=⟨_,rfl⟩;have B0:=zz (n2_b hw0);have z0:=n2_z hw0;have Lg:=n2_0 hw0;have Lr4:=n2_1 hw0;go_enter Tryz.func52,Tryz.ntmps52
 go_upto_region 1 with (fail)
 rw[← hw0];clear hw0;go_wp2_with fail
 refine(rof (n:=0) (d:=1) (by decide) (by decide) (by decide)).mono ?_;rintro e w1 ⟨d1,v,rfl,hv⟩;have B2:=zz d1;have z2:=B2.out.size;have e1:=zz (B0.out.trans (B2.out.mono B0.out.size));clear d1;obtain⟨m2,n2,o2,p2,q2,j0,r2,rfl,ha4,g1,hc4⟩:=hv;have h1:=zz (show QV w1 w1.heap.size (.agg #[.bool m2,.slice n2 o2 p2,.bool false,.slice q2 j0 r2]) (Rat.divInt 0 1) from⟨_,_,_,_,_,_,_,rfl,ha4,g1,hc4⟩);clear ha4 g1 hc4;have H0:=zz (show QV w1 w1.heap.size (.agg #[.bool m2,.slice n2 o2 p2,.bool false,.slice q2 j0 r2]) (lnP g L 0) from h1.out);go_upto_region 2 with (fail)
 obtain⟨w5,i0⟩:∃ w5:World,w5=(w1.alloc (.cells #[.bool m2,.slice n2 o2 p2,.bool false,.slice q2 j0 r2] 43)):=⟨_,rfl⟩;rw[← i0];have n0:=n1_0 i0;have za5:=n1_z i0;have B6:=zz (n1_b i0);have z6:=B6.out.size;have r1:=zz (e1.out.trans (B6.out.mono e1.out.size));clear i0;go_wp2;have k2:=zz (show w.heap.size+1<w1.heap.size by omega);have s0:=zz (QV.step H0.out B6.out);have P1_3_10:=zz (B2.out.trans (B6.out.mono B2.out.size));have t0:=CB.step Lr4 P1_3_10.out;have u0:=CB.step Lg P1_3_10.out;go_loopw [6] (fun iv wr=>∃ (k:Nat) (on:Bool) (oA:Option Addr) (ol oc:Nat) (oB:Option Addr) (om od:Nat),k≤3∧iv=.int .i64 k∧Hid (CB wr w1.heap.size 43 #[.bool on,.slice oA ol oc,.bool false,.slice oB om od])∧Hid (QV wr wr.heap.size (.agg #[.bool on,.slice oA ol oc,.bool false,.slice oB om od]) (lnP g L k))∧Hid (CB wr (w.heap.size+1) 43 #[.bool false,.slice none 0 0,.bool false,.slice none 0 0])∧Hid (CB wr w.heap.size 32 (GC g))∧Hid (Below w.heap.size w wr)) (fun iv _=>3-(intOf iv).toNat)
 case atStart=>exact⟨0,_,_,_,_,_,_,_,by decide,rfl,zz n0,zz s0.out,zz t0,zz u0,r1⟩
 case round=>
  obtain⟨k,on,oA,ol,oc,oB,om,od,hk,rfl,HC,HV,HR,HG,HW⟩:=hrel;have zr:=HW.out.size;by_cases hlt:k<3
  ·have hki:(0:Int)≤(k:Int)∧(k:Int)<6:=by omega
   have hk3i:(k:Int)<3:=by omega
   have HI:=zz (show k<6 by omega);have s2:=zz (show k≤4 by omega);have L2:=zz (show k≤3 by omega);have hwn:IntKind.i64.wrap (-(k:Int))=-(k:Int):=IntWalk.i64_in _ (by omega);go_upto_region 5 with (fail)
   refine Flow.run [⟨0,12,fun fv fw=>fv=.agg #[.bool on,.slice oA ol oc,.bool false,.slice oB om od]⟩,⟨1,13,fun fv fw=>fv=.int .i64 (k:Int)⟩,⟨2,14,fun fv fw=>fv=.pointer (some ⟨w.heap.size,2,none⟩)⟩,⟨3,15,fun fv fw=>fv=.pointer (some ⟨w.heap.size,2+k,none⟩)⟩,⟨4,16,fun fv fw=>fv=.int .i64 (g.c k)⟩,⟨5,17,fun fv fw=>QV fw fw.heap.size fv (av (g.c k))⟩,⟨6,18,fun fv fw=>fv=.int .i64 L⟩,⟨7,19,fun fv fw=>fv=.int .i64 (k:Int)⟩,⟨8,20,fun fv fw=>fv=.int .i64 (-(k:Int))⟩,⟨9,21,fun fv fw=>QV fw fw.heap.size fv (dn 1 (wv L) k)⟩,⟨10,22,fun fv fw=>QV fw fw.heap.size fv (dn (av (g.c k)) (wv L) k)⟩,⟨11,23,fun fv fw=>QV fw fw.heap.size fv (lnP g L (k+1))⟩] [] [] 1 (by kernel_rfl) (by kernel_rfl) (by kernel_rfl) (fun _ _ _ _ _ h=>h) ?_ ?_ ?_ ?_
   ·refine(a0 (a0 (a0 (a0 (a0 (all_cons (fun v w1 w2 h hb=>h.step hb) (a0 (a0 (a0 (all_cons (fun v w1 w2 h hb=>h.step hb) (all_cons (fun v w1 w2 h hb=>h.step hb) (all_cons (fun v w1 w2 h hb=>h.step hb) all_nil))))))))))))
   ·refine(all_cons ?_ (all_cons ?_ (all_cons ?_ (all_cons ?_ (all_cons ?_ (all_cons ?_ (all_cons ?_ (all_cons ?_ (all_cons ?_ (all_cons ?_ (all_cons ?_ (all_cons ?_ all_nil))))))))))))
    ·intro xs H1 b0 c0;have v0:=zz b0;have I1:=b0.size;clear b0;clear c0;refine wpOp_step (o:=_) rfl (fun K hK=>?_);simp only[FL]
     have g0:=CB.step HC.out v0.out;have s1:=g0.cell 0 rfl;have t1:=g0.cell 1 rfl;have u1:=g0.cell 2 rfl;have v1:=g0.cell 3 rfl;go_simp;refine hK _ _ ⟨.agg #[.bool on,.slice oA ol oc,.bool false,.slice oB om od],by kernel_rfl,Below.refl _ _,rfl,nF⟩
    ·intro xs J1 b0 c0;clear b0;clear c0;refine wpOp_step (o:=_) rfl (fun K hK=>?_);simp only[FL]
     go_simp;refine hK _ _ ⟨.int .i64 (k:Int),by kernel_rfl,Below.refl _ _,rfl,nF⟩
    ·intro xs L1 b0 c0;clear b0;clear c0;refine wpOp_step (o:=_) rfl (fun K hK=>?_);simp only[FL]
     go_simp;refine hK _ _ ⟨.pointer (some ⟨w.heap.size,2,none⟩),by kernel_rfl,Below.refl _ _,rfl,nF⟩
    ·intro xs N1 b0 c0;clear b0;have f1:(xs 1)=.int .i64 (k:Int):=c0 _ (m_ 1 rfl) (by kernel_rfl);have f2:(xs 2)=.pointer (some ⟨w.heap.size,2,none⟩):=c0 _ (m_ 2 rfl) (by kernel_rfl);clear c0;refine wpOp_step (o:=_) rfl (fun K hK=>?_);simp only[FL]
     go_simp;refine hK _ _ ⟨.pointer (some ⟨w.heap.size,2+k,none⟩),by simp only[FL,f1,f2] <;> kernel_rfl,Below.refl _ _,rfl,nF⟩
    ·intro xs P1 b0 c0;have y0:=zz b0;have Q1:=b0.size;clear b0;have f3:(xs 3)=.pointer (some ⟨w.heap.size,2+k,none⟩):=c0 _ (m_ 3 rfl) (by kernel_rfl);clear c0;refine wpOp_step (o:=_) rfl (fun K hK=>?_);simp only[FL]
     have A0:=CB.step HG.out y0.out;have hcell:=GC_c (i:=k) A0 HI.out;go_simp;refine hK _ _ ⟨.int .i64 (g.c k),by simp only[FL,f3] <;> kernel_rfl,Below.refl _ _,rfl,nF⟩
    ·intro xs S1 b0 c0;clear b0;have f4:(xs 4)=.int .i64 (g.c k):=c0 _ (m_ 4 rfl) (by kernel_rfl);clear c0;refine wpOp_step (o:=_) rfl (fun K hK=>?_);simp only[FL]
     go_simp;(with_reducible refine(rofC HL.out k).mono ?_)
     rintro e wc21 ⟨i1,v21,rfl,j1⟩;refine hK _ _ ⟨v21,by simp only[FL,f4] <;> kernel_rfl,i1,j1,nF⟩
    ·intro xs U1 b0 c0;clear b0;clear c0;refine wpOp_step (o:=_) rfl (fun K hK=>?_);simp only[FL]
     go_simp;refine hK _ _ ⟨.int .i64 L,by kernel_rfl,Below.refl _ _,rfl,nF⟩
    ·intro xs W1 b0 c0;clear b0;clear c0;refine wpOp_step (o:=_) rfl (fun K hK=>?_);simp only[FL]
     go_simp;refine hK _ _ ⟨.int .i64 (k:Int),by kernel_rfl,Below.refl _ _,rfl,nF⟩
    ·intro xs Y1 b0 c0;clear b0;have f7:(xs 7)=.int .i64 (k:Int):=c0 _ (m_ 7 rfl) (by kernel_rfl);clear c0;refine wpOp_step (o:=_) rfl (fun K hK=>?_);simp only[FL]
     go_simp;refine hK _ _ ⟨.int .i64 (-(k:Int)),by simp only[FL,f7] <;> kernel_rfl,Below.refl _ _,rfl,nF⟩
    ·intro xs a2 b0 c0;clear b0;have f6:(xs 6)=.int .i64 L:=c0 _ (m_ 6 rfl) (by kernel_rfl);have f8:(xs 8)=.int .i64 (-(k:Int)):=c0 _ (m_ 8 rfl) (by kernel_rfl);clear c0;refine wpOp_step (o:=_) rfl (fun K hK=>?_);simp only[FL]
     go_simp;(with_reducible refine(rpow _ L HL.out.b k s2.out).mono ?_)
     rintro e wc26 ⟨k1,v26,rfl,l1⟩;refine hK _ _ ⟨v26,by simp only[FL,f6,f8] <;> kernel_rfl,k1,l1,nF⟩
    ·intro xs h0 b0 c0;clear b0;have f5:QV h0 h0.heap.size (xs 5) (av (g.c k)):=c0 _ (m_ 5 rfl) (by kernel_rfl);have f9:QV h0 h0.heap.size (xs 9) (dn 1 (wv L) k):=c0 _ (m_ 9 rfl) (by kernel_rfl);clear c0;refine wpOp_step (o:=_) rfl (fun K hK=>?_);simp only[FL]
     go_simp;(with_reducible refine(rtimesE (dn_mul _ _ k) f5 f9 (HL.out.a k) (HL.out.ok s2.out) (by decide)).mono ?_)
     rintro e wc28 ⟨m1,v28,rfl,n1⟩;refine hK _ _ ⟨v28,by kernel_rfl,m1,n1,nF⟩
    ·intro xs o0 b0 c0;have C0:=zz b0;have d2:=b0.size;clear b0;have f0:(xs 0)=.agg #[.bool on,.slice oA ol oc,.bool false,.slice oB om od]:=c0 _ (m_ 0 rfl) (by kernel_rfl);have f10:QV o0 o0.heap.size (xs 10) (dn (av (g.c k)) (wv L) k):=c0 _ (m_ 10 rfl) (by kernel_rfl);clear c0;refine wpOp_step (o:=_) rfl (fun K hK=>?_);simp only[FL]
     go_simp;have l0:=zz (QV.step HV.out C0.out);(with_reducible refine(rplusE (s:=lnP g L (k+1)) rfl l0.out f10 (lnP_QL HL.out L2.out) (HL.out.dk k s2.out) (by decide)).mono ?_)
     rintro e wc31 ⟨o1,v31,rfl,p1⟩;refine hK _ _ ⟨v31,by simp only[FL,f0] <;> kernel_rfl,o1,p1,nF⟩
   ·exact all_nil
   ·intro xs h2 hbf hf hn hd;have f0:(xs 0)=.agg #[.bool on,.slice oA ol oc,.bool false,.slice oB om od]:=hf _ (m_ 0 rfl);have f1:(xs 1)=.int .i64 (k:Int):=hf _ (m_ 1 rfl);have f2:(xs 2)=.pointer (some ⟨w.heap.size,2,none⟩):=hf _ (m_ 2 rfl);have f3:(xs 3)=.pointer (some ⟨w.heap.size,2+k,none⟩):=hf _ (m_ 3 rfl);have f4:(xs 4)=.int .i64 (g.c k):=hf _ (m_ 4 rfl);have f5:QV h2 h2.heap.size (xs 5) (av (g.c k)):=hf _ (m_ 5 rfl);have f6:(xs 6)=.int .i64 L:=hf _ (m_ 6 rfl);have f7:(xs 7)=.int .i64 (k:Int):=hf _ (m_ 7 rfl);have f8:(xs 8)=.int .i64 (-(k:Int)):=hf _ (m_ 8 rfl);have f9:QV h2 h2.heap.size (xs 9) (dn 1 (wv L) k):=hf _ (m_ 9 rfl);have f10:QV h2 h2.heap.size (xs 10) (dn (av (g.c k)) (wv L) k):=hf _ (m_ 10 rfl);have f11:QV h2 h2.heap.size (xs 11) (lnP g L (k+1)):=hf _ (m_ 11 rfl);clear hf hn hd;simp only[FL]
    have B33:=zz hbf;have z33:=B33.out.size;have q1:=zz (HW.out.trans (B33.out.mono HW.out.size));clear hbf;generalize xs 0=x0,xs 1=x1,xs 2=x2,xs 3=x3,xs 4=x4,xs 5=x5,xs 6=x6,xs 7=x7,xs 8=x8,xs 9=x9,xs 10=x10,xs 11=x11 at *
    obtain rfl:=f0;obtain rfl:=f1;obtain rfl:=f2;obtain rfl:=f3;obtain rfl:=f4;clear f5;obtain rfl:=f6;obtain rfl:=f7;obtain rfl:=f8;clear f9;clear f10;obtain⟨t2,u2,v2,y2,A2,k0,C2,rfl,ha35,p0,hc35⟩:=f11;have D0:=zz (show QV h2 h2.heap.size (.agg #[.bool t2,.slice u2 v2 y2,.bool false,.slice A2 k0 C2]) (lnP g L (k+1)) from⟨_,_,_,_,_,_,_,rfl,ha35,p0,hc35⟩);clear ha35 p0 hc35;have d0:=CB.step HC.out B33.out;have E0:=d0.cell 0 rfl;have F0:=d0.cell 1 rfl;have G0:=d0.cell 2 rfl;have I0:=d0.cell 3 rfl;have D2:=d0.lt;have J0:=d0.frozen 0;have K0:=d0.frozen 1;have L0:=d0.frozen 2;have M0:=d0.frozen 3;have E2:=d0.lt;refine Early.next (i:=12) (by kernel_rfl) rfl (fun K hK=>?_);go_simp;refine hK _ _ (fun _=>trivial) ?_;clear hK K;(try simp only[Act.put,List.setIfInBounds_toArray,List.set_cons_zero,List.set_cons_succ])
    clear E0 F0 G0 I0 D2 J0 K0 L0 M0 E2;refine Early.done (by kernel_rfl) ?_ _;(try simp only[Exit.then])
    have q0:=CB.step HR.out B33.out;have N0:=CB.step HG.out B33.out;obtain⟨w41,e0⟩:∃ w41:World,w41=((((h2.setCell ⟨w1.heap.size,0,none⟩ (.bool t2)).setCell ⟨w1.heap.size,1,none⟩ (.slice u2 v2 y2)).setCell ⟨w1.heap.size,2,none⟩ (.bool false)).setCell ⟨w1.heap.size,3,none⟩ (.slice A2 k0 C2)):=⟨_,rfl⟩;rw[← e0];have S41:=zz (p4_s e0 d0 (by simp[noInt_b,noInt_s]));have r0:=p4_f e0 q0 ((by have:=k2.out;omega));have O0:=p4_f e0 N0 ((by have:=k2.out;omega));have m0:=p4_p e0 d0;have P0:=zz (p4_b e0 q1.out (by have:=k2.out;omega));have e2:=p4_z e0;clear e0;go_wp2;go_roundw;have Q0:=zz (QV.soft D0.out (S41.out))
    case rel=>exact⟨k+1,_,_,_,_,_,_,_,by omega,by go_num,zz m0,zz Q0.out,zz r0,zz O0,P0⟩
    case measure=>simp[intOf];omega
  ·obtain rfl:k=3:=by omega
   rw[lnP_3] at HV;rw[show((3:Nat):Int)=3 from rfl];have g2:=k2.out;have R0:=HC.out.cell 0 rfl;have S0:=HC.out.cell 1 rfl;have T0:=HC.out.cell 2 rfl;have U0:=HC.out.cell 3 rfl;have F2:=HC.out.lt;have V0:=HR.out.cell 0 rfl;have W0:=HR.out.cell 1 rfl;have X0:=HR.out.cell 2 rfl;have Y0:=HR.out.cell 3 rfl;have G2:=HR.out.lt;have Z0:=HR.out.frozen 0;have a1:=HR.out.frozen 1;have b1:=HR.out.frozen 2;have c1:=HR.out.frozen 3;have H2:=HR.out.lt;go_wp2;clear R0 S0 T0 U0 F2 V0 W0 X0 Y0 G2 Z0 a1 b1 c1 H2;exact QB.fin1 rfl HR.out (by simp[noInt_b,noInt_s]) HW.out (by omega) HV.out rfl
end Go.Proofs.YtkhljkiehohckaaGreatDoor
