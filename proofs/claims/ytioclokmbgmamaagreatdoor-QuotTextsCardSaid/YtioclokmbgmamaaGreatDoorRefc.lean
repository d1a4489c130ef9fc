/- Texts put together: The reference's Int at any Long (written by gen_rint.py). The reference's Decimal at any number. The reference's form at any text (written by gen_rform.py). The reference's Text at any Long (written by gen_rtxt.py). The reference's Parse at any text (written by gen_rparse.py). -/
import Derived.Test.YtioclokmbgmamaaGreatDoorU
import Derived.Test.YtioclokmbgmamaaGreatDoorRefb
import Derived.Test.YtioclokmbgmamaaGreatDoorLow
import Derived.Test.YtioclokmbgmamaaGreatDoorOps
import Derived.Lib.IndexBytes
import Derived.Test.YtioclokmbgmamaaGreatDoorDec
namespace Go.Proofs.YtioclokmbgmamaaGreatDoor
open Go Go.RowKit Dig
theorem int_low {z:Int} (h:-9223372036854775808≤z):decide ((cmpZ z (-9223372036854775808)).1<0)=false:=by
 rw[ord_num];apply decide_eq_false;by_cases h1:z=-9223372036854775808
 ·rw[if_pos h1];omega
 ·rw[if_neg h1,if_neg (by omega)];omega
theorem int_low' {z:Int} (h:z < -9223372036854775808):decide ((cmpZ z (-9223372036854775808)).1<0)=true:=by
 rw[ord_num,if_neg (by omega),if_pos h];rfl
theorem int_high {z:Int} (h:z≤9223372036854775807):decide (0<(cmpZ z 9223372036854775807).1)=false:=by
 rw[ord_num];apply decide_eq_false;by_cases h1:z=9223372036854775807
 ·rw[if_pos h1];omega
 ·rw[if_neg h1,if_pos (by omega)];omega
theorem int_high' {z:Int} (h:9223372036854775807<z):decide (0<(cmpZ z 9223372036854775807).1)=true:=by
 rw[ord_num,if_neg (by omega),if_neg (by omega)];rfl
theorem drop_digit {ds:List Nat} {k:Nat} (h:k<ds.length):val (ds.drop k)=ds.getD k 0+1000000000*val (ds.drop (k+1)):=by
 rw[List.drop_eq_getElem_cons h,val_cons,getD_get h]
theorem drop_le (ds:List Nat) (k:Nat):val (ds.drop k)≤val ds:=by
 by_cases h:k≤ds.length
 ·rw[val_split ds k h];have:=Nat.le_mul_of_pos_left (val (ds.drop k)) (bp_pos k)
  omega
 ·rw[List.drop_eq_nil_of_le (by omega)];exact Nat.zero_le _
theorem sgn_dec (z:Int):sgn (decide (z<0)) z.natAbs=z:=by
 by_cases h:z<0
 ·rw[decide_eq_true h];show -(z.natAbs:Int)=z;omega
 ·rw[decide_eq_false h];show(z.natAbs:Int)=z;omega
set_option maxRecDepth 100000 in
set_option maxHeartbeats 4000000 in
theorem RInt_any (w:World) (va:Value) (na:Bool) (da:List Int) (ha:LR w w.heap.size va na da) :
  Calls Tryz.prog 78 #[va] w fun e w'=>Below w.heap.size w w'∧RetI (A1 intZ (numOf na da)) e:=by
 obtain⟨r,hr⟩:∃ r,r=A1 intZ (numOf na da):=⟨_,rfl⟩;rw[← hr];have HR:=zz hr;clear hr;obtain⟨Aa,ka,ca,rfl,Ha⟩:=ha.opened;clear ha;obtain⟨w0,hw0⟩:∃ w0:World,w0=(w.alloc (.cells #[.bool na,.slice Aa ka ca] 24)):=⟨_,rfl⟩;have B0:=zz (show Below w.heap.size w w0 by rw[hw0];(repeat' (first | exact Below.refl _ _ | refine Below.drew ?_ | refine Below.alloc ?_ (by first | exact Nat.le_refl _ | (simp;done) | (simp;omega)) _)));have z0:w.heap.size+1≤w0.heap.size:=by rw[hw0];simp
 have La:LB w0 (w.heap.size) (.bool na) (.slice Aa ka ca):=by rw[hw0];(repeat (first | (refine LB.new' ?_;simp;done) | refine LB.alloc ?_ _))
 replace Ha:=zz (Ha.step B0.out);subst hw0;by_cases hva:Valid na da
 ·have HVa:=zz hva;obtain⟨x,hx1,hx2,hx3⟩:=LR.num Ha.out hva;have HX:=zz hx2;have T3:=zz hx3;clear hva;have hna:=(LV.is HX.out).1;have hka:=(LV.is HX.out).2.1;have b4:=zz (LV.is HX.out).2.2;by_cases h1:x < -9223372036854775808
  ·have HZ:=zz (show r=(0,6) by rw[HR.out,hx1];exact if_neg (by omega));have HC:=zz (int_low' h1);clear hx1 hx2 hx3 h1 HR hna hka;go_enter Tryz.func78,Tryz.ntmps78
   go_wp2_with fail
   refine(Right_good Ha.out HVa.out).mono ?_;rintro e w1 ⟨K2,rfl⟩;have B2:=zz K2;have z2:=B2.out.size;have L2:=zz (B0.out.trans (B2.out.mono B0.out.size));clear K2;go_wp2_with fail
   refine(ROf_any _ (-9223372036854775808) (by decide) (by decide)).mono ?_;rintro e w4 ⟨M2,v3,rfl,v0⟩;have B5:=zz M2;have z5:=B5.out.size;have N2:=zz (L2.out.trans (B5.out.mono L2.out.size));clear M2;obtain⟨n7,M3,l7,c7,rfl,O2⟩:=v0.opened;have K1:=zz O2;clear v0 O2;go_wp2_with fail
   refine(ROf_any _ 9223372036854775807 (by decide) (by decide)).mono ?_;rintro e w8 ⟨P2,v4,rfl,x0⟩;have B9:=zz P2;have z9:=B9.out.size;have H0:=zz (N2.out.trans (B9.out.mono N2.out.size));clear P2;obtain⟨n11,t3,l11,c11,rfl,I0⟩:=x0.opened;have S2:=zz I0;clear x0 I0;have J0:=zz (LV.step K1.out B9.out);go_upto_region 4 with (fail)
   obtain⟨w13,s0⟩:∃ w13:World,w13=((w8.alloc (.cells #[.bool n7,.slice M3 l7 c7] 24)).alloc (.cells #[.bool n11,.slice t3 l11 c11] 24)):=⟨_,rfl⟩;rw[← s0];have K0:Below w8.heap.size w8 w13:=by rw[s0];(repeat' (first | exact Below.refl _ _ | refine Below.drew ?_ | refine Below.alloc ?_ (by first | exact Nat.le_refl _ | (simp;done) | (simp;omega)) _))
   have a0:LB w13 (w8.heap.size) (.bool n7) (.slice M3 l7 c7):=by rw[s0];(repeat (first | (refine LB.new' ?_;simp;done) | refine LB.alloc ?_ _))
   have b0:LB w13 (w8.heap.size+1) (.bool n11) (.slice t3 l11 c11):=by rw[s0];(repeat (first | (refine LB.new' ?_;simp;done) | refine LB.alloc ?_ _))
   have za13:w8.heap.size+2≤w13.heap.size:=by rw[s0];simp
   have B14:=zz K0;have z14:=B14.out.size;have L0:=zz (H0.out.trans (B14.out.mono H0.out.size));clear K0 s0;have P1_3_17:=zz (B2.out.trans (B5.out.mono B2.out.size));have P1_4_18:=zz (P1_3_17.out.trans (B9.out.mono P1_3_17.out.size));have P1_5_19:=zz (P1_4_18.out.trans (B14.out.mono P1_4_18.out.size));have m0:=LB.step La P1_5_19.out;have L1:=m0.cell0;have M1:=m0.cell1;have N1:=m0.frozen 0;have O1:=m0.frozen 1;have u3:=m0.lt;have P1:=a0.cell0;have Q1:=a0.cell1;have R1:=a0.frozen 0;have S1:=a0.frozen 1;have w3:=a0.lt;have T1:=b0.cell0;have U1:=b0.cell1;have V1:=b0.frozen 0;have W1:=b0.frozen 1;have x3:=b0.lt;go_wp2_with fail
   have X1:=zz (LV.step HX.out P1_5_19.out);have M0:=zz (LV.step J0.out B14.out);refine(ROrder_any _ _ _ x _ X1.out M0.out).mono ?_;rintro e w16 ⟨N0,rfl⟩;have B26:=zz N0;have z26:=B26.out.size;have Q2:=zz (L0.out.trans (B26.out.mono L0.out.size));clear N0;clear L1 M1 N1 O1 u3 P1 Q1 R1 S1 w3 T1 U1 V1 W1 x3;generalize (cmpZ x (-9223372036854775808)).1=cc at *
   have hcc:cc<0:=of_decide_eq_true HC.out;have q0:=LB.step m0 B26.out;have X2:=q0.cell0;have Y2:=q0.cell1;have Z2:=q0.frozen 0;have a3:=q0.frozen 1;have U3:=q0.lt;have g0:=LB.step a0 B26.out;have b3:=g0.cell0;have c3:=g0.cell1;have d3:=g0.frozen 0;have e3:=g0.frozen 1;have V3:=g0.lt;have h0:=LB.step b0 B26.out;have f3:=h0.cell0;have g3:=h0.cell1;have h3:=h0.frozen 0;have i3:=h0.frozen 1;have W3:=h0.lt;go_wp2;go_ret2;rw[HZ.out];exact⟨Q2.out,rfl⟩
  by_cases h2:9223372036854775807<x
  ·have HZ:=zz (show r=(0,6) by rw[HR.out,hx1];exact if_neg (by omega));have HC:=zz (int_low (z:=x) (by omega));have y3:=zz (int_high' h2);clear hx1 hx2 hx3 h1 h2 HR hna hka;go_enter Tryz.func78,Tryz.ntmps78
   go_wp2_with fail
   refine(Right_good Ha.out HVa.out).mono ?_;rintro e w34 ⟨O0,rfl⟩;have B35:=zz O0;have z35:=B35.out.size;have P0:=zz (B0.out.trans (B35.out.mono B0.out.size));clear O0;go_wp2_with fail
   refine(ROf_any _ (-9223372036854775808) (by decide) (by decide)).mono ?_;rintro e w37 ⟨Q0,v3,rfl,v0⟩;have B38:=zz Q0;have z38:=B38.out.size;have R0:=zz (P0.out.trans (B38.out.mono P0.out.size));clear Q0;obtain⟨n40,z3,l40,c40,rfl,S0⟩:=v0.opened;have T0:=zz S0;clear v0 S0;go_wp2_with fail
   refine(ROf_any _ 9223372036854775807 (by decide) (by decide)).mono ?_;rintro e w41 ⟨U0,v4,rfl,x0⟩;have B42:=zz U0;have z42:=B42.out.size;have V0:=zz (R0.out.trans (B42.out.mono R0.out.size));clear U0;obtain⟨n44,A3,l44,c44,rfl,W0⟩:=x0.opened;have X0:=zz W0;clear x0 W0;have Y0:=zz (LV.step T0.out B42.out);go_upto_region 4 with (fail)
   obtain⟨w46,t0⟩:∃ w46:World,w46=((w41.alloc (.cells #[.bool n40,.slice z3 l40 c40] 24)).alloc (.cells #[.bool n44,.slice A3 l44 c44] 24)):=⟨_,rfl⟩;rw[← t0];have Z0:Below w41.heap.size w41 w46:=by rw[t0];(repeat' (first | exact Below.refl _ _ | refine Below.drew ?_ | refine Below.alloc ?_ (by first | exact Nat.le_refl _ | (simp;done) | (simp;omega)) _))
   have i0:LB w46 (w41.heap.size) (.bool n40) (.slice z3 l40 c40):=by rw[t0];(repeat (first | (refine LB.new' ?_;simp;done) | refine LB.alloc ?_ _))
   have c0:LB w46 (w41.heap.size+1) (.bool n44) (.slice A3 l44 c44):=by rw[t0];(repeat (first | (refine LB.new' ?_;simp;done) | refine LB.alloc ?_ _))
   have za46:w41.heap.size+2≤w46.heap.size:=by rw[t0];simp
   have B47:=zz Z0;have z47:=B47.out.size;have a1:=zz (V0.out.trans (B47.out.mono V0.out.size));clear Z0 t0;have P1_3_50:=zz (B35.out.trans (B38.out.mono B35.out.size));have P1_4_51:=zz (P1_3_50.out.trans (B42.out.mono P1_3_50.out.size));have P1_5_52:=zz (P1_4_51.out.trans (B47.out.mono P1_4_51.out.size));have n0:=LB.step La P1_5_52.out;have Y1:=n0.cell0;have Z1:=n0.cell1;have a2:=n0.frozen 0;have b2:=n0.frozen 1;have B3:=n0.lt;have c2:=i0.cell0;have d2:=i0.cell1;have e2:=i0.frozen 0;have f2:=i0.frozen 1;have C3:=i0.lt;have g2:=c0.cell0;have i2:=c0.cell1;have j2:=c0.frozen 0;have k2:=c0.frozen 1;have D3:=c0.lt;go_wp2_with fail
   have A0:=zz (LV.step HX.out P1_5_52.out);have b1:=zz (LV.step Y0.out B47.out);refine(ROrder_any _ _ _ x _ A0.out b1.out).mono ?_;rintro e w49 ⟨c1,rfl⟩;have B59:=zz c1;have z59:=B59.out.size;have d1:=zz (a1.out.trans (B59.out.mono a1.out.size));clear c1;clear Y1 Z1 a2 b2 B3 c2 d2 e2 f2 C3 g2 i2 j2 k2 D3;generalize (cmpZ x (-9223372036854775808)).1=cc at *
   have hcc:0≤cc:=by have:=of_decide_eq_false HC.out;omega
   have o0:=LB.step n0 B59.out;have l2:=o0.cell0;have m2:=o0.cell1;have n2:=o0.frozen 0;have o2:=o0.frozen 1;have E3:=o0.lt;have j0:=LB.step c0 B59.out;have p2:=j0.cell0;have q2:=j0.cell1;have r2:=j0.frozen 0;have s2:=j0.frozen 1;have F3:=j0.lt;go_wp2_with fail
   have t2:=zz (LV.step A0.out B59.out);have P4_6_67:=zz (B47.out.trans (B59.out.mono B47.out.size));have e1:=zz (LV.step X0.out P4_6_67.out);refine(ROrder_any _ _ _ x _ t2.out e1.out).mono ?_;rintro e w61 ⟨f1,rfl⟩;have B69:=zz f1;have z69:=B69.out.size;have R2:=zz (d1.out.trans (B69.out.mono d1.out.size));clear f1;clear l2 m2 n2 o2 E3 p2 q2 r2 s2 F3;generalize (cmpZ x 9223372036854775807).1=cd at *
   have hcd:0<cd:=of_decide_eq_true y3.out;have r0:=LB.step o0 B69.out;have j3:=r0.cell0;have k3:=r0.cell1;have l3:=r0.frozen 0;have m3:=r0.frozen 1;have X3:=r0.lt;go_wp2;go_ret2;rw[HZ.out];exact⟨R2.out,rfl⟩
  have HZ:=zz (show r=(x,0) by rw[HR.out,hx1];exact if_pos (by omega));have HC:=zz (int_low (z:=x) (by omega));have y3:=zz (int_high (z:=x) (by omega));have N3:=zz (show sgn na x.natAbs=x by rw[hna];exact sgn_dec x);have hB1:-9223372036854775808≤x:=by omega
  have hB2:x≤9223372036854775807:=by omega
  have O3:=zz (show(dig x.natAbs).length=ka from hka.symm);have hka6:ka≤600:=by rw[hka];exact T3.out
  have P3:=zz (val_dig x.natAbs);have Y3:=zz (dig_small x.natAbs);clear hx1 hx2 hx3 h1 h2 HR hna hka;go_enter Tryz.func78,Tryz.ntmps78
  go_wp2_with fail
  refine(Right_good Ha.out HVa.out).mono ?_;rintro e w73 ⟨i1,rfl⟩;have B74:=zz i1;have z74:=B74.out.size;have j1:=zz (B0.out.trans (B74.out.mono B0.out.size));clear i1;go_wp2_with fail
  refine(ROf_any _ (-9223372036854775808) (by decide) (by decide)).mono ?_;rintro e w76 ⟨k1,v3,rfl,v0⟩;have B77:=zz k1;have z77:=B77.out.size;have l1:=zz (j1.out.trans (B77.out.mono j1.out.size));clear k1;obtain⟨n79,G3,l79,c79,rfl,m1⟩:=v0.opened;have n1:=zz m1;clear v0 m1;go_wp2_with fail
  refine(ROf_any _ 9223372036854775807 (by decide) (by decide)).mono ?_;rintro e w80 ⟨p1,v4,rfl,x0⟩;have B81:=zz p1;have z81:=B81.out.size;have q1:=zz (l1.out.trans (B81.out.mono l1.out.size));clear p1;obtain⟨n83,H3,l83,c83,rfl,r1⟩:=x0.opened;have s1:=zz r1;clear x0 r1;have t1:=zz (LV.step n1.out B81.out);go_upto_region 4 with (fail)
  obtain⟨w85,u0⟩:∃ w85:World,w85=((w80.alloc (.cells #[.bool n79,.slice G3 l79 c79] 24)).alloc (.cells #[.bool n83,.slice H3 l83 c83] 24)):=⟨_,rfl⟩;rw[← u0];have u1:Below w80.heap.size w80 w85:=by rw[u0];(repeat' (first | exact Below.refl _ _ | refine Below.drew ?_ | refine Below.alloc ?_ (by first | exact Nat.le_refl _ | (simp;done) | (simp;omega)) _))
  have k0:LB w85 (w80.heap.size) (.bool n79) (.slice G3 l79 c79):=by rw[u0];(repeat (first | (refine LB.new' ?_;simp;done) | refine LB.alloc ?_ _))
  have d0:LB w85 (w80.heap.size+1) (.bool n83) (.slice H3 l83 c83):=by rw[u0];(repeat (first | (refine LB.new' ?_;simp;done) | refine LB.alloc ?_ _))
  have za85:w80.heap.size+2≤w85.heap.size:=by rw[u0];simp
  have B86:=zz u1;have z86:=B86.out.size;have v1:=zz (q1.out.trans (B86.out.mono q1.out.size));clear u1 u0;have P1_3_89:=zz (B74.out.trans (B77.out.mono B74.out.size));have P1_4_90:=zz (P1_3_89.out.trans (B81.out.mono P1_3_89.out.size));have P1_5_91:=zz (P1_4_90.out.trans (B86.out.mono P1_4_90.out.size));have p0:=LB.step La P1_5_91.out;have u2:=p0.cell0;have v2:=p0.cell1;have w2:=p0.frozen 0;have x2:=p0.frozen 1;have I3:=p0.lt;have y2:=k0.cell0;have A2:=k0.cell1;have C2:=k0.frozen 0;have D2:=k0.frozen 1;have J3:=k0.lt;have E2:=d0.cell0;have F2:=d0.cell1;have G2:=d0.frozen 0;have H2:=d0.frozen 1;have K3:=d0.lt;go_wp2_with fail
  have C0:=zz (LV.step HX.out P1_5_91.out);have x1:=zz (LV.step t1.out B86.out);refine(ROrder_any _ _ _ x _ C0.out x1.out).mono ?_;rintro e w88 ⟨y1,rfl⟩;have B98:=zz y1;have z98:=B98.out.size;have z1:=zz (v1.out.trans (B98.out.mono v1.out.size));clear y1;clear u2 v2 w2 x2 I3 y2 A2 C2 D2 J3 E2 F2 G2 H2 K3;generalize (cmpZ x (-9223372036854775808)).1=cc at *
  have hcc:0≤cc:=by have:=of_decide_eq_false HC.out;omega
  have e0:=LB.step p0 B98.out;have B1:=e0.cell0;have C1:=e0.cell1;have D1:=e0.frozen 0;have E1:=e0.frozen 1;have q3:=e0.lt;have f0:=LB.step d0 B98.out;have F1:=f0.cell0;have G1:=f0.cell1;have H1:=f0.frozen 0;have I1:=f0.frozen 1;have r3:=f0.lt;go_wp2_with fail
  have y0:=zz (LV.step C0.out B98.out);have P4_6_106:=zz (B86.out.trans (B98.out.mono B86.out.size));have G0:=zz (LV.step s1.out P4_6_106.out);refine(ROrder_any _ _ _ x _ y0.out G0.out).mono ?_;rintro e w100 ⟨D0,rfl⟩;have B108:=zz D0;have z108:=B108.out.size;have I2:=zz (z1.out.trans (B108.out.mono z1.out.size));clear D0;clear B1 C1 D1 E1 q3 F1 G1 H1 I1 r3;generalize (cmpZ x 9223372036854775807).1=cd at *
  have hcd:cd≤0:=by have:=of_decide_eq_false y3.out;omega
  have l0:=LB.step e0 B108.out;have J1:=zz (LV.step y0.out B108.out);have Q3:=zz (LV.is J1.out).2.2;have T2:=l0.cell0;have U2:=l0.cell1;have V2:=l0.frozen 0;have W2:=l0.frozen 1;have S3:=l0.lt;have Z3:=zz I2.out;have E0:=zz (show sgn na (val ((dig x.natAbs).drop ka))=0 by rw[List.drop_eq_nil_of_le (by rw[O3.out];exact Nat.le_refl _)];cases na <;> rfl);go_wp2;go_loopw [6,7] (fun nv iv wr=>∃ (k:Nat) (m:Int),nv=.int .i64 m∧iv=.int .i64 ((k:Int)-1)∧k≤ka∧Hid (m=sgn na (val ((dig x.natAbs).drop k)))∧wr=w100) (fun _ iv _=>(intOf iv+1).toNat)
  case atStart=>exact⟨ka,0,rfl,rfl,Nat.le_refl _,zz E0.out.symm,rfl⟩
  case round=>
   obtain⟨k,m,rfl,rfl,hk,HM,rfl⟩:=hrel;rcases Nat.eq_zero_or_pos k with E0 | E0
   ·subst E0;have a4:=zz (show m=x by rw[HM.out,List.drop_zero,P3.out];exact N3.out);rw[show(((0:Nat):Int)-1)=-1 from rfl];go_wp2;go_ret2;rw[HZ.out,a4.out];exact⟨Z3.out,rfl⟩
   ·obtain⟨j,rfl⟩:∃ j,k=j+1:=⟨k-1,by omega⟩;rw[show(((j+1:Nat):Int)-1)=(j:Int) by omega];have hjd:j<(dig x.natAbs).length:=by rw[O3.out];omega
    obtain⟨g1,o1,rfl,hxd⟩:=Q3.out.digit hjd;obtain⟨d,hd⟩:∃ d,d=(dig x.natAbs).getD j 0:=⟨_,rfl⟩;rw[← hd] at hxd;have hd9:d<1000000000:=by rw[hd];exact Y3.out.getD j
    obtain⟨V,hV⟩:∃ V,V=val ((dig x.natAbs).drop (j+1)):=⟨_,rfl⟩;have hle:=drop_le (dig x.natAbs) j;have hdd:=drop_digit hjd;rw[← hd,← hV] at hdd;rw[P3.out,hdd] at hle;have hm:=HM.out;rw[← hV] at hm;have hj0:(0:Int)≤(j:Int):=by omega
    have hjk:(j:Int)<(ka:Int):=by omega
    cases na with
    | true=>
     obtain rfl:m=-(V:Int):=hm;have HN:=zz (show -(V:Int)*1000000000-(d:Int)=sgn true (val ((dig x.natAbs).drop j)) by rw[hdd];show _=-((d+1000000000*V:Nat):Int);omega);have hV9:d+1000000000*V≤9223372036854775808:=by omega
     clear hd hV hle hdd HM;go_wp2;go_roundw
     case rel=>exact⟨j,_,rfl,rfl,by omega,HN,trivial⟩
     case measure=>simp[intOf]
    | false=>
     obtain rfl:m=(V:Int):=hm;have HN:=zz (show(V:Int)*1000000000+(d:Int)=sgn false (val ((dig x.natAbs).drop j)) by rw[hdd];show _=((d+1000000000*V:Nat):Int);omega);have hV9:d+1000000000*V≤9223372036854775808:=by omega
     have hV8:d+1000000000*V≤9223372036854775807:=by have h:=N3.out;have h2:sgn false x.natAbs=(x.natAbs:Int):=rfl;rw[h2] at h;omega
     clear hd hV hle hdd HM;go_wp2;go_roundw
     case rel=>exact⟨j,_,rfl,rfl,by omega,HN,trivial⟩
     case measure=>simp[intOf]
 ·have HVa:=zz hva;have HZ:=zz (show r=(0,30) by rw[HR.out];exact A1_bad hva);clear hva HR;go_enter Tryz.func78,Tryz.ntmps78
  go_wp2_with fail
  refine(Right_bad Ha.out HVa.out).mono ?_;rintro e w113 ⟨F0,rfl⟩;have B114:=zz F0;have z114:=B114.out.size;have J2:=zz (B0.out.trans (B114.out.mono B0.out.size));clear F0;go_wp2;go_ret2;rw[HZ.out];exact⟨J2.out,rfl⟩
end Go.Proofs.YtioclokmbgmamaaGreatDoor
namespace Go.Proofs.YtioclokmbgmamaaGreatDoor
open Go Go.RowKit Dig
theorem itoa_zero {z:Int} (h:z=0):Lib.itoa z=[48]:=by rw[h,itoa_pos (by omega)];exact dd_zero
theorem itoa_sign {z:Int} {O:List UInt8} (h:O.reverse=Lib.decDigits z.natAbs):(if z<0 then O++[45] else O).reverse=Lib.itoa z:=by
 by_cases hz:z<0
 ·rw[if_pos hz,itoa_min hz,List.reverse_append,h];rfl
 ·rw[if_neg hz,itoa_pos (by omega),h]
theorem itoa_ne (z:Int):Lib.itoa z≠[]:=fun h=>by
 have h1:=bare_itoa z;rw[h] at h1;exact dd_ne _ h1.symm
theorem rev_set {T:List UInt8} {i j:Nat} (h:T.length=i+j+1) (hj:j<T.length):(T.reverse.take i++List.replicate (j+1) 0).set i T[j]=T.reverse.take (i+1)++List.replicate j 0:=by
 have hi:i<T.reverse.length:=by rw[List.length_reverse];omega
 have h1:=set_next (T.reverse.take i) (0:UInt8) T[j] j;rw[List.length_take,Nat.min_eq_left (by omega)] at h1;rw[h1,List.take_succ_eq_append_getElem hi];have e:T.reverse[i]=T[j]:=by rw[List.getElem_reverse];congr 1;omega
 rw[e]
set_option maxRecDepth 100000 in
set_option maxHeartbeats 4000000 in
theorem RDecimal_any (w:World) (va:Value) (z:Int) (ha:LV w w.heap.size va z) (hl:(dig z.natAbs).length≤100000) :
  Calls Tryz.prog 85 #[va] w fun e w'=>Below w.heap.size w w'∧∃ s:ByteArray,e=.returned (.string s)∧s.data.toList=Lib.itoa z:=by
 obtain⟨i0,hi0,hz0,hz1,hz2⟩:=info_parts byte_info;obtain⟨na,Aa,la,ca,rfl,HA⟩:=ha.opened;have hl1:=HA.is.2.1;have hna:=HA.is.1;clear ha;by_cases hz:z=0
 ·obtain rfl:la=0:=hl1.trans (len_zero hz);have HI:=zz (itoa_zero hz);clear hz hl1 hna HA;go_enter Tryz.func85,Tryz.ntmps85
  go_wp2;go_ret;exact⟨by(repeat' (first | exact Below.refl _ _ | refine Below.drew ?_ | refine Below.alloc ?_ (by first | exact Nat.le_refl _ | (simp;done) | (simp;omega)) _)),_,rfl,HI.out.symm⟩
 ·have O0:=zz HA.is.2.2;have hlb:((la:Int)==0)=false:=by rw[beq_eq_false_iff_ne];have:=len_pos hz;omega
  rw[← hl1] at hl;have x0:=zz (dig_small z.natAbs);have P0:=zz (val_dig z.natAbs);have y0:=zz hl1.symm;have z0:=zz hna;have A0:=zz (show z.natAbs≠0 by omega);have B0:=zz (fun O=>itoa_sign (z:=z) (O:=O));have Q0:=zz (itoa_ne z);have L0:LB (w.alloc (.cells #[.bool na,.slice Aa la ca] 24)) w.heap.size (.bool na) (.slice Aa la ca):=by(repeat (first | (refine LB.new' ?_;simp;done) | refine LB.alloc ?_ _))
  have b0:=zz (show Below w.heap.size w (w.alloc (.cells #[.bool na,.slice Aa la ca] 24)) by(repeat' (first | exact Below.refl _ _ | refine Below.drew ?_ | refine Below.alloc ?_ (by first | exact Nat.le_refl _ | (simp;done) | (simp;omega)) _)));clear hl1 hna hz HA;generalize dig z.natAbs=ds at *
  generalize z.natAbs=N at *
  go_enter Tryz.func85,Tryz.ntmps85
  go_wp2;go_loopw [3,4] (fun ov iv wr=>∃ (i:Nat) (O:List UInt8) (v:Value),v=ov∧iv=.int .i64 i∧i≤la∧Hid (DecO ds i O)∧Hid (OwnBV wr (w.heap.size+1) v O)∧LB wr w.heap.size (.bool na) (.slice Aa la ca)∧Hid (Below w.heap.size w wr)∧Hid (w.heap.size+1≤wr.heap.size)) (fun _ iv _=>la-(intOf iv).toNat)
  case atStart=>exact⟨0,[],_,rfl,rfl,by omega,zz (DecO.start ds),zz (OwnBV.nil _ _),L0,b0,zz (by simp)⟩
  case round=>
   clear L0 b0;obtain⟨i,O,v,rfl,rfl,hi,hD,hO,M0,f0,g0⟩:=hrel;have q00:=M0.cell0;have q01:=M0.cell1;by_cases hlt:i<la
   ·have hids:i<ds.length:=by rw[y0.out];exact hlt
    obtain⟨g1,o1,rfl,hx⟩:=(O0.out.below f0.out).digit hids;obtain⟨d0,hd0⟩:∃ d,d=ds.getD i 0:=⟨_,rfl⟩;rw[← hd0] at hx;have hd9:d0<1000000000:=by rw[hd0];exact x0.out.getD i
    have C0:=zz (show DecI ds i 0 d0 O by rw[hd0,getD_get hids];exact hD.out.enter hids x0.out);clear hd0 hD;obtain⟨wo,hwo⟩:∃ wo:World,wo=wr:=⟨_,rfl⟩;subst hwo;go_wp2;clear q00 q01 hx;go_loopw [3,5,6] (fun ov dv kv wr=>∃ (k d:Nat) (O:List UInt8) (v:Value),v=ov∧dv=.int .i64 d∧kv=.int .i64 k∧k≤9∧d<1000000000∧Hid (DecI ds i k d O)∧Hid (OwnBV wr (w.heap.size+1) v O)∧LB wr w.heap.size (.bool na) (.slice (some ⟨g1,o1,none⟩) la ca)∧Hid (Below w.heap.size w wr)∧Hid (w.heap.size+1≤wr.heap.size)) (fun _ _ kv _=>9-(intOf kv).toNat)
    case atStart=>exact⟨0,d0,O,_,rfl,rfl,rfl,by omega,hd9,C0,hO,M0,f0,g0⟩
    case round=>
     clear C0 hO M0 f0 g0 hd9;obtain⟨k,d,O,v,rfl,rfl,rfl,hk,hd9,hD,hO,M0,f0,g0⟩:=hrel;by_cases e0:k<9
     ·have o0:=zz (hD.out.step e0);have hlen:O.length≤900009:=by rw[hD.out.len];omega
      obtain⟨c,hc⟩:∃ c:UInt8,c=UInt8.ofNat (48+d % 10):=⟨_,rfl⟩;have HC:=zz (show(48:Int)+(d:Int) % 10=(c.toNat:Int) by rw[hc,ofNat_dig (Nat.mod_lt _ (by decide))];omega);rw[← hc] at o0;have hown:=hO.out.alloc (.cells #[.int .u8 (48+(d:Int) % 10)] 5);clear hc hD;go_wp2_with (at_builtin;refine wpList_append_own_at _ rfl _ _ 62 rfl (w.heap.size+1) 5 i0 (.int .u8 0) 1 1 Tryz.underlying62 hi0 hz0 hz1 hz2 rfl (by decide) v O.length (Lib.byteCells O) rfl hown ⟨wr.heap.size,0,none⟩ 1 1 [.int .u8 (48+(d:Int) % 10)] rfl rfl (cell_one_new _ _ _) (by intro u hu;simp at hu;subst hu;rfl) (by unfold maxLen;omega) (by omega) (by have:=g0.out;simp;omega) ?_)
      intro v' w' hown' hgrow hne hblk;have hv':OwnBV w' (w.heap.size+1) v' (O++[c]):=push_byte HC.out hown';have hrow:∀ b,b<w.heap.size+1→v.ownBlock≠some b:=fun b hb he=>by
       have:=(World.ownsRow.lt hO.out b he).1
       omega
      have N0:=(M0.alloc (.cells #[.int .u8 (48+(d:Int) % 10)] 5)).grown hgrow (hrow _ (by omega));have a0:=zz ((f0.out.alloc f0.out.size (.cells #[.int .u8 (48+(d:Int) % 10)] 5)).grown hgrow (by have:=f0.out.size;simp;omega) (fun g he=>by have:=(World.ownsRow.lt hO.out g he).1;omega));have t0:=zz (show w.heap.size+1≤w'.heap.size by have h1:=hgrow.size;have h2:=g0.out;simp at h1;omega);have HV:=zz hv';have hd10:d / 10<1000000000:=by omega
      rcases hv'.form with ⟨_,he⟩ | ⟨g,cap,rfl,_⟩
      ·simp at he
      clear hown' hgrow hne hblk hown hv' hrow hO g0 f0 M0;go_wp2;go_roundw
      case rel=>exact⟨k+1,d / 10,O++[c],_,rfl,by go_num,by go_num,by omega,hd10,o0,HV,N0,a0,t0⟩
      case measure=>simp[intOf];omega
     ·obtain rfl:k=9:=by omega
      have R0:=zz hD.out.leave;clear hD;go_wp2;go_roundw
      case rel=>exact⟨i+1,O,_,rfl,by go_num,by omega,R0,hO,M0,f0,g0⟩
      case measure=>simp[intOf];omega
   ·obtain rfl:i=la:=by omega
    have j0:=zz hD.out.all;have h0:=zz (show numR O=N by rw[hD.out.sum,← y0.out,List.take_length,P0.out]);have l0:=zz (show O.length≤900000 by rw[hD.out.len];omega);clear hD;obtain⟨wo,hwo⟩:∃ wo:World,wo=wr:=⟨_,rfl⟩;subst hwo;go_wp2;clear q00 q01;go_loopw [3] (fun ov wr=>∃ (O:List UInt8) (v:Value),v=ov∧Hid (AllDig O)∧Hid (numR O=N)∧Hid (O.length≤900000)∧Hid (OwnBV wr (w.heap.size+1) v O)∧LB wr w.heap.size (.bool na) (.slice Aa i ca)∧Hid (Below w.heap.size w wr)∧Hid (w.heap.size+1≤wr.heap.size)) (fun ov _=>lenOf ov)
    case atStart=>exact⟨O,v,rfl,j0,h0,l0,hO,M0,f0,g0⟩
    case round=>
     clear j0 h0 l0 hO M0 f0 g0;obtain⟨O,v,rfl,j0,h0,l0,hO,M0,f0,g0⟩:=hrel;have hne:O≠[]:=fun e=>A0.out (by rw[← h0.out,e];rfl)
     obtain⟨P,c,rfl⟩:∃ P c,O=P++[c]:=⟨O.dropLast,O.getLast hne,(List.dropLast_concat_getLast hne).symm⟩;rcases hO.out.form with ⟨-,he⟩ | ⟨g,cap,rfl,hcap,hcap2,hgB,hown⟩
     ·exact absurd he hne
     have hcl:=hown.cell P.length (by simp);rw[List.getElem_append_right (Nat.le_refl _)] at hcl;simp only[Nat.sub_self,List.getElem_cons_zero] at hcl
     have hPl:P.length+1≤900000:=by have:=l0.out;simp at this;omega
     rw[List.length_append,List.length_singleton] at hcap;rw[List.length_append,List.length_singleton];obtain⟨p,hp⟩:∃ p,p=P.length:=⟨_,rfl⟩;rw[← hp] at hcl hPl hcap;rw[← hp];have HP:=zz hp;have hpi:(p:Int)<(p:Int)+1:=by omega
     have hpc:(p:Int)≤(cap:Int):=by omega
     clear hp hne hown;by_cases hc:c=48
     ·have hcb:((c.toNat:Int)==48)=true:=by rw[hc];rfl
      have H0:=zz (show AllDig P from fun x hx=>j0.out x (List.mem_append_left _ hx));have I0:=zz (show numR P=N by rw[← h0.out,hc,numR_cut]);have J0:=zz (show P.length≤900000 by rw[← HP.out];omega);have m0:=zz (show OwnBV wr (w.heap.size+1) (.slice (some ⟨g,0,none⟩) p cap) P by rw[HP.out];exact pop_byte (n:=P.length+1) (by have h:=hO.out;simpa using h));clear hc j0 h0 l0 hO;go_wp2;go_roundw
      case rel=>exact⟨P,_,rfl,H0,I0,J0,m0,M0,f0,g0⟩
      case measure=>simp[lenOf]
     ·have hcb:((c.toNat:Int)==48)=false:=by
       rw[beq_eq_false_iff_ne];intro e;exact hc (UInt8.toNat.inj (by show c.toNat=48;omega))
      have q0:=zz (show(P++[c]).reverse=Lib.decDigits N from dec_end j0.out h0.out (by simpa using hc) A0.out);have m0:=zz (show OwnBV wr (w.heap.size+1) (.slice (some ⟨g,0,none⟩) (p+1) cap) (P++[c]) by have h:=hO.out;rw[HP.out];simpa using h);have hq0:=M0.cell0;have u0:=zz (show(P++[c]).length=p+1 by rw[HP.out];simp);clear hc j0 h0 l0 hO;generalize P++[c]=O at *
      go_upto_if 51 with (fail)
      go_cut [3] (fun ov wx=>∃ (T:List UInt8) (v:Value),v=ov∧Hid (T.reverse=Lib.itoa z)∧Hid (T.length≤900001)∧Hid (OwnBV wx (w.heap.size+1) v T)∧Hid (Below w.heap.size w wx)∧Hid (w.heap.size+1≤wx.heap.size))
      case first=>
       cases na with
       | true=>
        have hz0':z<0:=of_decide_eq_true z0.out.symm;have k0:=zz (show(O++[45]).reverse=Lib.itoa z by have h:=B0.out O q0.out;rwa [if_pos hz0'] at h);have hown:=m0.out.alloc (.cells #[.int .u8 45] 5);have hOl:O.length≤900000:=by rw[u0.out];omega
        clear hz0';go_wp2_with (at_builtin;refine wpList_append_own_at _ rfl _ _ 62 rfl (w.heap.size+1) 5 i0 (.int .u8 0) 1 1 Tryz.underlying62 hi0 hz0 hz1 hz2 rfl (by decide) _ O.length (Lib.byteCells O) rfl hown ⟨wr.heap.size,0,none⟩ 1 1 [.int .u8 45] rfl rfl (cell_one_new _ _ _) (by intro u hu;simp at hu;subst hu;rfl) (by unfold maxLen;omega) (by omega) (by have:=g0.out;simp;omega) ?_)
        intro v' w' hown' hgrow hne hblk;have HV:=zz (show OwnBV w' (w.heap.size+1) v' (O++[45]) from push_byte (x:=45) rfl hown');have a0:=zz ((f0.out.alloc f0.out.size (.cells #[.int .u8 45] 5)).grown hgrow (by have:=f0.out.size;simp;omega) (fun g he=>by have:=(World.ownsRow.lt m0.out g he).1;omega));have t0:=zz (show w.heap.size+1≤w'.heap.size by have h1:=hgrow.size;have h2:=g0.out;simp at h1;omega);have p0:=zz (show(O++[45]).length≤900001 by simp;omega);clear hown' hgrow hne hblk hown;go_wp2;go_meet
        exact⟨O++[45],_,rfl,k0,p0,HV,a0,t0⟩
       | false=>
        have hz0':¬ z<0:=of_decide_eq_false z0.out.symm;have k0:=zz (show O.reverse=Lib.itoa z by have h:=B0.out O q0.out;rwa [if_neg hz0'] at h);have p0:=zz (show O.length≤900001 by rw[u0.out];omega);clear hz0';go_simp;go_wp2;go_meet
        exact⟨O,_,rfl,k0,p0,m0,f0,g0⟩
      case rest=>
       obtain⟨T,v,rfl,k0,p0,D0,v0,o0⟩:=hcut;clear q0 m0 u0 hq0 hpi hpc hcb M0 f0 g0 hcl;have hTne:T≠[]:=fun e=>Q0.out (by rw[← k0.out,e];rfl)
       rcases D0.out.form with ⟨-,he⟩ | ⟨gt,capt,rfl,hcapt,hcapt2,hgtB,hTown⟩
       ·exact absurd he hTne
       obtain⟨n,hn⟩:∃ n,n=T.length:=⟨_,rfl⟩;rw[← hn] at hcapt;rw[← hn];have HN:=zz hn;have hn9:n≤900001:=by rw[hn];exact p0.out
       have hmk:=mk_bytes n (by omega);have n0:=zz hTown;clear hTne hn hTown D0;go_wp2;have hs:=ownB_new wc n;have E0:=zz (n0.out.alloc (zeroBytes n));have c0:=zz (v0.out.alloc v0.out.size (zeroBytes n));have hgs:w.heap.size+1≤wc.heap.size:=o0.out;have hgt2:=n0.out.lt;clear n0 v0 o0 hmk;obtain⟨gs,hgse⟩:∃ gs,gs=wc.heap.size:=⟨_,rfl⟩;have hgs2:w.heap.size<gs:=by omega
       have hgts:gt<gs:=by omega
       rw[← hgse] at hs;rw[← hgse];clear hgs hgt2;replace hgse:=zz hgse;generalize wc.alloc (zeroBytes n)=w5 at *
       clear hgse;go_loopw [8] (fun iv wr=>∃ (i j:Nat),iv=.int .i64 i∧n=i+j∧OwnB wr gs (T.reverse.take i++List.replicate j 0)∧Hid (OwnB wr gt T)∧Hid (Below w.heap.size w wr)) (fun iv _=>n-(intOf iv).toNat)
       case atStart=>exact⟨0,n,rfl,by omega,by simpa using hs,E0,c0⟩
       case round=>
        clear hs E0 c0;obtain⟨i,j,rfl,hij,hs,n0,f0⟩:=hrel;rcases Nat.eq_zero_or_pos j with hj0 | hj0
        ·subst hj0;obtain rfl:n=i:=by omega
         have hfull:T.reverse.take n++List.replicate 0 (0:UInt8)=Lib.itoa z:=by
          rw[List.replicate_zero,List.append_nil,List.take_of_length_le (by rw[List.length_reverse,← HN.out];exact Nat.le_refl _),k0.out]
         rw[hfull] at hs;have hcv:=conv_bytes (n:=n) (cap:=n) hs (by rw[← k0.out,List.length_reverse,← HN.out]);clear hfull hs hij;go_wp2;go_ret;exact⟨f0.out,_,rfl,rfl⟩
        ·obtain⟨m,rfl⟩:∃ m,j=m+1:=⟨j-1,by omega⟩;have hmT:m<T.length:=by rw[← HN.out];omega
         have hq1:=n0.out.cell m hmT;obtain⟨yv,hq2⟩:∃ y,wr.cell? ⟨gs,i,none⟩=some y:=⟨_,hs.cell i (by simp;rw[← HN.out];omega)⟩;have hq3:=hs.frozen i;have HS:=zz (hs.set i T[m] (by simp;rw[← HN.out];omega));rw[rev_set (by rw[← HN.out];omega) hmT] at HS;obtain⟨x,hx⟩:∃ x,x=T[m]:=⟨_,rfl⟩;rw[← hx] at hq1 HS;have hin:(i:Int)<(n:Int):=by omega
         have hmn:(n:Int)-1-(i:Int)=(m:Int):=by omega
         have hmn2:(m:Int)<(n:Int):=by omega
         have hi0:(0:Int)≤(i:Int):=by omega
         have F0:=zz hij;clear hx hs hij;go_wp2;go_roundw
         case rel=>exact⟨i+1,m,by go_num,by have:=F0.out;omega,HS.out,zz (n0.out.far (p:=⟨gs,i,none⟩) (Nat.ne_of_lt hgts) _),zz (f0.out.setCell (p:=⟨gs,i,none⟩) (Nat.le_of_lt hgs2) _)⟩
         case measure=>have:=F0.out;simp[intOf];omega
end Go.Proofs.YtioclokmbgmamaaGreatDoor
namespace Go.Proofs.YtioclokmbgmamaaGreatDoor
open Go Go.RowKit Dig
theorem take_bytes (t:ByteArray) (k:Nat) (h:k<t.size):t.data.toList.take (k+1)=t.data.toList.take k++[t[k]]:=by
 rw[List.take_succ_eq_append_getElem (by simpa using h)];rfl
theorem first_byte (t:ByteArray) (h:0<t.size):t.data.toList=t[0] :: t.data.toList.drop 1:=by
 have h1:=List.drop_eq_getElem_cons (l:=t.data.toList) (i:=0) (by simpa using h);rw[List.drop_zero] at h1;exact h1
section
variable {s:List UInt8} {r:Bool} (h:r=true↔(s=[48]∨∃ c r,bare s=c :: r∧AllDig (bare s)∧c≠48)) (h0:s≠[48])
include h h0
theorem no_letter (ha:¬ AllDig (bare s)):r=false:=by
 cases r
 ·rfl
 ·rcases h.1 rfl with e | ⟨_,_,_,e,_⟩
  ·exact absurd e h0
  ·exact absurd e ha
theorem no_lead (ha:∃ q,bare s=48 :: q):r=false:=by
 cases r
 ·rfl
 ·obtain⟨q,e'⟩:=ha;rcases h.1 rfl with e | ⟨c,_,e,_,hc⟩
  ·exact absurd e h0
  ·rw[e'] at e;exact absurd (List.cons.inj e).1.symm hc
theorem no_empty (ha:bare s=[]):r=false:=by
 cases r
 ·rfl
 ·rcases h.1 rfl with e | ⟨c,_,e,_,_⟩
  ·exact absurd e h0
  ·rw[ha] at e;cases e
end
set_option maxRecDepth 100000 in
set_option maxHeartbeats 4000000 in
theorem RForm_any (w:World) (s:ByteArray) (hs:s.size≤1000000) :
  Calls Tryz.prog 137 #[.string s] w fun e w'=>Below w.heap.size w w'∧e=.returned (.bool (canon s.data.toList).isSome):=by
 obtain⟨r,hr⟩:∃ r,r=(canon s.data.toList).isSome:=⟨_,rfl⟩;rw[← hr];have hiff:=canon_iff s.data.toList;rw[← hr] at hiff;have b0:=zz hiff;clear hr hiff;by_cases h48:s.data.toList=[48]
 ·have HT:=zz (show r=true from b0.out.2 (.inl h48));have hbe:(s.toList==[48])=true:=by rw[Lib.toList_data,h48];rfl
  clear h48;go_enter Tryz.func137,Tryz.ntmps137
  go_wp2;go_ret;rw[HT.out];exact⟨Below.refl _ _,rfl⟩
 have hne:(s.toList==[48])=false:=by rw[Lib.toList_data];simpa using h48
 have d0:=zz (show s.data.toList≠[48] from h48);clear h48;by_cases hz:0<s.size
 ·have hzi:(0:Int)<(s.size:Int):=by omega
  have hfb:=first_byte s hz;by_cases h45:s[0]=45
  ·have hbb:((s[0].toNat:Int)==45)=true:=by rw[h45];rfl
   rw[h45] at hfb;obtain⟨t,ht⟩:∃ t,t=s.extract 1 s.size:=⟨_,rfl⟩;have htb:t.data.toList=bare s.data.toList:=by rw[hfb,bare_dash,ht,Lib.extract_to_end]
   have hts:t.size≤1000000:=by rw[ht,ByteArray.size_extract];omega
   have h1s:(1:Int)≤(s.size:Int):=by omega
   have HT:=zz ht;clear hfb h45 ht;go_enter Tryz.func137,Tryz.ntmps137
   go_wp2;rw[← HT.out];have HB:=zz htb;have f0:=zz hts;clear htb hts;go_loop [3] (fun iv=>∃ i:Nat,iv=.int .i64 i∧i≤t.size∧Hid (AllDig (t.data.toList.take i))) (fun iv=>t.size-(intOf iv).toNat)
   case atStart=>exact⟨0,rfl,Nat.zero_le _,zz (by rw[List.take_zero];exact AllDig.nil)⟩
   case round=>
    obtain⟨i,rfl,hi,hall⟩:=hrel;have hts2:t.size≤1000000:=f0.out;by_cases hlt:i<t.size
    ·obtain⟨c,hc⟩:∃ c,c=t[i]:=⟨_,rfl⟩;have HBad:=zz (show ¬ IsDig c→r=false from fun h=>no_letter b0.out d0.out (fun ha=>h (by rw[hc];exact ha _ (by rw[← HB.out];exact List.getElem_mem (by simpa using hlt)))));have HGo:=zz (show IsDig c→AllDig (t.data.toList.take (i+1)) from fun h=>by rw[take_bytes t i hlt,← hc];exact hall.out.append (AllDig.cons h AllDig.nil));have hci:t[i].toNat=c.toNat:=by rw[hc]
     have hii:(i:Int)<(t.size:Int):=by omega
     by_cases h1:c.toNat<48
     ·have a0:=zz (HBad.out (fun h=>by have:=h.1;omega));rw[← hci] at h1;have h1i:decide ((t[i].toNat:Int)<48)=true:=by rw[decide_eq_true_eq];omega
      clear hc hci h1;go_wp2;go_ret;rw[a0.out];exact⟨Below.refl _ _,rfl⟩
     ·by_cases h2:57<c.toNat
      ·have a0:=zz (HBad.out (fun h=>by have:=h.2;omega));rw[← hci] at h1 h2;have h1i:decide ((t[i].toNat:Int)<48)=false:=by rw[decide_eq_false_iff_not];omega
       have h2i:decide ((57:Int)<(t[i].toNat:Int))=true:=by rw[decide_eq_true_eq];omega
       clear hc hci h1 h2;go_wp2;go_ret;rw[a0.out];exact⟨Below.refl _ _,rfl⟩
      ·have HG:=zz (HGo.out ⟨by omega,by omega⟩);rw[← hci] at h1 h2;have h1i:decide ((t[i].toNat:Int)<48)=false:=by rw[decide_eq_false_iff_not];omega
       have h2i:decide ((57:Int)<(t[i].toNat:Int))=false:=by rw[decide_eq_false_iff_not];omega
       clear hc hci h1 h2 hall;go_wp2;go_round
       case rel=>exact⟨i+1,by go_num,by omega,HG⟩
       case measure=>simp[intOf];omega
    ·obtain rfl:i=t.size:=by omega
     have e0:=zz (show AllDig (bare s.data.toList) by have h:=hall.out;rw[List.take_of_length_le (by simp)] at h;rw[← HB.out];exact h);clear hall;by_cases h0:0<t.size
     ·obtain⟨c,hc⟩:∃ c,c=t[0]:=⟨_,rfl⟩;have HH:=zz (show ∃ q,bare s.data.toList=c :: q from⟨_,by rw[← HB.out,hc];exact first_byte t h0⟩);have hci:t[0].toNat=c.toNat:=by rw[hc]
      have h0i:(0:Int)<(t.size:Int):=by omega
      by_cases h1:c=48
      ·have a0:=zz (show r=false from no_lead b0.out d0.out (by obtain⟨q,e⟩:=HH.out;rw[h1] at e;exact⟨q,e⟩));have h1i:((t[0].toNat:Int) != 48)=false:=by rw[hci,h1];rfl
       have H1I:=zz h1i;clear hc hci h1;go_wp2;go_ret;rw[a0.out];refine⟨Below.refl _ _,?_⟩
       first | rfl | (show Ending.returned (Value.bool ((t[0].toNat:Int) != 48))=_;rw[H1I.out])
      ·have j0:=zz (show r=true from b0.out.2 (.inr (by obtain⟨q,e⟩:=HH.out;exact⟨c,q,e,e0.out,h1⟩)));have h1i:((t[0].toNat:Int) != 48)=true:=by
        rw[bne_iff_ne];intro e;exact h1 (UInt8.toNat.inj (by show c.toNat=48;omega))
       have H1I:=zz h1i;clear hc hci h1;go_wp2;go_ret;rw[j0.out];refine⟨Below.refl _ _,?_⟩
       first | rfl | (show Ending.returned (Value.bool ((t[0].toNat:Int) != 48))=_;rw[H1I.out])
     ·have a0:=zz (show r=false from no_empty b0.out d0.out (by rw[← HB.out];exact List.eq_nil_of_length_eq_zero (by rw[← Lib.size_eq];omega)));have h0i:(t.size:Int)≤0:=by omega
      go_wp2;go_ret;rw[a0.out];exact⟨Below.refl _ _,rfl⟩
  ·have hbb:((s[0].toNat:Int)==45)=false:=by
    rw[beq_eq_false_iff_ne];intro e;exact h45 (UInt8.toNat.inj (by show s[0].toNat=45;omega))
   have htb:s.data.toList=bare s.data.toList:=by rw[hfb];exact(bare_other _ h45).symm
   have hts:=hs;clear hfb h45;go_enter Tryz.func137,Tryz.ntmps137
   go_wp2;have HB:=zz htb;have f0:=zz hts;clear htb hts;go_loop [3] (fun iv=>∃ i:Nat,iv=.int .i64 i∧i≤s.size∧Hid (AllDig (s.data.toList.take i))) (fun iv=>s.size-(intOf iv).toNat)
   case atStart=>exact⟨0,rfl,Nat.zero_le _,zz (by rw[List.take_zero];exact AllDig.nil)⟩
   case round=>
    obtain⟨i,rfl,hi,hall⟩:=hrel;have hts2:s.size≤1000000:=f0.out;by_cases hlt:i<s.size
    ·obtain⟨c,hc⟩:∃ c,c=s[i]:=⟨_,rfl⟩;have HBad:=zz (show ¬ IsDig c→r=false from fun h=>no_letter b0.out d0.out (fun ha=>h (by rw[hc];exact ha _ (by rw[← HB.out];exact List.getElem_mem (by simpa using hlt)))));have HGo:=zz (show IsDig c→AllDig (s.data.toList.take (i+1)) from fun h=>by rw[take_bytes s i hlt,← hc];exact hall.out.append (AllDig.cons h AllDig.nil));have hci:s[i].toNat=c.toNat:=by rw[hc]
     have hii:(i:Int)<(s.size:Int):=by omega
     by_cases h1:c.toNat<48
     ·have a0:=zz (HBad.out (fun h=>by have:=h.1;omega));rw[← hci] at h1;have h1i:decide ((s[i].toNat:Int)<48)=true:=by rw[decide_eq_true_eq];omega
      clear hc hci h1;go_wp2;go_ret;rw[a0.out];exact⟨Below.refl _ _,rfl⟩
     ·by_cases h2:57<c.toNat
      ·have a0:=zz (HBad.out (fun h=>by have:=h.2;omega));rw[← hci] at h1 h2;have h1i:decide ((s[i].toNat:Int)<48)=false:=by rw[decide_eq_false_iff_not];omega
       have h2i:decide ((57:Int)<(s[i].toNat:Int))=true:=by rw[decide_eq_true_eq];omega
       clear hc hci h1 h2;go_wp2;go_ret;rw[a0.out];exact⟨Below.refl _ _,rfl⟩
      ·have HG:=zz (HGo.out ⟨by omega,by omega⟩);rw[← hci] at h1 h2;have h1i:decide ((s[i].toNat:Int)<48)=false:=by rw[decide_eq_false_iff_not];omega
       have h2i:decide ((57:Int)<(s[i].toNat:Int))=false:=by rw[decide_eq_false_iff_not];omega
       clear hc hci h1 h2 hall;go_wp2;go_round
       case rel=>exact⟨i+1,by go_num,by omega,HG⟩
       case measure=>simp[intOf];omega
    ·obtain rfl:i=s.size:=by omega
     have e0:=zz (show AllDig (bare s.data.toList) by have h:=hall.out;rw[List.take_of_length_le (by simp)] at h;rw[← HB.out];exact h);clear hall;by_cases h0:0<s.size
     ·obtain⟨c,hc⟩:∃ c,c=s[0]:=⟨_,rfl⟩;have HH:=zz (show ∃ q,bare s.data.toList=c :: q from⟨_,by rw[← HB.out,hc];exact first_byte s h0⟩);have hci:s[0].toNat=c.toNat:=by rw[hc]
      have h0i:(0:Int)<(s.size:Int):=by omega
      by_cases h1:c=48
      ·have a0:=zz (show r=false from no_lead b0.out d0.out (by obtain⟨q,e⟩:=HH.out;rw[h1] at e;exact⟨q,e⟩));have h1i:((s[0].toNat:Int) != 48)=false:=by rw[hci,h1];rfl
       have H1I:=zz h1i;clear hc hci h1;go_wp2;go_ret;rw[a0.out];refine⟨Below.refl _ _,?_⟩
       first | rfl | (show Ending.returned (Value.bool ((s[0].toNat:Int) != 48))=_;rw[H1I.out])
      ·have j0:=zz (show r=true from b0.out.2 (.inr (by obtain⟨q,e⟩:=HH.out;exact⟨c,q,e,e0.out,h1⟩)));have h1i:((s[0].toNat:Int) != 48)=true:=by
        rw[bne_iff_ne];intro e;exact h1 (UInt8.toNat.inj (by show c.toNat=48;omega))
       have H1I:=zz h1i;clear hc hci h1;go_wp2;go_ret;rw[j0.out];refine⟨Below.refl _ _,?_⟩
       first | rfl | (show Ending.returned (Value.bool ((s[0].toNat:Int) != 48))=_;rw[H1I.out])
     ·exact absurd hz h0
 ·have hzi:(s.size:Int)≤0:=by omega
  have hnil:s.data.toList=[]:=List.eq_nil_of_length_eq_zero (by rw[← Lib.size_eq];omega);have htb:s.data.toList=bare s.data.toList:=by rw[hnil];rfl
  have hts:=hs;clear hnil;go_enter Tryz.func137,Tryz.ntmps137
  go_wp2;have HB:=zz htb;have f0:=zz hts;clear htb hts;go_loop [3] (fun iv=>∃ i:Nat,iv=.int .i64 i∧i≤s.size∧Hid (AllDig (s.data.toList.take i))) (fun iv=>s.size-(intOf iv).toNat)
  case atStart=>exact⟨0,rfl,Nat.zero_le _,zz (by rw[List.take_zero];exact AllDig.nil)⟩
  case round=>
   obtain⟨i,rfl,hi,hall⟩:=hrel;have hts2:s.size≤1000000:=f0.out;by_cases hlt:i<s.size
   ·obtain⟨c,hc⟩:∃ c,c=s[i]:=⟨_,rfl⟩;have HBad:=zz (show ¬ IsDig c→r=false from fun h=>no_letter b0.out d0.out (fun ha=>h (by rw[hc];exact ha _ (by rw[← HB.out];exact List.getElem_mem (by simpa using hlt)))));have HGo:=zz (show IsDig c→AllDig (s.data.toList.take (i+1)) from fun h=>by rw[take_bytes s i hlt,← hc];exact hall.out.append (AllDig.cons h AllDig.nil));have hci:s[i].toNat=c.toNat:=by rw[hc]
    have hii:(i:Int)<(s.size:Int):=by omega
    by_cases h1:c.toNat<48
    ·have a0:=zz (HBad.out (fun h=>by have:=h.1;omega));rw[← hci] at h1;have h1i:decide ((s[i].toNat:Int)<48)=true:=by rw[decide_eq_true_eq];omega
     clear hc hci h1;go_wp2;go_ret;rw[a0.out];exact⟨Below.refl _ _,rfl⟩
    ·by_cases h2:57<c.toNat
     ·have a0:=zz (HBad.out (fun h=>by have:=h.2;omega));rw[← hci] at h1 h2;have h1i:decide ((s[i].toNat:Int)<48)=false:=by rw[decide_eq_false_iff_not];omega
      have h2i:decide ((57:Int)<(s[i].toNat:Int))=true:=by rw[decide_eq_true_eq];omega
      clear hc hci h1 h2;go_wp2;go_ret;rw[a0.out];exact⟨Below.refl _ _,rfl⟩
     ·have HG:=zz (HGo.out ⟨by omega,by omega⟩);rw[← hci] at h1 h2;have h1i:decide ((s[i].toNat:Int)<48)=false:=by rw[decide_eq_false_iff_not];omega
      have h2i:decide ((57:Int)<(s[i].toNat:Int))=false:=by rw[decide_eq_false_iff_not];omega
      clear hc hci h1 h2 hall;go_wp2;go_round
      case rel=>exact⟨i+1,by go_num,by omega,HG⟩
      case measure=>simp[intOf];omega
   ·obtain rfl:i=s.size:=by omega
    have e0:=zz (show AllDig (bare s.data.toList) by have h:=hall.out;rw[List.take_of_length_le (by simp)] at h;rw[← HB.out];exact h);clear hall;by_cases h0:0<s.size
    ·exact absurd h0 (by omega)
    ·have a0:=zz (show r=false from no_empty b0.out d0.out (by rw[← HB.out];exact List.eq_nil_of_length_eq_zero (by rw[← Lib.size_eq];omega)));have h0i:(s.size:Int)≤0:=by omega
     go_wp2;go_ret;rw[a0.out];exact⟨Below.refl _ _,rfl⟩
end Go.Proofs.YtioclokmbgmamaaGreatDoor
namespace Go.Proofs.YtioclokmbgmamaaGreatDoor
open Go Go.RowKit Dig
end Go.Proofs.YtioclokmbgmamaaGreatDoor
namespace Go.Proofs.YtioclokmbgmamaaGreatDoor
open Go Go.RowKit Dig
theorem OwnV.stored {w:World} {base g n cap:Nat} {l:List Int} (h:OwnV w base (.slice (some ⟨g,0,none⟩) n cap) l) (j:Nat) (x:Int):OwnV (w.setCell ⟨g,j,none⟩ (.int .i64 x)) base (.slice (some ⟨g,0,none⟩) n cap) (l.set j x):=by
 have hn:n=l.length:=by
  rcases h.form with ⟨h,_⟩ | ⟨g',cap',h,_⟩
  ·cases h
  ·injection h
 subst hn;have h1:=(World.ownsRow.stored h j (.int .i64 x)).1;rw[OwnV,List.length_set,List.map_set];exact h1
theorem canon_cases {s:List UInt8} (h:(canon s).isSome=true):∃ z,canon s=some z∧z=sgn (decide (bare s≠s)) (num (bare s))∧AllDig (bare s)∧bare s≠[]∧(dig z.natAbs).length≤(bare s).length∧((bare s).length≤5400↔(dig z.natAbs).length≤600):=by
 obtain⟨z,hz⟩:=Option.isSome_iff_exists.1 h;have key:∀ {z:Int} {t:List UInt8},t=Lib.decDigits z.natAbs→(t.length≤5400↔(dig z.natAbs).length≤600):=fun e=>by rw[e];exact dd_len_dig _ 600 (by omega)
 rcases(canon_iff s).1 h with e | ⟨c,r,e,ha,hc⟩
 ·subst e;rw[canon_zero] at hz;have hz0:z=0:=(Option.some.inj hz).symm;subst hz0;have hb:bare [48]=[48]:=bare_other [] (by decide);refine⟨0,canon_zero,by rw[hb];rfl,by rw[hb];exact AllDig.cons ⟨by decide,by decide⟩ AllDig.nil,by rw[hb];simp,?_,?_⟩
  ·show(dig 0).length≤_;rw[dig_zero];simp
  ·rw[hb];show _↔(dig 0).length≤600;rw[dig_zero];simp
 ·have h1:=canon_num e ha hc;have hd:=dd_of e ha hc rfl;refine⟨_,h1,rfl,ha,by rw[e];simp,?_,key (by rw[sgn_nat];exact hd.symm)⟩;rw[sgn_nat,dig_len_le,bp_ten];exact Nat.lt_of_lt_of_le (num_lt ha) (Nat.pow_le_pow_right (by omega) (by omega))
theorem dgt_byte {t:ByteArray} {i m:Nat} (h:t.size=i+m+1) (hm:m<t.size):dgt t.data.toList i=t[m].toNat-48:=by
 unfold dgt;have hl:t.data.toList.length=t.size:=(Lib.size_eq t).symm;rw[hl,show t.size-1-i=m by omega,List.getD_eq_getElem?_getD,List.getElem?_eq_getElem (by rw[hl];exact hm)]
 rfl
theorem zero_set (d:List Nat) (x:Nat):(ni (d++[0])).set d.length (x:Int)=ni (d++[x]):=by
 rw[ni_set,List.set_append_right _ _ (Nat.le_refl _),Nat.sub_self];rfl
set_option maxRecDepth 100000 in
set_option maxHeartbeats 8000000 in
theorem RParse_any (w:World) (s:ByteArray) (hs:s.size≤1000000) :
  Calls Tryz.prog 89 #[.string s] w fun e w'=>Below w.heap.size w w'∧RetL w' (parseZ s.data.toList) e:=by
 obtain⟨i0,hi0,hz0,hz1,hz2⟩:=info_parts info_int;obtain⟨r,hr⟩:∃ r,r=parseZ s.data.toList:=⟨_,rfl⟩;rw[← hr];have L0:=LB.new w (.bool false) (.slice none 0 0);have b0:=zz ((Below.refl w.heap.size w).alloc (Nat.le_refl _) (.cells #[.bool false,.slice none 0 0] 24));have hz1':w.heap.size+1≤(w.alloc (.cells #[.bool false,.slice none 0 0] 24)).heap.size:=by simp
 by_cases hsome:(canon s.data.toList).isSome=true
 ·obtain⟨z,hcz,hzs,had,hne,hlen,hbig⟩:=canon_cases hsome;have HSOME:=zz hsome;have hts0:0<s.size:=by
   apply Nat.pos_of_ne_zero;intro e
   have:s.data.toList=[]:=List.eq_nil_of_length_eq_zero (by rw[← Lib.size_eq];exact e);rw[this] at hne;exact hne rfl
  have hfb:=first_byte s hts0;have hzi:(0:Int)<(s.size:Int):=by omega
  by_cases h45:s[0]=45
  ·have hbb:((s[0].toNat:Int)==45)=true:=by rw[h45];rfl
   rw[h45] at hfb;obtain⟨t,ht⟩:∃ t,t=s.extract 1 s.size:=⟨_,rfl⟩;have htb:t.data.toList=bare s.data.toList:=by rw[hfb,bare_dash,ht,Lib.extract_to_end]
   have hts:t.size≤1000000:=by rw[ht,ByteArray.size_extract];omega
   have hng:decide (bare s.data.toList≠s.data.toList)=true:=by
    apply decide_eq_true;rw[hfb,bare_dash];intro e
    have:=congrArg List.length e;simp at this
   have h1s:(1:Int)≤(s.size:Int):=by omega
   have HT:=zz ht;rw[hng] at hzs;clear hfb h45 ht hng hsome;have K0:=zz had;rw[← htb] at hne hlen hbig hzs;have htl:t.data.toList.length=t.size:=(Lib.size_eq t).symm;rw[htl] at hlen hbig;have n0:=zz (show AllDig t.data.toList by rw[htb];exact had);by_cases hlong:t.size≤5400
   ·have HR:=zz (show r=(z,0) by rw[hr];exact parseZ_some hcz (hbig.1 hlong));have D0:=zz hzs.symm;clear hr hcz hzs had hne hlen hbig htb;go_enter Tryz.func89,Tryz.ntmps89
    go_wp2_with fail
    refine(RForm_any _ s hs).mono ?_;rintro e w1 ⟨a0,rfl⟩;rw[HSOME.out];have M0:=L0.step a0;have c0:=zz (b0.out.trans (a0.mono b0.out.size));have x0:=zz (Nat.le_trans hz1' a0.size);have p0:=zz htl;clear a0 L0 b0 htl hz1';go_upto_region 6 with (fail)
    rw[← HT.out];go_wp2;go_loopw [5,6] (fun dv iv wr=>∃ (i:Nat) (d:List Nat) (v:Value),v=dv∧iv=.int .i64 i∧i≤t.size∧Hid (ParI t.data.toList i d)∧Hid (OwnV wr (w.heap.size+1) v (ni d))∧LB wr w.heap.size (.bool false) (.slice none 0 0)∧Hid (Below w.heap.size w wr)∧Hid (w.heap.size+1≤wr.heap.size)) (fun _ iv _=>t.size-(intOf iv).toNat)
    case atStart=>exact⟨0,[],_,rfl,rfl,by omega,zz (ParI.start _),zz (OwnV.nil _ _),M0,c0,x0⟩
    case round=>
     clear M0 c0 x0;obtain⟨i,d,v,rfl,rfl,hi,hP,hO,M0,l0,o0⟩:=hrel;by_cases hlt:i<t.size
     ·obtain⟨m,hm⟩:∃ m,t.size=i+m+1:=⟨t.size-i-1,by omega⟩;have hmt:m<t.size:=by omega
      obtain⟨c,hc⟩:∃ c,c=t[m]:=⟨_,rfl⟩;have hcd:IsDig c:=by rw[hc];exact n0.out _ (List.getElem_mem (by simpa using hmt))
      obtain⟨g0,hg0⟩:∃ g,g=dgt t.data.toList i:=⟨_,rfl⟩;have hcg:(c.toNat:Int)-48=(g0:Int):=by
       rw[hg0,dgt_byte hm hmt,← hc];have:=hcd.1;omega
      have hg9:g0<10:=by rw[hg0];exact dgt_lt n0.out (by rw[p0.out];exact hlt)
      have hmi:(t.size:Int)-1-(i:Int)=(m:Int):=by omega
      have hmi2:(m:Int)<(t.size:Int):=by omega
      have hmi0:(0:Int)≤(m:Int):=by omega
      obtain⟨r9,hr9⟩:∃ r,r=i % 9:=⟨_,rfl⟩;obtain⟨q9,hq9⟩:∃ q,q=i / 9:=⟨_,rfl⟩;have hr9l:r9<9:=by omega
      have hri:(i:Int) % 9=(r9:Int):=by omega
      have hqi:(i:Int) / 9=(q9:Int):=by omega
      have hcb0:t[m].toNat=c.toNat:=by rw[hc]
      have hcl1:(48:Int)≤(c.toNat:Int):=by have:=hcd.1;omega
      have hcl2:(c.toNat:Int)≤57:=by have:=hcd.2;omega
      have y0:=zz hg0;have r0:=zz hr9;have t0:=zz hq9;have hdl:=hP.out.len;have hdr:=hP.out.room;have z0:=zz hdl;have E0:=zz hdr;clear hc hcd hg0 hm hr9 hq9 hdl hdr;obtain⟨wo,hwo⟩:∃ wo:World,wo=wr:=⟨_,rfl⟩;subst hwo;go_wp2;go_loop [7,8] (fun ov kv=>∃ (k:Nat) (o:Nat),ov=.int .i64 o∧kv=.int .i64 k∧k≤r9∧o≤1000000000∧Hid (o=g0*10 ^ k)) (fun _ kv=>r9-(intOf kv).toNat)
      case atStart=>exact⟨0,g0,rfl,rfl,by omega,by omega,zz (by simp)⟩
      case round=>
       obtain⟨k,o,rfl,rfl,hk,ho9,ho⟩:=hrel;by_cases hkr:k<r9
       ·have A0:=zz (show 10*o=g0*10 ^ (k+1) by rw[ho.out,Nat.pow_succ,Nat.mul_left_comm,Nat.mul_comm 10]);have ho10:10*o≤1000000000:=by
         rw[A0.out];have h1:(10:Nat) ^ (k+1)≤10 ^ 8:=Nat.pow_le_pow_right (by omega) (by omega);have h2:g0*10 ^ (k+1)≤9*10 ^ 8:=Nat.mul_le_mul (by omega) h1
         omega
        clear ho;go_wp2;go_round
        case rel=>exact⟨k+1,10*o,by go_num,by go_num,by omega,ho10,A0⟩
        case measure=>simp[intOf];omega
       ·obtain rfl:k=r9:=by omega
        rcases Nat.eq_zero_or_pos k with e0 | e0
        ·subst e0;have hog:o=g0:=by rw[ho.out];simp
         subst hog;have u0:=zz (show ParI t.data.toList (i+1) (d++[o]) by rw[y0.out];exact hP.out.grow r0.out.symm (by rw[p0.out];exact hlt) n0.out);have hdq:d.length=q9:=by have h1:=z0.out;have h2:=E0.out;have h3:=r0.out;have h4:=t0.out;omega
         have m0:=zz hdq;have hdl6:d.length≤700:=by have:=z0.out;omega
         have hown:=hO.out.alloc (.cells #[.int .i64 0] 3);clear hdq ho hP;go_wp2_with (at_builtin;refine wpList_append_own_at _ rfl _ _ 22 rfl (w.heap.size+1) 3 i0 (.int .i64 0) 1 8 Tryz.underlying22 hi0 hz0 hz1 hz2 rfl (by decide) v (ni d).length ((ni d).map (Value.int .i64)) rfl hown ⟨wo.heap.size,0,none⟩ 1 1 [.int .i64 0] rfl rfl (cell_one_new _ _ _) (by intro u hu;simp at hu;subst hu;rfl) (by rw[ni_length];unfold maxLen;omega) (by rw[ni_length];omega) (by have:=o0.out;simp;omega) ?_)
         intro v' w' hown' hgrow hne hblk;have hv':OwnV w' (w.heap.size+1) v' (ni (d++[0])):=by rw[ni_append];exact push_int (x:=0) hown'
         have hrow:∀ b,b<w.heap.size+1→v.ownBlock≠some b:=fun b hb he=>by
          have:=(World.ownsRow.lt hO.out b he).1
          omega
         have N0:=(M0.alloc (.cells #[.int .i64 0] 3)).grown hgrow (hrow _ (by omega));have d0:=zz ((l0.out.alloc l0.out.size (.cells #[.int .i64 0] 3)).grown hgrow (by have:=l0.out.size;simp;omega) (fun g he=>by have:=(World.ownsRow.lt hO.out g he).1;omega));have B0:=zz (show w.heap.size+1≤w'.heap.size by have h1:=hgrow.size;have h2:=o0.out;simp at h1;omega);clear hown' hgrow hne hblk hown hrow hO o0 l0 M0;rcases hv'.form with ⟨-,he⟩ | ⟨g,cap,rfl,hcap,hcap2,hgB,hown⟩
         ·simp[ni] at he
         rw[ni_length,List.length_append,List.length_singleton,m0.out] at hcap;have hqc:=hown.cell q9 (by rw[ni_length,List.length_append,m0.out];simp);rw[ni_get] at hqc;have hz0':(d++[0])[q9]'(by simp;have:=m0.out;omega)=0:=by
          rw[List.getElem_append_right (by rw[m0.out];exact Nat.le_refl _)];simp
         rw[hz0'] at hqc;have hqf:=hown.frozen q9;have HV:=zz (show OwnV (w'.setCell ⟨g,q9,none⟩ (.int .i64 (o:Int))) (w.heap.size+1) _ (ni (d++[o])) by have h:=hv'.stored q9 (o:Int);rw[← m0.out,zero_set] at h;rw[m0.out] at h;exact h);rw[ni_length,List.length_append,List.length_singleton,m0.out] at HV;rw[ni_length,List.length_append,List.length_singleton,m0.out];have hq1:(q9:Int)<(q9:Int)+1:=by omega
         have hgne:w.heap.size≠g:=by omega
         have N1:=N0.far (p:=⟨g,q9,none⟩) hgne (.int .i64 (o:Int));have f0:=zz (d0.out.setCell (p:=⟨g,q9,none⟩) (by show w.heap.size≤g;omega) (.int .i64 (o:Int)));have v0:=zz (show w.heap.size+1≤(w'.setCell ⟨g,q9,none⟩ (.int .i64 (o:Int))).heap.size by have:=B0.out;simpa[World.setCell] using this);clear hz0' hown hv' N0 d0 B0;go_wp2;go_roundw
         case rel=>exact⟨i+1,d++[o],_,rfl,by go_num,by omega,u0,HV,N1,f0,v0⟩
         case measure=>simp[intOf];omega
        ·have hkb:((k:Int)==0)=false:=by rw[beq_eq_false_iff_ne];omega
         obtain⟨hq9l,hnum,hpn⟩:=hP.out.add (by rw[← r0.out];omega) (by rw[p0.out];exact hlt) n0.out;obtain⟨x,hx⟩:∃ x,x=d[i / 9]:=⟨_,rfl⟩;rw[← hx,← y0.out,← r0.out,← ho.out] at hnum hpn;have hdx:d[q9]'(by rw[t0.out];exact hq9l)=x:=by rw[hx];congr 1
         rw[← t0.out] at hpn hq9l;have u0:=zz hpn;rcases hO.out.form with ⟨-,he⟩ | ⟨g,cap,rfl,hcap,hcap2,hgB,hown⟩
         ·have h1:=congrArg List.length he;rw[ni_length] at h1;have h2:d.length=0:=h1
          omega
         rw[ni_length] at hcap;have hqc:=hown.cell q9 (by rw[ni_length];exact hq9l);rw[ni_get,hdx] at hqc;have hqf:=hown.frozen q9;have HV:=zz (show OwnV (wo.setCell ⟨g,q9,none⟩ (.int .i64 ((x:Int)+(o:Int)))) (w.heap.size+1) _ (ni (d.set q9 (x+o))) by have h:=hO.out.stored q9 ((x+o:Nat):Int);rw[ni_set] at h;rw[show((x+o:Nat):Int)=(x:Int)+(o:Int) by omega] at h;exact h);rw[ni_length] at HV;rw[ni_length];obtain⟨dl,hdl⟩:∃ l,l=d.length:=⟨_,rfl⟩;rw[← hdl] at HV hcap hq9l;rw[← hdl];have hq1:(q9:Int)<(dl:Int):=by omega
         have hgne:w.heap.size≠g:=by omega
         have N1:=M0.far (p:=⟨g,q9,none⟩) hgne (.int .i64 ((x:Int)+(o:Int)));have f0:=zz (l0.out.setCell (p:=⟨g,q9,none⟩) (by show w.heap.size≤g;omega) (.int .i64 ((x:Int)+(o:Int))));have v0:=zz (show w.heap.size+1≤(wo.setCell ⟨g,q9,none⟩ (.int .i64 ((x:Int)+(o:Int)))).heap.size by have:=o0.out;simpa[World.setCell] using this);clear hpn hx hdx hown hO ho hP M0 l0 o0 hdl e0;go_wp2;go_roundw
         case rel=>exact⟨i+1,_,_,rfl,by go_num,by omega,u0,HV,N1,f0,v0⟩
         case measure=>simp[intOf];omega
     ·obtain rfl:i=t.size:=by omega
      have F0:=zz (show val d=num t.data.toList by have h:=hP.out;rw[← p0.out] at h;exact h.fin);have G0:=zz hP.out.small;have H0:=zz (show d.length≤1000000 by have:=hP.out.len;omega);have I0:=zz (show RN wr wr.heap.size _ d from hO.out.ri);clear hP;go_wp2_with fail
      refine(made_any _ _ _ d I0.out G0.out H0.out).mono ?_;rintro e w2 ⟨h0,v2,rfl,j0⟩;rw[F0.out,D0.out] at j0;obtain⟨n3,A3,l3,c3,rfl,k0⟩:=j0.opened;have C0:=zz k0;have N0:=M0.step h0;have d0:=zz (l0.out.trans (h0.mono l0.out.size));clear j0 k0 h0 M0 l0;have q20:=N0.cell0;have q21:=N0.cell1;have q22:=N0.frozen 0;have q23:=N0.frozen 1;go_wp2;(try simp only[Exit.inBlock,Exit.then])
      exact end_put rfl N0 d0.out (by omega) C0.out.is.2.2 C0.out.is.1 HR.out rfl rfl
   ·have HR:=zz (show r=(0,6) by rw[hr];exact parseZ_long hcz (fun h=>hlong (hbig.2 h)));have hlongi:(5400:Int)<(t.size:Int):=by omega
    clear hr hcz hzs had hne hlen hbig htb hlong htl;go_enter Tryz.func89,Tryz.ntmps89
    go_wp2_with fail
    refine(RForm_any _ s hs).mono ?_;rintro e w1 ⟨a0,rfl⟩;rw[HSOME.out];have M0:=L0.step a0;have c0:=zz (b0.out.trans (a0.mono b0.out.size));clear a0 L0 b0;have q0:=M0.cell0;have q1:=M0.cell1;have q2:=M0.frozen 0;have q3:=M0.frozen 1;go_upto_region 6 with (fail)
    rw[← HT.out];go_wp2;(try simp only[Exit.inBlock,Exit.then])
    exact end_zero rfl M0 c0.out (by omega) HR.out rfl rfl
  ·have hbb:((s[0].toNat:Int)==45)=false:=by
    rw[beq_eq_false_iff_ne];intro e;exact h45 (UInt8.toNat.inj (by show s[0].toNat=45;omega))
   have htb:s.data.toList=bare s.data.toList:=by rw[hfb];exact(bare_other _ h45).symm
   have hts:=hs;have hng:decide (bare s.data.toList≠s.data.toList)=false:=by
    apply decide_eq_false;rw[← htb];simp
   rw[hng] at hzs;clear hfb h45 hng hsome;have K0:=zz had;rw[← htb] at hne hlen hbig hzs;have htl:s.data.toList.length=s.size:=(Lib.size_eq s).symm;rw[htl] at hlen hbig;have n0:=zz (show AllDig s.data.toList by rw[htb];exact had);by_cases hlong:s.size≤5400
   ·have HR:=zz (show r=(z,0) by rw[hr];exact parseZ_some hcz (hbig.1 hlong));have D0:=zz hzs.symm;clear hr hcz hzs had hne hlen hbig htb;go_enter Tryz.func89,Tryz.ntmps89
    go_wp2_with fail
    refine(RForm_any _ s hs).mono ?_;rintro e w1 ⟨a0,rfl⟩;rw[HSOME.out];have M0:=L0.step a0;have c0:=zz (b0.out.trans (a0.mono b0.out.size));have x0:=zz (Nat.le_trans hz1' a0.size);have p0:=zz htl;clear a0 L0 b0 htl hz1';go_wp2;go_loopw [5,6] (fun dv iv wr=>∃ (i:Nat) (d:List Nat) (v:Value),v=dv∧iv=.int .i64 i∧i≤s.size∧Hid (ParI s.data.toList i d)∧Hid (OwnV wr (w.heap.size+1) v (ni d))∧LB wr w.heap.size (.bool false) (.slice none 0 0)∧Hid (Below w.heap.size w wr)∧Hid (w.heap.size+1≤wr.heap.size)) (fun _ iv _=>s.size-(intOf iv).toNat)
    case atStart=>exact⟨0,[],_,rfl,rfl,by omega,zz (ParI.start _),zz (OwnV.nil _ _),M0,c0,x0⟩
    case round=>
     clear M0 c0 x0;obtain⟨i,d,v,rfl,rfl,hi,hP,hO,M0,l0,o0⟩:=hrel;by_cases hlt:i<s.size
     ·obtain⟨m,hm⟩:∃ m,s.size=i+m+1:=⟨s.size-i-1,by omega⟩;have hmt:m<s.size:=by omega
      obtain⟨c,hc⟩:∃ c,c=s[m]:=⟨_,rfl⟩;have hcd:IsDig c:=by rw[hc];exact n0.out _ (List.getElem_mem (by simpa using hmt))
      obtain⟨g0,hg0⟩:∃ g,g=dgt s.data.toList i:=⟨_,rfl⟩;have hcg:(c.toNat:Int)-48=(g0:Int):=by
       rw[hg0,dgt_byte hm hmt,← hc];have:=hcd.1;omega
      have hg9:g0<10:=by rw[hg0];exact dgt_lt n0.out (by rw[p0.out];exact hlt)
      have hmi:(s.size:Int)-1-(i:Int)=(m:Int):=by omega
      have hmi2:(m:Int)<(s.size:Int):=by omega
      have hmi0:(0:Int)≤(m:Int):=by omega
      obtain⟨r9,hr9⟩:∃ r,r=i % 9:=⟨_,rfl⟩;obtain⟨q9,hq9⟩:∃ q,q=i / 9:=⟨_,rfl⟩;have hr9l:r9<9:=by omega
      have hri:(i:Int) % 9=(r9:Int):=by omega
      have hqi:(i:Int) / 9=(q9:Int):=by omega
      have hcb0:s[m].toNat=c.toNat:=by rw[hc]
      have hcl1:(48:Int)≤(c.toNat:Int):=by have:=hcd.1;omega
      have hcl2:(c.toNat:Int)≤57:=by have:=hcd.2;omega
      have y0:=zz hg0;have r0:=zz hr9;have t0:=zz hq9;have hdl:=hP.out.len;have hdr:=hP.out.room;have z0:=zz hdl;have E0:=zz hdr;clear hc hcd hg0 hm hr9 hq9 hdl hdr;obtain⟨wo,hwo⟩:∃ wo:World,wo=wr:=⟨_,rfl⟩;subst hwo;go_wp2;go_loop [7,8] (fun ov kv=>∃ (k:Nat) (o:Nat),ov=.int .i64 o∧kv=.int .i64 k∧k≤r9∧o≤1000000000∧Hid (o=g0*10 ^ k)) (fun _ kv=>r9-(intOf kv).toNat)
      case atStart=>exact⟨0,g0,rfl,rfl,by omega,by omega,zz (by simp)⟩
      case round=>
       obtain⟨k,o,rfl,rfl,hk,ho9,ho⟩:=hrel;by_cases hkr:k<r9
       ·have A0:=zz (show 10*o=g0*10 ^ (k+1) by rw[ho.out,Nat.pow_succ,Nat.mul_left_comm,Nat.mul_comm 10]);have ho10:10*o≤1000000000:=by
         rw[A0.out];have h1:(10:Nat) ^ (k+1)≤10 ^ 8:=Nat.pow_le_pow_right (by omega) (by omega);have h2:g0*10 ^ (k+1)≤9*10 ^ 8:=Nat.mul_le_mul (by omega) h1
         omega
        clear ho;go_wp2;go_round
        case rel=>exact⟨k+1,10*o,by go_num,by go_num,by omega,ho10,A0⟩
        case measure=>simp[intOf];omega
       ·obtain rfl:k=r9:=by omega
        rcases Nat.eq_zero_or_pos k with e0 | e0
        ·subst e0;have hog:o=g0:=by rw[ho.out];simp
         subst hog;have u0:=zz (show ParI s.data.toList (i+1) (d++[o]) by rw[y0.out];exact hP.out.grow r0.out.symm (by rw[p0.out];exact hlt) n0.out);have hdq:d.length=q9:=by have h1:=z0.out;have h2:=E0.out;have h3:=r0.out;have h4:=t0.out;omega
         have m0:=zz hdq;have hdl6:d.length≤700:=by have:=z0.out;omega
         have hown:=hO.out.alloc (.cells #[.int .i64 0] 3);clear hdq ho hP;go_wp2_with (at_builtin;refine wpList_append_own_at _ rfl _ _ 22 rfl (w.heap.size+1) 3 i0 (.int .i64 0) 1 8 Tryz.underlying22 hi0 hz0 hz1 hz2 rfl (by decide) v (ni d).length ((ni d).map (Value.int .i64)) rfl hown ⟨wo.heap.size,0,none⟩ 1 1 [.int .i64 0] rfl rfl (cell_one_new _ _ _) (by intro u hu;simp at hu;subst hu;rfl) (by rw[ni_length];unfold maxLen;omega) (by rw[ni_length];omega) (by have:=o0.out;simp;omega) ?_)
         intro v' w' hown' hgrow hne hblk;have hv':OwnV w' (w.heap.size+1) v' (ni (d++[0])):=by rw[ni_append];exact push_int (x:=0) hown'
         have hrow:∀ b,b<w.heap.size+1→v.ownBlock≠some b:=fun b hb he=>by
          have:=(World.ownsRow.lt hO.out b he).1
          omega
         have N0:=(M0.alloc (.cells #[.int .i64 0] 3)).grown hgrow (hrow _ (by omega));have d0:=zz ((l0.out.alloc l0.out.size (.cells #[.int .i64 0] 3)).grown hgrow (by have:=l0.out.size;simp;omega) (fun g he=>by have:=(World.ownsRow.lt hO.out g he).1;omega));have B0:=zz (show w.heap.size+1≤w'.heap.size by have h1:=hgrow.size;have h2:=o0.out;simp at h1;omega);clear hown' hgrow hne hblk hown hrow hO o0 l0 M0;rcases hv'.form with ⟨-,he⟩ | ⟨g,cap,rfl,hcap,hcap2,hgB,hown⟩
         ·simp[ni] at he
         rw[ni_length,List.length_append,List.length_singleton,m0.out] at hcap;have hqc:=hown.cell q9 (by rw[ni_length,List.length_append,m0.out];simp);rw[ni_get] at hqc;have hz0':(d++[0])[q9]'(by simp;have:=m0.out;omega)=0:=by
          rw[List.getElem_append_right (by rw[m0.out];exact Nat.le_refl _)];simp
         rw[hz0'] at hqc;have hqf:=hown.frozen q9;have HV:=zz (show OwnV (w'.setCell ⟨g,q9,none⟩ (.int .i64 (o:Int))) (w.heap.size+1) _ (ni (d++[o])) by have h:=hv'.stored q9 (o:Int);rw[← m0.out,zero_set] at h;rw[m0.out] at h;exact h);rw[ni_length,List.length_append,List.length_singleton,m0.out] at HV;rw[ni_length,List.length_append,List.length_singleton,m0.out];have hq1:(q9:Int)<(q9:Int)+1:=by omega
         have hgne:w.heap.size≠g:=by omega
         have N1:=N0.far (p:=⟨g,q9,none⟩) hgne (.int .i64 (o:Int));have f0:=zz (d0.out.setCell (p:=⟨g,q9,none⟩) (by show w.heap.size≤g;omega) (.int .i64 (o:Int)));have v0:=zz (show w.heap.size+1≤(w'.setCell ⟨g,q9,none⟩ (.int .i64 (o:Int))).heap.size by have:=B0.out;simpa[World.setCell] using this);clear hz0' hown hv' N0 d0 B0;go_wp2;go_roundw
         case rel=>exact⟨i+1,d++[o],_,rfl,by go_num,by omega,u0,HV,N1,f0,v0⟩
         case measure=>simp[intOf];omega
        ·have hkb:((k:Int)==0)=false:=by rw[beq_eq_false_iff_ne];omega
         obtain⟨hq9l,hnum,hpn⟩:=hP.out.add (by rw[← r0.out];omega) (by rw[p0.out];exact hlt) n0.out;obtain⟨x,hx⟩:∃ x,x=d[i / 9]:=⟨_,rfl⟩;rw[← hx,← y0.out,← r0.out,← ho.out] at hnum hpn;have hdx:d[q9]'(by rw[t0.out];exact hq9l)=x:=by rw[hx];congr 1
         rw[← t0.out] at hpn hq9l;have u0:=zz hpn;rcases hO.out.form with ⟨-,he⟩ | ⟨g,cap,rfl,hcap,hcap2,hgB,hown⟩
         ·have h1:=congrArg List.length he;rw[ni_length] at h1;have h2:d.length=0:=h1
          omega
         rw[ni_length] at hcap;have hqc:=hown.cell q9 (by rw[ni_length];exact hq9l);rw[ni_get,hdx] at hqc;have hqf:=hown.frozen q9;have HV:=zz (show OwnV (wo.setCell ⟨g,q9,none⟩ (.int .i64 ((x:Int)+(o:Int)))) (w.heap.size+1) _ (ni (d.set q9 (x+o))) by have h:=hO.out.stored q9 ((x+o:Nat):Int);rw[ni_set] at h;rw[show((x+o:Nat):Int)=(x:Int)+(o:Int) by omega] at h;exact h);rw[ni_length] at HV;rw[ni_length];obtain⟨dl,hdl⟩:∃ l,l=d.length:=⟨_,rfl⟩;rw[← hdl] at HV hcap hq9l;rw[← hdl];have hq1:(q9:Int)<(dl:Int):=by omega
         have hgne:w.heap.size≠g:=by omega
         have N1:=M0.far (p:=⟨g,q9,none⟩) hgne (.int .i64 ((x:Int)+(o:Int)));have f0:=zz (l0.out.setCell (p:=⟨g,q9,none⟩) (by show w.heap.size≤g;omega) (.int .i64 ((x:Int)+(o:Int))));have v0:=zz (show w.heap.size+1≤(wo.setCell ⟨g,q9,none⟩ (.int .i64 ((x:Int)+(o:Int)))).heap.size by have:=o0.out;simpa[World.setCell] using this);clear hpn hx hdx hown hO ho hP M0 l0 o0 hdl e0;go_wp2;go_roundw
         case rel=>exact⟨i+1,_,_,rfl,by go_num,by omega,u0,HV,N1,f0,v0⟩
         case measure=>simp[intOf];omega
     ·obtain rfl:i=s.size:=by omega
      have F0:=zz (show val d=num s.data.toList by have h:=hP.out;rw[← p0.out] at h;exact h.fin);have G0:=zz hP.out.small;have H0:=zz (show d.length≤1000000 by have:=hP.out.len;omega);have I0:=zz (show RN wr wr.heap.size _ d from hO.out.ri);clear hP;go_wp2_with fail
      refine(made_any _ _ _ d I0.out G0.out H0.out).mono ?_;rintro e w2 ⟨h0,v2,rfl,j0⟩;rw[F0.out,D0.out] at j0;obtain⟨n3,A3,l3,c3,rfl,k0⟩:=j0.opened;have C0:=zz k0;have N0:=M0.step h0;have d0:=zz (l0.out.trans (h0.mono l0.out.size));clear j0 k0 h0 M0 l0;have q20:=N0.cell0;have q21:=N0.cell1;have q22:=N0.frozen 0;have q23:=N0.frozen 1;go_wp2;(try simp only[Exit.inBlock,Exit.then])
      exact end_put rfl N0 d0.out (by omega) C0.out.is.2.2 C0.out.is.1 HR.out rfl rfl
   ·have HR:=zz (show r=(0,6) by rw[hr];exact parseZ_long hcz (fun h=>hlong (hbig.2 h)));have hlongi:(5400:Int)<(s.size:Int):=by omega
    clear hr hcz hzs had hne hlen hbig htb hlong htl;go_enter Tryz.func89,Tryz.ntmps89
    go_wp2_with fail
    refine(RForm_any _ s hs).mono ?_;rintro e w1 ⟨a0,rfl⟩;rw[HSOME.out];have M0:=L0.step a0;have c0:=zz (b0.out.trans (a0.mono b0.out.size));clear a0 L0 b0;have q0:=M0.cell0;have q1:=M0.cell1;have q2:=M0.frozen 0;have q3:=M0.frozen 1;go_wp2;(try simp only[Exit.inBlock,Exit.then])
    exact end_zero rfl M0 c0.out (by omega) HR.out rfl rfl
 ·have hnone:canon s.data.toList=none:=by
   cases hc:canon s.data.toList with
   | none=>rfl
   | some z=>rw[hc] at hsome;exact absurd rfl hsome
  have HR:=zz (show r=(0,5) by rw[hr];exact parseZ_none hnone);have HN:=zz (show(canon s.data.toList).isSome=false by rw[hnone];rfl);clear hr hsome hnone;go_enter Tryz.func89,Tryz.ntmps89
  go_wp2_with fail
  refine(RForm_any _ s hs).mono ?_;rintro e w1 ⟨a0,rfl⟩;rw[HN.out];have M0:=L0.step a0;have c0:=zz (b0.out.trans (a0.mono b0.out.size));clear a0 L0 b0;have q0:=M0.cell0;have q1:=M0.cell1;have q2:=M0.frozen 0;have q3:=M0.frozen 1;go_wp2;(try simp only[Exit.inBlock,Exit.then])
  exact end_zero rfl M0 c0.out (by omega) HR.out rfl rfl
end Go.Proofs.YtioclokmbgmamaaGreatDoor
