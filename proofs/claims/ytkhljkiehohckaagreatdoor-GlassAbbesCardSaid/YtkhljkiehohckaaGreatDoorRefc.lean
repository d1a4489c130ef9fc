/- Texts put together: The reference's Int at any Long (written by gen_rint.py). The reference's Decimal at any number. The reference's form at any text (written by gen_rform.py). The reference's Text at any Long (written by gen_rtxt.py). The reference's Parse at any text (written by gen_rparse.py). -/
import Derived.Test.YtkhljkiehohckaaGreatDoorRefb
import Derived.Test.YtkhljkiehohckaaGreatDoorLow
import Derived.Test.YtkhljkiehohckaaGreatDoorOps
import Derived.Lib.IndexBytes
import Derived.Test.YtkhljkiehohckaaGreatDoorDec
namespace Go.Proofs.YtkhljkiehohckaaGreatDoor
open Go Go.RowKit Dig
theorem int_low {z:Int} (h:-9223372036854775808≤z):decide ((cmpZ z (-9223372036854775808)).1<0)=false:=by
 rw[ord_num];apply decide_eq_false;by_cases h1:z=-9223372036854775808
 ·rw[if_pos h1];omega
 ·rw[if_neg h1,if_neg (by omega)];omega
theorem int_low' {z:Int} (h:z < -9223372036854775808):decide ((cmpZ z (-9223372036854775808)).1<0)=true:=by
 rw[ord_num,if_neg (by omega),if_pos h];rfl
theorem int_high {z:Int} (h:z≤9223372036854775807):decide (0<(cmpZ z 9223372036854775807).1)=false:=by
 rw[ord_num];apply decide_eq_false;by_cases h1:z=9223372036854775807
 ·rw[if_pos h1];omega
 ·rw[if_neg h1,if_pos (by omega)];omega
theorem int_high' {z:Int} (h:9223372036854775807<z):decide (0<(cmpZ z 9223372036854775807).1)=true:=by
 rw[ord_num,if_neg (by omega),if_neg (by omega)];rfl
theorem drop_digit {ds:List Nat} {k:Nat} (h:k<ds.length):val (ds.drop k)=ds.getD k 0+1000000000*val (ds.drop (k+1)):=by
 rw[List.drop_eq_getElem_cons h,val_cons,getD_get h]
theorem drop_le (ds:List Nat) (k:Nat):val (ds.drop k)≤val ds:=by
 by_cases h:k≤ds.length
 ·rw[val_split ds k h];have:=Nat.le_mul_of_pos_left (val (ds.drop k)) (bp_pos k)
  omega
 ·rw[List.drop_eq_nil_of_le (by omega)];exact Nat.zero_le _
theorem sgn_dec (z:Int):sgn (decide (z<0)) z.natAbs=z:=by
 by_cases h:z<0
 ·rw[decide_eq_true h];show -(z.natAbs:Int)=z;omega
 ·rw[decide_eq_false h];show(z.natAbs:Int)=z;omega
set_option maxRecDepth 100000 in
set_option maxHeartbeats 4000000 in
theorem RInt_any (w:World) (va:Value) (na:Bool) (da:List Int) (ha:LR w w.heap.size va na da) :
  Calls Tryz.prog 57 #[va] w fun e w'=>Below w.heap.size w w'∧RetI (A1 intZ (numOf na da)) e:=by
 obtain⟨r,hr⟩:∃ r,r=A1 intZ (numOf na da):=⟨_,rfl⟩;rw[← hr];have HR:=zz hr;clear hr;obtain⟨Aa,ka,ca,rfl,Ha⟩:=ha.opened;clear ha;obtain⟨w0,hw0⟩:∃ w0:World,w0=(w.alloc (.cells #[.bool na,.slice Aa ka ca] 41)):=⟨_,rfl⟩;have B0:=zz (show Below w.heap.size w w0 by rw[hw0];(repeat' (first | exact Below.refl _ _ | refine Below.drew ?_ | refine Below.alloc ?_ (by first | exact Nat.le_refl _ | (simp;done) | (simp;omega)) _)));have z0:w.heap.size+1≤w0.heap.size:=by rw[hw0];simp
 have La:LB w0 (w.heap.size) (.bool na) (.slice Aa ka ca):=by rw[hw0];(repeat (first | (refine LB.new' ?_;simp;done) | refine LB.alloc ?_ _))
 replace Ha:=zz (Ha.step B0.out);subst hw0;by_cases hva:Valid na da
 ·have HVa:=zz hva;obtain⟨x,hx1,hx2,hx3⟩:=LR.num Ha.out hva;have HX:=zz hx2;have U3:=zz hx3;clear hva;have hna:=(LV.is HX.out).1;have hka:=(LV.is HX.out).2.1;have c4:=zz (LV.is HX.out).2.2;by_cases h1:x < -9223372036854775808
  ·have HZ:=zz (show r=(0,6) by rw[HR.out,hx1];exact if_neg (by omega));have HC:=zz (int_low' h1);clear hx1 hx2 hx3 h1 HR hna hka;go_enter Tryz.func57,Tryz.ntmps57
   go_wp2_with fail
   refine(Right_good Ha.out HVa.out).mono ?_;rintro e w1 ⟨L2,rfl⟩;have B2:=zz L2;have z2:=B2.out.size;have M2:=zz (B0.out.trans (B2.out.mono B0.out.size));clear L2;go_wp2_with fail
   refine(ROf_any _ (-9223372036854775808) (by decide) (by decide)).mono ?_;rintro e w4 ⟨N2,v3,rfl,x0⟩;have B5:=zz N2;have z5:=B5.out.size;have O2:=zz (M2.out.trans (B5.out.mono M2.out.size));clear N2;obtain⟨n7,N3,l7,c7,rfl,P2⟩:=x0.opened;have L1:=zz P2;clear x0 P2;go_wp2_with fail
   refine(ROf_any _ 9223372036854775807 (by decide) (by decide)).mono ?_;rintro e w8 ⟨Q2,v4,rfl,y0⟩;have B9:=zz Q2;have z9:=B9.out.size;have I0:=zz (O2.out.trans (B9.out.mono O2.out.size));clear Q2;obtain⟨n11,u3,l11,c11,rfl,J0⟩:=y0.opened;have T2:=zz J0;clear y0 J0;have K0:=zz (LV.step L1.out B9.out);go_upto_region 4 with (fail)
   obtain⟨w13,t0⟩:∃ w13:World,w13=((w8.alloc (.cells #[.bool n7,.slice N3 l7 c7] 41)).alloc (.cells #[.bool n11,.slice u3 l11 c11] 41)):=⟨_,rfl⟩;rw[← t0];have L0:Below w8.heap.size w8 w13:=by rw[t0];(repeat' (first | exact Below.refl _ _ | refine Below.drew ?_ | refine Below.alloc ?_ (by first | exact Nat.le_refl _ | (simp;done) | (simp;omega)) _))
   have a0:LB w13 (w8.heap.size) (.bool n7) (.slice N3 l7 c7):=by rw[t0];(repeat (first | (refine LB.new' ?_;simp;done) | refine LB.alloc ?_ _))
   have b0:LB w13 (w8.heap.size+1) (.bool n11) (.slice u3 l11 c11):=by rw[t0];(repeat (first | (refine LB.new' ?_;simp;done) | refine LB.alloc ?_ _))
   have za13:w8.heap.size+2≤w13.heap.size:=by rw[t0];simp
   have B14:=zz L0;have z14:=B14.out.size;have M0:=zz (I0.out.trans (B14.out.mono I0.out.size));clear L0 t0;have P1_3_17:=zz (B2.out.trans (B5.out.mono B2.out.size));have P1_4_18:=zz (P1_3_17.out.trans (B9.out.mono P1_3_17.out.size));have P1_5_19:=zz (P1_4_18.out.trans (B14.out.mono P1_4_18.out.size));have n0:=LB.step La P1_5_19.out;have M1:=n0.cell0;have N1:=n0.cell1;have O1:=n0.frozen 0;have P1:=n0.frozen 1;have w3:=n0.lt;have Q1:=a0.cell0;have R1:=a0.cell1;have S1:=a0.frozen 0;have T1:=a0.frozen 1;have x3:=a0.lt;have U1:=b0.cell0;have V1:=b0.cell1;have W1:=b0.frozen 0;have X1:=b0.frozen 1;have y3:=b0.lt;go_wp2_with fail
   have Y1:=zz (LV.step HX.out P1_5_19.out);have N0:=zz (LV.step K0.out B14.out);refine(ROrder_any _ _ _ x _ Y1.out N0.out).mono ?_;rintro e w16 ⟨O0,rfl⟩;have B26:=zz O0;have z26:=B26.out.size;have R2:=zz (M0.out.trans (B26.out.mono M0.out.size));clear O0;clear M1 N1 O1 P1 w3 Q1 R1 S1 T1 x3 U1 V1 W1 X1 y3;generalize (cmpZ x (-9223372036854775808)).1=cc at *
   have hcc:cc<0:=of_decide_eq_true HC.out;have r0:=LB.step n0 B26.out;have Y2:=r0.cell0;have Z2:=r0.cell1;have a3:=r0.frozen 0;have b3:=r0.frozen 1;have V3:=r0.lt;have g0:=LB.step a0 B26.out;have c3:=g0.cell0;have d3:=g0.cell1;have e3:=g0.frozen 0;have f3:=g0.frozen 1;have W3:=g0.lt;have i0:=LB.step b0 B26.out;have g3:=i0.cell0;have h3:=i0.cell1;have i3:=i0.frozen 0;have j3:=i0.frozen 1;have X3:=i0.lt;go_wp2;go_ret2;rw[HZ.out];exact⟨R2.out,rfl⟩
  by_cases h2:9223372036854775807<x
  ·have HZ:=zz (show r=(0,6) by rw[HR.out,hx1];exact if_neg (by omega));have HC:=zz (int_low (z:=x) (by omega));have z3:=zz (int_high' h2);clear hx1 hx2 hx3 h1 h2 HR hna hka;go_enter Tryz.func57,Tryz.ntmps57
   go_wp2_with fail
   refine(Right_good Ha.out HVa.out).mono ?_;rintro e w34 ⟨P0,rfl⟩;have B35:=zz P0;have z35:=B35.out.size;have Q0:=zz (B0.out.trans (B35.out.mono B0.out.size));clear P0;go_wp2_with fail
   refine(ROf_any _ (-9223372036854775808) (by decide) (by decide)).mono ?_;rintro e w37 ⟨R0,v3,rfl,x0⟩;have B38:=zz R0;have z38:=B38.out.size;have S0:=zz (Q0.out.trans (B38.out.mono Q0.out.size));clear R0;obtain⟨n40,A3,l40,c40,rfl,T0⟩:=x0.opened;have U0:=zz T0;clear x0 T0;go_wp2_with fail
   refine(ROf_any _ 9223372036854775807 (by decide) (by decide)).mono ?_;rintro e w41 ⟨V0,v4,rfl,y0⟩;have B42:=zz V0;have z42:=B42.out.size;have W0:=zz (S0.out.trans (B42.out.mono S0.out.size));clear V0;obtain⟨n44,B3,l44,c44,rfl,X0⟩:=y0.opened;have Y0:=zz X0;clear y0 X0;have Z0:=zz (LV.step U0.out B42.out);go_upto_region 4 with (fail)
   obtain⟨w46,u0⟩:∃ w46:World,w46=((w41.alloc (.cells #[.bool n40,.slice A3 l40 c40] 41)).alloc (.cells #[.bool n44,.slice B3 l44 c44] 41)):=⟨_,rfl⟩;rw[← u0];have a1:Below w41.heap.size w41 w46:=by rw[u0];(repeat' (first | exact Below.refl _ _ | refine Below.drew ?_ | refine Below.alloc ?_ (by first | exact Nat.le_refl _ | (simp;done) | (simp;omega)) _))
   have j0:LB w46 (w41.heap.size) (.bool n40) (.slice A3 l40 c40):=by rw[u0];(repeat (first | (refine LB.new' ?_;simp;done) | refine LB.alloc ?_ _))
   have c0:LB w46 (w41.heap.size+1) (.bool n44) (.slice B3 l44 c44):=by rw[u0];(repeat (first | (refine LB.new' ?_;simp;done) | refine LB.alloc ?_ _))
   have za46:w41.heap.size+2≤w46.heap.size:=by rw[u0];simp
   have B47:=zz a1;have z47:=B47.out.size;have b1:=zz (W0.out.trans (B47.out.mono W0.out.size));clear a1 u0;have P1_3_50:=zz (B35.out.trans (B38.out.mono B35.out.size));have P1_4_51:=zz (P1_3_50.out.trans (B42.out.mono P1_3_50.out.size));have P1_5_52:=zz (P1_4_51.out.trans (B47.out.mono P1_4_51.out.size));have o0:=LB.step La P1_5_52.out;have Z1:=o0.cell0;have a2:=o0.cell1;have b2:=o0.frozen 0;have c2:=o0.frozen 1;have C3:=o0.lt;have d2:=j0.cell0;have e2:=j0.cell1;have f2:=j0.frozen 0;have g2:=j0.frozen 1;have D3:=j0.lt;have i2:=c0.cell0;have j2:=c0.cell1;have k2:=c0.frozen 0;have l2:=c0.frozen 1;have E3:=c0.lt;go_wp2_with fail
   have C0:=zz (LV.step HX.out P1_5_52.out);have c1:=zz (LV.step Z0.out B47.out);refine(ROrder_any _ _ _ x _ C0.out c1.out).mono ?_;rintro e w49 ⟨d1,rfl⟩;have B59:=zz d1;have z59:=B59.out.size;have e1:=zz (b1.out.trans (B59.out.mono b1.out.size));clear d1;clear Z1 a2 b2 c2 C3 d2 e2 f2 g2 D3 i2 j2 k2 l2 E3;generalize (cmpZ x (-9223372036854775808)).1=cc at *
   have hcc:0≤cc:=by have:=of_decide_eq_false HC.out;omega
   have p0:=LB.step o0 B59.out;have m2:=p0.cell0;have n2:=p0.cell1;have o2:=p0.frozen 0;have p2:=p0.frozen 1;have F3:=p0.lt;have k0:=LB.step c0 B59.out;have q2:=k0.cell0;have r2:=k0.cell1;have s2:=k0.frozen 0;have t2:=k0.frozen 1;have G3:=k0.lt;go_wp2_with fail
   have u2:=zz (LV.step C0.out B59.out);have P4_6_67:=zz (B47.out.trans (B59.out.mono B47.out.size));have f1:=zz (LV.step Y0.out P4_6_67.out);refine(ROrder_any _ _ _ x _ u2.out f1.out).mono ?_;rintro e w61 ⟨i1,rfl⟩;have B69:=zz i1;have z69:=B69.out.size;have S2:=zz (e1.out.trans (B69.out.mono e1.out.size));clear i1;clear m2 n2 o2 p2 F3 q2 r2 s2 t2 G3;generalize (cmpZ x 9223372036854775807).1=cd at *
   have hcd:0<cd:=of_decide_eq_true z3.out;have s0:=LB.step p0 B69.out;have k3:=s0.cell0;have l3:=s0.cell1;have m3:=s0.frozen 0;have n3:=s0.frozen 1;have Y3:=s0.lt;go_wp2;go_ret2;rw[HZ.out];exact⟨S2.out,rfl⟩
  have HZ:=zz (show r=(x,0) by rw[HR.out,hx1];exact if_pos (by omega));have HC:=zz (int_low (z:=x) (by omega));have z3:=zz (int_high (z:=x) (by omega));have O3:=zz (show sgn na x.natAbs=x by rw[hna];exact sgn_dec x);have hB1:-9223372036854775808≤x:=by omega
  have hB2:x≤9223372036854775807:=by omega
  have P3:=zz (show(dig x.natAbs).length=ka from hka.symm);have hka6:ka≤600:=by rw[hka];exact U3.out
  have Q3:=zz (val_dig x.natAbs);have Z3:=zz (dig_small x.natAbs);clear hx1 hx2 hx3 h1 h2 HR hna hka;go_enter Tryz.func57,Tryz.ntmps57
  go_wp2_with fail
  refine(Right_good Ha.out HVa.out).mono ?_;rintro e w73 ⟨j1,rfl⟩;have B74:=zz j1;have z74:=B74.out.size;have k1:=zz (B0.out.trans (B74.out.mono B0.out.size));clear j1;go_wp2_with fail
  refine(ROf_any _ (-9223372036854775808) (by decide) (by decide)).mono ?_;rintro e w76 ⟨l1,v3,rfl,x0⟩;have B77:=zz l1;have z77:=B77.out.size;have m1:=zz (k1.out.trans (B77.out.mono k1.out.size));clear l1;obtain⟨n79,H3,l79,c79,rfl,n1⟩:=x0.opened;have p1:=zz n1;clear x0 n1;go_wp2_with fail
  refine(ROf_any _ 9223372036854775807 (by decide) (by decide)).mono ?_;rintro e w80 ⟨q1,v4,rfl,y0⟩;have B81:=zz q1;have z81:=B81.out.size;have r1:=zz (m1.out.trans (B81.out.mono m1.out.size));clear q1;obtain⟨n83,I3,l83,c83,rfl,s1⟩:=y0.opened;have t1:=zz s1;clear y0 s1;have u1:=zz (LV.step p1.out B81.out);go_upto_region 4 with (fail)
  obtain⟨w85,v0⟩:∃ w85:World,w85=((w80.alloc (.cells #[.bool n79,.slice H3 l79 c79] 41)).alloc (.cells #[.bool n83,.slice I3 l83 c83] 41)):=⟨_,rfl⟩;rw[← v0];have v1:Below w80.heap.size w80 w85:=by rw[v0];(repeat' (first | exact Below.refl _ _ | refine Below.drew ?_ | refine Below.alloc ?_ (by first | exact Nat.le_refl _ | (simp;done) | (simp;omega)) _))
  have l0:LB w85 (w80.heap.size) (.bool n79) (.slice H3 l79 c79):=by rw[v0];(repeat (first | (refine LB.new' ?_;simp;done) | refine LB.alloc ?_ _))
  have d0:LB w85 (w80.heap.size+1) (.bool n83) (.slice I3 l83 c83):=by rw[v0];(repeat (first | (refine LB.new' ?_;simp;done) | refine LB.alloc ?_ _))
  have za85:w80.heap.size+2≤w85.heap.size:=by rw[v0];simp
  have B86:=zz v1;have z86:=B86.out.size;have x1:=zz (r1.out.trans (B86.out.mono r1.out.size));clear v1 v0;have P1_3_89:=zz (B74.out.trans (B77.out.mono B74.out.size));have P1_4_90:=zz (P1_3_89.out.trans (B81.out.mono P1_3_89.out.size));have P1_5_91:=zz (P1_4_90.out.trans (B86.out.mono P1_4_90.out.size));have q0:=LB.step La P1_5_91.out;have v2:=q0.cell0;have w2:=q0.cell1;have x2:=q0.frozen 0;have y2:=q0.frozen 1;have J3:=q0.lt;have A2:=l0.cell0;have C2:=l0.cell1;have D2:=l0.frozen 0;have E2:=l0.frozen 1;have K3:=l0.lt;have F2:=d0.cell0;have G2:=d0.cell1;have H2:=d0.frozen 0;have I2:=d0.frozen 1;have L3:=d0.lt;go_wp2_with fail
  have D0:=zz (LV.step HX.out P1_5_91.out);have y1:=zz (LV.step u1.out B86.out);refine(ROrder_any _ _ _ x _ D0.out y1.out).mono ?_;rintro e w88 ⟨z1,rfl⟩;have B98:=zz z1;have z98:=B98.out.size;have B1:=zz (x1.out.trans (B98.out.mono x1.out.size));clear z1;clear v2 w2 x2 y2 J3 A2 C2 D2 E2 K3 F2 G2 H2 I2 L3;generalize (cmpZ x (-9223372036854775808)).1=cc at *
  have hcc:0≤cc:=by have:=of_decide_eq_false HC.out;omega
  have e0:=LB.step q0 B98.out;have C1:=e0.cell0;have D1:=e0.cell1;have E1:=e0.frozen 0;have F1:=e0.frozen 1;have r3:=e0.lt;have f0:=LB.step d0 B98.out;have G1:=f0.cell0;have H1:=f0.cell1;have I1:=f0.frozen 0;have J1:=f0.frozen 1;have s3:=f0.lt;go_wp2_with fail
  have A0:=zz (LV.step D0.out B98.out);have P4_6_106:=zz (B86.out.trans (B98.out.mono B86.out.size));have H0:=zz (LV.step t1.out P4_6_106.out);refine(ROrder_any _ _ _ x _ A0.out H0.out).mono ?_;rintro e w100 ⟨E0,rfl⟩;have B108:=zz E0;have z108:=B108.out.size;have J2:=zz (B1.out.trans (B108.out.mono B1.out.size));clear E0;clear C1 D1 E1 F1 r3 G1 H1 I1 J1 s3;generalize (cmpZ x 9223372036854775807).1=cd at *
  have hcd:cd≤0:=by have:=of_decide_eq_false z3.out;omega
  have m0:=LB.step e0 B108.out;have K1:=zz (LV.step A0.out B108.out);have R3:=zz (LV.is K1.out).2.2;have U2:=m0.cell0;have V2:=m0.cell1;have W2:=m0.frozen 0;have X2:=m0.frozen 1;have T3:=m0.lt;have a4:=zz J2.out;have F0:=zz (show sgn na (val ((dig x.natAbs).drop ka))=0 by rw[List.drop_eq_nil_of_le (by rw[P3.out];exact Nat.le_refl _)];cases na <;> rfl);go_wp2;go_loopw [6,7] (fun nv iv wr=>∃ (k:Nat) (m:Int),nv=.int .i64 m∧iv=.int .i64 ((k:Int)-1)∧k≤ka∧Hid (m=sgn na (val ((dig x.natAbs).drop k)))∧wr=w100) (fun _ iv _=>(intOf iv+1).toNat)
  case atStart=>exact⟨ka,0,rfl,rfl,Nat.le_refl _,zz F0.out.symm,rfl⟩
  case round=>
   obtain⟨k,m,rfl,rfl,hk,HM,rfl⟩:=hrel;rcases Nat.eq_zero_or_pos k with F0 | F0
   ·subst F0;have b4:=zz (show m=x by rw[HM.out,List.drop_zero,Q3.out];exact O3.out);rw[show(((0:Nat):Int)-1)=-1 from rfl];go_wp2;go_ret2;rw[HZ.out,b4.out];exact⟨a4.out,rfl⟩
   ·obtain⟨j,rfl⟩:∃ j,k=j+1:=⟨k-1,by omega⟩;rw[show(((j+1:Nat):Int)-1)=(j:Int) by omega];have hjd:j<(dig x.natAbs).length:=by rw[P3.out];omega
    obtain⟨g1,o1,rfl,hxd⟩:=R3.out.digit hjd;obtain⟨d,hd⟩:∃ d,d=(dig x.natAbs).getD j 0:=⟨_,rfl⟩;rw[← hd] at hxd;have hd9:d<1000000000:=by rw[hd];exact Z3.out.getD j
    obtain⟨V,hV⟩:∃ V,V=val ((dig x.natAbs).drop (j+1)):=⟨_,rfl⟩;have hle:=drop_le (dig x.natAbs) j;have hdd:=drop_digit hjd;rw[← hd,← hV] at hdd;rw[Q3.out,hdd] at hle;have hm:=HM.out;rw[← hV] at hm;have hj0:(0:Int)≤(j:Int):=by omega
    have hjk:(j:Int)<(ka:Int):=by omega
    cases na with
    | true=>
     obtain rfl:m=-(V:Int):=hm;have HN:=zz (show -(V:Int)*1000000000-(d:Int)=sgn true (val ((dig x.natAbs).drop j)) by rw[hdd];show _=-((d+1000000000*V:Nat):Int);omega);have hV9:d+1000000000*V≤9223372036854775808:=by omega
     clear hd hV hle hdd HM;go_wp2;go_roundw
     case rel=>exact⟨j,_,rfl,rfl,by omega,HN,trivial⟩
     case measure=>simp[intOf]
    | false=>
     obtain rfl:m=(V:Int):=hm;have HN:=zz (show(V:Int)*1000000000+(d:Int)=sgn false (val ((dig x.natAbs).drop j)) by rw[hdd];show _=((d+1000000000*V:Nat):Int);omega);have hV9:d+1000000000*V≤9223372036854775808:=by omega
     have hV8:d+1000000000*V≤9223372036854775807:=by have h:=O3.out;have h2:sgn false x.natAbs=(x.natAbs:Int):=rfl;rw[h2] at h;omega
     clear hd hV hle hdd HM;go_wp2;go_roundw
     case rel=>exact⟨j,_,rfl,rfl,by omega,HN,trivial⟩
     case measure=>simp[intOf]
 ·have HVa:=zz hva;have HZ:=zz (show r=(0,30) by rw[HR.out];exact A1_bad hva);clear hva HR;go_enter Tryz.func57,Tryz.ntmps57
  go_wp2_with fail
  refine(Right_bad Ha.out HVa.out).mono ?_;rintro e w113 ⟨G0,rfl⟩;have B114:=zz G0;have z114:=B114.out.size;have K2:=zz (B0.out.trans (B114.out.mono B0.out.size));clear G0;go_wp2;go_ret2;rw[HZ.out];exact⟨K2.out,rfl⟩
end Go.Proofs.YtkhljkiehohckaaGreatDoor
namespace Go.Proofs.YtkhljkiehohckaaGreatDoor
open Go Go.RowKit Dig
end Go.Proofs.YtkhljkiehohckaaGreatDoor
namespace Go.Proofs.YtkhljkiehohckaaGreatDoor
open Go Go.RowKit Dig
section
variable {s:List UInt8} {r:Bool} (h:r=true↔(s=[48]∨∃ c r,bare s=c :: r∧AllDig (bare s)∧c≠48)) (h0:s≠[48])
include h h0
end
end Go.Proofs.YtkhljkiehohckaaGreatDoor
namespace Go.Proofs.YtkhljkiehohckaaGreatDoor
open Go Go.RowKit Dig
end Go.Proofs.YtkhljkiehohckaaGreatDoor
namespace Go.Proofs.YtkhljkiehohckaaGreatDoor
open Go Go.RowKit Dig
end Go.Proofs.YtkhljkiehohckaaGreatDoor
