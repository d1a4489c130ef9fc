/- Layer 04's reference: Right, Order, Cmp, Sign, Down, Floor (written by gen_qt.py). -/
import Derived.Test.YtioclokmbgmamaaGreatDoorU
import Derived.Test.YtioclokmbgmamaaGreatDoorQR
import Derived.Test.YtioclokmbgmamaaGreatDoorRef
namespace Go.Proofs.YtioclokmbgmamaaGreatDoor
open Go Go.RowKit Dig
set_option maxRecDepth 100000 in
set_option maxHeartbeats 4000000 in
theorem RRightQ_any (w:World) (v:Value) (n:Bool) (a:List Int) (m:Bool) (b:List Int) (h:QR w w.heap.size v n a m b) :
  Calls Tryz.prog 60 #[v] w fun e w'=>Below w.heap.size w w'∧e=.returned (.bool (qOf n a m b).isSome):=by
 obtain⟨r,hr⟩:∃ r,r=(qOf n a m b).isSome:=⟨_,rfl⟩;rw[← hr];have HR:=zz hr;clear hr;obtain⟨A,l,c,B,k,d,rfl,h⟩:=RI.of h;have eb:=RI.len (QR.is h).2;have k2:=zz eb;clear eb;obtain⟨w0,hw0⟩:∃ w0:World,w0=(w.alloc (.cells #[.bool n,.slice A l c,.bool m,.slice B k d] 26)):=⟨_,rfl⟩;have B0:=zz (n1_b hw0);have z0:=n1_z hw0;have La:=n1_0 hw0;have HA:=zz (LR.step (QR.fst h) B0.out);have HB:=zz (LR.step (QR.snd h) B0.out);clear h;by_cases hva:Valid n a
 ·have S1:=zz hva;clear hva;by_cases hvb:Valid m b
  ·have T1:=zz hvb;clear hvb;obtain⟨x,hx,nx,ax,lx⟩:=numOf_valid S1.out;obtain⟨y,hy,ny,by',ly⟩:=numOf_valid T1.out;have HX:=zz hx;have HY:=zz hy;have NX:=zz nx;have NY:=zz ny;have AX:=zz ax;have BY:=zz by';have HL:=zz (And.intro lx ly);clear hx hy nx ny ax by' lx ly
   cases m with
   | true=>
    have U1:=zz (show qOf n a true b=none by rw[qOf_both HX.out HY.out,if_neg (fun h=>by have h1:=NY.out;rw[decide_eq_false (by omega)] at h1;cases h1)]);go_enter Tryz.func60,Tryz.ntmps60
    go_upto_region 1 with (fail)
    rw[← hw0];clear hw0;have v1:=La.cell 0 rfl;have x1:=La.cell 1 rfl;have y1:=La.cell 2 rfl;have z1:=La.cell 3 rfl;have i2:=La.lt;go_wp2_with fail
    refine(Right_good HA.out S1.out).mono ?_;rintro e w1 ⟨s1,rfl⟩;have B3:=zz s1;have z3:=B3.out.size;have t1:=zz (B0.out.trans (B3.out.mono B0.out.size));clear s1;clear v1 x1 y1 z1 i2;have g0:=CB.step La B3.out;have A1:=g0.cell 0 rfl;have B1:=g0.cell 1 rfl;have C1:=g0.cell 2 rfl;have D1:=g0.cell 3 rfl;have j2:=g0.lt;go_wp2_with fail
    have E1:=zz (LR.step HB.out B3.out);refine(Right_good E1.out T1.out).mono ?_;rintro e w5 ⟨u1,rfl⟩;have B9:=zz u1;have z9:=B9.out.size;have F1:=zz (t1.out.trans (B9.out.mono t1.out.size));clear u1;clear A1 B1 C1 D1 j2;have c0:=CB.step g0 B9.out;have K1:=c0.cell 0 rfl;have L1:=c0.cell 1 rfl;have M1:=c0.cell 2 rfl;have N1:=c0.cell 3 rfl;have q2:=c0.lt;go_wp2;go_ret;exact⟨F1.out,by rw[HR.out,U1.out];rfl⟩
   | false=>
    by_cases hk:k=0
    ·have J1:decide (0<k)=false:=by rw[decide_eq_false];omega
     have U1:=zz (show qOf n a false b=none by rw[qOf_both HX.out HY.out,if_neg (fun h=>by have h1:=k2.out;rw[BY.out,ni_length,hk] at h1;have:=dig_nil.1 h1.symm;omega)]);clear hk;go_enter Tryz.func60,Tryz.ntmps60
     go_upto_region 1 with (fail)
     rw[← hw0];clear hw0;have E0:=La.cell 0 rfl;have F0:=La.cell 1 rfl;have G0:=La.cell 2 rfl;have H0:=La.cell 3 rfl;have Y1:=La.lt;go_wp2_with fail
     refine(Right_good HA.out S1.out).mono ?_;rintro e w13 ⟨i0,rfl⟩;have B15:=zz i0;have z15:=B15.out.size;have j0:=zz (B0.out.trans (B15.out.mono B0.out.size));clear i0;clear E0 F0 G0 H0 Y1;have a0:=CB.step La B15.out;have I0:=a0.cell 0 rfl;have J0:=a0.cell 1 rfl;have K0:=a0.cell 2 rfl;have L0:=a0.cell 3 rfl;have Z1:=a0.lt;go_wp2_with fail
     have M0:=zz (LR.step HB.out B15.out);refine(Right_good M0.out T1.out).mono ?_;rintro e w17 ⟨k0,rfl⟩;have B21:=zz k0;have z21:=B21.out.size;have G1:=zz (j0.out.trans (B21.out.mono j0.out.size));clear k0;clear I0 J0 K0 L0 Z1;have d0:=CB.step a0 B21.out;have O1:=d0.cell 0 rfl;have P1:=d0.cell 1 rfl;have Q1:=d0.cell 2 rfl;have R1:=d0.cell 3 rfl;have r2:=d0.lt;go_wp2;go_ret;exact⟨G1.out,by rw[HR.out,U1.out];rfl⟩
    ·have J1:decide (0<k)=true:=by rw[decide_eq_true_eq];omega
     have hy1:y.natAbs≠0:=fun h=>hk (by have h1:=k2.out;rw[BY.out,ni_length,h,dig_zero] at h1;exact h1)
     have hy0:0<y:=by
      have h3:=NY.out;rcases Int.lt_or_le y 0 with h4 | h4
      ·rw[decide_eq_true h4] at h3;cases h3
      ·omega
     have s2:=zz hy0;clear hy0 hy1 hk;have t2:=zz (show LV w0 w0.heap.size (.agg #[.bool n,.slice A l c]) x from by unfold LV;rw[← NX.out,← AX.out];exact HA.out);have u2:=zz (show LV w0 w0.heap.size (.agg #[.bool false,.slice B k d]) y from by unfold LV;rw[← NY.out,← BY.out];exact HB.out);obtain⟨g,hg⟩:∃ g:Int,g=(Int.gcd x y:Int):=⟨_,rfl⟩;have HG:=zz hg;clear hg;go_enter Tryz.func60,Tryz.ntmps60
     go_upto_region 1 with (fail)
     rw[← hw0];clear hw0;have N0:=La.cell 0 rfl;have O0:=La.cell 1 rfl;have P0:=La.cell 2 rfl;have Q0:=La.cell 3 rfl;have a2:=La.lt;go_wp2_with fail
     refine(Right_good HA.out S1.out).mono ?_;rintro e w25 ⟨l0,rfl⟩;have B27:=zz l0;have z27:=B27.out.size;have m0:=zz (B0.out.trans (B27.out.mono B0.out.size));clear l0;clear N0 O0 P0 Q0 a2;have b0:=CB.step La B27.out;have R0:=b0.cell 0 rfl;have S0:=b0.cell 1 rfl;have T0:=b0.cell 2 rfl;have U0:=b0.cell 3 rfl;have b2:=b0.lt;go_wp2_with fail
     have V0:=zz (LR.step HB.out B27.out);refine(Right_good V0.out T1.out).mono ?_;rintro e w29 ⟨n0,rfl⟩;have B33:=zz n0;have z33:=B33.out.size;have o0:=zz (m0.out.trans (B33.out.mono m0.out.size));clear n0;clear R0 S0 T0 U0 b2;have e0:=CB.step b0 B33.out;have W0:=e0.cell 0 rfl;have X0:=e0.cell 1 rfl;have Y0:=e0.cell 2 rfl;have Z0:=e0.cell 3 rfl;have c2:=e0.lt;go_wp2_with fail
     have P1_3_38:=zz (B27.out.trans (B33.out.mono B27.out.size));have a1:=zz (LV.step t2.out P1_3_38.out);have b1:=zz (LV.step u2.out P1_3_38.out);refine(RCommon_any _ _ _ x y a1.out b1.out (by have:=HL.out.1;omega) (by have:=HL.out.2;omega)).mono ?_;rintro e w35 ⟨p0,v,rfl,hv⟩;have B41:=zz p0;have z41:=B41.out.size;have q0:=zz (o0.out.trans (B41.out.mono o0.out.size));clear p0;clear W0 X0 Y0 Z0 c2;rw[← HG.out] at hv;obtain⟨n43,x2,l43,c43,rfl,r0⟩:=hv.opened;have c1:=zz r0;clear hv r0;go_wp2_with fail
     refine(ROf_any _ 1 (by decide) (by decide)).mono ?_;rintro e w44 ⟨s0,v,rfl,hv⟩;have B45:=zz s0;have z45:=B45.out.size;have t0:=zz (q0.out.trans (B45.out.mono q0.out.size));clear s0;obtain⟨n47,y2,l47,c47,rfl,u0⟩:=hv.opened;have h0:=zz u0;clear hv u0;go_wp2_with fail
     have d1:=zz (LV.step c1.out B45.out);refine(SameR_num d1.out h0.out).mono ?_;rintro e w48 ⟨v0,rfl⟩;have B50:=zz v0;have z50:=B50.out.size;have x0:=zz (t0.out.trans (B50.out.mono t0.out.size));clear v0;by_cases hg1:g=1
     ·rw[decide_eq_true hg1];have o2:=zz (show qOf n a false b=some (mkRat x y.natAbs) by rw[qOf_both HX.out HY.out,if_pos ⟨s2.out,by have h1:=HG.out;rw[hg1] at h1;unfold Int.gcd at h1;omega⟩]);clear hg1;go_wp2;go_ret;exact⟨x0.out,by rw[HR.out,o2.out];rfl⟩
     ·rw[decide_eq_false hg1];have U1:=zz (show qOf n a false b=none by rw[qOf_both HX.out HY.out,if_neg (fun h=>hg1 (by have h1:=HG.out;unfold Int.gcd at h1;omega))]);clear hg1;go_wp2;go_ret;exact⟨x0.out,by rw[HR.out,U1.out];rfl⟩
  ·have T1:=zz hvb;clear hvb;go_enter Tryz.func60,Tryz.ntmps60
   go_upto_region 1 with (fail)
   rw[← hw0];clear hw0;have e1:=La.cell 0 rfl;have f1:=La.cell 1 rfl;have g1:=La.cell 2 rfl;have i1:=La.cell 3 rfl;have d2:=La.lt;go_wp2_with fail
   refine(Right_good HA.out S1.out).mono ?_;rintro e w52 ⟨y0,rfl⟩;have B54:=zz y0;have z54:=B54.out.size;have A0:=zz (B0.out.trans (B54.out.mono B0.out.size));clear y0;clear e1 f1 g1 i1 d2;have f0:=CB.step La B54.out;have j1:=f0.cell 0 rfl;have k1:=f0.cell 1 rfl;have l1:=f0.cell 2 rfl;have m1:=f0.cell 3 rfl;have e2:=f0.lt;go_wp2_with fail
   have n1:=zz (LR.step HB.out B54.out);refine(Right_bad n1.out T1.out).mono ?_;rintro e w56 ⟨C0,rfl⟩;have B60:=zz C0;have z60:=B60.out.size;have H1:=zz (A0.out.trans (B60.out.mono A0.out.size));clear C0;clear j1 k1 l1 m1 e2;go_wp2;go_ret;exact⟨H1.out,by rw[HR.out,qOf_none2 T1.out];rfl⟩
 ·have S1:=zz hva;clear hva;go_enter Tryz.func60,Tryz.ntmps60
  go_upto_region 1 with (fail)
  rw[← hw0];clear hw0;have o1:=La.cell 0 rfl;have p1:=La.cell 1 rfl;have q1:=La.cell 2 rfl;have r1:=La.cell 3 rfl;have f2:=La.lt;go_wp2_with fail
  refine(Right_bad HA.out S1.out).mono ?_;rintro e w62 ⟨D0,rfl⟩;have B64:=zz D0;have z64:=B64.out.size;have I1:=zz (B0.out.trans (B64.out.mono B0.out.size));clear D0;clear o1 p1 q1 r1 f2;go_wp2;go_ret;exact⟨I1.out,by rw[HR.out,qOf_none1 S1.out];rfl⟩
theorem RRightQ_yes {w:World} {v:Value} {n m:Bool} {a b:List Int} {q:Rat} (h:QR w w.heap.size v n a m b) (hq:qOf n a m b=some q) :
  Calls Tryz.prog 60 #[v] w fun e w'=>Below w.heap.size w w'∧e=.returned (.bool true):=by
 have h1:=RRightQ_any w v n a m b h;rw[hq] at h1;exact h1
theorem RRightQ_no {w:World} {v:Value} {n m:Bool} {a b:List Int} (h:QR w w.heap.size v n a m b) (hq:qOf n a m b=none) :
  Calls Tryz.prog 60 #[v] w fun e w'=>Below w.heap.size w w'∧e=.returned (.bool false):=by
 have h1:=RRightQ_any w v n a m b h;rw[hq] at h1;exact h1
end Go.Proofs.YtioclokmbgmamaaGreatDoor
