/- Layer 04's reference: Right, Order, Cmp, Sign, Down, Floor (written by gen_qt.py). -/
import Derived.Test.YtkhljkiehohckaaGreatDoorQR
import Derived.Test.YtkhljkiehohckaaGreatDoorRef
namespace Go.Proofs.YtkhljkiehohckaaGreatDoor
open Go Go.RowKit Dig
theorem cmpZ_R (q r:Rat):(cmpZ (q.num*(r.den:Int)) (r.num*(q.den:Int))).1=cmpR q r:=by
 unfold cmpZ cmpR;rw[Int.neg_mul];generalize q.num*(r.den:Int)=x;generalize r.num*(q.den:Int)=y
 show(if x<y then (-1:Int) else if x=y then 0 else 1)=_
 rcases Int.lt_trichotomy x y with h | h | h
 ·rw[if_pos h,Int.sign_eq_neg_one_of_neg (by omega)]
 ·subst h;rw[if_neg (by omega),if_pos rfl,Int.add_right_neg];rfl
 ·rw[if_neg (by omega),if_neg (by omega),Int.sign_eq_one_of_pos (by omega)]
set_option maxRecDepth 100000 in
set_option maxHeartbeats 4000000 in
theorem RRightQ_any (w:World) (v:Value) (n:Bool) (a:List Int) (m:Bool) (b:List Int) (h:QR w w.heap.size v n a m b) :
  Calls Tryz.prog 60 #[v] w fun e w'=>Below w.heap.size w w'∧e=.returned (.bool (qOf n a m b).isSome):=by
 obtain⟨r,hr⟩:∃ r,r=(qOf n a m b).isSome:=⟨_,rfl⟩;rw[← hr];have HR:=zz hr;clear hr;obtain⟨A,l,c,B,k,d,rfl,h⟩:=RI.of h;have eb:=RI.len (QR.is h).2;have k2:=zz eb;clear eb;obtain⟨w0,hw0⟩:∃ w0:World,w0=(w.alloc (.cells #[.bool n,.slice A l c,.bool m,.slice B k d] 43)):=⟨_,rfl⟩;have B0:=zz (n1_b hw0);have z0:=n1_z hw0;have La:=n1_0 hw0;have HA:=zz (LR.step (QR.fst h) B0.out);have HB:=zz (LR.step (QR.snd h) B0.out);clear h;by_cases hva:Valid n a
 ·have S1:=zz hva;clear hva;by_cases hvb:Valid m b
  ·have T1:=zz hvb;clear hvb;obtain⟨x,hx,nx,ax,lx⟩:=numOf_valid S1.out;obtain⟨y,hy,ny,by',ly⟩:=numOf_valid T1.out;have HX:=zz hx;have HY:=zz hy;have NX:=zz nx;have NY:=zz ny;have AX:=zz ax;have BY:=zz by';have HL:=zz (And.intro lx ly);clear hx hy nx ny ax by' lx ly
   cases m with
   | true=>
    have U1:=zz (show qOf n a true b=none by rw[qOf_both HX.out HY.out,if_neg (fun h=>by have h1:=NY.out;rw[decide_eq_false (by omega)] at h1;cases h1)]);go_enter Tryz.func60,Tryz.ntmps60
    go_upto_region 1 with (fail)
    rw[← hw0];clear hw0;have v1:=La.cell 0 rfl;have x1:=La.cell 1 rfl;have y1:=La.cell 2 rfl;have z1:=La.cell 3 rfl;have i2:=La.lt;go_wp2_with fail
    refine(Right_good HA.out S1.out).mono ?_;rintro e w1 ⟨s1,rfl⟩;have B3:=zz s1;have z3:=B3.out.size;have t1:=zz (B0.out.trans (B3.out.mono B0.out.size));clear s1;clear v1 x1 y1 z1 i2;have g0:=CB.step La B3.out;have A1:=g0.cell 0 rfl;have B1:=g0.cell 1 rfl;have C1:=g0.cell 2 rfl;have D1:=g0.cell 3 rfl;have j2:=g0.lt;go_wp2_with fail
    have E1:=zz (LR.step HB.out B3.out);refine(Right_good E1.out T1.out).mono ?_;rintro e w5 ⟨u1,rfl⟩;have B9:=zz u1;have z9:=B9.out.size;have F1:=zz (t1.out.trans (B9.out.mono t1.out.size));clear u1;clear A1 B1 C1 D1 j2;have c0:=CB.step g0 B9.out;have K1:=c0.cell 0 rfl;have L1:=c0.cell 1 rfl;have M1:=c0.cell 2 rfl;have N1:=c0.cell 3 rfl;have q2:=c0.lt;go_wp2;go_ret;exact⟨F1.out,by rw[HR.out,U1.out];rfl⟩
   | false=>
    by_cases hk:k=0
    ·have J1:decide (0<k)=false:=by rw[decide_eq_false];omega
     have U1:=zz (show qOf n a false b=none by rw[qOf_both HX.out HY.out,if_neg (fun h=>by have h1:=k2.out;rw[BY.out,ni_length,hk] at h1;have:=dig_nil.1 h1.symm;omega)]);clear hk;go_enter Tryz.func60,Tryz.ntmps60
     go_upto_region 1 with (fail)
     rw[← hw0];clear hw0;have E0:=La.cell 0 rfl;have F0:=La.cell 1 rfl;have G0:=La.cell 2 rfl;have H0:=La.cell 3 rfl;have Y1:=La.lt;go_wp2_with fail
     refine(Right_good HA.out S1.out).mono ?_;rintro e w13 ⟨i0,rfl⟩;have B15:=zz i0;have z15:=B15.out.size;have j0:=zz (B0.out.trans (B15.out.mono B0.out.size));clear i0;clear E0 F0 G0 H0 Y1;have a0:=CB.step La B15.out;have I0:=a0.cell 0 rfl;have J0:=a0.cell 1 rfl;have K0:=a0.cell 2 rfl;have L0:=a0.cell 3 rfl;have Z1:=a0.lt;go_wp2_with fail
     have M0:=zz (LR.step HB.out B15.out);refine(Right_good M0.out T1.out).mono ?_;rintro e w17 ⟨k0,rfl⟩;have B21:=zz k0;have z21:=B21.out.size;have G1:=zz (j0.out.trans (B21.out.mono j0.out.size));clear k0;clear I0 J0 K0 L0 Z1;have d0:=CB.step a0 B21.out;have O1:=d0.cell 0 rfl;have P1:=d0.cell 1 rfl;have Q1:=d0.cell 2 rfl;have R1:=d0.cell 3 rfl;have r2:=d0.lt;go_wp2;go_ret;exact⟨G1.out,by rw[HR.out,U1.out];rfl⟩
    ·have J1:decide (0<k)=true:=by rw[decide_eq_true_eq];omega
     have hy1:y.natAbs≠0:=fun h=>hk (by have h1:=k2.out;rw[BY.out,ni_length,h,dig_zero] at h1;exact h1)
     have hy0:0<y:=by
      have h3:=NY.out;rcases Int.lt_or_le y 0 with h4 | h4
      ·rw[decide_eq_true h4] at h3;cases h3
      ·omega
     have s2:=zz hy0;clear hy0 hy1 hk;have t2:=zz (show LV w0 w0.heap.size (.agg #[.bool n,.slice A l c]) x from by unfold LV;rw[← NX.out,← AX.out];exact HA.out);have u2:=zz (show LV w0 w0.heap.size (.agg #[.bool false,.slice B k d]) y from by unfold LV;rw[← NY.out,← BY.out];exact HB.out);obtain⟨g,hg⟩:∃ g:Int,g=(Int.gcd x y:Int):=⟨_,rfl⟩;have HG:=zz hg;clear hg;go_enter Tryz.func60,Tryz.ntmps60
     go_upto_region 1 with (fail)
     rw[← hw0];clear hw0;have N0:=La.cell 0 rfl;have O0:=La.cell 1 rfl;have P0:=La.cell 2 rfl;have Q0:=La.cell 3 rfl;have a2:=La.lt;go_wp2_with fail
     refine(Right_good HA.out S1.out).mono ?_;rintro e w25 ⟨l0,rfl⟩;have B27:=zz l0;have z27:=B27.out.size;have m0:=zz (B0.out.trans (B27.out.mono B0.out.size));clear l0;clear N0 O0 P0 Q0 a2;have b0:=CB.step La B27.out;have R0:=b0.cell 0 rfl;have S0:=b0.cell 1 rfl;have T0:=b0.cell 2 rfl;have U0:=b0.cell 3 rfl;have b2:=b0.lt;go_wp2_with fail
     have V0:=zz (LR.step HB.out B27.out);refine(Right_good V0.out T1.out).mono ?_;rintro e w29 ⟨n0,rfl⟩;have B33:=zz n0;have z33:=B33.out.size;have o0:=zz (m0.out.trans (B33.out.mono m0.out.size));clear n0;clear R0 S0 T0 U0 b2;have e0:=CB.step b0 B33.out;have W0:=e0.cell 0 rfl;have X0:=e0.cell 1 rfl;have Y0:=e0.cell 2 rfl;have Z0:=e0.cell 3 rfl;have c2:=e0.lt;go_wp2_with fail
     have P1_3_38:=zz (B27.out.trans (B33.out.mono B27.out.size));have a1:=zz (LV.step t2.out P1_3_38.out);have b1:=zz (LV.step u2.out P1_3_38.out);refine(RCommon_any _ _ _ x y a1.out b1.out (by have:=HL.out.1;omega) (by have:=HL.out.2;omega)).mono ?_;rintro e w35 ⟨p0,v,rfl,hv⟩;have B41:=zz p0;have z41:=B41.out.size;have q0:=zz (o0.out.trans (B41.out.mono o0.out.size));clear p0;clear W0 X0 Y0 Z0 c2;rw[← HG.out] at hv;obtain⟨n43,x2,l43,c43,rfl,r0⟩:=hv.opened;have c1:=zz r0;clear hv r0;go_wp2_with fail
     refine(ROf_any _ 1 (by decide) (by decide)).mono ?_;rintro e w44 ⟨s0,v,rfl,hv⟩;have B45:=zz s0;have z45:=B45.out.size;have t0:=zz (q0.out.trans (B45.out.mono q0.out.size));clear s0;obtain⟨n47,y2,l47,c47,rfl,u0⟩:=hv.opened;have h0:=zz u0;clear hv u0;go_wp2_with fail
     have d1:=zz (LV.step c1.out B45.out);refine(SameR_num d1.out h0.out).mono ?_;rintro e w48 ⟨v0,rfl⟩;have B50:=zz v0;have z50:=B50.out.size;have x0:=zz (t0.out.trans (B50.out.mono t0.out.size));clear v0;by_cases hg1:g=1
     ·rw[decide_eq_true hg1];have o2:=zz (show qOf n a false b=some (mkRat x y.natAbs) by rw[qOf_both HX.out HY.out,if_pos ⟨s2.out,by have h1:=HG.out;rw[hg1] at h1;unfold Int.gcd at h1;omega⟩]);clear hg1;go_wp2;go_ret;exact⟨x0.out,by rw[HR.out,o2.out];rfl⟩
     ·rw[decide_eq_false hg1];have U1:=zz (show qOf n a false b=none by rw[qOf_both HX.out HY.out,if_neg (fun h=>hg1 (by have h1:=HG.out;unfold Int.gcd at h1;omega))]);clear hg1;go_wp2;go_ret;exact⟨x0.out,by rw[HR.out,U1.out];rfl⟩
  ·have T1:=zz hvb;clear hvb;go_enter Tryz.func60,Tryz.ntmps60
   go_upto_region 1 with (fail)
   rw[← hw0];clear hw0;have e1:=La.cell 0 rfl;have f1:=La.cell 1 rfl;have g1:=La.cell 2 rfl;have i1:=La.cell 3 rfl;have d2:=La.lt;go_wp2_with fail
   refine(Right_good HA.out S1.out).mono ?_;rintro e w52 ⟨y0,rfl⟩;have B54:=zz y0;have z54:=B54.out.size;have A0:=zz (B0.out.trans (B54.out.mono B0.out.size));clear y0;clear e1 f1 g1 i1 d2;have f0:=CB.step La B54.out;have j1:=f0.cell 0 rfl;have k1:=f0.cell 1 rfl;have l1:=f0.cell 2 rfl;have m1:=f0.cell 3 rfl;have e2:=f0.lt;go_wp2_with fail
   have n1:=zz (LR.step HB.out B54.out);refine(Right_bad n1.out T1.out).mono ?_;rintro e w56 ⟨C0,rfl⟩;have B60:=zz C0;have z60:=B60.out.size;have H1:=zz (A0.out.trans (B60.out.mono A0.out.size));clear C0;clear j1 k1 l1 m1 e2;go_wp2;go_ret;exact⟨H1.out,by rw[HR.out,qOf_none2 T1.out];rfl⟩
 ·have S1:=zz hva;clear hva;go_enter Tryz.func60,Tryz.ntmps60
  go_upto_region 1 with (fail)
  rw[← hw0];clear hw0;have o1:=La.cell 0 rfl;have p1:=La.cell 1 rfl;have q1:=La.cell 2 rfl;have r1:=La.cell 3 rfl;have f2:=La.lt;go_wp2_with fail
  refine(Right_bad HA.out S1.out).mono ?_;rintro e w62 ⟨D0,rfl⟩;have B64:=zz D0;have z64:=B64.out.size;have I1:=zz (B0.out.trans (B64.out.mono B0.out.size));clear D0;clear o1 p1 q1 r1 f2;go_wp2;go_ret;exact⟨I1.out,by rw[HR.out,qOf_none1 S1.out];rfl⟩
theorem RRightQ_yes {w:World} {v:Value} {n m:Bool} {a b:List Int} {q:Rat} (h:QR w w.heap.size v n a m b) (hq:qOf n a m b=some q) :
  Calls Tryz.prog 60 #[v] w fun e w'=>Below w.heap.size w w'∧e=.returned (.bool true):=by
 have h1:=RRightQ_any w v n a m b h;rw[hq] at h1;exact h1
theorem RRightQ_no {w:World} {v:Value} {n m:Bool} {a b:List Int} (h:QR w w.heap.size v n a m b) (hq:qOf n a m b=none) :
  Calls Tryz.prog 60 #[v] w fun e w'=>Below w.heap.size w w'∧e=.returned (.bool false):=by
 have h1:=RRightQ_any w v n a m b h;rw[hq] at h1;exact h1
set_option maxRecDepth 100000 in
set_option maxHeartbeats 4000000 in
theorem ROrderQ_any (w:World) (va vb:Value) (q r:Rat) (ha:QV w w.heap.size va q) (hb:QV w w.heap.size vb r) (lq:QL 20000 20000 q) (lr:QL 20000 20000 r) :
  Calls Tryz.prog 103 #[va,vb] w fun e w'=>Below w.heap.size w w'∧e=.returned (.int .i64 (cmpR q r)):=by
 obtain⟨n,A,l,c,m,A',l',c',rfl⟩:=QO.cells (show QO w w.heap.size va (some q) from ha);obtain⟨n2,B,k,d,m2,B',k',d',rfl⟩:=QO.cells (show QO w w.heap.size vb (some r) from hb);have HC:=zz (cmpZ_R q r);have HL:=zz (And.intro lq.1 (And.intro lq.2 (And.intro lr.1 lr.2)));clear lq lr;have H1:=zz (QV.fst ha);have H2:=zz (QV.snd ha);have H3:=zz (QV.fst hb);have H4:=zz (QV.snd hb);clear ha hb;obtain⟨w0,hw0⟩:∃ w0:World,w0=((w.alloc (.cells #[.bool n,.slice A l c,.bool m,.slice A' l' c'] 43)).alloc (.cells #[.bool n2,.slice B k d,.bool m2,.slice B' k' d'] 43)):=⟨_,rfl⟩;have B0:=zz (n2_b hw0);have z0:=n2_z hw0;have La:=n2_0 hw0;have Lb:=n2_1 hw0;replace H1:=zz (LV.step H1.out B0.out);replace H2:=zz (LV.step H2.out B0.out);replace H3:=zz (LV.step H3.out B0.out);replace H4:=zz (LV.step H4.out B0.out);go_enter Tryz.func103,Tryz.ntmps103
 go_upto_region 1 with (fail)
 rw[← hw0];clear hw0;refine Flow.run [⟨0,5,fun fv fw=>fv=.pointer (some ⟨w.heap.size,0,none⟩)⟩,⟨1,6,fun fv fw=>fv=.agg #[.bool n,.slice A l c]⟩,⟨2,7,fun fv fw=>fv=.pointer (some ⟨w.heap.size+1,2,none⟩)⟩,⟨3,8,fun fv fw=>fv=.agg #[.bool m2,.slice B' k' d']⟩,⟨4,9,fun fv fw=>LV fw fw.heap.size fv (q.num*(r.den:Int))⟩,⟨5,10,fun fv fw=>fv=.pointer (some ⟨w.heap.size+1,0,none⟩)⟩,⟨6,11,fun fv fw=>fv=.agg #[.bool n2,.slice B k d]⟩,⟨7,12,fun fv fw=>fv=.pointer (some ⟨w.heap.size,2,none⟩)⟩,⟨8,13,fun fv fw=>fv=.agg #[.bool m,.slice A' l' c']⟩,⟨9,14,fun fv fw=>LV fw fw.heap.size fv (r.num*(q.den:Int))⟩,⟨10,15,fun fv fw=>fv=.int .i64 (cmpR q r)⟩] [] [] 1 (by kernel_rfl) (by kernel_rfl) (by kernel_rfl) (fun _ _ _ _ _ h=>h) ?_ ?_ ?_ ?_
 ·refine(a0 (a0 (a0 (a0 (all_cons (fun v w1 w2 h hb=>h.step hb) (a0 (a0 (a0 (a0 (all_cons (fun v w1 w2 h hb=>h.step hb) (a0 all_nil)))))))))))
 ·refine(all_cons ?_ (all_cons ?_ (all_cons ?_ (all_cons ?_ (all_cons ?_ (all_cons ?_ (all_cons ?_ (all_cons ?_ (all_cons ?_ (all_cons ?_ (all_cons ?_ all_nil)))))))))))
  ·intro xs wk1 b0 c0;clear b0;clear c0;refine wpOp_step (o:=_) rfl (fun K hK=>?_);simp only[FL]
   go_simp;refine hK _ _ ⟨.pointer (some ⟨w.heap.size,0,none⟩),by kernel_rfl,Below.refl _ _,rfl,nF⟩
  ·intro xs wk2 b0 c0;have r0:=zz b0;have c1:=b0.size;clear b0;have f0:(xs 0)=.pointer (some ⟨w.heap.size,0,none⟩):=c0 _ (m_ 0 rfl) (by kernel_rfl);clear c0;refine wpOp_step (o:=_) rfl (fun K hK=>?_);simp only[FL]
   have i0:=CB.step La r0.out;have L0:=i0.cell 0 rfl;have M0:=i0.cell 1 rfl;go_simp;refine hK _ _ ⟨.agg #[.bool n,.slice A l c],by simp only[FL,f0] <;> kernel_rfl,Below.refl _ _,rfl,nF⟩
  ·intro xs wk5 b0 c0;clear b0;clear c0;refine wpOp_step (o:=_) rfl (fun K hK=>?_);simp only[FL]
   go_simp;refine hK _ _ ⟨.pointer (some ⟨w.heap.size+1,2,none⟩),by kernel_rfl,Below.refl _ _,rfl,nF⟩
  ·intro xs wk6 b0 c0;have s0:=zz b0;have e1:=b0.size;clear b0;have f2:(xs 2)=.pointer (some ⟨w.heap.size+1,2,none⟩):=c0 _ (m_ 2 rfl) (by kernel_rfl);clear c0;refine wpOp_step (o:=_) rfl (fun K hK=>?_);simp only[FL]
   have j0:=CB.step Lb s0.out;have O0:=j0.cell 2 rfl;have P0:=j0.cell 3 rfl;go_simp;refine hK _ _ ⟨.agg #[.bool m2,.slice B' k' d'],by simp only[FL,f2] <;> kernel_rfl,Below.refl _ _,rfl,nF⟩
  ·intro xs g1 b0 c0;have k0:=zz b0;have h1:=b0.size;clear b0;have f1:(xs 1)=.agg #[.bool n,.slice A l c]:=c0 _ (m_ 1 rfl) (by kernel_rfl);have f3:(xs 3)=.agg #[.bool m2,.slice B' k' d']:=c0 _ (m_ 3 rfl) (by kernel_rfl);clear c0;refine wpOp_step (o:=_) rfl (fun K hK=>?_);simp only[FL]
   go_simp;have l0:=zz (LV.step H1.out k0.out);have m0:=zz (LV.step H4.out k0.out);(with_reducible refine(RProd_any _ _ _ q.num (r.den:Int) l0.out m0.out (by have:=HL.out;omega) (by rw[Int.natAbs_natCast];have:=HL.out;omega)).mono ?_)
   rintro e wc12 ⟨t0,v12,rfl,u0⟩;refine hK _ _ ⟨v12,by simp only[FL,f1,f3] <;> kernel_rfl,t0,u0,nF⟩
  ·intro xs Q0 b0 c0;clear b0;clear c0;refine wpOp_step (o:=_) rfl (fun K hK=>?_);simp only[FL]
   go_simp;refine hK _ _ ⟨.pointer (some ⟨w.heap.size+1,0,none⟩),by kernel_rfl,Below.refl _ _,rfl,nF⟩
  ·intro xs S0 b0 c0;have p0:=zz b0;have T0:=b0.size;clear b0;have f5:(xs 5)=.pointer (some ⟨w.heap.size+1,0,none⟩):=c0 _ (m_ 5 rfl) (by kernel_rfl);clear c0;refine wpOp_step (o:=_) rfl (fun K hK=>?_);simp only[FL]
   have e0:=CB.step Lb p0.out;have E0:=e0.cell 0 rfl;have F0:=e0.cell 1 rfl;go_simp;refine hK _ _ ⟨.agg #[.bool n2,.slice B k d],by simp only[FL,f5] <;> kernel_rfl,Below.refl _ _,rfl,nF⟩
  ·intro xs U0 b0 c0;clear b0;clear c0;refine wpOp_step (o:=_) rfl (fun K hK=>?_);simp only[FL]
   go_simp;refine hK _ _ ⟨.pointer (some ⟨w.heap.size,2,none⟩),by kernel_rfl,Below.refl _ _,rfl,nF⟩
  ·intro xs W0 b0 c0;have q0:=zz b0;have X0:=b0.size;clear b0;have f7:(xs 7)=.pointer (some ⟨w.heap.size,2,none⟩):=c0 _ (m_ 7 rfl) (by kernel_rfl);clear c0;refine wpOp_step (o:=_) rfl (fun K hK=>?_);simp only[FL]
   have g0:=CB.step La q0.out;have H0:=g0.cell 2 rfl;have I0:=g0.cell 3 rfl;go_simp;refine hK _ _ ⟨.agg #[.bool m,.slice A' l' c'],by simp only[FL,f7] <;> kernel_rfl,Below.refl _ _,rfl,nF⟩
  ·intro xs Y0 b0 c0;have h0:=zz b0;have Z0:=b0.size;clear b0;have f6:(xs 6)=.agg #[.bool n2,.slice B k d]:=c0 _ (m_ 6 rfl) (by kernel_rfl);have f8:(xs 8)=.agg #[.bool m,.slice A' l' c']:=c0 _ (m_ 8 rfl) (by kernel_rfl);clear c0;refine wpOp_step (o:=_) rfl (fun K hK=>?_);simp only[FL]
   go_simp;have n0:=zz (LV.step H3.out h0.out);have o0:=zz (LV.step H2.out h0.out);(with_reducible refine(RProd_any _ _ _ r.num (q.den:Int) n0.out o0.out (by have:=HL.out;omega) (by rw[Int.natAbs_natCast];have:=HL.out;omega)).mono ?_)
   rintro e wc24 ⟨v0,v24,rfl,y0⟩;refine hK _ _ ⟨v24,by simp only[FL,f6,f8] <;> kernel_rfl,v0,y0,nF⟩
  ·intro xs d0 b0 c0;clear b0;have f4:LV d0 d0.heap.size (xs 4) (q.num*(r.den:Int)):=c0 _ (m_ 4 rfl) (by kernel_rfl);have f9:LV d0 d0.heap.size (xs 9) (r.num*(q.den:Int)):=c0 _ (m_ 9 rfl) (by kernel_rfl);clear c0;refine wpOp_step (o:=_) rfl (fun K hK=>?_);simp only[FL]
   go_simp;(with_reducible refine((show Calls Tryz.prog _ _ _ _ from HC.out▸ROrder_any _ _ _ (q.num*(r.den:Int)) (r.num*(q.den:Int)) f4 f9)).mono ?_)
   rintro e wc26 ⟨A0,rfl⟩;refine hK _ _ ⟨.int .i64 (cmpR q r),by kernel_rfl,A0,rfl,nF⟩
 ·exact all_nil
 ·intro xs i1 hbf hf hn hd;have f0:(xs 0)=.pointer (some ⟨w.heap.size,0,none⟩):=hf _ (m_ 0 rfl);have f1:(xs 1)=.agg #[.bool n,.slice A l c]:=hf _ (m_ 1 rfl);have f2:(xs 2)=.pointer (some ⟨w.heap.size+1,2,none⟩):=hf _ (m_ 2 rfl);have f3:(xs 3)=.agg #[.bool m2,.slice B' k' d']:=hf _ (m_ 3 rfl);have f4:LV i1 i1.heap.size (xs 4) (q.num*(r.den:Int)):=hf _ (m_ 4 rfl);have f5:(xs 5)=.pointer (some ⟨w.heap.size+1,0,none⟩):=hf _ (m_ 5 rfl);have f6:(xs 6)=.agg #[.bool n2,.slice B k d]:=hf _ (m_ 6 rfl);have f7:(xs 7)=.pointer (some ⟨w.heap.size,2,none⟩):=hf _ (m_ 7 rfl);have f8:(xs 8)=.agg #[.bool m,.slice A' l' c']:=hf _ (m_ 8 rfl);have f9:LV i1 i1.heap.size (xs 9) (r.num*(q.den:Int)):=hf _ (m_ 9 rfl);have f10:(xs 10)=.int .i64 (cmpR q r):=hf _ (m_ 10 rfl);clear hf hn hd;simp only[FL]
  have B28:=zz hbf;have z28:=B28.out.size;have C0:=zz (B0.out.trans (B28.out.mono B0.out.size));clear hbf;generalize xs 0=x0,xs 1=x1,xs 2=x2,xs 3=x3,xs 4=x4,xs 5=x5,xs 6=x6,xs 7=x7,xs 8=x8,xs 9=x9,xs 10=x10 at *
  obtain rfl:=f0;obtain rfl:=f1;obtain rfl:=f2;obtain rfl:=f3;clear f4;obtain rfl:=f5;obtain rfl:=f6;obtain rfl:=f7;obtain rfl:=f8;clear f9;obtain rfl:=f10;refine Early.next (i:=11) (by kernel_rfl) rfl (fun K hK=>?_);go_simp;refine hK _ _ (fun _=>trivial) ?_;clear hK K;(try simp only[Act.put,List.setIfInBounds_toArray,List.set_cons_zero,List.set_cons_succ])
  refine Early.done (by kernel_rfl) ?_ _;(try simp only[Exit.then])
  go_wp2;go_ret;exact⟨C0.out,rfl⟩
set_option maxRecDepth 100000 in
set_option maxHeartbeats 4000000 in
theorem RCmpQ_any (w:World) (va vb:Value) (n m n2 m2:Bool) (a b a2 b2:List Int) (ha:QR w w.heap.size va n a m b) (hb:QR w w.heap.size vb n2 a2 m2 b2) :
  Calls Tryz.prog 63 #[va,vb] w fun e w'=>Below w.heap.size w w'∧RetI (cmpQ (qOf n a m b) (qOf n2 a2 m2 b2)) e:=by
 obtain⟨A,l,c,A',l',c',rfl,ha⟩:=RI.of ha;obtain⟨B,k,d,B',k',d',rfl,hb⟩:=RI.of hb;have HA:=zz ha;have HB:=zz hb;clear ha hb;obtain⟨w0,hw0⟩:∃ w0:World,w0=((w.alloc (.cells #[.bool n,.slice A l c,.bool m,.slice A' l' c'] 43)).alloc (.cells #[.bool n2,.slice B k d,.bool m2,.slice B' k' d'] 43)):=⟨_,rfl⟩;have B0:=zz (n2_b hw0);have z0:=n2_z hw0;have La:=n2_0 hw0;have Lb:=n2_1 hw0;replace HA:=zz (QR.step HA.out B0.out);replace HB:=zz (QR.step HB.out B0.out);rcases h1:qOf n a m b with _ | q
 ·rw[cmpQ_no (.inl rfl)];have E1:=zz h1;clear h1;go_enter Tryz.func63,Tryz.ntmps63
  go_upto_region 1 with (fail)
  rw[← hw0];clear hw0;have O0:=La.cell 0 rfl;have P0:=La.cell 1 rfl;have Q0:=La.cell 2 rfl;have R0:=La.cell 3 rfl;have g1:=La.lt;go_wp2_with fail
  refine(RRightQ_no HA.out E1.out).mono ?_;rintro e w1 ⟨K0,rfl⟩;have B3:=zz K0;have z3:=B3.out.size;have Y0:=zz (B0.out.trans (B3.out.mono B0.out.size));clear K0;clear O0 P0 Q0 R0 g1;go_wp2;go_ret2;exact⟨Y0.out,rfl⟩
 ·have E1:=zz h1;clear h1;rcases h2:qOf n2 a2 m2 b2 with _ | r
  ·rw[cmpQ_no (.inr rfl)];have E2:=zz h2;clear h2;go_enter Tryz.func63,Tryz.ntmps63
   go_upto_region 1 with (fail)
   rw[← hw0];clear hw0;have S0:=La.cell 0 rfl;have T0:=La.cell 1 rfl;have U0:=La.cell 2 rfl;have V0:=La.cell 3 rfl;have i1:=La.lt;go_wp2_with fail
   refine(RRightQ_yes HA.out E1.out).mono ?_;rintro e w5 ⟨L0,rfl⟩;have B7:=zz L0;have z7:=B7.out.size;have M0:=zz (B0.out.trans (B7.out.mono B0.out.size));clear L0;clear S0 T0 U0 V0 i1;have b0:=CB.step Lb B7.out;have m0:=b0.cell 0 rfl;have n0:=b0.cell 1 rfl;have o0:=b0.cell 2 rfl;have p0:=b0.cell 3 rfl;have a1:=b0.lt;go_wp2_with fail
   have q0:=zz (QR.step HB.out B7.out);refine(RRightQ_no q0.out E2.out).mono ?_;rintro e w9 ⟨N0,rfl⟩;have B13:=zz N0;have z13:=B13.out.size;have W0:=zz (M0.out.trans (B13.out.mono M0.out.size));clear N0;clear m0 n0 o0 p0 a1;go_wp2;go_ret2;exact⟨W0.out,rfl⟩
  ·have E2:=zz h2;clear h2;go_enter Tryz.func63,Tryz.ntmps63
   go_upto_region 1 with (fail)
   rw[← hw0];clear hw0;have r0:=La.cell 0 rfl;have s0:=La.cell 1 rfl;have t0:=La.cell 2 rfl;have u0:=La.cell 3 rfl;have b1:=La.lt;go_wp2_with fail
   refine(RRightQ_yes HA.out E1.out).mono ?_;rintro e w15 ⟨h0,rfl⟩;have B17:=zz h0;have z17:=B17.out.size;have i0:=zz (B0.out.trans (B17.out.mono B0.out.size));clear h0;clear r0 s0 t0 u0 b1;have a0:=CB.step Lb B17.out;have v0:=a0.cell 0 rfl;have x0:=a0.cell 1 rfl;have y0:=a0.cell 2 rfl;have A0:=a0.cell 3 rfl;have c1:=a0.lt;go_wp2_with fail
   have e0:=zz (QR.step HB.out B17.out);refine(RRightQ_yes e0.out E2.out).mono ?_;rintro e w19 ⟨j0,rfl⟩;have B23:=zz j0;have z23:=B23.out.size;have k0:=zz (i0.out.trans (B23.out.mono i0.out.size));clear j0;clear v0 x0 y0 A0 c1;have P1_3_25:=zz (B17.out.trans (B23.out.mono B17.out.size));have f0:=zz (QR.step HA.out P1_3_25.out);have g0:=zz (QR.step e0.out B23.out);have c0:=CB.step La P1_3_25.out;have C0:=c0.cell 0 rfl;have D0:=c0.cell 1 rfl;have E0:=c0.cell 2 rfl;have F0:=c0.cell 3 rfl;have d1:=c0.lt;have d0:=CB.step a0 B23.out;have G0:=d0.cell 0 rfl;have H0:=d0.cell 1 rfl;have I0:=d0.cell 2 rfl;have J0:=d0.cell 3 rfl;have e1:=d0.lt;go_wp2_with fail
   refine(ROrderQ_any _ _ _ q r (QR.valid f0.out E1.out).1 (QR.valid g0.out E2.out).1 ((QR.valid f0.out E1.out).2.mono (by decide) (by decide)) ((QR.valid g0.out E2.out).2.mono (by decide) (by decide))).mono ?_;rintro e w28 ⟨l0,rfl⟩;have B33:=zz l0;have z33:=B33.out.size;have X0:=zz (k0.out.trans (B33.out.mono k0.out.size));clear l0;clear C0 D0 E0 F0 d1 G0 H0 I0 J0 e1;go_wp2;go_ret2;exact⟨X0.out,rfl⟩
end Go.Proofs.YtkhljkiehohckaaGreatDoor
