/- Layer 04's reference: Right, Order, Cmp, Sign, Down, Floor (written by gen_qt.py). -/
import Derived.Test.YtkhljkiehohckaaGreatDoorQR
import Derived.Test.YtkhljkiehohckaaGreatDoorRef
namespace Go.Proofs.YtkhljkiehohckaaGreatDoor
open Go Go.RowKit Dig
theorem cmpZ_R (q r:Rat):(cmpZ (q.num*(r.den:Int)) (r.num*(q.den:Int))).1=cmpR q r:=by
 unfold cmpZ cmpR;rw[Int.neg_mul];generalize q.num*(r.den:Int)=x;generalize r.num*(q.den:Int)=y
 show(if x<y then (-1:Int) else if x=y then 0 else 1)=_
 rcases Int.lt_trichotomy x y with h | h | h
 ·rw[if_pos h,Int.sign_eq_neg_one_of_neg (by omega)]
 ·subst h;rw[if_neg (by omega),if_pos rfl,Int.add_right_neg];rfl
 ·rw[if_neg (by omega),if_neg (by omega),Int.sign_eq_one_of_pos (by omega)]
theorem cmpZ_0 (z:Int):(cmpZ z 0).1=z.sign:=by
 show(if z<0 then (-1:Int) else if z=0 then 0 else 1)=_
 rcases Int.lt_trichotomy z 0 with h | h | h
 ·rw[if_pos h,Int.sign_eq_neg_one_of_neg h]
 ·subst h;rfl
 ·rw[if_neg (by omega),if_neg (by omega),Int.sign_eq_one_of_pos h]
theorem down_neg {z d:Int} (hd:0<d) (h:Int.tmod z d<0):Int.tdiv z d-1=z / d:=by
 have h1:=Int.mul_tdiv_add_tmod z d;have h2:-d<Int.tmod z d:=by exact Int.lt_tmod_of_pos z hd
 have h3:z / d=Int.tdiv z d-1∧z % d=Int.tmod z d+d:=(Int.ediv_emod_unique hd).2 ⟨by rw[Int.mul_sub,Int.mul_one];omega,by omega,by omega⟩;exact h3.1.symm
theorem down_pos {z d:Int} (hd:0<d) (h:¬ Int.tmod z d<0):Int.tdiv z d=z / d:=by
 have h1:=Int.mul_tdiv_add_tmod z d;have h2:Int.tmod z d<d:=Int.tmod_lt_of_pos z hd;have h3:z / d=Int.tdiv z d∧z % d=Int.tmod z d:=(Int.ediv_emod_unique hd).2 ⟨by omega,by omega,h2⟩;exact h3.1.symm
set_option maxRecDepth 100000 in
set_option maxHeartbeats 4000000 in
theorem RRightQ_any (w:World) (v:Value) (n:Bool) (a:List Int) (m:Bool) (b:List Int) (h:QR w w.heap.size v n a m b) :
  Calls Tryz.prog 60 #[v] w fun e w'=>Below w.heap.size w w'∧e=.returned (.bool (qOf n a m b).isSome):=by
 obtain⟨r,hr⟩:∃ r,r=(qOf n a m b).isSome:=⟨_,rfl⟩;rw[← hr];have HR:=zz hr;clear hr;obtain⟨A,l,c,B,k,d,rfl,h⟩:=RI.of h;have eb:=RI.len (QR.is h).2;have k2:=zz eb;clear eb;obtain⟨w0,hw0⟩:∃ w0:World,w0=(w.alloc (.cells #[.bool n,.slice A l c,.bool m,.slice B k d] 43)):=⟨_,rfl⟩;have B0:=zz (n1_b hw0);have z0:=n1_z hw0;have La:=n1_0 hw0;have HA:=zz (LR.step (QR.fst h) B0.out);have HB:=zz (LR.step (QR.snd h) B0.out);clear h;by_cases hva:Valid n a
 ·have S1:=zz hva;clear hva;by_cases hvb:Valid m b
  ·have T1:=zz hvb;clear hvb;obtain⟨x,hx,nx,ax,lx⟩:=numOf_valid S1.out;obtain⟨y,hy,ny,by',ly⟩:=numOf_valid T1.out;have HX:=zz hx;have HY:=zz hy;have NX:=zz nx;have NY:=zz ny;have AX:=zz ax;have BY:=zz by';have HL:=zz (And.intro lx ly);clear hx hy nx ny ax by' lx ly
   cases m with
   | true=>
    have U1:=zz (show qOf n a true b=none by rw[qOf_both HX.out HY.out,if_neg (fun h=>by have h1:=NY.out;rw[decide_eq_false (by omega)] at h1;cases h1)]);go_enter Tryz.func60,Tryz.ntmps60
    go_upto_region 1 with (fail)
    rw[← hw0];clear hw0;have v1:=La.cell 0 rfl;have x1:=La.cell 1 rfl;have y1:=La.cell 2 rfl;have z1:=La.cell 3 rfl;have i2:=La.lt;go_wp2_with fail
    refine(Right_good HA.out S1.out).mono ?_;rintro e w1 ⟨s1,rfl⟩;have B3:=zz s1;have z3:=B3.out.size;have t1:=zz (B0.out.trans (B3.out.mono B0.out.size));clear s1;clear v1 x1 y1 z1 i2;have g0:=CB.step La B3.out;have A1:=g0.cell 0 rfl;have B1:=g0.cell 1 rfl;have C1:=g0.cell 2 rfl;have D1:=g0.cell 3 rfl;have j2:=g0.lt;go_wp2_with fail
    have E1:=zz (LR.step HB.out B3.out);refine(Right_good E1.out T1.out).mono ?_;rintro e w5 ⟨u1,rfl⟩;have B9:=zz u1;have z9:=B9.out.size;have F1:=zz (t1.out.trans (B9.out.mono t1.out.size));clear u1;clear A1 B1 C1 D1 j2;have c0:=CB.step g0 B9.out;have K1:=c0.cell 0 rfl;have L1:=c0.cell 1 rfl;have M1:=c0.cell 2 rfl;have N1:=c0.cell 3 rfl;have q2:=c0.lt;go_wp2;go_ret;exact⟨F1.out,by rw[HR.out,U1.out];rfl⟩
   | false=>
    by_cases hk:k=0
    ·have J1:decide (0<k)=false:=by rw[decide_eq_false];omega
     have U1:=zz (show qOf n a false b=none by rw[qOf_both HX.out HY.out,if_neg (fun h=>by have h1:=k2.out;rw[BY.out,ni_length,hk] at h1;have:=dig_nil.1 h1.symm;omega)]);clear hk;go_enter Tryz.func60,Tryz.ntmps60
     go_upto_region 1 with (fail)
     rw[← hw0];clear hw0;have E0:=La.cell 0 rfl;have F0:=La.cell 1 rfl;have G0:=La.cell 2 rfl;have H0:=La.cell 3 rfl;have Y1:=La.lt;go_wp2_with fail
     refine(Right_good HA.out S1.out).mono ?_;rintro e w13 ⟨i0,rfl⟩;have B15:=zz i0;have z15:=B15.out.size;have j0:=zz (B0.out.trans (B15.out.mono B0.out.size));clear i0;clear E0 F0 G0 H0 Y1;have a0:=CB.step La B15.out;have I0:=a0.cell 0 rfl;have J0:=a0.cell 1 rfl;have K0:=a0.cell 2 rfl;have L0:=a0.cell 3 rfl;have Z1:=a0.lt;go_wp2_with fail
     have M0:=zz (LR.step HB.out B15.out);refine(Right_good M0.out T1.out).mono ?_;rintro e w17 ⟨k0,rfl⟩;have B21:=zz k0;have z21:=B21.out.size;have G1:=zz (j0.out.trans (B21.out.mono j0.out.size));clear k0;clear I0 J0 K0 L0 Z1;have d0:=CB.step a0 B21.out;have O1:=d0.cell 0 rfl;have P1:=d0.cell 1 rfl;have Q1:=d0.cell 2 rfl;have R1:=d0.cell 3 rfl;have r2:=d0.lt;go_wp2;go_ret;exact⟨G1.out,by rw[HR.out,U1.out];rfl⟩
    ·have J1:decide (0<k)=true:=by rw[decide_eq_true_eq];omega
     have hy1:y.natAbs≠0:=fun h=>hk (by have h1:=k2.out;rw[BY.out,ni_length,h,dig_zero] at h1;exact h1)
     have hy0:0<y:=by
      have h3:=NY.out;rcases Int.lt_or_le y 0 with h4 | h4
      ·rw[decide_eq_true h4] at h3;cases h3
      ·omega
     have s2:=zz hy0;clear hy0 hy1 hk;have t2:=zz (show LV w0 w0.heap.size (.agg #[.bool n,.slice A l c]) x from by unfold LV;rw[← NX.out,← AX.out];exact HA.out);have u2:=zz (show LV w0 w0.heap.size (.agg #[.bool false,.slice B k d]) y from by unfold LV;rw[← NY.out,← BY.out];exact HB.out);obtain⟨g,hg⟩:∃ g:Int,g=(Int.gcd x y:Int):=⟨_,rfl⟩;have HG:=zz hg;clear hg;go_enter Tryz.func60,Tryz.ntmps60
     go_upto_region 1 with (fail)
     rw[← hw0];clear hw0;have N0:=La.cell 0 rfl;have O0:=La.cell 1 rfl;have P0:=La.cell 2 rfl;have Q0:=La.cell 3 rfl;have a2:=La.lt;go_wp2_with fail
     refine(Right_good HA.out S1.out).mono ?_;rintro e w25 ⟨l0,rfl⟩;have B27:=zz l0;have z27:=B27.out.size;have m0:=zz (B0.out.trans (B27.out.mono B0.out.size));clear l0;clear N0 O0 P0 Q0 a2;have b0:=CB.step La B27.out;have R0:=b0.cell 0 rfl;have S0:=b0.cell 1 rfl;have T0:=b0.cell 2 rfl;have U0:=b0.cell 3 rfl;have b2:=b0.lt;go_wp2_with fail
     have V0:=zz (LR.step HB.out B27.out);refine(Right_good V0.out T1.out).mono ?_;rintro e w29 ⟨n0,rfl⟩;have B33:=zz n0;have z33:=B33.out.size;have o0:=zz (m0.out.trans (B33.out.mono m0.out.size));clear n0;clear R0 S0 T0 U0 b2;have e0:=CB.step b0 B33.out;have W0:=e0.cell 0 rfl;have X0:=e0.cell 1 rfl;have Y0:=e0.cell 2 rfl;have Z0:=e0.cell 3 rfl;have c2:=e0.lt;go_wp2_with fail
     have P1_3_38:=zz (B27.out.trans (B33.out.mono B27.out.size));have a1:=zz (LV.step t2.out P1_3_38.out);have b1:=zz (LV.step u2.out P1_3_38.out);refine(RCommon_any _ _ _ x y a1.out b1.out (by have:=HL.out.1;omega) (by have:=HL.out.2;omega)).mono ?_;rintro e w35 ⟨p0,v,rfl,hv⟩;have B41:=zz p0;have z41:=B41.out.size;have q0:=zz (o0.out.trans (B41.out.mono o0.out.size));clear p0;clear W0 X0 Y0 Z0 c2;rw[← HG.out] at hv;obtain⟨n43,x2,l43,c43,rfl,r0⟩:=hv.opened;have c1:=zz r0;clear hv r0;go_wp2_with fail
     refine(ROf_any _ 1 (by decide) (by decide)).mono ?_;rintro e w44 ⟨s0,v,rfl,hv⟩;have B45:=zz s0;have z45:=B45.out.size;have t0:=zz (q0.out.trans (B45.out.mono q0.out.size));clear s0;obtain⟨n47,y2,l47,c47,rfl,u0⟩:=hv.opened;have h0:=zz u0;clear hv u0;go_wp2_with fail
     have d1:=zz (LV.step c1.out B45.out);refine(SameR_num d1.out h0.out).mono ?_;rintro e w48 ⟨v0,rfl⟩;have B50:=zz v0;have z50:=B50.out.size;have x0:=zz (t0.out.trans (B50.out.mono t0.out.size));clear v0;by_cases hg1:g=1
     ·rw[decide_eq_true hg1];have o2:=zz (show qOf n a false b=some (mkRat x y.natAbs) by rw[qOf_both HX.out HY.out,if_pos ⟨s2.out,by have h1:=HG.out;rw[hg1] at h1;unfold Int.gcd at h1;omega⟩]);clear hg1;go_wp2;go_ret;exact⟨x0.out,by rw[HR.out,o2.out];rfl⟩
     ·rw[decide_eq_false hg1];have U1:=zz (show qOf n a false b=none by rw[qOf_both HX.out HY.out,if_neg (fun h=>hg1 (by have h1:=HG.out;unfold Int.gcd at h1;omega))]);clear hg1;go_wp2;go_ret;exact⟨x0.out,by rw[HR.out,U1.out];rfl⟩
  ·have T1:=zz hvb;clear hvb;go_enter Tryz.func60,Tryz.ntmps60
   go_upto_region 1 with (fail)
   rw[← hw0];clear hw0;have e1:=La.cell 0 rfl;have f1:=La.cell 1 rfl;have g1:=La.cell 2 rfl;have i1:=La.cell 3 rfl;have d2:=La.lt;go_wp2_with fail
   refine(Right_good HA.out S1.out).mono ?_;rintro e w52 ⟨y0,rfl⟩;have B54:=zz y0;have z54:=B54.out.size;have A0:=zz (B0.out.trans (B54.out.mono B0.out.size));clear y0;clear e1 f1 g1 i1 d2;have f0:=CB.step La B54.out;have j1:=f0.cell 0 rfl;have k1:=f0.cell 1 rfl;have l1:=f0.cell 2 rfl;have m1:=f0.cell 3 rfl;have e2:=f0.lt;go_wp2_with fail
   have n1:=zz (LR.step HB.out B54.out);refine(Right_bad n1.out T1.out).mono ?_;rintro e w56 ⟨C0,rfl⟩;have B60:=zz C0;have z60:=B60.out.size;have H1:=zz (A0.out.trans (B60.out.mono A0.out.size));clear C0;clear j1 k1 l1 m1 e2;go_wp2;go_ret;exact⟨H1.out,by rw[HR.out,qOf_none2 T1.out];rfl⟩
 ·have S1:=zz hva;clear hva;go_enter Tryz.func60,Tryz.ntmps60
  go_upto_region 1 with (fail)
  rw[← hw0];clear hw0;have o1:=La.cell 0 rfl;have p1:=La.cell 1 rfl;have q1:=La.cell 2 rfl;have r1:=La.cell 3 rfl;have f2:=La.lt;go_wp2_with fail
  refine(Right_bad HA.out S1.out).mono ?_;rintro e w62 ⟨D0,rfl⟩;have B64:=zz D0;have z64:=B64.out.size;have I1:=zz (B0.out.trans (B64.out.mono B0.out.size));clear D0;clear o1 p1 q1 r1 f2;go_wp2;go_ret;exact⟨I1.out,by rw[HR.out,qOf_none1 S1.out];rfl⟩
theorem RRightQ_yes {w:World} {v:Value} {n m:Bool} {a b:List Int} {q:Rat} (h:QR w w.heap.size v n a m b) (hq:qOf n a m b=some q) :
  Calls Tryz.prog 60 #[v] w fun e w'=>Below w.heap.size w w'∧e=.returned (.bool true):=by
 have h1:=RRightQ_any w v n a m b h;rw[hq] at h1;exact h1
theorem RRightQ_no {w:World} {v:Value} {n m:Bool} {a b:List Int} (h:QR w w.heap.size v n a m b) (hq:qOf n a m b=none) :
  Calls Tryz.prog 60 #[v] w fun e w'=>Below w.heap.size w w'∧e=.returned (.bool false):=by
 have h1:=RRightQ_any w v n a m b h;rw[hq] at h1;exact h1
set_option maxRecDepth 100000 in
set_option maxHeartbeats 4000000 in
theorem ROrderQ_any (w:World) (va vb:Value) (q r:Rat) (ha:QV w w.heap.size va q) (hb:QV w w.heap.size vb r) (lq:QL 20000 20000 q) (lr:QL 20000 20000 r) :
  Calls Tryz.prog 103 #[va,vb] w fun e w'=>Below w.heap.size w w'∧e=.returned (.int .i64 (cmpR q r)):=by
 obtain⟨n,A,l,c,m,A',l',c',rfl⟩:=QO.cells (show QO w w.heap.size va (some q) from ha);obtain⟨n2,B,k,d,m2,B',k',d',rfl⟩:=QO.cells (show QO w w.heap.size vb (some r) from hb);have HC:=zz (cmpZ_R q r);have HL:=zz (And.intro lq.1 (And.intro lq.2 (And.intro lr.1 lr.2)));clear lq lr;have H1:=zz (QV.fst ha);have H2:=zz (QV.snd ha);have H3:=zz (QV.fst hb);have H4:=zz (QV.snd hb);clear ha hb;obtain⟨w0,hw0⟩:∃ w0:World,w0=((w.alloc (.cells #[.bool n,.slice A l c,.bool m,.slice A' l' c'] 43)).alloc (.cells #[.bool n2,.slice B k d,.bool m2,.slice B' k' d'] 43)):=⟨_,rfl⟩;have B0:=zz (n2_b hw0);have z0:=n2_z hw0;have La:=n2_0 hw0;have Lb:=n2_1 hw0;replace H1:=zz (LV.step H1.out B0.out);replace H2:=zz (LV.step H2.out B0.out);replace H3:=zz (LV.step H3.out B0.out);replace H4:=zz (LV.step H4.out B0.out);go_enter Tryz.func103,Tryz.ntmps103
 go_upto_region 1 with (fail)
 rw[← hw0];clear hw0;refine Flow.run [⟨0,5,fun fv fw=>fv=.pointer (some ⟨w.heap.size,0,none⟩)⟩,⟨1,6,fun fv fw=>fv=.agg #[.bool n,.slice A l c]⟩,⟨2,7,fun fv fw=>fv=.pointer (some ⟨w.heap.size+1,2,none⟩)⟩,⟨3,8,fun fv fw=>fv=.agg #[.bool m2,.slice B' k' d']⟩,⟨4,9,fun fv fw=>LV fw fw.heap.size fv (q.num*(r.den:Int))⟩,⟨5,10,fun fv fw=>fv=.pointer (some ⟨w.heap.size+1,0,none⟩)⟩,⟨6,11,fun fv fw=>fv=.agg #[.bool n2,.slice B k d]⟩,⟨7,12,fun fv fw=>fv=.pointer (some ⟨w.heap.size,2,none⟩)⟩,⟨8,13,fun fv fw=>fv=.agg #[.bool m,.slice A' l' c']⟩,⟨9,14,fun fv fw=>LV fw fw.heap.size fv (r.num*(q.den:Int))⟩,⟨10,15,fun fv fw=>fv=.int .i64 (cmpR q r)⟩] [] [] 1 (by kernel_rfl) (by kernel_rfl) (by kernel_rfl) (fun _ _ _ _ _ h=>h) ?_ ?_ ?_ ?_
 ·refine(a0 (a0 (a0 (a0 (all_cons (fun v w1 w2 h hb=>h.step hb) (a0 (a0 (a0 (a0 (all_cons (fun v w1 w2 h hb=>h.step hb) (a0 all_nil)))))))))))
 ·refine(all_cons ?_ (all_cons ?_ (all_cons ?_ (all_cons ?_ (all_cons ?_ (all_cons ?_ (all_cons ?_ (all_cons ?_ (all_cons ?_ (all_cons ?_ (all_cons ?_ all_nil)))))))))))
  ·intro xs wk1 b0 c0;clear b0;clear c0;refine wpOp_step (o:=_) rfl (fun K hK=>?_);simp only[FL]
   go_simp;refine hK _ _ ⟨.pointer (some ⟨w.heap.size,0,none⟩),by kernel_rfl,Below.refl _ _,rfl,nF⟩
  ·intro xs wk2 b0 c0;have r0:=zz b0;have c1:=b0.size;clear b0;have f0:(xs 0)=.pointer (some ⟨w.heap.size,0,none⟩):=c0 _ (m_ 0 rfl) (by kernel_rfl);clear c0;refine wpOp_step (o:=_) rfl (fun K hK=>?_);simp only[FL]
   have i0:=CB.step La r0.out;have L0:=i0.cell 0 rfl;have M0:=i0.cell 1 rfl;go_simp;refine hK _ _ ⟨.agg #[.bool n,.slice A l c],by simp only[FL,f0] <;> kernel_rfl,Below.refl _ _,rfl,nF⟩
  ·intro xs wk5 b0 c0;clear b0;clear c0;refine wpOp_step (o:=_) rfl (fun K hK=>?_);simp only[FL]
   go_simp;refine hK _ _ ⟨.pointer (some ⟨w.heap.size+1,2,none⟩),by kernel_rfl,Below.refl _ _,rfl,nF⟩
  ·intro xs wk6 b0 c0;have s0:=zz b0;have e1:=b0.size;clear b0;have f2:(xs 2)=.pointer (some ⟨w.heap.size+1,2,none⟩):=c0 _ (m_ 2 rfl) (by kernel_rfl);clear c0;refine wpOp_step (o:=_) rfl (fun K hK=>?_);simp only[FL]
   have j0:=CB.step Lb s0.out;have O0:=j0.cell 2 rfl;have P0:=j0.cell 3 rfl;go_simp;refine hK _ _ ⟨.agg #[.bool m2,.slice B' k' d'],by simp only[FL,f2] <;> kernel_rfl,Below.refl _ _,rfl,nF⟩
  ·intro xs g1 b0 c0;have k0:=zz b0;have h1:=b0.size;clear b0;have f1:(xs 1)=.agg #[.bool n,.slice A l c]:=c0 _ (m_ 1 rfl) (by kernel_rfl);have f3:(xs 3)=.agg #[.bool m2,.slice B' k' d']:=c0 _ (m_ 3 rfl) (by kernel_rfl);clear c0;refine wpOp_step (o:=_) rfl (fun K hK=>?_);simp only[FL]
   go_simp;have l0:=zz (LV.step H1.out k0.out);have m0:=zz (LV.step H4.out k0.out);(with_reducible refine(RProd_any _ _ _ q.num (r.den:Int) l0.out m0.out (by have:=HL.out;omega) (by rw[Int.natAbs_natCast];have:=HL.out;omega)).mono ?_)
   rintro e wc12 ⟨t0,v12,rfl,u0⟩;refine hK _ _ ⟨v12,by simp only[FL,f1,f3] <;> kernel_rfl,t0,u0,nF⟩
  ·intro xs Q0 b0 c0;clear b0;clear c0;refine wpOp_step (o:=_) rfl (fun K hK=>?_);simp only[FL]
   go_simp;refine hK _ _ ⟨.pointer (some ⟨w.heap.size+1,0,none⟩),by kernel_rfl,Below.refl _ _,rfl,nF⟩
  ·intro xs S0 b0 c0;have p0:=zz b0;have T0:=b0.size;clear b0;have f5:(xs 5)=.pointer (some ⟨w.heap.size+1,0,none⟩):=c0 _ (m_ 5 rfl) (by kernel_rfl);clear c0;refine wpOp_step (o:=_) rfl (fun K hK=>?_);simp only[FL]
   have e0:=CB.step Lb p0.out;have E0:=e0.cell 0 rfl;have F0:=e0.cell 1 rfl;go_simp;refine hK _ _ ⟨.agg #[.bool n2,.slice B k d],by simp only[FL,f5] <;> kernel_rfl,Below.refl _ _,rfl,nF⟩
  ·intro xs U0 b0 c0;clear b0;clear c0;refine wpOp_step (o:=_) rfl (fun K hK=>?_);simp only[FL]
   go_simp;refine hK _ _ ⟨.pointer (some ⟨w.heap.size,2,none⟩),by kernel_rfl,Below.refl _ _,rfl,nF⟩
  ·intro xs W0 b0 c0;have q0:=zz b0;have X0:=b0.size;clear b0;have f7:(xs 7)=.pointer (some ⟨w.heap.size,2,none⟩):=c0 _ (m_ 7 rfl) (by kernel_rfl);clear c0;refine wpOp_step (o:=_) rfl (fun K hK=>?_);simp only[FL]
   have g0:=CB.step La q0.out;have H0:=g0.cell 2 rfl;have I0:=g0.cell 3 rfl;go_simp;refine hK _ _ ⟨.agg #[.bool m,.slice A' l' c'],by simp only[FL,f7] <;> kernel_rfl,Below.refl _ _,rfl,nF⟩
  ·intro xs Y0 b0 c0;have h0:=zz b0;have Z0:=b0.size;clear b0;have f6:(xs 6)=.agg #[.bool n2,.slice B k d]:=c0 _ (m_ 6 rfl) (by kernel_rfl);have f8:(xs 8)=.agg #[.bool m,.slice A' l' c']:=c0 _ (m_ 8 rfl) (by kernel_rfl);clear c0;refine wpOp_step (o:=_) rfl (fun K hK=>?_);simp only[FL]
   go_simp;have n0:=zz (LV.step H3.out h0.out);have o0:=zz (LV.step H2.out h0.out);(with_reducible refine(RProd_any _ _ _ r.num (q.den:Int) n0.out o0.out (by have:=HL.out;omega) (by rw[Int.natAbs_natCast];have:=HL.out;omega)).mono ?_)
   rintro e wc24 ⟨v0,v24,rfl,y0⟩;refine hK _ _ ⟨v24,by simp only[FL,f6,f8] <;> kernel_rfl,v0,y0,nF⟩
  ·intro xs d0 b0 c0;clear b0;have f4:LV d0 d0.heap.size (xs 4) (q.num*(r.den:Int)):=c0 _ (m_ 4 rfl) (by kernel_rfl);have f9:LV d0 d0.heap.size (xs 9) (r.num*(q.den:Int)):=c0 _ (m_ 9 rfl) (by kernel_rfl);clear c0;refine wpOp_step (o:=_) rfl (fun K hK=>?_);simp only[FL]
   go_simp;(with_reducible refine((show Calls Tryz.prog _ _ _ _ from HC.out▸ROrder_any _ _ _ (q.num*(r.den:Int)) (r.num*(q.den:Int)) f4 f9)).mono ?_)
   rintro e wc26 ⟨A0,rfl⟩;refine hK _ _ ⟨.int .i64 (cmpR q r),by kernel_rfl,A0,rfl,nF⟩
 ·exact all_nil
 ·intro xs i1 hbf hf hn hd;have f0:(xs 0)=.pointer (some ⟨w.heap.size,0,none⟩):=hf _ (m_ 0 rfl);have f1:(xs 1)=.agg #[.bool n,.slice A l c]:=hf _ (m_ 1 rfl);have f2:(xs 2)=.pointer (some ⟨w.heap.size+1,2,none⟩):=hf _ (m_ 2 rfl);have f3:(xs 3)=.agg #[.bool m2,.slice B' k' d']:=hf _ (m_ 3 rfl);have f4:LV i1 i1.heap.size (xs 4) (q.num*(r.den:Int)):=hf _ (m_ 4 rfl);have f5:(xs 5)=.pointer (some ⟨w.heap.size+1,0,none⟩):=hf _ (m_ 5 rfl);have f6:(xs 6)=.agg #[.bool n2,.slice B k d]:=hf _ (m_ 6 rfl);have f7:(xs 7)=.pointer (some ⟨w.heap.size,2,none⟩):=hf _ (m_ 7 rfl);have f8:(xs 8)=.agg #[.bool m,.slice A' l' c']:=hf _ (m_ 8 rfl);have f9:LV i1 i1.heap.size (xs 9) (r.num*(q.den:Int)):=hf _ (m_ 9 rfl);have f10:(xs 10)=.int .i64 (cmpR q r):=hf _ (m_ 10 rfl);clear hf hn hd;simp only[FL]
  have B28:=zz hbf;have z28:=B28.out.size;have C0:=zz (B0.out.trans (B28.out.mono B0.out.size));clear hbf;generalize xs 0=x0,xs 1=x1,xs 2=x2,xs 3=x3,xs 4=x4,xs 5=x5,xs 6=x6,xs 7=x7,xs 8=x8,xs 9=x9,xs 10=x10 at *
  obtain rfl:=f0;obtain rfl:=f1;obtain rfl:=f2;obtain rfl:=f3;clear f4;obtain rfl:=f5;obtain rfl:=f6;obtain rfl:=f7;obtain rfl:=f8;clear f9;obtain rfl:=f10;refine Early.next (i:=11) (by kernel_rfl) rfl (fun K hK=>?_);go_simp;refine hK _ _ (fun _=>trivial) ?_;clear hK K;(try simp only[Act.put,List.setIfInBounds_toArray,List.set_cons_zero,List.set_cons_succ])
  refine Early.done (by kernel_rfl) ?_ _;(try simp only[Exit.then])
  go_wp2;go_ret;exact⟨C0.out,rfl⟩
set_option maxRecDepth 100000 in
set_option maxHeartbeats 4000000 in
theorem RSignQ_any (w:World) (va:Value) (n m:Bool) (a b:List Int) (ha:QR w w.heap.size va n a m b) :
  Calls Tryz.prog 94 #[va] w fun e w'=>Below w.heap.size w w'∧RetI (sgnQ (qOf n a m b)) e:=by
 obtain⟨A,l,c,A',l',c',rfl,ha⟩:=RI.of ha;have HA:=zz ha;clear ha;obtain⟨w0,hw0⟩:∃ w0:World,w0=(w.alloc (.cells #[.bool n,.slice A l c,.bool m,.slice A' l' c'] 43)):=⟨_,rfl⟩;have B0:=zz (n1_b hw0);have z0:=n1_z hw0;have La:=n1_0 hw0;replace HA:=zz (QR.step HA.out B0.out);rcases h1:qOf n a m b with _ | q
 ·have E1:=zz h1;clear h1;go_enter Tryz.func94,Tryz.ntmps94
  go_upto_region 1 with (fail)
  rw[← hw0];clear hw0;have m0:=La.cell 0 rfl;have n0:=La.cell 1 rfl;have o0:=La.cell 2 rfl;have p0:=La.cell 3 rfl;have R0:=La.lt;go_wp2_with fail
  refine(RRightQ_no HA.out E1.out).mono ?_;rintro e w1 ⟨j0,rfl⟩;have B3:=zz j0;have z3:=B3.out.size;have D0:=zz (B0.out.trans (B3.out.mono B0.out.size));clear j0;clear m0 n0 o0 p0 R0;go_wp2;go_ret2;exact⟨D0.out,rfl⟩
 ·have E1:=zz h1;clear h1;have HC:=zz (cmpZ_0 q.num);go_enter Tryz.func94,Tryz.ntmps94
  go_upto_region 1 with (fail)
  rw[← hw0];clear hw0;have q0:=La.cell 0 rfl;have r0:=La.cell 1 rfl;have s0:=La.cell 2 rfl;have t0:=La.cell 3 rfl;have S0:=La.lt;go_wp2_with fail
  refine(RRightQ_yes HA.out E1.out).mono ?_;rintro e w5 ⟨k0,rfl⟩;have B7:=zz k0;have z7:=B7.out.size;have l0:=zz (B0.out.trans (B7.out.mono B0.out.size));clear k0;clear q0 r0 s0 t0 S0;have u0:=zz (QR.step HA.out B7.out);have HN:=zz (QV.fst (QR.valid u0.out E1.out).1);go_upto_region 3 with (fail)
  refine Flow.run [⟨0,7,fun fv fw=>fv=.pointer (some ⟨w.heap.size,0,none⟩)⟩,⟨1,8,fun fv fw=>fv=.agg #[.bool n,.slice A l c]⟩,⟨2,9,fun fv fw=>LV fw fw.heap.size fv 0⟩,⟨3,10,fun fv fw=>fv=.int .i64 q.num.sign⟩] [] [] 2 (by kernel_rfl) (by kernel_rfl) (by kernel_rfl) (fun _ _ _ _ _ h=>h) ?_ ?_ ?_ ?_
  ·refine(a0 (a0 (all_cons (fun v w1 w2 h hb=>h.step hb) (a0 all_nil))))
  ·refine(all_cons ?_ (all_cons ?_ (all_cons ?_ (all_cons ?_ all_nil))))
   ·intro xs I0 b0 c0;clear b0;clear c0;refine wpOp_step (o:=_) rfl (fun K hK=>?_);simp only[FL]
    go_simp;refine hK _ _ ⟨.pointer (some ⟨w.heap.size,0,none⟩),by kernel_rfl,Below.refl _ _,rfl,nF⟩
   ·intro xs K0 b0 c0;have g0:=zz b0;have L0:=b0.size;clear b0;have f0:(xs 0)=.pointer (some ⟨w.heap.size,0,none⟩):=c0 _ (m_ 0 rfl) (by kernel_rfl);clear c0;refine wpOp_step (o:=_) rfl (fun K hK=>?_);simp only[FL]
    have P1_3_13:=zz (B7.out.trans (g0.out.mono B7.out.size));have d0:=CB.step La P1_3_13.out;have F0:=d0.cell 0 rfl;have G0:=d0.cell 1 rfl;go_simp;refine hK _ _ ⟨.agg #[.bool n,.slice A l c],by simp only[FL,f0] <;> kernel_rfl,Below.refl _ _,rfl,nF⟩
   ·intro xs M0 b0 c0;clear b0;clear c0;refine wpOp_step (o:=_) rfl (fun K hK=>?_);simp only[FL]
    go_simp;(with_reducible refine(ROf_any _ 0 (by decide) (by decide)).mono ?_)
    rintro e wc16 ⟨v0,v16,rfl,y0⟩;refine hK _ _ ⟨v16,by kernel_rfl,v0,y0,nF⟩
   ·intro xs e0 b0 c0;have h0:=zz b0;have O0:=b0.size;clear b0;have f1:(xs 1)=.agg #[.bool n,.slice A l c]:=c0 _ (m_ 1 rfl) (by kernel_rfl);have f2:LV e0 e0.heap.size (xs 2) 0:=c0 _ (m_ 2 rfl) (by kernel_rfl);clear c0;refine wpOp_step (o:=_) rfl (fun K hK=>?_);simp only[FL]
    go_simp;have i0:=zz (LV.step HN.out h0.out);(with_reducible refine((show Calls Tryz.prog _ _ _ _ from HC.out▸ROrder_any _ _ _ q.num 0 i0.out f2)).mono ?_)
    rintro e wc19 ⟨A0,rfl⟩;refine hK _ _ ⟨.int .i64 q.num.sign,by simp only[FL,f1] <;> kernel_rfl,A0,rfl,nF⟩
  ·exact all_nil
  ·intro xs Q0 hbf hf hn hd;have f0:(xs 0)=.pointer (some ⟨w.heap.size,0,none⟩):=hf _ (m_ 0 rfl);have f1:(xs 1)=.agg #[.bool n,.slice A l c]:=hf _ (m_ 1 rfl);have f2:LV Q0 Q0.heap.size (xs 2) 0:=hf _ (m_ 2 rfl);have f3:(xs 3)=.int .i64 q.num.sign:=hf _ (m_ 3 rfl);clear hf hn hd;simp only[FL]
   have B21:=zz hbf;have z21:=B21.out.size;have C0:=zz (l0.out.trans (B21.out.mono l0.out.size));clear hbf;generalize xs 0=x0,xs 1=x1,xs 2=x2,xs 3=x3 at *
   obtain rfl:=f0;obtain rfl:=f1;clear f2;obtain rfl:=f3;refine Early.next (i:=4) (by kernel_rfl) rfl (fun K hK=>?_);go_simp;refine hK _ _ (fun _=>trivial) ?_;clear hK K;(try simp only[Act.put,List.setIfInBounds_toArray,List.set_cons_zero,List.set_cons_succ])
   refine Early.next (i:=5) (by kernel_rfl) rfl (fun K hK=>?_);go_simp;refine hK _ _ (fun _=>trivial) ?_;clear hK K;(try simp only[Act.put,List.setIfInBounds_toArray,List.set_cons_zero,List.set_cons_succ])
   refine Early.done (by kernel_rfl) ?_ _;(try simp only[Exit.then])
   go_wp2;go_ret2;exact⟨C0.out,rfl⟩
set_option maxRecDepth 100000 in
set_option maxHeartbeats 4000000 in
theorem RDownQ_any (w:World) (va vb:Value) (z d:Int) (ha:LV w w.heap.size va z) (hb:LV w w.heap.size vb d) (hd:0<d) (lz:(dig z.natAbs).length≤80000) (ld:(dig d.natAbs).length≤80000) :
  Calls Tryz.prog 95 #[va,vb] w fun e w'=>Below w.heap.size w w'∧RetV w' (z / d) e:=by
 have HD:=zz hd;have HL:=zz (And.intro lz ld);have e2:=zz (show(dig (Int.tdiv z d).natAbs).length≤80000 from Nat.le_trans (dig_len_mono (Int.natAbs_tdiv_le_natAbs z d)) lz);clear hd lz ld;obtain⟨n,A,l,c,rfl,ha⟩:=ha.opened;obtain⟨m,B,u,e,rfl,hb⟩:=hb.opened;have HA:=zz ha;have HB:=zz hb;clear ha hb;obtain⟨w0,hw0⟩:∃ w0:World,w0=(((w.alloc (.cells #[.bool n,.slice A l c] 41)).alloc (.cells #[.bool m,.slice B u e] 41)).alloc (.cells #[.bool false,.slice none 0 0] 41)):=⟨_,rfl⟩;have B0:=zz (n3_b hw0);have z0:=n3_z hw0;have Ln:=n3_0 hw0;have Ld:=n3_1 hw0;have Lr4:=n3_2 hw0;replace HA:=zz (LV.step HA.out B0.out);replace HB:=zz (LV.step HB.out B0.out);go_enter Tryz.func95,Tryz.ntmps95
 go_upto_region 1 with (fail)
 rw[← hw0];clear hw0;have k1:=Ln.cell 0 rfl;have l1:=Ln.cell 1 rfl;have W1:=Ln.lt;have m1:=Ld.cell 0 rfl;have n1:=Ld.cell 1 rfl;have X1:=Ld.lt;go_wp2_with fail
 refine(RParts_any _ _ _ z d HA.out HB.out (by have:=HD.out;omega) (by have:=HL.out;omega) (by have:=HL.out;omega)).mono ?_;rintro e w1 ⟨h1,v,v',rfl,hv,hv'⟩;have B4:=zz h1;have z4:=B4.out.size;have i1:=zz (B0.out.trans (B4.out.mono B0.out.size));clear h1;clear k1 l1 W1 m1 n1 X1;obtain⟨rn,rA,rl,rc,rfl,hr⟩:=hv'.opened;have Y1:=zz (LV.is hr).1;clear hv' hr;obtain⟨n6,K1,l6,c6,rfl,j1⟩:=hv.opened;have r0:=zz j1;clear hv j1;go_upto_region 2 with (fail)
 obtain⟨w7,m0⟩:∃ w7:World,w7=((w1.alloc (.cells #[.bool n6,.slice K1 l6 c6] 41)).alloc (.cells #[.bool rn,.slice rA rl rc] 41)):=⟨_,rfl⟩;rw[← m0];have l0:=n2_0 m0;have h0:=n2_1 m0;have za7:=n2_z m0;have B8:=zz (n2_b m0);have z8:=B8.out.size;have s0:=zz (i1.out.trans (B8.out.mono i1.out.size));clear m0;by_cases hn:Int.tmod z d<0
 ·obtain rfl:rn=true:=by rw[Y1.out,decide_eq_true hn]
  have HE:=zz (down_neg HD.out hn);clear hn;have C0:=h0.cell 0 rfl;have D0:=h0.cell 1 rfl;have L1:=h0.lt;go_upto_region 3 with (fail)
  clear C0 D0 L1;refine Flow.run [⟨0,15,fun fv fw=>fv=.agg #[.bool n6,.slice K1 l6 c6]⟩,⟨1,16,fun fv fw=>LV fw fw.heap.size fv 1⟩,⟨2,17,fun fv fw=>LV fw fw.heap.size fv (Int.tdiv z d-1)⟩] [] [] 1 (by kernel_rfl) (by kernel_rfl) (by kernel_rfl) (fun _ _ _ _ _ h=>h) ?_ ?_ ?_ ?_
  ·refine(a0 (all_cons (fun v w1 w2 h hb=>h.step hb) (all_cons (fun v w1 w2 h hb=>h.step hb) all_nil)))
  ·refine(all_cons ?_ (all_cons ?_ (all_cons ?_ all_nil)))
   ·intro xs B1 g0 i0;have E0:=zz g0;have C1:=g0.size;clear g0;clear i0;refine wpOp_step (o:=_) rfl (fun K hK=>?_);simp only[FL]
    have o0:=CB.step l0 E0.out;have t1:=o0.cell 0 rfl;have u1:=o0.cell 1 rfl;go_simp;refine hK _ _ ⟨.agg #[.bool n6,.slice K1 l6 c6],by kernel_rfl,Below.refl _ _,rfl,nF⟩
   ·intro xs D1 g0 i0;clear g0;clear i0;refine wpOp_step (o:=_) rfl (fun K hK=>?_);simp only[FL]
    go_simp;(with_reducible refine(ROf_any _ 1 (by decide) (by decide)).mono ?_)
    rintro e wc15 ⟨o1,v15,rfl,p1⟩;refine hK _ _ ⟨v15,by kernel_rfl,o1,p1,nF⟩
   ·intro xs t0 g0 i0;have F0:=zz g0;have F1:=g0.size;clear g0;have f0:(xs 0)=.agg #[.bool n6,.slice K1 l6 c6]:=i0 _ (m_ 0 rfl) (by kernel_rfl);have f1:LV t0 t0.heap.size (xs 1) 1:=i0 _ (m_ 1 rfl) (by kernel_rfl);clear i0;refine wpOp_step (o:=_) rfl (fun K hK=>?_);simp only[FL]
    go_simp;have P2_4_17:=zz (B8.out.trans (F0.out.mono B8.out.size));have G0:=zz (LV.step r0.out P2_4_17.out);(with_reducible refine(RDiff_any _ _ _ (Int.tdiv z d) 1 G0.out f1 (by have:=e2.out;omega) (by exact Nat.le_trans (fit_i64 (n:=1) (by decide) (by decide)) (by decide))).mono ?_)
    rintro e wc19 ⟨q1,v19,rfl,r1⟩;refine hK _ _ ⟨v19,by simp only[FL,f0] <;> kernel_rfl,q1,r1,nF⟩
  ·exact all_nil
  ·intro xs J1 hbf hf hn hd;have f0:(xs 0)=.agg #[.bool n6,.slice K1 l6 c6]:=hf _ (m_ 0 rfl);have f1:LV J1 J1.heap.size (xs 1) 1:=hf _ (m_ 1 rfl);have f2:LV J1 J1.heap.size (xs 2) (Int.tdiv z d-1):=hf _ (m_ 2 rfl);clear hf hn hd;simp only[FL]
   have B21:=zz hbf;have z21:=B21.out.size;have s1:=zz (s0.out.trans (B21.out.mono s0.out.size));clear hbf;generalize xs 0=x0,xs 1=x1,xs 2=x2 at *
   obtain rfl:=f0;clear f1;obtain⟨n23,M1,l23,c23,rfl,u0⟩:=f2.opened;have p0:=zz u0;clear f2 u0;have d0:=CB.step l0 B21.out;have H0:=d0.cell 0 rfl;have I0:=d0.cell 1 rfl;have N1:=d0.lt;have J0:=d0.frozen 0;have K0:=d0.frozen 1;have O1:=d0.lt;refine Early.next (i:=3) (by kernel_rfl) rfl (fun K hK=>?_);go_simp;refine hK _ _ (fun _=>trivial) ?_;clear hK K;(try simp only[Act.put,List.setIfInBounds_toArray,List.set_cons_zero,List.set_cons_succ])
   clear H0 I0 N1 J0 K0 O1;have P1_3_28:=zz (B4.out.trans (B8.out.mono B4.out.size));have P1_4_29:=zz (P1_3_28.out.trans (B21.out.mono P1_3_28.out.size));have L0:=CB.step Ln P1_4_29.out;have M0:=CB.step Ld P1_4_29.out;have v0:=CB.step Lr4 P1_4_29.out;have N0:=CB.step h0 B21.out;obtain⟨w33,e0⟩:∃ w33:World,w33=((J1.setCell ⟨w1.heap.size,0,none⟩ (.bool n23)).setCell ⟨w1.heap.size,1,none⟩ (.slice M1 l23 c23)):=⟨_,rfl⟩;rw[← e0];have S33:=zz (p2_s e0 d0 (by simp[noInt_b,noInt_s]));have y1:=p2_f e0 L0 (by omega);have z1:=p2_f e0 M0 (by omega);have b0:=p2_f e0 v0 (by omega);have A1:=p2_f e0 N0 (by omega);have n0:=p2_p e0 d0;have O0:=zz (p2_b e0 s1.out (by omega));have G1:=p2_z e0;clear e0;refine Early.done (by kernel_rfl) ?_ _;(try simp only[Exit.then])
   have P0:=n0.cell 0 rfl;have Q0:=n0.cell 1 rfl;have P1:=n0.lt;have R0:=b0.cell 0 rfl;have S0:=b0.cell 1 rfl;have Q1:=b0.lt;have T0:=b0.frozen 0;have U0:=b0.frozen 1;have R1:=b0.lt;go_wp2;clear P0 Q0 P1 R0 S0 Q1 T0 U0 R1;obtain⟨w37,j0⟩:∃ w37:World,w37=((w33.setCell ⟨w.heap.size+2,0,none⟩ (.bool n23)).setCell ⟨w.heap.size+2,1,none⟩ (.slice M1 l23 c23)):=⟨_,rfl⟩;rw[← j0];have S37:=zz (p2_s j0 b0 (by simp[noInt_b,noInt_s]));have y0:=p2_p j0 b0;have V0:=zz (p2_b j0 O0.out (by omega));have H1:=p2_z j0;clear j0;have q0:=zz (LV.soft p0.out ((S33.out).trans (S37.out)));exact bodyPost_ret (GB.ret1 rfl _ y0 rfl) rfl ⟨V0.out,_,rfl,(show LV _ _ _ (z / d) from HE.out▸q0.out)⟩
 ·obtain rfl:rn=false:=by rw[Y1.out,decide_eq_false hn]
  have HE:=zz (down_pos HD.out hn);clear hn;have W0:=h0.cell 0 rfl;have X0:=h0.cell 1 rfl;have S1:=h0.lt;go_upto_region 4 with (fail)
  clear W0 X0 S1;have Y0:=l0.cell 0 rfl;have Z0:=l0.cell 1 rfl;have T1:=l0.lt;have P1_3_42:=zz (B4.out.trans (B8.out.mono B4.out.size));have c0:=CB.step Lr4 P1_3_42.out;have a1:=c0.cell 0 rfl;have b1:=c0.cell 1 rfl;have U1:=c0.lt;have c1:=c0.frozen 0;have d1:=c0.frozen 1;have V1:=c0.lt;go_wp2;clear Y0 Z0 T1 a1 b1 U1 c1 d1 V1;obtain⟨w45,k0⟩:∃ w45:World,w45=((w7.setCell ⟨w.heap.size+2,0,none⟩ (.bool n6)).setCell ⟨w.heap.size+2,1,none⟩ (.slice K1 l6 c6)):=⟨_,rfl⟩;rw[← k0];have S45:=zz (p2_s k0 c0 (by simp[noInt_b,noInt_s]));have A0:=p2_p k0 c0;have e1:=zz (p2_b k0 s0.out (by omega));have I1:=p2_z k0;clear k0;have g1:=zz (LV.soft r0.out ((Soft.of B8.out).trans (S45.out)));exact bodyPost_ret (GB.ret1 rfl _ A0 rfl) rfl ⟨e1.out,_,rfl,(show LV _ _ _ (z / d) from HE.out▸g1.out)⟩
set_option maxRecDepth 100000 in
set_option maxHeartbeats 4000000 in
theorem RFloorQ_any (w:World) (va:Value) (n m:Bool) (a b:List Int) (ha:QR w w.heap.size va n a m b) :
  Calls Tryz.prog 53 #[va] w fun e w'=>Below w.heap.size w w'∧RetL w' (floorQ (qOf n a m b)) e:=by
 obtain⟨A,l,c,A',l',c',rfl,ha⟩:=RI.of ha;have HA:=zz ha;clear ha;obtain⟨w0,hw0⟩:∃ w0:World,w0=((w.alloc (.cells #[.bool n,.slice A l c,.bool m,.slice A' l' c'] 43)).alloc (.cells #[.bool false,.slice none 0 0] 41)):=⟨_,rfl⟩;have B0:=zz (n2_b hw0);have z0:=n2_z hw0;have La:=n2_0 hw0;have Lr2:=n2_1 hw0;replace HA:=zz (QR.step HA.out B0.out);rcases h1:qOf n a m b with _ | q
 ·have E1:=zz h1;clear h1;go_enter Tryz.func53,Tryz.ntmps53
  go_upto_region 1 with (fail)
  rw[← hw0];clear hw0;have W0:=La.cell 0 rfl;have X0:=La.cell 1 rfl;have Y0:=La.cell 2 rfl;have Z0:=La.cell 3 rfl;have v1:=La.lt;go_wp2_with fail
  refine(RRightQ_no HA.out E1.out).mono ?_;rintro e w1 ⟨U0,rfl⟩;have B3:=zz U0;have z3:=B3.out.size;have f1:=zz (B0.out.trans (B3.out.mono B0.out.size));clear U0;clear W0 X0 Y0 Z0 v1;have c0:=CB.step Lr2 B3.out;have a1:=c0.cell 0 rfl;have b1:=c0.cell 1 rfl;have x1:=c0.lt;have c1:=c0.frozen 0;have d1:=c0.frozen 1;have y1:=c0.lt;go_wp2;clear a1 b1 x1 c1 d1 y1;obtain⟨w8,i0⟩:∃ w8:World,w8=((w1.setCell ⟨w.heap.size+1,0,none⟩ (.bool false)).setCell ⟨w.heap.size+1,1,none⟩ (.slice none 0 0)):=⟨_,rfl⟩;rw[← i0];have S8:=zz (p2_s i0 c0 (by simp[noInt_b,noInt_s]));have r0:=p2_p i0 c0;have e1:=zz (p2_b i0 f1.out (by omega));have j1:=p2_z i0;clear i0;exact bodyPost_ret (GB.ret rfl _ r0 rfl) rfl ⟨e1.out,_,rfl,LV.zero _ _⟩
 ·have E1:=zz h1;clear h1;obtain⟨t,ht⟩:∃ t,t=floorQ (some q):=⟨_,rfl⟩;rw[← ht];have HT:=zz ht;clear ht;obtain⟨z,hz⟩:∃ z,z=q.num / (q.den:Int):=⟨_,rfl⟩;have HZ:=zz hz;have A1:=zz (show t=toldZ z by rw[HT.out,hz];rfl);clear hz;go_enter Tryz.func53,Tryz.ntmps53
  go_upto_region 1 with (fail)
  rw[← hw0];clear hw0;have s0:=La.cell 0 rfl;have t0:=La.cell 1 rfl;have u0:=La.cell 2 rfl;have v0:=La.cell 3 rfl;have l1:=La.lt;go_wp2_with fail
  refine(RRightQ_yes HA.out E1.out).mono ?_;rintro e w9 ⟨V0,rfl⟩;have B11:=zz V0;have z11:=B11.out.size;have k0:=zz (B0.out.trans (B11.out.mono B0.out.size));clear V0;clear s0 t0 u0 v0 l1;have x0:=zz (QR.step HA.out B11.out);have HV:=zz (QR.valid x0.out E1.out);have HN:=zz (QV.fst HV.out.1);have B1:=zz (QV.snd HV.out.1);have e0:=CB.step La B11.out;have y0:=e0.cell 0 rfl;have A0:=e0.cell 1 rfl;have C0:=e0.cell 2 rfl;have D0:=e0.cell 3 rfl;have m1:=e0.lt;go_wp2_with fail
  refine(RDownQ_any _ _ _ q.num (q.den:Int) HN.out B1.out (by have:=q.den_pos;omega) (by have:=HV.out.2.1;omega) (by rw[Int.natAbs_natCast];have:=HV.out.2.2;omega)).mono ?_;rintro e w14 ⟨l0,v,rfl,hv⟩;have B17:=zz l0;have z17:=B17.out.size;have m0:=zz (k0.out.trans (B17.out.mono k0.out.size));clear l0;clear y0 A0 C0 D0 m1;rw[← HZ.out] at hv;obtain⟨n19,n1,l19,c19,rfl,n0⟩:=hv.opened;have E0:=zz n0;clear hv n0;go_upto_region 4 with (fail)
  obtain⟨w20,h0⟩:∃ w20:World,w20=(w14.alloc (.cells #[.bool n19,.slice n1 l19 c19] 41)):=⟨_,rfl⟩;rw[← h0];have d0:=n1_0 h0;have za20:=n1_z h0;have B21:=zz (n1_b h0);have z21:=B21.out.size;have o0:=zz (m0.out.trans (B21.out.mono m0.out.size));clear h0;have j0:=zz (LV.step E0.out B21.out);have hll:=(LV.is j0.out).2.1;by_cases hf:(dig z.natAbs).length≤600
  ·have HF:=zz (show t=(z,0) by rw[A1.out];exact if_pos hf);have hl6:¬ 600<l19:=by omega
   have hl7:¬ (600:Int)<(l19:Int):=by omega
   clear hf hll;have F0:=d0.cell 0 rfl;have G0:=d0.cell 1 rfl;have p1:=d0.lt;have P1_3_26:=zz (B11.out.trans (B17.out.mono B11.out.size));have P1_4_27:=zz (P1_3_26.out.trans (B21.out.mono P1_3_26.out.size));have a0:=CB.step Lr2 P1_4_27.out;have H0:=a0.cell 0 rfl;have I0:=a0.cell 1 rfl;have q1:=a0.lt;have J0:=a0.frozen 0;have K0:=a0.frozen 1;have r1:=a0.lt;go_wp2;clear F0 G0 p1 H0 I0 q1 J0 K0 r1;obtain⟨w30,f0⟩:∃ w30:World,w30=((w20.setCell ⟨w.heap.size+1,0,none⟩ (.bool n19)).setCell ⟨w.heap.size+1,1,none⟩ (.slice n1 l19 c19)):=⟨_,rfl⟩;rw[← f0];have S30:=zz (p2_s f0 a0 (by simp[noInt_b,noInt_s]));have p0:=p2_p f0 a0;have L0:=zz (p2_b f0 o0.out (by omega));have g1:=p2_z f0;clear f0;have M0:=zz (LV.soft j0.out (S30.out));exact bodyPost_ret (GB.ret rfl _ p0 rfl) rfl ⟨L0.out,_,by rw[HF.out];rfl,by rw[HF.out];exact M0.out⟩
  ·have HF:=zz (show t=(0,6) by rw[A1.out];exact if_neg hf);have hl6:600<l19:=by omega
   have hl7:(600:Int)<(l19:Int):=by omega
   clear hf hll;have N0:=d0.cell 0 rfl;have O0:=d0.cell 1 rfl;have s1:=d0.lt;have P1_3_34:=zz (B11.out.trans (B17.out.mono B11.out.size));have P1_4_35:=zz (P1_3_34.out.trans (B21.out.mono P1_3_34.out.size));have b0:=CB.step Lr2 P1_4_35.out;have P0:=b0.cell 0 rfl;have Q0:=b0.cell 1 rfl;have t1:=b0.lt;have R0:=b0.frozen 0;have S0:=b0.frozen 1;have u1:=b0.lt;go_wp2;clear N0 O0 s1 P0 Q0 t1 R0 S0 u1;obtain⟨w38,g0⟩:∃ w38:World,w38=((w20.setCell ⟨w.heap.size+1,0,none⟩ (.bool false)).setCell ⟨w.heap.size+1,1,none⟩ (.slice none 0 0)):=⟨_,rfl⟩;rw[← g0];have S38:=zz (p2_s g0 b0 (by simp[noInt_b,noInt_s]));have q0:=p2_p g0 b0;have T0:=zz (p2_b g0 o0.out (by omega));have i1:=p2_z g0;clear g0;exact bodyPost_ret (GB.ret rfl _ q0 rfl) rfl ⟨T0.out,_,by rw[HF.out];rfl,by rw[HF.out];exact LV.zero _ _⟩
end Go.Proofs.YtkhljkiehohckaaGreatDoor
