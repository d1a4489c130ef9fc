/- Layer 04: Add, Sub, Mul, Div, Neg, Abs, Same, Sign (written by gen_qk.py). -/
import Derived.Test.YtkhljkiehohckaaGreatDoorQJ
namespace Go.Proofs.YtkhljkiehohckaaGreatDoor
open Go Go.RowKit Dig
noncomputable def divQ (q r:Rat):Option Rat × Int:=if r=0 then (none,7) else toldQ (q / r)
set_option maxRecDepth 100000 in
set_option maxHeartbeats 4000000 in
theorem QAdd_good (w:World) (va vb:Value) (q r:Rat) (ha:QV w w.heap.size va q) (hb:QV w w.heap.size vb r) (lq:QL 600 600 q) (lr:QL 600 600 r) :
  Calls Tryz.prog 114 #[va,vb] w fun e w'=>Below w.heap.size w w'∧RetQ w' (toldQ (q+r)) e:=by
 obtain⟨t,ht⟩:∃ t,t=toldQ (q+r):=⟨_,rfl⟩;rw[← ht];have HT:=zz ht;clear ht;obtain⟨n,A,l,c,m,A',l',c',rfl⟩:=QO.cells (show QO w w.heap.size va (some q) from ha);obtain⟨n2,B,k,d,m2,B',k',d',rfl⟩:=QO.cells (show QO w w.heap.size vb (some r) from hb);have HA:=zz ha;have HB:=zz hb;have E0:=zz lq;have F0:=zz lr;clear ha hb lq lr;obtain⟨w0,hw0⟩:∃ w0:World,w0=(((w.alloc (.cells #[.bool n,.slice A l c,.bool m,.slice A' l' c'] 43)).alloc (.cells #[.bool n2,.slice B k d,.bool m2,.slice B' k' d'] 43)).alloc (.cells #[.bool false,.slice none 0 0,.bool false,.slice none 0 0] 43)):=⟨_,rfl⟩;have B0:=zz (n3_b hw0);have z0:=n3_z hw0;have La:=n3_0 hw0;have Lb:=n3_1 hw0;have Lr4:=n3_2 hw0;replace HA:=zz (QV.step HA.out B0.out);replace HB:=zz (QV.step HB.out B0.out);go_enter Tryz.func114,Tryz.ntmps114
 go_upto_region 1 with (fail)
 rw[← hw0];clear hw0;have d0:=La.cell 0 rfl;have e0:=La.cell 1 rfl;have f0:=La.cell 2 rfl;have g0:=La.cell 3 rfl;have v0:=La.lt;have h0:=Lb.cell 0 rfl;have i0:=Lb.cell 1 rfl;have j0:=Lb.cell 2 rfl;have k0:=Lb.cell 3 rfl;have x0:=Lb.lt;go_wp2_with fail
 refine(both_Sum _ _ _ q r HA.out HB.out E0.out F0.out).mono ?_;rintro e w1 ⟨c0,v,rfl,hv⟩;have B4:=zz c0;have z4:=B4.out.size;have t0:=zz (B0.out.trans (B4.out.mono B0.out.size));clear c0;clear d0 e0 f0 g0 v0 h0 i0 j0 k0 x0;rw[← HT.out] at hv ⊢;have hg6:=hv;obtain⟨H0,I0,J0,K0,L0,M0,u0,N0,rfl⟩:=QO.cells hg6;have b0:=zz hg6;clear hg6;have a0:=CB.step Lr4 B4.out;have l0:=a0.cell 0 rfl;have m0:=a0.cell 1 rfl;have n0:=a0.cell 2 rfl;have o0:=a0.cell 3 rfl;have y0:=a0.lt;have p0:=a0.frozen 0;have q0:=a0.frozen 1;have r0:=a0.frozen 2;have s0:=a0.frozen 3;have A0:=a0.lt;go_wp2;clear l0 m0 n0 o0 y0 p0 q0 r0 s0 A0;exact QB.fin rfl a0 (by simp[noInt_b,noInt_s]) t0.out (by omega) b0.out rfl rfl
set_option maxRecDepth 100000 in
set_option maxHeartbeats 4000000 in
theorem QSub_good (w:World) (va vb:Value) (q r:Rat) (ha:QV w w.heap.size va q) (hb:QV w w.heap.size vb r) (lq:QL 600 600 q) (lr:QL 600 600 r) :
  Calls Tryz.prog 198 #[va,vb] w fun e w'=>Below w.heap.size w w'∧RetQ w' (toldQ (q-r)) e:=by
 obtain⟨t,ht⟩:∃ t,t=toldQ (q-r):=⟨_,rfl⟩;rw[← ht];have HT:=zz ht;clear ht;obtain⟨n,A,l,c,m,A',l',c',rfl⟩:=QO.cells (show QO w w.heap.size va (some q) from ha);obtain⟨n2,B,k,d,m2,B',k',d',rfl⟩:=QO.cells (show QO w w.heap.size vb (some r) from hb);have HA:=zz ha;have HB:=zz hb;have E0:=zz lq;have F0:=zz lr;clear ha hb lq lr;obtain⟨w0,hw0⟩:∃ w0:World,w0=(((w.alloc (.cells #[.bool n,.slice A l c,.bool m,.slice A' l' c'] 43)).alloc (.cells #[.bool n2,.slice B k d,.bool m2,.slice B' k' d'] 43)).alloc (.cells #[.bool false,.slice none 0 0,.bool false,.slice none 0 0] 43)):=⟨_,rfl⟩;have B0:=zz (n3_b hw0);have z0:=n3_z hw0;have La:=n3_0 hw0;have Lb:=n3_1 hw0;have Lr4:=n3_2 hw0;replace HA:=zz (QV.step HA.out B0.out);replace HB:=zz (QV.step HB.out B0.out);go_enter Tryz.func198,Tryz.ntmps198
 go_upto_region 1 with (fail)
 rw[← hw0];clear hw0;have d0:=La.cell 0 rfl;have e0:=La.cell 1 rfl;have f0:=La.cell 2 rfl;have g0:=La.cell 3 rfl;have v0:=La.lt;have h0:=Lb.cell 0 rfl;have i0:=Lb.cell 1 rfl;have j0:=Lb.cell 2 rfl;have k0:=Lb.cell 3 rfl;have x0:=Lb.lt;go_wp2_with fail
 refine(both_Diff _ _ _ q r HA.out HB.out E0.out F0.out).mono ?_;rintro e w1 ⟨c0,v,rfl,hv⟩;have B4:=zz c0;have z4:=B4.out.size;have t0:=zz (B0.out.trans (B4.out.mono B0.out.size));clear c0;clear d0 e0 f0 g0 v0 h0 i0 j0 k0 x0;rw[← HT.out] at hv ⊢;have hg6:=hv;obtain⟨H0,I0,J0,K0,L0,M0,u0,N0,rfl⟩:=QO.cells hg6;have b0:=zz hg6;clear hg6;have a0:=CB.step Lr4 B4.out;have l0:=a0.cell 0 rfl;have m0:=a0.cell 1 rfl;have n0:=a0.cell 2 rfl;have o0:=a0.cell 3 rfl;have y0:=a0.lt;have p0:=a0.frozen 0;have q0:=a0.frozen 1;have r0:=a0.frozen 2;have s0:=a0.frozen 3;have A0:=a0.lt;go_wp2;clear l0 m0 n0 o0 y0 p0 q0 r0 s0 A0;exact QB.fin rfl a0 (by simp[noInt_b,noInt_s]) t0.out (by omega) b0.out rfl rfl
set_option maxRecDepth 100000 in
set_option maxHeartbeats 4000000 in
theorem QMul_good (w:World) (va vb:Value) (q r:Rat) (ha:QV w w.heap.size va q) (hb:QV w w.heap.size vb r) (lq:QL 600 600 q) (lr:QL 600 600 r) :
  Calls Tryz.prog 47 #[va,vb] w fun e w'=>Below w.heap.size w w'∧RetQ w' (toldQ (q*r)) e:=by
 obtain⟨t,ht⟩:∃ t,t=toldQ (q*r):=⟨_,rfl⟩;rw[← ht];have HT:=zz ht;clear ht;obtain⟨n,A,l,c,m,A',l',c',rfl⟩:=QO.cells (show QO w w.heap.size va (some q) from ha);obtain⟨n2,B,k,d,m2,B',k',d',rfl⟩:=QO.cells (show QO w w.heap.size vb (some r) from hb);have HA:=zz ha;have HB:=zz hb;have E0:=zz lq;have F0:=zz lr;clear ha hb lq lr;obtain⟨w0,hw0⟩:∃ w0:World,w0=(((w.alloc (.cells #[.bool n,.slice A l c,.bool m,.slice A' l' c'] 43)).alloc (.cells #[.bool n2,.slice B k d,.bool m2,.slice B' k' d'] 43)).alloc (.cells #[.bool false,.slice none 0 0,.bool false,.slice none 0 0] 43)):=⟨_,rfl⟩;have B0:=zz (n3_b hw0);have z0:=n3_z hw0;have La:=n3_0 hw0;have Lb:=n3_1 hw0;have Lr4:=n3_2 hw0;replace HA:=zz (QV.step HA.out B0.out);replace HB:=zz (QV.step HB.out B0.out);go_enter Tryz.func47,Tryz.ntmps47
 go_upto_region 1 with (fail)
 rw[← hw0];clear hw0;have d0:=La.cell 0 rfl;have e0:=La.cell 1 rfl;have f0:=La.cell 2 rfl;have g0:=La.cell 3 rfl;have v0:=La.lt;have h0:=Lb.cell 0 rfl;have i0:=Lb.cell 1 rfl;have j0:=Lb.cell 2 rfl;have k0:=Lb.cell 3 rfl;have x0:=Lb.lt;go_wp2_with fail
 refine(both_Prod _ _ _ q r HA.out HB.out E0.out F0.out).mono ?_;rintro e w1 ⟨c0,v,rfl,hv⟩;have B4:=zz c0;have z4:=B4.out.size;have t0:=zz (B0.out.trans (B4.out.mono B0.out.size));clear c0;clear d0 e0 f0 g0 v0 h0 i0 j0 k0 x0;rw[← HT.out] at hv ⊢;have hg6:=hv;obtain⟨H0,I0,J0,K0,L0,M0,u0,N0,rfl⟩:=QO.cells hg6;have b0:=zz hg6;clear hg6;have a0:=CB.step Lr4 B4.out;have l0:=a0.cell 0 rfl;have m0:=a0.cell 1 rfl;have n0:=a0.cell 2 rfl;have o0:=a0.cell 3 rfl;have y0:=a0.lt;have p0:=a0.frozen 0;have q0:=a0.frozen 1;have r0:=a0.frozen 2;have s0:=a0.frozen 3;have A0:=a0.lt;go_wp2;clear l0 m0 n0 o0 y0 p0 q0 r0 s0 A0;exact QB.fin rfl a0 (by simp[noInt_b,noInt_s]) t0.out (by omega) b0.out rfl rfl
set_option maxRecDepth 100000 in
set_option maxHeartbeats 4000000 in
theorem QDiv_good (w:World) (va vb:Value) (q r:Rat) (ha:QV w w.heap.size va q) (hb:QV w w.heap.size vb r) (lq:QL 600 600 q) (lr:QL 600 600 r) :
  Calls Tryz.prog 116 #[va,vb] w fun e w'=>Below w.heap.size w w'∧RetQ w' (divQ q r) e:=by
 obtain⟨t,ht⟩:∃ t,t=divQ q r:=⟨_,rfl⟩;rw[← ht];have HT:=zz ht;clear ht;obtain⟨n,A,l,c,m,A',l',c',rfl⟩:=QO.cells (show QO w w.heap.size va (some q) from ha);obtain⟨n2,B,k,d,m2,B',k',d',rfl⟩:=QO.cells (show QO w w.heap.size vb (some r) from hb);have HA:=zz ha;have HB:=zz hb;have l1:=zz lq;have m1:=zz lr;clear ha hb lq lr;obtain⟨w0,hw0⟩:∃ w0:World,w0=(((w.alloc (.cells #[.bool n,.slice A l c,.bool m,.slice A' l' c'] 43)).alloc (.cells #[.bool n2,.slice B k d,.bool m2,.slice B' k' d'] 43)).alloc (.cells #[.bool false,.slice none 0 0,.bool false,.slice none 0 0] 43)):=⟨_,rfl⟩;have B0:=zz (n3_b hw0);have z0:=n3_z hw0;have La:=n3_0 hw0;have Lb:=n3_1 hw0;have Lr4:=n3_2 hw0;replace HA:=zz (QV.step HA.out B0.out);replace HB:=zz (QV.step HB.out B0.out);go_enter Tryz.func116,Tryz.ntmps116
 go_upto_region 1 with (fail)
 rw[← hw0];clear hw0;have hQ:=QV.is HA.out;have hR:=QV.is HB.out;obtain rfl:=hQ.2.2.2;obtain rfl:=hR.2.2.2;obtain rfl:=hQ.2.2.1;obtain rfl:=hR.2.2.1;clear hQ hR;generalize hnq:decide (q.num<0)=n at *;generalize hnr:decide (r.num<0)=n2 at *
 have u1:=zz hnq;have v1:=zz hnr;clear hnq hnr;have HC:=zz (show allQ (qOf n (ni (dig q.num.natAbs)) false (ni (dig q.den))) (qOf n2 (ni (dig r.num.natAbs)) false (ni (dig r.den)))=0 by rw[← u1.out,← v1.out];exact allQ_yes (qOf_rat q l1.out.1 l1.out.2) (qOf_rat r m1.out.1 m1.out.2));have G0:=La.cell 0 rfl;have H0:=La.cell 1 rfl;have I0:=La.cell 2 rfl;have J0:=La.cell 3 rfl;have s1:=La.lt;have K0:=Lb.cell 0 rfl;have L0:=Lb.cell 1 rfl;have M0:=Lb.cell 2 rfl;have N0:=Lb.cell 3 rfl;have t1:=Lb.lt;go_wp2_with fail
 refine(qall_new _ _ n false n2 false A A' B B' l l' k k' c c' d d' (ni (dig q.num.natAbs)) (ni (dig q.den)) (ni (dig r.num.natAbs)) (ni (dig r.den)) 2 rfl (by have h:=QV.qr HA.out;rw[u1.out] at h;exact h) (by have h:=QV.qr HB.out;rw[v1.out] at h;exact h)).mono ?_;rintro e w1 ⟨F0,rfl⟩;have B4:=zz F0;have z4:=B4.out.size;have j0:=zz (B0.out.trans (B4.out.mono B0.out.size));clear F0;clear G0 H0 I0 J0 s1 K0 L0 M0 N0 t1;rw[HC.out];clear HC;by_cases h0:r=0
 ·have x1:=zz (show t=(none,7) by rw[HT.out,divQ,if_pos h0]);have O0:=zz (QV.step HB.out B4.out);have Q0:((k:Int)==0)=true:=by rw[beq_iff_eq,RN.len (QV.is O0.out).1,h0,show(0:Rat).num.natAbs=0 from rfl,dig_zero];rfl
  clear h0;have e0:=CB.step La B4.out;have e1:=e0.cell 0 rfl;have f1:=e0.cell 1 rfl;have g1:=e0.cell 2 rfl;have i1:=e0.cell 3 rfl;have D1:=e0.lt;have f0:=CB.step Lb B4.out;have R0:=f0.cell 0 rfl;have S0:=f0.cell 1 rfl;have T0:=f0.cell 2 rfl;have U0:=f0.cell 3 rfl;have z1:=f0.lt;have a0:=CB.step Lr4 B4.out;have V0:=a0.cell 0 rfl;have W0:=a0.cell 1 rfl;have X0:=a0.cell 2 rfl;have Y0:=a0.cell 3 rfl;have A1:=a0.lt;have Z0:=a0.frozen 0;have a1:=a0.frozen 1;have b1:=a0.frozen 2;have c1:=a0.frozen 3;have B1:=a0.lt;go_wp2;exact QB.fin rfl a0 (by simp[noInt_b,noInt_s]) j0.out (by omega) (by rw[x1.out];exact zeroQ _ _) rfl (by rw[x1.out];rfl)
 ·have C1:=zz h0;replace HT:=zz (show t=toldQ (q / r) by rw[HT.out,divQ,if_neg h0]);have g0:=zz (QV.step HB.out B4.out);have Q0:((k:Int)==0)=false:=by
   rw[beq_eq_false_iff_ne,RN.len (QV.is g0.out).1];have h1:r.num≠0:=fun e=>h0 (Rat.num_eq_zero.1 e);have:=dig_len_pos (n:=r.num.natAbs) (by omega);omega
  clear h0;have c0:=CB.step La B4.out;have l0:=c0.cell 0 rfl;have m0:=c0.cell 1 rfl;have n0:=c0.cell 2 rfl;have o0:=c0.cell 3 rfl;have n1:=c0.lt;have d0:=CB.step Lb B4.out;have p0:=d0.cell 0 rfl;have q0:=d0.cell 1 rfl;have r0:=d0.cell 2 rfl;have s0:=d0.cell 3 rfl;have o1:=d0.lt;go_wp2_with fail
  have t0:=zz (QV.step HA.out B4.out);refine(both_Quo _ _ _ q r t0.out g0.out l1.out m1.out C1.out).mono ?_;rintro e w15 ⟨k0,v,rfl,hv⟩;have B21:=zz k0;have z21:=B21.out.size;have P0:=zz (j0.out.trans (B21.out.mono j0.out.size));clear k0;clear l0 m0 n0 o0 n1 p0 q0 r0 s0 o1;rw[← HT.out] at hv ⊢;have hg23:=hv;obtain⟨E1,F1,G1,H1,I1,J1,d1,K1,rfl⟩:=QO.cells hg23;have i0:=zz hg23;clear hg23;have P1_3_25:=zz (B4.out.trans (B21.out.mono B4.out.size));have b0:=CB.step Lr4 P1_3_25.out;have u0:=b0.cell 0 rfl;have v0:=b0.cell 1 rfl;have x0:=b0.cell 2 rfl;have y0:=b0.cell 3 rfl;have p1:=b0.lt;have A0:=b0.frozen 0;have C0:=b0.frozen 1;have D0:=b0.frozen 2;have E0:=b0.frozen 3;have q1:=b0.lt;go_wp2;clear u0 v0 x0 y0 p1 A0 C0 D0 E0 q1;exact QB.fin rfl b0 (by simp[noInt_b,noInt_s]) P0.out (by omega) i0.out rfl rfl
theorem wSignR_any (w:World) (n:Bool) (A:Option Addr) (l c:Nat) :
  Calls Tryz.prog 113 #[.agg #[.bool n,.slice A l c]] w fun e w'=>Below w.heap.size w w'∧∃ s:Int,e=.returned (.int .i64 s):=by
 have HB:=zz (below_alloc1 (Below.refl w.heap.size w) (.cells #[.bool n,.slice A l c] 118));by_cases hl:l=0
 ·subst hl;go_enter Tryz.func113,Tryz.ntmps113
  go_wp2;go_ret;exact⟨HB.out,_,rfl⟩
 ·have hl0:((l:Int)==0)=false:=by rw[beq_eq_false_iff_ne];omega
  clear hl;cases n with
  | false=>
   go_enter Tryz.func113,Tryz.ntmps113
   go_wp2;go_ret;exact⟨HB.out,_,rfl⟩
  | true=>
   go_enter Tryz.func113,Tryz.ntmps113
   go_wp2;go_ret;exact⟨HB.out,_,rfl⟩
noncomputable def sgnQ:Option Rat→Int × Int
 | some q=>(q.num.sign,0)
 | none=>(0,40)
set_option maxRecDepth 100000 in
set_option maxHeartbeats 4000000 in
theorem QSign_any (w:World) (va:Value) (n m:Bool) (a b:List Int) (ha:QR w w.heap.size va n a m b) :
  Calls Tryz.prog 76 #[va] w fun e w'=>Below w.heap.size w w'∧RetI (sgnQ (qOf n a m b)) e:=by
 obtain⟨A,l,c,A',l',c',rfl,ha⟩:=RI.of ha;rcases hq:qOf n a m b with _ | q
 ·skip
  have HA:=zz ha;have HQ:=zz hq;clear ha hq;obtain⟨w0,hw0⟩:∃ w0:World,w0=(w.alloc (.cells #[.bool n,.slice A l c,.bool m,.slice A' l' c'] 43)):=⟨_,rfl⟩;have B0:=zz (n1_b hw0);have z0:=n1_z hw0;have La:=n1_0 hw0;replace HA:=zz (QR.step HA.out B0.out);go_enter Tryz.func76,Tryz.ntmps76
  go_upto_region 1 with (fail)
  rw[← hw0];clear hw0;refine Flow.run [⟨0,4,fun fv fw=>fv=.agg #[.bool n,.slice A l c,.bool m,.slice A' l' c']⟩,⟨1,5,fun fv fw=>fv=.agg #[.bool n,.slice A l c,.slice A' l' c']⟩,⟨2,6,fun fv fw=>fv=.agg #[.bool n,.slice A l c]⟩,⟨3,7,fun fv fw=>∃ s:Int,fv=.int .i64 s⟩,⟨4,8,fun fv fw=>fv=.agg #[.bool n,.slice A l c,.bool m,.slice A' l' c']⟩,⟨5,9,fun fv fw=>fv=.int .i64 40⟩,⟨6,10,fun fv fw=>fv=.tuple #[.int .i64 0,.int .i64 40]⟩,⟨7,11,fun fv fw=>fv=.int .i64 0⟩,⟨8,12,fun fv fw=>fv=.int .i64 40⟩] [] [] 2 (by kernel_rfl) (by kernel_rfl) (by kernel_rfl) (fun _ _ _ _ _ h=>h) ?_ ?_ ?_ ?_
  ·refine(a0 (a0 (a0 (a0 (a0 (a0 (a0 (a0 (a0 all_nil)))))))))
  ·refine(all_cons ?_ (all_cons ?_ (all_cons ?_ (all_cons ?_ (all_cons ?_ (all_cons ?_ (all_cons ?_ (all_cons ?_ (all_cons ?_ all_nil)))))))))
   ·intro xs wk1 b0 c0;have q0:=zz b0;have J1:=b0.size;clear b0;clear c0;refine wpOp_step (o:=_) rfl (fun K hK=>?_);simp only[FL]
    have h0:=CB.step La q0.out;have a1:=h0.cell 0 rfl;have b1:=h0.cell 1 rfl;have c1:=h0.cell 2 rfl;have d1:=h0.cell 3 rfl;go_simp;refine hK _ _ ⟨.agg #[.bool n,.slice A l c,.bool m,.slice A' l' c'],by kernel_rfl,Below.refl _ _,rfl,nF⟩
   ·intro xs wk4 b0 c0;clear b0;have f0:(xs 0)=.agg #[.bool n,.slice A l c,.bool m,.slice A' l' c']:=c0 _ (m_ 0 rfl) (by kernel_rfl);clear c0;refine wpOp_step (o:=_) rfl (fun K hK=>?_);simp only[FL]
    go_simp;(with_reducible refine(Read_any _ n m A A' l c l' c').mono ?_)
    rintro e wc5 ⟨E0,rfl⟩;refine hK _ _ ⟨.agg #[.bool n,.slice A l c,.slice A' l' c'],by simp only[FL,f0] <;> kernel_rfl,E0,rfl,nF⟩
   ·intro xs wk6 b0 c0;clear b0;have f1:(xs 1)=.agg #[.bool n,.slice A l c,.slice A' l' c']:=c0 _ (m_ 1 rfl) (by kernel_rfl);clear c0;refine wpOp_step (o:=_) rfl (fun K hK=>?_);simp only[FL]
    go_simp;refine hK _ _ ⟨.agg #[.bool n,.slice A l c],by simp only[FL,f1] <;> kernel_rfl,Below.refl _ _,rfl,nF⟩
   ·intro xs M1 b0 c0;clear b0;have f2:(xs 2)=.agg #[.bool n,.slice A l c]:=c0 _ (m_ 2 rfl) (by kernel_rfl);clear c0;refine wpOp_step (o:=_) rfl (fun K hK=>?_);simp only[FL]
    go_simp;(with_reducible refine(wSignR_any _ n A l c).mono ?_)
    rintro e wc8 ⟨F0,s8,rfl⟩;refine hK _ _ ⟨.int .i64 s8,by simp only[FL,f2] <;> kernel_rfl,F0,⟨s8,rfl⟩,nF⟩
   ·intro xs O1 b0 c0;have r0:=zz b0;have P1:=b0.size;clear b0;clear c0;refine wpOp_step (o:=_) rfl (fun K hK=>?_);simp only[FL]
    have d0:=CB.step La r0.out;have G0:=d0.cell 0 rfl;have H0:=d0.cell 1 rfl;have I0:=d0.cell 2 rfl;have J0:=d0.cell 3 rfl;go_simp;refine hK _ _ ⟨.agg #[.bool n,.slice A l c,.bool m,.slice A' l' c'],by kernel_rfl,Below.refl _ _,rfl,nF⟩
   ·intro xs i1 b0 c0;have i0:=zz b0;have j1:=b0.size;clear b0;have f4:(xs 4)=.agg #[.bool n,.slice A l c,.bool m,.slice A' l' c']:=c0 _ (m_ 4 rfl) (by kernel_rfl);clear c0;refine wpOp_step (o:=_) rfl (fun K hK=>?_);simp only[FL]
    go_simp;have j0:=zz (QR.step HA.out i0.out);(with_reducible refine((show Calls Tryz.prog _ _ _ _ from(show chkQ n a m b=40 from chkQ_none HQ.out)▸QCheck_any _ _ n a m b j0.out)).mono ?_)
    rintro e wc14 ⟨s0,rfl⟩;refine hK _ _ ⟨.int .i64 40,by simp only[FL,f4] <;> kernel_rfl,s0,rfl,nF⟩
   ·intro xs k1 b0 c0;clear b0;have f3:∃ s:Int,(xs 3)=.int .i64 s:=c0 _ (m_ 3 rfl) (by kernel_rfl);have f5:(xs 5)=.int .i64 40:=c0 _ (m_ 5 rfl) (by kernel_rfl);clear c0;refine wpOp_step (o:=_) rfl (fun K hK=>?_);simp only[FL]
    obtain⟨s,hs⟩:=f3;rw[hs];go_simp;(with_reducible refine(madeI_any _ s 40).mono ?_)
    rintro e wc16 ⟨t0,rfl⟩;rw[if_neg (show ¬ (40:Int)=0 by decide)];refine hK _ _ ⟨.tuple #[.int .i64 0,.int .i64 40],by simp only[FL,f5,hs] <;> kernel_rfl,t0,rfl,nF⟩
   ·intro xs m1 b0 c0;clear b0;have f6:(xs 6)=.tuple #[.int .i64 0,.int .i64 40]:=c0 _ (m_ 6 rfl) (by kernel_rfl);clear c0;refine wpOp_step (o:=_) rfl (fun K hK=>?_);simp only[FL]
    go_simp;refine hK _ _ ⟨.int .i64 0,by simp only[FL,f6] <;> kernel_rfl,Below.refl _ _,rfl,nF⟩
   ·intro xs o1 b0 c0;clear b0;have f6:(xs 6)=.tuple #[.int .i64 0,.int .i64 40]:=c0 _ (m_ 6 rfl) (by kernel_rfl);clear c0;refine wpOp_step (o:=_) rfl (fun K hK=>?_);simp only[FL]
    go_simp;refine hK _ _ ⟨.int .i64 40,by simp only[FL,f6] <;> kernel_rfl,Below.refl _ _,rfl,nF⟩
  ·exact all_nil
  ·intro xs T1 hbf hf hn hd;have f0:(xs 0)=.agg #[.bool n,.slice A l c,.bool m,.slice A' l' c']:=hf _ (m_ 0 rfl);have f1:(xs 1)=.agg #[.bool n,.slice A l c,.slice A' l' c']:=hf _ (m_ 1 rfl);have f2:(xs 2)=.agg #[.bool n,.slice A l c]:=hf _ (m_ 2 rfl);have f3:∃ s:Int,(xs 3)=.int .i64 s:=hf _ (m_ 3 rfl);have f4:(xs 4)=.agg #[.bool n,.slice A l c,.bool m,.slice A' l' c']:=hf _ (m_ 4 rfl);have f5:(xs 5)=.int .i64 40:=hf _ (m_ 5 rfl);have f6:(xs 6)=.tuple #[.int .i64 0,.int .i64 40]:=hf _ (m_ 6 rfl);have f7:(xs 7)=.int .i64 0:=hf _ (m_ 7 rfl);have f8:(xs 8)=.int .i64 40:=hf _ (m_ 8 rfl);clear hf hn hd;simp only[FL]
   have B20:=zz hbf;have z20:=B20.out.size;have u0:=zz (B0.out.trans (B20.out.mono B0.out.size));clear hbf;generalize xs 0=x0,xs 1=x1,xs 2=x2,xs 3=x3,xs 4=x4,xs 5=x5,xs 6=x6,xs 7=x7,xs 8=x8 at *
   obtain rfl:=f0;obtain rfl:=f1;obtain rfl:=f2;clear f3;obtain rfl:=f4;obtain rfl:=f5;obtain rfl:=f6;obtain rfl:=f7;obtain rfl:=f8;refine Early.next (i:=9) (by kernel_rfl) rfl (fun K hK=>?_);go_simp;refine hK _ _ (fun _=>trivial) ?_;clear hK K;(try simp only[Act.put,List.setIfInBounds_toArray,List.set_cons_zero,List.set_cons_succ])
   refine Early.next (i:=10) (by kernel_rfl) rfl (fun K hK=>?_);go_simp;refine hK _ _ (fun _=>trivial) ?_;clear hK K;(try simp only[Act.put,List.setIfInBounds_toArray,List.set_cons_zero,List.set_cons_succ])
   refine Early.done (by kernel_rfl) ?_ _;(try simp only[Exit.then])
   go_wp2;go_ret2;exact⟨u0.out,rfl⟩
 ·obtain⟨hv,-⟩:=QR.valid ha hq;have HW:=zz (TV.fst (QV.read hv));clear hv;have HA:=zz ha;have HQ:=zz hq;clear ha hq;obtain⟨w0,hw0⟩:∃ w0:World,w0=(w.alloc (.cells #[.bool n,.slice A l c,.bool m,.slice A' l' c'] 43)):=⟨_,rfl⟩;have B0:=zz (n1_b hw0);have z0:=n1_z hw0;have La:=n1_0 hw0;replace HA:=zz (QR.step HA.out B0.out);replace HW:=zz (WV.step HW.out B0.out);go_enter Tryz.func76,Tryz.ntmps76
  go_upto_region 1 with (fail)
  rw[← hw0];clear hw0;refine Flow.run [⟨0,4,fun fv fw=>fv=.agg #[.bool n,.slice A l c,.bool m,.slice A' l' c']⟩,⟨1,5,fun fv fw=>fv=.agg #[.bool n,.slice A l c,.slice A' l' c']⟩,⟨2,6,fun fv fw=>fv=.agg #[.bool n,.slice A l c]⟩,⟨3,7,fun fv fw=>fv=.int .i64 q.num.sign⟩,⟨4,8,fun fv fw=>fv=.agg #[.bool n,.slice A l c,.bool m,.slice A' l' c']⟩,⟨5,9,fun fv fw=>fv=.int .i64 0⟩,⟨6,10,fun fv fw=>fv=.tuple #[.int .i64 q.num.sign,.int .i64 0]⟩,⟨7,11,fun fv fw=>fv=.int .i64 q.num.sign⟩,⟨8,12,fun fv fw=>fv=.int .i64 0⟩] [] [] 2 (by kernel_rfl) (by kernel_rfl) (by kernel_rfl) (fun _ _ _ _ _ h=>h) ?_ ?_ ?_ ?_
  ·refine(a0 (a0 (a0 (a0 (a0 (a0 (a0 (a0 (a0 all_nil)))))))))
  ·refine(all_cons ?_ (all_cons ?_ (all_cons ?_ (all_cons ?_ (all_cons ?_ (all_cons ?_ (all_cons ?_ (all_cons ?_ (all_cons ?_ all_nil)))))))))
   ·intro xs q1 b0 c0;have k0:=zz b0;have r1:=b0.size;clear b0;clear c0;refine wpOp_step (o:=_) rfl (fun K hK=>?_);simp only[FL]
    have e0:=CB.step La k0.out;have N0:=e0.cell 0 rfl;have O0:=e0.cell 1 rfl;have P0:=e0.cell 2 rfl;have Q0:=e0.cell 3 rfl;go_simp;refine hK _ _ ⟨.agg #[.bool n,.slice A l c,.bool m,.slice A' l' c'],by kernel_rfl,Below.refl _ _,rfl,nF⟩
   ·intro xs s1 b0 c0;clear b0;have f0:(xs 0)=.agg #[.bool n,.slice A l c,.bool m,.slice A' l' c']:=c0 _ (m_ 0 rfl) (by kernel_rfl);clear c0;refine wpOp_step (o:=_) rfl (fun K hK=>?_);simp only[FL]
    go_simp;(with_reducible refine(Read_any _ n m A A' l c l' c').mono ?_)
    rintro e wc26 ⟨v0,rfl⟩;refine hK _ _ ⟨.agg #[.bool n,.slice A l c,.slice A' l' c'],by simp only[FL,f0] <;> kernel_rfl,v0,rfl,nF⟩
   ·intro xs u1 b0 c0;clear b0;have f1:(xs 1)=.agg #[.bool n,.slice A l c,.slice A' l' c']:=c0 _ (m_ 1 rfl) (by kernel_rfl);clear c0;refine wpOp_step (o:=_) rfl (fun K hK=>?_);simp only[FL]
    go_simp;refine hK _ _ ⟨.agg #[.bool n,.slice A l c],by simp only[FL,f1] <;> kernel_rfl,Below.refl _ _,rfl,nF⟩
   ·intro xs w1 b0 c0;have l0:=zz b0;have y1:=b0.size;clear b0;have f2:(xs 2)=.agg #[.bool n,.slice A l c]:=c0 _ (m_ 2 rfl) (by kernel_rfl);clear c0;refine wpOp_step (o:=_) rfl (fun K hK=>?_);simp only[FL]
    go_simp;have m0:=zz (WV.step HW.out l0.out);(with_reducible refine(wSign_any _ _ q.num m0.out).mono ?_)
    rintro e wc30 ⟨y0,rfl⟩;refine hK _ _ ⟨.int .i64 q.num.sign,by simp only[FL,f2] <;> kernel_rfl,y0,rfl,nF⟩
   ·intro xs z1 b0 c0;have n0:=zz b0;have A1:=b0.size;clear b0;clear c0;refine wpOp_step (o:=_) rfl (fun K hK=>?_);simp only[FL]
    have g0:=CB.step La n0.out;have T0:=g0.cell 0 rfl;have U0:=g0.cell 1 rfl;have V0:=g0.cell 2 rfl;have W0:=g0.cell 3 rfl;go_simp;refine hK _ _ ⟨.agg #[.bool n,.slice A l c,.bool m,.slice A' l' c'],by kernel_rfl,Below.refl _ _,rfl,nF⟩
   ·intro xs B1 b0 c0;have o0:=zz b0;have C1:=b0.size;clear b0;have f4:(xs 4)=.agg #[.bool n,.slice A l c,.bool m,.slice A' l' c']:=c0 _ (m_ 4 rfl) (by kernel_rfl);clear c0;refine wpOp_step (o:=_) rfl (fun K hK=>?_);simp only[FL]
    go_simp;have p0:=zz (QR.step HA.out o0.out);(with_reducible refine((show Calls Tryz.prog _ _ _ _ from(show chkQ n a m b=0 from chkQ_some HQ.out)▸QCheck_any _ _ n a m b p0.out)).mono ?_)
    rintro e wc36 ⟨A0,rfl⟩;refine hK _ _ ⟨.int .i64 0,by simp only[FL,f4] <;> kernel_rfl,A0,rfl,nF⟩
   ·intro xs D1 b0 c0;clear b0;have f3:(xs 3)=.int .i64 q.num.sign:=c0 _ (m_ 3 rfl) (by kernel_rfl);have f5:(xs 5)=.int .i64 0:=c0 _ (m_ 5 rfl) (by kernel_rfl);clear c0;refine wpOp_step (o:=_) rfl (fun K hK=>?_);simp only[FL]
    go_simp;(with_reducible refine(madeI_any _ q.num.sign 0).mono ?_)
    rintro e wc38 ⟨C0,rfl⟩;rw[if_pos rfl];refine hK _ _ ⟨.tuple #[.int .i64 q.num.sign,.int .i64 0],by simp only[FL,f3,f5] <;> kernel_rfl,C0,rfl,nF⟩
   ·intro xs F1 b0 c0;clear b0;have f6:(xs 6)=.tuple #[.int .i64 q.num.sign,.int .i64 0]:=c0 _ (m_ 6 rfl) (by kernel_rfl);clear c0;refine wpOp_step (o:=_) rfl (fun K hK=>?_);simp only[FL]
    go_simp;refine hK _ _ ⟨.int .i64 q.num.sign,by simp only[FL,f6] <;> kernel_rfl,Below.refl _ _,rfl,nF⟩
   ·intro xs H1 b0 c0;clear b0;have f6:(xs 6)=.tuple #[.int .i64 q.num.sign,.int .i64 0]:=c0 _ (m_ 6 rfl) (by kernel_rfl);clear c0;refine wpOp_step (o:=_) rfl (fun K hK=>?_);simp only[FL]
    go_simp;refine hK _ _ ⟨.int .i64 0,by simp only[FL,f6] <;> kernel_rfl,Below.refl _ _,rfl,nF⟩
  ·exact all_nil
  ·intro xs U1 hbf hf hn hd;have f0:(xs 0)=.agg #[.bool n,.slice A l c,.bool m,.slice A' l' c']:=hf _ (m_ 0 rfl);have f1:(xs 1)=.agg #[.bool n,.slice A l c,.slice A' l' c']:=hf _ (m_ 1 rfl);have f2:(xs 2)=.agg #[.bool n,.slice A l c]:=hf _ (m_ 2 rfl);have f3:(xs 3)=.int .i64 q.num.sign:=hf _ (m_ 3 rfl);have f4:(xs 4)=.agg #[.bool n,.slice A l c,.bool m,.slice A' l' c']:=hf _ (m_ 4 rfl);have f5:(xs 5)=.int .i64 0:=hf _ (m_ 5 rfl);have f6:(xs 6)=.tuple #[.int .i64 q.num.sign,.int .i64 0]:=hf _ (m_ 6 rfl);have f7:(xs 7)=.int .i64 q.num.sign:=hf _ (m_ 7 rfl);have f8:(xs 8)=.int .i64 0:=hf _ (m_ 8 rfl);clear hf hn hd;simp only[FL]
   have B42:=zz hbf;have z42:=B42.out.size;have D0:=zz (B0.out.trans (B42.out.mono B0.out.size));clear hbf;generalize xs 0=x0,xs 1=x1,xs 2=x2,xs 3=x3,xs 4=x4,xs 5=x5,xs 6=x6,xs 7=x7,xs 8=x8 at *
   obtain rfl:=f0;obtain rfl:=f1;obtain rfl:=f2;obtain rfl:=f3;obtain rfl:=f4;obtain rfl:=f5;obtain rfl:=f6;obtain rfl:=f7;obtain rfl:=f8;refine Early.next (i:=9) (by kernel_rfl) rfl (fun K hK=>?_);go_simp;refine hK _ _ (fun _=>trivial) ?_;clear hK K;(try simp only[Act.put,List.setIfInBounds_toArray,List.set_cons_zero,List.set_cons_succ])
   refine Early.next (i:=10) (by kernel_rfl) rfl (fun K hK=>?_);go_simp;refine hK _ _ (fun _=>trivial) ?_;clear hK K;(try simp only[Act.put,List.setIfInBounds_toArray,List.set_cons_zero,List.set_cons_succ])
   refine Early.done (by kernel_rfl) ?_ _;(try simp only[Exit.then])
   go_wp2;go_ret2;exact⟨D0.out,rfl⟩
end Go.Proofs.YtkhljkiehohckaaGreatDoor
