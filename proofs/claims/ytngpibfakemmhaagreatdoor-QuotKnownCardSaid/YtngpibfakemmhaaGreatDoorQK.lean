/- Layer 04: Add, Sub, Mul, Div, Neg, Abs, Same, Sign (written by gen_qk.py). -/
import Derived.Test.YtngpibfakemmhaaGreatDoorQJ
namespace Go.Proofs.YtngpibfakemmhaaGreatDoor
open Go Go.RowKit Dig
noncomputable def divQ (q r:Rat):Option Rat × Int:=if r=0 then (none,7) else toldQ (q / r)
set_option maxRecDepth 100000 in
set_option maxHeartbeats 4000000 in
theorem QAdd_good (w:World) (va vb:Value) (q r:Rat) (ha:QV w w.heap.size va q) (hb:QV w w.heap.size vb r) (lq:QL 600 600 q) (lr:QL 600 600 r) :
  Calls Tryz.prog 10 #[va,vb] w fun e w'=>Below w.heap.size w w'∧RetQ w' (toldQ (q+r)) e:=by
 obtain⟨t,ht⟩:∃ t,t=toldQ (q+r):=⟨_,rfl⟩;rw[← ht];have HT:=zz ht;clear ht;obtain⟨n,A,l,c,m,A',l',c',rfl⟩:=QO.cells (show QO w w.heap.size va (some q) from ha);obtain⟨n2,B,k,d,m2,B',k',d',rfl⟩:=QO.cells (show QO w w.heap.size vb (some r) from hb);have HA:=zz ha;have HB:=zz hb;have E0:=zz lq;have F0:=zz lr;clear ha hb lq lr;obtain⟨w0,hw0⟩:∃ w0:World,w0=(((w.alloc (.cells #[.bool n,.slice A l c,.bool m,.slice A' l' c'] 28)).alloc (.cells #[.bool n2,.slice B k d,.bool m2,.slice B' k' d'] 28)).alloc (.cells #[.bool false,.slice none 0 0,.bool false,.slice none 0 0] 28)):=⟨_,rfl⟩;have B0:=zz (n3_b hw0);have z0:=n3_z hw0;have La:=n3_0 hw0;have Lb:=n3_1 hw0;have Lr4:=n3_2 hw0;replace HA:=zz (QV.step HA.out B0.out);replace HB:=zz (QV.step HB.out B0.out);go_enter Tryz.func10,Tryz.ntmps10
 go_upto_region 1 with (fail)
 rw[← hw0];clear hw0;have d0:=La.cell 0 rfl;have e0:=La.cell 1 rfl;have f0:=La.cell 2 rfl;have g0:=La.cell 3 rfl;have v0:=La.lt;have h0:=Lb.cell 0 rfl;have i0:=Lb.cell 1 rfl;have j0:=Lb.cell 2 rfl;have k0:=Lb.cell 3 rfl;have x0:=Lb.lt;go_wp2_with fail
 refine(both_Sum _ _ _ q r HA.out HB.out E0.out F0.out).mono ?_;rintro e w1 ⟨c0,v,rfl,hv⟩;have B4:=zz c0;have z4:=B4.out.size;have t0:=zz (B0.out.trans (B4.out.mono B0.out.size));clear c0;clear d0 e0 f0 g0 v0 h0 i0 j0 k0 x0;rw[← HT.out] at hv ⊢;have hg6:=hv;obtain⟨H0,I0,J0,K0,L0,M0,u0,N0,rfl⟩:=QO.cells hg6;have b0:=zz hg6;clear hg6;have a0:=CB.step Lr4 B4.out;have l0:=a0.cell 0 rfl;have m0:=a0.cell 1 rfl;have n0:=a0.cell 2 rfl;have o0:=a0.cell 3 rfl;have y0:=a0.lt;have p0:=a0.frozen 0;have q0:=a0.frozen 1;have r0:=a0.frozen 2;have s0:=a0.frozen 3;have A0:=a0.lt;go_wp2;clear l0 m0 n0 o0 y0 p0 q0 r0 s0 A0;exact QB.fin rfl a0 (by simp[noInt_b,noInt_s]) t0.out (by omega) b0.out rfl rfl
set_option maxRecDepth 100000 in
set_option maxHeartbeats 4000000 in
theorem QSub_good (w:World) (va vb:Value) (q r:Rat) (ha:QV w w.heap.size va q) (hb:QV w w.heap.size vb r) (lq:QL 600 600 q) (lr:QL 600 600 r) :
  Calls Tryz.prog 14 #[va,vb] w fun e w'=>Below w.heap.size w w'∧RetQ w' (toldQ (q-r)) e:=by
 obtain⟨t,ht⟩:∃ t,t=toldQ (q-r):=⟨_,rfl⟩;rw[← ht];have HT:=zz ht;clear ht;obtain⟨n,A,l,c,m,A',l',c',rfl⟩:=QO.cells (show QO w w.heap.size va (some q) from ha);obtain⟨n2,B,k,d,m2,B',k',d',rfl⟩:=QO.cells (show QO w w.heap.size vb (some r) from hb);have HA:=zz ha;have HB:=zz hb;have E0:=zz lq;have F0:=zz lr;clear ha hb lq lr;obtain⟨w0,hw0⟩:∃ w0:World,w0=(((w.alloc (.cells #[.bool n,.slice A l c,.bool m,.slice A' l' c'] 28)).alloc (.cells #[.bool n2,.slice B k d,.bool m2,.slice B' k' d'] 28)).alloc (.cells #[.bool false,.slice none 0 0,.bool false,.slice none 0 0] 28)):=⟨_,rfl⟩;have B0:=zz (n3_b hw0);have z0:=n3_z hw0;have La:=n3_0 hw0;have Lb:=n3_1 hw0;have Lr4:=n3_2 hw0;replace HA:=zz (QV.step HA.out B0.out);replace HB:=zz (QV.step HB.out B0.out);go_enter Tryz.func14,Tryz.ntmps14
 go_upto_region 1 with (fail)
 rw[← hw0];clear hw0;have d0:=La.cell 0 rfl;have e0:=La.cell 1 rfl;have f0:=La.cell 2 rfl;have g0:=La.cell 3 rfl;have v0:=La.lt;have h0:=Lb.cell 0 rfl;have i0:=Lb.cell 1 rfl;have j0:=Lb.cell 2 rfl;have k0:=Lb.cell 3 rfl;have x0:=Lb.lt;go_wp2_with fail
 refine(both_Diff _ _ _ q r HA.out HB.out E0.out F0.out).mono ?_;rintro e w1 ⟨c0,v,rfl,hv⟩;have B4:=zz c0;have z4:=B4.out.size;have t0:=zz (B0.out.trans (B4.out.mono B0.out.size));clear c0;clear d0 e0 f0 g0 v0 h0 i0 j0 k0 x0;rw[← HT.out] at hv ⊢;have hg6:=hv;obtain⟨H0,I0,J0,K0,L0,M0,u0,N0,rfl⟩:=QO.cells hg6;have b0:=zz hg6;clear hg6;have a0:=CB.step Lr4 B4.out;have l0:=a0.cell 0 rfl;have m0:=a0.cell 1 rfl;have n0:=a0.cell 2 rfl;have o0:=a0.cell 3 rfl;have y0:=a0.lt;have p0:=a0.frozen 0;have q0:=a0.frozen 1;have r0:=a0.frozen 2;have s0:=a0.frozen 3;have A0:=a0.lt;go_wp2;clear l0 m0 n0 o0 y0 p0 q0 r0 s0 A0;exact QB.fin rfl a0 (by simp[noInt_b,noInt_s]) t0.out (by omega) b0.out rfl rfl
set_option maxRecDepth 100000 in
set_option maxHeartbeats 4000000 in
theorem QMul_good (w:World) (va vb:Value) (q r:Rat) (ha:QV w w.heap.size va q) (hb:QV w w.heap.size vb r) (lq:QL 600 600 q) (lr:QL 600 600 r) :
  Calls Tryz.prog 12 #[va,vb] w fun e w'=>Below w.heap.size w w'∧RetQ w' (toldQ (q*r)) e:=by
 obtain⟨t,ht⟩:∃ t,t=toldQ (q*r):=⟨_,rfl⟩;rw[← ht];have HT:=zz ht;clear ht;obtain⟨n,A,l,c,m,A',l',c',rfl⟩:=QO.cells (show QO w w.heap.size va (some q) from ha);obtain⟨n2,B,k,d,m2,B',k',d',rfl⟩:=QO.cells (show QO w w.heap.size vb (some r) from hb);have HA:=zz ha;have HB:=zz hb;have E0:=zz lq;have F0:=zz lr;clear ha hb lq lr;obtain⟨w0,hw0⟩:∃ w0:World,w0=(((w.alloc (.cells #[.bool n,.slice A l c,.bool m,.slice A' l' c'] 28)).alloc (.cells #[.bool n2,.slice B k d,.bool m2,.slice B' k' d'] 28)).alloc (.cells #[.bool false,.slice none 0 0,.bool false,.slice none 0 0] 28)):=⟨_,rfl⟩;have B0:=zz (n3_b hw0);have z0:=n3_z hw0;have La:=n3_0 hw0;have Lb:=n3_1 hw0;have Lr4:=n3_2 hw0;replace HA:=zz (QV.step HA.out B0.out);replace HB:=zz (QV.step HB.out B0.out);go_enter Tryz.func12,Tryz.ntmps12
 go_upto_region 1 with (fail)
 rw[← hw0];clear hw0;have d0:=La.cell 0 rfl;have e0:=La.cell 1 rfl;have f0:=La.cell 2 rfl;have g0:=La.cell 3 rfl;have v0:=La.lt;have h0:=Lb.cell 0 rfl;have i0:=Lb.cell 1 rfl;have j0:=Lb.cell 2 rfl;have k0:=Lb.cell 3 rfl;have x0:=Lb.lt;go_wp2_with fail
 refine(both_Prod _ _ _ q r HA.out HB.out E0.out F0.out).mono ?_;rintro e w1 ⟨c0,v,rfl,hv⟩;have B4:=zz c0;have z4:=B4.out.size;have t0:=zz (B0.out.trans (B4.out.mono B0.out.size));clear c0;clear d0 e0 f0 g0 v0 h0 i0 j0 k0 x0;rw[← HT.out] at hv ⊢;have hg6:=hv;obtain⟨H0,I0,J0,K0,L0,M0,u0,N0,rfl⟩:=QO.cells hg6;have b0:=zz hg6;clear hg6;have a0:=CB.step Lr4 B4.out;have l0:=a0.cell 0 rfl;have m0:=a0.cell 1 rfl;have n0:=a0.cell 2 rfl;have o0:=a0.cell 3 rfl;have y0:=a0.lt;have p0:=a0.frozen 0;have q0:=a0.frozen 1;have r0:=a0.frozen 2;have s0:=a0.frozen 3;have A0:=a0.lt;go_wp2;clear l0 m0 n0 o0 y0 p0 q0 r0 s0 A0;exact QB.fin rfl a0 (by simp[noInt_b,noInt_s]) t0.out (by omega) b0.out rfl rfl
set_option maxRecDepth 100000 in
set_option maxHeartbeats 4000000 in
theorem QDiv_good (w:World) (va vb:Value) (q r:Rat) (ha:QV w w.heap.size va q) (hb:QV w w.heap.size vb r) (lq:QL 600 600 q) (lr:QL 600 600 r) :
  Calls Tryz.prog 13 #[va,vb] w fun e w'=>Below w.heap.size w w'∧RetQ w' (divQ q r) e:=by
 obtain⟨t,ht⟩:∃ t,t=divQ q r:=⟨_,rfl⟩;rw[← ht];have HT:=zz ht;clear ht;obtain⟨n,A,l,c,m,A',l',c',rfl⟩:=QO.cells (show QO w w.heap.size va (some q) from ha);obtain⟨n2,B,k,d,m2,B',k',d',rfl⟩:=QO.cells (show QO w w.heap.size vb (some r) from hb);have HA:=zz ha;have HB:=zz hb;have l1:=zz lq;have m1:=zz lr;clear ha hb lq lr;obtain⟨w0,hw0⟩:∃ w0:World,w0=(((w.alloc (.cells #[.bool n,.slice A l c,.bool m,.slice A' l' c'] 28)).alloc (.cells #[.bool n2,.slice B k d,.bool m2,.slice B' k' d'] 28)).alloc (.cells #[.bool false,.slice none 0 0,.bool false,.slice none 0 0] 28)):=⟨_,rfl⟩;have B0:=zz (n3_b hw0);have z0:=n3_z hw0;have La:=n3_0 hw0;have Lb:=n3_1 hw0;have Lr4:=n3_2 hw0;replace HA:=zz (QV.step HA.out B0.out);replace HB:=zz (QV.step HB.out B0.out);go_enter Tryz.func13,Tryz.ntmps13
 go_upto_region 1 with (fail)
 rw[← hw0];clear hw0;have hQ:=QV.is HA.out;have hR:=QV.is HB.out;obtain rfl:=hQ.2.2.2;obtain rfl:=hR.2.2.2;obtain rfl:=hQ.2.2.1;obtain rfl:=hR.2.2.1;clear hQ hR;generalize hnq:decide (q.num<0)=n at *;generalize hnr:decide (r.num<0)=n2 at *
 have u1:=zz hnq;have v1:=zz hnr;clear hnq hnr;have HC:=zz (show allQ (qOf n (ni (dig q.num.natAbs)) false (ni (dig q.den))) (qOf n2 (ni (dig r.num.natAbs)) false (ni (dig r.den)))=0 by rw[← u1.out,← v1.out];exact allQ_yes (qOf_rat q l1.out.1 l1.out.2) (qOf_rat r m1.out.1 m1.out.2));have G0:=La.cell 0 rfl;have H0:=La.cell 1 rfl;have I0:=La.cell 2 rfl;have J0:=La.cell 3 rfl;have s1:=La.lt;have K0:=Lb.cell 0 rfl;have L0:=Lb.cell 1 rfl;have M0:=Lb.cell 2 rfl;have N0:=Lb.cell 3 rfl;have t1:=Lb.lt;go_wp2_with fail
 refine(qall_new _ _ n false n2 false A A' B B' l l' k k' c c' d d' (ni (dig q.num.natAbs)) (ni (dig q.den)) (ni (dig r.num.natAbs)) (ni (dig r.den)) 2 rfl (by have h:=QV.qr HA.out;rw[u1.out] at h;exact h) (by have h:=QV.qr HB.out;rw[v1.out] at h;exact h)).mono ?_;rintro e w1 ⟨F0,rfl⟩;have B4:=zz F0;have z4:=B4.out.size;have j0:=zz (B0.out.trans (B4.out.mono B0.out.size));clear F0;clear G0 H0 I0 J0 s1 K0 L0 M0 N0 t1;rw[HC.out];clear HC;by_cases h0:r=0
 ·have x1:=zz (show t=(none,7) by rw[HT.out,divQ,if_pos h0]);have O0:=zz (QV.step HB.out B4.out);have Q0:((k:Int)==0)=true:=by rw[beq_iff_eq,RN.len (QV.is O0.out).1,h0,show(0:Rat).num.natAbs=0 from rfl,dig_zero];rfl
  clear h0;have e0:=CB.step La B4.out;have e1:=e0.cell 0 rfl;have f1:=e0.cell 1 rfl;have g1:=e0.cell 2 rfl;have i1:=e0.cell 3 rfl;have D1:=e0.lt;have f0:=CB.step Lb B4.out;have R0:=f0.cell 0 rfl;have S0:=f0.cell 1 rfl;have T0:=f0.cell 2 rfl;have U0:=f0.cell 3 rfl;have z1:=f0.lt;have a0:=CB.step Lr4 B4.out;have V0:=a0.cell 0 rfl;have W0:=a0.cell 1 rfl;have X0:=a0.cell 2 rfl;have Y0:=a0.cell 3 rfl;have A1:=a0.lt;have Z0:=a0.frozen 0;have a1:=a0.frozen 1;have b1:=a0.frozen 2;have c1:=a0.frozen 3;have B1:=a0.lt;go_wp2;exact QB.fin rfl a0 (by simp[noInt_b,noInt_s]) j0.out (by omega) (by rw[x1.out];exact zeroQ _ _) rfl (by rw[x1.out];rfl)
 ·have C1:=zz h0;replace HT:=zz (show t=toldQ (q / r) by rw[HT.out,divQ,if_neg h0]);have g0:=zz (QV.step HB.out B4.out);have Q0:((k:Int)==0)=false:=by
   rw[beq_eq_false_iff_ne,RN.len (QV.is g0.out).1];have h1:r.num≠0:=fun e=>h0 (Rat.num_eq_zero.1 e);have:=dig_len_pos (n:=r.num.natAbs) (by omega);omega
  clear h0;have c0:=CB.step La B4.out;have l0:=c0.cell 0 rfl;have m0:=c0.cell 1 rfl;have n0:=c0.cell 2 rfl;have o0:=c0.cell 3 rfl;have n1:=c0.lt;have d0:=CB.step Lb B4.out;have p0:=d0.cell 0 rfl;have q0:=d0.cell 1 rfl;have r0:=d0.cell 2 rfl;have s0:=d0.cell 3 rfl;have o1:=d0.lt;go_wp2_with fail
  have t0:=zz (QV.step HA.out B4.out);refine(both_Quo _ _ _ q r t0.out g0.out l1.out m1.out C1.out).mono ?_;rintro e w15 ⟨k0,v,rfl,hv⟩;have B21:=zz k0;have z21:=B21.out.size;have P0:=zz (j0.out.trans (B21.out.mono j0.out.size));clear k0;clear l0 m0 n0 o0 n1 p0 q0 r0 s0 o1;rw[← HT.out] at hv ⊢;have hg23:=hv;obtain⟨E1,F1,G1,H1,I1,J1,d1,K1,rfl⟩:=QO.cells hg23;have i0:=zz hg23;clear hg23;have P1_3_25:=zz (B4.out.trans (B21.out.mono B4.out.size));have b0:=CB.step Lr4 P1_3_25.out;have u0:=b0.cell 0 rfl;have v0:=b0.cell 1 rfl;have x0:=b0.cell 2 rfl;have y0:=b0.cell 3 rfl;have p1:=b0.lt;have A0:=b0.frozen 0;have C0:=b0.frozen 1;have D0:=b0.frozen 2;have E0:=b0.frozen 3;have q1:=b0.lt;go_wp2;clear u0 v0 x0 y0 p1 A0 C0 D0 E0 q1;exact QB.fin rfl b0 (by simp[noInt_b,noInt_s]) P0.out (by omega) i0.out rfl rfl
set_option maxRecDepth 100000 in
set_option maxHeartbeats 4000000 in
theorem QAdd_bad (w:World) (va vb:Value) (n m n2 m2:Bool) (a b a2 b2:List Int) (ha:QR w w.heap.size va n a m b) (hb:QR w w.heap.size vb n2 a2 m2 b2) (hbad:qOf n a m b=none∨qOf n2 a2 m2 b2=none) :
  Calls Tryz.prog 10 #[va,vb] w fun e w'=>Below w.heap.size w w'∧RetQ w' (none,40) e:=by
 obtain⟨A,l,c,A',l',c',rfl,ha⟩:=RI.of ha;obtain⟨B,k,d,B',k',d',rfl,hb⟩:=RI.of hb;have HA:=zz ha;have HB:=zz hb;have HC:=zz hbad;clear ha hb hbad;obtain⟨w0,hw0⟩:∃ w0:World,w0=(((w.alloc (.cells #[.bool n,.slice A l c,.bool m,.slice A' l' c'] 28)).alloc (.cells #[.bool n2,.slice B k d,.bool m2,.slice B' k' d'] 28)).alloc (.cells #[.bool false,.slice none 0 0,.bool false,.slice none 0 0] 28)):=⟨_,rfl⟩;have B0:=zz (n3_b hw0);have z0:=n3_z hw0;have La:=n3_0 hw0;have Lb:=n3_1 hw0;have Lr4:=n3_2 hw0;replace HA:=zz (QR.step HA.out B0.out);replace HB:=zz (QR.step HB.out B0.out);go_enter Tryz.func10,Tryz.ntmps10
 go_upto_region 1 with (fail)
 rw[← hw0];clear hw0;have d0:=La.cell 0 rfl;have e0:=La.cell 1 rfl;have f0:=La.cell 2 rfl;have g0:=La.cell 3 rfl;have v0:=La.lt;have h0:=Lb.cell 0 rfl;have i0:=Lb.cell 1 rfl;have j0:=Lb.cell 2 rfl;have k0:=Lb.cell 3 rfl;have x0:=Lb.lt;go_wp2_with fail
 refine(both_bad _ _ _ _ n m n2 m2 a b a2 b2 HA.out HB.out HC.out).mono ?_;rintro e w1 ⟨c0,v,rfl,hv⟩;have B4:=zz c0;have z4:=B4.out.size;have t0:=zz (B0.out.trans (B4.out.mono B0.out.size));clear c0;clear d0 e0 f0 g0 v0 h0 i0 j0 k0 x0;have hg6:=hv;obtain⟨F0,G0,H0,I0,J0,K0,u0,L0,rfl⟩:=QO.cells hg6;have b0:=zz hg6;clear hg6;have a0:=CB.step Lr4 B4.out;have l0:=a0.cell 0 rfl;have m0:=a0.cell 1 rfl;have n0:=a0.cell 2 rfl;have o0:=a0.cell 3 rfl;have y0:=a0.lt;have p0:=a0.frozen 0;have q0:=a0.frozen 1;have r0:=a0.frozen 2;have s0:=a0.frozen 3;have A0:=a0.lt;go_wp2;clear l0 m0 n0 o0 y0 p0 q0 r0 s0 A0;exact QB.fin rfl a0 (by simp[noInt_b,noInt_s]) t0.out (by omega) b0.out rfl rfl
set_option maxRecDepth 100000 in
set_option maxHeartbeats 4000000 in
theorem QDiv_bad (w:World) (va vb:Value) (n m n2 m2:Bool) (a b a2 b2:List Int) (ha:QR w w.heap.size va n a m b) (hb:QR w w.heap.size vb n2 a2 m2 b2) (hbad:qOf n a m b=none∨qOf n2 a2 m2 b2=none) :
  Calls Tryz.prog 13 #[va,vb] w fun e w'=>Below w.heap.size w w'∧RetQ w' (none,40) e:=by
 obtain⟨A,l,c,A',l',c',rfl,ha⟩:=RI.of ha;obtain⟨B,k,d,B',k',d',rfl,hb⟩:=RI.of hb;have HA:=zz ha;have HB:=zz hb;have HC:=zz hbad;clear ha hb hbad;obtain⟨w0,hw0⟩:∃ w0:World,w0=(((w.alloc (.cells #[.bool n,.slice A l c,.bool m,.slice A' l' c'] 28)).alloc (.cells #[.bool n2,.slice B k d,.bool m2,.slice B' k' d'] 28)).alloc (.cells #[.bool false,.slice none 0 0,.bool false,.slice none 0 0] 28)):=⟨_,rfl⟩;have B0:=zz (n3_b hw0);have z0:=n3_z hw0;have La:=n3_0 hw0;have Lb:=n3_1 hw0;have Lr4:=n3_2 hw0;replace HA:=zz (QR.step HA.out B0.out);replace HB:=zz (QR.step HB.out B0.out);go_enter Tryz.func13,Tryz.ntmps13
 go_upto_region 1 with (fail)
 rw[← hw0];clear hw0;replace HC:=zz (allQ_no HC.out);have c0:=La.cell 0 rfl;have d0:=La.cell 1 rfl;have e0:=La.cell 2 rfl;have f0:=La.cell 3 rfl;have t0:=La.lt;have g0:=Lb.cell 0 rfl;have h0:=Lb.cell 1 rfl;have i0:=Lb.cell 2 rfl;have j0:=Lb.cell 3 rfl;have u0:=Lb.lt;go_wp2_with fail
 refine(qall_new _ _ n m n2 m2 A A' B B' l l' k k' c c' d d' a b a2 b2 2 rfl HA.out HB.out).mono ?_;rintro e w1 ⟨b0,rfl⟩;have B4:=zz b0;have z4:=B4.out.size;have k0:=zz (B0.out.trans (B4.out.mono B0.out.size));clear b0;clear c0 d0 e0 f0 t0 g0 h0 i0 j0 u0;rw[HC.out];have a0:=CB.step Lr4 B4.out;have l0:=a0.cell 0 rfl;have m0:=a0.cell 1 rfl;have n0:=a0.cell 2 rfl;have o0:=a0.cell 3 rfl;have A0:=a0.lt;have p0:=a0.frozen 0;have q0:=a0.frozen 1;have r0:=a0.frozen 2;have s0:=a0.frozen 3;have C0:=a0.lt;go_wp2;exact QB.fin rfl a0 (by simp[noInt_b,noInt_s]) k0.out (by omega) (zeroQ _ _) rfl rfl
set_option maxRecDepth 100000 in
set_option maxHeartbeats 4000000 in
theorem QNeg_good (w:World) (va:Value) (q:Rat) (ha:QV w w.heap.size va q) (lq:QL 600 600 q) :
  Calls Tryz.prog 15 #[va] w fun e w'=>Below w.heap.size w w'∧RetQ w' (some (-q),0) e:=by
 have HTOLD:=zz (show toldQ (-q)=(some (-q),0) from if_pos lq.neg);obtain⟨n,A,l,c,m,A',l',c',rfl⟩:=QO.cells (show QO w w.heap.size va (some q) from ha);have HA:=zz ha;have T0:=zz lq;have HS:=zz (RV.neg (QV.read ha));clear ha lq;obtain⟨w0,hw0⟩:∃ w0:World,w0=((w.alloc (.cells #[.bool n,.slice A l c,.bool m,.slice A' l' c'] 28)).alloc (.cells #[.bool false,.slice none 0 0,.bool false,.slice none 0 0] 28)):=⟨_,rfl⟩;have B0:=zz (n2_b hw0);have z0:=n2_z hw0;have La:=n2_0 hw0;have Lr2:=n2_1 hw0;replace HA:=zz (QV.step HA.out B0.out);replace HS:=zz (RV.step HS.out B0.out);go_enter Tryz.func15,Tryz.ntmps15
 go_upto_region 1 with (fail)
 rw[← hw0];clear hw0;have F0:=La.cell 0 rfl;have G0:=La.cell 1 rfl;have H0:=La.cell 2 rfl;have I0:=La.cell 3 rfl;have X0:=La.lt;go_wp2_with fail
 refine(Read_any _ n m A A' l c l' c').mono ?_;rintro e w1 ⟨D0,rfl⟩;have B3:=zz D0;have z3:=B3.out.size;have E0:=zz (B0.out.trans (B3.out.mono B0.out.size));clear D0;clear F0 G0 H0 I0 X0;go_upto_region 2 with (fail)
 obtain⟨w5,e0⟩:∃ w5:World,w5=(w1.alloc (.cells #[.bool n,.slice A l c,.slice A' l' c'] 80)):=⟨_,rfl⟩;rw[← e0];have b0:=n1_0 e0;have za5:=n1_z e0;have B6:=zz (n1_b e0);have z6:=B6.out.size;have Q0:=zz (E0.out.trans (B6.out.mono E0.out.size));clear e0;have J0:=b0.cell 0 rfl;have K0:=b0.cell 1 rfl;have L0:=b0.cell 2 rfl;have Y0:=b0.lt;have M0:=b0.frozen 0;have N0:=b0.frozen 1;have O0:=b0.frozen 2;have Z0:=b0.lt;go_upto_region 3 with (fail)
 clear J0 K0 L0 Y0 M0 N0 O0 Z0;have P1_3_11:=zz (B3.out.trans (B6.out.mono B3.out.size));have l0:=CB.step La P1_3_11.out;have i0:=CB.step Lr2 P1_3_11.out;obtain⟨w13,c0⟩:∃ w13:World,w13=(w5.setCell ⟨w1.heap.size,0,none⟩ (.bool (!n))):=⟨_,rfl⟩;rw[← c0];have S13:=zz (show Soft w5 w13 by rw[c0];exact CB.soft1 (b0) (by simp[noInt_b,noInt_s]) 0 (.bool (!n)));have d0:=p1_f c0 l0 (by omega);have j0:=p1_f c0 i0 (by omega);have m0:CB w13 (w1.heap.size) 80 #[.bool (!n),.slice A l c,.slice A' l' c']:=by rw[c0];exact(show CB _ (w1.heap.size) 80 #[.bool (!n),.slice A l c,.slice A' l' c'] from CB.set (b0) 0 (.bool (!n)))
 have f0:=zz (p1_b c0 Q0.out (by omega));have S0:=p1_z c0;clear c0;have n0:=d0.cell 0 rfl;have o0:=d0.cell 1 rfl;have p0:=d0.cell 2 rfl;have q0:=d0.cell 3 rfl;have U0:=d0.lt;go_wp2_with fail
 have g0:=zz (QV.soft HA.out (((Soft.of B3.out).trans (Soft.of B6.out)).trans (S13.out)));have r0:=zz (RV.soft HS.out (((Soft.of B3.out).trans (Soft.of B6.out)).trans (S13.out)));refine(both_Neg1 _ _ _ q q g0.out g0.out T0.out T0.out _ (-q) (QL.neg T0.out) (!n) A A' l c l' c' m0 r0.out).mono ?_;rintro e w14 ⟨k0,v,rfl,hv⟩;have B18:=zz k0;have z18:=B18.out.size;have P0:=zz (f0.out.trans (B18.out.mono f0.out.size));clear k0;clear n0 o0 p0 q0 U0;rw[HTOLD.out] at hv ⊢;have hg20:=hv;obtain⟨c1,d1,e1,f1,g1,h1,R0,i1,rfl⟩:=QO.cells hg20;have h0:=zz hg20;clear hg20;have a0:=CB.step j0 B18.out;have s0:=a0.cell 0 rfl;have t0:=a0.cell 1 rfl;have u0:=a0.cell 2 rfl;have v0:=a0.cell 3 rfl;have V0:=a0.lt;have x0:=a0.frozen 0;have y0:=a0.frozen 1;have A0:=a0.frozen 2;have C0:=a0.frozen 3;have W0:=a0.lt;go_wp2;clear s0 t0 u0 v0 V0 x0 y0 A0 C0 W0;exact QB.fin rfl a0 (by simp[noInt_b,noInt_s]) P0.out (by omega) h0.out rfl rfl
set_option maxRecDepth 100000 in
set_option maxHeartbeats 4000000 in
theorem QNeg_bad (w:World) (va:Value) (n m:Bool) (a b:List Int) (ha:QR w w.heap.size va n a m b) (hbad:qOf n a m b=none) :
  Calls Tryz.prog 15 #[va] w fun e w'=>Below w.heap.size w w'∧RetQ w' (none,40) e:=by
 obtain⟨A,l,c,A',l',c',rfl,ha⟩:=RI.of ha;have HA:=zz ha;have HC:=zz hbad;clear ha hbad;obtain⟨w0,hw0⟩:∃ w0:World,w0=((w.alloc (.cells #[.bool n,.slice A l c,.bool m,.slice A' l' c'] 28)).alloc (.cells #[.bool false,.slice none 0 0,.bool false,.slice none 0 0] 28)):=⟨_,rfl⟩;have B0:=zz (n2_b hw0);have z0:=n2_z hw0;have La:=n2_0 hw0;have Lr2:=n2_1 hw0;replace HA:=zz (QR.step HA.out B0.out);go_enter Tryz.func15,Tryz.ntmps15
 go_upto_region 1 with (fail)
 rw[← hw0];clear hw0;have D0:=La.cell 0 rfl;have E0:=La.cell 1 rfl;have F0:=La.cell 2 rfl;have G0:=La.cell 3 rfl;have V0:=La.lt;go_wp2_with fail
 refine(Read_any _ n m A A' l c l' c').mono ?_;rintro e w1 ⟨A0,rfl⟩;have B3:=zz A0;have z3:=B3.out.size;have C0:=zz (B0.out.trans (B3.out.mono B0.out.size));clear A0;clear D0 E0 F0 G0 V0;go_upto_region 2 with (fail)
 obtain⟨w5,e0⟩:∃ w5:World,w5=(w1.alloc (.cells #[.bool n,.slice A l c,.slice A' l' c'] 80)):=⟨_,rfl⟩;rw[← e0];have b0:=n1_0 e0;have za5:=n1_z e0;have B6:=zz (n1_b e0);have z6:=B6.out.size;have O0:=zz (C0.out.trans (B6.out.mono C0.out.size));clear e0;have H0:=b0.cell 0 rfl;have I0:=b0.cell 1 rfl;have J0:=b0.cell 2 rfl;have W0:=b0.lt;have K0:=b0.frozen 0;have L0:=b0.frozen 1;have M0:=b0.frozen 2;have X0:=b0.lt;go_upto_region 3 with (fail)
 clear H0 I0 J0 W0 K0 L0 M0 X0;have P1_3_11:=zz (B3.out.trans (B6.out.mono B3.out.size));have l0:=CB.step La P1_3_11.out;have i0:=CB.step Lr2 P1_3_11.out;obtain⟨w13,c0⟩:∃ w13:World,w13=(w5.setCell ⟨w1.heap.size,0,none⟩ (.bool (!n))):=⟨_,rfl⟩;rw[← c0];have S13:=zz (show Soft w5 w13 by rw[c0];exact CB.soft1 (b0) (by simp[noInt_b,noInt_s]) 0 (.bool (!n)));have d0:=p1_f c0 l0 (by omega);have j0:=p1_f c0 i0 (by omega);have P0:CB w13 (w1.heap.size) 80 #[.bool (!n),.slice A l c,.slice A' l' c']:=by rw[c0];exact(show CB _ (w1.heap.size) 80 #[.bool (!n),.slice A l c,.slice A' l' c'] from CB.set (b0) 0 (.bool (!n)))
 have f0:=zz (p1_b c0 O0.out (by omega));have R0:=p1_z c0;clear c0;have m0:=d0.cell 0 rfl;have n0:=d0.cell 1 rfl;have o0:=d0.cell 2 rfl;have p0:=d0.cell 3 rfl;have S0:=d0.lt;go_wp2_with fail
 have g0:=zz (QR.soft HA.out (((Soft.of B3.out).trans (Soft.of B6.out)).trans (S13.out)));refine(both_bad _ _ _ _ n m n m a b a b g0.out g0.out (.inl HC.out)).mono ?_;rintro e w14 ⟨k0,v,rfl,hv⟩;have B17:=zz k0;have z17:=B17.out.size;have N0:=zz (f0.out.trans (B17.out.mono f0.out.size));clear k0;clear m0 n0 o0 p0 S0;have hg19:=hv;obtain⟨a1,b1,c1,d1,e1,f1,Q0,g1,rfl⟩:=QO.cells hg19;have h0:=zz hg19;clear hg19;have a0:=CB.step j0 B17.out;have q0:=a0.cell 0 rfl;have r0:=a0.cell 1 rfl;have s0:=a0.cell 2 rfl;have t0:=a0.cell 3 rfl;have T0:=a0.lt;have u0:=a0.frozen 0;have v0:=a0.frozen 1;have x0:=a0.frozen 2;have y0:=a0.frozen 3;have U0:=a0.lt;go_wp2;clear q0 r0 s0 t0 T0 u0 v0 x0 y0 U0;exact QB.fin rfl a0 (by simp[noInt_b,noInt_s]) N0.out (by omega) h0.out rfl rfl
set_option maxRecDepth 100000 in
set_option maxHeartbeats 4000000 in
theorem QAbs_good (w:World) (va:Value) (q:Rat) (ha:QV w w.heap.size va q) (lq:QL 600 600 q) :
  Calls Tryz.prog 16 #[va] w fun e w'=>Below w.heap.size w w'∧RetQ w' (some (if q.num<0 then -q else q),0) e:=by
 have HTOLD:=zz (show toldQ q=(some q,0) from if_pos lq);obtain⟨n,A,l,c,m,A',l',c',rfl⟩:=QO.cells (show QO w w.heap.size va (some q) from ha);have HN:=zz (QV.is ha).2.2.1;have HA:=zz ha;have M0:=zz lq;clear ha lq;cases n with
 | false=>
  rw[if_neg (fun h:q.num<0=>by have h1:=HN.out;rw[decide_eq_true h] at h1;cases h1)];obtain⟨w0,hw0⟩:∃ w0:World,w0=((w.alloc (.cells #[.bool false,.slice A l c,.bool m,.slice A' l' c'] 28)).alloc (.cells #[.bool false,.slice none 0 0,.bool false,.slice none 0 0] 28)):=⟨_,rfl⟩;have B0:=zz (n2_b hw0);have z0:=n2_z hw0;have La:=n2_0 hw0;have Lr2:=n2_1 hw0;replace HA:=zz (QV.step HA.out B0.out);go_enter Tryz.func16,Tryz.ntmps16
  go_upto_region 1 with (fail)
  rw[← hw0];clear hw0;have s0:=La.cell 0 rfl;have t0:=La.cell 1 rfl;have u0:=La.cell 2 rfl;have v0:=La.cell 3 rfl;have Q0:=La.lt;go_wp2_with fail
  refine(both_Abs1 _ _ _ q q HA.out HA.out M0.out M0.out).mono ?_;rintro e w1 ⟨q0,v,rfl,hv⟩;have B3:=zz q0;have z3:=B3.out.size;have I0:=zz (B0.out.trans (B3.out.mono B0.out.size));clear q0;clear s0 t0 u0 v0 Q0;rw[HTOLD.out] at hv ⊢;have hg5:=hv;obtain⟨b1,c1,d1,e1,f1,g1,K0,i1,rfl⟩:=QO.cells hg5;have d0:=zz hg5;clear hg5;have b0:=CB.step Lr2 B3.out;have x0:=b0.cell 0 rfl;have y0:=b0.cell 1 rfl;have A0:=b0.cell 2 rfl;have C0:=b0.cell 3 rfl;have R0:=b0.lt;have D0:=b0.frozen 0;have E0:=b0.frozen 1;have F0:=b0.frozen 2;have G0:=b0.frozen 3;have S0:=b0.lt;go_wp2;clear x0 y0 A0 C0 R0 D0 E0 F0 G0 S0;exact QB.fin rfl b0 (by simp[noInt_b,noInt_s]) I0.out (by omega) d0.out rfl rfl
 | true=>
  rw[if_pos (show q.num<0 from of_decide_eq_true HN.out.symm)];obtain⟨w0,hw0⟩:∃ w0:World,w0=((w.alloc (.cells #[.bool true,.slice A l c,.bool m,.slice A' l' c'] 28)).alloc (.cells #[.bool false,.slice none 0 0,.bool false,.slice none 0 0] 28)):=⟨_,rfl⟩;have B0:=zz (n2_b hw0);have z0:=n2_z hw0;have La:=n2_0 hw0;have Lr2:=n2_1 hw0;replace HA:=zz (QV.step HA.out B0.out);go_enter Tryz.func16,Tryz.ntmps16
  go_upto_region 1 with (fail)
  rw[← hw0];clear hw0;have e0:=La.cell 0 rfl;have f0:=La.cell 1 rfl;have g0:=La.cell 2 rfl;have h0:=La.cell 3 rfl;have N0:=La.lt;go_wp2_with fail
  refine(QNeg_good _ _ q HA.out M0.out).mono ?_;rintro e w9 ⟨r0,v,rfl,hv⟩;have B11:=zz r0;have z11:=B11.out.size;have H0:=zz (B0.out.trans (B11.out.mono B0.out.size));clear r0;clear e0 f0 g0 h0 N0;have hg13:=hv;obtain⟨U0,V0,W0,X0,Y0,Z0,J0,a1,rfl⟩:=QO.cells hg13;have c0:=zz hg13;clear hg13;have a0:=CB.step Lr2 B11.out;have i0:=a0.cell 0 rfl;have j0:=a0.cell 1 rfl;have k0:=a0.cell 2 rfl;have l0:=a0.cell 3 rfl;have O0:=a0.lt;have m0:=a0.frozen 0;have n0:=a0.frozen 1;have o0:=a0.frozen 2;have p0:=a0.frozen 3;have P0:=a0.lt;go_wp2;clear i0 j0 k0 l0 O0 m0 n0 o0 p0 P0;exact QB.fin rfl a0 (by simp[noInt_b,noInt_s]) H0.out (by omega) c0.out rfl rfl
set_option maxRecDepth 100000 in
set_option maxHeartbeats 4000000 in
theorem QAbs_bad (w:World) (va:Value) (n m:Bool) (a b:List Int) (ha:QR w w.heap.size va n a m b) (hbad:qOf n a m b=none) :
  Calls Tryz.prog 16 #[va] w fun e w'=>Below w.heap.size w w'∧RetQ w' (none,40) e:=by
 obtain⟨A,l,c,A',l',c',rfl,ha⟩:=RI.of ha;have HA:=zz ha;have HC:=zz hbad;clear ha hbad;cases n with
 | false=>
  obtain⟨w0,hw0⟩:∃ w0:World,w0=((w.alloc (.cells #[.bool false,.slice A l c,.bool m,.slice A' l' c'] 28)).alloc (.cells #[.bool false,.slice none 0 0,.bool false,.slice none 0 0] 28)):=⟨_,rfl⟩;have B0:=zz (n2_b hw0);have z0:=n2_z hw0;have La:=n2_0 hw0;have Lr2:=n2_1 hw0;replace HA:=zz (QR.step HA.out B0.out);go_enter Tryz.func16,Tryz.ntmps16
  go_upto_region 1 with (fail)
  rw[← hw0];clear hw0;have s0:=La.cell 0 rfl;have t0:=La.cell 1 rfl;have u0:=La.cell 2 rfl;have v0:=La.cell 3 rfl;have P0:=La.lt;go_wp2_with fail
  refine(both_bad _ _ _ _ false m false m a b a b HA.out HA.out (.inl HC.out)).mono ?_;rintro e w1 ⟨q0,v,rfl,hv⟩;have B3:=zz q0;have z3:=B3.out.size;have I0:=zz (B0.out.trans (B3.out.mono B0.out.size));clear q0;clear s0 t0 u0 v0 P0;have hg5:=hv;obtain⟨a1,b1,c1,d1,e1,f1,K0,g1,rfl⟩:=QO.cells hg5;have d0:=zz hg5;clear hg5;have b0:=CB.step Lr2 B3.out;have x0:=b0.cell 0 rfl;have y0:=b0.cell 1 rfl;have A0:=b0.cell 2 rfl;have C0:=b0.cell 3 rfl;have Q0:=b0.lt;have D0:=b0.frozen 0;have E0:=b0.frozen 1;have F0:=b0.frozen 2;have G0:=b0.frozen 3;have R0:=b0.lt;go_wp2;clear x0 y0 A0 C0 Q0 D0 E0 F0 G0 R0;exact QB.fin rfl b0 (by simp[noInt_b,noInt_s]) I0.out (by omega) d0.out rfl rfl
 | true=>
  obtain⟨w0,hw0⟩:∃ w0:World,w0=((w.alloc (.cells #[.bool true,.slice A l c,.bool m,.slice A' l' c'] 28)).alloc (.cells #[.bool false,.slice none 0 0,.bool false,.slice none 0 0] 28)):=⟨_,rfl⟩;have B0:=zz (n2_b hw0);have z0:=n2_z hw0;have La:=n2_0 hw0;have Lr2:=n2_1 hw0;replace HA:=zz (QR.step HA.out B0.out);go_enter Tryz.func16,Tryz.ntmps16
  go_upto_region 1 with (fail)
  rw[← hw0];clear hw0;have e0:=La.cell 0 rfl;have f0:=La.cell 1 rfl;have g0:=La.cell 2 rfl;have h0:=La.cell 3 rfl;have M0:=La.lt;go_wp2_with fail
  refine(QNeg_bad _ _ true m a b HA.out HC.out).mono ?_;rintro e w9 ⟨r0,v,rfl,hv⟩;have B11:=zz r0;have z11:=B11.out.size;have H0:=zz (B0.out.trans (B11.out.mono B0.out.size));clear r0;clear e0 f0 g0 h0 M0;have hg13:=hv;obtain⟨T0,U0,V0,W0,X0,Y0,J0,Z0,rfl⟩:=QO.cells hg13;have c0:=zz hg13;clear hg13;have a0:=CB.step Lr2 B11.out;have i0:=a0.cell 0 rfl;have j0:=a0.cell 1 rfl;have k0:=a0.cell 2 rfl;have l0:=a0.cell 3 rfl;have N0:=a0.lt;have m0:=a0.frozen 0;have n0:=a0.frozen 1;have o0:=a0.frozen 2;have p0:=a0.frozen 3;have O0:=a0.lt;go_wp2;clear i0 j0 k0 l0 N0 m0 n0 o0 p0 O0;exact QB.fin rfl a0 (by simp[noInt_b,noInt_s]) H0.out (by omega) c0.out rfl rfl
set_option maxRecDepth 100000 in
set_option maxHeartbeats 4000000 in
theorem QSame_any (w:World) (va vb:Value) (n m n2 m2:Bool) (a b a2 b2:List Int) (ha:QR w w.heap.size va n a m b) (hb:QR w w.heap.size vb n2 a2 m2 b2) :
  Calls Tryz.prog 41 #[va,vb] w fun e w'=>Below w.heap.size w w'∧e=.returned (.bool (decide ((n=n2∧a=a2)∧(m=m2∧b=b2)))):=by
 obtain⟨A,l,c,A',l',c',rfl,ha⟩:=RI.of ha;obtain⟨B,k,d,B',k',d',rfl,hb⟩:=RI.of hb;have HA:=zz ha;have HB:=zz hb;clear ha hb;obtain⟨x,hx⟩:∃ x,x=decide ((n=n2∧a=a2)∧(m=m2∧b=b2)):=⟨_,rfl⟩;rw[← hx];have HX:=zz hx;clear hx;obtain⟨w0,hw0⟩:∃ w0:World,w0=((w.alloc (.cells #[.bool n,.slice A l c,.bool m,.slice A' l' c'] 28)).alloc (.cells #[.bool n2,.slice B k d,.bool m2,.slice B' k' d'] 28)):=⟨_,rfl⟩;have B0:=zz (n2_b hw0);have z0:=n2_z hw0;have La:=n2_0 hw0;have Lb:=n2_1 hw0;replace HA:=zz (QR.step HA.out B0.out);replace HB:=zz (QR.step HB.out B0.out);go_enter Tryz.func41,Tryz.ntmps41
 go_upto_region 1 with (fail)
 rw[← hw0];clear hw0;have l0:=La.cell 0 rfl;have m0:=La.cell 1 rfl;have n0:=La.cell 2 rfl;have o0:=La.cell 3 rfl;have E0:=La.lt;have p0:=Lb.cell 0 rfl;have q0:=Lb.cell 1 rfl;have r0:=Lb.cell 2 rfl;have s0:=Lb.cell 3 rfl;have F0:=Lb.lt;go_wp2_with fail
 refine(Same_any _ _ _ _ _ _ _ (QR.fst HA.out) (QR.fst HB.out)).mono ?_;rintro e w1 ⟨j0,rfl⟩;have B4:=zz j0;have z4:=B4.out.size;have c0:=zz (B0.out.trans (B4.out.mono B0.out.size));clear j0;clear l0 m0 n0 o0 E0 p0 q0 r0 s0 F0;by_cases h1:n=n2∧a=a2
 ·rw[decide_eq_true h1];have H1:=zz h1;clear h1;have a0:=CB.step La B4.out;have t0:=a0.cell 0 rfl;have u0:=a0.cell 1 rfl;have v0:=a0.cell 2 rfl;have x0:=a0.cell 3 rfl;have G0:=a0.lt;have b0:=CB.step Lb B4.out;have d0:=b0.cell 0 rfl;have e0:=b0.cell 1 rfl;have f0:=b0.cell 2 rfl;have g0:=b0.cell 3 rfl;have A0:=b0.lt;go_wp2_with fail
  have h0:=zz (QR.step HA.out B4.out);have i0:=zz (QR.step HB.out B4.out);refine(Same_any _ _ _ _ _ _ _ (QR.snd h0.out) (QR.snd i0.out)).mono ?_;rintro e w6 ⟨k0,rfl⟩;have B13:=zz k0;have z13:=B13.out.size;have y0:=zz (c0.out.trans (B13.out.mono c0.out.size));clear k0;clear t0 u0 v0 x0 G0 d0 e0 f0 g0 A0;rw[show decide (m=m2∧b=b2)=x by rw[HX.out];exact decide_eq_decide.2 ⟨fun h=>⟨H1.out,h⟩,fun h=>h.2⟩];go_wp2;go_ret;exact⟨y0.out,rfl⟩
 ·rw[decide_eq_false h1];have I0:=zz (show x=false by rw[HX.out];exact decide_eq_false (fun h=>h1 h.1));clear h1;go_wp2;go_ret;exact⟨c0.out,by rw[I0.out];rfl⟩
theorem wSignR_any (w:World) (n:Bool) (A:Option Addr) (l c:Nat) :
  Calls Tryz.prog 61 #[.agg #[.bool n,.slice A l c]] w fun e w'=>Below w.heap.size w w'∧∃ s:Int,e=.returned (.int .i64 s):=by
 have HB:=zz (below_alloc1 (Below.refl w.heap.size w) (.cells #[.bool n,.slice A l c] 78));by_cases hl:l=0
 ·subst hl;go_enter Tryz.func61,Tryz.ntmps61
  go_wp2;go_ret;exact⟨HB.out,_,rfl⟩
 ·have hl0:((l:Int)==0)=false:=by rw[beq_eq_false_iff_ne];omega
  clear hl;cases n with
  | false=>
   go_enter Tryz.func61,Tryz.ntmps61
   go_wp2;go_ret;exact⟨HB.out,_,rfl⟩
  | true=>
   go_enter Tryz.func61,Tryz.ntmps61
   go_wp2;go_ret;exact⟨HB.out,_,rfl⟩
noncomputable def sgnQ:Option Rat→Int × Int
 | some q=>(q.num.sign,0)
 | none=>(0,40)
set_option maxRecDepth 100000 in
set_option maxHeartbeats 4000000 in
theorem QSign_any (w:World) (va:Value) (n m:Bool) (a b:List Int) (ha:QR w w.heap.size va n a m b) :
  Calls Tryz.prog 23 #[va] w fun e w'=>Below w.heap.size w w'∧RetI (sgnQ (qOf n a m b)) e:=by
 obtain⟨A,l,c,A',l',c',rfl,ha⟩:=RI.of ha;rcases hq:qOf n a m b with _ | q
 ·skip
  have HA:=zz ha;have HQ:=zz hq;clear ha hq;obtain⟨w0,hw0⟩:∃ w0:World,w0=(w.alloc (.cells #[.bool n,.slice A l c,.bool m,.slice A' l' c'] 28)):=⟨_,rfl⟩;have B0:=zz (n1_b hw0);have z0:=n1_z hw0;have La:=n1_0 hw0;replace HA:=zz (QR.step HA.out B0.out);go_enter Tryz.func23,Tryz.ntmps23
  go_upto_region 1 with (fail)
  rw[← hw0];clear hw0;refine Flow.run [⟨0,4,fun fv fw=>fv=.agg #[.bool n,.slice A l c,.bool m,.slice A' l' c']⟩,⟨1,5,fun fv fw=>fv=.agg #[.bool n,.slice A l c,.slice A' l' c']⟩,⟨2,6,fun fv fw=>fv=.agg #[.bool n,.slice A l c]⟩,⟨3,7,fun fv fw=>∃ s:Int,fv=.int .i64 s⟩,⟨4,8,fun fv fw=>fv=.agg #[.bool n,.slice A l c,.bool m,.slice A' l' c']⟩,⟨5,9,fun fv fw=>fv=.int .i64 40⟩,⟨6,10,fun fv fw=>fv=.tuple #[.int .i64 0,.int .i64 40]⟩,⟨7,11,fun fv fw=>fv=.int .i64 0⟩,⟨8,12,fun fv fw=>fv=.int .i64 40⟩] [] [] 2 (by kernel_rfl) (by kernel_rfl) (by kernel_rfl) (fun _ _ _ _ _ h=>h) ?_ ?_ ?_ ?_
  ·refine(a0 (a0 (a0 (a0 (a0 (a0 (a0 (a0 (a0 all_nil)))))))))
  ·refine(all_cons ?_ (all_cons ?_ (all_cons ?_ (all_cons ?_ (all_cons ?_ (all_cons ?_ (all_cons ?_ (all_cons ?_ (all_cons ?_ all_nil)))))))))
   ·intro xs J1 b0 c0;have q0:=zz b0;have K1:=b0.size;clear b0;clear c0;refine wpOp_step (o:=_) rfl (fun K hK=>?_);simp only[FL]
    have h0:=CB.step La q0.out;have a1:=h0.cell 0 rfl;have b1:=h0.cell 1 rfl;have c1:=h0.cell 2 rfl;have d1:=h0.cell 3 rfl;go_simp;refine hK _ _ ⟨.agg #[.bool n,.slice A l c,.bool m,.slice A' l' c'],by kernel_rfl,Below.refl _ _,rfl,nF⟩
   ·intro xs L1 b0 c0;clear b0;have f0:(xs 0)=.agg #[.bool n,.slice A l c,.bool m,.slice A' l' c']:=c0 _ (m_ 0 rfl) (by kernel_rfl);clear c0;refine wpOp_step (o:=_) rfl (fun K hK=>?_);simp only[FL]
    go_simp;(with_reducible refine(Read_any _ n m A A' l c l' c').mono ?_)
    rintro e wc5 ⟨E0,rfl⟩;refine hK _ _ ⟨.agg #[.bool n,.slice A l c,.slice A' l' c'],by simp only[FL,f0] <;> kernel_rfl,E0,rfl,nF⟩
   ·intro xs N1 b0 c0;clear b0;have f1:(xs 1)=.agg #[.bool n,.slice A l c,.slice A' l' c']:=c0 _ (m_ 1 rfl) (by kernel_rfl);clear c0;refine wpOp_step (o:=_) rfl (fun K hK=>?_);simp only[FL]
    go_simp;refine hK _ _ ⟨.agg #[.bool n,.slice A l c],by simp only[FL,f1] <;> kernel_rfl,Below.refl _ _,rfl,nF⟩
   ·intro xs P1 b0 c0;clear b0;have f2:(xs 2)=.agg #[.bool n,.slice A l c]:=c0 _ (m_ 2 rfl) (by kernel_rfl);clear c0;refine wpOp_step (o:=_) rfl (fun K hK=>?_);simp only[FL]
    go_simp;(with_reducible refine(wSignR_any _ n A l c).mono ?_)
    rintro e wc8 ⟨F0,s8,rfl⟩;refine hK _ _ ⟨.int .i64 s8,by simp only[FL,f2] <;> kernel_rfl,F0,⟨s8,rfl⟩,nF⟩
   ·intro xs R1 b0 c0;have r0:=zz b0;have S1:=b0.size;clear b0;clear c0;refine wpOp_step (o:=_) rfl (fun K hK=>?_);simp only[FL]
    have d0:=CB.step La r0.out;have G0:=d0.cell 0 rfl;have H0:=d0.cell 1 rfl;have I0:=d0.cell 2 rfl;have J0:=d0.cell 3 rfl;go_simp;refine hK _ _ ⟨.agg #[.bool n,.slice A l c,.bool m,.slice A' l' c'],by kernel_rfl,Below.refl _ _,rfl,nF⟩
   ·intro xs i1 b0 c0;have i0:=zz b0;have j1:=b0.size;clear b0;have f4:(xs 4)=.agg #[.bool n,.slice A l c,.bool m,.slice A' l' c']:=c0 _ (m_ 4 rfl) (by kernel_rfl);clear c0;refine wpOp_step (o:=_) rfl (fun K hK=>?_);simp only[FL]
    go_simp;have j0:=zz (QR.step HA.out i0.out);(with_reducible refine((show Calls Tryz.prog _ _ _ _ from(show chkQ n a m b=40 from chkQ_none HQ.out)▸QCheck_any _ _ n a m b j0.out)).mono ?_)
    rintro e wc14 ⟨s0,rfl⟩;refine hK _ _ ⟨.int .i64 40,by simp only[FL,f4] <;> kernel_rfl,s0,rfl,nF⟩
   ·intro xs k1 b0 c0;clear b0;have f3:∃ s:Int,(xs 3)=.int .i64 s:=c0 _ (m_ 3 rfl) (by kernel_rfl);have f5:(xs 5)=.int .i64 40:=c0 _ (m_ 5 rfl) (by kernel_rfl);clear c0;refine wpOp_step (o:=_) rfl (fun K hK=>?_);simp only[FL]
    obtain⟨s,hs⟩:=f3;rw[hs];go_simp;(with_reducible refine(madeI_any _ s 40).mono ?_)
    rintro e wc16 ⟨t0,rfl⟩;rw[if_neg (show ¬ (40:Int)=0 by decide)];refine hK _ _ ⟨.tuple #[.int .i64 0,.int .i64 40],by simp only[FL,f5,hs] <;> kernel_rfl,t0,rfl,nF⟩
   ·intro xs m1 b0 c0;clear b0;have f6:(xs 6)=.tuple #[.int .i64 0,.int .i64 40]:=c0 _ (m_ 6 rfl) (by kernel_rfl);clear c0;refine wpOp_step (o:=_) rfl (fun K hK=>?_);simp only[FL]
    go_simp;refine hK _ _ ⟨.int .i64 0,by simp only[FL,f6] <;> kernel_rfl,Below.refl _ _,rfl,nF⟩
   ·intro xs o1 b0 c0;clear b0;have f6:(xs 6)=.tuple #[.int .i64 0,.int .i64 40]:=c0 _ (m_ 6 rfl) (by kernel_rfl);clear c0;refine wpOp_step (o:=_) rfl (fun K hK=>?_);simp only[FL]
    go_simp;refine hK _ _ ⟨.int .i64 40,by simp only[FL,f6] <;> kernel_rfl,Below.refl _ _,rfl,nF⟩
  ·exact all_nil
  ·intro xs W1 hbf hf hn hd;have f0:(xs 0)=.agg #[.bool n,.slice A l c,.bool m,.slice A' l' c']:=hf _ (m_ 0 rfl);have f1:(xs 1)=.agg #[.bool n,.slice A l c,.slice A' l' c']:=hf _ (m_ 1 rfl);have f2:(xs 2)=.agg #[.bool n,.slice A l c]:=hf _ (m_ 2 rfl);have f3:∃ s:Int,(xs 3)=.int .i64 s:=hf _ (m_ 3 rfl);have f4:(xs 4)=.agg #[.bool n,.slice A l c,.bool m,.slice A' l' c']:=hf _ (m_ 4 rfl);have f5:(xs 5)=.int .i64 40:=hf _ (m_ 5 rfl);have f6:(xs 6)=.tuple #[.int .i64 0,.int .i64 40]:=hf _ (m_ 6 rfl);have f7:(xs 7)=.int .i64 0:=hf _ (m_ 7 rfl);have f8:(xs 8)=.int .i64 40:=hf _ (m_ 8 rfl);clear hf hn hd;simp only[FL]
   have B20:=zz hbf;have z20:=B20.out.size;have u0:=zz (B0.out.trans (B20.out.mono B0.out.size));clear hbf;generalize xs 0=x0,xs 1=x1,xs 2=x2,xs 3=x3,xs 4=x4,xs 5=x5,xs 6=x6,xs 7=x7,xs 8=x8 at *
   obtain rfl:=f0;obtain rfl:=f1;obtain rfl:=f2;clear f3;obtain rfl:=f4;obtain rfl:=f5;obtain rfl:=f6;obtain rfl:=f7;obtain rfl:=f8;refine Early.next (i:=9) (by kernel_rfl) rfl (fun K hK=>?_);go_simp;refine hK _ _ (fun _=>trivial) ?_;clear hK K;(try simp only[Act.put,List.setIfInBounds_toArray,List.set_cons_zero,List.set_cons_succ])
   refine Early.next (i:=10) (by kernel_rfl) rfl (fun K hK=>?_);go_simp;refine hK _ _ (fun _=>trivial) ?_;clear hK K;(try simp only[Act.put,List.setIfInBounds_toArray,List.set_cons_zero,List.set_cons_succ])
   refine Early.done (by kernel_rfl) ?_ _;(try simp only[Exit.then])
   go_wp2;go_ret2;exact⟨u0.out,rfl⟩
 ·obtain⟨hv,-⟩:=QR.valid ha hq;have HW:=zz (TV.fst (QV.read hv));clear hv;have HA:=zz ha;have HQ:=zz hq;clear ha hq;obtain⟨w0,hw0⟩:∃ w0:World,w0=(w.alloc (.cells #[.bool n,.slice A l c,.bool m,.slice A' l' c'] 28)):=⟨_,rfl⟩;have B0:=zz (n1_b hw0);have z0:=n1_z hw0;have La:=n1_0 hw0;replace HA:=zz (QR.step HA.out B0.out);replace HW:=zz (WV.step HW.out B0.out);go_enter Tryz.func23,Tryz.ntmps23
  go_upto_region 1 with (fail)
  rw[← hw0];clear hw0;refine Flow.run [⟨0,4,fun fv fw=>fv=.agg #[.bool n,.slice A l c,.bool m,.slice A' l' c']⟩,⟨1,5,fun fv fw=>fv=.agg #[.bool n,.slice A l c,.slice A' l' c']⟩,⟨2,6,fun fv fw=>fv=.agg #[.bool n,.slice A l c]⟩,⟨3,7,fun fv fw=>fv=.int .i64 q.num.sign⟩,⟨4,8,fun fv fw=>fv=.agg #[.bool n,.slice A l c,.bool m,.slice A' l' c']⟩,⟨5,9,fun fv fw=>fv=.int .i64 0⟩,⟨6,10,fun fv fw=>fv=.tuple #[.int .i64 q.num.sign,.int .i64 0]⟩,⟨7,11,fun fv fw=>fv=.int .i64 q.num.sign⟩,⟨8,12,fun fv fw=>fv=.int .i64 0⟩] [] [] 2 (by kernel_rfl) (by kernel_rfl) (by kernel_rfl) (fun _ _ _ _ _ h=>h) ?_ ?_ ?_ ?_
  ·refine(a0 (a0 (a0 (a0 (a0 (a0 (a0 (a0 (a0 all_nil)))))))))
  ·refine(all_cons ?_ (all_cons ?_ (all_cons ?_ (all_cons ?_ (all_cons ?_ (all_cons ?_ (all_cons ?_ (all_cons ?_ (all_cons ?_ all_nil)))))))))
   ·intro xs q1 b0 c0;have k0:=zz b0;have r1:=b0.size;clear b0;clear c0;refine wpOp_step (o:=_) rfl (fun K hK=>?_);simp only[FL]
    have e0:=CB.step La k0.out;have N0:=e0.cell 0 rfl;have O0:=e0.cell 1 rfl;have P0:=e0.cell 2 rfl;have Q0:=e0.cell 3 rfl;go_simp;refine hK _ _ ⟨.agg #[.bool n,.slice A l c,.bool m,.slice A' l' c'],by kernel_rfl,Below.refl _ _,rfl,nF⟩
   ·intro xs s1 b0 c0;clear b0;have f0:(xs 0)=.agg #[.bool n,.slice A l c,.bool m,.slice A' l' c']:=c0 _ (m_ 0 rfl) (by kernel_rfl);clear c0;refine wpOp_step (o:=_) rfl (fun K hK=>?_);simp only[FL]
    go_simp;(with_reducible refine(Read_any _ n m A A' l c l' c').mono ?_)
    rintro e wc26 ⟨v0,rfl⟩;refine hK _ _ ⟨.agg #[.bool n,.slice A l c,.slice A' l' c'],by simp only[FL,f0] <;> kernel_rfl,v0,rfl,nF⟩
   ·intro xs u1 b0 c0;clear b0;have f1:(xs 1)=.agg #[.bool n,.slice A l c,.slice A' l' c']:=c0 _ (m_ 1 rfl) (by kernel_rfl);clear c0;refine wpOp_step (o:=_) rfl (fun K hK=>?_);simp only[FL]
    go_simp;refine hK _ _ ⟨.agg #[.bool n,.slice A l c],by simp only[FL,f1] <;> kernel_rfl,Below.refl _ _,rfl,nF⟩
   ·intro xs w1 b0 c0;have l0:=zz b0;have y1:=b0.size;clear b0;have f2:(xs 2)=.agg #[.bool n,.slice A l c]:=c0 _ (m_ 2 rfl) (by kernel_rfl);clear c0;refine wpOp_step (o:=_) rfl (fun K hK=>?_);simp only[FL]
    go_simp;have m0:=zz (WV.step HW.out l0.out);(with_reducible refine(wSign_any _ _ q.num m0.out).mono ?_)
    rintro e wc30 ⟨y0,rfl⟩;refine hK _ _ ⟨.int .i64 q.num.sign,by simp only[FL,f2] <;> kernel_rfl,y0,rfl,nF⟩
   ·intro xs z1 b0 c0;have n0:=zz b0;have A1:=b0.size;clear b0;clear c0;refine wpOp_step (o:=_) rfl (fun K hK=>?_);simp only[FL]
    have g0:=CB.step La n0.out;have T0:=g0.cell 0 rfl;have U0:=g0.cell 1 rfl;have V0:=g0.cell 2 rfl;have W0:=g0.cell 3 rfl;go_simp;refine hK _ _ ⟨.agg #[.bool n,.slice A l c,.bool m,.slice A' l' c'],by kernel_rfl,Below.refl _ _,rfl,nF⟩
   ·intro xs B1 b0 c0;have o0:=zz b0;have C1:=b0.size;clear b0;have f4:(xs 4)=.agg #[.bool n,.slice A l c,.bool m,.slice A' l' c']:=c0 _ (m_ 4 rfl) (by kernel_rfl);clear c0;refine wpOp_step (o:=_) rfl (fun K hK=>?_);simp only[FL]
    go_simp;have p0:=zz (QR.step HA.out o0.out);(with_reducible refine((show Calls Tryz.prog _ _ _ _ from(show chkQ n a m b=0 from chkQ_some HQ.out)▸QCheck_any _ _ n a m b p0.out)).mono ?_)
    rintro e wc36 ⟨A0,rfl⟩;refine hK _ _ ⟨.int .i64 0,by simp only[FL,f4] <;> kernel_rfl,A0,rfl,nF⟩
   ·intro xs D1 b0 c0;clear b0;have f3:(xs 3)=.int .i64 q.num.sign:=c0 _ (m_ 3 rfl) (by kernel_rfl);have f5:(xs 5)=.int .i64 0:=c0 _ (m_ 5 rfl) (by kernel_rfl);clear c0;refine wpOp_step (o:=_) rfl (fun K hK=>?_);simp only[FL]
    go_simp;(with_reducible refine(madeI_any _ q.num.sign 0).mono ?_)
    rintro e wc38 ⟨C0,rfl⟩;rw[if_pos rfl];refine hK _ _ ⟨.tuple #[.int .i64 q.num.sign,.int .i64 0],by simp only[FL,f3,f5] <;> kernel_rfl,C0,rfl,nF⟩
   ·intro xs F1 b0 c0;clear b0;have f6:(xs 6)=.tuple #[.int .i64 q.num.sign,.int .i64 0]:=c0 _ (m_ 6 rfl) (by kernel_rfl);clear c0;refine wpOp_step (o:=_) rfl (fun K hK=>?_);simp only[FL]
    go_simp;refine hK _ _ ⟨.int .i64 q.num.sign,by simp only[FL,f6] <;> kernel_rfl,Below.refl _ _,rfl,nF⟩
   ·intro xs H1 b0 c0;clear b0;have f6:(xs 6)=.tuple #[.int .i64 q.num.sign,.int .i64 0]:=c0 _ (m_ 6 rfl) (by kernel_rfl);clear c0;refine wpOp_step (o:=_) rfl (fun K hK=>?_);simp only[FL]
    go_simp;refine hK _ _ ⟨.int .i64 0,by simp only[FL,f6] <;> kernel_rfl,Below.refl _ _,rfl,nF⟩
  ·exact all_nil
  ·intro xs X1 hbf hf hn hd;have f0:(xs 0)=.agg #[.bool n,.slice A l c,.bool m,.slice A' l' c']:=hf _ (m_ 0 rfl);have f1:(xs 1)=.agg #[.bool n,.slice A l c,.slice A' l' c']:=hf _ (m_ 1 rfl);have f2:(xs 2)=.agg #[.bool n,.slice A l c]:=hf _ (m_ 2 rfl);have f3:(xs 3)=.int .i64 q.num.sign:=hf _ (m_ 3 rfl);have f4:(xs 4)=.agg #[.bool n,.slice A l c,.bool m,.slice A' l' c']:=hf _ (m_ 4 rfl);have f5:(xs 5)=.int .i64 0:=hf _ (m_ 5 rfl);have f6:(xs 6)=.tuple #[.int .i64 q.num.sign,.int .i64 0]:=hf _ (m_ 6 rfl);have f7:(xs 7)=.int .i64 q.num.sign:=hf _ (m_ 7 rfl);have f8:(xs 8)=.int .i64 0:=hf _ (m_ 8 rfl);clear hf hn hd;simp only[FL]
   have B42:=zz hbf;have z42:=B42.out.size;have D0:=zz (B0.out.trans (B42.out.mono B0.out.size));clear hbf;generalize xs 0=x0,xs 1=x1,xs 2=x2,xs 3=x3,xs 4=x4,xs 5=x5,xs 6=x6,xs 7=x7,xs 8=x8 at *
   obtain rfl:=f0;obtain rfl:=f1;obtain rfl:=f2;obtain rfl:=f3;obtain rfl:=f4;obtain rfl:=f5;obtain rfl:=f6;obtain rfl:=f7;obtain rfl:=f8;refine Early.next (i:=9) (by kernel_rfl) rfl (fun K hK=>?_);go_simp;refine hK _ _ (fun _=>trivial) ?_;clear hK K;(try simp only[Act.put,List.setIfInBounds_toArray,List.set_cons_zero,List.set_cons_succ])
   refine Early.next (i:=10) (by kernel_rfl) rfl (fun K hK=>?_);go_simp;refine hK _ _ (fun _=>trivial) ?_;clear hK K;(try simp only[Act.put,List.setIfInBounds_toArray,List.set_cons_zero,List.set_cons_succ])
   refine Early.done (by kernel_rfl) ?_ _;(try simp only[Exit.then])
   go_wp2;go_ret2;exact⟨D0.out,rfl⟩
end Go.Proofs.YtngpibfakemmhaaGreatDoor
