/- Layer 04: Make, Of, Cmp, Floor (written by gen_ql.py). -/
import Derived.Test.YtkhljkiehohckaaGreatDoorQK
namespace Go.Proofs.YtkhljkiehohckaaGreatDoor
open Go Go.RowKit Dig
theorem divInt_sgn (x:Int) {y:Int} (h:y≠0):Rat.divInt x y=mkRat (x*y.sign) y.natAbs:=by
 rcases Int.lt_or_gt_of_ne h with h1 | h1
 ·rw[Int.sign_eq_neg_one_of_neg h1,Int.mul_neg,Int.mul_one,← Rat.divInt_ofNat,show((y.natAbs:Nat):Int)=-y by omega,Rat.divInt_neg',Int.neg_neg]
 ·rw[Int.sign_eq_one_of_pos h1,Int.mul_one,← Rat.divInt_ofNat,show((y.natAbs:Nat):Int)=y by omega]
noncomputable def mkQ (x y:Int):Option Rat × Int:=if y=0 then (none,7) else toldQ (Rat.divInt x y)
theorem dec_sign (y:Int):decide (y<0)=decide (y.sign<0):=by
 rcases Int.lt_trichotomy y 0 with h | h | h
 ·rw[Int.sign_eq_neg_one_of_neg h,decide_eq_true h];rfl
 ·subst h;rfl
 ·rw[Int.sign_eq_one_of_pos h,decide_eq_false (by omega)];rfl
set_option maxRecDepth 100000 in
set_option maxHeartbeats 4000000 in
theorem QMake_good (w:World) (va vb:Value) (x y:Int) (ha:LV w w.heap.size va x) (hb:LV w w.heap.size vb y) (lx:(dig x.natAbs).length≤600) (ly:(dig y.natAbs).length≤600) :
  Calls Tryz.prog 87 #[va,vb] w fun e w'=>Below w.heap.size w w'∧RetQ w' (mkQ x y) e:=by
 obtain⟨t,ht⟩:∃ t,t=mkQ x y:=⟨_,rfl⟩;rw[← ht];have HT:=zz ht;clear ht;obtain⟨n,A,l,c,rfl,ha⟩:=ha.opened;obtain⟨m,B,k,d,rfl,hb⟩:=hb.opened;have HA:=zz ha;have HB:=zz hb;have u1:=zz lx;have v1:=zz ly;clear ha hb lx ly;obtain⟨w0,hw0⟩:∃ w0:World,w0=(((w.alloc (.cells #[.bool n,.slice A l c] 41)).alloc (.cells #[.bool m,.slice B k d] 41)).alloc (.cells #[.bool false,.slice none 0 0,.bool false,.slice none 0 0] 43)):=⟨_,rfl⟩;have B0:=zz (n3_b hw0);have z0:=n3_z hw0;have Ln:=n3_0 hw0;have Ld:=n3_1 hw0;have Lr4:=n3_2 hw0;replace HA:=zz (LV.step HA.out B0.out);replace HB:=zz (LV.step HB.out B0.out);have O1:=zz (show x*y.sign≠0→(!(n==m))=decide (x*y.sign<0) from fun h=>bne_sgn (fun _=>(LV.is HA.out).1) (fun _=>by rw[← dec_sign];exact(LV.is HB.out).1) h);have P1:=zz (LV.is HA.out).2.2;have G1:=zz (LV.is HB.out).2.2;go_enter Tryz.func87,Tryz.ntmps87
 go_upto_region 1 with (fail)
 rw[← hw0];clear hw0;have R0:=Ln.cell 0 rfl;have S0:=Ln.cell 1 rfl;have D1:=Ln.lt;have T0:=Ld.cell 0 rfl;have U0:=Ld.cell 1 rfl;have E1:=Ld.lt;go_wp2;clear R0 S0 D1 T0 U0 E1;go_loopw [12] (fun iv wr=>∃ j:Nat,j≤2∧iv=.int .i64 j∧Hid (Below w0.heap.size w0 wr)) (fun iv _=>2-(intOf iv).toNat)
 case atStart=>exact⟨0,by omega,rfl,zz (Below.refl _ _)⟩
 case round=>
  obtain⟨j,hj,rfl,HJ⟩:=hrel;have zj:=HJ.out.size;have q1:=zz (B0.out.trans (HJ.out.mono B0.out.size));obtain rfl | rfl | rfl:j=0∨j=1∨j=2:=by omega
  ·rw[show((0:Nat):Int)=0 from rfl];have hidx:∀ w:World,(Instr.index 158 (.agg #[.bool n,.slice A l c,.bool m,.slice B k d]) (.int .i64 0)).run Tryz.prog w=.ok (.agg #[.bool n,.slice A l c]) w:=fun _=>by kernel_rfl
   go_upto_region 4 with (fail)
   clear hidx;obtain⟨w3,k0⟩:∃ w3:World,w3=(wr.alloc (.cells #[.bool n,.slice A l c] 41)):=⟨_,rfl⟩;rw[← k0];have e0:=n1_0 k0;have za3:=n1_z k0;have B4:=zz (n1_b k0);have z4:=B4.out.size;have P0:=zz (q1.out.trans (B4.out.mono q1.out.size));clear k0;have V0:=e0.cell 0 rfl;have W0:=e0.cell 1 rfl;have F1:=e0.lt;go_wp2_with fail
   have P1_3_8:=zz (HJ.out.trans (B4.out.mono HJ.out.size));have X0:=zz (LV.step HA.out P1_3_8.out);refine(Check_good (n:=decide (x<0)) (l:=ni (dig (x).natAbs)) X0.out (valid_num u1.out)).mono ?_;rintro e w7 ⟨Q0,rfl⟩;have B10:=zz Q0;have z10:=B10.out.size;have n1:=zz (P0.out.trans (B10.out.mono P0.out.size));clear Q0;clear V0 W0 F1;go_wp2;go_roundw;have P1_4_12:=zz (P1_3_8.out.trans (B10.out.mono P1_3_8.out.size))
   case rel=>exact⟨1,by omega,by go_num,zz P1_4_12.out⟩
   case measure=>simp[intOf]
  ·rw[show((1:Nat):Int)=1 from rfl];have hidx:∀ w:World,(Instr.index 158 (.agg #[.bool n,.slice A l c,.bool m,.slice B k d]) (.int .i64 1)).run Tryz.prog w=.ok (.agg #[.bool m,.slice B k d]) w:=fun _=>by kernel_rfl
   go_upto_region 4 with (fail)
   clear hidx;obtain⟨w13,c0⟩:∃ w13:World,w13=(wr.alloc (.cells #[.bool m,.slice B k d] 41)):=⟨_,rfl⟩;rw[← c0];have d0:=n1_0 c0;have za13:=n1_z c0;have B14:=zz (n1_b c0);have z14:=B14.out.size;have n0:=zz (q1.out.trans (B14.out.mono q1.out.size));clear c0;have x0:=d0.cell 0 rfl;have y0:=d0.cell 1 rfl;have w1:=d0.lt;go_wp2_with fail
   have P1_3_18:=zz (HJ.out.trans (B14.out.mono HJ.out.size));have A0:=zz (LV.step HB.out P1_3_18.out);refine(Check_good (n:=decide (y<0)) (l:=ni (dig (y).natAbs)) A0.out (valid_num v1.out)).mono ?_;rintro e w17 ⟨o0,rfl⟩;have B20:=zz o0;have z20:=B20.out.size;have o1:=zz (n0.out.trans (B20.out.mono n0.out.size));clear o0;clear x0 y0 w1;go_wp2;go_roundw;have P1_4_22:=zz (P1_3_18.out.trans (B20.out.mono P1_3_18.out.size))
   case rel=>exact⟨2,by omega,by go_num,zz P1_4_22.out⟩
   case measure=>simp[intOf]
  ·rw[show((2:Nat):Int)=2 from rfl];by_cases h0:y=0
   ·have H1:=zz (show t=(none,7) by rw[HT.out,mkQ,if_pos h0]);have p0:=zz (RN.step G1.out HJ.out);have Z0:((k:Int)==0)=true:=by rw[beq_iff_eq,RN.len p0.out,h0,show(0:Int).natAbs=0 from rfl,dig_zero];rfl
    clear h0;have f0:=CB.step Ln HJ.out;have a1:=f0.cell 0 rfl;have b1:=f0.cell 1 rfl;have Q1:=f0.lt;have g0:=CB.step Ld HJ.out;have c1:=g0.cell 0 rfl;have d1:=g0.cell 1 rfl;have R1:=g0.lt;have a0:=CB.step Lr4 HJ.out;have e1:=a0.cell 0 rfl;have f1:=a0.cell 1 rfl;have g1:=a0.cell 2 rfl;have h1:=a0.cell 3 rfl;have S1:=a0.lt;have i1:=a0.frozen 0;have j1:=a0.frozen 1;have k1:=a0.frozen 2;have l1:=a0.frozen 3;have T1:=a0.lt;go_wp2;exact QB.fin rfl a0 (by simp[noInt_b,noInt_s]) q1.out (by omega) (by rw[H1.out];exact zeroQ _ _) rfl (by rw[H1.out];rfl)
   ·have c2:=zz h0;replace HT:=zz (show t=toldQ (mkRat (x*y.sign) y.natAbs) by rw[HT.out,mkQ,if_neg h0,divInt_sgn _ h0]);have l0:=zz (RN.step G1.out HJ.out);have Z0:((k:Int)==0)=false:=by
     rw[beq_eq_false_iff_ne,RN.len l0.out];have:=dig_len_pos (n:=y.natAbs) (by omega);omega
    have hnz:y.natAbs≠0:=by omega
    have r1:=zz hnz;have x1:=zz (show(x*y.sign).natAbs=x.natAbs by rw[Int.natAbs_mul,Int.natAbs_sign_of_ne_zero h0,Nat.mul_one]);clear h0 hnz;have q0:=zz (RN.step P1.out HJ.out);have U1:=zz (show TV wr wr.heap.size (.agg #[.bool (!(n==m)),.slice A l c,.slice B k d]) (x*y.sign) y.natAbs from TV.mk (by rw[x1.out];exact q0.out) l0.out O1.out);have i0:=CB.step Ln HJ.out;have C0:=i0.cell 0 rfl;have D0:=i0.cell 1 rfl;have y1:=i0.lt;have j0:=CB.step Ld HJ.out;have E0:=j0.cell 0 rfl;have F0:=j0.cell 1 rfl;have z1:=j0.lt;go_wp2_with fail
    refine(reduced_any _ _ (x*y.sign) y.natAbs U1.out r1.out (by rw[x1.out];have:=u1.out;omega) (by have:=v1.out;omega)).mono ?_;rintro e w33 ⟨r0,v,rfl,hv⟩;have B38:=zz r0;have z38:=B38.out.size;have s0:=zz (q1.out.trans (B38.out.mono q1.out.size));clear r0;clear C0 D0 y1 E0 F0 z1;replace hv:RV w33 w33.heap.size v (mkRat (x*y.sign) y.natAbs):=by unfold RV;rw[(rat_reduced r1.out).1,(rat_reduced r1.out).2];exact hv
    obtain⟨I1,J1,K1,L1,M1,G0,N1,rfl,ha40,t0,hc40⟩:=hv;have u0:Hid (RV w33 w33.heap.size (.agg #[.bool I1,.slice J1 K1 L1,.slice M1 G0 N1]) (mkRat (x*y.sign) y.natAbs)):=zz (TV.mk ha40 t0 hc40);clear ha40 t0 hc40;go_wp2_with fail
    refine(ToldR_any _ _ (mkRat (x*y.sign) y.natAbs) u0.out (QL.mk' (by rw[x1.out];have:=u1.out;omega) (by have:=v1.out;omega) r1.out)).mono ?_;rintro e w41 ⟨v0,v,rfl,hv⟩;have B42:=zz v0;have z42:=B42.out.size;have Y0:=zz (s0.out.trans (B42.out.mono s0.out.size));clear v0;rw[← HT.out] at hv ⊢;have hg44:=hv;obtain⟨V1,W1,X1,Y1,Z1,a2,m1,b2,rfl⟩:=QO.cells hg44;have m0:=zz hg44;clear hg44;have P1_3_46:=zz (HJ.out.trans (B38.out.mono HJ.out.size));have P1_4_47:=zz (P1_3_46.out.trans (B42.out.mono P1_3_46.out.size));have b0:=CB.step Lr4 P1_4_47.out;have H0:=b0.cell 0 rfl;have I0:=b0.cell 1 rfl;have J0:=b0.cell 2 rfl;have K0:=b0.cell 3 rfl;have A1:=b0.lt;have L0:=b0.frozen 0;have M0:=b0.frozen 1;have N0:=b0.frozen 2;have O0:=b0.frozen 3;have B1:=b0.lt;go_wp2;clear H0 I0 J0 K0 A1 L0 M0 N0 O0 B1;exact QB.fin rfl b0 (by simp[noInt_b,noInt_s]) Y0.out (by omega) m0.out rfl rfl
theorem fit_i64 {n:Int} (h0:-9223372036854775808≤n) (h1:n≤9223372036854775807):(dig n.natAbs).length≤3:=by rw[dig_len_le];show n.natAbs<1000000000000000000000000000;omega
set_option maxRecDepth 100000 in
set_option maxHeartbeats 4000000 in
theorem QOf_any (w:World) (n d:Int) (hn0:-9223372036854775808≤n) (hn1:n≤9223372036854775807) (hd0:-9223372036854775808≤d) (hd1:d≤9223372036854775807) :
  Calls Tryz.prog 48 #[.int .i64 n,.int .i64 d] w fun e w'=>Below w.heap.size w w'∧RetQ w' (mkQ n d) e:=by
 obtain⟨t,ht⟩:∃ t,t=mkQ n d:=⟨_,rfl⟩;rw[← ht];have HT:=zz ht;clear ht;have HN:=zz (And.intro hn0 hn1);have HD:=zz (And.intro hd0 hd1);have FN:=zz (show(dig n.natAbs).length≤600 from Nat.le_trans (fit_i64 hn0 hn1) (by decide));have FD:=zz (show(dig d.natAbs).length≤600 from Nat.le_trans (fit_i64 hd0 hd1) (by decide));clear hn0 hn1 hd0 hd1;obtain⟨w0,hw0⟩:∃ w0:World,w0=(w.alloc (.cells #[.bool false,.slice none 0 0,.bool false,.slice none 0 0] 43)):=⟨_,rfl⟩;have B0:=zz (n1_b hw0);have z0:=n1_z hw0;have Lr4:=n1_0 hw0;go_enter Tryz.func48,Tryz.ntmps48
 go_upto_region 1 with (fail)
 rw[← hw0];clear hw0;go_wp2_with fail
 refine(Of_any _ n HN.out.1 HN.out.2).mono ?_;rintro e w1 ⟨l0,v,rfl,hv⟩;have B2:=zz l0;have z2:=B2.out.size;have m0:=zz (B0.out.trans (B2.out.mono B0.out.size));clear l0;obtain⟨n4,N0,l4,c4,rfl,n0⟩:=hv.opened;have s0:=zz n0;clear hv n0;go_wp2_with fail
 refine(Of_any _ d HD.out.1 HD.out.2).mono ?_;rintro e w5 ⟨o0,v,rfl,hv⟩;have B6:=zz o0;have z6:=B6.out.size;have p0:=zz (m0.out.trans (B6.out.mono m0.out.size));clear o0;obtain⟨n8,O0,l8,c8,rfl,q0⟩:=hv.opened;have t0:=zz q0;clear hv q0;go_wp2_with fail
 have c0:=zz (LV.step s0.out B6.out);refine(QMake_good _ _ _ n d c0.out t0.out FN.out FD.out).mono ?_;rintro e w9 ⟨r0,v,rfl,hv⟩;have B11:=zz r0;have z11:=B11.out.size;have u0:=zz (p0.out.trans (B11.out.mono p0.out.size));clear r0;rw[← HT.out] at hv ⊢;have hg13:=hv;obtain⟨G0,H0,I0,J0,K0,L0,v0,M0,rfl⟩:=QO.cells hg13;have b0:=zz hg13;clear hg13;have P1_3_15:=zz (B2.out.trans (B6.out.mono B2.out.size));have P1_4_16:=zz (P1_3_15.out.trans (B11.out.mono P1_3_15.out.size));have a0:=CB.step Lr4 P1_4_16.out;have d0:=a0.cell 0 rfl;have e0:=a0.cell 1 rfl;have f0:=a0.cell 2 rfl;have g0:=a0.cell 3 rfl;have x0:=a0.lt;have h0:=a0.frozen 0;have i0:=a0.frozen 1;have j0:=a0.frozen 2;have k0:=a0.frozen 3;have y0:=a0.lt;go_wp2;clear d0 e0 f0 g0 x0 h0 i0 j0 k0 y0;exact QB.fin rfl a0 (by simp[noInt_b,noInt_s]) u0.out (by omega) b0.out rfl rfl
def cmpR (q r:Rat):Int:=(q.num*(r.den:Int)+-r.num*(q.den:Int)).sign
noncomputable def cmpQ:Option Rat→Option Rat→Int × Int
 | some q,some r=>(cmpR q r,0)
 | _,_=>(0,40)
theorem cmpQ_no {o p:Option Rat} (h:o=none∨p=none):cmpQ o p=(0,40):=by
 rcases h with rfl | rfl
 ·rfl
 ·cases o <;> rfl
theorem toldQ_whole (z:Int):toldQ (mkRat z 1)=if (dig z.natAbs).length≤600 then (some (mkRat z 1),0) else (none,6):=by
 obtain⟨h1,h2⟩:=mkRat_low (x:=z) (y:=1) (by decide) (Nat.gcd_one_right _);unfold toldQ;by_cases h:(dig z.natAbs).length≤600
 ·rw[if_pos (show fitQ (mkRat z 1) from⟨by rw[h1];exact h,by rw[h2,dig1];decide⟩),if_pos h]
 ·rw[if_neg (fun k:fitQ (mkRat z 1)=>h (by have k1:=k.1;rw[h1] at k1;exact k1)),if_neg h]
theorem floor_len (z:Int) {d:Nat} (hd:d≠0):(dig (z / (d:Int)).natAbs).length≤(dig z.natAbs).length+2:=by
 have h:(z / (d:Int)).natAbs≤z.natAbs+1:=by
  have h0:=Nat.div_le_self z.natAbs d;by_cases hr:z.natAbs % d=0
  ·rw[(floor_exact hr).1];omega
  ·by_cases hz:0≤z
   ·rw[(floor_up hz).1];omega
   ·rw[(floor_down hd (by omega) hr).1,Int.natAbs_neg,Int.natAbs_natCast];omega
 exact Nat.le_trans (dig_len_mono h) (dig_len_add _ _ (Nat.le_succ _) (by rw[dig1];simp))
set_option maxRecDepth 100000 in
set_option maxHeartbeats 4000000 in
theorem QFloor_good (w:World) (va:Value) (q:Rat) (ha:QV w w.heap.size va q) (lq:QL 600 600 q) :
  Calls Tryz.prog 45 #[va] w fun e w'=>Below w.heap.size w w'∧RetL w' (toldZ (q.num / (q.den:Int))) e:=by
 obtain⟨z,hz⟩:∃ z,z=q.num / (q.den:Int):=⟨_,rfl⟩;rw[← hz];have HZ:=zz hz;have HL:=zz (show(dig z.natAbs).length≤602 by rw[hz];have:=floor_len q.num q.den_nz;have:=lq.1;omega);clear hz;obtain⟨n,A,l,c,m,A',l',c',rfl⟩:=QO.cells (show QO w w.heap.size va (some q) from ha);obtain rfl:=(QV.is ha).2.2.2;have HA:=zz ha;have U2:=zz lq;clear ha lq;obtain⟨w0,hw0⟩:∃ w0:World,w0=((w.alloc (.cells #[.bool n,.slice A l c,.bool false,.slice A' l' c'] 43)).alloc (.cells #[.bool false,.slice none 0 0] 41)):=⟨_,rfl⟩;have B0:=zz (n2_b hw0);have z0:=n2_z hw0;have La:=n2_0 hw0;have Lr2:=n2_1 hw0;replace HA:=zz (QV.step HA.out B0.out);go_enter Tryz.func45,Tryz.ntmps45
 go_upto_region 1 with (fail)
 rw[← hw0];clear hw0;have E1:=La.cell 0 rfl;have F1:=La.cell 1 rfl;have G1:=La.cell 2 rfl;have H1:=La.cell 3 rfl;have Q2:=La.lt;go_wp2_with fail
 refine(QCheck_good HA.out U2.out).mono ?_;rintro e w1 ⟨z1,rfl⟩;have B3:=zz z1;have z3:=B3.out.size;have B1:=zz (B0.out.trans (B3.out.mono B0.out.size));clear z1;clear E1 F1 G1 H1 Q2;have i0:=CB.step La B3.out;have I1:=i0.cell 0 rfl;have J1:=i0.cell 1 rfl;have K1:=i0.cell 2 rfl;have L1:=i0.cell 3 rfl;have R2:=i0.lt;go_wp2_with fail
 refine(Read_any _ n false A A' l c l' c').mono ?_;rintro e w5 ⟨C1,rfl⟩;have B8:=zz C1;have z8:=B8.out.size;have D1:=zz (B1.out.trans (B8.out.mono B1.out.size));clear C1;clear I1 J1 K1 L1 R2;go_wp2_with fail
 have P1_3_11:=zz (B3.out.trans (B8.out.mono B3.out.size));have J0:=zz (QV.step HA.out P1_3_11.out);refine(floor_any _ _ q.num q.den (QV.read J0.out) q.den_nz (by have:=U2.out.1;omega)).mono ?_;rintro e w10 ⟨p0,v,rfl,hv⟩;have B13:=zz p0;have z13:=B13.out.size;have q0:=zz (D1.out.trans (B13.out.mono D1.out.size));clear p0;rw[← HZ.out] at hv;obtain⟨u2,v2,y2,z2,rfl,ha15,r0⟩:=hv;have K0:=zz (WV.mk ha15 r0);clear ha15 r0;generalize decide (q.num % (q.den:Int)≠0)=bit;go_upto_region 5 with (fail)
 obtain⟨w16,m0⟩:∃ w16:World,w16=(w10.alloc (.cells #[.bool u2,.slice v2 y2 z2] 118)):=⟨_,rfl⟩;rw[← m0];have L0:=n1_0 m0;have za16:=n1_z m0;have B17:=zz (n1_b m0);have z17:=B17.out.size;have s0:=zz (q0.out.trans (B17.out.mono q0.out.size));clear m0;have M0:=zz (WV.step K0.out B17.out);have V2:=zz (WV.is M0.out);have a3:=zz V2.out.1;obtain⟨t,ht⟩:∃ t,t=toldQ (mkRat z 1):=⟨_,rfl⟩;have HT:=zz ht;clear ht;refine Flow.run [⟨0,22,fun fv fw=>fv=.agg #[.bool u2,.slice v2 y2 z2]⟩,⟨1,23,fun fv fw=>RN fw fw.heap.size fv (dig 1)⟩,⟨2,24,fun fv fw=>TV fw fw.heap.size fv z 1⟩,⟨3,25,fun fv fw=>∃ u,fv=.tuple #[u,.int .i64 t.2]∧QO fw fw.heap.size u t.1⟩,⟨4,21,fun fv fw=>∃ u,fv=.tuple #[u,.int .i64 t.2]∧QO fw fw.heap.size u t.1⟩,⟨5,26,fun fv fw=>QO fw fw.heap.size fv t.1⟩,⟨7,7,fun fv fw=>∃ b,fv=.pointer (some ⟨b,0,none⟩)∧CB fw b 43 #[.bool false,.slice none 0 0,.bool false,.slice none 0 0]⟩] [⟨6,27,fun fv fw=>fv=.int .i64 t.2⟩] [7] 2 (by kernel_rfl) (by kernel_rfl) (by kernel_rfl) (fun _ _ _ _ _ h=>h) ?_ ?_ ?_ ?_
 ·refine(a0 (all_cons (fun v w1 w2 h hb=>h.step hb) (all_cons (fun v w1 w2 h hb=>h.step hb) (all_cons (fun v w1 w2 h hb=>let ⟨u,e,h⟩:=h;⟨u,e,QO.step (o:=t.1) h hb⟩) (all_cons (fun v w1 w2 h hb=>let ⟨u,e,h⟩:=h;⟨u,e,QO.step (o:=t.1) h hb⟩) (all_cons (fun v w1 w2 h hb=>QO.step (o:=t.1) h hb) (all_cons (fun v w1 w2 h hb=>let ⟨b,e,h⟩:=h;⟨b,e,h.step hb⟩) (a0 all_nil))))))))
 ·refine(all_cons ?_ (all_cons ?_ (all_cons ?_ (all_cons ?_ (all_cons ?_ (all_cons ?_ (all_cons ?_ all_nil)))))))
  ·intro xs d2 b0 c0;have N0:=zz b0;have e2:=b0.size;clear b0;clear c0;refine wpOp_step (o:=_) rfl (fun K hK=>?_);simp only[FL]
   have o0:=CB.step L0 N0.out;have U1:=o0.cell 0 rfl;have V1:=o0.cell 1 rfl;go_simp;refine hK _ _ ⟨.agg #[.bool u2,.slice v2 y2 z2],by kernel_rfl,Below.refl _ _,rfl,nF⟩
  ·intro xs g2 b0 c0;clear b0;clear c0;refine wpOp_step (o:=_) rfl (fun K hK=>?_);simp only[FL]
   go_simp;(with_reducible refine(one_any _).mono ?_)
   rintro e wc24 ⟨M1,v24,rfl,N1⟩;refine hK _ _ ⟨v24,by kernel_rfl,M1,N1,nF⟩
  ·intro xs t0 b0 c0;have O0:=zz b0;have i2:=b0.size;clear b0;have f0:(xs 0)=.agg #[.bool u2,.slice v2 y2 z2]:=c0 _ (m_ 0 rfl) (by kernel_rfl);have f1:RN t0 t0.heap.size (xs 1) (dig 1):=c0 _ (m_ 1 rfl) (by kernel_rfl);clear c0;refine wpOp_step (o:=_) rfl (fun K hK=>?_);simp only[FL]
   obtain⟨A1,c1,hx1,-⟩:=RN.cell f1;have r1:=f1;rw[hx1] at r1 ⊢;have u0:=zz (RN.step a3.out O0.out);go_simp;refine hK _ _ ⟨.agg #[.bool u2,.slice v2 y2 z2,.slice A1 (dig 1).length c1],by simp only[FL,f0,hx1] <;> kernel_rfl,Below.refl _ _,TV.mk u0.out r1 V2.out.2,nF⟩
  ·intro xs v0 b0 c0;have X1:=zz b0;have j2:=b0.size;clear b0;have f2:TV v0 v0.heap.size (xs 2) z 1:=c0 _ (m_ 2 rfl) (by kernel_rfl);clear c0;refine wpOp_step (o:=_) rfl (fun K hK=>?_);simp only[FL]
   go_simp;(with_reducible refine((show Calls Tryz.prog _ _ _ _ from HT.out▸Told_any _ _ z 1 f2 (by decide) (Nat.gcd_one_right _) (by have:=HL.out;omega) (by rw[dig1];decide))).mono ?_)
   rintro e wc28 ⟨O1,v28,rfl,P1⟩;refine hK _ _ ⟨.tuple #[v28,.int .i64 t.2],by kernel_rfl,O1,⟨v28,rfl,P1⟩,nF⟩
  ·intro xs y0 b0 c0;clear b0;have f3:∃ u,(xs 3)=.tuple #[u,.int .i64 t.2]∧QO y0 y0.heap.size u t.1:=c0 _ (m_ 3 rfl) (by kernel_rfl);clear c0;refine wpOp_step (o:=_) rfl (fun K hK=>?_);simp only[FL]
   obtain⟨u,hu,hl⟩:=f3;rw[hu];go_simp;refine hK _ _ ⟨.tuple #[u,.int .i64 t.2],by simp only[FL,hu] <;> kernel_rfl,Below.refl _ _,⟨u,rfl,hl⟩,nF⟩
  ·intro xs A0 b0 c0;clear b0;have f4:∃ u,(xs 4)=.tuple #[u,.int .i64 t.2]∧QO A0 A0.heap.size u t.1:=c0 _ (m_ 4 rfl) (by kernel_rfl);clear c0;refine wpOp_step (o:=_) rfl (fun K hK=>?_);simp only[FL]
   obtain⟨u,hu,hl⟩:=f4;rw[hu];go_simp;refine hK _ _ ⟨u,by simp only[FL,hu] <;> kernel_rfl,Below.refl _ _,hl,nF⟩
  ·intro xs Q1 b0 c0;clear b0;clear c0;refine wpOp_step (o:=_) rfl (fun K hK=>?_);simp only[FL]
   go_simp;refine hK _ _ ⟨.pointer (some ⟨Q1.heap.size,0,none⟩),by kernel_rfl,(Below.refl _ _).alloc (Nat.le_refl _) _,⟨_,rfl,CB.new _ _ _⟩,fun _=>⟨_,rfl,Nat.le_refl _,by simp⟩⟩
 ·refine(all_cons ?_ all_nil)
  ·intro xs C0 b0 c0;clear b0;have f4:∃ u,(xs 4)=.tuple #[u,.int .i64 t.2]∧QO C0 C0.heap.size u t.1:=c0 _ (m_ 4 rfl) (by kernel_rfl);clear c0;obtain⟨u,hu,-⟩:=f4;refine⟨_,.int .i64 t.2,rfl,Or.inl ⟨by rfl,fun w=>?_⟩,rfl⟩;simp only[FL]
   rw[hu];go_simp
 ·intro xs s2 hbf hf hn hd;have f0:(xs 0)=.agg #[.bool u2,.slice v2 y2 z2]:=hf _ (m_ 0 rfl);have f1:RN s2 s2.heap.size (xs 1) (dig 1):=hf _ (m_ 1 rfl);have f2:TV s2 s2.heap.size (xs 2) z 1:=hf _ (m_ 2 rfl);have f3:∃ u,(xs 3)=.tuple #[u,.int .i64 t.2]∧QO s2 s2.heap.size u t.1:=hf _ (m_ 3 rfl);have f4:∃ u,(xs 4)=.tuple #[u,.int .i64 t.2]∧QO s2 s2.heap.size u t.1:=hf _ (m_ 4 rfl);have f5:QO s2 s2.heap.size (xs 5) t.1:=hf _ (m_ 5 rfl);have f7:∃ b,(xs 7)=.pointer (some ⟨b,0,none⟩)∧CB s2 b 43 #[.bool false,.slice none 0 0,.bool false,.slice none 0 0]:=hf _ (m_ 6 rfl);have f6:(xs 6)=.int .i64 t.2:=hf _ (m_ 7 rfl);have n7:=hn 7 (by decide);clear hf hn hd;simp only[FL]
  have B34:=zz hbf;have z34:=B34.out.size;have R1:=zz (s0.out.trans (B34.out.mono s0.out.size));clear hbf;generalize xs 0=x0,xs 1=x1,xs 2=x2,xs 3=x3,xs 4=x4,xs 5=x5,xs 7=x7,xs 6=x6 at *
  obtain rfl:=f0;clear f1;clear f2;clear f3;clear f4;have hg36:=f5;obtain⟨A2,B2,C2,D2,X2,Y2,P0,Z2,rfl⟩:=QO.cells hg36;have Q0:=zz hg36;clear hg36;obtain⟨t2,rfl,r2⟩:=f7;have E2:=zz (show w16.heap.size≤t2 by obtain⟨b',e,h,-⟩:=n7;injection e with e;injection e with e;injection e with e _ _;omega);clear n7;have S2:=r2.lt;have T2:=E2.out;obtain rfl:=f6;have R0:=r2.cell 0 rfl;have S0:=r2.cell 1 rfl;have T0:=r2.cell 2 rfl;have U0:=r2.cell 3 rfl;have H2:=r2.lt;have V0:=r2.frozen 0;have W0:=r2.frozen 1;have X0:=r2.frozen 2;have Y0:=r2.frozen 3;have I2:=r2.lt;refine Early.next (i:=8) (by kernel_rfl) rfl (fun K hK=>?_);go_simp;refine hK _ _ (fun _=>trivial) ?_;clear hK K;(try simp only[Act.put,List.setIfInBounds_toArray,List.set_cons_zero,List.set_cons_succ])
  clear R0 S0 T0 U0 H2 V0 W0 X0 Y0 I2;refine Early.next (i:=9) (by kernel_rfl) rfl (fun K hK=>?_);go_simp;refine hK _ _ (fun _=>trivial) ?_;clear hK K;(try simp only[Act.put,List.setIfInBounds_toArray,List.set_cons_zero,List.set_cons_succ])
  refine Early.done (by kernel_rfl) ?_ _;(try simp only[Exit.then])
  have P2_4_42:=zz (B8.out.trans (B13.out.mono B8.out.size));have P2_5_43:=zz (P2_4_42.out.trans (B17.out.mono P2_4_42.out.size));have P2_6_44:=zz (P2_5_43.out.trans (B34.out.mono P2_5_43.out.size));have Z0:=CB.step i0 P2_6_44.out;have P1_4_46:=zz (P1_3_11.out.trans (B13.out.mono P1_3_11.out.size));have P1_5_47:=zz (P1_4_46.out.trans (B17.out.mono P1_4_46.out.size));have P1_6_48:=zz (P1_5_47.out.trans (B34.out.mono P1_5_47.out.size));have D0:=CB.step Lr2 P1_6_48.out;obtain⟨w49,h0⟩:∃ w49:World,w49=((((s2.setCell ⟨t2,0,none⟩ (.bool A2)).setCell ⟨t2,1,none⟩ (.slice B2 C2 D2)).setCell ⟨t2,2,none⟩ (.bool X2)).setCell ⟨t2,3,none⟩ (.slice Y2 P0 Z2)):=⟨_,rfl⟩;rw[← h0];have S49:=zz (p4_s h0 r2 (by simp[noInt_b,noInt_s]));have c2:=p4_f h0 Z0 (by omega);have n0:=p4_f h0 D0 (by omega);have d0:=p4_p h0 r2;have l0:=zz (p4_b h0 R1.out (by omega));have o2:=p4_z h0;clear h0;by_cases hfit:(dig z.natAbs).length≤600
  ·have G2:=zz (show t=(some (mkRat z 1),0) by rw[HT.out,toldQ_whole,if_pos hfit]);have F2:=zz (show toldZ z=(z,0) from if_pos hfit);clear hfit;have a1:=zz (QO.soft Q0.out (S49.out));have b3:=zz (show LV w49 w49.heap.size (.agg #[.bool A2,.slice B2 C2 D2]) z from by have h:QO _ _ _ t.1:=a1.out;rw[G2.out] at h;have h1:=QV.fst (show QV _ _ _ (mkRat z 1) from h);rw[(mkRat_low (x:=z) (y:=1) (by decide) (Nat.gcd_one_right _)).1] at h1;exact h1);rw[show t.2=0 by rw[G2.out]];have b1:=d0.cell 0 rfl;have d1:=d0.cell 1 rfl;have e1:=d0.cell 2 rfl;have g1:=d0.cell 3 rfl;have J2:=d0.lt;go_wp2_with fail
   refine(madeG_yes _ A2 B2 C2 D2).mono ?_;rintro e w51 ⟨E0,rfl⟩;have B53:=zz E0;have z53:=B53.out.size;have S1:=zz (l0.out.trans (B53.out.mono l0.out.size));clear E0;clear b1 d1 e1 g1 J2;have e0:=CB.step n0 B53.out;have i1:=e0.cell 0 rfl;have j1:=e0.cell 1 rfl;have K2:=e0.lt;have k1:=e0.frozen 0;have l1:=e0.frozen 1;have L2:=e0.lt;go_wp2;clear i1 j1 K2 k1 l1 L2;obtain⟨w58,j0⟩:∃ w58:World,w58=((w51.setCell ⟨w.heap.size+1,0,none⟩ (.bool A2)).setCell ⟨w.heap.size+1,1,none⟩ (.slice B2 C2 D2)):=⟨_,rfl⟩;rw[← j0];have S58:=zz (p2_s j0 e0 (by simp[noInt_b,noInt_s]));have F0:=p2_p j0 e0;have m1:=zz (p2_b j0 S1.out (by omega));have p2:=p2_z j0;clear j0;have G0:=zz (LV.soft b3.out ((Soft.of B53.out).trans (S58.out)));exact bodyPost_ret (GB.ret rfl _ F0 rfl) rfl ⟨m1.out,_,by rw[F2.out];rfl,by rw[F2.out];exact G0.out⟩
  ·have G2:=zz (show t=(none,6) by rw[HT.out,toldQ_whole,if_neg hfit]);have F2:=zz (show toldZ z=(0,6) from if_neg hfit);clear hfit;rw[show t.2=6 by rw[G2.out]];have n1:=d0.cell 0 rfl;have o1:=d0.cell 1 rfl;have p1:=d0.cell 2 rfl;have q1:=d0.cell 3 rfl;have M2:=d0.lt;go_wp2_with fail
   refine(madeG_no _ A2 B2 C2 D2 6 (by decide)).mono ?_;rintro e w60 ⟨H0,rfl⟩;have B62:=zz H0;have z62:=B62.out.size;have T1:=zz (l0.out.trans (B62.out.mono l0.out.size));clear H0;clear n1 o1 p1 q1 M2;have g0:=CB.step n0 B62.out;have s1:=g0.cell 0 rfl;have t1:=g0.cell 1 rfl;have N2:=g0.lt;have u1:=g0.frozen 0;have v1:=g0.frozen 1;have O2:=g0.lt;go_wp2;clear s1 t1 N2 u1 v1 O2;obtain⟨w67,k0⟩:∃ w67:World,w67=((w60.setCell ⟨w.heap.size+1,0,none⟩ (.bool false)).setCell ⟨w.heap.size+1,1,none⟩ (.slice none 0 0)):=⟨_,rfl⟩;rw[← k0];have S67:=zz (p2_s k0 g0 (by simp[noInt_b,noInt_s]));have I0:=p2_p k0 g0;have y1:=zz (p2_b k0 T1.out (by omega));have q2:=p2_z k0;clear k0;exact bodyPost_ret (GB.ret rfl _ I0 rfl) rfl ⟨y1.out,_,by rw[F2.out];rfl,by rw[F2.out];exact LV.zero _ _⟩
end Go.Proofs.YtkhljkiehohckaaGreatDoor
