/- Layer 04: Make, Of, Cmp, Floor (written by gen_ql.py). -/
import Derived.Test.YtioclokmbgmamaaGreatDoorQK
namespace Go.Proofs.YtioclokmbgmamaaGreatDoor
open Go Go.RowKit Dig
theorem divInt_sgn (x:Int) {y:Int} (h:y≠0):Rat.divInt x y=mkRat (x*y.sign) y.natAbs:=by
 rcases Int.lt_or_gt_of_ne h with h1 | h1
 ·rw[Int.sign_eq_neg_one_of_neg h1,Int.mul_neg,Int.mul_one,← Rat.divInt_ofNat,show((y.natAbs:Nat):Int)=-y by omega,Rat.divInt_neg',Int.neg_neg]
 ·rw[Int.sign_eq_one_of_pos h1,Int.mul_one,← Rat.divInt_ofNat,show((y.natAbs:Nat):Int)=y by omega]
noncomputable def mkQ (x y:Int):Option Rat × Int:=if y=0 then (none,7) else toldQ (Rat.divInt x y)
theorem dec_sign (y:Int):decide (y<0)=decide (y.sign<0):=by
 rcases Int.lt_trichotomy y 0 with h | h | h
 ·rw[Int.sign_eq_neg_one_of_neg h,decide_eq_true h];rfl
 ·subst h;rfl
 ·rw[Int.sign_eq_one_of_pos h,decide_eq_false (by omega)];rfl
set_option maxRecDepth 100000 in
set_option maxHeartbeats 4000000 in
theorem QMake_good (w:World) (va vb:Value) (x y:Int) (ha:LV w w.heap.size va x) (hb:LV w w.heap.size vb y) (lx:(dig x.natAbs).length≤600) (ly:(dig y.natAbs).length≤600) :
  Calls Tryz.prog 47 #[va,vb] w fun e w'=>Below w.heap.size w w'∧RetQ w' (mkQ x y) e:=by
 obtain⟨t,ht⟩:∃ t,t=mkQ x y:=⟨_,rfl⟩;rw[← ht];have HT:=zz ht;clear ht
 obtain⟨n,A,l,c,rfl,ha⟩:=ha.opened;obtain⟨m,B,k,d,rfl,hb⟩:=hb.opened
 have HA:=zz ha;have HB:=zz hb;have HLX:=zz lx;have HLY:=zz ly;clear ha hb lx ly
 obtain⟨w0,hw0⟩:∃ w0:World,w0=(((w.alloc (.cells #[.bool n,.slice A l c] 24)).alloc (.cells #[.bool m,.slice B k d] 24)).alloc (.cells #[.bool false,.slice none 0 0,.bool false,.slice none 0 0] 26)):=⟨_,rfl⟩
 have B0:=zz (show Below w.heap.size w w0 by rw[hw0];(repeat' (first | exact Below.refl _ _ | refine Below.drew ?_ | refine Below.alloc ?_ (by first | exact Nat.le_refl _ | (simp;done) | (simp;omega)) _)))
 have z0:w.heap.size+3≤w0.heap.size:=by rw[hw0];simp
 have Ln:CB w0 (w.heap.size) 24 #[.bool n,.slice A l c]:=by rw[hw0];have h:=((CB.new w 24 #[.bool n,.slice A l c]).alloc (.cells #[.bool m,.slice B k d] 24)).alloc (.cells #[.bool false,.slice none 0 0,.bool false,.slice none 0 0] 26);simpa using h
 have Ld:CB w0 (w.heap.size+1) 24 #[.bool m,.slice B k d]:=by rw[hw0];have h:=(CB.new (w.alloc (.cells #[.bool n,.slice A l c] 24)) 24 #[.bool m,.slice B k d]).alloc (.cells #[.bool false,.slice none 0 0,.bool false,.slice none 0 0] 26);simpa using h
 have Lr4:CB w0 (w.heap.size+2) 26 #[.bool false,.slice none 0 0,.bool false,.slice none 0 0]:=by rw[hw0];have h:=CB.new ((w.alloc (.cells #[.bool n,.slice A l c] 24)).alloc (.cells #[.bool m,.slice B k d] 24)) 26 #[.bool false,.slice none 0 0,.bool false,.slice none 0 0];simpa using h
 replace HA:=zz (LV.step HA.out B0.out);replace HB:=zz (LV.step HB.out B0.out)
 have HSG:=zz (show x*y.sign≠0→(!(n==m))=decide (x*y.sign<0) from fun h=>bne_sgn (fun _=>(LV.is HA.out).1) (fun _=>by rw[← dec_sign];exact(LV.is HB.out).1) h)
 have HDA:=zz (LV.is HA.out).2.2;have HDB:=zz (LV.is HB.out).2.2
 go_enter Tryz.func47,Tryz.ntmps47
 go_upto_region 1 with (fail)
 rw[← hw0];clear hw0
 have T0:=Ln.cell 0 rfl
 have U0:=Ln.cell 1 rfl
 have q1_lt:=Ln.lt
 have V0:=Ld.cell 0 rfl
 have W0:=Ld.cell 1 rfl
 have q2_lt:=Ld.lt
 go_wp2
 clear T0 U0 q1_lt V0 W0 q2_lt
 go_loopw [12] (fun iv wr=>∃ j:Nat,j≤2∧iv=.int .i64 j∧Hid (Below w0.heap.size w0 wr)) (fun iv _=>2-(intOf iv).toNat)
 case atStart=>exact⟨0,by omega,rfl,zz (Below.refl _ _)⟩
 case round=>
  obtain⟨j,hj,rfl,HJ⟩:=hrel
  have zj:=HJ.out.size
  have HBJ:=zz (B0.out.trans (HJ.out.mono B0.out.size))
  obtain rfl | rfl | rfl:j=0∨j=1∨j=2:=by omega
  ·rw[show((0:Nat):Int)=0 from rfl]
   have hidx:∀ w:World,(Instr.index 142 (.agg #[.bool n,.slice A l c,.bool m,.slice B k d]) (.int .i64 0)).run Tryz.prog w=.ok (.agg #[.bool n,.slice A l c]) w:=fun _=>by kernel_rfl
   go_upto_region 4 with (fail)
   clear hidx
   obtain⟨w3,k0⟩:∃ w3:World,w3=(wr.alloc (.cells #[.bool n,.slice A l c] 24)):=⟨_,rfl⟩;rw[← k0]
   have Q0:Below wr.heap.size wr w3:=by rw[k0];(repeat' (first | exact Below.refl _ _ | refine Below.drew ?_ | refine Below.alloc ?_ (by first | exact Nat.le_refl _ | (simp;done) | (simp;omega)) _))
   have e0:CB w3 (wr.heap.size) 24 #[.bool n,.slice A l c]:=by rw[k0];have h:=CB.new wr 24 #[.bool n,.slice A l c];simpa using h
   have za3:wr.heap.size+1≤w3.heap.size:=by rw[k0];simp
   have B4:=zz Q0
   have z4:=B4.out.size
   have R0:=zz (HBJ.out.trans (B4.out.mono HBJ.out.size))
   clear Q0 k0
   have X0:=e0.cell 0 rfl
   have Y0:=e0.cell 1 rfl
   have q6_lt:=e0.lt
   go_wp2_with fail
   have P1_3_8:=zz (HJ.out.trans (B4.out.mono HJ.out.size))
   have Z0:=zz (LV.step HA.out P1_3_8.out)
   refine(Check_good (n:=decide (x<0)) (l:=ni (dig (x).natAbs)) Z0.out (valid_num HLX.out)).mono ?_
   rintro e w7 ⟨S0,rfl⟩
   have B10:=zz S0
   have z10:=B10.out.size
   have p1:=zz (R0.out.trans (B10.out.mono R0.out.size))
   clear S0
   clear X0 Y0 q6_lt
   go_wp2
   go_roundw
   have P1_4_12:=zz (P1_3_8.out.trans (B10.out.mono P1_3_8.out.size))
   case rel=>exact⟨1,by omega,by go_num,zz P1_4_12.out⟩
   case measure=>simp[intOf]
  ·rw[show((1:Nat):Int)=1 from rfl]
   have hidx:∀ w:World,(Instr.index 142 (.agg #[.bool n,.slice A l c,.bool m,.slice B k d]) (.int .i64 1)).run Tryz.prog w=.ok (.agg #[.bool m,.slice B k d]) w:=fun _=>by kernel_rfl
   go_upto_region 4 with (fail)
   clear hidx
   obtain⟨w13,c0⟩:∃ w13:World,w13=(wr.alloc (.cells #[.bool m,.slice B k d] 24)):=⟨_,rfl⟩;rw[← c0]
   have n0:Below wr.heap.size wr w13:=by rw[c0];(repeat' (first | exact Below.refl _ _ | refine Below.drew ?_ | refine Below.alloc ?_ (by first | exact Nat.le_refl _ | (simp;done) | (simp;omega)) _))
   have d0:CB w13 (wr.heap.size) 24 #[.bool m,.slice B k d]:=by rw[c0];have h:=CB.new wr 24 #[.bool m,.slice B k d];simpa using h
   have za13:wr.heap.size+1≤w13.heap.size:=by rw[c0];simp
   have B14:=zz n0
   have z14:=B14.out.size
   have o0:=zz (HBJ.out.trans (B14.out.mono HBJ.out.size))
   clear n0 c0
   have y0:=d0.cell 0 rfl
   have A0:=d0.cell 1 rfl
   have q16_lt:=d0.lt
   go_wp2_with fail
   have P1_3_18:=zz (HJ.out.trans (B14.out.mono HJ.out.size))
   have C0:=zz (LV.step HB.out P1_3_18.out)
   refine(Check_good (n:=decide (y<0)) (l:=ni (dig (y).natAbs)) C0.out (valid_num HLY.out)).mono ?_
   rintro e w17 ⟨p0,rfl⟩
   have B20:=zz p0
   have z20:=B20.out.size
   have q1:=zz (o0.out.trans (B20.out.mono o0.out.size))
   clear p0
   clear y0 A0 q16_lt
   go_wp2
   go_roundw
   have P1_4_22:=zz (P1_3_18.out.trans (B20.out.mono P1_3_18.out.size))
   case rel=>exact⟨2,by omega,by go_num,zz P1_4_22.out⟩
   case measure=>simp[intOf]
  ·rw[show((2:Nat):Int)=2 from rfl]
   by_cases h0:y=0
   ·have HT0:=zz (show t=(none,7) by rw[HT.out,mkQ,if_pos h0])
    have q0:=zz (RN.step HDB.out HJ.out)
    have b1:((k:Int)==0)=true:=by rw[beq_iff_eq,RN.len q0.out,h0,show(0:Int).natAbs=0 from rfl,dig_zero];rfl
    clear h0
    have f0:=CB.step Ln HJ.out
    have c1:=f0.cell 0 rfl
    have d1:=f0.cell 1 rfl
    have q25_lt:=f0.lt
    have g0:=CB.step Ld HJ.out
    have e1:=g0.cell 0 rfl
    have f1:=g0.cell 1 rfl
    have q27_lt:=g0.lt
    have a0:=CB.step Lr4 HJ.out
    have g1:=a0.cell 0 rfl
    have h1:=a0.cell 1 rfl
    have i1:=a0.cell 2 rfl
    have j1:=a0.cell 3 rfl
    have q29_lt:=a0.lt
    have k1:=a0.frozen 0
    have l1:=a0.frozen 1
    have m1:=a0.frozen 2
    have n1:=a0.frozen 3
    have q30_lt:=a0.lt
    go_wp2
    exact QB.fin rfl a0 (by simp[noInt_b,noInt_s]) HBJ.out (by omega) (by rw[HT0.out];exact zeroQ _ _) rfl (by rw[HT0.out];rfl)
   ·have HY0:=zz h0;replace HT:=zz (show t=toldQ (mkRat (x*y.sign) y.natAbs) by rw[HT.out,mkQ,if_neg h0,divInt_sgn _ h0])
    have l0:=zz (RN.step HDB.out HJ.out)
    have b1:((k:Int)==0)=false:=by
     rw[beq_eq_false_iff_ne,RN.len l0.out];have:=dig_len_pos (n:=y.natAbs) (by omega);omega
    have hnz:y.natAbs≠0:=by omega
    have HNZ:=zz hnz;have HAB:=zz (show(x*y.sign).natAbs=x.natAbs by rw[Int.natAbs_mul,Int.natAbs_sign_of_ne_zero h0,Nat.mul_one]);clear h0 hnz
    have r0:=zz (RN.step HDA.out HJ.out)
    have HTV:=zz (show TV wr wr.heap.size (.agg #[.bool (!(n==m)),.slice A l c,.slice B k d]) (x*y.sign) y.natAbs from TV.mk (by rw[HAB.out];exact r0.out) l0.out HSG.out)
    have i0:=CB.step Ln HJ.out
    have D0:=i0.cell 0 rfl
    have E0:=i0.cell 1 rfl
    have q35_lt:=i0.lt
    have j0:=CB.step Ld HJ.out
    have F0:=j0.cell 0 rfl
    have G0:=j0.cell 1 rfl
    have q37_lt:=j0.lt
    go_wp2_with fail
    refine(reduced_any _ _ (x*y.sign) y.natAbs HTV.out HNZ.out (by rw[HAB.out];have:=HLX.out;omega) (by have:=HLY.out;omega)).mono ?_
    rintro e w33 ⟨s0,v,rfl,hv⟩
    have B38:=zz s0
    have z38:=B38.out.size
    have t0:=zz (HBJ.out.trans (B38.out.mono HBJ.out.size))
    clear s0
    clear D0 E0 q35_lt F0 G0 q37_lt
    replace hv:RV w33 w33.heap.size v (mkRat (x*y.sign) y.natAbs):=by unfold RV;rw[(rat_reduced HNZ.out).1,(rat_reduced HNZ.out).2];exact hv
    obtain⟨on40,oA40,ol40,oc40,oB40,H0,od40,rfl,ha40,u0,hc40⟩:=hv
    have v0:Hid (RV w33 w33.heap.size (.agg #[.bool on40,.slice oA40 ol40 oc40,.slice oB40 H0 od40]) (mkRat (x*y.sign) y.natAbs)):=zz (TV.mk ha40 u0 hc40)
    clear ha40 u0 hc40
    go_wp2_with fail
    refine(ToldR_any _ _ (mkRat (x*y.sign) y.natAbs) v0.out (QL.mk' (by rw[HAB.out];have:=HLX.out;omega) (by have:=HLY.out;omega) HNZ.out)).mono ?_
    rintro e w41 ⟨x0,v,rfl,hv⟩
    have B42:=zz x0
    have z42:=B42.out.size
    have a1:=zz (t0.out.trans (B42.out.mono t0.out.size))
    clear x0
    rw[← HT.out] at hv ⊢
    have hg44:=hv;obtain⟨on44,oA44,ol44,oc44,oe44,oB44,o1,od44,rfl⟩:=QO.cells hg44;have m0:=zz hg44;clear hg44
    have P1_3_46:=zz (HJ.out.trans (B38.out.mono HJ.out.size))
    have P1_4_47:=zz (P1_3_46.out.trans (B42.out.mono P1_3_46.out.size))
    have b0:=CB.step Lr4 P1_4_47.out
    have I0:=b0.cell 0 rfl
    have J0:=b0.cell 1 rfl
    have K0:=b0.cell 2 rfl
    have L0:=b0.cell 3 rfl
    have q48_lt:=b0.lt
    have M0:=b0.frozen 0
    have N0:=b0.frozen 1
    have O0:=b0.frozen 2
    have P0:=b0.frozen 3
    have q49_lt:=b0.lt
    go_wp2
    clear I0 J0 K0 L0 q48_lt M0 N0 O0 P0 q49_lt
    exact QB.fin rfl b0 (by simp[noInt_b,noInt_s]) a1.out (by omega) m0.out rfl rfl
theorem fit_i64 {n:Int} (h0:-9223372036854775808≤n) (h1:n≤9223372036854775807):(dig n.natAbs).length≤3:=by rw[dig_len_le];show n.natAbs<1000000000000000000000000000;omega
set_option maxRecDepth 100000 in
set_option maxHeartbeats 4000000 in
theorem QOf_any (w:World) (n d:Int) (hn0:-9223372036854775808≤n) (hn1:n≤9223372036854775807) (hd0:-9223372036854775808≤d) (hd1:d≤9223372036854775807) :
  Calls Tryz.prog 48 #[.int .i64 n,.int .i64 d] w fun e w'=>Below w.heap.size w w'∧RetQ w' (mkQ n d) e:=by
 obtain⟨t,ht⟩:∃ t,t=mkQ n d:=⟨_,rfl⟩;rw[← ht];have HT:=zz ht;clear ht
 have HN:=zz (And.intro hn0 hn1);have HD:=zz (And.intro hd0 hd1);have FN:=zz (show(dig n.natAbs).length≤600 from Nat.le_trans (fit_i64 hn0 hn1) (by decide));have FD:=zz (show(dig d.natAbs).length≤600 from Nat.le_trans (fit_i64 hd0 hd1) (by decide));clear hn0 hn1 hd0 hd1
 obtain⟨w0,hw0⟩:∃ w0:World,w0=(w.alloc (.cells #[.bool false,.slice none 0 0,.bool false,.slice none 0 0] 26)):=⟨_,rfl⟩
 have B0:=zz (show Below w.heap.size w w0 by rw[hw0];(repeat' (first | exact Below.refl _ _ | refine Below.drew ?_ | refine Below.alloc ?_ (by first | exact Nat.le_refl _ | (simp;done) | (simp;omega)) _)))
 have z0:w.heap.size+1≤w0.heap.size:=by rw[hw0];simp
 have Lr4:CB w0 (w.heap.size) 26 #[.bool false,.slice none 0 0,.bool false,.slice none 0 0]:=by rw[hw0];have h:=CB.new w 26 #[.bool false,.slice none 0 0,.bool false,.slice none 0 0];simpa using h
 go_enter Tryz.func48,Tryz.ntmps48
 go_upto_region 1 with (fail)
 rw[← hw0];clear hw0
 go_wp2_with fail
 refine(Of_any _ n HN.out.1 HN.out.2).mono ?_
 rintro e w1 ⟨l0,v,rfl,hv⟩
 have B2:=zz l0
 have z2:=B2.out.size
 have m0:=zz (B0.out.trans (B2.out.mono B0.out.size))
 clear l0
 obtain⟨n4,Ad4,l4,c4,rfl,n0⟩:=hv.opened
 have s0:=zz n0
 clear hv n0
 go_wp2_with fail
 refine(Of_any _ d HD.out.1 HD.out.2).mono ?_
 rintro e w5 ⟨o0,v,rfl,hv⟩
 have B6:=zz o0
 have z6:=B6.out.size
 have p0:=zz (m0.out.trans (B6.out.mono m0.out.size))
 clear o0
 obtain⟨n8,Ad8,l8,c8,rfl,q0⟩:=hv.opened
 have t0:=zz q0
 clear hv q0
 go_wp2_with fail
 have c0:=zz (LV.step s0.out B6.out)
 refine(QMake_good _ _ _ n d c0.out t0.out FN.out FD.out).mono ?_
 rintro e w9 ⟨r0,v,rfl,hv⟩
 have B11:=zz r0
 have z11:=B11.out.size
 have u0:=zz (p0.out.trans (B11.out.mono p0.out.size))
 clear r0
 rw[← HT.out] at hv ⊢
 have hg13:=hv;obtain⟨on13,oA13,ol13,oc13,oe13,oB13,v0,od13,rfl⟩:=QO.cells hg13;have b0:=zz hg13;clear hg13
 have P1_3_15:=zz (B2.out.trans (B6.out.mono B2.out.size))
 have P1_4_16:=zz (P1_3_15.out.trans (B11.out.mono P1_3_15.out.size))
 have a0:=CB.step Lr4 P1_4_16.out
 have d0:=a0.cell 0 rfl
 have e0:=a0.cell 1 rfl
 have f0:=a0.cell 2 rfl
 have g0:=a0.cell 3 rfl
 have q17_lt:=a0.lt
 have h0:=a0.frozen 0
 have i0:=a0.frozen 1
 have j0:=a0.frozen 2
 have k0:=a0.frozen 3
 have q18_lt:=a0.lt
 go_wp2
 clear d0 e0 f0 g0 q17_lt h0 i0 j0 k0 q18_lt
 exact QB.fin rfl a0 (by simp[noInt_b,noInt_s]) u0.out (by omega) b0.out rfl rfl
def cmpR (q r:Rat):Int:=(q.num*(r.den:Int)+-r.num*(q.den:Int)).sign
set_option maxRecDepth 100000 in
set_option maxHeartbeats 4000000 in
theorem QCmp_good (w:World) (va vb:Value) (q r:Rat) (ha:QV w w.heap.size va q) (hb:QV w w.heap.size vb r) (lq:QL 600 600 q) (lr:QL 600 600 r) :
  Calls Tryz.prog 14 #[va,vb] w fun e w'=>Below w.heap.size w w'∧RetI (cmpR q r,0) e:=by
 obtain⟨n,A,l,c,m,A',l',c',rfl⟩:=QO.cells (show QO w w.heap.size va (some q) from ha);obtain⟨n2,B,k,d,m2,B',k',d',rfl⟩:=QO.cells (show QO w w.heap.size vb (some r) from hb)
 have HZ:=zz (show(q.num*(r.den:Int)+-r.num*(q.den:Int)).sign=cmpR q r from rfl)
 have p1:(dig (q.num*(r.den:Int)).natAbs).length≤1200:=by rw[Int.natAbs_mul,Int.natAbs_natCast];have:=dig_len_mul q.num.natAbs r.den;have:=lq.1;have:=lr.2;omega
 have p2:(dig (-r.num*(q.den:Int)).natAbs).length≤1200:=by rw[Int.natAbs_mul,Int.natAbs_neg,Int.natAbs_natCast];have:=dig_len_mul r.num.natAbs q.den;have:=lr.1;have:=lq.2;omega
 have HP3:=zz (show(dig (-r.num).natAbs).length≤100000 by rw[Int.natAbs_neg];have:=lr.1;omega)
 have HL:=zz (And.intro p1 (And.intro p2 (And.intro lq.1 (And.intro lq.2 (And.intro lr.1 lr.2)))));clear p1 p2
 have HA:=zz ha;have HB:=zz hb;have HLQ:=zz lq;have HLR:=zz lr;clear ha hb lq lr
 obtain⟨w0,hw0⟩:∃ w0:World,w0=((w.alloc (.cells #[.bool n,.slice A l c,.bool m,.slice A' l' c'] 26)).alloc (.cells #[.bool n2,.slice B k d,.bool m2,.slice B' k' d'] 26)):=⟨_,rfl⟩
 have B0:=zz (show Below w.heap.size w w0 by rw[hw0];(repeat' (first | exact Below.refl _ _ | refine Below.drew ?_ | refine Below.alloc ?_ (by first | exact Nat.le_refl _ | (simp;done) | (simp;omega)) _)))
 have z0:w.heap.size+2≤w0.heap.size:=by rw[hw0];simp
 have La:CB w0 (w.heap.size) 26 #[.bool n,.slice A l c,.bool m,.slice A' l' c']:=by rw[hw0];have h:=(CB.new w 26 #[.bool n,.slice A l c,.bool m,.slice A' l' c']).alloc (.cells #[.bool n2,.slice B k d,.bool m2,.slice B' k' d'] 26);simpa using h
 have Lb:CB w0 (w.heap.size+1) 26 #[.bool n2,.slice B k d,.bool m2,.slice B' k' d']:=by rw[hw0];have h:=CB.new (w.alloc (.cells #[.bool n,.slice A l c,.bool m,.slice A' l' c'] 26)) 26 #[.bool n2,.slice B k d,.bool m2,.slice B' k' d'];simpa using h
 replace HA:=zz (QV.step HA.out B0.out);replace HB:=zz (QV.step HB.out B0.out)
 go_enter Tryz.func14,Tryz.ntmps14
 go_upto_region 1 with (fail)
 rw[← hw0];clear hw0
 have hQ:=QV.is HA.out;have hR:=QV.is HB.out
 obtain rfl:=hQ.2.2.2;obtain rfl:=hR.2.2.2;obtain rfl:=hQ.2.2.1;obtain rfl:=hR.2.2.1;clear hQ hR
 generalize hnq:decide (q.num<0)=n at *;generalize hnr:decide (r.num<0)=n2 at *
 have HNQ:=zz hnq;have HNR:=zz hnr;clear hnq hnr
 have HC:=zz (show allQ (qOf n (ni (dig q.num.natAbs)) false (ni (dig q.den))) (qOf n2 (ni (dig r.num.natAbs)) false (ni (dig r.den)))=0 by rw[← HNQ.out,← HNR.out];exact allQ_yes (qOf_rat q HLQ.out.1 HLQ.out.2) (qOf_rat r HLR.out.1 HLR.out.2))
 have J1:=La.cell 0 rfl
 have K1:=La.cell 1 rfl
 have L1:=La.cell 2 rfl
 have M1:=La.cell 3 rfl
 have q2_lt:=La.lt
 have N1:=Lb.cell 0 rfl
 have O1:=Lb.cell 1 rfl
 have P1:=Lb.cell 2 rfl
 have Q1:=Lb.cell 3 rfl
 have q3_lt:=Lb.lt
 go_wp2_with fail
 refine(qall_new _ _ n false n2 false A A' B B' l l' k k' c c' d d' (ni (dig q.num.natAbs)) (ni (dig q.den)) (ni (dig r.num.natAbs)) (ni (dig r.den)) 2 rfl (by have h:=QV.qr HA.out;rw[HNQ.out] at h;exact h) (by have h:=QV.qr HB.out;rw[HNR.out] at h;exact h)).mono ?_
 rintro e w1 ⟨H1,rfl⟩
 have B4:=zz H1
 have z4:=B4.out.size
 have I1:=zz (B0.out.trans (B4.out.mono B0.out.size))
 clear H1
 clear J1 K1 L1 M1 q2_lt N1 O1 P1 Q1 q3_lt
 rw[HC.out];clear HC
 go_upto_region 4 with (fail)
 refine Flow.run [⟨0,17,fun fv fw=>fv=.agg #[.bool n,.slice A l c,.bool false,.slice A' l' c']⟩,⟨1,18,fun fv fw=>fv=.agg #[.bool n,.slice A l c,.slice A' l' c']⟩,⟨2,19,fun fv fw=>fv=.agg #[.bool n2,.slice B k d,.bool false,.slice B' k' d']⟩,⟨3,20,fun fv fw=>fv=.agg #[.bool n2,.slice B k d,.slice B' k' d']⟩,⟨4,7,fun fv fw=>∃ b,fv=.pointer (some ⟨b,0,none⟩)∧CB fw b 95 #[.bool false,.slice none 0 0,.slice none 0 0]⟩,⟨5,8,fun fv fw=>∃ b,fv=.pointer (some ⟨b,0,none⟩)∧CB fw b 95 #[.bool false,.slice none 0 0,.slice none 0 0]⟩] [] [4,5] 2 (by kernel_rfl) (by kernel_rfl) (by kernel_rfl) (fun _ _ _ _ _ h=>h) ?_ ?_ ?_ ?_
 ·refine(a0 (a0 (a0 (a0 (all_cons (fun v w1 w2 h hb=>let ⟨b,e,h⟩:=h;⟨b,e,h.step hb⟩) (all_cons (fun v w1 w2 h hb=>let ⟨b,e,h⟩:=h;⟨b,e,h.step hb⟩) all_nil))))))
 ·refine(all_cons ?_ (all_cons ?_ (all_cons ?_ (all_cons ?_ (all_cons ?_ (all_cons ?_ all_nil))))))
  ·intro xs v3 b0 c0
   have R1:=zz b0;have w3:=b0.size;clear b0
   clear c0
   refine wpOp_step (o:=_) rfl (fun K hK=>?_)
   simp only[FL]
   have P1_3_8:=zz (B4.out.trans (R1.out.mono B4.out.size))
   have n0:=CB.step La P1_3_8.out
   have I2:=n0.cell 0 rfl
   have J2:=n0.cell 1 rfl
   have K2:=n0.cell 2 rfl
   have L2:=n0.cell 3 rfl
   go_simp
   refine hK _ _ ⟨.agg #[.bool n,.slice A l c,.bool false,.slice A' l' c'],by kernel_rfl,Below.refl _ _,rfl,nF⟩
  ·intro xs M2 b0 c0
   have h2:=zz b0;have N2:=b0.size;clear b0
   have f0:(xs 0)=.agg #[.bool n,.slice A l c,.bool false,.slice A' l' c']:=c0 _ (m_ 0 rfl) (by kernel_rfl)
   clear c0
   refine wpOp_step (o:=_) rfl (fun K hK=>?_)
   simp only[FL]
   go_simp
   (with_reducible refine(Read_any _ n false A A' l c l' c').mono ?_)
   rintro e wc11 ⟨S1,rfl⟩
   refine hK _ _ ⟨.agg #[.bool n,.slice A l c,.slice A' l' c'],by simp only[FL,f0] <;> kernel_rfl,S1,rfl,nF⟩
  ·intro xs O2 b0 c0
   have M0:=zz b0;have P2:=b0.size;clear b0
   clear c0
   refine wpOp_step (o:=_) rfl (fun K hK=>?_)
   simp only[FL]
   have P1_3_14:=zz (B4.out.trans (M0.out.mono B4.out.size))
   have l0:=CB.step Lb P1_3_14.out
   have i2:=l0.cell 0 rfl
   have j2:=l0.cell 1 rfl
   have k2:=l0.cell 2 rfl
   have l2:=l0.cell 3 rfl
   go_simp
   refine hK _ _ ⟨.agg #[.bool n2,.slice B k d,.bool false,.slice B' k' d'],by kernel_rfl,Below.refl _ _,rfl,nF⟩
  ·intro xs Q2 b0 c0
   have o2:=zz b0;have R2:=b0.size;clear b0
   have f2:(xs 2)=.agg #[.bool n2,.slice B k d,.bool false,.slice B' k' d']:=c0 _ (m_ 2 rfl) (by kernel_rfl)
   clear c0
   refine wpOp_step (o:=_) rfl (fun K hK=>?_)
   simp only[FL]
   go_simp
   (with_reducible refine(Read_any _ n2 false B B' k d k' d').mono ?_)
   rintro e wc17 ⟨T1,rfl⟩
   refine hK _ _ ⟨.agg #[.bool n2,.slice B k d,.slice B' k' d'],by simp only[FL,f2] <;> kernel_rfl,T1,rfl,nF⟩
  ·intro xs U1 b0 c0
   have q2:=zz b0;have S2:=b0.size;clear b0
   clear c0
   refine wpOp_step (o:=_) rfl (fun K hK=>?_)
   simp only[FL]
   go_simp
   refine hK _ _ ⟨.pointer (some ⟨U1.heap.size,0,none⟩),by kernel_rfl,(Below.refl _ _).alloc (Nat.le_refl _) _,⟨_,rfl,CB.new _ _ _⟩,fun _=>⟨_,rfl,Nat.le_refl _,by simp⟩⟩
  ·intro xs V1 b0 c0
   have r2:=zz b0;have T2:=b0.size;clear b0
   clear c0
   refine wpOp_step (o:=_) rfl (fun K hK=>?_)
   simp only[FL]
   go_simp
   refine hK _ _ ⟨.pointer (some ⟨V1.heap.size,0,none⟩),by kernel_rfl,(Below.refl _ _).alloc (Nat.le_refl _) _,⟨_,rfl,CB.new _ _ _⟩,fun _=>⟨_,rfl,Nat.le_refl _,by simp⟩⟩
 ·exact all_nil
 ·intro xs wf20 hbf hf hn hd
  have f0:(xs 0)=.agg #[.bool n,.slice A l c,.bool false,.slice A' l' c']:=hf _ (m_ 0 rfl)
  have f1:(xs 1)=.agg #[.bool n,.slice A l c,.slice A' l' c']:=hf _ (m_ 1 rfl)
  have f2:(xs 2)=.agg #[.bool n2,.slice B k d,.bool false,.slice B' k' d']:=hf _ (m_ 2 rfl)
  have f3:(xs 3)=.agg #[.bool n2,.slice B k d,.slice B' k' d']:=hf _ (m_ 3 rfl)
  have f4:∃ b,(xs 4)=.pointer (some ⟨b,0,none⟩)∧CB wf20 b 95 #[.bool false,.slice none 0 0,.slice none 0 0]:=hf _ (m_ 4 rfl)
  have f5:∃ b,(xs 5)=.pointer (some ⟨b,0,none⟩)∧CB wf20 b 95 #[.bool false,.slice none 0 0,.slice none 0 0]:=hf _ (m_ 5 rfl)
  have n4:=hn 4 (by decide)
  have n5:=hn 5 (by decide)
  have q0:=hd 4 (by decide) 5 (by decide) (by decide)
  have r0:=hd 5 (by decide) 4 (by decide) (by decide)
  clear hf hn hd
  simp only[FL]
  have B21:=zz hbf
  have z21:=B21.out.size
  have W1:=zz (I1.out.trans (B21.out.mono I1.out.size))
  clear hbf
  generalize xs 0=x0,xs 1=x1,xs 2=x2,xs 3=x3,xs 4=x4,xs 5=x5 at *
  obtain rfl:=f0
  obtain rfl:=f1
  obtain rfl:=f2
  obtain rfl:=f3
  obtain⟨bn23_r,rfl,Ln24_r⟩:=f4
  have hge_bn23_r:=zz (show w1.heap.size≤bn23_r by obtain⟨b',e,h,-⟩:=n4;injection e with e;injection e with e;injection e with e _ _;omega)
  clear n4
  have hgb_bn23_r:=Ln24_r.lt;have hgc_bn23_r:=hge_bn23_r.out
  obtain⟨bn25_s,rfl,Ln26_s⟩:=f5
  have hge_bn25_s:=zz (show w1.heap.size≤bn25_s by obtain⟨b',e,h,-⟩:=n5;injection e with e;injection e with e;injection e with e _ _;omega)
  clear n5
  have hgb_bn25_s:=Ln26_s.lt;have hgc_bn25_s:=hge_bn25_s.out
  have j0:=zz (show bn23_r≠bn25_s from fun e=>q0 (by rw[e]))
  have m0:=zz (show bn25_s≠bn23_r from fun e=>r0 (by rw[e]))
  clear q0
  clear r0
  have N0:=Ln24_r.cell 0 rfl
  have O0:=Ln24_r.cell 1 rfl
  have P0:=Ln24_r.cell 2 rfl
  have q27_lt:=Ln24_r.lt
  have Q0:=Ln24_r.frozen 0
  have R0:=Ln24_r.frozen 1
  have S0:=Ln24_r.frozen 2
  have q28_lt:=Ln24_r.lt
  refine Early.next (i:=6) (by kernel_rfl) rfl (fun K hK=>?_)
  go_simp
  refine hK _ _ (fun _=>trivial) ?_
  clear hK K
  (try simp only[Act.put,List.setIfInBounds_toArray,List.set_cons_zero,List.set_cons_succ])
  clear N0 O0 P0 q27_lt Q0 R0 S0 q28_lt
  have P1_3_30:=zz (B4.out.trans (B21.out.mono B4.out.size))
  have T0:=CB.step La P1_3_30.out
  have U0:=CB.step Lb P1_3_30.out
  obtain⟨w32,g0⟩:∃ w32:World,w32=(((wf20.setCell ⟨bn23_r,0,none⟩ (.bool n)).setCell ⟨bn23_r,1,none⟩ (.slice A l c)).setCell ⟨bn23_r,2,none⟩ (.slice A' l' c')):=⟨_,rfl⟩
  rw[← g0]
  have S32:=zz (show Soft wf20 w32 by rw[g0];exact((CB.soft1 (Ln24_r) (by simp[noInt_b,noInt_s]) 0 (.bool n)).trans (CB.soft1 ((show CB _ (bn23_r) 95 #[.bool n,.slice none 0 0,.slice none 0 0] from CB.set (Ln24_r) 0 (.bool n))) (by simp[noInt_b,noInt_s]) 1 (.slice A l c))).trans (CB.soft1 ((show CB _ (bn23_r) 95 #[.bool n,.slice A l c,.slice none 0 0] from CB.set ((show CB _ (bn23_r) 95 #[.bool n,.slice none 0 0,.slice none 0 0] from CB.set (Ln24_r) 0 (.bool n))) 1 (.slice A l c))) (by simp[noInt_b,noInt_s]) 2 (.slice A' l' c')))
  have V0:CB w32 (w.heap.size) 26 #[.bool n,.slice A l c,.bool false,.slice A' l' c']:=by rw[g0];exact CB.far (p:=⟨bn23_r,2,none⟩) (CB.far (p:=⟨bn23_r,1,none⟩) (CB.far (p:=⟨bn23_r,0,none⟩) (T0) (show w.heap.size≠bn23_r from by omega) _) (show w.heap.size≠bn23_r from by omega) _) (show w.heap.size≠bn23_r from by omega) _
  have W0:CB w32 (w.heap.size+1) 26 #[.bool n2,.slice B k d,.bool false,.slice B' k' d']:=by rw[g0];exact CB.far (p:=⟨bn23_r,2,none⟩) (CB.far (p:=⟨bn23_r,1,none⟩) (CB.far (p:=⟨bn23_r,0,none⟩) (U0) (show w.heap.size+1≠bn23_r from by omega) _) (show w.heap.size+1≠bn23_r from by omega) _) (show w.heap.size+1≠bn23_r from by omega) _
  have d0:CB w32 (bn25_s) 95 #[.bool false,.slice none 0 0,.slice none 0 0]:=by rw[g0];exact CB.far (p:=⟨bn23_r,2,none⟩) (CB.far (p:=⟨bn23_r,1,none⟩) (CB.far (p:=⟨bn23_r,0,none⟩) (Ln26_s) (show bn25_s≠bn23_r from(by have h:=m0.out;exact h)) _) (show bn25_s≠bn23_r from(by have h:=m0.out;exact h)) _) (show bn25_s≠bn23_r from(by have h:=m0.out;exact h)) _
  have X0:CB w32 (bn23_r) 95 #[.bool n,.slice A l c,.slice A' l' c']:=by rw[g0];exact(show CB _ (bn23_r) 95 #[.bool n,.slice A l c,.slice A' l' c'] from CB.set ((show CB _ (bn23_r) 95 #[.bool n,.slice A l c,.slice none 0 0] from CB.set ((show CB _ (bn23_r) 95 #[.bool n,.slice none 0 0,.slice none 0 0] from CB.set (Ln24_r) 0 (.bool n))) 1 (.slice A l c))) 2 (.slice A' l' c'))
  have Y0:=zz (show Below w.heap.size w w32 by rw[g0];exact below_set1 (below_set1 (below_set1 (W1.out) (by omega) _ _) (by omega) _ _) (by omega) _ _)
  have U2:w32.heap.size=wf20.heap.size:=by rw[g0];simp[World.setCell]
  clear g0
  have Z0:=d0.cell 0 rfl
  have a1:=d0.cell 1 rfl
  have b1:=d0.cell 2 rfl
  have q33_lt:=d0.lt
  have c1:=d0.frozen 0
  have d1:=d0.frozen 1
  have e1:=d0.frozen 2
  have q34_lt:=d0.lt
  refine Early.next (i:=7) (by kernel_rfl) rfl (fun K hK=>?_)
  go_simp
  refine hK _ _ (fun _=>trivial) ?_
  clear hK K
  (try simp only[Act.put,List.setIfInBounds_toArray,List.set_cons_zero,List.set_cons_succ])
  clear Z0 a1 b1 q33_lt c1 d1 e1 q34_lt
  obtain⟨w35,h0⟩:∃ w35:World,w35=(((w32.setCell ⟨bn25_s,0,none⟩ (.bool n2)).setCell ⟨bn25_s,1,none⟩ (.slice B k d)).setCell ⟨bn25_s,2,none⟩ (.slice B' k' d')):=⟨_,rfl⟩
  rw[← h0]
  have S35:=zz (show Soft w32 w35 by rw[h0];exact((CB.soft1 (d0) (by simp[noInt_b,noInt_s]) 0 (.bool n2)).trans (CB.soft1 ((show CB _ (bn25_s) 95 #[.bool n2,.slice none 0 0,.slice none 0 0] from CB.set (d0) 0 (.bool n2))) (by simp[noInt_b,noInt_s]) 1 (.slice B k d))).trans (CB.soft1 ((show CB _ (bn25_s) 95 #[.bool n2,.slice B k d,.slice none 0 0] from CB.set ((show CB _ (bn25_s) 95 #[.bool n2,.slice none 0 0,.slice none 0 0] from CB.set (d0) 0 (.bool n2))) 1 (.slice B k d))) (by simp[noInt_b,noInt_s]) 2 (.slice B' k' d')))
  have g1:CB w35 (w.heap.size) 26 #[.bool n,.slice A l c,.bool false,.slice A' l' c']:=by rw[h0];exact CB.far (p:=⟨bn25_s,2,none⟩) (CB.far (p:=⟨bn25_s,1,none⟩) (CB.far (p:=⟨bn25_s,0,none⟩) (V0) (show w.heap.size≠bn25_s from by omega) _) (show w.heap.size≠bn25_s from by omega) _) (show w.heap.size≠bn25_s from by omega) _
  have h1:CB w35 (w.heap.size+1) 26 #[.bool n2,.slice B k d,.bool false,.slice B' k' d']:=by rw[h0];exact CB.far (p:=⟨bn25_s,2,none⟩) (CB.far (p:=⟨bn25_s,1,none⟩) (CB.far (p:=⟨bn25_s,0,none⟩) (W0) (show w.heap.size+1≠bn25_s from by omega) _) (show w.heap.size+1≠bn25_s from by omega) _) (show w.heap.size+1≠bn25_s from by omega) _
  have i1:CB w35 (bn23_r) 95 #[.bool n,.slice A l c,.slice A' l' c']:=by rw[h0];exact CB.far (p:=⟨bn25_s,2,none⟩) (CB.far (p:=⟨bn25_s,1,none⟩) (CB.far (p:=⟨bn25_s,0,none⟩) (X0) (show bn23_r≠bn25_s from(by have h:=j0.out;exact h)) _) (show bn23_r≠bn25_s from(by have h:=j0.out;exact h)) _) (show bn23_r≠bn25_s from(by have h:=j0.out;exact h)) _
  have e0:CB w35 (bn25_s) 95 #[.bool n2,.slice B k d,.slice B' k' d']:=by rw[h0];exact(show CB _ (bn25_s) 95 #[.bool n2,.slice B k d,.slice B' k' d'] from CB.set ((show CB _ (bn25_s) 95 #[.bool n2,.slice B k d,.slice none 0 0] from CB.set ((show CB _ (bn25_s) 95 #[.bool n2,.slice none 0 0,.slice none 0 0] from CB.set (d0) 0 (.bool n2))) 1 (.slice B k d))) 2 (.slice B' k' d'))
  have j1:=zz (show Below w.heap.size w w35 by rw[h0];exact below_set1 (below_set1 (below_set1 (Y0.out) (by omega) _ _) (by omega) _ _) (by omega) _ _)
  have V2:w35.heap.size=w32.heap.size:=by rw[h0];simp[World.setCell]
  clear h0
  refine Early.done (by kernel_rfl) ?_ _
  (try simp only[Exit.then])
  have k1:=e0.cell 0 rfl
  have l1:=e0.cell 1 rfl
  have m1:=e0.cell 2 rfl
  have q36_lt:=e0.lt
  have n1:=e0.frozen 0
  have o1:=e0.frozen 1
  have q1:=e0.frozen 2
  have q37_lt:=e0.lt
  go_upto_region 6 with (fail)
  clear k1 l1 m1 q36_lt n1 o1 q1 q37_lt
  obtain⟨w38,i0⟩:∃ w38:World,w38=(w35.setCell ⟨bn25_s,0,none⟩ (.bool (!n2))):=⟨_,rfl⟩
  rw[← i0]
  have S38:=zz (show Soft w35 w38 by rw[i0];exact CB.soft1 (e0) (by simp[noInt_b,noInt_s]) 0 (.bool (!n2)))
  have s2:CB w38 (w.heap.size) 26 #[.bool n,.slice A l c,.bool false,.slice A' l' c']:=by rw[i0];exact CB.far (p:=⟨bn25_s,0,none⟩) (g1) (show w.heap.size≠bn25_s from by omega) _
  have t2:CB w38 (w.heap.size+1) 26 #[.bool n2,.slice B k d,.bool false,.slice B' k' d']:=by rw[i0];exact CB.far (p:=⟨bn25_s,0,none⟩) (h1) (show w.heap.size+1≠bn25_s from by omega) _
  have s0:CB w38 (bn23_r) 95 #[.bool n,.slice A l c,.slice A' l' c']:=by rw[i0];exact CB.far (p:=⟨bn25_s,0,none⟩) (i1) (show bn23_r≠bn25_s from(by have h:=j0.out;exact h)) _
  have t0:CB w38 (bn25_s) 95 #[.bool (!n2),.slice B k d,.slice B' k' d']:=by rw[i0];exact(show CB _ (bn25_s) 95 #[.bool (!n2),.slice B k d,.slice B' k' d'] from CB.set (e0) 0 (.bool (!n2)))
  have u0:=zz (show Below w.heap.size w w38 by rw[i0];exact below_set1 (j1.out) (by omega) _ _)
  have W2:w38.heap.size=w35.heap.size:=by rw[i0];simp[World.setCell]
  clear i0
  have r1:=zz (QV.soft HA.out (((((Soft.of B4.out).trans (Soft.of B21.out)).trans (S32.out)).trans (S35.out)).trans (S38.out)))
  have s1:=zz (QV.soft HB.out (((((Soft.of B4.out).trans (Soft.of B21.out)).trans (S32.out)).trans (S35.out)).trans (S38.out)))
  have HR1:=zz (QV.read r1.out);have HR2:=zz (RV.neg (QV.read s1.out))
  have HW1:=zz (TV.fst HR1.out);have HD1:=zz (TV.is HR1.out).2.1;have HW2:=zz (show WV w38 w38.heap.size (.agg #[.bool (!n2),.slice B k d]) (-r.num) from by have h:=TV.fst HR2.out;rw[Rat.neg_num] at h;exact h);have HD2:=zz (show RN w38 w38.heap.size (.slice B' k' d') (dig r.den) from by have h:=(TV.is HR2.out).2.1;rw[Rat.neg_den] at h;exact h)
  refine Flow.run [⟨0,27,fun fv fw=>fv=.pointer (some ⟨bn23_r,0,none⟩)⟩,⟨1,28,fun fv fw=>fv=.agg #[.bool n,.slice A l c]⟩,⟨2,29,fun fv fw=>fv=.pointer (some ⟨bn25_s,2,none⟩)⟩,⟨3,30,fun fv fw=>fv=.slice B' k' d'⟩,⟨4,31,fun fv fw=>WV fw fw.heap.size fv (q.num*(r.den:Int))⟩,⟨5,32,fun fv fw=>fv=.pointer (some ⟨bn25_s,0,none⟩)⟩,⟨6,33,fun fv fw=>fv=.agg #[.bool (!n2),.slice B k d]⟩,⟨7,34,fun fv fw=>fv=.pointer (some ⟨bn23_r,2,none⟩)⟩,⟨8,35,fun fv fw=>fv=.slice A' l' c'⟩,⟨9,36,fun fv fw=>WV fw fw.heap.size fv (-r.num*(q.den:Int))⟩,⟨10,37,fun fv fw=>WV fw fw.heap.size fv (q.num*(r.den:Int)+-r.num*(q.den:Int))⟩,⟨11,9,fun fv fw=>∃ b,fv=.pointer (some ⟨b,0,none⟩)∧CB fw b 93 #[.bool false,.slice none 0 0]⟩] [] [11] 1 (by kernel_rfl) (by kernel_rfl) (by kernel_rfl) (fun _ _ _ _ _ h=>h) ?_ ?_ ?_ ?_
  ·refine(a0 (a0 (a0 (a0 (all_cons (fun v w1 w2 h hb=>h.step hb) (a0 (a0 (a0 (a0 (all_cons (fun v w1 w2 h hb=>h.step hb) (all_cons (fun v w1 w2 h hb=>h.step hb) (all_cons (fun v w1 w2 h hb=>let ⟨b,e,h⟩:=h;⟨b,e,h.step hb⟩) all_nil))))))))))))
  ·refine(all_cons ?_ (all_cons ?_ (all_cons ?_ (all_cons ?_ (all_cons ?_ (all_cons ?_ (all_cons ?_ (all_cons ?_ (all_cons ?_ (all_cons ?_ (all_cons ?_ (all_cons ?_ all_nil))))))))))))
   ·intro xs X2 b0 c0
    have u2:=zz b0;have Y2:=b0.size;clear b0
    clear c0
    refine wpOp_step (o:=_) rfl (fun K hK=>?_)
    simp only[FL]
    go_simp
    refine hK _ _ ⟨.pointer (some ⟨bn23_r,0,none⟩),by kernel_rfl,Below.refl _ _,rfl,nF⟩
   ·intro xs Z2 b0 c0
    have t1:=zz b0;have a3:=b0.size;clear b0
    have f0:(xs 0)=.pointer (some ⟨bn23_r,0,none⟩):=c0 _ (m_ 0 rfl) (by kernel_rfl)
    clear c0
    refine wpOp_step (o:=_) rfl (fun K hK=>?_)
    simp only[FL]
    have v0:=CB.step s0 t1.out
    have v2:=v0.cell 0 rfl
    have y2:=v0.cell 1 rfl
    go_simp
    refine hK _ _ ⟨.agg #[.bool n,.slice A l c],by simp only[FL,f0] <;> kernel_rfl,Below.refl _ _,rfl,nF⟩
   ·intro xs b3 b0 c0
    have z2:=zz b0;have c3:=b0.size;clear b0
    clear c0
    refine wpOp_step (o:=_) rfl (fun K hK=>?_)
    simp only[FL]
    go_simp
    refine hK _ _ ⟨.pointer (some ⟨bn25_s,2,none⟩),by kernel_rfl,Below.refl _ _,rfl,nF⟩
   ·intro xs d3 b0 c0
    have u1:=zz b0;have e3:=b0.size;clear b0
    have f2:(xs 2)=.pointer (some ⟨bn25_s,2,none⟩):=c0 _ (m_ 2 rfl) (by kernel_rfl)
    clear c0
    refine wpOp_step (o:=_) rfl (fun K hK=>?_)
    simp only[FL]
    have v1:=CB.step t0 u1.out
    have A2:=v1.cell 2 rfl
    go_simp
    refine hK _ _ ⟨.slice B' k' d',by simp only[FL,f2] <;> kernel_rfl,Below.refl _ _,rfl,nF⟩
   ·intro xs g3 b0 c0
    have y0:=zz b0;have h3:=b0.size;clear b0
    have f1:(xs 1)=.agg #[.bool n,.slice A l c]:=c0 _ (m_ 1 rfl) (by kernel_rfl)
    have f3:(xs 3)=.slice B' k' d':=c0 _ (m_ 3 rfl) (by kernel_rfl)
    clear c0
    refine wpOp_step (o:=_) rfl (fun K hK=>?_)
    simp only[FL]
    go_simp
    have G0:=zz (WV.step HW1.out y0.out)
    have H0:=zz (RN.step HD2.out y0.out)
    (with_reducible refine(wtimes_any _ _ _ q.num r.den G0.out H0.out (by have:=HL.out;omega) (by have:=HL.out;omega)).mono ?_)
    rintro e wc52 ⟨X1,v52,rfl,Y1⟩
    refine hK _ _ ⟨v52,by simp only[FL,f1,f3] <;> kernel_rfl,X1,Y1,nF⟩
   ·intro xs i3 b0 c0
    have B2:=zz b0;have j3:=b0.size;clear b0
    clear c0
    refine wpOp_step (o:=_) rfl (fun K hK=>?_)
    simp only[FL]
    go_simp
    refine hK _ _ ⟨.pointer (some ⟨bn25_s,0,none⟩),by kernel_rfl,Below.refl _ _,rfl,nF⟩
   ·intro xs k3 b0 c0
    have y1:=zz b0;have l3:=b0.size;clear b0
    have f5:(xs 5)=.pointer (some ⟨bn25_s,0,none⟩):=c0 _ (m_ 5 rfl) (by kernel_rfl)
    clear c0
    refine wpOp_step (o:=_) rfl (fun K hK=>?_)
    simp only[FL]
    have A0:=CB.step t0 y1.out
    have C2:=A0.cell 0 rfl
    have D2:=A0.cell 1 rfl
    go_simp
    refine hK _ _ ⟨.agg #[.bool (!n2),.slice B k d],by simp only[FL,f5] <;> kernel_rfl,Below.refl _ _,rfl,nF⟩
   ·intro xs m3 b0 c0
    have E2:=zz b0;have n3:=b0.size;clear b0
    clear c0
    refine wpOp_step (o:=_) rfl (fun K hK=>?_)
    simp only[FL]
    go_simp
    refine hK _ _ ⟨.pointer (some ⟨bn23_r,2,none⟩),by kernel_rfl,Below.refl _ _,rfl,nF⟩
   ·intro xs o3 b0 c0
    have z1:=zz b0;have p3:=b0.size;clear b0
    have f7:(xs 7)=.pointer (some ⟨bn23_r,2,none⟩):=c0 _ (m_ 7 rfl) (by kernel_rfl)
    clear c0
    refine wpOp_step (o:=_) rfl (fun K hK=>?_)
    simp only[FL]
    have A1:=CB.step s0 z1.out
    have F2:=A1.cell 2 rfl
    go_simp
    refine hK _ _ ⟨.slice A' l' c',by simp only[FL,f7] <;> kernel_rfl,Below.refl _ _,rfl,nF⟩
   ·intro xs q3 b0 c0
    have C0:=zz b0;have r3:=b0.size;clear b0
    have f6:(xs 6)=.agg #[.bool (!n2),.slice B k d]:=c0 _ (m_ 6 rfl) (by kernel_rfl)
    have f8:(xs 8)=.slice A' l' c':=c0 _ (m_ 8 rfl) (by kernel_rfl)
    clear c0
    refine wpOp_step (o:=_) rfl (fun K hK=>?_)
    simp only[FL]
    go_simp
    have I0:=zz (WV.step HW2.out C0.out)
    have J0:=zz (RN.step HD1.out C0.out)
    (with_reducible refine(wtimes_any _ _ _ (-r.num) q.den I0.out J0.out HP3.out (by have:=HL.out;omega)).mono ?_)
    rintro e wc64 ⟨Z1,v64,rfl,a2⟩
    refine hK _ _ ⟨v64,by simp only[FL,f6,f8] <;> kernel_rfl,Z1,a2,nF⟩
   ·intro xs o0 b0 c0
    have G2:=zz b0;have s3:=b0.size;clear b0
    have f4:WV o0 o0.heap.size (xs 4) (q.num*(r.den:Int)):=c0 _ (m_ 4 rfl) (by kernel_rfl)
    have f9:WV o0 o0.heap.size (xs 9) (-r.num*(q.den:Int)):=c0 _ (m_ 9 rfl) (by kernel_rfl)
    clear c0
    refine wpOp_step (o:=_) rfl (fun K hK=>?_)
    simp only[FL]
    go_simp
    (with_reducible refine(wplus_any _ _ _ (q.num*(r.den:Int)) (-r.num*(q.den:Int)) f4 f9 (by have:=HL.out;omega) (by have:=HL.out;omega)).mono ?_)
    rintro e wc66 ⟨b2,v66,rfl,c2⟩
    refine hK _ _ ⟨v66,by kernel_rfl,b2,c2,nF⟩
   ·intro xs d2 b0 c0
    have H2:=zz b0;have t3:=b0.size;clear b0
    clear c0
    refine wpOp_step (o:=_) rfl (fun K hK=>?_)
    simp only[FL]
    go_simp
    refine hK _ _ ⟨.pointer (some ⟨d2.heap.size,0,none⟩),by kernel_rfl,(Below.refl _ _).alloc (Nat.le_refl _) _,⟨_,rfl,CB.new _ _ _⟩,fun _=>⟨_,rfl,Nat.le_refl _,by simp⟩⟩
  ·exact all_nil
  ·intro xs wf68 hbf hf hn hd
   have f0:(xs 0)=.pointer (some ⟨bn23_r,0,none⟩):=hf _ (m_ 0 rfl)
   have f1:(xs 1)=.agg #[.bool n,.slice A l c]:=hf _ (m_ 1 rfl)
   have f2:(xs 2)=.pointer (some ⟨bn25_s,2,none⟩):=hf _ (m_ 2 rfl)
   have f3:(xs 3)=.slice B' k' d':=hf _ (m_ 3 rfl)
   have f4:WV wf68 wf68.heap.size (xs 4) (q.num*(r.den:Int)):=hf _ (m_ 4 rfl)
   have f5:(xs 5)=.pointer (some ⟨bn25_s,0,none⟩):=hf _ (m_ 5 rfl)
   have f6:(xs 6)=.agg #[.bool (!n2),.slice B k d]:=hf _ (m_ 6 rfl)
   have f7:(xs 7)=.pointer (some ⟨bn23_r,2,none⟩):=hf _ (m_ 7 rfl)
   have f8:(xs 8)=.slice A' l' c':=hf _ (m_ 8 rfl)
   have f9:WV wf68 wf68.heap.size (xs 9) (-r.num*(q.den:Int)):=hf _ (m_ 9 rfl)
   have f10:WV wf68 wf68.heap.size (xs 10) (q.num*(r.den:Int)+-r.num*(q.den:Int)):=hf _ (m_ 10 rfl)
   have f11:∃ b,(xs 11)=.pointer (some ⟨b,0,none⟩)∧CB wf68 b 93 #[.bool false,.slice none 0 0]:=hf _ (m_ 11 rfl)
   have n11:=hn 11 (by decide)
   clear hf hn hd
   simp only[FL]
   have B69:=zz hbf
   have z69:=B69.out.size
   have e2:=zz (u0.out.trans (B69.out.mono u0.out.size))
   clear hbf
   generalize xs 0=x0,xs 1=x1,xs 2=x2,xs 3=x3,xs 4=x4,xs 5=x5,xs 6=x6,xs 7=x7,xs 8=x8,xs 9=x9,xs 10=x10,xs 11=x11 at *
   obtain rfl:=f0
   obtain rfl:=f1
   obtain rfl:=f2
   obtain rfl:=f3
   clear f4
   obtain rfl:=f5
   obtain rfl:=f6
   obtain rfl:=f7
   obtain rfl:=f8
   clear f9
   obtain⟨on71,oA71,ol71,oc71,rfl,ha71,K0⟩:=f10
   have E0:=zz (WV.mk ha71 K0)
   clear ha71 K0
   obtain⟨bn72_n,rfl,Ln73_n⟩:=f11
   have hge_bn72_n:=zz (show w38.heap.size≤bn72_n by obtain⟨b',e,h,-⟩:=n11;injection e with e;injection e with e;injection e with e _ _;omega)
   clear n11
   have hgb_bn72_n:=Ln73_n.lt;have hgc_bn72_n:=hge_bn72_n.out
   have B1:=Ln73_n.cell 0 rfl
   have C1:=Ln73_n.cell 1 rfl
   have q74_lt:=Ln73_n.lt
   have D1:=Ln73_n.frozen 0
   have E1:=Ln73_n.frozen 1
   have q75_lt:=Ln73_n.lt
   refine Early.next (i:=12) (by kernel_rfl) rfl (fun K hK=>?_)
   go_simp
   refine hK _ _ (fun _=>trivial) ?_
   clear hK K
   (try simp only[Act.put,List.setIfInBounds_toArray,List.set_cons_zero,List.set_cons_succ])
   clear B1 C1 q74_lt D1 E1 q75_lt
   refine Early.done (by kernel_rfl) ?_ _
   (try simp only[Exit.then])
   obtain⟨w76,k0⟩:∃ w76:World,w76=((wf68.setCell ⟨bn72_n,0,none⟩ (.bool on71)).setCell ⟨bn72_n,1,none⟩ (.slice oA71 ol71 oc71)):=⟨_,rfl⟩
   rw[← k0]
   have S76:=zz (show Soft wf68 w76 by rw[k0];exact(CB.soft1 (Ln73_n) (by simp[noInt_b,noInt_s]) 0 (.bool on71)).trans (CB.soft1 ((show CB _ (bn72_n) 93 #[.bool on71,.slice none 0 0] from CB.set (Ln73_n) 0 (.bool on71))) (by simp[noInt_b,noInt_s]) 1 (.slice oA71 ol71 oc71)))
   have p0:CB w76 (bn72_n) 93 #[.bool on71,.slice oA71 ol71 oc71]:=by rw[k0];exact(show CB _ (bn72_n) 93 #[.bool on71,.slice oA71 ol71 oc71] from CB.set ((show CB _ (bn72_n) 93 #[.bool on71,.slice none 0 0] from CB.set (Ln73_n) 0 (.bool on71))) 1 (.slice oA71 ol71 oc71))
   have D0:=zz (show Below w.heap.size w w76 by rw[k0];exact below_set1 (below_set1 (e2.out) (by omega) _ _) (by omega) _ _)
   have u3:w76.heap.size=wf68.heap.size:=by rw[k0];simp[World.setCell]
   clear k0
   have F1:=p0.cell 0 rfl
   have G1:=p0.cell 1 rfl
   have q78_lt:=p0.lt
   go_wp2_with fail
   have F0:=zz (WV.soft E0.out (S76.out))
   refine(wSign_any _ _ _ F0.out).mono ?_
   rintro e w77 ⟨L0,rfl⟩
   have B80:=zz L0
   have z80:=B80.out.size
   have g2:=zz (D0.out.trans (B80.out.mono D0.out.size))
   clear L0
   clear F1 G1 q78_lt
   rw[HZ.out]
   go_wp2
   go_ret2
   exact⟨g2.out,rfl⟩
theorem toldQ_whole (z:Int):toldQ (mkRat z 1)=if (dig z.natAbs).length≤600 then (some (mkRat z 1),0) else (none,6):=by
 obtain⟨h1,h2⟩:=mkRat_low (x:=z) (y:=1) (by decide) (Nat.gcd_one_right _)
 unfold toldQ
 by_cases h:(dig z.natAbs).length≤600
 ·rw[if_pos (show fitQ (mkRat z 1) from⟨by rw[h1];exact h,by rw[h2,dig1];decide⟩),if_pos h]
 ·rw[if_neg (fun k:fitQ (mkRat z 1)=>h (by have k1:=k.1;rw[h1] at k1;exact k1)),if_neg h]
theorem floor_len (z:Int) {d:Nat} (hd:d≠0):(dig (z / (d:Int)).natAbs).length≤(dig z.natAbs).length+2:=by
 have h:(z / (d:Int)).natAbs≤z.natAbs+1:=by
  have h0:=Nat.div_le_self z.natAbs d
  by_cases hr:z.natAbs % d=0
  ·rw[(floor_exact hr).1];omega
  ·by_cases hz:0≤z
   ·rw[(floor_up hz).1];omega
   ·rw[(floor_down hd (by omega) hr).1,Int.natAbs_neg,Int.natAbs_natCast];omega
 exact Nat.le_trans (dig_len_mono h) (dig_len_add _ _ (Nat.le_succ _) (by rw[dig1];simp))
set_option maxRecDepth 100000 in
set_option maxHeartbeats 4000000 in
theorem QFloor_good (w:World) (va:Value) (q:Rat) (ha:QV w w.heap.size va q) (lq:QL 600 600 q) :
  Calls Tryz.prog 18 #[va] w fun e w'=>Below w.heap.size w w'∧RetL w' (toldZ (q.num / (q.den:Int))) e:=by
 obtain⟨z,hz⟩:∃ z,z=q.num / (q.den:Int):=⟨_,rfl⟩;rw[← hz];have HZ:=zz hz
 have HL:=zz (show(dig z.natAbs).length≤602 by rw[hz];have:=floor_len q.num q.den_nz;have:=lq.1;omega);clear hz
 obtain⟨n,A,l,c,m,A',l',c',rfl⟩:=QO.cells (show QO w w.heap.size va (some q) from ha)
 obtain rfl:=(QV.is ha).2.2.2
 have HA:=zz ha;have HLQ:=zz lq;clear ha lq
 obtain⟨w0,hw0⟩:∃ w0:World,w0=((w.alloc (.cells #[.bool n,.slice A l c,.bool false,.slice A' l' c'] 26)).alloc (.cells #[.bool false,.slice none 0 0] 24)):=⟨_,rfl⟩
 have B0:=zz (show Below w.heap.size w w0 by rw[hw0];(repeat' (first | exact Below.refl _ _ | refine Below.drew ?_ | refine Below.alloc ?_ (by first | exact Nat.le_refl _ | (simp;done) | (simp;omega)) _)))
 have z0:w.heap.size+2≤w0.heap.size:=by rw[hw0];simp
 have La:CB w0 (w.heap.size) 26 #[.bool n,.slice A l c,.bool false,.slice A' l' c']:=by rw[hw0];have h:=(CB.new w 26 #[.bool n,.slice A l c,.bool false,.slice A' l' c']).alloc (.cells #[.bool false,.slice none 0 0] 24);simpa using h
 have Lr2:CB w0 (w.heap.size+1) 24 #[.bool false,.slice none 0 0]:=by rw[hw0];have h:=CB.new (w.alloc (.cells #[.bool n,.slice A l c,.bool false,.slice A' l' c'] 26)) 24 #[.bool false,.slice none 0 0];simpa using h
 replace HA:=zz (QV.step HA.out B0.out)
 go_enter Tryz.func18,Tryz.ntmps18
 go_upto_region 1 with (fail)
 rw[← hw0];clear hw0
 have F1:=La.cell 0 rfl
 have G1:=La.cell 1 rfl
 have H1:=La.cell 2 rfl
 have I1:=La.cell 3 rfl
 have q2_lt:=La.lt
 go_wp2_with fail
 refine(QCheck_good HA.out HLQ.out).mono ?_
 rintro e w1 ⟨B1,rfl⟩
 have B3:=zz B1
 have z3:=B3.out.size
 have C1:=zz (B0.out.trans (B3.out.mono B0.out.size))
 clear B1
 clear F1 G1 H1 I1 q2_lt
 have j0:=CB.step La B3.out
 have J1:=j0.cell 0 rfl
 have K1:=j0.cell 1 rfl
 have L1:=j0.cell 2 rfl
 have M1:=j0.cell 3 rfl
 have q7_lt:=j0.lt
 go_wp2_with fail
 refine(Read_any _ n false A A' l c l' c').mono ?_
 rintro e w5 ⟨D1,rfl⟩
 have B8:=zz D1
 have z8:=B8.out.size
 have E1:=zz (C1.out.trans (B8.out.mono C1.out.size))
 clear D1
 clear J1 K1 L1 M1 q7_lt
 go_wp2_with fail
 have P1_3_11:=zz (B3.out.trans (B8.out.mono B3.out.size))
 have L0:=zz (QV.step HA.out P1_3_11.out)
 refine(floor_any _ _ q.num q.den (QV.read L0.out) q.den_nz (by have:=HLQ.out.1;omega)).mono ?_
 rintro e w10 ⟨q0,v,rfl,hv⟩
 have B13:=zz q0
 have z13:=B13.out.size
 have r0:=zz (E1.out.trans (B13.out.mono E1.out.size))
 clear q0
 rw[← HZ.out] at hv
 obtain⟨on15,oA15,ol15,oc15,rfl,ha15,s0⟩:=hv
 have M0:=zz (WV.mk ha15 s0)
 clear ha15 s0
 generalize decide (q.num % (q.den:Int)≠0)=bit
 go_upto_region 5 with (fail)
 obtain⟨w16,n0⟩:∃ w16:World,w16=(w10.alloc (.cells #[.bool on15,.slice oA15 ol15 oc15] 93)):=⟨_,rfl⟩;rw[← n0]
 have t0:Below w10.heap.size w10 w16:=by rw[n0];(repeat' (first | exact Below.refl _ _ | refine Below.drew ?_ | refine Below.alloc ?_ (by first | exact Nat.le_refl _ | (simp;done) | (simp;omega)) _))
 have N0:CB w16 (w10.heap.size) 93 #[.bool on15,.slice oA15 ol15 oc15]:=by rw[n0];have h:=CB.new w10 93 #[.bool on15,.slice oA15 ol15 oc15];simpa using h
 have za16:w10.heap.size+1≤w16.heap.size:=by rw[n0];simp
 have B17:=zz t0
 have z17:=B17.out.size
 have u0:=zz (r0.out.trans (B17.out.mono r0.out.size))
 clear t0 n0
 have O0:=zz (WV.step M0.out B17.out)
 have HWN:=zz (WV.is O0.out)
 have HN1:=zz HWN.out.1
 obtain⟨t,ht⟩:∃ t,t=toldQ (mkRat z 1):=⟨_,rfl⟩;have HT:=zz ht;clear ht
 refine Flow.run [⟨0,22,fun fv fw=>fv=.agg #[.bool on15,.slice oA15 ol15 oc15]⟩,⟨1,23,fun fv fw=>RN fw fw.heap.size fv (dig 1)⟩,⟨2,24,fun fv fw=>TV fw fw.heap.size fv z 1⟩,⟨3,25,fun fv fw=>∃ u,fv=.tuple #[u,.int .i64 t.2]∧QO fw fw.heap.size u t.1⟩,⟨4,21,fun fv fw=>∃ u,fv=.tuple #[u,.int .i64 t.2]∧QO fw fw.heap.size u t.1⟩,⟨5,26,fun fv fw=>QO fw fw.heap.size fv t.1⟩,⟨7,7,fun fv fw=>∃ b,fv=.pointer (some ⟨b,0,none⟩)∧CB fw b 26 #[.bool false,.slice none 0 0,.bool false,.slice none 0 0]⟩] [⟨6,27,fun fv fw=>fv=.int .i64 t.2⟩] [7] 2 (by kernel_rfl) (by kernel_rfl) (by kernel_rfl) (fun _ _ _ _ _ h=>h) ?_ ?_ ?_ ?_
 ·refine(a0 (all_cons (fun v w1 w2 h hb=>h.step hb) (all_cons (fun v w1 w2 h hb=>h.step hb) (all_cons (fun v w1 w2 h hb=>let ⟨u,e,h⟩:=h;⟨u,e,QO.step (o:=t.1) h hb⟩) (all_cons (fun v w1 w2 h hb=>let ⟨u,e,h⟩:=h;⟨u,e,QO.step (o:=t.1) h hb⟩) (all_cons (fun v w1 w2 h hb=>QO.step (o:=t.1) h hb) (all_cons (fun v w1 w2 h hb=>let ⟨b,e,h⟩:=h;⟨b,e,h.step hb⟩) (a0 all_nil))))))))
 ·refine(all_cons ?_ (all_cons ?_ (all_cons ?_ (all_cons ?_ (all_cons ?_ (all_cons ?_ (all_cons ?_ all_nil)))))))
  ·intro xs e2 b0 c0
   have P0:=zz b0;have g2:=b0.size;clear b0
   clear c0
   refine wpOp_step (o:=_) rfl (fun K hK=>?_)
   simp only[FL]
   have p0:=CB.step N0 P0.out
   have V1:=p0.cell 0 rfl
   have W1:=p0.cell 1 rfl
   go_simp
   refine hK _ _ ⟨.agg #[.bool on15,.slice oA15 ol15 oc15],by kernel_rfl,Below.refl _ _,rfl,nF⟩
  ·intro xs h2 b0 c0
   have X1:=zz b0;have i2:=b0.size;clear b0
   clear c0
   refine wpOp_step (o:=_) rfl (fun K hK=>?_)
   simp only[FL]
   go_simp
   (with_reducible refine(one_any _).mono ?_)
   rintro e wc24 ⟨N1,v24,rfl,O1⟩
   refine hK _ _ ⟨v24,by kernel_rfl,N1,O1,nF⟩
  ·intro xs v0 b0 c0
   have Q0:=zz b0;have j2:=b0.size;clear b0
   have f0:(xs 0)=.agg #[.bool on15,.slice oA15 ol15 oc15]:=c0 _ (m_ 0 rfl) (by kernel_rfl)
   have f1:RN v0 v0.heap.size (xs 1) (dig 1):=c0 _ (m_ 1 rfl) (by kernel_rfl)
   clear c0
   refine wpOp_step (o:=_) rfl (fun K hK=>?_)
   simp only[FL]
   obtain⟨A1,c1,hx1,-⟩:=RN.cell f1;have r1:=f1;rw[hx1] at r1 ⊢
   have y0:=zz (RN.step HN1.out Q0.out)
   go_simp
   refine hK _ _ ⟨.agg #[.bool on15,.slice oA15 ol15 oc15,.slice A1 (dig 1).length c1],by simp only[FL,f0,hx1] <;> kernel_rfl,Below.refl _ _,TV.mk y0.out r1 HWN.out.2,nF⟩
  ·intro xs A0 b0 c0
   have Y1:=zz b0;have k2:=b0.size;clear b0
   have f2:TV A0 A0.heap.size (xs 2) z 1:=c0 _ (m_ 2 rfl) (by kernel_rfl)
   clear c0
   refine wpOp_step (o:=_) rfl (fun K hK=>?_)
   simp only[FL]
   go_simp
   (with_reducible refine((show Calls Tryz.prog _ _ _ _ from HT.out▸Told_any _ _ z 1 f2 (by decide) (Nat.gcd_one_right _) (by have:=HL.out;omega) (by rw[dig1];decide))).mono ?_)
   rintro e wc28 ⟨P1,v28,rfl,Q1⟩
   refine hK _ _ ⟨.tuple #[v28,.int .i64 t.2],by kernel_rfl,P1,⟨v28,rfl,Q1⟩,nF⟩
  ·intro xs C0 b0 c0
   have Z1:=zz b0;have l2:=b0.size;clear b0
   have f3:∃ u,(xs 3)=.tuple #[u,.int .i64 t.2]∧QO C0 C0.heap.size u t.1:=c0 _ (m_ 3 rfl) (by kernel_rfl)
   clear c0
   refine wpOp_step (o:=_) rfl (fun K hK=>?_)
   simp only[FL]
   obtain⟨u,hu,hl⟩:=f3;rw[hu]
   go_simp
   refine hK _ _ ⟨.tuple #[u,.int .i64 t.2],by simp only[FL,hu] <;> kernel_rfl,Below.refl _ _,⟨u,rfl,hl⟩,nF⟩
  ·intro xs D0 b0 c0
   have a2:=zz b0;have m2:=b0.size;clear b0
   have f4:∃ u,(xs 4)=.tuple #[u,.int .i64 t.2]∧QO D0 D0.heap.size u t.1:=c0 _ (m_ 4 rfl) (by kernel_rfl)
   clear c0
   refine wpOp_step (o:=_) rfl (fun K hK=>?_)
   simp only[FL]
   obtain⟨u,hu,hl⟩:=f4;rw[hu]
   go_simp
   refine hK _ _ ⟨u,by simp only[FL,hu] <;> kernel_rfl,Below.refl _ _,hl,nF⟩
  ·intro xs R1 b0 c0
   have b2:=zz b0;have n2:=b0.size;clear b0
   clear c0
   refine wpOp_step (o:=_) rfl (fun K hK=>?_)
   simp only[FL]
   go_simp
   refine hK _ _ ⟨.pointer (some ⟨R1.heap.size,0,none⟩),by kernel_rfl,(Below.refl _ _).alloc (Nat.le_refl _) _,⟨_,rfl,CB.new _ _ _⟩,fun _=>⟨_,rfl,Nat.le_refl _,by simp⟩⟩
 ·refine(all_cons ?_ all_nil)
  ·intro xs E0 b0 c0
   have c2:=zz b0;have o2:=b0.size;clear b0
   have f4:∃ u,(xs 4)=.tuple #[u,.int .i64 t.2]∧QO E0 E0.heap.size u t.1:=c0 _ (m_ 4 rfl) (by kernel_rfl)
   clear c0
   obtain⟨u,hu,-⟩:=f4
   refine⟨_,.int .i64 t.2,rfl,Or.inl ⟨by rfl,fun w=>?_⟩,rfl⟩
   simp only[FL]
   rw[hu]
   go_simp
 ·intro xs wf33 hbf hf hn hd
  have f0:(xs 0)=.agg #[.bool on15,.slice oA15 ol15 oc15]:=hf _ (m_ 0 rfl)
  have f1:RN wf33 wf33.heap.size (xs 1) (dig 1):=hf _ (m_ 1 rfl)
  have f2:TV wf33 wf33.heap.size (xs 2) z 1:=hf _ (m_ 2 rfl)
  have f3:∃ u,(xs 3)=.tuple #[u,.int .i64 t.2]∧QO wf33 wf33.heap.size u t.1:=hf _ (m_ 3 rfl)
  have f4:∃ u,(xs 4)=.tuple #[u,.int .i64 t.2]∧QO wf33 wf33.heap.size u t.1:=hf _ (m_ 4 rfl)
  have f5:QO wf33 wf33.heap.size (xs 5) t.1:=hf _ (m_ 5 rfl)
  have f7:∃ b,(xs 7)=.pointer (some ⟨b,0,none⟩)∧CB wf33 b 26 #[.bool false,.slice none 0 0,.bool false,.slice none 0 0]:=hf _ (m_ 6 rfl)
  have f6:(xs 6)=.int .i64 t.2:=hf _ (m_ 7 rfl)
  have n7:=hn 7 (by decide)
  clear hf hn hd
  simp only[FL]
  have B34:=zz hbf
  have z34:=B34.out.size
  have S1:=zz (u0.out.trans (B34.out.mono u0.out.size))
  clear hbf
  generalize xs 0=x0,xs 1=x1,xs 2=x2,xs 3=x3,xs 4=x4,xs 5=x5,xs 7=x7,xs 6=x6 at *
  obtain rfl:=f0
  clear f1
  clear f2
  clear f3
  clear f4
  have hg36:=f5;obtain⟨on36,oA36,ol36,oc36,oe36,oB36,i0,od36,rfl⟩:=QO.cells hg36;have R0:=zz hg36;clear hg36
  obtain⟨bn37_q,rfl,Ln38_q⟩:=f7
  have hge_bn37_q:=zz (show w16.heap.size≤bn37_q by obtain⟨b',e,h,-⟩:=n7;injection e with e;injection e with e;injection e with e _ _;omega)
  clear n7
  have hgb_bn37_q:=Ln38_q.lt;have hgc_bn37_q:=hge_bn37_q.out
  obtain rfl:=f6
  have S0:=Ln38_q.cell 0 rfl
  have T0:=Ln38_q.cell 1 rfl
  have U0:=Ln38_q.cell 2 rfl
  have V0:=Ln38_q.cell 3 rfl
  have q39_lt:=Ln38_q.lt
  have W0:=Ln38_q.frozen 0
  have X0:=Ln38_q.frozen 1
  have Y0:=Ln38_q.frozen 2
  have Z0:=Ln38_q.frozen 3
  have q40_lt:=Ln38_q.lt
  refine Early.next (i:=8) (by kernel_rfl) rfl (fun K hK=>?_)
  go_simp
  refine hK _ _ (fun _=>trivial) ?_
  clear hK K
  (try simp only[Act.put,List.setIfInBounds_toArray,List.set_cons_zero,List.set_cons_succ])
  clear S0 T0 U0 V0 q39_lt W0 X0 Y0 Z0 q40_lt
  refine Early.next (i:=9) (by kernel_rfl) rfl (fun K hK=>?_)
  go_simp
  refine hK _ _ (fun _=>trivial) ?_
  clear hK K
  (try simp only[Act.put,List.setIfInBounds_toArray,List.set_cons_zero,List.set_cons_succ])
  refine Early.done (by kernel_rfl) ?_ _
  (try simp only[Exit.then])
  have P2_4_42:=zz (B8.out.trans (B13.out.mono B8.out.size))
  have P2_5_43:=zz (P2_4_42.out.trans (B17.out.mono P2_4_42.out.size))
  have P2_6_44:=zz (P2_5_43.out.trans (B34.out.mono P2_5_43.out.size))
  have a1:=CB.step j0 P2_6_44.out
  have P1_4_46:=zz (P1_3_11.out.trans (B13.out.mono P1_3_11.out.size))
  have P1_5_47:=zz (P1_4_46.out.trans (B17.out.mono P1_4_46.out.size))
  have P1_6_48:=zz (P1_5_47.out.trans (B34.out.mono P1_5_47.out.size))
  have F0:=CB.step Lr2 P1_6_48.out
  obtain⟨w49,h0⟩:∃ w49:World,w49=((((wf33.setCell ⟨bn37_q,0,none⟩ (.bool on36)).setCell ⟨bn37_q,1,none⟩ (.slice oA36 ol36 oc36)).setCell ⟨bn37_q,2,none⟩ (.bool oe36)).setCell ⟨bn37_q,3,none⟩ (.slice oB36 i0 od36)):=⟨_,rfl⟩
  rw[← h0]
  have S49:=zz (show Soft wf33 w49 by rw[h0];exact(((CB.soft1 (Ln38_q) (by simp[noInt_b,noInt_s]) 0 (.bool on36)).trans (CB.soft1 ((show CB _ (bn37_q) 26 #[.bool on36,.slice none 0 0,.bool false,.slice none 0 0] from CB.set (Ln38_q) 0 (.bool on36))) (by simp[noInt_b,noInt_s]) 1 (.slice oA36 ol36 oc36))).trans (CB.soft1 ((show CB _ (bn37_q) 26 #[.bool on36,.slice oA36 ol36 oc36,.bool false,.slice none 0 0] from CB.set ((show CB _ (bn37_q) 26 #[.bool on36,.slice none 0 0,.bool false,.slice none 0 0] from CB.set (Ln38_q) 0 (.bool on36))) 1 (.slice oA36 ol36 oc36))) (by simp[noInt_b,noInt_s]) 2 (.bool oe36))).trans (CB.soft1 ((show CB _ (bn37_q) 26 #[.bool on36,.slice oA36 ol36 oc36,.bool oe36,.slice none 0 0] from CB.set ((show CB _ (bn37_q) 26 #[.bool on36,.slice oA36 ol36 oc36,.bool false,.slice none 0 0] from CB.set ((show CB _ (bn37_q) 26 #[.bool on36,.slice none 0 0,.bool false,.slice none 0 0] from CB.set (Ln38_q) 0 (.bool on36))) 1 (.slice oA36 ol36 oc36))) 2 (.bool oe36))) (by simp[noInt_b,noInt_s]) 3 (.slice oB36 i0 od36)))
  have d2:CB w49 (w.heap.size) 26 #[.bool n,.slice A l c,.bool false,.slice A' l' c']:=by rw[h0];exact CB.far (p:=⟨bn37_q,3,none⟩) (CB.far (p:=⟨bn37_q,2,none⟩) (CB.far (p:=⟨bn37_q,1,none⟩) (CB.far (p:=⟨bn37_q,0,none⟩) (a1) (show w.heap.size≠bn37_q from by omega) _) (show w.heap.size≠bn37_q from by omega) _) (show w.heap.size≠bn37_q from by omega) _) (show w.heap.size≠bn37_q from by omega) _
  have o0:CB w49 (w.heap.size+1) 24 #[.bool false,.slice none 0 0]:=by rw[h0];exact CB.far (p:=⟨bn37_q,3,none⟩) (CB.far (p:=⟨bn37_q,2,none⟩) (CB.far (p:=⟨bn37_q,1,none⟩) (CB.far (p:=⟨bn37_q,0,none⟩) (F0) (show w.heap.size+1≠bn37_q from by omega) _) (show w.heap.size+1≠bn37_q from by omega) _) (show w.heap.size+1≠bn37_q from by omega) _) (show w.heap.size+1≠bn37_q from by omega) _
  have g0:CB w49 (bn37_q) 26 #[.bool on36,.slice oA36 ol36 oc36,.bool oe36,.slice oB36 i0 od36]:=by rw[h0];exact(show CB _ (bn37_q) 26 #[.bool on36,.slice oA36 ol36 oc36,.bool oe36,.slice oB36 i0 od36] from CB.set ((show CB _ (bn37_q) 26 #[.bool on36,.slice oA36 ol36 oc36,.bool oe36,.slice none 0 0] from CB.set ((show CB _ (bn37_q) 26 #[.bool on36,.slice oA36 ol36 oc36,.bool false,.slice none 0 0] from CB.set ((show CB _ (bn37_q) 26 #[.bool on36,.slice none 0 0,.bool false,.slice none 0 0] from CB.set (Ln38_q) 0 (.bool on36))) 1 (.slice oA36 ol36 oc36))) 2 (.bool oe36))) 3 (.slice oB36 i0 od36))
  have m0:=zz (show Below w.heap.size w w49 by rw[h0];exact below_set1 (below_set1 (below_set1 (below_set1 (S1.out) (by omega) _ _) (by omega) _ _) (by omega) _ _) (by omega) _ _)
  have p2:w49.heap.size=wf33.heap.size:=by rw[h0];simp[World.setCell]
  clear h0
  by_cases hfit:(dig z.natAbs).length≤600
  ·have HTT:=zz (show t=(some (mkRat z 1),0) by rw[HT.out,toldQ_whole,if_pos hfit]);have HTZ:=zz (show toldZ z=(z,0) from if_pos hfit);clear hfit
   have b1:=zz (QO.soft R0.out (S49.out))
   have HLV:=zz (show LV w49 w49.heap.size (.agg #[.bool on36,.slice oA36 ol36 oc36]) z from by have h:QO _ _ _ t.1:=b1.out;rw[HTT.out] at h;have h1:=QV.fst (show QV _ _ _ (mkRat z 1) from h);rw[(mkRat_low (x:=z) (y:=1) (by decide) (Nat.gcd_one_right _)).1] at h1;exact h1)
   rw[show t.2=0 by rw[HTT.out]]
   have d1:=g0.cell 0 rfl
   have e1:=g0.cell 1 rfl
   have g1:=g0.cell 2 rfl
   have i1:=g0.cell 3 rfl
   have q52_lt:=g0.lt
   go_wp2_with fail
   refine(madeG_yes _ on36 oA36 ol36 oc36).mono ?_
   rintro e w51 ⟨G0,rfl⟩
   have B53:=zz G0
   have z53:=B53.out.size
   have T1:=zz (m0.out.trans (B53.out.mono m0.out.size))
   clear G0
   clear d1 e1 g1 i1 q52_lt
   have d0:=CB.step o0 B53.out
   have j1:=d0.cell 0 rfl
   have k1:=d0.cell 1 rfl
   have q56_lt:=d0.lt
   have l1:=d0.frozen 0
   have m1:=d0.frozen 1
   have q57_lt:=d0.lt
   go_wp2
   clear j1 k1 q56_lt l1 m1 q57_lt
   obtain⟨w58,k0⟩:∃ w58:World,w58=((w51.setCell ⟨w.heap.size+1,0,none⟩ (.bool on36)).setCell ⟨w.heap.size+1,1,none⟩ (.slice oA36 ol36 oc36)):=⟨_,rfl⟩
   rw[← k0]
   have S58:=zz (show Soft w51 w58 by rw[k0];exact(CB.soft1 (d0) (by simp[noInt_b,noInt_s]) 0 (.bool on36)).trans (CB.soft1 ((show CB _ (w.heap.size+1) 24 #[.bool on36,.slice none 0 0] from CB.set (d0) 0 (.bool on36))) (by simp[noInt_b,noInt_s]) 1 (.slice oA36 ol36 oc36)))
   have H0:CB w58 (w.heap.size+1) 24 #[.bool on36,.slice oA36 ol36 oc36]:=by rw[k0];exact(show CB _ (w.heap.size+1) 24 #[.bool on36,.slice oA36 ol36 oc36] from CB.set ((show CB _ (w.heap.size+1) 24 #[.bool on36,.slice none 0 0] from CB.set (d0) 0 (.bool on36))) 1 (.slice oA36 ol36 oc36))
   have n1:=zz (show Below w.heap.size w w58 by rw[k0];exact below_set1 (below_set1 (T1.out) (by omega) _ _) (by omega) _ _)
   have q2:w58.heap.size=w51.heap.size:=by rw[k0];simp[World.setCell]
   clear k0
   have I0:=zz (LV.soft HLV.out ((Soft.of B53.out).trans (S58.out)))
   exact bodyPost_ret (GB.ret rfl _ H0 rfl) rfl ⟨n1.out,_,by rw[HTZ.out];rfl,by rw[HTZ.out];exact I0.out⟩
  ·have HTT:=zz (show t=(none,6) by rw[HT.out,toldQ_whole,if_neg hfit]);have HTZ:=zz (show toldZ z=(0,6) from if_neg hfit);clear hfit
   rw[show t.2=6 by rw[HTT.out]]
   have o1:=g0.cell 0 rfl
   have p1:=g0.cell 1 rfl
   have q1:=g0.cell 2 rfl
   have s1:=g0.cell 3 rfl
   have q61_lt:=g0.lt
   go_wp2_with fail
   refine(madeG_no _ on36 oA36 ol36 oc36 6 (by decide)).mono ?_
   rintro e w60 ⟨J0,rfl⟩
   have B62:=zz J0
   have z62:=B62.out.size
   have U1:=zz (m0.out.trans (B62.out.mono m0.out.size))
   clear J0
   clear o1 p1 q1 s1 q61_lt
   have e0:=CB.step o0 B62.out
   have t1:=e0.cell 0 rfl
   have u1:=e0.cell 1 rfl
   have q65_lt:=e0.lt
   have v1:=e0.frozen 0
   have y1:=e0.frozen 1
   have q66_lt:=e0.lt
   go_wp2
   clear t1 u1 q65_lt v1 y1 q66_lt
   obtain⟨w67,l0⟩:∃ w67:World,w67=((w60.setCell ⟨w.heap.size+1,0,none⟩ (.bool false)).setCell ⟨w.heap.size+1,1,none⟩ (.slice none 0 0)):=⟨_,rfl⟩
   rw[← l0]
   have S67:=zz (show Soft w60 w67 by rw[l0];exact(CB.soft1 (e0) (by simp[noInt_b,noInt_s]) 0 (.bool false)).trans (CB.soft1 ((show CB _ (w.heap.size+1) 24 #[.bool false,.slice none 0 0] from CB.set (e0) 0 (.bool false))) (by simp[noInt_b,noInt_s]) 1 (.slice none 0 0)))
   have K0:CB w67 (w.heap.size+1) 24 #[.bool false,.slice none 0 0]:=by rw[l0];exact(show CB _ (w.heap.size+1) 24 #[.bool false,.slice none 0 0] from CB.set ((show CB _ (w.heap.size+1) 24 #[.bool false,.slice none 0 0] from CB.set (e0) 0 (.bool false))) 1 (.slice none 0 0))
   have z1:=zz (show Below w.heap.size w w67 by rw[l0];exact below_set1 (below_set1 (U1.out) (by omega) _ _) (by omega) _ _)
   have r2:w67.heap.size=w60.heap.size:=by rw[l0];simp[World.setCell]
   clear l0
   exact bodyPost_ret (GB.ret rfl _ K0 rfl) rfl ⟨z1.out,_,by rw[HTZ.out];rfl,by rw[HTZ.out];exact LV.zero _ _⟩
end Go.Proofs.YtioclokmbgmamaaGreatDoor
