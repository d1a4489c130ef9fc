/- Layer 04: Diff, turned, Prod, Quo (written by gen_qe.py). -/
import Derived.Test.YtngpibfakemmhaaGreatDoorQD
namespace Go.Proofs.YtngpibfakemmhaaGreatDoor
open Go Go.RowKit Dig
theorem not_dec {z:Int} {n:Bool} (h:z≠0→n=decide (z<0)) (h0:-z≠0):(!n)=decide (-z<0):=by
 rcases wsgn_cases h with h | ⟨rfl,h⟩ | ⟨rfl,h⟩
 ·omega
 ·rw[decide_eq_false (by omega)];rfl
 ·rw[decide_eq_true (by omega)];rfl
theorem TV.neg {w:World} {B:Nat} {n:Bool} {A A':Option Addr} {l c l' c':Nat} {z:Int} {d:Nat} (h:TV w B (.agg #[.bool n,.slice A l c,.slice A' l' c']) z d):TV w B (.agg #[.bool (!n),.slice A l c,.slice A' l' c']) (-z) d:=
 TV.mk (by rw[Int.natAbs_neg];exact h.is.1) h.is.2.1 (not_dec h.is.2.2)
theorem RV.neg {w:World} {B:Nat} {n:Bool} {A A':Option Addr} {l c l' c':Nat} {q:Rat} (h:RV w B (.agg #[.bool n,.slice A l c,.slice A' l' c']) q):RV w B (.agg #[.bool (!n),.slice A l c,.slice A' l' c']) (-q):=by
 unfold RV;rw[Rat.neg_num,Rat.neg_den];exact TV.neg h
theorem RV.soft {w w':World} {v:Value} {q:Rat} (h:RV w w.heap.size v q) (hs:Soft w w'):RV w' w'.heap.size v q:=TV.soft h hs
theorem TV.fst {w:World} {B:Nat} {n:Bool} {A A':Option Addr} {l c l' c':Nat} {z:Int} {d:Nat} (h:TV w B (.agg #[.bool n,.slice A l c,.slice A' l' c']) z d):WV w B (.agg #[.bool n,.slice A l c]) z:=WV.mk h.is.1 h.is.2.2
theorem bne_sgn {x y:Int} {n m:Bool} (h:x≠0→n=decide (x<0)) (k:y≠0→m=decide (y<0)) (h0:x*y≠0):(!(n==m))=decide (x*y<0):=by
 have hx:x≠0:=fun e=>h0 (by rw[e,Int.zero_mul])
 have hy:y≠0:=fun e=>h0 (by rw[e,Int.mul_zero])
 rw[h hx,k hy];rcases Int.lt_or_gt_of_ne hx with h1 | h1 <;> rcases Int.lt_or_gt_of_ne hy with h2 | h2
 ·have:=Int.mul_pos_of_neg_of_neg h1 h2;rw[decide_eq_true h1,decide_eq_true h2,decide_eq_false (by omega)];rfl
 ·have:=Int.mul_neg_of_neg_of_pos h1 h2;rw[decide_eq_true h1,decide_eq_false (by omega),decide_eq_true (by omega)];rfl
 ·have:=Int.mul_neg_of_pos_of_neg h1 h2;rw[decide_eq_false (by omega),decide_eq_true h2,decide_eq_true (by omega)];rfl
 ·have:=Int.mul_pos h1 h2;rw[decide_eq_false (by omega),decide_eq_false (by omega),decide_eq_false (by omega)];rfl
def QL (a b:Nat) (q:Rat):Prop:=(dig q.num.natAbs).length≤a∧(dig q.den).length≤b
theorem QL.mono {a b a' b':Nat} {q:Rat} (h:QL a b q) (h1:a≤a') (h2:b≤b'):QL a' b' q:=⟨Nat.le_trans h.1 h1,Nat.le_trans h.2 h2⟩
theorem QL.neg {a b:Nat} {q:Rat} (h:QL a b q):QL a b (-q):=by unfold QL;rw[Rat.neg_num,Rat.neg_den,Int.natAbs_neg];exact h
theorem QL.mk' {n:Int} {d a b:Nat} (hn:(dig n.natAbs).length≤a) (hd:(dig d).length≤b) (h0:d≠0):QL a b (mkRat n d):=by
 obtain⟨h1,h2⟩:=rat_reduced (n:=n) h0;refine⟨?_,?_⟩
 ·rw[h1,natAbs_ediv_nat (gcd_dvd_int _ _)];exact Nat.le_trans (dig_len_mono (Nat.div_le_self _ _)) hn
 ·rw[h2];exact Nat.le_trans (dig_len_mono (Nat.div_le_self _ _)) hd
theorem QL.add {a b a' b':Nat} {q r:Rat} (h:QL a b q) (k:QL a' b' r):QL (a+b'+a'+b+1) (b+b') (q+r):=by
 rw[Rat.add_def'];refine QL.mk' ?_ (Nat.le_trans (dig_len_mul _ _) (Nat.add_le_add h.2 k.2)) (Nat.mul_ne_zero q.den_nz r.den_nz);have h1:(dig (q.num*r.den).natAbs).length≤a+b'+a'+b:=by rw[Int.natAbs_mul,Int.natAbs_natCast];have:=dig_len_mul q.num.natAbs r.den;have:=h.1;have:=k.2;omega
 have h2:(dig (r.num*q.den).natAbs).length≤a+b'+a'+b:=by rw[Int.natAbs_mul,Int.natAbs_natCast];have:=dig_len_mul r.num.natAbs q.den;have:=k.1;have:=h.2;omega
 exact Nat.le_trans (dig_len_mono (Int.natAbs_add_le _ _)) (dig_len_add _ _ h1 h2)
theorem QL.sub {a b a' b':Nat} {q r:Rat} (h:QL a b q) (k:QL a' b' r):QL (a+b'+a'+b+1) (b+b') (q-r):=by
 rw[Rat.sub_eq_add_neg];exact h.add k.neg
theorem QL.mul {a b a' b':Nat} {q r:Rat} (h:QL a b q) (k:QL a' b' r):QL (a+a') (b+b') (q*r):=by
 rw[Rat.mul_def'];refine QL.mk' ?_ (Nat.le_trans (dig_len_mul _ _) (Nat.add_le_add h.2 k.2)) (Nat.mul_ne_zero q.den_nz r.den_nz);rw[Int.natAbs_mul];exact Nat.le_trans (dig_len_mul _ _) (Nat.add_le_add h.1 k.1)
set_option maxRecDepth 100000 in
set_option maxHeartbeats 4000000 in
theorem Diff_any (w:World) (va vb:Value) (q r:Rat) (ha:RV w w.heap.size va q) (hb:RV w w.heap.size vb r) (l1:QL 20000 20000 q) (l2:QL 20000 20000 r) :
  Calls Tryz.prog 48 #[va,vb] w fun e w'=>Below w.heap.size w w'∧∃ v,e=.returned v∧RV w' w'.heap.size v (q-r):=by
 have HS:=zz (Rat.sub_eq_add_neg q r);obtain⟨n,A,l,c,A',l',c',rfl,Ha,Hd,hn⟩:=ha;obtain⟨m,B,k,e,B',k',e',rfl,Hb,He,hm⟩:=hb;have HL:=zz (And.intro l1.1 (And.intro l1.2 (And.intro l2.neg.1 l2.neg.2)));clear l1 l2;have HA:=zz (show RV w w.heap.size _ q from TV.mk Ha Hd hn);have HB:=zz (RV.neg (show RV w w.heap.size _ r from TV.mk Hb He hm));clear Ha Hd hn Hb He hm;obtain⟨w0,hw0⟩:∃ w0:World,w0=(((w.alloc (.cells #[.bool n,.slice A l c,.slice A' l' c'] 80)).alloc (.cells #[.bool m,.slice B k e,.slice B' k' e'] 80)).alloc (.cells #[.bool false,.slice none 0 0,.slice none 0 0] 80)):=⟨_,rfl⟩;have B0:=zz (n3_b hw0);have z0:=n3_z hw0;have Lr:=n3_0 hw0;have Ls:=n3_1 hw0;have Lr4:=n3_2 hw0;replace HA:=zz (RV.step HA.out B0.out);replace HB:=zz (RV.step HB.out B0.out);go_enter Tryz.func48,Tryz.ntmps48
 go_upto_region 1 with (fail)
 rw[← hw0];clear hw0;have j0:=Ls.cell 0 rfl;have k0:=Ls.cell 1 rfl;have l0:=Ls.cell 2 rfl;have K0:=Ls.lt;have m0:=Ls.frozen 0;have n0:=Ls.frozen 1;have o0:=Ls.frozen 2;have L0:=Ls.lt;go_upto_region 2 with (fail)
 clear j0 k0 l0 K0 m0 n0 o0 L0;obtain⟨w3,b0⟩:∃ w3:World,w3=(w0.setCell ⟨w.heap.size+1,0,none⟩ (.bool (!m))):=⟨_,rfl⟩;rw[← b0];have S3:=zz (show Soft w0 w3 by rw[b0];exact CB.soft1 (Ls) (by simp[noInt_b,noInt_s]) 0 (.bool (!m)));have c0:=p1_f b0 Lr (by omega);have g0:=p1_f b0 Lr4 (by omega);have d0:CB w3 (w.heap.size+1) 80 #[.bool (!m),.slice B k e,.slice B' k' e']:=by rw[b0];exact(show CB _ (w.heap.size+1) 80 #[.bool (!m),.slice B k e,.slice B' k' e'] from CB.set (Ls) 0 (.bool (!m)))
 have e0:=zz (p1_b b0 B0.out (by omega));have I0:=p1_z b0;clear b0;have p0:=c0.cell 0 rfl;have q0:=c0.cell 1 rfl;have r0:=c0.cell 2 rfl;have M0:=c0.lt;have s0:=d0.cell 0 rfl;have t0:=d0.cell 1 rfl;have u0:=d0.cell 2 rfl;have N0:=d0.lt;go_wp2_with fail
 have v0:=zz (RV.soft HA.out (S3.out));have x0:=zz (RV.soft HB.out (S3.out));refine(Sum_any _ _ _ q (-r) v0.out x0.out HL.out.1 HL.out.2.1 HL.out.2.2.1 HL.out.2.2.2).mono ?_;rintro e w4 ⟨i0,v,rfl,hv⟩;have B9:=zz i0;have z9:=B9.out.size;have y0:=zz (e0.out.trans (B9.out.mono e0.out.size));clear i0;clear p0 q0 r0 M0 s0 t0 u0 N0;rw[← HS.out] at hv;obtain⟨T0,U0,V0,W0,X0,A0,Y0,rfl,ha11,f0,hc11⟩:=hv;have h0:=zz (TV.mk ha11 f0 hc11);clear ha11 f0 hc11;have a0:=CB.step g0 B9.out;have C0:=a0.cell 0 rfl;have D0:=a0.cell 1 rfl;have E0:=a0.cell 2 rfl;have Q0:=a0.lt;have F0:=a0.frozen 0;have G0:=a0.frozen 1;have H0:=a0.frozen 2;have R0:=a0.lt;go_wp2;exact TB.fin rfl a0 (by simp[noInt_b,noInt_s]) y0.out (by omega) h0.out rfl
set_option maxRecDepth 100000 in
set_option maxHeartbeats 4000000 in
theorem turned_any (w:World) (v:Value) (q:Rat) (h:RV w w.heap.size v q) (h0:q≠0) :
  Calls Tryz.prog 76 #[v] w fun e w'=>Below w.heap.size w w'∧∃ v,e=.returned v∧RV w' w'.heap.size v q⁻¹:=by
 obtain⟨n,A,l,c,A',l',c',rfl,Ha,Hd,hn⟩:=h;have hz:q.num≠0:=fun e=>h0 (Rat.num_eq_zero.1 e)
 have HT:=zz (show RV w w.heap.size (.agg #[.bool n,.slice A' l' c',.slice A l c]) q⁻¹ by
  unfold RV;rw[Rat.num_inv,Rat.den_inv,if_neg hz];refine TV.mk ?_ Ha (fun _=>?_)
  ·rw[Int.natAbs_mul,Int.natAbs_sign_of_ne_zero hz,Nat.one_mul,Int.natAbs_natCast];exact Hd
  ·have hd:=Nat.pos_of_ne_zero q.den_nz;rw[hn hz];rcases Int.lt_or_gt_of_ne hz with h1 | h1
   ·rw[Int.sign_eq_neg_one_of_neg h1,decide_eq_true h1,decide_eq_true (by omega)]
   ·rw[Int.sign_eq_one_of_pos h1,decide_eq_false (by omega),decide_eq_false (by omega)]);clear Ha Hd hn hz h0
 obtain⟨w0,hw0⟩:∃ w0:World,w0=((w.alloc (.cells #[.bool n,.slice A l c,.slice A' l' c'] 80)).alloc (.cells #[.bool false,.slice none 0 0,.slice none 0 0] 80)):=⟨_,rfl⟩;have B0:=zz (n2_b hw0);have z0:=n2_z hw0;have Lr:=n2_0 hw0;have Lr2:=n2_1 hw0;replace HT:=zz (RV.step HT.out B0.out);go_enter Tryz.func76,Tryz.ntmps76
 go_upto_region 1 with (fail)
 rw[← hw0];clear hw0;have a0:=Lr.cell 0 rfl;have b0:=Lr.cell 1 rfl;have c0:=Lr.cell 2 rfl;have l0:=Lr.lt;have d0:=Lr2.cell 0 rfl;have e0:=Lr2.cell 1 rfl;have f0:=Lr2.cell 2 rfl;have m0:=Lr2.lt;have g0:=Lr2.frozen 0;have i0:=Lr2.frozen 1;have j0:=Lr2.frozen 2;have n0:=Lr2.lt;go_wp2;exact TB.fin rfl Lr2 (by simp[noInt_b,noInt_s]) B0.out (by omega) HT.out rfl
set_option maxRecDepth 100000 in
set_option maxHeartbeats 4000000 in
theorem Prod_any (w:World) (va vb:Value) (q r:Rat) (ha:RV w w.heap.size va q) (hb:RV w w.heap.size vb r) (l1:QL 20000 20000 q) (l2:QL 20000 20000 r) :
  Calls Tryz.prog 45 #[va,vb] w fun e w'=>Below w.heap.size w w'∧∃ v,e=.returned v∧RV w' w'.heap.size v (q*r):=by
 obtain⟨n,A,l,c,A',l',c',rfl,Ha,Hd,hn⟩:=ha;obtain⟨m,B,k,e,B',k',e',rfl,Hb,He,hm⟩:=hb;obtain⟨g1,h1⟩:∃ g,g=Nat.gcd q.num.natAbs r.den:=⟨_,rfl⟩;obtain⟨g2,h2⟩:∃ g,g=Nat.gcd r.num.natAbs q.den:=⟨_,rfl⟩;have hP:=rat_prod q r h1 h2;obtain⟨x,hx⟩:∃ x,x=q.num / (g1:Int):=⟨_,rfl⟩;obtain⟨y,hy⟩:∃ y,y=r.num / (g2:Int):=⟨_,rfl⟩;obtain⟨s,hs⟩:∃ s,s=r.den / g1:=⟨_,rfl⟩;obtain⟨t,ht⟩:∃ t,t=q.den / g2:=⟨_,rfl⟩;rw[← hx,← hy,← hs,← ht] at hP;have q1:(dig x.natAbs).length≤20000:=by rw[hx,h1,natAbs_ediv_nat (gcd_dvd_int _ _)];exact Nat.le_trans (dig_len_mono (Nat.div_le_self _ _)) l1.1
 have q2:(dig y.natAbs).length≤20000:=by rw[hy,h2,natAbs_ediv_nat (gcd_dvd_int _ _)];exact Nat.le_trans (dig_len_mono (Nat.div_le_self _ _)) l2.1
 have q3:(dig s).length≤20000:=by rw[hs];exact Nat.le_trans (dig_len_mono (Nat.div_le_self _ _)) l2.2
 have q4:(dig t).length≤20000:=by rw[ht];exact Nat.le_trans (dig_len_mono (Nat.div_le_self _ _)) l1.2
 have hz1:x≠0→q.num≠0:=fun h e=>h (by rw[hx,e];simp)
 have hz2:y≠0→r.num≠0:=fun h e=>h (by rw[hy,e];simp)
 have hS:x*y≠0→(!(n==m))=decide (x*y<0):=bne_sgn (fun h=>by rw[hx] at h ⊢;exact(wred hn (h1▸gcd_dvd_int _ _) (by rw[h1];exact fun e=>r.den_nz (Nat.gcd_eq_zero_iff.1 e).2)).2 h) (fun h=>by rw[hy] at h ⊢;exact(wred hm (h2▸gcd_dvd_int _ _) (by rw[h2];exact fun e=>q.den_nz (Nat.gcd_eq_zero_iff.1 e).2)).2 h);have HL:=zz (And.intro l1.1 (And.intro l1.2 (And.intro l2.1 (And.intro l2.2 (And.intro q1 (And.intro q2 (And.intro q3 q4)))))));have HX:=zz hx;have HY:=zz hy;have HS:=zz hs;have HT:=zz ht;have H1:=zz h1;have H2:=zz h2;have HP:=zz hP;have t3:=zz hS;clear hz1 hz2 hS hP q1 q2 q3 q4 l1 l2 hx hy hs ht h1 h2;have HA:=zz (TV.mk Ha He hn);have HB:=zz (TV.mk Hb Hd hm);clear Ha Hd hn Hb He hm;obtain⟨w0,hw0⟩:∃ w0:World,w0=(((w.alloc (.cells #[.bool n,.slice A l c,.slice A' l' c'] 80)).alloc (.cells #[.bool m,.slice B k e,.slice B' k' e'] 80)).alloc (.cells #[.bool false,.slice none 0 0,.slice none 0 0] 80)):=⟨_,rfl⟩;have B0:=zz (n3_b hw0);have z0:=n3_z hw0;have Lr:=n3_0 hw0;have Ls:=n3_1 hw0;have Lr4:=n3_2 hw0;replace HA:=zz (TV.step HA.out B0.out);replace HB:=zz (TV.step HB.out B0.out);go_enter Tryz.func45,Tryz.ntmps45
 go_upto_region 1 with (fail)
 rw[← hw0];clear hw0;have p1:=Lr.cell 0 rfl;have r1:=Lr.cell 1 rfl;have s1:=Lr.cell 2 rfl;have m3:=Lr.lt;have t1:=Ls.cell 0 rfl;have u1:=Ls.cell 1 rfl;have v1:=Ls.cell 2 rfl;have n3:=Ls.lt;go_wp2_with fail
 refine(reduced_any _ _ q.num r.den HA.out r.den_nz (by have:=HL.out;omega) (by have:=HL.out;omega)).mono ?_;rintro e w1 ⟨k1,v,rfl,hv⟩;have B4:=zz k1;have z4:=B4.out.size;have m1:=zz (B0.out.trans (B4.out.mono B0.out.size));clear k1;clear p1 r1 s1 m3 t1 u1 v1 n3;rw[← H1.out,← HX.out,← HS.out] at hv;obtain⟨u3,c3,d3,e3,g3,i0,h3,rfl,ha6,n1,hc6⟩:=hv;have y1:=zz (TV.mk ha6 n1 hc6);clear ha6 n1 hc6;go_upto_region 2 with (fail)
 obtain⟨w7,l0⟩:∃ w7:World,w7=(w1.alloc (.cells #[.bool u3,.slice c3 d3 e3,.slice g3 i0 h3] 80)):=⟨_,rfl⟩;rw[← l0];have r0:=n1_0 l0;have za7:=n1_z l0;have B8:=zz (n1_b l0);have z8:=B8.out.size;have o1:=zz (m1.out.trans (B8.out.mono m1.out.size));clear l0;have P1_3_12:=zz (B4.out.trans (B8.out.mono B4.out.size));have e0:=CB.step Lr P1_3_12.out;have G0:=e0.cell 0 rfl;have H0:=e0.cell 1 rfl;have I0:=e0.cell 2 rfl;have i3:=e0.lt;have g0:=CB.step Ls P1_3_12.out;have J0:=g0.cell 0 rfl;have K0:=g0.cell 1 rfl;have L0:=g0.cell 2 rfl;have j3:=g0.lt;go_wp2_with fail
 have M0:=zz (TV.step HB.out P1_3_12.out);refine(reduced_any _ _ r.num q.den M0.out q.den_nz (by have:=HL.out;omega) (by have:=HL.out;omega)).mono ?_;rintro e w10 ⟨s0,v,rfl,hv⟩;have B17:=zz s0;have z17:=B17.out.size;have t0:=zz (o1.out.trans (B17.out.mono o1.out.size));clear s0;clear G0 H0 I0 i3 J0 K0 L0 j3;rw[← H2.out,← HY.out,← HT.out] at hv;obtain⟨r3,W2,X2,Y2,Z2,h0,a3,rfl,ha19,u0,hc19⟩:=hv;have N0:=zz (TV.mk ha19 u0 hc19);clear ha19 u0 hc19;go_upto_region 3 with (fail)
 obtain⟨w20,j0⟩:∃ w20:World,w20=(w10.alloc (.cells #[.bool r3,.slice W2 X2 Y2,.slice Z2 h0 a3] 80)):=⟨_,rfl⟩;rw[← j0];have m0:=n1_0 j0;have za20:=n1_z j0;have B21:=zz (n1_b j0);have z21:=B21.out.size;have v0:=zz (t0.out.trans (B21.out.mono t0.out.size));clear j0;have P2_4_23:=zz (B8.out.trans (B17.out.mono B8.out.size));have P2_5_24:=zz (P2_4_23.out.trans (B21.out.mono P2_4_23.out.size));have n0:=zz (TV.step y1.out P2_5_24.out);have o0:=zz (TV.step N0.out B21.out);have v3:=zz (TV.is n0.out).1;have w3:=zz (TV.is n0.out).2.1;have y3:=zz (TV.is o0.out).1;have z3:=zz (TV.is o0.out).2.1
 refine Flow.run [⟨0,19,fun fv fw=>fv=.pointer (some ⟨w.heap.size,0,none⟩)⟩,⟨1,20,fun fv fw=>fv=.pointer (some ⟨w.heap.size,0,none⟩)⟩,⟨2,21,fun fv fw=>fv=.bool n⟩,⟨3,22,fun fv fw=>fv=.pointer (some ⟨w.heap.size+1,0,none⟩)⟩,⟨4,23,fun fv fw=>fv=.pointer (some ⟨w.heap.size+1,0,none⟩)⟩,⟨5,24,fun fv fw=>fv=.bool m⟩,⟨6,25,fun fv fw=>fv=.bool (!(n==m))⟩,⟨7,26,fun fv fw=>fv=.pointer (some ⟨w1.heap.size,0,none⟩)⟩,⟨8,27,fun fv fw=>fv=.pointer (some ⟨w1.heap.size,1,none⟩)⟩,⟨9,28,fun fv fw=>fv=.slice c3 d3 e3⟩,⟨10,29,fun fv fw=>fv=.pointer (some ⟨w10.heap.size,0,none⟩)⟩,⟨11,30,fun fv fw=>fv=.pointer (some ⟨w10.heap.size,1,none⟩)⟩,⟨12,31,fun fv fw=>fv=.slice W2 X2 Y2⟩,⟨13,32,fun fv fw=>RN fw fw.heap.size fv (dig (x.natAbs*y.natAbs))⟩,⟨14,33,fun fv fw=>WV fw fw.heap.size fv (x*y)⟩,⟨15,34,fun fv fw=>fv=.pointer (some ⟨w1.heap.size,2,none⟩)⟩,⟨16,35,fun fv fw=>fv=.slice g3 i0 h3⟩,⟨17,36,fun fv fw=>fv=.pointer (some ⟨w10.heap.size,2,none⟩)⟩,⟨18,37,fun fv fw=>fv=.slice Z2 h0 a3⟩,⟨19,38,fun fv fw=>RN fw fw.heap.size fv (dig (s*t))⟩,⟨20,39,fun fv fw=>TV fw fw.heap.size fv (x*y) (s*t)⟩] [] [] 1 (by kernel_rfl) (by kernel_rfl) (by kernel_rfl) (fun _ _ _ _ _ h=>h) ?_ ?_ ?_ ?_
 ·refine(a0 (a0 (a0 (a0 (a0 (a0 (a0 (a0 (a0 (a0 (a0 (a0 (a0 (all_cons (fun v w1 w2 h hb=>h.step hb) (all_cons (fun v w1 w2 h hb=>h.step hb) (a0 (a0 (a0 (a0 (all_cons (fun v w1 w2 h hb=>h.step hb) (all_cons (fun v w1 w2 h hb=>h.step hb) all_nil)))))))))))))))))))))
 ·refine(all_cons ?_ (all_cons ?_ (all_cons ?_ (all_cons ?_ (all_cons ?_ (all_cons ?_ (all_cons ?_ (all_cons ?_ (all_cons ?_ (all_cons ?_ (all_cons ?_ (all_cons ?_ (all_cons ?_ (all_cons ?_ (all_cons ?_ (all_cons ?_ (all_cons ?_ (all_cons ?_ (all_cons ?_ (all_cons ?_ (all_cons ?_ all_nil)))))))))))))))))))))
  ·intro xs Z1 b0 c0;clear b0;clear c0;refine wpOp_step (o:=_) rfl (fun K hK=>?_);simp only[FL]
   go_simp;refine hK _ _ ⟨.pointer (some ⟨w.heap.size,0,none⟩),by kernel_rfl,Below.refl _ _,rfl,nF⟩
  ·intro xs b2 b0 c0;clear b0;have f0:(xs 0)=.pointer (some ⟨w.heap.size,0,none⟩):=c0 _ (m_ 0 rfl) (by kernel_rfl);clear c0;refine wpOp_step (o:=_) rfl (fun K hK=>?_);simp only[FL]
   go_simp;refine hK _ _ ⟨.pointer (some ⟨w.heap.size,0,none⟩),by simp only[FL,f0] <;> kernel_rfl,Below.refl _ _,rfl,nF⟩
  ·intro xs d2 b0 c0;have O0:=zz b0;have e2:=b0.size;clear b0;have f1:(xs 1)=.pointer (some ⟨w.heap.size,0,none⟩):=c0 _ (m_ 1 rfl) (by kernel_rfl);clear c0;refine wpOp_step (o:=_) rfl (fun K hK=>?_);simp only[FL]
   have P3_5_31:=zz (B17.out.trans (B21.out.mono B17.out.size));have P3_6_32:=zz (P3_5_31.out.trans (O0.out.mono P3_5_31.out.size));have P0:=CB.step e0 P3_6_32.out;have G1:=P0.cell 0 rfl;go_simp;refine hK _ _ ⟨.bool n,by simp only[FL,f1] <;> kernel_rfl,Below.refl _ _,rfl,nF⟩
  ·intro xs i2 b0 c0;clear b0;clear c0;refine wpOp_step (o:=_) rfl (fun K hK=>?_);simp only[FL]
   go_simp;refine hK _ _ ⟨.pointer (some ⟨w.heap.size+1,0,none⟩),by kernel_rfl,Below.refl _ _,rfl,nF⟩
  ·intro xs k2 b0 c0;clear b0;have f3:(xs 3)=.pointer (some ⟨w.heap.size+1,0,none⟩):=c0 _ (m_ 3 rfl) (by kernel_rfl);clear c0;refine wpOp_step (o:=_) rfl (fun K hK=>?_);simp only[FL]
   go_simp;refine hK _ _ ⟨.pointer (some ⟨w.heap.size+1,0,none⟩),by simp only[FL,f3] <;> kernel_rfl,Below.refl _ _,rfl,nF⟩
  ·intro xs n2 b0 c0;have Q0:=zz b0;have o2:=b0.size;clear b0;have f4:(xs 4)=.pointer (some ⟨w.heap.size+1,0,none⟩):=c0 _ (m_ 4 rfl) (by kernel_rfl);clear c0;refine wpOp_step (o:=_) rfl (fun K hK=>?_);simp only[FL]
   have P3_5_38:=zz (B17.out.trans (B21.out.mono B17.out.size));have P3_6_39:=zz (P3_5_38.out.trans (Q0.out.mono P3_5_38.out.size));have R0:=CB.step g0 P3_6_39.out;have K1:=R0.cell 0 rfl;go_simp;refine hK _ _ ⟨.bool m,by simp only[FL,f4] <;> kernel_rfl,Below.refl _ _,rfl,nF⟩
  ·intro xs p2 b0 c0;clear b0;have f2:(xs 2)=.bool n:=c0 _ (m_ 2 rfl) (by kernel_rfl);have f5:(xs 5)=.bool m:=c0 _ (m_ 5 rfl) (by kernel_rfl);clear c0;refine wpOp_step (o:=_) rfl (fun K hK=>?_);simp only[FL]
   go_simp;refine hK _ _ ⟨.bool (!(n==m)),by simp only[FL,f2,f5] <;> kernel_rfl,Below.refl _ _,rfl,nF⟩
  ·intro xs s2 b0 c0;clear b0;clear c0;refine wpOp_step (o:=_) rfl (fun K hK=>?_);simp only[FL]
   go_simp;refine hK _ _ ⟨.pointer (some ⟨w1.heap.size,0,none⟩),by kernel_rfl,Below.refl _ _,rfl,nF⟩
  ·intro xs u2 b0 c0;clear b0;have f7:(xs 7)=.pointer (some ⟨w1.heap.size,0,none⟩):=c0 _ (m_ 7 rfl) (by kernel_rfl);clear c0;refine wpOp_step (o:=_) rfl (fun K hK=>?_);simp only[FL]
   go_simp;refine hK _ _ ⟨.pointer (some ⟨w1.heap.size,1,none⟩),by simp only[FL,f7] <;> kernel_rfl,Below.refl _ _,rfl,nF⟩
  ·intro xs y2 b0 c0;have S0:=zz b0;have z2:=b0.size;clear b0;have f8:(xs 8)=.pointer (some ⟨w1.heap.size,1,none⟩):=c0 _ (m_ 8 rfl) (by kernel_rfl);clear c0;refine wpOp_step (o:=_) rfl (fun K hK=>?_);simp only[FL]
   have P3_5_46:=zz (B17.out.trans (B21.out.mono B17.out.size));have P3_6_47:=zz (P3_5_46.out.trans (S0.out.mono P3_5_46.out.size));have T0:=CB.step r0 P3_6_47.out;have O1:=T0.cell 1 rfl;go_simp;refine hK _ _ ⟨.slice c3 d3 e3,by simp only[FL,f8] <;> kernel_rfl,Below.refl _ _,rfl,nF⟩
  ·intro xs A2 b0 c0;clear b0;clear c0;refine wpOp_step (o:=_) rfl (fun K hK=>?_);simp only[FL]
   go_simp;refine hK _ _ ⟨.pointer (some ⟨w10.heap.size,0,none⟩),by kernel_rfl,Below.refl _ _,rfl,nF⟩
  ·intro xs C2 b0 c0;clear b0;have f10:(xs 10)=.pointer (some ⟨w10.heap.size,0,none⟩):=c0 _ (m_ 10 rfl) (by kernel_rfl);clear c0;refine wpOp_step (o:=_) rfl (fun K hK=>?_);simp only[FL]
   go_simp;refine hK _ _ ⟨.pointer (some ⟨w10.heap.size,1,none⟩),by simp only[FL,f10] <;> kernel_rfl,Below.refl _ _,rfl,nF⟩
  ·intro xs E2 b0 c0;have U0:=zz b0;have F2:=b0.size;clear b0;have f11:(xs 11)=.pointer (some ⟨w10.heap.size,1,none⟩):=c0 _ (m_ 11 rfl) (by kernel_rfl);clear c0;refine wpOp_step (o:=_) rfl (fun K hK=>?_);simp only[FL]
   have V0:=CB.step m0 U0.out;have R1:=V0.cell 1 rfl;go_simp;refine hK _ _ ⟨.slice W2 X2 Y2,by simp only[FL,f11] <;> kernel_rfl,Below.refl _ _,rfl,nF⟩
  ·intro xs G2 b0 c0;have p0:=zz b0;have I2:=b0.size;clear b0;have f9:(xs 9)=.slice c3 d3 e3:=c0 _ (m_ 9 rfl) (by kernel_rfl);have f12:(xs 12)=.slice W2 X2 Y2:=c0 _ (m_ 12 rfl) (by kernel_rfl);clear c0;refine wpOp_step (o:=_) rfl (fun K hK=>?_);simp only[FL]
   go_simp;have y0:=zz (RN.step v3.out p0.out);have A0:=zz (RN.step y3.out p0.out);(with_reducible refine(Times_any _ _ _ x.natAbs y.natAbs y0.out A0.out (by have:=HL.out;omega) (by have:=HL.out;omega)).mono ?_)
   rintro e wc57 ⟨z1,v57,rfl,A1⟩;refine hK _ _ ⟨v57,by simp only[FL,f9,f12] <;> kernel_rfl,z1,A1,nF⟩
  ·intro xs C0 b0 c0;clear b0;have f13:RN C0 C0.heap.size (xs 13) (dig (x.natAbs*y.natAbs)):=c0 _ (m_ 13 rfl) (by kernel_rfl);have f6:(xs 6)=.bool (!(n==m)):=c0 _ (m_ 6 rfl) (by kernel_rfl);clear c0;refine wpOp_step (o:=_) rfl (fun K hK=>?_);simp only[FL]
   obtain⟨A13,c13,hx13,-⟩:=RN.cell f13;have r13:=f13;rw[hx13] at r13 ⊢;go_simp;refine hK _ _ ⟨.agg #[.bool (!(n==m)),.slice A13 (dig (x.natAbs*y.natAbs)).length c13],by simp only[FL,f6,hx13] <;> kernel_rfl,Below.refl _ _,WV.mk (by rw[Int.natAbs_mul];exact r13) t3.out,nF⟩
  ·intro xs K2 b0 c0;clear b0;clear c0;refine wpOp_step (o:=_) rfl (fun K hK=>?_);simp only[FL]
   go_simp;refine hK _ _ ⟨.pointer (some ⟨w1.heap.size,2,none⟩),by kernel_rfl,Below.refl _ _,rfl,nF⟩
  ·intro xs M2 b0 c0;have W0:=zz b0;have N2:=b0.size;clear b0;have f15:(xs 15)=.pointer (some ⟨w1.heap.size,2,none⟩):=c0 _ (m_ 15 rfl) (by kernel_rfl);clear c0;refine wpOp_step (o:=_) rfl (fun K hK=>?_);simp only[FL]
   have P3_5_62:=zz (B17.out.trans (B21.out.mono B17.out.size));have P3_6_63:=zz (P3_5_62.out.trans (W0.out.mono P3_5_62.out.size));have X0:=CB.step r0 P3_6_63.out;have U1:=X0.cell 2 rfl;go_simp;refine hK _ _ ⟨.slice g3 i0 h3,by simp only[FL,f15] <;> kernel_rfl,Below.refl _ _,rfl,nF⟩
  ·intro xs O2 b0 c0;clear b0;clear c0;refine wpOp_step (o:=_) rfl (fun K hK=>?_);simp only[FL]
   go_simp;refine hK _ _ ⟨.pointer (some ⟨w10.heap.size,2,none⟩),by kernel_rfl,Below.refl _ _,rfl,nF⟩
  ·intro xs Q2 b0 c0;have Y0:=zz b0;have R2:=b0.size;clear b0;have f17:(xs 17)=.pointer (some ⟨w10.heap.size,2,none⟩):=c0 _ (m_ 17 rfl) (by kernel_rfl);clear c0;refine wpOp_step (o:=_) rfl (fun K hK=>?_);simp only[FL]
   have Z0:=CB.step m0 Y0.out;have W1:=Z0.cell 2 rfl;go_simp;refine hK _ _ ⟨.slice Z2 h0 a3,by simp only[FL,f17] <;> kernel_rfl,Below.refl _ _,rfl,nF⟩
  ·intro xs S2 b0 c0;have q0:=zz b0;have T2:=b0.size;clear b0;have f16:(xs 16)=.slice g3 i0 h3:=c0 _ (m_ 16 rfl) (by kernel_rfl);have f18:(xs 18)=.slice Z2 h0 a3:=c0 _ (m_ 18 rfl) (by kernel_rfl);clear c0;refine wpOp_step (o:=_) rfl (fun K hK=>?_);simp only[FL]
   go_simp;have D0:=zz (RN.step w3.out q0.out);have E0:=zz (RN.step z3.out q0.out);(with_reducible refine(Times_any _ _ _ s t D0.out E0.out (by have:=HL.out;omega) (by have:=HL.out;omega)).mono ?_)
   rintro e wc72 ⟨B1,v72,rfl,C1⟩;refine hK _ _ ⟨v72,by simp only[FL,f16,f18] <;> kernel_rfl,B1,C1,nF⟩
  ·intro xs k0 b0 c0;clear b0;have f14:WV k0 k0.heap.size (xs 14) (x*y):=c0 _ (m_ 14 rfl) (by kernel_rfl);have f19:RN k0 k0.heap.size (xs 19) (dig (s*t)):=c0 _ (m_ 19 rfl) (by kernel_rfl);clear c0;refine wpOp_step (o:=_) rfl (fun K hK=>?_);simp only[FL]
   obtain⟨nw14,Aw14,lw14,cw14,hw14,gw14,sw14⟩:=f14;obtain⟨A19,c19,hx19,-⟩:=RN.cell f19;have r19:=f19;rw[hx19] at r19 ⊢;rw[hw14];go_simp;refine hK _ _ ⟨.agg #[.bool nw14,.slice Aw14 lw14 cw14,.slice A19 (dig (s*t)).length c19],by simp only[FL,hx19,hw14] <;> kernel_rfl,Below.refl _ _,TV.mk gw14 r19 sw14,nF⟩
 ·exact all_nil
 ·intro xs V2 hbf hf hn hd;have f0:(xs 0)=.pointer (some ⟨w.heap.size,0,none⟩):=hf _ (m_ 0 rfl);have f1:(xs 1)=.pointer (some ⟨w.heap.size,0,none⟩):=hf _ (m_ 1 rfl);have f2:(xs 2)=.bool n:=hf _ (m_ 2 rfl);have f3:(xs 3)=.pointer (some ⟨w.heap.size+1,0,none⟩):=hf _ (m_ 3 rfl);have f4:(xs 4)=.pointer (some ⟨w.heap.size+1,0,none⟩):=hf _ (m_ 4 rfl);have f5:(xs 5)=.bool m:=hf _ (m_ 5 rfl);have f6:(xs 6)=.bool (!(n==m)):=hf _ (m_ 6 rfl);have f7:(xs 7)=.pointer (some ⟨w1.heap.size,0,none⟩):=hf _ (m_ 7 rfl);have f8:(xs 8)=.pointer (some ⟨w1.heap.size,1,none⟩):=hf _ (m_ 8 rfl);have f9:(xs 9)=.slice c3 d3 e3:=hf _ (m_ 9 rfl);have f10:(xs 10)=.pointer (some ⟨w10.heap.size,0,none⟩):=hf _ (m_ 10 rfl);have f11:(xs 11)=.pointer (some ⟨w10.heap.size,1,none⟩):=hf _ (m_ 11 rfl);have f12:(xs 12)=.slice W2 X2 Y2:=hf _ (m_ 12 rfl);have f13:RN V2 V2.heap.size (xs 13) (dig (x.natAbs*y.natAbs)):=hf _ (m_ 13 rfl);have f14:WV V2 V2.heap.size (xs 14) (x*y):=hf _ (m_ 14 rfl);have f15:(xs 15)=.pointer (some ⟨w1.heap.size,2,none⟩):=hf _ (m_ 15 rfl);have f16:(xs 16)=.slice g3 i0 h3:=hf _ (m_ 16 rfl);have f17:(xs 17)=.pointer (some ⟨w10.heap.size,2,none⟩):=hf _ (m_ 17 rfl);have f18:(xs 18)=.slice Z2 h0 a3:=hf _ (m_ 18 rfl);have f19:RN V2 V2.heap.size (xs 19) (dig (s*t)):=hf _ (m_ 19 rfl);have f20:TV V2 V2.heap.size (xs 20) (x*y) (s*t):=hf _ (m_ 20 rfl);clear hf hn hd;simp only[FL]
  have B75:=zz hbf;have z75:=B75.out.size;have D1:=zz (v0.out.trans (B75.out.mono v0.out.size));clear hbf;generalize xs 0=x0,xs 1=x1,xs 2=x2,xs 3=x3,xs 4=x4,xs 5=x5,xs 6=x6,xs 7=x7,xs 8=x8,xs 9=x9,xs 10=x10,xs 11=x11,xs 12=x12,xs 13=x13,xs 14=x14,xs 15=x15,xs 16=x16,xs 17=x17,xs 18=x18,xs 19=x19,xs 20=x20 at *
  obtain rfl:=f0;obtain rfl:=f1;obtain rfl:=f2;obtain rfl:=f3;obtain rfl:=f4;obtain rfl:=f5;obtain rfl:=f6;obtain rfl:=f7;obtain rfl:=f8;obtain rfl:=f9;obtain rfl:=f10;obtain rfl:=f11;obtain rfl:=f12;clear f13;clear f14;obtain rfl:=f15;obtain rfl:=f16;obtain rfl:=f17;obtain rfl:=f18;clear f19;obtain⟨E3,F3,G3,H3,I3,Y1,J3,rfl,ha77,F0,hc77⟩:=f20;have a1:=zz (TV.mk ha77 F0 hc77);clear ha77 F0 hc77;have P1_4_79:=zz (P1_3_12.out.trans (B17.out.mono P1_3_12.out.size));have P1_5_80:=zz (P1_4_79.out.trans (B21.out.mono P1_4_79.out.size));have P1_6_81:=zz (P1_5_80.out.trans (B75.out.mono P1_5_80.out.size));have d0:=CB.step Lr4 P1_6_81.out;have b1:=d0.cell 0 rfl;have c1:=d0.cell 1 rfl;have d1:=d0.cell 2 rfl;have k3:=d0.lt;have e1:=d0.frozen 0;have i1:=d0.frozen 1;have j1:=d0.frozen 2;have l3:=d0.lt;refine Early.next (i:=21) (by kernel_rfl) rfl (fun K hK=>?_);go_simp;refine hK _ _ (fun _=>trivial) ?_;clear hK K;(try simp only[Act.put,List.setIfInBounds_toArray,List.set_cons_zero,List.set_cons_succ])
  clear b1 c1 d1 k3 e1 i1 j1 l3;refine Early.done (by kernel_rfl) ?_ _;(try simp only[Exit.then])
  go_wp2;have HF:=zz (show ∀ w B v,TV w B v (x*y) (s*t)→RV w B v (q*r) from fun w B v t=>by unfold RV;rw[HP.out.1,HP.out.2];exact t);exact bodyPost_mono (TB.fin rfl d0 (by simp[noInt_b,noInt_s]) D1.out (by omega) a1.out rfl) (fun e w' ⟨hb,v,he,hv⟩=>⟨hb,v,he,HF.out _ _ _ hv⟩)
set_option maxRecDepth 100000 in
set_option maxHeartbeats 4000000 in
theorem Quo_any (w:World) (va vb:Value) (q r:Rat) (ha:RV w w.heap.size va q) (hb:RV w w.heap.size vb r) (h0:r≠0) (l1:QL 20000 20000 q) (l2:QL 20000 20000 r) :
  Calls Tryz.prog 47 #[va,vb] w fun e w'=>Below w.heap.size w w'∧∃ v,e=.returned v∧RV w' w'.heap.size v (q / r):=by
 have HD:=zz (Rat.div_def q r);obtain⟨n,A,l,c,A',l',c',rfl,Ha,Hd,hn⟩:=ha;obtain⟨m,B,k,e,B',k',e',rfl,Hb,He,hm⟩:=hb;have HL:=zz l1;have HL':=zz (show QL 20000 20000 r⁻¹ by
  have hz:r.num≠0:=fun e=>h0 (Rat.num_eq_zero.1 e)
  unfold QL;rw[Rat.num_inv,Rat.den_inv,if_neg hz,Int.natAbs_mul,Int.natAbs_sign_of_ne_zero hz,Nat.one_mul,Int.natAbs_natCast];exact⟨l2.2,l2.1⟩);clear l1 l2
 have HA:=zz (show RV w w.heap.size _ q from TV.mk Ha Hd hn);have HB:=zz (show RV w w.heap.size _ r from TV.mk Hb He hm);clear Ha Hd hn Hb He hm;have H0:=zz h0;clear h0;obtain⟨w0,hw0⟩:∃ w0:World,w0=(((w.alloc (.cells #[.bool n,.slice A l c,.slice A' l' c'] 80)).alloc (.cells #[.bool m,.slice B k e,.slice B' k' e'] 80)).alloc (.cells #[.bool false,.slice none 0 0,.slice none 0 0] 80)):=⟨_,rfl⟩;have B0:=zz (n3_b hw0);have z0:=n3_z hw0;have Lr:=n3_0 hw0;have Ls:=n3_1 hw0;have Lr4:=n3_2 hw0;replace HA:=zz (RV.step HA.out B0.out);replace HB:=zz (RV.step HB.out B0.out);go_enter Tryz.func47,Tryz.ntmps47
 go_upto_region 1 with (fail)
 rw[← hw0];clear hw0;refine Flow.run [⟨0,5,fun fv fw=>fv=.agg #[.bool n,.slice A l c,.slice A' l' c']⟩,⟨1,6,fun fv fw=>fv=.agg #[.bool m,.slice B k e,.slice B' k' e']⟩,⟨2,7,fun fv fw=>RV fw fw.heap.size fv r⁻¹⟩,⟨3,8,fun fv fw=>RV fw fw.heap.size fv (q / r)⟩] [] [] 1 (by kernel_rfl) (by kernel_rfl) (by kernel_rfl) (fun _ _ _ _ _ h=>h) ?_ ?_ ?_ ?_
 ·refine(a0 (a0 (all_cons (fun v w1 w2 h hb=>h.step hb) (all_cons (fun v w1 w2 h hb=>h.step hb) all_nil))))
 ·refine(all_cons ?_ (all_cons ?_ (all_cons ?_ (all_cons ?_ all_nil))))
  ·intro xs P0 c0 d0;have u0:=zz c0;have Q0:=c0.size;clear c0;clear d0;refine wpOp_step (o:=_) rfl (fun K hK=>?_);simp only[FL]
   have e0:=CB.step Lr u0.out;have I0:=e0.cell 0 rfl;have J0:=e0.cell 1 rfl;have K0:=e0.cell 2 rfl;go_simp;refine hK _ _ ⟨.agg #[.bool n,.slice A l c,.slice A' l' c'],by kernel_rfl,Below.refl _ _,rfl,nF⟩
  ·intro xs R0 c0 d0;have v0:=zz c0;have S0:=c0.size;clear c0;clear d0;refine wpOp_step (o:=_) rfl (fun K hK=>?_);simp only[FL]
   have g0:=CB.step Ls v0.out;have L0:=g0.cell 0 rfl;have M0:=g0.cell 1 rfl;have N0:=g0.cell 2 rfl;go_simp;refine hK _ _ ⟨.agg #[.bool m,.slice B k e,.slice B' k' e'],by kernel_rfl,Below.refl _ _,rfl,nF⟩
  ·intro xs T0 c0 d0;have y0:=zz c0;have U0:=c0.size;clear c0;have f1:(xs 1)=.agg #[.bool m,.slice B k e,.slice B' k' e']:=d0 _ (m_ 1 rfl) (by kernel_rfl);clear d0;refine wpOp_step (o:=_) rfl (fun K hK=>?_);simp only[FL]
   go_simp;have A0:=zz (RV.step HB.out y0.out);(with_reducible refine(turned_any _ _ r A0.out H0.out).mono ?_)
   rintro e wc9 ⟨F0,v9,rfl,G0⟩;refine hK _ _ ⟨v9,by simp only[FL,f1] <;> kernel_rfl,F0,G0,nF⟩
  ·intro xs i0 c0 d0;have k0:=zz c0;have O0:=c0.size;clear c0;have f0:(xs 0)=.agg #[.bool n,.slice A l c,.slice A' l' c']:=d0 _ (m_ 0 rfl) (by kernel_rfl);have f2:RV i0 i0.heap.size (xs 2) r⁻¹:=d0 _ (m_ 2 rfl) (by kernel_rfl);clear d0;refine wpOp_step (o:=_) rfl (fun K hK=>?_);simp only[FL]
   go_simp;have l0:=zz (RV.step HA.out k0.out);(with_reducible refine((show Calls Tryz.prog _ _ _ _ from HD.out▸Prod_any _ _ _ q r⁻¹ l0.out f2 HL.out HL'.out)).mono ?_)
   rintro e wc12 ⟨C0,v12,rfl,D0⟩;refine hK _ _ ⟨v12,by simp only[FL,f0] <;> kernel_rfl,C0,D0,nF⟩
 ·exact all_nil
 ·intro xs V0 hbf hf hn hd;have f0:(xs 0)=.agg #[.bool n,.slice A l c,.slice A' l' c']:=hf _ (m_ 0 rfl);have f1:(xs 1)=.agg #[.bool m,.slice B k e,.slice B' k' e']:=hf _ (m_ 1 rfl);have f2:RV V0 V0.heap.size (xs 2) r⁻¹:=hf _ (m_ 2 rfl);have f3:RV V0 V0.heap.size (xs 3) (q / r):=hf _ (m_ 3 rfl);clear hf hn hd;simp only[FL]
  have B14:=zz hbf;have z14:=B14.out.size;have E0:=zz (B0.out.trans (B14.out.mono B0.out.size));clear hbf;generalize xs 0=x0,xs 1=x1,xs 2=x2,xs 3=x3 at *
  obtain rfl:=f0;obtain rfl:=f1;clear f2;obtain⟨a1,b1,c1,d1,e1,m0,g1,rfl,ha16,j0,hc16⟩:=f3;have n0:Hid (RV V0 V0.heap.size (.agg #[.bool a1,.slice b1 c1 d1,.slice e1 m0 g1]) (q / r)):=zz (TV.mk ha16 j0 hc16);clear ha16 j0 hc16;have b0:=CB.step Lr4 B14.out;have o0:=b0.cell 0 rfl;have p0:=b0.cell 1 rfl;have q0:=b0.cell 2 rfl;have W0:=b0.lt;have r0:=b0.frozen 0;have s0:=b0.frozen 1;have t0:=b0.frozen 2;have X0:=b0.lt;refine Early.next (i:=4) (by kernel_rfl) rfl (fun K hK=>?_);go_simp;refine hK _ _ (fun _=>trivial) ?_;clear hK K;(try simp only[Act.put,List.setIfInBounds_toArray,List.set_cons_zero,List.set_cons_succ])
  clear o0 p0 q0 W0 r0 s0 t0 X0;refine Early.done (by kernel_rfl) ?_ _;(try simp only[Exit.then])
  go_wp2;exact TB.fin rfl b0 (by simp[noInt_b,noInt_s]) E0.out (by omega) n0.out rfl
end Go.Proofs.YtngpibfakemmhaaGreatDoor
