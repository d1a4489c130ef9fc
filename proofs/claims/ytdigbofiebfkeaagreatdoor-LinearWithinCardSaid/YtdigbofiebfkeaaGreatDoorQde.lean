/- Texts put together: Layer 04: Sum, Diff (written by gen_qd.py; under way). Layer 04: Diff, turned, Prod, Quo (written by gen_qe.py). -/
import Derived.Test.YtdigbofiebfkeaaGreatDoorQab
namespace Go.Proofs.YtdigbofiebfkeaaGreatDoor
open Go Go.RowKit Dig
set_option maxRecDepth 100000
set_option maxHeartbeats 4000000
set_option linter.unusedSimpArgs false
theorem bodyPost_mono {P:Program} {fn:Func} {R R':Ending→World→Prop} {a:Act} {w:World} (h:bodyPost P fn R .ret a w) (hq:∀ e w,R e w→R' e w):bodyPost P fn R' .ret a w:=by
 obtain⟨hd,v,hr,hR⟩:=h;exact⟨hd,v,hr,hq _ _ hR⟩
def RV (w:World) (B:Nat) (v:Value) (q:Rat):Prop:=TV w B v q.num q.den
def TVn (Z:Nat) (w:World) (B:Nat) (v:Value) (z:Int) (d:Nat):Prop:=TV w B v z d∧∀ c0 c1 c2,v=.agg #[c0,c1,c2]→NewC Z c1∧NewC Z c2
def RVn (Z:Nat) (w:World) (B:Nat) (v:Value) (q:Rat):Prop:=RV w B v q∧∀ c0 c1 c2,v=.agg #[c0,c1,c2]→NewC Z c1∧NewC Z c2
theorem new3 {Z:Nat} {c0 c1 c2:Value} (h:NewC Z c1∧NewC Z c2):∀ d0 d1 d2,Value.agg #[c0,c1,c2]=.agg #[d0,d1,d2]→NewC Z d1∧NewC Z d2:=fun d0 d1 d2 e=>by
 injection e with e;simp at e;rw[← e.2.1,← e.2.2];exact h
theorem RV.step {w w':World} {v:Value} {q:Rat} (h:RV w w.heap.size v q) (hb:Below w.heap.size w w'):RV w' w'.heap.size v q:=TV.step h hb
theorem Sum_new (w:World) (va vb:Value) (q r:Rat) (ha:RV w w.heap.size va q) (hb:RV w w.heap.size vb r) (l1:(dig q.num.natAbs).length≤60000000) (l2:(dig q.den).length≤60000000) (l3:(dig r.num.natAbs).length≤60000000) (l4:(dig r.den).length≤60000000) :
  Calls Tryz.prog 48 #[va,vb] w fun e w'=>Below w.heap.size w w'∧∃ v,e=.returned v∧RVn w.heap.size w' w'.heap.size v (q+r):=by
 obtain⟨n,A,l,c,A',l',c',rfl,Ha,Hd,hn⟩:=ha;obtain⟨m,B,k,e,B',k',e',rfl,Hb,He,hm⟩:=hb;obtain⟨g,hg⟩:∃ g,g=Nat.gcd q.den r.den:=⟨_,rfl⟩;obtain⟨x,hx⟩:∃ x,x=q.den / g:=⟨_,rfl⟩;obtain⟨y,hy⟩:∃ y,y=r.den / g:=⟨_,rfl⟩;obtain⟨N,hN⟩:∃ N:Int,N=q.num*y+r.num*x:=⟨_,rfl⟩;obtain⟨h,hh⟩:∃ h,h=Nat.gcd N.natAbs g:=⟨_,rfl⟩;have hS:=rat_sum q r hg hx hy hN hh;have g0:g≠0:=by rw[hg];exact fun e=>q.den_nz (Nat.gcd_eq_zero_iff.1 e).1
 have h0:h≠0:=by rw[hh];exact fun e=>g0 (Nat.gcd_eq_zero_iff.1 e).2
 have lg:(dig g).length≤60000000:=by rw[hg];exact dig_len_gcd _ _ l2 l4
 have lx:(dig x).length≤60000000:=by rw[hx];exact Nat.le_trans (dig_len_mono (Nat.div_le_self _ _)) l2
 have ly:(dig y).length≤60000000:=by rw[hy];exact Nat.le_trans (dig_len_mono (Nat.div_le_self _ _)) l4
 have p1:(dig (q.num*y).natAbs).length≤120000000:=by rw[Int.natAbs_mul,Int.natAbs_natCast];have:=dig_len_mul q.num.natAbs y;omega
 have p2:(dig (r.num*x).natAbs).length≤120000000:=by rw[Int.natAbs_mul,Int.natAbs_natCast];have:=dig_len_mul r.num.natAbs x;omega
 have lN:(dig N.natAbs).length≤120000001:=by rw[hN];exact Nat.le_trans (dig_len_mono (Int.natAbs_add_le _ _)) (dig_len_add _ _ p1 p2)
 have lr:(dig (r.den / h)).length≤60000000:=Nat.le_trans (dig_len_mono (Nat.div_le_self _ _)) l4;have m2:=zz hS;have HL:=zz (And.intro l1 (And.intro l2 (And.intro l3 (And.intro l4 (And.intro lg (And.intro lx (And.intro ly (And.intro p1 (And.intro p2 (And.intro lN lr))))))))));have HG:=zz hg;have HX:=zz hx;have HY:=zz hy;have HN:=zz hN;have HH:=zz hh;have n2:=zz g0;have U1:=zz h0;clear hS l1 l2 l3 l4 lg lx ly p1 p2 lN lr hg hx hy hN hh g0 h0;obtain⟨w0,hw0⟩:∃ w0:World,w0=(((w.alloc (.cells #[.bool n,.slice A l c,.slice A' l' c'] 84)).alloc (.cells #[.bool m,.slice B k e,.slice B' k' e'] 84)).alloc (.cells #[.bool false,.slice none 0 0,.slice none 0 0] 84)):=⟨_,rfl⟩;have B0:=zz (n3_b hw0);have z0:=n3_z hw0;have La:=n3_0 hw0;have Lb:=n3_1 hw0;have Lo:=n3_2 hw0;have V1:=zz (WV.mk Ha hn);have W1:=zz (WV.mk Hb hm);clear hn hm;replace V1:=zz (WV.step V1.out B0.out);replace W1:=zz (WV.step W1.out B0.out);clear Ha Hb;replace Hd:=zz (RN.stepN Hd B0.out);replace He:=zz (RN.stepN He B0.out);go_enter Tryz.func48,Tryz.ntmps48
 go_upto_region 1 with (fail)
 rw[← hw0];clear hw0;have k1:=La.cell 0 rfl;have m1:=La.cell 1 rfl;have n1:=La.cell 2 rfl;have h2:=La.lt;have o1:=Lb.cell 0 rfl;have q1:=Lb.cell 1 rfl;have r1:=Lb.cell 2 rfl;have i2:=Lb.lt;go_wp2_with fail
 refine(Common_any _ _ _ q.den r.den Hd.out He.out (by have:=HL.out;omega) (by have:=HL.out;omega)).mono ?_;rintro e w1 ⟨j1,vg,rfl,hg⟩;have B4:=zz j1;have z4:=B4.out.size;have L1:=tr B0 B4;clear j1;clear k1 m1 n1 h2 o1 q1 r1 i2;rw[← HG.out] at hg;obtain⟨G,cg,rfl,-⟩:=hg.cell;have Hg:=zz hg;clear hg;go_upto_region 2 with (fail)
 have k0:=CB.step La B4.out;have l0:=CB.step Lb B4.out;refine Sweep.r0 [se 0 15 [] (.pointer (some ⟨w.heap.size,2,none⟩)),se 1 16 [0] (.slice A' l' c'),se 2 17 [] (.slice G (dig g).length cg),sf 3 18 [1,2] (fun fv fw=>RN fw fw.heap.size fv (dig x)),se 4 19 [] (.pointer (some ⟨w.heap.size+1,2,none⟩)),se 5 20 [4] (.slice B' k' e'),se 6 21 [] (.slice G (dig g).length cg),sf 7 22 [5,6] (fun fv fw=>RN fw fw.heap.size fv (dig y))] 2 (SB k0 (SB l0 S0)) (MA (fun _ _ _ h hb=>h.step hb) (MA (fun _ _ _ h hb=>h.step hb) trivial)) ?_ ?_
 ·intro xs a_ hA;simp only[SX] at hA
  iterate 8 (refine ac ?_ ?_;rotate_left)
  exact all_nil
  all_goals (intro wk hb;simp only[SX,↓reduceIte,Nat.reduceEqDiff,Nat.reduceAdd];have b_:=zz hb;have z_:=hb.size;clear hb;subst hA)
  any_goals (intros;refine wpOp_step rfl ?_;intro K hK;go_simp;refine hK _ _ ⟨_,?_,Below.refl _ _,rfl⟩;simp only[*,FL] <;> kernel_rfl)
  ·intro f1 f2;intros;refine wpOp_step (o:=_) rfl (fun K hK=>?_);go_simp;have P1_3_8:=tr B4 b_;have y0:=zz (RN.step Hd.out P1_3_8.out);have A0:=zz (RN.step Hg.out b_.out);(with_reducible refine((show Calls Tryz.prog _ _ _ _ from HX.out▸without_any _ _ _ q.den g y0.out A0.out n2.out (by have:=HL.out;omega))).mono ?_)
   rintro e wc11 ⟨s1,v11,rfl,t1⟩;refine hK _ _ ⟨v11,by simp only[FL,f1,f2],s1,t1⟩
  ·intro f5 f6;intros;refine wpOp_step (o:=_) rfl (fun K hK=>?_);go_simp;have P1_3_12:=tr B4 b_;have m0:=zz (RN.step He.out P1_3_12.out);have C0:=zz (RN.step Hg.out b_.out);(with_reducible refine((show Calls Tryz.prog _ _ _ _ from HY.out▸without_any _ _ _ r.den g m0.out C0.out n2.out (by have:=HL.out;omega))).mono ?_)
   rintro e wc15 ⟨u1,v15,rfl,v1⟩;refine hK _ _ ⟨v15,by simp only[FL,f5,f6],u1,v1⟩
 ·intro xs r2 hbf;simp only[SY];have B17:=zz hbf;have z17:=B17.out.size;have x1:=tr L1 B17;clear hbf;generalize xs 3=x3,xs 7=x7;rintro f3 f7;obtain⟨A19,c19,rfl,-⟩:=RN.cell f3;have e0:=zz f3;clear f3;obtain⟨A20,c20,rfl,-⟩:=RN.cell f7;have D0:=zz f7;clear f7;refine EN 8 rfl fun K hK=>?_
  go_simp;refine hK _ _ ?_;clear hK K;(try simp only[PT])
  refine EN 9 rfl fun K hK=>?_
  go_simp;refine hK _ _ ?_;clear hK K;(try simp only[PT])
  refine ED ?_;(try simp only[Exit.then])
  go_upto_region 3 with (fail)
  have f0:=CB.step k0 B17.out;have i0:=CB.step l0 B17.out;refine Sweep.run [se 0 23 [] (.pointer (some ⟨w.heap.size,0,none⟩)),se 1 24 [0] (.agg #[.bool n,.slice A l c]),se 2 25 [] (.slice A20 ((dig y)).length c20),sf 3 26 [1,2] (fun fv fw=>WV fw fw.heap.size fv (q.num*(y:Int))),se 4 27 [] (.pointer (some ⟨w.heap.size+1,0,none⟩)),se 5 28 [4] (.agg #[.bool m,.slice B k e]),se 6 29 [] (.slice A19 ((dig x)).length c19),sf 7 30 [5,6] (fun fv fw=>WV fw fw.heap.size fv (r.num*(x:Int))),sf 8 31 [3,7] (fun fv fw=>WV fw fw.heap.size fv N),sf 9 8 [] (fun fv fw=>∃ b,fv=.pointer (some ⟨b,0,none⟩)∧CB fw b 82 #[.bool false,.slice none 0 0])] [] [9] 1 (SB f0 (SB i0 S0)) (MA (fun _ _ _ h hb=>h.step hb) (MA (fun _ _ _ h hb=>h.step hb) (MA (fun _ _ _ h hb=>h.step hb) (MA (fun _ _ _ h hb=>let ⟨b,e,h⟩:=h;⟨b,e,h.step hb⟩) trivial)))) ?_ ?_ ?_
  ·intro xs a_ hA;simp only[SX] at hA
   iterate 10 (refine ac ?_ ?_;rotate_left)
   exact all_nil
   all_goals (intro wk hb;simp only[SX,↓reduceIte,Nat.reduceEqDiff,Nat.reduceAdd];have b_:=zz hb;have z_:=hb.size;clear hb;subst hA)
   any_goals (intros;refine wpOp_step rfl ?_;intro K hK;go_simp;refine hK _ _ ⟨_,?_,Below.refl _ _,rfl,nF⟩;simp only[*,FL] <;> kernel_rfl)
   ·intro f1 f2;intros;refine wpOp_step (o:=_) rfl (fun K hK=>?_);go_simp;have P1_3_23:=tr B4 B17;have P1_4_24:=tr P1_3_23 b_;have n0:=zz (WV.step V1.out P1_4_24.out);have E0:=zz (RN.step D0.out b_.out);(with_reducible refine(wtimes_any _ _ _ q.num y n0.out E0.out (by have:=HL.out;omega) (by have:=HL.out;omega)).mono ?_)
    rintro e wc27 ⟨y1,v27,rfl,z1⟩;refine hK _ _ ⟨v27,by simp only[FL,f1,f2],y1,z1,nF⟩
   ·intro f5 f6;intros;refine wpOp_step (o:=_) rfl (fun K hK=>?_);go_simp;have P1_3_28:=tr B4 B17;have P1_4_29:=tr P1_3_28 b_;have o0:=zz (WV.step W1.out P1_4_29.out);have F0:=zz (RN.step e0.out b_.out);(with_reducible refine(wtimes_any _ _ _ r.num x o0.out F0.out (by have:=HL.out;omega) (by have:=HL.out;omega)).mono ?_)
    rintro e wc32 ⟨A1,v32,rfl,B1⟩;refine hK _ _ ⟨v32,by simp only[FL,f5,f6],A1,B1,nF⟩
   ·intro f3 f7;intros;refine wpOp_step (o:=_) rfl (fun K hK=>?_);go_simp;(with_reducible refine(wplus_any _ _ _ (q.num*(y:Int)) (r.num*(x:Int)) f3 f7 (by have:=HL.out;omega) (by have:=HL.out;omega)).mono ?_)
    rintro e wc33 ⟨C1,v33,rfl,D1⟩;refine hK _ _ ⟨v33,by kernel_rfl,C1,(by rw[HN.out];exact D1),nF⟩
   ·intros
    refine wpOp_step (o:=_) rfl (fun K hK=>?_);go_simp;refine hK _ _ ⟨.pointer (some ⟨wk.heap.size,0,none⟩),by kernel_rfl,(Below.refl _ _).alloc (Nat.le_refl _) _,⟨_,rfl,CB.new _ _ _⟩,fun _=>⟨_,rfl,Nat.le_refl _,by simp⟩⟩
  ·exact fun _ _ _=>all_nil
  ·intro xs s2 hbf hn hd;simp only[SY];have n9:=hn 9 (by decide);clear hn hd;have B35:=zz hbf;have z35:=B35.out.size;have E1:=tr x1 B35;clear hbf;generalize xs 3=x3,xs 7=x7,xs 8=x8,xs 9=x9 at *
   rintro f3 f7 f8 f9;clear f3;clear f7;obtain⟨T1,X1,Y1,Z1,rfl,ha37,p0⟩:=f8;have G0:=zz (WV.mk ha37 p0);clear ha37 p0;obtain⟨Q1,rfl,P1⟩:=f9;have S1:=zz (show r2.heap.size≤Q1 by obtain⟨b',e,h,-⟩:=n9;injection e with e;injection e with e;injection e with e _ _;omega);clear n9;have j2:=P1.lt;have k2:=S1.out;have H0:=P1.cell 0 rfl;have I0:=P1.cell 1 rfl;have a2:=P1.lt;have J0:=P1.frozen 0;have K0:=P1.frozen 1;have b2:=P1.lt;refine EN 10 rfl fun K hK=>?_;go_simp;refine hK _ _ ?_;clear hK K;(try simp only[PT])
   clear H0 I0 a2 J0 K0 b2;refine ED ?_;(try simp only[Exit.then])
   have L0:=CB.step f0 B35.out;have M0:=CB.step i0 B35.out;have P1_3_45:=tr B4 B17;have P1_4_46:=tr P1_3_45 B35;have N0:=CB.step Lo P1_4_46.out;obtain⟨w47,b0⟩:∃ w47:World,w47=((s2.setCell ⟨Q1,0,none⟩ (.bool T1)).setCell ⟨Q1,1,none⟩ (.slice X1 Y1 Z1)):=⟨_,rfl⟩;rw[← b0];have S47:=zz (p2_s b0 P1 (by simp[noInt_b,noInt_s]));have M1:=p2_f b0 L0 (by omega);have O0:=p2_f b0 M0 (by omega);have P0:=p2_f b0 N0 (by omega);have d0:=p2_p b0 P1;have Q0:=zz (p2_b b0 E1.out (by omega));have O1:=p2_z b0;clear b0;have j0:=zz (WV.soft G0.out (S47.out));have o2:=zz (WV.is j0.out).1;have u2:=zz (WV.is j0.out).2;have q2:=zz (wred u2.out (by rw[HH.out];exact Int.ofNat_dvd_left.2 (Nat.gcd_dvd_left _ _)) U1.out);have R0:=d0.cell 0 rfl;have T0:=d0.cell 1 rfl;have d2:=d0.lt;go_wp2_with fail
   have U0:=zz (RN.soft Hg.out (((Soft.of B17.out).trans (Soft.of B35.out)).trans (S47.out)));refine(Common_any _ _ _ N.natAbs g o2.out U0.out (by have:=HL.out;omega) (by have:=HL.out;omega)).mono ?_;rintro e w49 ⟨q0,vh,rfl,hh⟩;have B52:=zz q0;have z52:=B52.out.size;have F1:=tr Q0 B52;clear q0;clear R0 T0 d2;rw[← HH.out] at hh;obtain⟨Hp,ch,rfl,-⟩:=hh.cell;have Hh:=zz hh;clear hh;go_upto_region 5 with (fail)
   have V0:=CB.step d0 B52.out;have W0:=CB.step O0 B52.out;refine Sweep.r0 [se 0 36 [] (.pointer (some ⟨Q1,0,none⟩)),se 1 37 [0] (.bool T1),se 2 38 [] (.pointer (some ⟨Q1,1,none⟩)),se 3 39 [2] (.slice X1 Y1 Z1),se 4 40 [] (.slice Hp (dig h).length ch),sf 5 41 [3,4] (fun fv fw=>RN fw fw.heap.size fv (dig (N.natAbs / h))∧NewC w.heap.size fv),sf 6 42 [5,1] (fun fv fw=>WV fw fw.heap.size fv (N / (h:Int))∧∀ c0 c1,fv=.agg #[c0,c1]→NewC w.heap.size c1),se 7 43 [] (.slice A19 ((dig x)).length c19),se 8 44 [] (.pointer (some ⟨w.heap.size+1,2,none⟩)),se 9 45 [8] (.slice B' k' e'),se 10 46 [] (.slice Hp (dig h).length ch),sf 11 47 [9,10] (fun fv fw=>RN fw fw.heap.size fv (dig (r.den / h))),sf 12 48 [7,11] (fun fv fw=>RN fw fw.heap.size fv (dig (x*(r.den / h)))∧NewC w.heap.size fv),sf 13 49 [6,12] (fun fv fw=>TVn w.heap.size fw fw.heap.size fv (N / (h:Int)) (x*(r.den / h)))] 1 (SB V0 (SB W0 S0)) (MA (fun _ _ _ h hb=>⟨h.1.step hb,h.2⟩) (MA (fun _ _ _ h hb=>⟨h.1.step hb,h.2⟩) (MA (fun _ _ _ h hb=>h.step hb) (MA (fun _ _ _ h hb=>⟨h.1.step hb,h.2⟩) (MA (fun _ _ _ h hb=>⟨h.1.step hb,h.2⟩) trivial))))) ?_ ?_
   ·intro xs a_ hA;simp only[SX] at hA
    iterate 14 (refine ac ?_ ?_;rotate_left)
    exact all_nil
    all_goals (intro wk hb;simp only[SX,↓reduceIte,Nat.reduceEqDiff,Nat.reduceAdd];have b_:=zz hb;have z_:=hb.size;clear hb;subst hA)
    any_goals (intros;refine wpOp_step rfl ?_;intro K hK;go_simp;refine hK _ _ ⟨_,?_,Below.refl _ _,rfl⟩;simp only[*,FL] <;> kernel_rfl)
    ·intro f3 f4;intros;refine wpOp_step (o:=_) rfl (fun K hK=>?_);go_simp;have P5_7_56:=tr B52 b_;have s0:=zz (RN.step o2.out P5_7_56.out);have X0:=zz (RN.step Hh.out b_.out);(with_reducible refine(without_new _ _ _ N.natAbs h s0.out X0.out U1.out (by have:=HL.out;omega)).mono ?_)
     rintro e wc59 ⟨G1,v59,rfl,t0⟩;refine hK _ _ ⟨v59,by simp only[FL,f3,f4],G1,⟨t0.1,t0.2.weak (by omega)⟩⟩
    ·intro f5 f1;intros;refine wpOp_step (o:=_) rfl (fun K hK=>?_);obtain⟨A5,c5,hx5,-⟩:=RN.cell f5.1;have r5:=f5.1;have m5:=f5.2;rw[hx5] at r5 m5 ⊢;go_simp;refine hK _ _ ⟨.agg #[.bool T1,.slice A5 (dig (N.natAbs / h)).length c5],by simp only[FL,f1,hx5],Below.refl _ _,⟨WV.mk (by rw[q2.out.1];exact r5) q2.out.2,fun c0 c1 e=>by injection e with e;simp at e;rw[← e.2];exact m5⟩⟩
    ·intro f9 f10;intros;refine wpOp_step (o:=_) rfl (fun K hK=>?_);go_simp;have u0:=zz (RN.soft He.out ((((((Soft.of B4.out).trans (Soft.of B17.out)).trans (Soft.of B35.out)).trans (S47.out)).trans (Soft.of B52.out)).trans (Soft.of b_.out)));have Y0:=zz (RN.step Hh.out b_.out);(with_reducible refine(without_any _ _ _ r.den h u0.out Y0.out U1.out (by have:=HL.out;omega)).mono ?_)
     rintro e wc62 ⟨H1,v62,rfl,I1⟩;refine hK _ _ ⟨v62,by simp only[FL,f9,f10],H1,I1⟩
    ·intro f7 f11;intros;refine wpOp_step (o:=_) rfl (fun K hK=>?_);go_simp;have Z0:=zz (RN.soft e0.out ((((Soft.of B35.out).trans (S47.out)).trans (Soft.of B52.out)).trans (Soft.of b_.out)));(with_reducible refine(Times_new _ _ _ x (r.den / h) Z0.out f11 (by have:=HL.out;omega) (by have:=HL.out;omega)).mono ?_)
     rintro e wc64 ⟨J1,v64,rfl,v0⟩;refine hK _ _ ⟨v64,by simp only[FL,f7],J1,⟨v0.1,v0.2.weak (by omega)⟩⟩
    ·intro f6 f12;intros;refine wpOp_step (o:=_) rfl (fun K hK=>?_);obtain⟨⟨nw6,Aw6,lw6,cw6,hw6,gw6,sw6⟩,mw6⟩:=f6;have m6:=mw6 _ _ hw6;obtain⟨A12,c12,hx12,-⟩:=RN.cell f12.1;have r12:=f12.1;have m12:=f12.2;rw[hx12] at r12 m12 ⊢;rw[hw6];go_simp;refine hK _ _ ⟨.agg #[.bool nw6,.slice Aw6 lw6 cw6,.slice A12 (dig (x*(r.den / h))).length c12],by simp only[FL,hx12,hw6],Below.refl _ _,⟨TV.mk gw6 r12 sw6,fun c0 c1 c2 e=>by injection e with e;simp at e;rw[← e.2.1,← e.2.2];exact⟨m6,m12⟩⟩⟩
   ·intro xs z2 hbf;simp only[SY];have B66:=zz hbf;have z66:=B66.out.size;have K1:=tr F1 B66;clear hbf;generalize xs 5=x5,xs 6=x6,xs 11=x11,xs 12=x12,xs 13=x13;rintro f5 f6 f11 f12 f13;clear f5;clear f6;clear f11;clear f12;obtain⟨⟨A2,B2,C2,D2,E2,N1,F2,rfl,ha68,x0,hc68⟩,hn68⟩:=f13;have a1:=zz (TV.mk ha68 x0 hc68);have HNr:=zz (hn68 _ _ _ rfl);clear ha68 x0 hc68 hn68;have P5_7_70:=tr B52 B66;have a0:=CB.step P0 P5_7_70.out;have b1:=a0.cell 0 rfl;have d1:=a0.cell 1 rfl;have e1:=a0.cell 2 rfl;have e2:=a0.lt;have g1:=a0.frozen 0;have h1:=a0.frozen 1;have i1:=a0.frozen 2;have g2:=a0.lt;refine EN 14 rfl fun K hK=>?_;go_simp;refine hK _ _ ?_;clear hK K;(try simp only[PT])
    clear b1 d1 e1 e2 g1 h1 i1 g2;refine ED ?_;(try simp only[Exit.then])
    go_wp2;have HF:=zz (show ∀ w B v,TV w B v (N / (h:Int)) (x*(r.den / h))→RV w B v (q+r) from fun w B v t=>by unfold RV;rw[m2.out.1,m2.out.2];exact t);exact bodyPost_mono (TB.fine rfl a0 (by simp[noInt_b,noInt_s]) K1.out (by omega) a1.out rfl) (fun e w' ⟨hb,he,hv⟩=>⟨hb,_,he,HF.out _ _ _ hv,new3 HNr.out⟩)
theorem Sum_any (w:World) (va vb:Value) (q r:Rat) (ha:RV w w.heap.size va q) (hb:RV w w.heap.size vb r) (l1:(dig q.num.natAbs).length≤60000000) (l2:(dig q.den).length≤60000000) (l3:(dig r.num.natAbs).length≤60000000) (l4:(dig r.den).length≤60000000) :
  Calls Tryz.prog 48 #[va,vb] w fun e w'=>Below w.heap.size w w'∧∃ v,e=.returned v∧RV w' w'.heap.size v (q+r):=
 (Sum_new w va vb q r ha hb l1 l2 l3 l4).mono fun _ _ ⟨hb,v,he,hv⟩=>⟨hb,v,he,hv.1⟩
theorem not_dec {z:Int} {n:Bool} (h:z≠0→n=decide (z<0)) (h0:-z≠0):(!n)=decide (-z<0):=by
 rcases wsgn_cases h with h | ⟨rfl,h⟩ | ⟨rfl,h⟩
 ·omega
 ·rw[decide_eq_false (by omega)];rfl
 ·rw[decide_eq_true (by omega)];rfl
theorem TV.neg {w:World} {B:Nat} {n:Bool} {A A':Option Addr} {l c l' c':Nat} {z:Int} {d:Nat} (h:TV w B (.agg #[.bool n,.slice A l c,.slice A' l' c']) z d):TV w B (.agg #[.bool (!n),.slice A l c,.slice A' l' c']) (-z) d:=
 TV.mk (by rw[Int.natAbs_neg];exact h.is.1) h.is.2.1 (not_dec h.is.2.2)
theorem RV.neg {w:World} {B:Nat} {n:Bool} {A A':Option Addr} {l c l' c':Nat} {q:Rat} (h:RV w B (.agg #[.bool n,.slice A l c,.slice A' l' c']) q):RV w B (.agg #[.bool (!n),.slice A l c,.slice A' l' c']) (-q):=by
 unfold RV;rw[Rat.neg_num,Rat.neg_den];exact TV.neg h
theorem RV.soft {w w':World} {v:Value} {q:Rat} (h:RV w w.heap.size v q) (hs:Soft w w'):RV w' w'.heap.size v q:=TV.soft h hs
theorem TV.fst {w:World} {B:Nat} {n:Bool} {A A':Option Addr} {l c l' c':Nat} {z:Int} {d:Nat} (h:TV w B (.agg #[.bool n,.slice A l c,.slice A' l' c']) z d):WV w B (.agg #[.bool n,.slice A l c]) z:=WV.mk h.is.1 h.is.2.2
theorem bne_sgn {x y:Int} {n m:Bool} (h:x≠0→n=decide (x<0)) (k:y≠0→m=decide (y<0)) (h0:x*y≠0):(!(n==m))=decide (x*y<0):=by
 have hx:x≠0:=fun e=>h0 (by rw[e,Int.zero_mul])
 have hy:y≠0:=fun e=>h0 (by rw[e,Int.mul_zero])
 rw[h hx,k hy];rcases Int.lt_or_gt_of_ne hx with h1 | h1 <;> rcases Int.lt_or_gt_of_ne hy with h2 | h2
 ·have:=Int.mul_pos_of_neg_of_neg h1 h2;rw[decide_eq_true h1,decide_eq_true h2,decide_eq_false (by omega)];rfl
 ·have:=Int.mul_neg_of_neg_of_pos h1 h2;rw[decide_eq_true h1,decide_eq_false (by omega),decide_eq_true (by omega)];rfl
 ·have:=Int.mul_neg_of_pos_of_neg h1 h2;rw[decide_eq_false (by omega),decide_eq_true h2,decide_eq_true (by omega)];rfl
 ·have:=Int.mul_pos h1 h2;rw[decide_eq_false (by omega),decide_eq_false (by omega),decide_eq_false (by omega)];rfl
def QL (a b:Nat) (q:Rat):Prop:=(dig q.num.natAbs).length≤a∧(dig q.den).length≤b
theorem QL.mono {a b a' b':Nat} {q:Rat} (h:QL a b q) (h1:a≤a') (h2:b≤b'):QL a' b' q:=⟨Nat.le_trans h.1 h1,Nat.le_trans h.2 h2⟩
theorem QL.neg {a b:Nat} {q:Rat} (h:QL a b q):QL a b (-q):=by unfold QL;rw[Rat.neg_num,Rat.neg_den,Int.natAbs_neg];exact h
theorem QL.mk' {n:Int} {d a b:Nat} (hn:(dig n.natAbs).length≤a) (hd:(dig d).length≤b) (h0:d≠0):QL a b (mkRat n d):=by
 obtain⟨h1,h2⟩:=rat_reduced (n:=n) h0;refine⟨?_,?_⟩
 ·rw[h1,natAbs_ediv_nat (gcd_dvd_int _ _)];exact Nat.le_trans (dig_len_mono (Nat.div_le_self _ _)) hn
 ·rw[h2];exact Nat.le_trans (dig_len_mono (Nat.div_le_self _ _)) hd
theorem QL.add {a b a' b':Nat} {q r:Rat} (h:QL a b q) (k:QL a' b' r):QL (a+b'+a'+b+1) (b+b') (q+r):=by
 rw[Rat.add_def'];refine QL.mk' ?_ (Nat.le_trans (dig_len_mul _ _) (Nat.add_le_add h.2 k.2)) (Nat.mul_ne_zero q.den_nz r.den_nz);have h1:(dig (q.num*r.den).natAbs).length≤a+b'+a'+b:=by rw[Int.natAbs_mul,Int.natAbs_natCast];have:=dig_len_mul q.num.natAbs r.den;have:=h.1;have:=k.2;omega
 have h2:(dig (r.num*q.den).natAbs).length≤a+b'+a'+b:=by rw[Int.natAbs_mul,Int.natAbs_natCast];have:=dig_len_mul r.num.natAbs q.den;have:=k.1;have:=h.2;omega
 exact Nat.le_trans (dig_len_mono (Int.natAbs_add_le _ _)) (dig_len_add _ _ h1 h2)
theorem QL.sub {a b a' b':Nat} {q r:Rat} (h:QL a b q) (k:QL a' b' r):QL (a+b'+a'+b+1) (b+b') (q-r):=by
 rw[Rat.sub_eq_add_neg];exact h.add k.neg
theorem QL.mul {a b a' b':Nat} {q r:Rat} (h:QL a b q) (k:QL a' b' r):QL (a+a') (b+b') (q*r):=by
 rw[Rat.mul_def'];refine QL.mk' ?_ (Nat.le_trans (dig_len_mul _ _) (Nat.add_le_add h.2 k.2)) (Nat.mul_ne_zero q.den_nz r.den_nz);rw[Int.natAbs_mul];exact Nat.le_trans (dig_len_mul _ _) (Nat.add_le_add h.1 k.1)
theorem Diff_new (w:World) (va vb:Value) (q r:Rat) (ha:RV w w.heap.size va q) (hb:RV w w.heap.size vb r) (l1:QL 60000000 60000000 q) (l2:QL 60000000 60000000 r) :
  Calls Tryz.prog 41 #[va,vb] w fun e w'=>Below w.heap.size w w'∧∃ v,e=.returned v∧RVn w.heap.size w' w'.heap.size v (q-r):=by
 have HS:=zz (Rat.sub_eq_add_neg q r);obtain⟨n,A,l,c,A',l',c',rfl,Ha,Hd,hn⟩:=ha;obtain⟨m,B,k,e,B',k',e',rfl,Hb,He,hm⟩:=hb;have HL:=zz (And.intro l1.1 (And.intro l1.2 (And.intro l2.neg.1 l2.neg.2)));clear l1 l2;have HA:=zz (show RV w w.heap.size _ q from TV.mk Ha Hd hn);have HB:=zz (RV.neg (show RV w w.heap.size _ r from TV.mk Hb He hm));clear Ha Hd hn Hb He hm;obtain⟨w0,hw0⟩:∃ w0:World,w0=(((w.alloc (.cells #[.bool n,.slice A l c,.slice A' l' c'] 84)).alloc (.cells #[.bool m,.slice B k e,.slice B' k' e'] 84)).alloc (.cells #[.bool false,.slice none 0 0,.slice none 0 0] 84)):=⟨_,rfl⟩;have B0:=zz (n3_b hw0);have z0:=n3_z hw0;have Lr:=n3_0 hw0;have Ls:=n3_1 hw0;have Lr4:=n3_2 hw0;replace HA:=zz (RV.step HA.out B0.out);replace HB:=zz (RV.step HB.out B0.out);go_enter Tryz.func41,Tryz.ntmps41
 go_upto_region 1 with (fail)
 rw[← hw0];clear hw0;have i0:=Ls.cell 0 rfl;have j0:=Ls.cell 1 rfl;have k0:=Ls.cell 2 rfl;have K0:=Ls.lt;have l0:=Ls.frozen 0;have m0:=Ls.frozen 1;have n0:=Ls.frozen 2;have L0:=Ls.lt;go_upto_region 2 with (fail)
 clear i0 j0 k0 K0 l0 m0 n0 L0;obtain⟨w3,b0⟩:∃ w3:World,w3=(w0.setCell ⟨w.heap.size+1,0,none⟩ (.bool (!m))):=⟨_,rfl⟩;rw[← b0];have S3:=zz (show Soft w0 w3 by rw[b0];exact CB.soft1 (Ls) (by simp[noInt_b,noInt_s]) 0 (.bool (!m)));have c0:=p1_f b0 Lr (by omega);have f0:=p1_f b0 Lr4 (by omega);have d0:CB w3 (w.heap.size+1) 84 #[.bool (!m),.slice B k e,.slice B' k' e']:=by rw[b0];exact(show CB _ (w.heap.size+1) 84 #[.bool (!m),.slice B k e,.slice B' k' e'] from CB.set (Ls) 0 (.bool (!m)))
 have o0:=zz (p1_b b0 B0.out (by omega));have I0:=p1_z b0;clear b0;have p0:=c0.cell 0 rfl;have q0:=c0.cell 1 rfl;have r0:=c0.cell 2 rfl;have M0:=c0.lt;have s0:=d0.cell 0 rfl;have t0:=d0.cell 1 rfl;have u0:=d0.cell 2 rfl;have N0:=d0.lt;go_wp2_with fail
 have v0:=zz (RV.soft HA.out (S3.out));have x0:=zz (RV.soft HB.out (S3.out));refine(Sum_new _ _ _ q (-r) v0.out x0.out HL.out.1 HL.out.2.1 HL.out.2.2.1 HL.out.2.2.2).mono ?_;rintro e w4 ⟨h0,v,rfl,hv⟩;have B9:=zz h0;have z9:=B9.out.size;have y0:=tr o0 B9;clear h0;clear p0 q0 r0 M0 s0 t0 u0 N0;rw[← HS.out] at hv;have hnw:=hv.2;replace hv:=hv.1;obtain⟨U0,V0,W0,X0,Y0,A0,Z0,rfl,ha11,e0,hc11⟩:=hv;have g0:=zz (TV.mk ha11 e0 hc11);clear ha11 e0 hc11;have hnw2:=hnw _ _ _ rfl;have Q0:=zz (And.intro (hnw2.1.weak (show w.heap.size≤_ by omega)) (hnw2.2.weak (show w.heap.size≤_ by omega)));clear hnw hnw2;have a0:=CB.step f0 B9.out;have C0:=a0.cell 0 rfl;have D0:=a0.cell 1 rfl;have E0:=a0.cell 2 rfl;have R0:=a0.lt;have F0:=a0.frozen 0;have G0:=a0.frozen 1;have H0:=a0.frozen 2;have S0:=a0.lt;go_wp2;exact bodyPost_mono (TB.fine rfl a0 (by simp[noInt_b,noInt_s]) y0.out (by omega) g0.out rfl) (fun e w' ⟨hb,he,hv⟩=>⟨hb,_,he,hv,new3 Q0.out⟩)
theorem Diff_any (w:World) (va vb:Value) (q r:Rat) (ha:RV w w.heap.size va q) (hb:RV w w.heap.size vb r) (l1:QL 60000000 60000000 q) (l2:QL 60000000 60000000 r) :
  Calls Tryz.prog 41 #[va,vb] w fun e w'=>Below w.heap.size w w'∧∃ v,e=.returned v∧RV w' w'.heap.size v (q-r):=
 (Diff_new w va vb q r ha hb l1 l2).mono fun _ _ ⟨hb,v,he,hv⟩=>⟨hb,v,he,hv.1⟩
theorem turned_any (w:World) (v:Value) (q:Rat) (h:RV w w.heap.size v q) (h0:q≠0) :
  Calls Tryz.prog 102 #[v] w fun e w'=>Below w.heap.size w w'∧∃ v,e=.returned v∧RV w' w'.heap.size v q⁻¹:=by
 obtain⟨n,A,l,c,A',l',c',rfl,Ha,Hd,hn⟩:=h;have hz:q.num≠0:=fun e=>h0 (Rat.num_eq_zero.1 e)
 have HT:=zz (show RV w w.heap.size (.agg #[.bool n,.slice A' l' c',.slice A l c]) q⁻¹ by
  unfold RV;rw[Rat.num_inv,Rat.den_inv,if_neg hz];refine TV.mk ?_ Ha (fun _=>?_)
  ·rw[Int.natAbs_mul,Int.natAbs_sign_of_ne_zero hz,Nat.one_mul,Int.natAbs_natCast];exact Hd
  ·have hd:=Nat.pos_of_ne_zero q.den_nz;rw[hn hz];rcases Int.lt_or_gt_of_ne hz with h1 | h1
   ·rw[Int.sign_eq_neg_one_of_neg h1,decide_eq_true h1,decide_eq_true (by omega)]
   ·rw[Int.sign_eq_one_of_pos h1,decide_eq_false (by omega),decide_eq_false (by omega)]);clear Ha Hd hn hz h0
 obtain⟨w0,hw0⟩:∃ w0:World,w0=((w.alloc (.cells #[.bool n,.slice A l c,.slice A' l' c'] 84)).alloc (.cells #[.bool false,.slice none 0 0,.slice none 0 0] 84)):=⟨_,rfl⟩;have B0:=zz (n2_b hw0);have z0:=n2_z hw0;have Lr:=n2_0 hw0;have Lr2:=n2_1 hw0;replace HT:=zz (RV.step HT.out B0.out);go_enter Tryz.func102,Tryz.ntmps102
 go_upto_region 1 with (fail)
 rw[← hw0];clear hw0;have a0:=Lr.cell 0 rfl;have b0:=Lr.cell 1 rfl;have c0:=Lr.cell 2 rfl;have l0:=Lr.lt;have d0:=Lr2.cell 0 rfl;have e0:=Lr2.cell 1 rfl;have f0:=Lr2.cell 2 rfl;have m0:=Lr2.lt;have g0:=Lr2.frozen 0;have i0:=Lr2.frozen 1;have j0:=Lr2.frozen 2;have n0:=Lr2.lt;go_wp2;exact TB.fin rfl Lr2 (by simp[noInt_b,noInt_s]) B0.out (by omega) HT.out rfl
theorem Prod_new (w:World) (va vb:Value) (q r:Rat) (ha:RV w w.heap.size va q) (hb:RV w w.heap.size vb r) (l1:QL 60000000 60000000 q) (l2:QL 60000000 60000000 r) :
  Calls Tryz.prog 49 #[va,vb] w fun e w'=>Below w.heap.size w w'∧∃ v,e=.returned v∧RVn w.heap.size w' w'.heap.size v (q*r):=by
 obtain⟨n,A,l,c,A',l',c',rfl,Ha,Hd,hn⟩:=ha;obtain⟨m,B,k,e,B',k',e',rfl,Hb,He,hm⟩:=hb;obtain⟨g1,h1⟩:∃ g,g=Nat.gcd q.num.natAbs r.den:=⟨_,rfl⟩;obtain⟨g2,h2⟩:∃ g,g=Nat.gcd r.num.natAbs q.den:=⟨_,rfl⟩;have hP:=rat_prod q r h1 h2;obtain⟨x,hx⟩:∃ x,x=q.num / (g1:Int):=⟨_,rfl⟩;obtain⟨y,hy⟩:∃ y,y=r.num / (g2:Int):=⟨_,rfl⟩;obtain⟨s,hs⟩:∃ s,s=r.den / g1:=⟨_,rfl⟩;obtain⟨t,ht⟩:∃ t,t=q.den / g2:=⟨_,rfl⟩;rw[← hx,← hy,← hs,← ht] at hP;have q1:(dig x.natAbs).length≤60000000:=by rw[hx,h1,natAbs_ediv_nat (gcd_dvd_int _ _)];exact Nat.le_trans (dig_len_mono (Nat.div_le_self _ _)) l1.1
 have q2:(dig y.natAbs).length≤60000000:=by rw[hy,h2,natAbs_ediv_nat (gcd_dvd_int _ _)];exact Nat.le_trans (dig_len_mono (Nat.div_le_self _ _)) l2.1
 have q3:(dig s).length≤60000000:=by rw[hs];exact Nat.le_trans (dig_len_mono (Nat.div_le_self _ _)) l2.2
 have q4:(dig t).length≤60000000:=by rw[ht];exact Nat.le_trans (dig_len_mono (Nat.div_le_self _ _)) l1.2
 have hz1:x≠0→q.num≠0:=fun h e=>h (by rw[hx,e];simp)
 have hz2:y≠0→r.num≠0:=fun h e=>h (by rw[hy,e];simp)
 have hS:x*y≠0→(!(n==m))=decide (x*y<0):=bne_sgn (fun h=>by rw[hx] at h ⊢;exact(wred hn (h1▸gcd_dvd_int _ _) (by rw[h1];exact fun e=>r.den_nz (Nat.gcd_eq_zero_iff.1 e).2)).2 h) (fun h=>by rw[hy] at h ⊢;exact(wred hm (h2▸gcd_dvd_int _ _) (by rw[h2];exact fun e=>q.den_nz (Nat.gcd_eq_zero_iff.1 e).2)).2 h);have HL:=zz (And.intro l1.1 (And.intro l1.2 (And.intro l2.1 (And.intro l2.2 (And.intro q1 (And.intro q2 (And.intro q3 q4)))))));have HX:=zz hx;have HY:=zz hy;have HS:=zz hs;have HT:=zz ht;have H1:=zz h1;have H2:=zz h2;have HP:=zz hP;have L1:=zz hS;clear hz1 hz2 hS hP q1 q2 q3 q4 l1 l2 hx hy hs ht h1 h2;have HA:=zz (TV.mk Ha He hn);have HB:=zz (TV.mk Hb Hd hm);clear Ha Hd hn Hb He hm;obtain⟨w0,hw0⟩:∃ w0:World,w0=(((w.alloc (.cells #[.bool n,.slice A l c,.slice A' l' c'] 84)).alloc (.cells #[.bool m,.slice B k e,.slice B' k' e'] 84)).alloc (.cells #[.bool false,.slice none 0 0,.slice none 0 0] 84)):=⟨_,rfl⟩;have B0:=zz (n3_b hw0);have z0:=n3_z hw0;have Lr:=n3_0 hw0;have Ls:=n3_1 hw0;have Lr4:=n3_2 hw0;replace HA:=zz (TV.step HA.out B0.out);replace HB:=zz (TV.step HB.out B0.out);go_enter Tryz.func49,Tryz.ntmps49
 go_upto_region 1 with (fail)
 rw[← hw0];clear hw0;have T0:=Lr.cell 0 rfl;have U0:=Lr.cell 1 rfl;have V0:=Lr.cell 2 rfl;have z1:=Lr.lt;have W0:=Ls.cell 0 rfl;have X0:=Ls.cell 1 rfl;have Y0:=Ls.cell 2 rfl;have A1:=Ls.lt;go_wp2_with fail
 refine(reduced_any _ _ q.num r.den HA.out r.den_nz (by have:=HL.out;omega) (by have:=HL.out;omega)).mono ?_;rintro e w1 ⟨Q0,v,rfl,hv⟩;have B4:=zz Q0;have z4:=B4.out.size;have j1:=tr B0 B4;clear Q0;clear T0 U0 V0 z1 W0 X0 Y0 A1;rw[← H1.out,← HX.out,← HS.out] at hv;obtain⟨M1,B1,C1,D1,E1,l0,F1,rfl,ha6,R0,hc6⟩:=hv;have Z0:=zz (TV.mk ha6 R0 hc6);clear ha6 R0 hc6;go_upto_region 2 with (fail)
 obtain⟨w7,f0⟩:∃ w7:World,w7=(w1.alloc (.cells #[.bool M1,.slice B1 C1 D1,.slice E1 l0 F1] 84)):=⟨_,rfl⟩;rw[← f0];have a1:=n1_0 f0;have za7:=n1_z f0;have B8:=zz (n1_b f0);have z8:=B8.out.size;have k1:=tr j1 B8;clear f0;have P1_3_12:=tr B4 B8;have b0:=CB.step Lr P1_3_12.out;have x0:=b0.cell 0 rfl;have y0:=b0.cell 1 rfl;have A0:=b0.cell 2 rfl;have o1:=b0.lt;have d0:=CB.step Ls P1_3_12.out;have C0:=d0.cell 0 rfl;have D0:=d0.cell 1 rfl;have E0:=d0.cell 2 rfl;have p1:=d0.lt;go_wp2_with fail
 have F0:=zz (TV.step HB.out P1_3_12.out);refine(reduced_any _ _ r.num q.den F0.out q.den_nz (by have:=HL.out;omega) (by have:=HL.out;omega)).mono ?_;rintro e w10 ⟨m0,v,rfl,hv⟩;have B17:=zz m0;have z17:=B17.out.size;have b1:=tr k1 B17;clear m0;clear x0 y0 A0 o1 C0 D0 E0 p1;rw[← H2.out,← HY.out,← HT.out] at hv;obtain⟨J1,r1,s1,t1,u1,g0,v1,rfl,ha19,n0,hc19⟩:=hv;have G0:=zz (TV.mk ha19 n0 hc19);clear ha19 n0 hc19;go_upto_region 3 with (fail)
 obtain⟨w20,e0⟩:∃ w20:World,w20=(w10.alloc (.cells #[.bool J1,.slice r1 s1 t1,.slice u1 g0 v1] 84)):=⟨_,rfl⟩;rw[← e0];have h0:=n1_0 e0;have za20:=n1_z e0;have B21:=zz (n1_b e0);have z21:=B21.out.size;have d1:=tr b1 B21;clear e0;have P2_4_23:=tr B8 B17;have P2_5_24:=tr P2_4_23 B21;have i0:=zz (TV.step Z0.out P2_5_24.out);have j0:=zz (TV.step G0.out B21.out);have N1:=zz (TV.is i0.out).1;have O1:=zz (TV.is i0.out).2.1;have P1:=zz (TV.is j0.out).1;have Q1:=zz (TV.is j0.out).2.1;have P3_5_28:=tr B17 B21;have H0:=CB.step b0 P3_5_28.out;have I0:=CB.step d0 P3_5_28.out;have k0:=CB.step a1 P3_5_28.out
 refine Sweep.r0 [se 0 19 [] (.pointer (some ⟨w.heap.size,0,none⟩)),se 1 20 [0] (.pointer (some ⟨w.heap.size,0,none⟩)),se 2 21 [1] (.bool n),se 3 22 [] (.pointer (some ⟨w.heap.size+1,0,none⟩)),se 4 23 [3] (.pointer (some ⟨w.heap.size+1,0,none⟩)),se 5 24 [4] (.bool m),se 6 25 [2,5] (.bool (!(n==m))),se 7 26 [] (.pointer (some ⟨w1.heap.size,0,none⟩)),se 8 27 [7] (.pointer (some ⟨w1.heap.size,1,none⟩)),se 9 28 [8] (.slice B1 C1 D1),se 10 29 [] (.pointer (some ⟨w10.heap.size,0,none⟩)),se 11 30 [10] (.pointer (some ⟨w10.heap.size,1,none⟩)),se 12 31 [11] (.slice r1 s1 t1),sf 13 32 [9,12] (fun fv fw=>RN fw fw.heap.size fv (dig (x.natAbs*y.natAbs))∧NewC w.heap.size fv),sf 14 33 [13,6] (fun fv fw=>WV fw fw.heap.size fv (x*y)∧∀ c0 c1,fv=.agg #[c0,c1]→NewC w.heap.size c1),se 15 34 [] (.pointer (some ⟨w1.heap.size,2,none⟩)),se 16 35 [15] (.slice E1 l0 F1),se 17 36 [] (.pointer (some ⟨w10.heap.size,2,none⟩)),se 18 37 [17] (.slice u1 g0 v1),sf 19 38 [16,18] (fun fv fw=>RN fw fw.heap.size fv (dig (s*t))∧NewC w.heap.size fv),sf 20 39 [14,19] (fun fv fw=>TVn w.heap.size fw fw.heap.size fv (x*y) (s*t))] 1 (SB H0 (SB I0 (SC (fun _ h=>(CB.step k0 h).cell 1 rfl) (SC (fun _ h=>(CB.step h0 h).cell 1 rfl) (SC (fun _ h=>(CB.step k0 h).cell 2 rfl) (SC (fun _ h=>(CB.step h0 h).cell 2 rfl) S0)))))) (MA (fun _ _ _ h hb=>⟨h.1.step hb,h.2⟩) (MA (fun _ _ _ h hb=>⟨h.1.step hb,h.2⟩) (MA (fun _ _ _ h hb=>⟨h.1.step hb,h.2⟩) (MA (fun _ _ _ h hb=>⟨h.1.step hb,h.2⟩) trivial)))) ?_ ?_
 ·intro xs a_ hA;simp only[SX] at hA
  iterate 21 (refine ac ?_ ?_;rotate_left)
  exact all_nil
  all_goals (intro wk hb;simp only[SX,↓reduceIte,Nat.reduceEqDiff,Nat.reduceAdd];have b_:=zz hb;have z_:=hb.size;clear hb;subst hA)
  any_goals (intros;refine wpOp_step rfl ?_;intro K hK;go_simp;refine hK _ _ ⟨_,?_,Below.refl _ _,rfl⟩;simp only[*,FL] <;> kernel_rfl)
  ·intro f9 f12;intros;refine wpOp_step (o:=_) rfl (fun K hK=>?_);go_simp;have o0:=zz (RN.step N1.out b_.out);have p0:=zz (RN.step P1.out b_.out);(with_reducible refine(Times_new _ _ _ x.natAbs y.natAbs o0.out p0.out (by have:=HL.out;omega) (by have:=HL.out;omega)).mono ?_)
   rintro e wc33 ⟨e1,v33,rfl,q0⟩;refine hK _ _ ⟨v33,by simp only[FL,f9,f12] <;> kernel_rfl,e1,⟨q0.1,q0.2.weak (by omega)⟩⟩
  ·intro f13 f6;intros;refine wpOp_step (o:=_) rfl (fun K hK=>?_);obtain⟨A13,c13,hx13,-⟩:=RN.cell f13.1;have r13:=f13.1;have m13:=f13.2;rw[hx13] at r13 m13 ⊢;go_simp;refine hK _ _ ⟨.agg #[.bool (!(n==m)),.slice A13 (dig (x.natAbs*y.natAbs)).length c13],by simp only[FL,f6,hx13] <;> kernel_rfl,Below.refl _ _,⟨WV.mk (by rw[Int.natAbs_mul];exact r13) L1.out,fun c0 c1 e=>by injection e with e;simp at e;rw[← e.2];exact m13⟩⟩
  ·intro f16 f18;intros;refine wpOp_step (o:=_) rfl (fun K hK=>?_);go_simp;have s0:=zz (RN.step O1.out b_.out);have t0:=zz (RN.step Q1.out b_.out);(with_reducible refine(Times_new _ _ _ s t s0.out t0.out (by have:=HL.out;omega) (by have:=HL.out;omega)).mono ?_)
   rintro e wc36 ⟨f1,v36,rfl,u0⟩;refine hK _ _ ⟨v36,by simp only[FL,f16,f18] <;> kernel_rfl,f1,⟨u0.1,u0.2.weak (by omega)⟩⟩
  ·intro f14 f19;intros;refine wpOp_step (o:=_) rfl (fun K hK=>?_);obtain⟨⟨nw14,Aw14,lw14,cw14,hw14,gw14,sw14⟩,mw14⟩:=f14;have m14:=mw14 _ _ hw14;obtain⟨A19,c19,hx19,-⟩:=RN.cell f19.1;have r19:=f19.1;have m19:=f19.2;rw[hx19] at r19 m19 ⊢;rw[hw14];go_simp;refine hK _ _ ⟨.agg #[.bool nw14,.slice Aw14 lw14 cw14,.slice A19 (dig (s*t)).length c19],by simp only[FL,hx19,hw14] <;> kernel_rfl,Below.refl _ _,⟨TV.mk gw14 r19 sw14,fun c0 c1 c2 e=>by injection e with e;simp at e;rw[← e.2.1,← e.2.2];exact⟨m14,m19⟩⟩⟩
 ·intro xs V1 hbf;simp only[SY];have B38:=zz hbf;have z38:=B38.out.size;have i1:=tr d1 B38;clear hbf;generalize xs 13=x13,xs 14=x14,xs 19=x19,xs 20=x20;rintro f13 f14 f19 f20;clear f13;clear f14;clear f19;obtain⟨⟨W1,X1,Y1,Z1,a2,m1,b2,rfl,ha40,v0,hc40⟩,hn40⟩:=f20;have J0:=zz (TV.mk ha40 v0 hc40);have HNr:=zz (hn40 _ _ _ rfl);clear ha40 v0 hc40 hn40;have P1_4_42:=tr P1_3_12 B17;have P1_5_43:=tr P1_4_42 B21;have P1_6_44:=tr P1_5_43 B38;have a0:=CB.step Lr4 P1_6_44.out;have K0:=a0.cell 0 rfl;have L0:=a0.cell 1 rfl;have M0:=a0.cell 2 rfl;have x1:=a0.lt;have N0:=a0.frozen 0;have O0:=a0.frozen 1;have P0:=a0.frozen 2;have y1:=a0.lt;refine EN 21 rfl fun K hK=>?_;go_simp;refine hK _ _ ?_;clear hK K;(try simp only[PT])
  clear K0 L0 M0 x1 N0 O0 P0 y1;refine ED ?_;(try simp only[Exit.then])
  go_wp2;have HF:=zz (show ∀ w B v,TV w B v (x*y) (s*t)→RV w B v (q*r) from fun w B v t=>by unfold RV;rw[HP.out.1,HP.out.2];exact t);exact bodyPost_mono (TB.fine rfl a0 (by simp[noInt_b,noInt_s]) i1.out (by omega) J0.out rfl) (fun e w' ⟨hb,he,hv⟩=>⟨hb,_,he,HF.out _ _ _ hv,new3 HNr.out⟩)
theorem Prod_any (w:World) (va vb:Value) (q r:Rat) (ha:RV w w.heap.size va q) (hb:RV w w.heap.size vb r) (l1:QL 60000000 60000000 q) (l2:QL 60000000 60000000 r) :
  Calls Tryz.prog 49 #[va,vb] w fun e w'=>Below w.heap.size w w'∧∃ v,e=.returned v∧RV w' w'.heap.size v (q*r):=
 (Prod_new w va vb q r ha hb l1 l2).mono fun _ _ ⟨hb,v,he,hv⟩=>⟨hb,v,he,hv.1⟩
theorem Quo_new (w:World) (va vb:Value) (q r:Rat) (ha:RV w w.heap.size va q) (hb:RV w w.heap.size vb r) (h0:r≠0) (l1:QL 60000000 60000000 q) (l2:QL 60000000 60000000 r) :
  Calls Tryz.prog 75 #[va,vb] w fun e w'=>Below w.heap.size w w'∧∃ v,e=.returned v∧RVn w.heap.size w' w'.heap.size v (q / r):=by
 have HD:=zz (Rat.div_def q r);obtain⟨n,A,l,c,A',l',c',rfl,Ha,Hd,hn⟩:=ha;obtain⟨m,B,k,e,B',k',e',rfl,Hb,He,hm⟩:=hb;have HL:=zz l1;have HL':=zz (show QL 60000000 60000000 r⁻¹ by
  have hz:r.num≠0:=fun e=>h0 (Rat.num_eq_zero.1 e)
  unfold QL;rw[Rat.num_inv,Rat.den_inv,if_neg hz,Int.natAbs_mul,Int.natAbs_sign_of_ne_zero hz,Nat.one_mul,Int.natAbs_natCast];exact⟨l2.2,l2.1⟩);clear l1 l2
 have HA:=zz (show RV w w.heap.size _ q from TV.mk Ha Hd hn);have HB:=zz (show RV w w.heap.size _ r from TV.mk Hb He hm);clear Ha Hd hn Hb He hm;have H0:=zz h0;clear h0;obtain⟨w0,hw0⟩:∃ w0:World,w0=(((w.alloc (.cells #[.bool n,.slice A l c,.slice A' l' c'] 84)).alloc (.cells #[.bool m,.slice B k e,.slice B' k' e'] 84)).alloc (.cells #[.bool false,.slice none 0 0,.slice none 0 0] 84)):=⟨_,rfl⟩;have B0:=zz (n3_b hw0);have z0:=n3_z hw0;have Lr:=n3_0 hw0;have Ls:=n3_1 hw0;have Lr4:=n3_2 hw0;replace HA:=zz (RV.step HA.out B0.out);replace HB:=zz (RV.step HB.out B0.out);go_enter Tryz.func75,Tryz.ntmps75
 go_upto_region 1 with (fail)
 rw[← hw0];clear hw0;refine Sweep.r0 [se 0 5 [] (.agg #[.bool n,.slice A l c,.slice A' l' c']),se 1 6 [] (.agg #[.bool m,.slice B k e,.slice B' k' e']),sf 2 7 [1] (fun fv fw=>RV fw fw.heap.size fv r⁻¹),sf 3 8 [0,2] (fun fv fw=>RVn w.heap.size fw fw.heap.size fv (q / r))] 1 (SB Lr (SB Ls S0)) (MA (fun _ _ _ h hb=>h.step hb) (MA (fun _ _ _ h hb=>⟨RV.step h.1 hb,h.2⟩) trivial)) ?_ ?_
 ·intro xs a_ hA;simp only[SX] at hA;refine(ac ?_ (ac ?_ (ac ?_ (ac ?_ all_nil))))
  all_goals (intro wk hb;simp only[SX,↓reduceIte,Nat.reduceEqDiff,Nat.reduceAdd];have b_:=zz hb;have z_:=hb.size;clear hb;subst hA)
  any_goals (intros;refine wpOp_step rfl ?_;intro K hK;go_simp;refine hK _ _ ⟨_,?_,Below.refl _ _,rfl⟩;simp only[*,FL] <;> kernel_rfl)
  ·intro f1;intros;refine wpOp_step (o:=_) rfl (fun K hK=>?_);go_simp;have m0:=zz (RV.step HB.out b_.out);(with_reducible refine(turned_any _ _ r m0.out H0.out).mono ?_)
   rintro e wc2 ⟨q0,v2,rfl,s0⟩;refine hK _ _ ⟨v2,by simp only[FL,f1] <;> kernel_rfl,q0,s0⟩
  ·intro f0 f2;intros;refine wpOp_step (o:=_) rfl (fun K hK=>?_);go_simp;have n0:=zz (RV.step HA.out b_.out);(with_reducible refine((show Calls Tryz.prog _ _ _ _ from HD.out▸Prod_new _ _ _ q r⁻¹ n0.out f2 HL.out HL'.out)).mono ?_)
   rintro e wc4 ⟨t0,v4,rfl,b0⟩;refine hK _ _ ⟨v4,by simp only[FL,f0] <;> kernel_rfl,t0,⟨b0.1,fun c0 c1 c2 e=>⟨(b0.2 c0 c1 c2 e).1.weak (by omega),(b0.2 c0 c1 c2 e).2.weak (by omega)⟩⟩⟩
 ·intro xs y0 hbf;simp only[SY];have B6:=zz hbf;have z6:=B6.out.size;have u0:=tr B0 B6;clear hbf;generalize xs 2=x2,xs 3=x3;rintro f2 f3;clear f2;have hnw:=f3.2;replace f3:=f3.1;obtain⟨D0,E0,F0,G0,I0,o0,J0,rfl,ha8,l0,hc8⟩:=f3;have p0:Hid (RV y0 y0.heap.size (.agg #[.bool D0,.slice E0 F0 G0,.slice I0 o0 J0]) (q / r)):=zz (TV.mk ha8 l0 hc8);clear ha8 l0 hc8;have HNr:=zz (hnw _ _ _ rfl);clear hnw;have a0:=CB.step Lr4 B6.out;have d0:=a0.cell 0 rfl;have e0:=a0.cell 1 rfl;have g0:=a0.cell 2 rfl;have v0:=a0.lt;have i0:=a0.frozen 0;have j0:=a0.frozen 1;have k0:=a0.frozen 2;have x0:=a0.lt;refine EN 4 rfl fun K hK=>?_;go_simp;refine hK _ _ ?_;clear hK K;(try simp only[PT])
  clear d0 e0 g0 v0 i0 j0 k0 x0;refine ED ?_;(try simp only[Exit.then])
  go_wp2;exact bodyPost_mono (TB.fine rfl a0 (by simp[noInt_b,noInt_s]) u0.out (by omega) p0.out rfl) (fun e w' ⟨hb,he,hv⟩=>⟨hb,_,he,hv,new3 HNr.out⟩)
end Go.Proofs.YtdigbofiebfkeaaGreatDoor
