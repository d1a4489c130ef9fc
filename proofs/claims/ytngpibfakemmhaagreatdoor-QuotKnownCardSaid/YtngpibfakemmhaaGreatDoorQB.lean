/- Layer 04: Sign of a whole, made, reduced (written by gen_qb.py). -/
import Derived.Test.YtngpibfakemmhaaGreatDoorQA
namespace Go.Proofs.YtngpibfakemmhaaGreatDoor
open Go Go.RowKit Dig
theorem dig_nil {z:Nat}:(dig z).length=0↔z=0:=by
 constructor
 ·intro h;refine Nat.eq_zero_of_not_pos fun hp=>?_
  have:=dig_len_pos (n:=z) (by omega)
  omega
 ·rintro rfl;rw[dig_zero];rfl
theorem wSign_any (w:World) (v:Value) (z:Int) (h:WV w w.heap.size v z) :
  Calls Tryz.prog 61 #[v] w fun e w'=>Below w.heap.size w w'∧e=.returned (.int .i64 z.sign):=by
 obtain⟨n,A,l,c,rfl,h1,hn⟩:=h;have hl:=RN.len h1;have HB:=zz (below_alloc1 (Below.refl w.heap.size w) (.cells #[.bool n,.slice A l c] 78));by_cases hz:z=0
 ·have hl0:l=0:=by rw[hl,hz,show(0:Int).natAbs=0 from rfl,dig_zero];rfl
  subst hl0;subst hz;clear h1 hl hn;go_enter Tryz.func61,Tryz.ntmps61
  go_wp2;go_ret;exact⟨HB.out,rfl⟩
 ·have hl0:((l:Int)==0)=false:=by rw[beq_eq_false_iff_ne,hl];have:=dig_len_pos (n:=z.natAbs) (by omega);omega
  have hn1:=hn hz;clear h1 hl hn;by_cases hlt:z<0
  ·rw[decide_eq_true hlt] at hn1;subst hn1;have HS:=zz (show z.sign=-1 from Int.sign_eq_neg_one_of_neg hlt);clear hz hlt;go_enter Tryz.func61,Tryz.ntmps61
   go_wp2;go_ret;exact⟨HB.out,by rw[HS.out];rfl⟩
  ·rw[decide_eq_false hlt] at hn1;subst hn1;have HS:=zz (show z.sign=1 from Int.sign_eq_one_of_pos (by omega));clear hz hlt;go_enter Tryz.func61,Tryz.ntmps61
   go_wp2;go_ret;exact⟨HB.out,by rw[HS.out];rfl⟩
theorem lessR_any (w:World) (b:Nat) (va vg:Value) (a g:Nat) (ho:One w b 76 vg) (ha:RN w w.heap.size va (dig a)) (hg:RN w w.heap.size vg (dig g)) (hg0:g≠0) (hl:(dig a).length≤100000) :
  Calls Tryz.prog 77 #[va,.pointer (some ⟨b,0,none⟩)] w fun e w'=>Below w.heap.size w w'∧∃ v,e=.returned v∧RN w' w'.heap.size v (dig (a / g)):=by
 have HA:=zz ha;have HG:=zz hg;have H0:=zz hg0;have HL:=zz hl;obtain⟨A,ca,rfl,-⟩:=ha.cell;obtain⟨B,cb,rfl,-⟩:=hg.cell;have q0:=ho.cell;clear ha hg hg0 hl ho;go_enter Tryz.func77,Tryz.ntmps77
 go_wp2_with fail
 refine(without_any _ _ _ a g HA.out HG.out H0.out HL.out).mono ?_;rintro e w1 ⟨hb,v,rfl,hv⟩;have a0:=zz hb;have HV:=zz hv;clear hb;obtain⟨A2,c2,rfl,-⟩:=hv.cell;clear hv;go_wp2;go_ret;exact⟨a0.out,_,rfl,HV.out⟩
theorem wred {z:Int} {n:Bool} {g:Nat} (h:z≠0→n=decide (z<0)) (hg:(g:Int)∣z) (h0:g≠0):(z / (g:Int)).natAbs=z.natAbs / g∧(z / (g:Int)≠0→n=decide (z / (g:Int)<0)):=by
 refine⟨natAbs_ediv_nat hg,fun hz=>?_⟩;obtain⟨k,rfl⟩:=hg;rw[Int.mul_ediv_cancel_left _ (by omega)] at hz ⊢;rw[h (Int.mul_ne_zero (by omega) hz)];rcases Int.lt_or_gt_of_ne hz with h1 | h1
 ·rw[decide_eq_true h1,decide_eq_true (Int.mul_neg_of_pos_of_neg (by omega) h1)]
 ·have:=Int.mul_pos (show(0:Int)<(g:Int) by omega) h1;rw[decide_eq_false (by omega),decide_eq_false (by omega)]
set_option maxRecDepth 100000 in
set_option maxHeartbeats 4000000 in
theorem madeQ_yes (w:World) (n m:Bool) (A A':Option Addr) (l c l' c':Nat) :
  Calls Tryz.prog 67 #[.agg #[.bool n,.slice A l c,.bool m,.slice A' l' c'],.int .i64 0] w fun e w'=>Below w.heap.size w w'∧e=.returned (.tuple #[.agg #[.bool n,.slice A l c,.bool m,.slice A' l' c'],.int .i64 0]):=by
 have HB:=zz (below_alloc1 (below_alloc1 (Below.refl w.heap.size w) (.cells #[.bool n,.slice A l c,.bool m,.slice A' l' c'] 28)) (.cells #[.bool n,.slice A l c,.bool m,.slice A' l' c'] 28));have HC:=zz (show CB ((w.alloc (.cells #[.bool n,.slice A l c,.bool m,.slice A' l' c'] 28)).alloc (.cells #[.bool n,.slice A l c,.bool m,.slice A' l' c'] 28)) (w.heap.size+1) 28 #[.bool n,.slice A l c,.bool m,.slice A' l' c'] by have h:=CB.new (w.alloc (.cells #[.bool n,.slice A l c,.bool m,.slice A' l' c'] 28)) 28 #[.bool n,.slice A l c,.bool m,.slice A' l' c'];simpa using h);go_enter Tryz.func67,Tryz.ntmps67
 go_wp2;exact bodyPost_ret (QB.ret rfl _ HC.out rfl) rfl ⟨HB.out,rfl⟩
set_option maxRecDepth 100000 in
set_option maxHeartbeats 4000000 in
theorem madeQ_no (w:World) (n m:Bool) (A A':Option Addr) (l c l' c':Nat) (e:Int) (he:e≠0) :
  Calls Tryz.prog 67 #[.agg #[.bool n,.slice A l c,.bool m,.slice A' l' c'],.int .i64 e] w fun r w'=>Below w.heap.size w w'∧r=.returned (.tuple #[.agg #[.bool false,.slice none 0 0,.bool false,.slice none 0 0],.int .i64 e]):=by
 have HB:=zz (below_alloc1 (below_alloc1 (below_alloc1 (Below.refl w.heap.size w) (.cells #[.bool n,.slice A l c,.bool m,.slice A' l' c'] 28)) (.cells #[.bool false,.slice none 0 0,.bool false,.slice none 0 0] 28)) (.cells #[.bool false,.slice none 0 0,.bool false,.slice none 0 0] 28));have HC:=zz (show CB (((w.alloc (.cells #[.bool n,.slice A l c,.bool m,.slice A' l' c'] 28)).alloc (.cells #[.bool false,.slice none 0 0,.bool false,.slice none 0 0] 28)).alloc (.cells #[.bool false,.slice none 0 0,.bool false,.slice none 0 0] 28)) (w.heap.size+1) 28 #[.bool false,.slice none 0 0,.bool false,.slice none 0 0] by have h:=(CB.new (w.alloc (.cells #[.bool n,.slice A l c,.bool m,.slice A' l' c'] 28)) 28 #[.bool false,.slice none 0 0,.bool false,.slice none 0 0]).alloc (.cells #[.bool false,.slice none 0 0,.bool false,.slice none 0 0] 28);simpa using h);have he0:(e==0)=false:=by rw[beq_eq_false_iff_ne];exact he
 clear he;go_enter Tryz.func67,Tryz.ntmps67
 go_wp2;exact bodyPost_ret (QB.ret rfl _ HC.out rfl) rfl ⟨HB.out,rfl⟩
set_option maxRecDepth 100000 in
set_option maxHeartbeats 4000000 in
theorem reduced_any (w:World) (v:Value) (z:Int) (d:Nat) (h:TV w w.heap.size v z d) (hd:d≠0) (hl:(dig z.natAbs).length≤100000) (hl':(dig d).length≤100000) :
  Calls Tryz.prog 51 #[v] w fun e w'=>Below w.heap.size w w'∧∃ v,e=.returned v∧TV w' w'.heap.size v (z / (Nat.gcd z.natAbs d:Int)) (d / Nat.gcd z.natAbs d):=by
 obtain⟨n,A,l,c,A',l',c',rfl,Ha,Hd,hn⟩:=h;obtain⟨g,hg⟩:∃ g,g=Nat.gcd z.natAbs d:=⟨_,rfl⟩;rw[← hg];have hg0:g≠0:=by rw[hg];exact Nat.gcd_ne_zero_right hd
 have HF:=zz (show(z / (g:Int)).natAbs=z.natAbs / g∧(z / (g:Int)≠0→n=decide (z / (g:Int)<0)) from wred hn (by rw[hg];exact Int.ofNat_dvd_left.2 (Nat.gcd_dvd_left _ _)) hg0);have HG:=zz hg;have U1:=zz hg0;have HL:=zz hl;have HL':=zz hl';clear hn hd hl hl' hg hg0;obtain⟨w0,hw0⟩:∃ w0:World,w0=((w.alloc (.cells #[.bool n,.slice A l c,.slice A' l' c'] 80)).alloc (.cells #[.bool false,.slice none 0 0,.slice none 0 0] 80)):=⟨_,rfl⟩;have B0:=zz (n2_b hw0);have z0:=n2_z hw0;have La:=n2_0 hw0;have Lo:=n2_1 hw0;replace Ha:=zz (RN.stepN Ha B0.out);replace Hd:=zz (RN.stepN Hd B0.out);go_enter Tryz.func51,Tryz.ntmps51
 go_upto_region 1 with (fail)
 rw[← hw0];clear hw0;have M0:=La.cell 0 rfl;have N0:=La.cell 1 rfl;have O0:=La.cell 2 rfl;have T1:=La.lt;go_wp2_with fail
 refine(Common_any _ _ _ z.natAbs d Ha.out Hd.out (by have:=HL.out;omega) (by have:=HL'.out;omega)).mono ?_;rintro e w1 ⟨J0,vg,rfl,hg⟩;have B3:=zz J0;have z3:=B3.out.size;have K0:=zz (B0.out.trans (B3.out.mono B0.out.size));clear J0;clear M0 N0 O0 T1;rw[← HG.out] at hg;obtain⟨G,cg,rfl,-⟩:=hg.cell;have Hg:=zz hg;clear hg;go_upto_region 2 with (fail)
 obtain⟨w5,l0⟩:∃ w5:World,w5=(w1.alloc (.cells #[.slice G (dig g).length cg] 76)):=⟨_,rfl⟩;rw[← l0];have m0:=n1_0 l0;have za5:=n1_z l0;have B6:=zz (n1_b l0);have z6:=B6.out.size;have L0:=zz (K0.out.trans (B6.out.mono K0.out.size));clear l0;go_upto_region 3 with (fail)
 refine Flow.run [⟨0,12,fun fv fw=>fv=.pointer (some ⟨w.heap.size,0,none⟩)⟩,⟨1,13,fun fv fw=>fv=.pointer (some ⟨w.heap.size,0,none⟩)⟩,⟨2,14,fun fv fw=>fv=.bool n⟩,⟨3,15,fun fv fw=>fv=.func (.func 77) #[] #[.pointer (some ⟨w1.heap.size,0,none⟩)]⟩,⟨4,16,fun fv fw=>fv=.pointer (some ⟨w.heap.size,0,none⟩)⟩,⟨5,17,fun fv fw=>fv=.pointer (some ⟨w.heap.size,1,none⟩)⟩,⟨6,18,fun fv fw=>fv=.slice A l c⟩,⟨7,19,fun fv fw=>RN fw fw.heap.size fv (dig (z.natAbs / g))⟩,⟨8,20,fun fv fw=>WV fw fw.heap.size fv (z / (g:Int))⟩,⟨9,21,fun fv fw=>fv=.func (.func 77) #[] #[.pointer (some ⟨w1.heap.size,0,none⟩)]⟩,⟨10,22,fun fv fw=>fv=.pointer (some ⟨w.heap.size,2,none⟩)⟩,⟨11,23,fun fv fw=>fv=.slice A' l' c'⟩,⟨12,24,fun fv fw=>RN fw fw.heap.size fv (dig (d / g))⟩,⟨13,25,fun fv fw=>TV fw fw.heap.size fv (z / (g:Int)) (d / g)⟩] [] [] 1 (by kernel_rfl) (by kernel_rfl) (by kernel_rfl) (fun _ _ _ _ _ h=>h) ?_ ?_ ?_ ?_
 ·refine(a0 (a0 (a0 (a0 (a0 (a0 (a0 (all_cons (fun v w1 w2 h hb=>h.step hb) (all_cons (fun v w1 w2 h hb=>h.step hb) (a0 (a0 (a0 (all_cons (fun v w1 w2 h hb=>h.step hb) (all_cons (fun v w1 w2 h hb=>h.step hb) all_nil))))))))))))))
 ·refine(all_cons ?_ (all_cons ?_ (all_cons ?_ (all_cons ?_ (all_cons ?_ (all_cons ?_ (all_cons ?_ (all_cons ?_ (all_cons ?_ (all_cons ?_ (all_cons ?_ (all_cons ?_ (all_cons ?_ (all_cons ?_ all_nil))))))))))))))
  ·intro xs M1 b0 c0;clear b0;clear c0;refine wpOp_step (o:=_) rfl (fun K hK=>?_);simp only[FL]
   go_simp;refine hK _ _ ⟨.pointer (some ⟨w.heap.size,0,none⟩),by kernel_rfl,Below.refl _ _,rfl,nF⟩
  ·intro xs O1 b0 c0;clear b0;have f0:(xs 0)=.pointer (some ⟨w.heap.size,0,none⟩):=c0 _ (m_ 0 rfl) (by kernel_rfl);clear c0;refine wpOp_step (o:=_) rfl (fun K hK=>?_);simp only[FL]
   go_simp;refine hK _ _ ⟨.pointer (some ⟨w.heap.size,0,none⟩),by simp only[FL,f0],Below.refl _ _,rfl,nF⟩
  ·intro xs o1 b0 c0;have p0:=zz b0;have p1:=b0.size;clear b0;have f1:(xs 1)=.pointer (some ⟨w.heap.size,0,none⟩):=c0 _ (m_ 1 rfl) (by kernel_rfl);clear c0;refine wpOp_step (o:=_) rfl (fun K hK=>?_);simp only[FL]
   have P1_3_12:=zz (B3.out.trans (B6.out.mono B3.out.size));have P1_4_13:=zz (P1_3_12.out.trans (p0.out.mono P1_3_12.out.size));have e0:=CB.step La P1_4_13.out;have U0:=e0.cell 0 rfl;have V0:=e0.cell 1 rfl;have W0:=e0.cell 2 rfl;have X1:=e0.lt;go_simp;refine hK _ _ ⟨.bool n,by simp only[FL,f1],Below.refl _ _,rfl,nF⟩
  ·intro xs q1 b0 c0;clear b0;clear c0;refine wpOp_step (o:=_) rfl (fun K hK=>?_);simp only[FL]
   go_simp;refine hK _ _ ⟨.func (.func 77) #[] #[.pointer (some ⟨w1.heap.size,0,none⟩)],by kernel_rfl,Below.refl _ _,rfl,nF⟩
  ·intro xs s1 b0 c0;clear b0;clear c0;refine wpOp_step (o:=_) rfl (fun K hK=>?_);simp only[FL]
   go_simp;refine hK _ _ ⟨.pointer (some ⟨w.heap.size,0,none⟩),by kernel_rfl,Below.refl _ _,rfl,nF⟩
  ·intro xs u1 b0 c0;clear b0;have f4:(xs 4)=.pointer (some ⟨w.heap.size,0,none⟩):=c0 _ (m_ 4 rfl) (by kernel_rfl);clear c0;refine wpOp_step (o:=_) rfl (fun K hK=>?_);simp only[FL]
   go_simp;refine hK _ _ ⟨.pointer (some ⟨w.heap.size,1,none⟩),by simp only[FL,f4],Below.refl _ _,rfl,nF⟩
  ·intro xs y1 b0 c0;have q0:=zz b0;have z1:=b0.size;clear b0;have f5:(xs 5)=.pointer (some ⟨w.heap.size,1,none⟩):=c0 _ (m_ 5 rfl) (by kernel_rfl);clear c0;refine wpOp_step (o:=_) rfl (fun K hK=>?_);simp only[FL]
   have P1_3_20:=zz (B3.out.trans (B6.out.mono B3.out.size));have P1_4_21:=zz (P1_3_20.out.trans (q0.out.mono P1_3_20.out.size));have g0:=CB.step La P1_4_21.out;have a1:=g0.cell 0 rfl;have b1:=g0.cell 1 rfl;have c1:=g0.cell 2 rfl;have Y1:=g0.lt;go_simp;refine hK _ _ ⟨.slice A l c,by simp only[FL,f5],Below.refl _ _,rfl,nF⟩
  ·intro xs A1 b0 c0;have i0:=zz b0;have B1:=b0.size;clear b0;have f3:(xs 3)=.func (.func 77) #[] #[.pointer (some ⟨w1.heap.size,0,none⟩)]:=c0 _ (m_ 3 rfl) (by kernel_rfl);have f6:(xs 6)=.slice A l c:=c0 _ (m_ 6 rfl) (by kernel_rfl);clear c0;refine wpOp_step (o:=_) rfl (fun K hK=>?_);simp only[FL]
   go_simp;have r0:=One.step m0 i0.out;have P1_3_25:=zz (B3.out.trans (B6.out.mono B3.out.size));have P1_4_26:=zz (P1_3_25.out.trans (i0.out.mono P1_3_25.out.size));have s0:=zz (RN.step Ha.out P1_4_26.out);have P2_4_28:=zz (B6.out.trans (i0.out.mono B6.out.size));have t0:=zz (RN.step Hg.out P2_4_28.out);(with_reducible refine(lessR_any _ _ _ _ z.natAbs g r0 s0.out t0.out U1.out (by have:=HL.out;omega)).mono ?_)
   rintro e wc30 ⟨P0,v30,rfl,Q0⟩;refine hK _ _ ⟨v30,by simp only[FL,f3,f6],P0,Q0,nF⟩
  ·intro xs n0 b0 c0;clear b0;have f7:RN n0 n0.heap.size (xs 7) (dig (z.natAbs / g)):=c0 _ (m_ 7 rfl) (by kernel_rfl);have f2:(xs 2)=.bool n:=c0 _ (m_ 2 rfl) (by kernel_rfl);clear c0;refine wpOp_step (o:=_) rfl (fun K hK=>?_);simp only[FL]
   obtain⟨A7,c7,hx7,-⟩:=RN.cell f7;have r7:=f7;rw[hx7] at r7 ⊢;go_simp;refine hK _ _ ⟨.agg #[.bool n,.slice A7 (dig (z.natAbs / g)).length c7],by simp only[FL,f2,hx7],Below.refl _ _,WV.mk (by rw[HF.out.1];exact r7) HF.out.2,nF⟩
  ·intro xs D1 b0 c0;clear b0;clear c0;refine wpOp_step (o:=_) rfl (fun K hK=>?_);simp only[FL]
   go_simp;refine hK _ _ ⟨.func (.func 77) #[] #[.pointer (some ⟨w1.heap.size,0,none⟩)],by kernel_rfl,Below.refl _ _,rfl,nF⟩
  ·intro xs F1 b0 c0;clear b0;clear c0;refine wpOp_step (o:=_) rfl (fun K hK=>?_);simp only[FL]
   go_simp;refine hK _ _ ⟨.pointer (some ⟨w.heap.size,2,none⟩),by kernel_rfl,Below.refl _ _,rfl,nF⟩
  ·intro xs H1 b0 c0;have u0:=zz b0;have I1:=b0.size;clear b0;have f10:(xs 10)=.pointer (some ⟨w.heap.size,2,none⟩):=c0 _ (m_ 10 rfl) (by kernel_rfl);clear c0;refine wpOp_step (o:=_) rfl (fun K hK=>?_);simp only[FL]
   have P1_3_36:=zz (B3.out.trans (B6.out.mono B3.out.size));have P1_4_37:=zz (P1_3_36.out.trans (u0.out.mono P1_3_36.out.size));have h0:=CB.step La P1_4_37.out;have h1:=h0.cell 0 rfl;have i1:=h0.cell 1 rfl;have j1:=h0.cell 2 rfl;have Z1:=h0.lt;go_simp;refine hK _ _ ⟨.slice A' l' c',by simp only[FL,f10],Below.refl _ _,rfl,nF⟩
  ·intro xs J1 b0 c0;have j0:=zz b0;have K1:=b0.size;clear b0;have f9:(xs 9)=.func (.func 77) #[] #[.pointer (some ⟨w1.heap.size,0,none⟩)]:=c0 _ (m_ 9 rfl) (by kernel_rfl);have f11:(xs 11)=.slice A' l' c':=c0 _ (m_ 11 rfl) (by kernel_rfl);clear c0;refine wpOp_step (o:=_) rfl (fun K hK=>?_);simp only[FL]
   go_simp;have v0:=One.step m0 j0.out;have P1_3_41:=zz (B3.out.trans (B6.out.mono B3.out.size));have P1_4_42:=zz (P1_3_41.out.trans (j0.out.mono P1_3_41.out.size));have y0:=zz (RN.step Hd.out P1_4_42.out);have P2_4_44:=zz (B6.out.trans (j0.out.mono B6.out.size));have A0:=zz (RN.step Hg.out P2_4_44.out);(with_reducible refine(lessR_any _ _ _ _ d g v0 y0.out A0.out U1.out (by have:=HL'.out;omega)).mono ?_)
   rintro e wc46 ⟨R0,v46,rfl,S0⟩;refine hK _ _ ⟨v46,by simp only[FL,f9,f11],R0,S0,nF⟩
  ·intro xs k0 b0 c0;clear b0;have f8:WV k0 k0.heap.size (xs 8) (z / (g:Int)):=c0 _ (m_ 8 rfl) (by kernel_rfl);have f12:RN k0 k0.heap.size (xs 12) (dig (d / g)):=c0 _ (m_ 12 rfl) (by kernel_rfl);clear c0;refine wpOp_step (o:=_) rfl (fun K hK=>?_);simp only[FL]
   obtain⟨nw8,Aw8,lw8,cw8,hw8,gw8,sw8⟩:=f8;obtain⟨A12,c12,hx12,-⟩:=RN.cell f12;have r12:=f12;rw[hx12] at r12 ⊢;rw[hw8];go_simp;refine hK _ _ ⟨.agg #[.bool nw8,.slice Aw8 lw8 cw8,.slice A12 (dig (d / g)).length c12],by simp only[FL,hx12,hw8],Below.refl _ _,TV.mk gw8 r12 sw8,nF⟩
 ·exact all_nil
 ·intro xs Q1 hbf hf hn hd;have f0:(xs 0)=.pointer (some ⟨w.heap.size,0,none⟩):=hf _ (m_ 0 rfl);have f1:(xs 1)=.pointer (some ⟨w.heap.size,0,none⟩):=hf _ (m_ 1 rfl);have f2:(xs 2)=.bool n:=hf _ (m_ 2 rfl);have f3:(xs 3)=.func (.func 77) #[] #[.pointer (some ⟨w1.heap.size,0,none⟩)]:=hf _ (m_ 3 rfl);have f4:(xs 4)=.pointer (some ⟨w.heap.size,0,none⟩):=hf _ (m_ 4 rfl);have f5:(xs 5)=.pointer (some ⟨w.heap.size,1,none⟩):=hf _ (m_ 5 rfl);have f6:(xs 6)=.slice A l c:=hf _ (m_ 6 rfl);have f7:RN Q1 Q1.heap.size (xs 7) (dig (z.natAbs / g)):=hf _ (m_ 7 rfl);have f8:WV Q1 Q1.heap.size (xs 8) (z / (g:Int)):=hf _ (m_ 8 rfl);have f9:(xs 9)=.func (.func 77) #[] #[.pointer (some ⟨w1.heap.size,0,none⟩)]:=hf _ (m_ 9 rfl);have f10:(xs 10)=.pointer (some ⟨w.heap.size,2,none⟩):=hf _ (m_ 10 rfl);have f11:(xs 11)=.slice A' l' c':=hf _ (m_ 11 rfl);have f12:RN Q1 Q1.heap.size (xs 12) (dig (d / g)):=hf _ (m_ 12 rfl);have f13:TV Q1 Q1.heap.size (xs 13) (z / (g:Int)) (d / g):=hf _ (m_ 13 rfl);clear hf hn hd;simp only[FL]
  have B49:=zz hbf;have z49:=B49.out.size;have T0:=zz (L0.out.trans (B49.out.mono L0.out.size));clear hbf;generalize xs 0=x0,xs 1=x1,xs 2=x2,xs 3=x3,xs 4=x4,xs 5=x5,xs 6=x6,xs 7=x7,xs 8=x8,xs 9=x9,xs 10=x10,xs 11=x11,xs 12=x12,xs 13=x13 at *
  obtain rfl:=f0;obtain rfl:=f1;obtain rfl:=f2;obtain rfl:=f3;obtain rfl:=f4;obtain rfl:=f5;obtain rfl:=f6;clear f7;clear f8;obtain rfl:=f9;obtain rfl:=f10;obtain rfl:=f11;clear f12;obtain⟨b2,c2,d2,e2,g2,l1,h2,rfl,ha51,o0,hc51⟩:=f13;have C0:=zz (TV.mk ha51 o0 hc51);clear ha51 o0 hc51;have P1_3_53:=zz (B3.out.trans (B6.out.mono B3.out.size));have P1_4_54:=zz (P1_3_53.out.trans (B49.out.mono P1_3_53.out.size));have d0:=CB.step Lo P1_4_54.out;have D0:=d0.cell 0 rfl;have E0:=d0.cell 1 rfl;have F0:=d0.cell 2 rfl;have R1:=d0.lt;have G0:=d0.frozen 0;have H0:=d0.frozen 1;have I0:=d0.frozen 2;have S1:=d0.lt;refine Early.next (i:=14) (by kernel_rfl) rfl (fun K hK=>?_);go_simp;refine hK _ _ (fun _=>trivial) ?_;clear hK K;(try simp only[Act.put,List.setIfInBounds_toArray,List.set_cons_zero,List.set_cons_succ])
  clear D0 E0 F0 R1 G0 H0 I0 S1;refine Early.done (by kernel_rfl) ?_ _;(try simp only[Exit.then])
  go_wp2;exact TB.fin rfl d0 (by simp[noInt_b,noInt_s]) T0.out (by omega) C0.out rfl
end Go.Proofs.YtngpibfakemmhaaGreatDoor
