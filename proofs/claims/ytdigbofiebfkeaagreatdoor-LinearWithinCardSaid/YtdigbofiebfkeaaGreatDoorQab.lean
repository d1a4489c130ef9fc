/- Texts put together: The small functions of layer 04: one, Read, without, times, plus, Sign (written by gen_qa.py). Layer 04: Sign of a whole, made, reduced (written by gen_qb.py). -/
import Derived.Test.YtdigbofiebfkeaaGreatDoorQa
import Derived.Test.YtdigbofiebfkeaaGreatDoorSize
namespace Go.Proofs.YtdigbofiebfkeaaGreatDoor
open Go Go.RowKit Dig
set_option maxRecDepth 100000
set_option maxHeartbeats 4000000
set_option linter.unusedSimpArgs false
theorem dig1:dig 1=[1]:=dig_one (by omega) (by omega)
theorem RI.one (w:World) (x:Int):RI (w.alloc (.cells #[.int .i64 x] 3)) (w.alloc (.cells #[.int .i64 x] 3)).heap.size (.slice (some ⟨w.heap.size,0,none⟩) 1 1) [x]:=
 (show Own (w.alloc (.cells #[.int .i64 x] 3)) w.heap.size [x] from⟨[],heap_alloc_new w _⟩).ri0 1 1 rfl (Nat.le_refl _) (by omega)
theorem one_any (w:World) :
  Calls Tryz.prog 91 #[] w fun e w'=>Below w.heap.size w w'∧∃ v,e=.returned v∧RN w' w'.heap.size v (dig 1):=by
 have H:=zz (RI.one w 1);have HB:=zz (below_alloc1 (Below.refl w.heap.size w) (.cells #[.int .i64 1] 3));go_enter Tryz.func91,Tryz.ntmps91
 go_wp2;go_ret;exact⟨HB.out,_,rfl,by rw[dig1];exact H.out⟩
theorem without_new (w:World) (va vb:Value) (a b:Nat) (ha:RN w w.heap.size va (dig a)) (hb:RN w w.heap.size vb (dig b)) (a0:b≠0) (hl:(dig a).length≤300000000) :
  Calls Tryz.prog 82 #[va,vb] w fun e w'=>Below w.heap.size w w'∧∃ v,e=.returned v∧RN w' w'.heap.size v (dig (a / b))∧NewC w.heap.size v:=by
 have HA:=zz ha;have HB:=zz hb;obtain⟨A,ca,rfl,-⟩:=ha.cell;obtain⟨B,cb,rfl,-⟩:=hb.cell;have H0:=zz a0;have HL:=zz hl;clear ha hb a0 hl;go_enter Tryz.func82,Tryz.ntmps82
 go_wp2_with fail
 refine(Over_new _ _ _ a b HA.out HB.out H0.out HL.out).mono ?_;rintro e w1 ⟨hb,v,v',rfl,hv,-,hnw⟩;have b0:=zz hb;have HV:=zz hv;have c0:=zz hnw;clear hb hnw;obtain⟨A2,c2,rfl,-⟩:=hv.cell;clear hv;go_wp2;go_ret;exact⟨b0.out,_,rfl,HV.out,c0.out⟩
theorem without_any (w:World) (va vb:Value) (a b:Nat) (ha:RN w w.heap.size va (dig a)) (hb:RN w w.heap.size vb (dig b)) (hb0:b≠0) (hl:(dig a).length≤300000000) :
  Calls Tryz.prog 82 #[va,vb] w fun e w'=>Below w.heap.size w w'∧∃ v,e=.returned v∧RN w' w'.heap.size v (dig (a / b)):=
 (without_new w va vb a b ha hb hb0 hl).mono fun _ _ ⟨hb,v,he,hv,_⟩=>⟨hb,v,he,hv⟩
theorem Read_any (w:World) (n m:Bool) (A A':Option Addr) (l c l' c':Nat) :
  Calls Tryz.prog 42 #[.agg #[.bool n,.slice A l c,.bool m,.slice A' l' c']] w fun e w'=>Below w.heap.size w w'∧e=.returned (.agg #[.bool n,.slice A l c,.slice A' l' c']):=by
 have HB:=zz (below_alloc1 (below_alloc1 (Below.refl w.heap.size w) (.cells #[.bool n,.slice A l c,.bool m,.slice A' l' c'] 33)) (.cells #[.bool n,.slice A l c,.slice A' l' c'] 84));have HC:=zz (show CB ((w.alloc (.cells #[.bool n,.slice A l c,.bool m,.slice A' l' c'] 33)).alloc (.cells #[.bool n,.slice A l c,.slice A' l' c'] 84)) (w.heap.size+1) 84 #[.bool n,.slice A l c,.slice A' l' c'] by have h:=CB.new (w.alloc (.cells #[.bool n,.slice A l c,.bool m,.slice A' l' c'] 33)) 84 #[.bool n,.slice A l c,.slice A' l' c'];simpa using h);go_enter Tryz.func42,Tryz.ntmps42
 go_wp2;exact bodyPost_ret (TB.ret1 rfl _ HC.out rfl) rfl ⟨HB.out,rfl⟩
theorem wsgn_nat {z:Int} {n:Bool} (h:z≠0→n=decide (z<0)) (b:Nat) (h0:z*(b:Int)≠0):n=decide (z*(b:Int)<0):=by
 have hz:z≠0:=fun e=>h0 (by rw[e,Int.zero_mul])
 have hb:b≠0:=fun e=>h0 (by rw[e];simp)
 rw[h hz];have a0:(0:Int)<(b:Int):=by omega
 rcases Int.lt_or_gt_of_ne hz with h1 | h1
 ·rw[decide_eq_true h1,decide_eq_true (Int.mul_neg_of_neg_of_pos h1 a0)]
 ·have:=Int.mul_pos h1 a0;rw[decide_eq_false (by omega),decide_eq_false (by omega)]
theorem wtimes_any (w:World) (va vb:Value) (z:Int) (b:Nat) (ha:WV w w.heap.size va z) (hb:RN w w.heap.size vb (dig b)) (hl:(dig z.natAbs).length≤300000000) (hl':(dig b).length≤300000000) :
  Calls Tryz.prog 83 #[va,vb] w fun e w'=>Below w.heap.size w w'∧∃ v,e=.returned v∧WV w' w'.heap.size v (z*b):=by
 obtain⟨n,A,l,c,rfl,Ha,hn⟩:=ha;obtain⟨B,cb,rfl,-⟩:=hb.cell;have HN:=zz hn;have HL:=zz hl;have HL':=zz hl';clear hn hl hl';obtain⟨w0,hw0⟩:∃ w0:World,w0=((w.alloc (.cells #[.bool n,.slice A l c] 82)).alloc (.cells #[.bool false,.slice none 0 0] 82)):=⟨_,rfl⟩;have B0:=zz (n2_b hw0);have z0:=n2_z hw0;have La:=n2_0 hw0;have Lo:=n2_1 hw0;replace Ha:=zz (RN.stepN Ha B0.out);replace hb:=zz (RN.stepN hb B0.out);go_enter Tryz.func83,Tryz.ntmps83
 go_upto_region 1 with (fail)
 rw[← hw0];clear hw0;refine Sweep.r0 [se 0 5 [] (.pointer (some ⟨w.heap.size,0,none⟩)),se 1 6 [0] (.bool n),se 2 7 [] (.pointer (some ⟨w.heap.size,1,none⟩)),se 3 8 [2] (.slice A l c),se 4 9 [] (.slice B (dig b).length cb),sf 5 10 [3,4] (fun fv fw=>RN fw fw.heap.size fv (dig (z.natAbs*b))),sf 6 11 [5,1] (fun fv fw=>WV fw fw.heap.size fv (z*(b:Int)))] 1 (SB La S0) (MA (fun _ _ _ h hb=>h.step hb) (MA (fun _ _ _ h hb=>h.step hb) trivial)) ?_ ?_
 ·intro xs a_ hA;simp only[SX] at hA
  iterate 7 (refine ac ?_ ?_;rotate_left)
  exact all_nil
  all_goals (intro wk hb;simp only[SX,↓reduceIte,Nat.reduceEqDiff,Nat.reduceAdd];have b_:=zz hb;have z_:=hb.size;clear hb;subst hA)
  any_goals (intros;refine wpOp_step rfl ?_;intro K hK;go_simp;refine hK _ _ ⟨_,?_,Below.refl _ _,rfl⟩;simp only[*,FL] <;> kernel_rfl)
  ·intro f3 f4;intros;refine wpOp_step (o:=_) rfl (fun K hK=>?_);go_simp;have e0:=zz (RN.step Ha.out b_.out);have f0:=zz (RN.step hb.out b_.out);(with_reducible refine(Times_any _ _ _ z.natAbs b e0.out f0.out (by have:=HL.out;omega) (by have:=HL'.out;omega)).mono ?_)
   rintro e wc3 ⟨j0,v3,rfl,k0⟩;refine hK _ _ ⟨v3,by simp only[FL,f3,f4],j0,k0⟩
  ·intro f5 f1;intros;refine wpOp_step (o:=_) rfl (fun K hK=>?_);obtain⟨A5,c5,hx5,-⟩:=RN.cell f5;have r5:=f5;rw[hx5] at r5 ⊢;go_simp;refine hK _ _ ⟨.agg #[.bool n,.slice A5 (dig (z.natAbs*b)).length c5],by simp only[FL,f1,hx5],Below.refl _ _,WV.mk (by rw[Int.natAbs_mul,Int.natAbs_natCast];exact r5) (wsgn_nat HN.out b)⟩
 ·intro xs q0 hbf;simp only[SY];have B5:=zz hbf;have z5:=B5.out.size;have l0:=tr B0 B5;clear hbf;generalize xs 5=x5,xs 6=x6;rintro f5 f6;clear f5;obtain⟨s0,t0,u0,v0,rfl,ha7,d0⟩:=f6;have g0:=zz (WV.mk ha7 d0);clear ha7 d0;have a0:=CB.step Lo B5.out;have h0:=a0.cell 0 rfl;have i0:=a0.cell 1 rfl;have n0:=a0.lt;have b0:=a0.frozen 0;have c0:=a0.frozen 1;have m0:=a0.lt;refine EN 7 rfl fun K hK=>?_;go_simp;refine hK _ _ ?_;clear hK K;(try simp only[PT])
  clear h0 i0 n0 b0 c0 m0;refine ED ?_;(try simp only[Exit.then])
  go_wp2;exact WB.fin rfl a0 (by simp[noInt_b,noInt_s]) l0.out (by omega) g0.out rfl
theorem wsgn_cases {z:Int} {n:Bool} (h:z≠0→n=decide (z<0)):z=0∨(n=true∧z<0)∨(n=false∧0<z):=by
 by_cases h0:z=0
 ·exact .inl h0
 ·have h1:=h h0;by_cases h2:z<0
  ·rw[decide_eq_true h2] at h1;exact .inr (.inl ⟨h1,h2⟩)
  ·rw[decide_eq_false h2] at h1;exact .inr (.inr ⟨h1,by omega⟩)
theorem wsgn_mk {z:Int} {n:Bool} (h:z=0∨(n=true∧z<0)∨(n=false∧0<z)) (h0:z≠0):n=decide (z<0):=by
 rcases h with h | ⟨rfl,h⟩ | ⟨rfl,h⟩
 ·exact absurd h h0
 ·rw[decide_eq_true h]
 ·rw[decide_eq_false (by omega)]
theorem wplus_same {x y:Int} {n:Bool} (hx:x≠0→n=decide (x<0)) (hy:y≠0→n=decide (y<0)):(x+y).natAbs=x.natAbs+y.natAbs∧(x+y≠0→n=decide (x+y<0)):=by
 rcases wsgn_cases hx with h | ⟨h,h1⟩ | ⟨h,h1⟩ <;> rcases wsgn_cases hy with k | ⟨k,k1⟩ | ⟨k,k1⟩ <;> (first | (rw[h] at k;cases k;done) | (refine⟨by omega,wsgn_mk ?_⟩;(by_cases h0:x+y=0);exact .inl h0;first | (exfalso;omega) | (refine .inr (.inl ⟨by assumption,by omega⟩);done) | (refine .inr (.inr ⟨by assumption,by omega⟩);done)))
theorem wplus_less {x y:Int} {n m:Bool} (hx:x≠0→n=decide (x<0)) (hy:y≠0→m=decide (y<0)) (hn:n≠m) (hlt:x.natAbs<y.natAbs):(x+y).natAbs=y.natAbs-x.natAbs∧(x+y≠0→m=decide (x+y<0)):=by
 rcases wsgn_cases hx with h | ⟨h,h1⟩ | ⟨h,h1⟩ <;> rcases wsgn_cases hy with k | ⟨k,k1⟩ | ⟨k,k1⟩ <;> (first | (exact absurd (h.trans k.symm) hn) | (exfalso;omega) | (refine⟨by omega,wsgn_mk ?_⟩;(by_cases h0:x+y=0);exact .inl h0;first | (exfalso;omega) | (refine .inr (.inl ⟨by assumption,by omega⟩);done) | (refine .inr (.inr ⟨by assumption,by omega⟩);done)))
theorem wplus_more {x y:Int} {n m:Bool} (hx:x≠0→n=decide (x<0)) (hy:y≠0→m=decide (y<0)) (hn:n≠m) (hlt:¬ x.natAbs<y.natAbs):(x+y).natAbs=x.natAbs-y.natAbs∧(x+y≠0→n=decide (x+y<0)):=by
 rcases wsgn_cases hx with h | ⟨h,h1⟩ | ⟨h,h1⟩ <;> rcases wsgn_cases hy with k | ⟨k,k1⟩ | ⟨k,k1⟩ <;> (first | (exact absurd (h.trans k.symm) hn) | (exfalso;omega) | (refine⟨by omega,wsgn_mk ?_⟩;(by_cases h0:x+y=0);exact .inl h0;first | (exfalso;omega) | (refine .inr (.inl ⟨by assumption,by omega⟩);done) | (refine .inr (.inr ⟨by assumption,by omega⟩);done)))
theorem wplus_any (w:World) (va vb:Value) (x y:Int) (ha:WV w w.heap.size va x) (hb:WV w w.heap.size vb y) (hl:(dig x.natAbs).length≤300000000) (hl':(dig y.natAbs).length≤300000000) :
  Calls Tryz.prog 84 #[va,vb] w fun e w'=>Below w.heap.size w w'∧∃ v,e=.returned v∧WV w' w'.heap.size v (x+y):=by
 obtain⟨n,A,l,c,rfl,Ha,hx⟩:=ha;obtain⟨m,B,k,d,rfl,Hb,hy⟩:=hb;have HL:=zz hl;have HL':=zz hl';clear hl hl';obtain⟨w0,hw0⟩:∃ w0:World,w0=(((w.alloc (.cells #[.bool n,.slice A l c] 82)).alloc (.cells #[.bool m,.slice B k d] 82)).alloc (.cells #[.bool false,.slice none 0 0] 82)):=⟨_,rfl⟩;have B0:=zz (n3_b hw0);have z0:=n3_z hw0;have La:=n3_0 hw0;have Lb:=n3_1 hw0;have Lo:=n3_2 hw0;replace Ha:=zz (RN.stepN Ha B0.out);replace Hb:=zz (RN.stepN Hb B0.out);by_cases hnm:n=m
 ·subst hnm;have HF:=zz (wplus_same hx hy);clear hx hy;go_enter Tryz.func84,Tryz.ntmps84
  go_upto_region 1 with (fail)
  rw[← hw0];clear hw0;have M0:=La.cell 0 rfl;have N0:=La.cell 1 rfl;have o1:=La.lt;have O0:=Lb.cell 0 rfl;have P0:=Lb.cell 1 rfl;have p1:=Lb.lt;go_upto_region 2 with (fail)
  clear M0 N0 o1 O0 P0 p1;refine Sweep.r0 [se 0 11 [] (.pointer (some ⟨w.heap.size,0,none⟩)),se 1 12 [0] (.bool n),se 2 13 [] (.pointer (some ⟨w.heap.size,1,none⟩)),se 3 14 [2] (.slice A l c),se 4 15 [] (.pointer (some ⟨w.heap.size+1,1,none⟩)),se 5 16 [4] (.slice B k d),sf 6 17 [3,5] (fun fv fw=>RN fw fw.heap.size fv (dig (x.natAbs+y.natAbs))),sf 7 18 [6,1] (fun fv fw=>WV fw fw.heap.size fv (x+y))] 1 (SB La (SB Lb S0)) (MA (fun _ _ _ h hb=>h.step hb) (MA (fun _ _ _ h hb=>h.step hb) trivial)) ?_ ?_
  ·intro xs a_ hA;simp only[SX] at hA
   iterate 8 (refine ac ?_ ?_;rotate_left)
   exact all_nil
   all_goals (intro wk hb;simp only[SX,↓reduceIte,Nat.reduceEqDiff,Nat.reduceAdd];have b_:=zz hb;have z_:=hb.size;clear hb;subst hA)
   any_goals (intros;refine wpOp_step rfl ?_;intro K hK;go_simp;refine hK _ _ ⟨_,?_,Below.refl _ _,rfl⟩;simp only[*,FL] <;> kernel_rfl)
   ·intro f3 f5;intros;refine wpOp_step (o:=_) rfl (fun K hK=>?_);go_simp;have Q0:=zz (RN.step Ha.out b_.out);have R0:=zz (RN.step Hb.out b_.out);(with_reducible refine(Plus_any _ _ _ x.natAbs y.natAbs Q0.out R0.out (by have:=HL.out;omega) (by have:=HL'.out;omega)).mono ?_)
    rintro e wc5 ⟨a1,v5,rfl,b1⟩;refine hK _ _ ⟨v5,by simp only[FL,f3,f5],a1,b1⟩
   ·intro f6 f1;intros;refine wpOp_step (o:=_) rfl (fun K hK=>?_);obtain⟨A6,c6,hx6,-⟩:=RN.cell f6;have r6:=f6;rw[hx6] at r6 ⊢;go_simp;refine hK _ _ ⟨.agg #[.bool n,.slice A6 (dig (x.natAbs+y.natAbs)).length c6],by simp only[FL,f1,hx6],Below.refl _ _,WV.mk (by rw[HF.out.1];exact r6) HF.out.2⟩
  ·intro xs B1 hbf;simp only[SY];have B7:=zz hbf;have z7:=B7.out.size;have c1:=tr B0 B7;clear hbf;generalize xs 6=x6,xs 7=x7;rintro f6 f7;clear f6;obtain⟨C1,D1,E1,F1,rfl,ha9,L0⟩:=f7;have T0:=zz (WV.mk ha9 L0);clear ha9 L0;have a0:=CB.step Lo B7.out;have h0:=a0.cell 0 rfl;have i0:=a0.cell 1 rfl;have e1:=a0.lt;have j0:=a0.frozen 0;have k0:=a0.frozen 1;have g1:=a0.lt;refine EN 8 rfl fun K hK=>?_;go_simp;refine hK _ _ ?_;clear hK K;(try simp only[PT])
   clear h0 i0 e1 j0 k0 g1;refine ED ?_;(try simp only[Exit.then])
   go_wp2;exact WB.fin rfl a0 (by simp[noInt_b,noInt_s]) c1.out (by omega) T0.out rfl
 ·have hbq:(n==m)=false:=by simpa using hnm
  go_enter Tryz.func84,Tryz.ntmps84
  go_upto_region 1 with (fail)
  rw[← hw0];clear hw0;have l0:=La.cell 0 rfl;have m0:=La.cell 1 rfl;have h1:=La.lt;have n0:=Lb.cell 0 rfl;have o0:=Lb.cell 1 rfl;have i1:=Lb.lt;go_wp2_with fail
  refine(Cmp_any _ _ _ x.natAbs y.natAbs Ha.out Hb.out).mono ?_;rintro e w15 ⟨d0,e,rfl,he⟩;have B16:=zz d0;have z16:=B16.out.size;have e0:=tr B0 B16;clear d0;clear l0 m0 h1 n0 o0 i1;clear hbq;by_cases hlt:x.natAbs<y.natAbs
  ·have he0:e<0:=by have:=he;unfold SignOf at this;omega
   have HF:=zz (wplus_less hx hy hnm hlt);have j1:=zz hlt;clear hx hy he hlt hnm;go_upto_region 4 with (fail)
   clear he0;have p0:=CB.step Lb B16.out;have q0:=CB.step La B16.out;refine Sweep.r0 [se 0 26 [] (.pointer (some ⟨w.heap.size+1,0,none⟩)),se 1 27 [0] (.bool m),se 2 28 [] (.pointer (some ⟨w.heap.size+1,1,none⟩)),se 3 29 [2] (.slice B k d),se 4 30 [] (.pointer (some ⟨w.heap.size,1,none⟩)),se 5 31 [4] (.slice A l c),sf 6 32 [3,5] (fun fv fw=>RN fw fw.heap.size fv (dig (y.natAbs-x.natAbs))),sf 7 33 [6,1] (fun fv fw=>WV fw fw.heap.size fv (x+y))] 1 (SB p0 (SB q0 S0)) (MA (fun _ _ _ h hb=>h.step hb) (MA (fun _ _ _ h hb=>h.step hb) trivial)) ?_ ?_
   ·intro xs a_ hA;simp only[SX] at hA
    iterate 8 (refine ac ?_ ?_;rotate_left)
    exact all_nil
    all_goals (intro wk hb;simp only[SX,↓reduceIte,Nat.reduceEqDiff,Nat.reduceAdd];have b_:=zz hb;have z_:=hb.size;clear hb;subst hA)
    any_goals (intros;refine wpOp_step rfl ?_;intro K hK;go_simp;refine hK _ _ ⟨_,?_,Below.refl _ _,rfl⟩;simp only[*,FL] <;> kernel_rfl)
    ·intro f3 f5;intros;refine wpOp_step (o:=_) rfl (fun K hK=>?_);go_simp;have P1_3_20:=tr B16 b_;have s0:=zz (RN.step Hb.out P1_3_20.out);have t0:=zz (RN.step Ha.out P1_3_20.out);(with_reducible refine(Minus_any _ _ _ y.natAbs x.natAbs s0.out t0.out (by have:=HL'.out;omega) (by have:=j1.out;omega)).mono ?_)
     rintro e wc23 ⟨U0,v23,rfl,V0⟩;refine hK _ _ ⟨v23,by simp only[FL,f3,f5],U0,V0⟩
    ·intro f6 f1;intros;refine wpOp_step (o:=_) rfl (fun K hK=>?_);obtain⟨A6,c6,hx6,-⟩:=RN.cell f6;have r6:=f6;rw[hx6] at r6 ⊢;go_simp;refine hK _ _ ⟨.agg #[.bool m,.slice A6 (dig (y.natAbs-x.natAbs)).length c6],by simp only[FL,f1,hx6],Below.refl _ _,WV.mk (by rw[HF.out.1];exact r6) HF.out.2⟩
   ·intro xs r1 hbf;simp only[SY];have B25:=zz hbf;have z25:=B25.out.size;have W0:=tr e0 B25;clear hbf;generalize xs 6=x6,xs 7=x7;rintro f6 f7;clear f6;obtain⟨s1,t1,u1,v1,rfl,ha27,f0⟩:=f7;have u0:=zz (WV.mk ha27 f0);clear ha27 f0;have P1_3_29:=tr B16 B25;have b0:=CB.step Lo P1_3_29.out;have v0:=b0.cell 0 rfl;have x0:=b0.cell 1 rfl;have k1:=b0.lt;have y0:=b0.frozen 0;have A0:=b0.frozen 1;have l1:=b0.lt;refine EN 8 rfl fun K hK=>?_;go_simp;refine hK _ _ ?_;clear hK K;(try simp only[PT])
    clear v0 x0 k1 y0 A0 l1;refine ED ?_;(try simp only[Exit.then])
    go_wp2;exact WB.fin rfl b0 (by simp[noInt_b,noInt_s]) W0.out (by omega) u0.out rfl
  ·have he0:¬ e<0:=by have:=he;unfold SignOf at this;omega
   have HF:=zz (wplus_more hx hy hnm hlt);have j1:=zz hlt;clear hx hy he hlt hnm;go_upto_region 5 with (fail)
   clear he0;have C0:=CB.step La B16.out;have D0:=CB.step Lb B16.out;refine Sweep.r0 [se 0 34 [] (.pointer (some ⟨w.heap.size,0,none⟩)),se 1 35 [0] (.bool n),se 2 36 [] (.pointer (some ⟨w.heap.size,1,none⟩)),se 3 37 [2] (.slice A l c),se 4 38 [] (.pointer (some ⟨w.heap.size+1,1,none⟩)),se 5 39 [4] (.slice B k d),sf 6 40 [3,5] (fun fv fw=>RN fw fw.heap.size fv (dig (x.natAbs-y.natAbs))),sf 7 41 [6,1] (fun fv fw=>WV fw fw.heap.size fv (x+y))] 1 (SB C0 (SB D0 S0)) (MA (fun _ _ _ h hb=>h.step hb) (MA (fun _ _ _ h hb=>h.step hb) trivial)) ?_ ?_
   ·intro xs a_ hA;simp only[SX] at hA
    iterate 8 (refine ac ?_ ?_;rotate_left)
    exact all_nil
    all_goals (intro wk hb;simp only[SX,↓reduceIte,Nat.reduceEqDiff,Nat.reduceAdd];have b_:=zz hb;have z_:=hb.size;clear hb;subst hA)
    any_goals (intros;refine wpOp_step rfl ?_;intro K hK;go_simp;refine hK _ _ ⟨_,?_,Below.refl _ _,rfl⟩;simp only[*,FL] <;> kernel_rfl)
    ·intro f3 f5;intros;refine wpOp_step (o:=_) rfl (fun K hK=>?_);go_simp;have P1_3_34:=tr B16 b_;have E0:=zz (RN.step Ha.out P1_3_34.out);have F0:=zz (RN.step Hb.out P1_3_34.out);(with_reducible refine(Minus_any _ _ _ x.natAbs y.natAbs E0.out F0.out (by have:=HL.out;omega) (by have:=j1.out;omega)).mono ?_)
     rintro e wc37 ⟨X0,v37,rfl,Y0⟩;refine hK _ _ ⟨v37,by simp only[FL,f3,f5],X0,Y0⟩
    ·intro f6 f1;intros;refine wpOp_step (o:=_) rfl (fun K hK=>?_);obtain⟨A6,c6,hx6,-⟩:=RN.cell f6;have r6:=f6;rw[hx6] at r6 ⊢;go_simp;refine hK _ _ ⟨.agg #[.bool n,.slice A6 (dig (x.natAbs-y.natAbs)).length c6],by simp only[FL,f1,hx6],Below.refl _ _,WV.mk (by rw[HF.out.1];exact r6) HF.out.2⟩
   ·intro xs w1 hbf;simp only[SY];have B39:=zz hbf;have z39:=B39.out.size;have Z0:=tr e0 B39;clear hbf;generalize xs 6=x6,xs 7=x7;rintro f6 f7;clear f6;obtain⟨x1,y1,z1,A1,rfl,ha41,g0⟩:=f7;have G0:=zz (WV.mk ha41 g0);clear ha41 g0;have P1_3_43:=tr B16 B39;have c0:=CB.step Lo P1_3_43.out;have H0:=c0.cell 0 rfl;have I0:=c0.cell 1 rfl;have m1:=c0.lt;have J0:=c0.frozen 0;have K0:=c0.frozen 1;have n1:=c0.lt;refine EN 8 rfl fun K hK=>?_;go_simp;refine hK _ _ ?_;clear hK K;(try simp only[PT])
    clear H0 I0 m1 J0 K0 n1;refine ED ?_;(try simp only[Exit.then])
    go_wp2;exact WB.fin rfl c0 (by simp[noInt_b,noInt_s]) Z0.out (by omega) G0.out rfl
theorem dig_nil {z:Nat}:(dig z).length=0↔z=0:=by
 constructor
 ·intro h;refine Nat.eq_zero_of_not_pos fun hp=>?_
  have:=dig_len_pos (n:=z) (by omega)
  omega
 ·rintro rfl;rw[dig_zero];rfl
theorem wSign_any (w:World) (v:Value) (z:Int) (h:WV w w.heap.size v z) :
  Calls Tryz.prog 76 #[v] w fun e w'=>Below w.heap.size w w'∧e=.returned (.int .i64 z.sign):=by
 obtain⟨n,A,l,c,rfl,h1,hn⟩:=h;have hl:=RN.len h1;have HB:=zz (below_alloc1 (Below.refl w.heap.size w) (.cells #[.bool n,.slice A l c] 82));by_cases hz:z=0
 ·have hl0:l=0:=by rw[hl,hz,show(0:Int).natAbs=0 from rfl,dig_zero];rfl
  subst hl0;subst hz;clear h1 hl hn;go_enter Tryz.func76,Tryz.ntmps76
  go_wp2;go_ret;exact⟨HB.out,rfl⟩
 ·have hl0:((l:Int)==0)=false:=by rw[beq_eq_false_iff_ne,hl];have:=dig_len_pos (n:=z.natAbs) (by omega);omega
  have hn1:=hn hz;clear h1 hl hn;by_cases hlt:z<0
  ·rw[decide_eq_true hlt] at hn1;subst hn1;have HS:=zz (show z.sign=-1 from Int.sign_eq_neg_one_of_neg hlt);clear hz hlt;go_enter Tryz.func76,Tryz.ntmps76
   go_wp2;go_ret;exact⟨HB.out,by rw[HS.out];rfl⟩
  ·rw[decide_eq_false hlt] at hn1;subst hn1;have HS:=zz (show z.sign=1 from Int.sign_eq_one_of_pos (by omega));clear hz hlt;go_enter Tryz.func76,Tryz.ntmps76
   go_wp2;go_ret;exact⟨HB.out,by rw[HS.out];rfl⟩
theorem lessR_any (w:World) (b:Nat) (va vg:Value) (a g:Nat) (ho:One w b 80 vg) (ha:RN w w.heap.size va (dig a)) (hg:RN w w.heap.size vg (dig g)) (hg0:g≠0) (hl:(dig a).length≤300000000) :
  Calls Tryz.prog 108 #[va,.pointer (some ⟨b,0,none⟩)] w fun e w'=>Below w.heap.size w w'∧∃ v,e=.returned v∧RN w' w'.heap.size v (dig (a / g)):=by
 have HA:=zz ha;have HG:=zz hg;have H0:=zz hg0;have HL:=zz hl;obtain⟨A,ca,rfl,-⟩:=ha.cell;obtain⟨B,cb,rfl,-⟩:=hg.cell;have q0:=ho.cell;clear ha hg hg0 hl ho;go_enter Tryz.func108,Tryz.ntmps108
 go_wp2_with fail
 refine(without_any _ _ _ a g HA.out HG.out H0.out HL.out).mono ?_;rintro e w1 ⟨hb,v,rfl,hv⟩;have a0:=zz hb;have HV:=zz hv;clear hb;obtain⟨A2,c2,rfl,-⟩:=hv.cell;clear hv;go_wp2;go_ret;exact⟨a0.out,_,rfl,HV.out⟩
theorem wred {z:Int} {n:Bool} {g:Nat} (h:z≠0→n=decide (z<0)) (hg:(g:Int)∣z) (h0:g≠0):(z / (g:Int)).natAbs=z.natAbs / g∧(z / (g:Int)≠0→n=decide (z / (g:Int)<0)):=by
 refine⟨natAbs_ediv_nat hg,fun hz=>?_⟩;obtain⟨k,rfl⟩:=hg;rw[Int.mul_ediv_cancel_left _ (by omega)] at hz ⊢;rw[h (Int.mul_ne_zero (by omega) hz)];rcases Int.lt_or_gt_of_ne hz with h1 | h1
 ·rw[decide_eq_true h1,decide_eq_true (Int.mul_neg_of_pos_of_neg (by omega) h1)]
 ·have:=Int.mul_pos (show(0:Int)<(g:Int) by omega) h1;rw[decide_eq_false (by omega),decide_eq_false (by omega)]
theorem madeQ_yes (w:World) (n m:Bool) (A A':Option Addr) (l c l' c':Nat) :
  Calls Tryz.prog 93 #[.agg #[.bool n,.slice A l c,.bool m,.slice A' l' c'],.int .i64 0] w fun e w'=>Below w.heap.size w w'∧e=.returned (.tuple #[.agg #[.bool n,.slice A l c,.bool m,.slice A' l' c'],.int .i64 0]):=by
 have HB:=zz (below_alloc1 (below_alloc1 (Below.refl w.heap.size w) (.cells #[.bool n,.slice A l c,.bool m,.slice A' l' c'] 33)) (.cells #[.bool n,.slice A l c,.bool m,.slice A' l' c'] 33));have HC:=zz (show CB ((w.alloc (.cells #[.bool n,.slice A l c,.bool m,.slice A' l' c'] 33)).alloc (.cells #[.bool n,.slice A l c,.bool m,.slice A' l' c'] 33)) (w.heap.size+1) 33 #[.bool n,.slice A l c,.bool m,.slice A' l' c'] by have h:=CB.new (w.alloc (.cells #[.bool n,.slice A l c,.bool m,.slice A' l' c'] 33)) 33 #[.bool n,.slice A l c,.bool m,.slice A' l' c'];simpa using h);go_enter Tryz.func93,Tryz.ntmps93
 go_wp2;exact bodyPost_ret (QB.ret rfl _ HC.out rfl) rfl ⟨HB.out,rfl⟩
theorem madeQ_no (w:World) (n m:Bool) (A A':Option Addr) (l c l' c':Nat) (e:Int) (he:e≠0) :
  Calls Tryz.prog 93 #[.agg #[.bool n,.slice A l c,.bool m,.slice A' l' c'],.int .i64 e] w fun r w'=>Below w.heap.size w w'∧r=.returned (.tuple #[.agg #[.bool false,.slice none 0 0,.bool false,.slice none 0 0],.int .i64 e]):=by
 have HB:=zz (below_alloc1 (below_alloc1 (below_alloc1 (Below.refl w.heap.size w) (.cells #[.bool n,.slice A l c,.bool m,.slice A' l' c'] 33)) (.cells #[.bool false,.slice none 0 0,.bool false,.slice none 0 0] 33)) (.cells #[.bool false,.slice none 0 0,.bool false,.slice none 0 0] 33));have HC:=zz (show CB (((w.alloc (.cells #[.bool n,.slice A l c,.bool m,.slice A' l' c'] 33)).alloc (.cells #[.bool false,.slice none 0 0,.bool false,.slice none 0 0] 33)).alloc (.cells #[.bool false,.slice none 0 0,.bool false,.slice none 0 0] 33)) (w.heap.size+1) 33 #[.bool false,.slice none 0 0,.bool false,.slice none 0 0] by have h:=(CB.new (w.alloc (.cells #[.bool n,.slice A l c,.bool m,.slice A' l' c'] 33)) 33 #[.bool false,.slice none 0 0,.bool false,.slice none 0 0]).alloc (.cells #[.bool false,.slice none 0 0,.bool false,.slice none 0 0] 33);simpa using h);have he0:(e==0)=false:=by rw[beq_eq_false_iff_ne];exact he
 clear he;go_enter Tryz.func93,Tryz.ntmps93
 go_wp2;exact bodyPost_ret (QB.ret rfl _ HC.out rfl) rfl ⟨HB.out,rfl⟩
theorem reduced_any (w:World) (v:Value) (z:Int) (d:Nat) (h:TV w w.heap.size v z d) (hd:d≠0) (hl:(dig z.natAbs).length≤300000000) (hl':(dig d).length≤300000000) :
  Calls Tryz.prog 86 #[v] w fun e w'=>Below w.heap.size w w'∧∃ v,e=.returned v∧TV w' w'.heap.size v (z / (Nat.gcd z.natAbs d:Int)) (d / Nat.gcd z.natAbs d):=by
 obtain⟨n,A,l,c,A',l',c',rfl,Ha,Hd,hn⟩:=h;obtain⟨g,hg⟩:∃ g,g=Nat.gcd z.natAbs d:=⟨_,rfl⟩;rw[← hg];have hg0:g≠0:=by rw[hg];exact Nat.gcd_ne_zero_right hd
 have HF:=zz (show(z / (g:Int)).natAbs=z.natAbs / g∧(z / (g:Int)≠0→n=decide (z / (g:Int)<0)) from wred hn (by rw[hg];exact Int.ofNat_dvd_left.2 (Nat.gcd_dvd_left _ _)) hg0);have HG:=zz hg;have L0:=zz hg0;have HL:=zz hl;have HL':=zz hl';clear hn hd hl hl' hg hg0;obtain⟨w0,hw0⟩:∃ w0:World,w0=((w.alloc (.cells #[.bool n,.slice A l c,.slice A' l' c'] 84)).alloc (.cells #[.bool false,.slice none 0 0,.slice none 0 0] 84)):=⟨_,rfl⟩;have B0:=zz (n2_b hw0);have z0:=n2_z hw0;have La:=n2_0 hw0;have Lo:=n2_1 hw0;replace Ha:=zz (RN.stepN Ha B0.out);replace Hd:=zz (RN.stepN Hd B0.out);go_enter Tryz.func86,Tryz.ntmps86
 go_upto_region 1 with (fail)
 rw[← hw0];clear hw0;have t0:=La.cell 0 rfl;have u0:=La.cell 1 rfl;have v0:=La.cell 2 rfl;have K0:=La.lt;go_wp2_with fail
 refine(Common_any _ _ _ z.natAbs d Ha.out Hd.out (by have:=HL.out;omega) (by have:=HL'.out;omega)).mono ?_;rintro e w1 ⟨s0,vg,rfl,hg⟩;have B3:=zz s0;have z3:=B3.out.size;have F0:=tr B0 B3;clear s0;clear t0 u0 v0 K0;rw[← HG.out] at hg;obtain⟨G,cg,rfl,-⟩:=hg.cell;have Hg:=zz hg;clear hg;go_upto_region 2 with (fail)
 obtain⟨w5,b0⟩:∃ w5:World,w5=(w1.alloc (.cells #[.slice G (dig g).length cg] 80)):=⟨_,rfl⟩;rw[← b0];have c0:=n1_0 b0;have za5:=n1_z b0;have B6:=zz (n1_b b0);have z6:=B6.out.size;have G0:=tr F0 B6;clear b0;go_upto_region 3 with (fail)
 have P1_3_9:=tr B3 B6;have x0:=CB.step La P1_3_9.out;refine Sweep.r0 [se 0 12 [] (.pointer (some ⟨w.heap.size,0,none⟩)),se 1 13 [0] (.pointer (some ⟨w.heap.size,0,none⟩)),se 2 14 [1] (.bool n),se 3 15 [] (.func (.func 108) #[] #[.pointer (some ⟨w1.heap.size,0,none⟩)]),se 4 16 [] (.pointer (some ⟨w.heap.size,0,none⟩)),se 5 17 [4] (.pointer (some ⟨w.heap.size,1,none⟩)),se 6 18 [5] (.slice A l c),sf 7 19 [3,6] (fun fv fw=>RN fw fw.heap.size fv (dig (z.natAbs / g))),sf 8 20 [7,2] (fun fv fw=>WV fw fw.heap.size fv (z / (g:Int))),se 9 21 [] (.func (.func 108) #[] #[.pointer (some ⟨w1.heap.size,0,none⟩)]),se 10 22 [] (.pointer (some ⟨w.heap.size,2,none⟩)),se 11 23 [10] (.slice A' l' c'),sf 12 24 [9,11] (fun fv fw=>RN fw fw.heap.size fv (dig (d / g))),sf 13 25 [8,12] (fun fv fw=>TV fw fw.heap.size fv (z / (g:Int)) (d / g))] 1 (SB x0 S0) (MA (fun _ _ _ h hb=>h.step hb) (MA (fun _ _ _ h hb=>h.step hb) (MA (fun _ _ _ h hb=>h.step hb) (MA (fun _ _ _ h hb=>h.step hb) trivial)))) ?_ ?_
 ·intro xs a_ hA;simp only[SX] at hA
  iterate 14 (refine ac ?_ ?_;rotate_left)
  exact all_nil
  all_goals (intro wk hb;simp only[SX,↓reduceIte,Nat.reduceEqDiff,Nat.reduceAdd];have b_:=zz hb;have z_:=hb.size;clear hb;subst hA)
  any_goals (intros;refine wpOp_step rfl ?_;intro K hK;go_simp;refine hK _ _ ⟨_,?_,Below.refl _ _,rfl⟩;simp only[*,FL] <;> kernel_rfl)
  ·intro f3 f6;intros;refine wpOp_step (o:=_) rfl (fun K hK=>?_);go_simp;have e0:=One.step c0 b_.out;have P1_4_11:=tr P1_3_9 b_;have f0:=zz (RN.step Ha.out P1_4_11.out);have P2_4_13:=tr B6 b_;have g0:=zz (RN.step Hg.out P2_4_13.out);(with_reducible refine(lessR_any _ _ _ _ z.natAbs g e0 f0.out g0.out L0.out (by have:=HL.out;omega)).mono ?_)
   rintro e wc15 ⟨y0,v15,rfl,A0⟩;refine hK _ _ ⟨v15,by simp only[FL,f3,f6],y0,A0⟩
  ·intro f7 f2;intros;refine wpOp_step (o:=_) rfl (fun K hK=>?_);obtain⟨A7,c7,hx7,-⟩:=RN.cell f7;have r7:=f7;rw[hx7] at r7 ⊢;go_simp;refine hK _ _ ⟨.agg #[.bool n,.slice A7 (dig (z.natAbs / g)).length c7],by simp only[FL,f2,hx7],Below.refl _ _,WV.mk (by rw[HF.out.1];exact r7) HF.out.2⟩
  ·intro f9 f11;intros;refine wpOp_step (o:=_) rfl (fun K hK=>?_);go_simp;have h0:=One.step c0 b_.out;have P1_4_17:=tr P1_3_9 b_;have i0:=zz (RN.step Hd.out P1_4_17.out);have P2_4_19:=tr B6 b_;have j0:=zz (RN.step Hg.out P2_4_19.out);(with_reducible refine(lessR_any _ _ _ _ d g h0 i0.out j0.out L0.out (by have:=HL'.out;omega)).mono ?_)
   rintro e wc21 ⟨C0,v21,rfl,D0⟩;refine hK _ _ ⟨v21,by simp only[FL,f9,f11],C0,D0⟩
  ·intro f8 f12;intros;refine wpOp_step (o:=_) rfl (fun K hK=>?_);obtain⟨nw8,Aw8,lw8,cw8,hw8,gw8,sw8⟩:=f8;obtain⟨A12,c12,hx12,-⟩:=RN.cell f12;have r12:=f12;rw[hx12] at r12 ⊢;rw[hw8];go_simp;refine hK _ _ ⟨.agg #[.bool nw8,.slice Aw8 lw8 cw8,.slice A12 (dig (d / g)).length c12],by simp only[FL,hx12,hw8],Below.refl _ _,TV.mk gw8 r12 sw8⟩
 ·intro xs P0 hbf;simp only[SY];have B23:=zz hbf;have z23:=B23.out.size;have E0:=tr G0 B23;clear hbf;generalize xs 7=x7,xs 8=x8,xs 12=x12,xs 13=x13;rintro f7 f8 f12 f13;clear f7;clear f8;clear f12;obtain⟨Q0,R0,T0,U0,V0,H0,W0,rfl,ha25,d0,hc25⟩:=f13;have k0:=zz (TV.mk ha25 d0 hc25);clear ha25 d0 hc25;have P1_4_27:=tr P1_3_9 B23;have a0:=CB.step Lo P1_4_27.out;have l0:=a0.cell 0 rfl;have m0:=a0.cell 1 rfl;have n0:=a0.cell 2 rfl;have I0:=a0.lt;have o0:=a0.frozen 0;have p0:=a0.frozen 1;have q0:=a0.frozen 2;have J0:=a0.lt;refine EN 14 rfl fun K hK=>?_;go_simp;refine hK _ _ ?_;clear hK K;(try simp only[PT])
  clear l0 m0 n0 I0 o0 p0 q0 J0;refine ED ?_;(try simp only[Exit.then])
  go_wp2;exact TB.fin rfl a0 (by simp[noInt_b,noInt_s]) E0.out (by omega) k0.out rfl
end Go.Proofs.YtdigbofiebfkeaaGreatDoor
