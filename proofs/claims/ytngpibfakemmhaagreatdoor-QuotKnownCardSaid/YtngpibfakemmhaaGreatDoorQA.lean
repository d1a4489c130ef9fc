/- The small functions of layer 04: one, Read, without, times, plus, Sign (written by gen_qa.py). -/
import Derived.Test.YtngpibfakemmhaaGreatDoorQEnd
import Derived.Test.YtngpibfakemmhaaGreatDoorFl
import Derived.Test.YtngpibfakemmhaaGreatDoorSize
namespace Go.Proofs.YtngpibfakemmhaaGreatDoor
open Go Go.RowKit Dig
theorem dig1:dig 1=[1]:=dig_one (by omega) (by omega)
theorem RI.one (w:World) (x:Int):RI (w.alloc (.cells #[.int .i64 x] 3)) (w.alloc (.cells #[.int .i64 x] 3)).heap.size (.slice (some ⟨w.heap.size,0,none⟩) 1 1) [x]:=
 (show Own (w.alloc (.cells #[.int .i64 x] 3)) w.heap.size [x] from⟨[],heap_alloc_new w _⟩).ri0 1 1 rfl (Nat.le_refl _) (by omega)
theorem one_any (w:World) :
  Calls Tryz.prog 39 #[] w fun e w'=>Below w.heap.size w w'∧∃ v,e=.returned v∧RN w' w'.heap.size v (dig 1):=by
 have H:=zz (RI.one w 1);have HB:=zz (below_alloc1 (Below.refl w.heap.size w) (.cells #[.int .i64 1] 3));go_enter Tryz.func39,Tryz.ntmps39
 go_wp2;go_ret;exact⟨HB.out,_,rfl,by rw[dig1];exact H.out⟩
theorem without_any (w:World) (va vb:Value) (a b:Nat) (ha:RN w w.heap.size va (dig a)) (hb:RN w w.heap.size vb (dig b)) (a0:b≠0) (hl:(dig a).length≤100000) :
  Calls Tryz.prog 75 #[va,vb] w fun e w'=>Below w.heap.size w w'∧∃ v,e=.returned v∧RN w' w'.heap.size v (dig (a / b)):=by
 have HA:=zz ha;have HB:=zz hb;obtain⟨A,ca,rfl,-⟩:=ha.cell;obtain⟨B,cb,rfl,-⟩:=hb.cell;have H0:=zz a0;have HL:=zz hl;clear ha hb a0 hl;go_enter Tryz.func75,Tryz.ntmps75
 go_wp2_with fail
 refine(Over_any _ _ _ a b HA.out HB.out H0.out HL.out).mono ?_;rintro e w1 ⟨hb,v,v',rfl,hv,-⟩;have b0:=zz hb;have HV:=zz hv;clear hb;obtain⟨A2,c2,rfl,-⟩:=hv.cell;clear hv;go_wp2;go_ret;exact⟨b0.out,_,rfl,HV.out⟩
set_option maxRecDepth 100000 in
set_option maxHeartbeats 4000000 in
theorem Read_any (w:World) (n m:Bool) (A A':Option Addr) (l c l' c':Nat) :
  Calls Tryz.prog 36 #[.agg #[.bool n,.slice A l c,.bool m,.slice A' l' c']] w fun e w'=>Below w.heap.size w w'∧e=.returned (.agg #[.bool n,.slice A l c,.slice A' l' c']):=by
 have HB:=zz (below_alloc1 (below_alloc1 (Below.refl w.heap.size w) (.cells #[.bool n,.slice A l c,.bool m,.slice A' l' c'] 28)) (.cells #[.bool n,.slice A l c,.slice A' l' c'] 80));have HC:=zz (show CB ((w.alloc (.cells #[.bool n,.slice A l c,.bool m,.slice A' l' c'] 28)).alloc (.cells #[.bool n,.slice A l c,.slice A' l' c'] 80)) (w.heap.size+1) 80 #[.bool n,.slice A l c,.slice A' l' c'] by have h:=CB.new (w.alloc (.cells #[.bool n,.slice A l c,.bool m,.slice A' l' c'] 28)) 80 #[.bool n,.slice A l c,.slice A' l' c'];simpa using h);go_enter Tryz.func36,Tryz.ntmps36
 go_wp2;exact bodyPost_ret (TB.ret1 rfl _ HC.out rfl) rfl ⟨HB.out,rfl⟩
theorem wsgn_nat {z:Int} {n:Bool} (h:z≠0→n=decide (z<0)) (b:Nat) (h0:z*(b:Int)≠0):n=decide (z*(b:Int)<0):=by
 have hz:z≠0:=fun e=>h0 (by rw[e,Int.zero_mul])
 have hb:b≠0:=fun e=>h0 (by rw[e];simp)
 rw[h hz];have a0:(0:Int)<(b:Int):=by omega
 rcases Int.lt_or_gt_of_ne hz with h1 | h1
 ·rw[decide_eq_true h1,decide_eq_true (Int.mul_neg_of_neg_of_pos h1 a0)]
 ·have:=Int.mul_pos h1 a0;rw[decide_eq_false (by omega),decide_eq_false (by omega)]
set_option maxRecDepth 100000 in
set_option maxHeartbeats 4000000 in
theorem wtimes_any (w:World) (va vb:Value) (z:Int) (b:Nat) (ha:WV w w.heap.size va z) (hb:RN w w.heap.size vb (dig b)) (hl:(dig z.natAbs).length≤100000) (hl':(dig b).length≤100000) :
  Calls Tryz.prog 54 #[va,vb] w fun e w'=>Below w.heap.size w w'∧∃ v,e=.returned v∧WV w' w'.heap.size v (z*b):=by
 obtain⟨n,A,l,c,rfl,Ha,hn⟩:=ha;obtain⟨B,cb,rfl,-⟩:=hb.cell;have HN:=zz hn;have HL:=zz hl;have HL':=zz hl';clear hn hl hl';obtain⟨w0,hw0⟩:∃ w0:World,w0=((w.alloc (.cells #[.bool n,.slice A l c] 78)).alloc (.cells #[.bool false,.slice none 0 0] 78)):=⟨_,rfl⟩;have B0:=zz (n2_b hw0);have z0:=n2_z hw0;have La:=n2_0 hw0;have Lo:=n2_1 hw0;replace Ha:=zz (RN.stepN Ha B0.out);replace hb:=zz (RN.stepN hb B0.out);go_enter Tryz.func54,Tryz.ntmps54
 go_upto_region 1 with (fail)
 rw[← hw0];clear hw0;refine Flow.run [⟨0,5,fun fv fw=>fv=.pointer (some ⟨w.heap.size,0,none⟩)⟩,⟨1,6,fun fv fw=>fv=.bool n⟩,⟨2,7,fun fv fw=>fv=.pointer (some ⟨w.heap.size,1,none⟩)⟩,⟨3,8,fun fv fw=>fv=.slice A l c⟩,⟨4,9,fun fv fw=>fv=.slice B (dig b).length cb⟩,⟨5,10,fun fv fw=>RN fw fw.heap.size fv (dig (z.natAbs*b))⟩,⟨6,11,fun fv fw=>WV fw fw.heap.size fv (z*(b:Int))⟩] [] [] 1 (by kernel_rfl) (by kernel_rfl) (by kernel_rfl) (fun _ _ _ _ _ h=>h) ?_ ?_ ?_ ?_
 ·refine(a0 (a0 (a0 (a0 (a0 (all_cons (fun v w1 w2 h hb=>h.step hb) (all_cons (fun v w1 w2 h hb=>h.step hb) all_nil)))))))
 ·refine(all_cons ?_ (all_cons ?_ (all_cons ?_ (all_cons ?_ (all_cons ?_ (all_cons ?_ (all_cons ?_ all_nil)))))))
  ·intro xs L0 b0 c0;clear b0;clear c0;refine wpOp_step (o:=_) rfl (fun K hK=>?_);simp only[FL]
   go_simp;refine hK _ _ ⟨.pointer (some ⟨w.heap.size,0,none⟩),by kernel_rfl,Below.refl _ _,rfl,nF⟩
  ·intro xs N0 b0 c0;have r0:=zz b0;have O0:=b0.size;clear b0;have f0:(xs 0)=.pointer (some ⟨w.heap.size,0,none⟩):=c0 _ (m_ 0 rfl) (by kernel_rfl);clear c0;refine wpOp_step (o:=_) rfl (fun K hK=>?_);simp only[FL]
   have e0:=CB.step La r0.out;have C0:=e0.cell 0 rfl;have D0:=e0.cell 1 rfl;have Y0:=e0.lt;go_simp;refine hK _ _ ⟨.bool n,by simp only[FL,f0],Below.refl _ _,rfl,nF⟩
  ·intro xs P0 b0 c0;clear b0;clear c0;refine wpOp_step (o:=_) rfl (fun K hK=>?_);simp only[FL]
   go_simp;refine hK _ _ ⟨.pointer (some ⟨w.heap.size,1,none⟩),by kernel_rfl,Below.refl _ _,rfl,nF⟩
  ·intro xs R0 b0 c0;have s0:=zz b0;have S0:=b0.size;clear b0;have f2:(xs 2)=.pointer (some ⟨w.heap.size,1,none⟩):=c0 _ (m_ 2 rfl) (by kernel_rfl);clear c0;refine wpOp_step (o:=_) rfl (fun K hK=>?_);simp only[FL]
   have g0:=CB.step La s0.out;have F0:=g0.cell 0 rfl;have G0:=g0.cell 1 rfl;have Z0:=g0.lt;go_simp;refine hK _ _ ⟨.slice A l c,by simp only[FL,f2],Below.refl _ _,rfl,nF⟩
  ·intro xs T0 b0 c0;clear b0;clear c0;refine wpOp_step (o:=_) rfl (fun K hK=>?_);simp only[FL]
   go_simp;refine hK _ _ ⟨.slice B (dig b).length cb,by kernel_rfl,Below.refl _ _,rfl,nF⟩
  ·intro xs I0 b0 c0;have h0:=zz b0;have J0:=b0.size;clear b0;have f3:(xs 3)=.slice A l c:=c0 _ (m_ 3 rfl) (by kernel_rfl);have f4:(xs 4)=.slice B (dig b).length cb:=c0 _ (m_ 4 rfl) (by kernel_rfl);clear c0;refine wpOp_step (o:=_) rfl (fun K hK=>?_);simp only[FL]
   go_simp;have k0:=zz (RN.step Ha.out h0.out);have l0:=zz (RN.step hb.out h0.out);(with_reducible refine(Times_any _ _ _ z.natAbs b k0.out l0.out (by have:=HL.out;omega) (by have:=HL'.out;omega)).mono ?_)
   rintro e wc13 ⟨t0,v13,rfl,u0⟩;refine hK _ _ ⟨v13,by simp only[FL,f3,f4],t0,u0,nF⟩
  ·intro xs i0 b0 c0;clear b0;have f5:RN i0 i0.heap.size (xs 5) (dig (z.natAbs*b)):=c0 _ (m_ 5 rfl) (by kernel_rfl);have f1:(xs 1)=.bool n:=c0 _ (m_ 1 rfl) (by kernel_rfl);clear c0;refine wpOp_step (o:=_) rfl (fun K hK=>?_);simp only[FL]
   obtain⟨A5,c5,hx5,-⟩:=RN.cell f5;have r5:=f5;rw[hx5] at r5 ⊢;go_simp;refine hK _ _ ⟨.agg #[.bool n,.slice A5 (dig (z.natAbs*b)).length c5],by simp only[FL,f1,hx5],Below.refl _ _,WV.mk (by rw[Int.natAbs_mul,Int.natAbs_natCast];exact r5) (wsgn_nat HN.out b),nF⟩
 ·exact all_nil
 ·intro xs V0 hbf hf hn hd;have f0:(xs 0)=.pointer (some ⟨w.heap.size,0,none⟩):=hf _ (m_ 0 rfl);have f1:(xs 1)=.bool n:=hf _ (m_ 1 rfl);have f2:(xs 2)=.pointer (some ⟨w.heap.size,1,none⟩):=hf _ (m_ 2 rfl);have f3:(xs 3)=.slice A l c:=hf _ (m_ 3 rfl);have f4:(xs 4)=.slice B (dig b).length cb:=hf _ (m_ 4 rfl);have f5:RN V0 V0.heap.size (xs 5) (dig (z.natAbs*b)):=hf _ (m_ 5 rfl);have f6:WV V0 V0.heap.size (xs 6) (z*(b:Int)):=hf _ (m_ 6 rfl);clear hf hn hd;simp only[FL]
  have B16:=zz hbf;have z16:=B16.out.size;have v0:=zz (B0.out.trans (B16.out.mono B0.out.size));clear hbf;generalize xs 0=x0,xs 1=x1,xs 2=x2,xs 3=x3,xs 4=x4,xs 5=x5,xs 6=x6 at *
  obtain rfl:=f0;obtain rfl:=f1;obtain rfl:=f2;obtain rfl:=f3;obtain rfl:=f4;clear f5;obtain⟨c1,d1,e1,g1,rfl,ha18,j0⟩:=f6;have m0:=zz (WV.mk ha18 j0);clear ha18 j0;have d0:=CB.step Lo B16.out;have n0:=d0.cell 0 rfl;have o0:=d0.cell 1 rfl;have W0:=d0.lt;have p0:=d0.frozen 0;have q0:=d0.frozen 1;have X0:=d0.lt;refine Early.next (i:=7) (by kernel_rfl) rfl (fun K hK=>?_);go_simp;refine hK _ _ (fun _=>trivial) ?_;clear hK K;(try simp only[Act.put,List.setIfInBounds_toArray,List.set_cons_zero,List.set_cons_succ])
  clear n0 o0 W0 p0 q0 X0;refine Early.done (by kernel_rfl) ?_ _;(try simp only[Exit.then])
  go_wp2;exact WB.fin rfl d0 (by simp[noInt_b,noInt_s]) v0.out (by omega) m0.out rfl
theorem wsgn_cases {z:Int} {n:Bool} (h:z≠0→n=decide (z<0)):z=0∨(n=true∧z<0)∨(n=false∧0<z):=by
 by_cases h0:z=0
 ·exact .inl h0
 ·have h1:=h h0;by_cases h2:z<0
  ·rw[decide_eq_true h2] at h1;exact .inr (.inl ⟨h1,h2⟩)
  ·rw[decide_eq_false h2] at h1;exact .inr (.inr ⟨h1,by omega⟩)
theorem wsgn_mk {z:Int} {n:Bool} (h:z=0∨(n=true∧z<0)∨(n=false∧0<z)) (h0:z≠0):n=decide (z<0):=by
 rcases h with h | ⟨rfl,h⟩ | ⟨rfl,h⟩
 ·exact absurd h h0
 ·rw[decide_eq_true h]
 ·rw[decide_eq_false (by omega)]
theorem wplus_same {x y:Int} {n:Bool} (hx:x≠0→n=decide (x<0)) (hy:y≠0→n=decide (y<0)):(x+y).natAbs=x.natAbs+y.natAbs∧(x+y≠0→n=decide (x+y<0)):=by
 rcases wsgn_cases hx with h | ⟨h,h1⟩ | ⟨h,h1⟩ <;> rcases wsgn_cases hy with k | ⟨k,k1⟩ | ⟨k,k1⟩ <;> (first | (rw[h] at k;cases k;done) | (refine⟨by omega,wsgn_mk ?_⟩;(by_cases h0:x+y=0);exact .inl h0;first | (exfalso;omega) | (refine .inr (.inl ⟨by assumption,by omega⟩);done) | (refine .inr (.inr ⟨by assumption,by omega⟩);done)))
theorem wplus_less {x y:Int} {n m:Bool} (hx:x≠0→n=decide (x<0)) (hy:y≠0→m=decide (y<0)) (hn:n≠m) (hlt:x.natAbs<y.natAbs):(x+y).natAbs=y.natAbs-x.natAbs∧(x+y≠0→m=decide (x+y<0)):=by
 rcases wsgn_cases hx with h | ⟨h,h1⟩ | ⟨h,h1⟩ <;> rcases wsgn_cases hy with k | ⟨k,k1⟩ | ⟨k,k1⟩ <;> (first | (exact absurd (h.trans k.symm) hn) | (exfalso;omega) | (refine⟨by omega,wsgn_mk ?_⟩;(by_cases h0:x+y=0);exact .inl h0;first | (exfalso;omega) | (refine .inr (.inl ⟨by assumption,by omega⟩);done) | (refine .inr (.inr ⟨by assumption,by omega⟩);done)))
theorem wplus_more {x y:Int} {n m:Bool} (hx:x≠0→n=decide (x<0)) (hy:y≠0→m=decide (y<0)) (hn:n≠m) (hlt:¬ x.natAbs<y.natAbs):(x+y).natAbs=x.natAbs-y.natAbs∧(x+y≠0→n=decide (x+y<0)):=by
 rcases wsgn_cases hx with h | ⟨h,h1⟩ | ⟨h,h1⟩ <;> rcases wsgn_cases hy with k | ⟨k,k1⟩ | ⟨k,k1⟩ <;> (first | (exact absurd (h.trans k.symm) hn) | (exfalso;omega) | (refine⟨by omega,wsgn_mk ?_⟩;(by_cases h0:x+y=0);exact .inl h0;first | (exfalso;omega) | (refine .inr (.inl ⟨by assumption,by omega⟩);done) | (refine .inr (.inr ⟨by assumption,by omega⟩);done)))
set_option maxRecDepth 100000 in
set_option maxHeartbeats 4000000 in
theorem wplus_any (w:World) (va vb:Value) (x y:Int) (ha:WV w w.heap.size va x) (hb:WV w w.heap.size vb y) (hl:(dig x.natAbs).length≤100000) (hl':(dig y.natAbs).length≤100000) :
  Calls Tryz.prog 58 #[va,vb] w fun e w'=>Below w.heap.size w w'∧∃ v,e=.returned v∧WV w' w'.heap.size v (x+y):=by
 obtain⟨n,A,l,c,rfl,Ha,hx⟩:=ha;obtain⟨m,B,k,d,rfl,Hb,hy⟩:=hb;have HL:=zz hl;have HL':=zz hl';clear hl hl';obtain⟨w0,hw0⟩:∃ w0:World,w0=(((w.alloc (.cells #[.bool n,.slice A l c] 78)).alloc (.cells #[.bool m,.slice B k d] 78)).alloc (.cells #[.bool false,.slice none 0 0] 78)):=⟨_,rfl⟩;have B0:=zz (n3_b hw0);have z0:=n3_z hw0;have La:=n3_0 hw0;have Lb:=n3_1 hw0;have Lo:=n3_2 hw0;replace Ha:=zz (RN.stepN Ha B0.out);replace Hb:=zz (RN.stepN Hb B0.out);by_cases hnm:n=m
 ·subst hnm;have HF:=zz (wplus_same hx hy);clear hx hy;go_enter Tryz.func58,Tryz.ntmps58
  go_upto_region 1 with (fail)
  rw[← hw0];clear hw0;have m1:=La.cell 0 rfl;have n1:=La.cell 1 rfl;have r3:=La.lt;have o1:=Lb.cell 0 rfl;have p1:=Lb.cell 1 rfl;have s3:=Lb.lt;go_upto_region 2 with (fail)
  clear m1 n1 r3 o1 p1 s3;refine Flow.run [⟨0,11,fun fv fw=>fv=.pointer (some ⟨w.heap.size,0,none⟩)⟩,⟨1,12,fun fv fw=>fv=.bool n⟩,⟨2,13,fun fv fw=>fv=.pointer (some ⟨w.heap.size,1,none⟩)⟩,⟨3,14,fun fv fw=>fv=.slice A l c⟩,⟨4,15,fun fv fw=>fv=.pointer (some ⟨w.heap.size+1,1,none⟩)⟩,⟨5,16,fun fv fw=>fv=.slice B k d⟩,⟨6,17,fun fv fw=>RN fw fw.heap.size fv (dig (x.natAbs+y.natAbs))⟩,⟨7,18,fun fv fw=>WV fw fw.heap.size fv (x+y)⟩] [] [] 1 (by kernel_rfl) (by kernel_rfl) (by kernel_rfl) (fun _ _ _ _ _ h=>h) ?_ ?_ ?_ ?_
  ·refine(a0 (a0 (a0 (a0 (a0 (a0 (all_cons (fun v w1 w2 h hb=>h.step hb) (all_cons (fun v w1 w2 h hb=>h.step hb) all_nil))))))))
  ·refine(all_cons ?_ (all_cons ?_ (all_cons ?_ (all_cons ?_ (all_cons ?_ (all_cons ?_ (all_cons ?_ (all_cons ?_ all_nil))))))))
   ·intro xs V2 b0 c0;clear b0;clear c0;refine wpOp_step (o:=_) rfl (fun K hK=>?_);simp only[FL]
    go_simp;refine hK _ _ ⟨.pointer (some ⟨w.heap.size,0,none⟩),by kernel_rfl,Below.refl _ _,rfl,nF⟩
   ·intro xs X2 b0 c0;have q1:=zz b0;have Y2:=b0.size;clear b0;have f0:(xs 0)=.pointer (some ⟨w.heap.size,0,none⟩):=c0 _ (m_ 0 rfl) (by kernel_rfl);clear c0;refine wpOp_step (o:=_) rfl (fun K hK=>?_);simp only[FL]
    have p0:=CB.step La q1.out;have e2:=p0.cell 0 rfl;have g2:=p0.cell 1 rfl;have D3:=p0.lt;go_simp;refine hK _ _ ⟨.bool n,by simp only[FL,f0],Below.refl _ _,rfl,nF⟩
   ·intro xs Z2 b0 c0;clear b0;clear c0;refine wpOp_step (o:=_) rfl (fun K hK=>?_);simp only[FL]
    go_simp;refine hK _ _ ⟨.pointer (some ⟨w.heap.size,1,none⟩),by kernel_rfl,Below.refl _ _,rfl,nF⟩
   ·intro xs b3 b0 c0;have r1:=zz b0;have c3:=b0.size;clear b0;have f2:(xs 2)=.pointer (some ⟨w.heap.size,1,none⟩):=c0 _ (m_ 2 rfl) (by kernel_rfl);clear c0;refine wpOp_step (o:=_) rfl (fun K hK=>?_);simp only[FL]
    have q0:=CB.step La r1.out;have D1:=q0.cell 0 rfl;have E1:=q0.cell 1 rfl;have u3:=q0.lt;go_simp;refine hK _ _ ⟨.slice A l c,by simp only[FL,f2],Below.refl _ _,rfl,nF⟩
   ·intro xs i2 b0 c0;clear b0;clear c0;refine wpOp_step (o:=_) rfl (fun K hK=>?_);simp only[FL]
    go_simp;refine hK _ _ ⟨.pointer (some ⟨w.heap.size+1,1,none⟩),by kernel_rfl,Below.refl _ _,rfl,nF⟩
   ·intro xs k2 b0 c0;have D0:=zz b0;have l2:=b0.size;clear b0;have f4:(xs 4)=.pointer (some ⟨w.heap.size+1,1,none⟩):=c0 _ (m_ 4 rfl) (by kernel_rfl);clear c0;refine wpOp_step (o:=_) rfl (fun K hK=>?_);simp only[FL]
    have h0:=CB.step Lb D0.out;have G1:=h0.cell 0 rfl;have H1:=h0.cell 1 rfl;have v3:=h0.lt;go_simp;refine hK _ _ ⟨.slice B k d,by simp only[FL,f4],Below.refl _ _,rfl,nF⟩
   ·intro xs m2 b0 c0;have r0:=zz b0;have n2:=b0.size;clear b0;have f3:(xs 3)=.slice A l c:=c0 _ (m_ 3 rfl) (by kernel_rfl);have f5:(xs 5)=.slice B k d:=c0 _ (m_ 5 rfl) (by kernel_rfl);clear c0;refine wpOp_step (o:=_) rfl (fun K hK=>?_);simp only[FL]
    go_simp;have E0:=zz (RN.step Ha.out r0.out);have F0:=zz (RN.step Hb.out r0.out);(with_reducible refine(Plus_any _ _ _ x.natAbs y.natAbs E0.out F0.out (by have:=HL.out;omega) (by have:=HL'.out;omega)).mono ?_)
    rintro e wc18 ⟨s1,v18,rfl,t1⟩;refine hK _ _ ⟨v18,by simp only[FL,f3,f5],s1,t1,nF⟩
   ·intro xs s0 b0 c0;clear b0;have f6:RN s0 s0.heap.size (xs 6) (dig (x.natAbs+y.natAbs)):=c0 _ (m_ 6 rfl) (by kernel_rfl);have f1:(xs 1)=.bool n:=c0 _ (m_ 1 rfl) (by kernel_rfl);clear c0;refine wpOp_step (o:=_) rfl (fun K hK=>?_);simp only[FL]
    obtain⟨A6,c6,hx6,-⟩:=RN.cell f6;have r6:=f6;rw[hx6] at r6 ⊢;go_simp;refine hK _ _ ⟨.agg #[.bool n,.slice A6 (dig (x.natAbs+y.natAbs)).length c6],by simp only[FL,f1,hx6],Below.refl _ _,WV.mk (by rw[HF.out.1];exact r6) HF.out.2,nF⟩
  ·exact all_nil
  ·intro xs d3 hbf hf hn hd;have f0:(xs 0)=.pointer (some ⟨w.heap.size,0,none⟩):=hf _ (m_ 0 rfl);have f1:(xs 1)=.bool n:=hf _ (m_ 1 rfl);have f2:(xs 2)=.pointer (some ⟨w.heap.size,1,none⟩):=hf _ (m_ 2 rfl);have f3:(xs 3)=.slice A l c:=hf _ (m_ 3 rfl);have f4:(xs 4)=.pointer (some ⟨w.heap.size+1,1,none⟩):=hf _ (m_ 4 rfl);have f5:(xs 5)=.slice B k d:=hf _ (m_ 5 rfl);have f6:RN d3 d3.heap.size (xs 6) (dig (x.natAbs+y.natAbs)):=hf _ (m_ 6 rfl);have f7:WV d3 d3.heap.size (xs 7) (x+y):=hf _ (m_ 7 rfl);clear hf hn hd;simp only[FL]
   have B21:=zz hbf;have z21:=B21.out.size;have u1:=zz (B0.out.trans (B21.out.mono B0.out.size));clear hbf;generalize xs 0=x0,xs 1=x1,xs 2=x2,xs 3=x3,xs 4=x4,xs 5=x5,xs 6=x6,xs 7=x7 at *
   obtain rfl:=f0;obtain rfl:=f1;obtain rfl:=f2;obtain rfl:=f3;obtain rfl:=f4;obtain rfl:=f5;clear f6;obtain⟨E3,F3,G3,H3,rfl,ha23,t0⟩:=f7;have G0:=zz (WV.mk ha23 t0);clear ha23 t0;have d0:=CB.step Lo B21.out;have H0:=d0.cell 0 rfl;have I0:=d0.cell 1 rfl;have i3:=d0.lt;have J0:=d0.frozen 0;have K0:=d0.frozen 1;have j3:=d0.lt;refine Early.next (i:=8) (by kernel_rfl) rfl (fun K hK=>?_);go_simp;refine hK _ _ (fun _=>trivial) ?_;clear hK K;(try simp only[Act.put,List.setIfInBounds_toArray,List.set_cons_zero,List.set_cons_succ])
   clear H0 I0 i3 J0 K0 j3;refine Early.done (by kernel_rfl) ?_ _;(try simp only[Exit.then])
   go_wp2;exact WB.fin rfl d0 (by simp[noInt_b,noInt_s]) u1.out (by omega) G0.out rfl
 ·have hbq:(n==m)=false:=by simpa using hnm
  go_enter Tryz.func58,Tryz.ntmps58
  go_upto_region 1 with (fail)
  rw[← hw0];clear hw0;have L0:=La.cell 0 rfl;have M0:=La.cell 1 rfl;have k3:=La.lt;have N0:=Lb.cell 0 rfl;have O0:=Lb.cell 1 rfl;have l3:=Lb.lt;go_wp2_with fail
  refine(Cmp_any _ _ _ x.natAbs y.natAbs Ha.out Hb.out).mono ?_;rintro e w29 ⟨u0,e,rfl,he⟩;have B30:=zz u0;have z30:=B30.out.size;have i0:=zz (B0.out.trans (B30.out.mono B0.out.size));clear u0;clear L0 M0 k3 N0 O0 l3;clear hbq;by_cases hlt:x.natAbs<y.natAbs
  ·have he0:e<0:=by have:=he;unfold SignOf at this;omega
   have HF:=zz (wplus_less hx hy hnm hlt);have m3:=zz hlt;clear hx hy he hlt hnm;go_upto_region 4 with (fail)
   clear he0;refine Flow.run [⟨0,26,fun fv fw=>fv=.pointer (some ⟨w.heap.size+1,0,none⟩)⟩,⟨1,27,fun fv fw=>fv=.bool m⟩,⟨2,28,fun fv fw=>fv=.pointer (some ⟨w.heap.size+1,1,none⟩)⟩,⟨3,29,fun fv fw=>fv=.slice B k d⟩,⟨4,30,fun fv fw=>fv=.pointer (some ⟨w.heap.size,1,none⟩)⟩,⟨5,31,fun fv fw=>fv=.slice A l c⟩,⟨6,32,fun fv fw=>RN fw fw.heap.size fv (dig (y.natAbs-x.natAbs))⟩,⟨7,33,fun fv fw=>WV fw fw.heap.size fv (x+y)⟩] [] [] 1 (by kernel_rfl) (by kernel_rfl) (by kernel_rfl) (fun _ _ _ _ _ h=>h) ?_ ?_ ?_ ?_
   ·refine(a0 (a0 (a0 (a0 (a0 (a0 (all_cons (fun v w1 w2 h hb=>h.step hb) (all_cons (fun v w1 w2 h hb=>h.step hb) all_nil))))))))
   ·refine(all_cons ?_ (all_cons ?_ (all_cons ?_ (all_cons ?_ (all_cons ?_ (all_cons ?_ (all_cons ?_ (all_cons ?_ all_nil))))))))
    ·intro xs p2 b0 c0;clear b0;clear c0;refine wpOp_step (o:=_) rfl (fun K hK=>?_);simp only[FL]
     go_simp;refine hK _ _ ⟨.pointer (some ⟨w.heap.size+1,0,none⟩),by kernel_rfl,Below.refl _ _,rfl,nF⟩
    ·intro xs r2 b0 c0;have P0:=zz b0;have s2:=b0.size;clear b0;have f0:(xs 0)=.pointer (some ⟨w.heap.size+1,0,none⟩):=c0 _ (m_ 0 rfl) (by kernel_rfl);clear c0;refine wpOp_step (o:=_) rfl (fun K hK=>?_);simp only[FL]
     have P1_3_35:=zz (B30.out.trans (P0.out.mono B30.out.size));have j0:=CB.step Lb P1_3_35.out;have K1:=j0.cell 0 rfl;have L1:=j0.cell 1 rfl;have w3:=j0.lt;go_simp;refine hK _ _ ⟨.bool m,by simp only[FL,f0],Below.refl _ _,rfl,nF⟩
    ·intro xs t2 b0 c0;clear b0;clear c0;refine wpOp_step (o:=_) rfl (fun K hK=>?_);simp only[FL]
     go_simp;refine hK _ _ ⟨.pointer (some ⟨w.heap.size+1,1,none⟩),by kernel_rfl,Below.refl _ _,rfl,nF⟩
    ·intro xs v2 b0 c0;have Q0:=zz b0;have y2:=b0.size;clear b0;have f2:(xs 2)=.pointer (some ⟨w.heap.size+1,1,none⟩):=c0 _ (m_ 2 rfl) (by kernel_rfl);clear c0;refine wpOp_step (o:=_) rfl (fun K hK=>?_);simp only[FL]
     have P1_3_40:=zz (B30.out.trans (Q0.out.mono B30.out.size));have k0:=CB.step Lb P1_3_40.out;have N1:=k0.cell 0 rfl;have O1:=k0.cell 1 rfl;have y3:=k0.lt;go_simp;refine hK _ _ ⟨.slice B k d,by simp only[FL,f2],Below.refl _ _,rfl,nF⟩
    ·intro xs z2 b0 c0;clear b0;clear c0;refine wpOp_step (o:=_) rfl (fun K hK=>?_);simp only[FL]
     go_simp;refine hK _ _ ⟨.pointer (some ⟨w.heap.size,1,none⟩),by kernel_rfl,Below.refl _ _,rfl,nF⟩
    ·intro xs B2 b0 c0;have R0:=zz b0;have C2:=b0.size;clear b0;have f4:(xs 4)=.pointer (some ⟨w.heap.size,1,none⟩):=c0 _ (m_ 4 rfl) (by kernel_rfl);clear c0;refine wpOp_step (o:=_) rfl (fun K hK=>?_);simp only[FL]
     have P1_3_45:=zz (B30.out.trans (R0.out.mono B30.out.size));have l0:=CB.step La P1_3_45.out;have Q1:=l0.cell 0 rfl;have R1:=l0.cell 1 rfl;have z3:=l0.lt;go_simp;refine hK _ _ ⟨.slice A l c,by simp only[FL,f4],Below.refl _ _,rfl,nF⟩
    ·intro xs D2 b0 c0;have S0:=zz b0;have E2:=b0.size;clear b0;have f3:(xs 3)=.slice B k d:=c0 _ (m_ 3 rfl) (by kernel_rfl);have f5:(xs 5)=.slice A l c:=c0 _ (m_ 5 rfl) (by kernel_rfl);clear c0;refine wpOp_step (o:=_) rfl (fun K hK=>?_);simp only[FL]
     go_simp;have P1_3_48:=zz (B30.out.trans (S0.out.mono B30.out.size));have T0:=zz (RN.step Hb.out P1_3_48.out);have U0:=zz (RN.step Ha.out P1_3_48.out);(with_reducible refine(Minus_any _ _ _ y.natAbs x.natAbs T0.out U0.out (by have:=HL'.out;omega) (by have:=m3.out;omega)).mono ?_)
     rintro e wc51 ⟨v1,v51,rfl,y1⟩;refine hK _ _ ⟨v51,by simp only[FL,f3,f5],v1,y1,nF⟩
    ·intro xs v0 b0 c0;clear b0;have f6:RN v0 v0.heap.size (xs 6) (dig (y.natAbs-x.natAbs)):=c0 _ (m_ 6 rfl) (by kernel_rfl);have f1:(xs 1)=.bool m:=c0 _ (m_ 1 rfl) (by kernel_rfl);clear c0;refine wpOp_step (o:=_) rfl (fun K hK=>?_);simp only[FL]
     obtain⟨A6,c6,hx6,-⟩:=RN.cell f6;have r6:=f6;rw[hx6] at r6 ⊢;go_simp;refine hK _ _ ⟨.agg #[.bool m,.slice A6 (dig (y.natAbs-x.natAbs)).length c6],by simp only[FL,f1,hx6],Below.refl _ _,WV.mk (by rw[HF.out.1];exact r6) HF.out.2,nF⟩
   ·exact all_nil
   ·intro xs e3 hbf hf hn hd;have f0:(xs 0)=.pointer (some ⟨w.heap.size+1,0,none⟩):=hf _ (m_ 0 rfl);have f1:(xs 1)=.bool m:=hf _ (m_ 1 rfl);have f2:(xs 2)=.pointer (some ⟨w.heap.size+1,1,none⟩):=hf _ (m_ 2 rfl);have f3:(xs 3)=.slice B k d:=hf _ (m_ 3 rfl);have f4:(xs 4)=.pointer (some ⟨w.heap.size,1,none⟩):=hf _ (m_ 4 rfl);have f5:(xs 5)=.slice A l c:=hf _ (m_ 5 rfl);have f6:RN e3 e3.heap.size (xs 6) (dig (y.natAbs-x.natAbs)):=hf _ (m_ 6 rfl);have f7:WV e3 e3.heap.size (xs 7) (x+y):=hf _ (m_ 7 rfl);clear hf hn hd;simp only[FL]
    have B54:=zz hbf;have z54:=B54.out.size;have z1:=zz (i0.out.trans (B54.out.mono i0.out.size));clear hbf;generalize xs 0=x0,xs 1=x1,xs 2=x2,xs 3=x3,xs 4=x4,xs 5=x5,xs 6=x6,xs 7=x7 at *
    obtain rfl:=f0;obtain rfl:=f1;obtain rfl:=f2;obtain rfl:=f3;obtain rfl:=f4;obtain rfl:=f5;clear f6;obtain⟨I3,J3,K3,L3,rfl,ha56,y0⟩:=f7;have V0:=zz (WV.mk ha56 y0);clear ha56 y0;have P1_3_58:=zz (B30.out.trans (B54.out.mono B30.out.size));have e0:=CB.step Lo P1_3_58.out;have W0:=e0.cell 0 rfl;have X0:=e0.cell 1 rfl;have n3:=e0.lt;have Y0:=e0.frozen 0;have Z0:=e0.frozen 1;have o3:=e0.lt;refine Early.next (i:=8) (by kernel_rfl) rfl (fun K hK=>?_);go_simp;refine hK _ _ (fun _=>trivial) ?_;clear hK K;(try simp only[Act.put,List.setIfInBounds_toArray,List.set_cons_zero,List.set_cons_succ])
    clear W0 X0 n3 Y0 Z0 o3;refine Early.done (by kernel_rfl) ?_ _;(try simp only[Exit.then])
    go_wp2;exact WB.fin rfl e0 (by simp[noInt_b,noInt_s]) z1.out (by omega) V0.out rfl
  ·have he0:¬ e<0:=by have:=he;unfold SignOf at this;omega
   have HF:=zz (wplus_more hx hy hnm hlt);have m3:=zz hlt;clear hx hy he hlt hnm;go_upto_region 5 with (fail)
   clear he0;refine Flow.run [⟨0,34,fun fv fw=>fv=.pointer (some ⟨w.heap.size,0,none⟩)⟩,⟨1,35,fun fv fw=>fv=.bool n⟩,⟨2,36,fun fv fw=>fv=.pointer (some ⟨w.heap.size,1,none⟩)⟩,⟨3,37,fun fv fw=>fv=.slice A l c⟩,⟨4,38,fun fv fw=>fv=.pointer (some ⟨w.heap.size+1,1,none⟩)⟩,⟨5,39,fun fv fw=>fv=.slice B k d⟩,⟨6,40,fun fv fw=>RN fw fw.heap.size fv (dig (x.natAbs-y.natAbs))⟩,⟨7,41,fun fv fw=>WV fw fw.heap.size fv (x+y)⟩] [] [] 1 (by kernel_rfl) (by kernel_rfl) (by kernel_rfl) (fun _ _ _ _ _ h=>h) ?_ ?_ ?_ ?_
   ·refine(a0 (a0 (a0 (a0 (a0 (a0 (all_cons (fun v w1 w2 h hb=>h.step hb) (all_cons (fun v w1 w2 h hb=>h.step hb) all_nil))))))))
   ·refine(all_cons ?_ (all_cons ?_ (all_cons ?_ (all_cons ?_ (all_cons ?_ (all_cons ?_ (all_cons ?_ (all_cons ?_ all_nil))))))))
    ·intro xs G2 b0 c0;clear b0;clear c0;refine wpOp_step (o:=_) rfl (fun K hK=>?_);simp only[FL]
     go_simp;refine hK _ _ ⟨.pointer (some ⟨w.heap.size,0,none⟩),by kernel_rfl,Below.refl _ _,rfl,nF⟩
    ·intro xs I2 b0 c0;have a1:=zz b0;have J2:=b0.size;clear b0;have f0:(xs 0)=.pointer (some ⟨w.heap.size,0,none⟩):=c0 _ (m_ 0 rfl) (by kernel_rfl);clear c0;refine wpOp_step (o:=_) rfl (fun K hK=>?_);simp only[FL]
     have P1_3_64:=zz (B30.out.trans (a1.out.mono B30.out.size));have m0:=CB.step La P1_3_64.out;have U1:=m0.cell 0 rfl;have V1:=m0.cell 1 rfl;have A3:=m0.lt;go_simp;refine hK _ _ ⟨.bool n,by simp only[FL,f0],Below.refl _ _,rfl,nF⟩
    ·intro xs K2 b0 c0;clear b0;clear c0;refine wpOp_step (o:=_) rfl (fun K hK=>?_);simp only[FL]
     go_simp;refine hK _ _ ⟨.pointer (some ⟨w.heap.size,1,none⟩),by kernel_rfl,Below.refl _ _,rfl,nF⟩
    ·intro xs M2 b0 c0;have b1:=zz b0;have N2:=b0.size;clear b0;have f2:(xs 2)=.pointer (some ⟨w.heap.size,1,none⟩):=c0 _ (m_ 2 rfl) (by kernel_rfl);clear c0;refine wpOp_step (o:=_) rfl (fun K hK=>?_);simp only[FL]
     have P1_3_69:=zz (B30.out.trans (b1.out.mono B30.out.size));have n0:=CB.step La P1_3_69.out;have X1:=n0.cell 0 rfl;have Y1:=n0.cell 1 rfl;have B3:=n0.lt;go_simp;refine hK _ _ ⟨.slice A l c,by simp only[FL,f2],Below.refl _ _,rfl,nF⟩
    ·intro xs O2 b0 c0;clear b0;clear c0;refine wpOp_step (o:=_) rfl (fun K hK=>?_);simp only[FL]
     go_simp;refine hK _ _ ⟨.pointer (some ⟨w.heap.size+1,1,none⟩),by kernel_rfl,Below.refl _ _,rfl,nF⟩
    ·intro xs Q2 b0 c0;have c1:=zz b0;have R2:=b0.size;clear b0;have f4:(xs 4)=.pointer (some ⟨w.heap.size+1,1,none⟩):=c0 _ (m_ 4 rfl) (by kernel_rfl);clear c0;refine wpOp_step (o:=_) rfl (fun K hK=>?_);simp only[FL]
     have P1_3_74:=zz (B30.out.trans (c1.out.mono B30.out.size));have o0:=CB.step Lb P1_3_74.out;have a2:=o0.cell 0 rfl;have b2:=o0.cell 1 rfl;have C3:=o0.lt;go_simp;refine hK _ _ ⟨.slice B k d,by simp only[FL,f4],Below.refl _ _,rfl,nF⟩
    ·intro xs S2 b0 c0;have d1:=zz b0;have T2:=b0.size;clear b0;have f3:(xs 3)=.slice A l c:=c0 _ (m_ 3 rfl) (by kernel_rfl);have f5:(xs 5)=.slice B k d:=c0 _ (m_ 5 rfl) (by kernel_rfl);clear c0;refine wpOp_step (o:=_) rfl (fun K hK=>?_);simp only[FL]
     go_simp;have P1_3_77:=zz (B30.out.trans (d1.out.mono B30.out.size));have e1:=zz (RN.step Ha.out P1_3_77.out);have g1:=zz (RN.step Hb.out P1_3_77.out);(with_reducible refine(Minus_any _ _ _ x.natAbs y.natAbs e1.out g1.out (by have:=HL.out;omega) (by have:=m3.out;omega)).mono ?_)
     rintro e wc80 ⟨A1,v80,rfl,B1⟩;refine hK _ _ ⟨v80,by simp only[FL,f3,f5],A1,B1,nF⟩
    ·intro xs A0 b0 c0;clear b0;have f6:RN A0 A0.heap.size (xs 6) (dig (x.natAbs-y.natAbs)):=c0 _ (m_ 6 rfl) (by kernel_rfl);have f1:(xs 1)=.bool n:=c0 _ (m_ 1 rfl) (by kernel_rfl);clear c0;refine wpOp_step (o:=_) rfl (fun K hK=>?_);simp only[FL]
     obtain⟨A6,c6,hx6,-⟩:=RN.cell f6;have r6:=f6;rw[hx6] at r6 ⊢;go_simp;refine hK _ _ ⟨.agg #[.bool n,.slice A6 (dig (x.natAbs-y.natAbs)).length c6],by simp only[FL,f1,hx6],Below.refl _ _,WV.mk (by rw[HF.out.1];exact r6) HF.out.2,nF⟩
   ·exact all_nil
   ·intro xs g3 hbf hf hn hd;have f0:(xs 0)=.pointer (some ⟨w.heap.size,0,none⟩):=hf _ (m_ 0 rfl);have f1:(xs 1)=.bool n:=hf _ (m_ 1 rfl);have f2:(xs 2)=.pointer (some ⟨w.heap.size,1,none⟩):=hf _ (m_ 2 rfl);have f3:(xs 3)=.slice A l c:=hf _ (m_ 3 rfl);have f4:(xs 4)=.pointer (some ⟨w.heap.size+1,1,none⟩):=hf _ (m_ 4 rfl);have f5:(xs 5)=.slice B k d:=hf _ (m_ 5 rfl);have f6:RN g3 g3.heap.size (xs 6) (dig (x.natAbs-y.natAbs)):=hf _ (m_ 6 rfl);have f7:WV g3 g3.heap.size (xs 7) (x+y):=hf _ (m_ 7 rfl);clear hf hn hd;simp only[FL]
    have B83:=zz hbf;have z83:=B83.out.size;have C1:=zz (i0.out.trans (B83.out.mono i0.out.size));clear hbf;generalize xs 0=x0,xs 1=x1,xs 2=x2,xs 3=x3,xs 4=x4,xs 5=x5,xs 6=x6,xs 7=x7 at *
    obtain rfl:=f0;obtain rfl:=f1;obtain rfl:=f2;obtain rfl:=f3;obtain rfl:=f4;obtain rfl:=f5;clear f6;obtain⟨M3,N3,O3,P3,rfl,ha85,C0⟩:=f7;have h1:=zz (WV.mk ha85 C0);clear ha85 C0;have P1_3_87:=zz (B30.out.trans (B83.out.mono B30.out.size));have g0:=CB.step Lo P1_3_87.out;have i1:=g0.cell 0 rfl;have j1:=g0.cell 1 rfl;have p3:=g0.lt;have k1:=g0.frozen 0;have l1:=g0.frozen 1;have q3:=g0.lt;refine Early.next (i:=8) (by kernel_rfl) rfl (fun K hK=>?_);go_simp;refine hK _ _ (fun _=>trivial) ?_;clear hK K;(try simp only[Act.put,List.setIfInBounds_toArray,List.set_cons_zero,List.set_cons_succ])
    clear i1 j1 p3 k1 l1 q3;refine Early.done (by kernel_rfl) ?_ _;(try simp only[Exit.then])
    go_wp2;exact WB.fin rfl g0 (by simp[noInt_b,noInt_s]) C1.out (by omega) h1.out rfl
end Go.Proofs.YtngpibfakemmhaaGreatDoor
