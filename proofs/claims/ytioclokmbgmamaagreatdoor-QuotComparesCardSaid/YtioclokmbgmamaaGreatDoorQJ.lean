/- Layer 04: both (written by gen_qi.py). -/
import Derived.Test.YtioclokmbgmamaaGreatDoorQI
namespace Go.Proofs.YtioclokmbgmamaaGreatDoor
open Go Go.RowKit Dig
theorem SumL_any (w:World) (va vb:Value) (q r:Rat) (ha:RV w w.heap.size va q) (hb:RV w w.heap.size vb r) (l1:QL 20000 20000 q) (l2:QL 20000 20000 r) :
  Calls Tryz.prog 92 #[va,vb] w fun e w'=>Below w.heap.size w w'∧∃ v,e=.returned v∧RV w' w'.heap.size v (q+r):=Sum_any w va vb q r ha hb l1.1 l1.2 l2.1 l2.2
theorem QL.inv {a b:Nat} {q:Rat} (h:QL a b q) (h0:q≠0):QL b a q⁻¹:=by
 have hz:q.num≠0:=fun e=>h0 (Rat.num_eq_zero.1 e)
 unfold QL;rw[Rat.num_inv,Rat.den_inv,if_neg hz,Int.natAbs_mul,Int.natAbs_sign_of_ne_zero hz,Nat.one_mul,Int.natAbs_natCast];exact⟨h.2,h.1⟩
theorem QL.div {a b a' b':Nat} {q r:Rat} (h:QL a b q) (k:QL a' b' r) (h0:r≠0):QL (a+b') (b+a') (q / r):=by
 rw[Rat.div_def];exact h.mul (k.inv h0)
set_option maxRecDepth 100000 in
set_option maxHeartbeats 4000000 in
theorem both_Sum (w:World) (va vb:Value) (q r:Rat) (ha:QV w w.heap.size va q) (hb:QV w w.heap.size vb r) (lq:QL 600 600 q) (lr:QL 600 600 r) :
  Calls Tryz.prog 91 #[va,vb,(.func (.func 92) #[] #[])] w fun e w'=>Below w.heap.size w w'∧RetQ w' (toldQ (q+r)) e:=by
 obtain⟨t,ht⟩:∃ t,t=toldQ (q+r):=⟨_,rfl⟩;rw[← ht];have HT:=zz ht;clear ht
 obtain⟨n,A,l,c,m,A',l',c',rfl⟩:=QO.cells (show QO w w.heap.size va (some q) from ha);obtain⟨n2,B,k,d,m2,B',k',d',rfl⟩:=QO.cells (show QO w w.heap.size vb (some r) from hb)
 have HA:=zz ha;have HB:=zz hb;have HLQ:=zz lq;have HLR:=zz lr;clear ha hb lq lr
 obtain⟨w0,hw0⟩:∃ w0:World,w0=(((w.alloc (.cells #[.bool n,.slice A l c,.bool m,.slice A' l' c'] 26)).alloc (.cells #[.bool n2,.slice B k d,.bool m2,.slice B' k' d'] 26)).alloc (.cells #[.bool false,.slice none 0 0,.bool false,.slice none 0 0] 26)):=⟨_,rfl⟩
 have B0:=zz (show Below w.heap.size w w0 by rw[hw0];(repeat' (first | exact Below.refl _ _ | refine Below.drew ?_ | refine Below.alloc ?_ (by first | exact Nat.le_refl _ | (simp;done) | (simp;omega)) _)))
 have z0:w.heap.size+3≤w0.heap.size:=by rw[hw0];simp
 have La:CB w0 (w.heap.size) 26 #[.bool n,.slice A l c,.bool m,.slice A' l' c']:=by rw[hw0];have h:=((CB.new w 26 #[.bool n,.slice A l c,.bool m,.slice A' l' c']).alloc (.cells #[.bool n2,.slice B k d,.bool m2,.slice B' k' d'] 26)).alloc (.cells #[.bool false,.slice none 0 0,.bool false,.slice none 0 0] 26);simpa using h
 have Lb:CB w0 (w.heap.size+1) 26 #[.bool n2,.slice B k d,.bool m2,.slice B' k' d']:=by rw[hw0];have h:=(CB.new (w.alloc (.cells #[.bool n,.slice A l c,.bool m,.slice A' l' c'] 26)) 26 #[.bool n2,.slice B k d,.bool m2,.slice B' k' d']).alloc (.cells #[.bool false,.slice none 0 0,.bool false,.slice none 0 0] 26);simpa using h
 have Lr6:CB w0 (w.heap.size+2) 26 #[.bool false,.slice none 0 0,.bool false,.slice none 0 0]:=by rw[hw0];have h:=CB.new ((w.alloc (.cells #[.bool n,.slice A l c,.bool m,.slice A' l' c'] 26)).alloc (.cells #[.bool n2,.slice B k d,.bool m2,.slice B' k' d'] 26)) 26 #[.bool false,.slice none 0 0,.bool false,.slice none 0 0];simpa using h
 replace HA:=zz (QV.step HA.out B0.out);replace HB:=zz (QV.step HB.out B0.out)
 go_enter Tryz.func91,Tryz.ntmps91
 go_upto_region 1 with (fail)
 rw[← hw0];clear hw0
 have hQ:=QV.is HA.out;have hR:=QV.is HB.out
 obtain rfl:=hQ.2.2.2;obtain rfl:=hR.2.2.2;obtain rfl:=hQ.2.2.1;obtain rfl:=hR.2.2.1;clear hQ hR
 generalize hnq:decide (q.num<0)=n at *;generalize hnr:decide (r.num<0)=n2 at *
 have HNQ:=zz hnq;have HNR:=zz hnr;clear hnq hnr
 have HC:=zz (show allQ (qOf n (ni (dig q.num.natAbs)) false (ni (dig q.den))) (qOf n2 (ni (dig r.num.natAbs)) false (ni (dig r.den)))=0 by rw[← HNQ.out,← HNR.out];exact allQ_yes (qOf_rat q HLQ.out.1 HLQ.out.2) (qOf_rat r HLR.out.1 HLR.out.2))
 have D0:=La.cell 0 rfl
 have E0:=La.cell 1 rfl
 have F0:=La.cell 2 rfl
 have G0:=La.cell 3 rfl
 have q2_lt:=La.lt
 have H0:=Lb.cell 0 rfl
 have I0:=Lb.cell 1 rfl
 have J0:=Lb.cell 2 rfl
 have K0:=Lb.cell 3 rfl
 have q3_lt:=Lb.lt
 go_wp2_with fail
 refine(qall_new _ _ n false n2 false A A' B B' l l' k k' c c' d d' (ni (dig q.num.natAbs)) (ni (dig q.den)) (ni (dig r.num.natAbs)) (ni (dig r.den)) 2 rfl (by have h:=QV.qr HA.out;rw[HNQ.out] at h;exact h) (by have h:=QV.qr HB.out;rw[HNR.out] at h;exact h)).mono ?_
 rintro e w1 ⟨A0,rfl⟩
 have B4:=zz A0
 have z4:=B4.out.size
 have C0:=zz (B0.out.trans (B4.out.mono B0.out.size))
 clear A0
 clear D0 E0 F0 G0 q2_lt H0 I0 J0 K0 q3_lt
 rw[HC.out]
 have HSZ:=zz (show QL 100000 100000 (q+r) from(QL.add HLQ.out HLR.out).mono (by omega) (by omega))
 go_upto_region 4 with (fail)
 refine Flow.run [⟨0,17,fun fv fw=>fv=(.func (.func 92) #[] #[])⟩,⟨1,18,fun fv fw=>fv=.agg #[.bool n,.slice A l c,.bool false,.slice A' l' c']⟩,⟨2,19,fun fv fw=>fv=.agg #[.bool n,.slice A l c,.slice A' l' c']⟩,⟨3,20,fun fv fw=>fv=.agg #[.bool n2,.slice B k d,.bool false,.slice B' k' d']⟩,⟨4,21,fun fv fw=>fv=.agg #[.bool n2,.slice B k d,.slice B' k' d']⟩,⟨5,22,fun fv fw=>RV fw fw.heap.size fv (q+r)⟩,⟨6,23,fun fv fw=>∃ u,fv=.tuple #[u,.int .i64 t.2]∧QO fw fw.heap.size u t.1⟩,⟨7,24,fun fv fw=>QO fw fw.heap.size fv t.1⟩,⟨8,25,fun fv fw=>fv=.int .i64 t.2⟩] [] [] 2 (by kernel_rfl) (by kernel_rfl) (by kernel_rfl) (fun _ _ _ _ _ h=>h) ?_ ?_ ?_ ?_
 ·refine(a0 (a0 (a0 (a0 (a0 (all_cons (fun v w1 w2 h hb=>h.step hb) (all_cons (fun v w1 w2 h hb=>let ⟨u,e,h⟩:=h;⟨u,e,QO.step (o:=t.1) h hb⟩) (all_cons (fun v w1 w2 h hb=>QO.step (o:=t.1) h hb) (a0 all_nil)))))))))
 ·refine(all_cons ?_ (all_cons ?_ (all_cons ?_ (all_cons ?_ (all_cons ?_ (all_cons ?_ (all_cons ?_ (all_cons ?_ (all_cons ?_ all_nil)))))))))
  ·intro xs u1 b0 c0
   have i1:=zz b0;have v1:=b0.size;clear b0
   clear c0
   refine wpOp_step (o:=_) rfl (fun K hK=>?_)
   simp only[FL]
   go_simp
   refine hK _ _ ⟨(.func (.func 92) #[] #[]),by kernel_rfl,Below.refl _ _,rfl,nF⟩
  ·intro xs y1 b0 c0
   have L0:=zz b0;have z1:=b0.size;clear b0
   clear c0
   refine wpOp_step (o:=_) rfl (fun K hK=>?_)
   simp only[FL]
   have P1_3_9:=zz (B4.out.trans (L0.out.mono B4.out.size))
   have g0:=CB.step La P1_3_9.out
   have T0:=g0.cell 0 rfl
   have U0:=g0.cell 1 rfl
   have V0:=g0.cell 2 rfl
   have W0:=g0.cell 3 rfl
   go_simp
   refine hK _ _ ⟨.agg #[.bool n,.slice A l c,.bool false,.slice A' l' c'],by kernel_rfl,Below.refl _ _,rfl,nF⟩
  ·intro xs j1 b0 c0
   have X0:=zz b0;have k1:=b0.size;clear b0
   have f1:(xs 1)=.agg #[.bool n,.slice A l c,.bool false,.slice A' l' c']:=c0 _ (m_ 1 rfl) (by kernel_rfl)
   clear c0
   refine wpOp_step (o:=_) rfl (fun K hK=>?_)
   simp only[FL]
   go_simp
   (with_reducible refine(Read_any _ n false A A' l c l' c').mono ?_)
   rintro e wc12 ⟨M0,rfl⟩
   refine hK _ _ ⟨.agg #[.bool n,.slice A l c,.slice A' l' c'],by simp only[FL,f1] <;> kernel_rfl,M0,rfl,nF⟩
  ·intro xs l1 b0 c0
   have l0:=zz b0;have m1:=b0.size;clear b0
   clear c0
   refine wpOp_step (o:=_) rfl (fun K hK=>?_)
   simp only[FL]
   have P1_3_15:=zz (B4.out.trans (l0.out.mono B4.out.size))
   have e0:=CB.step Lb P1_3_15.out
   have Y0:=e0.cell 0 rfl
   have Z0:=e0.cell 1 rfl
   have a1:=e0.cell 2 rfl
   have b1:=e0.cell 3 rfl
   go_simp
   refine hK _ _ ⟨.agg #[.bool n2,.slice B k d,.bool false,.slice B' k' d'],by kernel_rfl,Below.refl _ _,rfl,nF⟩
  ·intro xs n1 b0 c0
   have c1:=zz b0;have o1:=b0.size;clear b0
   have f3:(xs 3)=.agg #[.bool n2,.slice B k d,.bool false,.slice B' k' d']:=c0 _ (m_ 3 rfl) (by kernel_rfl)
   clear c0
   refine wpOp_step (o:=_) rfl (fun K hK=>?_)
   simp only[FL]
   go_simp
   (with_reducible refine(Read_any _ n2 false B B' k d k' d').mono ?_)
   rintro e wc18 ⟨N0,rfl⟩
   refine hK _ _ ⟨.agg #[.bool n2,.slice B k d,.slice B' k' d'],by simp only[FL,f3] <;> kernel_rfl,N0,rfl,nF⟩
  ·intro xs p1 b0 c0
   have m0:=zz b0;have q1:=b0.size;clear b0
   have f0:(xs 0)=(.func (.func 92) #[] #[]):=c0 _ (m_ 0 rfl) (by kernel_rfl)
   have f2:(xs 2)=.agg #[.bool n,.slice A l c,.slice A' l' c']:=c0 _ (m_ 2 rfl) (by kernel_rfl)
   have f4:(xs 4)=.agg #[.bool n2,.slice B k d,.slice B' k' d']:=c0 _ (m_ 4 rfl) (by kernel_rfl)
   clear c0
   refine wpOp_step (o:=_) rfl (fun K hK=>?_)
   simp only[FL]
   go_simp
   have P1_3_20:=zz (B4.out.trans (m0.out.mono B4.out.size))
   have n0:=zz (QV.step HA.out P1_3_20.out)
   have o0:=zz (QV.step HB.out P1_3_20.out)
   (with_reducible refine(SumL_any _ _ _ q r (QV.read n0.out) (QV.read o0.out) (HLQ.out.mono (by omega) (by omega)) (HLR.out.mono (by omega) (by omega))).mono ?_)
   rintro e wc23 ⟨O0,v23,rfl,P0⟩
   refine hK _ _ ⟨v23,by simp only[FL,f0,f2,f4] <;> kernel_rfl,O0,P0,nF⟩
  ·intro xs i0 b0 c0
   have d1:=zz b0;have r1:=b0.size;clear b0
   have f5:RV i0 i0.heap.size (xs 5) (q+r):=c0 _ (m_ 5 rfl) (by kernel_rfl)
   clear c0
   refine wpOp_step (o:=_) rfl (fun K hK=>?_)
   simp only[FL]
   go_simp
   (with_reducible refine((show Calls Tryz.prog _ _ _ _ from HT.out▸ToldR_any _ _ (q+r) f5 HSZ.out)).mono ?_)
   rintro e wc25 ⟨Q0,v25,rfl,R0⟩
   refine hK _ _ ⟨.tuple #[v25,.int .i64 t.2],by kernel_rfl,Q0,⟨v25,rfl,R0⟩,nF⟩
  ·intro xs j0 b0 c0
   have e1:=zz b0;have s1:=b0.size;clear b0
   have f6:∃ u,(xs 6)=.tuple #[u,.int .i64 t.2]∧QO j0 j0.heap.size u t.1:=c0 _ (m_ 6 rfl) (by kernel_rfl)
   clear c0
   refine wpOp_step (o:=_) rfl (fun K hK=>?_)
   simp only[FL]
   obtain⟨u,hu,hl⟩:=f6;rw[hu]
   go_simp
   refine hK _ _ ⟨u,by simp only[FL,hu] <;> kernel_rfl,Below.refl _ _,hl,nF⟩
  ·intro xs k0 b0 c0
   have g1:=zz b0;have t1:=b0.size;clear b0
   have f6:∃ u,(xs 6)=.tuple #[u,.int .i64 t.2]∧QO k0 k0.heap.size u t.1:=c0 _ (m_ 6 rfl) (by kernel_rfl)
   clear c0
   refine wpOp_step (o:=_) rfl (fun K hK=>?_)
   simp only[FL]
   obtain⟨u,hu,-⟩:=f6;rw[hu]
   go_simp
   refine hK _ _ ⟨.int .i64 t.2,by simp only[FL,hu] <;> kernel_rfl,Below.refl _ _,rfl,nF⟩
 ·exact all_nil
 ·intro xs wf28 hbf hf hn hd
  have f0:(xs 0)=(.func (.func 92) #[] #[]):=hf _ (m_ 0 rfl)
  have f1:(xs 1)=.agg #[.bool n,.slice A l c,.bool false,.slice A' l' c']:=hf _ (m_ 1 rfl)
  have f2:(xs 2)=.agg #[.bool n,.slice A l c,.slice A' l' c']:=hf _ (m_ 2 rfl)
  have f3:(xs 3)=.agg #[.bool n2,.slice B k d,.bool false,.slice B' k' d']:=hf _ (m_ 3 rfl)
  have f4:(xs 4)=.agg #[.bool n2,.slice B k d,.slice B' k' d']:=hf _ (m_ 4 rfl)
  have f5:RV wf28 wf28.heap.size (xs 5) (q+r):=hf _ (m_ 5 rfl)
  have f6:∃ u,(xs 6)=.tuple #[u,.int .i64 t.2]∧QO wf28 wf28.heap.size u t.1:=hf _ (m_ 6 rfl)
  have f7:QO wf28 wf28.heap.size (xs 7) t.1:=hf _ (m_ 7 rfl)
  have f8:(xs 8)=.int .i64 t.2:=hf _ (m_ 8 rfl)
  clear hf hn hd
  simp only[FL]
  have B29:=zz hbf
  have z29:=B29.out.size
  have S0:=zz (C0.out.trans (B29.out.mono C0.out.size))
  clear hbf
  generalize xs 0=x0,xs 1=x1,xs 2=x2,xs 3=x3,xs 4=x4,xs 5=x5,xs 6=x6,xs 7=x7,xs 8=x8 at *
  obtain rfl:=f0
  obtain rfl:=f1
  obtain rfl:=f2
  obtain rfl:=f3
  obtain rfl:=f4
  clear f5
  clear f6
  have hg31:=f7;obtain⟨on31,oA31,ol31,oc31,oe31,oB31,h1,od31,rfl⟩:=QO.cells hg31;have h0:=zz hg31;clear hg31
  obtain rfl:=f8
  have P1_3_33:=zz (B4.out.trans (B29.out.mono B4.out.size))
  have d0:=CB.step Lr6 P1_3_33.out
  have p0:=d0.cell 0 rfl
  have q0:=d0.cell 1 rfl
  have r0:=d0.cell 2 rfl
  have s0:=d0.cell 3 rfl
  have q34_lt:=d0.lt
  have t0:=d0.frozen 0
  have u0:=d0.frozen 1
  have v0:=d0.frozen 2
  have y0:=d0.frozen 3
  have q35_lt:=d0.lt
  refine Early.next (i:=9) (by kernel_rfl) rfl (fun K hK=>?_)
  go_simp
  refine hK _ _ (fun _=>trivial) ?_
  clear hK K
  (try simp only[Act.put,List.setIfInBounds_toArray,List.set_cons_zero,List.set_cons_succ])
  clear p0 q0 r0 s0 q34_lt t0 u0 v0 y0 q35_lt
  refine Early.next (i:=10) (by kernel_rfl) rfl (fun K hK=>?_)
  go_simp
  refine hK _ _ (fun _=>trivial) ?_
  clear hK K
  (try simp only[Act.put,List.setIfInBounds_toArray,List.set_cons_zero,List.set_cons_succ])
  refine Early.done (by kernel_rfl) ?_ _
  (try simp only[Exit.then])
  go_wp2
  exact QB.fin rfl d0 (by simp[noInt_b,noInt_s]) S0.out (by omega) h0.out rfl rfl
set_option maxRecDepth 100000 in
set_option maxHeartbeats 4000000 in
theorem both_Diff (w:World) (va vb:Value) (q r:Rat) (ha:QV w w.heap.size va q) (hb:QV w w.heap.size vb r) (lq:QL 600 600 q) (lr:QL 600 600 r) :
  Calls Tryz.prog 91 #[va,vb,(.func (.func 93) #[] #[])] w fun e w'=>Below w.heap.size w w'∧RetQ w' (toldQ (q-r)) e:=by
 obtain⟨t,ht⟩:∃ t,t=toldQ (q-r):=⟨_,rfl⟩;rw[← ht];have HT:=zz ht;clear ht
 obtain⟨n,A,l,c,m,A',l',c',rfl⟩:=QO.cells (show QO w w.heap.size va (some q) from ha);obtain⟨n2,B,k,d,m2,B',k',d',rfl⟩:=QO.cells (show QO w w.heap.size vb (some r) from hb)
 have HA:=zz ha;have HB:=zz hb;have HLQ:=zz lq;have HLR:=zz lr;clear ha hb lq lr
 obtain⟨w0,hw0⟩:∃ w0:World,w0=(((w.alloc (.cells #[.bool n,.slice A l c,.bool m,.slice A' l' c'] 26)).alloc (.cells #[.bool n2,.slice B k d,.bool m2,.slice B' k' d'] 26)).alloc (.cells #[.bool false,.slice none 0 0,.bool false,.slice none 0 0] 26)):=⟨_,rfl⟩
 have B0:=zz (show Below w.heap.size w w0 by rw[hw0];(repeat' (first | exact Below.refl _ _ | refine Below.drew ?_ | refine Below.alloc ?_ (by first | exact Nat.le_refl _ | (simp;done) | (simp;omega)) _)))
 have z0:w.heap.size+3≤w0.heap.size:=by rw[hw0];simp
 have La:CB w0 (w.heap.size) 26 #[.bool n,.slice A l c,.bool m,.slice A' l' c']:=by rw[hw0];have h:=((CB.new w 26 #[.bool n,.slice A l c,.bool m,.slice A' l' c']).alloc (.cells #[.bool n2,.slice B k d,.bool m2,.slice B' k' d'] 26)).alloc (.cells #[.bool false,.slice none 0 0,.bool false,.slice none 0 0] 26);simpa using h
 have Lb:CB w0 (w.heap.size+1) 26 #[.bool n2,.slice B k d,.bool m2,.slice B' k' d']:=by rw[hw0];have h:=(CB.new (w.alloc (.cells #[.bool n,.slice A l c,.bool m,.slice A' l' c'] 26)) 26 #[.bool n2,.slice B k d,.bool m2,.slice B' k' d']).alloc (.cells #[.bool false,.slice none 0 0,.bool false,.slice none 0 0] 26);simpa using h
 have Lr6:CB w0 (w.heap.size+2) 26 #[.bool false,.slice none 0 0,.bool false,.slice none 0 0]:=by rw[hw0];have h:=CB.new ((w.alloc (.cells #[.bool n,.slice A l c,.bool m,.slice A' l' c'] 26)).alloc (.cells #[.bool n2,.slice B k d,.bool m2,.slice B' k' d'] 26)) 26 #[.bool false,.slice none 0 0,.bool false,.slice none 0 0];simpa using h
 replace HA:=zz (QV.step HA.out B0.out);replace HB:=zz (QV.step HB.out B0.out)
 go_enter Tryz.func91,Tryz.ntmps91
 go_upto_region 1 with (fail)
 rw[← hw0];clear hw0
 have hQ:=QV.is HA.out;have hR:=QV.is HB.out
 obtain rfl:=hQ.2.2.2;obtain rfl:=hR.2.2.2;obtain rfl:=hQ.2.2.1;obtain rfl:=hR.2.2.1;clear hQ hR
 generalize hnq:decide (q.num<0)=n at *;generalize hnr:decide (r.num<0)=n2 at *
 have HNQ:=zz hnq;have HNR:=zz hnr;clear hnq hnr
 have HC:=zz (show allQ (qOf n (ni (dig q.num.natAbs)) false (ni (dig q.den))) (qOf n2 (ni (dig r.num.natAbs)) false (ni (dig r.den)))=0 by rw[← HNQ.out,← HNR.out];exact allQ_yes (qOf_rat q HLQ.out.1 HLQ.out.2) (qOf_rat r HLR.out.1 HLR.out.2))
 have D0:=La.cell 0 rfl
 have E0:=La.cell 1 rfl
 have F0:=La.cell 2 rfl
 have G0:=La.cell 3 rfl
 have q2_lt:=La.lt
 have H0:=Lb.cell 0 rfl
 have I0:=Lb.cell 1 rfl
 have J0:=Lb.cell 2 rfl
 have K0:=Lb.cell 3 rfl
 have q3_lt:=Lb.lt
 go_wp2_with fail
 refine(qall_new _ _ n false n2 false A A' B B' l l' k k' c c' d d' (ni (dig q.num.natAbs)) (ni (dig q.den)) (ni (dig r.num.natAbs)) (ni (dig r.den)) 2 rfl (by have h:=QV.qr HA.out;rw[HNQ.out] at h;exact h) (by have h:=QV.qr HB.out;rw[HNR.out] at h;exact h)).mono ?_
 rintro e w1 ⟨A0,rfl⟩
 have B4:=zz A0
 have z4:=B4.out.size
 have C0:=zz (B0.out.trans (B4.out.mono B0.out.size))
 clear A0
 clear D0 E0 F0 G0 q2_lt H0 I0 J0 K0 q3_lt
 rw[HC.out]
 have HSZ:=zz (show QL 100000 100000 (q-r) from(QL.sub HLQ.out HLR.out).mono (by omega) (by omega))
 go_upto_region 4 with (fail)
 refine Flow.run [⟨0,17,fun fv fw=>fv=(.func (.func 93) #[] #[])⟩,⟨1,18,fun fv fw=>fv=.agg #[.bool n,.slice A l c,.bool false,.slice A' l' c']⟩,⟨2,19,fun fv fw=>fv=.agg #[.bool n,.slice A l c,.slice A' l' c']⟩,⟨3,20,fun fv fw=>fv=.agg #[.bool n2,.slice B k d,.bool false,.slice B' k' d']⟩,⟨4,21,fun fv fw=>fv=.agg #[.bool n2,.slice B k d,.slice B' k' d']⟩,⟨5,22,fun fv fw=>RV fw fw.heap.size fv (q-r)⟩,⟨6,23,fun fv fw=>∃ u,fv=.tuple #[u,.int .i64 t.2]∧QO fw fw.heap.size u t.1⟩,⟨7,24,fun fv fw=>QO fw fw.heap.size fv t.1⟩,⟨8,25,fun fv fw=>fv=.int .i64 t.2⟩] [] [] 2 (by kernel_rfl) (by kernel_rfl) (by kernel_rfl) (fun _ _ _ _ _ h=>h) ?_ ?_ ?_ ?_
 ·refine(a0 (a0 (a0 (a0 (a0 (all_cons (fun v w1 w2 h hb=>h.step hb) (all_cons (fun v w1 w2 h hb=>let ⟨u,e,h⟩:=h;⟨u,e,QO.step (o:=t.1) h hb⟩) (all_cons (fun v w1 w2 h hb=>QO.step (o:=t.1) h hb) (a0 all_nil)))))))))
 ·refine(all_cons ?_ (all_cons ?_ (all_cons ?_ (all_cons ?_ (all_cons ?_ (all_cons ?_ (all_cons ?_ (all_cons ?_ (all_cons ?_ all_nil)))))))))
  ·intro xs u1 b0 c0
   have i1:=zz b0;have v1:=b0.size;clear b0
   clear c0
   refine wpOp_step (o:=_) rfl (fun K hK=>?_)
   simp only[FL]
   go_simp
   refine hK _ _ ⟨(.func (.func 93) #[] #[]),by kernel_rfl,Below.refl _ _,rfl,nF⟩
  ·intro xs y1 b0 c0
   have L0:=zz b0;have z1:=b0.size;clear b0
   clear c0
   refine wpOp_step (o:=_) rfl (fun K hK=>?_)
   simp only[FL]
   have P1_3_9:=zz (B4.out.trans (L0.out.mono B4.out.size))
   have g0:=CB.step La P1_3_9.out
   have T0:=g0.cell 0 rfl
   have U0:=g0.cell 1 rfl
   have V0:=g0.cell 2 rfl
   have W0:=g0.cell 3 rfl
   go_simp
   refine hK _ _ ⟨.agg #[.bool n,.slice A l c,.bool false,.slice A' l' c'],by kernel_rfl,Below.refl _ _,rfl,nF⟩
  ·intro xs j1 b0 c0
   have X0:=zz b0;have k1:=b0.size;clear b0
   have f1:(xs 1)=.agg #[.bool n,.slice A l c,.bool false,.slice A' l' c']:=c0 _ (m_ 1 rfl) (by kernel_rfl)
   clear c0
   refine wpOp_step (o:=_) rfl (fun K hK=>?_)
   simp only[FL]
   go_simp
   (with_reducible refine(Read_any _ n false A A' l c l' c').mono ?_)
   rintro e wc12 ⟨M0,rfl⟩
   refine hK _ _ ⟨.agg #[.bool n,.slice A l c,.slice A' l' c'],by simp only[FL,f1] <;> kernel_rfl,M0,rfl,nF⟩
  ·intro xs l1 b0 c0
   have l0:=zz b0;have m1:=b0.size;clear b0
   clear c0
   refine wpOp_step (o:=_) rfl (fun K hK=>?_)
   simp only[FL]
   have P1_3_15:=zz (B4.out.trans (l0.out.mono B4.out.size))
   have e0:=CB.step Lb P1_3_15.out
   have Y0:=e0.cell 0 rfl
   have Z0:=e0.cell 1 rfl
   have a1:=e0.cell 2 rfl
   have b1:=e0.cell 3 rfl
   go_simp
   refine hK _ _ ⟨.agg #[.bool n2,.slice B k d,.bool false,.slice B' k' d'],by kernel_rfl,Below.refl _ _,rfl,nF⟩
  ·intro xs n1 b0 c0
   have c1:=zz b0;have o1:=b0.size;clear b0
   have f3:(xs 3)=.agg #[.bool n2,.slice B k d,.bool false,.slice B' k' d']:=c0 _ (m_ 3 rfl) (by kernel_rfl)
   clear c0
   refine wpOp_step (o:=_) rfl (fun K hK=>?_)
   simp only[FL]
   go_simp
   (with_reducible refine(Read_any _ n2 false B B' k d k' d').mono ?_)
   rintro e wc18 ⟨N0,rfl⟩
   refine hK _ _ ⟨.agg #[.bool n2,.slice B k d,.slice B' k' d'],by simp only[FL,f3] <;> kernel_rfl,N0,rfl,nF⟩
  ·intro xs p1 b0 c0
   have m0:=zz b0;have q1:=b0.size;clear b0
   have f0:(xs 0)=(.func (.func 93) #[] #[]):=c0 _ (m_ 0 rfl) (by kernel_rfl)
   have f2:(xs 2)=.agg #[.bool n,.slice A l c,.slice A' l' c']:=c0 _ (m_ 2 rfl) (by kernel_rfl)
   have f4:(xs 4)=.agg #[.bool n2,.slice B k d,.slice B' k' d']:=c0 _ (m_ 4 rfl) (by kernel_rfl)
   clear c0
   refine wpOp_step (o:=_) rfl (fun K hK=>?_)
   simp only[FL]
   go_simp
   have P1_3_20:=zz (B4.out.trans (m0.out.mono B4.out.size))
   have n0:=zz (QV.step HA.out P1_3_20.out)
   have o0:=zz (QV.step HB.out P1_3_20.out)
   (with_reducible refine(Diff_any _ _ _ q r (QV.read n0.out) (QV.read o0.out) (HLQ.out.mono (by omega) (by omega)) (HLR.out.mono (by omega) (by omega))).mono ?_)
   rintro e wc23 ⟨O0,v23,rfl,P0⟩
   refine hK _ _ ⟨v23,by simp only[FL,f0,f2,f4] <;> kernel_rfl,O0,P0,nF⟩
  ·intro xs i0 b0 c0
   have d1:=zz b0;have r1:=b0.size;clear b0
   have f5:RV i0 i0.heap.size (xs 5) (q-r):=c0 _ (m_ 5 rfl) (by kernel_rfl)
   clear c0
   refine wpOp_step (o:=_) rfl (fun K hK=>?_)
   simp only[FL]
   go_simp
   (with_reducible refine((show Calls Tryz.prog _ _ _ _ from HT.out▸ToldR_any _ _ (q-r) f5 HSZ.out)).mono ?_)
   rintro e wc25 ⟨Q0,v25,rfl,R0⟩
   refine hK _ _ ⟨.tuple #[v25,.int .i64 t.2],by kernel_rfl,Q0,⟨v25,rfl,R0⟩,nF⟩
  ·intro xs j0 b0 c0
   have e1:=zz b0;have s1:=b0.size;clear b0
   have f6:∃ u,(xs 6)=.tuple #[u,.int .i64 t.2]∧QO j0 j0.heap.size u t.1:=c0 _ (m_ 6 rfl) (by kernel_rfl)
   clear c0
   refine wpOp_step (o:=_) rfl (fun K hK=>?_)
   simp only[FL]
   obtain⟨u,hu,hl⟩:=f6;rw[hu]
   go_simp
   refine hK _ _ ⟨u,by simp only[FL,hu] <;> kernel_rfl,Below.refl _ _,hl,nF⟩
  ·intro xs k0 b0 c0
   have g1:=zz b0;have t1:=b0.size;clear b0
   have f6:∃ u,(xs 6)=.tuple #[u,.int .i64 t.2]∧QO k0 k0.heap.size u t.1:=c0 _ (m_ 6 rfl) (by kernel_rfl)
   clear c0
   refine wpOp_step (o:=_) rfl (fun K hK=>?_)
   simp only[FL]
   obtain⟨u,hu,-⟩:=f6;rw[hu]
   go_simp
   refine hK _ _ ⟨.int .i64 t.2,by simp only[FL,hu] <;> kernel_rfl,Below.refl _ _,rfl,nF⟩
 ·exact all_nil
 ·intro xs wf28 hbf hf hn hd
  have f0:(xs 0)=(.func (.func 93) #[] #[]):=hf _ (m_ 0 rfl)
  have f1:(xs 1)=.agg #[.bool n,.slice A l c,.bool false,.slice A' l' c']:=hf _ (m_ 1 rfl)
  have f2:(xs 2)=.agg #[.bool n,.slice A l c,.slice A' l' c']:=hf _ (m_ 2 rfl)
  have f3:(xs 3)=.agg #[.bool n2,.slice B k d,.bool false,.slice B' k' d']:=hf _ (m_ 3 rfl)
  have f4:(xs 4)=.agg #[.bool n2,.slice B k d,.slice B' k' d']:=hf _ (m_ 4 rfl)
  have f5:RV wf28 wf28.heap.size (xs 5) (q-r):=hf _ (m_ 5 rfl)
  have f6:∃ u,(xs 6)=.tuple #[u,.int .i64 t.2]∧QO wf28 wf28.heap.size u t.1:=hf _ (m_ 6 rfl)
  have f7:QO wf28 wf28.heap.size (xs 7) t.1:=hf _ (m_ 7 rfl)
  have f8:(xs 8)=.int .i64 t.2:=hf _ (m_ 8 rfl)
  clear hf hn hd
  simp only[FL]
  have B29:=zz hbf
  have z29:=B29.out.size
  have S0:=zz (C0.out.trans (B29.out.mono C0.out.size))
  clear hbf
  generalize xs 0=x0,xs 1=x1,xs 2=x2,xs 3=x3,xs 4=x4,xs 5=x5,xs 6=x6,xs 7=x7,xs 8=x8 at *
  obtain rfl:=f0
  obtain rfl:=f1
  obtain rfl:=f2
  obtain rfl:=f3
  obtain rfl:=f4
  clear f5
  clear f6
  have hg31:=f7;obtain⟨on31,oA31,ol31,oc31,oe31,oB31,h1,od31,rfl⟩:=QO.cells hg31;have h0:=zz hg31;clear hg31
  obtain rfl:=f8
  have P1_3_33:=zz (B4.out.trans (B29.out.mono B4.out.size))
  have d0:=CB.step Lr6 P1_3_33.out
  have p0:=d0.cell 0 rfl
  have q0:=d0.cell 1 rfl
  have r0:=d0.cell 2 rfl
  have s0:=d0.cell 3 rfl
  have q34_lt:=d0.lt
  have t0:=d0.frozen 0
  have u0:=d0.frozen 1
  have v0:=d0.frozen 2
  have y0:=d0.frozen 3
  have q35_lt:=d0.lt
  refine Early.next (i:=9) (by kernel_rfl) rfl (fun K hK=>?_)
  go_simp
  refine hK _ _ (fun _=>trivial) ?_
  clear hK K
  (try simp only[Act.put,List.setIfInBounds_toArray,List.set_cons_zero,List.set_cons_succ])
  clear p0 q0 r0 s0 q34_lt t0 u0 v0 y0 q35_lt
  refine Early.next (i:=10) (by kernel_rfl) rfl (fun K hK=>?_)
  go_simp
  refine hK _ _ (fun _=>trivial) ?_
  clear hK K
  (try simp only[Act.put,List.setIfInBounds_toArray,List.set_cons_zero,List.set_cons_succ])
  refine Early.done (by kernel_rfl) ?_ _
  (try simp only[Exit.then])
  go_wp2
  exact QB.fin rfl d0 (by simp[noInt_b,noInt_s]) S0.out (by omega) h0.out rfl rfl
set_option maxRecDepth 100000 in
set_option maxHeartbeats 4000000 in
theorem both_Prod (w:World) (va vb:Value) (q r:Rat) (ha:QV w w.heap.size va q) (hb:QV w w.heap.size vb r) (lq:QL 600 600 q) (lr:QL 600 600 r) :
  Calls Tryz.prog 91 #[va,vb,(.func (.func 94) #[] #[])] w fun e w'=>Below w.heap.size w w'∧RetQ w' (toldQ (q*r)) e:=by
 obtain⟨t,ht⟩:∃ t,t=toldQ (q*r):=⟨_,rfl⟩;rw[← ht];have HT:=zz ht;clear ht
 obtain⟨n,A,l,c,m,A',l',c',rfl⟩:=QO.cells (show QO w w.heap.size va (some q) from ha);obtain⟨n2,B,k,d,m2,B',k',d',rfl⟩:=QO.cells (show QO w w.heap.size vb (some r) from hb)
 have HA:=zz ha;have HB:=zz hb;have HLQ:=zz lq;have HLR:=zz lr;clear ha hb lq lr
 obtain⟨w0,hw0⟩:∃ w0:World,w0=(((w.alloc (.cells #[.bool n,.slice A l c,.bool m,.slice A' l' c'] 26)).alloc (.cells #[.bool n2,.slice B k d,.bool m2,.slice B' k' d'] 26)).alloc (.cells #[.bool false,.slice none 0 0,.bool false,.slice none 0 0] 26)):=⟨_,rfl⟩
 have B0:=zz (show Below w.heap.size w w0 by rw[hw0];(repeat' (first | exact Below.refl _ _ | refine Below.drew ?_ | refine Below.alloc ?_ (by first | exact Nat.le_refl _ | (simp;done) | (simp;omega)) _)))
 have z0:w.heap.size+3≤w0.heap.size:=by rw[hw0];simp
 have La:CB w0 (w.heap.size) 26 #[.bool n,.slice A l c,.bool m,.slice A' l' c']:=by rw[hw0];have h:=((CB.new w 26 #[.bool n,.slice A l c,.bool m,.slice A' l' c']).alloc (.cells #[.bool n2,.slice B k d,.bool m2,.slice B' k' d'] 26)).alloc (.cells #[.bool false,.slice none 0 0,.bool false,.slice none 0 0] 26);simpa using h
 have Lb:CB w0 (w.heap.size+1) 26 #[.bool n2,.slice B k d,.bool m2,.slice B' k' d']:=by rw[hw0];have h:=(CB.new (w.alloc (.cells #[.bool n,.slice A l c,.bool m,.slice A' l' c'] 26)) 26 #[.bool n2,.slice B k d,.bool m2,.slice B' k' d']).alloc (.cells #[.bool false,.slice none 0 0,.bool false,.slice none 0 0] 26);simpa using h
 have Lr6:CB w0 (w.heap.size+2) 26 #[.bool false,.slice none 0 0,.bool false,.slice none 0 0]:=by rw[hw0];have h:=CB.new ((w.alloc (.cells #[.bool n,.slice A l c,.bool m,.slice A' l' c'] 26)).alloc (.cells #[.bool n2,.slice B k d,.bool m2,.slice B' k' d'] 26)) 26 #[.bool false,.slice none 0 0,.bool false,.slice none 0 0];simpa using h
 replace HA:=zz (QV.step HA.out B0.out);replace HB:=zz (QV.step HB.out B0.out)
 go_enter Tryz.func91,Tryz.ntmps91
 go_upto_region 1 with (fail)
 rw[← hw0];clear hw0
 have hQ:=QV.is HA.out;have hR:=QV.is HB.out
 obtain rfl:=hQ.2.2.2;obtain rfl:=hR.2.2.2;obtain rfl:=hQ.2.2.1;obtain rfl:=hR.2.2.1;clear hQ hR
 generalize hnq:decide (q.num<0)=n at *;generalize hnr:decide (r.num<0)=n2 at *
 have HNQ:=zz hnq;have HNR:=zz hnr;clear hnq hnr
 have HC:=zz (show allQ (qOf n (ni (dig q.num.natAbs)) false (ni (dig q.den))) (qOf n2 (ni (dig r.num.natAbs)) false (ni (dig r.den)))=0 by rw[← HNQ.out,← HNR.out];exact allQ_yes (qOf_rat q HLQ.out.1 HLQ.out.2) (qOf_rat r HLR.out.1 HLR.out.2))
 have D0:=La.cell 0 rfl
 have E0:=La.cell 1 rfl
 have F0:=La.cell 2 rfl
 have G0:=La.cell 3 rfl
 have q2_lt:=La.lt
 have H0:=Lb.cell 0 rfl
 have I0:=Lb.cell 1 rfl
 have J0:=Lb.cell 2 rfl
 have K0:=Lb.cell 3 rfl
 have q3_lt:=Lb.lt
 go_wp2_with fail
 refine(qall_new _ _ n false n2 false A A' B B' l l' k k' c c' d d' (ni (dig q.num.natAbs)) (ni (dig q.den)) (ni (dig r.num.natAbs)) (ni (dig r.den)) 2 rfl (by have h:=QV.qr HA.out;rw[HNQ.out] at h;exact h) (by have h:=QV.qr HB.out;rw[HNR.out] at h;exact h)).mono ?_
 rintro e w1 ⟨A0,rfl⟩
 have B4:=zz A0
 have z4:=B4.out.size
 have C0:=zz (B0.out.trans (B4.out.mono B0.out.size))
 clear A0
 clear D0 E0 F0 G0 q2_lt H0 I0 J0 K0 q3_lt
 rw[HC.out]
 have HSZ:=zz (show QL 100000 100000 (q*r) from(QL.mul HLQ.out HLR.out).mono (by omega) (by omega))
 go_upto_region 4 with (fail)
 refine Flow.run [⟨0,17,fun fv fw=>fv=(.func (.func 94) #[] #[])⟩,⟨1,18,fun fv fw=>fv=.agg #[.bool n,.slice A l c,.bool false,.slice A' l' c']⟩,⟨2,19,fun fv fw=>fv=.agg #[.bool n,.slice A l c,.slice A' l' c']⟩,⟨3,20,fun fv fw=>fv=.agg #[.bool n2,.slice B k d,.bool false,.slice B' k' d']⟩,⟨4,21,fun fv fw=>fv=.agg #[.bool n2,.slice B k d,.slice B' k' d']⟩,⟨5,22,fun fv fw=>RV fw fw.heap.size fv (q*r)⟩,⟨6,23,fun fv fw=>∃ u,fv=.tuple #[u,.int .i64 t.2]∧QO fw fw.heap.size u t.1⟩,⟨7,24,fun fv fw=>QO fw fw.heap.size fv t.1⟩,⟨8,25,fun fv fw=>fv=.int .i64 t.2⟩] [] [] 2 (by kernel_rfl) (by kernel_rfl) (by kernel_rfl) (fun _ _ _ _ _ h=>h) ?_ ?_ ?_ ?_
 ·refine(a0 (a0 (a0 (a0 (a0 (all_cons (fun v w1 w2 h hb=>h.step hb) (all_cons (fun v w1 w2 h hb=>let ⟨u,e,h⟩:=h;⟨u,e,QO.step (o:=t.1) h hb⟩) (all_cons (fun v w1 w2 h hb=>QO.step (o:=t.1) h hb) (a0 all_nil)))))))))
 ·refine(all_cons ?_ (all_cons ?_ (all_cons ?_ (all_cons ?_ (all_cons ?_ (all_cons ?_ (all_cons ?_ (all_cons ?_ (all_cons ?_ all_nil)))))))))
  ·intro xs u1 b0 c0
   have i1:=zz b0;have v1:=b0.size;clear b0
   clear c0
   refine wpOp_step (o:=_) rfl (fun K hK=>?_)
   simp only[FL]
   go_simp
   refine hK _ _ ⟨(.func (.func 94) #[] #[]),by kernel_rfl,Below.refl _ _,rfl,nF⟩
  ·intro xs y1 b0 c0
   have L0:=zz b0;have z1:=b0.size;clear b0
   clear c0
   refine wpOp_step (o:=_) rfl (fun K hK=>?_)
   simp only[FL]
   have P1_3_9:=zz (B4.out.trans (L0.out.mono B4.out.size))
   have g0:=CB.step La P1_3_9.out
   have T0:=g0.cell 0 rfl
   have U0:=g0.cell 1 rfl
   have V0:=g0.cell 2 rfl
   have W0:=g0.cell 3 rfl
   go_simp
   refine hK _ _ ⟨.agg #[.bool n,.slice A l c,.bool false,.slice A' l' c'],by kernel_rfl,Below.refl _ _,rfl,nF⟩
  ·intro xs j1 b0 c0
   have X0:=zz b0;have k1:=b0.size;clear b0
   have f1:(xs 1)=.agg #[.bool n,.slice A l c,.bool false,.slice A' l' c']:=c0 _ (m_ 1 rfl) (by kernel_rfl)
   clear c0
   refine wpOp_step (o:=_) rfl (fun K hK=>?_)
   simp only[FL]
   go_simp
   (with_reducible refine(Read_any _ n false A A' l c l' c').mono ?_)
   rintro e wc12 ⟨M0,rfl⟩
   refine hK _ _ ⟨.agg #[.bool n,.slice A l c,.slice A' l' c'],by simp only[FL,f1] <;> kernel_rfl,M0,rfl,nF⟩
  ·intro xs l1 b0 c0
   have l0:=zz b0;have m1:=b0.size;clear b0
   clear c0
   refine wpOp_step (o:=_) rfl (fun K hK=>?_)
   simp only[FL]
   have P1_3_15:=zz (B4.out.trans (l0.out.mono B4.out.size))
   have e0:=CB.step Lb P1_3_15.out
   have Y0:=e0.cell 0 rfl
   have Z0:=e0.cell 1 rfl
   have a1:=e0.cell 2 rfl
   have b1:=e0.cell 3 rfl
   go_simp
   refine hK _ _ ⟨.agg #[.bool n2,.slice B k d,.bool false,.slice B' k' d'],by kernel_rfl,Below.refl _ _,rfl,nF⟩
  ·intro xs n1 b0 c0
   have c1:=zz b0;have o1:=b0.size;clear b0
   have f3:(xs 3)=.agg #[.bool n2,.slice B k d,.bool false,.slice B' k' d']:=c0 _ (m_ 3 rfl) (by kernel_rfl)
   clear c0
   refine wpOp_step (o:=_) rfl (fun K hK=>?_)
   simp only[FL]
   go_simp
   (with_reducible refine(Read_any _ n2 false B B' k d k' d').mono ?_)
   rintro e wc18 ⟨N0,rfl⟩
   refine hK _ _ ⟨.agg #[.bool n2,.slice B k d,.slice B' k' d'],by simp only[FL,f3] <;> kernel_rfl,N0,rfl,nF⟩
  ·intro xs p1 b0 c0
   have m0:=zz b0;have q1:=b0.size;clear b0
   have f0:(xs 0)=(.func (.func 94) #[] #[]):=c0 _ (m_ 0 rfl) (by kernel_rfl)
   have f2:(xs 2)=.agg #[.bool n,.slice A l c,.slice A' l' c']:=c0 _ (m_ 2 rfl) (by kernel_rfl)
   have f4:(xs 4)=.agg #[.bool n2,.slice B k d,.slice B' k' d']:=c0 _ (m_ 4 rfl) (by kernel_rfl)
   clear c0
   refine wpOp_step (o:=_) rfl (fun K hK=>?_)
   simp only[FL]
   go_simp
   have P1_3_20:=zz (B4.out.trans (m0.out.mono B4.out.size))
   have n0:=zz (QV.step HA.out P1_3_20.out)
   have o0:=zz (QV.step HB.out P1_3_20.out)
   (with_reducible refine(Prod_any _ _ _ q r (QV.read n0.out) (QV.read o0.out) (HLQ.out.mono (by omega) (by omega)) (HLR.out.mono (by omega) (by omega))).mono ?_)
   rintro e wc23 ⟨O0,v23,rfl,P0⟩
   refine hK _ _ ⟨v23,by simp only[FL,f0,f2,f4] <;> kernel_rfl,O0,P0,nF⟩
  ·intro xs i0 b0 c0
   have d1:=zz b0;have r1:=b0.size;clear b0
   have f5:RV i0 i0.heap.size (xs 5) (q*r):=c0 _ (m_ 5 rfl) (by kernel_rfl)
   clear c0
   refine wpOp_step (o:=_) rfl (fun K hK=>?_)
   simp only[FL]
   go_simp
   (with_reducible refine((show Calls Tryz.prog _ _ _ _ from HT.out▸ToldR_any _ _ (q*r) f5 HSZ.out)).mono ?_)
   rintro e wc25 ⟨Q0,v25,rfl,R0⟩
   refine hK _ _ ⟨.tuple #[v25,.int .i64 t.2],by kernel_rfl,Q0,⟨v25,rfl,R0⟩,nF⟩
  ·intro xs j0 b0 c0
   have e1:=zz b0;have s1:=b0.size;clear b0
   have f6:∃ u,(xs 6)=.tuple #[u,.int .i64 t.2]∧QO j0 j0.heap.size u t.1:=c0 _ (m_ 6 rfl) (by kernel_rfl)
   clear c0
   refine wpOp_step (o:=_) rfl (fun K hK=>?_)
   simp only[FL]
   obtain⟨u,hu,hl⟩:=f6;rw[hu]
   go_simp
   refine hK _ _ ⟨u,by simp only[FL,hu] <;> kernel_rfl,Below.refl _ _,hl,nF⟩
  ·intro xs k0 b0 c0
   have g1:=zz b0;have t1:=b0.size;clear b0
   have f6:∃ u,(xs 6)=.tuple #[u,.int .i64 t.2]∧QO k0 k0.heap.size u t.1:=c0 _ (m_ 6 rfl) (by kernel_rfl)
   clear c0
   refine wpOp_step (o:=_) rfl (fun K hK=>?_)
   simp only[FL]
   obtain⟨u,hu,-⟩:=f6;rw[hu]
   go_simp
   refine hK _ _ ⟨.int .i64 t.2,by simp only[FL,hu] <;> kernel_rfl,Below.refl _ _,rfl,nF⟩
 ·exact all_nil
 ·intro xs wf28 hbf hf hn hd
  have f0:(xs 0)=(.func (.func 94) #[] #[]):=hf _ (m_ 0 rfl)
  have f1:(xs 1)=.agg #[.bool n,.slice A l c,.bool false,.slice A' l' c']:=hf _ (m_ 1 rfl)
  have f2:(xs 2)=.agg #[.bool n,.slice A l c,.slice A' l' c']:=hf _ (m_ 2 rfl)
  have f3:(xs 3)=.agg #[.bool n2,.slice B k d,.bool false,.slice B' k' d']:=hf _ (m_ 3 rfl)
  have f4:(xs 4)=.agg #[.bool n2,.slice B k d,.slice B' k' d']:=hf _ (m_ 4 rfl)
  have f5:RV wf28 wf28.heap.size (xs 5) (q*r):=hf _ (m_ 5 rfl)
  have f6:∃ u,(xs 6)=.tuple #[u,.int .i64 t.2]∧QO wf28 wf28.heap.size u t.1:=hf _ (m_ 6 rfl)
  have f7:QO wf28 wf28.heap.size (xs 7) t.1:=hf _ (m_ 7 rfl)
  have f8:(xs 8)=.int .i64 t.2:=hf _ (m_ 8 rfl)
  clear hf hn hd
  simp only[FL]
  have B29:=zz hbf
  have z29:=B29.out.size
  have S0:=zz (C0.out.trans (B29.out.mono C0.out.size))
  clear hbf
  generalize xs 0=x0,xs 1=x1,xs 2=x2,xs 3=x3,xs 4=x4,xs 5=x5,xs 6=x6,xs 7=x7,xs 8=x8 at *
  obtain rfl:=f0
  obtain rfl:=f1
  obtain rfl:=f2
  obtain rfl:=f3
  obtain rfl:=f4
  clear f5
  clear f6
  have hg31:=f7;obtain⟨on31,oA31,ol31,oc31,oe31,oB31,h1,od31,rfl⟩:=QO.cells hg31;have h0:=zz hg31;clear hg31
  obtain rfl:=f8
  have P1_3_33:=zz (B4.out.trans (B29.out.mono B4.out.size))
  have d0:=CB.step Lr6 P1_3_33.out
  have p0:=d0.cell 0 rfl
  have q0:=d0.cell 1 rfl
  have r0:=d0.cell 2 rfl
  have s0:=d0.cell 3 rfl
  have q34_lt:=d0.lt
  have t0:=d0.frozen 0
  have u0:=d0.frozen 1
  have v0:=d0.frozen 2
  have y0:=d0.frozen 3
  have q35_lt:=d0.lt
  refine Early.next (i:=9) (by kernel_rfl) rfl (fun K hK=>?_)
  go_simp
  refine hK _ _ (fun _=>trivial) ?_
  clear hK K
  (try simp only[Act.put,List.setIfInBounds_toArray,List.set_cons_zero,List.set_cons_succ])
  clear p0 q0 r0 s0 q34_lt t0 u0 v0 y0 q35_lt
  refine Early.next (i:=10) (by kernel_rfl) rfl (fun K hK=>?_)
  go_simp
  refine hK _ _ (fun _=>trivial) ?_
  clear hK K
  (try simp only[Act.put,List.setIfInBounds_toArray,List.set_cons_zero,List.set_cons_succ])
  refine Early.done (by kernel_rfl) ?_ _
  (try simp only[Exit.then])
  go_wp2
  exact QB.fin rfl d0 (by simp[noInt_b,noInt_s]) S0.out (by omega) h0.out rfl rfl
set_option maxRecDepth 100000 in
set_option maxHeartbeats 4000000 in
theorem both_Quo (w:World) (va vb:Value) (q r:Rat) (ha:QV w w.heap.size va q) (hb:QV w w.heap.size vb r) (lq:QL 600 600 q) (lr:QL 600 600 r) (h0:r≠0) :
  Calls Tryz.prog 91 #[va,vb,(.func (.func 95) #[] #[])] w fun e w'=>Below w.heap.size w w'∧RetQ w' (toldQ (q / r)) e:=by
 obtain⟨t,ht⟩:∃ t,t=toldQ (q / r):=⟨_,rfl⟩;rw[← ht];have HT:=zz ht;clear ht
 obtain⟨n,A,l,c,m,A',l',c',rfl⟩:=QO.cells (show QO w w.heap.size va (some q) from ha);obtain⟨n2,B,k,d,m2,B',k',d',rfl⟩:=QO.cells (show QO w w.heap.size vb (some r) from hb)
 have HA:=zz ha;have HB:=zz hb;have HLQ:=zz lq;have HLR:=zz lr;clear ha hb lq lr
 obtain⟨w0,hw0⟩:∃ w0:World,w0=(((w.alloc (.cells #[.bool n,.slice A l c,.bool m,.slice A' l' c'] 26)).alloc (.cells #[.bool n2,.slice B k d,.bool m2,.slice B' k' d'] 26)).alloc (.cells #[.bool false,.slice none 0 0,.bool false,.slice none 0 0] 26)):=⟨_,rfl⟩
 have B0:=zz (show Below w.heap.size w w0 by rw[hw0];(repeat' (first | exact Below.refl _ _ | refine Below.drew ?_ | refine Below.alloc ?_ (by first | exact Nat.le_refl _ | (simp;done) | (simp;omega)) _)))
 have z0:w.heap.size+3≤w0.heap.size:=by rw[hw0];simp
 have La:CB w0 (w.heap.size) 26 #[.bool n,.slice A l c,.bool m,.slice A' l' c']:=by rw[hw0];have h:=((CB.new w 26 #[.bool n,.slice A l c,.bool m,.slice A' l' c']).alloc (.cells #[.bool n2,.slice B k d,.bool m2,.slice B' k' d'] 26)).alloc (.cells #[.bool false,.slice none 0 0,.bool false,.slice none 0 0] 26);simpa using h
 have Lb:CB w0 (w.heap.size+1) 26 #[.bool n2,.slice B k d,.bool m2,.slice B' k' d']:=by rw[hw0];have h:=(CB.new (w.alloc (.cells #[.bool n,.slice A l c,.bool m,.slice A' l' c'] 26)) 26 #[.bool n2,.slice B k d,.bool m2,.slice B' k' d']).alloc (.cells #[.bool false,.slice none 0 0,.bool false,.slice none 0 0] 26);simpa using h
 have Lr6:CB w0 (w.heap.size+2) 26 #[.bool false,.slice none 0 0,.bool false,.slice none 0 0]:=by rw[hw0];have h:=CB.new ((w.alloc (.cells #[.bool n,.slice A l c,.bool m,.slice A' l' c'] 26)).alloc (.cells #[.bool n2,.slice B k d,.bool m2,.slice B' k' d'] 26)) 26 #[.bool false,.slice none 0 0,.bool false,.slice none 0 0];simpa using h
 replace HA:=zz (QV.step HA.out B0.out);replace HB:=zz (QV.step HB.out B0.out)
 have HR0:=zz h0;clear h0
 go_enter Tryz.func91,Tryz.ntmps91
 go_upto_region 1 with (fail)
 rw[← hw0];clear hw0
 have hQ:=QV.is HA.out;have hR:=QV.is HB.out
 obtain rfl:=hQ.2.2.2;obtain rfl:=hR.2.2.2;obtain rfl:=hQ.2.2.1;obtain rfl:=hR.2.2.1;clear hQ hR
 generalize hnq:decide (q.num<0)=n at *;generalize hnr:decide (r.num<0)=n2 at *
 have HNQ:=zz hnq;have HNR:=zz hnr;clear hnq hnr
 have HC:=zz (show allQ (qOf n (ni (dig q.num.natAbs)) false (ni (dig q.den))) (qOf n2 (ni (dig r.num.natAbs)) false (ni (dig r.den)))=0 by rw[← HNQ.out,← HNR.out];exact allQ_yes (qOf_rat q HLQ.out.1 HLQ.out.2) (qOf_rat r HLR.out.1 HLR.out.2))
 have E0:=La.cell 0 rfl
 have F0:=La.cell 1 rfl
 have G0:=La.cell 2 rfl
 have H0:=La.cell 3 rfl
 have q2_lt:=La.lt
 have I0:=Lb.cell 0 rfl
 have J0:=Lb.cell 1 rfl
 have K0:=Lb.cell 2 rfl
 have L0:=Lb.cell 3 rfl
 have q3_lt:=Lb.lt
 go_wp2_with fail
 refine(qall_new _ _ n false n2 false A A' B B' l l' k k' c c' d d' (ni (dig q.num.natAbs)) (ni (dig q.den)) (ni (dig r.num.natAbs)) (ni (dig r.den)) 2 rfl (by have h:=QV.qr HA.out;rw[HNQ.out] at h;exact h) (by have h:=QV.qr HB.out;rw[HNR.out] at h;exact h)).mono ?_
 rintro e w1 ⟨C0,rfl⟩
 have B4:=zz C0
 have z4:=B4.out.size
 have D0:=zz (B0.out.trans (B4.out.mono B0.out.size))
 clear C0
 clear E0 F0 G0 H0 q2_lt I0 J0 K0 L0 q3_lt
 rw[HC.out]
 have HSZ:=zz (show QL 100000 100000 (q / r) from(QL.div HLQ.out HLR.out HR0.out).mono (by omega) (by omega))
 go_upto_region 4 with (fail)
 refine Flow.run [⟨0,17,fun fv fw=>fv=(.func (.func 95) #[] #[])⟩,⟨1,18,fun fv fw=>fv=.agg #[.bool n,.slice A l c,.bool false,.slice A' l' c']⟩,⟨2,19,fun fv fw=>fv=.agg #[.bool n,.slice A l c,.slice A' l' c']⟩,⟨3,20,fun fv fw=>fv=.agg #[.bool n2,.slice B k d,.bool false,.slice B' k' d']⟩,⟨4,21,fun fv fw=>fv=.agg #[.bool n2,.slice B k d,.slice B' k' d']⟩,⟨5,22,fun fv fw=>RV fw fw.heap.size fv (q / r)⟩,⟨6,23,fun fv fw=>∃ u,fv=.tuple #[u,.int .i64 t.2]∧QO fw fw.heap.size u t.1⟩,⟨7,24,fun fv fw=>QO fw fw.heap.size fv t.1⟩,⟨8,25,fun fv fw=>fv=.int .i64 t.2⟩] [] [] 2 (by kernel_rfl) (by kernel_rfl) (by kernel_rfl) (fun _ _ _ _ _ h=>h) ?_ ?_ ?_ ?_
 ·refine(a0 (a0 (a0 (a0 (a0 (all_cons (fun v w1 w2 h hb=>h.step hb) (all_cons (fun v w1 w2 h hb=>let ⟨u,e,h⟩:=h;⟨u,e,QO.step (o:=t.1) h hb⟩) (all_cons (fun v w1 w2 h hb=>QO.step (o:=t.1) h hb) (a0 all_nil)))))))))
 ·refine(all_cons ?_ (all_cons ?_ (all_cons ?_ (all_cons ?_ (all_cons ?_ (all_cons ?_ (all_cons ?_ (all_cons ?_ (all_cons ?_ all_nil)))))))))
  ·intro xs v1 b0 c0
   have j1:=zz b0;have y1:=b0.size;clear b0
   clear c0
   refine wpOp_step (o:=_) rfl (fun K hK=>?_)
   simp only[FL]
   go_simp
   refine hK _ _ ⟨(.func (.func 95) #[] #[]),by kernel_rfl,Below.refl _ _,rfl,nF⟩
  ·intro xs z1 b0 c0
   have M0:=zz b0;have A1:=b0.size;clear b0
   clear c0
   refine wpOp_step (o:=_) rfl (fun K hK=>?_)
   simp only[FL]
   have P1_3_9:=zz (B4.out.trans (M0.out.mono B4.out.size))
   have g0:=CB.step La P1_3_9.out
   have U0:=g0.cell 0 rfl
   have V0:=g0.cell 1 rfl
   have W0:=g0.cell 2 rfl
   have X0:=g0.cell 3 rfl
   go_simp
   refine hK _ _ ⟨.agg #[.bool n,.slice A l c,.bool false,.slice A' l' c'],by kernel_rfl,Below.refl _ _,rfl,nF⟩
  ·intro xs k1 b0 c0
   have Y0:=zz b0;have l1:=b0.size;clear b0
   have f1:(xs 1)=.agg #[.bool n,.slice A l c,.bool false,.slice A' l' c']:=c0 _ (m_ 1 rfl) (by kernel_rfl)
   clear c0
   refine wpOp_step (o:=_) rfl (fun K hK=>?_)
   simp only[FL]
   go_simp
   (with_reducible refine(Read_any _ n false A A' l c l' c').mono ?_)
   rintro e wc12 ⟨N0,rfl⟩
   refine hK _ _ ⟨.agg #[.bool n,.slice A l c,.slice A' l' c'],by simp only[FL,f1] <;> kernel_rfl,N0,rfl,nF⟩
  ·intro xs m1 b0 c0
   have m0:=zz b0;have n1:=b0.size;clear b0
   clear c0
   refine wpOp_step (o:=_) rfl (fun K hK=>?_)
   simp only[FL]
   have P1_3_15:=zz (B4.out.trans (m0.out.mono B4.out.size))
   have e0:=CB.step Lb P1_3_15.out
   have Z0:=e0.cell 0 rfl
   have a1:=e0.cell 1 rfl
   have b1:=e0.cell 2 rfl
   have c1:=e0.cell 3 rfl
   go_simp
   refine hK _ _ ⟨.agg #[.bool n2,.slice B k d,.bool false,.slice B' k' d'],by kernel_rfl,Below.refl _ _,rfl,nF⟩
  ·intro xs o1 b0 c0
   have d1:=zz b0;have p1:=b0.size;clear b0
   have f3:(xs 3)=.agg #[.bool n2,.slice B k d,.bool false,.slice B' k' d']:=c0 _ (m_ 3 rfl) (by kernel_rfl)
   clear c0
   refine wpOp_step (o:=_) rfl (fun K hK=>?_)
   simp only[FL]
   go_simp
   (with_reducible refine(Read_any _ n2 false B B' k d k' d').mono ?_)
   rintro e wc18 ⟨O0,rfl⟩
   refine hK _ _ ⟨.agg #[.bool n2,.slice B k d,.slice B' k' d'],by simp only[FL,f3] <;> kernel_rfl,O0,rfl,nF⟩
  ·intro xs q1 b0 c0
   have n0:=zz b0;have r1:=b0.size;clear b0
   have f0:(xs 0)=(.func (.func 95) #[] #[]):=c0 _ (m_ 0 rfl) (by kernel_rfl)
   have f2:(xs 2)=.agg #[.bool n,.slice A l c,.slice A' l' c']:=c0 _ (m_ 2 rfl) (by kernel_rfl)
   have f4:(xs 4)=.agg #[.bool n2,.slice B k d,.slice B' k' d']:=c0 _ (m_ 4 rfl) (by kernel_rfl)
   clear c0
   refine wpOp_step (o:=_) rfl (fun K hK=>?_)
   simp only[FL]
   go_simp
   have P1_3_20:=zz (B4.out.trans (n0.out.mono B4.out.size))
   have o0:=zz (QV.step HA.out P1_3_20.out)
   have p0:=zz (QV.step HB.out P1_3_20.out)
   (with_reducible refine(Quo_any _ _ _ q r (QV.read o0.out) (QV.read p0.out) HR0.out (HLQ.out.mono (by omega) (by omega)) (HLR.out.mono (by omega) (by omega))).mono ?_)
   rintro e wc23 ⟨P0,v23,rfl,Q0⟩
   refine hK _ _ ⟨v23,by simp only[FL,f0,f2,f4] <;> kernel_rfl,P0,Q0,nF⟩
  ·intro xs j0 b0 c0
   have e1:=zz b0;have s1:=b0.size;clear b0
   have f5:RV j0 j0.heap.size (xs 5) (q / r):=c0 _ (m_ 5 rfl) (by kernel_rfl)
   clear c0
   refine wpOp_step (o:=_) rfl (fun K hK=>?_)
   simp only[FL]
   go_simp
   (with_reducible refine((show Calls Tryz.prog _ _ _ _ from HT.out▸ToldR_any _ _ (q / r) f5 HSZ.out)).mono ?_)
   rintro e wc25 ⟨R0,v25,rfl,S0⟩
   refine hK _ _ ⟨.tuple #[v25,.int .i64 t.2],by kernel_rfl,R0,⟨v25,rfl,S0⟩,nF⟩
  ·intro xs k0 b0 c0
   have g1:=zz b0;have t1:=b0.size;clear b0
   have f6:∃ u,(xs 6)=.tuple #[u,.int .i64 t.2]∧QO k0 k0.heap.size u t.1:=c0 _ (m_ 6 rfl) (by kernel_rfl)
   clear c0
   refine wpOp_step (o:=_) rfl (fun K hK=>?_)
   simp only[FL]
   obtain⟨u,hu,hl⟩:=f6;rw[hu]
   go_simp
   refine hK _ _ ⟨u,by simp only[FL,hu] <;> kernel_rfl,Below.refl _ _,hl,nF⟩
  ·intro xs l0 b0 c0
   have h1:=zz b0;have u1:=b0.size;clear b0
   have f6:∃ u,(xs 6)=.tuple #[u,.int .i64 t.2]∧QO l0 l0.heap.size u t.1:=c0 _ (m_ 6 rfl) (by kernel_rfl)
   clear c0
   refine wpOp_step (o:=_) rfl (fun K hK=>?_)
   simp only[FL]
   obtain⟨u,hu,-⟩:=f6;rw[hu]
   go_simp
   refine hK _ _ ⟨.int .i64 t.2,by simp only[FL,hu] <;> kernel_rfl,Below.refl _ _,rfl,nF⟩
 ·exact all_nil
 ·intro xs wf28 hbf hf hn hd
  have f0:(xs 0)=(.func (.func 95) #[] #[]):=hf _ (m_ 0 rfl)
  have f1:(xs 1)=.agg #[.bool n,.slice A l c,.bool false,.slice A' l' c']:=hf _ (m_ 1 rfl)
  have f2:(xs 2)=.agg #[.bool n,.slice A l c,.slice A' l' c']:=hf _ (m_ 2 rfl)
  have f3:(xs 3)=.agg #[.bool n2,.slice B k d,.bool false,.slice B' k' d']:=hf _ (m_ 3 rfl)
  have f4:(xs 4)=.agg #[.bool n2,.slice B k d,.slice B' k' d']:=hf _ (m_ 4 rfl)
  have f5:RV wf28 wf28.heap.size (xs 5) (q / r):=hf _ (m_ 5 rfl)
  have f6:∃ u,(xs 6)=.tuple #[u,.int .i64 t.2]∧QO wf28 wf28.heap.size u t.1:=hf _ (m_ 6 rfl)
  have f7:QO wf28 wf28.heap.size (xs 7) t.1:=hf _ (m_ 7 rfl)
  have f8:(xs 8)=.int .i64 t.2:=hf _ (m_ 8 rfl)
  clear hf hn hd
  simp only[FL]
  have B29:=zz hbf
  have z29:=B29.out.size
  have T0:=zz (D0.out.trans (B29.out.mono D0.out.size))
  clear hbf
  generalize xs 0=x0,xs 1=x1,xs 2=x2,xs 3=x3,xs 4=x4,xs 5=x5,xs 6=x6,xs 7=x7,xs 8=x8 at *
  obtain rfl:=f0
  obtain rfl:=f1
  obtain rfl:=f2
  obtain rfl:=f3
  obtain rfl:=f4
  clear f5
  clear f6
  have hg31:=f7;obtain⟨on31,oA31,ol31,oc31,oe31,oB31,i1,od31,rfl⟩:=QO.cells hg31;have i0:=zz hg31;clear hg31
  obtain rfl:=f8
  have P1_3_33:=zz (B4.out.trans (B29.out.mono B4.out.size))
  have d0:=CB.step Lr6 P1_3_33.out
  have q0:=d0.cell 0 rfl
  have r0:=d0.cell 1 rfl
  have s0:=d0.cell 2 rfl
  have t0:=d0.cell 3 rfl
  have q34_lt:=d0.lt
  have u0:=d0.frozen 0
  have v0:=d0.frozen 1
  have y0:=d0.frozen 2
  have A0:=d0.frozen 3
  have q35_lt:=d0.lt
  refine Early.next (i:=9) (by kernel_rfl) rfl (fun K hK=>?_)
  go_simp
  refine hK _ _ (fun _=>trivial) ?_
  clear hK K
  (try simp only[Act.put,List.setIfInBounds_toArray,List.set_cons_zero,List.set_cons_succ])
  clear q0 r0 s0 t0 q34_lt u0 v0 y0 A0 q35_lt
  refine Early.next (i:=10) (by kernel_rfl) rfl (fun K hK=>?_)
  go_simp
  refine hK _ _ (fun _=>trivial) ?_
  clear hK K
  (try simp only[Act.put,List.setIfInBounds_toArray,List.set_cons_zero,List.set_cons_succ])
  refine Early.done (by kernel_rfl) ?_ _
  (try simp only[Exit.then])
  go_wp2
  exact QB.fin rfl d0 (by simp[noInt_b,noInt_s]) T0.out (by omega) i0.out rfl rfl
end Go.Proofs.YtioclokmbgmamaaGreatDoor
