/- Texts put together: Layer 04: both (written by gen_qi.py). Layer 04: Add, Sub, Mul, Div, Neg, Abs, Same, Sign (written by gen_qk.py). -/
import Derived.Test.YtdigbofiebfkeaaGreatDoorQI
import Derived.Test.YtdigbofiebfkeaaGreatDoorQJ
namespace Go.Proofs.YtdigbofiebfkeaaGreatDoor
open Go Go.RowKit Dig
set_option maxRecDepth 100000
set_option maxHeartbeats 4000000
set_option linter.unusedSimpArgs false
theorem both_Diff (w:World) (va vb:Value) (q r:Rat) (ha:QV w w.heap.size va q) (hb:QV w w.heap.size vb r) (lq:QL 600 600 q) (lr:QL 600 600 r) :
  Calls Tryz.prog 51 #[va,vb,(.func (.func 41) #[] #[])] w fun e w'=>Below w.heap.size w w'∧RetQ w' (toldQ (q-r)) e:=by
 obtain⟨t,ht⟩:∃ t,t=toldQ (q-r):=⟨_,rfl⟩;rw[← ht];have HT:=zz ht;clear ht;obtain⟨n,A,l,c,m,A',l',c',rfl⟩:=QO.cells (show QO w w.heap.size va (some q) from ha);obtain⟨n2,B,k,d,m2,B',k',d',rfl⟩:=QO.cells (show QO w w.heap.size vb (some r) from hb);have HA:=zz ha;have HB:=zz hb;have L0:=zz lq;have M0:=zz lr;clear ha hb lq lr;obtain⟨w0,hw0⟩:∃ w0:World,w0=(((w.alloc (.cells #[.bool n,.slice A l c,.bool m,.slice A' l' c'] 33)).alloc (.cells #[.bool n2,.slice B k d,.bool m2,.slice B' k' d'] 33)).alloc (.cells #[.bool false,.slice none 0 0,.bool false,.slice none 0 0] 33)):=⟨_,rfl⟩;have B0:=zz (n3_b hw0);have z0:=n3_z hw0;have La:=n3_0 hw0;have Lb:=n3_1 hw0;have Lr6:=n3_2 hw0;replace HA:=zz (QV.step HA.out B0.out);replace HB:=zz (QV.step HB.out B0.out);go_enter Tryz.func51,Tryz.ntmps51
 go_upto_region 1 with (fail)
 rw[← hw0];clear hw0;have hQ:=QV.is HA.out;have hR:=QV.is HB.out;obtain rfl:=hQ.2.2.2;obtain rfl:=hR.2.2.2;obtain rfl:=hQ.2.2.1;obtain rfl:=hR.2.2.1;clear hQ hR;generalize hnq:decide (q.num<0)=n at *;generalize hnr:decide (r.num<0)=n2 at *
 have U0:=zz hnq;have V0:=zz hnr;clear hnq hnr;have HC:=zz (show allQ (qOf n (ni (dig q.num.natAbs)) false (ni (dig q.den))) (qOf n2 (ni (dig r.num.natAbs)) false (ni (dig r.den)))=0 by rw[← U0.out,← V0.out];exact allQ_yes (qOf_rat q L0.out.1 L0.out.2) (qOf_rat r M0.out.1 M0.out.2));have o0:=La.cell 0 rfl;have p0:=La.cell 1 rfl;have q0:=La.cell 2 rfl;have s0:=La.cell 3 rfl;have R0:=La.lt;have t0:=Lb.cell 0 rfl;have u0:=Lb.cell 1 rfl;have v0:=Lb.cell 2 rfl;have x0:=Lb.cell 3 rfl;have T0:=Lb.lt;go_wp2_with fail
 refine(qall_new _ _ n false n2 false A A' B B' l l' k k' c c' d d' (ni (dig q.num.natAbs)) (ni (dig q.den)) (ni (dig r.num.natAbs)) (ni (dig r.den)) 2 rfl (by have h:=QV.qr HA.out;rw[U0.out] at h;exact h) (by have h:=QV.qr HB.out;rw[V0.out] at h;exact h)).mono ?_;rintro e w1 ⟨n0,rfl⟩;have B4:=zz n0;have z4:=B4.out.size;have H0:=tr B0 B4;clear n0;clear o0 p0 q0 s0 R0 t0 u0 v0 x0 T0;rw[HC.out];have W0:=zz (show QL 300000000 300000000 (q-r) from(QL.sub L0.out M0.out).mono (by omega) (by omega));go_upto_region 4 with (fail)
 have y0:=CB.step La B4.out;have A0:=CB.step Lb B4.out;refine Sweep.r0 [se 0 17 [] ((.func (.func 41) #[] #[])),se 1 18 [] (.agg #[.bool n,.slice A l c,.bool false,.slice A' l' c']),se 2 19 [1] (.agg #[.bool n,.slice A l c,.slice A' l' c']),se 3 20 [] (.agg #[.bool n2,.slice B k d,.bool false,.slice B' k' d']),se 4 21 [3] (.agg #[.bool n2,.slice B k d,.slice B' k' d']),sf 5 22 [0,2,4] (fun fv fw=>RV fw fw.heap.size fv (q-r)),sf 6 23 [5] (fun fv fw=>∃ u,fv=.tuple #[u,.int .i64 t.2]∧QO fw fw.heap.size u t.1),sf 7 24 [6] (fun fv fw=>QO fw fw.heap.size fv t.1),se 8 25 [6] (.int .i64 t.2)] 2 (SB y0 (SB A0 S0)) (MA (fun _ _ _ h hb=>h.step hb) (MA (fun _ _ _ h hb=>let ⟨u,e,h⟩:=h;⟨u,e,QO.step (o:=t.1) h hb⟩) (MA (fun _ _ _ h hb=>QO.step (o:=t.1) h hb) trivial))) ?_ ?_
 ·intro xs a_ hA;simp only[SX] at hA
  iterate 9 (refine ac ?_ ?_;rotate_left)
  exact all_nil
  all_goals (intro wk hb;simp only[SX,↓reduceIte,Nat.reduceEqDiff,Nat.reduceAdd];have b_:=zz hb;have z_:=hb.size;clear hb;subst hA)
  any_goals (intros;refine wpOp_step rfl ?_;intro K hK;go_simp;refine hK _ _ ⟨_,?_,Below.refl _ _,rfl⟩;simp only[*,FL] <;> kernel_rfl)
  ·intro f1;intros;refine wpOp_step (o:=_) rfl (fun K hK=>?_);go_simp;(with_reducible refine(Read_any _ n false A A' l c l' c').mono ?_)
   rintro e wc8 ⟨I0,rfl⟩;refine hK _ _ ⟨.agg #[.bool n,.slice A l c,.slice A' l' c'],by simp only[FL,f1] <;> kernel_rfl,I0,rfl⟩
  ·intro f3;intros;refine wpOp_step (o:=_) rfl (fun K hK=>?_);go_simp;(with_reducible refine(Read_any _ n2 false B B' k d k' d').mono ?_)
   rintro e wc9 ⟨J0,rfl⟩;refine hK _ _ ⟨.agg #[.bool n2,.slice B k d,.slice B' k' d'],by simp only[FL,f3] <;> kernel_rfl,J0,rfl⟩
  ·intro f0 f2 f4;intros;refine wpOp_step (o:=_) rfl (fun K hK=>?_);go_simp;have P1_3_10:=tr B4 b_;have c0:=zz (QV.step HA.out P1_3_10.out);have d0:=zz (QV.step HB.out P1_3_10.out);(with_reducible refine(Diff_any _ _ _ q r (QV.read c0.out) (QV.read d0.out) (L0.out.mono (by omega) (by omega)) (M0.out.mono (by omega) (by omega))).mono ?_)
   rintro e wc13 ⟨C0,v13,rfl,D0⟩;refine hK _ _ ⟨v13,by simp only[FL,f0,f2,f4] <;> kernel_rfl,C0,D0⟩
  ·intro f5;intros;refine wpOp_step (o:=_) rfl (fun K hK=>?_);go_simp;(with_reducible refine((show Calls Tryz.prog _ _ _ _ from HT.out▸ToldR_any _ _ (q-r) f5 W0.out)).mono ?_)
   rintro e wc14 ⟨E0,v14,rfl,F0⟩;refine hK _ _ ⟨.tuple #[v14,.int .i64 t.2],by kernel_rfl,E0,⟨v14,rfl,F0⟩⟩
  ·intro f6;intros;refine wpOp_step (o:=_) rfl (fun K hK=>?_);obtain⟨u,hu,hl⟩:=f6;rw[hu];go_simp;refine hK _ _ ⟨u,by simp only[FL,hu] <;> kernel_rfl,Below.refl _ _,hl⟩
  ·intro f6;intros;refine wpOp_step (o:=_) rfl (fun K hK=>?_);obtain⟨u,hu,-⟩:=f6;rw[hu];go_simp;refine hK _ _ ⟨.int .i64 t.2,by simp only[FL,hu] <;> kernel_rfl,Below.refl _ _,rfl⟩
 ·intro xs Z0 hbf;simp only[SY];have B16:=zz hbf;have z16:=B16.out.size;have G0:=tr H0 B16;clear hbf;generalize xs 5=x5,xs 6=x6,xs 7=x7;rintro f5 f6 f7;clear f5;clear f6;have hg18:=f7;obtain⟨a1,b1,c1,d1,e1,g1,K0,h1,rfl⟩:=QO.cells hg18;have b0:=zz hg18;clear hg18;have P1_3_20:=tr B4 B16;have a0:=CB.step Lr6 P1_3_20.out;have e0:=a0.cell 0 rfl;have g0:=a0.cell 1 rfl;have h0:=a0.cell 2 rfl;have i0:=a0.cell 3 rfl;have P0:=a0.lt;have j0:=a0.frozen 0;have k0:=a0.frozen 1;have l0:=a0.frozen 2;have m0:=a0.frozen 3;have Q0:=a0.lt;refine EN 9 rfl fun K hK=>?_;go_simp;refine hK _ _ ?_;clear hK K;(try simp only[PT])
  clear e0 g0 h0 i0 P0 j0 k0 l0 m0 Q0;refine EN 10 rfl fun K hK=>?_
  go_simp;refine hK _ _ ?_;clear hK K;(try simp only[PT])
  refine ED ?_;(try simp only[Exit.then])
  go_wp2;exact QB.fin rfl a0 (by simp[noInt_b,noInt_s]) G0.out (by omega) b0.out rfl rfl
theorem QSub_good (w:World) (va vb:Value) (q r:Rat) (ha:QV w w.heap.size va q) (hb:QV w w.heap.size vb r) (lq:QL 600 600 q) (lr:QL 600 600 r) :
  Calls Tryz.prog 11 #[va,vb] w fun e w'=>Below w.heap.size w w'∧RetQ w' (toldQ (q-r)) e:=by
 obtain⟨t,ht⟩:∃ t,t=toldQ (q-r):=⟨_,rfl⟩;rw[← ht];have HT:=zz ht;clear ht;obtain⟨n,A,l,c,m,A',l',c',rfl⟩:=QO.cells (show QO w w.heap.size va (some q) from ha);obtain⟨n2,B,k,d,m2,B',k',d',rfl⟩:=QO.cells (show QO w w.heap.size vb (some r) from hb);have HA:=zz ha;have HB:=zz hb;have E0:=zz lq;have F0:=zz lr;clear ha hb lq lr;obtain⟨w0,hw0⟩:∃ w0:World,w0=(((w.alloc (.cells #[.bool n,.slice A l c,.bool m,.slice A' l' c'] 33)).alloc (.cells #[.bool n2,.slice B k d,.bool m2,.slice B' k' d'] 33)).alloc (.cells #[.bool false,.slice none 0 0,.bool false,.slice none 0 0] 33)):=⟨_,rfl⟩;have B0:=zz (n3_b hw0);have z0:=n3_z hw0;have La:=n3_0 hw0;have Lb:=n3_1 hw0;have Lr4:=n3_2 hw0;replace HA:=zz (QV.step HA.out B0.out);replace HB:=zz (QV.step HB.out B0.out);go_enter Tryz.func11,Tryz.ntmps11
 go_upto_region 1 with (fail)
 rw[← hw0];clear hw0;have d0:=La.cell 0 rfl;have e0:=La.cell 1 rfl;have f0:=La.cell 2 rfl;have g0:=La.cell 3 rfl;have v0:=La.lt;have h0:=Lb.cell 0 rfl;have i0:=Lb.cell 1 rfl;have j0:=Lb.cell 2 rfl;have k0:=Lb.cell 3 rfl;have x0:=Lb.lt;go_wp2_with fail
 refine(both_Diff _ _ _ q r HA.out HB.out E0.out F0.out).mono ?_;rintro e w1 ⟨c0,v,rfl,hv⟩;have B4:=zz c0;have z4:=B4.out.size;have t0:=tr B0 B4;clear c0;clear d0 e0 f0 g0 v0 h0 i0 j0 k0 x0;rw[← HT.out] at hv ⊢;have hg6:=hv;obtain⟨H0,I0,J0,K0,L0,M0,u0,N0,rfl⟩:=QO.cells hg6;have b0:=zz hg6;clear hg6;have a0:=CB.step Lr4 B4.out;have l0:=a0.cell 0 rfl;have m0:=a0.cell 1 rfl;have n0:=a0.cell 2 rfl;have o0:=a0.cell 3 rfl;have y0:=a0.lt;have p0:=a0.frozen 0;have q0:=a0.frozen 1;have r0:=a0.frozen 2;have s0:=a0.frozen 3;have A0:=a0.lt;go_wp2;clear l0 m0 n0 o0 y0 p0 q0 r0 s0 A0;exact QB.fin rfl a0 (by simp[noInt_b,noInt_s]) t0.out (by omega) b0.out rfl rfl
end Go.Proofs.YtdigbofiebfkeaaGreatDoor
