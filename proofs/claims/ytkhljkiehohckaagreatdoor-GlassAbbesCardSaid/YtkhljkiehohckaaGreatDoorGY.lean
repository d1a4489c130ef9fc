/- Layer 09, the reference: Index (written by gen_gy.py). -/
import Derived.Test.YtkhljkiehohckaaGreatDoorGI
import Derived.Test.YtkhljkiehohckaaGreatDoorGX
namespace Go.Proofs.YtkhljkiehohckaaGreatDoor
open Go Go.RowKit Dig
theorem rSqrt {w:World} {va:Value} {a:Int} (ha:LV w w.heap.size va a) (fa:(dig a.natAbs).length≤600) (h0:0≤a) :
    Calls Tryz.prog 56 #[va] w fun e w'=>Below w.heap.size w w'∧∃ v,e=.returned (.tuple #[v,.int .i64 0])∧LV w' w'.heap.size v (rootN a.natAbs:Int):=by
  refine(RSqrt_any w va _ _ ha).mono fun e w' ⟨hw,h⟩=>⟨hw,?_⟩
  rw[numOf_dig fa,show A1 sqrtZ (some a)=((rootN a.natAbs:Int),0) by show sqrtZ a=_;rw[sqrtZ,if_neg (by omega)]] at h;exact h
theorem rIntZ {w:World} {va:Value} {a:Int} (ha:LV w w.heap.size va a) (fa:(dig a.natAbs).length≤600) :
    Calls Tryz.prog 57 #[va] w fun e w'=>Below w.heap.size w w'∧e=.returned (.tuple #[.int .i64 (intZ a).1,.int .i64 (intZ a).2]):=by
  refine(RInt_any w va _ _ ha).mono fun e w' ⟨hw,h⟩=>⟨hw,?_⟩
  rw[numOf_dig fa] at h;exact h
theorem RSquare_ok (w:World) (g:GL) (L:Int) (hs:g.nm.size≤1000) (h0:erG g L=0) :
    Calls Tryz.prog 18 #[.agg (GC g),.int .i64 L] w fun e w'=>Below w.heap.size w w'∧∃ v,e=.returned (.tuple #[v,.int .i64 0])∧QV w' w'.heap.size v (sqG g L):=by
  have h:=RSquare_G w g L hs;rw[show sqR g L=(some (sqG g L),0) from if_pos h0] at h;exact h
theorem RSquare_no (w:World) (g:GL) (L:Int) (hs:g.nm.size≤1000) (h0:erG g L≠0) :
    Calls Tryz.prog 18 #[.agg (GC g),.int .i64 L] w fun e w'=>Below w.heap.size w w'∧∃ v,e=.returned (.tuple #[v,.int .i64 (erG g L)])∧QO w' w'.heap.size v none:=by
  have h:=RSquare_G w g L hs;rw[show sqR g L=(none,erG g L) from if_neg h0] at h;exact h
set_option maxRecDepth 100000 in
set_option maxHeartbeats 4000000 in
theorem RIndex_G (w:World) (g:GL) (L:Int) (hs:g.nm.size≤1000) :
    Calls Tryz.prog 23 #[.agg (GC g),.int .i64 L] w fun e w'=>Below w.heap.size w w'∧RetI (inG g L) e:=by
  obtain⟨t,ht⟩:∃ t,t=inG g L:=⟨_,rfl⟩;rw[← ht];have HT:=zz ht;clear ht;obtain⟨w0,hw0⟩:∃ w0:World,w0=(w.alloc (.cells (GC g) 32)):=⟨_,rfl⟩;have B0:=zz (n1_b hw0);have z0:=n1_z hw0;have Lg:=n1_0 hw0;by_cases h0:erG g L=0
  rotate_left
  · obtain⟨r,hr⟩:∃ r,erG g L=r:=⟨_,rfl⟩;have HZ:=zz h0;rw[hr] at h0;have HE:=zz hr;have hr0:(r != 0)=true:=bne_iff_ne.2 h0
    have HX:=zz (show t=(0,r) by rw[HT.out,inG,if_neg (by rw[hr];exact h0),hr]);clear h0 hr;go_enter Tryz.func23,Tryz.ntmps23
    go_upto_region 1 with (fail)
    rw[← hw0];clear hw0;go_wp2_with (refine wpList_load_row rfl _ _ rfl _ rfl _ _ (0,0) _ Lg rfl rfl rfl ?_)
    refine(RSquare_no _ g L hs HZ.out).mono ?_;rintro e w1 ⟨T1,v,rfl,hv⟩;have B2:=zz T1;have z2:=B2.out.size;have U1:=zz (B0.out.trans (B2.out.mono B0.out.size));clear T1;rw[HE.out];obtain⟨n,A,l',c,m,A',l'',c',rfl⟩:=QO.cells hv;go_wp2;go_ret2;refine⟨U1.out.alloc U1.out.size _,?_⟩;show _=_;rw[HX.out];(first | done | rfl)
  have HE:=zz h0;replace HT:=zz (show t=ixG g L by rw[HT.out,inG,if_pos h0]);have HL:=zz (erG_ok h0);clear h0;go_enter Tryz.func23,Tryz.ntmps23
  go_upto_region 1 with (fail)
  rw[← hw0];clear hw0;go_wp2_with (refine wpList_load_row rfl _ _ rfl _ rfl _ _ (0,0) _ Lg rfl rfl rfl ?_)
  refine(RSquare_ok _ g L hs HE.out).mono ?_;rintro e w4 ⟨V1,v,rfl,hv⟩;have B5:=zz V1;have z5:=B5.out.size;have W1:=zz (B0.out.trans (B5.out.mono B0.out.size));clear V1;obtain⟨R2,S2,T2,U2,V2,i0,W2,rfl,ha7,X1,hc7⟩:=hv;have p0:=zz (show QV w4 w4.heap.size (.agg #[.bool R2,.slice S2 T2 U2,.bool false,.slice V2 i0 W2]) (sqG g L) from⟨_,_,_,_,_,_,_,rfl,ha7,X1,hc7⟩);clear ha7 X1 hc7;go_upto_region 4 with (fail)
  obtain⟨w8,o0⟩:∃ w8:World,w8=(w4.alloc (.cells #[.bool R2,.slice S2 T2 U2,.bool false,.slice V2 i0 W2] 43)):=⟨_,rfl⟩;rw[← o0];have Ls__8:=n1_0 o0;have za8:=n1_z o0;have B9:=zz (n1_b o0);have z9:=B9.out.size;have j0:=zz (W1.out.trans (B9.out.mono W1.out.size));clear o0;have hsg:decide ((sqG g L).num.sign<0)=decide ((sqG g L).num<0):=decide_eq_decide.2 Int.sign_neg_iff;obtain⟨sg,hs1⟩:∃ z,(sqG g L).num.sign=z:=⟨_,rfl⟩;rw[hs1] at hsg;have d3:=zz hs1;clear hs1;by_cases hneg:(sqG g L).num<0
  · have HX:=zz (show t=(0,6) by rw[HT.out,ixG,if_pos (.inl hneg)]);rw[decide_eq_true hneg] at hsg;clear hneg
    have X0:=Ls__8.cell 0 rfl;have Y0:=Ls__8.cell 1 rfl;have Z0:=Ls__8.cell 2 rfl;have a1:=Ls__8.cell 3 rfl;have e3:=Ls__8.lt;go_wp2_with fail
    have b1:=zz (QV.step p0.out B9.out);refine(rsign _ _ _ b1.out (HL.out.sq.mono (by decide) (by decide))).mono ?_;rintro e w11 ⟨u0,rfl⟩;have B14:=zz u0;have z14:=B14.out.size;have Y1:=zz (j0.out.trans (B14.out.mono j0.out.size));clear u0;clear X0 Y0 Z0 a1 e3;rw[d3.out];have P1_3_17:=zz (B5.out.trans (B9.out.mono B5.out.size));have P1_4_18:=zz (P1_3_17.out.trans (B14.out.mono P1_3_17.out.size));have d1:=CB.step Lg P1_4_18.out;have e1:w11.cell? ⟨w.heap.size,1,none⟩=some (.int .i64 g.f):=d1.cell 1 rfl;go_wp2;clear e1;go_ret2;refine⟨Y1.out,?_⟩;show _=_;rw[HX.out];(first | done | rfl)
  have g3:=zz (Int.not_lt.1 hneg);rw[decide_eq_false hneg] at hsg;clear hneg;by_cases hf2:g.f=2
  case' pos=>
    have B3:=zz hf2;have hf2b:(g.f==2)=true:=by rw[beq_iff_eq];exact hf2
    clear hf2;have hlg:decide ((lnG g L).num.sign<0)=decide ((lnG g L).num<0):=decide_eq_decide.2 Int.sign_neg_iff;obtain⟨lg,hs2⟩:∃ z,(lnG g L).num.sign=z:=⟨_,rfl⟩;rw[hs2] at hlg;have C3:=zz hs2;clear hs2;have g1:=Ls__8.cell 0 rfl;have i1:=Ls__8.cell 1 rfl;have j1:=Ls__8.cell 2 rfl;have l1:=Ls__8.cell 3 rfl;have h3:=Ls__8.lt;go_wp2_with fail
    have q0:=zz (QV.step p0.out B9.out);refine(rsign _ _ _ q0.out (HL.out.sq.mono (by decide) (by decide))).mono ?_;rintro e w20 ⟨v0,rfl⟩;have B23:=zz v0;have z23:=B23.out.size;have y0:=zz (j0.out.trans (B23.out.mono j0.out.size));clear v0;clear g1 i1 j1 l1 h3;rw[d3.out];have P1_3_27:=zz (B5.out.trans (B9.out.mono B5.out.size));have P1_4_28:=zz (P1_3_27.out.trans (B23.out.mono P1_3_27.out.size));have d0:=CB.step Lg P1_4_28.out;have m1:w20.cell? ⟨w.heap.size,0,none⟩=some (.string g.nm):=d0.cell 0 rfl;have n1:w20.cell? ⟨w.heap.size,1,none⟩=some (.int .i64 g.f):=d0.cell 1 rfl;have o1:w20.cell? ⟨w.heap.size,2,none⟩=some (.int .i64 g.c0):=d0.cell 2 rfl;have p1:w20.cell? ⟨w.heap.size,3,none⟩=some (.int .i64 g.c1):=d0.cell 3 rfl;have q1:w20.cell? ⟨w.heap.size,4,none⟩=some (.int .i64 g.c2):=d0.cell 4 rfl;have r1:w20.cell? ⟨w.heap.size,5,none⟩=some (.int .i64 g.c3):=d0.cell 5 rfl;have s1:w20.cell? ⟨w.heap.size,6,none⟩=some (.int .i64 g.c4):=d0.cell 6 rfl;have t1:w20.cell? ⟨w.heap.size,7,none⟩=some (.int .i64 g.c5):=d0.cell 7 rfl;have u1:w20.cell? ⟨w.heap.size,8,none⟩=some (.int .i64 g.lo):=d0.cell 8 rfl;have v1:w20.cell? ⟨w.heap.size,9,none⟩=some (.int .i64 g.hi):=d0.cell 9 rfl;go_wp2_with fail
    refine(root_any _ g L HL.out).mono ?_;rintro e w25 ⟨A0,v,rfl,hv⟩;have B30:=zz A0;have z30:=B30.out.size;have C0:=zz (y0.out.trans (B30.out.mono y0.out.size));clear A0;clear m1 n1 o1 p1 q1 r1 s1 t1 u1 v1;obtain⟨r3,s3,t3,u3,v3,y1,w3,rfl,ha32,D0,hc32⟩:=hv;have E0:=zz (show QV w25 w25.heap.size (.agg #[.bool r3,.slice s3 t3 u3,.bool false,.slice v3 y1 w3]) (lnG g L) from⟨_,_,_,_,_,_,_,rfl,ha32,D0,hc32⟩);clear ha32 D0 hc32;go_wp2_with fail
    refine(rsign _ _ _ E0.out (HL.out.ln.mono (by decide) (by decide))).mono ?_;rintro e w33 ⟨F0,rfl⟩;have B34:=zz F0;have z34:=B34.out.size;have G0:=zz (C0.out.trans (B34.out.mono C0.out.size));clear F0;rw[C3.out];by_cases hng:(lnG g L).num<0
    · have HX:=zz (show t=(0,6) by rw[HT.out,ixG,if_pos (.inr ⟨B3.out,hng⟩)]);rw[decide_eq_true hng] at hlg;clear hng
      go_wp2;go_ret2;refine⟨G0.out,?_⟩;show _=_;rw[HX.out];(first | done | rfl)
    have X2:=zz (show ¬ ((sqG g L).num<0∨g.f=2∧(lnG g L).num<0) from fun h=>h.elim (fun h=>absurd h (Int.not_lt.2 g3.out)) (fun h=>hng h.2));rw[decide_eq_false hng] at hlg;clear hng;go_upto_region 6 with (fail)
    have P4_6_37:=zz (B30.out.trans (B34.out.mono B30.out.size));have z1:=CB.step d0 P4_6_37.out;have P3_5_39:=zz (B23.out.trans (B30.out.mono B23.out.size));have P3_6_40:=zz (P3_5_39.out.trans (B34.out.mono P3_5_39.out.size));have Ls__38:=CB.step Ls__8 P3_6_40.out;have A1:=zz (QV.step q0.out P3_6_40.out);have HBc:=G0;have Lgc:=z1;have Lsc:=Ls__38;have Hsc:=zz A1.out;obtain⟨wc,hwc⟩:∃ x:World,x=w33:=⟨_,rfl⟩;rw[← hwc] at HBc Lgc Lsc Hsc ⊢;clear hwc
  case' neg=>
    have hf2b:(g.f==2)=false:=by rw[beq_eq_false_iff_ne];exact hf2
    have X2:=zz (show ¬ ((sqG g L).num<0∨g.f=2∧(lnG g L).num<0) from fun h=>h.elim (fun h=>absurd h (Int.not_lt.2 g3.out)) (fun h=>hf2 h.1));clear hf2;have B1:=Ls__8.cell 0 rfl;have C1:=Ls__8.cell 1 rfl;have D1:=Ls__8.cell 2 rfl;have E1:=Ls__8.cell 3 rfl;have i3:=Ls__8.lt;go_wp2_with fail
    have r0:=zz (QV.step p0.out B9.out);refine(rsign _ _ _ r0.out (HL.out.sq.mono (by decide) (by decide))).mono ?_;rintro e w42 ⟨H0,rfl⟩;have B45:=zz H0;have z45:=B45.out.size;have Z1:=zz (j0.out.trans (B45.out.mono j0.out.size));clear H0;clear B1 C1 D1 E1 i3;rw[d3.out];have P1_3_48:=zz (B5.out.trans (B9.out.mono B5.out.size));have P1_4_49:=zz (P1_3_48.out.trans (B45.out.mono P1_3_48.out.size));have s0:=CB.step Lg P1_4_49.out;have F1:w42.cell? ⟨w.heap.size,1,none⟩=some (.int .i64 g.f):=s0.cell 1 rfl;go_upto_region 6 with (fail)
    clear F1;have Ls__51:=CB.step Ls__8 B45.out;have G1:=zz (QV.step r0.out B45.out);have HBc:=Z1;have Lgc:=s0;have Lsc:=Ls__51;have Hsc:=zz G1.out;obtain⟨wc,hwc⟩:∃ x:World,x=w42:=⟨_,rfl⟩;rw[← hwc] at HBc Lgc Lsc Hsc ⊢;clear hwc
  all_goals
    have zc:=HBc.out.size;have zs:=Lsc.lt;obtain⟨q,hq⟩:∃ q,sqG g L*400000000000000=q:=⟨_,rfl⟩;have hql:QL 142 61 q:=by rw[← hq];exact HL.out.sq.mul big_QL
    have hq0:0≤q.num:=by rw[← hq];exact mul_num_nonneg g3.out (by decide)
    obtain⟨z,hz⟩:∃ z,q.num / (q.den:Int)=z:=⟨_,rfl⟩;obtain⟨r,hr⟩:∃ r,rootN z.natAbs=r:=⟨_,rfl⟩;have HP:=zz (ix_parts hql hq0);rw[hz] at HP;have Z2:=zz (show ixT (sqG g L)=r by unfold ixT;rw[hq,hz,hr]);have D3:=zz hq;have HZ:=zz hz;have HR:=zz hr;have G3:=zz hql;clear hq hz hr hql hq0;have F3:=zz (show(dig (r:Int).natAbs).length≤600 by rw[Int.natAbs_natCast,← HR.out];exact Nat.le_trans (dig_len_mono (rootN_le _)) HP.out.2.2.1);refine Flow.run [⟨0,39,fun fv fw=>fv=.agg #[.bool R2,.slice S2 T2 U2,.bool false,.slice V2 i0 W2]⟩,⟨1,40,fun fv fw=>QV fw fw.heap.size fv (400000000000000:Rat)⟩,⟨2,41,fun fv fw=>QV fw fw.heap.size fv q⟩,⟨3,42,fun fv fw=>∃ u,fv=.tuple #[u,.int .i64 0]∧LV fw fw.heap.size u z⟩,⟨4,38,fun fv fw=>∃ u,fv=.tuple #[u,.int .i64 0]∧LV fw fw.heap.size u z⟩,⟨5,43,fun fv fw=>LV fw fw.heap.size fv z⟩,⟨7,8,fun fv fw=>∃ b,fv=.pointer (some ⟨b,0,none⟩)∧CB fw b 41 #[.bool false,.slice none 0 0]⟩] [⟨6,44,fun fv fw=>fv=.int .i64 0⟩] [7] 2 (by kernel_rfl) (by kernel_rfl) (by kernel_rfl) (fun _ _ _ _ _ h=>h) ?_ ?_ ?_ ?_
    · refine(all_cons (fun v w1 w2 h hb=>h) (all_cons (fun v w1 w2 h hb=>h.step hb) (all_cons (fun v w1 w2 h hb=>h.step hb) (all_cons (fun v w1 w2 h hb=>let ⟨u,e,h⟩:=h;⟨u,e,h.step hb⟩) (all_cons (fun v w1 w2 h hb=>let ⟨u,e,h⟩:=h;⟨u,e,h.step hb⟩) (all_cons (fun v w1 w2 h hb=>h.step hb) (all_cons (fun v w1 w2 h hb=>let ⟨b,e,h⟩:=h;⟨b,e,h.step hb⟩) (all_cons (fun v w1 w2 h hb=>h) all_nil))))))))
    · refine(all_cons ?_ (all_cons ?_ (all_cons ?_ (all_cons ?_ (all_cons ?_ (all_cons ?_ (all_cons ?_ all_nil)))))))
      · intro xs A2 a0 b0
        have H1:=zz a0;have C2:=a0.size;clear a0;clear b0;refine wpOp_step (o:=_) rfl (fun K hK=>?_);simp only[FL]
        have Ls__54:=CB.step Lsc H1.out;have m2:=Ls__54.cell 0 rfl;have n2:=Ls__54.cell 1 rfl;have o2:=Ls__54.cell 2 rfl;have p2:=Ls__54.cell 3 rfl;go_simp;refine hK _ _ ⟨.agg #[.bool R2,.slice S2 T2 U2,.bool false,.slice V2 i0 W2],by kernel_rfl,Below.refl _ _,rfl,nF⟩
      · intro xs D2 a0 b0
        have q2:=zz a0;have E2:=a0.size;clear a0;clear b0;refine wpOp_step (o:=_) rfl (fun K hK=>?_);simp only[FL]
        go_simp;(with_reducible refine((show Calls Tryz.prog _ _ _ _ from big_one▸rof (n:=400000000000000) (d:=1) (by decide) (by decide) (by decide))).mono ?_)
        rintro e wc57 ⟨a2,v57,rfl,b2⟩;refine hK _ _ ⟨v57,by kernel_rfl,a2,b2,nF⟩
      · intro xs I0 a0 b0
        have I1:=zz a0;have F2:=a0.size;clear a0;have f0:(xs 0)=.agg #[.bool R2,.slice S2 T2 U2,.bool false,.slice V2 i0 W2]:=b0 _ (m_ 0 rfl) (by kernel_rfl);have f1:QV I0 I0.heap.size (xs 1) (400000000000000:Rat):=b0 _ (m_ 1 rfl) (by kernel_rfl);clear b0;refine wpOp_step (o:=_) rfl (fun K hK=>?_);simp only[FL]
        go_simp;have J1:=zz (QV.step Hsc.out I1.out);(with_reducible refine(rtimesE D3.out J1.out f1 HL.out.sq big_QL (by decide)).mono ?_)
        rintro e wc60 ⟨d2,v60,rfl,e2⟩;refine hK _ _ ⟨v60,by simp only[FL,f0] <;> kernel_rfl,d2,e2,nF⟩
      · intro xs J0 a0 b0
        have r2:=zz a0;have G2:=a0.size;clear a0;have f2:QV J0 J0.heap.size (xs 2) q:=b0 _ (m_ 2 rfl) (by kernel_rfl);clear b0;refine wpOp_step (o:=_) rfl (fun K hK=>?_);simp only[FL]
        go_simp;(with_reducible refine(rFloor f2 HP.out.1 HZ.out HP.out.2.1).mono ?_)
        rintro e wc62 ⟨g2,v62,rfl,i2⟩;refine hK _ _ ⟨.tuple #[v62,.int .i64 0],by kernel_rfl,g2,⟨v62,rfl,i2⟩,nF⟩
      · intro xs K0 a0 b0
        have s2:=zz a0;have H2:=a0.size;clear a0;have f3:∃ u,(xs 3)=.tuple #[u,.int .i64 0]∧LV K0 K0.heap.size u z:=b0 _ (m_ 3 rfl) (by kernel_rfl);clear b0;refine wpOp_step (o:=_) rfl (fun K hK=>?_);simp only[FL]
        go_simp;refine hK _ _ ⟨xs 3,by kernel_rfl,Below.refl _ _,f3,nF⟩
      · intro xs L0 a0 b0
        have t2:=zz a0;have I2:=a0.size;clear a0;have f4:∃ u,(xs 4)=.tuple #[u,.int .i64 0]∧LV L0 L0.heap.size u z:=b0 _ (m_ 4 rfl) (by kernel_rfl);clear b0;refine wpOp_step (o:=_) rfl (fun K hK=>?_);simp only[FL]
        obtain⟨u,hu,hl⟩:=f4;rw[hu];go_simp;refine hK _ _ ⟨u,by simp only[FL,hu] <;> kernel_rfl,Below.refl _ _,hl,nF⟩
      · intro xs j2 a0 b0
        have u2:=zz a0;have J2:=a0.size;clear a0;clear b0;refine wpOp_step (o:=_) rfl (fun K hK=>?_);simp only[FL]
        go_simp;refine hK _ _ ⟨.pointer (some ⟨j2.heap.size,0,none⟩),by kernel_rfl,(Below.refl _ _).alloc (Nat.le_refl _) _,⟨_,rfl,CB.new _ _ _⟩,fun _=>⟨_,rfl,Nat.le_refl _,by simp⟩⟩
    · refine(all_cons ?_ all_nil)
      · intro xs M0 a0 b0
        have v2:=zz a0;have K2:=a0.size;clear a0;have f4:∃ u,(xs 4)=.tuple #[u,.int .i64 0]∧LV M0 M0.heap.size u z:=b0 _ (m_ 4 rfl) (by kernel_rfl);clear b0;obtain⟨u,hu,-⟩:=f4;refine⟨_,.int .i64 0,rfl,Or.inl ⟨by rfl,fun w=>?_⟩,rfl⟩;simp only[FL]
        rw[hu];go_simp
    · intro xs N2 hbf hf hn hd
      have f0:(xs 0)=.agg #[.bool R2,.slice S2 T2 U2,.bool false,.slice V2 i0 W2]:=hf _ (m_ 0 rfl);have f1:QV N2 N2.heap.size (xs 1) (400000000000000:Rat):=hf _ (m_ 1 rfl);have f2:QV N2 N2.heap.size (xs 2) q:=hf _ (m_ 2 rfl);have f3:∃ u,(xs 3)=.tuple #[u,.int .i64 0]∧LV N2 N2.heap.size u z:=hf _ (m_ 3 rfl);have f4:∃ u,(xs 4)=.tuple #[u,.int .i64 0]∧LV N2 N2.heap.size u z:=hf _ (m_ 4 rfl);have f5:LV N2 N2.heap.size (xs 5) z:=hf _ (m_ 5 rfl);have f7:∃ b,(xs 7)=.pointer (some ⟨b,0,none⟩)∧CB N2 b 41 #[.bool false,.slice none 0 0]:=hf _ (m_ 6 rfl);have f6:(xs 6)=.int .i64 0:=hf _ (m_ 7 rfl);have n7:=hn 7 (by decide);clear hf hn hd;simp only[FL]
      have B68:=zz hbf;have z68:=B68.out.size;have l2:=zz (HBc.out.trans (B68.out.mono HBc.out.size));clear hbf;generalize xs 0=x0 at *
      generalize xs 1=x1 at *
      generalize xs 2=x2 at *
      generalize xs 3=x3 at *
      generalize xs 4=x4 at *
      generalize xs 5=x5 at *
      generalize xs 7=x7 at *
      generalize xs 6=x6 at *
      obtain rfl:=f0;clear f1;clear f2;clear f3;clear f4;obtain⟨n70,y3,l70,c70,rfl,N0⟩:=f5.opened;have O0:=zz N0;clear f5 N0;obtain⟨P2,rfl,M2⟩:=f7;have Y2:=zz (show wc.heap.size≤P2 by obtain⟨b',e,h,-⟩:=n7;injection e with e;injection e with e;injection e with e _ _;omega);clear n7;have n3:=M2.lt;have o3:=Y2.out;obtain rfl:=f6;have K1:=M2.cell 0 rfl;have L1:=M2.cell 1 rfl;have j3:=M2.lt;have M1:=M2.frozen 0;have N1:=M2.frozen 1;have k3:=M2.lt;refine Early.next (i:=8) (by kernel_rfl) rfl (fun K hK=>?_);go_simp;refine hK _ _ (fun _=>trivial) ?_;clear hK K;(try simp only[Act.put,List.setIfInBounds_toArray,List.set_cons_zero,List.set_cons_succ])
      clear K1 L1 j3 M1 N1 k3;have O1:=CB.step Lgc B68.out;have Ls__76:=CB.step Lsc B68.out;obtain⟨w77,e0⟩:∃ w77:World,w77=((N2.setCell ⟨P2,0,none⟩ (.bool n70)).setCell ⟨P2,1,none⟩ (.slice y3 l70 c70)):=⟨_,rfl⟩;rw[← e0];have S77:=zz (p2_s e0 M2 (by simp[noInt_b,noInt_s]));have y2:=p2_f e0 O1 (by omega);have Ls__77:=p2_f e0 Ls__76 (by omega);have n0:=p2_p e0 M2;have t0:=zz (p2_b e0 l2.out (by omega));have L2:=p2_z e0;clear e0;refine Early.next (i:=9) (by kernel_rfl) rfl (fun K hK=>?_);go_simp;refine hK _ _ (fun _=>trivial) ?_;clear hK K;(try simp only[Act.put,List.setIfInBounds_toArray,List.set_cons_zero,List.set_cons_succ])
      refine Early.done (by kernel_rfl) ?_ _;(try simp only[Exit.then])
      have P1:=n0.cell 0 rfl;have Q1:=n0.cell 1 rfl;have l3:=n0.lt;go_wp2_with fail
      have P0:=zz (LV.soft O0.out (S77.out));refine(rSqrt P0.out HP.out.2.2.1 HP.out.2.2.2).mono ?_;rintro e w78 ⟨Q0,v,rfl,hv⟩;have B81:=zz Q0;have z81:=B81.out.size;have R0:=zz (t0.out.trans (B81.out.mono t0.out.size));clear Q0;clear P1 Q1 l3;rw[HR.out] at hv;obtain⟨n83,z3,l83,c83,rfl,S0⟩:=hv.opened;have T0:=zz S0;clear hv S0;go_upto_region 8 with (fail)
      obtain⟨w84,l0⟩:∃ w84:World,w84=(w78.alloc (.cells #[.bool n83,.slice z3 l83 c83] 41)):=⟨_,rfl⟩;rw[← l0];have g0:=n1_0 l0;have za84:=n1_z l0;have B85:=zz (n1_b l0);have z85:=B85.out.size;have U0:=zz (R0.out.trans (B85.out.mono R0.out.size));clear l0;have R1:=g0.cell 0 rfl;have S1:=g0.cell 1 rfl;have m3:=g0.lt;go_wp2_with fail
      have V0:=zz (LV.step T0.out B85.out);refine(rIntZ V0.out F3.out).mono ?_;rintro e w87 ⟨W0,rfl⟩;have B90:=zz W0;have z90:=B90.out.size;have m0:=zz (U0.out.trans (B90.out.mono U0.out.size));clear W0;clear R1 S1 m3;have hcase:∃ a b:Int,intZ (r:Int)=(a,b)∧((b=0∧a=r∧r<19999999)∨(b=0∧a=r∧19999999≤r∧r≤80000000)∨(b=0∧a=r∧80000000<r∧r≤80000001)∨(b=0∧a=r∧80000001<r)∨(b=6∧80000001<r)):=by
        by_cases hb:r≤9223372036854775807
        · exact⟨_,_,if_pos (by omega),by omega⟩
        · exact⟨_,_,if_neg (by omega),by omega⟩
      obtain⟨a,b,hab,hcase⟩:=hcase;rw[hab];clear hab;rcases hcase with ⟨rfl,ha,h⟩ | ⟨rfl,ha,h1,h2⟩ | ⟨rfl,ha,h1,h2⟩ | ⟨rfl,ha,h⟩ | ⟨rfl,h⟩
      · have HX:=zz (show t=(0,6) by rw[HT.out,ixG,if_neg X2.out,Z2.out,if_neg (by omega)])
        first
          | have k0:decide (80000001<a)=true:=by rw[decide_eq_true_eq];omega
          | have k0:decide (80000001<a)=false:=by rw[decide_eq_false_iff_not];omega
        obtain⟨m,hm⟩:∃ m,a+1=m:=⟨_,rfl⟩;obtain⟨u,hu⟩:∃ u,m / 2=u:=⟨_,rfl⟩;have htd:m.tdiv 2=m / 2:=Int.tdiv_eq_ediv_of_nonneg (by omega);have hw1:wrap64 (a+1)=m:=by rw[hm];exact IntWalk.wrap64_in _ (by omega)
        have hw2:wrap64 (m.tdiv 2)=u:=by rw[htd,hu];exact IntWalk.wrap64_in _ (by omega)
        have hw3:wrap64 (m / 2)=u:=by rw[hu];exact IntWalk.wrap64_in _ (by omega)
        have HU:=zz (show u=((r:Int)+1) / 2 by rw[← hu,← hm,ha])
        first
          | have k1:decide (u<10000000)=true:=by rw[decide_eq_true_eq];omega
          | have k1:decide (u<10000000)=false:=by rw[decide_eq_false_iff_not];omega
        first
          | have k2:decide (40000000<u)=true:=by rw[decide_eq_true_eq];omega
          | have k2:decide (40000000<u)=false:=by rw[decide_eq_false_iff_not];omega
        clear ha hm hu htd;go_wp2;go_ret2;refine⟨m0.out,?_⟩;show _=_;rw[HX.out];(first | done | rfl)
      · have HX:=zz (show t=(((r:Int)+1) / 2,0) by rw[HT.out,ixG,if_neg X2.out,Z2.out,if_pos ⟨h1,h2⟩])
        first
          | have k0:decide (80000001<a)=true:=by rw[decide_eq_true_eq];omega
          | have k0:decide (80000001<a)=false:=by rw[decide_eq_false_iff_not];omega
        obtain⟨m,hm⟩:∃ m,a+1=m:=⟨_,rfl⟩;obtain⟨u,hu⟩:∃ u,m / 2=u:=⟨_,rfl⟩;have htd:m.tdiv 2=m / 2:=Int.tdiv_eq_ediv_of_nonneg (by omega);have hw1:wrap64 (a+1)=m:=by rw[hm];exact IntWalk.wrap64_in _ (by omega)
        have hw2:wrap64 (m.tdiv 2)=u:=by rw[htd,hu];exact IntWalk.wrap64_in _ (by omega)
        have hw3:wrap64 (m / 2)=u:=by rw[hu];exact IntWalk.wrap64_in _ (by omega)
        have HU:=zz (show u=((r:Int)+1) / 2 by rw[← hu,← hm,ha])
        first
          | have k1:decide (u<10000000)=true:=by rw[decide_eq_true_eq];omega
          | have k1:decide (u<10000000)=false:=by rw[decide_eq_false_iff_not];omega
        first
          | have k2:decide (40000000<u)=true:=by rw[decide_eq_true_eq];omega
          | have k2:decide (40000000<u)=false:=by rw[decide_eq_false_iff_not];omega
        clear ha hm hu htd;go_wp2;go_ret2;refine⟨m0.out,?_⟩;show _=_;rw[HX.out,← HU.out];first | rfl | (rw[hw2];rfl)
      · have HX:=zz (show t=(0,6) by rw[HT.out,ixG,if_neg X2.out,Z2.out,if_neg (by omega)])
        first
          | have k0:decide (80000001<a)=true:=by rw[decide_eq_true_eq];omega
          | have k0:decide (80000001<a)=false:=by rw[decide_eq_false_iff_not];omega
        obtain⟨m,hm⟩:∃ m,a+1=m:=⟨_,rfl⟩;obtain⟨u,hu⟩:∃ u,m / 2=u:=⟨_,rfl⟩;have htd:m.tdiv 2=m / 2:=Int.tdiv_eq_ediv_of_nonneg (by omega);have hw1:wrap64 (a+1)=m:=by rw[hm];exact IntWalk.wrap64_in _ (by omega)
        have hw2:wrap64 (m.tdiv 2)=u:=by rw[htd,hu];exact IntWalk.wrap64_in _ (by omega)
        have hw3:wrap64 (m / 2)=u:=by rw[hu];exact IntWalk.wrap64_in _ (by omega)
        have HU:=zz (show u=((r:Int)+1) / 2 by rw[← hu,← hm,ha])
        first
          | have k1:decide (u<10000000)=true:=by rw[decide_eq_true_eq];omega
          | have k1:decide (u<10000000)=false:=by rw[decide_eq_false_iff_not];omega
        first
          | have k2:decide (40000000<u)=true:=by rw[decide_eq_true_eq];omega
          | have k2:decide (40000000<u)=false:=by rw[decide_eq_false_iff_not];omega
        clear ha hm hu htd;go_wp2;go_ret2;refine⟨m0.out,?_⟩;show _=_;rw[HX.out];(first | done | rfl)
      · have HX:=zz (show t=(0,6) by rw[HT.out,ixG,if_neg X2.out,Z2.out,if_neg (by omega)])
        first
          | have k0:decide (80000001<a)=true:=by rw[decide_eq_true_eq];omega
          | have k0:decide (80000001<a)=false:=by rw[decide_eq_false_iff_not];omega
        go_wp2;go_ret2;refine⟨m0.out,?_⟩;show _=_;rw[HX.out];(first | done | rfl)
      · have HX:=zz (show t=(0,6) by rw[HT.out,ixG,if_neg X2.out,Z2.out,if_neg (by omega)])
        go_wp2;go_ret2;refine⟨m0.out,?_⟩;show _=_;rw[HX.out];(first | done | rfl)
end Go.Proofs.YtkhljkiehohckaaGreatDoor
