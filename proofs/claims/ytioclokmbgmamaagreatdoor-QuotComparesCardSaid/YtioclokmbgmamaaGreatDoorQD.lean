/- Layer 04: Sum, Diff (written by gen_qd.py; under way). -/
import Derived.Test.YtioclokmbgmamaaGreatDoorQB
namespace Go.Proofs.YtioclokmbgmamaaGreatDoor
open Go Go.RowKit Dig
theorem bodyPost_mono {P:Program} {fn:Func} {R R':Ending→World→Prop} {a:Act} {w:World} (h:bodyPost P fn R .ret a w) (hq:∀ e w,R e w→R' e w):bodyPost P fn R' .ret a w:=by
 obtain⟨hd,v,hr,hR⟩:=h
 exact⟨hd,v,hr,hq _ _ hR⟩
def RV (w:World) (B:Nat) (v:Value) (q:Rat):Prop:=TV w B v q.num q.den
theorem RV.step {w w':World} {v:Value} {q:Rat} (h:RV w w.heap.size v q) (hb:Below w.heap.size w w'):RV w' w'.heap.size v q:=TV.step h hb
set_option maxRecDepth 100000 in
set_option maxHeartbeats 4000000 in
theorem Sum_any (w:World) (va vb:Value) (q r:Rat) (ha:RV w w.heap.size va q) (hb:RV w w.heap.size vb r) (l1:(dig q.num.natAbs).length≤20000) (l2:(dig q.den).length≤20000) (l3:(dig r.num.natAbs).length≤20000) (l4:(dig r.den).length≤20000) :
  Calls Tryz.prog 92 #[va,vb] w fun e w'=>Below w.heap.size w w'∧∃ v,e=.returned v∧RV w' w'.heap.size v (q+r):=by
 obtain⟨n,A,l,c,A',l',c',rfl,Ha,Hd,hn⟩:=ha;obtain⟨m,B,k,e,B',k',e',rfl,Hb,He,hm⟩:=hb
 obtain⟨g,hg⟩:∃ g,g=Nat.gcd q.den r.den:=⟨_,rfl⟩;obtain⟨x,hx⟩:∃ x,x=q.den / g:=⟨_,rfl⟩;obtain⟨y,hy⟩:∃ y,y=r.den / g:=⟨_,rfl⟩
 obtain⟨N,hN⟩:∃ N:Int,N=q.num*y+r.num*x:=⟨_,rfl⟩;obtain⟨h,hh⟩:∃ h,h=Nat.gcd N.natAbs g:=⟨_,rfl⟩
 have hS:=rat_sum q r hg hx hy hN hh
 have g0:g≠0:=by rw[hg];exact fun e=>q.den_nz (Nat.gcd_eq_zero_iff.1 e).1
 have h0:h≠0:=by rw[hh];exact fun e=>g0 (Nat.gcd_eq_zero_iff.1 e).2
 have lg:(dig g).length≤20000:=by rw[hg];exact dig_len_gcd _ _ l2 l4
 have lx:(dig x).length≤20000:=by rw[hx];exact Nat.le_trans (dig_len_mono (Nat.div_le_self _ _)) l2
 have ly:(dig y).length≤20000:=by rw[hy];exact Nat.le_trans (dig_len_mono (Nat.div_le_self _ _)) l4
 have p1:(dig (q.num*y).natAbs).length≤40000:=by rw[Int.natAbs_mul,Int.natAbs_natCast];have:=dig_len_mul q.num.natAbs y;omega
 have p2:(dig (r.num*x).natAbs).length≤40000:=by rw[Int.natAbs_mul,Int.natAbs_natCast];have:=dig_len_mul r.num.natAbs x;omega
 have lN:(dig N.natAbs).length≤40001:=by rw[hN];exact Nat.le_trans (dig_len_mono (Int.natAbs_add_le _ _)) (dig_len_add _ _ p1 p2)
 have lr:(dig (r.den / h)).length≤20000:=Nat.le_trans (dig_len_mono (Nat.div_le_self _ _)) l4
 have HSG:=zz hS;have HL:=zz (And.intro l1 (And.intro l2 (And.intro l3 (And.intro l4 (And.intro lg (And.intro lx (And.intro ly (And.intro p1 (And.intro p2 (And.intro lN lr))))))))))
 have HG:=zz hg;have HX:=zz hx;have HY:=zz hy;have HN:=zz hN;have HH:=zz hh;have HG0:=zz g0;have HH0:=zz h0
 clear hS l1 l2 l3 l4 lg lx ly p1 p2 lN lr hg hx hy hN hh g0 h0
 obtain⟨w0,hw0⟩:∃ w0:World,w0=(((w.alloc (.cells #[.bool n,.slice A l c,.slice A' l' c'] 95)).alloc (.cells #[.bool m,.slice B k e,.slice B' k' e'] 95)).alloc (.cells #[.bool false,.slice none 0 0,.slice none 0 0] 95)):=⟨_,rfl⟩
 have B0:=zz (show Below w.heap.size w w0 by rw[hw0];(repeat' (first | exact Below.refl _ _ | refine Below.drew ?_ | refine Below.alloc ?_ (by first | exact Nat.le_refl _ | (simp;done) | (simp;omega)) _)))
 have z0:w.heap.size+3≤w0.heap.size:=by rw[hw0];simp
 have La:CB w0 (w.heap.size) 95 #[.bool n,.slice A l c,.slice A' l' c']:=by rw[hw0];have h:=((CB.new w 95 #[.bool n,.slice A l c,.slice A' l' c']).alloc (.cells #[.bool m,.slice B k e,.slice B' k' e'] 95)).alloc (.cells #[.bool false,.slice none 0 0,.slice none 0 0] 95);simpa using h
 have Lb:CB w0 (w.heap.size+1) 95 #[.bool m,.slice B k e,.slice B' k' e']:=by rw[hw0];have h:=(CB.new (w.alloc (.cells #[.bool n,.slice A l c,.slice A' l' c'] 95)) 95 #[.bool m,.slice B k e,.slice B' k' e']).alloc (.cells #[.bool false,.slice none 0 0,.slice none 0 0] 95);simpa using h
 have Lo:CB w0 (w.heap.size+2) 95 #[.bool false,.slice none 0 0,.slice none 0 0]:=by rw[hw0];have h:=CB.new ((w.alloc (.cells #[.bool n,.slice A l c,.slice A' l' c'] 95)).alloc (.cells #[.bool m,.slice B k e,.slice B' k' e'] 95)) 95 #[.bool false,.slice none 0 0,.slice none 0 0];simpa using h
 have HWA:=zz (WV.mk Ha hn);have HWB:=zz (WV.mk Hb hm);clear hn hm
 replace HWA:=zz (WV.step HWA.out B0.out);replace HWB:=zz (WV.step HWB.out B0.out);clear Ha Hb
 replace Hd:=zz (RN.stepN Hd B0.out);replace He:=zz (RN.stepN He B0.out)
 go_enter Tryz.func92,Tryz.ntmps92
 go_upto_region 1 with (fail)
 rw[← hw0];clear hw0
 have N1:=La.cell 0 rfl
 have O1:=La.cell 1 rfl
 have P1:=La.cell 2 rfl
 have q2_lt:=La.lt
 have Q1:=Lb.cell 0 rfl
 have R1:=Lb.cell 1 rfl
 have S1:=Lb.cell 2 rfl
 have q3_lt:=Lb.lt
 go_wp2_with fail
 refine(Common_any _ _ _ q.den r.den Hd.out He.out (by have:=HL.out;omega) (by have:=HL.out;omega)).mono ?_
 rintro e w1 ⟨L1,vg,rfl,hg⟩
 have B4:=zz L1
 have z4:=B4.out.size
 have M1:=zz (B0.out.trans (B4.out.mono B0.out.size))
 clear L1
 clear N1 O1 P1 q2_lt Q1 R1 S1 q3_lt
 rw[← HG.out] at hg;obtain⟨G,cg,rfl,-⟩:=hg.cell;have Hg:=zz hg;clear hg
 go_upto_region 2 with (fail)
 refine Flow.run [⟨0,15,fun fv fw=>fv=.pointer (some ⟨w.heap.size,2,none⟩)⟩,⟨1,16,fun fv fw=>fv=.slice A' l' c'⟩,⟨2,17,fun fv fw=>fv=.slice G (dig g).length cg⟩,⟨3,18,fun fv fw=>RN fw fw.heap.size fv (dig x)⟩,⟨4,19,fun fv fw=>fv=.pointer (some ⟨w.heap.size+1,2,none⟩)⟩,⟨5,20,fun fv fw=>fv=.slice B' k' e'⟩,⟨6,21,fun fv fw=>fv=.slice G (dig g).length cg⟩,⟨7,22,fun fv fw=>RN fw fw.heap.size fv (dig y)⟩] [] [] 2 (by kernel_rfl) (by kernel_rfl) (by kernel_rfl) (fun _ _ _ _ _ h=>h) ?_ ?_ ?_ ?_
 ·refine(a0 (a0 (a0 (all_cons (fun v w1 w2 h hb=>h.step hb) (a0 (a0 (a0 (all_cons (fun v w1 w2 h hb=>h.step hb) all_nil))))))))
 ·refine(all_cons ?_ (all_cons ?_ (all_cons ?_ (all_cons ?_ (all_cons ?_ (all_cons ?_ (all_cons ?_ (all_cons ?_ all_nil))))))))
  ·intro xs i4 b0 c0
   have k3:=zz b0;have j4:=b0.size;clear b0
   clear c0
   refine wpOp_step (o:=_) rfl (fun K hK=>?_)
   simp only[FL]
   go_simp
   refine hK _ _ ⟨.pointer (some ⟨w.heap.size,2,none⟩),by kernel_rfl,Below.refl _ _,rfl,nF⟩
  ·intro xs k4 b0 c0
   have T1:=zz b0;have m4:=b0.size;clear b0
   have f0:(xs 0)=.pointer (some ⟨w.heap.size,2,none⟩):=c0 _ (m_ 0 rfl) (by kernel_rfl)
   clear c0
   refine wpOp_step (o:=_) rfl (fun K hK=>?_)
   simp only[FL]
   have P1_3_9:=zz (B4.out.trans (T1.out.mono B4.out.size))
   have o0:=CB.step La P1_3_9.out
   have s2:=o0.cell 0 rfl
   have t2:=o0.cell 1 rfl
   have u2:=o0.cell 2 rfl
   have q10_lt:=o0.lt
   go_simp
   refine hK _ _ ⟨.slice A' l' c',by simp only[FL,f0],Below.refl _ _,rfl,nF⟩
  ·intro xs m3 b0 c0
   have v2:=zz b0;have n3:=b0.size;clear b0
   clear c0
   refine wpOp_step (o:=_) rfl (fun K hK=>?_)
   simp only[FL]
   go_simp
   refine hK _ _ ⟨.slice G (dig g).length cg,by kernel_rfl,Below.refl _ _,rfl,nF⟩
  ·intro xs o3 b0 c0
   have t0:=zz b0;have p3:=b0.size;clear b0
   have f1:(xs 1)=.slice A' l' c':=c0 _ (m_ 1 rfl) (by kernel_rfl)
   have f2:(xs 2)=.slice G (dig g).length cg:=c0 _ (m_ 2 rfl) (by kernel_rfl)
   clear c0
   refine wpOp_step (o:=_) rfl (fun K hK=>?_)
   simp only[FL]
   go_simp
   have P1_3_13:=zz (B4.out.trans (t0.out.mono B4.out.size))
   have I0:=zz (RN.step Hd.out P1_3_13.out)
   have d1:=zz (RN.step Hg.out t0.out)
   (with_reducible refine((show Calls Tryz.prog _ _ _ _ from HX.out▸without_any _ _ _ q.den g I0.out d1.out HG0.out (by have:=HL.out;omega))).mono ?_)
   rintro e wc16 ⟨U1,v16,rfl,V1⟩
   refine hK _ _ ⟨v16,by simp only[FL,f1,f2],U1,V1,nF⟩
  ·intro xs q3 b0 c0
   have y2:=zz b0;have r3:=b0.size;clear b0
   clear c0
   refine wpOp_step (o:=_) rfl (fun K hK=>?_)
   simp only[FL]
   go_simp
   refine hK _ _ ⟨.pointer (some ⟨w.heap.size+1,2,none⟩),by kernel_rfl,Below.refl _ _,rfl,nF⟩
  ·intro xs s3 b0 c0
   have e1:=zz b0;have t3:=b0.size;clear b0
   have f4:(xs 4)=.pointer (some ⟨w.heap.size+1,2,none⟩):=c0 _ (m_ 4 rfl) (by kernel_rfl)
   clear c0
   refine wpOp_step (o:=_) rfl (fun K hK=>?_)
   simp only[FL]
   have P1_3_20:=zz (B4.out.trans (e1.out.mono B4.out.size))
   have k0:=CB.step Lb P1_3_20.out
   have z2:=k0.cell 0 rfl
   have A2:=k0.cell 1 rfl
   have B2:=k0.cell 2 rfl
   have q21_lt:=k0.lt
   go_simp
   refine hK _ _ ⟨.slice B' k' e',by simp only[FL,f4],Below.refl _ _,rfl,nF⟩
  ·intro xs u3 b0 c0
   have C2:=zz b0;have v3:=b0.size;clear b0
   clear c0
   refine wpOp_step (o:=_) rfl (fun K hK=>?_)
   simp only[FL]
   go_simp
   refine hK _ _ ⟨.slice G (dig g).length cg,by kernel_rfl,Below.refl _ _,rfl,nF⟩
  ·intro xs w3 b0 c0
   have u0:=zz b0;have y3:=b0.size;clear b0
   have f5:(xs 5)=.slice B' k' e':=c0 _ (m_ 5 rfl) (by kernel_rfl)
   have f6:(xs 6)=.slice G (dig g).length cg:=c0 _ (m_ 6 rfl) (by kernel_rfl)
   clear c0
   refine wpOp_step (o:=_) rfl (fun K hK=>?_)
   simp only[FL]
   go_simp
   have P1_3_24:=zz (B4.out.trans (u0.out.mono B4.out.size))
   have J0:=zz (RN.step He.out P1_3_24.out)
   have g1:=zz (RN.step Hg.out u0.out)
   (with_reducible refine((show Calls Tryz.prog _ _ _ _ from HY.out▸without_any _ _ _ r.den g J0.out g1.out HG0.out (by have:=HL.out;omega))).mono ?_)
   rintro e wc27 ⟨W1,v27,rfl,X1⟩
   refine hK _ _ ⟨v27,by simp only[FL,f5,f6],W1,X1,nF⟩
 ·exact all_nil
 ·intro xs wf28 hbf hf hn hd
  have f0:(xs 0)=.pointer (some ⟨w.heap.size,2,none⟩):=hf _ (m_ 0 rfl)
  have f1:(xs 1)=.slice A' l' c':=hf _ (m_ 1 rfl)
  have f2:(xs 2)=.slice G (dig g).length cg:=hf _ (m_ 2 rfl)
  have f3:RN wf28 wf28.heap.size (xs 3) (dig x):=hf _ (m_ 3 rfl)
  have f4:(xs 4)=.pointer (some ⟨w.heap.size+1,2,none⟩):=hf _ (m_ 4 rfl)
  have f5:(xs 5)=.slice B' k' e':=hf _ (m_ 5 rfl)
  have f6:(xs 6)=.slice G (dig g).length cg:=hf _ (m_ 6 rfl)
  have f7:RN wf28 wf28.heap.size (xs 7) (dig y):=hf _ (m_ 7 rfl)
  clear hf hn hd
  simp only[FL]
  have B29:=zz hbf
  have z29:=B29.out.size
  have K0:=zz (M1.out.trans (B29.out.mono M1.out.size))
  clear hbf
  generalize xs 0=x0,xs 1=x1,xs 2=x2,xs 3=x3,xs 4=x4,xs 5=x5,xs 6=x6,xs 7=x7 at *
  obtain rfl:=f0
  obtain rfl:=f1
  obtain rfl:=f2
  obtain⟨A31,c31,rfl,-⟩:=RN.cell f3
  have v0:=zz f3;clear f3
  obtain rfl:=f4
  obtain rfl:=f5
  obtain rfl:=f6
  obtain⟨A32,c32,rfl,-⟩:=RN.cell f7
  have h1:=zz f7;clear f7
  refine Early.next (i:=8) (by kernel_rfl) rfl (fun K hK=>?_)
  go_simp
  refine hK _ _ (fun _=>trivial) ?_
  clear hK K
  (try simp only[Act.put,List.setIfInBounds_toArray,List.set_cons_zero,List.set_cons_succ])
  refine Early.next (i:=9) (by kernel_rfl) rfl (fun K hK=>?_)
  go_simp
  refine hK _ _ (fun _=>trivial) ?_
  clear hK K
  (try simp only[Act.put,List.setIfInBounds_toArray,List.set_cons_zero,List.set_cons_succ])
  refine Early.done (by kernel_rfl) ?_ _
  (try simp only[Exit.then])
  go_upto_region 3 with (fail)
  refine Flow.run [⟨0,23,fun fv fw=>fv=.pointer (some ⟨w.heap.size,0,none⟩)⟩,⟨1,24,fun fv fw=>fv=.agg #[.bool n,.slice A l c]⟩,⟨2,25,fun fv fw=>fv=.slice A32 ((dig y)).length c32⟩,⟨3,26,fun fv fw=>WV fw fw.heap.size fv (q.num*(y:Int))⟩,⟨4,27,fun fv fw=>fv=.pointer (some ⟨w.heap.size+1,0,none⟩)⟩,⟨5,28,fun fv fw=>fv=.agg #[.bool m,.slice B k e]⟩,⟨6,29,fun fv fw=>fv=.slice A31 ((dig x)).length c31⟩,⟨7,30,fun fv fw=>WV fw fw.heap.size fv (r.num*(x:Int))⟩,⟨8,31,fun fv fw=>WV fw fw.heap.size fv N⟩,⟨9,8,fun fv fw=>∃ b,fv=.pointer (some ⟨b,0,none⟩)∧CB fw b 93 #[.bool false,.slice none 0 0]⟩] [] [9] 1 (by kernel_rfl) (by kernel_rfl) (by kernel_rfl) (fun _ _ _ _ _ h=>h) ?_ ?_ ?_ ?_
  ·refine(a0 (a0 (a0 (all_cons (fun v w1 w2 h hb=>h.step hb) (a0 (a0 (a0 (all_cons (fun v w1 w2 h hb=>h.step hb) (all_cons (fun v w1 w2 h hb=>h.step hb) (all_cons (fun v w1 w2 h hb=>let ⟨b,e,h⟩:=h;⟨b,e,h.step hb⟩) all_nil))))))))))
  ·refine(all_cons ?_ (all_cons ?_ (all_cons ?_ (all_cons ?_ (all_cons ?_ (all_cons ?_ (all_cons ?_ (all_cons ?_ (all_cons ?_ (all_cons ?_ all_nil))))))))))
   ·intro xs z3 b0 c0
    have D2:=zz b0;have A3:=b0.size;clear b0
    clear c0
    refine wpOp_step (o:=_) rfl (fun K hK=>?_)
    simp only[FL]
    go_simp
    refine hK _ _ ⟨.pointer (some ⟨w.heap.size,0,none⟩),by kernel_rfl,Below.refl _ _,rfl,nF⟩
   ·intro xs B3 b0 c0
    have i1:=zz b0;have C3:=b0.size;clear b0
    have f0:(xs 0)=.pointer (some ⟨w.heap.size,0,none⟩):=c0 _ (m_ 0 rfl) (by kernel_rfl)
    clear c0
    refine wpOp_step (o:=_) rfl (fun K hK=>?_)
    simp only[FL]
    have P1_3_36:=zz (B4.out.trans (B29.out.mono B4.out.size))
    have P1_4_37:=zz (P1_3_36.out.trans (i1.out.mono P1_3_36.out.size))
    have l0:=CB.step La P1_4_37.out
    have E2:=l0.cell 0 rfl
    have F2:=l0.cell 1 rfl
    have G2:=l0.cell 2 rfl
    have q38_lt:=l0.lt
    go_simp
    refine hK _ _ ⟨.agg #[.bool n,.slice A l c],by simp only[FL,f0],Below.refl _ _,rfl,nF⟩
   ·intro xs D3 b0 c0
    have H2:=zz b0;have E3:=b0.size;clear b0
    clear c0
    refine wpOp_step (o:=_) rfl (fun K hK=>?_)
    simp only[FL]
    go_simp
    refine hK _ _ ⟨.slice A32 ((dig y)).length c32,by kernel_rfl,Below.refl _ _,rfl,nF⟩
   ·intro xs F3 b0 c0
    have y0:=zz b0;have G3:=b0.size;clear b0
    have f1:(xs 1)=.agg #[.bool n,.slice A l c]:=c0 _ (m_ 1 rfl) (by kernel_rfl)
    have f2:(xs 2)=.slice A32 ((dig y)).length c32:=c0 _ (m_ 2 rfl) (by kernel_rfl)
    clear c0
    refine wpOp_step (o:=_) rfl (fun K hK=>?_)
    simp only[FL]
    go_simp
    have P1_3_41:=zz (B4.out.trans (B29.out.mono B4.out.size))
    have P1_4_42:=zz (P1_3_41.out.trans (y0.out.mono P1_3_41.out.size))
    have L0:=zz (WV.step HWA.out P1_4_42.out)
    have j1:=zz (RN.step h1.out y0.out)
    (with_reducible refine(wtimes_any _ _ _ q.num y L0.out j1.out (by have:=HL.out;omega) (by have:=HL.out;omega)).mono ?_)
    rintro e wc45 ⟨Y1,v45,rfl,Z1⟩
    refine hK _ _ ⟨v45,by simp only[FL,f1,f2],Y1,Z1,nF⟩
   ·intro xs H3 b0 c0
    have I2:=zz b0;have I3:=b0.size;clear b0
    clear c0
    refine wpOp_step (o:=_) rfl (fun K hK=>?_)
    simp only[FL]
    go_simp
    refine hK _ _ ⟨.pointer (some ⟨w.heap.size+1,0,none⟩),by kernel_rfl,Below.refl _ _,rfl,nF⟩
   ·intro xs J3 b0 c0
    have k1:=zz b0;have K3:=b0.size;clear b0
    have f4:(xs 4)=.pointer (some ⟨w.heap.size+1,0,none⟩):=c0 _ (m_ 4 rfl) (by kernel_rfl)
    clear c0
    refine wpOp_step (o:=_) rfl (fun K hK=>?_)
    simp only[FL]
    have P1_3_49:=zz (B4.out.trans (B29.out.mono B4.out.size))
    have P1_4_50:=zz (P1_3_49.out.trans (k1.out.mono P1_3_49.out.size))
    have m0:=CB.step Lb P1_4_50.out
    have J2:=m0.cell 0 rfl
    have K2:=m0.cell 1 rfl
    have L2:=m0.cell 2 rfl
    have q51_lt:=m0.lt
    go_simp
    refine hK _ _ ⟨.agg #[.bool m,.slice B k e],by simp only[FL,f4],Below.refl _ _,rfl,nF⟩
   ·intro xs L3 b0 c0
    have M2:=zz b0;have M3:=b0.size;clear b0
    clear c0
    refine wpOp_step (o:=_) rfl (fun K hK=>?_)
    simp only[FL]
    go_simp
    refine hK _ _ ⟨.slice A31 ((dig x)).length c31,by kernel_rfl,Below.refl _ _,rfl,nF⟩
   ·intro xs N3 b0 c0
    have A0:=zz b0;have O3:=b0.size;clear b0
    have f5:(xs 5)=.agg #[.bool m,.slice B k e]:=c0 _ (m_ 5 rfl) (by kernel_rfl)
    have f6:(xs 6)=.slice A31 ((dig x)).length c31:=c0 _ (m_ 6 rfl) (by kernel_rfl)
    clear c0
    refine wpOp_step (o:=_) rfl (fun K hK=>?_)
    simp only[FL]
    go_simp
    have P1_3_54:=zz (B4.out.trans (B29.out.mono B4.out.size))
    have P1_4_55:=zz (P1_3_54.out.trans (A0.out.mono P1_3_54.out.size))
    have M0:=zz (WV.step HWB.out P1_4_55.out)
    have m1:=zz (RN.step v0.out A0.out)
    (with_reducible refine(wtimes_any _ _ _ r.num x M0.out m1.out (by have:=HL.out;omega) (by have:=HL.out;omega)).mono ?_)
    rintro e wc58 ⟨a2,v58,rfl,b2⟩
    refine hK _ _ ⟨v58,by simp only[FL,f5,f6],a2,b2,nF⟩
   ·intro xs p0 b0 c0
    have N2:=zz b0;have P3:=b0.size;clear b0
    have f3:WV p0 p0.heap.size (xs 3) (q.num*(y:Int)):=c0 _ (m_ 3 rfl) (by kernel_rfl)
    have f7:WV p0 p0.heap.size (xs 7) (r.num*(x:Int)):=c0 _ (m_ 7 rfl) (by kernel_rfl)
    clear c0
    refine wpOp_step (o:=_) rfl (fun K hK=>?_)
    simp only[FL]
    go_simp
    (with_reducible refine(wplus_any _ _ _ (q.num*(y:Int)) (r.num*(x:Int)) f3 f7 (by have:=HL.out;omega) (by have:=HL.out;omega)).mono ?_)
    rintro e wc60 ⟨c2,v60,rfl,d2⟩
    refine hK _ _ ⟨v60,by kernel_rfl,c2,(by rw[HN.out];exact d2),nF⟩
   ·intro xs e2 b0 c0
    have O2:=zz b0;have Q3:=b0.size;clear b0
    clear c0
    refine wpOp_step (o:=_) rfl (fun K hK=>?_)
    simp only[FL]
    go_simp
    refine hK _ _ ⟨.pointer (some ⟨e2.heap.size,0,none⟩),by kernel_rfl,(Below.refl _ _).alloc (Nat.le_refl _) _,⟨_,rfl,CB.new _ _ _⟩,fun _=>⟨_,rfl,Nat.le_refl _,by simp⟩⟩
  ·exact all_nil
  ·intro xs wf62 hbf hf hn hd
   have f0:(xs 0)=.pointer (some ⟨w.heap.size,0,none⟩):=hf _ (m_ 0 rfl)
   have f1:(xs 1)=.agg #[.bool n,.slice A l c]:=hf _ (m_ 1 rfl)
   have f2:(xs 2)=.slice A32 ((dig y)).length c32:=hf _ (m_ 2 rfl)
   have f3:WV wf62 wf62.heap.size (xs 3) (q.num*(y:Int)):=hf _ (m_ 3 rfl)
   have f4:(xs 4)=.pointer (some ⟨w.heap.size+1,0,none⟩):=hf _ (m_ 4 rfl)
   have f5:(xs 5)=.agg #[.bool m,.slice B k e]:=hf _ (m_ 5 rfl)
   have f6:(xs 6)=.slice A31 ((dig x)).length c31:=hf _ (m_ 6 rfl)
   have f7:WV wf62 wf62.heap.size (xs 7) (r.num*(x:Int)):=hf _ (m_ 7 rfl)
   have f8:WV wf62 wf62.heap.size (xs 8) N:=hf _ (m_ 8 rfl)
   have f9:∃ b,(xs 9)=.pointer (some ⟨b,0,none⟩)∧CB wf62 b 93 #[.bool false,.slice none 0 0]:=hf _ (m_ 9 rfl)
   have n9:=hn 9 (by decide)
   clear hf hn hd
   simp only[FL]
   have B63:=zz hbf
   have z63:=B63.out.size
   have g2:=zz (K0.out.trans (B63.out.mono K0.out.size))
   clear hbf
   generalize xs 0=x0,xs 1=x1,xs 2=x2,xs 3=x3,xs 4=x4,xs 5=x5,xs 6=x6,xs 7=x7,xs 8=x8,xs 9=x9 at *
   obtain rfl:=f0
   obtain rfl:=f1
   obtain rfl:=f2
   clear f3
   obtain rfl:=f4
   obtain rfl:=f5
   obtain rfl:=f6
   clear f7
   obtain⟨on65,oA65,ol65,oc65,rfl,ha65,N0⟩:=f8
   have n1:=zz (WV.mk ha65 N0)
   clear ha65 N0
   obtain⟨bn66_v,rfl,Ln67_v⟩:=f9
   have hge_bn66_v:=zz (show wf28.heap.size≤bn66_v by obtain⟨b',e,h,-⟩:=n9;injection e with e;injection e with e;injection e with e _ _;omega)
   clear n9
   have hgb_bn66_v:=Ln67_v.lt;have hgc_bn66_v:=hge_bn66_v.out
   have o1:=Ln67_v.cell 0 rfl
   have q1:=Ln67_v.cell 1 rfl
   have q68_lt:=Ln67_v.lt
   have r1:=Ln67_v.frozen 0
   have s1:=Ln67_v.frozen 1
   have q69_lt:=Ln67_v.lt
   refine Early.next (i:=10) (by kernel_rfl) rfl (fun K hK=>?_)
   go_simp
   refine hK _ _ (fun _=>trivial) ?_
   clear hK K
   (try simp only[Act.put,List.setIfInBounds_toArray,List.set_cons_zero,List.set_cons_succ])
   clear o1 q1 q68_lt r1 s1 q69_lt
   refine Early.done (by kernel_rfl) ?_ _
   (try simp only[Exit.then])
   have P1_3_71:=zz (B4.out.trans (B29.out.mono B4.out.size))
   have P1_4_72:=zz (P1_3_71.out.trans (B63.out.mono P1_3_71.out.size))
   have t1:=CB.step La P1_4_72.out
   have u1:=CB.step Lb P1_4_72.out
   have v1:=CB.step Lo P1_4_72.out
   obtain⟨w75,e0⟩:∃ w75:World,w75=((wf62.setCell ⟨bn66_v,0,none⟩ (.bool on65)).setCell ⟨bn66_v,1,none⟩ (.slice oA65 ol65 oc65)):=⟨_,rfl⟩
   rw[← e0]
   have S75:=zz (show Soft wf62 w75 by rw[e0];exact(CB.soft1 (Ln67_v) (by simp[noInt_b,noInt_s]) 0 (.bool on65)).trans (CB.soft1 ((show CB _ (bn66_v) 93 #[.bool on65,.slice none 0 0] from CB.set (Ln67_v) 0 (.bool on65))) (by simp[noInt_b,noInt_s]) 1 (.slice oA65 ol65 oc65)))
   have P2:CB w75 (w.heap.size) 95 #[.bool n,.slice A l c,.slice A' l' c']:=by rw[e0];exact CB.far (p:=⟨bn66_v,1,none⟩) (CB.far (p:=⟨bn66_v,0,none⟩) (t1) (show w.heap.size≠bn66_v from by omega) _) (show w.heap.size≠bn66_v from by omega) _
   have y1:CB w75 (w.heap.size+1) 95 #[.bool m,.slice B k e,.slice B' k' e']:=by rw[e0];exact CB.far (p:=⟨bn66_v,1,none⟩) (CB.far (p:=⟨bn66_v,0,none⟩) (u1) (show w.heap.size+1≠bn66_v from by omega) _) (show w.heap.size+1≠bn66_v from by omega) _
   have z1:CB w75 (w.heap.size+2) 95 #[.bool false,.slice none 0 0,.slice none 0 0]:=by rw[e0];exact CB.far (p:=⟨bn66_v,1,none⟩) (CB.far (p:=⟨bn66_v,0,none⟩) (v1) (show w.heap.size+2≠bn66_v from by omega) _) (show w.heap.size+2≠bn66_v from by omega) _
   have i0:CB w75 (bn66_v) 93 #[.bool on65,.slice oA65 ol65 oc65]:=by rw[e0];exact(show CB _ (bn66_v) 93 #[.bool on65,.slice oA65 ol65 oc65] from CB.set ((show CB _ (bn66_v) 93 #[.bool on65,.slice none 0 0] from CB.set (Ln67_v) 0 (.bool on65))) 1 (.slice oA65 ol65 oc65))
   have C0:=zz (show Below w.heap.size w w75 by rw[e0];exact below_set1 (below_set1 (g2.out) (by omega) _ _) (by omega) _ _)
   have R3:w75.heap.size=wf62.heap.size:=by rw[e0];simp[World.setCell]
   clear e0
   have D0:=zz (WV.soft n1.out (S75.out))
   have HNN:=zz (WV.is D0.out).1;have HNS:=zz (WV.is D0.out).2
   have HRH:=zz (wred HNS.out (by rw[HH.out];exact Int.ofNat_dvd_left.2 (Nat.gcd_dvd_left _ _)) HH0.out)
   have A1:=i0.cell 0 rfl
   have B1:=i0.cell 1 rfl
   have q78_lt:=i0.lt
   go_wp2_with fail
   have C1:=zz (RN.soft Hg.out (((Soft.of B29.out).trans (Soft.of B63.out)).trans (S75.out)))
   refine(Common_any _ _ _ N.natAbs g HNN.out C1.out (by have:=HL.out;omega) (by have:=HL.out;omega)).mono ?_
   rintro e w77 ⟨O0,vh,rfl,hh⟩
   have B80:=zz O0
   have z80:=B80.out.size
   have P0:=zz (C0.out.trans (B80.out.mono C0.out.size))
   clear O0
   clear A1 B1 q78_lt
   rw[← HH.out] at hh;obtain⟨Hp,ch,rfl,-⟩:=hh.cell;have Hh:=zz hh;clear hh
   go_upto_region 5 with (fail)
   refine Flow.run [⟨0,36,fun fv fw=>fv=.pointer (some ⟨bn66_v,0,none⟩)⟩,⟨1,37,fun fv fw=>fv=.bool on65⟩,⟨2,38,fun fv fw=>fv=.pointer (some ⟨bn66_v,1,none⟩)⟩,⟨3,39,fun fv fw=>fv=.slice oA65 ol65 oc65⟩,⟨4,40,fun fv fw=>fv=.slice Hp (dig h).length ch⟩,⟨5,41,fun fv fw=>RN fw fw.heap.size fv (dig (N.natAbs / h))⟩,⟨6,42,fun fv fw=>WV fw fw.heap.size fv (N / (h:Int))⟩,⟨7,43,fun fv fw=>fv=.slice A31 ((dig x)).length c31⟩,⟨8,44,fun fv fw=>fv=.pointer (some ⟨w.heap.size+1,2,none⟩)⟩,⟨9,45,fun fv fw=>fv=.slice B' k' e'⟩,⟨10,46,fun fv fw=>fv=.slice Hp (dig h).length ch⟩,⟨11,47,fun fv fw=>RN fw fw.heap.size fv (dig (r.den / h))⟩,⟨12,48,fun fv fw=>RN fw fw.heap.size fv (dig (x*(r.den / h)))⟩,⟨13,49,fun fv fw=>TV fw fw.heap.size fv (N / (h:Int)) (x*(r.den / h))⟩] [] [] 1 (by kernel_rfl) (by kernel_rfl) (by kernel_rfl) (fun _ _ _ _ _ h=>h) ?_ ?_ ?_ ?_
   ·refine(a0 (a0 (a0 (a0 (a0 (all_cons (fun v w1 w2 h hb=>h.step hb) (all_cons (fun v w1 w2 h hb=>h.step hb) (a0 (a0 (a0 (a0 (all_cons (fun v w1 w2 h hb=>h.step hb) (all_cons (fun v w1 w2 h hb=>h.step hb) (all_cons (fun v w1 w2 h hb=>h.step hb) all_nil))))))))))))))
   ·refine(all_cons ?_ (all_cons ?_ (all_cons ?_ (all_cons ?_ (all_cons ?_ (all_cons ?_ (all_cons ?_ (all_cons ?_ (all_cons ?_ (all_cons ?_ (all_cons ?_ (all_cons ?_ (all_cons ?_ (all_cons ?_ all_nil))))))))))))))
    ·intro xs S3 b0 c0
     have Q2:=zz b0;have T3:=b0.size;clear b0
     clear c0
     refine wpOp_step (o:=_) rfl (fun K hK=>?_)
     simp only[FL]
     go_simp
     refine hK _ _ ⟨.pointer (some ⟨bn66_v,0,none⟩),by kernel_rfl,Below.refl _ _,rfl,nF⟩
    ·intro xs U3 b0 c0
     have D1:=zz b0;have V3:=b0.size;clear b0
     have f0:(xs 0)=.pointer (some ⟨bn66_v,0,none⟩):=c0 _ (m_ 0 rfl) (by kernel_rfl)
     clear c0
     refine wpOp_step (o:=_) rfl (fun K hK=>?_)
     simp only[FL]
     have P5_7_85:=zz (B80.out.trans (D1.out.mono B80.out.size))
     have q0:=CB.step i0 P5_7_85.out
     have R2:=q0.cell 0 rfl
     have S2:=q0.cell 1 rfl
     have q86_lt:=q0.lt
     go_simp
     refine hK _ _ ⟨.bool on65,by simp only[FL,f0],Below.refl _ _,rfl,nF⟩
    ·intro xs W3 b0 c0
     have T2:=zz b0;have X3:=b0.size;clear b0
     clear c0
     refine wpOp_step (o:=_) rfl (fun K hK=>?_)
     simp only[FL]
     go_simp
     refine hK _ _ ⟨.pointer (some ⟨bn66_v,1,none⟩),by kernel_rfl,Below.refl _ _,rfl,nF⟩
    ·intro xs Y3 b0 c0
     have E1:=zz b0;have Z3:=b0.size;clear b0
     have f2:(xs 2)=.pointer (some ⟨bn66_v,1,none⟩):=c0 _ (m_ 2 rfl) (by kernel_rfl)
     clear c0
     refine wpOp_step (o:=_) rfl (fun K hK=>?_)
     simp only[FL]
     have P5_7_90:=zz (B80.out.trans (E1.out.mono B80.out.size))
     have r0:=CB.step i0 P5_7_90.out
     have U2:=r0.cell 0 rfl
     have V2:=r0.cell 1 rfl
     have q91_lt:=r0.lt
     go_simp
     refine hK _ _ ⟨.slice oA65 ol65 oc65,by simp only[FL,f2],Below.refl _ _,rfl,nF⟩
    ·intro xs a4 b0 c0
     have W2:=zz b0;have b4:=b0.size;clear b0
     clear c0
     refine wpOp_step (o:=_) rfl (fun K hK=>?_)
     simp only[FL]
     go_simp
     refine hK _ _ ⟨.slice Hp (dig h).length ch,by kernel_rfl,Below.refl _ _,rfl,nF⟩
    ·intro xs c4 b0 c0
     have E0:=zz b0;have d4:=b0.size;clear b0
     have f3:(xs 3)=.slice oA65 ol65 oc65:=c0 _ (m_ 3 rfl) (by kernel_rfl)
     have f4:(xs 4)=.slice Hp (dig h).length ch:=c0 _ (m_ 4 rfl) (by kernel_rfl)
     clear c0
     refine wpOp_step (o:=_) rfl (fun K hK=>?_)
     simp only[FL]
     go_simp
     have P5_7_94:=zz (B80.out.trans (E0.out.mono B80.out.size))
     have Q0:=zz (RN.step HNN.out P5_7_94.out)
     have F1:=zz (RN.step Hh.out E0.out)
     (with_reducible refine(without_any _ _ _ N.natAbs h Q0.out F1.out HH0.out (by have:=HL.out;omega)).mono ?_)
     rintro e wc97 ⟨h2,v97,rfl,i2⟩
     refine hK _ _ ⟨v97,by simp only[FL,f3,f4],h2,i2,nF⟩
    ·intro xs R0 b0 c0
     have X2:=zz b0;have e4:=b0.size;clear b0
     have f5:RN R0 R0.heap.size (xs 5) (dig (N.natAbs / h)):=c0 _ (m_ 5 rfl) (by kernel_rfl)
     have f1:(xs 1)=.bool on65:=c0 _ (m_ 1 rfl) (by kernel_rfl)
     clear c0
     refine wpOp_step (o:=_) rfl (fun K hK=>?_)
     simp only[FL]
     obtain⟨A5,c5,hx5,-⟩:=RN.cell f5;have r5:=f5;rw[hx5] at r5 ⊢
     go_simp
     refine hK _ _ ⟨.agg #[.bool on65,.slice A5 (dig (N.natAbs / h)).length c5],by simp only[FL,f1,hx5],Below.refl _ _,WV.mk (by rw[HRH.out.1];exact r5) HRH.out.2,nF⟩
    ·intro xs g4 b0 c0
     have Y2:=zz b0;have h4:=b0.size;clear b0
     clear c0
     refine wpOp_step (o:=_) rfl (fun K hK=>?_)
     simp only[FL]
     go_simp
     refine hK _ _ ⟨.slice A31 ((dig x)).length c31,by kernel_rfl,Below.refl _ _,rfl,nF⟩
    ·intro xs Z2 b0 c0
     have j2:=zz b0;have a3:=b0.size;clear b0
     clear c0
     refine wpOp_step (o:=_) rfl (fun K hK=>?_)
     simp only[FL]
     go_simp
     refine hK _ _ ⟨.pointer (some ⟨w.heap.size+1,2,none⟩),by kernel_rfl,Below.refl _ _,rfl,nF⟩
    ·intro xs b3 b0 c0
     have S0:=zz b0;have c3:=b0.size;clear b0
     have f8:(xs 8)=.pointer (some ⟨w.heap.size+1,2,none⟩):=c0 _ (m_ 8 rfl) (by kernel_rfl)
     clear c0
     refine wpOp_step (o:=_) rfl (fun K hK=>?_)
     simp only[FL]
     have P5_7_103:=zz (B80.out.trans (S0.out.mono B80.out.size))
     have j0:=CB.step y1 P5_7_103.out
     have k2:=j0.cell 0 rfl
     have m2:=j0.cell 1 rfl
     have n2:=j0.cell 2 rfl
     have q104_lt:=j0.lt
     go_simp
     refine hK _ _ ⟨.slice B' k' e',by simp only[FL,f8],Below.refl _ _,rfl,nF⟩
    ·intro xs d3 b0 c0
     have o2:=zz b0;have e3:=b0.size;clear b0
     clear c0
     refine wpOp_step (o:=_) rfl (fun K hK=>?_)
     simp only[FL]
     go_simp
     refine hK _ _ ⟨.slice Hp (dig h).length ch,by kernel_rfl,Below.refl _ _,rfl,nF⟩
    ·intro xs g3 b0 c0
     have s0:=zz b0;have h3:=b0.size;clear b0
     have f9:(xs 9)=.slice B' k' e':=c0 _ (m_ 9 rfl) (by kernel_rfl)
     have f10:(xs 10)=.slice Hp (dig h).length ch:=c0 _ (m_ 10 rfl) (by kernel_rfl)
     clear c0
     refine wpOp_step (o:=_) rfl (fun K hK=>?_)
     simp only[FL]
     go_simp
     have H0:=zz (RN.soft He.out ((((((Soft.of B4.out).trans (Soft.of B29.out)).trans (Soft.of B63.out)).trans (S75.out)).trans (Soft.of B80.out)).trans (Soft.of s0.out)))
     have T0:=zz (RN.step Hh.out s0.out)
     (with_reducible refine(without_any _ _ _ r.den h H0.out T0.out HH0.out (by have:=HL.out;omega)).mono ?_)
     rintro e wc109 ⟨G1,v109,rfl,H1⟩
     refine hK _ _ ⟨v109,by simp only[FL,f9,f10],G1,H1,nF⟩
    ·intro xs F0 b0 c0
     have U0:=zz b0;have i3:=b0.size;clear b0
     have f7:(xs 7)=.slice A31 ((dig x)).length c31:=c0 _ (m_ 7 rfl) (by kernel_rfl)
     have f11:RN F0 F0.heap.size (xs 11) (dig (r.den / h)):=c0 _ (m_ 11 rfl) (by kernel_rfl)
     clear c0
     refine wpOp_step (o:=_) rfl (fun K hK=>?_)
     simp only[FL]
     go_simp
     have V0:=zz (RN.soft v0.out ((((Soft.of B63.out).trans (S75.out)).trans (Soft.of B80.out)).trans (Soft.of U0.out)))
     (with_reducible refine(Times_any _ _ _ x (r.den / h) V0.out f11 (by have:=HL.out;omega) (by have:=HL.out;omega)).mono ?_)
     rintro e wc112 ⟨I1,v112,rfl,J1⟩
     refine hK _ _ ⟨v112,by simp only[FL,f7],I1,J1,nF⟩
    ·intro xs n0 b0 c0
     have q2:=zz b0;have j3:=b0.size;clear b0
     have f6:WV n0 n0.heap.size (xs 6) (N / (h:Int)):=c0 _ (m_ 6 rfl) (by kernel_rfl)
     have f12:RN n0 n0.heap.size (xs 12) (dig (x*(r.den / h))):=c0 _ (m_ 12 rfl) (by kernel_rfl)
     clear c0
     refine wpOp_step (o:=_) rfl (fun K hK=>?_)
     simp only[FL]
     obtain⟨nw6,Aw6,lw6,cw6,hw6,gw6,sw6⟩:=f6
     obtain⟨A12,c12,hx12,-⟩:=RN.cell f12;have r12:=f12;rw[hx12] at r12 ⊢;rw[hw6]
     go_simp
     refine hK _ _ ⟨.agg #[.bool nw6,.slice Aw6 lw6 cw6,.slice A12 (dig (x*(r.den / h))).length c12],by simp only[FL,hx12,hw6],Below.refl _ _,TV.mk gw6 r12 sw6,nF⟩
   ·exact all_nil
   ·intro xs wf114 hbf hf hn hd
    have f0:(xs 0)=.pointer (some ⟨bn66_v,0,none⟩):=hf _ (m_ 0 rfl)
    have f1:(xs 1)=.bool on65:=hf _ (m_ 1 rfl)
    have f2:(xs 2)=.pointer (some ⟨bn66_v,1,none⟩):=hf _ (m_ 2 rfl)
    have f3:(xs 3)=.slice oA65 ol65 oc65:=hf _ (m_ 3 rfl)
    have f4:(xs 4)=.slice Hp (dig h).length ch:=hf _ (m_ 4 rfl)
    have f5:RN wf114 wf114.heap.size (xs 5) (dig (N.natAbs / h)):=hf _ (m_ 5 rfl)
    have f6:WV wf114 wf114.heap.size (xs 6) (N / (h:Int)):=hf _ (m_ 6 rfl)
    have f7:(xs 7)=.slice A31 ((dig x)).length c31:=hf _ (m_ 7 rfl)
    have f8:(xs 8)=.pointer (some ⟨w.heap.size+1,2,none⟩):=hf _ (m_ 8 rfl)
    have f9:(xs 9)=.slice B' k' e':=hf _ (m_ 9 rfl)
    have f10:(xs 10)=.slice Hp (dig h).length ch:=hf _ (m_ 10 rfl)
    have f11:RN wf114 wf114.heap.size (xs 11) (dig (r.den / h)):=hf _ (m_ 11 rfl)
    have f12:RN wf114 wf114.heap.size (xs 12) (dig (x*(r.den / h))):=hf _ (m_ 12 rfl)
    have f13:TV wf114 wf114.heap.size (xs 13) (N / (h:Int)) (x*(r.den / h)):=hf _ (m_ 13 rfl)
    clear hf hn hd
    simp only[FL]
    have B115:=zz hbf
    have z115:=B115.out.size
    have K1:=zz (P0.out.trans (B115.out.mono P0.out.size))
    clear hbf
    generalize xs 0=x0,xs 1=x1,xs 2=x2,xs 3=x3,xs 4=x4,xs 5=x5,xs 6=x6,xs 7=x7,xs 8=x8,xs 9=x9,xs 10=x10,xs 11=x11,xs 12=x12,xs 13=x13 at *
    obtain rfl:=f0
    obtain rfl:=f1
    obtain rfl:=f2
    obtain rfl:=f3
    obtain rfl:=f4
    clear f5
    clear f6
    obtain rfl:=f7
    obtain rfl:=f8
    obtain rfl:=f9
    obtain rfl:=f10
    clear f11
    clear f12
    obtain⟨on117,oA117,ol117,oc117,oB117,r2,od117,rfl,ha117,G0,hc117⟩:=f13
    have W0:=zz (TV.mk ha117 G0 hc117)
    clear ha117 G0 hc117
    have P5_7_119:=zz (B80.out.trans (B115.out.mono B80.out.size))
    have d0:=CB.step z1 P5_7_119.out
    have X0:=d0.cell 0 rfl
    have Y0:=d0.cell 1 rfl
    have Z0:=d0.cell 2 rfl
    have q120_lt:=d0.lt
    have a1:=d0.frozen 0
    have b1:=d0.frozen 1
    have c1:=d0.frozen 2
    have q121_lt:=d0.lt
    refine Early.next (i:=14) (by kernel_rfl) rfl (fun K hK=>?_)
    go_simp
    refine hK _ _ (fun _=>trivial) ?_
    clear hK K
    (try simp only[Act.put,List.setIfInBounds_toArray,List.set_cons_zero,List.set_cons_succ])
    clear X0 Y0 Z0 q120_lt a1 b1 c1 q121_lt
    refine Early.done (by kernel_rfl) ?_ _
    (try simp only[Exit.then])
    go_wp2
    have HF:=zz (show ∀ w B v,TV w B v (N / (h:Int)) (x*(r.den / h))→RV w B v (q+r) from fun w B v t=>by unfold RV;rw[HSG.out.1,HSG.out.2];exact t)
    exact bodyPost_mono (TB.fin rfl d0 (by simp[noInt_b,noInt_s]) K1.out (by omega) W0.out rfl) (fun e w' ⟨hb,v,he,hv⟩=>⟨hb,v,he,HF.out _ _ _ hv⟩)
end Go.Proofs.YtioclokmbgmamaaGreatDoor
