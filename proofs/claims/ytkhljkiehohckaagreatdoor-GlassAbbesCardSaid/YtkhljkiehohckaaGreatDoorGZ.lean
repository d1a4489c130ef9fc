/- Layer 09, the reference: Abbe, Partial (written by gen_gz.py). -/
import Derived.Test.YtkhljkiehohckaaGreatDoorGY
import Derived.Test.YtkhljkiehohckaaGreatDoorGq
namespace Go.Proofs.YtkhljkiehohckaaGreatDoor
open Go Go.RowKit Dig
theorem ridx {w:World} {g:GL} {L a r:Int} (hs:g.nm.size≤1000) (h:inG g L=(a,r)) :
  Calls Tryz.prog 23 #[.agg (GC g),.int .i64 L] w fun e w'=>Below w.heap.size w w'∧e=.returned (.tuple #[.int .i64 a,.int .i64 r]):=by
 have k:=RIndex_G w g L hs;rw[h] at k;exact k
theorem inG_b {g:GL} {L a r:Int} (h:inG g L=(a,r)):0≤a∧a≤40000000:=by have:=inG_bound g L;rw[h] at this;exact this
theorem mk_ok {x y:Int} (hx:-40000000≤x∧x≤40000000) (hy:-40000000≤y∧y≤40000000) (h0:y≠0):mkQ x y=(some (Rat.divInt x y),0):=(mk_small hx hy h0).1
set_option maxRecDepth 100000 in
set_option maxHeartbeats 4000000 in
theorem RAbbe_G (w:World) (g:GL) (hs:g.nm.size≤1000) :
  Calls Tryz.prog 29 #[.agg (GC g)] w fun e w'=>Below w.heap.size w w'∧RetQ w' (abG g) e:=by
 obtain⟨t,ht⟩:∃ t,t=abG g:=⟨_,rfl⟩;rw[← ht];obtain⟨⟨x0,r0⟩,h0⟩:∃ z,inG g 587562=z:=⟨_,rfl⟩;obtain⟨⟨x1,r1⟩,h1⟩:∃ z,inG g 486133=z:=⟨_,rfl⟩;obtain⟨⟨x2,r2⟩,h2⟩:∃ z,inG g 656273=z:=⟨_,rfl⟩;rw[abG,h0,h1,h2] at ht;simp only at ht;have HT:=zz ht;clear ht;have H0:=zz h0;clear h0;have H1:=zz h1;clear h1;have H2:=zz h2;clear h2;obtain⟨w0,hw0⟩:∃ w0:World,w0=((w.alloc (.cells (GC g) 32)).alloc (.cells #[.bool false,.slice none 0 0,.bool false,.slice none 0 0] 43)):=⟨_,rfl⟩;have B0:=zz (n2_b hw0);have z0:=n2_z hw0;have Lg:=n2_0 hw0;have Lr2:=n2_1 hw0;go_enter Tryz.func29,Tryz.ntmps29
 go_upto_region 1 with (fail)
 rw[← hw0];clear hw0;go_wp2_with (refine wpList_load_row rfl _ _ rfl _ rfl _ _ (0,0) _ Lg rfl rfl rfl ?_)
 refine(ridx hs H0.out).mono ?_;rintro e w1 ⟨e1,rfl⟩;have B2:=zz e1;have z2:=B2.out.size;have k0:=zz (B0.out.trans (B2.out.mono B0.out.size));clear e1;by_cases hr:r0=0
 rotate_left
 ·have hx:(r0 != 0)=true:=bne_iff_ne.2 hr;have q1:=zz (show t=(none,r0) by have h:=HT.out;rw[h];rw[if_pos hr]);clear hr;have f0:=CB.step Lr2 B2.out;have g1:=f0.cell 0 rfl;have i1:=f0.cell 1 rfl;have j1:=f0.cell 2 rfl;have k1:=f0.cell 3 rfl;have D1:=f0.lt;have l1:=f0.frozen 0;have m1:=f0.frozen 1;have n1:=f0.frozen 2;have o1:=f0.frozen 3;have E1:=f0.lt;go_wp2;clear g1 i1 j1 k1 D1 l1 m1 n1 o1 E1;exact QB.fin rfl f0 (by simp[noInt_b,noInt_s]) k0.out (by omega) (by rw[q1.out];exact zeroQ _ _) rfl (by rw[q1.out];rfl)
 subst hr;have l0:=CB.step Lg B2.out;go_wp2_with (refine wpList_load_row rfl _ _ rfl _ rfl _ _ (0,0) _ l0 rfl rfl rfl ?_)
 refine(ridx hs H1.out).mono ?_;rintro e w8 ⟨f1,rfl⟩;have B9:=zz f1;have z9:=B9.out.size;have i0:=zz (k0.out.trans (B9.out.mono k0.out.size));clear f1;by_cases hr:r1=0
 rotate_left
 ·have hx:(r1 != 0)=true:=bne_iff_ne.2 hr;have q1:=zz (show t=(none,r1) by have h:=HT.out;rw[if_neg (by decide)] at h;rw[h];rw[if_pos hr]);clear hr;have P1_3_12:=zz (B2.out.trans (B9.out.mono B2.out.size));have a0:=CB.step Lr2 P1_3_12.out;have p0:=a0.cell 0 rfl;have q0:=a0.cell 1 rfl;have s0:=a0.cell 2 rfl;have t0:=a0.cell 3 rfl;have t1:=a0.lt;have u0:=a0.frozen 0;have v0:=a0.frozen 1;have y0:=a0.frozen 2;have A0:=a0.frozen 3;have u1:=a0.lt;go_wp2;clear p0 q0 s0 t0 t1 u0 v0 y0 A0 u1;exact QB.fin rfl a0 (by simp[noInt_b,noInt_s]) i0.out (by omega) (by rw[q1.out];exact zeroQ _ _) rfl (by rw[q1.out];rfl)
 subst hr;have C0:=CB.step l0 B9.out;go_wp2_with (refine wpList_load_row rfl _ _ rfl _ rfl _ _ (0,0) _ C0 rfl rfl rfl ?_)
 refine(ridx hs H2.out).mono ?_;rintro e w16 ⟨m0,rfl⟩;have B17:=zz m0;have z17:=B17.out.size;have g0:=zz (i0.out.trans (B17.out.mono i0.out.size));clear m0;by_cases hr:r2=0
 rotate_left
 ·have hx:(r2 != 0)=true:=bne_iff_ne.2 hr;have q1:=zz (show t=(none,r2) by have h:=HT.out;rw[if_neg (by decide)] at h;rw[if_neg (by decide)] at h;rw[h];rw[if_pos hr]);clear hr;have P1_3_20:=zz (B2.out.trans (B9.out.mono B2.out.size));have P1_4_21:=zz (P1_3_20.out.trans (B17.out.mono P1_3_20.out.size));have c0:=CB.step Lr2 P1_4_21.out;have D0:=c0.cell 0 rfl;have E0:=c0.cell 1 rfl;have F0:=c0.cell 2 rfl;have G0:=c0.cell 3 rfl;have v1:=c0.lt;have I0:=c0.frozen 0;have J0:=c0.frozen 1;have K0:=c0.frozen 2;have L0:=c0.frozen 3;have y1:=c0.lt;go_wp2;clear D0 E0 F0 G0 v1 I0 J0 K0 L0 y1;exact QB.fin rfl c0 (by simp[noInt_b,noInt_s]) g0.out (by omega) (by rw[q1.out];exact zeroQ _ _) rfl (by rw[q1.out];rfl)
 subst hr;replace HT:=zz (show t=mkQ (x0-10000000) (x1-x2) by rw[HT.out,if_neg (by decide),if_neg (by decide),if_neg (by decide)]);have b0:=inG_b H0.out;have b1:=inG_b H1.out;have b2:=inG_b H2.out;by_cases h0:x1=x2
 ·have hk:(x1==x2)=true:=beq_iff_eq.2 h0;have q1:=zz (show t=(none,7) by rw[HT.out,mkQ,if_pos (by omega)]);clear h0 b0 b1 b2;have P1_3_25:=zz (B2.out.trans (B9.out.mono B2.out.size));have P1_4_26:=zz (P1_3_25.out.trans (B17.out.mono P1_3_25.out.size));have d0:=CB.step Lr2 P1_4_26.out;have M0:=d0.cell 0 rfl;have N0:=d0.cell 1 rfl;have O0:=d0.cell 2 rfl;have P0:=d0.cell 3 rfl;have z1:=d0.lt;have Q0:=d0.frozen 0;have R0:=d0.frozen 1;have S0:=d0.frozen 2;have T0:=d0.frozen 3;have A1:=d0.lt;go_wp2;clear M0 N0 O0 P0 z1 Q0 R0 S0 T0 A1;exact QB.fin rfl d0 (by simp[noInt_b,noInt_s]) g0.out (by omega) (by rw[q1.out];exact zeroQ _ _) rfl (by rw[q1.out];rfl)
 ·have hk:(x1==x2)=false:=beq_eq_false_iff_ne.2 h0;obtain⟨x,hx⟩:∃ x,x0-10000000=x:=⟨_,rfl⟩;obtain⟨y,hy⟩:∃ y,x1-x2=y:=⟨_,rfl⟩;have M1:=zz (show -9223372036854775808≤x∧x≤9223372036854775807 by omega);have N1:=zz (show -9223372036854775808≤y∧y≤9223372036854775807 by omega);have O1:=zz (show y≠0 by omega);have hwx:wrap64 (x0-10000000)=x:=by rw[hx];exact IntWalk.wrap64_in _ (by omega)
  have hwy:wrap64 (x1-x2)=y:=by rw[hy];exact IntWalk.wrap64_in _ (by omega)
  have q1:=zz (show t=(some (Rat.divInt x y),0) by rw[HT.out,hx,hy];exact mk_ok (by omega) (by omega) (by omega));clear h0 b0 b1 b2 hx hy;go_wp2_with fail
  refine(rOf M1.out N1.out O1.out).mono ?_;rintro e w29 ⟨n0,v,rfl,hv⟩;have B30:=zz n0;have z30:=B30.out.size;have p1:=zz (g0.out.trans (B30.out.mono g0.out.size));clear n0;obtain⟨F1,G1,I1,J1,K1,U0,L1,rfl,ha32,o0,hc32⟩:=hv;have j0:=zz (show QV w29 w29.heap.size (.agg #[.bool F1,.slice G1 I1 J1,.bool false,.slice K1 U0 L1]) (Rat.divInt x y) from⟨_,_,_,_,_,_,_,rfl,ha32,o0,hc32⟩);clear ha32 o0 hc32;have P1_3_34:=zz (B2.out.trans (B9.out.mono B2.out.size));have P1_4_35:=zz (P1_3_34.out.trans (B17.out.mono P1_3_34.out.size));have P1_5_36:=zz (P1_4_35.out.trans (B30.out.mono P1_4_35.out.size));have e0:=CB.step Lr2 P1_5_36.out;have V0:=e0.cell 0 rfl;have W0:=e0.cell 1 rfl;have X0:=e0.cell 2 rfl;have Y0:=e0.cell 3 rfl;have B1:=e0.lt;have Z0:=e0.frozen 0;have a1:=e0.frozen 1;have c1:=e0.frozen 2;have d1:=e0.frozen 3;have C1:=e0.lt;go_wp2;clear V0 W0 X0 Y0 B1 Z0 a1 c1 d1 C1;exact QB.fin rfl e0 (by simp[noInt_b,noInt_s]) p1.out (by omega) (by rw[q1.out];exact j0.out) rfl (by rw[q1.out];rfl)
def nRow (x0 x1 x2 x3:Int):Nat→Array Value
 | 0=>#[.int .i64 0,.int .i64 0,.int .i64 0,.int .i64 0]
 | 1=>#[.int .i64 x0,.int .i64 0,.int .i64 0,.int .i64 0]
 | 2=>#[.int .i64 x0,.int .i64 x1,.int .i64 0,.int .i64 0]
 | 3=>#[.int .i64 x0,.int .i64 x1,.int .i64 x2,.int .i64 0]
 | _=>#[.int .i64 x0,.int .i64 x1,.int .i64 x2,.int .i64 x3]
def rsOk (r0 r1 r2 r3:Int):Nat→Prop
 | 0=>True
 | 1=>r0=0
 | 2=>r0=0∧r1=0
 | 3=>r0=0∧r1=0∧r2=0
 | _=>r0=0∧r1=0∧r2=0∧r3=0
set_option maxRecDepth 100000 in
set_option maxHeartbeats 4000000 in
theorem RPartial_G (w:World) (g:GL) (p q:Int) (hs:g.nm.size≤1000) :
  Calls Tryz.prog 31 #[.agg (GC g),.int .i64 p,.int .i64 q] w fun e w'=>Below w.heap.size w w'∧RetQ w' (paG g p q) e:=by
 obtain⟨t,ht⟩:∃ t,t=paG g p q:=⟨_,rfl⟩;rw[← ht];obtain⟨⟨x0,r0⟩,h0⟩:∃ z,inG g 486133=z:=⟨_,rfl⟩;obtain⟨⟨x1,r1⟩,h1⟩:∃ z,inG g 656273=z:=⟨_,rfl⟩;obtain⟨⟨x2,r2⟩,h2⟩:∃ z,inG g p=z:=⟨_,rfl⟩;obtain⟨⟨x3,r3⟩,h3⟩:∃ z,inG g q=z:=⟨_,rfl⟩;rw[paG,h0,h1,h2,h3] at ht;simp only at ht;have HT:=zz ht;clear ht;have H0:=zz h0;clear h0;have H1:=zz h1;clear h1;have H2:=zz h2;clear h2;have H3:=zz h3;clear h3;obtain⟨w0,hw0⟩:∃ w0:World,w0=((w.alloc (.cells (GC g) 32)).alloc (.cells #[.bool false,.slice none 0 0,.bool false,.slice none 0 0] 43)):=⟨_,rfl⟩;have B0:=zz (n2_b hw0);have z0:=n2_z hw0;have Lg:=n2_0 hw0;have Lr6:=n2_1 hw0;go_enter Tryz.func31,Tryz.ntmps31
 go_upto_region 1 with (fail)
 rw[← hw0];clear hw0;go_upto_region 2 with (fail)
 obtain⟨w1,u0⟩:∃ w1:World,w1=(w0.alloc (.cells #[.int .i64 0,.int .i64 0,.int .i64 0,.int .i64 0] 100)):=⟨_,rfl⟩;rw[← u0];have q3:=n1_0 u0;have za1:=n1_z u0;have B2:=zz (n1_b u0);have z2:=B2.out.size;have A3:=zz (B0.out.trans (B2.out.mono B0.out.size));clear u0;go_wp2;have Y5:=zz (show w.heap.size+1<w0.heap.size by omega);have y1:=CB.step Lr6 B2.out;have s3:=CB.step Lg B2.out;go_loopw [9] (fun iv wr=>∃ k:Nat,k≤4∧iv=.int .i64 k∧Hid (rsOk r0 r1 r2 r3 k)∧Hid (CB wr w0.heap.size 100 (nRow x0 x1 x2 x3 k))∧Hid (CB wr (w.heap.size+1) 43 #[.bool false,.slice none 0 0,.bool false,.slice none 0 0])∧Hid (CB wr w.heap.size 32 (GC g))∧Hid (Below w.heap.size w wr)) (fun iv _=>4-(intOf iv).toNat)
 case atStart=>exact⟨0,by decide,rfl,zz trivial,zz q3,zz y1,zz s3,A3⟩
 case round=>
  obtain⟨k,hk,rfl,HK,HN,HR,HG,HW⟩:=hrel;have zr:=HW.out.size;rcases(show k=0∨k=1∨k=2∨k=3∨k=4 by omega) with rfl | rfl | rfl | rfl | rfl
  ·have X5:=zz (show True from HK.out);rw[show((0:Nat):Int)=0 from rfl];have J6:CB wr w0.heap.size 100 #[.int .i64 0,.int .i64 0,.int .i64 0,.int .i64 0]:=HN.out;have zl1:=J6.lt;have zl2:=HR.out.lt;have zl3:=HG.out.lt;go_upto_region 5 with (fail)
   refine Flow.run [⟨0,17,fun fv fw=>fv=.agg (GC g)⟩,⟨1,18,fun fv fw=>fv=.int .i64 p⟩,⟨2,19,fun fv fw=>fv=.int .i64 q⟩,⟨3,20,fun fv fw=>fv=.agg #[.int .i64 486133,.int .i64 656273,.int .i64 p,.int .i64 q]⟩,⟨4,21,fun fv fw=>fv=.int .i64 0⟩,⟨5,22,fun fv fw=>fv=.int .i64 486133⟩,⟨6,23,fun fv fw=>fv=.tuple #[.int .i64 x0,.int .i64 r0]⟩,⟨7,16,fun fv fw=>fv=.tuple #[.int .i64 x0,.int .i64 r0]⟩,⟨8,24,fun fv fw=>fv=.int .i64 x0⟩] [⟨9,25,fun fv fw=>fv=.int .i64 r0⟩] [] 2 (by kernel_rfl) (by kernel_rfl) (by kernel_rfl) (fun _ _ _ _ _ h=>h) ?_ ?_ ?_ ?_
   ·refine(a0 (a0 (a0 (a0 (a0 (a0 (a0 (a0 (a0 (a0 all_nil))))))))))
   ·refine(all_cons ?_ (all_cons ?_ (all_cons ?_ (all_cons ?_ (all_cons ?_ (all_cons ?_ (all_cons ?_ (all_cons ?_ (all_cons ?_ all_nil)))))))))
    ·intro xs wk6 c0 d0;have t3:=zz c0;have Q5:=c0.size;clear c0;clear d0;refine wpOp_step (o:=_) rfl (fun K hK=>?_);simp only[FL]
     rw[if_pos (show Region.wanted _ _=true from rfl)];have u3:=CB.step HG.out t3.out;refine wp_load_row _ _ rfl _ rfl _ _ (0,0) _ u3 rfl rfl rfl ?_;refine hK _ _ ⟨.agg (GC g),by kernel_rfl,Below.refl _ _,rfl,nF⟩
    ·intro xs R5 c0 d0;clear c0;clear d0;refine wpOp_step (o:=_) rfl (fun K hK=>?_);simp only[FL]
     go_simp;refine hK _ _ ⟨.int .i64 p,by kernel_rfl,Below.refl _ _,rfl,nF⟩
    ·intro xs T5 c0 d0;clear c0;clear d0;refine wpOp_step (o:=_) rfl (fun K hK=>?_);simp only[FL]
     go_simp;refine hK _ _ ⟨.int .i64 q,by kernel_rfl,Below.refl _ _,rfl,nF⟩
    ·intro xs o4 c0 d0;clear c0;have f1:(xs 1)=.int .i64 p:=d0 _ (m_ 1 rfl) (by kernel_rfl);have f2:(xs 2)=.int .i64 q:=d0 _ (m_ 2 rfl) (by kernel_rfl);clear d0;refine wpOp_step (o:=_) rfl (fun K hK=>?_);simp only[FL]
     go_simp;refine hK _ _ ⟨.agg #[.int .i64 486133,.int .i64 656273,.int .i64 p,.int .i64 q],by simp only[FL,f1,f2] <;> kernel_rfl,Below.refl _ _,rfl,nF⟩
    ·intro xs q4 c0 d0;clear c0;clear d0;refine wpOp_step (o:=_) rfl (fun K hK=>?_);simp only[FL]
     go_simp;refine hK _ _ ⟨.int .i64 0,by kernel_rfl,Below.refl _ _,rfl,nF⟩
    ·intro xs s4 c0 d0;clear c0;have f3:(xs 3)=.agg #[.int .i64 486133,.int .i64 656273,.int .i64 p,.int .i64 q]:=d0 _ (m_ 3 rfl) (by kernel_rfl);have f4:(xs 4)=.int .i64 0:=d0 _ (m_ 4 rfl) (by kernel_rfl);clear d0;refine wpOp_step (o:=_) rfl (fun K hK=>?_);simp only[FL]
     go_simp;refine hK _ _ ⟨.int .i64 486133,by simp only[FL,f3,f4] <;> kernel_rfl,Below.refl _ _,rfl,nF⟩
    ·intro xs u4 c0 d0;clear c0;have f0:(xs 0)=.agg (GC g):=d0 _ (m_ 0 rfl) (by kernel_rfl);have f5:(xs 5)=.int .i64 486133:=d0 _ (m_ 5 rfl) (by kernel_rfl);clear d0;refine wpOp_step (o:=_) rfl (fun K hK=>?_);simp only[FL]
     go_simp;(with_reducible refine(ridx hs H0.out).mono ?_)
     rintro e wc14 ⟨v3,rfl⟩;refine hK _ _ ⟨.tuple #[.int .i64 x0,.int .i64 r0],by simp only[FL,f0,f5] <;> kernel_rfl,v3,rfl,nF⟩
    ·intro xs w4 c0 d0;clear c0;have f6:(xs 6)=.tuple #[.int .i64 x0,.int .i64 r0]:=d0 _ (m_ 6 rfl) (by kernel_rfl);clear d0;refine wpOp_step (o:=_) rfl (fun K hK=>?_);simp only[FL]
     go_simp;refine hK _ _ ⟨.tuple #[.int .i64 x0,.int .i64 r0],by simp only[FL,f6] <;> kernel_rfl,Below.refl _ _,rfl,nF⟩
    ·intro xs z4 c0 d0;clear c0;have f7:(xs 7)=.tuple #[.int .i64 x0,.int .i64 r0]:=d0 _ (m_ 7 rfl) (by kernel_rfl);clear d0;refine wpOp_step (o:=_) rfl (fun K hK=>?_);simp only[FL]
     go_simp;refine hK _ _ ⟨.int .i64 x0,by simp only[FL,f7] <;> kernel_rfl,Below.refl _ _,rfl,nF⟩
   ·refine(all_cons ?_ all_nil)
    ·intro xs B4 c0 d0;clear c0;have f7:(xs 7)=.tuple #[.int .i64 x0,.int .i64 r0]:=d0 _ (m_ 7 rfl) (by kernel_rfl);clear d0;refine⟨_,.int .i64 r0,rfl,Or.inl ⟨by rfl,fun w=>?_⟩,rfl⟩;simp only[FL]
     go_simp
   ·intro xs N6 hbf hf hn hd;have f0:(xs 0)=.agg (GC g):=hf _ (m_ 0 rfl);have f1:(xs 1)=.int .i64 p:=hf _ (m_ 1 rfl);have f2:(xs 2)=.int .i64 q:=hf _ (m_ 2 rfl);have f3:(xs 3)=.agg #[.int .i64 486133,.int .i64 656273,.int .i64 p,.int .i64 q]:=hf _ (m_ 3 rfl);have f4:(xs 4)=.int .i64 0:=hf _ (m_ 4 rfl);have f5:(xs 5)=.int .i64 486133:=hf _ (m_ 5 rfl);have f6:(xs 6)=.tuple #[.int .i64 x0,.int .i64 r0]:=hf _ (m_ 6 rfl);have f7:(xs 7)=.tuple #[.int .i64 x0,.int .i64 r0]:=hf _ (m_ 7 rfl);have f8:(xs 8)=.int .i64 x0:=hf _ (m_ 8 rfl);have f9:(xs 9)=.int .i64 r0:=hf _ (m_ 9 rfl);clear hf hn hd;simp only[FL]
    have B19:=zz hbf;have z19:=B19.out.size;have D0:=zz (HW.out.trans (B19.out.mono HW.out.size));clear hbf;generalize xs 0=x0,xs 1=x1,xs 2=x2,xs 3=x3,xs 4=x4,xs 5=x5,xs 6=x6,xs 7=x7,xs 8=x8,xs 9=x9 at *
    obtain rfl:=f0;obtain rfl:=f1;obtain rfl:=f2;obtain rfl:=f3;obtain rfl:=f4;obtain rfl:=f5;obtain rfl:=f6;obtain rfl:=f7;obtain rfl:=f8;obtain rfl:=f9;refine Early.next (i:=10) (by kernel_rfl) rfl (fun K hK=>?_);go_simp;refine hK _ _ (fun _=>trivial) ?_;clear hK K;(try simp only[Act.put,List.setIfInBounds_toArray,List.set_cons_zero,List.set_cons_succ])
    refine Early.next (i:=11) (by kernel_rfl) rfl (fun K hK=>?_);go_simp;refine hK _ _ (fun _=>trivial) ?_;clear hK K;(try simp only[Act.put,List.setIfInBounds_toArray,List.set_cons_zero,List.set_cons_succ])
    refine Early.done (by kernel_rfl) ?_ _;(try simp only[Exit.then])
    by_cases hr:r0=0
    rotate_left
    ·have hx:(r0 != 0)=true:=bne_iff_ne.2 hr;have V5:=zz (show t=(none,r0) by have hk:=X5.out;rw[HT.out];rw[if_pos hr]);clear hr;have g0:=CB.step HR.out B19.out;have z1:=g0.cell 0 rfl;have A1:=g0.cell 1 rfl;have B1:=g0.cell 2 rfl;have C1:=g0.cell 3 rfl;have m6:=g0.lt;have D1:=g0.frozen 0;have E1:=g0.frozen 1;have F1:=g0.frozen 2;have G1:=g0.frozen 3;have n6:=g0.lt;go_wp2;clear z1 A1 B1 C1 m6 D1 E1 F1 G1 n6;exact QB.fin rfl g0 (by simp[noInt_b,noInt_s]) D0.out (by omega) (by rw[V5.out];exact zeroQ _ _) rfl (by rw[V5.out];rfl)
    subst hr;have l0:=CB.step J6 B19.out;have I1:=l0.cell 0 rfl;have J1:=l0.cell 1 rfl;have K1:=l0.cell 2 rfl;have L1:=l0.cell 3 rfl;have o6:=l0.lt;have M1:=l0.frozen 0;have N1:=l0.frozen 1;have O1:=l0.frozen 2;have P1:=l0.frozen 3;have p6:=l0.lt;go_upto_region 4 with (fail)
    clear I1 J1 K1 L1 o6 M1 N1 O1 P1 p6;have E0:=CB.step HR.out B19.out;have Q1:=CB.step HG.out B19.out;obtain⟨w29,q0⟩:∃ w29:World,w29=N6.setCell ⟨w0.heap.size,0,none⟩ (.int .i64 x0):=⟨_,rfl⟩;rw[← q0];have F0:=p1_f q0 E0 (by have:=Y5.out;omega);have R1:=p1_f q0 Q1 (by have:=Y5.out;omega);have S1:CB w29 (w0.heap.size) 100 #[.int .i64 x0,.int .i64 0,.int .i64 0,.int .i64 0]:=by rw[q0];exact(CB.set l0 0 (.int .i64 x0))
    have T1:=zz (p1_b q0 D0.out (by have:=Y5.out;omega));have D4:=p1_z q0;clear q0;go_wp2;go_roundw
    case rel=>exact⟨1,by decide,by go_num,zz (show rsOk _ _ _ _ 1 from rfl),zz S1,zz F0,zz R1,T1⟩
    case measure=>simp[intOf]
  ·have X5:=zz (show r0=0 from HK.out);rw[show((1:Nat):Int)=1 from rfl];have K6:CB wr w0.heap.size 100 #[.int .i64 x0,.int .i64 0,.int .i64 0,.int .i64 0]:=HN.out;have zl1:=K6.lt;have zl2:=HR.out.lt;have zl3:=HG.out.lt;go_upto_region 5 with (fail)
   refine Flow.run [⟨0,17,fun fv fw=>fv=.agg (GC g)⟩,⟨1,18,fun fv fw=>fv=.int .i64 p⟩,⟨2,19,fun fv fw=>fv=.int .i64 q⟩,⟨3,20,fun fv fw=>fv=.agg #[.int .i64 486133,.int .i64 656273,.int .i64 p,.int .i64 q]⟩,⟨4,21,fun fv fw=>fv=.int .i64 1⟩,⟨5,22,fun fv fw=>fv=.int .i64 656273⟩,⟨6,23,fun fv fw=>fv=.tuple #[.int .i64 x1,.int .i64 r1]⟩,⟨7,16,fun fv fw=>fv=.tuple #[.int .i64 x1,.int .i64 r1]⟩,⟨8,24,fun fv fw=>fv=.int .i64 x1⟩] [⟨9,25,fun fv fw=>fv=.int .i64 r1⟩] [] 2 (by kernel_rfl) (by kernel_rfl) (by kernel_rfl) (fun _ _ _ _ _ h=>h) ?_ ?_ ?_ ?_
   ·refine(a0 (a0 (a0 (a0 (a0 (a0 (a0 (a0 (a0 (a0 all_nil))))))))))
   ·refine(all_cons ?_ (all_cons ?_ (all_cons ?_ (all_cons ?_ (all_cons ?_ (all_cons ?_ (all_cons ?_ (all_cons ?_ (all_cons ?_ all_nil)))))))))
    ·intro xs E4 c0 d0;have U1:=zz c0;have F4:=c0.size;clear c0;clear d0;refine wpOp_step (o:=_) rfl (fun K hK=>?_);simp only[FL]
     rw[if_pos (show Region.wanted _ _=true from rfl)];have V1:=CB.step HG.out U1.out;refine wp_load_row _ _ rfl _ rfl _ _ (0,0) _ V1 rfl rfl rfl ?_;refine hK _ _ ⟨.agg (GC g),by kernel_rfl,Below.refl _ _,rfl,nF⟩
    ·intro xs G4 c0 d0;clear c0;clear d0;refine wpOp_step (o:=_) rfl (fun K hK=>?_);simp only[FL]
     go_simp;refine hK _ _ ⟨.int .i64 p,by kernel_rfl,Below.refl _ _,rfl,nF⟩
    ·intro xs I4 c0 d0;clear c0;clear d0;refine wpOp_step (o:=_) rfl (fun K hK=>?_);simp only[FL]
     go_simp;refine hK _ _ ⟨.int .i64 q,by kernel_rfl,Below.refl _ _,rfl,nF⟩
    ·intro xs K4 c0 d0;clear c0;have f1:(xs 1)=.int .i64 p:=d0 _ (m_ 1 rfl) (by kernel_rfl);have f2:(xs 2)=.int .i64 q:=d0 _ (m_ 2 rfl) (by kernel_rfl);clear d0;refine wpOp_step (o:=_) rfl (fun K hK=>?_);simp only[FL]
     go_simp;refine hK _ _ ⟨.agg #[.int .i64 486133,.int .i64 656273,.int .i64 p,.int .i64 q],by simp only[FL,f1,f2] <;> kernel_rfl,Below.refl _ _,rfl,nF⟩
    ·intro xs M4 c0 d0;clear c0;clear d0;refine wpOp_step (o:=_) rfl (fun K hK=>?_);simp only[FL]
     go_simp;refine hK _ _ ⟨.int .i64 1,by kernel_rfl,Below.refl _ _,rfl,nF⟩
    ·intro xs O4 c0 d0;clear c0;have f3:(xs 3)=.agg #[.int .i64 486133,.int .i64 656273,.int .i64 p,.int .i64 q]:=d0 _ (m_ 3 rfl) (by kernel_rfl);have f4:(xs 4)=.int .i64 1:=d0 _ (m_ 4 rfl) (by kernel_rfl);clear d0;refine wpOp_step (o:=_) rfl (fun K hK=>?_);simp only[FL]
     go_simp;refine hK _ _ ⟨.int .i64 656273,by simp only[FL,f3,f4] <;> kernel_rfl,Below.refl _ _,rfl,nF⟩
    ·intro xs Q4 c0 d0;clear c0;have f0:(xs 0)=.agg (GC g):=d0 _ (m_ 0 rfl) (by kernel_rfl);have f5:(xs 5)=.int .i64 656273:=d0 _ (m_ 5 rfl) (by kernel_rfl);clear d0;refine wpOp_step (o:=_) rfl (fun K hK=>?_);simp only[FL]
     go_simp;(with_reducible refine(ridx hs H1.out).mono ?_)
     rintro e wc38 ⟨w3,rfl⟩;refine hK _ _ ⟨.tuple #[.int .i64 x1,.int .i64 r1],by simp only[FL,f0,f5] <;> kernel_rfl,w3,rfl,nF⟩
    ·intro xs S4 c0 d0;clear c0;have f6:(xs 6)=.tuple #[.int .i64 x1,.int .i64 r1]:=d0 _ (m_ 6 rfl) (by kernel_rfl);clear d0;refine wpOp_step (o:=_) rfl (fun K hK=>?_);simp only[FL]
     go_simp;refine hK _ _ ⟨.tuple #[.int .i64 x1,.int .i64 r1],by simp only[FL,f6] <;> kernel_rfl,Below.refl _ _,rfl,nF⟩
    ·intro xs U4 c0 d0;clear c0;have f7:(xs 7)=.tuple #[.int .i64 x1,.int .i64 r1]:=d0 _ (m_ 7 rfl) (by kernel_rfl);clear d0;refine wpOp_step (o:=_) rfl (fun K hK=>?_);simp only[FL]
     go_simp;refine hK _ _ ⟨.int .i64 x1,by simp only[FL,f7] <;> kernel_rfl,Below.refl _ _,rfl,nF⟩
   ·refine(all_cons ?_ all_nil)
    ·intro xs W4 c0 d0;clear c0;have f7:(xs 7)=.tuple #[.int .i64 x1,.int .i64 r1]:=d0 _ (m_ 7 rfl) (by kernel_rfl);clear d0;refine⟨_,.int .i64 r1,rfl,Or.inl ⟨by rfl,fun w=>?_⟩,rfl⟩;simp only[FL]
     go_simp
   ·intro xs O6 hbf hf hn hd;have f0:(xs 0)=.agg (GC g):=hf _ (m_ 0 rfl);have f1:(xs 1)=.int .i64 p:=hf _ (m_ 1 rfl);have f2:(xs 2)=.int .i64 q:=hf _ (m_ 2 rfl);have f3:(xs 3)=.agg #[.int .i64 486133,.int .i64 656273,.int .i64 p,.int .i64 q]:=hf _ (m_ 3 rfl);have f4:(xs 4)=.int .i64 1:=hf _ (m_ 4 rfl);have f5:(xs 5)=.int .i64 656273:=hf _ (m_ 5 rfl);have f6:(xs 6)=.tuple #[.int .i64 x1,.int .i64 r1]:=hf _ (m_ 6 rfl);have f7:(xs 7)=.tuple #[.int .i64 x1,.int .i64 r1]:=hf _ (m_ 7 rfl);have f8:(xs 8)=.int .i64 x1:=hf _ (m_ 8 rfl);have f9:(xs 9)=.int .i64 r1:=hf _ (m_ 9 rfl);clear hf hn hd;simp only[FL]
    have B43:=zz hbf;have z43:=B43.out.size;have G0:=zz (HW.out.trans (B43.out.mono HW.out.size));clear hbf;generalize xs 0=x0,xs 1=x1,xs 2=x2,xs 3=x3,xs 4=x4,xs 5=x5,xs 6=x6,xs 7=x7,xs 8=x8,xs 9=x9 at *
    obtain rfl:=f0;obtain rfl:=f1;obtain rfl:=f2;obtain rfl:=f3;obtain rfl:=f4;obtain rfl:=f5;obtain rfl:=f6;obtain rfl:=f7;obtain rfl:=f8;obtain rfl:=f9;refine Early.next (i:=10) (by kernel_rfl) rfl (fun K hK=>?_);go_simp;refine hK _ _ (fun _=>trivial) ?_;clear hK K;(try simp only[Act.put,List.setIfInBounds_toArray,List.set_cons_zero,List.set_cons_succ])
    refine Early.next (i:=11) (by kernel_rfl) rfl (fun K hK=>?_);go_simp;refine hK _ _ (fun _=>trivial) ?_;clear hK K;(try simp only[Act.put,List.setIfInBounds_toArray,List.set_cons_zero,List.set_cons_succ])
    refine Early.done (by kernel_rfl) ?_ _;(try simp only[Exit.then])
    by_cases hr:r1=0
    rotate_left
    ·have hx:(r1 != 0)=true:=bne_iff_ne.2 hr;have V5:=zz (show t=(none,r1) by have hk:=X5.out;rw[HT.out];rw[if_neg (fun e=>e hk)];rw[if_pos hr]);clear hr;have i0:=CB.step HR.out B43.out;have W1:=i0.cell 0 rfl;have X1:=i0.cell 1 rfl;have Y1:=i0.cell 2 rfl;have Z1:=i0.cell 3 rfl;have q6:=i0.lt;have a2:=i0.frozen 0;have c2:=i0.frozen 1;have d2:=i0.frozen 2;have e2:=i0.frozen 3;have r6:=i0.lt;go_wp2;clear W1 X1 Y1 Z1 q6 a2 c2 d2 e2 r6;exact QB.fin rfl i0 (by simp[noInt_b,noInt_s]) G0.out (by omega) (by rw[V5.out];exact zeroQ _ _) rfl (by rw[V5.out];rfl)
    subst hr;have m0:=CB.step K6 B43.out;have g2:=m0.cell 0 rfl;have i2:=m0.cell 1 rfl;have j2:=m0.cell 2 rfl;have k2:=m0.cell 3 rfl;have s6:=m0.lt;have l2:=m0.frozen 0;have m2:=m0.frozen 1;have n2:=m0.frozen 2;have o2:=m0.frozen 3;have t6:=m0.lt;go_upto_region 4 with (fail)
    clear g2 i2 j2 k2 s6 l2 m2 n2 o2 t6;have I0:=CB.step HR.out B43.out;have p2:=CB.step HG.out B43.out;obtain⟨w53,s0⟩:∃ w53:World,w53=O6.setCell ⟨w0.heap.size,1,none⟩ (.int .i64 x1):=⟨_,rfl⟩;rw[← s0];have J0:=p1_f s0 I0 (by have:=Y5.out;omega);have q2:=p1_f s0 p2 (by have:=Y5.out;omega);have s2:CB w53 (w0.heap.size) 100 #[.int .i64 x0,.int .i64 x1,.int .i64 0,.int .i64 0]:=by rw[s0];exact(CB.set m0 1 (.int .i64 x1))
    have t2:=zz (p1_b s0 G0.out (by have:=Y5.out;omega));have Y4:=p1_z s0;clear s0;go_wp2;go_roundw
    case rel=>exact⟨2,by decide,by go_num,zz (show rsOk _ _ _ _ 2 from⟨X5.out,rfl⟩),zz s2,zz J0,zz q2,t2⟩
    case measure=>simp[intOf]
  ·have X5:=zz (show r0=0∧r1=0 from HK.out);rw[show((2:Nat):Int)=2 from rfl];have L6:CB wr w0.heap.size 100 #[.int .i64 x0,.int .i64 x1,.int .i64 0,.int .i64 0]:=HN.out;have zl1:=L6.lt;have zl2:=HR.out.lt;have zl3:=HG.out.lt;go_upto_region 5 with (fail)
   refine Flow.run [⟨0,17,fun fv fw=>fv=.agg (GC g)⟩,⟨1,18,fun fv fw=>fv=.int .i64 p⟩,⟨2,19,fun fv fw=>fv=.int .i64 q⟩,⟨3,20,fun fv fw=>fv=.agg #[.int .i64 486133,.int .i64 656273,.int .i64 p,.int .i64 q]⟩,⟨4,21,fun fv fw=>fv=.int .i64 2⟩,⟨5,22,fun fv fw=>fv=.int .i64 p⟩,⟨6,23,fun fv fw=>fv=.tuple #[.int .i64 x2,.int .i64 r2]⟩,⟨7,16,fun fv fw=>fv=.tuple #[.int .i64 x2,.int .i64 r2]⟩,⟨8,24,fun fv fw=>fv=.int .i64 x2⟩] [⟨9,25,fun fv fw=>fv=.int .i64 r2⟩] [] 2 (by kernel_rfl) (by kernel_rfl) (by kernel_rfl) (fun _ _ _ _ _ h=>h) ?_ ?_ ?_ ?_
   ·refine(a0 (a0 (a0 (a0 (a0 (a0 (a0 (a0 (a0 (a0 all_nil))))))))))
   ·refine(all_cons ?_ (all_cons ?_ (all_cons ?_ (all_cons ?_ (all_cons ?_ (all_cons ?_ (all_cons ?_ (all_cons ?_ (all_cons ?_ all_nil)))))))))
    ·intro xs Z4 c0 d0;have u2:=zz c0;have a5:=c0.size;clear c0;clear d0;refine wpOp_step (o:=_) rfl (fun K hK=>?_);simp only[FL]
     rw[if_pos (show Region.wanted _ _=true from rfl)];have v2:=CB.step HG.out u2.out;refine wp_load_row _ _ rfl _ rfl _ _ (0,0) _ v2 rfl rfl rfl ?_;refine hK _ _ ⟨.agg (GC g),by kernel_rfl,Below.refl _ _,rfl,nF⟩
    ·intro xs b5 c0 d0;clear c0;clear d0;refine wpOp_step (o:=_) rfl (fun K hK=>?_);simp only[FL]
     go_simp;refine hK _ _ ⟨.int .i64 p,by kernel_rfl,Below.refl _ _,rfl,nF⟩
    ·intro xs d5 c0 d0;clear c0;clear d0;refine wpOp_step (o:=_) rfl (fun K hK=>?_);simp only[FL]
     go_simp;refine hK _ _ ⟨.int .i64 q,by kernel_rfl,Below.refl _ _,rfl,nF⟩
    ·intro xs g5 c0 d0;clear c0;have f1:(xs 1)=.int .i64 p:=d0 _ (m_ 1 rfl) (by kernel_rfl);have f2:(xs 2)=.int .i64 q:=d0 _ (m_ 2 rfl) (by kernel_rfl);clear d0;refine wpOp_step (o:=_) rfl (fun K hK=>?_);simp only[FL]
     go_simp;refine hK _ _ ⟨.agg #[.int .i64 486133,.int .i64 656273,.int .i64 p,.int .i64 q],by simp only[FL,f1,f2] <;> kernel_rfl,Below.refl _ _,rfl,nF⟩
    ·intro xs i5 c0 d0;clear c0;clear d0;refine wpOp_step (o:=_) rfl (fun K hK=>?_);simp only[FL]
     go_simp;refine hK _ _ ⟨.int .i64 2,by kernel_rfl,Below.refl _ _,rfl,nF⟩
    ·intro xs k5 c0 d0;clear c0;have f3:(xs 3)=.agg #[.int .i64 486133,.int .i64 656273,.int .i64 p,.int .i64 q]:=d0 _ (m_ 3 rfl) (by kernel_rfl);have f4:(xs 4)=.int .i64 2:=d0 _ (m_ 4 rfl) (by kernel_rfl);clear d0;refine wpOp_step (o:=_) rfl (fun K hK=>?_);simp only[FL]
     go_simp;refine hK _ _ ⟨.int .i64 p,by simp only[FL,f3,f4] <;> kernel_rfl,Below.refl _ _,rfl,nF⟩
    ·intro xs m5 c0 d0;clear c0;have f0:(xs 0)=.agg (GC g):=d0 _ (m_ 0 rfl) (by kernel_rfl);have f5:(xs 5)=.int .i64 p:=d0 _ (m_ 5 rfl) (by kernel_rfl);clear d0;refine wpOp_step (o:=_) rfl (fun K hK=>?_);simp only[FL]
     go_simp;(with_reducible refine(ridx hs H2.out).mono ?_)
     rintro e wc62 ⟨y3,rfl⟩;refine hK _ _ ⟨.tuple #[.int .i64 x2,.int .i64 r2],by simp only[FL,f0,f5] <;> kernel_rfl,y3,rfl,nF⟩
    ·intro xs o5 c0 d0;clear c0;have f6:(xs 6)=.tuple #[.int .i64 x2,.int .i64 r2]:=d0 _ (m_ 6 rfl) (by kernel_rfl);clear d0;refine wpOp_step (o:=_) rfl (fun K hK=>?_);simp only[FL]
     go_simp;refine hK _ _ ⟨.tuple #[.int .i64 x2,.int .i64 r2],by simp only[FL,f6] <;> kernel_rfl,Below.refl _ _,rfl,nF⟩
    ·intro xs q5 c0 d0;clear c0;have f7:(xs 7)=.tuple #[.int .i64 x2,.int .i64 r2]:=d0 _ (m_ 7 rfl) (by kernel_rfl);clear d0;refine wpOp_step (o:=_) rfl (fun K hK=>?_);simp only[FL]
     go_simp;refine hK _ _ ⟨.int .i64 x2,by simp only[FL,f7] <;> kernel_rfl,Below.refl _ _,rfl,nF⟩
   ·refine(all_cons ?_ all_nil)
    ·intro xs s5 c0 d0;clear c0;have f7:(xs 7)=.tuple #[.int .i64 x2,.int .i64 r2]:=d0 _ (m_ 7 rfl) (by kernel_rfl);clear d0;refine⟨_,.int .i64 r2,rfl,Or.inl ⟨by rfl,fun w=>?_⟩,rfl⟩;simp only[FL]
     go_simp
   ·intro xs P6 hbf hf hn hd;have f0:(xs 0)=.agg (GC g):=hf _ (m_ 0 rfl);have f1:(xs 1)=.int .i64 p:=hf _ (m_ 1 rfl);have f2:(xs 2)=.int .i64 q:=hf _ (m_ 2 rfl);have f3:(xs 3)=.agg #[.int .i64 486133,.int .i64 656273,.int .i64 p,.int .i64 q]:=hf _ (m_ 3 rfl);have f4:(xs 4)=.int .i64 2:=hf _ (m_ 4 rfl);have f5:(xs 5)=.int .i64 p:=hf _ (m_ 5 rfl);have f6:(xs 6)=.tuple #[.int .i64 x2,.int .i64 r2]:=hf _ (m_ 6 rfl);have f7:(xs 7)=.tuple #[.int .i64 x2,.int .i64 r2]:=hf _ (m_ 7 rfl);have f8:(xs 8)=.int .i64 x2:=hf _ (m_ 8 rfl);have f9:(xs 9)=.int .i64 r2:=hf _ (m_ 9 rfl);clear hf hn hd;simp only[FL]
    have B67:=zz hbf;have z67:=B67.out.size;have K0:=zz (HW.out.trans (B67.out.mono HW.out.size));clear hbf;generalize xs 0=x0,xs 1=x1,xs 2=x2,xs 3=x3,xs 4=x4,xs 5=x5,xs 6=x6,xs 7=x7,xs 8=x8,xs 9=x9 at *
    obtain rfl:=f0;obtain rfl:=f1;obtain rfl:=f2;obtain rfl:=f3;obtain rfl:=f4;obtain rfl:=f5;obtain rfl:=f6;obtain rfl:=f7;obtain rfl:=f8;obtain rfl:=f9;refine Early.next (i:=10) (by kernel_rfl) rfl (fun K hK=>?_);go_simp;refine hK _ _ (fun _=>trivial) ?_;clear hK K;(try simp only[Act.put,List.setIfInBounds_toArray,List.set_cons_zero,List.set_cons_succ])
    refine Early.next (i:=11) (by kernel_rfl) rfl (fun K hK=>?_);go_simp;refine hK _ _ (fun _=>trivial) ?_;clear hK K;(try simp only[Act.put,List.setIfInBounds_toArray,List.set_cons_zero,List.set_cons_succ])
    refine Early.done (by kernel_rfl) ?_ _;(try simp only[Exit.then])
    by_cases hr:r2=0
    rotate_left
    ·have hx:(r2 != 0)=true:=bne_iff_ne.2 hr;have V5:=zz (show t=(none,r2) by have hk:=X5.out;rw[HT.out];rw[if_neg (fun e=>e hk.1)];rw[if_neg (fun e=>e hk.2)];rw[if_pos hr]);clear hr;have j0:=CB.step HR.out B67.out;have w2:=j0.cell 0 rfl;have y2:=j0.cell 1 rfl;have A2:=j0.cell 2 rfl;have C2:=j0.cell 3 rfl;have u6:=j0.lt;have D2:=j0.frozen 0;have E2:=j0.frozen 1;have F2:=j0.frozen 2;have G2:=j0.frozen 3;have v6:=j0.lt;go_wp2;clear w2 y2 A2 C2 u6 D2 E2 F2 G2 v6;exact QB.fin rfl j0 (by simp[noInt_b,noInt_s]) K0.out (by omega) (by rw[V5.out];exact zeroQ _ _) rfl (by rw[V5.out];rfl)
    subst hr;have n0:=CB.step L6 B67.out;have I2:=n0.cell 0 rfl;have J2:=n0.cell 1 rfl;have K2:=n0.cell 2 rfl;have L2:=n0.cell 3 rfl;have w6:=n0.lt;have M2:=n0.frozen 0;have N2:=n0.frozen 1;have O2:=n0.frozen 2;have P2:=n0.frozen 3;have y6:=n0.lt;go_upto_region 4 with (fail)
    clear I2 J2 K2 L2 w6 M2 N2 O2 P2 y6;have L0:=CB.step HR.out B67.out;have Q2:=CB.step HG.out B67.out;obtain⟨w77,t0⟩:∃ w77:World,w77=P6.setCell ⟨w0.heap.size,2,none⟩ (.int .i64 x2):=⟨_,rfl⟩;rw[← t0];have M0:=p1_f t0 L0 (by have:=Y5.out;omega);have R2:=p1_f t0 Q2 (by have:=Y5.out;omega);have S2:CB w77 (w0.heap.size) 100 #[.int .i64 x0,.int .i64 x1,.int .i64 x2,.int .i64 0]:=by rw[t0];exact(CB.set n0 2 (.int .i64 x2))
    have T2:=zz (p1_b t0 K0.out (by have:=Y5.out;omega));have u5:=p1_z t0;clear t0;go_wp2;go_roundw
    case rel=>exact⟨3,by decide,by go_num,zz (show rsOk _ _ _ _ 3 from⟨X5.out.1,X5.out.2,rfl⟩),zz S2,zz M0,zz R2,T2⟩
    case measure=>simp[intOf]
  ·have X5:=zz (show r0=0∧r1=0∧r2=0 from HK.out);rw[show((3:Nat):Int)=3 from rfl];have M6:CB wr w0.heap.size 100 #[.int .i64 x0,.int .i64 x1,.int .i64 x2,.int .i64 0]:=HN.out;have zl1:=M6.lt;have zl2:=HR.out.lt;have zl3:=HG.out.lt;go_upto_region 5 with (fail)
   refine Flow.run [⟨0,17,fun fv fw=>fv=.agg (GC g)⟩,⟨1,18,fun fv fw=>fv=.int .i64 p⟩,⟨2,19,fun fv fw=>fv=.int .i64 q⟩,⟨3,20,fun fv fw=>fv=.agg #[.int .i64 486133,.int .i64 656273,.int .i64 p,.int .i64 q]⟩,⟨4,21,fun fv fw=>fv=.int .i64 3⟩,⟨5,22,fun fv fw=>fv=.int .i64 q⟩,⟨6,23,fun fv fw=>fv=.tuple #[.int .i64 x3,.int .i64 r3]⟩,⟨7,16,fun fv fw=>fv=.tuple #[.int .i64 x3,.int .i64 r3]⟩,⟨8,24,fun fv fw=>fv=.int .i64 x3⟩] [⟨9,25,fun fv fw=>fv=.int .i64 r3⟩] [] 2 (by kernel_rfl) (by kernel_rfl) (by kernel_rfl) (fun _ _ _ _ _ h=>h) ?_ ?_ ?_ ?_
   ·refine(a0 (a0 (a0 (a0 (a0 (a0 (a0 (a0 (a0 (a0 all_nil))))))))))
   ·refine(all_cons ?_ (all_cons ?_ (all_cons ?_ (all_cons ?_ (all_cons ?_ (all_cons ?_ (all_cons ?_ (all_cons ?_ (all_cons ?_ all_nil)))))))))
    ·intro xs v5 c0 d0;have U2:=zz c0;have w5:=c0.size;clear c0;clear d0;refine wpOp_step (o:=_) rfl (fun K hK=>?_);simp only[FL]
     rw[if_pos (show Region.wanted _ _=true from rfl)];have V2:=CB.step HG.out U2.out;refine wp_load_row _ _ rfl _ rfl _ _ (0,0) _ V2 rfl rfl rfl ?_;refine hK _ _ ⟨.agg (GC g),by kernel_rfl,Below.refl _ _,rfl,nF⟩
    ·intro xs y5 c0 d0;clear c0;clear d0;refine wpOp_step (o:=_) rfl (fun K hK=>?_);simp only[FL]
     go_simp;refine hK _ _ ⟨.int .i64 p,by kernel_rfl,Below.refl _ _,rfl,nF⟩
    ·intro xs A5 c0 d0;clear c0;clear d0;refine wpOp_step (o:=_) rfl (fun K hK=>?_);simp only[FL]
     go_simp;refine hK _ _ ⟨.int .i64 q,by kernel_rfl,Below.refl _ _,rfl,nF⟩
    ·intro xs C5 c0 d0;clear c0;have f1:(xs 1)=.int .i64 p:=d0 _ (m_ 1 rfl) (by kernel_rfl);have f2:(xs 2)=.int .i64 q:=d0 _ (m_ 2 rfl) (by kernel_rfl);clear d0;refine wpOp_step (o:=_) rfl (fun K hK=>?_);simp only[FL]
     go_simp;refine hK _ _ ⟨.agg #[.int .i64 486133,.int .i64 656273,.int .i64 p,.int .i64 q],by simp only[FL,f1,f2] <;> kernel_rfl,Below.refl _ _,rfl,nF⟩
    ·intro xs E5 c0 d0;clear c0;clear d0;refine wpOp_step (o:=_) rfl (fun K hK=>?_);simp only[FL]
     go_simp;refine hK _ _ ⟨.int .i64 3,by kernel_rfl,Below.refl _ _,rfl,nF⟩
    ·intro xs G5 c0 d0;clear c0;have f3:(xs 3)=.agg #[.int .i64 486133,.int .i64 656273,.int .i64 p,.int .i64 q]:=d0 _ (m_ 3 rfl) (by kernel_rfl);have f4:(xs 4)=.int .i64 3:=d0 _ (m_ 4 rfl) (by kernel_rfl);clear d0;refine wpOp_step (o:=_) rfl (fun K hK=>?_);simp only[FL]
     go_simp;refine hK _ _ ⟨.int .i64 q,by simp only[FL,f3,f4] <;> kernel_rfl,Below.refl _ _,rfl,nF⟩
    ·intro xs I5 c0 d0;clear c0;have f0:(xs 0)=.agg (GC g):=d0 _ (m_ 0 rfl) (by kernel_rfl);have f5:(xs 5)=.int .i64 q:=d0 _ (m_ 5 rfl) (by kernel_rfl);clear d0;refine wpOp_step (o:=_) rfl (fun K hK=>?_);simp only[FL]
     go_simp;(with_reducible refine(ridx hs H3.out).mono ?_)
     rintro e wc86 ⟨z3,rfl⟩;refine hK _ _ ⟨.tuple #[.int .i64 x3,.int .i64 r3],by simp only[FL,f0,f5] <;> kernel_rfl,z3,rfl,nF⟩
    ·intro xs K5 c0 d0;clear c0;have f6:(xs 6)=.tuple #[.int .i64 x3,.int .i64 r3]:=d0 _ (m_ 6 rfl) (by kernel_rfl);clear d0;refine wpOp_step (o:=_) rfl (fun K hK=>?_);simp only[FL]
     go_simp;refine hK _ _ ⟨.tuple #[.int .i64 x3,.int .i64 r3],by simp only[FL,f6] <;> kernel_rfl,Below.refl _ _,rfl,nF⟩
    ·intro xs M5 c0 d0;clear c0;have f7:(xs 7)=.tuple #[.int .i64 x3,.int .i64 r3]:=d0 _ (m_ 7 rfl) (by kernel_rfl);clear d0;refine wpOp_step (o:=_) rfl (fun K hK=>?_);simp only[FL]
     go_simp;refine hK _ _ ⟨.int .i64 x3,by simp only[FL,f7] <;> kernel_rfl,Below.refl _ _,rfl,nF⟩
   ·refine(all_cons ?_ all_nil)
    ·intro xs O5 c0 d0;clear c0;have f7:(xs 7)=.tuple #[.int .i64 x3,.int .i64 r3]:=d0 _ (m_ 7 rfl) (by kernel_rfl);clear d0;refine⟨_,.int .i64 r3,rfl,Or.inl ⟨by rfl,fun w=>?_⟩,rfl⟩;simp only[FL]
     go_simp
   ·intro xs Q6 hbf hf hn hd;have f0:(xs 0)=.agg (GC g):=hf _ (m_ 0 rfl);have f1:(xs 1)=.int .i64 p:=hf _ (m_ 1 rfl);have f2:(xs 2)=.int .i64 q:=hf _ (m_ 2 rfl);have f3:(xs 3)=.agg #[.int .i64 486133,.int .i64 656273,.int .i64 p,.int .i64 q]:=hf _ (m_ 3 rfl);have f4:(xs 4)=.int .i64 3:=hf _ (m_ 4 rfl);have f5:(xs 5)=.int .i64 q:=hf _ (m_ 5 rfl);have f6:(xs 6)=.tuple #[.int .i64 x3,.int .i64 r3]:=hf _ (m_ 6 rfl);have f7:(xs 7)=.tuple #[.int .i64 x3,.int .i64 r3]:=hf _ (m_ 7 rfl);have f8:(xs 8)=.int .i64 x3:=hf _ (m_ 8 rfl);have f9:(xs 9)=.int .i64 r3:=hf _ (m_ 9 rfl);clear hf hn hd;simp only[FL]
    have B91:=zz hbf;have z91:=B91.out.size;have N0:=zz (HW.out.trans (B91.out.mono HW.out.size));clear hbf;generalize xs 0=x0,xs 1=x1,xs 2=x2,xs 3=x3,xs 4=x4,xs 5=x5,xs 6=x6,xs 7=x7,xs 8=x8,xs 9=x9 at *
    obtain rfl:=f0;obtain rfl:=f1;obtain rfl:=f2;obtain rfl:=f3;obtain rfl:=f4;obtain rfl:=f5;obtain rfl:=f6;obtain rfl:=f7;obtain rfl:=f8;obtain rfl:=f9;refine Early.next (i:=10) (by kernel_rfl) rfl (fun K hK=>?_);go_simp;refine hK _ _ (fun _=>trivial) ?_;clear hK K;(try simp only[Act.put,List.setIfInBounds_toArray,List.set_cons_zero,List.set_cons_succ])
    refine Early.next (i:=11) (by kernel_rfl) rfl (fun K hK=>?_);go_simp;refine hK _ _ (fun _=>trivial) ?_;clear hK K;(try simp only[Act.put,List.setIfInBounds_toArray,List.set_cons_zero,List.set_cons_succ])
    refine Early.done (by kernel_rfl) ?_ _;(try simp only[Exit.then])
    by_cases hr:r3=0
    rotate_left
    ·have hx:(r3 != 0)=true:=bne_iff_ne.2 hr;have V5:=zz (show t=(none,r3) by have hk:=X5.out;rw[HT.out];rw[if_neg (fun e=>e hk.1)];rw[if_neg (fun e=>e hk.2.1)];rw[if_neg (fun e=>e hk.2.2)];rw[if_pos hr]);clear hr;have k0:=CB.step HR.out B91.out;have W2:=k0.cell 0 rfl;have X2:=k0.cell 1 rfl;have Y2:=k0.cell 2 rfl;have Z2:=k0.cell 3 rfl;have z6:=k0.lt;have a3:=k0.frozen 0;have c3:=k0.frozen 1;have d3:=k0.frozen 2;have e3:=k0.frozen 3;have A6:=k0.lt;go_wp2;clear W2 X2 Y2 Z2 z6 a3 c3 d3 e3 A6;exact QB.fin rfl k0 (by simp[noInt_b,noInt_s]) N0.out (by omega) (by rw[V5.out];exact zeroQ _ _) rfl (by rw[V5.out];rfl)
    subst hr;have o0:=CB.step M6 B91.out;have g3:=o0.cell 0 rfl;have i3:=o0.cell 1 rfl;have j3:=o0.cell 2 rfl;have k3:=o0.cell 3 rfl;have B6:=o0.lt;have l3:=o0.frozen 0;have m3:=o0.frozen 1;have n3:=o0.frozen 2;have o3:=o0.frozen 3;have C6:=o0.lt;go_upto_region 4 with (fail)
    clear g3 i3 j3 k3 B6 l3 m3 n3 o3 C6;have O0:=CB.step HR.out B91.out;have P0:=CB.step HG.out B91.out;obtain⟨w101,p0⟩:∃ w101:World,w101=Q6.setCell ⟨w0.heap.size,3,none⟩ (.int .i64 x3):=⟨_,rfl⟩;rw[← p0];have C0:=p1_f p0 O0 (by have:=Y5.out;omega);have Q0:=p1_f p0 P0 (by have:=Y5.out;omega);have R0:CB w101 (w0.heap.size) 100 #[.int .i64 x0,.int .i64 x1,.int .i64 x2,.int .i64 x3]:=by rw[p0];exact(CB.set o0 3 (.int .i64 x3))
    have S0:=zz (p1_b p0 N0.out (by have:=Y5.out;omega));have l4:=p1_z p0;clear p0;go_wp2;go_roundw
    case rel=>exact⟨4,by decide,by go_num,zz (show rsOk _ _ _ _ 4 from⟨X5.out.1,X5.out.2.1,X5.out.2.2,rfl⟩),zz R0,zz C0,zz Q0,S0⟩
    case measure=>simp[intOf]
  ·have X5:=zz (show r0=0∧r1=0∧r2=0∧r3=0 from HK.out);rw[show((4:Nat):Int)=4 from rfl];have Z5:CB wr w0.heap.size 100 #[.int .i64 x0,.int .i64 x1,.int .i64 x2,.int .i64 x3]:=HN.out;have zl1:=Z5.lt;have zl2:=HR.out.lt;have zl3:=HG.out.lt;replace HT:=zz (show t=mkQ (x2-x3) (x0-x1) by have hk:=X5.out;rw[HT.out,if_neg (fun e=>e hk.1),if_neg (fun e=>e hk.2.1),if_neg (fun e=>e hk.2.2.1),if_neg (fun e=>e hk.2.2.2)]);have b0:=inG_b H0.out;have b1:=inG_b H1.out;have b2:=inG_b H2.out;have b3:=inG_b H3.out;by_cases h0:x0=x1
   ·have hk:(x0==x1)=true:=beq_iff_eq.2 h0;have V5:=zz (show t=(none,7) by rw[HT.out,mkQ,if_pos (by omega)]);clear h0 b0 b1 b2 b3;have T0:=Z5.cell 0 rfl;have U0:=Z5.cell 1 rfl;have V0:=Z5.cell 2 rfl;have W0:=Z5.cell 3 rfl;have d6:=Z5.lt;have X0:=HR.out.cell 0 rfl;have Y0:=HR.out.cell 1 rfl;have Z0:=HR.out.cell 2 rfl;have a1:=HR.out.cell 3 rfl;have e6:=HR.out.lt;have c1:=HR.out.frozen 0;have d1:=HR.out.frozen 1;have e1:=HR.out.frozen 2;have g1:=HR.out.frozen 3;have g6:=HR.out.lt;go_wp2;clear T0 U0 V0 W0 d6 X0 Y0 Z0 a1 e6 c1 d1 e1 g1 g6;exact QB.fin rfl HR.out (by simp[noInt_b,noInt_s]) HW.out (by omega) (by rw[V5.out];exact zeroQ _ _) rfl (by rw[V5.out];rfl)
   ·have hk:(x0==x1)=false:=beq_eq_false_iff_ne.2 h0;obtain⟨x,hx⟩:∃ x,x2-x3=x:=⟨_,rfl⟩;obtain⟨y,hy⟩:∃ y,x0-x1=y:=⟨_,rfl⟩;have R6:=zz (show -9223372036854775808≤x∧x≤9223372036854775807 by omega);have S6:=zz (show -9223372036854775808≤y∧y≤9223372036854775807 by omega);have T6:=zz (show y≠0 by omega);have hwx:wrap64 (x2-x3)=x:=by rw[hx];exact IntWalk.wrap64_in _ (by omega)
    have hwy:wrap64 (x0-x1)=y:=by rw[hy];exact IntWalk.wrap64_in _ (by omega)
    have V5:=zz (show t=(some (Rat.divInt x y),0) by rw[HT.out,hx,hy];exact mk_ok (by omega) (by omega) (by omega));clear h0 b0 b1 b2 b3 hx hy;have i1:=Z5.cell 0 rfl;have j1:=Z5.cell 1 rfl;have k1:=Z5.cell 2 rfl;have l1:=Z5.cell 3 rfl;have h6:=Z5.lt;go_wp2_with fail
    refine(rOf R6.out S6.out T6.out).mono ?_;rintro e w105 ⟨y0,v,rfl,hv⟩;have B107:=zz y0;have z107:=B107.out.size;have p3:=zz (HW.out.trans (B107.out.mono HW.out.size));clear y0;clear i1 j1 k1 l1 h6;obtain⟨D6,E6,F6,G6,H6,m1,I6,rfl,ha109,A0,hc109⟩:=hv;have v0:=zz (show QV w105 w105.heap.size (.agg #[.bool D6,.slice E6 F6 G6,.bool false,.slice H6 m1 I6]) (Rat.divInt x y) from⟨_,_,_,_,_,_,_,rfl,ha109,A0,hc109⟩);clear ha109 A0 hc109;have e0:=CB.step HR.out B107.out;have n1:=e0.cell 0 rfl;have o1:=e0.cell 1 rfl;have p1:=e0.cell 2 rfl;have q1:=e0.cell 3 rfl;have i6:=e0.lt;have s1:=e0.frozen 0;have t1:=e0.frozen 1;have u1:=e0.frozen 2;have v1:=e0.frozen 3;have j6:=e0.lt;go_wp2;clear n1 o1 p1 q1 i6 s1 t1 u1 v1 j6;exact QB.fin rfl e0 (by simp[noInt_b,noInt_s]) p3.out (by have:=Y5.out;omega) (by rw[V5.out];exact v0.out) rfl (by rw[V5.out];rfl)
end Go.Proofs.YtkhljkiehohckaaGreatDoor
