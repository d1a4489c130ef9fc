/- The law QuotRounds (written by its generator). -/
import Derived.Test.YtioclokmbgmamaaGreatDoorU
import Derived.Test.YtioclokmbgmamaaGreatDoorQS
import Derived.Test.YtioclokmbgmamaaGreatDoorQW
import Derived.Test.YtioclokmbgmamaaGreatDoorQX
namespace Go.Proofs.YtioclokmbgmamaaGreatDoor
open Go Go.RowKit Dig
def anyR (w:World) (v:Value):Prop:=∃ n a m b,QR w w.heap.size v n a m b
theorem anyR.step {w w':World} {v:Value} (h:anyR w v) (hb:Below w.heap.size w w'):anyR w' v:=let ⟨n,a,m,b,h⟩:=h;⟨n,a,m,b,h.step hb⟩
theorem anyR.cells {w:World} {v:Value} (h:anyR w v):∃ (n m:Bool) (A A':Option Addr) (l c l' c':Nat),v=.agg #[.bool n,.slice A l c,.bool m,.slice A' l' c']:=by
 obtain⟨n,a,m,b,A,l,c,A',l',c',e,-⟩:=h;exact⟨n,m,A,A',l,c,l',c',e⟩
def OneAt (w:World) (g o:Nat):Prop:=∃ (n m:Bool) (A A':Option Addr) (l c l' c':Nat),w.cell? ⟨g,o,none⟩=some (.bool n)∧w.cell? ⟨g,o+1,none⟩=some (.slice A l c)∧w.cell? ⟨g,o+2,none⟩=some (.bool m)∧w.cell? ⟨g,o+3,none⟩=some (.slice A' l' c')∧anyR w (.agg #[.bool n,.slice A l c,.bool m,.slice A' l' c'])
theorem OneAt.step {w w':World} {g o:Nat} (h:OneAt w g o) (hb:Below w.heap.size w w'):OneAt w' g o:=by
 obtain⟨n,m,A,A',l,c,l',c',e0,e1,e2,e3,h⟩:=h;have hg:=cell_lt e0;exact⟨n,m,A,A',l,c,l',c',(hb.cell (p:=⟨g,o,none⟩) hg).trans e0,(hb.cell (p:=⟨g,o+1,none⟩) hg).trans e1,(hb.cell (p:=⟨g,o+2,none⟩) hg).trans e2,(hb.cell (p:=⟨g,o+3,none⟩) hg).trans e3,h.step hb⟩
def FourQ (w:World) (g:Nat):Prop:=∀ k,k<4→OneAt w g (k*4)
theorem FourQ.step {w w':World} {g:Nat} (h:FourQ w g) (hb:Below w.heap.size w w'):FourQ w' g:=fun k hk=>(h k hk).step hb
theorem FourQ.mk {w:World} {g:Nat} (h0:OneAt w g 0) (h1:OneAt w g 4) (h2:OneAt w g 8) (h3:OneAt w g 12):FourQ w g:=by
 intro k hk;have hk':k=0∨k=1∨k=2∨k=3:=by omega
 rcases hk' with rfl | rfl | rfl | rfl
 ·exact h0
 ·exact h1
 ·exact h2
 ·exact h3
theorem FourQ.at {w:World} {g:Nat} (h:FourQ w g) (k:Nat) (hk:k<4):OneAt w g (k*4):=h k hk
set_option maxRecDepth 100000 in
set_option maxHeartbeats 4000000 in
theorem RMakeQ_is (w:World) (va vb:Value) (x y:Int) (ha:LV w w.heap.size va x) (hb:LV w w.heap.size vb y) (h0:y≠0) (lx:(dig x.natAbs).length≤600) (ly:(dig y.natAbs).length≤600) :
  Calls Tryz.prog 70 #[va,vb] w fun e w'=>Below w.heap.size w w'∧∃ v,e=.returned (.tuple #[v,.int .i64 0])∧QV w' w'.heap.size v (Rat.divInt x y):=by
 obtain⟨n,A,l,c,rfl,ha⟩:=LV.opened ha;obtain⟨m,B,k,d,rfl,hb⟩:=LV.opened hb;have hk:k=(dig y.natAbs).length:=RN.len (LV.is hb).2.2;have e0:((k:Int)==0)=false:=by rw[beq_eq_false_iff_ne,hk];have:=dig_len_pos (n:=y.natAbs) (by omega);omega
 have HK:=zz e0;have L0:=zz (And.intro h0 (And.intro lx ly));have HA:=zz ha;have HB:=zz hb;clear h0 lx ly ha hb hk e0;obtain⟨w0,hw0⟩:∃ w0:World,w0=(((w.alloc (.cells #[.bool n,.slice A l c] 24)).alloc (.cells #[.bool m,.slice B k d] 24)).alloc (.cells #[.bool false,.slice none 0 0,.bool false,.slice none 0 0] 26)):=⟨_,rfl⟩;have B0:=zz (n3_b hw0);have z0:=n3_z hw0;have Ln:=n3_0 hw0;have Ld:=n3_1 hw0;have Lr4:=n3_2 hw0;replace HA:=zz (LV.step HA.out B0.out);replace HB:=zz (LV.step HB.out B0.out);go_enter Tryz.func70,Tryz.ntmps70
 go_upto_region 1 with (fail)
 rw[← hw0];clear hw0;have G0:=Ln.cell 0 rfl;have H0:=Ln.cell 1 rfl;have R0:=Ln.lt;go_wp2_with fail
 refine(Right_good HA.out (valid_num L0.out.2.1)).mono ?_;rintro e w1 ⟨D0,rfl⟩;have B3:=zz D0;have z3:=B3.out.size;have E0:=zz (B0.out.trans (B3.out.mono B0.out.size));clear D0;clear G0 H0 R0;have b0:=CB.step Ld B3.out;have I0:=b0.cell 0 rfl;have J0:=b0.cell 1 rfl;have S0:=b0.lt;go_wp2_with fail
 have f0:=zz (LV.step HB.out B3.out);refine(Right_good f0.out (valid_num L0.out.2.2)).mono ?_;rintro e w5 ⟨F0,rfl⟩;have B9:=zz F0;have z9:=B9.out.size;have g0:=zz (E0.out.trans (B9.out.mono E0.out.size));clear F0;clear I0 J0 S0;have e0:=HK.out;have P1_3_13:=zz (B3.out.trans (B9.out.mono B3.out.size));have c0:=CB.step Ln P1_3_13.out;have m0:=c0.cell 0 rfl;have n0:=c0.cell 1 rfl;have M0:=c0.lt;have d0:=CB.step b0 B9.out;have o0:=d0.cell 0 rfl;have p0:=d0.cell 1 rfl;have N0:=d0.lt;go_wp2_with fail
 have i0:=zz (LV.step HA.out P1_3_13.out);have j0:=zz (LV.step f0.out B9.out);refine(RLowest_any _ _ _ x y i0.out j0.out L0.out.1 (Nat.le_trans L0.out.2.1 (by decide)) (Nat.le_trans L0.out.2.2 (by decide))).mono ?_;rintro e w11 ⟨k0,v,rfl,hv⟩;have B19:=zz k0;have z19:=B19.out.size;have K0:=zz (g0.out.trans (B19.out.mono g0.out.size));clear k0;clear m0 n0 M0 o0 p0 N0;clear e0;obtain⟨U0,V0,W0,X0,Y0,q0,Z0,rfl,ha21,l0,hc21⟩:=hv;have r0:=zz (show QV w11 w11.heap.size (.agg #[.bool U0,.slice V0 W0 X0,.bool false,.slice Y0 q0 Z0]) (Rat.divInt x y) from⟨_,_,_,_,_,_,_,rfl,ha21,l0,hc21⟩);clear ha21 l0 hc21;have P1_4_23:=zz (P1_3_13.out.trans (B19.out.mono P1_3_13.out.size));have a0:=CB.step Lr4 P1_4_23.out;have s0:=a0.cell 0 rfl;have t0:=a0.cell 1 rfl;have u0:=a0.cell 2 rfl;have v0:=a0.cell 3 rfl;have O0:=a0.lt;have x0:=a0.frozen 0;have y0:=a0.frozen 1;have A0:=a0.frozen 2;have C0:=a0.frozen 3;have P0:=a0.lt;go_wp2;clear s0 t0 u0 v0 O0 x0 y0 A0 C0 P0;exact QB.fin (r:=(some (Rat.divInt x y),0)) rfl a0 (by simp[noInt_b,noInt_s]) K0.out (by omega) r0.out rfl rfl
set_option maxRecDepth 100000 in
set_option maxHeartbeats 4000000 in
theorem ROfQ_is (w:World) (n d:Int) (hn0:-9223372036854775808≤n) (hn1:n≤9223372036854775807) (hd0:1≤d) (hd1:d≤9223372036854775807) :
  Calls Tryz.prog 21 #[.int .i64 n,.int .i64 d] w fun e w'=>Below w.heap.size w w'∧∃ v,e=.returned (.tuple #[v,.int .i64 0])∧QV w' w'.heap.size v (Rat.divInt n d):=by
 have HN:=zz (And.intro hn0 hn1);have HD:=zz (show d≠0∧-9223372036854775808≤d∧d≤9223372036854775807 by omega);clear hn0 hn1 hd0 hd1;obtain⟨w0,hw0⟩:∃ w0:World,w0=(w.alloc (.cells #[.bool false,.slice none 0 0,.bool false,.slice none 0 0] 26)):=⟨_,rfl⟩;have B0:=zz (n1_b hw0);have z0:=n1_z hw0;have Lr4:=n1_0 hw0;go_enter Tryz.func21,Tryz.ntmps21
 go_upto_region 1 with (fail)
 rw[← hw0];clear hw0;go_wp2_with fail
 refine(ROf_any _ n HN.out.1 HN.out.2).mono ?_;rintro e w1 ⟨n0,v,rfl,hv⟩;have B2:=zz n0;have z2:=B2.out.size;have o0:=zz (B0.out.trans (B2.out.mono B0.out.size));clear n0;obtain⟨n4,K0,l4,c4,rfl,p0⟩:=hv.opened;have u0:=zz p0;clear hv p0;go_wp2_with fail
 refine(ROf_any _ d HD.out.2.1 HD.out.2.2).mono ?_;rintro e w5 ⟨q0,v,rfl,hv⟩;have B6:=zz q0;have z6:=B6.out.size;have r0:=zz (o0.out.trans (B6.out.mono o0.out.size));clear q0;obtain⟨n8,L0,l8,c8,rfl,s0⟩:=hv.opened;have v0:=zz s0;clear hv s0;go_wp2_with fail
 have c0:=zz (LV.step u0.out B6.out);refine(RMakeQ_is _ _ _ n d c0.out v0.out HD.out.1 (Nat.le_trans (fit_i64 HN.out.1 HN.out.2) (by decide)) (Nat.le_trans (fit_i64 HD.out.2.1 HD.out.2.2) (by decide))).mono ?_;rintro e w9 ⟨t0,v,rfl,hv⟩;have B11:=zz t0;have z11:=B11.out.size;have x0:=zz (r0.out.trans (B11.out.mono r0.out.size));clear t0;obtain⟨E0,F0,G0,H0,I0,d0,J0,rfl,ha13,b0,hc13⟩:=hv;have e0:=zz (show QV w9 w9.heap.size (.agg #[.bool E0,.slice F0 G0 H0,.bool false,.slice I0 d0 J0]) (Rat.divInt n d) from⟨_,_,_,_,_,_,_,rfl,ha13,b0,hc13⟩);clear ha13 b0 hc13;have P1_3_15:=zz (B2.out.trans (B6.out.mono B2.out.size));have P1_4_16:=zz (P1_3_15.out.trans (B11.out.mono P1_3_15.out.size));have a0:=CB.step Lr4 P1_4_16.out;have f0:=a0.cell 0 rfl;have g0:=a0.cell 1 rfl;have h0:=a0.cell 2 rfl;have i0:=a0.cell 3 rfl;have A0:=a0.lt;have j0:=a0.frozen 0;have k0:=a0.frozen 1;have l0:=a0.frozen 2;have m0:=a0.frozen 3;have C0:=a0.lt;go_wp2;clear f0 g0 h0 i0 A0 j0 k0 l0 m0 C0;exact QB.fin (r:=(some (Rat.divInt n d),0)) rfl a0 (by simp[noInt_b,noInt_s]) x0.out (by omega) e0.out rfl rfl
theorem mod_scale (d:Int):∃ m:Int,wrap64 ((IntKind.u64.wrap d).tmod 1000000000000)=m∧0≤m∧m<1000000000000:=by
 have h0:IntKind.u64.wrap d=d % 18446744073709551616:=by simp[IntKind.wrap,IntKind.bits,IntKind.signed]
 have h1:0≤d % 18446744073709551616:=Int.emod_nonneg _ (by decide);have h2:=Int.tmod_eq_emod_of_nonneg (a:=d % 18446744073709551616) (b:=1000000000000) h1;have h3:=Int.emod_nonneg (d % 18446744073709551616) (show(1000000000000:Int)≠0 by omega);have h4:=Int.emod_lt_of_pos (d % 18446744073709551616) (show(0:Int)<1000000000000 by omega);exact⟨d % 18446744073709551616 % 1000000000000,by rw[h0,h2,IntWalk.wrap64_in _ (by omega)],by omega,by omega⟩
set_option linter.unusedVariables false in
set_option maxRecDepth 100000 in
set_option maxHeartbeats 16000000 in
theorem QuotRounds_any (w:World) (G:Glob w) (M:MaxL w) (tn tm tn2 tm2:Bool) (ts0 ts1 ts2 ts3:Value) (ta tb ta2 tb2:List Int) (tx1 tx2 ty1 ty2:Bool) (tl1 tl2 tk1 tk2:Int) (tt1 tt2 tu1 tu2:Value) (tc1 tc2 td1 td2:List Nat)
  (ha:QR w w.heap.size (.agg #[.bool tn,ts0,.bool tm,ts1]) tn ta tm tb) (hb:QR w w.heap.size (.agg #[.bool tn2,ts2,.bool tm2,ts3]) tn2 ta2 tm2 tb2) (hl1:0≤tl1∧tl1≤255) (hl2:0≤tl2∧tl2≤255) (I1:0≤tk1∧tk1≤255) (J1:0≤tk2∧tk2≤255) (ht1:RW w w.heap.size tt1 tc1) (ht2:RW w w.heap.size tt2 tc2) (hu1:RW w w.heap.size tu1 td1) (hu2:RW w w.heap.size tu2 td2)
  (an:Int) (han0:-9223372036854775808≤an) (han1:an≤9223372036854775807) (ad:Int) (had0:-9223372036854775808≤ad) (had1:ad≤9223372036854775807) (sc:Int) (hsc0:-9223372036854775808≤sc) (hsc1:sc≤9223372036854775807) :
  Calls Tryz.prog 4 #[.agg #[.bool tn,ts0,.bool tm,ts1,.bool tn2,ts2,.bool tm2,ts3,.bool tx1,.int .u8 tl1,tt1,.bool tx2,.int .u8 tl2,tt2,.bool ty1,.int .u8 tk1,tu1,.bool ty2,.int .u8 tk2,tu2],.int .i64 an,.int .i64 ad,.int .i64 sc] w fun e w'=>Below w.heap.size w w'∧e=.returned (.bool true):=by
 have HK:=zz (And.intro hl1 (And.intro hl2 (And.intro I1 J1)));have HA:=zz ha;have HB:=zz hb;have H1:=zz ht1;have H2:=zz ht2;have H3:=zz hu1;have H4:=zz hu2;clear hl1 hl2 I1 J1 ha hb ht1 ht2 hu1 hu2;have z3:=zz (And.intro han0 han1);have J3:=zz had1;clear han0 han1 had0 had1 hsc0 hsc1;obtain⟨w0,hw0⟩:∃ w0:World,w0=(w.alloc (.cells #[.bool tn,ts0,.bool tm,ts1,.bool tn2,ts2,.bool tm2,ts3,.bool tx1,.int .u8 tl1,tt1,.bool tx2,.int .u8 tl2,tt2,.bool ty1,.int .u8 tk1,tu1,.bool ty2,.int .u8 tk2,tu2] 33)):=⟨_,rfl⟩;have B0:=zz (n1_b hw0);have z0:=n1_z hw0;have Lt:=n1_0 hw0;replace HA:=zz (QR.step HA.out B0.out);replace HB:=zz (QR.step HB.out B0.out);replace H1:=zz (RW.step H1.out B0.out);replace H2:=zz (RW.step H2.out B0.out);replace H3:=zz (RW.step H3.out B0.out);replace H4:=zz (RW.step H4.out B0.out);go_enter Tryz.func4,Tryz.ntmps4
 go_upto_region 1 with (fail)
 rw[← hw0];clear hw0;go_wp2_with fail
 refine(worksQ_any _ (G.step B0.out) (M.step B0.out)).mono ?_;rintro e w1 ⟨K1,rfl⟩;have B2:=zz K1;have z2:=B2.out.size;have L1:=zz (B0.out.trans (B2.out.mono B0.out.size));clear K1;obtain⟨dm,hdm⟩:∃ x,max ad 1=x:=⟨_,rfl⟩;have hdm0:1≤dm∧dm≤9223372036854775807:=by have:=J3.out;omega
 have K3:=zz hdm;have A3:=zz hdm0;clear hdm hdm0;go_wp2_with fail
 rw[K3.out];refine(ROfQ_is _ an dm z3.out.1 z3.out.2 A3.out.1 A3.out.2).mono ?_;rintro e w4 ⟨M1,v,rfl,hv⟩;have B5:=zz M1;have z5:=B5.out.size;have N1:=zz (L1.out.trans (B5.out.mono L1.out.size));clear M1;obtain⟨k3,l3,m3,n3,o3,g0,p3,rfl,ha7,O1,hc7⟩:=hv;have G0:=zz (show QV w4 w4.heap.size (.agg #[.bool k3,.slice l3 m3 n3,.bool false,.slice o3 g0 p3]) (Rat.divInt an dm) from⟨_,_,_,_,_,_,_,rfl,ha7,O1,hc7⟩);clear ha7 O1 hc7;go_upto_region 4 with (fail)
 obtain⟨w8,y0⟩:∃ w8:World,w8=(w4.alloc (.cells #[.bool k3,.slice l3 m3 n3,.bool false,.slice o3 g0 p3] 26)):=⟨_,rfl⟩;rw[← y0];have H0:=n1_0 y0;have za8:=n1_z y0;have B9:=zz (n1_b y0);have z9:=B9.out.size;have I0:=zz (N1.out.trans (B9.out.mono N1.out.size));clear y0;refine Flow.run [⟨0,32,fun fv fw=>fv=.pointer (some ⟨w.heap.size,0,none⟩)⟩,⟨1,33,fun fv fw=>fv=.agg #[.bool tn,ts0,.bool tm,ts1]⟩,⟨2,34,fun fv fw=>anyR fw fv⟩,⟨3,35,fun fv fw=>fv=.pointer (some ⟨w.heap.size,8,none⟩)⟩,⟨4,36,fun fv fw=>fv=.agg #[.bool tx1,.int .u8 tl1,tt1,.bool tx2,.int .u8 tl2,tt2]⟩,⟨5,37,fun fv fw=>anyR fw fv⟩,⟨6,38,fun fv fw=>fv=.pointer (some ⟨w.heap.size,8,none⟩)⟩,⟨7,39,fun fv fw=>fv=.agg #[.bool tx1,.int .u8 tl1,tt1,.bool tx2,.int .u8 tl2,tt2]⟩,⟨8,40,fun fv fw=>anyR fw fv⟩,⟨9,41,fun fv fw=>fv=.agg #[.bool k3,.slice l3 m3 n3,.bool false,.slice o3 g0 p3]⟩,⟨10,42,fun fv fw=>∃ g,fv=.slice (some ⟨g,0,none⟩) 4 4∧FourQ fw g⟩,⟨11,43,fun fv fw=>fv=.int .i64 4⟩,⟨12,44,fun fv fw=>fv=.int .i64 0⟩] [] [] 0 (by kernel_rfl) (by kernel_rfl) (by kernel_rfl) (fun _ _ _ _ _ h=>h) ?_ ?_ ?_ ?_
 ·refine(a0 (a0 (all_cons (fun v w1 w2 h hb=>h.step hb) (a0 (a0 (all_cons (fun v w1 w2 h hb=>h.step hb) (a0 (a0 (all_cons (fun v w1 w2 h hb=>h.step hb) (a0 (all_cons (fun v w1 w2 h hb=>let ⟨g,e,h⟩:=h;⟨g,e,h.step hb⟩) (a0 (a0 all_nil)))))))))))))
 ·refine(all_cons ?_ (all_cons ?_ (all_cons ?_ (all_cons ?_ (all_cons ?_ (all_cons ?_ (all_cons ?_ (all_cons ?_ (all_cons ?_ (all_cons ?_ (all_cons ?_ (all_cons ?_ (all_cons ?_ all_nil)))))))))))))
  ·intro xs I2 b0 c0;clear b0;clear c0;refine wpOp_step (o:=_) rfl (fun K hK=>?_);simp only[FL]
   go_simp;refine hK _ _ ⟨.pointer (some ⟨w.heap.size,0,none⟩),by kernel_rfl,Below.refl _ _,rfl,nF⟩
  ·intro xs K2 b0 c0;have X0:=zz b0;have L2:=b0.size;clear b0;have f0:(xs 0)=.pointer (some ⟨w.heap.size,0,none⟩):=c0 _ (m_ 0 rfl) (by kernel_rfl);clear c0;refine wpOp_step (o:=_) rfl (fun K hK=>?_);simp only[FL]
   have P1_3_14:=zz (B2.out.trans (B5.out.mono B2.out.size));have P1_4_15:=zz (P1_3_14.out.trans (B9.out.mono P1_3_14.out.size));have P1_5_16:=zz (P1_4_15.out.trans (X0.out.mono P1_4_15.out.size));have o0:=CB.step Lt P1_5_16.out;have j2:=o0.cell 0 rfl;have k2:=o0.cell 1 rfl;have o2:=o0.cell 2 rfl;have p2:=o0.cell 3 rfl;go_simp;refine hK _ _ ⟨.agg #[.bool tn,ts0,.bool tm,ts1],by simp only[FL,f0] <;> kernel_rfl,Below.refl _ _,rfl,nF⟩
  ·intro xs M2 b0 c0;have Y0:=zz b0;have N2:=b0.size;clear b0;have f1:(xs 1)=.agg #[.bool tn,ts0,.bool tm,ts1]:=c0 _ (m_ 1 rfl) (by kernel_rfl);clear c0;refine wpOp_step (o:=_) rfl (fun K hK=>?_);simp only[FL]
   go_simp;have P1_3_19:=zz (B2.out.trans (B5.out.mono B2.out.size));have P1_4_20:=zz (P1_3_19.out.trans (B9.out.mono P1_3_19.out.size));have P1_5_21:=zz (P1_4_20.out.trans (Y0.out.mono P1_4_20.out.size));have J0:=zz (QR.step HA.out P1_5_21.out);(with_reducible refine(ownQ_any _ _ tn tm ta tb J0.out).mono ?_)
   rintro e wc23 ⟨P1,v23,rfl,Q1⟩;refine hK _ _ ⟨v23,by simp only[FL,f1] <;> kernel_rfl,P1,⟨_,_,_,_,Q1⟩,nF⟩
  ·intro xs O2 b0 c0;clear b0;clear c0;refine wpOp_step (o:=_) rfl (fun K hK=>?_);simp only[FL]
   go_simp;refine hK _ _ ⟨.pointer (some ⟨w.heap.size,8,none⟩),by kernel_rfl,Below.refl _ _,rfl,nF⟩
  ·intro xs Q2 b0 c0;have Z0:=zz b0;have R2:=b0.size;clear b0;have f3:(xs 3)=.pointer (some ⟨w.heap.size,8,none⟩):=c0 _ (m_ 3 rfl) (by kernel_rfl);clear c0;refine wpOp_step (o:=_) rfl (fun K hK=>?_);simp only[FL]
   have P1_3_27:=zz (B2.out.trans (B5.out.mono B2.out.size));have P1_4_28:=zz (P1_3_27.out.trans (B9.out.mono P1_3_27.out.size));have P1_5_29:=zz (P1_4_28.out.trans (Z0.out.mono P1_4_28.out.size));have h0:=CB.step Lt P1_5_29.out;have r2:=h0.cell 8 rfl;have s2:=h0.cell 9 rfl;have W1:=h0.cell 10 rfl;have X1:=h0.cell 11 rfl;have Y1:=h0.cell 12 rfl;have Z1:=h0.cell 13 rfl;go_simp;refine hK _ _ ⟨.agg #[.bool tx1,.int .u8 tl1,tt1,.bool tx2,.int .u8 tl2,tt2],by simp only[FL,f3] <;> kernel_rfl,Below.refl _ _,rfl,nF⟩
  ·intro xs S2 b0 c0;have a1:=zz b0;have T2:=b0.size;clear b0;have f4:(xs 4)=.agg #[.bool tx1,.int .u8 tl1,tt1,.bool tx2,.int .u8 tl2,tt2]:=c0 _ (m_ 4 rfl) (by kernel_rfl);clear c0;refine wpOp_step (o:=_) rfl (fun K hK=>?_);simp only[FL]
   go_simp;have P1_3_32:=zz (B2.out.trans (B5.out.mono B2.out.size));have P1_4_33:=zz (P1_3_32.out.trans (B9.out.mono P1_3_32.out.size));have P1_5_34:=zz (P1_4_33.out.trans (a1.out.mono P1_4_33.out.size));have K0:=zz (RW.step H1.out P1_5_34.out);have L0:=zz (RW.step H2.out P1_5_34.out);(with_reducible refine(DQuotQ_any _ tx1 tx2 tl1 tl2 tt1 tt2 tc1 tc2 HK.out.1.1 HK.out.1.2 K0.out HK.out.2.1.1 HK.out.2.1.2 L0.out).mono ?_)
   rintro e wc37 ⟨R1,q37,l37,v37,rfl,S1⟩;refine hK _ _ ⟨v37,by simp only[FL,f4] <;> kernel_rfl,R1,⟨_,_,_,_,S1.qr⟩,nF⟩
  ·intro xs U2 b0 c0;clear b0;clear c0;refine wpOp_step (o:=_) rfl (fun K hK=>?_);simp only[FL]
   go_simp;refine hK _ _ ⟨.pointer (some ⟨w.heap.size,8,none⟩),by kernel_rfl,Below.refl _ _,rfl,nF⟩
  ·intro xs W2 b0 c0;have b1:=zz b0;have X2:=b0.size;clear b0;have f6:(xs 6)=.pointer (some ⟨w.heap.size,8,none⟩):=c0 _ (m_ 6 rfl) (by kernel_rfl);clear c0;refine wpOp_step (o:=_) rfl (fun K hK=>?_);simp only[FL]
   have P1_3_41:=zz (B2.out.trans (B5.out.mono B2.out.size));have P1_4_42:=zz (P1_3_41.out.trans (B9.out.mono P1_3_41.out.size));have P1_5_43:=zz (P1_4_42.out.trans (b1.out.mono P1_4_42.out.size));have i0:=CB.step Lt P1_5_43.out;have u2:=i0.cell 8 rfl;have v2:=i0.cell 9 rfl;have a2:=i0.cell 10 rfl;have b2:=i0.cell 11 rfl;have d2:=i0.cell 12 rfl;have g2:=i0.cell 13 rfl;go_simp;refine hK _ _ ⟨.agg #[.bool tx1,.int .u8 tl1,tt1,.bool tx2,.int .u8 tl2,tt2],by simp only[FL,f6] <;> kernel_rfl,Below.refl _ _,rfl,nF⟩
  ·intro xs Y2 b0 c0;have c1:=zz b0;have Z2:=b0.size;clear b0;have f7:(xs 7)=.agg #[.bool tx1,.int .u8 tl1,tt1,.bool tx2,.int .u8 tl2,tt2]:=c0 _ (m_ 7 rfl) (by kernel_rfl);clear c0;refine wpOp_step (o:=_) rfl (fun K hK=>?_);simp only[FL]
   go_simp;have P1_3_46:=zz (B2.out.trans (B5.out.mono B2.out.size));have P1_4_47:=zz (P1_3_46.out.trans (B9.out.mono P1_3_46.out.size));have P1_5_48:=zz (P1_4_47.out.trans (c1.out.mono P1_4_47.out.size));have M0:=zz (RW.step H1.out P1_5_48.out);have N0:=zz (RW.step H2.out P1_5_48.out);(with_reducible refine(DShortQ_any _ tx1 tx2 tl1 tl2 tt1 tt2 tc1 tc2 HK.out.1.1 HK.out.1.2 M0.out HK.out.2.1.1 HK.out.2.1.2 N0.out).mono ?_)
   rintro e wc51 ⟨T1,q51,l51,v51,rfl,U1⟩;refine hK _ _ ⟨v51,by simp only[FL,f7] <;> kernel_rfl,T1,⟨_,_,_,_,U1.qr⟩,nF⟩
  ·intro xs a3 b0 c0;have d1:=zz b0;have b3:=b0.size;clear b0;clear c0;refine wpOp_step (o:=_) rfl (fun K hK=>?_);simp only[FL]
   have d0:=CB.step H0 d1.out;have y2:=d0.cell 0 rfl;have C2:=d0.cell 1 rfl;have D2:=d0.cell 2 rfl;have E2:=d0.cell 3 rfl;go_simp;refine hK _ _ ⟨.agg #[.bool k3,.slice l3 m3 n3,.bool false,.slice o3 g0 p3],by kernel_rfl,Below.refl _ _,rfl,nF⟩
  ·intro xs m0 b0 c0;have g1:=zz b0;have c3:=b0.size;clear b0;have f2:anyR m0 (xs 2):=c0 _ (m_ 2 rfl) (by kernel_rfl);have f5:anyR m0 (xs 5):=c0 _ (m_ 5 rfl) (by kernel_rfl);have f8:anyR m0 (xs 8):=c0 _ (m_ 8 rfl) (by kernel_rfl);have f9:(xs 9)=.agg #[.bool k3,.slice l3 m3 n3,.bool false,.slice o3 g0 p3]:=c0 _ (m_ 9 rfl) (by kernel_rfl);clear c0;refine wpOp_step (o:=_) rfl (fun K hK=>?_);simp only[FL]
   obtain⟨n2,m2,A2,A2',l2,c2,l2',c2',hx2⟩:=anyR.cells f2;rw[hx2];have B3:=zz f2;rw[hx2] at B3;obtain⟨n5,m5,A5,A5',l5,c5,l5',c5',hx5⟩:=anyR.cells f5;rw[hx5];have C3:=zz f5;rw[hx5] at C3;obtain⟨n8,m8,A8,A8',l8,c8,l8',c8',hx8⟩:=anyR.cells f8;rw[hx8];have D3:=zz f8;rw[hx8] at D3;have P3_5_56:=zz (B9.out.trans (g1.out.mono B9.out.size));have A0:=zz (QV.step G0.out P3_5_56.out);have L3:Hid (anyR _ _):=zz ⟨_,_,_,_,QV.qr A0.out⟩;have i3:=zz (CB.new m0 26 #[.bool n2,.slice A2 l2 c2,.bool m2,.slice A2' l2' c2',.bool n5,.slice A5 l5 c5,.bool m5,.slice A5' l5' c5',.bool n8,.slice A8 l8 c8,.bool m8,.slice A8' l8' c8',.bool k3,.slice l3 m3 n3,.bool false,.slice o3 g0 p3]);have r3:=zz (below_alloc1 (Below.refl m0.heap.size m0) (.cells #[.bool n2,.slice A2 l2 c2,.bool m2,.slice A2' l2' c2',.bool n5,.slice A5 l5 c5,.bool m5,.slice A5' l5' c5',.bool n8,.slice A8 l8 c8,.bool m8,.slice A8' l8' c8',.bool k3,.slice l3 m3 n3,.bool false,.slice o3 g0 p3] 26));go_simp
   refine hK _ _ ⟨.slice (some ⟨m0.heap.size,0,none⟩) 4 4,by simp only[FL,f9,hx2,hx5,hx8] <;> kernel_rfl,r3.out,⟨_,rfl,FourQ.mk ⟨_,_,_,_,_,_,_,_,i3.out.cell 0 rfl,i3.out.cell 1 rfl,i3.out.cell 2 rfl,i3.out.cell 3 rfl,B3.out.step r3.out⟩ ⟨_,_,_,_,_,_,_,_,i3.out.cell 4 rfl,i3.out.cell 5 rfl,i3.out.cell 6 rfl,i3.out.cell 7 rfl,C3.out.step r3.out⟩ ⟨_,_,_,_,_,_,_,_,i3.out.cell 8 rfl,i3.out.cell 9 rfl,i3.out.cell 10 rfl,i3.out.cell 11 rfl,D3.out.step r3.out⟩ ⟨_,_,_,_,_,_,_,_,i3.out.cell 12 rfl,i3.out.cell 13 rfl,i3.out.cell 14 rfl,i3.out.cell 15 rfl,L3.out.step r3.out⟩⟩,nF⟩
  ·intro xs V1 b0 c0;clear b0;have f10:∃ g,(xs 10)=.slice (some ⟨g,0,none⟩) 4 4∧FourQ V1 g:=c0 _ (m_ 10 rfl) (by kernel_rfl);clear c0;refine wpOp_step (o:=_) rfl (fun K hK=>?_);simp only[FL]
   obtain⟨g,hg,-⟩:=f10;rw[hg];go_simp;refine hK _ _ ⟨.int .i64 4,by simp only[FL,hg] <;> kernel_rfl,Below.refl _ _,rfl,nF⟩
  ·intro xs g3 b0 c0;clear b0;clear c0;refine wpOp_step (o:=_) rfl (fun K hK=>?_);simp only[FL]
   go_simp;refine hK _ _ ⟨.int .i64 0,by kernel_rfl,Below.refl _ _,rfl,nF⟩
 ·exact all_nil
 ·intro xs j3 hbf hf hn hd;have f0:(xs 0)=.pointer (some ⟨w.heap.size,0,none⟩):=hf _ (m_ 0 rfl);have f1:(xs 1)=.agg #[.bool tn,ts0,.bool tm,ts1]:=hf _ (m_ 1 rfl);have f2:anyR j3 (xs 2):=hf _ (m_ 2 rfl);have f3:(xs 3)=.pointer (some ⟨w.heap.size,8,none⟩):=hf _ (m_ 3 rfl);have f4:(xs 4)=.agg #[.bool tx1,.int .u8 tl1,tt1,.bool tx2,.int .u8 tl2,tt2]:=hf _ (m_ 4 rfl);have f5:anyR j3 (xs 5):=hf _ (m_ 5 rfl);have f6:(xs 6)=.pointer (some ⟨w.heap.size,8,none⟩):=hf _ (m_ 6 rfl);have f7:(xs 7)=.agg #[.bool tx1,.int .u8 tl1,tt1,.bool tx2,.int .u8 tl2,tt2]:=hf _ (m_ 7 rfl);have f8:anyR j3 (xs 8):=hf _ (m_ 8 rfl);have f9:(xs 9)=.agg #[.bool k3,.slice l3 m3 n3,.bool false,.slice o3 g0 p3]:=hf _ (m_ 9 rfl);have f10:∃ g,(xs 10)=.slice (some ⟨g,0,none⟩) 4 4∧FourQ j3 g:=hf _ (m_ 10 rfl);have f11:(xs 11)=.int .i64 4:=hf _ (m_ 11 rfl);have f12:(xs 12)=.int .i64 0:=hf _ (m_ 12 rfl);clear hf hn hd;simp only[FL]
  have B61:=zz hbf;have z61:=B61.out.size;have t0:=zz (I0.out.trans (B61.out.mono I0.out.size));clear hbf;generalize xs 0=x0,xs 1=x1,xs 2=x2,xs 3=x3,xs 4=x4,xs 5=x5,xs 6=x6,xs 7=x7,xs 8=x8,xs 9=x9,xs 10=x10,xs 11=x11,xs 12=x12 at *
  obtain rfl:=f0;obtain rfl:=f1;clear f2;obtain rfl:=f3;obtain rfl:=f4;clear f5;obtain rfl:=f6;obtain rfl:=f7;clear f8;obtain rfl:=f9;obtain⟨g,rfl,hfq⟩:=f10;have M3:=zz hfq;clear hfq;obtain rfl:=f11;obtain rfl:=f12;refine Early.done (by kernel_rfl) ?_ _;(try simp only[Exit.then])
  go_wp2;have GXk:=zz (G.step t0.out);have MXk:=zz (M.step t0.out);go_loopw [44] (fun iv wr=>∃ k:Nat,k≤4∧iv=.int .i64 k∧Hid (Below j3.heap.size j3 wr)) (fun iv _=>4-(intOf iv).toNat)
  case atStart=>exact⟨0,Nat.zero_le _,rfl,zz (Below.refl _ _)⟩
  case round=>
   obtain⟨k,hkn,rfl,HRk⟩:=hrel;obtain⟨wk,hwk⟩:∃ x:World,x=wr:=⟨_,rfl⟩;subst hwk;have zrk:=HRk.out.size;by_cases hltk:k<4
   ·have hltki:(k:Int)<4:=by omega
    have hgeki:(0:Int)≤(k:Int):=by omega
    have O0:=zz (FourQ.step M3.out HRk.out);obtain⟨pn,pm,pA,pA',pl,pc,pl',pc',e0,e1,e2,e3,pn',pa,pm',pb,hq⟩:=FourQ.at O0.out k hltk;obtain⟨rfl,rfl⟩:pn'=pn∧pm'=pm:=by obtain⟨_,_,_,_,_,_,e,-⟩:=hq;injection e with e;injection e with e;injection e with h1 e;injection e with _ e;injection e with h2 _;injection h1 with h1;injection h2 with h2;exact⟨h1.symm,h2.symm⟩
    have HQ:=zz hq;clear hq;go_upto_region 7 with (fail)
    clear e0 e1 e2 e3;obtain⟨w64,p0⟩:∃ w64:World,w64=(wk.alloc (.cells #[.bool pn',.slice pA pl pc,.bool pm',.slice pA' pl' pc'] 26)):=⟨_,rfl⟩;rw[← p0];have j0:=n1_0 p0;have za64:=n1_z p0;have B65:=zz (n1_b p0);have z65:=B65.out.size;have C0:=zz (HRk.out.trans (B65.out.mono HRk.out.size));clear p0;obtain⟨rs,hrs⟩:∃ r,r=spanQ (qOf pn' pa pm' pb):=⟨_,rfl⟩;have E3:=zz hrs;clear hrs;obtain⟨⟨ra,rb⟩,re⟩:=rs;have i1:=j0.cell 0 rfl;have j1:=j0.cell 1 rfl;have k1:=j0.cell 2 rfl;have l1:=j0.cell 3 rfl;have s3:=j0.lt;go_wp2_with fail
    have D0:=zz (QR.step HQ.out B65.out);refine((show Calls Tryz.prog _ _ _ _ from E3.out▸QSpan_any _ _ pn' pm' pa pb D0.out (GXk.out.step C0.out))).mono ?_;rintro e w67 ⟨P0,rfl⟩;have B70:=zz P0;have z70:=B70.out.size;have Q0:=zz (C0.out.trans (B70.out.mono C0.out.size));clear P0;clear i1 j1 k1 l1 s3;dsimp only
    go_upto_region 8 with (fail)
    obtain⟨w72,q0⟩:∃ w72:World,w72=(w67.alloc (.cells #[.int .i64 ra,.int .i64 rb] 52)):=⟨_,rfl⟩;rw[← q0];have m1:=n1_0 q0;have za72:=n1_z q0;have B73:=zz (n1_b q0);have z73:=B73.out.size;have R0:=zz (Q0.out.trans (B73.out.mono Q0.out.size));clear q0;have P7_9_77:=zz (B70.out.trans (B73.out.mono B70.out.size));have k0:=CB.step j0 P7_9_77.out;have n1:=k0.cell 0 rfl;have o1:=k0.cell 1 rfl;have p1:=k0.cell 2 rfl;have q1:=k0.cell 3 rfl;have t3:=k0.lt;go_wp2_with fail
    have E0:=zz (QR.step D0.out P7_9_77.out);refine((show Calls Tryz.prog _ _ _ _ from E3.out▸RSpanQ_any _ _ pn' pm' pa pb E0.out)).mono ?_;rintro e w75 ⟨S0,rfl⟩;have B80:=zz S0;have z80:=B80.out.size;have T0:=zz (R0.out.trans (B80.out.mono R0.out.size));clear S0;clear n1 o1 p1 q1 t3;dsimp only
    go_upto_region 9 with (fail)
    obtain⟨w82,r0⟩:∃ w82:World,w82=(w75.alloc (.cells #[.int .i64 ra,.int .i64 rb] 52)):=⟨_,rfl⟩;rw[← r0];have s0:=n1_0 r0;have za82:=n1_z r0;have B83:=zz (n1_b r0);have z83:=B83.out.size;have u0:=zz (T0.out.trans (B83.out.mono T0.out.size));clear r0;have P9_11_86:=zz (B80.out.trans (B83.out.mono B80.out.size));have v0:=CB.step m1 P9_11_86.out;have r1:=v0.cell 0 rfl;have s1:=v0.cell 1 rfl;have u3:=v0.lt;have t1:=s0.cell 0 rfl;have u1:=s0.cell 1 rfl;have v3:=s0.lt;go_upto_region 11 with (fail)
    clear r1 s1 u3 t1 u1 v3;obtain⟨m,hm,hm0,hm1⟩:=mod_scale sc;obtain⟨s,hs⟩:∃ s,wrap64 (1+m)=s:=⟨_,rfl⟩;have HM:=zz hm;have HS:=zz hs;clear hm hm0 hm1 hs;go_wp2_with fail
    rw[HM.out,HS.out];go_wp2;have GXj:=zz (GXk.out.step u0.out);have MXj:=zz (MXk.out.step u0.out);go_loopw [73] (fun iv wr=>∃ j:Nat,j≤3∧iv=.int .i64 j∧Hid (Below w82.heap.size w82 wr)) (fun iv _=>3-(intOf iv).toNat)
    case atStart=>exact⟨0,Nat.zero_le _,rfl,zz (Below.refl _ _)⟩
    case round=>
     obtain⟨j,hjn,rfl,HRj⟩:=hrel;obtain⟨wj,hwj⟩:∃ x:World,x=wr:=⟨_,rfl⟩;subst hwj;have zrj:=HRj.out.size;by_cases hltj:j<3
     ·have hltji:(j:Int)<3:=by omega
      have hgeji:(0:Int)≤(j:Int):=by omega
      obtain⟨x,hidx⟩:∃ x:Int,∀ w:World,(Instr.index 56 (.agg #[.int .i64 sc,.int .i64 s,.int .i64 1]) (.int .i64 (j:Int))).run Tryz.prog w=.ok (.int .i64 x) w:=by
       have hj:j=0∨j=1∨j=2:=by omega
       rcases hj with rfl | rfl | rfl
       ·exact⟨sc,fun _=>by kernel_rfl⟩
       ·exact⟨s,fun _=>by kernel_rfl⟩
       ·exact⟨1,fun _=>by kernel_rfl⟩
      obtain⟨rn,hrn⟩:∃ r,r=nearQ (qOf pn' pa pm' pb) x:=⟨_,rfl⟩;have F3:=zz hrn;clear hrn;obtain⟨rk,rf⟩:=rn;have P9_12_91:=zz (P9_11_86.out.trans (HRj.out.mono P9_11_86.out.size));have l0:=CB.step k0 P9_12_91.out;have v1:=l0.cell 0 rfl;have y1:=l0.cell 1 rfl;have z1:=l0.cell 2 rfl;have A1:=l0.cell 3 rfl;have w3:=l0.lt;go_wp2_with fail
      have F0:=zz (QR.step E0.out P9_12_91.out);refine((show Calls Tryz.prog _ _ _ _ from F3.out▸QNear_any _ _ pn' pm' pa pb x F0.out (GXj.out.step HRj.out))).mono ?_;rintro e w89 ⟨U0,rfl⟩;have B94:=zz U0;have z94:=B94.out.size;have V0:=zz (HRj.out.trans (B94.out.mono HRj.out.size));clear U0;clear v1 y1 z1 A1 w3;clear hidx;have n0:=CB.step l0 B94.out;have B1:=n0.cell 0 rfl;have C1:=n0.cell 1 rfl;have D1:=n0.cell 2 rfl;have E1:=n0.cell 3 rfl;have y3:=n0.lt;go_wp2_with fail
      have F1:=zz (QR.step F0.out B94.out);refine((show Calls Tryz.prog _ _ _ _ from F3.out▸RNearQ_any _ _ pn' pm' pa pb x F1.out)).mono ?_;rintro e w96 ⟨W0,rfl⟩;have B100:=zz W0;have z100:=B100.out.size;have G1:=zz (V0.out.trans (B100.out.mono V0.out.size));clear W0;clear B1 C1 D1 E1 y3;go_wp2;go_roundw
      case rel=>exact⟨j+1,by omega,by go_num,zz G1.out⟩
      case measure=>simp[intOf];omega
     ·obtain rfl:j=3:=by omega
      rw[show((3:Nat):Int)=3 from rfl];go_wp2;go_roundw
      case rel=>exact⟨k+1,by omega,by go_num,zz (u0.out.trans ((HRj.out).mono u0.out.size))⟩
      case measure=>simp[intOf];omega
   ·obtain rfl:k=4:=by omega
    rw[show((4:Nat):Int)=4 from rfl];go_wp2;go_ret;exact⟨(t0.out.trans ((HRk.out).mono t0.out.size)),rfl⟩
end Go.Proofs.YtioclokmbgmamaaGreatDoor
