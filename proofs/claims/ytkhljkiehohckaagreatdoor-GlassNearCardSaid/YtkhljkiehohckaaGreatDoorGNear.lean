/- The law GlassNear (written by gen_gnear.py). -/
import Derived.Test.YtkhljkiehohckaaGreatDoorGw
import Derived.Test.YtkhljkiehohckaaGreatDoorGm
import Derived.Test.YtkhljkiehohckaaGreatDoorGq
namespace Go.Proofs.YtkhljkiehohckaaGreatDoor
open Go Go.RowKit Dig
theorem DGlass_g {w:World} {d:DR} {g0:GL} (h:d.wf) (e:drG d=g0) :
  Calls Tryz.prog 12 #[.agg #[.int .u8 d.f,.int .i8 d.a0,.int .i8 d.a1,.int .i8 d.a2,.int .i8 d.a3,.int .i8 d.a4,.int .i8 d.a5,.int .u8 d.nm,.int .u8 d.lo,.int .u8 d.wd]] w fun e w'=>Below w.heap.size w w'∧e=.returned (.agg (GC g0)):=by subst e;exact DGlass_any w d h
theorem sqNo {w:World} (G:GF w) {g:GL} {L r:Int} (hs:g.nm.size≤1000) (h:erG g L=r) (h0:r≠0) :
  Calls Tryz.prog 17 #[.agg (GC g),.int .i64 L] w fun e w'=>Below w.heap.size w w'∧∃ v,e=.returned (.tuple #[v,.int .i64 r])∧QO w' w'.heap.size v none:=by
 have k:=Square_G w G g L hs;rw[show sqR g L=(none,r) by rw[sqR,if_neg (by omega),h]] at k;exact k
theorem below_yes {w:World} {n:Int} {v:Value} {q:Rat} (ha:QV w w.heap.size v q) (lq:QL 600 600 q) (hn:-100000000≤n∧n≤100000000) (h:cmpR (Rat.divInt n 1*Rat.divInt n 1) q≤0) :
  Calls Tryz.prog 27 #[.int .i64 n,v,.bool true] w fun e w'=>Below w.heap.size w w'∧e=.returned (.bool true):=by
 have k:=below_any ha lq hn;rw[decide_eq_true h] at k;exact k
theorem below_not {w:World} {n:Int} {v:Value} {q:Rat} (ha:QV w w.heap.size v q) (lq:QL 600 600 q) (hn:-100000000≤n∧n≤100000000) (h:0<cmpR (Rat.divInt n 1*Rat.divInt n 1) q) :
  Calls Tryz.prog 27 #[.int .i64 n,v,.bool true] w fun e w'=>Below w.heap.size w w'∧e=.returned (.bool false):=by
 have k:=below_any ha lq hn;rw[decide_eq_false (Int.not_le.2 h)] at k;exact k
set_option linter.unusedVariables false in
set_option maxRecDepth 100000 in
set_option maxHeartbeats 8000000 in
theorem GlassNear_any (w:World) (G:GF w) (d:DR) (hd:d.wf) (what ix bn:Int) (tx:ByteArray) (hwx:0≤what∧what≤255) (hix:0≤ix∧ix≤255) (htx:tx.size≤maxLen) (len:Int) (hlen:-9223372036854775808≤len∧len≤9223372036854775807) :
  Calls Tryz.prog 5 #[.agg #[.int .u8 d.f,.int .i8 d.a0,.int .i8 d.a1,.int .i8 d.a2,.int .i8 d.a3,.int .i8 d.a4,.int .i8 d.a5,.int .u8 d.nm,.int .u8 d.lo,.int .u8 d.wd],.agg #[.int .u8 what,.int .u8 ix,.int .i64 bn,.string tx],.int .i64 len] w fun e w'=>Below w.heap.size w w'∧e=.returned (.bool true):=by
 replace G:=zz G;obtain⟨g0,hg0⟩:∃ x,drG d=x:=⟨_,rfl⟩;have hs0:g0.nm.size≤1000:=(by rw[← hg0,drG_nm hd];decide);have l4:=zz hg0;clear hg0;obtain⟨w0,hw0⟩:∃ w0:World,w0=((w.alloc (.cells #[.int .u8 d.f,.int .i8 d.a0,.int .i8 d.a1,.int .i8 d.a2,.int .i8 d.a3,.int .i8 d.a4,.int .i8 d.a5,.int .u8 d.nm,.int .u8 d.lo,.int .u8 d.wd] 25)).alloc (.cells #[.int .u8 what,.int .u8 ix,.int .i64 bn,.string tx] 27)):=⟨_,rfl⟩;have B0:=zz (n2_b hw0);have z0:=n2_z hw0;have Ld:=n2_0 hw0;have Lb:=n2_1 hw0;go_enter Tryz.func5,Tryz.ntmps5
 go_upto_region 1 with (fail)
 rw[← hw0];clear hw0;go_wp2_with fail
 refine(wakes_any _ (G.out.step B0.out)).mono ?_;rintro e w1 ⟨E0,rfl⟩;have B2:=zz E0;have z2:=B2.out.size;have v2:=zz (B0.out.trans (B2.out.mono B0.out.size));clear E0;go_upto_region 3 with (fail)
 refine Flow.run [⟨0,20,fun fv fw=>fv=.agg #[.int .u8 what,.int .u8 ix,.int .i64 bn,.string tx]⟩,⟨1,21,fun fv fw=>fv=.agg #[.int .u8 d.f,.int .i8 d.a0,.int .i8 d.a1,.int .i8 d.a2,.int .i8 d.a3,.int .i8 d.a4,.int .i8 d.a5,.int .u8 d.nm,.int .u8 d.lo,.int .u8 d.wd]⟩,⟨2,22,fun fv fw=>fv=.agg (GC g0)⟩,⟨3,23,fun fv fw=>∃ g2:GL,g2.nm.size≤1000∧fv=.agg (GC g2)⟩,⟨4,7,fun fv fw=>∃ b,fv=.pointer (some ⟨b,0,none⟩)∧CB fw b 32 #[.string ⟨#[]⟩,.int .i64 0,.int .i64 0,.int .i64 0,.int .i64 0,.int .i64 0,.int .i64 0,.int .i64 0,.int .i64 0,.int .i64 0]⟩] [] [4] 1 (by kernel_rfl) (by kernel_rfl) (by kernel_rfl) (fun _ _ _ _ _ h=>h) ?_ ?_ ?_ ?_
 ·refine(a0 (a0 (a0 (a0 (all_cons (fun v w1 w2 h hb=>let ⟨b,e,h⟩:=h;⟨b,e,h.step hb⟩) all_nil)))))
 ·refine(all_cons ?_ (all_cons ?_ (all_cons ?_ (all_cons ?_ (all_cons ?_ all_nil)))))
  ·intro xs wk4 c0 d0;have y2:=zz c0;have m3:=c0.size;clear c0;clear d0;refine wpOp_step (o:=_) rfl (fun K hK=>?_);simp only[FL]
   have P1_3_6:=zz (B2.out.trans (y2.out.mono B2.out.size));have t0:=CB.step Lb P1_3_6.out;have c3:=t0.cell 0 rfl;have d3:=t0.cell 1 rfl;have e3:=t0.cell 2 rfl;have g3:=t0.cell 3 rfl;go_simp;refine hK _ _ ⟨.agg #[.int .u8 what,.int .u8 ix,.int .i64 bn,.string tx],by kernel_rfl,Below.refl _ _,rfl,nF⟩
  ·intro xs n3 c0 d0;have A2:=zz c0;have o3:=c0.size;clear c0;clear d0;refine wpOp_step (o:=_) rfl (fun K hK=>?_);simp only[FL]
   have P1_3_10:=zz (B2.out.trans (A2.out.mono B2.out.size));have e0:=CB.step Ld P1_3_10.out;have N2:=e0.cell 0 rfl;have O2:=e0.cell 1 rfl;have P2:=e0.cell 2 rfl;have Q2:=e0.cell 3 rfl;have R2:=e0.cell 4 rfl;have S2:=e0.cell 5 rfl;have T2:=e0.cell 6 rfl;have U2:=e0.cell 7 rfl;have V2:=e0.cell 8 rfl;have W2:=e0.cell 9 rfl;go_simp;refine hK _ _ ⟨.agg #[.int .u8 d.f,.int .i8 d.a0,.int .i8 d.a1,.int .i8 d.a2,.int .i8 d.a3,.int .i8 d.a4,.int .i8 d.a5,.int .u8 d.nm,.int .u8 d.lo,.int .u8 d.wd],by kernel_rfl,Below.refl _ _,rfl,nF⟩
  ·intro xs h3 c0 d0;clear c0;have f1:(xs 1)=.agg #[.int .u8 d.f,.int .i8 d.a0,.int .i8 d.a1,.int .i8 d.a2,.int .i8 d.a3,.int .i8 d.a4,.int .i8 d.a5,.int .u8 d.nm,.int .u8 d.lo,.int .u8 d.wd]:=d0 _ (m_ 1 rfl) (by kernel_rfl);clear d0;refine wpOp_step (o:=_) rfl (fun K hK=>?_);simp only[FL]
   go_simp;(with_reducible refine(DGlass_g hd l4.out).mono ?_)
   rintro e wc13 ⟨C2,rfl⟩;refine hK _ _ ⟨.agg (GC g0),by simp only[FL,f1] <;> kernel_rfl,C2,rfl,nF⟩
  ·intro xs j3 c0 d0;clear c0;have f0:(xs 0)=.agg #[.int .u8 what,.int .u8 ix,.int .i64 bn,.string tx]:=d0 _ (m_ 0 rfl) (by kernel_rfl);have f2:(xs 2)=.agg (GC g0):=d0 _ (m_ 2 rfl) (by kernel_rfl);clear d0;refine wpOp_step (o:=_) rfl (fun K hK=>?_);simp only[FL]
   go_simp;(with_reducible refine(Bend_any _ what ix bn tx _ hwx hix htx hs0).mono ?_)
   rintro e wc15 ⟨D2,g15,hs15,rfl⟩;refine hK _ _ ⟨.agg (GC g15),by simp only[FL,f0,f2] <;> kernel_rfl,D2,⟨g15,hs15,rfl⟩,nF⟩
  ·intro xs E2 c0 d0;clear c0;clear d0;refine wpOp_step (o:=_) rfl (fun K hK=>?_);simp only[FL]
   go_simp;refine hK _ _ ⟨.pointer (some ⟨E2.heap.size,0,none⟩),by kernel_rfl,(Below.refl _ _).alloc (Nat.le_refl _) _,⟨_,rfl,CB.new _ _ _⟩,fun _=>⟨_,rfl,Nat.le_refl _,by simp⟩⟩
 ·exact all_nil
 ·intro xs B3 hbf hf hn hd;have f0:(xs 0)=.agg #[.int .u8 what,.int .u8 ix,.int .i64 bn,.string tx]:=hf _ (m_ 0 rfl);have f1:(xs 1)=.agg #[.int .u8 d.f,.int .i8 d.a0,.int .i8 d.a1,.int .i8 d.a2,.int .i8 d.a3,.int .i8 d.a4,.int .i8 d.a5,.int .u8 d.nm,.int .u8 d.lo,.int .u8 d.wd]:=hf _ (m_ 1 rfl);have f2:(xs 2)=.agg (GC g0):=hf _ (m_ 2 rfl);have f3:∃ g2:GL,g2.nm.size≤1000∧(xs 3)=.agg (GC g2):=hf _ (m_ 3 rfl);have f4:∃ b,(xs 4)=.pointer (some ⟨b,0,none⟩)∧CB B3 b 32 #[.string ⟨#[]⟩,.int .i64 0,.int .i64 0,.int .i64 0,.int .i64 0,.int .i64 0,.int .i64 0,.int .i64 0,.int .i64 0,.int .i64 0]:=hf _ (m_ 4 rfl);have n4:=hn 4 (by decide);clear hf hn hd;simp only[FL]
  have B18:=zz hbf;have z18:=B18.out.size;have F2:=zz (v2.out.trans (B18.out.mono v2.out.size));clear hbf;generalize xs 0=x0,xs 1=x1,xs 2=x2,xs 3=x3,xs 4=x4 at *
  obtain rfl:=f0;obtain rfl:=f1;obtain rfl:=f2;obtain⟨g2,hs2,rfl⟩:=f3;obtain⟨p3,rfl,r3⟩:=f4;have q3:=zz (show w1.heap.size≤p3 by obtain⟨b',e,h,-⟩:=n4;injection e with e;injection e with e;injection e with e _ _;omega);clear n4;have b4:=r3.lt;have c4:=q3.out;refine Early.next (i:=5) (by kernel_rfl) rfl (fun K hK=>?_);rw[if_pos (show Region.wanted _ _=true from rfl)];refine wp_store_row _ _ _ rfl _ _ rfl rfl _ _ r3 rfl rfl (by kernel_rfl) ?_;refine hK _ _ (fun _=>trivial) ?_;clear hK K
  try simp only[FL]
  refine Early.done (by kernel_rfl) ?_ _;(try simp only[Exit.then])
  obtain⟨w22,hwd⟩:∃ nw:World,nw=B3.setRow p3 (GC g2):=⟨_,rfl⟩;rw[← hwd];have F0:CB w22 p3 32 (GC g2):=by rw[hwd];exact(r3).row _
  have s3:=zz (show Below w.heap.size w w22 by rw[hwd];exact below_row F2.out (by have:=q3.out;omega) _);clear hwd;have zd22:=F0.lt;have ze22:=s3.out.size;go_wp2_with fail
  refine((show Calls Tryz.prog _ _ _ _ from big_one▸rOf (n:=400000000000000) (d:=1) (by decide) (by decide) (by decide))).mono ?_;rintro e w23 ⟨U0,v,rfl,hv⟩;have B24:=zz U0;have z24:=B24.out.size;have V0:=zz (s3.out.trans (B24.out.mono s3.out.size));clear U0;obtain⟨C3,D3,E3,F3,G3,G0,H3,rfl,ha26,W0,hc26⟩:=hv;have R0:=zz (show QV w23 w23.heap.size (.agg #[.bool C3,.slice D3 E3 F3,.bool false,.slice G3 G0 H3]) (400000000000000:Rat) from⟨_,_,_,_,_,_,_,rfl,ha26,W0,hc26⟩);clear ha26 W0 hc26;go_upto_region 5 with (fail)
  obtain⟨w27,p0⟩:∃ w27:World,w27=(w23.alloc (.cells #[.bool C3,.slice D3 E3 F3,.bool false,.slice G3 G0 H3] 43)):=⟨_,rfl⟩;rw[← p0];have S0:=n1_0 p0;have za27:=n1_z p0;have B28:=zz (n1_b p0);have z28:=B28.out.size;have X0:=zz (V0.out.trans (B28.out.mono V0.out.size));clear p0;have P1_3_32:=zz (B24.out.trans (B28.out.mono B24.out.size));have u0:=CB.step F0 P1_3_32.out;go_wp2_with (refine wpList_load_row rfl _ _ rfl _ rfl _ _ (0,0) _ u0 rfl rfl rfl ?_)
  refine(lengths_any _ _ _).mono ?_;rintro e w33 ⟨Y0,v30,l30,rfl,hl30,hri30⟩;have B34:=zz Y0;have z34:=B34.out.size;have A0:=zz (X0.out.trans (B34.out.mono X0.out.size));clear Y0;obtain⟨r30,off30,c30,rfl,hr30,hc30⟩:=hri30.cells (by omega);rw[hl30];have d4:=zz hr30;have u3:=zz hl30;have e4:=zz hc30;clear hri30 hr30 hc30 hl30;go_wp2;have GXj:=zz (G.out.step A0.out);go_loopw [32] (fun iv wr=>∃ j:Nat,j≤5∧iv=.int .i64 j∧Hid (Below w33.heap.size w33 wr)) (fun iv _=>5-(intOf iv).toNat)
  case atStart=>exact⟨0,Nat.zero_le _,rfl,zz (Below.refl _ _)⟩
  case round=>
   obtain⟨j,hjn,rfl,HRj⟩:=hrel;obtain⟨wj,hwj⟩:∃ x:World,x=wr:=⟨_,rfl⟩;subst hwj;have zrj:=HRj.out.size;by_cases hltj:j<5
   ·have hltji:(j:Int)<5:=by omega
    have hgeji:(0:Int)≤(j:Int):=by omega
    obtain⟨N,hN⟩:∃ z,l30[j]'(by rw[u3.out];exact hltj)=z:=⟨_,rfl⟩;have qe:wj.cell? ⟨r30,off30+j,none⟩=some (.int .i64 N):=by
     rw[← hN];exact(HRj.out.cell (p:=⟨r30,off30+j,none⟩) d4.out).trans (e4.out j (by rw[u3.out];exact hltj))
    clear hN;by_cases he:erG g2 N=0
    rotate_left
    ·obtain⟨r,hr⟩:∃ r,erG g2 N=r:=⟨_,rfl⟩;rw[hr] at he;have HE:=zz hr;have g4:=zz he;have hr0:(r != 0)=true:=bne_iff_ne.2 he;have hrr:(r != r)=false:=by simp
     clear hr he;have P3_5_37:=zz (B34.out.trans (HRj.out.mono B34.out.size));have H0:=CB.step u0 P3_5_37.out;go_wp2_with (refine wpList_load_row rfl _ _ rfl _ rfl _ _ (0,0) _ H0 rfl rfl rfl ?_)
     refine(sqNo (GXj.out.step HRj.out) hs2 HE.out g4.out).mono ?_;rintro e w38 ⟨Z0,v,rfl,hv⟩;have B39:=zz Z0;have z39:=B39.out.size;have b1:=zz (HRj.out.trans (B39.out.mono HRj.out.size));clear Z0;obtain⟨n,A,l',c',m,A',l'',c'',rfl⟩:=QO.cells hv;clear hv;go_upto_region 9 with (fail)
     obtain⟨w41,q0⟩:∃ w41:World,w41=(w38.alloc (.cells #[.bool n,.slice A l' c',.bool m,.slice A' l'' c''] 43)):=⟨_,rfl⟩;rw[← q0];have b3:=n1_0 q0;have za41:=n1_z q0;have B42:=zz (n1_b q0);have z42:=B42.out.size;have C0:=zz (b1.out.trans (B42.out.mono b1.out.size));clear q0;have P5_7_45:=zz (B39.out.trans (B42.out.mono B39.out.size));have T1:=CB.step H0 P5_7_45.out;go_wp2_with (refine wpList_load_row rfl _ _ rfl _ rfl _ _ (0,0) _ T1 rfl rfl rfl ?_)
     refine(idxG (GXj.out.step C0.out) hs2 (inG_err HE.out g4.out)).mono ?_;rintro e w46 ⟨c1,rfl⟩;have B47:=zz c1;have z47:=B47.out.size;have G2:=zz (C0.out.trans (B47.out.mono C0.out.size));clear c1;go_wp2;go_roundw
     case rel=>exact⟨j+1,by omega,by go_num,zz G2.out⟩
     case measure=>simp[intOf];omega
    have HE:=zz he;have HL:=zz (erG_ok he);clear he;have P3_5_50:=zz (B34.out.trans (HRj.out.mono B34.out.size));have I0:=CB.step u0 P3_5_50.out;go_wp2_with (refine wpList_load_row rfl _ _ rfl _ rfl _ _ (0,0) _ I0 rfl rfl rfl ?_)
    refine(sqOk (GXj.out.step HRj.out) hs2 (show sqR g2 N=(some (sqG g2 N),0) from if_pos HE.out)).mono ?_;rintro e w51 ⟨d1,v,rfl,hv⟩;have B52:=zz d1;have z52:=B52.out.size;have e1:=zz (HRj.out.trans (B52.out.mono HRj.out.size));clear d1;obtain⟨J3,K3,L3,M3,N3,J0,O3,rfl,ha54,g1,hc54⟩:=hv;have U1:=zz (show QV w51 w51.heap.size (.agg #[.bool J3,.slice K3 L3 M3,.bool false,.slice N3 J0 O3]) (sqG g2 N) from⟨_,_,_,_,_,_,_,rfl,ha54,g1,hc54⟩);clear ha54 g1 hc54;go_upto_region 9 with (fail)
    obtain⟨w55,r0⟩:∃ w55:World,w55=(w51.alloc (.cells #[.bool J3,.slice K3 L3 M3,.bool false,.slice N3 J0 O3] 43)):=⟨_,rfl⟩;rw[← r0];have V1:=n1_0 r0;have za55:=n1_z r0;have B56:=zz (n1_b r0);have z56:=B56.out.size;have D0:=zz (e1.out.trans (B56.out.mono e1.out.size));clear r0;obtain⟨⟨n,f⟩,hnf⟩:∃ z,ixG g2 N=z:=⟨_,rfl⟩;have m4:=zz (show inG g2 N=(n,f) by rw[inG,if_pos HE.out,hnf]);have h4:=zz hnf;have hf06:f=0∨f=6:=by have:=ixG_snd g2 N;rw[hnf] at this;exact this
    clear hnf;have P5_7_59:=zz (B52.out.trans (B56.out.mono B52.out.size));have o0:=CB.step I0 P5_7_59.out;go_wp2_with (refine wpList_load_row rfl _ _ rfl _ rfl _ _ (0,0) _ o0 rfl rfl rfl ?_)
    refine(idxG (GXj.out.step D0.out) hs2 m4.out).mono ?_;rintro e w60 ⟨h1,rfl⟩;have B61:=zz h1;have z61:=B61.out.size;have i1:=zz (D0.out.trans (B61.out.mono D0.out.size));clear h1;have o4:=zz (show QL 600 600 (sqG g2 N) from HL.out.sq.mono (by decide) (by decide));have t3:=zz (show QL 600 600 (sqG g2 N*400000000000000) from(HL.out.sq.mul big_QL).mono (by decide) (by decide));have j0:=CB.step V1 B61.out;have W1:=j0.cell 0 rfl;have X1:=j0.cell 1 rfl;have Y1:=j0.cell 2 rfl;have Z1:=j0.cell 3 rfl;have P3:=j0.lt;go_wp2_with fail
    have P6_8_66:=zz (B56.out.trans (B61.out.mono B56.out.size));have K0:=zz (QV.step U1.out P6_8_66.out);refine(rCheck K0.out o4.out).mono ?_;rintro e w63 ⟨j1,rfl⟩;have B68:=zz j1;have z68:=B68.out.size;have l1:=zz (i1.out.trans (B68.out.mono i1.out.size));clear j1;clear W1 X1 Y1 Z1 P3;have l0:=CB.step j0 B68.out;have b2:=l0.cell 0 rfl;have c2:=l0.cell 1 rfl;have d2:=l0.cell 2 rfl;have e2:=l0.cell 3 rfl;have Q3:=l0.lt;have P3_6_74:=zz (P3_5_50.out.trans (B52.out.mono P3_5_50.out.size));have P3_7_75:=zz (P3_6_74.out.trans (B56.out.mono P3_6_74.out.size));have P3_8_76:=zz (P3_7_75.out.trans (B61.out.mono P3_7_75.out.size));have P3_9_77:=zz (P3_8_76.out.trans (B68.out.mono P3_8_76.out.size));have h0:=CB.step S0 P3_9_77.out;have h2:=h0.cell 0 rfl;have i2:=h0.cell 1 rfl;have j2:=h0.cell 2 rfl;have l2:=h0.cell 3 rfl;have R3:=h0.lt;go_wp2_with fail
    have n2:=zz (QV.step K0.out B68.out);have P2_4_80:=zz (B28.out.trans (B34.out.mono B28.out.size));have P2_5_81:=zz (P2_4_80.out.trans (HRj.out.mono P2_4_80.out.size));have P2_6_82:=zz (P2_5_81.out.trans (B52.out.mono P2_5_81.out.size));have P2_7_83:=zz (P2_6_82.out.trans (B56.out.mono P2_6_82.out.size));have P2_8_84:=zz (P2_7_83.out.trans (B61.out.mono P2_7_83.out.size));have P2_9_85:=zz (P2_8_84.out.trans (B68.out.mono P2_8_84.out.size));have T0:=zz (QV.step R0.out P2_9_85.out);refine(rMul n2.out T0.out HL.out.sq big_QL (by decide)).mono ?_;rintro e w70 ⟨n1,v,rfl,hv⟩;have B87:=zz n1;have z87:=B87.out.size;have o1:=zz (l1.out.trans (B87.out.mono l1.out.size));clear n1;clear b2 c2 d2 e2 Q3 h2 i2 j2 l2 R3;obtain⟨S3,T3,U3,V3,W3,L0,X3,rfl,ha89,p1,hc89⟩:=hv;have v0:=zz (show QV w70 w70.heap.size (.agg #[.bool S3,.slice T3 U3 V3,.bool false,.slice W3 L0 X3]) (sqG g2 N*400000000000000) from⟨_,_,_,_,_,_,_,rfl,ha89,p1,hc89⟩);clear ha89 p1 hc89;go_upto_region 16 with (fail)
    obtain⟨w90,s0⟩:∃ w90:World,w90=(w70.alloc (.cells #[.bool S3,.slice T3 U3 V3,.bool false,.slice W3 L0 X3] 43)):=⟨_,rfl⟩;rw[← s0];have b0:=n1_0 s0;have za90:=n1_z s0;have B91:=zz (n1_b s0);have z91:=B91.out.size;have k0:=zz (o1.out.trans (B91.out.mono o1.out.size));clear s0;rcases hf06 with rfl | rfl
    ·have v3:=zz (near_ok h4.out);have E0:=v3.out.2.1;have H2:=v3.out.2.2.1;obtain⟨m1,hm1⟩:∃ m,2*n-1=m:=⟨_,rfl⟩;obtain⟨m2,hm2⟩:∃ m,2*n+1=m:=⟨_,rfl⟩;obtain⟨m0,hm0⟩:∃ m,2*n=m:=⟨_,rfl⟩;have p4:=zz (show -100000000≤m1∧m1≤100000000 by omega);have q4:=zz (show -100000000≤m2∧m2≤100000000 by omega);have r4:=zz (show cmpR (Rat.divInt m1 1*Rat.divInt m1 1) (sqG g2 N*400000000000000)≤0 by rw[← hm1];exact v3.out.2.2.2.1);have Y3:=zz (show 0<cmpR (Rat.divInt m2 1*Rat.divInt m2 1) (sqG g2 N*400000000000000) by rw[← hm2];exact v3.out.2.2.2.2);have k1:decide (n<10000000)=false:=decide_eq_false (by omega);have k2:decide (40000000<n)=false:=decide_eq_false (by omega);have hw1:wrap64 (2*n)=m0:=by rw[hm0];exact IntWalk.wrap64_in _ (by omega)
     have hw2:wrap64 (m0-1)=m1:=by rw[← hm1,← hm0];exact IntWalk.wrap64_in _ (by omega)
     have hw3:wrap64 (m0+1)=m2:=by rw[← hm2,← hm0];exact IntWalk.wrap64_in _ (by omega)
     clear E0 H2 hm1 hm2 hm0;have o2:=b0.cell 0 rfl;have p2:=b0.cell 1 rfl;have q2:=b0.cell 2 rfl;have r2:=b0.cell 3 rfl;have Z3:=b0.lt;go_wp2_with fail
     have M0:=zz (QV.step v0.out B91.out);refine(below_yes M0.out t3.out p4.out r4.out).mono ?_;rintro e w93 ⟨q1,rfl⟩;have B96:=zz q1;have z96:=B96.out.size;have r1:=zz (k0.out.trans (B96.out.mono k0.out.size));clear q1;clear o2 p2 q2 r2 Z3;have n0:=CB.step b0 B96.out;have s1:=n0.cell 0 rfl;have t1:=n0.cell 1 rfl;have u1:=n0.cell 2 rfl;have v1:=n0.cell 3 rfl;have w3:=n0.lt;go_wp2_with fail
     have y1:=zz (QV.step M0.out B96.out);refine(below_not y1.out t3.out q4.out Y3.out).mono ?_;rintro e w98 ⟨z1,rfl⟩;have B102:=zz z1;have z102:=B102.out.size;have s2:=zz (r1.out.trans (B102.out.mono r1.out.size));clear z1;clear s1 t1 u1 v1 w3;go_wp2;go_roundw
     case rel=>exact⟨j+1,by omega,by go_num,zz s2.out⟩
     case measure=>simp[intOf];omega
    ·have s4:=zz (near_big (show(ixG g2 N).2=6 by rw[h4.out]));by_cases hf2:g2.f=2
     ·have hf2b:(g2.f != 2)=false:=by rw[hf2];rfl
      clear hf2;have P7_9_105:=zz (B61.out.trans (B68.out.mono B61.out.size));have P7_10_106:=zz (P7_9_105.out.trans (B87.out.mono P7_9_105.out.size));have P7_11_107:=zz (P7_10_106.out.trans (B91.out.mono P7_10_106.out.size));have A1:=CB.step o0 P7_11_107.out;have I2:w90.cell? ⟨p3,1,none⟩=some (.int .i64 g2.f):=A1.cell 1 rfl;have J2:=b0.cell 0 rfl;have K2:=b0.cell 1 rfl;have L2:=b0.cell 2 rfl;have M2:=b0.cell 3 rfl;have k4:=b0.lt;go_wp2;go_roundw
      case rel=>exact⟨j+1,by omega,by go_num,zz k0.out⟩
      case measure=>simp[intOf];omega
     ·have hf2b:(g2.f != 2)=true:=bne_iff_ne.2 hf2;have t4:=zz hf2;clear hf2;by_cases hc:cmpR (Rat.divInt 19999999 1*Rat.divInt 19999999 1) (sqG g2 N*400000000000000)≤0
      ·have HC:=zz hc;have Y3:=zz (s4.out.2 t4.out hc);clear hc;have P7_9_112:=zz (B61.out.trans (B68.out.mono B61.out.size));have P7_10_113:=zz (P7_9_112.out.trans (B87.out.mono P7_9_112.out.size));have P7_11_114:=zz (P7_10_113.out.trans (B91.out.mono P7_10_113.out.size));have B1:=CB.step o0 P7_11_114.out;have C1:w90.cell? ⟨p3,1,none⟩=some (.int .i64 g2.f):=B1.cell 1 rfl;have D1:=b0.cell 0 rfl;have E1:=b0.cell 1 rfl;have F1:=b0.cell 2 rfl;have G1:=b0.cell 3 rfl;have y3:=b0.lt;go_wp2_with fail
       have y0:=zz (QV.step v0.out B91.out);refine(below_yes (n:=19999999) y0.out t3.out (by decide) HC.out).mono ?_;rintro e w110 ⟨N0,rfl⟩;have B118:=zz N0;have z118:=B118.out.size;have O0:=zz (k0.out.trans (B118.out.mono k0.out.size));clear N0;clear C1 D1 E1 F1 G1 y3;have i0:=CB.step b0 B118.out;have H1:=i0.cell 0 rfl;have I1:=i0.cell 1 rfl;have J1:=i0.cell 2 rfl;have K1:=i0.cell 3 rfl;have z3:=i0.lt;go_wp2_with fail
       have L1:=zz (QV.step y0.out B118.out);refine(below_yes (n:=80000001) L1.out t3.out (by decide) Y3.out).mono ?_;rintro e w120 ⟨P0,rfl⟩;have B124:=zz P0;have z124:=B124.out.size;have t2:=zz (O0.out.trans (B124.out.mono O0.out.size));clear P0;clear H1 I1 J1 K1 z3;go_wp2;go_roundw
       case rel=>exact⟨j+1,by omega,by go_num,zz t2.out⟩
       case measure=>simp[intOf];omega
      ·have HC:=zz (Int.not_le.1 hc);clear hc;have P7_9_128:=zz (B61.out.trans (B68.out.mono B61.out.size));have P7_10_129:=zz (P7_9_128.out.trans (B87.out.mono P7_9_128.out.size));have P7_11_130:=zz (P7_10_129.out.trans (B91.out.mono P7_10_129.out.size));have M1:=CB.step o0 P7_11_130.out;have N1:w90.cell? ⟨p3,1,none⟩=some (.int .i64 g2.f):=M1.cell 1 rfl;have O1:=b0.cell 0 rfl;have P1:=b0.cell 1 rfl;have Q1:=b0.cell 2 rfl;have R1:=b0.cell 3 rfl;have A3:=b0.lt;go_wp2_with fail
       have S1:=zz (QV.step v0.out B91.out);refine(below_not (n:=19999999) S1.out t3.out (by decide) HC.out).mono ?_;rintro e w126 ⟨Q0,rfl⟩;have B134:=zz Q0;have z134:=B134.out.size;have u2:=zz (k0.out.trans (B134.out.mono k0.out.size));clear Q0;clear N1 O1 P1 Q1 R1 A3;go_wp2;go_roundw
       case rel=>exact⟨j+1,by omega,by go_num,zz u2.out⟩
       case measure=>simp[intOf];omega
   ·obtain rfl:j=5:=by omega
    rw[show((5:Nat):Int)=5 from rfl];go_wp2;go_ret;exact⟨(A0.out.trans ((HRj.out).mono A0.out.size)),rfl⟩
end Go.Proofs.YtkhljkiehohckaaGreatDoor
