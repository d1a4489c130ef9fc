/- The law GlassChecks (written by gen_gchk.py). -/
import Derived.Test.YtkhljkiehohckaaGreatDoorGw
import Derived.Test.YtkhljkiehohckaaGreatDoorGm
import Derived.Test.YtkhljkiehohckaaGreatDoorGX
import Derived.Test.YtkhljkiehohckaaGreatDoorGf
import Derived.Test.YtkhljkiehohckaaGreatDoorGq
namespace Go.Proofs.YtkhljkiehohckaaGreatDoor
open Go Go.RowKit Dig
theorem idxG3 (g0 g1 g2:GL) (h0:g0.nm.size≤1000) (h1:g1.nm.size≤1000) (h2:g2.nm.size≤1000) (j:Nat) (h:j<3) :
  ∃ x:GL,x.nm.size≤1000∧∀ w,(Instr.index 35 (.agg #[.string g0.nm,.int .i64 g0.f,.int .i64 g0.c0,.int .i64 g0.c1,.int .i64 g0.c2,.int .i64 g0.c3,.int .i64 g0.c4,.int .i64 g0.c5,.int .i64 g0.lo,.int .i64 g0.hi,.string g1.nm,.int .i64 g1.f,.int .i64 g1.c0,.int .i64 g1.c1,.int .i64 g1.c2,.int .i64 g1.c3,.int .i64 g1.c4,.int .i64 g1.c5,.int .i64 g1.lo,.int .i64 g1.hi,.string g2.nm,.int .i64 g2.f,.int .i64 g2.c0,.int .i64 g2.c1,.int .i64 g2.c2,.int .i64 g2.c3,.int .i64 g2.c4,.int .i64 g2.c5,.int .i64 g2.lo,.int .i64 g2.hi]) (.int .i64 (j:Int))).run Tryz.prog w=.ok (.agg (GC x)) w:=by
 match j,h with
 | 0,_=>exact⟨g0,h0,fun _=>by kernel_rfl⟩
 | 1,_=>exact⟨g1,h1,fun _=>by kernel_rfl⟩
 | 2,_=>exact⟨g2,h2,fun _=>by kernel_rfl⟩
theorem chkL {w:World} {g:GL} {c:Int} (hs:g.nm.size≤1000) (h:(if okG g then (0:Int) else 90)=c) :
  Calls Tryz.prog 14 #[.agg (GC g)] w fun e w'=>Below w.heap.size w w'∧e=.returned (.int .i64 c):=by subst h;exact Check_G w g hs
theorem rchkL {w:World} {g:GL} {c:Int} (hs:g.nm.size≤1000) (h:(if okG g then (0:Int) else 90)=c) :
  Calls Tryz.prog 15 #[.agg (GC g)] w fun e w'=>Below w.heap.size w w'∧e=.returned (.int .i64 c):=by subst h;exact RCheck_G w g hs
theorem sqAny {w:World} (G:GF w) {g:GL} {L r:Int} {o:Option Rat} (hs:g.nm.size≤1000) (h:sqR g L=(o,r)) :
  Calls Tryz.prog 17 #[.agg (GC g),.int .i64 L] w fun e w'=>Below w.heap.size w w'∧∃ v,e=.returned (.tuple #[v,.int .i64 r])∧QO w' w'.heap.size v o:=by
 have k:=Square_G w G g L hs;rw[h] at k;exact k
theorem rsqAny {w:World} {g:GL} {L r:Int} {o:Option Rat} (hs:g.nm.size≤1000) (h:sqR g L=(o,r)) :
  Calls Tryz.prog 18 #[.agg (GC g),.int .i64 L] w fun e w'=>Below w.heap.size w w'∧∃ v,e=.returned (.tuple #[v,.int .i64 r])∧QO w' w'.heap.size v o:=by
 have k:=RSquare_G w g L hs;rw[h] at k;exact k
theorem namL {w:World} {s:ByteArray} {b:Bool} (hs:s.size≤1000) (h:nmB s=b) :
  Calls Tryz.prog 20 #[.string s] w fun e w'=>Below w.heap.size w w'∧e=.returned (.bool b):=by subst h;exact Name_any w s hs
theorem rnamL {w:World} {s:ByteArray} {b:Bool} (hs:s.size≤1000) (h:nmB s=b) :
  Calls Tryz.prog 21 #[.string s] w fun e w'=>Below w.heap.size w w'∧e=.returned (.bool b):=by subst h;exact RName_any w s hs
set_option linter.unusedVariables false in
set_option maxRecDepth 100000 in
set_option maxHeartbeats 8000000 in
theorem GlassChecks_any (w:World) (G:GF w) (d:DR) (hd:d.wf) (what ix bn:Int) (tx:ByteArray) (what' ix' bn':Int) (tx':ByteArray) (hwx:0≤what∧what≤255) (hix:0≤ix∧ix≤255) (htx:tx.size≤maxLen) (hwx':0≤what'∧what'≤255) (hix':0≤ix'∧ix'≤255) (htx':tx'.size≤maxLen) (nm0:ByteArray) (hnm0:nm0.size≤maxLen) (len:Int) (hlen:-9223372036854775808≤len∧len≤9223372036854775807) :
  Calls Tryz.prog 3 #[.agg #[.int .u8 d.f,.int .i8 d.a0,.int .i8 d.a1,.int .i8 d.a2,.int .i8 d.a3,.int .i8 d.a4,.int .i8 d.a5,.int .u8 d.nm,.int .u8 d.lo,.int .u8 d.wd],.agg #[.int .u8 what,.int .u8 ix,.int .i64 bn,.string tx,.int .u8 what',.int .u8 ix',.int .i64 bn',.string tx'],.string nm0,.int .i64 len] w fun e w'=>Below w.heap.size w w'∧e=.returned (.bool true):=by
 replace G:=zz G;have u3:=zz hnm0;unfold maxLen at hnm0;have hm0:0≤min (↑nm0.size) (40:Int):=by omega
 have hm1:min (↑nm0.size) (40:Int)≤↑nm0.size:=by omega
 have HS:=zz (show(nm0.extract 0 (min (nm0.size:Int) 40).toNat).size≤1000 by rw[ByteArray.size_extract];omega);obtain⟨b0,F1⟩:∃ b,nmB (nm0.extract 0 (min (nm0.size:Int) 40).toNat)=b:=⟨_,rfl⟩;have G1:=zz F1;clear F1;have hbb:(b0==b0)=true:=by simp
 obtain⟨w0,hw0⟩:∃ w0:World,w0=((w.alloc (.cells #[.int .u8 d.f,.int .i8 d.a0,.int .i8 d.a1,.int .i8 d.a2,.int .i8 d.a3,.int .i8 d.a4,.int .i8 d.a5,.int .u8 d.nm,.int .u8 d.lo,.int .u8 d.wd] 25)).alloc (.cells #[.int .u8 what,.int .u8 ix,.int .i64 bn,.string tx,.int .u8 what',.int .u8 ix',.int .i64 bn',.string tx'] 28)):=⟨_,rfl⟩;have B0:=zz (n2_b hw0);have z0:=n2_z hw0;have Ld:=n2_0 hw0;have Lb:=n2_1 hw0;go_enter Tryz.func3,Tryz.ntmps3
 go_upto_region 1 with (fail)
 rw[← hw0];clear hw0;go_wp2_with fail
 refine(wakes_any _ (G.out.step B0.out)).mono ?_;rintro e w1 ⟨H1,rfl⟩;have B2:=zz H1;have z2:=B2.out.size;have I1:=zz (B0.out.trans (B2.out.mono B0.out.size));clear H1;go_upto_region 4 with (fail)
 clear hm0 hm1 hnm0;have i0:=CB.step Ld B2.out;have L1:=i0.cell 0 rfl;have M1:=i0.cell 1 rfl;have N1:=i0.cell 2 rfl;have O1:=i0.cell 3 rfl;have P1:=i0.cell 4 rfl;have Q1:=i0.cell 5 rfl;have R1:=i0.cell 6 rfl;have S1:=i0.cell 7 rfl;have T1:=i0.cell 8 rfl;have U1:=i0.cell 9 rfl;have X2:=i0.lt;go_wp2_with fail
 refine(DGlass_any _ d hd).mono ?_;rintro e w4 ⟨J1,rfl⟩;have B7:=zz J1;have z7:=B7.out.size;have K1:=zz (I1.out.trans (B7.out.mono I1.out.size));clear J1;clear L1 M1 N1 O1 P1 Q1 R1 S1 T1 U1 X2;obtain⟨g0,hg0⟩:∃ x,drG d=x:=⟨_,rfl⟩;rw[hg0];have hs0:g0.nm.size≤1000:=(by rw[← hg0,drG_nm hd];decide);have w3:=zz hg0;clear hg0;go_upto_region 5 with (refine wpList_store_row rfl _ _ _ rfl _ _ rfl rfl _ _ (CB.new _ _ _) rfl rfl (by kernel_rfl) ?_)
 (try simp only[Act.put])
 obtain⟨w9,hwd⟩:∃ nw:World,nw=(w4.alloc (.cells #[.string ⟨#[]⟩,.int .i64 0,.int .i64 0,.int .i64 0,.int .i64 0,.int .i64 0,.int .i64 0,.int .i64 0,.int .i64 0,.int .i64 0] 32)).setRow w4.heap.size (GC g0):=⟨_,rfl⟩;rw[← hwd];have q0:CB w9 w4.heap.size 32 (GC g0):=by rw[hwd];exact(CB.new _ _ _).row _
 have zd9:=q0.lt;have hbd:Below w4.heap.size w4 w9:=by rw[hwd];exact below_row ((Below.refl _ _).alloc (Nat.le_refl _) _) (Nat.le_refl _) _
 have B10:=zz hbd;have z10:=B10.out.size;have A0:=zz (K1.out.trans (B10.out.mono K1.out.size));clear hbd hwd;have P1_3_13:=zz (B2.out.trans (B7.out.mono B2.out.size));have P1_4_14:=zz (P1_3_13.out.trans (B10.out.mono P1_3_13.out.size));have h0:=CB.step Lb P1_4_14.out;have S0:=h0.cell 0 rfl;have T0:=h0.cell 1 rfl;have U0:=h0.cell 2 rfl;have V0:=h0.cell 3 rfl;have W0:=h0.cell 4 rfl;have X0:=h0.cell 5 rfl;have Y0:=h0.cell 6 rfl;have Z0:=h0.cell 7 rfl;have T2:=h0.lt;go_wp2_with (refine wpList_load_row rfl _ _ rfl _ rfl _ _ (0,0) _ q0 rfl rfl rfl ?_)
 refine(Bend_any _ what ix bn tx g0 hwx hix htx hs0).mono ?_;rintro e w16 ⟨C0,g1,hs1,rfl⟩;have B17:=zz C0;have z17:=B17.out.size;have D0:=zz (A0.out.trans (B17.out.mono A0.out.size));clear C0;clear S0 T0 U0 V0 W0 X0 Y0 Z0 T2;go_upto_region 6 with (refine wpList_store_row rfl _ _ _ rfl _ _ rfl rfl _ _ (CB.new _ _ _) rfl rfl (by kernel_rfl) ?_)
 (try simp only[Act.put])
 obtain⟨w19,hwd⟩:∃ nw:World,nw=(w16.alloc (.cells #[.string ⟨#[]⟩,.int .i64 0,.int .i64 0,.int .i64 0,.int .i64 0,.int .i64 0,.int .i64 0,.int .i64 0,.int .i64 0,.int .i64 0] 32)).setRow w16.heap.size (GC g1):=⟨_,rfl⟩;rw[← hwd];have l0:CB w19 w16.heap.size 32 (GC g1):=by rw[hwd];exact(CB.new _ _ _).row _
 have zd19:=l0.lt;have hbd:Below w16.heap.size w16 w19:=by rw[hwd];exact below_row ((Below.refl _ _).alloc (Nat.le_refl _) _) (Nat.le_refl _) _
 have B20:=zz hbd;have z20:=B20.out.size;have E0:=zz (D0.out.trans (B20.out.mono D0.out.size));clear hbd hwd;refine Flow.run [⟨0,32,fun fv fw=>fv=.agg (GC g0)⟩,⟨1,33,fun fv fw=>fv=.agg (GC g1)⟩,⟨2,34,fun fv fw=>fv=.pointer (some ⟨w.heap.size+1,4,none⟩)⟩,⟨3,35,fun fv fw=>fv=.agg #[.int .u8 what',.int .u8 ix',.int .i64 bn',.string tx']⟩,⟨4,36,fun fv fw=>fv=.agg (GC g1)⟩,⟨5,37,fun fv fw=>∃ g2:GL,g2.nm.size≤1000∧fv=.agg (GC g2)⟩,⟨6,38,fun fv fw=>∃ g2:GL,g2.nm.size≤1000∧fv=.agg #[.string g0.nm,.int .i64 g0.f,.int .i64 g0.c0,.int .i64 g0.c1,.int .i64 g0.c2,.int .i64 g0.c3,.int .i64 g0.c4,.int .i64 g0.c5,.int .i64 g0.lo,.int .i64 g0.hi,.string g1.nm,.int .i64 g1.f,.int .i64 g1.c0,.int .i64 g1.c1,.int .i64 g1.c2,.int .i64 g1.c3,.int .i64 g1.c4,.int .i64 g1.c5,.int .i64 g1.lo,.int .i64 g1.hi,.string g2.nm,.int .i64 g2.f,.int .i64 g2.c0,.int .i64 g2.c1,.int .i64 g2.c2,.int .i64 g2.c3,.int .i64 g2.c4,.int .i64 g2.c5,.int .i64 g2.lo,.int .i64 g2.hi]⟩,⟨7,39,fun fv fw=>fv=.int .i64 0⟩] [] [] 0 (by kernel_rfl) (by kernel_rfl) (by kernel_rfl) (fun _ _ _ _ _ h=>h) ?_ ?_ ?_ ?_
 ·refine(a0 (a0 (a0 (a0 (a0 (a0 (a0 (a0 all_nil))))))))
 ·refine(all_cons ?_ (all_cons ?_ (all_cons ?_ (all_cons ?_ (all_cons ?_ (all_cons ?_ (all_cons ?_ (all_cons ?_ all_nil))))))))
  ·intro xs p2 d0 e0;have b1:=zz d0;have q2:=d0.size;clear d0;clear e0;refine wpOp_step (o:=_) rfl (fun K hK=>?_);simp only[FL]
   rw[if_pos (show Region.wanted _ _=true from rfl)];have P4_6_24:=zz (B17.out.trans (B20.out.mono B17.out.size));have P4_7_25:=zz (P4_6_24.out.trans (b1.out.mono P4_6_24.out.size));have d1:=CB.step q0 P4_7_25.out;refine wp_load_row _ _ rfl _ rfl _ _ (0,0) _ d1 rfl rfl rfl ?_;refine hK _ _ ⟨.agg (GC g0),by kernel_rfl,Below.refl _ _,rfl,nF⟩
  ·intro xs r2 d0 e0;have e1:=zz d0;have s2:=d0.size;clear d0;clear e0;refine wpOp_step (o:=_) rfl (fun K hK=>?_);simp only[FL]
   rw[if_pos (show Region.wanted _ _=true from rfl)];have v0:=CB.step l0 e1.out;refine wp_load_row _ _ rfl _ rfl _ _ (0,0) _ v0 rfl rfl rfl ?_;refine hK _ _ ⟨.agg (GC g1),by kernel_rfl,Below.refl _ _,rfl,nF⟩
  ·intro xs t2 d0 e0;clear d0;clear e0;refine wpOp_step (o:=_) rfl (fun K hK=>?_);simp only[FL]
   go_simp;refine hK _ _ ⟨.pointer (some ⟨w.heap.size+1,4,none⟩),by kernel_rfl,Below.refl _ _,rfl,nF⟩
  ·intro xs v2 d0 e0;have h1:=zz d0;have w2:=d0.size;clear d0;have f2:(xs 2)=.pointer (some ⟨w.heap.size+1,4,none⟩):=e0 _ (m_ 2 rfl) (by kernel_rfl);clear e0;refine wpOp_step (o:=_) rfl (fun K hK=>?_);simp only[FL]
   have P4_6_31:=zz (B17.out.trans (B20.out.mono B17.out.size));have P4_7_32:=zz (P4_6_31.out.trans (h1.out.mono P4_6_31.out.size));have m0:=CB.step h0 P4_7_32.out;have d2:=m0.cell 4 rfl;have e2:=m0.cell 5 rfl;have h2:=m0.cell 6 rfl;have i2:=m0.cell 7 rfl;go_simp;refine hK _ _ ⟨.agg #[.int .u8 what',.int .u8 ix',.int .i64 bn',.string tx'],by simp only[FL,f2] <;> kernel_rfl,Below.refl _ _,rfl,nF⟩
  ·intro xs y2 d0 e0;have i1:=zz d0;have A2:=d0.size;clear d0;clear e0;refine wpOp_step (o:=_) rfl (fun K hK=>?_);simp only[FL]
   rw[if_pos (show Region.wanted _ _=true from rfl)];have y0:=CB.step l0 i1.out;refine wp_load_row _ _ rfl _ rfl _ _ (0,0) _ y0 rfl rfl rfl ?_;refine hK _ _ ⟨.agg (GC g1),by kernel_rfl,Below.refl _ _,rfl,nF⟩
  ·intro xs C2 d0 e0;clear d0;have f3:(xs 3)=.agg #[.int .u8 what',.int .u8 ix',.int .i64 bn',.string tx']:=e0 _ (m_ 3 rfl) (by kernel_rfl);have f4:(xs 4)=.agg (GC g1):=e0 _ (m_ 4 rfl) (by kernel_rfl);clear e0;refine wpOp_step (o:=_) rfl (fun K hK=>?_);simp only[FL]
   go_simp;(with_reducible refine(Bend_any _ what' ix' bn' tx' _ hwx' hix' htx' hs1).mono ?_)
   rintro e wc37 ⟨V1,g37,hs37,rfl⟩;refine hK _ _ ⟨.agg (GC g37),by simp only[FL,f3,f4] <;> kernel_rfl,V1,⟨g37,hs37,rfl⟩,nF⟩
  ·intro xs E2 d0 e0;clear d0;have f0:(xs 0)=.agg (GC g0):=e0 _ (m_ 0 rfl) (by kernel_rfl);have f1:(xs 1)=.agg (GC g1):=e0 _ (m_ 1 rfl) (by kernel_rfl);have f5:∃ g2:GL,g2.nm.size≤1000∧(xs 5)=.agg (GC g2):=e0 _ (m_ 5 rfl) (by kernel_rfl);clear e0;refine wpOp_step (o:=_) rfl (fun K hK=>?_);simp only[FL]
   obtain⟨g2,hs2,hx2⟩:=f5;simp only[GC] at f0 f1 hx2;rw[f0,f1,hx2];go_simp;refine hK _ _ ⟨.agg #[.string g0.nm,.int .i64 g0.f,.int .i64 g0.c0,.int .i64 g0.c1,.int .i64 g0.c2,.int .i64 g0.c3,.int .i64 g0.c4,.int .i64 g0.c5,.int .i64 g0.lo,.int .i64 g0.hi,.string g1.nm,.int .i64 g1.f,.int .i64 g1.c0,.int .i64 g1.c1,.int .i64 g1.c2,.int .i64 g1.c3,.int .i64 g1.c4,.int .i64 g1.c5,.int .i64 g1.lo,.int .i64 g1.hi,.string g2.nm,.int .i64 g2.f,.int .i64 g2.c0,.int .i64 g2.c1,.int .i64 g2.c2,.int .i64 g2.c3,.int .i64 g2.c4,.int .i64 g2.c5,.int .i64 g2.lo,.int .i64 g2.hi],by simp only[FL,f0,f1,hx2] <;> kernel_rfl,Below.refl _ _,⟨g2,hs2,rfl⟩,nF⟩
  ·intro xs G2 d0 e0;clear d0;clear e0;refine wpOp_step (o:=_) rfl (fun K hK=>?_);simp only[FL]
   go_simp;refine hK _ _ ⟨.int .i64 0,by kernel_rfl,Below.refl _ _,rfl,nF⟩
 ·exact all_nil
 ·intro xs U2 hbf hf hn hd;have f0:(xs 0)=.agg (GC g0):=hf _ (m_ 0 rfl);have f1:(xs 1)=.agg (GC g1):=hf _ (m_ 1 rfl);have f2:(xs 2)=.pointer (some ⟨w.heap.size+1,4,none⟩):=hf _ (m_ 2 rfl);have f3:(xs 3)=.agg #[.int .u8 what',.int .u8 ix',.int .i64 bn',.string tx']:=hf _ (m_ 3 rfl);have f4:(xs 4)=.agg (GC g1):=hf _ (m_ 4 rfl);have f5:∃ g2:GL,g2.nm.size≤1000∧(xs 5)=.agg (GC g2):=hf _ (m_ 5 rfl);have f6:∃ g2:GL,g2.nm.size≤1000∧(xs 6)=.agg #[.string g0.nm,.int .i64 g0.f,.int .i64 g0.c0,.int .i64 g0.c1,.int .i64 g0.c2,.int .i64 g0.c3,.int .i64 g0.c4,.int .i64 g0.c5,.int .i64 g0.lo,.int .i64 g0.hi,.string g1.nm,.int .i64 g1.f,.int .i64 g1.c0,.int .i64 g1.c1,.int .i64 g1.c2,.int .i64 g1.c3,.int .i64 g1.c4,.int .i64 g1.c5,.int .i64 g1.lo,.int .i64 g1.hi,.string g2.nm,.int .i64 g2.f,.int .i64 g2.c0,.int .i64 g2.c1,.int .i64 g2.c2,.int .i64 g2.c3,.int .i64 g2.c4,.int .i64 g2.c5,.int .i64 g2.lo,.int .i64 g2.hi]:=hf _ (m_ 6 rfl);have f7:(xs 7)=.int .i64 0:=hf _ (m_ 7 rfl);clear hf hn hd;simp only[FL]
  have B41:=zz hbf;have z41:=B41.out.size;have r0:=zz (E0.out.trans (B41.out.mono E0.out.size));clear hbf;generalize xs 0=x0,xs 1=x1,xs 2=x2,xs 3=x3,xs 4=x4,xs 5=x5,xs 6=x6,xs 7=x7 at *
  obtain rfl:=f0;obtain rfl:=f1;obtain rfl:=f2;obtain rfl:=f3;obtain rfl:=f4;clear f5;obtain⟨g2,hs2,rfl⟩:=f6;obtain rfl:=f7;refine Early.done (by kernel_rfl) ?_ _;(try simp only[Exit.then])
  go_wp2;have GXk:=zz (G.out.step r0.out);go_loopw [39] (fun iv wr=>∃ k:Nat,k≤3∧iv=.int .i64 k∧Hid (Below U2.heap.size U2 wr)) (fun iv _=>3-(intOf iv).toNat)
  case atStart=>exact⟨0,Nat.zero_le _,rfl,zz (Below.refl _ _)⟩
  case round=>
   obtain⟨k,hkn,rfl,HRk⟩:=hrel;obtain⟨wk,hwk⟩:∃ x:World,x=wr:=⟨_,rfl⟩;subst hwk;have zrk:=HRk.out.size;by_cases hltk:k<3
   ·have hltki:(k:Int)<3:=by omega
    have hgeki:(0:Int)≤(k:Int):=by omega
    obtain⟨x,hsx,hidx⟩:=idxG3 g0 g1 g2 hs0 hs1 hs2 k hltk;go_upto_region 9 with (refine wpList_store_row rfl _ _ _ rfl _ _ rfl rfl _ _ (CB.new _ _ _) rfl rfl (by kernel_rfl) ?_)
    (try simp only[Act.put])
    obtain⟨w43,hwd⟩:∃ nw:World,nw=(wk.alloc (.cells #[.string ⟨#[]⟩,.int .i64 0,.int .i64 0,.int .i64 0,.int .i64 0,.int .i64 0,.int .i64 0,.int .i64 0,.int .i64 0,.int .i64 0] 32)).setRow wk.heap.size (GC x):=⟨_,rfl⟩;rw[← hwd];have n0:CB w43 wk.heap.size 32 (GC x):=by rw[hwd];exact(CB.new _ _ _).row _
    have zd43:=n0.lt;have hbd:Below wk.heap.size wk w43:=by rw[hwd];exact below_row ((Below.refl _ _).alloc (Nat.le_refl _) _) (Nat.le_refl _) _
    have B44:=zz hbd;have z44:=B44.out.size;have F0:=zz (HRk.out.trans (B44.out.mono HRk.out.size));clear hbd hwd;clear hidx;obtain⟨c,hc⟩:∃ c,(if okG x then (0:Int) else 90)=c:=⟨_,rfl⟩;have HC:=zz hc;clear hc;have hcc:(c != c)=false:=by simp
    refine Flow.run [⟨0,42,fun fv fw=>fv=.agg (GC x)⟩,⟨1,43,fun fv fw=>fv=.int .i64 c⟩,⟨2,44,fun fv fw=>fv=.agg (GC x)⟩,⟨3,45,fun fv fw=>fv=.int .i64 c⟩,⟨4,46,fun fv fw=>fv=.bool false⟩] [] [] 0 (by kernel_rfl) (by kernel_rfl) (by kernel_rfl) (fun _ _ _ _ _ h=>h) ?_ ?_ ?_ ?_
    ·refine(a0 (a0 (a0 (a0 (a0 all_nil)))))
    ·refine(all_cons ?_ (all_cons ?_ (all_cons ?_ (all_cons ?_ (all_cons ?_ all_nil)))))
     ·intro xs I2 d0 e0;have j1:=zz d0;have J2:=d0.size;clear d0;clear e0;refine wpOp_step (o:=_) rfl (fun K hK=>?_);simp only[FL]
      rw[if_pos (show Region.wanted _ _=true from rfl)];have k1:=CB.step n0 j1.out;refine wp_load_row _ _ rfl _ rfl _ _ (0,0) _ k1 rfl rfl rfl ?_;refine hK _ _ ⟨.agg (GC x),by kernel_rfl,Below.refl _ _,rfl,nF⟩
     ·intro xs K2 d0 e0;have m2:=zz d0;have L2:=d0.size;clear d0;have f0:(xs 0)=.agg (GC x):=e0 _ (m_ 0 rfl) (by kernel_rfl);clear e0;refine wpOp_step (o:=_) rfl (fun K hK=>?_);simp only[FL]
      go_simp;(with_reducible refine(chkL hsx HC.out).mono ?_)
      rintro e wc49 ⟨W1,rfl⟩;refine hK _ _ ⟨.int .i64 c,by simp only[FL,f0] <;> kernel_rfl,W1,rfl,nF⟩
     ·intro xs M2 d0 e0;have l1:=zz d0;have N2:=d0.size;clear d0;clear e0;refine wpOp_step (o:=_) rfl (fun K hK=>?_);simp only[FL]
      rw[if_pos (show Region.wanted _ _=true from rfl)];have m1:=CB.step n0 l1.out;refine wp_load_row _ _ rfl _ rfl _ _ (0,0) _ m1 rfl rfl rfl ?_;refine hK _ _ ⟨.agg (GC x),by kernel_rfl,Below.refl _ _,rfl,nF⟩
     ·intro xs O2 d0 e0;have n2:=zz d0;have P2:=d0.size;clear d0;have f2:(xs 2)=.agg (GC x):=e0 _ (m_ 2 rfl) (by kernel_rfl);clear e0;refine wpOp_step (o:=_) rfl (fun K hK=>?_);simp only[FL]
      go_simp;(with_reducible refine(rchkL hsx HC.out).mono ?_)
      rintro e wc53 ⟨X1,rfl⟩;refine hK _ _ ⟨.int .i64 c,by simp only[FL,f2] <;> kernel_rfl,X1,rfl,nF⟩
     ·intro xs Q2 d0 e0;have o2:=zz d0;have R2:=d0.size;clear d0;have f1:(xs 1)=.int .i64 c:=e0 _ (m_ 1 rfl) (by kernel_rfl);have f3:(xs 3)=.int .i64 c:=e0 _ (m_ 3 rfl) (by kernel_rfl);clear e0;refine wpOp_step (o:=_) rfl (fun K hK=>?_);simp only[FL]
      go_simp;refine hK _ _ ⟨.bool false,by simp only[FL,f1,f3] <;> kernel_rfl,Below.refl _ _,rfl,nF⟩
    ·exact all_nil
    ·intro xs v3 hbf hf hn hd;have f0:(xs 0)=.agg (GC x):=hf _ (m_ 0 rfl);have f1:(xs 1)=.int .i64 c:=hf _ (m_ 1 rfl);have f2:(xs 2)=.agg (GC x):=hf _ (m_ 2 rfl);have f3:(xs 3)=.int .i64 c:=hf _ (m_ 3 rfl);have f4:(xs 4)=.bool false:=hf _ (m_ 4 rfl);clear hf hn hd;simp only[FL]
     have B56:=zz hbf;have z56:=B56.out.size;have G0:=zz (F0.out.trans (B56.out.mono F0.out.size));clear hbf;generalize xs 0=x0,xs 1=x1,xs 2=x2,xs 3=x3,xs 4=x4 at *
     obtain rfl:=f0;obtain rfl:=f1;obtain rfl:=f2;obtain rfl:=f3;obtain rfl:=f4;refine Early.done (by kernel_rfl) ?_ _;(try simp only[Exit.then])
     have t0:=CB.step n0 B56.out;go_wp2_with (refine wpList_load_row rfl _ _ rfl _ rfl _ _ (0,0) _ t0 rfl rfl rfl ?_)
     refine(lengths_any _ _ _).mono ?_;rintro e w60 ⟨H0,v58,l58,rfl,hl58,hri58⟩;have B61:=zz H0;have z61:=B61.out.size;have s0:=zz (G0.out.trans (B61.out.mono G0.out.size));clear H0;obtain⟨r58,off58,c58,rfl,hr58,hc58⟩:=hri58.cells (by omega);rw[hl58];have Y2:=zz hr58;have S2:=zz hl58;have Z2:=zz hc58;clear hri58 hr58 hc58 hl58;go_wp2;have GXj:=zz (GXk.out.step s0.out);go_loopw [51] (fun iv wr=>∃ j:Nat,j≤5∧iv=.int .i64 j∧Hid (Below w60.heap.size w60 wr)) (fun iv _=>5-(intOf iv).toNat)
     case atStart=>exact⟨0,Nat.zero_le _,rfl,zz (Below.refl _ _)⟩
     case round=>
      obtain⟨j,hjn,rfl,HRj⟩:=hrel;obtain⟨wj,hwj⟩:∃ x:World,x=wr:=⟨_,rfl⟩;subst hwj;have zrj:=HRj.out.size;by_cases hltj:j<5
      ·have hltji:(j:Int)<5:=by omega
       have hgeji:(0:Int)≤(j:Int):=by omega
       obtain⟨N,hN⟩:∃ z,l58[j]'(by rw[S2.out];exact hltj)=z:=⟨_,rfl⟩;have qe:wj.cell? ⟨r58,off58+j,none⟩=some (.int .i64 N):=by
        rw[← hN];exact(HRj.out.cell (p:=⟨r58,off58+j,none⟩) Y2.out).trans (Z2.out j (by rw[S2.out];exact hltj))
       clear hN;obtain⟨⟨o,r⟩,har⟩:∃ p,sqR x N=p:=⟨_,rfl⟩;have b3:=zz har;clear har;have hrr:(r != r)=false:=by simp
       have P10_12_64:=zz (B61.out.trans (HRj.out.mono B61.out.size));have u0:=CB.step t0 P10_12_64.out;go_wp2_with (refine wpList_load_row rfl _ _ rfl _ rfl _ _ (0,0) _ u0 rfl rfl rfl ?_)
       refine(sqAny (GXj.out.step HRj.out) hsx b3.out).mono ?_;rintro e w65 ⟨I0,v,rfl,hv⟩;have B66:=zz I0;have z66:=B66.out.size;have J0:=zz (HRj.out.trans (B66.out.mono HRj.out.size));clear I0;have hg68:=hv;obtain⟨d3,e3,g3,h3,i3,j3,n1,k3,rfl⟩:=QO.cells hg68;have o1:=zz hg68;clear hg68;go_upto_region 15 with (fail)
       obtain⟨w69,o0⟩:∃ w69:World,w69=(w65.alloc (.cells #[.bool d3,.slice e3 g3 h3,.bool i3,.slice j3 n1 k3] 43)):=⟨_,rfl⟩;rw[← o0];have p1:=n1_0 o0;have za69:=n1_z o0;have B70:=zz (n1_b o0);have z70:=B70.out.size;have K0:=zz (J0.out.trans (B70.out.mono J0.out.size));clear o0;have P12_14_73:=zz (B66.out.trans (B70.out.mono B66.out.size));have q1:=CB.step u0 P12_14_73.out;go_wp2_with (refine wpList_load_row rfl _ _ rfl _ rfl _ _ (0,0) _ q1 rfl rfl rfl ?_)
       refine(rsqAny hsx b3.out).mono ?_;rintro e w74 ⟨L0,v,rfl,hv⟩;have B75:=zz L0;have z75:=B75.out.size;have M0:=zz (K0.out.trans (B75.out.mono K0.out.size));clear L0;have hg77:=hv;obtain⟨l3,m3,n3,o3,p3,q3,r1,r3,rfl⟩:=QO.cells hg77;have s1:=zz hg77;clear hg77;go_upto_region 16 with (fail)
       obtain⟨w78,p0⟩:∃ w78:World,w78=(w74.alloc (.cells #[.bool l3,.slice m3 n3 o3,.bool p3,.slice q3 r1 r3] 43)):=⟨_,rfl⟩;rw[← p0];have j0:=n1_0 p0;have za78:=n1_z p0;have B79:=zz (n1_b p0);have z79:=B79.out.size;have N0:=zz (M0.out.trans (B79.out.mono M0.out.size));clear p0;have P14_16_83:=zz (B75.out.trans (B79.out.mono B75.out.size));have k0:=CB.step p1 P14_16_83.out;have t1:=k0.cell 0 rfl;have u1:=k0.cell 1 rfl;have v1:=k0.cell 2 rfl;have y1:=k0.cell 3 rfl;have V2:=k0.lt;have z1:=j0.cell 0 rfl;have A1:=j0.cell 1 rfl;have B1:=j0.cell 2 rfl;have C1:=j0.cell 3 rfl;have W2:=j0.lt;go_wp2_with fail
       have P13_15_86:=zz (B70.out.trans (B75.out.mono B70.out.size));have P13_16_87:=zz (P13_15_86.out.trans (B79.out.mono P13_15_86.out.size));have D1:=zz (QO.step o1.out P13_16_87.out);have E1:=zz (QO.step s1.out B79.out);refine(sameO D1.out E1.out).mono ?_;rintro e w81 ⟨O0,rfl⟩;have B90:=zz O0;have z90:=B90.out.size;have Y1:=zz (N0.out.trans (B90.out.mono N0.out.size));clear O0;clear t1 u1 v1 y1 V2 z1 A1 B1 C1 W2;go_wp2;go_roundw
       case rel=>exact⟨j+1,by omega,by go_num,zz Y1.out⟩
       case measure=>simp[intOf];omega
      ·obtain rfl:j=5:=by omega
       rw[show((5:Nat):Int)=5 from rfl];go_wp2;go_roundw
       case rel=>exact⟨k+1,by omega,by go_num,zz (s0.out.trans ((HRj.out).mono s0.out.size))⟩
       case measure=>simp[intOf];omega
   ·obtain rfl:k=3:=by omega
    rw[show((3:Nat):Int)=3 from rfl];go_wp2_with fail
    refine(namL HS.out G1.out).mono ?_;rintro e w92 ⟨P0,rfl⟩;have B93:=zz P0;have z93:=B93.out.size;have Q0:=zz (HRk.out.trans (B93.out.mono HRk.out.size));clear P0;go_wp2_with fail
    refine(rnamL HS.out G1.out).mono ?_;rintro e w95 ⟨R0,rfl⟩;have B96:=zz R0;have z96:=B96.out.size;have Z1:=zz (Q0.out.trans (B96.out.mono Q0.out.size));clear R0;go_wp2;go_ret;exact⟨(r0.out.trans ((Z1.out).mono r0.out.size)),by simp⟩
end Go.Proofs.YtkhljkiehohckaaGreatDoor
