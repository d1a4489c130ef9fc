/- The law GlassAbbes (written by gen_gabb.py). -/
import Derived.Test.YtkhljkiehohckaaGreatDoorGw
import Derived.Test.YtkhljkiehohckaaGreatDoorGm
import Derived.Test.YtkhljkiehohckaaGreatDoorGZ
import Derived.Test.YtkhljkiehohckaaGreatDoorGq
namespace Go.Proofs.YtkhljkiehohckaaGreatDoor
open Go Go.RowKit Dig
def CC (g1 g2:GL):Array Value:=#[.string g1.nm,.int .i64 g1.f,.int .i64 g1.c0,.int .i64 g1.c1,.int .i64 g1.c2,.int .i64 g1.c3,.int .i64 g1.c4,.int .i64 g1.c5,.int .i64 g1.lo,.int .i64 g1.hi,.string g2.nm,.int .i64 g2.f,.int .i64 g2.c0,.int .i64 g2.c1,.int .i64 g2.c2,.int .i64 g2.c3,.int .i64 g2.c4,.int .i64 g2.c5,.int .i64 g2.lo,.int .i64 g2.hi]
theorem idxG2 (g1 g2:GL) (h1:g1.nm.size≤1000) (h2:g2.nm.size≤1000) (j:Nat) (h:j<2) :
  ∃ x:GL,x.nm.size≤1000∧∀ w,(Instr.index 49 (.agg (CC g1 g2)) (.int .i64 (j:Int))).run Tryz.prog w=.ok (.agg (GC x)) w:=by
 match j,h with
 | 0,_=>exact⟨g1,h1,fun _=>by kernel_rfl⟩
 | 1,_=>exact⟨g2,h2,fun _=>by kernel_rfl⟩
theorem abAny {w:World} (G:GF w) {g:GL} {r:Int} {o:Option Rat} (hs:g.nm.size≤1000) (h:abG g=(o,r)) :
  Calls Tryz.prog 28 #[.agg (GC g)] w fun e w'=>Below w.heap.size w w'∧∃ v,e=.returned (.tuple #[v,.int .i64 r])∧QO w' w'.heap.size v o:=by
 have k:=Abbe_G w G g hs;rw[h] at k;exact k
theorem rabAny {w:World} {g:GL} {r:Int} {o:Option Rat} (hs:g.nm.size≤1000) (h:abG g=(o,r)) :
  Calls Tryz.prog 29 #[.agg (GC g)] w fun e w'=>Below w.heap.size w w'∧∃ v,e=.returned (.tuple #[v,.int .i64 r])∧QO w' w'.heap.size v o:=by
 have k:=RAbbe_G w g hs;rw[h] at k;exact k
theorem paAny {w:World} (G:GF w) {g:GL} {x y r:Int} {o:Option Rat} (hs:g.nm.size≤1000) (h:paG g x y=(o,r)) :
  Calls Tryz.prog 30 #[.agg (GC g),.int .i64 x,.int .i64 y] w fun e w'=>Below w.heap.size w w'∧∃ v,e=.returned (.tuple #[v,.int .i64 r])∧QO w' w'.heap.size v o:=by
 have k:=Partial_G w G g hs x y;rw[h] at k;exact k
theorem rpaAny {w:World} {g:GL} {x y r:Int} {o:Option Rat} (hs:g.nm.size≤1000) (h:paG g x y=(o,r)) :
  Calls Tryz.prog 31 #[.agg (GC g),.int .i64 x,.int .i64 y] w fun e w'=>Below w.heap.size w w'∧∃ v,e=.returned (.tuple #[v,.int .i64 r])∧QO w' w'.heap.size v o:=by
 have k:=RPartial_G w g x y hs;rw[h] at k;exact k
theorem RI.el {w:World} {B:Nat} {r off n c:Nat} {l:List Int} (h:RI w B (.slice (some ⟨r,off,none⟩) n c) l) {j:Nat} (hj:j<l.length):w.cell? ⟨r,off+j,none⟩=some (.int .i64 l[j]):=by
 obtain⟨r',off',c',e,-,hc⟩:=h.cells (by omega);injection e with e1 _ _;injection e1 with e1;injection e1 with e1 e2 _
 subst e1;subst e2;exact hc j hj
set_option linter.unusedVariables false in
set_option maxRecDepth 100000 in
set_option maxHeartbeats 8000000 in
theorem GlassAbbes_any (w:World) (G:GF w) (d:DR) (hd:d.wf) (what ix bn:Int) (tx:ByteArray) (hwx:0≤what∧what≤255) (hix:0≤ix∧ix≤255) (htx:tx.size≤maxLen) (xl:Int) (hxl:-9223372036854775808≤xl∧xl≤9223372036854775807) (yl:Int) (hyl:-9223372036854775808≤yl∧yl≤9223372036854775807) :
  Calls Tryz.prog 7 #[.agg #[.int .u8 d.f,.int .i8 d.a0,.int .i8 d.a1,.int .i8 d.a2,.int .i8 d.a3,.int .i8 d.a4,.int .i8 d.a5,.int .u8 d.nm,.int .u8 d.lo,.int .u8 d.wd],.agg #[.int .u8 what,.int .u8 ix,.int .i64 bn,.string tx],.int .i64 xl,.int .i64 yl] w fun e w'=>Below w.heap.size w w'∧e=.returned (.bool true):=by
 replace G:=zz G;obtain⟨w0,hw0⟩:∃ w0:World,w0=((w.alloc (.cells #[.int .u8 d.f,.int .i8 d.a0,.int .i8 d.a1,.int .i8 d.a2,.int .i8 d.a3,.int .i8 d.a4,.int .i8 d.a5,.int .u8 d.nm,.int .u8 d.lo,.int .u8 d.wd] 25)).alloc (.cells #[.int .u8 what,.int .u8 ix,.int .i64 bn,.string tx] 27)):=⟨_,rfl⟩;have B0:=zz (n2_b hw0);have z0:=n2_z hw0;have Ld:=n2_0 hw0;have Lb:=n2_1 hw0;go_enter Tryz.func7,Tryz.ntmps7
 go_upto_region 1 with (fail)
 rw[← hw0];clear hw0;go_wp2_with fail
 refine(wakes_any _ (G.out.step B0.out)).mono ?_;rintro e w1 ⟨w2,rfl⟩;have B2:=zz w2;have z2:=B2.out.size;have y2:=zz (B0.out.trans (B2.out.mono B0.out.size));clear w2;have h0:=CB.step Ld B2.out;have D2:=h0.cell 0 rfl;have E2:=h0.cell 1 rfl;have F2:=h0.cell 2 rfl;have G2:=h0.cell 3 rfl;have H2:=h0.cell 4 rfl;have I2:=h0.cell 5 rfl;have J2:=h0.cell 6 rfl;have K2:=h0.cell 7 rfl;have L2:=h0.cell 8 rfl;have M2:=h0.cell 9 rfl;have B3:=h0.lt;go_wp2_with fail
 refine(DGlass_any _ d hd).mono ?_;rintro e w4 ⟨A2,rfl⟩;have B7:=zz A2;have z7:=B7.out.size;have C2:=zz (y2.out.trans (B7.out.mono y2.out.size));clear A2;clear D2 E2 F2 G2 H2 I2 J2 K2 L2 M2 B3;obtain⟨g0,hg0⟩:∃ x,drG d=x:=⟨_,rfl⟩;rw[hg0];have hs0:g0.nm.size≤1000:=(by rw[← hg0,drG_nm hd];decide);have o4:=zz hg0;clear hg0;go_upto_region 4 with (refine wpList_store_row rfl _ _ _ rfl _ _ rfl rfl _ _ (CB.new _ _ _) rfl rfl (by kernel_rfl) ?_)
 (try simp only[Act.put])
 obtain⟨w9,hwd⟩:∃ nw:World,nw=(w4.alloc (.cells #[.string ⟨#[]⟩,.int .i64 0,.int .i64 0,.int .i64 0,.int .i64 0,.int .i64 0,.int .i64 0,.int .i64 0,.int .i64 0,.int .i64 0] 32)).setRow w4.heap.size (GC g0):=⟨_,rfl⟩;rw[← hwd];have u0:CB w9 w4.heap.size 32 (GC g0):=by rw[hwd];exact(CB.new _ _ _).row _
 have zd9:=u0.lt;have hbd:Below w4.heap.size w4 w9:=by rw[hwd];exact below_row ((Below.refl _ _).alloc (Nat.le_refl _) _) (Nat.le_refl _) _
 have B10:=zz hbd;have z10:=B10.out.size;have K0:=zz (C2.out.trans (B10.out.mono C2.out.size));clear hbd hwd;refine Flow.run [⟨0,23,fun fv fw=>fv=.agg (GC g0)⟩,⟨1,24,fun fv fw=>fv=.agg #[.int .u8 what,.int .u8 ix,.int .i64 bn,.string tx]⟩,⟨2,25,fun fv fw=>fv=.agg (GC g0)⟩,⟨3,26,fun fv fw=>∃ g2:GL,g2.nm.size≤1000∧fv=.agg (GC g2)⟩,⟨4,27,fun fv fw=>∃ g2:GL,g2.nm.size≤1000∧fv=.agg (CC g0 g2)⟩,⟨5,28,fun fv fw=>fv=.int .i64 0⟩] [] [] 0 (by kernel_rfl) (by kernel_rfl) (by kernel_rfl) (fun _ _ _ _ _ h=>h) ?_ ?_ ?_ ?_
 ·refine(a0 (a0 (a0 (a0 (a0 (a0 all_nil))))))
 ·refine(all_cons ?_ (all_cons ?_ (all_cons ?_ (all_cons ?_ (all_cons ?_ (all_cons ?_ all_nil))))))
  ·intro xs Y2 b0 e0;have r1:=zz b0;have Z2:=b0.size;clear b0;clear e0;refine wpOp_step (o:=_) rfl (fun K hK=>?_);simp only[FL]
   rw[if_pos (show Region.wanted _ _=true from rfl)];have s1:=CB.step u0 r1.out;refine wp_load_row _ _ rfl _ rfl _ _ (0,0) _ s1 rfl rfl rfl ?_;refine hK _ _ ⟨.agg (GC g0),by kernel_rfl,Below.refl _ _,rfl,nF⟩
  ·intro xs b3 b0 e0;have t1:=zz b0;have c3:=b0.size;clear b0;clear e0;refine wpOp_step (o:=_) rfl (fun K hK=>?_);simp only[FL]
   have P1_3_16:=zz (B2.out.trans (B7.out.mono B2.out.size));have P1_4_17:=zz (P1_3_16.out.trans (B10.out.mono P1_3_16.out.size));have P1_5_18:=zz (P1_4_17.out.trans (t1.out.mono P1_4_17.out.size));have o0:=CB.step Lb P1_5_18.out;have Q2:=o0.cell 0 rfl;have R2:=o0.cell 1 rfl;have S2:=o0.cell 2 rfl;have T2:=o0.cell 3 rfl;go_simp;refine hK _ _ ⟨.agg #[.int .u8 what,.int .u8 ix,.int .i64 bn,.string tx],by kernel_rfl,Below.refl _ _,rfl,nF⟩
  ·intro xs d3 b0 e0;have u1:=zz b0;have e3:=b0.size;clear b0;clear e0;refine wpOp_step (o:=_) rfl (fun K hK=>?_);simp only[FL]
   rw[if_pos (show Region.wanted _ _=true from rfl)];have v1:=CB.step u0 u1.out;refine wp_load_row _ _ rfl _ rfl _ _ (0,0) _ v1 rfl rfl rfl ?_;refine hK _ _ ⟨.agg (GC g0),by kernel_rfl,Below.refl _ _,rfl,nF⟩
  ·intro xs g3 b0 e0;clear b0;have f1:(xs 1)=.agg #[.int .u8 what,.int .u8 ix,.int .i64 bn,.string tx]:=e0 _ (m_ 1 rfl) (by kernel_rfl);have f2:(xs 2)=.agg (GC g0):=e0 _ (m_ 2 rfl) (by kernel_rfl);clear e0;refine wpOp_step (o:=_) rfl (fun K hK=>?_);simp only[FL]
   go_simp;(with_reducible refine(Bend_any _ what ix bn tx _ hwx hix htx hs0).mono ?_)
   rintro e wc23 ⟨N2,g23,hs23,rfl⟩;refine hK _ _ ⟨.agg (GC g23),by simp only[FL,f1,f2] <;> kernel_rfl,N2,⟨g23,hs23,rfl⟩,nF⟩
  ·intro xs i3 b0 e0;clear b0;have f0:(xs 0)=.agg (GC g0):=e0 _ (m_ 0 rfl) (by kernel_rfl);have f3:∃ g2:GL,g2.nm.size≤1000∧(xs 3)=.agg (GC g2):=e0 _ (m_ 3 rfl) (by kernel_rfl);clear e0;refine wpOp_step (o:=_) rfl (fun K hK=>?_);simp only[FL]
   obtain⟨g2,hs2,hx2⟩:=f3;simp only[GC] at f0 hx2;rw[f0,hx2];go_simp;refine hK _ _ ⟨.agg (CC g0 g2),by simp only[FL,f0,hx2] <;> kernel_rfl,Below.refl _ _,⟨g2,hs2,rfl⟩,nF⟩
  ·intro xs k3 b0 e0;clear b0;clear e0;refine wpOp_step (o:=_) rfl (fun K hK=>?_);simp only[FL]
   go_simp;refine hK _ _ ⟨.int .i64 0,by kernel_rfl,Below.refl _ _,rfl,nF⟩
 ·exact all_nil
 ·intro xs s3 hbf hf hn hd;have f0:(xs 0)=.agg (GC g0):=hf _ (m_ 0 rfl);have f1:(xs 1)=.agg #[.int .u8 what,.int .u8 ix,.int .i64 bn,.string tx]:=hf _ (m_ 1 rfl);have f2:(xs 2)=.agg (GC g0):=hf _ (m_ 2 rfl);have f3:∃ g2:GL,g2.nm.size≤1000∧(xs 3)=.agg (GC g2):=hf _ (m_ 3 rfl);have f4:∃ g2:GL,g2.nm.size≤1000∧(xs 4)=.agg (CC g0 g2):=hf _ (m_ 4 rfl);have f5:(xs 5)=.int .i64 0:=hf _ (m_ 5 rfl);clear hf hn hd;simp only[FL]
  have B27:=zz hbf;have z27:=B27.out.size;have v0:=zz (K0.out.trans (B27.out.mono K0.out.size));clear hbf;generalize xs 0=x0,xs 1=x1,xs 2=x2,xs 3=x3,xs 4=x4,xs 5=x5 at *
  obtain rfl:=f0;obtain rfl:=f1;obtain rfl:=f2;clear f3;obtain⟨g2,hs2,rfl⟩:=f4;obtain rfl:=f5;refine Early.done (by kernel_rfl) ?_ _;(try simp only[Exit.then])
  go_wp2;have GXk:=zz (G.out.step v0.out);go_loopw [28] (fun iv wr=>∃ k:Nat,k≤2∧iv=.int .i64 k∧Hid (Below s3.heap.size s3 wr)) (fun iv _=>2-(intOf iv).toNat)
  case atStart=>exact⟨0,Nat.zero_le _,rfl,zz (Below.refl _ _)⟩
  case round=>
   obtain⟨k,hkn,rfl,HRk⟩:=hrel;obtain⟨wk,hwk⟩:∃ x:World,x=wr:=⟨_,rfl⟩;subst hwk;have zrk:=HRk.out.size;by_cases hltk:k<2
   ·have hltki:(k:Int)<2:=by omega
    have hgeki:(0:Int)≤(k:Int):=by omega
    obtain⟨x,hsx,hidx⟩:=idxG2 g0 g2 hs0 hs2 k hltk;go_upto_region 7 with (refine wpList_store_row rfl _ _ _ rfl _ _ rfl rfl _ _ (CB.new _ _ _) rfl rfl (by kernel_rfl) ?_)
    (try simp only[Act.put])
    obtain⟨w29,hwd⟩:∃ nw:World,nw=(wk.alloc (.cells #[.string ⟨#[]⟩,.int .i64 0,.int .i64 0,.int .i64 0,.int .i64 0,.int .i64 0,.int .i64 0,.int .i64 0,.int .i64 0,.int .i64 0] 32)).setRow wk.heap.size (GC x):=⟨_,rfl⟩;rw[← hwd];have s0:CB w29 wk.heap.size 32 (GC x):=by rw[hwd];exact(CB.new _ _ _).row _
    have zd29:=s0.lt;have hbd:Below wk.heap.size wk w29:=by rw[hwd];exact below_row ((Below.refl _ _).alloc (Nat.le_refl _) _) (Nat.le_refl _) _
    have B30:=zz hbd;have z30:=B30.out.size;have y0:=zz (HRk.out.trans (B30.out.mono HRk.out.size));clear hbd hwd;clear hidx;obtain⟨⟨o,r⟩,har⟩:∃ p,abG x=p:=⟨_,rfl⟩;have C3:=zz har;clear har;have hrr:(r != r)=false:=by simp
    go_wp2_with (refine wpList_load_row rfl _ _ rfl _ rfl _ _ (0,0) _ s0 rfl rfl rfl ?_)
    refine(abAny (GXk.out.step y0.out) hsx C3.out).mono ?_;rintro e w32 ⟨L0,v,rfl,hv⟩;have B33:=zz L0;have z33:=B33.out.size;have M0:=zz (y0.out.trans (B33.out.mono y0.out.size));clear L0;have hg35:=hv;obtain⟨D3,E3,F3,G3,H3,I3,y1,J3,rfl⟩:=QO.cells hg35;have z1:=zz hg35;clear hg35;go_upto_region 8 with (fail)
    obtain⟨w36,p0⟩:∃ w36:World,w36=(w32.alloc (.cells #[.bool D3,.slice E3 F3 G3,.bool H3,.slice I3 y1 J3] 43)):=⟨_,rfl⟩;rw[← p0];have A1:=n1_0 p0;have za36:=n1_z p0;have B37:=zz (n1_b p0);have z37:=B37.out.size;have N0:=zz (M0.out.trans (B37.out.mono M0.out.size));clear p0;have P7_9_40:=zz (B33.out.trans (B37.out.mono B33.out.size));have C0:=CB.step s0 P7_9_40.out;go_wp2_with (refine wpList_load_row rfl _ _ rfl _ rfl _ _ (0,0) _ C0 rfl rfl rfl ?_)
    refine(rabAny hsx C3.out).mono ?_;rintro e w41 ⟨O0,v,rfl,hv⟩;have B42:=zz O0;have z42:=B42.out.size;have P0:=zz (N0.out.trans (B42.out.mono N0.out.size));clear O0;have hg44:=hv;obtain⟨K3,L3,M3,N3,O3,P3,B1,Q3,rfl⟩:=QO.cells hg44;have C1:=zz hg44;clear hg44;go_upto_region 9 with (fail)
    obtain⟨w45,q0⟩:∃ w45:World,w45=(w41.alloc (.cells #[.bool K3,.slice L3 M3 N3,.bool O3,.slice P3 B1 Q3] 43)):=⟨_,rfl⟩;rw[← q0];have m0:=n1_0 q0;have za45:=n1_z q0;have B46:=zz (n1_b q0);have z46:=B46.out.size;have Q0:=zz (P0.out.trans (B46.out.mono P0.out.size));clear q0;have P9_11_50:=zz (B42.out.trans (B46.out.mono B42.out.size));have n0:=CB.step A1 P9_11_50.out;have D1:=n0.cell 0 rfl;have E1:=n0.cell 1 rfl;have F1:=n0.cell 2 rfl;have G1:=n0.cell 3 rfl;have t3:=n0.lt;have H1:=m0.cell 0 rfl;have I1:=m0.cell 1 rfl;have J1:=m0.cell 2 rfl;have K1:=m0.cell 3 rfl;have u3:=m0.lt;go_wp2_with fail
    have P8_10_53:=zz (B37.out.trans (B42.out.mono B37.out.size));have P8_11_54:=zz (P8_10_53.out.trans (B46.out.mono P8_10_53.out.size));have L1:=zz (QO.step z1.out P8_11_54.out);have M1:=zz (QO.step C1.out B46.out);refine(sameO L1.out M1.out).mono ?_;rintro e w48 ⟨R0,rfl⟩;have B57:=zz R0;have z57:=B57.out.size;have S0:=zz (Q0.out.trans (B57.out.mono Q0.out.size));clear R0;clear D1 E1 F1 G1 t3 H1 I1 J1 K1 u3;have P9_12_61:=zz (P9_11_50.out.trans (B57.out.mono P9_11_50.out.size));have D0:=CB.step C0 P9_12_61.out;go_wp2_with (refine wpList_load_row rfl _ _ rfl _ rfl _ _ (0,0) _ D0 rfl rfl rfl ?_)
    refine(lengths_any _ _ _).mono ?_;rintro e w62 ⟨T0,v,l,rfl,hl,hri⟩;have B63:=zz T0;have z63:=B63.out.size;have m3:=zz (S0.out.trans (B63.out.mono S0.out.size));clear T0;have i4:=zz hri;obtain⟨A0,c,rfl,hcap,hcm,hx0⟩:=hri;obtain⟨r0,off,rfl,-,-⟩:=hx0 (by omega);clear hx0;rw[hl] at hcap;have j4:=zz hl;rw[hl];clear hl;go_wp2;have P11_13_66:=zz (B57.out.trans (B63.out.mono B57.out.size));have N1:=CB.step n0 P11_13_66.out;have O1:=CB.step m0 P11_13_66.out;have P1:=CB.step D0 B63.out;have GI:=zz (GXk.out.step HRk.out);have o3:=zz (show wk.heap.size≤wk.heap.size∧wk.heap.size<w32.heap.size∧w32.heap.size<w41.heap.size by omega);go_loopw [55] (fun iv wr=>∃ (j:Nat) (pn pm qn qm:Bool) (pA pB qA qB:Option Addr) (pl pc pu pd ql qc qu qd:Nat),j≤3∧iv=.int .i64 j∧Hid (CB wr w32.heap.size 43 #[.bool pn,.slice pA pl pc,.bool pm,.slice pB pu pd])∧Hid (CB wr w41.heap.size 43 #[.bool qn,.slice qA ql qc,.bool qm,.slice qB qu qd])∧Hid (CB wr wk.heap.size 32 (GC x))∧Hid (RI wr wr.heap.size (.slice (some ⟨r0,off,none⟩) l.length c) l)∧Hid (Below wk.heap.size wk wr)) (fun iv _=>3-(intOf iv).toNat)
    have P6_8_69:=zz (B30.out.trans (B33.out.mono B30.out.size));have P6_9_70:=zz (P6_8_69.out.trans (B37.out.mono P6_8_69.out.size));have P6_10_71:=zz (P6_9_70.out.trans (B42.out.mono P6_9_70.out.size));have P6_11_72:=zz (P6_10_71.out.trans (B46.out.mono P6_10_71.out.size));have P6_12_73:=zz (P6_11_72.out.trans (B57.out.mono P6_11_72.out.size));have P6_13_74:=zz (P6_12_73.out.trans (B63.out.mono P6_12_73.out.size))
    case atStart=>exact⟨0,_,_,_,_,_,_,_,_,_,_,_,_,_,_,_,_,by decide,rfl,zz N1,zz O1,zz P1,zz i4.out,P6_13_74⟩
    case round=>
     obtain⟨j,pn,pm,qn,qm,pA,pB,qA,qB,pl,pc,pu,pd,ql,qc,qu,qd,hj,rfl,HP,HQ,HX,HI,HW⟩:=hrel;have zr:=HW.out.size;have zl1:=HP.out.lt;have zl2:=HQ.out.lt;have zl3:=HX.out.lt;by_cases hltj:j<3
     ·have hltji:(j:Int)<3:=by omega
      have hgeji:(0:Int)≤(j:Int):=by omega
      obtain⟨N,hN⟩:∃ z,l[j]'(by have:=j4.out;omega)=z:=⟨_,rfl⟩;have qe:wr.cell? ⟨r0,off+j,none⟩=some (.int .i64 N):=by rw[← hN];exact RI.el HI.out _
      clear hN;go_wp2_with (refine wpList_load_row rfl _ _ rfl _ rfl _ _ (0,0) _ HX.out rfl rfl rfl ?_)
      refine(lengths_any _ _ _).mono ?_;rintro e w75 ⟨U0,v2,l2,rfl,hl2,hri2⟩;have B76:=zz U0;have z76:=B76.out.size;have V0:=zz (HW.out.trans (B76.out.mono HW.out.size));clear U0;obtain⟨r2,off2,c2,rfl,-,hc2⟩:=hri2.cells (by omega);obtain⟨M,hM⟩:∃ z,l2[1]'(by omega)=z:=⟨_,rfl⟩;have qm:w75.cell? ⟨r2,off2+1,none⟩=some (.int .i64 M):=by rw[← hM];exact hc2 1 (by omega)
      rw[hl2];clear hM hc2 hri2 hl2;obtain⟨⟨o1,e1⟩,har1⟩:∃ p,paG x N M=p:=⟨_,rfl⟩;have v3:=zz har1;clear har1;have hrr1:(e1 != e1)=false:=by simp
      have E0:=CB.step HX.out B76.out;go_wp2_with (refine wpList_load_row rfl _ _ rfl _ rfl _ _ (0,0) _ E0 rfl rfl rfl ?_)
      have P0_2_80:=zz (HW.out.trans (B76.out.mono HW.out.size));refine(paAny (GI.out.step P0_2_80.out) hsx v3.out).mono ?_;rintro e w79 ⟨W0,v,rfl,hv⟩;have B81:=zz W0;have z81:=B81.out.size;have O2:=zz (V0.out.trans (B81.out.mono V0.out.size));clear W0;clear qm;have hg83:=hv;obtain⟨S3,T3,U3,V3,W3,X3,Q1,Y3,rfl⟩:=QO.cells hg83;have X0:=zz hg83;clear hg83;have P1_3_85:=zz (B76.out.trans (B81.out.mono B76.out.size));have c0:=CB.step HP.out P1_3_85.out;have R1:=c0.cell 0 rfl;have S1:=c0.cell 1 rfl;have T1:=c0.cell 2 rfl;have U1:=c0.cell 3 rfl;have w3:=c0.lt;have V1:=c0.frozen 0;have W1:=c0.frozen 1;have X1:=c0.frozen 2;have Y1:=c0.frozen 3;have y3:=c0.lt;go_upto_region 16 with (fail)
      clear R1 S1 T1 U1 w3 V1 W1 X1 Y1 y3;have Z1:=CB.step HQ.out P1_3_85.out;have b2:=CB.step E0 B81.out;obtain⟨w90,l0⟩:∃ w90:World,w90=((((w79.setCell ⟨w32.heap.size,0,none⟩ (.bool S3)).setCell ⟨w32.heap.size,1,none⟩ (.slice T3 U3 V3)).setCell ⟨w32.heap.size,2,none⟩ (.bool W3)).setCell ⟨w32.heap.size,3,none⟩ (.slice X3 Q1 Y3)):=⟨_,rfl⟩;rw[← l0];have S90:=zz (p4_s l0 c0 (by simp[noInt_b,noInt_s]));have d2:=p4_f l0 Z1 ((by have:=o3.out;omega));have F0:=p4_f l0 b2 ((by have:=o3.out;omega));have e2:=p4_p l0 c0;have G0:=zz (p4_b l0 O2.out (by have:=o3.out;omega));have n3:=p4_z l0;clear l0;go_wp2_with (refine wpList_load_row rfl _ _ rfl _ rfl _ _ (0,0) _ F0 rfl rfl rfl ?_)
      refine(rpaAny hsx v3.out).mono ?_;rintro e w91 ⟨Y0,v,rfl,hv⟩;have B92:=zz Y0;have z92:=B92.out.size;have P2:=zz (G0.out.trans (B92.out.mono G0.out.size));clear Y0;have hg94:=hv;obtain⟨Z3,b4,c4,d4,e4,g4,h2,h4,rfl⟩:=QO.cells hg94;have Z0:=zz hg94;clear hg94;have d0:=CB.step d2 B92.out;have i2:=d0.cell 0 rfl;have j2:=d0.cell 1 rfl;have k2:=d0.cell 2 rfl;have m2:=d0.cell 3 rfl;have z3:=d0.lt;have n2:=d0.frozen 0;have o2:=d0.frozen 1;have p2:=d0.frozen 2;have q2:=d0.frozen 3;have A3:=d0.lt;go_upto_region 17 with (fail)
      clear i2 j2 k2 m2 z3 n2 o2 p2 q2 A3;have s2:=CB.step e2 B92.out;have t2:=CB.step F0 B92.out;obtain⟨w100,i0⟩:∃ w100:World,w100=((((w91.setCell ⟨w41.heap.size,0,none⟩ (.bool Z3)).setCell ⟨w41.heap.size,1,none⟩ (.slice b4 c4 d4)).setCell ⟨w41.heap.size,2,none⟩ (.bool e4)).setCell ⟨w41.heap.size,3,none⟩ (.slice g4 h2 h4)):=⟨_,rfl⟩;rw[← i0];have S100:=zz (p4_s i0 d0 (by simp[noInt_b,noInt_s]));have j0:=p4_f i0 s2 ((by have:=o3.out;omega));have b1:=p4_f i0 t2 ((by have:=o3.out;omega));have k0:=p4_p i0 d0;have t0:=zz (p4_b i0 P2.out (by have:=o3.out;omega));have X2:=p4_z i0;clear i0;have c1:=j0.cell 0 rfl;have d1:=j0.cell 1 rfl;have g1:=j0.cell 2 rfl;have h1:=j0.cell 3 rfl;have q3:=j0.lt;have i1:=k0.cell 0 rfl;have j1:=k0.cell 1 rfl;have k1:=k0.cell 2 rfl;have l1:=k0.cell 3 rfl;have r3:=k0.lt;go_wp2_with fail
      have I0:=zz (QO.soft X0.out (((S90.out).trans (Soft.of B92.out)).trans (S100.out)));have J0:=zz (QO.soft Z0.out (S100.out));refine(sameO I0.out J0.out).mono ?_;rintro e w101 ⟨H0,rfl⟩;have B106:=zz H0;have z106:=B106.out.size;have u2:=zz (t0.out.trans (B106.out.mono t0.out.size));clear H0;clear c1 d1 g1 h1 q3 i1 j1 k1 l1 r3;go_wp2;go_roundw;have m1:=CB.step j0 B106.out;have n1:=CB.step k0 B106.out;have p1:=CB.step b1 B106.out;have q1:=zz (RI.soft HI.out ((((((Soft.of B76.out).trans (Soft.of B81.out)).trans (S90.out)).trans (Soft.of B92.out)).trans (S100.out)).trans (Soft.of B106.out)))
      case rel=>exact⟨j+1,_,_,_,_,_,_,_,_,_,_,_,_,_,_,_,_,by omega,by go_num,zz m1,zz n1,zz p1,zz q1.out,u2⟩
      case measure=>simp[intOf];omega
     ·obtain rfl:j=3:=by omega
      rw[show((3:Nat):Int)=3 from rfl];go_wp2;go_roundw
      case rel=>exact⟨k+1,by omega,by go_num,zz (HRk.out.trans (HW.out.mono HRk.out.size))⟩
      case measure=>simp[intOf];omega
   ·obtain rfl:k=2:=by omega
    rw[show((2:Nat):Int)=2 from rfl];go_wp2;go_ret;exact⟨(v0.out.trans ((HRk.out).mono v0.out.size)),rfl⟩
end Go.Proofs.YtkhljkiehohckaaGreatDoor
