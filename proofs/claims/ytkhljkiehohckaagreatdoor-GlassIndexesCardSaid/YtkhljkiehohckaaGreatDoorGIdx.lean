/- The law GlassIndexes (written by gen_gidx.py). -/
import Derived.Test.YtkhljkiehohckaaGreatDoorGw
import Derived.Test.YtkhljkiehohckaaGreatDoorGm
import Derived.Test.YtkhljkiehohckaaGreatDoorGY
import Derived.Test.YtkhljkiehohckaaGreatDoorGq
namespace Go.Proofs.YtkhljkiehohckaaGreatDoor
open Go Go.RowKit Dig
theorem ridx0 {w:World} {g:GL} {L a r:Int} (hs:g.nm.size≤1000) (h:inG g L=(a,r)) :
  Calls Tryz.prog 23 #[.agg (GC g),.int .i64 L] w fun e w'=>Below w.heap.size w w'∧e=.returned (.tuple #[.int .i64 a,.int .i64 r]):=by
 have k:=RIndex_G w g L hs;rw[h] at k;exact k
theorem idxG2 (g1 g2:GL) (h1:g1.nm.size≤1000) (h2:g2.nm.size≤1000) (j:Nat) (h:j<2) :
  ∃ x:GL,x.nm.size≤1000∧∀ w,(Instr.index 49 (.agg #[.string g1.nm,.int .i64 g1.f,.int .i64 g1.c0,.int .i64 g1.c1,.int .i64 g1.c2,.int .i64 g1.c3,.int .i64 g1.c4,.int .i64 g1.c5,.int .i64 g1.lo,.int .i64 g1.hi,.string g2.nm,.int .i64 g2.f,.int .i64 g2.c0,.int .i64 g2.c1,.int .i64 g2.c2,.int .i64 g2.c3,.int .i64 g2.c4,.int .i64 g2.c5,.int .i64 g2.lo,.int .i64 g2.hi]) (.int .i64 (j:Int))).run Tryz.prog w=.ok (.agg (GC x)) w:=by
 match j,h with
 | 0,_=>exact⟨g1,h1,fun _=>by kernel_rfl⟩
 | 1,_=>exact⟨g2,h2,fun _=>by kernel_rfl⟩
set_option linter.unusedVariables false in
set_option maxRecDepth 100000 in
set_option maxHeartbeats 8000000 in
theorem GlassIndexes_any (w:World) (G:GF w) (d:DR) (hd:d.wf) (what ix bn:Int) (tx:ByteArray) (hwx:0≤what∧what≤255) (hix:0≤ix∧ix≤255) (htx:tx.size≤maxLen) (len:Int) (hlen:-9223372036854775808≤len∧len≤9223372036854775807) :
  Calls Tryz.prog 4 #[.agg #[.int .u8 d.f,.int .i8 d.a0,.int .i8 d.a1,.int .i8 d.a2,.int .i8 d.a3,.int .i8 d.a4,.int .i8 d.a5,.int .u8 d.nm,.int .u8 d.lo,.int .u8 d.wd],.agg #[.int .u8 what,.int .u8 ix,.int .i64 bn,.string tx],.int .i64 len] w fun e w'=>Below w.heap.size w w'∧e=.returned (.bool true):=by
 replace G:=zz G;obtain⟨w0,hw0⟩:∃ w0:World,w0=((w.alloc (.cells #[.int .u8 d.f,.int .i8 d.a0,.int .i8 d.a1,.int .i8 d.a2,.int .i8 d.a3,.int .i8 d.a4,.int .i8 d.a5,.int .u8 d.nm,.int .u8 d.lo,.int .u8 d.wd] 25)).alloc (.cells #[.int .u8 what,.int .u8 ix,.int .i64 bn,.string tx] 27)):=⟨_,rfl⟩;have B0:=zz (n2_b hw0);have z0:=n2_z hw0;have Ld:=n2_0 hw0;have Lb:=n2_1 hw0;go_enter Tryz.func4,Tryz.ntmps4
 go_upto_region 1 with (fail)
 rw[← hw0];clear hw0;go_wp2_with fail
 refine(wakes_any _ (G.out.step B0.out)).mono ?_;rintro e w1 ⟨D0,rfl⟩;have B2:=zz D0;have z2:=B2.out.size;have E0:=zz (B0.out.trans (B2.out.mono B0.out.size));clear D0;have e0:=CB.step Ld B2.out;have H0:=e0.cell 0 rfl;have I0:=e0.cell 1 rfl;have J0:=e0.cell 2 rfl;have K0:=e0.cell 3 rfl;have L0:=e0.cell 4 rfl;have M0:=e0.cell 5 rfl;have N0:=e0.cell 6 rfl;have O0:=e0.cell 7 rfl;have P0:=e0.cell 8 rfl;have Q0:=e0.cell 9 rfl;have r1:=e0.lt;go_wp2_with fail
 refine(DGlass_any _ d hd).mono ?_;rintro e w4 ⟨F0,rfl⟩;have B7:=zz F0;have z7:=B7.out.size;have G0:=zz (E0.out.trans (B7.out.mono E0.out.size));clear F0;clear H0 I0 J0 K0 L0 M0 N0 O0 P0 Q0 r1;obtain⟨g0,hg0⟩:∃ x,drG d=x:=⟨_,rfl⟩;rw[hg0];have hs0:g0.nm.size≤1000:=(by rw[← hg0,drG_nm hd];decide);have v1:=zz hg0;clear hg0;go_upto_region 4 with (refine wpList_store_row rfl _ _ _ rfl _ _ rfl rfl _ _ (CB.new _ _ _) rfl rfl (by kernel_rfl) ?_)
 (try simp only[Act.put])
 obtain⟨w9,hwd⟩:∃ nw:World,nw=(w4.alloc (.cells #[.string ⟨#[]⟩,.int .i64 0,.int .i64 0,.int .i64 0,.int .i64 0,.int .i64 0,.int .i64 0,.int .i64 0,.int .i64 0,.int .i64 0] 32)).setRow w4.heap.size (GC g0):=⟨_,rfl⟩;rw[← hwd];have j0:CB w9 w4.heap.size 32 (GC g0):=by rw[hwd];exact(CB.new _ _ _).row _
 have zd9:=j0.lt;have hbd:Below w4.heap.size w4 w9:=by rw[hwd];exact below_row ((Below.refl _ _).alloc (Nat.le_refl _) _) (Nat.le_refl _) _
 have B10:=zz hbd;have z10:=B10.out.size;have n0:=zz (G0.out.trans (B10.out.mono G0.out.size));clear hbd hwd;refine Flow.run [⟨0,20,fun fv fw=>fv=.agg (GC g0)⟩,⟨1,21,fun fv fw=>fv=.agg #[.int .u8 what,.int .u8 ix,.int .i64 bn,.string tx]⟩,⟨2,22,fun fv fw=>fv=.agg (GC g0)⟩,⟨3,23,fun fv fw=>∃ g2:GL,g2.nm.size≤1000∧fv=.agg (GC g2)⟩,⟨4,24,fun fv fw=>∃ g2:GL,g2.nm.size≤1000∧fv=.agg #[.string g0.nm,.int .i64 g0.f,.int .i64 g0.c0,.int .i64 g0.c1,.int .i64 g0.c2,.int .i64 g0.c3,.int .i64 g0.c4,.int .i64 g0.c5,.int .i64 g0.lo,.int .i64 g0.hi,.string g2.nm,.int .i64 g2.f,.int .i64 g2.c0,.int .i64 g2.c1,.int .i64 g2.c2,.int .i64 g2.c3,.int .i64 g2.c4,.int .i64 g2.c5,.int .i64 g2.lo,.int .i64 g2.hi]⟩,⟨5,25,fun fv fw=>fv=.int .i64 0⟩] [] [] 0 (by kernel_rfl) (by kernel_rfl) (by kernel_rfl) (fun _ _ _ _ _ h=>h) ?_ ?_ ?_ ?_
 ·refine(a0 (a0 (a0 (a0 (a0 (a0 all_nil))))))
 ·refine(all_cons ?_ (all_cons ?_ (all_cons ?_ (all_cons ?_ (all_cons ?_ (all_cons ?_ all_nil))))))
  ·intro xs b1 b0 d0;have t0:=zz b0;have d1:=b0.size;clear b0;clear d0;refine wpOp_step (o:=_) rfl (fun K hK=>?_);simp only[FL]
   rw[if_pos (show Region.wanted _ _=true from rfl)];have u0:=CB.step j0 t0.out;refine wp_load_row _ _ rfl _ rfl _ _ (0,0) _ u0 rfl rfl rfl ?_;refine hK _ _ ⟨.agg (GC g0),by kernel_rfl,Below.refl _ _,rfl,nF⟩
  ·intro xs e1 b0 d0;have v0:=zz b0;have g1:=b0.size;clear b0;clear d0;refine wpOp_step (o:=_) rfl (fun K hK=>?_);simp only[FL]
   have P1_3_16:=zz (B2.out.trans (B7.out.mono B2.out.size));have P1_4_17:=zz (P1_3_16.out.trans (B10.out.mono P1_3_16.out.size));have P1_5_18:=zz (P1_4_17.out.trans (v0.out.mono P1_4_17.out.size));have h0:=CB.step Lb P1_5_18.out;have T0:=h0.cell 0 rfl;have U0:=h0.cell 1 rfl;have V0:=h0.cell 2 rfl;have W0:=h0.cell 3 rfl;go_simp;refine hK _ _ ⟨.agg #[.int .u8 what,.int .u8 ix,.int .i64 bn,.string tx],by kernel_rfl,Below.refl _ _,rfl,nF⟩
  ·intro xs h1 b0 d0;have y0:=zz b0;have i1:=b0.size;clear b0;clear d0;refine wpOp_step (o:=_) rfl (fun K hK=>?_);simp only[FL]
   rw[if_pos (show Region.wanted _ _=true from rfl)];have A0:=CB.step j0 y0.out;refine wp_load_row _ _ rfl _ rfl _ _ (0,0) _ A0 rfl rfl rfl ?_;refine hK _ _ ⟨.agg (GC g0),by kernel_rfl,Below.refl _ _,rfl,nF⟩
  ·intro xs j1 b0 d0;clear b0;have f1:(xs 1)=.agg #[.int .u8 what,.int .u8 ix,.int .i64 bn,.string tx]:=d0 _ (m_ 1 rfl) (by kernel_rfl);have f2:(xs 2)=.agg (GC g0):=d0 _ (m_ 2 rfl) (by kernel_rfl);clear d0;refine wpOp_step (o:=_) rfl (fun K hK=>?_);simp only[FL]
   go_simp;(with_reducible refine(Bend_any _ what ix bn tx _ hwx hix htx hs0).mono ?_)
   rintro e wc23 ⟨R0,g23,hs23,rfl⟩;refine hK _ _ ⟨.agg (GC g23),by simp only[FL,f1,f2] <;> kernel_rfl,R0,⟨g23,hs23,rfl⟩,nF⟩
  ·intro xs l1 b0 d0;clear b0;have f0:(xs 0)=.agg (GC g0):=d0 _ (m_ 0 rfl) (by kernel_rfl);have f3:∃ g2:GL,g2.nm.size≤1000∧(xs 3)=.agg (GC g2):=d0 _ (m_ 3 rfl) (by kernel_rfl);clear d0;refine wpOp_step (o:=_) rfl (fun K hK=>?_);simp only[FL]
   obtain⟨g2,hs2,hx2⟩:=f3;simp only[GC] at f0 hx2;rw[f0,hx2];go_simp;refine hK _ _ ⟨.agg #[.string g0.nm,.int .i64 g0.f,.int .i64 g0.c0,.int .i64 g0.c1,.int .i64 g0.c2,.int .i64 g0.c3,.int .i64 g0.c4,.int .i64 g0.c5,.int .i64 g0.lo,.int .i64 g0.hi,.string g2.nm,.int .i64 g2.f,.int .i64 g2.c0,.int .i64 g2.c1,.int .i64 g2.c2,.int .i64 g2.c3,.int .i64 g2.c4,.int .i64 g2.c5,.int .i64 g2.lo,.int .i64 g2.hi],by simp only[FL,f0,hx2] <;> kernel_rfl,Below.refl _ _,⟨g2,hs2,rfl⟩,nF⟩
  ·intro xs n1 b0 d0;clear b0;clear d0;refine wpOp_step (o:=_) rfl (fun K hK=>?_);simp only[FL]
   go_simp;refine hK _ _ ⟨.int .i64 0,by kernel_rfl,Below.refl _ _,rfl,nF⟩
 ·exact all_nil
 ·intro xs q1 hbf hf hn hd;have f0:(xs 0)=.agg (GC g0):=hf _ (m_ 0 rfl);have f1:(xs 1)=.agg #[.int .u8 what,.int .u8 ix,.int .i64 bn,.string tx]:=hf _ (m_ 1 rfl);have f2:(xs 2)=.agg (GC g0):=hf _ (m_ 2 rfl);have f3:∃ g2:GL,g2.nm.size≤1000∧(xs 3)=.agg (GC g2):=hf _ (m_ 3 rfl);have f4:∃ g2:GL,g2.nm.size≤1000∧(xs 4)=.agg #[.string g0.nm,.int .i64 g0.f,.int .i64 g0.c0,.int .i64 g0.c1,.int .i64 g0.c2,.int .i64 g0.c3,.int .i64 g0.c4,.int .i64 g0.c5,.int .i64 g0.lo,.int .i64 g0.hi,.string g2.nm,.int .i64 g2.f,.int .i64 g2.c0,.int .i64 g2.c1,.int .i64 g2.c2,.int .i64 g2.c3,.int .i64 g2.c4,.int .i64 g2.c5,.int .i64 g2.lo,.int .i64 g2.hi]:=hf _ (m_ 4 rfl);have f5:(xs 5)=.int .i64 0:=hf _ (m_ 5 rfl);clear hf hn hd;simp only[FL]
  have B27:=zz hbf;have z27:=B27.out.size;have k0:=zz (n0.out.trans (B27.out.mono n0.out.size));clear hbf;generalize xs 0=x0,xs 1=x1,xs 2=x2,xs 3=x3,xs 4=x4,xs 5=x5 at *
  obtain rfl:=f0;obtain rfl:=f1;obtain rfl:=f2;clear f3;obtain⟨g2,hs2,rfl⟩:=f4;obtain rfl:=f5;refine Early.done (by kernel_rfl) ?_ _;(try simp only[Exit.then])
  go_wp2;have GXk:=zz (G.out.step k0.out);go_loopw [25] (fun iv wr=>∃ k:Nat,k≤2∧iv=.int .i64 k∧Hid (Below q1.heap.size q1 wr)) (fun iv _=>2-(intOf iv).toNat)
  case atStart=>exact⟨0,Nat.zero_le _,rfl,zz (Below.refl _ _)⟩
  case round=>
   obtain⟨k,hkn,rfl,HRk⟩:=hrel;obtain⟨wk,hwk⟩:∃ x:World,x=wr:=⟨_,rfl⟩;subst hwk;have zrk:=HRk.out.size;by_cases hltk:k<2
   ·have hltki:(k:Int)<2:=by omega
    have hgeki:(0:Int)≤(k:Int):=by omega
    obtain⟨x,hsx,hidx⟩:=idxG2 g0 g2 hs0 hs2 k hltk;go_upto_region 7 with (refine wpList_store_row rfl _ _ _ rfl _ _ rfl rfl _ _ (CB.new _ _ _) rfl rfl (by kernel_rfl) ?_)
    (try simp only[Act.put])
    obtain⟨w29,hwd⟩:∃ nw:World,nw=(wk.alloc (.cells #[.string ⟨#[]⟩,.int .i64 0,.int .i64 0,.int .i64 0,.int .i64 0,.int .i64 0,.int .i64 0,.int .i64 0,.int .i64 0,.int .i64 0] 32)).setRow wk.heap.size (GC x):=⟨_,rfl⟩;rw[← hwd];have i0:CB w29 wk.heap.size 32 (GC x):=by rw[hwd];exact(CB.new _ _ _).row _
    have zd29:=i0.lt;have hbd:Below wk.heap.size wk w29:=by rw[hwd];exact below_row ((Below.refl _ _).alloc (Nat.le_refl _) _) (Nat.le_refl _) _
    have B30:=zz hbd;have z30:=B30.out.size;have o0:=zz (HRk.out.trans (B30.out.mono HRk.out.size));clear hbd hwd;clear hidx;go_wp2_with (refine wpList_load_row rfl _ _ rfl _ rfl _ _ (0,0) _ i0 rfl rfl rfl ?_)
    refine(lengths_any _ _ _).mono ?_;rintro e w33 ⟨p0,v32,l32,rfl,hl32,hri32⟩;have B34:=zz p0;have z34:=B34.out.size;have l0:=zz (o0.out.trans (B34.out.mono o0.out.size));clear p0;obtain⟨r32,off32,c32,rfl,hr32,hc32⟩:=hri32.cells (by omega);rw[hl32];have s1:=zz hr32;have p1:=zz hl32;have t1:=zz hc32;clear hri32 hr32 hc32 hl32;go_wp2;have GXj:=zz (GXk.out.step l0.out);go_loopw [32] (fun iv wr=>∃ j:Nat,j≤5∧iv=.int .i64 j∧Hid (Below w33.heap.size w33 wr)) (fun iv _=>5-(intOf iv).toNat)
    case atStart=>exact⟨0,Nat.zero_le _,rfl,zz (Below.refl _ _)⟩
    case round=>
     obtain⟨j,hjn,rfl,HRj⟩:=hrel;obtain⟨wj,hwj⟩:∃ x:World,x=wr:=⟨_,rfl⟩;subst hwj;have zrj:=HRj.out.size;by_cases hltj:j<5
     ·have hltji:(j:Int)<5:=by omega
      have hgeji:(0:Int)≤(j:Int):=by omega
      obtain⟨N,hN⟩:∃ z,l32[j]'(by rw[p1.out];exact hltj)=z:=⟨_,rfl⟩;have qe:wj.cell? ⟨r32,off32+j,none⟩=some (.int .i64 N):=by
       rw[← hN];exact(HRj.out.cell (p:=⟨r32,off32+j,none⟩) s1.out).trans (t1.out j (by rw[p1.out];exact hltj))
      clear hN;obtain⟨⟨a,r⟩,har⟩:∃ p,inG x N=p:=⟨_,rfl⟩;have u1:=zz har;clear har;have P7_9_37:=zz (B34.out.trans (HRj.out.mono B34.out.size));have m0:=CB.step i0 P7_9_37.out;go_wp2_with (refine wpList_load_row rfl _ _ rfl _ rfl _ _ (0,0) _ m0 rfl rfl rfl ?_)
      refine(idxG (GXj.out.step HRj.out) hsx u1.out).mono ?_;rintro e w38 ⟨q0,rfl⟩;have B39:=zz q0;have z39:=B39.out.size;have r0:=zz (HRj.out.trans (B39.out.mono HRj.out.size));clear q0;have C0:=CB.step m0 B39.out;go_wp2_with (refine wpList_load_row rfl _ _ rfl _ rfl _ _ (0,0) _ C0 rfl rfl rfl ?_)
      refine(ridx0 hsx u1.out).mono ?_;rintro e w42 ⟨s0,rfl⟩;have B43:=zz s0;have z43:=B43.out.size;have S0:=zz (r0.out.trans (B43.out.mono r0.out.size));clear s0;have ha1:(a != a)=false:=by simp
      have hr1:(r != r)=false:=by simp
      go_wp2;go_roundw
      case rel=>exact⟨j+1,by omega,by go_num,zz S0.out⟩
      case measure=>simp[intOf];omega
     ·obtain rfl:j=5:=by omega
      rw[show((5:Nat):Int)=5 from rfl];go_wp2;go_roundw
      case rel=>exact⟨k+1,by omega,by go_num,zz (l0.out.trans ((HRj.out).mono l0.out.size))⟩
      case measure=>simp[intOf];omega
   ·obtain rfl:k=2:=by omega
    rw[show((2:Nat):Int)=2 from rfl];go_wp2;go_ret;exact⟨(k0.out.trans ((HRk.out).mono k0.out.size)),rfl⟩
end Go.Proofs.YtkhljkiehohckaaGreatDoor
