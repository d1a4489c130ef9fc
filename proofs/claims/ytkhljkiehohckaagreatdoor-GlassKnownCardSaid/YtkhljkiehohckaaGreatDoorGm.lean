/- Texts put together: Layer 09: the law package's small functions (written by gen_gl.py). Layer 09, the law package: Bend.of, lengths, plain (written by gen_gm.py). -/
import Derived.Test.YtkhljkiehohckaaGreatDoorGB
import Derived.Test.YtkhljkiehohckaaGreatDoorGq
namespace Go.Proofs.YtkhljkiehohckaaGreatDoor
open Go Go.RowKit Dig
theorem GB.fin {fn:Func} {p:Tmp} {W w:World} {B b:Nat} {cs:Array Value} {g:GL} {tmps:Array Value} (hf:fn.results=#[.cell p 32]) (hC:CB w b 32 cs) (hb:Below B W w) (hB:B≤b) (hp:tmps.getD p undef=.pointer (some ⟨b,0,none⟩)) :
  bodyPost Tryz.prog fn (fun e w'=>Below B W w'∧e=.returned (.agg (GC g))) .ret ⟨tmps,[]⟩ (w.setRow b (GC g)):=
 bodyPost_ret (results_cell_row hf tmps _ b _ (GC g) (0,0) _ hp (hC.row _) Tryz.underlying32 rfl (by kernel_rfl)) rfl ⟨below_row hb hB _,rfl⟩
theorem GC_setc (g:GL) {i:Nat} (h:i<6) (v:Int):(GC g).setIfInBounds (2+i) (.int .i64 v)=GC (g.setc i v):=by
 rcases i with _ | _ | _ | _ | _ | _ | i
 all_goals first | rfl | omega
theorem CB.setc {w:World} {b i:Nat} {g:GL} (h:CB w b 32 (GC g)) (hi:i<6) (v:Int):CB (w.setCell ⟨b,2+i,none⟩ (.int .i64 v)) b 32 (GC (g.setc i v)):=by
 have h1:CB _ b _ _:=CB.set h (2+i) (.int .i64 v)
 rwa [GC_setc g hi] at h1
theorem DD_c {w:World} {b:Nat} {T:TypeId} {d:DR} {i:Nat} (h:CB w b T #[.int .u8 d.f,.int .i8 d.a0,.int .i8 d.a1,.int .i8 d.a2,.int .i8 d.a3,.int .i8 d.a4,.int .i8 d.a5,.int .u8 d.nm,.int .u8 d.lo,.int .u8 d.wd]) (hi:i<6):w.cell? ⟨b,1+i,none⟩=some (.int .i8 (d.a i)):=by
 rcases i with _ | _ | _ | _ | _ | _ | i
 all_goals first | exact h.cell _ rfl | omega
theorem conv_nm (w:World) (d:DR):(convert 71 9 (.slice (some ⟨w.heap.size,0,none⟩) 2 2)).run Tryz.prog (w.alloc (.cells #[.int .u8 103,.int .u8 (97+d.nm % 26)] 5))=.ok (.string (nmG d)) (w.alloc (.cells #[.int .u8 103,.int .u8 (97+d.nm % 26)] 5)):=by
 have h2:=CB.new w 5 #[.int .u8 103,.int .u8 (97+d.nm % 26)];have h1:=run_convert_bytes_arg (P:=Tryz.prog) (w:=w.alloc (.cells #[.int .u8 103,.int .u8 (97+d.nm % 26)] 5)) 71 5 Tryz.underlying71 Tryz.underlying5 w.heap.size 0 2 2 [103,97+d.nm % 26] rfl (fun i hi=>by
  rcases i with _ | _ | i
  ·exact h2.cell 0 rfl
  ·exact h2.cell 1 rfl
  ·omega) 9 Tryz.underlying9
 rw[h1]
 rfl
set_option maxRecDepth 100000 in
set_option maxHeartbeats 4000000 in
theorem DGlass_any (w:World) (d:DR) (h:d.wf) :
  Calls Tryz.prog 12 #[.agg #[.int .u8 d.f,.int .i8 d.a0,.int .i8 d.a1,.int .i8 d.a2,.int .i8 d.a3,.int .i8 d.a4,.int .i8 d.a5,.int .u8 d.nm,.int .u8 d.lo,.int .u8 d.wd]] w fun e w'=>Below w.heap.size w w'∧e=.returned (.agg (GC (drG d))):=by
 obtain⟨t,ht⟩:∃ t,t=drG d:=⟨_,rfl⟩;rw[← ht];have HT:=zz ht;clear ht;have HD:=zz h;have b1:=h.f;have b2:=h.nm;have b3:=h.lo;have b4:=h.wd;clear h;obtain⟨w0,hw0⟩:∃ w0:World,w0=((w.alloc (.cells #[.int .u8 d.f,.int .i8 d.a0,.int .i8 d.a1,.int .i8 d.a2,.int .i8 d.a3,.int .i8 d.a4,.int .i8 d.a5,.int .u8 d.nm,.int .u8 d.lo,.int .u8 d.wd] 25)).alloc (.cells #[.string ⟨#[]⟩,.int .i64 0,.int .i64 0,.int .i64 0,.int .i64 0,.int .i64 0,.int .i64 0,.int .i64 0,.int .i64 0,.int .i64 0] 32)):=⟨_,rfl⟩;have B0:=zz (n2_b hw0);have z0:=n2_z hw0;have Ld:=n2_0 hw0;have Lr2:=n2_1 hw0;go_enter Tryz.func12,Tryz.ntmps12
 go_upto_region 1 with (fail)
 rw[← hw0];clear hw0;have hcv:(convert 71 9 (.slice (some ⟨w0.heap.size,0,none⟩) 2 2)).run Tryz.prog (w0.alloc (.cells #[.int .u8 103,.int .u8 (97+d.nm % 26)] 5))=.ok (.string (nmG d)) (w0.alloc (.cells #[.int .u8 103,.int .u8 (97+d.nm % 26)] 5)):=conv_nm _ d;have j2:=Ld.cell 0 rfl;have k2:=Ld.cell 1 rfl;have l2:=Ld.cell 2 rfl;have m2:=Ld.cell 3 rfl;have n2:=Ld.cell 4 rfl;have o2:=Ld.cell 5 rfl;have p2:=Ld.cell 6 rfl;have r2:=Ld.cell 7 rfl;have s2:=Ld.cell 8 rfl;have t2:=Ld.cell 9 rfl;have H3:=Ld.lt;go_upto_region 2 with (fail)
 clear j2 k2 l2 m2 n2 o2 p2 r2 s2 t2 H3;clear hcv;obtain⟨w2,t0⟩:∃ w2:World,w2=((w0.alloc (.cells #[.int .u8 103,.int .u8 (97+d.nm % 26)] 5)).alloc (.cells #[.string (nmG d),.int .i64 (1+d.f % 3),.int .i64 0,.int .i64 0,.int .i64 0,.int .i64 0,.int .i64 0,.int .i64 0,.int .i64 (300000+2000*d.lo),.int .i64 0] 32)):=⟨_,rfl⟩;rw[← t0];have v0:=n2_0 t0;have b0:=n2_1 t0;have za2:=n2_z t0;have B3:=zz (n2_b t0);have z3:=B3.out.size;have i2:=zz (B0.out.trans (B3.out.mono B0.out.size));clear t0;by_cases hw:128<d.wd
 case' pos=>
  have hk:decide (128<d.wd)=true:=decide_eq_true hw;have D3:=zz (show hiG d=2500000 from if_pos hw);clear hw;have e0:=CB.step Ld B3.out;have u2:=e0.cell 0 rfl;have v2:=e0.cell 1 rfl;have x2:=e0.cell 2 rfl;have y2:=e0.cell 3 rfl;have z2:=e0.cell 4 rfl;have A2:=e0.cell 5 rfl;have B2:=e0.cell 6 rfl;have C2:=e0.cell 7 rfl;have D2:=e0.cell 8 rfl;have E2:=e0.cell 9 rfl;have I3:=e0.lt;have F2:=b0.cell 0 rfl;have G2:=b0.cell 1 rfl;have H2:=b0.cell 2 rfl;have I2:=b0.cell 3 rfl;have J2:=b0.cell 4 rfl;have K2:=b0.cell 5 rfl;have L2:=b0.cell 6 rfl;have M2:=b0.cell 7 rfl;have N2:=b0.cell 8 rfl;have O2:=b0.cell 9 rfl;have J3:=b0.lt;have P2:=b0.frozen 0;have Q2:=b0.frozen 1;have R2:=b0.frozen 2;have S2:=b0.frozen 3;have T2:=b0.frozen 4;have U2:=b0.frozen 5;have V2:=b0.frozen 6;have W2:=b0.frozen 7;have X2:=b0.frozen 8;have Y2:=b0.frozen 9;have K3:=b0.lt;go_upto_region 5 with (fail)
  clear u2 v2 x2 y2 z2 A2 B2 C2 D2 E2 I3 F2 G2 H2 I2 J2 K2 L2 M2 N2 O2 J3 P2 Q2 R2 S2 T2 U2 V2 W2 X2 Y2 K3;have N0:=CB.step Lr2 B3.out;obtain⟨w10,f0⟩:∃ w10:World,w10=w2.setCell ⟨w0.heap.size+1,9,none⟩ (.int .i64 (300000+2000*d.lo+1000*d.wd)):=⟨_,rfl⟩;rw[← f0];have O0:=p1_f f0 e0 (by omega);have x0:=p1_f f0 N0 (by omega);have y0:=p1_f f0 v0 (by omega);have P0:CB w10 (w0.heap.size+1) 32 #[.string (nmG d),.int .i64 (1+d.f % 3),.int .i64 0,.int .i64 0,.int .i64 0,.int .i64 0,.int .i64 0,.int .i64 0,.int .i64 (300000+2000*d.lo),.int .i64 (300000+2000*d.lo+1000*d.wd)]:=by rw[f0];exact(CB.set b0 9 (.int .i64 (300000+2000*d.lo+1000*d.wd)))
  have Q0:=zz (p1_b f0 i2.out (by omega));have e3:=p1_z f0;clear f0;obtain⟨w11,g0⟩:∃ w11:World,w11=w10.setCell ⟨w0.heap.size+1,9,none⟩ (.int .i64 2500000):=⟨_,rfl⟩;rw[← g0];have R0:=p1_f g0 O0 (by omega);have A0:=p1_f g0 x0 (by omega);have Z2:=p1_f g0 y0 (by omega);have S0:CB w11 (w0.heap.size+1) 32 #[.string (nmG d),.int .i64 (1+d.f % 3),.int .i64 0,.int .i64 0,.int .i64 0,.int .i64 0,.int .i64 0,.int .i64 0,.int .i64 (300000+2000*d.lo),.int .i64 2500000]:=by rw[g0];exact(CB.set P0 9 (.int .i64 2500000))
  have T0:=zz (p1_b g0 Q0.out (by omega));have f3:=p1_z g0;clear g0;have Lgx:CB w11 (w0.heap.size+1) 32 (GC (drK d 0)):=by rw[show GC (drK d 0)=#[.string (nmG d),.int .i64 (1+d.f % 3),.int .i64 0,.int .i64 0,.int .i64 0,.int .i64 0,.int .i64 0,.int .i64 0,.int .i64 (300000+2000*d.lo),.int .i64 2500000] by rw[show drK d 0=⟨nmG d,1+d.f % 3,0,0,0,0,0,0,300000+2000*d.lo,hiG d⟩ from rfl,D3.out];rfl];exact S0
  have HBc:=T0;have Ldc:=R0;have Loc:=A0;obtain⟨wc,hwc⟩:∃ x:World,x=w11:=⟨_,rfl⟩;rw[← hwc] at HBc Ldc Loc Lgx ⊢;clear hwc
 case' neg=>
  have hk:decide (128<d.wd)=false:=decide_eq_false hw;have D3:=zz (show hiG d=300000+2000*d.lo+1000*d.wd from if_neg hw);clear hw;have d0:=CB.step Ld B3.out;have U0:=d0.cell 0 rfl;have V0:=d0.cell 1 rfl;have W0:=d0.cell 2 rfl;have X0:=d0.cell 3 rfl;have Y0:=d0.cell 4 rfl;have Z0:=d0.cell 5 rfl;have c1:=d0.cell 6 rfl;have d1:=d0.cell 7 rfl;have e1:=d0.cell 8 rfl;have f1:=d0.cell 9 rfl;have E3:=d0.lt;have g1:=b0.cell 0 rfl;have h1:=b0.cell 1 rfl;have i1:=b0.cell 2 rfl;have j1:=b0.cell 3 rfl;have k1:=b0.cell 4 rfl;have l1:=b0.cell 5 rfl;have m1:=b0.cell 6 rfl;have n1:=b0.cell 7 rfl;have o1:=b0.cell 8 rfl;have p1:=b0.cell 9 rfl;have F3:=b0.lt;have q1:=b0.frozen 0;have r1:=b0.frozen 1;have s1:=b0.frozen 2;have t1:=b0.frozen 3;have u1:=b0.frozen 4;have v1:=b0.frozen 5;have w1:=b0.frozen 6;have x1:=b0.frozen 7;have y1:=b0.frozen 8;have z1:=b0.frozen 9;have G3:=b0.lt;go_upto_region 5 with (fail)
  clear U0 V0 W0 X0 Y0 Z0 c1 d1 e1 f1 E3 g1 h1 i1 j1 k1 l1 m1 n1 o1 p1 F3 q1 r1 s1 t1 u1 v1 w1 x1 y1 z1 G3;have C0:=CB.step Lr2 B3.out;obtain⟨w17,h0⟩:∃ w17:World,w17=w2.setCell ⟨w0.heap.size+1,9,none⟩ (.int .i64 (300000+2000*d.lo+1000*d.wd)):=⟨_,rfl⟩;rw[← h0];have A1:=p1_f h0 d0 (by omega);have D0:=p1_f h0 C0 (by omega);have c3:=p1_f h0 v0 (by omega);have B1:CB w17 (w0.heap.size+1) 32 #[.string (nmG d),.int .i64 (1+d.f % 3),.int .i64 0,.int .i64 0,.int .i64 0,.int .i64 0,.int .i64 0,.int .i64 0,.int .i64 (300000+2000*d.lo),.int .i64 (300000+2000*d.lo+1000*d.wd)]:=by rw[h0];exact(CB.set b0 9 (.int .i64 (300000+2000*d.lo+1000*d.wd)))
  have C1:=zz (p1_b h0 i2.out (by omega));have g3:=p1_z h0;clear h0;have Lgx:CB w17 (w0.heap.size+1) 32 (GC (drK d 0)):=by rw[show GC (drK d 0)=#[.string (nmG d),.int .i64 (1+d.f % 3),.int .i64 0,.int .i64 0,.int .i64 0,.int .i64 0,.int .i64 0,.int .i64 0,.int .i64 (300000+2000*d.lo),.int .i64 (300000+2000*d.lo+1000*d.wd)] by rw[show drK d 0=⟨nmG d,1+d.f % 3,0,0,0,0,0,0,300000+2000*d.lo,hiG d⟩ from rfl,D3.out];rfl];exact B1
  have HBc:=C1;have Ldc:=A1;have Loc:=D0;obtain⟨wc,hwc⟩:∃ x:World,x=w17:=⟨_,rfl⟩;rw[← hwc] at HBc Ldc Loc Lgx ⊢;clear hwc
 all_goals
  have zc_wc:=HBc.out.size;have zg_wc:=Lgx.lt;have r3:=zz (show w.heap.size+1<w0.heap.size+1 by omega);go_wp2;go_loopw [4] (fun iv wr=>∃ k:Nat,k≤6∧iv=.int .i64 (k:Int)∧Hid (CB wr (w0.heap.size+1) 32 (GC (drK d k)))∧Hid (CB wr w.heap.size 25 #[.int .u8 d.f,.int .i8 d.a0,.int .i8 d.a1,.int .i8 d.a2,.int .i8 d.a3,.int .i8 d.a4,.int .i8 d.a5,.int .u8 d.nm,.int .u8 d.lo,.int .u8 d.wd])∧Hid (CB wr (w.heap.size+1) 32 #[.string ⟨#[]⟩,.int .i64 0,.int .i64 0,.int .i64 0,.int .i64 0,.int .i64 0,.int .i64 0,.int .i64 0,.int .i64 0,.int .i64 0])∧Hid (Below w.heap.size w wr)) (fun iv _=>6-(intOf iv).toNat)
  case atStart=>exact⟨0,by decide,rfl,zz Lgx,zz Ldc,zz Loc,HBc⟩
  case round=>
   obtain⟨k,hk,rfl,HG,u3,HR,HW⟩:=hrel;have zr:=HW.out.size;by_cases hlt:k<6
   have zc_wr:=HW.out.size;have zg_wr:=HG.out.lt
   ·have hli:(k:Int)<6:=by omega
    have hl0:(0:Int)≤(k:Int):=by omega
    obtain⟨a,ha⟩:∃ a,d.a k=a:=⟨_,rfl⟩;have hba:=HD.out.a k;rw[ha] at hba;have HA:=zz ha;clear ha;have qd:wr.cell? ⟨w.heap.size,1+k,none⟩=some (.int .i8 a):=by rw[← HA.out];exact DD_c u3.out hlt
    obtain⟨c0,hc0⟩:∃ z,(drK d k).c k=z:=⟨_,rfl⟩;have qc:=GC_c HG.out hlt;rw[hc0] at qc;clear hc0;have qg:=HG.out.frozen (2+k);have qgl:=HG.out.lt;have qdl:=u3.out.lt;go_upto_region 7 with (fail)
    clear qd qg qgl qdl qc;obtain⟨w18,i0⟩:∃ w18:World,w18=wr.setCell ⟨w0.heap.size+1,2+k,none⟩ (.int .i64 (a*1000000)):=⟨_,rfl⟩;rw[← i0];have D1:=p1_f i0 u3.out (by have:=r3.out;omega);have E0:=p1_f i0 HR.out (by have:=r3.out;omega);have E1:CB w18 (w0.heap.size+1) 32 (GC (drK d (k+1))):=by rw[i0];exact(by rw[show drK d (k+1)=(drK d k).setc k (a*1000000) by rw[← HA.out];rfl];exact CB.setc HG.out hlt _)
    have F1:=zz (p1_b i0 HW.out (by have:=r3.out;omega));have h3:=p1_z i0;clear i0;go_wp2;go_roundw
    case rel=>exact⟨k+1,by omega,by go_num,zz E1,zz D1,zz E0,F1⟩
    case measure=>simp[intOf];omega
   ·obtain rfl:k=6:=by omega
    have zc_wr:=HW.out.size;have zg_wr:=HG.out.lt;rw[show((6:Nat):Int)=6 from rfl];obtain⟨fz,hfz⟩:∃ z,1+d.f % 3=z:=⟨_,rfl⟩;have HF:=zz hfz;have qf:wr.cell? ⟨w0.heap.size+1,1,none⟩=some (.int .i64 fz):=by rw[← hfz];exact HG.out.cell 1 rfl
    have ba:=HD.out.a 0;have ba2:=HD.out.a 2;simp only[DR.a] at ba ba2;have q0:wr.cell? ⟨w0.heap.size+1,2,none⟩=some (.int .i64 (d.a0*1000000)):=HG.out.cell 2 rfl;have q2:wr.cell? ⟨w0.heap.size+1,4,none⟩=some (.int .i64 (d.a2*1000000)):=HG.out.cell 4 rfl;have qz:=HG.out.frozen 2;have qz2:=HG.out.frozen 4;have qz3:=HG.out.frozen 5;have qz4:=HG.out.frozen 6;have qz5:=HG.out.frozen 7;have qgl:=HG.out.lt;rcases(show fz=1∨fz=2∨fz=3 by omega) with hz | hz | hz <;> subst hz
    ·have y3:=zz (show d.f % 3=0 by omega);clear hfz;go_upto_region 17 with (fail)
     clear qf q0 q2 qz qz2 qz3 qz4 qz5 qgl;obtain⟨w19,j0⟩:∃ w19:World,w19=wr.setCell ⟨w0.heap.size+1,2,none⟩ (.int .i64 (d.a0*1000000+1100000000)):=⟨_,rfl⟩;rw[← j0];have G1:=p1_f j0 u3.out (by have:=r3.out;omega);have F0:=p1_f j0 HR.out (by have:=r3.out;omega);have H1:CB w19 (w0.heap.size+1) 32 (GC (dr1 d 0)):=by rw[j0];exact(CB.setc (i:=0) HG.out (by decide) _)
     have I1:=zz (p1_b j0 HW.out (by have:=r3.out;omega));have i3:=p1_z j0;clear j0;go_wp2;go_loopw [5] (fun iv wr=>∃ (k m:Nat),k≤3∧iv=.int .i64 m∧Hid (m=2*k+1)∧Hid (CB wr (w0.heap.size+1) 32 (GC (dr1 d k)))∧Hid (CB wr w.heap.size 25 #[.int .u8 d.f,.int .i8 d.a0,.int .i8 d.a1,.int .i8 d.a2,.int .i8 d.a3,.int .i8 d.a4,.int .i8 d.a5,.int .u8 d.nm,.int .u8 d.lo,.int .u8 d.wd])∧Hid (CB wr (w.heap.size+1) 32 #[.string ⟨#[]⟩,.int .i64 0,.int .i64 0,.int .i64 0,.int .i64 0,.int .i64 0,.int .i64 0,.int .i64 0,.int .i64 0,.int .i64 0])∧Hid (Below w.heap.size w wr)) (fun iv _=>6-(intOf iv).toNat)
     case atStart=>exact⟨0,1,by decide,rfl,zz rfl,zz H1,zz G1,zz F0,I1⟩
     case round=>
      obtain⟨k,m,hk,rfl,HM,HG,u3,HR,HW⟩:=hrel;have zr:=HW.out.size;by_cases hlt:k<3
      have zc_wr:=HW.out.size;have zg_wr:=HG.out.lt
      ·have hm:=HM.out;have hli:(m:Int)<6:=by omega
       have hl0:(0:Int)≤(m:Int):=by omega
       have A3:=zz (show m<6 by omega);obtain⟨a,ha⟩:∃ a,d.a m=a:=⟨_,rfl⟩;have hba:=HD.out.a m;rw[ha] at hba;have HA:=zz ha;clear ha;have HC:=zz (show(dr1 d k).c m=a*1000000 by rw[HM.out,dr1_c d hlt,← HM.out,HA.out]);clear hm;have qd:wr.cell? ⟨w0.heap.size+1,2+m,none⟩=some (.int .i64 (a*1000000)):=by rw[← HC.out];exact GC_c HG.out A3.out
       have htd:(a*1000000).tdiv 2=a*500000:=by rw[show a*1000000=a*500000*2 by omega,Int.mul_tdiv_cancel _ (by decide)]
       have qg:=HG.out.frozen (2+m);have qgl:=HG.out.lt;go_upto_region 19 with (fail)
       clear qd qg qgl htd;obtain⟨w20,k0⟩:∃ w20:World,w20=wr.setCell ⟨w0.heap.size+1,2+m,none⟩ (.int .i64 (a*500000)):=⟨_,rfl⟩;rw[← k0];have J1:=p1_f k0 u3.out (by have:=r3.out;omega);have G0:=p1_f k0 HR.out (by have:=r3.out;omega);have K1:CB w20 (w0.heap.size+1) 32 (GC (dr1 d (k+1))):=by rw[k0];exact(by rw[show dr1 d (k+1)=(dr1 d k).setc m (a*500000) by rw[← HA.out,HM.out];rfl];exact CB.setc HG.out A3.out _)
       have L1:=zz (p1_b k0 HW.out (by have:=r3.out;omega));have j3:=p1_z k0;clear k0;go_wp2;go_roundw
       case rel=>exact⟨k+1,m+2,by omega,by go_num,zz (by have:=HM.out;omega),zz K1,zz J1,zz G0,L1⟩
       case measure=>simp[intOf];omega
      ·obtain rfl:k=3:=by omega
       have zc_wr:=HW.out.size;have zg_wr:=HG.out.lt;have hm:=HM.out;obtain rfl:m=7:=by omega
       rw[show((7:Nat):Int)=7 from rfl];obtain rfl:t=dr1 d 3:=by rw[HT.out];exact dr1_end y3.out
       go_wp2_with (first | (refine wpList_load_row rfl _ _ rfl _ rfl _ _ (0,0) _ HG.out rfl rfl rfl ?_) | (refine wpList_store_row rfl _ _ _ rfl _ _ rfl rfl _ _ HR.out rfl rfl (by kernel_rfl) ?_;simp only[Act.put]))
       exact GB.fin rfl HR.out HW.out (by omega) rfl
    ·have y3:=zz (show d.f % 3=1 by omega);clear hfz;have htd:(d.a2*1000000).tdiv 100=d.a2*10000:=by rw[show d.a2*1000000=d.a2*10000*100 by omega,Int.mul_tdiv_cancel _ (by decide)]
     have qc3:wr.cell? ⟨w0.heap.size+1,5,none⟩=some (.int .i64 (d.a3*1000000)):=HG.out.cell 5 rfl;have qc4:wr.cell? ⟨w0.heap.size+1,6,none⟩=some (.int .i64 (d.a4*1000000)):=HG.out.cell 6 rfl;have qc5:wr.cell? ⟨w0.heap.size+1,7,none⟩=some (.int .i64 (d.a5*1000000)):=HG.out.cell 7 rfl;go_upto_region 27 with (fail)
     clear qf q0 q2 qz qz2 qz3 qz4 qz5 qgl htd qc3 qc4 qc5;obtain⟨w21,l0⟩:∃ w21:World,w21=wr.setCell ⟨w0.heap.size+1,2,none⟩ (.int .i64 (d.a0*1000000*3+1600000000)):=⟨_,rfl⟩;rw[← l0];have M1:=p1_f l0 u3.out (by have:=r3.out;omega);have H0:=p1_f l0 HR.out (by have:=r3.out;omega);have N1:CB w21 (w0.heap.size+1) 32 (GC ((drK d 6).setc 0 (d.a0*1000000*3+1600000000))):=by rw[l0];exact(CB.setc (i:=0) HG.out (by decide) _)
     have O1:=zz (p1_b l0 HW.out (by have:=r3.out;omega));have k3:=p1_z l0;clear l0;obtain⟨w22,m0⟩:∃ w22:World,w22=w21.setCell ⟨w0.heap.size+1,4,none⟩ (.int .i64 (d.a2*10000)):=⟨_,rfl⟩;rw[← m0];have P1:=p1_f m0 M1 (by have:=r3.out;omega);have I0:=p1_f m0 H0 (by have:=r3.out;omega);have Q1:CB w22 (w0.heap.size+1) 32 (GC (((drK d 6).setc 0 (d.a0*1000000*3+1600000000)).setc 2 (d.a2*10000))):=by rw[m0];exact(CB.setc (i:=2) N1 (by decide) _)
     have R1:=zz (p1_b m0 O1.out (by have:=r3.out;omega));have l3:=p1_z m0;clear m0;obtain⟨w23,n0⟩:∃ w23:World,w23=w22.setCell ⟨w0.heap.size+1,5,none⟩ (.int .i64 0):=⟨_,rfl⟩;rw[← n0];have S1:=p1_f n0 P1 (by have:=r3.out;omega);have J0:=p1_f n0 I0 (by have:=r3.out;omega);have T1:CB w23 (w0.heap.size+1) 32 (GC ((((drK d 6).setc 0 (d.a0*1000000*3+1600000000)).setc 2 (d.a2*10000)).setc 3 0)):=by rw[n0];exact(CB.setc (i:=3) Q1 (by decide) _)
     have U1:=zz (p1_b n0 R1.out (by have:=r3.out;omega));have m3:=p1_z n0;clear n0;obtain⟨w24,o0⟩:∃ w24:World,w24=w23.setCell ⟨w0.heap.size+1,6,none⟩ (.int .i64 0):=⟨_,rfl⟩;rw[← o0];have V1:=p1_f o0 S1 (by have:=r3.out;omega);have K0:=p1_f o0 J0 (by have:=r3.out;omega);have W1:CB w24 (w0.heap.size+1) 32 (GC (((((drK d 6).setc 0 (d.a0*1000000*3+1600000000)).setc 2 (d.a2*10000)).setc 3 0).setc 4 0)):=by rw[o0];exact(CB.setc (i:=4) T1 (by decide) _)
     have X1:=zz (p1_b o0 U1.out (by have:=r3.out;omega));have n3:=p1_z o0;clear o0;obtain⟨w25,p0⟩:∃ w25:World,w25=w24.setCell ⟨w0.heap.size+1,7,none⟩ (.int .i64 0):=⟨_,rfl⟩;rw[← p0];have d3:=p1_f p0 V1 (by have:=r3.out;omega);have u0:=p1_f p0 K0 (by have:=r3.out;omega);have Y1:CB w25 (w0.heap.size+1) 32 (GC ((((((drK d 6).setc 0 (d.a0*1000000*3+1600000000)).setc 2 (d.a2*10000)).setc 3 0).setc 4 0).setc 5 0)):=by rw[p0];exact(CB.setc (i:=5) W1 (by decide) _)
     have Z1:=zz (p1_b p0 X1.out (by have:=r3.out;omega));have o3:=p1_z p0;clear p0;obtain rfl:t=(((((drK d 6).setc 0 (d.a0*1000000*3+1600000000)).setc 2 (d.a2*10000)).setc 3 0).setc 4 0).setc 5 0:=by rw[HT.out];exact dr2_end y3.out
     go_wp2_with (first | (refine wpList_load_row rfl _ _ rfl _ rfl _ _ (0,0) _ Y1 rfl rfl rfl ?_) | (refine wpList_store_row rfl _ _ _ rfl _ _ rfl rfl _ _ u0 rfl rfl (by kernel_rfl) ?_;simp only[Act.put]))
     exact GB.fin rfl u0 Z1.out (by omega) rfl
    ·have y3:=zz (show d.f % 3=2 by omega);clear hfz;go_upto_region 11 with (fail)
     clear qf q0 q2 qz qz2 qz3 qz4 qz5 qgl;obtain⟨w26,r0⟩:∃ w26:World,w26=wr.setCell ⟨w0.heap.size+1,2,none⟩ (.int .i64 (d.a0*1000000*3+2500000000)):=⟨_,rfl⟩;rw[← r0];have c2:=p1_f r0 u3.out (by have:=r3.out;omega);have L0:=p1_f r0 HR.out (by have:=r3.out;omega);have d2:CB w26 (w0.heap.size+1) 32 (GC (dr3 d 0)):=by rw[r0];exact(CB.setc (i:=0) HG.out (by decide) _)
     have e2:=zz (p1_b r0 HW.out (by have:=r3.out;omega));have p3:=p1_z r0;clear r0;go_wp2;go_loopw [6] (fun iv wr=>∃ (k m:Nat),k≤4∧iv=.int .i64 m∧Hid (m=k+2)∧Hid (CB wr (w0.heap.size+1) 32 (GC (dr3 d k)))∧Hid (CB wr w.heap.size 25 #[.int .u8 d.f,.int .i8 d.a0,.int .i8 d.a1,.int .i8 d.a2,.int .i8 d.a3,.int .i8 d.a4,.int .i8 d.a5,.int .u8 d.nm,.int .u8 d.lo,.int .u8 d.wd])∧Hid (CB wr (w.heap.size+1) 32 #[.string ⟨#[]⟩,.int .i64 0,.int .i64 0,.int .i64 0,.int .i64 0,.int .i64 0,.int .i64 0,.int .i64 0,.int .i64 0,.int .i64 0])∧Hid (Below w.heap.size w wr)) (fun iv _=>6-(intOf iv).toNat)
     case atStart=>exact⟨0,2,by decide,rfl,zz rfl,zz d2,zz c2,zz L0,e2⟩
     case round=>
      obtain⟨k,m,hk,rfl,HM,HG,u3,HR,HW⟩:=hrel;have zr:=HW.out.size;by_cases hlt:k<4
      have zc_wr:=HW.out.size;have zg_wr:=HG.out.lt
      ·have hm:=HM.out;have hli:(m:Int)<6:=by omega
       have hl0:(0:Int)≤(m:Int):=by omega
       have A3:=zz (show m<6 by omega);obtain⟨a,ha⟩:∃ a,d.a m=a:=⟨_,rfl⟩;have hba:=HD.out.a m;rw[ha] at hba;have HA:=zz ha;clear ha;have HC:=zz (show(dr3 d k).c m=a*1000000 by rw[HM.out,dr3_c d hlt,← HM.out,HA.out]);clear hm;have qd:wr.cell? ⟨w0.heap.size+1,2+m,none⟩=some (.int .i64 (a*1000000)):=by rw[← HC.out];exact GC_c HG.out A3.out
       have htd:(a*1000000).tdiv 100=a*10000:=by rw[show a*1000000=a*10000*100 by omega,Int.mul_tdiv_cancel _ (by decide)]
       have qg:=HG.out.frozen (2+m);have qgl:=HG.out.lt;go_upto_region 13 with (fail)
       clear qd qg qgl htd;obtain⟨w27,s0⟩:∃ w27:World,w27=wr.setCell ⟨w0.heap.size+1,2+m,none⟩ (.int .i64 (a*10000)):=⟨_,rfl⟩;rw[← s0];have f2:=p1_f s0 u3.out (by have:=r3.out;omega);have M0:=p1_f s0 HR.out (by have:=r3.out;omega);have g2:CB w27 (w0.heap.size+1) 32 (GC (dr3 d (k+1))):=by rw[s0];exact(by rw[show dr3 d (k+1)=(dr3 d k).setc m (a*10000) by rw[← HA.out,HM.out];rfl];exact CB.setc HG.out A3.out _)
       have h2:=zz (p1_b s0 HW.out (by have:=r3.out;omega));have q3:=p1_z s0;clear s0;go_wp2;go_roundw
       case rel=>exact⟨k+1,m+1,by omega,by go_num,zz (by have:=HM.out;omega),zz g2,zz f2,zz M0,h2⟩
       case measure=>simp[intOf];omega
      ·obtain rfl:k=4:=by omega
       have zc_wr:=HW.out.size;have zg_wr:=HG.out.lt;have hm:=HM.out;obtain rfl:m=6:=by omega
       rw[show((6:Nat):Int)=6 from rfl];obtain rfl:t=dr3 d 4:=by rw[HT.out];exact dr3_end y3.out
       go_wp2_with (first | (refine wpList_load_row rfl _ _ rfl _ rfl _ _ (0,0) _ HG.out rfl rfl rfl ?_) | (refine wpList_store_row rfl _ _ _ rfl _ _ rfl rfl _ _ HR.out rfl rfl (by kernel_rfl) ?_;simp only[Act.put]))
       exact GB.fin rfl HR.out HW.out (by omega) rfl
end Go.Proofs.YtkhljkiehohckaaGreatDoor
namespace Go.Proofs.YtkhljkiehohckaaGreatDoor
open Go Go.RowKit Dig
theorem GB.fin2 {fn:Func} {p:Tmp} {W w:World} {B b:Nat} {cs:Array Value} {g:GL} {tmps:Array Value} (hf:fn.results=#[.cell p 32]) (hC:CB w b 32 cs) (hb:Below B W w) (hB:B≤b) (hg:g.nm.size≤1000) (hp:tmps.getD p undef=.pointer (some ⟨b,0,none⟩)) :
  bodyPost Tryz.prog fn (fun e w'=>Below B W w'∧∃ g:GL,g.nm.size≤1000∧e=.returned (.agg (GC g))) .ret ⟨tmps,[]⟩ (w.setRow b (GC g)):=
 bodyPost_ret (results_cell_row hf tmps _ b _ (GC g) (0,0) _ hp (hC.row _) Tryz.underlying32 rfl (by kernel_rfl)) rfl ⟨below_row hb hB _,g,hg,rfl⟩
theorem setc_nm (g:GL) (i:Nat) (v:Int):(g.setc i v).nm=g.nm:=by
 rcases i with _ | _ | _ | _ | _ | i <;> rfl
set_option maxRecDepth 100000 in
set_option maxHeartbeats 4000000 in
theorem Bend_any (w:World) (what ix n:Int) (tx:ByteArray) (g:GL) (hx:0≤what∧what≤255) (hi:0≤ix∧ix≤255) (ht:tx.size≤maxLen) (hs:g.nm.size≤1000) :
  Calls Tryz.prog 13 #[.agg #[.int .u8 what,.int .u8 ix,.int .i64 n,.string tx],.agg (GC g)] w fun e w'=>Below w.heap.size w w'∧∃ g:GL,g.nm.size≤1000∧e=.returned (.agg (GC g)):=by
 unfold maxLen at ht;obtain⟨w0,hw0⟩:∃ w0:World,w0=(((w.alloc (.cells #[.int .u8 what,.int .u8 ix,.int .i64 n,.string tx] 27)).alloc (.cells (GC g) 32)).alloc (.cells #[.string ⟨#[]⟩,.int .i64 0,.int .i64 0,.int .i64 0,.int .i64 0,.int .i64 0,.int .i64 0,.int .i64 0,.int .i64 0,.int .i64 0] 32)):=⟨_,rfl⟩;have B0:=zz (n3_b hw0);have z0:=n3_z hw0;have Lb:=n3_0 hw0;have Lg:=n3_1 hw0;have Lr4:=n3_2 hw0;rcases(show what % 8=0∨what % 8=1∨what % 8=2∨what % 8=3∨what % 8=4∨what % 8=5∨what % 8=6∨what % 8=7 by omega) with hk | hk | hk | hk | hk | hk | hk | hk
 ·have hz:=z0;have hm0:0≤min (↑tx.size) (40:Int):=by omega
  have hm1:min (↑tx.size) (40:Int)≤↑tx.size:=by omega
  go_enter Tryz.func13,Tryz.ntmps13
  go_upto_region 1 with (fail)
  rw[← hw0];clear hw0;have O0:=Lb.cell 0 rfl;have P0:=Lb.cell 1 rfl;have Q0:=Lb.cell 2 rfl;have R0:=Lb.cell 3 rfl;have D1:=Lb.lt;have S0:w0.cell? ⟨w.heap.size+1,0,none⟩=some (.string g.nm):=Lg.cell 0 rfl;have qz:=Lg.frozen 0;have ql:=Lg.lt;go_upto_region 13 with (fail)
  clear O0 P0 Q0 R0 D1 S0 qz ql;obtain⟨w3,e0⟩:∃ w3:World,w3=w0.setCell ⟨w.heap.size+1,0,none⟩ (.string (tx.extract 0 (min (tx.size:Int) 40).toNat)):=⟨_,rfl⟩;rw[← e0];have p1:=p1_f e0 Lb (by omega);have k0:=p1_f e0 Lr4 (by omega);have T0:CB w3 (w.heap.size+1) 32 (GC { g with nm:=tx.extract 0 (min (tx.size:Int) 40).toNat }):=by rw[e0];exact(show CB _ _ _ (GC { g with nm:=tx.extract 0 (min (tx.size:Int) 40).toNat }) from CB.set Lg 0 _)
  have U0:=zz (p1_b e0 B0.out (by omega));have v1:=p1_z e0;clear e0;go_wp2_with (first | (refine wpList_load_row rfl _ _ rfl _ rfl _ _ (0,0) _ T0 rfl rfl rfl ?_) | (refine wpList_store_row rfl _ _ _ rfl _ _ rfl rfl _ _ k0 rfl rfl (by kernel_rfl) ?_;simp only[Act.put]))
  exact GB.fin2 rfl k0 U0.out (by omega) (by show(tx.extract 0 _).size≤1000;rw[ByteArray.size_extract];omega) rfl
 ·have hz:=z0;go_enter Tryz.func13,Tryz.ntmps13
  go_upto_region 1 with (fail)
  rw[← hw0];clear hw0;have V0:=Lb.cell 0 rfl;have W0:=Lb.cell 1 rfl;have X0:=Lb.cell 2 rfl;have Y0:=Lb.cell 3 rfl;have E1:=Lb.lt;have Z0:w0.cell? ⟨w.heap.size+1,1,none⟩=some (.int .i64 g.f):=Lg.cell 1 rfl;have qz:=Lg.frozen 1;have ql:=Lg.lt;go_upto_region 13 with (fail)
  clear V0 W0 X0 Y0 E1 Z0 qz ql;obtain⟨w6,f0⟩:∃ w6:World,w6=w0.setCell ⟨w.heap.size+1,1,none⟩ (.int .i64 n):=⟨_,rfl⟩;rw[← f0];have q1:=p1_f f0 Lb (by omega);have l0:=p1_f f0 Lr4 (by omega);have a1:CB w6 (w.heap.size+1) 32 (GC { g with f:=n }):=by rw[f0];exact(show CB _ _ _ (GC { g with f:=n }) from CB.set Lg 1 _)
  have b1:=zz (p1_b f0 B0.out (by omega));have w1:=p1_z f0;clear f0;go_wp2_with (first | (refine wpList_load_row rfl _ _ rfl _ rfl _ _ (0,0) _ a1 rfl rfl rfl ?_) | (refine wpList_store_row rfl _ _ _ rfl _ _ rfl rfl _ _ l0 rfl rfl (by kernel_rfl) ?_;simp only[Act.put]))
  exact GB.fin2 rfl l0 b1.out (by omega) (hs) rfl
 ·have hz:=z0;obtain⟨i,hi2⟩:∃ i:Nat,ix % 6=(i:Int):=⟨(ix % 6).toNat,by omega⟩;have HI:=zz (show i<6 by omega);have hi0:(0:Int)≤(i:Int):=by omega
  have hi6:(i:Int)<6:=by omega
  go_enter Tryz.func13,Tryz.ntmps13
  go_upto_region 1 with (fail)
  rw[← hw0];clear hw0;have c1:=Lb.cell 0 rfl;have d1:=Lb.cell 1 rfl;have e1:=Lb.cell 2 rfl;have f1:=Lb.cell 3 rfl;have F1:=Lb.lt;obtain⟨c0,hc0⟩:∃ z,g.c i=z:=⟨_,rfl⟩;have qc:=GC_c Lg HI.out;rw[hc0] at qc;clear hc0;have qz:=Lg.frozen (2+i);have ql:=Lg.lt;go_upto_region 13 with (fail)
  clear c1 d1 e1 f1 F1 qz ql qc;obtain⟨w8,g0⟩:∃ w8:World,w8=w0.setCell ⟨w.heap.size+1,2+i,none⟩ (.int .i64 n):=⟨_,rfl⟩;rw[← g0];have r1:=p1_f g0 Lb (by omega);have m0:=p1_f g0 Lr4 (by omega);have g1:CB w8 (w.heap.size+1) 32 (GC (g.setc i n)):=by rw[g0];exact(CB.setc Lg HI.out _)
  have h1:=zz (p1_b g0 B0.out (by omega));have x1:=p1_z g0;clear g0;go_wp2_with (first | (refine wpList_load_row rfl _ _ rfl _ rfl _ _ (0,0) _ g1 rfl rfl rfl ?_) | (refine wpList_store_row rfl _ _ _ rfl _ _ rfl rfl _ _ m0 rfl rfl (by kernel_rfl) ?_;simp only[Act.put]))
  exact GB.fin2 rfl m0 h1.out (by omega) (by rw[setc_nm];exact hs) rfl
 ·have hz:=z0;obtain⟨i,hi2⟩:∃ i:Nat,ix % 6=(i:Int):=⟨(ix % 6).toNat,by omega⟩;have HI:=zz (show i<6 by omega);have hi0:(0:Int)≤(i:Int):=by omega
  have hi6:(i:Int)<6:=by omega
  go_enter Tryz.func13,Tryz.ntmps13
  go_upto_region 1 with (fail)
  rw[← hw0];clear hw0;have i1:=Lb.cell 0 rfl;have j1:=Lb.cell 1 rfl;have k1:=Lb.cell 2 rfl;have l1:=Lb.cell 3 rfl;have G1:=Lb.lt;obtain⟨c0,hc0⟩:∃ z,g.c i=z:=⟨_,rfl⟩;have qc:=GC_c Lg HI.out;rw[hc0] at qc;clear hc0;have qz:=Lg.frozen (2+i);have ql:=Lg.lt;go_upto_region 13 with (fail)
  clear i1 j1 k1 l1 G1 qz ql qc;obtain⟨w10,a0⟩:∃ w10:World,w10=w0.setCell ⟨w.heap.size+1,2+i,none⟩ (.int .i64 n):=⟨_,rfl⟩;rw[← a0];have m1:=p1_f a0 Lb (by omega);have h0:=p1_f a0 Lr4 (by omega);have n0:CB w10 (w.heap.size+1) 32 (GC (g.setc i n)):=by rw[a0];exact(CB.setc Lg HI.out _)
  have o0:=zz (p1_b a0 B0.out (by omega));have s1:=p1_z a0;clear a0;go_wp2_with (first | (refine wpList_load_row rfl _ _ rfl _ rfl _ _ (0,0) _ n0 rfl rfl rfl ?_) | (refine wpList_store_row rfl _ _ _ rfl _ _ rfl rfl _ _ h0 rfl rfl (by kernel_rfl) ?_;simp only[Act.put]))
  exact GB.fin2 rfl h0 o0.out (by omega) (by rw[setc_nm];exact hs) rfl
 ·have hz:=z0;go_enter Tryz.func13,Tryz.ntmps13
  go_upto_region 1 with (fail)
  rw[← hw0];clear hw0;have p0:=Lb.cell 0 rfl;have q0:=Lb.cell 1 rfl;have r0:=Lb.cell 2 rfl;have s0:=Lb.cell 3 rfl;have z1:=Lb.lt;have t0:w0.cell? ⟨w.heap.size+1,8,none⟩=some (.int .i64 g.lo):=Lg.cell 8 rfl;have qz:=Lg.frozen 8;have ql:=Lg.lt;go_upto_region 13 with (fail)
  clear p0 q0 r0 s0 z1 t0 qz ql;obtain⟨w13,b0⟩:∃ w13:World,w13=w0.setCell ⟨w.heap.size+1,8,none⟩ (.int .i64 n):=⟨_,rfl⟩;rw[← b0];have n1:=p1_f b0 Lb (by omega);have i0:=p1_f b0 Lr4 (by omega);have u0:CB w13 (w.heap.size+1) 32 (GC { g with lo:=n }):=by rw[b0];exact(show CB _ _ _ (GC { g with lo:=n }) from CB.set Lg 8 _)
  have v0:=zz (p1_b b0 B0.out (by omega));have t1:=p1_z b0;clear b0;go_wp2_with (first | (refine wpList_load_row rfl _ _ rfl _ rfl _ _ (0,0) _ u0 rfl rfl rfl ?_) | (refine wpList_store_row rfl _ _ _ rfl _ _ rfl rfl _ _ i0 rfl rfl (by kernel_rfl) ?_;simp only[Act.put]))
  exact GB.fin2 rfl i0 v0.out (by omega) (hs) rfl
 ·have hz:=z0;go_enter Tryz.func13,Tryz.ntmps13
  go_upto_region 1 with (fail)
  rw[← hw0];clear hw0;have x0:=Lb.cell 0 rfl;have y0:=Lb.cell 1 rfl;have A0:=Lb.cell 2 rfl;have C0:=Lb.cell 3 rfl;have A1:=Lb.lt;have D0:w0.cell? ⟨w.heap.size+1,9,none⟩=some (.int .i64 g.hi):=Lg.cell 9 rfl;have qz:=Lg.frozen 9;have ql:=Lg.lt;go_upto_region 13 with (fail)
  clear x0 y0 A0 C0 A1 D0 qz ql;obtain⟨w16,d0⟩:∃ w16:World,w16=w0.setCell ⟨w.heap.size+1,9,none⟩ (.int .i64 n):=⟨_,rfl⟩;rw[← d0];have o1:=p1_f d0 Lb (by omega);have j0:=p1_f d0 Lr4 (by omega);have E0:CB w16 (w.heap.size+1) 32 (GC { g with hi:=n }):=by rw[d0];exact(show CB _ _ _ (GC { g with hi:=n }) from CB.set Lg 9 _)
  have F0:=zz (p1_b d0 B0.out (by omega));have u1:=p1_z d0;clear d0;go_wp2_with (first | (refine wpList_load_row rfl _ _ rfl _ rfl _ _ (0,0) _ E0 rfl rfl rfl ?_) | (refine wpList_store_row rfl _ _ _ rfl _ _ rfl rfl _ _ j0 rfl rfl (by kernel_rfl) ?_;simp only[Act.put]))
  exact GB.fin2 rfl j0 F0.out (by omega) (hs) rfl
 ·have hz:=z0;go_enter Tryz.func13,Tryz.ntmps13
  go_upto_region 1 with (fail)
  rw[← hw0];clear hw0;have G0:=Lb.cell 0 rfl;have H0:=Lb.cell 1 rfl;have I0:=Lb.cell 2 rfl;have J0:=Lb.cell 3 rfl;have B1:=Lb.lt;go_upto_region 13 with (fail)
  clear G0 H0 I0 J0 B1;go_wp2_with (first | (refine wpList_load_row rfl _ _ rfl _ rfl _ _ (0,0) _ Lg rfl rfl rfl ?_) | (refine wpList_store_row rfl _ _ _ rfl _ _ rfl rfl _ _ Lr4 rfl rfl (by kernel_rfl) ?_;simp only[Act.put]))
  exact GB.fin2 rfl Lr4 B0.out (by omega) (hs) rfl
 ·have hz:=z0;go_enter Tryz.func13,Tryz.ntmps13
  go_upto_region 1 with (fail)
  rw[← hw0];clear hw0;have K0:=Lb.cell 0 rfl;have L0:=Lb.cell 1 rfl;have M0:=Lb.cell 2 rfl;have N0:=Lb.cell 3 rfl;have C1:=Lb.lt;go_upto_region 13 with (fail)
  clear K0 L0 M0 N0 C1;go_wp2_with (first | (refine wpList_load_row rfl _ _ rfl _ rfl _ _ (0,0) _ Lg rfl rfl rfl ?_) | (refine wpList_store_row rfl _ _ _ rfl _ _ rfl rfl _ _ Lr4 rfl rfl (by kernel_rfl) ?_;simp only[Act.put]))
  exact GB.fin2 rfl Lr4 B0.out (by omega) (hs) rfl
theorem RI.five {w:World} {b:Nat} {T:TypeId} {x0 x1 x2 x3 x4:Int} (h:CB w b T #[.int .i64 x0,.int .i64 x1,.int .i64 x2,.int .i64 x3,.int .i64 x4]):RI w w.heap.size (.slice (some ⟨b,0,none⟩) 5 5) [x0,x1,x2,x3,x4]:=
 ⟨some ⟨b,0,none⟩,5,rfl,Nat.le_refl _,by omega,fun _=>⟨b,0,rfl,h.lt,fun j hj=>by
  rcases j with _ | _ | _ | _ | _ | j
  ·exact h.cell 0 rfl
  ·exact h.cell 1 rfl
  ·exact h.cell 2 rfl
  ·exact h.cell 3 rfl
  ·exact h.cell 4 rfl
  ·simp at hj;omega⟩⟩
set_option maxRecDepth 100000 in
set_option maxHeartbeats 4000000 in
theorem lengths_any (w:World) (g:GL) (n:Int) :
  Calls Tryz.prog 16 #[.agg (GC g),.int .i64 n] w fun e w'=>Below w.heap.size w w'∧∃ v l,e=.returned v∧l.length=5∧RI w' w'.heap.size v l:=by
 obtain⟨w0,hw0⟩:∃ w0:World,w0=(w.alloc (.cells (GC g) 32)):=⟨_,rfl⟩;have B0:=zz (n1_b hw0);have z0:=n1_z hw0;have Lg:=n1_0 hw0;obtain⟨u,hu⟩:∃ u,IntKind.u64.wrap n=u:=⟨_,rfl⟩;by_cases hc:0≤g.lo∧g.lo<g.hi∧g.hi≤3000000
 ·have h00:=z0;obtain⟨hc1,hc2,hc3⟩:=hc;obtain⟨m,hm⟩:∃ m,g.hi-g.lo+1=m:=⟨_,rfl⟩;have hm0:(m=0)=False:=by rw[eq_iff_iff,iff_false];omega
  first
   | have k0:decide (0≤g.lo)=true:=by rw[decide_eq_true_eq];omega
   | have k0:decide (0≤g.lo)=false:=by rw[decide_eq_false_iff_not];omega
  first
   | have k1:decide (g.lo<g.hi)=true:=by rw[decide_eq_true_eq];omega
   | have k1:decide (g.lo<g.hi)=false:=by rw[decide_eq_false_iff_not];omega
  first
   | have k2:decide (g.hi≤3000000)=true:=by rw[decide_eq_true_eq];omega
   | have k2:decide (g.hi≤3000000)=false:=by rw[decide_eq_false_iff_not];omega
  go_enter Tryz.func16,Tryz.ntmps16
  go_upto_region 1 with (fail)
  rw[← hw0];clear hw0;have a0:w0.cell? ⟨w.heap.size,8,none⟩=some (.int .i64 g.lo):=Lg.cell 8 rfl;have b0:w0.cell? ⟨w.heap.size,9,none⟩=some (.int .i64 g.hi):=Lg.cell 9 rfl;go_upto_region 3 with (fail)
  go_quiet (fail)
  clear a0 b0;have B1:=zz (below_drewN B0.out nq);have L1:CB (w0.drewN nq) w.heap.size 32 (GC g):=Lg;generalize w0.drewN nq=wz at *
  have q8:wz.cell? ⟨w.heap.size,8,none⟩=some (.int .i64 g.lo):=L1.cell 8 rfl;have q9:wz.cell? ⟨w.heap.size,9,none⟩=some (.int .i64 g.hi):=L1.cell 9 rfl;simp only[Exit.then]
  go_wp2;go_ret;exact⟨B1.out.alloc B1.out.size _,_,_,rfl,rfl,RI.five (CB.new _ _ _)⟩
 ·have h00:=z0;rcases(show g.lo<0∨(0≤g.lo∧g.hi≤g.lo)∨(0≤g.lo∧g.lo<g.hi∧3000000<g.hi) by omega) with h | h | h
  ·have h01:=z0
   first
    | have k0:decide (0≤g.lo)=true:=by rw[decide_eq_true_eq];omega
    | have k0:decide (0≤g.lo)=false:=by rw[decide_eq_false_iff_not];omega
   first
    | have k1:decide (g.lo<g.hi)=true:=by rw[decide_eq_true_eq];omega
    | have k1:decide (g.lo<g.hi)=false:=by rw[decide_eq_false_iff_not];omega
    | skip
   first
    | have k2:decide (g.hi≤3000000)=true:=by rw[decide_eq_true_eq];omega
    | have k2:decide (g.hi≤3000000)=false:=by rw[decide_eq_false_iff_not];omega
    | skip
   clear h hc;go_enter Tryz.func16,Tryz.ntmps16
   go_upto_region 1 with (fail)
   rw[← hw0];clear hw0;have c0:w0.cell? ⟨w.heap.size,8,none⟩=some (.int .i64 g.lo):=Lg.cell 8 rfl;have d0:w0.cell? ⟨w.heap.size,9,none⟩=some (.int .i64 g.hi):=Lg.cell 9 rfl;go_wp2;clear c0 d0;go_ret;exact⟨B0.out.alloc B0.out.size _,_,_,rfl,rfl,RI.five (CB.new _ _ _)⟩
  ·have h01:=z0
   first
    | have k0:decide (0≤g.lo)=true:=by rw[decide_eq_true_eq];omega
    | have k0:decide (0≤g.lo)=false:=by rw[decide_eq_false_iff_not];omega
   first
    | have k1:decide (g.lo<g.hi)=true:=by rw[decide_eq_true_eq];omega
    | have k1:decide (g.lo<g.hi)=false:=by rw[decide_eq_false_iff_not];omega
    | skip
   first
    | have k2:decide (g.hi≤3000000)=true:=by rw[decide_eq_true_eq];omega
    | have k2:decide (g.hi≤3000000)=false:=by rw[decide_eq_false_iff_not];omega
    | skip
   clear h hc;go_enter Tryz.func16,Tryz.ntmps16
   go_upto_region 1 with (fail)
   rw[← hw0];clear hw0;have e0:w0.cell? ⟨w.heap.size,8,none⟩=some (.int .i64 g.lo):=Lg.cell 8 rfl;have f0:w0.cell? ⟨w.heap.size,9,none⟩=some (.int .i64 g.hi):=Lg.cell 9 rfl;go_wp2;clear e0 f0;go_ret;exact⟨B0.out.alloc B0.out.size _,_,_,rfl,rfl,RI.five (CB.new _ _ _)⟩
  ·have h01:=z0
   first
    | have k0:decide (0≤g.lo)=true:=by rw[decide_eq_true_eq];omega
    | have k0:decide (0≤g.lo)=false:=by rw[decide_eq_false_iff_not];omega
   first
    | have k1:decide (g.lo<g.hi)=true:=by rw[decide_eq_true_eq];omega
    | have k1:decide (g.lo<g.hi)=false:=by rw[decide_eq_false_iff_not];omega
    | skip
   first
    | have k2:decide (g.hi≤3000000)=true:=by rw[decide_eq_true_eq];omega
    | have k2:decide (g.hi≤3000000)=false:=by rw[decide_eq_false_iff_not];omega
    | skip
   clear h hc;go_enter Tryz.func16,Tryz.ntmps16
   go_upto_region 1 with (fail)
   rw[← hw0];clear hw0;have g0:w0.cell? ⟨w.heap.size,8,none⟩=some (.int .i64 g.lo):=Lg.cell 8 rfl;have h0:w0.cell? ⟨w.heap.size,9,none⟩=some (.int .i64 g.hi):=Lg.cell 9 rfl;go_wp2;clear g0 h0;go_ret;exact⟨B0.out.alloc B0.out.size _,_,_,rfl,rfl,RI.five (CB.new _ _ _)⟩
theorem splice_plain (f:Int):∀ (ls:List Int),ls.length≤6→(splice [.string nA,.int .i64 f,.int .i64 0,.int .i64 0,.int .i64 0,.int .i64 0,.int .i64 0,.int .i64 0,.int .i64 400000,.int .i64 700000] 2 (ls.map (Value.int .i64))).toArray=GC (plG f (ls.getD 0 0) (ls.getD 1 0) (ls.getD 2 0) (ls.getD 3 0) (ls.getD 4 0) (ls.getD 5 0))
 | [],_=>rfl
 | [_],_=>rfl
 | [_,_],_=>rfl
 | [_,_,_],_=>rfl
 | [_,_,_,_],_=>rfl
 | [_,_,_,_,_],_=>rfl
 | [_,_,_,_,_,_],_=>rfl
 | _ :: _ :: _ :: _ :: _ :: _ :: _ :: _,h=>absurd h (by simp)
set_option maxRecDepth 100000 in
set_option maxHeartbeats 4000000 in
theorem plain_any (w:World) (f:Int) (ls:List Int) (A:Option Addr) (c:Nat) (hl:ls.length≤6) (hA:0<ls.length→∃ ad,A=some ad∧∀ j (hj:j<ls.length),w.cell? (ad.add j)=some (.int .i64 ls[j])) :
  Calls Tryz.prog 35 #[.int .i64 f,.slice A ls.length c] w fun e w'=>Below w.heap.size w w'∧e=.returned (.agg (GC (plG f (ls.getD 0 0) (ls.getD 1 0) (ls.getD 2 0) (ls.getD 3 0) (ls.getD 4 0) (ls.getD 5 0)))):=by
 have HS:=splice_plain f ls hl;generalize plG f (ls.getD 0 0) (ls.getD 1 0) (ls.getD 2 0) (ls.getD 3 0) (ls.getD 4 0) (ls.getD 5 0)=gg at *;replace HS:=zz HS;obtain⟨w0,hw0⟩:∃ w0:World,w0=(w.alloc (.cells #[.string ⟨#[]⟩,.int .i64 0,.int .i64 0,.int .i64 0,.int .i64 0,.int .i64 0,.int .i64 0,.int .i64 0,.int .i64 0,.int .i64 0] 32)):=⟨_,rfl⟩;have B0:=zz (n1_b hw0);have z0:=n1_z hw0;have Lr4:=n1_0 hw0;go_enter Tryz.func35,Tryz.ntmps35
 go_upto_region 1 with (fail)
 rw[← hw0];clear hw0;go_upto_region 2 with (fail)
 obtain⟨w1,a0⟩:∃ w1:World,w1=(w0.alloc (.cells #[.string ⟨#[65]⟩,.int .i64 f,.int .i64 0,.int .i64 0,.int .i64 0,.int .i64 0,.int .i64 0,.int .i64 0,.int .i64 400000,.int .i64 700000] 32)):=⟨_,rfl⟩;rw[← a0];have c0:=n1_0 a0;have za1:=n1_z a0;have B2:=zz (n1_b a0);have z2:=B2.out.size;have d0:=zz (B0.out.trans (B2.out.mono B0.out.size));clear a0;go_wp2_with (with_reducible refine wpList_copy_splice rfl (.tmp 9) (.tmp 10) 38 38 rfl 3 Tryz.underlying38 (by kernel_rfl) _ _ _ _ _ _ rfl rfl (w0.heap.size) 2 [.string nA,.int .i64 f,.int .i64 0,.int .i64 0,.int .i64 0,.int .i64 0,.int .i64 0,.int .i64 0,.int .i64 400000,.int .i64 700000] 32 ?_ (ls.map (Value.int .i64)) ?_ ?_ ?_ ?_ w0.heap.size w0 B2.out (Nat.le_refl _) ?_)
 case refine_1=>exact c0
 case refine_2=>rw[List.length_map];exact(Nat.min_eq_left hl).symm
 case refine_3=>
  intro h0;obtain⟨ad,e,hj⟩:=hA (by simpa using h0);refine⟨ad,e,fun j a hja=>?_⟩;obtain⟨hlt,rfl⟩:=List.getElem?_eq_some_iff.1 hja;exact(d0.out.cell (block_lt_of_cell (hj j hlt))).trans (hj j hlt)
 case refine_4=>show 2+_≤10;rw[List.length_map];omega
 case refine_5=>intro v hv;obtain⟨a,-,rfl⟩:=List.mem_map.1 hv;rfl
 intro w2 e0 hB2;have LG:CB w2 (w0.heap.size) 32 (GC gg):=by rw[← HS.out];exact e0.out
 have b0:=zz hB2;clear e0 hB2;have LO:=CB.step Lr4 b0.out;have i0:=zz (B0.out.trans (b0.out.mono B0.out.size));go_wp2_with (first | (refine wpList_load_row rfl _ _ rfl _ rfl _ _ (0,0) _ LG rfl rfl rfl ?_) | (refine wpList_store_row rfl _ _ _ rfl _ _ rfl rfl _ _ LO rfl rfl (by kernel_rfl) ?_;simp only[Act.put]))
 exact GB.fin rfl LO i0.out (Nat.le_refl _) rfl
end Go.Proofs.YtkhljkiehohckaaGreatDoor
