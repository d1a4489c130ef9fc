/- Layer 04: Make, Of, Cmp, Floor (written by gen_ql.py). -/
import Derived.Test.YtencnahjgbdeoaaGreatDoorQK
namespace Go.Proofs.YtencnahjgbdeoaaGreatDoor
open Go Go.RowKit Dig
set_option maxRecDepth 100000
set_option maxHeartbeats 4000000
theorem qE (x:Int) {y:Int} (h:y≠0):Rat.divInt x y=mkRat (x*y.sign) y.natAbs:=by
 rcases aLd h with h1 | h1
 ·rw[aJc h1,Int.mul_neg,Int.mul_one,← aMv,show((y.natAbs:Nat):Int)=-y by omega,Rat.divInt_neg',Int.neg_neg]
 ·rw[aKa h1,Int.mul_one,← aMv,show((y.natAbs:Nat):Int)=y by omega]
noncomputable def MY (x y:Int):Option Rat × Int:=if y=0 then (none,7) else gY (Rat.divInt x y)
theorem XB (y:Int):decide (y<0)=decide (y.sign<0):=by
 rcases Int.lt_trichotomy y 0 with h | h | h
 ·rw[aJc h,aEj h];rfl
 ·subst h;rfl
 ·rw[aKa h,aEe (by omega)];rfl
theorem MV (w:World) (va vb:Value) (x y:Int) (ha:LV w w.heap.size va x) (hb:LV w w.heap.size vb y) (lx:(dig x.natAbs).length≤600) (ly:(dig y.natAbs).length≤600) :
  CV 122 #[va,vb] w fun e w'=>uU w' (MY x y) e:=by
 obtain⟨t,ht⟩:=ex (MY x y);rw[← ht];have HT:=zz ht;clear ht;obtain⟨n,A,l,c,rfl,ha⟩:=ha.opened;obtain⟨m,B,k,d,rfl,hb⟩:=hb.opened;have HA:=zz ha;have HB:=zz hb;have u1:=zz lx;have v1:=zz ly;clear ha hb lx ly;obtain⟨w0,hw0⟩:=ex (((w.alloc (.cells #[.bool n,.slice A l c] 26)).alloc (.cells #[.bool m,.slice B k d] 26)).alloc (.cells #[.bool false,.slice none 0 0,.bool false,.slice none 0 0] 28));have B0:=zz (rS hw0);have z0:=rR hw0;have Ln:=rX hw0;have Ld:=rW hw0;have Lr4:=rT hw0;replace HA:=st aFu HA B0;replace HB:=st aFu HB B0;have O1:=zz (show x*y.sign≠0→(!(n==m))=decide (x*y.sign<0) from fun h=>OT (fun _=>(LV.is HA.o).1) (fun _=>by rw[← XB];exact(LV.is HB.o).1) h);have P1:=zz (LV.is HA.o).2.2;have G1:=zz (LV.is HB.o).2.2;go_enter Tryz.func122,Tryz.ntmps122
 go_upto_region 1 with (fail)
 rw[← hw0];clear hw0;have O0:=cz2 Ln;have Q0:=cz2 Ld;go_wp2;clear O0 Q0;go_loopw [12] (fun iv wr=>∃ j:Nat,j≤2∧iv=.int .i64 j∧Hi (Below w0.heap.size w0 wr)) (fun iv _=>2-(intOf iv).toNat)
 case atStart=>exact⟨0,by omega,rfl,zz (aDy _ _)⟩
 case round=>
  obtain⟨j,hj,rfl,HJ⟩:=hrel;have zj:=HJ.o.size;have q1:=tr B0 HJ;obtain rfl | rfl | rfl:j=0∨j=1∨j=2:=by omega
  ·rw[show((0:Nat):Int)=0 from rfl];have hidx:∀ w:World,(Instr.index 152 (.agg #[.bool n,.slice A l c,.bool m,.slice B k d]) (.int .i64 0)).run Tryz.prog w=.ok (.agg #[.bool n,.slice A l c]) w:=fun _=>by kernel_rfl
   go_upto_region 4 with (fail)
   clear hidx;obtain⟨w3,k0⟩:=ex (wr.alloc (.cells #[.bool n,.slice A l c] 26));rw[← k0];have e0:=cL k0;have za3:=cJ k0;have B4:=zz (cK k0);have z4:=B4.o.size;have Y0:=tr q1 B4;clear k0;have S0:=cz2 e0;go_wp2_with fail
   have P2:=tr HJ B4;have U0:=st aFu HA P2;refine(nx Y0 (dO (n:=decide (x<0)) (l:=ni (dig (x).natAbs)) U0.o (sG u1.o))).mono ?_;rintro e w7 ⟨⟨B10,z10,n1⟩,rfl⟩;clear S0;go_wp2;go_roundw;have W2:=tr P2 B10
   case rel=>exact⟨1,by omega,by go_num,zz W2.o⟩
   case measure=>simp[intOf]
  ·rw[show((1:Nat):Int)=1 from rfl];have hidx:∀ w:World,(Instr.index 152 (.agg #[.bool n,.slice A l c,.bool m,.slice B k d]) (.int .i64 1)).run Tryz.prog w=.ok (.agg #[.bool m,.slice B k d]) w:=fun _=>by kernel_rfl
   go_upto_region 4 with (fail)
   clear hidx;obtain⟨w13,c0⟩:=ex (wr.alloc (.cells #[.bool m,.slice B k d] 26));rw[← c0];have d0:=cL c0;have za13:=cJ c0;have B14:=zz (cK c0);have z14:=B14.o.size;have V0:=tr q1 B14;clear c0;have u0:=cz2 d0;go_wp2_with fail
   have Y2:=tr HJ B14;have x0:=st aFu HB Y2;refine(nx V0 (dO (n:=decide (y<0)) (l:=ni (dig (y).natAbs)) x0.o (sG v1.o))).mono ?_;rintro e w17 ⟨⟨B20,z20,o1⟩,rfl⟩;clear u0;go_wp2;go_roundw;have X2:=tr Y2 B20
   case rel=>exact⟨2,by omega,by go_num,zz X2.o⟩
   case measure=>simp[intOf]
  ·rw[show((2:Nat):Int)=2 from rfl];by_cases h0:y=0
   ·have H1:=zz (show t=(none,7) by rw[HT.o,MY,aEv h0]);have o0:=st aHu G1 HJ;have Z0:((k:Int)==0)=true:=by rw[aIh,RN.len o0.o,h0,show(0:Int).natAbs=0 from rfl,bF];rfl
    clear h0;have f0:=aEd Ln HJ.o;have a1:=cz2 f0;have g0:=aEd Ld HJ.o;have c1:=cz2 g0;have a0:=aEd Lr4 HJ.o;have e1:=cz4 a0;have i1:=fz4 a0;go_wp2;exact aLp rfl a0 (by simp[aF,aE]) q1.o (by omega) (by rw[H1.o];exact kA _ _) rfl (by rw[H1.o];rfl)
   ·have c2:=zz h0;replace HT:=zz (show t=gY (mkRat (x*y.sign) y.natAbs) by rw[HT.o,MY,aEu h0,qE _ h0]);have l0:=st aHu G1 HJ;have Z0:((k:Int)==0)=false:=by
     rw[aEo,RN.len l0.o];have:=bX (n:=y.natAbs) (by omega);omega
    have hnz:y.natAbs≠0:=by omega
    have r1:=zz hnz;have x1:=zz (show(x*y.sign).natAbs=x.natAbs by rw[aGi,aJd h0,aJi]);clear h0 hnz;have p0:=st aHu P1 HJ;have U1:=zz (show TV wr wr.heap.size (.agg #[.bool (!(n==m)),.slice A l c,.slice B k d]) (x*y.sign) y.natAbs from aMd (by rw[x1.o];exact p0.o) l0.o O1.o);have i0:=aEd Ln HJ.o;have y0:=cz2 i0;have j0:=aEd Ld HJ.o;have C0:=cz2 j0;go_wp2_with fail
    refine(nx q1 (nJ _ _ (x*y.sign) y.natAbs U1.o r1.o (by rw[x1.o];have:=u1.o;omega) (by have:=v1.o;omega))).mono ?_;rintro e w33 ⟨⟨B38,z38,W0⟩,v,rfl,hv⟩;clear y0 C0;replace hv:RV w33 w33.heap.size v (mkRat (x*y.sign) y.natAbs):=by unfold RV;rw[(kI r1.o).1,(kI r1.o).2];exact hv
    obtain⟨I1,J1,K1,L1,M1,E0,N1,rfl,ha40,r0,hc40⟩:=hv;have s0:Hi (RV w33 w33.heap.size (.agg #[.bool I1,.slice J1 K1 L1,.slice M1 E0 N1]) (mkRat (x*y.sign) y.natAbs)):=zz (aMd ha40 r0 hc40);clear ha40 r0 hc40;go_wp2_with fail
    refine(nx W0 (oP _ _ (mkRat (x*y.sign) y.natAbs) s0.o (QL.mk' (by rw[x1.o];have:=u1.o;omega) (by have:=v1.o;omega) r1.o))).mono ?_;rintro e w41 ⟨⟨B42,z42,X0⟩,v,rfl,hv⟩;rw[← HT.o] at hv ⊢;have hg44:=hv;obtain⟨V1,W1,X1,Y1,Z1,a2,m1,b2,rfl⟩:=aMh hg44;have m0:=zz hg44;clear hg44;have Z2:=tr HJ B38;have M2:=tr Z2 B42;have b0:=aEd Lr4 M2.o;have F0:=cz4 b0;have J0:=fz4 b0;go_wp2;clear F0 J0;exact aLp rfl b0 (by simp[aF,aE]) X0.o (by omega) m0.o rfl rfl
theorem OH {n:Int} (h0:-9223372036854775808≤n) (h1:n≤9223372036854775807):(dig n.natAbs).length≤3:=by rw[aU];show n.natAbs<1000000000000000000000000000;omega
theorem BR (w:World) (n d:Int) (hn0:-9223372036854775808≤n) (hn1:n≤9223372036854775807) (hd0:-9223372036854775808≤d) (hd1:d≤9223372036854775807) :
  CV 76 #[.int .i64 n,.int .i64 d] w fun e w'=>uU w' (MY n d) e:=by
 obtain⟨t,ht⟩:=ex (MY n d);rw[← ht];have HT:=zz ht;clear ht;have HN:=zz (aEn hn0 hn1);have HD:=zz (aEn hd0 hd1);have FN:=zz (show(dig n.natAbs).length≤600 from aEg (OH hn0 hn1) (by decide));have FD:=zz (show(dig d.natAbs).length≤600 from aEg (OH hd0 hd1) (by decide));clear hn0 hn1 hd0 hd1;obtain⟨w0,hw0⟩:=ex (w.alloc (.cells #[.bool false,.slice none 0 0,.bool false,.slice none 0 0] 28));have B0:=zz (cK hw0);have z0:=cJ hw0;have Lr4:=cL hw0;go_enter Tryz.func76,Tryz.ntmps76
 go_upto_region 1 with (fail)
 rw[← hw0];clear hw0;go_wp2_with fail
 refine(nx B0 (AQ _ n HN.o.1 HN.o.2)).mono ?_;rintro e w1 ⟨⟨B2,z2,t0⟩,v,rfl,hv⟩;obtain⟨n4,N0,l4,c4,rfl,m0⟩:=hv.opened;have q0:=zz m0;clear hv m0;go_wp2_with fail
 refine(nx t0 (AQ _ d HD.o.1 HD.o.2)).mono ?_;rintro e w5 ⟨⟨B6,z6,u0⟩,v,rfl,hv⟩;obtain⟨n8,O0,l8,c8,rfl,o0⟩:=hv.opened;have r0:=zz o0;clear hv o0;go_wp2_with fail
 have c0:=st aFu q0 B6;refine(nx u0 (MV _ _ _ n d c0.o r0.o FN.o FD.o)).mono ?_;rintro e w9 ⟨⟨B11,z11,s0⟩,v,rfl,hv⟩;rw[← HT.o] at hv ⊢;have hg13:=hv;obtain⟨G0,H0,I0,J0,K0,L0,v0,M0,rfl⟩:=aMh hg13;have b0:=zz hg13;clear hg13;have P0:=tr B2 B6;have W0:=tr P0 B11;have a0:=aEd Lr4 W0.o;have d0:=cz4 a0;have h0:=fz4 a0;go_wp2;clear d0 h0;exact aLp rfl a0 (by simp[aF,aE]) s0.o (by omega) b0.o rfl rfl
def aCh (q r:Rat):Int:=(q.num*(r.den:Int)+-r.num*(q.den:Int)).sign
end Go.Proofs.YtencnahjgbdeoaaGreatDoor
