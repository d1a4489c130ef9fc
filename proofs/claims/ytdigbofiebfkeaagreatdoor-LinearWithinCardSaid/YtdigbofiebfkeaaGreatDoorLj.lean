/- Layer 35: the elimination of a column (written by gen_lj.py). -/
import Derived.Test.YtdigbofiebfkeaaGreatDoorLc1
import Derived.Test.YtdigbofiebfkeaaGreatDoorQab
import Derived.Test.YtdigbofiebfkeaaGreatDoorQde
namespace Go.Proofs.YtdigbofiebfkeaaGreatDoor
open Go Go.RowKit Dig
set_option maxRecDepth 100000
set_option maxHeartbeats 4000000
set_option linter.unusedSimpArgs false
theorem clear_any (w:World) (bt tb R B Rh:Nat) (G C:Nat→Nat) (M:List (List Rat)) (a j m l:Nat) (S:Nat→Prop) (V:Option Nat) (hV:∀ X,V=some X→X<w.heap.size) (hT:CB w bt 71 #[.slice (some ⟨tb,0,none⟩) M.length R]) (hR:M.length≤R∧R≤9223372036854775807) (hO:OM 3 (ERo V) 84 75 w B tb Rh G C M) (hW:Wide M m) (ha:a<M.length) (hj:j<m) (h0:atQ M a j≠0)
  (hS:∀ i,i<M.length→S (G i)) (hS2:∀ b,S b→b<w.heap.size) (hbt:¬ S bt) (hL:Short l M) (hl1:1≤l) (hl2:3*l≤60000000) (hn:M.length≤1000000∧m≤1000000) :
  Calls Tryz.prog 74 #[.int .i64 (a:Int),.int .i64 (j:Int),.pointer (some ⟨bt,0,none⟩)] w fun e w'=>e=.returned (.tuple #[])∧Turns w w' S∧OM 3 (ERo V) 84 75 w' B tb Rh G C (clearQ M a j):=by
 obtain⟨hn1,hn2⟩:=hn;have hnn:(M.length:Int)≤1000000:=by omega
 have hmm:(m:Int)≤1000000:=by omega
 have hai:(0:Int)≤(a:Int)∧(a:Int)<(M.length:Int):=by omega
 have hji:(0:Int)≤(j:Int)∧(j:Int)<(m:Int):=by omega
 obtain⟨p,hp⟩:∃ p,p=atQ M a j:=⟨_,rfl⟩;rw[← hp] at h0;have X1:=zz hV;clear hV;have HP:=zz hp;have Y1:=zz h0;have t1:=zz hT;have u1:=zz hO;have n1:=zz hW;have HS:=zz hS;have Z1:=zz hS2;have z1:=zz hbt;have HL:=zz hL;have q1:=zz hl1;have l1:=zz hl2;have HR:=zz hR;clear hp h0 hT hO hW hS hS2 hbt hL hl1 hl2 hR hn1 hn2;have B0:=zz (Below.refl w.heap.size w);obtain⟨yn,yA,yl,yc,yB,yu,yd,hE0,N0⟩:=OM.elem u1.out n1.out ha hj;have a2:Hid (RV w w.heap.size (.agg #[.bool yn,.slice yA yl yc,.slice yB yu yd]) p):=zz (by rw[HP.out];exact N0);clear N0;go_enter Tryz.func74,Tryz.ntmps74
 have qt0:=CB.cell t1.out 0 rfl;have qtl:=CB.lt t1.out;have qh0:=OM.head u1.out n1.out ha;have qc0:=OM.caps u1.out n1.out ha;have O0:=hE0.c0;have P0:=hE0.c1;have Q0:=hE0.c2;have V1:=hE0.lt;go_upto_region 1 with (fail)
 clear qt0 qtl qh0 qc0 O0 P0 Q0 V1;obtain⟨w2,g0⟩:∃ w2:World,w2=(w.alloc (.cells #[.bool yn,.slice yA yl yc,.slice yB yu yd] 84)):=⟨_,rfl⟩;rw[← g0];have j0:=n1_0 g0;have za2:=n1_z g0;have B3:=zz (n1_b g0);have z3:=B3.out.size;have g1:=tr B0 B3;clear g0;have b2:=zz j0;have v1:=zz (CB.step t1.out B3.out);have w1:=zz (OM.step u1.out ERo.stable B3.out);have d2:=zz (RV.step a2.out B3.out);have s2:=zz (show ¬ S (w.heap.size) from fun h=>Nat.lt_irrefl _ (Z1.out _ h));have m2:=zz (Turns.of (S:=S) B3.out);have G2:=zz t1.out.lt;clear t1 u1 a2 hE0;have e2:Hid (OM 3 (ERo V) 84 75 w2 B tb Rh G C (M.set a (mapTo (fun _ x=>x / p) 0 (M.getD a [])))):=zz (by rw[mapTo_zero,getD_is ha,List.set_getElem_self];exact w1.out);have hca:=OM.caps w1.out n1.out ha;have W2:=zz hca;clear hca;have qt0:=CB.cell v1.out 0 rfl;have qtl:=CB.lt v1.out;have qh0:=OM.head w1.out n1.out ha;have qc0:=OM.caps w1.out n1.out ha;go_wp2;clear qt0 qtl qh0 qc0;go_loopw [25] (fun iv wr=>∃ k:Nat,k≤m∧iv=.int .i64 k∧Hid (OM 3 (ERo V) 84 75 wr B tb Rh G C (M.set a (mapTo (fun _ x=>x / p) k (M.getD a []))))∧Hid (Turns w2 wr S)) (fun iv _=>m-(intOf iv).toNat)
 case atStart=>exact⟨0,Nat.zero_le _,rfl,e2,zz (Turns.refl _ _)⟩
 case round=>
  obtain⟨k,hk,rfl,HO,HW⟩:=hrel;have zr:=HW.out.size;have HI:=zz (b2.out.turns HW.out s2.out);have HT:=zz (v1.out.turns HW.out z1.out);have HV:=zz (RV.soft d2.out HW.out.soft);have hrl:(M.getD a []).length=m:=n1.out.getD ha;by_cases hlt:k<m
  ·skip
   have k1:=zz (setRow_wide (i:=a) (r:=mapTo (fun _ x=>x / p) k (M.getD a [])) n1.out (by rw[mapTo_len];exact hrl));have r1:=zz (show(M.set a (mapTo (fun _ x=>x / p) k (M.getD a []))).length=M.length from List.length_set);have p1:=zz (atQ_row (f:=fun _ x=>x / p) (k:=k) ha (show k<(M.getD a []).length by rw[hrl];exact hlt));have o1:=zz (setQ_row (f:=fun _ x=>x / p) (k:=k) ha (show k<(M.getD a []).length by rw[hrl];exact hlt));clear hrl;generalize M.set a (mapTo (fun _ x=>x / p) k (M.getD a []))=MK at HO k1 r1 p1 o1;have hak:a<MK.length:=by rw[r1.out];exact ha
   have hki:(0:Int)≤(k:Int)∧(k:Int)<(m:Int):=by omega
   obtain⟨x,hx⟩:∃ x,x=(M.getD a []).getD k 0:=⟨_,rfl⟩;rw[← hx] at p1 o1;have HX:=zz hx;clear hx;obtain⟨xn,xA,xl,xc,xB,xu,xd,hE,hv⟩:=OM.elem HO.out k1.out hak hlt;rw[p1.out] at hv;have F1:=zz hv;clear hv;have G1:Hid (QL l l x):=zz (by rw[HX.out];exact short_getD (HL.out.row a) q1.out k);have H1:Hid (QL l l p):=zz (by rw[HP.out];exact HL.out.at q1.out a j);go_upto_region 4 with (fail)
   have A1:=zz (OM.head HO.out k1.out hak);have HCA':=zz (OM.caps HO.out k1.out hak);refine Sweep.r0 [se 0 28 [] (.pointer (some ⟨bt,0,none⟩)),se 1 29 [0] (.slice (some ⟨tb,0,none⟩) M.length R),se 2 30 [] (.int .i64 (a:Int)),se 3 31 [1,2] (.pointer (some ⟨tb,a,none⟩)),se 4 32 [3] (.slice (some ⟨G a,0,none⟩) m (C a)),se 5 33 [] (.int .i64 (k:Int)),se 6 34 [] (.pointer (some ⟨bt,0,none⟩)),se 7 35 [6] (.slice (some ⟨tb,0,none⟩) M.length R),se 8 36 [] (.int .i64 (a:Int)),se 9 37 [7,8] (.pointer (some ⟨tb,a,none⟩)),se 10 38 [9] (.slice (some ⟨G a,0,none⟩) m (C a)),se 11 39 [] (.int .i64 (k:Int)),se 12 40 [10,11] (.pointer (some ⟨G a,k*3,none⟩)),se 13 41 [12] (.agg #[.bool xn,.slice xA xl xc,.slice xB xu xd]),se 14 42 [] (.agg #[.bool yn,.slice yA yl yc,.slice yB yu yd]),sf 15 43 [13,14] (fun fv fw=>(RVn wr.heap.size) fw fw.heap.size fv (x / p)),se 16 44 [4,5] (.pointer (some ⟨G a,k*3,none⟩))] 1 (SB HT.out (SC (fun _ h=>(E3.step hE h).c0) (SC (fun _ h=>(E3.step hE h).c1) (SC (fun _ h=>(E3.step hE h).c2) (SB HI.out S0))))) (MA (fun _ _ _ h hb=>RVn.step h hb) trivial) ?_ ?_
   ·intro xs a_ hA;simp only[SX] at hA
    iterate 17 (refine ac ?_ ?_;rotate_left)
    exact all_nil
    all_goals (intro wk hb;simp only[SX,↓reduceIte,Nat.reduceEqDiff,Nat.reduceAdd];have b_:=zz hb;have z_:=hb.size;clear hb;subst hA)
    any_goals (intro f3;intros;(refine wpOp_step (i:=4) (o:=_) rfl (fun K hK=>?_));have qv0:=(show _ from(Below.cell b_.out (p:=⟨tb,a,none⟩) HO.out.lt).trans A1.out);go_simp;(refine hK _ _ ⟨.slice (some ⟨G a,0,none⟩) m (C a),by simp only[FL,f3] <;> kernel_rfl,Below.refl _ _,rfl⟩))
    any_goals (intro f9;intros;(refine wpOp_step (i:=10) (o:=_) rfl (fun K hK=>?_));have qv0:=(Below.cell b_.out (p:=⟨tb,a,none⟩) HO.out.lt).trans A1.out;go_simp;(refine hK _ _ ⟨.slice (some ⟨G a,0,none⟩) m (C a),by simp only[FL,f9] <;> kernel_rfl,Below.refl _ _,rfl⟩))
    any_goals (intro f10 f11;intros;(refine wpOp_step (i:=12) (o:=_) rfl (fun K hK=>?_));have qv0:=HCA'.out;go_simp;(refine hK _ _ ⟨.pointer (some ⟨G a,k*3,none⟩),by simp only[FL,f10,f11] <;> kernel_rfl,Below.refl _ _,rfl⟩))
    any_goals (intro f4 f5;intros;(refine wpOp_step (i:=16) (o:=_) rfl (fun K hK=>?_));have qv0:=HCA'.out;go_simp;(refine hK _ _ ⟨.pointer (some ⟨G a,k*3,none⟩),by simp only[FL,f4,f5] <;> kernel_rfl,Below.refl _ _,rfl⟩))
    any_goals (intros;refine wpOp_step rfl ?_;intro K hK;go_simp;refine hK _ _ ⟨_,?_,Below.refl _ _,rfl⟩;simp only[*,FL] <;> kernel_rfl)
    ·intro f13 f14;intros;refine wpOp_step (o:=_) rfl (fun K hK=>?_);go_simp;have R0:=zz (RV.step F1.out b_.out);have T0:=zz (RV.step HV.out b_.out);(with_reducible refine(Quo_new _ _ _ _ _ R0.out T0.out Y1.out (G1.out.mono (by have:=l1.out;omega) (by have:=l1.out;omega)) (H1.out.mono (by have:=l1.out;omega) (by have:=l1.out;omega))).mono ?_)
     rintro e wc7 ⟨Y0,v7,rfl,Z0⟩;refine hK _ _ ⟨v7,by simp only[FL,f13,f14] <;> kernel_rfl,Y0,RVn.weak Z0 (by omega)⟩
   ·intro xs X2 hbf;simp only[SY];have B9:=zz hbf;have z9:=B9.out.size;clear hbf;generalize xs 15=x15;rintro f15;obtain⟨H2,I2,J2,K2,L2,a1,N2,rfl,k0,hf10⟩:=RVn.opened f15;have o0:=zz k0;have HNq:=zz hf10;clear k0 hf10;have m1:=zz (OM.step HO.out ERo.stable B9.out);obtain⟨hpu,htu⟩:=OM.put m1.out k1.out hak hlt (HS.out a ha) o0.out HNq.out (fun X hX=>Nat.lt_of_lt_of_le (X1.out X hX) (by omega));rw[o1.out] at hpu;have I1:=zz hpu;have J1:=zz ((HW.out.trans (Turns.of B9.out)).trans htu);clear hpu htu;have b0:=E3.step hE B9.out;have p0:=b0.c0;have q0:=b0.c1;have s0:=b0.c2;have K1:=b0.lt;have fz0:=OM.rowfz m1.out hak (k*3);have fz1:=OM.rowfz m1.out hak (k*3+1);have fz2:=OM.rowfz m1.out hak (k*3+2);have flt:=OM.rowlt m1.out hak;refine EN 17 rfl fun K hK=>?_;go_simp;refine hK _ _ ?_;clear hK K fz0 fz1 fz2 flt;(try simp only[PT])
    clear p0 q0 s0 K1;refine ED ?_;(try simp only[Exit.then])
    go_wp2;go_roundw
    case rel=>exact⟨k+1,hlt,by go_num,I1,J1⟩
    case measure=>simp[intOf];omega
  ·obtain rfl:k=m:=by omega
   have hfull:=OM.ofEq HO.out (show M.set a (mapTo (fun _ x=>x / p) k (M.getD a []))=M.set a (clearR M a j) by rw[mapTo_full (Nat.le_of_eq hrl),← divR_map,HP.out];rfl);have HT1x:=zz v1.out;clear HO hrl hk e2 b2 v1 d2 w1;obtain⟨c,hc⟩:∃ c,c=clearR M a j:=⟨_,rfl⟩;rw[← hc] at hfull;have hcl:c.length=k:=by rw[hc,clearR,divR_len];exact n1.out.getD ha
   have hcq:∀ q∈c,QL (2*l) (2*l) q:=by rw[hc];exact divR_short (HL.out.row a) (HL.out.at q1.out a j) (by rw[← HP.out];exact Y1.out)
   obtain⟨M2,hM2⟩:∃ M2,M2=M.set a c:=⟨_,rfl⟩;rw[← hM2] at hfull;have hw2:Wide M2 k:=by rw[hM2];exact setRow_wide n1.out hcl
   have hl2':M2.length=M.length:=by rw[hM2,List.length_set]
   have hra:M2.getD a []=c:=by rw[hM2];exact getD_set_eq ha
   have hro:∀ i,i≠a→M2.getD i []=M.getD i []:=fun i hi=>by rw[hM2];exact getD_set_ne (Ne.symm hi)
   obtain⟨g,hg⟩:∃ g:Nat→List Rat→List Rat,g=fun i r=>if i=a then r else subR r (r.getD j 0) c:=⟨_,rfl⟩
   have hfin:mapTo g M2.length M2=clearQ M a j:=by rw[mapTo_full (Nat.le_refl _),clearQ_two ha,hM2,hg,← hc]
   have HF:=zz hfull;have HC:=zz hc;have Y2:=zz hcl;have v2:=zz hcq;have g2:=zz hM2;have x2:=zz hw2;have B1:=zz hl2';have y2:=zz hra;have h2:=zz hro;have HG:=zz hg;have p2:=zz hfin;clear hfull hc hcl hcq hM2 hw2 hl2' hra hro hg hfin
   rename World=>wA
   have z2:=zz HW.out;clear HW;have i2:=zz HT.out;clear HT;clear HI HV;have g2:Hid (OM 3 (ERo V) 84 75 wA B tb Rh G C (mapTo g 0 M2)):=zz (by rw[mapTo_zero];exact HF.out);clear HF;have qt0:=CB.cell i2.out 0 rfl;have qtl:=CB.lt i2.out;go_wp2;clear qt0 qtl;go_loopw [49] (fun iv wr=>∃ i:Nat,i≤M.length∧iv=.int .i64 i∧Hid (OM 3 (ERo V) 84 75 wr B tb Rh G C (mapTo g i M2))∧Hid (Turns w2 wr S)) (fun iv _=>M.length-(intOf iv).toNat)
   case atStart=>exact⟨0,Nat.zero_le _,rfl,g2,z2⟩
   case round=>
    obtain⟨i,hi,rfl,HO,HW⟩:=hrel;have zr:=HW.out.size;by_cases hin:i<M.length
    ·skip
     have hi2:i<M2.length:=by rw[B1.out];exact hin
     have hne:(mapTo g i M2).getD i []=M2.getD i []:=getD_mapTo hi2 (.inl (Nat.lt_irrefl i));have hna:(mapTo g i M2).getD a []=c:=by rw[getD_mapTo (by rw[B1.out];exact ha) (.inr (by rw[HG.out];simp)),y2.out]
     have hset:(mapTo g i M2).set i (g i (M2.getD i []))=mapTo g (i+1) M2:=by rw[getD_is hi2];exact mapTo_set hi2
     have hwt:Wide (mapTo g i M2) k:=mapTo_wide x2.out (fun i r hr=>by rw[HG.out];show(if i=a then r else subR r (r.getD j 0) c).length=k;split <;> first | exact hr | rw[subR_len,hr]);have hlt2:(mapTo g i M2).length=M.length:=by rw[mapTo_len,B1.out]
     have hnxt:mapTo g (i+1) M2=(mapTo g i M2).set i (if i=a then M2.getD i [] else subR (M2.getD i []) ((M2.getD i []).getD j 0) c):=by rw[← hset,HG.out]
     generalize hmn:mapTo g (i+1) M2=MN at hset hnxt;have L1:=zz hmn;clear hmn;generalize mapTo g i M2=MT at HO hne hna hset hwt hlt2 hnxt;have x1:=zz hne;have A2:=zz hna;have s1:=zz hwt;have M1:=zz hlt2;have N1:=zz hnxt;clear hne hna hset hwt hlt2 hnxt;have hit:i<MT.length:=by rw[M1.out];exact hin
     have hat:a<MT.length:=by rw[M1.out];exact ha
     have hii:(0:Int)≤(i:Int)∧(i:Int)<(M.length:Int):=by omega
     obtain⟨f,hf⟩:∃ f,f=atQ MT i j:=⟨_,rfl⟩;obtain⟨fn,fA,fl,fc,fB,fu,fd,hE,hv⟩:=OM.elem HO.out s1.out hit hj;rw[← hf] at hv;have j2:=zz hv;have HF:=zz hf;clear hv hf;have HT:=zz (HT1x.out.turns HW.out z1.out);have qh0:=OM.head HO.out s1.out hit;have qc0:=OM.caps HO.out s1.out hit;have t0:=hE.c0;have u0:=hE.c1;have v0:=hE.c2;have O1:=hE.lt;go_upto_region 10 with (fail)
     clear qh0 qc0 t0 u0 v0 O1;obtain⟨w15,e0⟩:∃ w15:World,w15=(wr.alloc (.cells #[.bool fn,.slice fA fl fc,.slice fB fu fd] 84)):=⟨_,rfl⟩;rw[← e0];have a0:=n1_0 e0;have za15:=n1_z e0;have B16:=zz (n1_b e0);have z16:=B16.out.size;clear e0;have HOb:=zz (OM.step HO.out ERo.stable B16.out);have HWb:=zz (HW.out.trans (Turns.of B16.out));clear hE;by_cases hia:i=a
     ·have hia':((i:Int) != (a:Int))=false:=by rw[bne_eq_false_iff_eq];omega
      have HOn:=zz (OM.ofEq HOb.out (show MT=MN by rw[N1.out,if_pos hia,← x1.out,getD_is hit,List.set_getElem_self]));clear hia;go_wp2;go_roundw
      case rel=>exact⟨i+1,hin,by go_num,zz (by rw[L1.out];exact HOn.out),HWb⟩
      case measure=>simp[intOf];omega
     have hia':((i:Int) != (a:Int))=true:=by rw[bne_iff_ne];omega
     have C1:=zz hia;by_cases hf0:f=0
     ·have hs0:f.num.sign=0:=by rw[hf0];rfl
      have HOn:=zz (OM.ofEq HOb.out (show MT=MN by rw[N1.out,if_neg hia,← x1.out,show(MT.getD i []).getD j 0=0 from HF.out.symm.trans hf0,subR_zero,getD_is hit,List.set_getElem_self]));have B2:=zz hs0;clear hia hf0 hs0;have w0:=a0.cell 0 rfl;have x0:=a0.cell 1 rfl;have y0:=a0.cell 2 rfl;have P1:=a0.lt;go_wp2_with fail
      have z0:=zz (RV.step j2.out B16.out);refine(wSign_any _ _ _ (RV.whole z0.out)).mono ?_;rintro e w18 ⟨l0,rfl⟩;have B20:=zz l0;have z20:=B20.out.size;have d1:=tr B16 B20;clear l0;clear w0 x0 y0 P1;rw[B2.out];have HOn2:=zz (OM.step HOn.out ERo.stable B20.out);have HWn:=zz (HWb.out.trans (Turns.of B20.out));go_wp2;go_roundw
      case rel=>exact⟨i+1,hin,by go_num,zz (by rw[L1.out];exact HOn2.out),HWn⟩
      case measure=>simp[intOf];omega
     obtain⟨s,hs⟩:∃ s,s=f.num.sign:=⟨_,rfl⟩;have hs0:(s != 0)=true:=by rw[bne_iff_ne,hs];intro h;exact hf0 (by have:=Int.sign_eq_zero_iff_zero.1 h;exact Rat.num_eq_zero.1 this)
     have C2:=zz hs;clear hs hia hf0;have A0:=a0.cell 0 rfl;have C0:=a0.cell 1 rfl;have D0:=a0.cell 2 rfl;have Q1:=a0.lt;go_wp2_with fail
     have i0:=zz (RV.step j2.out B16.out);refine(wSign_any _ _ _ (RV.whole i0.out)).mono ?_;rintro e w23 ⟨m0,rfl⟩;have B25:=zz m0;have z25:=B25.out.size;have e1:=tr B16 B25;clear m0;clear A0 C0 D0 Q1;rw[← C2.out];have E0:=CB.step a0 B25.out;have F0:=zz (RV.step i0.out B25.out);have HOs:=zz (OM.step HOb.out ERo.stable B25.out);have HWs:=zz (HWb.out.trans (Turns.of B25.out));have HTs:=zz (HT1x.out.turns HWs.out z1.out);have HFs:=zz E0;have HVs:=zz F0.out;have D2:=zz (show ¬ S (wr.heap.size) from fun h=>by have:=Z1.out _ h;omega);have hrl:(MT.getD i []).length=k:=s1.out.getD hit;have R1:=zz hrl;have hca:=OM.caps HOs.out s1.out hit;have Z2:=zz hca;clear hca hrl;have E2:Hid (OM 3 (ERo V) 84 75 w23 B tb Rh G C (MT.set i (mapTo (fun k x=>x-f*c.getD k 0) 0 (MT.getD i [])))):=zz (by rw[mapTo_zero,getD_is hit,List.set_getElem_self];exact HOs.out);go_wp2;have a3:=zz HW.out;clear HW;clear HO HOb HT;go_loopw [69] (fun iv wr=>∃ n:Nat,n≤k∧iv=.int .i64 n∧Hid (OM 3 (ERo V) 84 75 wr B tb Rh G C (MT.set i (mapTo (fun k x=>x-f*c.getD k 0) n (MT.getD i []))))∧Hid (Turns w23 wr S)) (fun iv _=>k-(intOf iv).toNat)
     case atStart=>exact⟨0,Nat.zero_le _,rfl,E2,zz (Turns.refl _ _)⟩
     case round=>
      obtain⟨n,hn,rfl,HO,HW⟩:=hrel;have zr':=HW.out.size;have HT:=zz (HTs.out.turns HW.out z1.out);have HFc:=zz (CB.turns HFs.out HW.out D2.out);have HFv:=zz (RV.soft HVs.out HW.out.soft);by_cases hlt:n<k
      ·skip
       have hnr:n<(MT.getD i []).length:=by rw[R1.out];exact hlt
       have k1:=zz (setRow_wide (i:=i) (r:=mapTo (fun k x=>x-f*c.getD k 0) n (MT.getD i [])) s1.out (by rw[mapTo_len];exact R1.out));have r1:=zz (show(MT.set i (mapTo (fun k x=>x-f*c.getD k 0) n (MT.getD i []))).length=M.length by rw[List.length_set];exact M1.out);have p1:=zz (atQ_row (f:=fun k x=>x-f*c.getD k 0) (k:=n) hit hnr);have o1:=zz (setQ_row (f:=fun k x=>x-f*c.getD k 0) (k:=n) hit hnr);have S1:=zz (show atQ (MT.set i (mapTo (fun k x=>x-f*c.getD k 0) n (MT.getD i []))) a n=c.getD n 0 by rw[atQ_other C1.out,atQ,A2.out]);clear hnr;generalize MT.set i (mapTo (fun k x=>x-f*c.getD k 0) n (MT.getD i []))=MK at HO k1 r1 p1 o1 S1;have hik:i<MK.length:=by rw[r1.out];exact hin
       have hak:a<MK.length:=by rw[r1.out];exact ha
       have hki:(0:Int)≤(n:Int)∧(n:Int)<(k:Int):=by omega
       obtain⟨x,hx⟩:∃ x,x=(MT.getD i []).getD n 0:=⟨_,rfl⟩;rw[← hx] at p1 o1;have HX:=zz hx;clear hx;obtain⟨z,hz⟩:∃ z,z=c.getD n 0:=⟨_,rfl⟩;rw[← hz] at S1 o1;have HZ:=zz hz;clear hz;obtain⟨xn,xA,xl,xc,xB,xu,xd,hE,hv⟩:=OM.elem HO.out k1.out hik hlt;rw[p1.out] at hv;have F1:=zz hv;clear hv;obtain⟨zn,zA,zl,zc,zB,zu,zd,hEz,hv⟩:=OM.elem HO.out k1.out hak hlt;rw[S1.out] at hv;have F2:=zz hv;clear hv;have G1:Hid (QL l l x):=zz (by rw[HX.out,x1.out,h2.out i C1.out];exact short_getD (HL.out.row i) q1.out n);have k2:Hid (QL l l f):=zz (by rw[HF.out,atQ,x1.out,h2.out i C1.out];exact short_getD (HL.out.row i) q1.out j);have l2:Hid (QL (2*l) (2*l) z):=zz (by rw[HZ.out];exact short_getD v2.out (by have:=q1.out;omega) n);have H1:=zz (k2.out.mul l2.out);go_upto_region 14 with (fail)
       have A1:=zz (OM.head HO.out k1.out hak);have HCA':=zz (OM.caps HO.out k1.out hak);have HCI':=zz (OM.caps HO.out k1.out hik);refine Sweep.r0 [se 0 72 [] (.slice (some ⟨G i,0,none⟩) k (C i)),se 1 73 [] (.int .i64 (n:Int)),se 2 74 [] (.slice (some ⟨G i,0,none⟩) k (C i)),se 3 75 [] (.int .i64 (n:Int)),se 4 76 [2,3] (.pointer (some ⟨G i,n*3,none⟩)),se 5 77 [4] (.agg #[.bool xn,.slice xA xl xc,.slice xB xu xd]),se 6 78 [] (.agg #[.bool fn,.slice fA fl fc,.slice fB fu fd]),se 7 79 [] (.pointer (some ⟨bt,0,none⟩)),se 8 80 [7] (.slice (some ⟨tb,0,none⟩) M.length R),se 9 81 [] (.int .i64 (a:Int)),se 10 82 [8,9] (.pointer (some ⟨tb,a,none⟩)),se 11 83 [10] (.slice (some ⟨G a,0,none⟩) k (C a)),se 12 84 [] (.int .i64 (n:Int)),se 13 85 [11,12] (.pointer (some ⟨G a,n*3,none⟩)),se 14 86 [13] (.agg #[.bool zn,.slice zA zl zc,.slice zB zu zd]),sf 15 87 [6,14] (fun fv fw=>RV fw fw.heap.size fv (f*z)),sf 16 88 [5,15] (fun fv fw=>(RVn wr.heap.size) fw fw.heap.size fv (x-f*z)),se 17 89 [0,1] (.pointer (some ⟨G i,n*3,none⟩))] 1 (SC (fun _ h=>(E3.step hE h).c0) (SC (fun _ h=>(E3.step hE h).c1) (SC (fun _ h=>(E3.step hE h).c2) (SB HFc.out (SB HT.out (SC (fun _ h=>(E3.step hEz h).c0) (SC (fun _ h=>(E3.step hEz h).c1) (SC (fun _ h=>(E3.step hEz h).c2) S0)))))))) (MA (fun _ _ _ h hb=>h.step hb) (MA (fun _ _ _ h hb=>RVn.step h hb) trivial)) ?_ ?_
       ·intro xs a_ hA;simp only[SX] at hA
        iterate 18 (refine ac ?_ ?_;rotate_left)
        exact all_nil
        all_goals (intro wk hb;simp only[SX,↓reduceIte,Nat.reduceEqDiff,Nat.reduceAdd];have b_:=zz hb;have z_:=hb.size;clear hb;subst hA)
        any_goals (intro f2 f3;intros;(refine wpOp_step (i:=4) (o:=_) rfl (fun K hK=>?_));have qv0:=HCI'.out;go_simp;(refine hK _ _ ⟨.pointer (some ⟨G i,n*3,none⟩),by simp only[FL,f2,f3] <;> kernel_rfl,Below.refl _ _,rfl⟩))
        any_goals (intro f10;intros;(refine wpOp_step (i:=11) (o:=_) rfl (fun K hK=>?_));have qv0:=(Below.cell b_.out (p:=⟨tb,a,none⟩) HO.out.lt).trans A1.out;go_simp;(refine hK _ _ ⟨.slice (some ⟨G a,0,none⟩) k (C a),by simp only[FL,f10] <;> kernel_rfl,Below.refl _ _,rfl⟩))
        any_goals (intro f11 f12;intros;(refine wpOp_step (i:=13) (o:=_) rfl (fun K hK=>?_));have qv0:=HCA'.out;go_simp;(refine hK _ _ ⟨.pointer (some ⟨G a,n*3,none⟩),by simp only[FL,f11,f12] <;> kernel_rfl,Below.refl _ _,rfl⟩))
        any_goals (intro f0 f1;intros;(refine wpOp_step (i:=17) (o:=_) rfl (fun K hK=>?_));have qv0:=HCI'.out;go_simp;(refine hK _ _ ⟨.pointer (some ⟨G i,n*3,none⟩),by simp only[FL,f0,f1] <;> kernel_rfl,Below.refl _ _,rfl⟩))
        any_goals (intros;refine wpOp_step rfl ?_;intro K hK;go_simp;refine hK _ _ ⟨_,?_,Below.refl _ _,rfl⟩;simp only[*,FL] <;> kernel_rfl)
        ·intro f6 f14;intros;refine wpOp_step (o:=_) rfl (fun K hK=>?_);go_simp;have G0:=zz (RV.step HFv.out b_.out);have H0:=zz (RV.step F2.out b_.out);(with_reducible refine(Prod_any _ _ _ _ _ G0.out H0.out (k2.out.mono (by have:=l1.out;omega) (by have:=l1.out;omega)) (l2.out.mono (by have:=l1.out;omega) (by have:=l1.out;omega))).mono ?_)
         rintro e wc31 ⟨U0,v31,rfl,V0⟩;refine hK _ _ ⟨v31,by simp only[FL,f6,f14] <;> kernel_rfl,U0,V0⟩
        ·intro f5 f15;intros;refine wpOp_step (o:=_) rfl (fun K hK=>?_);go_simp;have I0:=zz (RV.step F1.out b_.out);(with_reducible refine(Diff_new _ _ _ _ _ I0.out f15 (G1.out.mono (by have:=l1.out;omega) (by have:=l1.out;omega)) (H1.out.mono (by have:=l1.out;omega) (by have:=l1.out;omega))).mono ?_)
         rintro e wc33 ⟨W0,v33,rfl,X0⟩;refine hK _ _ ⟨v33,by simp only[FL,f5] <;> kernel_rfl,W0,RVn.weak X0 (by omega)⟩
       ·intro xs P2 hbf;simp only[SY];have B35:=zz hbf;have z35:=B35.out.size;clear hbf;generalize xs 15=x15,xs 16=x16;rintro f15 f16;clear f15;obtain⟨Q2,R2,S2,T2,U2,b1,V2,rfl,n0,hf36⟩:=RVn.opened f16;have J0:=zz n0;have HNq:=zz hf36;clear n0 hf36;have m1:=zz (OM.step HO.out ERo.stable B35.out);obtain⟨hpu,htu⟩:=OM.put m1.out k1.out hik hlt (HS.out i hin) J0.out HNq.out (fun X hX=>Nat.lt_of_lt_of_le (X1.out X hX) (by omega));rw[o1.out] at hpu;have I1:=zz hpu;have J1:=zz ((HW.out.trans (Turns.of B35.out)).trans htu);clear hpu htu;have d0:=E3.step hE B35.out;have K0:=d0.c0;have L0:=d0.c1;have M0:=d0.c2;have T1:=d0.lt;have fz0:=OM.rowfz m1.out hik (n*3);have fz1:=OM.rowfz m1.out hik (n*3+1);have fz2:=OM.rowfz m1.out hik (n*3+2);have flt:=OM.rowlt m1.out hik;refine EN 18 rfl fun K hK=>?_;go_simp;refine hK _ _ ?_;clear hK K fz0 fz1 fz2 flt;(try simp only[PT])
        clear K0 L0 M0 T1;refine ED ?_;(try simp only[Exit.then])
        go_wp2;go_roundw
        case rel=>exact⟨n+1,hlt,by go_num,I1,J1⟩
        case measure=>simp[intOf];omega
      ·obtain rfl:n=k:=by omega
       have HOn:=zz (OM.ofEq HO.out (show MT.set i (mapTo (fun k x=>x-f*c.getD k 0) n (MT.getD i []))=MN by rw[mapTo_full (Nat.le_of_eq R1.out),N1.out,if_neg C1.out,← x1.out,HF.out];rfl));have HWn:=zz (HWs.out.trans HW.out);go_wp2;go_roundw
       case rel=>exact⟨i+1,hin,by go_num,zz (by rw[L1.out];exact HOn.out),HWn⟩
       case measure=>simp[intOf];omega
    ·obtain rfl:i=M.length:=by omega
     rw[show M.length=M2.length from B1.out.symm,p2.out] at HO;go_wp2;refine body_end0 rfl rfl ⟨rfl,m2.out.trans HW.out,HO.out⟩
end Go.Proofs.YtdigbofiebfkeaaGreatDoor
