/- Layer 35. -/
import Derived.Test.YtencnahjgbdeoaaGreatDoorLc1
import Derived.Test.YtencnahjgbdeoaaGreatDoorQab
import Derived.Test.YtencnahjgbdeoaaGreatDoorQde
namespace Go.Proofs.YtencnahjgbdeoaaGreatDoor
open Go Go.RowKit Dig
set_option maxRecDepth 100000
set_option maxHeartbeats 4000000
set_option linter.unusedSimpArgs false
theorem TL (w:World) (bt tb R B Rh:Nat) (G C:Nat→Nat) (M:List (List Rat)) (a j m l:Nat) (S:Nat→Prop) (V:Option Nat) (hV:∀ X,V=some X→X<w.heap.size) (hT:CB w bt 100 #[.slice (some ⟨tb,0,none⟩) M.length R]) (hR:M.length≤R∧R≤9223372036854775807) (hO:OM 3 (ERo V) 88 65 w B tb Rh G C M) (hW:Wide M m) (ha:a<M.length) (hj:j<m) (h0:bP M a j≠0)
  (hS:∀ i,i<M.length→S (G i)) (hS2:∀ b,S b→b<w.heap.size) (hbt:¬ S bt) (hL:Short l M) (hl1:1≤l) (hl2:3*l≤60000000) (hn:M.length≤1000000∧m≤1000000) :
  Calls Tryz.prog 119 #[.int .i64 (a:Int),.int .i64 (j:Int),.pointer (some ⟨bt,0,none⟩)] w fun e w'=>e=.returned (.tuple #[])∧Turns w w' S∧OM 3 (ERo V) 88 65 w' B tb Rh G C (clearQ M a j):=by
 obtain⟨hn1,hn2⟩:=hn;have hnn:(M.length:Int)≤1000000:=by omega
 have hmm:(m:Int)≤1000000:=by omega
 have hai:(0:Int)≤(a:Int)∧(a:Int)<(M.length:Int):=by omega
 have hji:(0:Int)≤(j:Int)∧(j:Int)<(m:Int):=by omega
 obtain⟨p,hp⟩:=ex (bP M a j);rw[← hp] at h0;have X1:=zz hV;clear hV;have HP:=zz hp;have Y1:=zz h0;have t1:=zz hT;have u1:=zz hO;have n1:=zz hW;have HS:=zz hS;have Z1:=zz hS2;have z1:=zz hbt;have HL:=zz hL;have q1:=zz hl1;have l1:=zz hl2;have HR:=zz hR;clear hp h0 hT hO hW hS hS2 hbt hL hl1 hl2 hR hn1 hn2;have B0:=zz (aDy w.heap.size w);obtain⟨yn,yA,yl,yc,yB,yu,yd,hE0,N0⟩:=OM.elem u1.o n1.o ha hj;have a2:Hi (RV w w.heap.size (.agg #[.bool yn,.slice yA yl yc,.slice yB yu yd]) p):=zz (by rw[HP.o];exact N0);clear N0;go_enter Tryz.func119,Tryz.ntmps119
 have qt0:=CB.cell t1.o 0 rfl;have qtl:=CB.lt t1.o;have qh0:=aMn u1.o n1.o ha;have qc0:=aMi u1.o n1.o ha;have O0:=ez3 hE0;go_upto_region 1 with (fail)
 clear qt0 qtl qh0 qc0 O0;obtain⟨w2,g0⟩:=ex (w.alloc (.cells #[.bool yn,.slice yA yl yc,.slice yB yu yd] 88));rw[← g0];have j0:=cL g0;have za2:=cJ g0;have B3:=zz (cK g0);have z3:=B3.o.size;have g1:=tr B0 B3;clear g0;have b2:=zz j0;have v1:=st aEd t1 B3;have w1:=zz (aJx u1.o aIk B3.o);have d2:=st aHm a2 B3;have s2:=zz (show ¬ S (w.heap.size) from fun h=>aJt _ (Z1.o _ h));have m2:=zz (aLk (S:=S) B3.o);have G2:=zz t1.o.lt;clear t1 u1 a2 hE0;have e2:Hi (OM 3 (ERo V) 88 65 w2 B tb Rh G C (M.set a (mapTo (fun _ x=>x / p) 0 (M.getD a [])))):=zz (by rw[jT,aG ha,aMs];exact w1.o);have hca:=aMi w1.o n1.o ha;have W2:=zz hca;clear hca;have qt0:=CB.cell v1.o 0 rfl;have qtl:=CB.lt v1.o;have qh0:=aMn w1.o n1.o ha;have qc0:=aMi w1.o n1.o ha;go_wp2;clear qt0 qtl qh0 qc0;go_loopw [25] (fun iv wr=>∃ k:Nat,k≤m∧iv=.int .i64 k∧Hi (OM 3 (ERo V) 88 65 wr B tb Rh G C (M.set a (mapTo (fun _ x=>x / p) k (M.getD a []))))∧Hi (Turns w2 wr S)) (fun iv _=>m-(intOf iv).toNat)
 case atStart=>exact⟨0,aEy _,rfl,e2,zz (Turns.refl _ _)⟩
 case round=>
  obtain⟨k,hk,rfl,HO,HW⟩:=hrel;have zr:=HW.o.size;have HI:=zz (b2.o.turns HW.o s2.o);have HT:=zz (v1.o.turns HW.o z1.o);have HV:=zz (RV.soft d2.o HW.o.soft);have hrl:(M.getD a []).length=m:=n1.o.getD ha;by_cases hlt:k<m
  ·skip
   have k1:=zz (nH (i:=a) (r:=mapTo (fun _ x=>x / p) k (M.getD a [])) n1.o (by rw[eK];exact hrl));have r1:=zz (show(M.set a (mapTo (fun _ x=>x / p) k (M.getD a []))).length=M.length from aEz);have p1:=zz (OW (f:=fun _ x=>x / p) (k:=k) ha (show k<(M.getD a []).length by rw[hrl];exact hlt));have o1:=zz (DI (f:=fun _ x=>x / p) (k:=k) ha (show k<(M.getD a []).length by rw[hrl];exact hlt));clear hrl;generalize M.set a (mapTo (fun _ x=>x / p) k (M.getD a []))=MK at HO k1 r1 p1 o1;have hak:a<MK.length:=by rw[r1.o];exact ha
   have hki:(0:Int)≤(k:Int)∧(k:Int)<(m:Int):=by omega
   obtain⟨x,hx⟩:=ex ((M.getD a []).getD k 0);rw[← hx] at p1 o1;have HX:=zz hx;clear hx;obtain⟨xn,xA,xl,xc,xB,xu,xd,hE,hv⟩:=OM.elem HO.o k1.o hak hlt;rw[p1.o] at hv;have F1:=zz hv;clear hv;have G1:Hi (QL l l x):=zz (by rw[HX.o];exact aT (HL.o.row a) q1.o k);have H1:Hi (QL l l p):=zz (by rw[HP.o];exact HL.o.at q1.o a j);go_upto_region 4 with (fail)
   have A1:=zz (aMn HO.o k1.o hak);have HCA':=zz (aMi HO.o k1.o hak);refine aFq [se 0 28 [] (.pointer (some ⟨bt,0,none⟩)),se 1 29 [0] (.slice (some ⟨tb,0,none⟩) M.length R),se 2 30 [] (.int .i64 (a:Int)),se 3 31 [1,2] (.pointer (some ⟨tb,a,none⟩)),se 4 32 [3] (.slice (some ⟨G a,0,none⟩) m (C a)),se 5 33 [] (.int .i64 (k:Int)),se 6 34 [] (.pointer (some ⟨bt,0,none⟩)),se 7 35 [6] (.slice (some ⟨tb,0,none⟩) M.length R),se 8 36 [] (.int .i64 (a:Int)),se 9 37 [7,8] (.pointer (some ⟨tb,a,none⟩)),se 10 38 [9] (.slice (some ⟨G a,0,none⟩) m (C a)),se 11 39 [] (.int .i64 (k:Int)),se 12 40 [10,11] (.pointer (some ⟨G a,k*3,none⟩)),se 13 41 [12] (.agg #[.bool xn,.slice xA xl xc,.slice xB xu xd]),se 14 42 [] (.agg #[.bool yn,.slice yA yl yc,.slice yB yu yd]),sf 15 43 [13,14] (fun fv fw=>(RVn wr.heap.size) fw fw.heap.size fv (x / p)),se 16 44 [4,5] (.pointer (some ⟨G a,k*3,none⟩))] 1 (SB HT.o (SC (fun _ h=>(aIb hE h).c0) (SC (fun _ h=>(aIb hE h).c1) (SC (fun _ h=>(aIb hE h).c2) (SB HI.o S0))))) (MA (fun _ _ _ h hb=>RVn.step h hb) aFi) ?_ ?_
   ·intro xs a_ hA;simp only[SX,↓reduceIte,Nat.reduceEqDiff,Nat.reduceAdd] at hA⊢;subst hA;and_intros
    all_goals intro wk b_ z_
    any_goals (intro f3;intros;(refine aDz (i:=4) (o:=_) rfl (fun K hK=>?_));have qv0:=(show _ from(aGn b_.o (p:=⟨tb,a,none⟩) HO.o.lt).trans A1.o);go_simp;(refine hK _ _ ⟨_,by simp only[FL,f3] <;> kernel_rfl,aDy _ _,rfl⟩))
    any_goals (intro f9;intros;(refine aDz (i:=10) (o:=_) rfl (fun K hK=>?_));have qv0:=(aGn b_.o (p:=⟨tb,a,none⟩) HO.o.lt).trans A1.o;go_simp;(refine hK _ _ ⟨_,by simp only[FL,f9] <;> kernel_rfl,aDy _ _,rfl⟩))
    any_goals (intro f10 f11;intros;(refine aDz (i:=12) (o:=_) rfl (fun K hK=>?_));have qv0:=HCA'.o;go_simp;(refine hK _ _ ⟨_,by simp only[FL,f10,f11] <;> kernel_rfl,aDy _ _,rfl⟩))
    any_goals (intro f4 f5;intros;(refine aDz (i:=16) (o:=_) rfl (fun K hK=>?_));have qv0:=HCA'.o;go_simp;(refine hK _ _ ⟨_,by simp only[FL,f4,f5] <;> kernel_rfl,aDy _ _,rfl⟩))
    all_goals try exact pl
    ·intro f13 f14;intros;refine wo fun K hK=>?_;go_simp;have R0:=st aHm F1 b_;have T0:=st aHm HV b_;(with_reducible refine(ZX _ _ _ _ _ R0.o T0.o Y1.o (G1.o.mono (by have:=l1.o;omega) (by have:=l1.o;omega)) (H1.o.mono (by have:=l1.o;omega) (by have:=l1.o;omega))).mono ?_)
     rintro e wc7 ⟨Y0,v7,rfl,Z0⟩;refine hK _ _ ⟨v7,by simp only[FL,f13,f14] <;> kernel_rfl,Y0,RVn.weak Z0 (by omega)⟩
   ·intro xs X2 B9 z9;simp only[SY];generalize xs 15=x15;rintro f15;obtain⟨H2,I2,J2,K2,L2,a1,N2,rfl,k0,hf10⟩:=RVn.opened f15;have o0:=zz k0;have HNq:=zz hf10;clear k0 hf10;have m1:=zz (aJx HO.o aIk B9.o);obtain⟨hpu,htu⟩:=OM.put m1.o k1.o hak hlt (HS.o a ha) o0.o HNq.o (fun X hX=>aEt (X1.o X hX) (by omega));rw[o1.o] at hpu;have I1:=zz hpu;have J1:=zz ((HW.o.trans (aLk B9.o)).trans htu);clear hpu htu;have b0:=aIb hE B9.o;have p0:=ez3 b0;have fz0:=OM.rowfz m1.o hak (k*3);have fz1:=OM.rowfz m1.o hak (k*3+1);have fz2:=OM.rowfz m1.o hak (k*3+2);have flt:=OM.rowlt m1.o hak;refine EN 17 rfl fun K hK=>?_;go_simp;refine hK _ _ ?_;clear hK K fz0 fz1 fz2 flt;(try simp only[PT])
    clear p0;refine ED ?_;(try simp only[Exit.then])
    go_wp2;go_roundw
    case rel=>exact⟨k+1,hlt,by go_num,I1,J1⟩
    case measure=>exact ms
  ·obtain rfl:k=m:=by omega
   have hfull:=OM.ofEq HO.o (show M.set a (mapTo (fun _ x=>x / p) k (M.getD a []))=M.set a (iD M a j) by rw[jU (aGo hrl),← XA,HP.o];rfl);have HT1x:=zz v1.o;clear HO hrl hk e2 b2 v1 d2 w1;obtain⟨c,hc⟩:=ex (iD M a j);rw[← hc] at hfull;have hcl:c.length=k:=by rw[hc,iD,vR];exact n1.o.getD ha
   have hcq:∀ q∈c,QL (2*l) (2*l) q:=by rw[hc];exact wQ (HL.o.row a) (HL.o.at q1.o a j) (by rw[← HP.o];exact Y1.o)
   obtain⟨M2,hM2⟩:=ex (M.set a c);rw[← hM2] at hfull;have hw2:Wide M2 k:=by rw[hM2];exact nH n1.o hcl
   have hl2':M2.length=M.length:=by rw[hM2,aEz]
   have hra:M2.getD a []=c:=by rw[hM2];exact nO ha
   have hro:∀ i,i≠a→M2.getD i []=M.getD i []:=fun i hi=>by rw[hM2];exact getD_set_ne (aMj hi)
   obtain⟨g,hg⟩:=ex (α:=Nat→List Rat→List Rat) (fun i r=>if i=a then r else pF r (r.getD j 0) c)
   have hfin:mapTo g M2.length M2=clearQ M a j:=by rw[jU (aEa _),MJ ha,hM2,hg,← hc]
   have HF:=zz hfull;have HC:=zz hc;have Y2:=zz hcl;have v2:=zz hcq;have g2:=zz hM2;have x2:=zz hw2;have B1:=zz hl2';have y2:=zz hra;have h2:=zz hro;have HG:=zz hg;have p2:=zz hfin;clear hfull hc hcl hcq hM2 hw2 hl2' hra hro hg hfin
   rename World=>wA
   have z2:=zz HW.o;clear HW;have i2:=zz HT.o;clear HT;clear HI HV;have g2:Hi (OM 3 (ERo V) 88 65 wA B tb Rh G C (mapTo g 0 M2)):=zz (by rw[jT];exact HF.o);clear HF;have qt0:=CB.cell i2.o 0 rfl;have qtl:=CB.lt i2.o;go_wp2;clear qt0 qtl;go_loopw [49] (fun iv wr=>∃ i:Nat,i≤M.length∧iv=.int .i64 i∧Hi (OM 3 (ERo V) 88 65 wr B tb Rh G C (mapTo g i M2))∧Hi (Turns w2 wr S)) (fun iv _=>M.length-(intOf iv).toNat)
   case atStart=>exact⟨0,aEy _,rfl,g2,z2⟩
   case round=>
    obtain⟨i,hi,rfl,HO,HW⟩:=hrel;have zr:=HW.o.size;by_cases hin:i<M.length
    ·skip
     have hi2:i<M2.length:=by rw[B1.o];exact hin
     have hne:(mapTo g i M2).getD i []=M2.getD i []:=mH hi2 (.inl (aJt i));have hna:(mapTo g i M2).getD a []=c:=by rw[mH (by rw[B1.o];exact ha) (.inr (by rw[HG.o];simp)),y2.o]
     have hset:(mapTo g i M2).set i (g i (M2.getD i []))=mapTo g (i+1) M2:=by rw[aG hi2];exact oK hi2
     have hwt:Wide (mapTo g i M2) k:=wM x2.o (fun i r hr=>by rw[HG.o];show(if i=a then r else pF r (r.getD j 0) c).length=k;split <;> first | exact hr | rw[vG,hr]);have hlt2:(mapTo g i M2).length=M.length:=by rw[eK,B1.o]
     have hnxt:mapTo g (i+1) M2=(mapTo g i M2).set i (if i=a then M2.getD i [] else pF (M2.getD i []) ((M2.getD i []).getD j 0) c):=by rw[← hset,HG.o]
     generalize hmn:mapTo g (i+1) M2=MN at hset hnxt;have L1:=zz hmn;clear hmn;generalize mapTo g i M2=MT at HO hne hna hset hwt hlt2 hnxt;have x1:=zz hne;have A2:=zz hna;have s1:=zz hwt;have M1:=zz hlt2;have N1:=zz hnxt;clear hne hna hset hwt hlt2 hnxt;have hit:i<MT.length:=by rw[M1.o];exact hin
     have hat:a<MT.length:=by rw[M1.o];exact ha
     have hii:(0:Int)≤(i:Int)∧(i:Int)<(M.length:Int):=by omega
     obtain⟨f,hf⟩:=ex (bP MT i j);obtain⟨fn,fA,fl,fc,fB,fu,fd,hE,hv⟩:=OM.elem HO.o s1.o hit hj;rw[← hf] at hv;have j2:=zz hv;have HF:=zz hf;clear hv hf;have HT:=zz (HT1x.o.turns HW.o z1.o);have qh0:=aMn HO.o s1.o hit;have qc0:=aMi HO.o s1.o hit;have t0:=ez3 hE;go_upto_region 10 with (fail)
     clear qh0 qc0 t0;obtain⟨w15,e0⟩:=ex (wr.alloc (.cells #[.bool fn,.slice fA fl fc,.slice fB fu fd] 88));rw[← e0];have a0:=cL e0;have za15:=cJ e0;have B16:=zz (cK e0);have z16:=B16.o.size;clear e0;have HOb:=zz (aJx HO.o aIk B16.o);have HWb:=zz (HW.o.trans (aLk B16.o));clear hE;by_cases hia:i=a
     ·have hia':((i:Int) != (a:Int))=false:=by rw[aJh];omega
      have HOn:=zz (OM.ofEq HOb.o (show MT=MN by rw[N1.o,aEv hia,← x1.o,aG hit,aMs]));clear hia;go_wp2;go_roundw
      case rel=>exact⟨i+1,hin,by go_num,zz (by rw[L1.o];exact HOn.o),HWb⟩
      case measure=>exact ms
     have hia':((i:Int) != (a:Int))=true:=by rw[aJg];omega
     have C1:=zz hia;by_cases hf0:f=0
     ·have hs0:f.num.sign=0:=by rw[hf0];rfl
      have HOn:=zz (OM.ofEq HOb.o (show MT=MN by rw[N1.o,aEu hia,← x1.o,show(MT.getD i []).getD j 0=0 from HF.o.symm.trans hf0,PZ,aG hit,aMs]));have B2:=zz hs0;clear hia hf0 hs0;have w0:=cz3 a0;go_wp2_with fail
      have z0:=st aHm j2 B16;refine(nx B16 (oH _ _ _ (RV.whole z0.o))).mono ?_;rintro e w18 ⟨⟨B20,z20,d1⟩,rfl⟩;clear w0;rw[B2.o];have HOn2:=zz (aJx HOn.o aIk B20.o);have HWn:=zz (HWb.o.trans (aLk B20.o));go_wp2;go_roundw
      case rel=>exact⟨i+1,hin,by go_num,zz (by rw[L1.o];exact HOn2.o),HWn⟩
      case measure=>exact ms
     obtain⟨s,hs⟩:=ex (f.num.sign);have hs0:(s != 0)=true:=by rw[aJg,hs];intro h;exact hf0 (by have:=Int.sign_eq_zero_iff_zero.1 h;exact aMf.1 this)
     have C2:=zz hs;clear hs hia hf0;have A0:=cz3 a0;go_wp2_with fail
     have i0:=st aHm j2 B16;refine(nx B16 (oH _ _ _ (RV.whole i0.o))).mono ?_;rintro e w23 ⟨⟨B25,z25,e1⟩,rfl⟩;clear A0;rw[← C2.o];have E0:=aEd a0 B25.o;have F0:=st aHm i0 B25;have HOs:=zz (aJx HOb.o aIk B25.o);have HWs:=zz (HWb.o.trans (aLk B25.o));have HTs:=zz (HT1x.o.turns HWs.o z1.o);have HFs:=zz E0;have HVs:=zz F0.o;have D2:=zz (show ¬ S (wr.heap.size) from fun h=>by have:=Z1.o _ h;omega);have hrl:(MT.getD i []).length=k:=s1.o.getD hit;have R1:=zz hrl;have hca:=aMi HOs.o s1.o hit;have Z2:=zz hca;clear hca hrl;have E2:Hi (OM 3 (ERo V) 88 65 w23 B tb Rh G C (MT.set i (mapTo (fun k x=>x-f*c.getD k 0) 0 (MT.getD i [])))):=zz (by rw[jT,aG hit,aMs];exact HOs.o);go_wp2;have a3:=zz HW.o;clear HW;clear HO HOb HT;go_loopw [69] (fun iv wr=>∃ n:Nat,n≤k∧iv=.int .i64 n∧Hi (OM 3 (ERo V) 88 65 wr B tb Rh G C (MT.set i (mapTo (fun k x=>x-f*c.getD k 0) n (MT.getD i []))))∧Hi (Turns w23 wr S)) (fun iv _=>k-(intOf iv).toNat)
     case atStart=>exact⟨0,aEy _,rfl,E2,zz (Turns.refl _ _)⟩
     case round=>
      obtain⟨n,hn,rfl,HO,HW⟩:=hrel;have zr':=HW.o.size;have HT:=zz (HTs.o.turns HW.o z1.o);have HFc:=zz (CB.turns HFs.o HW.o D2.o);have HFv:=zz (RV.soft HVs.o HW.o.soft);by_cases hlt:n<k
      ·skip
       have hnr:n<(MT.getD i []).length:=by rw[R1.o];exact hlt
       have k1:=zz (nH (i:=i) (r:=mapTo (fun k x=>x-f*c.getD k 0) n (MT.getD i [])) s1.o (by rw[eK];exact R1.o));have r1:=zz (show(MT.set i (mapTo (fun k x=>x-f*c.getD k 0) n (MT.getD i []))).length=M.length by rw[aEz];exact M1.o);have p1:=zz (OW (f:=fun k x=>x-f*c.getD k 0) (k:=n) hit hnr);have o1:=zz (DI (f:=fun k x=>x-f*c.getD k 0) (k:=n) hit hnr);have S1:=zz (show bP (MT.set i (mapTo (fun k x=>x-f*c.getD k 0) n (MT.getD i []))) a n=c.getD n 0 by rw[TQ C1.o,bP,A2.o]);clear hnr;generalize MT.set i (mapTo (fun k x=>x-f*c.getD k 0) n (MT.getD i []))=MK at HO k1 r1 p1 o1 S1;have hik:i<MK.length:=by rw[r1.o];exact hin
       have hak:a<MK.length:=by rw[r1.o];exact ha
       have hki:(0:Int)≤(n:Int)∧(n:Int)<(k:Int):=by omega
       obtain⟨x,hx⟩:=ex ((MT.getD i []).getD n 0);rw[← hx] at p1 o1;have HX:=zz hx;clear hx;obtain⟨z,hz⟩:=ex (c.getD n 0);rw[← hz] at S1 o1;have HZ:=zz hz;clear hz;obtain⟨xn,xA,xl,xc,xB,xu,xd,hE,hv⟩:=OM.elem HO.o k1.o hik hlt;rw[p1.o] at hv;have F1:=zz hv;clear hv;obtain⟨zn,zA,zl,zc,zB,zu,zd,hEz,hv⟩:=OM.elem HO.o k1.o hak hlt;rw[S1.o] at hv;have F2:=zz hv;clear hv;have G1:Hi (QL l l x):=zz (by rw[HX.o,x1.o,h2.o i C1.o];exact aT (HL.o.row i) q1.o n);have k2:Hi (QL l l f):=zz (by rw[HF.o,bP,x1.o,h2.o i C1.o];exact aT (HL.o.row i) q1.o j);have l2:Hi (QL (2*l) (2*l) z):=zz (by rw[HZ.o];exact aT v2.o (by have:=q1.o;omega) n);have H1:=zz (k2.o.mul l2.o);go_upto_region 14 with (fail)
       have A1:=zz (aMn HO.o k1.o hak);have HCA':=zz (aMi HO.o k1.o hak);have HCI':=zz (aMi HO.o k1.o hik);refine aFq [se 0 72 [] (.slice (some ⟨G i,0,none⟩) k (C i)),se 1 73 [] (.int .i64 (n:Int)),se 2 74 [] (.slice (some ⟨G i,0,none⟩) k (C i)),se 3 75 [] (.int .i64 (n:Int)),se 4 76 [2,3] (.pointer (some ⟨G i,n*3,none⟩)),se 5 77 [4] (.agg #[.bool xn,.slice xA xl xc,.slice xB xu xd]),se 6 78 [] (.agg #[.bool fn,.slice fA fl fc,.slice fB fu fd]),se 7 79 [] (.pointer (some ⟨bt,0,none⟩)),se 8 80 [7] (.slice (some ⟨tb,0,none⟩) M.length R),se 9 81 [] (.int .i64 (a:Int)),se 10 82 [8,9] (.pointer (some ⟨tb,a,none⟩)),se 11 83 [10] (.slice (some ⟨G a,0,none⟩) k (C a)),se 12 84 [] (.int .i64 (n:Int)),se 13 85 [11,12] (.pointer (some ⟨G a,n*3,none⟩)),se 14 86 [13] (.agg #[.bool zn,.slice zA zl zc,.slice zB zu zd]),sf 15 87 [6,14] (fun fv fw=>RV fw fw.heap.size fv (f*z)),sf 16 88 [5,15] (fun fv fw=>(RVn wr.heap.size) fw fw.heap.size fv (x-f*z)),se 17 89 [0,1] (.pointer (some ⟨G i,n*3,none⟩))] 1 (SC (fun _ h=>(aIb hE h).c0) (SC (fun _ h=>(aIb hE h).c1) (SC (fun _ h=>(aIb hE h).c2) (SB HFc.o (SB HT.o (SC (fun _ h=>(aIb hEz h).c0) (SC (fun _ h=>(aIb hEz h).c1) (SC (fun _ h=>(aIb hEz h).c2) S0)))))))) (MA (fun _ _ _ h hb=>h.step hb) (MA (fun _ _ _ h hb=>RVn.step h hb) aFi)) ?_ ?_
       ·intro xs a_ hA;simp only[SX,↓reduceIte,Nat.reduceEqDiff,Nat.reduceAdd] at hA⊢;subst hA;and_intros
        all_goals intro wk b_ z_
        any_goals (intro f2 f3;intros;(refine aDz (i:=4) (o:=_) rfl (fun K hK=>?_));have qv0:=HCI'.o;go_simp;(refine hK _ _ ⟨_,by simp only[FL,f2,f3] <;> kernel_rfl,aDy _ _,rfl⟩))
        any_goals (intro f10;intros;(refine aDz (i:=11) (o:=_) rfl (fun K hK=>?_));have qv0:=(aGn b_.o (p:=⟨tb,a,none⟩) HO.o.lt).trans A1.o;go_simp;(refine hK _ _ ⟨_,by simp only[FL,f10] <;> kernel_rfl,aDy _ _,rfl⟩))
        any_goals (intro f11 f12;intros;(refine aDz (i:=13) (o:=_) rfl (fun K hK=>?_));have qv0:=HCA'.o;go_simp;(refine hK _ _ ⟨_,by simp only[FL,f11,f12] <;> kernel_rfl,aDy _ _,rfl⟩))
        any_goals (intro f0 f1;intros;(refine aDz (i:=17) (o:=_) rfl (fun K hK=>?_));have qv0:=HCI'.o;go_simp;(refine hK _ _ ⟨_,by simp only[FL,f0,f1] <;> kernel_rfl,aDy _ _,rfl⟩))
        all_goals try exact pl
        ·intro f6 f14;intros;refine wo fun K hK=>?_;go_simp;have G0:=st aHm HFv b_;have H0:=st aHm F2 b_;(with_reducible refine(rM _ _ _ _ _ G0.o H0.o (k2.o.mono (by have:=l1.o;omega) (by have:=l1.o;omega)) (l2.o.mono (by have:=l1.o;omega) (by have:=l1.o;omega))).mono ?_)
         rintro e wc31 ⟨U0,v31,rfl,V0⟩;refine hK _ _ ⟨v31,by simp only[FL,f6,f14] <;> kernel_rfl,U0,V0⟩
        ·intro f5 f15;intros;refine wo fun K hK=>?_;go_simp;have I0:=st aHm F1 b_;(with_reducible refine(GH _ _ _ _ _ I0.o f15 (G1.o.mono (by have:=l1.o;omega) (by have:=l1.o;omega)) (H1.o.mono (by have:=l1.o;omega) (by have:=l1.o;omega))).mono ?_)
         rintro e wc33 ⟨W0,v33,rfl,X0⟩;refine hK _ _ ⟨v33,by simp only[FL,f5] <;> kernel_rfl,W0,RVn.weak X0 (by omega)⟩
       ·intro xs P2 B35 z35;simp only[SY];generalize xs 15=x15,xs 16=x16;rintro f15 f16;clear f15;obtain⟨Q2,R2,S2,T2,U2,b1,V2,rfl,n0,hf36⟩:=RVn.opened f16;have J0:=zz n0;have HNq:=zz hf36;clear n0 hf36;have m1:=zz (aJx HO.o aIk B35.o);obtain⟨hpu,htu⟩:=OM.put m1.o k1.o hik hlt (HS.o i hin) J0.o HNq.o (fun X hX=>aEt (X1.o X hX) (by omega));rw[o1.o] at hpu;have I1:=zz hpu;have J1:=zz ((HW.o.trans (aLk B35.o)).trans htu);clear hpu htu;have d0:=aIb hE B35.o;have K0:=ez3 d0;have fz0:=OM.rowfz m1.o hik (n*3);have fz1:=OM.rowfz m1.o hik (n*3+1);have fz2:=OM.rowfz m1.o hik (n*3+2);have flt:=OM.rowlt m1.o hik;refine EN 18 rfl fun K hK=>?_;go_simp;refine hK _ _ ?_;clear hK K fz0 fz1 fz2 flt;(try simp only[PT])
        clear K0;refine ED ?_;(try simp only[Exit.then])
        go_wp2;go_roundw
        case rel=>exact⟨n+1,hlt,by go_num,I1,J1⟩
        case measure=>exact ms
      ·obtain rfl:n=k:=by omega
       have HOn:=zz (OM.ofEq HO.o (show MT.set i (mapTo (fun k x=>x-f*c.getD k 0) n (MT.getD i []))=MN by rw[jU (aGo R1.o),N1.o,aEu C1.o,← x1.o,HF.o];rfl));have HWn:=zz (HWs.o.trans HW.o);go_wp2;go_roundw
       case rel=>exact⟨i+1,hin,by go_num,zz (by rw[L1.o];exact HOn.o),HWn⟩
       case measure=>exact ms
    ·obtain rfl:i=M.length:=by omega
     rw[show M.length=M2.length from B1.o.symm,p2.o] at HO;go_wp2;refine TP rfl rfl ⟨rfl,m2.o.trans HW.o,HO.o⟩
end Go.Proofs.YtencnahjgbdeoaaGreatDoor
