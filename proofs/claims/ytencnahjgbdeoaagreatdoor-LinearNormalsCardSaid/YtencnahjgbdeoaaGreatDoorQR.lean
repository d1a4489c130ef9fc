/- Layer 04's reference. -/
import Derived.Test.YtencnahjgbdeoaaGreatDoorQL
import Derived.Test.YtencnahjgbdeoaaGreatDoorRefb
import Derived.Test.YtencnahjgbdeoaaGreatDoorPr
namespace Go.Proofs.YtencnahjgbdeoaaGreatDoor
open Go Go.RowKit Dig
set_option maxRecDepth 100000
set_option maxHeartbeats 4000000
set_option linter.unusedSimpArgs false
theorem QV.of2 {w:World} {B:Nat} {n m:Bool} {A A':Option Addr} {l c l' c':Nat} {q:Rat} (h:LV w B (.agg #[.bool n,.slice A l c]) q.num) (k:LV w B (.agg #[.bool m,.slice A' l' c']) (q.den:Int)) :
  QV w B (.agg #[.bool n,.slice A l c,.bool m,.slice A' l' c']) q:=by
 obtain⟨a1,-,a3⟩:=h.is;obtain⟨b1,-,b3⟩:=k.is;rw[aEe (by omega)] at b1;subst b1;rw[aEr] at b3;exact⟨n,A,l,c,A',l',c',rfl,a3,b3,a1⟩
theorem SF (x:Int) {y:Int} (h:y≠0):(Rat.divInt x y).num=Int.tdiv (x*y.sign) (Int.gcd (x*y.sign) y.natAbs:Int)∧((Rat.divInt x y).den:Int)=Int.tdiv (y.natAbs:Int) (Int.gcd (x*y.sign) y.natAbs:Int)∧(Int.gcd (x*y.sign) y.natAbs:Int)≠0:=by
 have hk:y.natAbs≠0:=by omega
 obtain⟨h1,h2⟩:=kI (n:=x*y.sign) hk;have hg:Int.gcd (x*y.sign) y.natAbs=Nat.gcd (x*y.sign).natAbs y.natAbs:=rfl;have hg0:Nat.gcd (x*y.sign).natAbs y.natAbs≠0:=Nat.gcd_ne_zero_right hk;rw[qE x h,h1,h2,hg];refine⟨(Int.tdiv_eq_ediv_of_dvd (dA _ _)).symm,?_,by omega⟩;rw[Int.tdiv_eq_ediv_of_nonneg (by omega)];simp
def NewQ (Z:Nat) (v:Value):Prop:=∀ c0 c1 c2 c3,v=.agg #[c0,c1,c2,c3]→NewC Z c1∧NewC Z c3
theorem NewQ.of {Z:Nat} {a b c d:Value} (h:NewL Z (.agg #[a,b])) (k:NewL Z (.agg #[c,d])):NewQ Z (.agg #[a,b,c,d]):=fun c0 c1 c2 c3 e=>by
 injection e with e;simp at e;obtain⟨rfl,rfl,rfl,rfl⟩:=e;exact⟨h _ _ rfl,k _ _ rfl⟩
theorem JF (w:World) (va vb:Value) (x y:Int) (ha:LV w w.heap.size va x) (hb:LV w w.heap.size vb y) (h0:y≠0) (lx:(dig x.natAbs).length≤240000000) (ly:(dig y.natAbs).length≤240000000) :
  CV 115 #[va,vb] w fun e w'=>∃ v,e=.returned v∧QV w' w'.heap.size v (Rat.divInt x y)∧NewQ w.heap.size v:=by
 obtain⟨q,hq⟩:=ex (Rat.divInt x y);have hp:=SF x h0;rw[← hq] at hp ⊢;clear hq;obtain⟨z,hz⟩:=ex (x*y.sign);obtain⟨k,hk⟩:=ex (α:=Int) (y.natAbs:Int);have hkn:k.natAbs=y.natAbs:=by rw[hk,aEr]
 obtain⟨g,hg⟩:=ex (α:=Int) (Int.gcd z k:Int);rw[← hz,← hk,← hg] at hp;have lz:(dig z.natAbs).length≤240000000:=by rw[hz,aGi,aJd h0,aJi];exact lx
 have lk:(dig k.natAbs).length≤240000000:=by rw[hkn];exact ly
 have hgk:g.natAbs≤k.natAbs:=by rw[hg,aEr];exact Nat.le_of_dvd (by omega) (aLl _ _)
 have lg:(dig g.natAbs).length≤240000000:=aEg (aL hgk) lk;have n4:=zz (show y<0→-x=z∧-y=k from fun h=>⟨by rw[hz,aJc h];omega,by omega⟩);have o4:=zz (show ¬ y<0→x=z∧y=k from fun h=>⟨by rw[hz,aKa (by omega)];omega,by omega⟩);have HP:=zz hp;have HG:=zz hg;have HL:=zz (aEn lx (aEn ly (aEn lz (aEn lk lg))));have H0:=zz h0;clear hp hz hk hkn hg lz lk hgk lg lx ly h0;obtain⟨n,A,l,c,rfl,ha⟩:=ha.opened;obtain⟨m,B,u,d,rfl,hb⟩:=hb.opened;have HM:=zz (LV.is hb).1;have HA:=zz ha;have HB:=zz hb;clear ha hb;obtain⟨w0,hw0⟩:=ex (((w.alloc (.cells #[.bool n,.slice A l c] 26)).alloc (.cells #[.bool m,.slice B u d] 26)).alloc (.cells #[.bool false,.slice none 0 0,.bool false,.slice none 0 0] 28));have B0:=zz (rS hw0);have z0:=rR hw0;have Ln:=rX hw0;have Ld:=rW hw0;have Lr4:=rT hw0;replace HA:=st aFu HA B0;replace HB:=st aFu HB B0;by_cases hn:y<0
 ·have hm:m=true:=by rw[HM.o,aEj hn]
  subst hm;have HE:=zz (n4.o hn);clear hn;go_enter Tryz.func115,Tryz.ntmps115
  go_upto_region 1 with (fail)
  rw[← hw0];clear hw0;have W2:=cz2 Ln;have Y2:=cz2 Ld;go_upto_region 2 with (fail)
  clear W2 Y2;refine aFq [se 0 12 [] (.agg #[.bool n,.slice A l c]),sf 1 13 [0] (fun fv fw=>LV fw fw.heap.size fv (-x)),se 2 14 [] (.agg #[.bool true,.slice B u d]),sf 3 15 [2] (fun fv fw=>LV fw fw.heap.size fv (-y))] 2 (SB Ln (SB Ld S0)) (MA (fun _ _ _ h hb=>h.step hb) (MA (fun _ _ _ h hb=>h.step hb) aFi)) ?_ ?_
  ·intro xs a_ hA;simp only[SX,↓reduceIte,Nat.reduceEqDiff,Nat.reduceAdd] at hA⊢;subst hA;and_intros
   all_goals intro wk b_ z_
   all_goals try exact pl
   ·intro f0;intros;refine wo fun K hK=>?_;go_simp;have a3:=st aFu HA b_;(with_reducible refine(jW _ _ x a3.o (by have:=HL.o;omega)).mono ?_)
    rintro e wc4 ⟨k3,v4,rfl,l3⟩;refine hK _ _ ⟨v4,by simp only[FL,f0] <;> kernel_rfl,k3,l3⟩
   ·intro f2;intros;refine wo fun K hK=>?_;go_simp;have b3:=st aFu HB b_;(with_reducible refine(jW _ _ y b3.o (by have:=HL.o;omega)).mono ?_)
    rintro e wc6 ⟨m3,v6,rfl,n3⟩;refine hK _ _ ⟨v6,by simp only[FL,f2] <;> kernel_rfl,m3,n3⟩
  ·intro xs r4 B8 z8;simp only[SY];have o3:=tr B0 B8;generalize xs 1=x1,xs 3=x3;rintro f1 f3;obtain⟨n10,K3,l10,c10,rfl,P0⟩:=f1.opened;have Q0:=zz P0;clear f1 P0;obtain⟨n11,L3,l11,c11,rfl,R0⟩:=f3.opened;have T0:=zz R0;clear f3 R0;have c0:=aEd Ln B8.o;have M1:=cz2 c0;have O1:=fz2 c0;refine EN 4 rfl fun K hK=>?_;go_simp;refine hK _ _ ?_;clear hK K;(try simp only[PT])
   clear M1 O1;have Q1:=aEd Ld B8.o;have U0:=aEd Lr4 B8.o;obtain⟨w17,e0⟩:=ex ((r4.setCell ⟨w.heap.size,0,none⟩ (.bool n10)).setCell ⟨w.heap.size,1,none⟩ (.slice K3 l10 c10));rw[← e0];have S17:=zz (JI e0 c0 (by simp[aF,aE]));have d0:=pI e0 Q1 (by omega);have V0:=pI e0 U0 (by omega);have R1:=JJ e0 c0;have S1:=zz (JK e0 o3.o (by omega));have t3:=JH e0;clear e0;have T1:=cz2 d0;have V1:=fz2 d0;refine EN 5 rfl fun K hK=>?_;go_simp;refine hK _ _ ?_;clear hK K;(try simp only[PT])
   clear T1 V1;obtain⟨w20,g0⟩:=ex ((w17.setCell ⟨w.heap.size+1,0,none⟩ (.bool n11)).setCell ⟨w.heap.size+1,1,none⟩ (.slice L3 l11 c11));rw[← g0];have S20:=zz (JI g0 d0 (by simp[aF,aE]));have o0:=pI g0 R1 (by omega);have W0:=pI g0 V0 (by omega);have p0:=JJ g0 d0;have X1:=zz (JK g0 S1.o (by omega));have u3:=JH g0;clear g0;refine ED ?_;(try simp only[Exit.then])
   have X0:=zz (LV.soft Q0.o ((S17.o).trans (S20.o)));have Y0:=zz (LV.soft T0.o ((S17.o).trans (S20.o)));have HZ:=zz (show LV w20 w20.heap.size (.agg #[.bool n10,.slice K3 l10 c10]) z from HE.o.1▸X0.o);have HK:=zz (show LV w20 w20.heap.size (.agg #[.bool n11,.slice L3 l11 c11]) k from HE.o.2▸Y0.o);have Y1:=cz2 o0;have a2:=cz2 p0;go_wp2_with fail
   refine(nx X1 (nP _ _ _ z k HZ.o HK.o (by have:=HL.o;omega) (by have:=HL.o;omega))).mono ?_;rintro e w23 ⟨⟨B26,z26,c3⟩,v,rfl,hv⟩;clear Y1 a2;rw[← HG.o] at hv;obtain⟨n28,k4,l28,c28,rfl,a1⟩:=hv.opened;have c2:=zz a1;clear hv a1;go_upto_region 4 with (fail)
   obtain⟨w29,t0⟩:=ex (w23.alloc (.cells #[.bool n28,.slice k4 l28 c28] 26));rw[← t0];have q0:=cL t0;have za29:=cJ t0;have B30:=zz (cK t0);have z30:=B30.o.size;have b1:=tr c3 B30;clear t0;have Q3:=tr B26 B30;have C0:=aEd o0 Q3.o;have d2:=cz2 C0;have g2:=cz2 q0;go_wp2_with fail
   have i2:=st aFu HZ Q3;have J0:=st aFu c2 B30;refine(nx b1 (jV _ _ _ z g i2.o J0.o HP.o.2.2 (by have:=HL.o;omega) (by have:=HL.o;omega))).mono ?_;rintro e w32 ⟨⟨B39,z39,d3⟩,v,v',rfl,hv,hv',hnn,-⟩;clear d2 g2;have HNx:=zz (NewL.mono hnn b1.o.size);clear hnn;obtain⟨p41,Ap41,lp41,cp41,rfl,-⟩:=hv'.opened;clear hv';obtain⟨n42,A3,l42,c42,rfl,d1⟩:=hv.opened;have j2:=zz d1;clear hv d1;go_upto_region 5 with (fail)
   obtain⟨w43,k0⟩:=ex ((w32.alloc (.cells #[.bool n42,.slice A3 l42 c42] 26)).alloc (.cells #[.bool p41,.slice Ap41 lp41 cp41] 26));rw[← k0];have k2:=pM k0;have p3:=pL k0;have za43:=pJ k0;have B44:=zz (pK k0);have z44:=B44.o.size;have e1:=tr d3 B44;clear k0;have P4:=tr Q3 B39;have W4:=tr P4 B44;have D0:=aEd p0 W4.o;have l2:=cz2 D0;have Y4:=tr B39 B44;have E0:=aEd q0 Y4.o;have n2:=cz2 E0;go_wp2_with fail
   have p2:=st aFu HK W4;have q2:=st aFu J0 Y4;refine(nx e1 (jV _ _ _ k g p2.o q2.o HP.o.2.2 (by have:=HL.o;omega) (by have:=HL.o;omega))).mono ?_;rintro e w46 ⟨⟨B56,z56,e3⟩,v,v',rfl,hv,hv',hnn,-⟩;clear l2 n2;have HNy:=zz (NewL.mono hnn e1.o.size);clear hnn;obtain⟨p58,Ap58,lp58,cp58,rfl,-⟩:=hv'.opened;clear hv';obtain⟨n59,B3,l59,c59,rfl,h1⟩:=hv.opened;have r2:=zz h1;clear hv h1;go_upto_region 6 with (fail)
   obtain⟨w60,l0⟩:=ex ((w46.alloc (.cells #[.bool n59,.slice B3 l59 c59] 26)).alloc (.cells #[.bool p58,.slice Ap58 lp58 cp58] 26));rw[← l0];have F0:=pM l0;have q3:=pL l0;have za60:=pJ l0;have B61:=zz (pK l0);have z61:=B61.o.size;have g3:=tr e3 B61;clear l0;have X4:=tr B44 B56;have Z4:=tr X4 B61;have s2:=st aFu j2 Z4;have t2:=st aFu r2 B61;have HQ:=zz (show QV w60 w60.heap.size (.agg #[.bool n42,.slice A3 l42 c42,.bool n59,.slice B3 l59 c59]) q from QV.of2 (by rw[HP.o.1];exact s2.o) (by rw[HP.o.2.1];exact t2.o));have M4:=tr B56 B61;have G0:=aEd k2 M4.o;have u2:=cz2 G0;have w2:=cz2 F0;have N4:=tr W4 B56;have Q4:=tr N4 B61;have b0:=aEd W0 Q4.o;have y2:=cz4 b0;have C2:=fz4 b0;go_wp2;clear u2 w2 y2 C2;obtain⟨w76,m0⟩:=ex ((((w60.setCell ⟨w.heap.size+2,0,none⟩ (.bool n42)).setCell ⟨w.heap.size+2,1,none⟩ (.slice A3 l42 c42)).setCell ⟨w.heap.size+2,2,none⟩ (.bool n59)).setCell ⟨w.heap.size+2,3,none⟩ (.slice B3 l59 c59));rw[← m0];have S76:=zz (oU m0 b0 (by simp[aF,aE]));have i1:=oV m0 b0
   have G2:=zz (oW m0 g3.o (by omega));have v3:=oT m0;clear m0;have H2:=zz (aKv HQ.o (S76.o));exact aFv (aMw rfl _ i1 rfl) rfl ⟨G2.o,_,rfl,H2.o,NewQ.of HNx.o HNy.o⟩
 ·have hm:m=false:=by rw[HM.o,aEe hn]
  subst hm;have HE:=zz (o4.o hn);clear hn;go_enter Tryz.func115,Tryz.ntmps115
  go_upto_region 1 with (fail)
  rw[← hw0];clear hw0;have HZ:=zz (show LV w0 w0.heap.size (.agg #[.bool n,.slice A l c]) z from HE.o.1▸HA.o);have HK:=zz (show LV w0 w0.heap.size (.agg #[.bool false,.slice B u d]) k from HE.o.2▸HB.o);have I2:=cz2 Ln;have K2:=cz2 Ld;go_wp2_with fail
  refine(nx B0 (nP _ _ _ z k HZ.o HK.o (by have:=HL.o;omega) (by have:=HL.o;omega))).mono ?_;rintro e w78 ⟨⟨B81,z81,h3⟩,v,rfl,hv⟩;clear I2 K2;rw[← HG.o] at hv;obtain⟨n83,m4,l83,c83,rfl,k1⟩:=hv.opened;have M2:=zz k1;clear hv k1;go_upto_region 4 with (fail)
  obtain⟨w84,u0⟩:=ex (w78.alloc (.cells #[.bool n83,.slice m4 l83 c83] 26));rw[← u0];have s0:=cL u0;have za84:=cJ u0;have B85:=zz (cK u0);have z85:=B85.o.size;have l1:=tr h3 B85;clear u0;have P5:=tr B81 B85;have I0:=aEd Ln P5.o;have N2:=cz2 I0;have P2:=cz2 s0;go_wp2_with fail
  have R2:=st aFu HZ P5;have K0:=st aFu M2 B85;refine(nx l1 (jV _ _ _ z g R2.o K0.o HP.o.2.2 (by have:=HL.o;omega) (by have:=HL.o;omega))).mono ?_;rintro e w87 ⟨⟨B94,z94,i3⟩,v,v',rfl,hv,hv',hnn,-⟩;clear N2 P2;have HNx:=zz (NewL.mono hnn l1.o.size);clear hnn;obtain⟨p96,Ap96,lp96,cp96,rfl,-⟩:=hv'.opened;clear hv';obtain⟨n97,C3,l97,c97,rfl,n1⟩:=hv.opened;have S2:=zz n1;clear hv n1;go_upto_region 5 with (fail)
  obtain⟨w98,n0⟩:=ex ((w87.alloc (.cells #[.bool n97,.slice C3 l97 c97] 26)).alloc (.cells #[.bool p96,.slice Ap96 lp96 cp96] 26));rw[← n0];have T2:=pM n0;have r3:=pL n0;have za98:=pJ n0;have B99:=zz (pK n0);have z99:=B99.o.size;have L0:=tr i3 B99;clear n0;have W5:=tr P5 B94;have Y5:=tr W5 B99;have v0:=aEd Ld Y5.o;have o1:=cz2 v0;have X5:=tr B94 B99;have x0:=aEd s0 X5.o;have q1:=cz2 x0;go_wp2_with fail
  have s1:=st aFu HK Y5;have t1:=st aFu K0 X5;refine(nx L0 (jV _ _ _ k g s1.o t1.o HP.o.2.2 (by have:=HL.o;omega) (by have:=HL.o;omega))).mono ?_;rintro e w101 ⟨⟨B111,z111,U2⟩,v,v',rfl,hv,hv',hnn,-⟩;clear o1 q1;have HNy:=zz (NewL.mono hnn L0.o.size);clear hnn;obtain⟨p113,Ap113,lp113,cp113,rfl,-⟩:=hv'.opened;clear hv';obtain⟨n114,y3,l114,c114,rfl,N0⟩:=hv.opened;have u1:=zz N0;clear hv N0;go_upto_region 6 with (fail)
  obtain⟨w115,i0⟩:=ex ((w101.alloc (.cells #[.bool n114,.slice y3 l114 c114] 26)).alloc (.cells #[.bool p113,.slice Ap113 lp113 cp113] 26));rw[← i0];have y0:=pM i0;have j3:=pL i0;have za115:=pJ i0;have B116:=zz (pK i0);have z116:=B116.o.size;have V2:=tr U2 B116;clear i0;have Z5:=tr B99 B111;have M5:=tr Z5 B116;have v1:=st aFu S2 M5;have w1:=st aFu u1 B116;have HQ:=zz (show QV w115 w115.heap.size (.agg #[.bool n97,.slice C3 l97 c97,.bool n114,.slice y3 l114 c114]) q from QV.of2 (by rw[HP.o.1];exact v1.o) (by rw[HP.o.2.1];exact w1.o));have N5:=tr B111 B116;have A0:=aEd T2 N5.o;have y1:=cz2 A0;have A1:=cz2 y0;have Q5:=tr Y5 B111;have P6:=tr Q5 B116;have a0:=aEd Lr4 P6.o;have C1:=cz4 a0;have G1:=fz4 a0;go_wp2;clear y1 A1 C1 G1;obtain⟨w131,j0⟩:=ex ((((w115.setCell ⟨w.heap.size+2,0,none⟩ (.bool n97)).setCell ⟨w.heap.size+2,1,none⟩ (.slice C3 l97 c97)).setCell ⟨w.heap.size+2,2,none⟩ (.bool n114)).setCell ⟨w.heap.size+2,3,none⟩ (.slice y3 l114 c114));rw[← j0];have S131:=zz (oU j0 a0 (by simp[aF,aE]))
  have O0:=oV j0 a0;have K1:=zz (oW j0 V2.o (by omega));have s3:=oT j0;clear j0;have L1:=zz (aKv HQ.o (S131.o));exact aFv (aMw rfl _ O0 rfl) rfl ⟨K1.o,_,rfl,L1.o,NewQ.of HNx.o HNy.o⟩
theorem fD (w:World) (va vb:Value) (x y:Int) (ha:LV w w.heap.size va x) (hb:LV w w.heap.size vb y) (h0:y≠0) (lx:(dig x.natAbs).length≤240000000) (ly:(dig y.natAbs).length≤240000000) :
  CV 115 #[va,vb] w fun e w'=>∃ v,e=.returned v∧QV w' w'.heap.size v (Rat.divInt x y):=
 (JF w va vb x y ha hb h0 lx ly).mono fun _ _ ⟨h1,v,h2,h3,_⟩=>⟨h1,v,h2,h3⟩
theorem QL.divInt {x y:Int} {a b:Nat} (h0:y≠0) (hx:(dig x.natAbs).length≤a) (hy:(dig y.natAbs).length≤b):QL a b (Rat.divInt x y):=by
 rw[qE x h0];exact QL.mk' (by rw[aGi,aJd h0,aJi];exact hx) hy (by omega)
end Go.Proofs.YtencnahjgbdeoaaGreatDoor
