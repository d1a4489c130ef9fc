/- Layer 04: Text, Parse (written by gen_qn.py). -/
import Derived.Test.YtencnahjgbdeoaaGreatDoorQM
import Derived.Test.YtencnahjgbdeoaaGreatDoorQP
namespace Go.Proofs.YtencnahjgbdeoaaGreatDoor
open Go Go.RowKit Dig
set_option maxRecDepth 100000
set_option maxHeartbeats 4000000
set_option linter.unusedSimpArgs false
variable {w:World} {x:Int}
def MaxL (w:World):Prop:=∃ m:Int,w.cell? ⟨0,0,none⟩=some (.int .i64 m)
theorem MaxL.step {w':World} (h:MaxL w) (hb:Below w.heap.size w w'):MaxL w':=by
 obtain⟨m,hm⟩:=h;exact⟨m,(hb.cell (iX hm)).trans hm⟩
theorem ZY (w:World) (s:ByteArray) (hs:s.size≤3000000000) (M:MaxL w) :
  CV 126 #[.string s,.string ⟨#[47]⟩] w fun e _=>∃ (a b:ByteArray) (k:Bool),e=.returned (.tuple #[.string a,.string b,.bool k])∧(a.data.toList,b.data.toList,k)=Lib.cut s.data.toList [47]:=by
 obtain⟨m,hm⟩:=M;refine(Tryz.strings_Cut s ⟨#[47]⟩ m w (by omega) hm).mono ?_;rintro e w' ⟨rfl,n,rfl⟩;exact⟨aS (aDy _ _) n,_,_,_,rfl,by simp⟩
theorem TI {s a b:List UInt8} {k:Bool} (h:(a,b,k)=Lib.cut s [47]):a.length≤s.length∧b.length≤s.length:=by
 rcases OI s with hs | ⟨x,y,hx,rfl⟩
 ·rw[FF hs] at h;injection h with h1 h2;injection h2 with h2 h3
  rw[h1,h2];simp
 ·rw[FE hx] at h;injection h with h1 h2;injection h2 with h2 h3
  rw[h1,h2];simp;omega
theorem QV.of {B:Nat} {n m:Bool} {A A':Option Addr} {l c l' c':Nat} {d:Nat} (h:LV w B (.agg #[.bool n,.slice A l c]) x) (k:LV w B (.agg #[.bool m,.slice A' l' c']) (d:Int)) (h0:d≠0) (h1:Nat.gcd x.natAbs d=1) :
  QV w B (.agg #[.bool n,.slice A l c,.bool m,.slice A' l' c']) (mkRat x d):=by
 obtain⟨e1,e2⟩:=jC (x:=x) (y:=d) (aFy h0) h1;obtain⟨a1,-,a3⟩:=h.is;obtain⟨b1,-,b3⟩:=k.is;rw[aEe (by omega)] at b1;subst b1;rw[aEr] at b3;exact⟨n,A,l,c,A',l',c',rfl,by rw[e1];exact a3,by rw[e2];exact b3,by rw[e1];exact a1⟩
theorem QR.of {B:Nat} {n m:Bool} {A A':Option Addr} {l c l' c':Nat} {y:Int} (h:LV w B (.agg #[.bool n,.slice A l c]) x) (k:LV w B (.agg #[.bool m,.slice A' l' c']) y) :
  QR w B (.agg #[.bool n,.slice A l c,.bool m,.slice A' l' c']) (decide (x<0)) (ni (dig x.natAbs)) (decide (y<0)) (ni (dig y.natAbs)):=by
 obtain⟨a1,-,a3⟩:=h.is;obtain⟨b1,-,b3⟩:=k.is;subst a1;subst b1;exact QR.mk a3 b3
theorem DN {y:Int} (hx:(dig x.natAbs).length≤600) (hy:(dig y.natAbs).length≤600):nS (decide (x<0)) (ni (dig x.natAbs)) (decide (y<0)) (ni (dig y.natAbs))=if 0<y∧Nat.gcd x.natAbs y.natAbs=1 then some (mkRat x y.natAbs) else none:=
 gP (oI hx) (oI hy)
theorem MU (w:World) (s:ByteArray) (hs:s.size≤3000000000) (M:MaxL w) :
  CV 82 #[.string s] w fun e w'=>uU w' (bR s.data.toList) e:=by
 obtain⟨r,hr⟩:=ex (bR s.data.toList);rw[← hr];have HR:=zz hr;clear hr;have l3:=zz hs;clear hs;obtain⟨w0,hw0⟩:=ex (w.alloc (.cells #[.bool false,.slice none 0 0,.bool false,.slice none 0 0] 28));have B0:=zz (cK hw0);have z0:=cJ hw0;have Lr2:=cL hw0;go_enter Tryz.func82,Tryz.ntmps82
 go_upto_region 1 with (fail)
 rw[← hw0];clear hw0;go_wp2_with fail
 refine(nx B0 (ZY _ s l3.o (M.step B0.o))).mono ?_;rintro e w1 ⟨⟨B2,z2,T2⟩,sa,sb,k,rfl,hcut⟩;have hcz:=TI hcut;have U3:=zz (show sa.size≤3000000000 by rw[Lib.size_eq];have h1:=l3.o;rw[Lib.size_eq] at h1;omega);have V3:=zz (show sb.size≤3000000000 by rw[Lib.size_eq];have h1:=l3.o;rw[Lib.size_eq] at h1;omega);clear hcz;have X2:=zz (show r=if (bA sa.data.toList).2≠0 then (none,(bA sa.data.toList).2) else if k=false then (some (mkRat (bA sa.data.toList).1 1),0) else if (bA sb.data.toList).2≠0 then (none,(bA sb.data.toList).2) else if 2≤(bA sb.data.toList).1∧Nat.gcd (bA sa.data.toList).1.natAbs (bA sb.data.toList).1.natAbs=1 then (some (mkRat (bA sa.data.toList).1 (bA sb.data.toList).1.natAbs),0) else (none,5) by
  rw[HR.o,bR,← hcut])
 clear hcut HR;obtain⟨p,hp⟩:=ex (bA sa.data.toList);have HP:=zz hp;have L3:=zz (rO sa.data.toList);rw[← hp] at L3 X2;clear hp;go_wp2_with fail
 refine(nx T2 ((show Calls Tryz.prog _ _ _ _ from HP.o▸zY _ sa U3.o))).mono ?_;rintro e w4 ⟨⟨B5,z5,U2⟩,v,rfl,hv⟩;obtain⟨x,e1⟩:=p;replace hv:LV w4 w4.heap.size v x:=hv;dsimp only at X2 ⊢
 obtain⟨n7,Z2,l7,c7,rfl,K2⟩:=hv.opened;have x0:=zz K2;clear hv K2;go_upto_region 3 with (fail)
 obtain⟨w8,u0⟩:=ex (w4.alloc (.cells #[.bool n7,.slice Z2 l7 c7] 26));rw[← u0];have i0:=cL u0;have za8:=cJ u0;have B9:=zz (cK u0);have z9:=B9.o.size;have y0:=tr U2 B9;clear u0;by_cases he1:e1=0
 ·subst he1;cases k with
  | false=>
   have HV:=zz (show r=(some (mkRat x 1),0) by rw[X2.o];simp);go_upto_region 4 with (fail)
   refine aFq [se 0 27 [] (.agg #[.bool n7,.slice Z2 l7 c7]),sf 1 28 [] (fun fv fw=>LV fw fw.heap.size fv 1),sf 2 29 [0,1] (fun fv fw=>QV fw fw.heap.size fv (mkRat x 1)),se 3 30 [] (.int .i64 0),sf 4 31 [2,3] (fun fv fw=>∃ u,fv=.tuple #[u,.int .i64 0]∧QO fw fw.heap.size u (some (mkRat x 1))),sf 5 32 [4] (fun fv fw=>QO fw fw.heap.size fv (some (mkRat x 1))),se 6 33 [4] (.int .i64 0)] 2 (SB i0 S0) (MA (fun _ _ _ h hb=>h.step hb) (MA (fun _ _ _ h hb=>h.step hb) (MA (fun _ _ _ h hb=>let ⟨u,e,h⟩:=h;⟨u,e,aNi (o:=(some (mkRat x 1))) h hb⟩) (MA (fun _ _ _ h hb=>aNi (o:=(some (mkRat x 1))) h hb) aFi)))) ?_ ?_
   ·intro xs a_ hA;simp only[SX,↓reduceIte,Nat.reduceEqDiff,Nat.reduceAdd] at hA⊢;subst hA;and_intros
    all_goals intro wk b_ z_
    all_goals try exact pl
    ·intros
     refine wo fun K hK=>?_;go_simp;(with_reducible refine(AQ _ 1 (by decide) (by decide)).mono ?_)
     rintro e wc11 ⟨L2,v11,rfl,M2⟩;refine hK _ _ ⟨v11,by kernel_rfl,L2,M2⟩
    ·intro f0 f1;intros;refine wo fun K hK=>?_;obtain⟨m3,n3,o3,p3,hx1,v0⟩:=LV.opened f1;rw[hx1];have Y2:=tr B9 b_;have z1:=st aFu x0 Y2;have q3:=zz v0;clear v0;go_simp;refine hK _ _ ⟨.agg #[.bool n7,.slice Z2 l7 c7,.bool m3,.slice n3 o3 p3],by simp only[FL,f0,hx1] <;> kernel_rfl,aDy _ _,QV.of (d:=1) z1.o q3.o (by decide) (Nat.gcd_one_right _)⟩
    ·intro f2 f3;intros;refine wo fun K hK=>?_;obtain⟨qn,qA,ql,qc,qB,qm,qd,hu,ra,rb,rc⟩:=f2;rw[hu];have RC:=zz (aEn ra (aEn rb rc));clear ra rb rc;go_simp;(with_reducible refine(oL _ qn false qA qB ql qc qm qd).mono ?_)
     rintro e wc14 ⟨H0,rfl⟩;refine hK _ _ ⟨.tuple #[.agg #[.bool qn,.slice qA ql qc,.bool false,.slice qB qm qd],.int .i64 0],by simp only[FL,f3,hu] <;> kernel_rfl,H0,⟨_,rfl,aHf ⟨_,_,_,_,_,_,_,rfl,RC.o.1,RC.o.2.1,RC.o.2.2⟩ H0⟩⟩
    ·intro f4;intros;refine wo fun K hK=>?_;obtain⟨u,hu,hl⟩:=f4;rw[hu];go_simp;refine hK _ _ ⟨u,by simp only[FL,hu] <;> kernel_rfl,aDy _ _,hl⟩
    ·intro f4;intros;refine wo fun K hK=>?_;obtain⟨u,hu,-⟩:=f4;rw[hu];go_simp;refine hK _ _ ⟨_,by simp only[FL,hu] <;> kernel_rfl,aDy _ _,rfl⟩
   ·intro xs j4 B16 z16;simp only[SY];have N2:=tr y0 B16;generalize xs 1=x1,xs 2=x2,xs 4=x4,xs 5=x5;rintro f1 f2 f4 f5;clear f1;clear f2;clear f4;have hg18:=f5;obtain⟨k4,l4,m4,n4,o4,p4,W2,q4,rfl⟩:=aMh hg18;have G0:=zz hg18;clear hg18;have P4:=tr B2 B5;have W4:=tr P4 B9;have Y4:=tr W4 B16;have c0:=aEd Lr2 Y4.o;have A1:=cz4 c0;have E1:=fz4 c0;refine EN 7 rfl fun K hK=>?_;go_simp;refine hK _ _ ?_;clear hK K;(try simp only[PT])
    clear A1 E1;refine EN 8 rfl fun K hK=>?_
    go_simp;refine hK _ _ ?_;clear hK K;(try simp only[PT])
    refine ED ?_;(try simp only[Exit.then])
    go_wp2;exact aLp rfl c0 (by simp[aF,aE]) N2.o (by omega) (by rw[HV.o];exact G0.o) rfl (by rw[HV.o];rfl)
  | true=>
   obtain⟨p,hp⟩:=ex (bA sb.data.toList);have W3:=zz hp;have M3:=zz (rO sb.data.toList);rw[← hp] at M3 X2;clear hp;have I1:=cz2 i0;go_wp2_with fail
   refine(nx y0 ((show Calls Tryz.prog _ _ _ _ from W3.o▸zY _ sb V3.o))).mono ?_;rintro e w25 ⟨⟨B27,z27,O2⟩,v,rfl,hv⟩;clear I1;obtain⟨y,e2⟩:=p;replace hv:LV w25 w25.heap.size v y:=hv;dsimp only at X2 ⊢
   replace X2:=zz (show r=if e2≠0 then (none,e2) else if 2≤y∧Nat.gcd x.natAbs y.natAbs=1 then (some (mkRat x y.natAbs),0) else (none,5) by rw[X2.o];simp);obtain⟨n29,a3,l29,c29,rfl,J0⟩:=hv.opened;have K1:=zz J0;clear hv J0;go_upto_region 6 with (fail)
   obtain⟨w30,l0⟩:=ex (w25.alloc (.cells #[.bool n29,.slice a3 l29 c29] 26));rw[← l0];have h0:=cL l0;have za30:=cJ l0;have B31:=zz (cK l0);have z31:=B31.o.size;have A0:=tr O2 B31;clear l0;by_cases he2:e2=0
   ·subst he2;obtain⟨hxl,hyl,hyt⟩:(dig x.natAbs).length≤600∧(dig y.natAbs).length≤600∧Lib.itoa y=sb.data.toList:=by
     rcases L3.o with h | ⟨h,-⟩ | ⟨z,h,-,h2⟩
     ·injection h with _ h;cases h
     ·injection h with _ h;cases h
     ·injection h with h _;subst h
      rcases M3.o with h | ⟨h,-⟩ | ⟨z,h,h3,h4⟩
      ·injection h with _ h;cases h
      ·injection h with _ h;cases h
      ·injection h with h _;subst h;exact⟨h2,h4,h3⟩
    have N3:=zz hxl;have O3:=zz hyl;have P3:=zz hyt;clear hxl hyl hyt;have X4:=tr B9 B27;have Z4:=tr X4 B31;have D0:=st aFu x0 Z4;have E0:=st aFu K1 B31;have Q3:=zz (QR.of D0.o E0.o);by_cases hq:0<y∧Nat.gcd x.natAbs y.natAbs=1
    ·have HQ:=zz hq;have v3:=zz (show nS _ _ _ _=some (mkRat x y.natAbs) from(DN N3.o O3.o).trans (aEv hq));clear hq;have M4:=tr B27 B31;have j0:=aEd i0 M4.o;have L1:=cz2 j0;have N1:=cz2 h0;go_wp2_with fail
     refine(nx A0 ((show Calls Tryz.prog _ _ _ _ from(zP v3.o)▸jX _ _ _ _ _ _ Q3.o))).mono ?_;rintro e w37 ⟨⟨B42,z42,L0⟩,rfl⟩;clear L1 N1;by_cases hy1:y=1
     ·have hone:(sb.toList==[49])=true:=by rw[Lib.toList_data,← P3.o,hy1,itoa_one];rfl
      have HV:=zz (show r=(none,5) by rw[X2.o,hy1];simp);clear hy1;have n0:=aEd j0 B42.o;have P1:=cz2 n0;have o0:=aEd h0 B42.o;have R1:=cz2 o0;go_wp2_with fail
      refine(nx L0 (lA _ n7 n29 Z2 a3 l7 c7 l29 c29 5 (by decide))).mono ?_;rintro e w44 ⟨⟨B49,z49,P2⟩,rfl⟩;clear P1 R1;have N4:=tr B2 B5;have Q4:=tr N4 B9;have P5:=tr Q4 B27;have W5:=tr P5 B31;have Y5:=tr W5 B42;have X5:=tr Y5 B49;have d0:=aEd Lr2 X5.o;have T1:=cz4 d0;have X1:=fz4 d0;go_wp2;clear T1 X1;exact aLp rfl d0 (by simp[aF,aE]) P2.o (by omega) (by rw[HV.o];exact kA _ _) rfl (by rw[HV.o];rfl)
     ·have hone:(sb.toList==[49])=false:=by rw[Lib.toList_data,← P3.o];exact aEo.2 (fun h=>hy1 (IV.1 h))
      have HV:=zz (show r=(some (mkRat x y.natAbs),0) by rw[X2.o,aEu (by decide),aEv ⟨by have:=HQ.o.1;omega,HQ.o.2⟩]);have X3:=zz (show y=((y.natAbs:Nat):Int) by have:=HQ.o.1;omega);clear hy1;have p0:=aEd j0 B42.o;have b2:=cz2 p0;have q0:=aEd h0 B42.o;have d2:=cz2 q0;go_wp2_with fail
      refine(nx L0 (oL _ n7 n29 Z2 a3 l7 c7 l29 c29)).mono ?_;rintro e w60 ⟨⟨B65,z65,Q2⟩,rfl⟩;clear b2 d2;have Z5:=tr B42 B65;have i2:=st aFu D0 Z5;have j2:=st aFu E0 Z5;have R3:=zz (show QV w60 w60.heap.size (.agg #[.bool n7,.slice Z2 l7 c7,.bool n29,.slice a3 l29 c29]) (mkRat x y.natAbs) from QV.of i2.o (by rw[← X3.o];exact j2.o) (by have:=HQ.o.1;omega) HQ.o.2);have M5:=tr B2 B5;have N5:=tr M5 B9;have Q5:=tr N5 B27;have P6:=tr Q5 B31;have W6:=tr P6 B42;have Y6:=tr W6 B65;have e0:=aEd Lr2 Y6.o;have k2:=cz4 e0;have o2:=fz4 e0;go_wp2;clear k2 o2;exact aLp rfl e0 (by simp[aF,aE]) Q2.o (by omega) (by rw[HV.o];exact R3.o) rfl (by rw[HV.o];rfl)
    ·have v3:=zz (show nS _ _ _ _=none from(DN N3.o O3.o).trans (aEu hq));have HV:=zz (show r=(none,5) by rw[X2.o,aEu (by decide),aEu (fun h=>hq ⟨by omega,h.2⟩)]);clear hq;have X6:=tr B27 B31;have k0:=aEd i0 X6.o;have s2:=cz2 k0;have u2:=cz2 h0;go_wp2_with fail
     refine(nx A0 (TU Q3.o v3.o)).mono ?_;rintro e w79 ⟨⟨B84,z84,R2⟩,rfl⟩;clear s2 u2;have s0:=aEd k0 B84.o;have w2:=cz2 s0;have t0:=aEd h0 B84.o;have A2:=cz2 t0;go_wp2_with fail
     refine(nx R2 (lA _ n7 n29 Z2 a3 l7 c7 l29 c29 5 (by decide))).mono ?_;rintro e w86 ⟨⟨B91,z91,S2⟩,rfl⟩;clear w2 A2;have Z6:=tr B2 B5;have M6:=tr Z6 B9;have N6:=tr M6 B27;have Q6:=tr N6 B31;have P7:=tr Q6 B84;have W7:=tr P7 B91;have g0:=aEd Lr2 W7.o;have Q0:=cz4 g0;have V0:=fz4 g0;go_wp2;clear Q0 V0;exact aLp rfl g0 (by simp[aF,aE]) S2.o (by omega) (by rw[HV.o];exact kA _ _) rfl (by rw[HV.o];rfl)
   ·have HE:=zz he2;have hez:(e2==0)=false:=by rw[aEo];exact he2
    have HV:=zz (show r=(none,e2) by rw[X2.o,aEv he2]);clear he2;have Y7:=tr B27 B31;have m0:=aEd i0 Y7.o;have Z0:=cz2 m0;have b1:=cz2 h0;go_wp2_with fail
    refine(nx A0 (lA _ n7 n29 Z2 a3 l7 c7 l29 c29 e2 HE.o)).mono ?_;rintro e w102 ⟨⟨B107,z107,D2⟩,rfl⟩;clear Z0 b1;have X7:=tr B2 B5;have Z7:=tr X7 B9;have M7:=tr Z7 B27;have N7:=tr M7 B31;have Q7:=tr N7 B107;have a0:=aEd Lr2 Q7.o;have d1:=cz4 a0;have k1:=fz4 a0;go_wp2;clear d1 k1;exact aLp rfl a0 (by simp[aF,aE]) D2.o (by omega) (by rw[HV.o];exact kA _ _) rfl (by rw[HV.o];rfl)
 ·have HE:=zz he1;have hez:(e1==0)=false:=by rw[aEo];exact he1
  have HV:=zz (show r=(none,e1) by rw[X2.o,aEv he1]);clear he1;go_upto_region 4 with (fail)
  refine aFq [se 0 27 [] (.agg #[.bool n7,.slice Z2 l7 c7]),sf 1 28 [] (fun fv fw=>LV fw fw.heap.size fv 1),sf 2 29 [0,1] (fun fv fw=>QV fw fw.heap.size fv (mkRat x 1)),se 3 30 [] (.int .i64 e1),sf 4 31 [2,3] (fun fv fw=>∃ u,fv=.tuple #[u,.int .i64 e1]∧QO fw fw.heap.size u none),sf 5 32 [4] (fun fv fw=>QO fw fw.heap.size fv none),se 6 33 [4] (.int .i64 e1)] 2 (SB i0 S0) (MA (fun _ _ _ h hb=>h.step hb) (MA (fun _ _ _ h hb=>h.step hb) (MA (fun _ _ _ h hb=>let ⟨u,e,h⟩:=h;⟨u,e,aNi (o:=none) h hb⟩) (MA (fun _ _ _ h hb=>aNi (o:=none) h hb) aFi)))) ?_ ?_
  ·intro xs a_ hA;simp only[SX,↓reduceIte,Nat.reduceEqDiff,Nat.reduceAdd] at hA⊢;subst hA;and_intros
   all_goals intro wk b_ z_
   all_goals try exact pl
   ·intros
    refine wo fun K hK=>?_;go_simp;(with_reducible refine(AQ _ 1 (by decide) (by decide)).mono ?_)
    rintro e wc117 ⟨E2,v117,rfl,F2⟩;refine hK _ _ ⟨v117,by kernel_rfl,E2,F2⟩
   ·intro f0 f1;intros;refine wo fun K hK=>?_;obtain⟨m3,n3,o3,p3,hx1,v0⟩:=LV.opened f1;rw[hx1];have P8:=tr B9 b_;have o1:=st aFu x0 P8;have q3:=zz v0;clear v0;go_simp;refine hK _ _ ⟨.agg #[.bool n7,.slice Z2 l7 c7,.bool m3,.slice n3 o3 p3],by simp only[FL,f0,hx1] <;> kernel_rfl,aDy _ _,QV.of (d:=1) o1.o q3.o (by decide) (Nat.gcd_one_right _)⟩
   ·intro f2 f3;intros;refine wo fun K hK=>?_;obtain⟨qn,qA,ql,qc,qB,qm,qd,hu,ra,rb,rc⟩:=f2;rw[hu];have RC:=zz (aEn ra (aEn rb rc));clear ra rb rc;go_simp;(with_reducible refine(lA _ qn false qA qB ql qc qm qd e1 HE.o).mono ?_)
    rintro e wc120 ⟨G2,rfl⟩;refine hK _ _ ⟨.tuple #[.agg #[.bool false,.slice none 0 0,.bool false,.slice none 0 0],.int .i64 e1],by simp only[FL,f3,hu] <;> kernel_rfl,G2,⟨_,rfl,kA _ _⟩⟩
   ·intro f4;intros;refine wo fun K hK=>?_;obtain⟨u,hu,hl⟩:=f4;rw[hu];go_simp;refine hK _ _ ⟨u,by simp only[FL,hu] <;> kernel_rfl,aDy _ _,hl⟩
   ·intro f4;intros;refine wo fun K hK=>?_;obtain⟨u,hu,-⟩:=f4;rw[hu];go_simp;refine hK _ _ ⟨_,by simp only[FL,hu] <;> kernel_rfl,aDy _ _,rfl⟩
  ·intro xs Y3 B122 z122;simp only[SY];have H2:=tr y0 B122;generalize xs 1=x1,xs 2=x2,xs 4=x4,xs 5=x5;rintro f1 f2 f4 f5;clear f1;clear f2;clear f4;have hg124:=f5;obtain⟨Z3,a4,b4,c4,d4,e4,V2,g4,rfl⟩:=aMh hg124;have C0:=zz hg124;clear hg124;have W8:=tr B2 B5;have Y8:=tr W8 B9;have X8:=tr Y8 B122;have b0:=aEd Lr2 X8.o;have p1:=cz4 b0;have t1:=fz4 b0;refine EN 7 rfl fun K hK=>?_;go_simp;refine hK _ _ ?_;clear hK K;(try simp only[PT])
   clear p1 t1;refine EN 8 rfl fun K hK=>?_
   go_simp;refine hK _ _ ?_;clear hK K;(try simp only[PT])
   refine ED ?_;(try simp only[Exit.then])
   go_wp2;exact aLp rfl b0 (by simp[aF,aE]) H2.o (by omega) (by rw[HV.o];exact C0.o) rfl (by rw[HV.o];rfl)
end Go.Proofs.YtencnahjgbdeoaaGreatDoor
