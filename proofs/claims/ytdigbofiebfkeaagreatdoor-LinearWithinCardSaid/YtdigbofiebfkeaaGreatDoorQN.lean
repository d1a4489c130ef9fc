/- Layer 04: Text, Parse (written by gen_qn.py). -/
import Derived.Test.YtdigbofiebfkeaaGreatDoorQM
import Derived.Test.YtdigbofiebfkeaaGreatDoorQP
namespace Go.Proofs.YtdigbofiebfkeaaGreatDoor
open Go Go.RowKit Dig
set_option maxRecDepth 100000
set_option maxHeartbeats 4000000
set_option linter.unusedSimpArgs false
def MaxL (w:World):Prop:=∃ m:Int,w.cell? ⟨0,0,none⟩=some (.int .i64 m)
theorem MaxL.step {w w':World} (h:MaxL w) (hb:Below w.heap.size w w'):MaxL w':=by
 obtain⟨m,hm⟩:=h;exact⟨m,(hb.cell (cell_lt hm)).trans hm⟩
theorem Cut_any (w:World) (s:ByteArray) (hs:s.size≤3000000000) (M:MaxL w) :
  Calls Tryz.prog 100 #[.string s,.string ⟨#[47]⟩] w fun e w'=>Below w.heap.size w w'∧∃ (a b:ByteArray) (k:Bool),e=.returned (.tuple #[.string a,.string b,.bool k])∧(a.data.toList,b.data.toList,k)=Lib.cut s.data.toList [47]:=by
 obtain⟨m,hm⟩:=M;refine(Tryz.strings_Cut s ⟨#[47]⟩ m w (by omega) hm).mono ?_;rintro e w' ⟨rfl,n,rfl⟩;exact⟨below_drewN (Below.refl _ _) n,_,_,_,rfl,by simp⟩
theorem cut_sizes {s a b:List UInt8} {k:Bool} (h:(a,b,k)=Lib.cut s [47]):a.length≤s.length∧b.length≤s.length:=by
 rcases first47 s with hs | ⟨x,y,hx,rfl⟩
 ·rw[cut_none hs] at h;injection h with h1 h2;injection h2 with h2 h3
  rw[h1,h2];simp
 ·rw[cut_some hx] at h;injection h with h1 h2;injection h2 with h2 h3
  rw[h1,h2];simp;omega
theorem QV.of {w:World} {B:Nat} {n m:Bool} {A A':Option Addr} {l c l' c':Nat} {x:Int} {d:Nat} (h:LV w B (.agg #[.bool n,.slice A l c]) x) (k:LV w B (.agg #[.bool m,.slice A' l' c']) (d:Int)) (h0:d≠0) (h1:Nat.gcd x.natAbs d=1) :
  QV w B (.agg #[.bool n,.slice A l c,.bool m,.slice A' l' c']) (mkRat x d):=by
 obtain⟨e1,e2⟩:=mkRat_low (x:=x) (y:=d) (Nat.pos_of_ne_zero h0) h1;obtain⟨a1,-,a3⟩:=h.is;obtain⟨b1,-,b3⟩:=k.is;rw[decide_eq_false (by omega)] at b1;subst b1;rw[Int.natAbs_natCast] at b3;exact⟨n,A,l,c,A',l',c',rfl,by rw[e1];exact a3,by rw[e2];exact b3,by rw[e1];exact a1⟩
theorem QR.of {w:World} {B:Nat} {n m:Bool} {A A':Option Addr} {l c l' c':Nat} {x y:Int} (h:LV w B (.agg #[.bool n,.slice A l c]) x) (k:LV w B (.agg #[.bool m,.slice A' l' c']) y) :
  QR w B (.agg #[.bool n,.slice A l c,.bool m,.slice A' l' c']) (decide (x<0)) (ni (dig x.natAbs)) (decide (y<0)) (ni (dig y.natAbs)):=by
 obtain⟨a1,-,a3⟩:=h.is;obtain⟨b1,-,b3⟩:=k.is;subst a1;subst b1;exact QR.mk a3 b3
theorem qOf_pair {x y:Int} (hx:(dig x.natAbs).length≤600) (hy:(dig y.natAbs).length≤600):qOf (decide (x<0)) (ni (dig x.natAbs)) (decide (y<0)) (ni (dig y.natAbs))=if 0<y∧Nat.gcd x.natAbs y.natAbs=1 then some (mkRat x y.natAbs) else none:=
 qOf_both (numOf_dig hx) (numOf_dig hy)
theorem QParse_any (w:World) (s:ByteArray) (hs:s.size≤3000000000) (M:MaxL w) :
  Calls Tryz.prog 65 #[.string s] w fun e w'=>Below w.heap.size w w'∧RetQ w' (parseQ s.data.toList) e:=by
 obtain⟨r,hr⟩:∃ r,r=parseQ s.data.toList:=⟨_,rfl⟩;rw[← hr];have HR:=zz hr;clear hr;have l3:=zz hs;clear hs;obtain⟨w0,hw0⟩:∃ w0:World,w0=(w.alloc (.cells #[.bool false,.slice none 0 0,.bool false,.slice none 0 0] 33)):=⟨_,rfl⟩;have B0:=zz (n1_b hw0);have z0:=n1_z hw0;have Lr2:=n1_0 hw0;go_enter Tryz.func65,Tryz.ntmps65
 go_upto_region 1 with (fail)
 rw[← hw0];clear hw0;go_wp2_with fail
 refine(Cut_any _ s l3.out (M.step B0.out)).mono ?_;rintro e w1 ⟨I2,sa,sb,k,rfl,hcut⟩;have B2:=zz I2;have z2:=B2.out.size;have T2:=tr B0 B2;clear I2;have hcz:=cut_sizes hcut;have U3:=zz (show sa.size≤3000000000 by rw[Lib.size_eq];have h1:=l3.out;rw[Lib.size_eq] at h1;omega);have V3:=zz (show sb.size≤3000000000 by rw[Lib.size_eq];have h1:=l3.out;rw[Lib.size_eq] at h1;omega);clear hcz;have X2:=zz (show r=if (parseZ sa.data.toList).2≠0 then (none,(parseZ sa.data.toList).2) else if k=false then (some (mkRat (parseZ sa.data.toList).1 1),0) else if (parseZ sb.data.toList).2≠0 then (none,(parseZ sb.data.toList).2) else if 2≤(parseZ sb.data.toList).1∧Nat.gcd (parseZ sa.data.toList).1.natAbs (parseZ sb.data.toList).1.natAbs=1 then (some (mkRat (parseZ sa.data.toList).1 (parseZ sb.data.toList).1.natAbs),0) else (none,5) by
  rw[HR.out,parseQ,← hcut])
 clear hcut HR;obtain⟨p,hp⟩:∃ p,p=parseZ sa.data.toList:=⟨_,rfl⟩;have HP:=zz hp;have L3:=zz (parseZ_cases sa.data.toList);rw[← hp] at L3 X2;clear hp;go_wp2_with fail
 refine((show Calls Tryz.prog _ _ _ _ from HP.out▸Parse_any _ sa U3.out)).mono ?_;rintro e w4 ⟨J2,v,rfl,hv⟩;have B5:=zz J2;have z5:=B5.out.size;have U2:=tr T2 B5;clear J2;obtain⟨x,e1⟩:=p;replace hv:LV w4 w4.heap.size v x:=hv;dsimp only at X2 ⊢
 obtain⟨n7,Z2,l7,c7,rfl,K2⟩:=hv.opened;have x0:=zz K2;clear hv K2;go_upto_region 3 with (fail)
 obtain⟨w8,u0⟩:∃ w8:World,w8=(w4.alloc (.cells #[.bool n7,.slice Z2 l7 c7] 31)):=⟨_,rfl⟩;rw[← u0];have i0:=n1_0 u0;have za8:=n1_z u0;have B9:=zz (n1_b u0);have z9:=B9.out.size;have y0:=tr U2 B9;clear u0;by_cases he1:e1=0
 ·subst he1;cases k with
  | false=>
   have HV:=zz (show r=(some (mkRat x 1),0) by rw[X2.out];simp);go_upto_region 4 with (fail)
   refine Sweep.r0 [se 0 27 [] (.agg #[.bool n7,.slice Z2 l7 c7]),sf 1 28 [] (fun fv fw=>LV fw fw.heap.size fv 1),sf 2 29 [0,1] (fun fv fw=>QV fw fw.heap.size fv (mkRat x 1)),se 3 30 [] (.int .i64 0),sf 4 31 [2,3] (fun fv fw=>∃ u,fv=.tuple #[u,.int .i64 0]∧QO fw fw.heap.size u (some (mkRat x 1))),sf 5 32 [4] (fun fv fw=>QO fw fw.heap.size fv (some (mkRat x 1))),se 6 33 [4] (.int .i64 0)] 2 (SB i0 S0) (MA (fun _ _ _ h hb=>h.step hb) (MA (fun _ _ _ h hb=>h.step hb) (MA (fun _ _ _ h hb=>let ⟨u,e,h⟩:=h;⟨u,e,QO.step (o:=(some (mkRat x 1))) h hb⟩) (MA (fun _ _ _ h hb=>QO.step (o:=(some (mkRat x 1))) h hb) trivial)))) ?_ ?_
   ·intro xs a_ hA;simp only[SX] at hA
    iterate 7 (refine ac ?_ ?_;rotate_left)
    exact all_nil
    all_goals (intro wk hb;simp only[SX,↓reduceIte,Nat.reduceEqDiff,Nat.reduceAdd];have b_:=zz hb;have z_:=hb.size;clear hb;subst hA)
    any_goals (intros;refine wpOp_step rfl ?_;intro K hK;go_simp;refine hK _ _ ⟨_,?_,Below.refl _ _,rfl⟩;simp only[*,FL] <;> kernel_rfl)
    ·intros
     refine wpOp_step (o:=_) rfl (fun K hK=>?_);go_simp;(with_reducible refine(Of_any _ 1 (by decide) (by decide)).mono ?_)
     rintro e wc11 ⟨L2,v11,rfl,M2⟩;refine hK _ _ ⟨v11,by kernel_rfl,L2,M2⟩
    ·intro f0 f1;intros;refine wpOp_step (o:=_) rfl (fun K hK=>?_);obtain⟨m3,n3,o3,p3,hx1,v0⟩:=LV.opened f1;rw[hx1];have P3_5_12:=tr B9 b_;have z1:=zz (LV.step x0.out P3_5_12.out);have q3:=zz v0;clear v0;go_simp;refine hK _ _ ⟨.agg #[.bool n7,.slice Z2 l7 c7,.bool m3,.slice n3 o3 p3],by simp only[FL,f0,hx1] <;> kernel_rfl,Below.refl _ _,QV.of (d:=1) z1.out q3.out (by decide) (Nat.gcd_one_right _)⟩
    ·intro f2 f3;intros;refine wpOp_step (o:=_) rfl (fun K hK=>?_);obtain⟨qn,qA,ql,qc,qB,qm,qd,hu,ra,rb,rc⟩:=f2;rw[hu];have RC:=zz (And.intro ra (And.intro rb rc));clear ra rb rc;go_simp;(with_reducible refine(madeQ_yes _ qn false qA qB ql qc qm qd).mono ?_)
     rintro e wc14 ⟨H0,rfl⟩;refine hK _ _ ⟨.tuple #[.agg #[.bool qn,.slice qA ql qc,.bool false,.slice qB qm qd],.int .i64 0],by simp only[FL,f3,hu] <;> kernel_rfl,H0,⟨_,rfl,QV.step ⟨_,_,_,_,_,_,_,rfl,RC.out.1,RC.out.2.1,RC.out.2.2⟩ H0⟩⟩
    ·intro f4;intros;refine wpOp_step (o:=_) rfl (fun K hK=>?_);obtain⟨u,hu,hl⟩:=f4;rw[hu];go_simp;refine hK _ _ ⟨u,by simp only[FL,hu] <;> kernel_rfl,Below.refl _ _,hl⟩
    ·intro f4;intros;refine wpOp_step (o:=_) rfl (fun K hK=>?_);obtain⟨u,hu,-⟩:=f4;rw[hu];go_simp;refine hK _ _ ⟨.int .i64 0,by simp only[FL,hu] <;> kernel_rfl,Below.refl _ _,rfl⟩
   ·intro xs j4 hbf;simp only[SY];have B16:=zz hbf;have z16:=B16.out.size;have N2:=tr y0 B16;clear hbf;generalize xs 1=x1,xs 2=x2,xs 4=x4,xs 5=x5;rintro f1 f2 f4 f5;clear f1;clear f2;clear f4;have hg18:=f5;obtain⟨k4,l4,m4,n4,o4,p4,W2,q4,rfl⟩:=QO.cells hg18;have G0:=zz hg18;clear hg18;have P1_3_20:=tr B2 B5;have P1_4_21:=tr P1_3_20 B9;have P1_5_22:=tr P1_4_21 B16;have c0:=CB.step Lr2 P1_5_22.out;have A1:=c0.cell 0 rfl;have B1:=c0.cell 1 rfl;have C1:=c0.cell 2 rfl;have D1:=c0.cell 3 rfl;have r3:=c0.lt;have E1:=c0.frozen 0;have F1:=c0.frozen 1;have G1:=c0.frozen 2;have H1:=c0.frozen 3;have s3:=c0.lt;refine EN 7 rfl fun K hK=>?_;go_simp;refine hK _ _ ?_;clear hK K;(try simp only[PT])
    clear A1 B1 C1 D1 r3 E1 F1 G1 H1 s3;refine EN 8 rfl fun K hK=>?_
    go_simp;refine hK _ _ ?_;clear hK K;(try simp only[PT])
    refine ED ?_;(try simp only[Exit.then])
    go_wp2;exact QB.fin rfl c0 (by simp[noInt_b,noInt_s]) N2.out (by omega) (by rw[HV.out];exact G0.out) rfl (by rw[HV.out];rfl)
  | true=>
   obtain⟨p,hp⟩:∃ p,p=parseZ sb.data.toList:=⟨_,rfl⟩;have W3:=zz hp;have M3:=zz (parseZ_cases sb.data.toList);rw[← hp] at M3 X2;clear hp;have I1:=i0.cell 0 rfl;have J1:=i0.cell 1 rfl;have t3:=i0.lt;go_wp2_with fail
   refine((show Calls Tryz.prog _ _ _ _ from W3.out▸Parse_any _ sb V3.out)).mono ?_;rintro e w25 ⟨I0,v,rfl,hv⟩;have B27:=zz I0;have z27:=B27.out.size;have O2:=tr y0 B27;clear I0;clear I1 J1 t3;obtain⟨y,e2⟩:=p;replace hv:LV w25 w25.heap.size v y:=hv;dsimp only at X2 ⊢
   replace X2:=zz (show r=if e2≠0 then (none,e2) else if 2≤y∧Nat.gcd x.natAbs y.natAbs=1 then (some (mkRat x y.natAbs),0) else (none,5) by rw[X2.out];simp);obtain⟨n29,a3,l29,c29,rfl,J0⟩:=hv.opened;have K1:=zz J0;clear hv J0;go_upto_region 6 with (fail)
   obtain⟨w30,l0⟩:∃ w30:World,w30=(w25.alloc (.cells #[.bool n29,.slice a3 l29 c29] 31)):=⟨_,rfl⟩;rw[← l0];have h0:=n1_0 l0;have za30:=n1_z l0;have B31:=zz (n1_b l0);have z31:=B31.out.size;have A0:=tr O2 B31;clear l0;by_cases he2:e2=0
   ·subst he2;obtain⟨hxl,hyl,hyt⟩:(dig x.natAbs).length≤600∧(dig y.natAbs).length≤600∧Lib.itoa y=sb.data.toList:=by
     rcases L3.out with h | ⟨h,-⟩ | ⟨z,h,-,h2⟩
     ·injection h with _ h;cases h
     ·injection h with _ h;cases h
     ·injection h with h _;subst h
      rcases M3.out with h | ⟨h,-⟩ | ⟨z,h,h3,h4⟩
      ·injection h with _ h;cases h
      ·injection h with _ h;cases h
      ·injection h with h _;subst h;exact⟨h2,h4,h3⟩
    have N3:=zz hxl;have O3:=zz hyl;have P3:=zz hyt;clear hxl hyl hyt;have P3_5_33:=tr B9 B27;have P3_6_34:=tr P3_5_33 B31;have D0:=zz (LV.step x0.out P3_6_34.out);have E0:=zz (LV.step K1.out B31.out);have Q3:=zz (QR.of D0.out E0.out);by_cases hq:0<y∧Nat.gcd x.natAbs y.natAbs=1
    ·have HQ:=zz hq;have v3:=zz (show qOf _ _ _ _=some (mkRat x y.natAbs) from(qOf_pair N3.out O3.out).trans (if_pos hq));clear hq;have P4_6_39:=tr B27 B31;have j0:=CB.step i0 P4_6_39.out;have L1:=j0.cell 0 rfl;have M1:=j0.cell 1 rfl;have w3:=j0.lt;have N1:=h0.cell 0 rfl;have O1:=h0.cell 1 rfl;have x3:=h0.lt;go_wp2_with fail
     refine((show Calls Tryz.prog _ _ _ _ from(chkQ_some v3.out)▸QCheck_any _ _ _ _ _ _ Q3.out)).mono ?_;rintro e w37 ⟨K0,rfl⟩;have B42:=zz K0;have z42:=B42.out.size;have L0:=tr A0 B42;clear K0;clear L1 M1 w3 N1 O1 x3;by_cases hy1:y=1
     ·have hone:(sb.toList==[49])=true:=by rw[Lib.toList_data,← P3.out,hy1,itoa_one];rfl
      have HV:=zz (show r=(none,5) by rw[X2.out,hy1];simp);clear hy1;have n0:=CB.step j0 B42.out;have P1:=n0.cell 0 rfl;have Q1:=n0.cell 1 rfl;have y3:=n0.lt;have o0:=CB.step h0 B42.out;have R1:=o0.cell 0 rfl;have S1:=o0.cell 1 rfl;have z3:=o0.lt;go_wp2_with fail
      refine(madeQ_no _ n7 n29 Z2 a3 l7 c7 l29 c29 5 (by decide)).mono ?_;rintro e w44 ⟨M0,rfl⟩;have B49:=zz M0;have z49:=B49.out.size;have P2:=tr L0 B49;clear M0;clear P1 Q1 y3 R1 S1 z3;have P1_3_52:=tr B2 B5;have P1_4_53:=tr P1_3_52 B9;have P1_5_54:=tr P1_4_53 B27;have P1_6_55:=tr P1_5_54 B31;have P1_7_56:=tr P1_6_55 B42;have P1_8_57:=tr P1_7_56 B49;have d0:=CB.step Lr2 P1_8_57.out;have T1:=d0.cell 0 rfl;have U1:=d0.cell 1 rfl;have V1:=d0.cell 2 rfl;have W1:=d0.cell 3 rfl;have A3:=d0.lt;have X1:=d0.frozen 0;have Y1:=d0.frozen 1;have Z1:=d0.frozen 2;have a2:=d0.frozen 3;have B3:=d0.lt;go_wp2;clear T1 U1 V1 W1 A3 X1 Y1 Z1 a2 B3;exact QB.fin rfl d0 (by simp[noInt_b,noInt_s]) P2.out (by omega) (by rw[HV.out];exact zeroQ _ _) rfl (by rw[HV.out];rfl)
     ·have hone:(sb.toList==[49])=false:=by rw[Lib.toList_data,← P3.out];exact beq_eq_false_iff_ne.2 (fun h=>hy1 (itoa_is_one.1 h))
      have HV:=zz (show r=(some (mkRat x y.natAbs),0) by rw[X2.out,if_neg (by decide),if_pos ⟨by have:=HQ.out.1;omega,HQ.out.2⟩]);have X3:=zz (show y=((y.natAbs:Nat):Int) by have:=HQ.out.1;omega);clear hy1;have p0:=CB.step j0 B42.out;have b2:=p0.cell 0 rfl;have c2:=p0.cell 1 rfl;have C3:=p0.lt;have q0:=CB.step h0 B42.out;have d2:=q0.cell 0 rfl;have g2:=q0.cell 1 rfl;have D3:=q0.lt;go_wp2_with fail
      refine(madeQ_yes _ n7 n29 Z2 a3 l7 c7 l29 c29).mono ?_;rintro e w60 ⟨N0,rfl⟩;have B65:=zz N0;have z65:=B65.out.size;have Q2:=tr L0 B65;clear N0;clear b2 c2 C3 d2 g2 D3;have P6_8_67:=tr B42 B65;have i2:=zz (LV.step D0.out P6_8_67.out);have j2:=zz (LV.step E0.out P6_8_67.out);have R3:=zz (show QV w60 w60.heap.size (.agg #[.bool n7,.slice Z2 l7 c7,.bool n29,.slice a3 l29 c29]) (mkRat x y.natAbs) from QV.of i2.out (by rw[← X3.out];exact j2.out) (by have:=HQ.out.1;omega) HQ.out.2);have P1_3_71:=tr B2 B5;have P1_4_72:=tr P1_3_71 B9;have P1_5_73:=tr P1_4_72 B27;have P1_6_74:=tr P1_5_73 B31;have P1_7_75:=tr P1_6_74 B42;have P1_8_76:=tr P1_7_75 B65;have e0:=CB.step Lr2 P1_8_76.out;have k2:=e0.cell 0 rfl;have l2:=e0.cell 1 rfl;have m2:=e0.cell 2 rfl;have n2:=e0.cell 3 rfl;have E3:=e0.lt;have o2:=e0.frozen 0;have p2:=e0.frozen 1;have q2:=e0.frozen 2;have r2:=e0.frozen 3;have F3:=e0.lt;go_wp2;clear k2 l2 m2 n2 E3 o2 p2 q2 r2 F3;exact QB.fin rfl e0 (by simp[noInt_b,noInt_s]) Q2.out (by omega) (by rw[HV.out];exact R3.out) rfl (by rw[HV.out];rfl)
    ·have v3:=zz (show qOf _ _ _ _=none from(qOf_pair N3.out O3.out).trans (if_neg hq));have HV:=zz (show r=(none,5) by rw[X2.out,if_neg (by decide),if_neg (fun h=>hq ⟨by omega,h.2⟩)]);clear hq;have P4_6_81:=tr B27 B31;have k0:=CB.step i0 P4_6_81.out;have s2:=k0.cell 0 rfl;have t2:=k0.cell 1 rfl;have G3:=k0.lt;have u2:=h0.cell 0 rfl;have v2:=h0.cell 1 rfl;have H3:=h0.lt;go_wp2_with fail
     refine(QCheck_no Q3.out v3.out).mono ?_;rintro e w79 ⟨O0,rfl⟩;have B84:=zz O0;have z84:=B84.out.size;have R2:=tr A0 B84;clear O0;clear s2 t2 G3 u2 v2 H3;have s0:=CB.step k0 B84.out;have w2:=s0.cell 0 rfl;have y2:=s0.cell 1 rfl;have I3:=s0.lt;have t0:=CB.step h0 B84.out;have A2:=t0.cell 0 rfl;have C2:=t0.cell 1 rfl;have J3:=t0.lt;go_wp2_with fail
     refine(madeQ_no _ n7 n29 Z2 a3 l7 c7 l29 c29 5 (by decide)).mono ?_;rintro e w86 ⟨P0,rfl⟩;have B91:=zz P0;have z91:=B91.out.size;have S2:=tr R2 B91;clear P0;clear w2 y2 I3 A2 C2 J3;have P1_3_94:=tr B2 B5;have P1_4_95:=tr P1_3_94 B9;have P1_5_96:=tr P1_4_95 B27;have P1_6_97:=tr P1_5_96 B31;have P1_7_98:=tr P1_6_97 B84;have P1_8_99:=tr P1_7_98 B91;have g0:=CB.step Lr2 P1_8_99.out;have Q0:=g0.cell 0 rfl;have R0:=g0.cell 1 rfl;have T0:=g0.cell 2 rfl;have U0:=g0.cell 3 rfl;have b3:=g0.lt;have V0:=g0.frozen 0;have W0:=g0.frozen 1;have X0:=g0.frozen 2;have Y0:=g0.frozen 3;have c3:=g0.lt;go_wp2;clear Q0 R0 T0 U0 b3 V0 W0 X0 Y0 c3;exact QB.fin rfl g0 (by simp[noInt_b,noInt_s]) S2.out (by omega) (by rw[HV.out];exact zeroQ _ _) rfl (by rw[HV.out];rfl)
   ·have HE:=zz he2;have hez:(e2==0)=false:=by rw[beq_eq_false_iff_ne];exact he2
    have HV:=zz (show r=(none,e2) by rw[X2.out,if_pos he2]);clear he2;have P4_6_104:=tr B27 B31;have m0:=CB.step i0 P4_6_104.out;have Z0:=m0.cell 0 rfl;have a1:=m0.cell 1 rfl;have d3:=m0.lt;have b1:=h0.cell 0 rfl;have c1:=h0.cell 1 rfl;have e3:=h0.lt;go_wp2_with fail
    refine(madeQ_no _ n7 n29 Z2 a3 l7 c7 l29 c29 e2 HE.out).mono ?_;rintro e w102 ⟨F0,rfl⟩;have B107:=zz F0;have z107:=B107.out.size;have D2:=tr A0 B107;clear F0;clear Z0 a1 d3 b1 c1 e3;have P1_3_110:=tr B2 B5;have P1_4_111:=tr P1_3_110 B9;have P1_5_112:=tr P1_4_111 B27;have P1_6_113:=tr P1_5_112 B31;have P1_7_114:=tr P1_6_113 B107;have a0:=CB.step Lr2 P1_7_114.out;have d1:=a0.cell 0 rfl;have g1:=a0.cell 1 rfl;have i1:=a0.cell 2 rfl;have j1:=a0.cell 3 rfl;have g3:=a0.lt;have k1:=a0.frozen 0;have l1:=a0.frozen 1;have m1:=a0.frozen 2;have n1:=a0.frozen 3;have i3:=a0.lt;go_wp2;clear d1 g1 i1 j1 g3 k1 l1 m1 n1 i3;exact QB.fin rfl a0 (by simp[noInt_b,noInt_s]) D2.out (by omega) (by rw[HV.out];exact zeroQ _ _) rfl (by rw[HV.out];rfl)
 ·have HE:=zz he1;have hez:(e1==0)=false:=by rw[beq_eq_false_iff_ne];exact he1
  have HV:=zz (show r=(none,e1) by rw[X2.out,if_pos he1]);clear he1;go_upto_region 4 with (fail)
  refine Sweep.r0 [se 0 27 [] (.agg #[.bool n7,.slice Z2 l7 c7]),sf 1 28 [] (fun fv fw=>LV fw fw.heap.size fv 1),sf 2 29 [0,1] (fun fv fw=>QV fw fw.heap.size fv (mkRat x 1)),se 3 30 [] (.int .i64 e1),sf 4 31 [2,3] (fun fv fw=>∃ u,fv=.tuple #[u,.int .i64 e1]∧QO fw fw.heap.size u none),sf 5 32 [4] (fun fv fw=>QO fw fw.heap.size fv none),se 6 33 [4] (.int .i64 e1)] 2 (SB i0 S0) (MA (fun _ _ _ h hb=>h.step hb) (MA (fun _ _ _ h hb=>h.step hb) (MA (fun _ _ _ h hb=>let ⟨u,e,h⟩:=h;⟨u,e,QO.step (o:=none) h hb⟩) (MA (fun _ _ _ h hb=>QO.step (o:=none) h hb) trivial)))) ?_ ?_
  ·intro xs a_ hA;simp only[SX] at hA
   iterate 7 (refine ac ?_ ?_;rotate_left)
   exact all_nil
   all_goals (intro wk hb;simp only[SX,↓reduceIte,Nat.reduceEqDiff,Nat.reduceAdd];have b_:=zz hb;have z_:=hb.size;clear hb;subst hA)
   any_goals (intros;refine wpOp_step rfl ?_;intro K hK;go_simp;refine hK _ _ ⟨_,?_,Below.refl _ _,rfl⟩;simp only[*,FL] <;> kernel_rfl)
   ·intros
    refine wpOp_step (o:=_) rfl (fun K hK=>?_);go_simp;(with_reducible refine(Of_any _ 1 (by decide) (by decide)).mono ?_)
    rintro e wc117 ⟨E2,v117,rfl,F2⟩;refine hK _ _ ⟨v117,by kernel_rfl,E2,F2⟩
   ·intro f0 f1;intros;refine wpOp_step (o:=_) rfl (fun K hK=>?_);obtain⟨m3,n3,o3,p3,hx1,v0⟩:=LV.opened f1;rw[hx1];have P3_5_118:=tr B9 b_;have o1:=zz (LV.step x0.out P3_5_118.out);have q3:=zz v0;clear v0;go_simp;refine hK _ _ ⟨.agg #[.bool n7,.slice Z2 l7 c7,.bool m3,.slice n3 o3 p3],by simp only[FL,f0,hx1] <;> kernel_rfl,Below.refl _ _,QV.of (d:=1) o1.out q3.out (by decide) (Nat.gcd_one_right _)⟩
   ·intro f2 f3;intros;refine wpOp_step (o:=_) rfl (fun K hK=>?_);obtain⟨qn,qA,ql,qc,qB,qm,qd,hu,ra,rb,rc⟩:=f2;rw[hu];have RC:=zz (And.intro ra (And.intro rb rc));clear ra rb rc;go_simp;(with_reducible refine(madeQ_no _ qn false qA qB ql qc qm qd e1 HE.out).mono ?_)
    rintro e wc120 ⟨G2,rfl⟩;refine hK _ _ ⟨.tuple #[.agg #[.bool false,.slice none 0 0,.bool false,.slice none 0 0],.int .i64 e1],by simp only[FL,f3,hu] <;> kernel_rfl,G2,⟨_,rfl,zeroQ _ _⟩⟩
   ·intro f4;intros;refine wpOp_step (o:=_) rfl (fun K hK=>?_);obtain⟨u,hu,hl⟩:=f4;rw[hu];go_simp;refine hK _ _ ⟨u,by simp only[FL,hu] <;> kernel_rfl,Below.refl _ _,hl⟩
   ·intro f4;intros;refine wpOp_step (o:=_) rfl (fun K hK=>?_);obtain⟨u,hu,-⟩:=f4;rw[hu];go_simp;refine hK _ _ ⟨.int .i64 e1,by simp only[FL,hu] <;> kernel_rfl,Below.refl _ _,rfl⟩
  ·intro xs Y3 hbf;simp only[SY];have B122:=zz hbf;have z122:=B122.out.size;have H2:=tr y0 B122;clear hbf;generalize xs 1=x1,xs 2=x2,xs 4=x4,xs 5=x5;rintro f1 f2 f4 f5;clear f1;clear f2;clear f4;have hg124:=f5;obtain⟨Z3,a4,b4,c4,d4,e4,V2,g4,rfl⟩:=QO.cells hg124;have C0:=zz hg124;clear hg124;have P1_3_126:=tr B2 B5;have P1_4_127:=tr P1_3_126 B9;have P1_5_128:=tr P1_4_127 B122;have b0:=CB.step Lr2 P1_5_128.out;have p1:=b0.cell 0 rfl;have q1:=b0.cell 1 rfl;have r1:=b0.cell 2 rfl;have s1:=b0.cell 3 rfl;have j3:=b0.lt;have t1:=b0.frozen 0;have u1:=b0.frozen 1;have v1:=b0.frozen 2;have y1:=b0.frozen 3;have k3:=b0.lt;refine EN 7 rfl fun K hK=>?_;go_simp;refine hK _ _ ?_;clear hK K;(try simp only[PT])
   clear p1 q1 r1 s1 j3 t1 u1 v1 y1 k3;refine EN 8 rfl fun K hK=>?_
   go_simp;refine hK _ _ ?_;clear hK K;(try simp only[PT])
   refine ED ?_;(try simp only[Exit.then])
   go_wp2;exact QB.fin rfl b0 (by simp[noInt_b,noInt_s]) H2.out (by omega) (by rw[HV.out];exact C0.out) rfl (by rw[HV.out];rfl)
end Go.Proofs.YtdigbofiebfkeaaGreatDoor
