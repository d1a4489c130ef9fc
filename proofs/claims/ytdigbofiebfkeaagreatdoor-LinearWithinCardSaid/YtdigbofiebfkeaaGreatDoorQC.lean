/- Layer 04: Told (written by gen_qb.py). -/
import Derived.Test.YtdigbofiebfkeaaGreatDoorQab
namespace Go.Proofs.YtdigbofiebfkeaaGreatDoor
open Go Go.RowKit Dig
set_option maxRecDepth 100000
set_option linter.unusedSimpArgs false
theorem cloneN_any (w:World) (v:Value) (l:List Nat) (h:RN w w.heap.size v l) (hl:l.length≤300000000) :
  Calls Tryz.prog 92 #[v] w fun e w'=>Below w.heap.size w w'∧∃ v',e=.returned v'∧RN w' w'.heap.size v' l:=
 (clone_size w v (ni l) h (by rw[ni_length];omega)).mono fun _ _ ⟨hb,v',he,hv⟩=>⟨hb,v',he,hv.ri⟩
theorem mkRat_nd {z:Int} {d:Nat} (hd:d≠0) (hc:Nat.gcd z.natAbs d=1):(mkRat z d).num=z∧(mkRat z d).den=d:=mkRat_low (by omega) hc
set_option maxHeartbeats 16000000 in
theorem Told_any (w:World) (v:Value) (z:Int) (d:Nat) (h:TV w w.heap.size v z d) (hd:d≠0) (hc:Nat.gcd z.natAbs d=1) (hl:(dig z.natAbs).length≤300000000) (hl':(dig d).length≤300000000) :
  Calls Tryz.prog 54 #[v] w fun e w'=>Below w.heap.size w w'∧RetQ w' (toldQ (mkRat z d)) e:=by
 obtain⟨n,A,l,c,A',l',c',rfl,Ha,Hd,hn⟩:=h;have el:=RN.len Ha;have el':=RN.len Hd;have EL:=zz el;have EL':=zz el';clear el el';obtain⟨hnum,hden⟩:=mkRat_nd hd hc;obtain⟨q,hq⟩:∃ q,q=mkRat z d:=⟨_,rfl⟩;rw[← hq] at hnum hden ⊢;clear hq hc;obtain⟨r,hr⟩:∃ r,r=toldQ q:=⟨_,rfl⟩;rw[← hr];have HL:=zz hl;have HL':=zz hl';clear hl hl';obtain⟨w0,hw0⟩:∃ w0:World,w0=((w.alloc (.cells #[.bool n,.slice A l c,.slice A' l' c'] 84)).alloc (.cells #[.bool false,.slice none 0 0,.bool false,.slice none 0 0] 33)):=⟨_,rfl⟩;have B0:=zz (n2_b hw0);have z0:=n2_z hw0;have La:=n2_0 hw0;have Lo:=n2_1 hw0;replace Ha:=zz (RN.stepN Ha B0.out);replace Hd:=zz (RN.stepN Hd B0.out);by_cases hov:l≤600∧l'≤600
 ·have HR:=zz (show r=(some q,0) by rw[hr];unfold toldQ;rw[if_pos (show fitQ q from⟨by rw[hnum,← EL.out];omega,by rw[hden,← EL'.out];omega⟩)]);clear hr;have hmx:¬ (600:Int)<max (l:Int) (l':Int):=by omega
  cases n with
  | false=>
   have hz:0≤z:=by rcases wsgn_cases hn with h | ⟨h,-⟩ | ⟨-,h⟩ <;> first | omega | cases h
   have HS:=zz (show decide (z<0)=false by rw[decide_eq_false];omega);clear hn;go_enter Tryz.func54,Tryz.ntmps54
   go_upto_region 2 with (fail)
   rw[← hw0];clear hw0;have A2:=La.cell 0 rfl;have B2:=La.cell 1 rfl;have C2:=La.cell 2 rfl;have j4:=La.lt;go_upto_region 4 with (fail)
   clear A2 B2 C2 j4;refine Sweep.run [se 0 15 [] (.pointer (some ⟨w.heap.size,0,none⟩)),se 1 16 [0] (.pointer (some ⟨w.heap.size,0,none⟩)),se 2 17 [1] (.bool false),se 3 18 [2] (.bool false),se 4 19 [3] undef,se 5 20 [3] undef,se 6 21 [3] undef,se 7 22 [3] undef,se 8 23 [3] undef,se 9 24 [3] (.bool false),se 10 25 [] (.pointer (some ⟨w.heap.size,0,none⟩)),se 11 26 [10] (.pointer (some ⟨w.heap.size,1,none⟩)),se 12 27 [11] (.slice A l c),sf 13 28 [12] (fun fv fw=>RN fw fw.heap.size fv (dig z.natAbs)),sf 14 29 [13,9] (fun fv fw=>LV fw fw.heap.size fv z),sf 15 5 [] (fun fv fw=>∃ b,fv=.pointer (some ⟨b,0,none⟩)∧CB fw b 31 #[.bool false,.slice none 0 0])] [] [15] 1 (SB La S0) (MA (fun _ _ _ h hb=>h.step hb) (MA (fun _ _ _ h hb=>h.step hb) (MA (fun _ _ _ h hb=>let ⟨b,e,h⟩:=h;⟨b,e,h.step hb⟩) trivial))) ?_ ?_ ?_
   ·intro xs a_ hA;simp only[SX] at hA
    iterate 16 (refine ac ?_ ?_;rotate_left)
    exact all_nil
    all_goals (intro wk hb;simp only[SX,↓reduceIte,Nat.reduceEqDiff,Nat.reduceAdd];have b_:=zz hb;have z_:=hb.size;clear hb;subst hA)
    any_goals (intros;refine wpOp_step rfl ?_;intro K hK;go_simp;refine hK _ _ ⟨_,?_,Below.refl _ _,rfl,nF⟩;simp only[*,FL] <;> kernel_rfl)
    ·intro f12;intros;refine wpOp_step (o:=_) rfl (fun K hK=>?_);go_simp;have D2:=zz (RN.step Ha.out b_.out);(with_reducible refine(cloneN_any _ _ _ D2.out (by have:=HL.out;omega)).mono ?_)
     rintro e wc3 ⟨b3,v3,rfl,d3⟩;refine hK _ _ ⟨v3,by simp only[FL,f12],b3,d3,nF⟩
    ·intro f13 f9;intros;refine wpOp_step (o:=_) rfl (fun K hK=>?_);obtain⟨A13,c13,hx13,-⟩:=RN.cell f13;have r13:=f13;rw[hx13] at r13 ⊢;go_simp;refine hK _ _ ⟨.agg #[.bool false,.slice A13 (dig (z).natAbs).length c13],by simp only[FL,f9,hx13],Below.refl _ _,⟨_,by rw[HS.out],r13⟩,nF⟩
    ·intros
     refine wpOp_step (o:=_) rfl (fun K hK=>?_);go_simp;refine hK _ _ ⟨.pointer (some ⟨wk.heap.size,0,none⟩),by kernel_rfl,(Below.refl _ _).alloc (Nat.le_refl _) _,⟨_,rfl,CB.new _ _ _⟩,fun _=>⟨_,rfl,Nat.le_refl _,by simp⟩⟩
   ·exact fun _ _ _=>all_nil
   ·intro xs I4 hbf hn hd;simp only[SY];have n15:=hn 15 (by decide);clear hn hd;have B5:=zz hbf;have z5:=B5.out.size;have e3:=tr B0 B5;clear hbf;generalize xs 13=x13,xs 14=x14,xs 15=x15 at *
    rintro f13 f14 f15;clear f13;obtain⟨n7,K3,l7,c7,rfl,z2⟩:=f14.opened;have E2:=zz z2;clear f14 z2;obtain⟨y3,rfl,p3⟩:=f15;have I3:=zz (show w0.heap.size≤y3 by obtain⟨b',e,h,-⟩:=n15;injection e with e;injection e with e;injection e with e _ _;omega);clear n15;have q4:=p3.lt;have r4:=I3.out;have J0:=p3.cell 0 rfl;have K0:=p3.cell 1 rfl;have N3:=p3.lt;have L0:=p3.frozen 0;have M0:=p3.frozen 1;have O3:=p3.lt;refine EN 16 rfl fun K hK=>?_;go_simp;refine hK _ _ ?_;clear hK K;(try simp only[PT])
    clear J0 K0 N3 L0 M0 O3;refine ED ?_;(try simp only[Exit.then])
    have N0:=CB.step La B5.out;have O0:=CB.step Lo B5.out;obtain⟨w14,e0⟩:∃ w14:World,w14=((I4.setCell ⟨y3,0,none⟩ (.bool n7)).setCell ⟨y3,1,none⟩ (.slice K3 l7 c7)):=⟨_,rfl⟩;rw[← e0];have S14:=zz (p2_s e0 p3 (by simp[noInt_b,noInt_s]));have P0:=p2_f e0 N0 (by omega);have Q0:=p2_f e0 O0 (by omega);have R0:=p2_p e0 p3;have T0:=zz (p2_b e0 e3.out (by omega));have i3:=p2_z e0;clear e0;go_upto_region 5 with (fail)
    have j0:=zz (LV.soft E2.out (S14.out));have q3:=zz (show RN w14 w14.heap.size (.slice K3 l7 c7) (dig z.natAbs)∧n7=decide (z<0) from⟨(LV.is j0.out).2.2,(LV.is j0.out).1⟩);refine Sweep.r0 [se 0 30 [] (.agg #[.bool n7,.slice K3 l7 c7]),se 1 31 [] (.pointer (some ⟨w.heap.size,2,none⟩)),se 2 32 [1] (.slice A' l' c'),sf 3 33 [2] (fun fv fw=>RN fw fw.heap.size fv (dig d)),sf 4 34 [3] (fun fv fw=>∃ A l c,fv=.agg #[.bool false,.slice A l c]∧RN fw fw.heap.size (.slice A l c) (dig d)),sf 5 35 [0,4] (fun fv fw=>QV fw fw.heap.size fv q),se 6 36 [] (.int .i64 0),sf 7 37 [5,6] (fun fv fw=>∃ u,fv=.tuple #[u,.int .i64 0]∧QO fw fw.heap.size u (some q)),sf 8 38 [7] (fun fv fw=>QO fw fw.heap.size fv (some q)),se 9 39 [7] (.int .i64 0)] 2 (SB R0 (SB P0 S0)) (MA (fun _ _ _ h hb=>h.step hb) (MA (fun _ _ _ h hb=>let ⟨A,l,c,e,h⟩:=h;⟨A,l,c,e,h.stepN hb⟩) (MA (fun _ _ _ h hb=>h.step hb) (MA (fun _ _ _ h hb=>let ⟨u,e,h⟩:=h;⟨u,e,QO.step h hb⟩) (MA (fun v _ w2 h hb=>(show QO w2 w2.heap.size v (some q) from QO.step (o:=(some q)) h hb)) trivial))))) ?_ ?_
    ·intro xs a_ hA;simp only[SX] at hA
     iterate 10 (refine ac ?_ ?_;rotate_left)
     exact all_nil
     all_goals (intro wk hb;simp only[SX,↓reduceIte,Nat.reduceEqDiff,Nat.reduceAdd];have b_:=zz hb;have z_:=hb.size;clear hb;subst hA)
     any_goals (intros;refine wpOp_step rfl ?_;intro K hK;go_simp;refine hK _ _ ⟨_,?_,Below.refl _ _,rfl⟩;simp only[*,FL] <;> kernel_rfl)
     ·intro f2;intros;refine wpOp_step (o:=_) rfl (fun K hK=>?_);go_simp;have U0:=zz (RN.soft Hd.out (((Soft.of B5.out).trans (S14.out)).trans (Soft.of b_.out)));(with_reducible refine(cloneN_any _ _ _ U0.out (by have:=HL'.out;omega)).mono ?_)
      rintro e wc17 ⟨F2,v17,rfl,G2⟩;refine hK _ _ ⟨v17,by simp only[FL,f2],F2,G2⟩
     ·intro f3;intros;refine wpOp_step (o:=_) rfl (fun K hK=>?_);obtain⟨A3,c3,hx3,-⟩:=RN.cell f3;have r3:=f3;rw[hx3] at r3 ⊢;go_simp;refine hK _ _ ⟨.agg #[.bool false,.slice A3 (dig d).length c3],by simp only[FL,hx3],Below.refl _ _,⟨_,_,_,rfl,r3⟩⟩
     ·intro f0 f4;intros;refine wpOp_step (o:=_) rfl (fun K hK=>?_);obtain⟨Bd,ud,cd,hu,rd⟩:=f4;rw[hu];have rn18:=RN.stepN q3.out.1 b_.out;go_simp;refine hK _ _ ⟨.agg #[.bool n7,.slice K3 l7 c7,.bool false,.slice Bd ud cd],by simp only[FL,f0,hu],Below.refl _ _,⟨_,_,_,_,_,_,_,rfl,by rw[hnum];exact rn18,by rw[hden];exact rd,by rw[hnum];exact q3.out.2⟩⟩
     ·intro f5 f6;intros;refine wpOp_step (o:=_) rfl (fun K hK=>?_);obtain⟨qn,qA,ql,qc,qB,qm,qd,hu,ra,rb,rc⟩:=f5;rw[hu];have RC:=zz rc;clear rc;go_simp;(with_reducible refine(madeQ_yes _ qn false qA qB ql qc qm qd).mono ?_)
      rintro e wc19 ⟨o0,rfl⟩;refine hK _ _ ⟨.tuple #[.agg #[.bool qn,.slice qA ql qc,.bool false,.slice qB qm qd],.int .i64 0],by simp only[FL,f6,hu],o0,⟨_,rfl,QV.step ⟨_,_,_,_,_,_,_,rfl,ra,rb,RC.out⟩ o0⟩⟩
     ·intro f7;intros;refine wpOp_step (o:=_) rfl (fun K hK=>?_);obtain⟨u,hu,hl⟩:=f7;rw[hu];go_simp;refine hK _ _ ⟨u,by simp only[FL,hu],Below.refl _ _,hl⟩
     ·intro f7;intros;refine wpOp_step (o:=_) rfl (fun K hK=>?_);obtain⟨u,hu,-⟩:=f7;rw[hu];go_simp;refine hK _ _ ⟨.int .i64 0,by simp only[FL,hu],Below.refl _ _,rfl⟩
    ·intro xs z3 hbf;simp only[SY];have B21:=zz hbf;have z21:=B21.out.size;have H2:=tr T0 B21;clear hbf;generalize xs 3=x3,xs 4=x4,xs 5=x5,xs 7=x7,xs 8=x8;rintro f3 f4 f5 f7 f8;clear f3;clear f4;clear f5;clear f7;obtain⟨s4,t4,u4,v4,w4,V0,y4,rfl,ha23,p0,hc23⟩:=(show QV z3 z3.heap.size x8 q from f8);have W0:=zz (show QV z3 z3.heap.size (.agg #[.bool s4,.slice t4 u4 v4,.bool false,.slice w4 V0 y4]) q from⟨_,_,_,_,_,_,_,rfl,ha23,p0,hc23⟩);clear ha23 p0 hc23;have b0:=CB.step Q0 B21.out;have X0:=b0.cell 0 rfl;have Y0:=b0.cell 1 rfl;have Z0:=b0.cell 2 rfl;have a1:=b0.cell 3 rfl;have Q3:=b0.lt;have b1:=b0.frozen 0;have c1:=b0.frozen 1;have d1:=b0.frozen 2;have e1:=b0.frozen 3;have R3:=b0.lt;refine EN 10 rfl fun K hK=>?_;go_simp;refine hK _ _ ?_;clear hK K;(try simp only[PT])
     clear X0 Y0 Z0 a1 Q3 b1 c1 d1 e1 R3;refine EN 11 rfl fun K hK=>?_
     go_simp;refine hK _ _ ?_;clear hK K;(try simp only[PT])
     refine ED ?_;(try simp only[Exit.then])
     go_wp2;exact QB.fin rfl b0 (by simp[noInt_b,noInt_s]) H2.out (by omega) (by rw[HR.out];exact W0.out) rfl (by rw[HR.out];rfl)
  | true=>
   have hzl:z<0↔0<l:=by
    constructor
    ·intro h;rw[EL.out];have:=dig_len_pos (n:=z.natAbs) (by omega);omega
    ·intro h;rcases wsgn_cases hn with h1 | ⟨-,h1⟩ | ⟨h1,-⟩
     ·rw[EL.out,h1,show(0:Int).natAbs=0 from rfl,dig_zero] at h;simp at h
     ·exact h1
     ·cases h1
   have HS:=zz (show decide (z<0)=(decide (0<l)) by exact decide_eq_decide.2 hzl);clear hn hzl;go_enter Tryz.func54,Tryz.ntmps54
   go_upto_region 2 with (fail)
   rw[← hw0];clear hw0;have f1:=La.cell 0 rfl;have g1:=La.cell 1 rfl;have i1:=La.cell 2 rfl;have S3:=La.lt;go_upto_region 4 with (fail)
   clear f1 g1 i1 S3;refine Sweep.run [se 0 15 [] (.pointer (some ⟨w.heap.size,0,none⟩)),se 1 16 [0] (.pointer (some ⟨w.heap.size,0,none⟩)),se 2 17 [1] (.bool true),se 3 18 [2] (.bool true),se 4 19 [3] (.pointer (some ⟨w.heap.size,0,none⟩)),se 5 20 [3,4] (.pointer (some ⟨w.heap.size,1,none⟩)),se 6 21 [3,5] (.slice A l c),se 7 22 [3,6] (.int .i64 (l:Int)),se 8 23 [3,7] (.bool (decide (0<l))),se 9 24 [3,8] (.bool (decide (0<l))),se 10 25 [] (.pointer (some ⟨w.heap.size,0,none⟩)),se 11 26 [10] (.pointer (some ⟨w.heap.size,1,none⟩)),se 12 27 [11] (.slice A l c),sf 13 28 [12] (fun fv fw=>RN fw fw.heap.size fv (dig z.natAbs)),sf 14 29 [13,9] (fun fv fw=>LV fw fw.heap.size fv z),sf 15 5 [] (fun fv fw=>∃ b,fv=.pointer (some ⟨b,0,none⟩)∧CB fw b 31 #[.bool false,.slice none 0 0])] [] [15] 1 (SB La S0) (MA (fun _ _ _ h hb=>h.step hb) (MA (fun _ _ _ h hb=>h.step hb) (MA (fun _ _ _ h hb=>let ⟨b,e,h⟩:=h;⟨b,e,h.step hb⟩) trivial))) ?_ ?_ ?_
   ·intro xs a_ hA;simp only[SX] at hA
    iterate 16 (refine ac ?_ ?_;rotate_left)
    exact all_nil
    all_goals (intro wk hb;simp only[SX,↓reduceIte,Nat.reduceEqDiff,Nat.reduceAdd];have b_:=zz hb;have z_:=hb.size;clear hb;subst hA)
    any_goals (intros;refine wpOp_step rfl ?_;intro K hK;go_simp;refine hK _ _ ⟨_,?_,Below.refl _ _,rfl,nF⟩;simp only[*,FL] <;> kernel_rfl)
    ·intro f12;intros;refine wpOp_step (o:=_) rfl (fun K hK=>?_);go_simp;have j1:=zz (RN.step Ha.out b_.out);(with_reducible refine(cloneN_any _ _ _ j1.out (by have:=HL.out;omega)).mono ?_)
     rintro e wc29 ⟨I2,v29,rfl,J2⟩;refine hK _ _ ⟨v29,by simp only[FL,f12],I2,J2,nF⟩
    ·intro f13 f9;intros;refine wpOp_step (o:=_) rfl (fun K hK=>?_);obtain⟨A13,c13,hx13,-⟩:=RN.cell f13;have r13:=f13;rw[hx13] at r13 ⊢;go_simp;refine hK _ _ ⟨.agg #[.bool (decide (0<l)),.slice A13 (dig (z).natAbs).length c13],by simp only[FL,f9,hx13],Below.refl _ _,⟨_,by rw[HS.out],r13⟩,nF⟩
    ·intros
     refine wpOp_step (o:=_) rfl (fun K hK=>?_);go_simp;refine hK _ _ ⟨.pointer (some ⟨wk.heap.size,0,none⟩),by kernel_rfl,(Below.refl _ _).alloc (Nat.le_refl _) _,⟨_,rfl,CB.new _ _ _⟩,fun _=>⟨_,rfl,Nat.le_refl _,by simp⟩⟩
   ·exact fun _ _ _=>all_nil
   ·intro xs z4 hbf hn hd;simp only[SY];have n15:=hn 15 (by decide);clear hn hd;have B31:=zz hbf;have z31:=B31.out.size;have K2:=tr B0 B31;clear hbf;generalize xs 13=x13,xs 14=x14,xs 15=x15 at *
    rintro f13 f14 f15;clear f13;obtain⟨n33,B3,l33,c33,rfl,q0⟩:=f14.opened;have k1:=zz q0;clear f14 q0;obtain⟨s3,rfl,m3⟩:=f15;have C3:=zz (show w0.heap.size≤s3 by obtain⟨b',e,h,-⟩:=n15;injection e with e;injection e with e;injection e with e _ _;omega);clear n15;have k4:=m3.lt;have l4:=C3.out;have l1:=m3.cell 0 rfl;have m1:=m3.cell 1 rfl;have T3:=m3.lt;have n1:=m3.frozen 0;have o1:=m3.frozen 1;have U3:=m3.lt;refine EN 16 rfl fun K hK=>?_;go_simp;refine hK _ _ ?_;clear hK K;(try simp only[PT])
    clear l1 m1 T3 n1 o1 U3;refine ED ?_;(try simp only[Exit.then])
    have p1:=CB.step La B31.out;have q1:=CB.step Lo B31.out;obtain⟨w40,g0⟩:∃ w40:World,w40=((z4.setCell ⟨s3,0,none⟩ (.bool n33)).setCell ⟨s3,1,none⟩ (.slice B3 l33 c33)):=⟨_,rfl⟩;rw[← g0];have S40:=zz (p2_s g0 m3 (by simp[noInt_b,noInt_s]));have r1:=p2_f g0 p1 (by omega);have s1:=p2_f g0 q1 (by omega);have t1:=p2_p g0 m3;have u1:=zz (p2_b g0 K2.out (by omega));have j3:=p2_z g0;clear g0;go_upto_region 5 with (fail)
    have k0:=zz (LV.soft k1.out (S40.out));have q3:=zz (show RN w40 w40.heap.size (.slice B3 l33 c33) (dig z.natAbs)∧n33=decide (z<0) from⟨(LV.is k0.out).2.2,(LV.is k0.out).1⟩);refine Sweep.r0 [se 0 30 [] (.agg #[.bool n33,.slice B3 l33 c33]),se 1 31 [] (.pointer (some ⟨w.heap.size,2,none⟩)),se 2 32 [1] (.slice A' l' c'),sf 3 33 [2] (fun fv fw=>RN fw fw.heap.size fv (dig d)),sf 4 34 [3] (fun fv fw=>∃ A l c,fv=.agg #[.bool false,.slice A l c]∧RN fw fw.heap.size (.slice A l c) (dig d)),sf 5 35 [0,4] (fun fv fw=>QV fw fw.heap.size fv q),se 6 36 [] (.int .i64 0),sf 7 37 [5,6] (fun fv fw=>∃ u,fv=.tuple #[u,.int .i64 0]∧QO fw fw.heap.size u (some q)),sf 8 38 [7] (fun fv fw=>QO fw fw.heap.size fv (some q)),se 9 39 [7] (.int .i64 0)] 2 (SB t1 (SB r1 S0)) (MA (fun _ _ _ h hb=>h.step hb) (MA (fun _ _ _ h hb=>let ⟨A,l,c,e,h⟩:=h;⟨A,l,c,e,h.stepN hb⟩) (MA (fun _ _ _ h hb=>h.step hb) (MA (fun _ _ _ h hb=>let ⟨u,e,h⟩:=h;⟨u,e,QO.step h hb⟩) (MA (fun v _ w2 h hb=>(show QO w2 w2.heap.size v (some q) from QO.step (o:=(some q)) h hb)) trivial))))) ?_ ?_
    ·intro xs a_ hA;simp only[SX] at hA
     iterate 10 (refine ac ?_ ?_;rotate_left)
     exact all_nil
     all_goals (intro wk hb;simp only[SX,↓reduceIte,Nat.reduceEqDiff,Nat.reduceAdd];have b_:=zz hb;have z_:=hb.size;clear hb;subst hA)
     any_goals (intros;refine wpOp_step rfl ?_;intro K hK;go_simp;refine hK _ _ ⟨_,?_,Below.refl _ _,rfl⟩;simp only[*,FL] <;> kernel_rfl)
     ·intro f2;intros;refine wpOp_step (o:=_) rfl (fun K hK=>?_);go_simp;have v1:=zz (RN.soft Hd.out (((Soft.of B31.out).trans (S40.out)).trans (Soft.of b_.out)));(with_reducible refine(cloneN_any _ _ _ v1.out (by have:=HL'.out;omega)).mono ?_)
      rintro e wc43 ⟨L2,v43,rfl,M2⟩;refine hK _ _ ⟨v43,by simp only[FL,f2],L2,M2⟩
     ·intro f3;intros;refine wpOp_step (o:=_) rfl (fun K hK=>?_);obtain⟨A3,c3,hx3,-⟩:=RN.cell f3;have r3:=f3;rw[hx3] at r3 ⊢;go_simp;refine hK _ _ ⟨.agg #[.bool false,.slice A3 (dig d).length c3],by simp only[FL,hx3],Below.refl _ _,⟨_,_,_,rfl,r3⟩⟩
     ·intro f0 f4;intros;refine wpOp_step (o:=_) rfl (fun K hK=>?_);obtain⟨Bd,ud,cd,hu,rd⟩:=f4;rw[hu];have rn44:=RN.stepN q3.out.1 b_.out;go_simp;refine hK _ _ ⟨.agg #[.bool n33,.slice B3 l33 c33,.bool false,.slice Bd ud cd],by simp only[FL,f0,hu],Below.refl _ _,⟨_,_,_,_,_,_,_,rfl,by rw[hnum];exact rn44,by rw[hden];exact rd,by rw[hnum];exact q3.out.2⟩⟩
     ·intro f5 f6;intros;refine wpOp_step (o:=_) rfl (fun K hK=>?_);obtain⟨qn,qA,ql,qc,qB,qm,qd,hu,ra,rb,rc⟩:=f5;rw[hu];have RC:=zz rc;clear rc;go_simp;(with_reducible refine(madeQ_yes _ qn false qA qB ql qc qm qd).mono ?_)
      rintro e wc45 ⟨s0,rfl⟩;refine hK _ _ ⟨.tuple #[.agg #[.bool qn,.slice qA ql qc,.bool false,.slice qB qm qd],.int .i64 0],by simp only[FL,f6,hu],s0,⟨_,rfl,QV.step ⟨_,_,_,_,_,_,_,rfl,ra,rb,RC.out⟩ s0⟩⟩
     ·intro f7;intros;refine wpOp_step (o:=_) rfl (fun K hK=>?_);obtain⟨u,hu,hl⟩:=f7;rw[hu];go_simp;refine hK _ _ ⟨u,by simp only[FL,hu],Below.refl _ _,hl⟩
     ·intro f7;intros;refine wpOp_step (o:=_) rfl (fun K hK=>?_);obtain⟨u,hu,-⟩:=f7;rw[hu];go_simp;refine hK _ _ ⟨.int .i64 0,by simp only[FL,hu],Below.refl _ _,rfl⟩
    ·intro xs D3 hbf;simp only[SY];have B47:=zz hbf;have z47:=B47.out.size;have N2:=tr u1 B47;clear hbf;generalize xs 3=x3,xs 4=x4,xs 5=x5,xs 7=x7,xs 8=x8;rintro f3 f4 f5 f7 f8;clear f3;clear f4;clear f5;clear f7;obtain⟨A4,B4,C4,D4,E4,w1,F4,rfl,ha49,t0,hc49⟩:=(show QV D3 D3.heap.size x8 q from f8);have x1:=zz (show QV D3 D3.heap.size (.agg #[.bool A4,.slice B4 C4 D4,.bool false,.slice E4 w1 F4]) q from⟨_,_,_,_,_,_,_,rfl,ha49,t0,hc49⟩);clear ha49 t0 hc49;have c0:=CB.step s1 B47.out;have y1:=c0.cell 0 rfl;have z1:=c0.cell 1 rfl;have A1:=c0.cell 2 rfl;have B1:=c0.cell 3 rfl;have V3:=c0.lt;have C1:=c0.frozen 0;have D1:=c0.frozen 1;have E1:=c0.frozen 2;have F1:=c0.frozen 3;have W3:=c0.lt;refine EN 10 rfl fun K hK=>?_;go_simp;refine hK _ _ ?_;clear hK K;(try simp only[PT])
     clear y1 z1 A1 B1 V3 C1 D1 E1 F1 W3;refine EN 11 rfl fun K hK=>?_
     go_simp;refine hK _ _ ?_;clear hK K;(try simp only[PT])
     refine ED ?_;(try simp only[Exit.then])
     go_wp2;exact QB.fin rfl c0 (by simp[noInt_b,noInt_s]) N2.out (by omega) (by rw[HR.out];exact x1.out) rfl (by rw[HR.out];rfl)
 ·have HR:=zz (show r=(none,6) by rw[hr];unfold toldQ;rw[if_neg (fun h:fitQ q=>by have h1:=h.1;have h2:=h.2;rw[hnum,← EL.out] at h1;rw[hden,← EL'.out] at h2;omega)]);clear hr;have hmx:(600:Int)<max (l:Int) (l':Int):=by omega
  cases n with
  | false=>
   have hz:0≤z:=by rcases wsgn_cases hn with h | ⟨h,-⟩ | ⟨-,h⟩ <;> first | omega | cases h
   have HS:=zz (show decide (z<0)=false by rw[decide_eq_false];omega);clear hn;go_enter Tryz.func54,Tryz.ntmps54
   go_upto_region 2 with (fail)
   rw[← hw0];clear hw0;have G1:=La.cell 0 rfl;have H1:=La.cell 1 rfl;have I1:=La.cell 2 rfl;have X3:=La.lt;go_upto_region 4 with (fail)
   clear G1 H1 I1 X3;refine Sweep.run [se 0 15 [] (.pointer (some ⟨w.heap.size,0,none⟩)),se 1 16 [0] (.pointer (some ⟨w.heap.size,0,none⟩)),se 2 17 [1] (.bool false),se 3 18 [2] (.bool false),se 4 19 [3] undef,se 5 20 [3] undef,se 6 21 [3] undef,se 7 22 [3] undef,se 8 23 [3] undef,se 9 24 [3] (.bool false),se 10 25 [] (.pointer (some ⟨w.heap.size,0,none⟩)),se 11 26 [10] (.pointer (some ⟨w.heap.size,1,none⟩)),se 12 27 [11] (.slice A l c),sf 13 28 [12] (fun fv fw=>RN fw fw.heap.size fv (dig z.natAbs)),sf 14 29 [13,9] (fun fv fw=>LV fw fw.heap.size fv z),sf 15 5 [] (fun fv fw=>∃ b,fv=.pointer (some ⟨b,0,none⟩)∧CB fw b 31 #[.bool false,.slice none 0 0])] [] [15] 1 (SB La S0) (MA (fun _ _ _ h hb=>h.step hb) (MA (fun _ _ _ h hb=>h.step hb) (MA (fun _ _ _ h hb=>let ⟨b,e,h⟩:=h;⟨b,e,h.step hb⟩) trivial))) ?_ ?_ ?_
   ·intro xs a_ hA;simp only[SX] at hA
    iterate 16 (refine ac ?_ ?_;rotate_left)
    exact all_nil
    all_goals (intro wk hb;simp only[SX,↓reduceIte,Nat.reduceEqDiff,Nat.reduceAdd];have b_:=zz hb;have z_:=hb.size;clear hb;subst hA)
    any_goals (intros;refine wpOp_step rfl ?_;intro K hK;go_simp;refine hK _ _ ⟨_,?_,Below.refl _ _,rfl,nF⟩;simp only[*,FL] <;> kernel_rfl)
    ·intro f12;intros;refine wpOp_step (o:=_) rfl (fun K hK=>?_);go_simp;have J1:=zz (RN.step Ha.out b_.out);(with_reducible refine(cloneN_any _ _ _ J1.out (by have:=HL.out;omega)).mono ?_)
     rintro e wc55 ⟨O2,v55,rfl,P2⟩;refine hK _ _ ⟨v55,by simp only[FL,f12],O2,P2,nF⟩
    ·intro f13 f9;intros;refine wpOp_step (o:=_) rfl (fun K hK=>?_);obtain⟨A13,c13,hx13,-⟩:=RN.cell f13;have r13:=f13;rw[hx13] at r13 ⊢;go_simp;refine hK _ _ ⟨.agg #[.bool false,.slice A13 (dig (z).natAbs).length c13],by simp only[FL,f9,hx13],Below.refl _ _,⟨_,by rw[HS.out],r13⟩,nF⟩
    ·intros
     refine wpOp_step (o:=_) rfl (fun K hK=>?_);go_simp;refine hK _ _ ⟨.pointer (some ⟨wk.heap.size,0,none⟩),by kernel_rfl,(Below.refl _ _).alloc (Nat.le_refl _) _,⟨_,rfl,CB.new _ _ _⟩,fun _=>⟨_,rfl,Nat.le_refl _,by simp⟩⟩
   ·exact fun _ _ _=>all_nil
   ·intro xs G4 hbf hn hd;simp only[SY];have n15:=hn 15 (by decide);clear hn hd;have B57:=zz hbf;have z57:=B57.out.size;have Q2:=tr B0 B57;clear hbf;generalize xs 13=x13,xs 14=x14,xs 15=x15 at *
    rintro f13 f14 f15;clear f13;obtain⟨n59,E3,l59,c59,rfl,u0⟩:=f14.opened;have K1:=zz u0;clear f14 u0;obtain⟨t3,rfl,n3⟩:=f15;have F3:=zz (show w0.heap.size≤t3 by obtain⟨b',e,h,-⟩:=n15;injection e with e;injection e with e;injection e with e _ _;omega);clear n15;have m4:=n3.lt;have n4:=F3.out;have L1:=n3.cell 0 rfl;have M1:=n3.cell 1 rfl;have Y3:=n3.lt;have N1:=n3.frozen 0;have O1:=n3.frozen 1;have Z3:=n3.lt;refine EN 16 rfl fun K hK=>?_;go_simp;refine hK _ _ ?_;clear hK K;(try simp only[PT])
    clear L1 M1 Y3 N1 O1 Z3;refine ED ?_;(try simp only[Exit.then])
    have P1:=CB.step La B57.out;have Q1:=CB.step Lo B57.out;obtain⟨w66,h0⟩:∃ w66:World,w66=((G4.setCell ⟨t3,0,none⟩ (.bool n59)).setCell ⟨t3,1,none⟩ (.slice E3 l59 c59)):=⟨_,rfl⟩;rw[← h0];have S66:=zz (p2_s h0 n3 (by simp[noInt_b,noInt_s]));have R1:=p2_f h0 P1 (by omega);have S1:=p2_f h0 Q1 (by omega);have T1:=p2_p h0 n3;have U1:=zz (p2_b h0 Q2.out (by omega));have k3:=p2_z h0;clear h0;go_upto_region 5 with (fail)
    have l0:=zz (LV.soft K1.out (S66.out));have q3:=zz (show RN w66 w66.heap.size (.slice E3 l59 c59) (dig z.natAbs)∧n59=decide (z<0) from⟨(LV.is l0.out).2.2,(LV.is l0.out).1⟩);refine Sweep.r0 [se 0 30 [] (.agg #[.bool n59,.slice E3 l59 c59]),se 1 31 [] (.pointer (some ⟨w.heap.size,2,none⟩)),se 2 32 [1] (.slice A' l' c'),sf 3 33 [2] (fun fv fw=>RN fw fw.heap.size fv (dig d)),sf 4 34 [3] (fun fv fw=>∃ A l c,fv=.agg #[.bool false,.slice A l c]∧RN fw fw.heap.size (.slice A l c) (dig d)),sf 5 35 [0,4] (fun fv fw=>QV fw fw.heap.size fv q),se 6 36 [] (.int .i64 6),sf 7 37 [5,6] (fun fv fw=>∃ u,fv=.tuple #[u,.int .i64 6]∧QO fw fw.heap.size u none),sf 8 38 [7] (fun fv fw=>QO fw fw.heap.size fv none),se 9 39 [7] (.int .i64 6)] 2 (SB T1 (SB R1 S0)) (MA (fun _ _ _ h hb=>h.step hb) (MA (fun _ _ _ h hb=>let ⟨A,l,c,e,h⟩:=h;⟨A,l,c,e,h.stepN hb⟩) (MA (fun _ _ _ h hb=>h.step hb) (MA (fun _ _ _ h hb=>let ⟨u,e,h⟩:=h;⟨u,e,QO.step h hb⟩) (MA (fun v _ w2 h hb=>(show QO w2 w2.heap.size v none from QO.step (o:=none) h hb)) trivial))))) ?_ ?_
    ·intro xs a_ hA;simp only[SX] at hA
     iterate 10 (refine ac ?_ ?_;rotate_left)
     exact all_nil
     all_goals (intro wk hb;simp only[SX,↓reduceIte,Nat.reduceEqDiff,Nat.reduceAdd];have b_:=zz hb;have z_:=hb.size;clear hb;subst hA)
     any_goals (intros;refine wpOp_step rfl ?_;intro K hK;go_simp;refine hK _ _ ⟨_,?_,Below.refl _ _,rfl⟩;simp only[*,FL] <;> kernel_rfl)
     ·intro f2;intros;refine wpOp_step (o:=_) rfl (fun K hK=>?_);go_simp;have V1:=zz (RN.soft Hd.out (((Soft.of B57.out).trans (S66.out)).trans (Soft.of b_.out)));(with_reducible refine(cloneN_any _ _ _ V1.out (by have:=HL'.out;omega)).mono ?_)
      rintro e wc69 ⟨R2,v69,rfl,S2⟩;refine hK _ _ ⟨v69,by simp only[FL,f2],R2,S2⟩
     ·intro f3;intros;refine wpOp_step (o:=_) rfl (fun K hK=>?_);obtain⟨A3,c3,hx3,-⟩:=RN.cell f3;have r3:=f3;rw[hx3] at r3 ⊢;go_simp;refine hK _ _ ⟨.agg #[.bool false,.slice A3 (dig d).length c3],by simp only[FL,hx3],Below.refl _ _,⟨_,_,_,rfl,r3⟩⟩
     ·intro f0 f4;intros;refine wpOp_step (o:=_) rfl (fun K hK=>?_);obtain⟨Bd,ud,cd,hu,rd⟩:=f4;rw[hu];have rn70:=RN.stepN q3.out.1 b_.out;go_simp;refine hK _ _ ⟨.agg #[.bool n59,.slice E3 l59 c59,.bool false,.slice Bd ud cd],by simp only[FL,f0,hu],Below.refl _ _,⟨_,_,_,_,_,_,_,rfl,by rw[hnum];exact rn70,by rw[hden];exact rd,by rw[hnum];exact q3.out.2⟩⟩
     ·intro f5 f6;intros;refine wpOp_step (o:=_) rfl (fun K hK=>?_);obtain⟨qn,qA,ql,qc,qB,qm,qd,hu,ra,rb,rc⟩:=f5;rw[hu];have RC:=zz rc;clear rc;go_simp;(with_reducible refine(madeQ_no _ qn false qA qB ql qc qm qd 6 (by decide)).mono ?_)
      rintro e wc71 ⟨T2,rfl⟩;refine hK _ _ ⟨.tuple #[.agg #[.bool false,.slice none 0 0,.bool false,.slice none 0 0],.int .i64 6],by simp only[FL,f6,hu],T2,⟨_,rfl,zeroQ _ _⟩⟩
     ·intro f7;intros;refine wpOp_step (o:=_) rfl (fun K hK=>?_);obtain⟨u,hu,hl⟩:=f7;rw[hu];go_simp;refine hK _ _ ⟨u,by simp only[FL,hu],Below.refl _ _,hl⟩
     ·intro f7;intros;refine wpOp_step (o:=_) rfl (fun K hK=>?_);obtain⟨u,hu,-⟩:=f7;rw[hu];go_simp;refine hK _ _ ⟨.int .i64 6,by simp only[FL,hu],Below.refl _ _,rfl⟩
    ·intro xs a4 hbf;simp only[SY];have B73:=zz hbf;have z73:=B73.out.size;have U2:=tr U1 B73;clear hbf;generalize xs 3=x3,xs 4=x4,xs 5=x5,xs 7=x7,xs 8=x8;rintro f3 f4 f5 f7 f8;clear f3;clear f4;clear f5;clear f7;have g8:QR a4 a4.heap.size x8 false [] false []:=f8;clear f8;obtain⟨O4,P4,Q4,R4,h3,S4,rfl,ha75,v0⟩:=g8;have W1:=zz (QR.mk (n:=false) (m:=false) ha75 v0);clear ha75 v0;have d0:=CB.step S1 B73.out;have X1:=d0.cell 0 rfl;have Y1:=d0.cell 1 rfl;have Z1:=d0.cell 2 rfl;have a2:=d0.cell 3 rfl;have b4:=d0.lt;have b2:=d0.frozen 0;have c2:=d0.frozen 1;have d2:=d0.frozen 2;have e2:=d0.frozen 3;have c4:=d0.lt;refine EN 10 rfl fun K hK=>?_;go_simp;refine hK _ _ ?_;clear hK K;(try simp only[PT])
     clear X1 Y1 Z1 a2 b4 b2 c2 d2 e2 c4;refine EN 11 rfl fun K hK=>?_
     go_simp;refine hK _ _ ?_;clear hK K;(try simp only[PT])
     refine ED ?_;(try simp only[Exit.then])
     go_wp2;exact QB.fin rfl d0 (by simp[noInt_b,noInt_s]) U2.out (by omega) (by rw[HR.out];exact W1.out) rfl (by rw[HR.out];rfl)
  | true=>
   have hzl:z<0↔0<l:=by
    constructor
    ·intro h;rw[EL.out];have:=dig_len_pos (n:=z.natAbs) (by omega);omega
    ·intro h;rcases wsgn_cases hn with h1 | ⟨-,h1⟩ | ⟨h1,-⟩
     ·rw[EL.out,h1,show(0:Int).natAbs=0 from rfl,dig_zero] at h;simp at h
     ·exact h1
     ·cases h1
   have HS:=zz (show decide (z<0)=(decide (0<l)) by exact decide_eq_decide.2 hzl);clear hn hzl;go_enter Tryz.func54,Tryz.ntmps54
   go_upto_region 2 with (fail)
   rw[← hw0];clear hw0;have g2:=La.cell 0 rfl;have i2:=La.cell 1 rfl;have j2:=La.cell 2 rfl;have d4:=La.lt;go_upto_region 4 with (fail)
   clear g2 i2 j2 d4;refine Sweep.run [se 0 15 [] (.pointer (some ⟨w.heap.size,0,none⟩)),se 1 16 [0] (.pointer (some ⟨w.heap.size,0,none⟩)),se 2 17 [1] (.bool true),se 3 18 [2] (.bool true),se 4 19 [3] (.pointer (some ⟨w.heap.size,0,none⟩)),se 5 20 [3,4] (.pointer (some ⟨w.heap.size,1,none⟩)),se 6 21 [3,5] (.slice A l c),se 7 22 [3,6] (.int .i64 (l:Int)),se 8 23 [3,7] (.bool (decide (0<l))),se 9 24 [3,8] (.bool (decide (0<l))),se 10 25 [] (.pointer (some ⟨w.heap.size,0,none⟩)),se 11 26 [10] (.pointer (some ⟨w.heap.size,1,none⟩)),se 12 27 [11] (.slice A l c),sf 13 28 [12] (fun fv fw=>RN fw fw.heap.size fv (dig z.natAbs)),sf 14 29 [13,9] (fun fv fw=>LV fw fw.heap.size fv z),sf 15 5 [] (fun fv fw=>∃ b,fv=.pointer (some ⟨b,0,none⟩)∧CB fw b 31 #[.bool false,.slice none 0 0])] [] [15] 1 (SB La S0) (MA (fun _ _ _ h hb=>h.step hb) (MA (fun _ _ _ h hb=>h.step hb) (MA (fun _ _ _ h hb=>let ⟨b,e,h⟩:=h;⟨b,e,h.step hb⟩) trivial))) ?_ ?_ ?_
   ·intro xs a_ hA;simp only[SX] at hA
    iterate 16 (refine ac ?_ ?_;rotate_left)
    exact all_nil
    all_goals (intro wk hb;simp only[SX,↓reduceIte,Nat.reduceEqDiff,Nat.reduceAdd];have b_:=zz hb;have z_:=hb.size;clear hb;subst hA)
    any_goals (intros;refine wpOp_step rfl ?_;intro K hK;go_simp;refine hK _ _ ⟨_,?_,Below.refl _ _,rfl,nF⟩;simp only[*,FL] <;> kernel_rfl)
    ·intro f12;intros;refine wpOp_step (o:=_) rfl (fun K hK=>?_);go_simp;have k2:=zz (RN.step Ha.out b_.out);(with_reducible refine(cloneN_any _ _ _ k2.out (by have:=HL.out;omega)).mono ?_)
     rintro e wc81 ⟨V2,v81,rfl,W2⟩;refine hK _ _ ⟨v81,by simp only[FL,f12],V2,W2,nF⟩
    ·intro f13 f9;intros;refine wpOp_step (o:=_) rfl (fun K hK=>?_);obtain⟨A13,c13,hx13,-⟩:=RN.cell f13;have r13:=f13;rw[hx13] at r13 ⊢;go_simp;refine hK _ _ ⟨.agg #[.bool (decide (0<l)),.slice A13 (dig (z).natAbs).length c13],by simp only[FL,f9,hx13],Below.refl _ _,⟨_,by rw[HS.out],r13⟩,nF⟩
    ·intros
     refine wpOp_step (o:=_) rfl (fun K hK=>?_);go_simp;refine hK _ _ ⟨.pointer (some ⟨wk.heap.size,0,none⟩),by kernel_rfl,(Below.refl _ _).alloc (Nat.le_refl _) _,⟨_,rfl,CB.new _ _ _⟩,fun _=>⟨_,rfl,Nat.le_refl _,by simp⟩⟩
   ·exact fun _ _ _=>all_nil
   ·intro xs H4 hbf hn hd;simp only[SY];have n15:=hn 15 (by decide);clear hn hd;have B83:=zz hbf;have z83:=B83.out.size;have X2:=tr B0 B83;clear hbf;generalize xs 13=x13,xs 14=x14,xs 15=x15 at *
    rintro f13 f14 f15;clear f13;obtain⟨n85,G3,l85,c85,rfl,x0⟩:=f14.opened;have l2:=zz x0;clear f14 x0;obtain⟨u3,rfl,o3⟩:=f15;have H3:=zz (show w0.heap.size≤u3 by obtain⟨b',e,h,-⟩:=n15;injection e with e;injection e with e;injection e with e _ _;omega);clear n15;have o4:=o3.lt;have p4:=H3.out;have m2:=o3.cell 0 rfl;have n2:=o3.cell 1 rfl;have e4:=o3.lt;have o2:=o3.frozen 0;have p2:=o3.frozen 1;have g4:=o3.lt;refine EN 16 rfl fun K hK=>?_;go_simp;refine hK _ _ ?_;clear hK K;(try simp only[PT])
    clear m2 n2 e4 o2 p2 g4;refine ED ?_;(try simp only[Exit.then])
    have q2:=CB.step La B83.out;have r2:=CB.step Lo B83.out;obtain⟨w92,i0⟩:∃ w92:World,w92=((H4.setCell ⟨u3,0,none⟩ (.bool n85)).setCell ⟨u3,1,none⟩ (.slice G3 l85 c85)):=⟨_,rfl⟩;rw[← i0];have S92:=zz (p2_s i0 o3 (by simp[noInt_b,noInt_s]));have s2:=p2_f i0 q2 (by omega);have t2:=p2_f i0 r2 (by omega);have u2:=p2_p i0 o3;have v2:=zz (p2_b i0 X2.out (by omega));have l3:=p2_z i0;clear i0;go_upto_region 5 with (fail)
    have m0:=zz (LV.soft l2.out (S92.out));have q3:=zz (show RN w92 w92.heap.size (.slice G3 l85 c85) (dig z.natAbs)∧n85=decide (z<0) from⟨(LV.is m0.out).2.2,(LV.is m0.out).1⟩);refine Sweep.r0 [se 0 30 [] (.agg #[.bool n85,.slice G3 l85 c85]),se 1 31 [] (.pointer (some ⟨w.heap.size,2,none⟩)),se 2 32 [1] (.slice A' l' c'),sf 3 33 [2] (fun fv fw=>RN fw fw.heap.size fv (dig d)),sf 4 34 [3] (fun fv fw=>∃ A l c,fv=.agg #[.bool false,.slice A l c]∧RN fw fw.heap.size (.slice A l c) (dig d)),sf 5 35 [0,4] (fun fv fw=>QV fw fw.heap.size fv q),se 6 36 [] (.int .i64 6),sf 7 37 [5,6] (fun fv fw=>∃ u,fv=.tuple #[u,.int .i64 6]∧QO fw fw.heap.size u none),sf 8 38 [7] (fun fv fw=>QO fw fw.heap.size fv none),se 9 39 [7] (.int .i64 6)] 2 (SB u2 (SB s2 S0)) (MA (fun _ _ _ h hb=>h.step hb) (MA (fun _ _ _ h hb=>let ⟨A,l,c,e,h⟩:=h;⟨A,l,c,e,h.stepN hb⟩) (MA (fun _ _ _ h hb=>h.step hb) (MA (fun _ _ _ h hb=>let ⟨u,e,h⟩:=h;⟨u,e,QO.step h hb⟩) (MA (fun v _ w2 h hb=>(show QO w2 w2.heap.size v none from QO.step (o:=none) h hb)) trivial))))) ?_ ?_
    ·intro xs a_ hA;simp only[SX] at hA
     iterate 10 (refine ac ?_ ?_;rotate_left)
     exact all_nil
     all_goals (intro wk hb;simp only[SX,↓reduceIte,Nat.reduceEqDiff,Nat.reduceAdd];have b_:=zz hb;have z_:=hb.size;clear hb;subst hA)
     any_goals (intros;refine wpOp_step rfl ?_;intro K hK;go_simp;refine hK _ _ ⟨_,?_,Below.refl _ _,rfl⟩;simp only[*,FL] <;> kernel_rfl)
     ·intro f2;intros;refine wpOp_step (o:=_) rfl (fun K hK=>?_);go_simp;have x2:=zz (RN.soft Hd.out (((Soft.of B83.out).trans (S92.out)).trans (Soft.of b_.out)));(with_reducible refine(cloneN_any _ _ _ x2.out (by have:=HL'.out;omega)).mono ?_)
      rintro e wc95 ⟨Y2,v95,rfl,Z2⟩;refine hK _ _ ⟨v95,by simp only[FL,f2],Y2,Z2⟩
     ·intro f3;intros;refine wpOp_step (o:=_) rfl (fun K hK=>?_);obtain⟨A3,c3,hx3,-⟩:=RN.cell f3;have r3:=f3;rw[hx3] at r3 ⊢;go_simp;refine hK _ _ ⟨.agg #[.bool false,.slice A3 (dig d).length c3],by simp only[FL,hx3],Below.refl _ _,⟨_,_,_,rfl,r3⟩⟩
     ·intro f0 f4;intros;refine wpOp_step (o:=_) rfl (fun K hK=>?_);obtain⟨Bd,ud,cd,hu,rd⟩:=f4;rw[hu];have rn96:=RN.stepN q3.out.1 b_.out;go_simp;refine hK _ _ ⟨.agg #[.bool n85,.slice G3 l85 c85,.bool false,.slice Bd ud cd],by simp only[FL,f0,hu],Below.refl _ _,⟨_,_,_,_,_,_,_,rfl,by rw[hnum];exact rn96,by rw[hden];exact rd,by rw[hnum];exact q3.out.2⟩⟩
     ·intro f5 f6;intros;refine wpOp_step (o:=_) rfl (fun K hK=>?_);obtain⟨qn,qA,ql,qc,qB,qm,qd,hu,ra,rb,rc⟩:=f5;rw[hu];have RC:=zz rc;clear rc;go_simp;(with_reducible refine(madeQ_no _ qn false qA qB ql qc qm qd 6 (by decide)).mono ?_)
      rintro e wc97 ⟨a3,rfl⟩;refine hK _ _ ⟨.tuple #[.agg #[.bool false,.slice none 0 0,.bool false,.slice none 0 0],.int .i64 6],by simp only[FL,f6,hu],a3,⟨_,rfl,zeroQ _ _⟩⟩
     ·intro f7;intros;refine wpOp_step (o:=_) rfl (fun K hK=>?_);obtain⟨u,hu,hl⟩:=f7;rw[hu];go_simp;refine hK _ _ ⟨u,by simp only[FL,hu],Below.refl _ _,hl⟩
     ·intro f7;intros;refine wpOp_step (o:=_) rfl (fun K hK=>?_);obtain⟨u,hu,-⟩:=f7;rw[hu];go_simp;refine hK _ _ ⟨.int .i64 6,by simp only[FL,hu],Below.refl _ _,rfl⟩
    ·intro xs h4 hbf;simp only[SY];have B99:=zz hbf;have z99:=B99.out.size;have y2:=tr v2 B99;clear hbf;generalize xs 3=x3,xs 4=x4,xs 5=x5,xs 7=x7,xs 8=x8;rintro f3 f4 f5 f7 f8;clear f3;clear f4;clear f5;clear f7;have g8:QR h4 h4.heap.size x8 false [] false []:=f8;clear f8;obtain⟨J4,K4,L4,M4,g3,N4,rfl,ha101,n0⟩:=g8;have y0:=zz (QR.mk (n:=false) (m:=false) ha101 n0);clear ha101 n0;have a0:=CB.step t2 B99.out;have A0:=a0.cell 0 rfl;have C0:=a0.cell 1 rfl;have D0:=a0.cell 2 rfl;have E0:=a0.cell 3 rfl;have L3:=a0.lt;have F0:=a0.frozen 0;have G0:=a0.frozen 1;have H0:=a0.frozen 2;have I0:=a0.frozen 3;have M3:=a0.lt;refine EN 10 rfl fun K hK=>?_;go_simp;refine hK _ _ ?_;clear hK K;(try simp only[PT])
     clear A0 C0 D0 E0 L3 F0 G0 H0 I0 M3;refine EN 11 rfl fun K hK=>?_
     go_simp;refine hK _ _ ?_;clear hK K;(try simp only[PT])
     refine ED ?_;(try simp only[Exit.then])
     go_wp2;exact QB.fin rfl a0 (by simp[noInt_b,noInt_s]) y2.out (by omega) (by rw[HR.out];exact y0.out) rfl (by rw[HR.out];rfl)
end Go.Proofs.YtdigbofiebfkeaaGreatDoor
