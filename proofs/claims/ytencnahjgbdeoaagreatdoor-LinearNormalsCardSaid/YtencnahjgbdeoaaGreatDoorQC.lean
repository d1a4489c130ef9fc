/- Layer 04: Told (written by gen_qb.py). -/
import Derived.Test.YtencnahjgbdeoaaGreatDoorQab
namespace Go.Proofs.YtencnahjgbdeoaaGreatDoor
open Go Go.RowKit Dig
set_option maxRecDepth 100000
set_option linter.unusedSimpArgs false
theorem eY (w:World) (v:Value) (l:List Nat) (h:RN w w.heap.size v l) (hl:l.length≤300000000) :
  CV 101 #[v] w fun e w'=>∃ v',e=.returned v'∧RN w' w'.heap.size v' l:=
 (wZ w v (ni l) h (by rw[aC];omega)).mono fun _ _ ⟨hb,v',he,hv⟩=>⟨hb,v',he,hv.ri⟩
theorem VZ {z:Int} {d:Nat} (hd:d≠0) (hc:Nat.gcd z.natAbs d=1):(mkRat z d).num=z∧(mkRat z d).den=d:=jC (by omega) hc
set_option maxHeartbeats 16000000 in
theorem XN (w:World) (v:Value) (z:Int) (d:Nat) (h:TV w w.heap.size v z d) (hd:d≠0) (hc:Nat.gcd z.natAbs d=1) (hl:(dig z.natAbs).length≤300000000) (hl':(dig d).length≤300000000) :
  CV 55 #[v] w fun e w'=>uU w' (gY (mkRat z d)) e:=by
 obtain⟨n,A,l,c,A',l',c',rfl,Ha,Hd,hn⟩:=h;have el:=RN.len Ha;have el':=RN.len Hd;have EL:=zz el;have EL':=zz el';clear el el';obtain⟨hnum,hden⟩:=VZ hd hc;obtain⟨q,hq⟩:=ex (mkRat z d);rw[← hq] at hnum hden ⊢;clear hq hc;obtain⟨r,hr⟩:=ex (gY q);rw[← hr];have HL:=zz hl;have HL':=zz hl';clear hl hl';obtain⟨w0,hw0⟩:=ex ((w.alloc (.cells #[.bool n,.slice A l c,.slice A' l' c'] 88)).alloc (.cells #[.bool false,.slice none 0 0,.bool false,.slice none 0 0] 28));have B0:=zz (pK hw0);have z0:=pJ hw0;have La:=pM hw0;have Lo:=pL hw0;replace Ha:=zz (aHy Ha B0.o);replace Hd:=zz (aHy Hd B0.o);by_cases hov:l≤600∧l'≤600
 ·have HR:=zz (show r=(some q,0) by rw[hr];unfold gY;rw[aEv (show eS q from⟨by rw[hnum,← EL.o];omega,by rw[hden,← EL'.o];omega⟩)]);clear hr;have hmx:¬ (600:Int)<max (l:Int) (l':Int):=by omega
  cases n with
  | false=>
   have hz:0≤z:=by rcases dN hn with h | ⟨h,-⟩ | ⟨-,h⟩ <;> first | omega | cases h
   have HS:=zz (show decide (z<0)=false by rw[aEe];omega);clear hn;go_enter Tryz.func55,Tryz.ntmps55
   go_upto_region 2 with (fail)
   rw[← hw0];clear hw0;have A2:=cz3 La;go_upto_region 4 with (fail)
   clear A2;refine aMe [se 0 15 [] (.pointer (some ⟨w.heap.size,0,none⟩)),se 1 16 [0] (.pointer (some ⟨w.heap.size,0,none⟩)),se 2 17 [1] (.bool false),se 3 18 [2] (.bool false),se 4 19 [3] undef,se 5 20 [3] undef,se 6 21 [3] undef,se 7 22 [3] undef,se 8 23 [3] undef,se 9 24 [3] (.bool false),se 10 25 [] (.pointer (some ⟨w.heap.size,0,none⟩)),se 11 26 [10] (.pointer (some ⟨w.heap.size,1,none⟩)),se 12 27 [11] (.slice A l c),sf 13 28 [12] (fun fv fw=>RN fw fw.heap.size fv (dig z.natAbs)),sf 14 29 [13,9] (fun fv fw=>LV fw fw.heap.size fv z),sf 15 5 [] (fun fv fw=>∃ b,fv=.pointer (some ⟨b,0,none⟩)∧CB fw b 26 #[.bool false,.slice none 0 0])] [] [15] 1 (SB La S0) (MA (fun _ _ _ h hb=>h.step hb) (MA (fun _ _ _ h hb=>h.step hb) (MA (fun _ _ _ h hb=>let ⟨b,e,h⟩:=h;⟨b,e,h.step hb⟩) aFi))) ?_ ?_ ?_
   ·intro xs a_ hA;simp only[SX,↓reduceIte,Nat.reduceEqDiff,Nat.reduceAdd] at hA⊢;subst hA;and_intros
    all_goals intro wk b_ z_
    all_goals try exact pn
    ·intro f12;intros;refine wo fun K hK=>?_;go_simp;have D2:=st aHu Ha b_;(with_reducible refine(eY _ _ _ D2.o (by have:=HL.o;omega)).mono ?_)
     rintro e wc3 ⟨b3,v3,rfl,d3⟩;refine hK _ _ ⟨v3,by simp only[FL,f12],b3,d3,nF⟩
    ·intro f13 f9;intros;refine wo fun K hK=>?_;obtain⟨A13,c13,hx13,-⟩:=aKl f13;have r13:=f13;rw[hx13] at r13 ⊢;go_simp;refine hK _ _ ⟨.agg #[.bool false,.slice A13 (dig (z).natAbs).length c13],by simp only[FL,f9,hx13],aDy _ _,⟨_,by rw[HS.o],r13⟩,nF⟩
    ·intros
     refine wo fun K hK=>?_;go_simp;refine hK _ _ ⟨.pointer (some ⟨wk.heap.size,0,none⟩),by kernel_rfl,(aDy _ _).alloc (aEa _) _,⟨_,rfl,aHl _ _ _⟩,fun _=>⟨_,rfl,aEa _,by simp⟩⟩
   ·exact fun _ _ _=>aFi
   ·intro xs I4 hbf _ hn hd;simp only[SY];have n15:=hn 15 (by decide);clear hn hd;have B5:=hbf;have z5:=B5.o.size;have e3:=tr B0 B5;clear hbf;generalize xs 13=x13,xs 14=x14,xs 15=x15 at *
    rintro f13 f14 f15;clear f13;obtain⟨n7,K3,l7,c7,rfl,z2⟩:=f14.opened;have E2:=zz z2;clear f14 z2;obtain⟨y3,rfl,p3⟩:=f15;have I3:=zz (show w0.heap.size≤y3 by obtain⟨b',e,h,-⟩:=n15;injection e with e;injection e with e;injection e with e _ _;omega);clear n15;have q4:=p3.lt;have r4:=I3.o;have J0:=cz2 p3;have L0:=fz2 p3;refine EN 16 rfl fun K hK=>?_;go_simp;refine hK _ _ ?_;clear hK K;(try simp only[PT])
    clear J0 L0;refine ED ?_;(try simp only[Exit.then])
    have N0:=aEd La B5.o;have O0:=aEd Lo B5.o;obtain⟨w14,e0⟩:=ex ((I4.setCell ⟨y3,0,none⟩ (.bool n7)).setCell ⟨y3,1,none⟩ (.slice K3 l7 c7));rw[← e0];have S14:=zz (JI e0 p3 (by simp[aF,aE]));have P0:=pI e0 N0 (by omega);have Q0:=pI e0 O0 (by omega);have R0:=JJ e0 p3;have T0:=zz (JK e0 e3.o (by omega));have i3:=JH e0;clear e0;go_upto_region 5 with (fail)
    have j0:=zz (LV.soft E2.o (S14.o));have q3:=zz (show RN w14 w14.heap.size (.slice K3 l7 c7) (dig z.natAbs)∧n7=decide (z<0) from⟨(LV.is j0.o).2.2,(LV.is j0.o).1⟩);refine aFq [se 0 30 [] (.agg #[.bool n7,.slice K3 l7 c7]),se 1 31 [] (.pointer (some ⟨w.heap.size,2,none⟩)),se 2 32 [1] (.slice A' l' c'),sf 3 33 [2] (fun fv fw=>RN fw fw.heap.size fv (dig d)),sf 4 34 [3] (fun fv fw=>∃ A l c,fv=.agg #[.bool false,.slice A l c]∧RN fw fw.heap.size (.slice A l c) (dig d)),sf 5 35 [0,4] (fun fv fw=>QV fw fw.heap.size fv q),se 6 36 [] (.int .i64 0),sf 7 37 [5,6] (fun fv fw=>∃ u,fv=.tuple #[u,.int .i64 0]∧QO fw fw.heap.size u (some q)),sf 8 38 [7] (fun fv fw=>QO fw fw.heap.size fv (some q)),se 9 39 [7] (.int .i64 0)] 2 (SB R0 (SB P0 S0)) (MA (fun _ _ _ h hb=>h.step hb) (MA (fun _ _ _ h hb=>let ⟨A,l,c,e,h⟩:=h;⟨A,l,c,e,h.stepN hb⟩) (MA (fun _ _ _ h hb=>h.step hb) (MA (fun _ _ _ h hb=>let ⟨u,e,h⟩:=h;⟨u,e,aNi h hb⟩) (MA (fun v _ w2 h hb=>(show QO w2 w2.heap.size v (some q) from aNi (o:=(some q)) h hb)) aFi))))) ?_ ?_
    ·intro xs a_ hA;simp only[SX,↓reduceIte,Nat.reduceEqDiff,Nat.reduceAdd] at hA⊢;subst hA;and_intros
     all_goals intro wk b_ z_
     all_goals try exact pl
     ·intro f2;intros;refine wo fun K hK=>?_;go_simp;have U0:=zz (RN.soft Hd.o (((aJw B5.o).trans (S14.o)).trans (aJw b_.o)));(with_reducible refine(eY _ _ _ U0.o (by have:=HL'.o;omega)).mono ?_)
      rintro e wc17 ⟨F2,v17,rfl,G2⟩;refine hK _ _ ⟨v17,by simp only[FL,f2],F2,G2⟩
     ·intro f3;intros;refine wo fun K hK=>?_;obtain⟨A3,c3,hx3,-⟩:=aKl f3;have r3:=f3;rw[hx3] at r3 ⊢;go_simp;refine hK _ _ ⟨.agg #[.bool false,.slice A3 (dig d).length c3],by simp only[FL,hx3],aDy _ _,⟨_,_,_,rfl,r3⟩⟩
     ·intro f0 f4;intros;refine wo fun K hK=>?_;obtain⟨Bd,ud,cd,hu,rd⟩:=f4;rw[hu];have rn18:=aHy q3.o.1 b_.o;go_simp;refine hK _ _ ⟨.agg #[.bool n7,.slice K3 l7 c7,.bool false,.slice Bd ud cd],by simp only[FL,f0,hu],aDy _ _,⟨_,_,_,_,_,_,_,rfl,by rw[hnum];exact rn18,by rw[hden];exact rd,by rw[hnum];exact q3.o.2⟩⟩
     ·intro f5 f6;intros;refine wo fun K hK=>?_;obtain⟨qn,qA,ql,qc,qB,qm,qd,hu,ra,rb,rc⟩:=f5;rw[hu];have RC:=zz rc;clear rc;go_simp;(with_reducible refine(oL _ qn false qA qB ql qc qm qd).mono ?_)
      rintro e wc19 ⟨o0,rfl⟩;refine hK _ _ ⟨.tuple #[.agg #[.bool qn,.slice qA ql qc,.bool false,.slice qB qm qd],.int .i64 0],by simp only[FL,f6,hu],o0,⟨_,rfl,aHf ⟨_,_,_,_,_,_,_,rfl,ra,rb,RC.o⟩ o0⟩⟩
     ·intro f7;intros;refine wo fun K hK=>?_;obtain⟨u,hu,hl⟩:=f7;rw[hu];go_simp;refine hK _ _ ⟨u,by simp only[FL,hu],aDy _ _,hl⟩
     ·intro f7;intros;refine wo fun K hK=>?_;obtain⟨u,hu,-⟩:=f7;rw[hu];go_simp;refine hK _ _ ⟨.int .i64 0,by simp only[FL,hu],aDy _ _,rfl⟩
    ·intro xs z3 B21 z21;simp only[SY];have H2:=tr T0 B21;generalize xs 3=x3,xs 4=x4,xs 5=x5,xs 7=x7,xs 8=x8;rintro f3 f4 f5 f7 f8;clear f3;clear f4;clear f5;clear f7;obtain⟨s4,t4,u4,v4,w4,V0,y4,rfl,ha23,p0,hc23⟩:=(show QV z3 z3.heap.size x8 q from f8);have W0:=zz (show QV z3 z3.heap.size (.agg #[.bool s4,.slice t4 u4 v4,.bool false,.slice w4 V0 y4]) q from⟨_,_,_,_,_,_,_,rfl,ha23,p0,hc23⟩);clear ha23 p0 hc23;have b0:=aEd Q0 B21.o;have X0:=cz4 b0;have b1:=fz4 b0;refine EN 10 rfl fun K hK=>?_;go_simp;refine hK _ _ ?_;clear hK K;(try simp only[PT])
     clear X0 b1;refine EN 11 rfl fun K hK=>?_
     go_simp;refine hK _ _ ?_;clear hK K;(try simp only[PT])
     refine ED ?_;(try simp only[Exit.then])
     go_wp2;exact aLp rfl b0 (by simp[aF,aE]) H2.o (by omega) (by rw[HR.o];exact W0.o) rfl (by rw[HR.o];rfl)
  | true=>
   have hzl:z<0↔0<l:=by
    constructor
    ·intro h;rw[EL.o];have:=bX (n:=z.natAbs) (by omega);omega
    ·intro h;rcases dN hn with h1 | ⟨-,h1⟩ | ⟨h1,-⟩
     ·rw[EL.o,h1,show(0:Int).natAbs=0 from rfl,bF] at h;simp at h
     ·exact h1
     ·cases h1
   have HS:=zz (show decide (z<0)=(decide (0<l)) by exact aIu.2 hzl);clear hn hzl;go_enter Tryz.func55,Tryz.ntmps55
   go_upto_region 2 with (fail)
   rw[← hw0];clear hw0;have f1:=cz3 La;go_upto_region 4 with (fail)
   clear f1;refine aMe [se 0 15 [] (.pointer (some ⟨w.heap.size,0,none⟩)),se 1 16 [0] (.pointer (some ⟨w.heap.size,0,none⟩)),se 2 17 [1] (.bool true),se 3 18 [2] (.bool true),se 4 19 [3] (.pointer (some ⟨w.heap.size,0,none⟩)),se 5 20 [3,4] (.pointer (some ⟨w.heap.size,1,none⟩)),se 6 21 [3,5] (.slice A l c),se 7 22 [3,6] (.int .i64 (l:Int)),se 8 23 [3,7] (.bool (decide (0<l))),se 9 24 [3,8] (.bool (decide (0<l))),se 10 25 [] (.pointer (some ⟨w.heap.size,0,none⟩)),se 11 26 [10] (.pointer (some ⟨w.heap.size,1,none⟩)),se 12 27 [11] (.slice A l c),sf 13 28 [12] (fun fv fw=>RN fw fw.heap.size fv (dig z.natAbs)),sf 14 29 [13,9] (fun fv fw=>LV fw fw.heap.size fv z),sf 15 5 [] (fun fv fw=>∃ b,fv=.pointer (some ⟨b,0,none⟩)∧CB fw b 26 #[.bool false,.slice none 0 0])] [] [15] 1 (SB La S0) (MA (fun _ _ _ h hb=>h.step hb) (MA (fun _ _ _ h hb=>h.step hb) (MA (fun _ _ _ h hb=>let ⟨b,e,h⟩:=h;⟨b,e,h.step hb⟩) aFi))) ?_ ?_ ?_
   ·intro xs a_ hA;simp only[SX,↓reduceIte,Nat.reduceEqDiff,Nat.reduceAdd] at hA⊢;subst hA;and_intros
    all_goals intro wk b_ z_
    all_goals try exact pn
    ·intro f12;intros;refine wo fun K hK=>?_;go_simp;have j1:=st aHu Ha b_;(with_reducible refine(eY _ _ _ j1.o (by have:=HL.o;omega)).mono ?_)
     rintro e wc29 ⟨I2,v29,rfl,J2⟩;refine hK _ _ ⟨v29,by simp only[FL,f12],I2,J2,nF⟩
    ·intro f13 f9;intros;refine wo fun K hK=>?_;obtain⟨A13,c13,hx13,-⟩:=aKl f13;have r13:=f13;rw[hx13] at r13 ⊢;go_simp;refine hK _ _ ⟨.agg #[.bool (decide (0<l)),.slice A13 (dig (z).natAbs).length c13],by simp only[FL,f9,hx13],aDy _ _,⟨_,by rw[HS.o],r13⟩,nF⟩
    ·intros
     refine wo fun K hK=>?_;go_simp;refine hK _ _ ⟨.pointer (some ⟨wk.heap.size,0,none⟩),by kernel_rfl,(aDy _ _).alloc (aEa _) _,⟨_,rfl,aHl _ _ _⟩,fun _=>⟨_,rfl,aEa _,by simp⟩⟩
   ·exact fun _ _ _=>aFi
   ·intro xs z4 hbf _ hn hd;simp only[SY];have n15:=hn 15 (by decide);clear hn hd;have B31:=hbf;have z31:=B31.o.size;have K2:=tr B0 B31;clear hbf;generalize xs 13=x13,xs 14=x14,xs 15=x15 at *
    rintro f13 f14 f15;clear f13;obtain⟨n33,B3,l33,c33,rfl,q0⟩:=f14.opened;have k1:=zz q0;clear f14 q0;obtain⟨s3,rfl,m3⟩:=f15;have C3:=zz (show w0.heap.size≤s3 by obtain⟨b',e,h,-⟩:=n15;injection e with e;injection e with e;injection e with e _ _;omega);clear n15;have k4:=m3.lt;have l4:=C3.o;have l1:=cz2 m3;have n1:=fz2 m3;refine EN 16 rfl fun K hK=>?_;go_simp;refine hK _ _ ?_;clear hK K;(try simp only[PT])
    clear l1 n1;refine ED ?_;(try simp only[Exit.then])
    have p1:=aEd La B31.o;have q1:=aEd Lo B31.o;obtain⟨w40,g0⟩:=ex ((z4.setCell ⟨s3,0,none⟩ (.bool n33)).setCell ⟨s3,1,none⟩ (.slice B3 l33 c33));rw[← g0];have S40:=zz (JI g0 m3 (by simp[aF,aE]));have r1:=pI g0 p1 (by omega);have s1:=pI g0 q1 (by omega);have t1:=JJ g0 m3;have u1:=zz (JK g0 K2.o (by omega));have j3:=JH g0;clear g0;go_upto_region 5 with (fail)
    have k0:=zz (LV.soft k1.o (S40.o));have q3:=zz (show RN w40 w40.heap.size (.slice B3 l33 c33) (dig z.natAbs)∧n33=decide (z<0) from⟨(LV.is k0.o).2.2,(LV.is k0.o).1⟩);refine aFq [se 0 30 [] (.agg #[.bool n33,.slice B3 l33 c33]),se 1 31 [] (.pointer (some ⟨w.heap.size,2,none⟩)),se 2 32 [1] (.slice A' l' c'),sf 3 33 [2] (fun fv fw=>RN fw fw.heap.size fv (dig d)),sf 4 34 [3] (fun fv fw=>∃ A l c,fv=.agg #[.bool false,.slice A l c]∧RN fw fw.heap.size (.slice A l c) (dig d)),sf 5 35 [0,4] (fun fv fw=>QV fw fw.heap.size fv q),se 6 36 [] (.int .i64 0),sf 7 37 [5,6] (fun fv fw=>∃ u,fv=.tuple #[u,.int .i64 0]∧QO fw fw.heap.size u (some q)),sf 8 38 [7] (fun fv fw=>QO fw fw.heap.size fv (some q)),se 9 39 [7] (.int .i64 0)] 2 (SB t1 (SB r1 S0)) (MA (fun _ _ _ h hb=>h.step hb) (MA (fun _ _ _ h hb=>let ⟨A,l,c,e,h⟩:=h;⟨A,l,c,e,h.stepN hb⟩) (MA (fun _ _ _ h hb=>h.step hb) (MA (fun _ _ _ h hb=>let ⟨u,e,h⟩:=h;⟨u,e,aNi h hb⟩) (MA (fun v _ w2 h hb=>(show QO w2 w2.heap.size v (some q) from aNi (o:=(some q)) h hb)) aFi))))) ?_ ?_
    ·intro xs a_ hA;simp only[SX,↓reduceIte,Nat.reduceEqDiff,Nat.reduceAdd] at hA⊢;subst hA;and_intros
     all_goals intro wk b_ z_
     all_goals try exact pl
     ·intro f2;intros;refine wo fun K hK=>?_;go_simp;have v1:=zz (RN.soft Hd.o (((aJw B31.o).trans (S40.o)).trans (aJw b_.o)));(with_reducible refine(eY _ _ _ v1.o (by have:=HL'.o;omega)).mono ?_)
      rintro e wc43 ⟨L2,v43,rfl,M2⟩;refine hK _ _ ⟨v43,by simp only[FL,f2],L2,M2⟩
     ·intro f3;intros;refine wo fun K hK=>?_;obtain⟨A3,c3,hx3,-⟩:=aKl f3;have r3:=f3;rw[hx3] at r3 ⊢;go_simp;refine hK _ _ ⟨.agg #[.bool false,.slice A3 (dig d).length c3],by simp only[FL,hx3],aDy _ _,⟨_,_,_,rfl,r3⟩⟩
     ·intro f0 f4;intros;refine wo fun K hK=>?_;obtain⟨Bd,ud,cd,hu,rd⟩:=f4;rw[hu];have rn44:=aHy q3.o.1 b_.o;go_simp;refine hK _ _ ⟨.agg #[.bool n33,.slice B3 l33 c33,.bool false,.slice Bd ud cd],by simp only[FL,f0,hu],aDy _ _,⟨_,_,_,_,_,_,_,rfl,by rw[hnum];exact rn44,by rw[hden];exact rd,by rw[hnum];exact q3.o.2⟩⟩
     ·intro f5 f6;intros;refine wo fun K hK=>?_;obtain⟨qn,qA,ql,qc,qB,qm,qd,hu,ra,rb,rc⟩:=f5;rw[hu];have RC:=zz rc;clear rc;go_simp;(with_reducible refine(oL _ qn false qA qB ql qc qm qd).mono ?_)
      rintro e wc45 ⟨s0,rfl⟩;refine hK _ _ ⟨.tuple #[.agg #[.bool qn,.slice qA ql qc,.bool false,.slice qB qm qd],.int .i64 0],by simp only[FL,f6,hu],s0,⟨_,rfl,aHf ⟨_,_,_,_,_,_,_,rfl,ra,rb,RC.o⟩ s0⟩⟩
     ·intro f7;intros;refine wo fun K hK=>?_;obtain⟨u,hu,hl⟩:=f7;rw[hu];go_simp;refine hK _ _ ⟨u,by simp only[FL,hu],aDy _ _,hl⟩
     ·intro f7;intros;refine wo fun K hK=>?_;obtain⟨u,hu,-⟩:=f7;rw[hu];go_simp;refine hK _ _ ⟨.int .i64 0,by simp only[FL,hu],aDy _ _,rfl⟩
    ·intro xs D3 B47 z47;simp only[SY];have N2:=tr u1 B47;generalize xs 3=x3,xs 4=x4,xs 5=x5,xs 7=x7,xs 8=x8;rintro f3 f4 f5 f7 f8;clear f3;clear f4;clear f5;clear f7;obtain⟨A4,B4,C4,D4,E4,w1,F4,rfl,ha49,t0,hc49⟩:=(show QV D3 D3.heap.size x8 q from f8);have x1:=zz (show QV D3 D3.heap.size (.agg #[.bool A4,.slice B4 C4 D4,.bool false,.slice E4 w1 F4]) q from⟨_,_,_,_,_,_,_,rfl,ha49,t0,hc49⟩);clear ha49 t0 hc49;have c0:=aEd s1 B47.o;have y1:=cz4 c0;have C1:=fz4 c0;refine EN 10 rfl fun K hK=>?_;go_simp;refine hK _ _ ?_;clear hK K;(try simp only[PT])
     clear y1 C1;refine EN 11 rfl fun K hK=>?_
     go_simp;refine hK _ _ ?_;clear hK K;(try simp only[PT])
     refine ED ?_;(try simp only[Exit.then])
     go_wp2;exact aLp rfl c0 (by simp[aF,aE]) N2.o (by omega) (by rw[HR.o];exact x1.o) rfl (by rw[HR.o];rfl)
 ·have HR:=zz (show r=(none,6) by rw[hr];unfold gY;rw[aEu (fun h:eS q=>by have h1:=h.1;have h2:=h.2;rw[hnum,← EL.o] at h1;rw[hden,← EL'.o] at h2;omega)]);clear hr;have hmx:(600:Int)<max (l:Int) (l':Int):=by omega
  cases n with
  | false=>
   have hz:0≤z:=by rcases dN hn with h | ⟨h,-⟩ | ⟨-,h⟩ <;> first | omega | cases h
   have HS:=zz (show decide (z<0)=false by rw[aEe];omega);clear hn;go_enter Tryz.func55,Tryz.ntmps55
   go_upto_region 2 with (fail)
   rw[← hw0];clear hw0;have G1:=cz3 La;go_upto_region 4 with (fail)
   clear G1;refine aMe [se 0 15 [] (.pointer (some ⟨w.heap.size,0,none⟩)),se 1 16 [0] (.pointer (some ⟨w.heap.size,0,none⟩)),se 2 17 [1] (.bool false),se 3 18 [2] (.bool false),se 4 19 [3] undef,se 5 20 [3] undef,se 6 21 [3] undef,se 7 22 [3] undef,se 8 23 [3] undef,se 9 24 [3] (.bool false),se 10 25 [] (.pointer (some ⟨w.heap.size,0,none⟩)),se 11 26 [10] (.pointer (some ⟨w.heap.size,1,none⟩)),se 12 27 [11] (.slice A l c),sf 13 28 [12] (fun fv fw=>RN fw fw.heap.size fv (dig z.natAbs)),sf 14 29 [13,9] (fun fv fw=>LV fw fw.heap.size fv z),sf 15 5 [] (fun fv fw=>∃ b,fv=.pointer (some ⟨b,0,none⟩)∧CB fw b 26 #[.bool false,.slice none 0 0])] [] [15] 1 (SB La S0) (MA (fun _ _ _ h hb=>h.step hb) (MA (fun _ _ _ h hb=>h.step hb) (MA (fun _ _ _ h hb=>let ⟨b,e,h⟩:=h;⟨b,e,h.step hb⟩) aFi))) ?_ ?_ ?_
   ·intro xs a_ hA;simp only[SX,↓reduceIte,Nat.reduceEqDiff,Nat.reduceAdd] at hA⊢;subst hA;and_intros
    all_goals intro wk b_ z_
    all_goals try exact pn
    ·intro f12;intros;refine wo fun K hK=>?_;go_simp;have J1:=st aHu Ha b_;(with_reducible refine(eY _ _ _ J1.o (by have:=HL.o;omega)).mono ?_)
     rintro e wc55 ⟨O2,v55,rfl,P2⟩;refine hK _ _ ⟨v55,by simp only[FL,f12],O2,P2,nF⟩
    ·intro f13 f9;intros;refine wo fun K hK=>?_;obtain⟨A13,c13,hx13,-⟩:=aKl f13;have r13:=f13;rw[hx13] at r13 ⊢;go_simp;refine hK _ _ ⟨.agg #[.bool false,.slice A13 (dig (z).natAbs).length c13],by simp only[FL,f9,hx13],aDy _ _,⟨_,by rw[HS.o],r13⟩,nF⟩
    ·intros
     refine wo fun K hK=>?_;go_simp;refine hK _ _ ⟨.pointer (some ⟨wk.heap.size,0,none⟩),by kernel_rfl,(aDy _ _).alloc (aEa _) _,⟨_,rfl,aHl _ _ _⟩,fun _=>⟨_,rfl,aEa _,by simp⟩⟩
   ·exact fun _ _ _=>aFi
   ·intro xs G4 hbf _ hn hd;simp only[SY];have n15:=hn 15 (by decide);clear hn hd;have B57:=hbf;have z57:=B57.o.size;have Q2:=tr B0 B57;clear hbf;generalize xs 13=x13,xs 14=x14,xs 15=x15 at *
    rintro f13 f14 f15;clear f13;obtain⟨n59,E3,l59,c59,rfl,u0⟩:=f14.opened;have K1:=zz u0;clear f14 u0;obtain⟨t3,rfl,n3⟩:=f15;have F3:=zz (show w0.heap.size≤t3 by obtain⟨b',e,h,-⟩:=n15;injection e with e;injection e with e;injection e with e _ _;omega);clear n15;have m4:=n3.lt;have n4:=F3.o;have L1:=cz2 n3;have N1:=fz2 n3;refine EN 16 rfl fun K hK=>?_;go_simp;refine hK _ _ ?_;clear hK K;(try simp only[PT])
    clear L1 N1;refine ED ?_;(try simp only[Exit.then])
    have P1:=aEd La B57.o;have Q1:=aEd Lo B57.o;obtain⟨w66,h0⟩:=ex ((G4.setCell ⟨t3,0,none⟩ (.bool n59)).setCell ⟨t3,1,none⟩ (.slice E3 l59 c59));rw[← h0];have S66:=zz (JI h0 n3 (by simp[aF,aE]));have R1:=pI h0 P1 (by omega);have S1:=pI h0 Q1 (by omega);have T1:=JJ h0 n3;have U1:=zz (JK h0 Q2.o (by omega));have k3:=JH h0;clear h0;go_upto_region 5 with (fail)
    have l0:=zz (LV.soft K1.o (S66.o));have q3:=zz (show RN w66 w66.heap.size (.slice E3 l59 c59) (dig z.natAbs)∧n59=decide (z<0) from⟨(LV.is l0.o).2.2,(LV.is l0.o).1⟩);refine aFq [se 0 30 [] (.agg #[.bool n59,.slice E3 l59 c59]),se 1 31 [] (.pointer (some ⟨w.heap.size,2,none⟩)),se 2 32 [1] (.slice A' l' c'),sf 3 33 [2] (fun fv fw=>RN fw fw.heap.size fv (dig d)),sf 4 34 [3] (fun fv fw=>∃ A l c,fv=.agg #[.bool false,.slice A l c]∧RN fw fw.heap.size (.slice A l c) (dig d)),sf 5 35 [0,4] (fun fv fw=>QV fw fw.heap.size fv q),se 6 36 [] (.int .i64 6),sf 7 37 [5,6] (fun fv fw=>∃ u,fv=.tuple #[u,.int .i64 6]∧QO fw fw.heap.size u none),sf 8 38 [7] (fun fv fw=>QO fw fw.heap.size fv none),se 9 39 [7] (.int .i64 6)] 2 (SB T1 (SB R1 S0)) (MA (fun _ _ _ h hb=>h.step hb) (MA (fun _ _ _ h hb=>let ⟨A,l,c,e,h⟩:=h;⟨A,l,c,e,h.stepN hb⟩) (MA (fun _ _ _ h hb=>h.step hb) (MA (fun _ _ _ h hb=>let ⟨u,e,h⟩:=h;⟨u,e,aNi h hb⟩) (MA (fun v _ w2 h hb=>(show QO w2 w2.heap.size v none from aNi (o:=none) h hb)) aFi))))) ?_ ?_
    ·intro xs a_ hA;simp only[SX,↓reduceIte,Nat.reduceEqDiff,Nat.reduceAdd] at hA⊢;subst hA;and_intros
     all_goals intro wk b_ z_
     all_goals try exact pl
     ·intro f2;intros;refine wo fun K hK=>?_;go_simp;have V1:=zz (RN.soft Hd.o (((aJw B57.o).trans (S66.o)).trans (aJw b_.o)));(with_reducible refine(eY _ _ _ V1.o (by have:=HL'.o;omega)).mono ?_)
      rintro e wc69 ⟨R2,v69,rfl,S2⟩;refine hK _ _ ⟨v69,by simp only[FL,f2],R2,S2⟩
     ·intro f3;intros;refine wo fun K hK=>?_;obtain⟨A3,c3,hx3,-⟩:=aKl f3;have r3:=f3;rw[hx3] at r3 ⊢;go_simp;refine hK _ _ ⟨.agg #[.bool false,.slice A3 (dig d).length c3],by simp only[FL,hx3],aDy _ _,⟨_,_,_,rfl,r3⟩⟩
     ·intro f0 f4;intros;refine wo fun K hK=>?_;obtain⟨Bd,ud,cd,hu,rd⟩:=f4;rw[hu];have rn70:=aHy q3.o.1 b_.o;go_simp;refine hK _ _ ⟨.agg #[.bool n59,.slice E3 l59 c59,.bool false,.slice Bd ud cd],by simp only[FL,f0,hu],aDy _ _,⟨_,_,_,_,_,_,_,rfl,by rw[hnum];exact rn70,by rw[hden];exact rd,by rw[hnum];exact q3.o.2⟩⟩
     ·intro f5 f6;intros;refine wo fun K hK=>?_;obtain⟨qn,qA,ql,qc,qB,qm,qd,hu,ra,rb,rc⟩:=f5;rw[hu];have RC:=zz rc;clear rc;go_simp;(with_reducible refine(lA _ qn false qA qB ql qc qm qd 6 (by decide)).mono ?_)
      rintro e wc71 ⟨T2,rfl⟩;refine hK _ _ ⟨.tuple #[.agg #[.bool false,.slice none 0 0,.bool false,.slice none 0 0],.int .i64 6],by simp only[FL,f6,hu],T2,⟨_,rfl,kA _ _⟩⟩
     ·intro f7;intros;refine wo fun K hK=>?_;obtain⟨u,hu,hl⟩:=f7;rw[hu];go_simp;refine hK _ _ ⟨u,by simp only[FL,hu],aDy _ _,hl⟩
     ·intro f7;intros;refine wo fun K hK=>?_;obtain⟨u,hu,-⟩:=f7;rw[hu];go_simp;refine hK _ _ ⟨.int .i64 6,by simp only[FL,hu],aDy _ _,rfl⟩
    ·intro xs a4 B73 z73;simp only[SY];have U2:=tr U1 B73;generalize xs 3=x3,xs 4=x4,xs 5=x5,xs 7=x7,xs 8=x8;rintro f3 f4 f5 f7 f8;clear f3;clear f4;clear f5;clear f7;have g8:QR a4 a4.heap.size x8 false [] false []:=f8;clear f8;obtain⟨O4,P4,Q4,R4,h3,S4,rfl,ha75,v0⟩:=g8;have W1:=zz (QR.mk (n:=false) (m:=false) ha75 v0);clear ha75 v0;have d0:=aEd S1 B73.o;have X1:=cz4 d0;have b2:=fz4 d0;refine EN 10 rfl fun K hK=>?_;go_simp;refine hK _ _ ?_;clear hK K;(try simp only[PT])
     clear X1 b2;refine EN 11 rfl fun K hK=>?_
     go_simp;refine hK _ _ ?_;clear hK K;(try simp only[PT])
     refine ED ?_;(try simp only[Exit.then])
     go_wp2;exact aLp rfl d0 (by simp[aF,aE]) U2.o (by omega) (by rw[HR.o];exact W1.o) rfl (by rw[HR.o];rfl)
  | true=>
   have hzl:z<0↔0<l:=by
    constructor
    ·intro h;rw[EL.o];have:=bX (n:=z.natAbs) (by omega);omega
    ·intro h;rcases dN hn with h1 | ⟨-,h1⟩ | ⟨h1,-⟩
     ·rw[EL.o,h1,show(0:Int).natAbs=0 from rfl,bF] at h;simp at h
     ·exact h1
     ·cases h1
   have HS:=zz (show decide (z<0)=(decide (0<l)) by exact aIu.2 hzl);clear hn hzl;go_enter Tryz.func55,Tryz.ntmps55
   go_upto_region 2 with (fail)
   rw[← hw0];clear hw0;have g2:=cz3 La;go_upto_region 4 with (fail)
   clear g2;refine aMe [se 0 15 [] (.pointer (some ⟨w.heap.size,0,none⟩)),se 1 16 [0] (.pointer (some ⟨w.heap.size,0,none⟩)),se 2 17 [1] (.bool true),se 3 18 [2] (.bool true),se 4 19 [3] (.pointer (some ⟨w.heap.size,0,none⟩)),se 5 20 [3,4] (.pointer (some ⟨w.heap.size,1,none⟩)),se 6 21 [3,5] (.slice A l c),se 7 22 [3,6] (.int .i64 (l:Int)),se 8 23 [3,7] (.bool (decide (0<l))),se 9 24 [3,8] (.bool (decide (0<l))),se 10 25 [] (.pointer (some ⟨w.heap.size,0,none⟩)),se 11 26 [10] (.pointer (some ⟨w.heap.size,1,none⟩)),se 12 27 [11] (.slice A l c),sf 13 28 [12] (fun fv fw=>RN fw fw.heap.size fv (dig z.natAbs)),sf 14 29 [13,9] (fun fv fw=>LV fw fw.heap.size fv z),sf 15 5 [] (fun fv fw=>∃ b,fv=.pointer (some ⟨b,0,none⟩)∧CB fw b 26 #[.bool false,.slice none 0 0])] [] [15] 1 (SB La S0) (MA (fun _ _ _ h hb=>h.step hb) (MA (fun _ _ _ h hb=>h.step hb) (MA (fun _ _ _ h hb=>let ⟨b,e,h⟩:=h;⟨b,e,h.step hb⟩) aFi))) ?_ ?_ ?_
   ·intro xs a_ hA;simp only[SX,↓reduceIte,Nat.reduceEqDiff,Nat.reduceAdd] at hA⊢;subst hA;and_intros
    all_goals intro wk b_ z_
    all_goals try exact pn
    ·intro f12;intros;refine wo fun K hK=>?_;go_simp;have k2:=st aHu Ha b_;(with_reducible refine(eY _ _ _ k2.o (by have:=HL.o;omega)).mono ?_)
     rintro e wc81 ⟨V2,v81,rfl,W2⟩;refine hK _ _ ⟨v81,by simp only[FL,f12],V2,W2,nF⟩
    ·intro f13 f9;intros;refine wo fun K hK=>?_;obtain⟨A13,c13,hx13,-⟩:=aKl f13;have r13:=f13;rw[hx13] at r13 ⊢;go_simp;refine hK _ _ ⟨.agg #[.bool (decide (0<l)),.slice A13 (dig (z).natAbs).length c13],by simp only[FL,f9,hx13],aDy _ _,⟨_,by rw[HS.o],r13⟩,nF⟩
    ·intros
     refine wo fun K hK=>?_;go_simp;refine hK _ _ ⟨.pointer (some ⟨wk.heap.size,0,none⟩),by kernel_rfl,(aDy _ _).alloc (aEa _) _,⟨_,rfl,aHl _ _ _⟩,fun _=>⟨_,rfl,aEa _,by simp⟩⟩
   ·exact fun _ _ _=>aFi
   ·intro xs H4 hbf _ hn hd;simp only[SY];have n15:=hn 15 (by decide);clear hn hd;have B83:=hbf;have z83:=B83.o.size;have X2:=tr B0 B83;clear hbf;generalize xs 13=x13,xs 14=x14,xs 15=x15 at *
    rintro f13 f14 f15;clear f13;obtain⟨n85,G3,l85,c85,rfl,x0⟩:=f14.opened;have l2:=zz x0;clear f14 x0;obtain⟨u3,rfl,o3⟩:=f15;have H3:=zz (show w0.heap.size≤u3 by obtain⟨b',e,h,-⟩:=n15;injection e with e;injection e with e;injection e with e _ _;omega);clear n15;have o4:=o3.lt;have p4:=H3.o;have m2:=cz2 o3;have o2:=fz2 o3;refine EN 16 rfl fun K hK=>?_;go_simp;refine hK _ _ ?_;clear hK K;(try simp only[PT])
    clear m2 o2;refine ED ?_;(try simp only[Exit.then])
    have q2:=aEd La B83.o;have r2:=aEd Lo B83.o;obtain⟨w92,i0⟩:=ex ((H4.setCell ⟨u3,0,none⟩ (.bool n85)).setCell ⟨u3,1,none⟩ (.slice G3 l85 c85));rw[← i0];have S92:=zz (JI i0 o3 (by simp[aF,aE]));have s2:=pI i0 q2 (by omega);have t2:=pI i0 r2 (by omega);have u2:=JJ i0 o3;have v2:=zz (JK i0 X2.o (by omega));have l3:=JH i0;clear i0;go_upto_region 5 with (fail)
    have m0:=zz (LV.soft l2.o (S92.o));have q3:=zz (show RN w92 w92.heap.size (.slice G3 l85 c85) (dig z.natAbs)∧n85=decide (z<0) from⟨(LV.is m0.o).2.2,(LV.is m0.o).1⟩);refine aFq [se 0 30 [] (.agg #[.bool n85,.slice G3 l85 c85]),se 1 31 [] (.pointer (some ⟨w.heap.size,2,none⟩)),se 2 32 [1] (.slice A' l' c'),sf 3 33 [2] (fun fv fw=>RN fw fw.heap.size fv (dig d)),sf 4 34 [3] (fun fv fw=>∃ A l c,fv=.agg #[.bool false,.slice A l c]∧RN fw fw.heap.size (.slice A l c) (dig d)),sf 5 35 [0,4] (fun fv fw=>QV fw fw.heap.size fv q),se 6 36 [] (.int .i64 6),sf 7 37 [5,6] (fun fv fw=>∃ u,fv=.tuple #[u,.int .i64 6]∧QO fw fw.heap.size u none),sf 8 38 [7] (fun fv fw=>QO fw fw.heap.size fv none),se 9 39 [7] (.int .i64 6)] 2 (SB u2 (SB s2 S0)) (MA (fun _ _ _ h hb=>h.step hb) (MA (fun _ _ _ h hb=>let ⟨A,l,c,e,h⟩:=h;⟨A,l,c,e,h.stepN hb⟩) (MA (fun _ _ _ h hb=>h.step hb) (MA (fun _ _ _ h hb=>let ⟨u,e,h⟩:=h;⟨u,e,aNi h hb⟩) (MA (fun v _ w2 h hb=>(show QO w2 w2.heap.size v none from aNi (o:=none) h hb)) aFi))))) ?_ ?_
    ·intro xs a_ hA;simp only[SX,↓reduceIte,Nat.reduceEqDiff,Nat.reduceAdd] at hA⊢;subst hA;and_intros
     all_goals intro wk b_ z_
     all_goals try exact pl
     ·intro f2;intros;refine wo fun K hK=>?_;go_simp;have x2:=zz (RN.soft Hd.o (((aJw B83.o).trans (S92.o)).trans (aJw b_.o)));(with_reducible refine(eY _ _ _ x2.o (by have:=HL'.o;omega)).mono ?_)
      rintro e wc95 ⟨Y2,v95,rfl,Z2⟩;refine hK _ _ ⟨v95,by simp only[FL,f2],Y2,Z2⟩
     ·intro f3;intros;refine wo fun K hK=>?_;obtain⟨A3,c3,hx3,-⟩:=aKl f3;have r3:=f3;rw[hx3] at r3 ⊢;go_simp;refine hK _ _ ⟨.agg #[.bool false,.slice A3 (dig d).length c3],by simp only[FL,hx3],aDy _ _,⟨_,_,_,rfl,r3⟩⟩
     ·intro f0 f4;intros;refine wo fun K hK=>?_;obtain⟨Bd,ud,cd,hu,rd⟩:=f4;rw[hu];have rn96:=aHy q3.o.1 b_.o;go_simp;refine hK _ _ ⟨.agg #[.bool n85,.slice G3 l85 c85,.bool false,.slice Bd ud cd],by simp only[FL,f0,hu],aDy _ _,⟨_,_,_,_,_,_,_,rfl,by rw[hnum];exact rn96,by rw[hden];exact rd,by rw[hnum];exact q3.o.2⟩⟩
     ·intro f5 f6;intros;refine wo fun K hK=>?_;obtain⟨qn,qA,ql,qc,qB,qm,qd,hu,ra,rb,rc⟩:=f5;rw[hu];have RC:=zz rc;clear rc;go_simp;(with_reducible refine(lA _ qn false qA qB ql qc qm qd 6 (by decide)).mono ?_)
      rintro e wc97 ⟨a3,rfl⟩;refine hK _ _ ⟨.tuple #[.agg #[.bool false,.slice none 0 0,.bool false,.slice none 0 0],.int .i64 6],by simp only[FL,f6,hu],a3,⟨_,rfl,kA _ _⟩⟩
     ·intro f7;intros;refine wo fun K hK=>?_;obtain⟨u,hu,hl⟩:=f7;rw[hu];go_simp;refine hK _ _ ⟨u,by simp only[FL,hu],aDy _ _,hl⟩
     ·intro f7;intros;refine wo fun K hK=>?_;obtain⟨u,hu,-⟩:=f7;rw[hu];go_simp;refine hK _ _ ⟨.int .i64 6,by simp only[FL,hu],aDy _ _,rfl⟩
    ·intro xs h4 B99 z99;simp only[SY];have y2:=tr v2 B99;generalize xs 3=x3,xs 4=x4,xs 5=x5,xs 7=x7,xs 8=x8;rintro f3 f4 f5 f7 f8;clear f3;clear f4;clear f5;clear f7;have g8:QR h4 h4.heap.size x8 false [] false []:=f8;clear f8;obtain⟨J4,K4,L4,M4,g3,N4,rfl,ha101,n0⟩:=g8;have y0:=zz (QR.mk (n:=false) (m:=false) ha101 n0);clear ha101 n0;have a0:=aEd t2 B99.o;have A0:=cz4 a0;have F0:=fz4 a0;refine EN 10 rfl fun K hK=>?_;go_simp;refine hK _ _ ?_;clear hK K;(try simp only[PT])
     clear A0 F0;refine EN 11 rfl fun K hK=>?_
     go_simp;refine hK _ _ ?_;clear hK K;(try simp only[PT])
     refine ED ?_;(try simp only[Exit.then])
     go_wp2;exact aLp rfl a0 (by simp[aF,aE]) y2.o (by omega) (by rw[HR.o];exact y0.o) rfl (by rw[HR.o];rfl)
end Go.Proofs.YtencnahjgbdeoaaGreatDoor
