/- Texts put together. -/
import Derived.Test.YtencnahjgbdeoaaGreatDoorQa
import Derived.Test.YtencnahjgbdeoaaGreatDoorSize
namespace Go.Proofs.YtencnahjgbdeoaaGreatDoor
open Go Go.RowKit Dig
set_option maxRecDepth 100000
set_option maxHeartbeats 4000000
set_option linter.unusedSimpArgs false
variable {n:Bool} {x y z:Int}
theorem aDj:dig 1=[1]:=ON (by omega) (by omega)
theorem RI.one (w:World) (x:Int):RI (w.alloc (.cells #[.int .i64 x] 3)) (w.alloc (.cells #[.int .i64 x] 3)).heap.size (.slice (some ⟨w.heap.size,0,none⟩) 1 1) [x]:=
 (show Own (w.alloc (.cells #[.int .i64 x] 3)) w.heap.size [x] from⟨[],aJu w _⟩).ri0 1 1 rfl (aEa _) (by omega)
theorem NU (w:World) :
  CV 100 #[] w fun e w'=>∃ v,e=.returned v∧RN w' w'.heap.size v (dig 1):=by
 have H:=zz (RI.one w 1);have HB:=zz (aB (aDy w.heap.size w) (.cells #[.int .i64 1] 3));go_enter Tryz.func100,Tryz.ntmps100
 go_wp2;go_ret;exact⟨HB.o,_,rfl,by rw[aDj];exact H.o⟩
theorem tN (w:World) (va vb:Value) (a b:Nat) (ha:RN w w.heap.size va (dig a)) (hb:RN w w.heap.size vb (dig b)) (a0:b≠0) (hl:(dig a).length≤300000000) :
  CV 110 #[va,vb] w fun e w'=>∃ v,e=.returned v∧RN w' w'.heap.size v (dig (a / b))∧NewC w.heap.size v:=by
 have HA:=zz ha;have HB:=zz hb;obtain⟨A,ca,rfl,-⟩:=ha.cell;obtain⟨B,cb,rfl,-⟩:=hb.cell;have H0:=zz a0;have HL:=zz hl;clear ha hb a0 hl;go_enter Tryz.func110,Tryz.ntmps110
 go_wp2_with fail
 refine(GE _ _ _ a b HA.o HB.o H0.o HL.o).mono ?_;rintro e w1 ⟨hb,v,v',rfl,hv,-,hnw⟩;have b0:=zz hb;have HV:=zz hv;have c0:=zz hnw;clear hb hnw;obtain⟨A2,c2,rfl,-⟩:=hv.cell;clear hv;go_wp2;go_ret;exact⟨b0.o,_,rfl,HV.o,c0.o⟩
theorem kG (w:World) (va vb:Value) (a b:Nat) (ha:RN w w.heap.size va (dig a)) (hb:RN w w.heap.size vb (dig b)) (hb0:b≠0) (hl:(dig a).length≤300000000) :
  CV 110 #[va,vb] w fun e w'=>∃ v,e=.returned v∧RN w' w'.heap.size v (dig (a / b)):=
 (tN w va vb a b ha hb hb0 hl).mono fun _ _ ⟨hb,v,he,hv,_⟩=>⟨hb,v,he,hv⟩
theorem gU (w:World) (n m:Bool) (A A':Option Addr) (l c l' c':Nat) :
  CV 54 #[.agg #[.bool n,.slice A l c,.bool m,.slice A' l' c']] w fun e _=>e=.returned (.agg #[.bool n,.slice A l c,.slice A' l' c']):=by
 have HB:=zz (aB (aB (aDy w.heap.size w) (.cells #[.bool n,.slice A l c,.bool m,.slice A' l' c'] 28)) (.cells #[.bool n,.slice A l c,.slice A' l' c'] 88));have HC:=zz (show CB ((w.alloc (.cells #[.bool n,.slice A l c,.bool m,.slice A' l' c'] 28)).alloc (.cells #[.bool n,.slice A l c,.slice A' l' c'] 88)) (w.heap.size+1) 88 #[.bool n,.slice A l c,.slice A' l' c'] by have h:=aHl (w.alloc (.cells #[.bool n,.slice A l c,.bool m,.slice A' l' c'] 28)) 88 #[.bool n,.slice A l c,.slice A' l' c'];simpa using h);go_enter Tryz.func54,Tryz.ntmps54
 go_wp2;exact aFv (TB.ret1 rfl _ HC.o rfl) rfl ⟨HB.o,rfl⟩
theorem UT (h:z≠0→n=decide (z<0)) (b:Nat) (h0:z*(b:Int)≠0):n=decide (z*(b:Int)<0):=by
 have hz:z≠0:=fun e=>h0 (by rw[e,Int.zero_mul])
 have hb:b≠0:=fun e=>h0 (by rw[e];simp)
 rw[h hz];have a0:(0:Int)<(b:Int):=by omega
 rcases aLd hz with h1 | h1
 ·rw[aEj h1,aEj (Int.mul_neg_of_neg_of_pos h1 a0)]
 ·have:=Int.mul_pos h1 a0;rw[aEe (by omega),aEe (by omega)]
theorem vW (w:World) (va vb:Value) (z:Int) (b:Nat) (ha:WV w w.heap.size va z) (hb:RN w w.heap.size vb (dig b)) (hl:(dig z.natAbs).length≤300000000) (hl':(dig b).length≤300000000) :
  CV 111 #[va,vb] w fun e w'=>∃ v,e=.returned v∧WV w' w'.heap.size v (z*b):=by
 obtain⟨n,A,l,c,rfl,Ha,hn⟩:=ha;obtain⟨B,cb,rfl,-⟩:=hb.cell;have HN:=zz hn;have HL:=zz hl;have HL':=zz hl';clear hn hl hl';obtain⟨w0,hw0⟩:=ex ((w.alloc (.cells #[.bool n,.slice A l c] 86)).alloc (.cells #[.bool false,.slice none 0 0] 86));have B0:=zz (pK hw0);have z0:=pJ hw0;have La:=pM hw0;have Lo:=pL hw0;replace Ha:=zz (aHy Ha B0.o);replace hb:=zz (aHy hb B0.o);go_enter Tryz.func111,Tryz.ntmps111
 go_upto_region 1 with (fail)
 rw[← hw0];clear hw0;refine aFq [se 0 5 [] (.pointer (some ⟨w.heap.size,0,none⟩)),se 1 6 [0] (.bool n),se 2 7 [] (.pointer (some ⟨w.heap.size,1,none⟩)),se 3 8 [2] (.slice A l c),se 4 9 [] (.slice B (dig b).length cb),sf 5 10 [3,4] (fun fv fw=>RN fw fw.heap.size fv (dig (z.natAbs*b))),sf 6 11 [5,1] (fun fv fw=>WV fw fw.heap.size fv (z*(b:Int)))] 1 (SB La S0) (MA (fun _ _ _ h hb=>h.step hb) (MA (fun _ _ _ h hb=>h.step hb) aFi)) ?_ ?_
 ·intro xs a_ hA;simp only[SX,↓reduceIte,Nat.reduceEqDiff,Nat.reduceAdd] at hA⊢;subst hA;and_intros
  all_goals intro wk b_ z_
  all_goals try exact pl
  ·intro f3 f4;intros;refine wo fun K hK=>?_;go_simp;have e0:=st aHu Ha b_;have f0:=st aHu hb b_;(with_reducible refine(TS _ _ _ z.natAbs b e0.o f0.o (by have:=HL.o;omega) (by have:=HL'.o;omega)).mono ?_)
   rintro e wc3 ⟨j0,v3,rfl,k0⟩;refine hK _ _ ⟨v3,by simp only[FL,f3,f4],j0,k0⟩
  ·intro f5 f1;intros;refine wo fun K hK=>?_;obtain⟨A5,c5,hx5,-⟩:=aKl f5;have r5:=f5;rw[hx5] at r5 ⊢;go_simp;refine hK _ _ ⟨.agg #[.bool n,.slice A5 (dig (z.natAbs*b)).length c5],by simp only[FL,f1,hx5],aDy _ _,WV.mk (by rw[aGi,aEr];exact r5) (UT HN.o b)⟩
 ·intro xs q0 B5 z5;simp only[SY];have l0:=tr B0 B5;generalize xs 5=x5,xs 6=x6;rintro f5 f6;clear f5;obtain⟨s0,t0,u0,v0,rfl,ha7,d0⟩:=f6;have g0:=zz (WV.mk ha7 d0);clear ha7 d0;have a0:=aEd Lo B5.o;have h0:=cz2 a0;have b0:=fz2 a0;refine EN 7 rfl fun K hK=>?_;go_simp;refine hK _ _ ?_;clear hK K;(try simp only[PT])
  clear h0 b0;refine ED ?_;(try simp only[Exit.then])
  go_wp2;exact WB.fin rfl a0 (by simp[aF,aE]) l0.o (by omega) g0.o rfl
theorem dN (h:z≠0→n=decide (z<0)):z=0∨(n=true∧z<0)∨(n=false∧0<z):=by
 by_cases h0:z=0
 ·exact .inl h0
 ·have h1:=h h0;by_cases h2:z<0
  ·rw[aEj h2] at h1;exact .inr (.inl ⟨h1,h2⟩)
  ·rw[aEe h2] at h1;exact .inr (.inr ⟨h1,by omega⟩)
theorem AR (h:z=0∨(n=true∧z<0)∨(n=false∧0<z)) (h0:z≠0):n=decide (z<0):=by
 rcases h with h | ⟨rfl,h⟩ | ⟨rfl,h⟩
 ·exact absurd h h0
 ·rw[aEj h]
 ·rw[aEe (by omega)]
theorem JV (hx:x≠0→n=decide (x<0)) (hy:y≠0→n=decide (y<0)):(x+y).natAbs=x.natAbs+y.natAbs∧(x+y≠0→n=decide (x+y<0)):=by
 rcases dN hx with h | ⟨h,h1⟩ | ⟨h,h1⟩ <;> rcases dN hy with k | ⟨k,k1⟩ | ⟨k,k1⟩ <;> (first | (rw[h] at k;cases k;done) | (refine⟨by omega,AR ?_⟩;(by_cases h0:x+y=0);exact .inl h0;first | (exfalso;omega) | (refine .inr (.inl ⟨by assumption,by omega⟩);done) | (refine .inr (.inr ⟨by assumption,by omega⟩);done)))
theorem JX {m:Bool} (hx:x≠0→n=decide (x<0)) (hy:y≠0→m=decide (y<0)) (hn:n≠m) (hlt:x.natAbs<y.natAbs):(x+y).natAbs=y.natAbs-x.natAbs∧(x+y≠0→m=decide (x+y<0)):=by
 rcases dN hx with h | ⟨h,h1⟩ | ⟨h,h1⟩ <;> rcases dN hy with k | ⟨k,k1⟩ | ⟨k,k1⟩ <;> (first | (exact absurd (h.trans k.symm) hn) | (exfalso;omega) | (refine⟨by omega,AR ?_⟩;(by_cases h0:x+y=0);exact .inl h0;first | (exfalso;omega) | (refine .inr (.inl ⟨by assumption,by omega⟩);done) | (refine .inr (.inr ⟨by assumption,by omega⟩);done)))
theorem JW {m:Bool} (hx:x≠0→n=decide (x<0)) (hy:y≠0→m=decide (y<0)) (hn:n≠m) (hlt:¬ x.natAbs<y.natAbs):(x+y).natAbs=x.natAbs-y.natAbs∧(x+y≠0→n=decide (x+y<0)):=by
 rcases dN hx with h | ⟨h,h1⟩ | ⟨h,h1⟩ <;> rcases dN hy with k | ⟨k,k1⟩ | ⟨k,k1⟩ <;> (first | (exact absurd (h.trans k.symm) hn) | (exfalso;omega) | (refine⟨by omega,AR ?_⟩;(by_cases h0:x+y=0);exact .inl h0;first | (exfalso;omega) | (refine .inr (.inl ⟨by assumption,by omega⟩);done) | (refine .inr (.inr ⟨by assumption,by omega⟩);done)))
theorem PN (w:World) (va vb:Value) (x y:Int) (ha:WV w w.heap.size va x) (hb:WV w w.heap.size vb y) (hl:(dig x.natAbs).length≤300000000) (hl':(dig y.natAbs).length≤300000000) :
  CV 112 #[va,vb] w fun e w'=>∃ v,e=.returned v∧WV w' w'.heap.size v (x+y):=by
 obtain⟨n,A,l,c,rfl,Ha,hx⟩:=ha;obtain⟨m,B,k,d,rfl,Hb,hy⟩:=hb;have HL:=zz hl;have HL':=zz hl';clear hl hl';obtain⟨w0,hw0⟩:=ex (((w.alloc (.cells #[.bool n,.slice A l c] 86)).alloc (.cells #[.bool m,.slice B k d] 86)).alloc (.cells #[.bool false,.slice none 0 0] 86));have B0:=zz (rS hw0);have z0:=rR hw0;have La:=rX hw0;have Lb:=rW hw0;have Lo:=rT hw0;replace Ha:=zz (aHy Ha B0.o);replace Hb:=zz (aHy Hb B0.o);by_cases hnm:n=m
 ·subst hnm;have HF:=zz (JV hx hy);clear hx hy;go_enter Tryz.func112,Tryz.ntmps112
  go_upto_region 1 with (fail)
  rw[← hw0];clear hw0;have M0:=cz2 La;have O0:=cz2 Lb;go_upto_region 2 with (fail)
  clear M0 O0;refine aFq [se 0 11 [] (.pointer (some ⟨w.heap.size,0,none⟩)),se 1 12 [0] (.bool n),se 2 13 [] (.pointer (some ⟨w.heap.size,1,none⟩)),se 3 14 [2] (.slice A l c),se 4 15 [] (.pointer (some ⟨w.heap.size+1,1,none⟩)),se 5 16 [4] (.slice B k d),sf 6 17 [3,5] (fun fv fw=>RN fw fw.heap.size fv (dig (x.natAbs+y.natAbs))),sf 7 18 [6,1] (fun fv fw=>WV fw fw.heap.size fv (x+y))] 1 (SB La (SB Lb S0)) (MA (fun _ _ _ h hb=>h.step hb) (MA (fun _ _ _ h hb=>h.step hb) aFi)) ?_ ?_
  ·intro xs a_ hA;simp only[SX,↓reduceIte,Nat.reduceEqDiff,Nat.reduceAdd] at hA⊢;subst hA;and_intros
   all_goals intro wk b_ z_
   all_goals try exact pl
   ·intro f3 f5;intros;refine wo fun K hK=>?_;go_simp;have Q0:=st aHu Ha b_;have R0:=st aHu Hb b_;(with_reducible refine(XS _ _ _ x.natAbs y.natAbs Q0.o R0.o (by have:=HL.o;omega) (by have:=HL'.o;omega)).mono ?_)
    rintro e wc5 ⟨a1,v5,rfl,b1⟩;refine hK _ _ ⟨v5,by simp only[FL,f3,f5],a1,b1⟩
   ·intro f6 f1;intros;refine wo fun K hK=>?_;obtain⟨A6,c6,hx6,-⟩:=aKl f6;have r6:=f6;rw[hx6] at r6 ⊢;go_simp;refine hK _ _ ⟨.agg #[.bool n,.slice A6 (dig (x.natAbs+y.natAbs)).length c6],by simp only[FL,f1,hx6],aDy _ _,WV.mk (by rw[HF.o.1];exact r6) HF.o.2⟩
  ·intro xs B1 B7 z7;simp only[SY];have c1:=tr B0 B7;generalize xs 6=x6,xs 7=x7;rintro f6 f7;clear f6;obtain⟨C1,D1,E1,F1,rfl,ha9,L0⟩:=f7;have T0:=zz (WV.mk ha9 L0);clear ha9 L0;have a0:=aEd Lo B7.o;have h0:=cz2 a0;have j0:=fz2 a0;refine EN 8 rfl fun K hK=>?_;go_simp;refine hK _ _ ?_;clear hK K;(try simp only[PT])
   clear h0 j0;refine ED ?_;(try simp only[Exit.then])
   go_wp2;exact WB.fin rfl a0 (by simp[aF,aE]) c1.o (by omega) T0.o rfl
 ·have hbq:(n==m)=false:=by simpa using hnm
  go_enter Tryz.func112,Tryz.ntmps112
  go_upto_region 1 with (fail)
  rw[← hw0];clear hw0;have l0:=cz2 La;have n0:=cz2 Lb;go_wp2_with fail
  refine(nx B0 (oF _ _ _ x.natAbs y.natAbs Ha.o Hb.o)).mono ?_;rintro e w15 ⟨⟨B16,z16,e0⟩,e,rfl,he⟩;clear l0 n0;clear hbq;by_cases hlt:x.natAbs<y.natAbs
  ·have he0:e<0:=by have:=he;unfold fU at this;omega
   have HF:=zz (JX hx hy hnm hlt);have j1:=zz hlt;clear hx hy he hlt hnm;go_upto_region 4 with (fail)
   clear he0;have p0:=aEd Lb B16.o;have q0:=aEd La B16.o;refine aFq [se 0 26 [] (.pointer (some ⟨w.heap.size+1,0,none⟩)),se 1 27 [0] (.bool m),se 2 28 [] (.pointer (some ⟨w.heap.size+1,1,none⟩)),se 3 29 [2] (.slice B k d),se 4 30 [] (.pointer (some ⟨w.heap.size,1,none⟩)),se 5 31 [4] (.slice A l c),sf 6 32 [3,5] (fun fv fw=>RN fw fw.heap.size fv (dig (y.natAbs-x.natAbs))),sf 7 33 [6,1] (fun fv fw=>WV fw fw.heap.size fv (x+y))] 1 (SB p0 (SB q0 S0)) (MA (fun _ _ _ h hb=>h.step hb) (MA (fun _ _ _ h hb=>h.step hb) aFi)) ?_ ?_
   ·intro xs a_ hA;simp only[SX,↓reduceIte,Nat.reduceEqDiff,Nat.reduceAdd] at hA⊢;subst hA;and_intros
    all_goals intro wk b_ z_
    all_goals try exact pl
    ·intro f3 f5;intros;refine wo fun K hK=>?_;go_simp;have P1:=tr B16 b_;have s0:=st aHu Hb P1;have t0:=st aHu Ha P1;(with_reducible refine(zZ _ _ _ y.natAbs x.natAbs s0.o t0.o (by have:=HL'.o;omega) (by have:=j1.o;omega)).mono ?_)
     rintro e wc23 ⟨U0,v23,rfl,V0⟩;refine hK _ _ ⟨v23,by simp only[FL,f3,f5],U0,V0⟩
    ·intro f6 f1;intros;refine wo fun K hK=>?_;obtain⟨A6,c6,hx6,-⟩:=aKl f6;have r6:=f6;rw[hx6] at r6 ⊢;go_simp;refine hK _ _ ⟨.agg #[.bool m,.slice A6 (dig (y.natAbs-x.natAbs)).length c6],by simp only[FL,f1,hx6],aDy _ _,WV.mk (by rw[HF.o.1];exact r6) HF.o.2⟩
   ·intro xs r1 B25 z25;simp only[SY];have W0:=tr e0 B25;generalize xs 6=x6,xs 7=x7;rintro f6 f7;clear f6;obtain⟨s1,t1,u1,v1,rfl,ha27,f0⟩:=f7;have u0:=zz (WV.mk ha27 f0);clear ha27 f0;have W1:=tr B16 B25;have b0:=aEd Lo W1.o;have v0:=cz2 b0;have y0:=fz2 b0;refine EN 8 rfl fun K hK=>?_;go_simp;refine hK _ _ ?_;clear hK K;(try simp only[PT])
    clear v0 y0;refine ED ?_;(try simp only[Exit.then])
    go_wp2;exact WB.fin rfl b0 (by simp[aF,aE]) W0.o (by omega) u0.o rfl
  ·have he0:¬ e<0:=by have:=he;unfold fU at this;omega
   have HF:=zz (JW hx hy hnm hlt);have j1:=zz hlt;clear hx hy he hlt hnm;go_upto_region 5 with (fail)
   clear he0;have C0:=aEd La B16.o;have D0:=aEd Lb B16.o;refine aFq [se 0 34 [] (.pointer (some ⟨w.heap.size,0,none⟩)),se 1 35 [0] (.bool n),se 2 36 [] (.pointer (some ⟨w.heap.size,1,none⟩)),se 3 37 [2] (.slice A l c),se 4 38 [] (.pointer (some ⟨w.heap.size+1,1,none⟩)),se 5 39 [4] (.slice B k d),sf 6 40 [3,5] (fun fv fw=>RN fw fw.heap.size fv (dig (x.natAbs-y.natAbs))),sf 7 41 [6,1] (fun fv fw=>WV fw fw.heap.size fv (x+y))] 1 (SB C0 (SB D0 S0)) (MA (fun _ _ _ h hb=>h.step hb) (MA (fun _ _ _ h hb=>h.step hb) aFi)) ?_ ?_
   ·intro xs a_ hA;simp only[SX,↓reduceIte,Nat.reduceEqDiff,Nat.reduceAdd] at hA⊢;subst hA;and_intros
    all_goals intro wk b_ z_
    all_goals try exact pl
    ·intro f3 f5;intros;refine wo fun K hK=>?_;go_simp;have Y1:=tr B16 b_;have E0:=st aHu Ha Y1;have F0:=st aHu Hb Y1;(with_reducible refine(zZ _ _ _ x.natAbs y.natAbs E0.o F0.o (by have:=HL.o;omega) (by have:=j1.o;omega)).mono ?_)
     rintro e wc37 ⟨X0,v37,rfl,Y0⟩;refine hK _ _ ⟨v37,by simp only[FL,f3,f5],X0,Y0⟩
    ·intro f6 f1;intros;refine wo fun K hK=>?_;obtain⟨A6,c6,hx6,-⟩:=aKl f6;have r6:=f6;rw[hx6] at r6 ⊢;go_simp;refine hK _ _ ⟨.agg #[.bool n,.slice A6 (dig (x.natAbs-y.natAbs)).length c6],by simp only[FL,f1,hx6],aDy _ _,WV.mk (by rw[HF.o.1];exact r6) HF.o.2⟩
   ·intro xs w1 B39 z39;simp only[SY];have Z0:=tr e0 B39;generalize xs 6=x6,xs 7=x7;rintro f6 f7;clear f6;obtain⟨x1,y1,z1,A1,rfl,ha41,g0⟩:=f7;have G0:=zz (WV.mk ha41 g0);clear ha41 g0;have X1:=tr B16 B39;have c0:=aEd Lo X1.o;have H0:=cz2 c0;have J0:=fz2 c0;refine EN 8 rfl fun K hK=>?_;go_simp;refine hK _ _ ?_;clear hK K;(try simp only[PT])
    clear H0 J0;refine ED ?_;(try simp only[Exit.then])
    go_wp2;exact WB.fin rfl c0 (by simp[aF,aE]) Z0.o (by omega) G0.o rfl
theorem OO {z:Nat}:(dig z).length=0↔z=0:=by
 constructor
 ·intro h;refine Nat.eq_zero_of_not_pos fun hp=>?_
  have:=bX (n:=z) (by omega)
  omega
 ·rintro rfl;rw[bF];rfl
theorem oH (w:World) (v:Value) (z:Int) (h:WV w w.heap.size v z) :
  CV 121 #[v] w fun e _=>e=.returned (.int .i64 z.sign):=by
 obtain⟨n,A,l,c,rfl,h1,hn⟩:=h;have hl:=RN.len h1;have HB:=zz (aB (aDy w.heap.size w) (.cells #[.bool n,.slice A l c] 86));by_cases hz:z=0
 ·have hl0:l=0:=by rw[hl,hz,show(0:Int).natAbs=0 from rfl,bF];rfl
  subst hl0;subst hz;clear h1 hl hn;go_enter Tryz.func121,Tryz.ntmps121
  go_wp2;go_ret;exact⟨HB.o,rfl⟩
 ·have hl0:((l:Int)==0)=false:=by rw[aEo,hl];have:=bX (n:=z.natAbs) (by omega);omega
  have hn1:=hn hz;clear h1 hl hn;by_cases hlt:z<0
  ·rw[aEj hlt] at hn1;subst hn1;have HS:=zz (show z.sign=-1 from aJc hlt);clear hz hlt;go_enter Tryz.func121,Tryz.ntmps121
   go_wp2;go_ret;exact⟨HB.o,by rw[HS.o];rfl⟩
  ·rw[aEe hlt] at hn1;subst hn1;have HS:=zz (show z.sign=1 from aKa (by omega));clear hz hlt;go_enter Tryz.func121,Tryz.ntmps121
   go_wp2;go_ret;exact⟨HB.o,by rw[HS.o];rfl⟩
theorem zD (w:World) (b:Nat) (va vg:Value) (a g:Nat) (ho:One w b 84 vg) (ha:RN w w.heap.size va (dig a)) (hg:RN w w.heap.size vg (dig g)) (hg0:g≠0) (hl:(dig a).length≤300000000) :
  CV 137 #[va,.pointer (some ⟨b,0,none⟩)] w fun e w'=>∃ v,e=.returned v∧RN w' w'.heap.size v (dig (a / g)):=by
 have HA:=zz ha;have HG:=zz hg;have H0:=zz hg0;have HL:=zz hl;obtain⟨A,ca,rfl,-⟩:=ha.cell;obtain⟨B,cb,rfl,-⟩:=hg.cell;have q0:=ho.cell;clear ha hg hg0 hl ho;go_enter Tryz.func137,Tryz.ntmps137
 go_wp2_with fail
 refine(kG _ _ _ a g HA.o HG.o H0.o HL.o).mono ?_;rintro e w1 ⟨hb,v,rfl,hv⟩;have a0:=zz hb;have HV:=zz hv;clear hb;obtain⟨A2,c2,rfl,-⟩:=hv.cell;clear hv;go_wp2;go_ret;exact⟨a0.o,_,rfl,HV.o⟩
theorem YC {g:Nat} (h:z≠0→n=decide (z<0)) (hg:(g:Int)∣z) (h0:g≠0):(z / (g:Int)).natAbs=z.natAbs / g∧(z / (g:Int)≠0→n=decide (z / (g:Int)<0)):=by
 refine⟨cP hg,fun hz=>?_⟩;obtain⟨k,rfl⟩:=hg;rw[Int.mul_ediv_cancel_left _ (by omega)] at hz ⊢;rw[h (Int.mul_ne_zero (by omega) hz)];rcases aLd hz with h1 | h1
 ·rw[aEj h1,aEj (Int.mul_neg_of_pos_of_neg (by omega) h1)]
 ·have:=Int.mul_pos (show(0:Int)<(g:Int) by omega) h1;rw[aEe (by omega),aEe (by omega)]
theorem oL (w:World) (n m:Bool) (A A':Option Addr) (l c l' c':Nat) :
  CV 102 #[.agg #[.bool n,.slice A l c,.bool m,.slice A' l' c'],.int .i64 0] w fun e _=>e=.returned (.tuple #[.agg #[.bool n,.slice A l c,.bool m,.slice A' l' c'],.int .i64 0]):=by
 have HB:=zz (aB (aB (aDy w.heap.size w) (.cells #[.bool n,.slice A l c,.bool m,.slice A' l' c'] 28)) (.cells #[.bool n,.slice A l c,.bool m,.slice A' l' c'] 28));have HC:=zz (show CB ((w.alloc (.cells #[.bool n,.slice A l c,.bool m,.slice A' l' c'] 28)).alloc (.cells #[.bool n,.slice A l c,.bool m,.slice A' l' c'] 28)) (w.heap.size+1) 28 #[.bool n,.slice A l c,.bool m,.slice A' l' c'] by have h:=aHl (w.alloc (.cells #[.bool n,.slice A l c,.bool m,.slice A' l' c'] 28)) 28 #[.bool n,.slice A l c,.bool m,.slice A' l' c'];simpa using h);go_enter Tryz.func102,Tryz.ntmps102
 go_wp2;exact aFv (QB.ret rfl _ HC.o rfl) rfl ⟨HB.o,rfl⟩
theorem lA (w:World) (n m:Bool) (A A':Option Addr) (l c l' c':Nat) (e:Int) (he:e≠0) :
  CV 102 #[.agg #[.bool n,.slice A l c,.bool m,.slice A' l' c'],.int .i64 e] w fun r _=>r=.returned (.tuple #[.agg #[.bool false,.slice none 0 0,.bool false,.slice none 0 0],.int .i64 e]):=by
 have HB:=zz (aB (aB (aB (aDy w.heap.size w) (.cells #[.bool n,.slice A l c,.bool m,.slice A' l' c'] 28)) (.cells #[.bool false,.slice none 0 0,.bool false,.slice none 0 0] 28)) (.cells #[.bool false,.slice none 0 0,.bool false,.slice none 0 0] 28));have HC:=zz (show CB (((w.alloc (.cells #[.bool n,.slice A l c,.bool m,.slice A' l' c'] 28)).alloc (.cells #[.bool false,.slice none 0 0,.bool false,.slice none 0 0] 28)).alloc (.cells #[.bool false,.slice none 0 0,.bool false,.slice none 0 0] 28)) (w.heap.size+1) 28 #[.bool false,.slice none 0 0,.bool false,.slice none 0 0] by have h:=(aHl (w.alloc (.cells #[.bool n,.slice A l c,.bool m,.slice A' l' c'] 28)) 28 #[.bool false,.slice none 0 0,.bool false,.slice none 0 0]).alloc (.cells #[.bool false,.slice none 0 0,.bool false,.slice none 0 0] 28);simpa using h);have he0:(e==0)=false:=by rw[aEo];exact he
 clear he;go_enter Tryz.func102,Tryz.ntmps102
 go_wp2;exact aFv (QB.ret rfl _ HC.o rfl) rfl ⟨HB.o,rfl⟩
theorem nJ (w:World) (v:Value) (z:Int) (d:Nat) (h:TV w w.heap.size v z d) (hd:d≠0) (hl:(dig z.natAbs).length≤300000000) (hl':(dig d).length≤300000000) :
  CV 114 #[v] w fun e w'=>∃ v,e=.returned v∧TV w' w'.heap.size v (z / (Nat.gcd z.natAbs d:Int)) (d / Nat.gcd z.natAbs d):=by
 obtain⟨n,A,l,c,A',l',c',rfl,Ha,Hd,hn⟩:=h;obtain⟨g,hg⟩:=ex (Nat.gcd z.natAbs d);rw[← hg];have hg0:g≠0:=by rw[hg];exact Nat.gcd_ne_zero_right hd
 have HF:=zz (show(z / (g:Int)).natAbs=z.natAbs / g∧(z / (g:Int)≠0→n=decide (z / (g:Int)<0)) from YC hn (by rw[hg];exact Int.ofNat_dvd_left.2 (aLx _ _)) hg0);have HG:=zz hg;have L0:=zz hg0;have HL:=zz hl;have HL':=zz hl';clear hn hd hl hl' hg hg0;obtain⟨w0,hw0⟩:=ex ((w.alloc (.cells #[.bool n,.slice A l c,.slice A' l' c'] 88)).alloc (.cells #[.bool false,.slice none 0 0,.slice none 0 0] 88));have B0:=zz (pK hw0);have z0:=pJ hw0;have La:=pM hw0;have Lo:=pL hw0;replace Ha:=zz (aHy Ha B0.o);replace Hd:=zz (aHy Hd B0.o);go_enter Tryz.func114,Tryz.ntmps114
 go_upto_region 1 with (fail)
 rw[← hw0];clear hw0;have t0:=cz3 La;go_wp2_with fail
 refine(nx B0 (jY _ _ _ z.natAbs d Ha.o Hd.o (by have:=HL.o;omega) (by have:=HL'.o;omega))).mono ?_;rintro e w1 ⟨⟨B3,z3,F0⟩,vg,rfl,hg⟩;clear t0;rw[← HG.o] at hg;obtain⟨G,cg,rfl,-⟩:=hg.cell;have Hg:=zz hg;clear hg;go_upto_region 2 with (fail)
 obtain⟨w5,b0⟩:=ex (w1.alloc (.cells #[.slice G (dig g).length cg] 84));rw[← b0];have c0:=cL b0;have za5:=cJ b0;have B6:=zz (cK b0);have z6:=B6.o.size;have G0:=tr F0 B6;clear b0;go_upto_region 3 with (fail)
 have Y0:=tr B3 B6;have x0:=aEd La Y0.o;refine aFq [se 0 12 [] (.pointer (some ⟨w.heap.size,0,none⟩)),se 1 13 [0] (.pointer (some ⟨w.heap.size,0,none⟩)),se 2 14 [1] (.bool n),se 3 15 [] (.func (.func 137) #[] #[.pointer (some ⟨w1.heap.size,0,none⟩)]),se 4 16 [] (.pointer (some ⟨w.heap.size,0,none⟩)),se 5 17 [4] (.pointer (some ⟨w.heap.size,1,none⟩)),se 6 18 [5] (.slice A l c),sf 7 19 [3,6] (fun fv fw=>RN fw fw.heap.size fv (dig (z.natAbs / g))),sf 8 20 [7,2] (fun fv fw=>WV fw fw.heap.size fv (z / (g:Int))),se 9 21 [] (.func (.func 137) #[] #[.pointer (some ⟨w1.heap.size,0,none⟩)]),se 10 22 [] (.pointer (some ⟨w.heap.size,2,none⟩)),se 11 23 [10] (.slice A' l' c'),sf 12 24 [9,11] (fun fv fw=>RN fw fw.heap.size fv (dig (d / g))),sf 13 25 [8,12] (fun fv fw=>TV fw fw.heap.size fv (z / (g:Int)) (d / g))] 1 (SB x0 S0) (MA (fun _ _ _ h hb=>h.step hb) (MA (fun _ _ _ h hb=>h.step hb) (MA (fun _ _ _ h hb=>h.step hb) (MA (fun _ _ _ h hb=>h.step hb) aFi)))) ?_ ?_
 ·intro xs a_ hA;simp only[SX,↓reduceIte,Nat.reduceEqDiff,Nat.reduceAdd] at hA⊢;subst hA;and_intros
  all_goals intro wk b_ z_
  all_goals try exact pl
  ·intro f3 f6;intros;refine wo fun K hK=>?_;go_simp;have e0:=aNf c0 b_.o;have X0:=tr Y0 b_;have f0:=st aHu Ha X0;have Z0:=tr B6 b_;have g0:=st aHu Hg Z0;(with_reducible refine(zD _ _ _ _ z.natAbs g e0 f0.o g0.o L0.o (by have:=HL.o;omega)).mono ?_)
   rintro e wc15 ⟨y0,v15,rfl,A0⟩;refine hK _ _ ⟨v15,by simp only[FL,f3,f6],y0,A0⟩
  ·intro f7 f2;intros;refine wo fun K hK=>?_;obtain⟨A7,c7,hx7,-⟩:=aKl f7;have r7:=f7;rw[hx7] at r7 ⊢;go_simp;refine hK _ _ ⟨.agg #[.bool n,.slice A7 (dig (z.natAbs / g)).length c7],by simp only[FL,f2,hx7],aDy _ _,WV.mk (by rw[HF.o.1];exact r7) HF.o.2⟩
  ·intro f9 f11;intros;refine wo fun K hK=>?_;go_simp;have h0:=aNf c0 b_.o;have M0:=tr Y0 b_;have i0:=st aHu Hd M0;have N0:=tr B6 b_;have j0:=st aHu Hg N0;(with_reducible refine(zD _ _ _ _ d g h0 i0.o j0.o L0.o (by have:=HL'.o;omega)).mono ?_)
   rintro e wc21 ⟨C0,v21,rfl,D0⟩;refine hK _ _ ⟨v21,by simp only[FL,f9,f11],C0,D0⟩
  ·intro f8 f12;intros;refine wo fun K hK=>?_;obtain⟨nw8,Aw8,lw8,cw8,hw8,gw8,sw8⟩:=f8;obtain⟨A12,c12,hx12,-⟩:=aKl f12;have r12:=f12;rw[hx12] at r12 ⊢;rw[hw8];go_simp;refine hK _ _ ⟨.agg #[.bool nw8,.slice Aw8 lw8 cw8,.slice A12 (dig (d / g)).length c12],by simp only[FL,hx12,hw8],aDy _ _,aMd gw8 r12 sw8⟩
 ·intro xs P0 B23 z23;simp only[SY];have E0:=tr G0 B23;generalize xs 7=x7,xs 8=x8,xs 12=x12,xs 13=x13;rintro f7 f8 f12 f13;clear f7;clear f8;clear f12;obtain⟨Q0,R0,T0,U0,V0,H0,W0,rfl,ha25,d0,hc25⟩:=f13;have k0:=zz (aMd ha25 d0 hc25);clear ha25 d0 hc25;have P1:=tr Y0 B23;have a0:=aEd Lo P1.o;have l0:=cz3 a0;have o0:=fz3 a0;refine EN 14 rfl fun K hK=>?_;go_simp;refine hK _ _ ?_;clear hK K;(try simp only[PT])
  clear l0 o0;refine ED ?_;(try simp only[Exit.then])
  go_wp2;exact TB.fin rfl a0 (by simp[aF,aE]) E0.o (by omega) k0.o rfl
end Go.Proofs.YtencnahjgbdeoaaGreatDoor
