/- Texts put together. -/
import Derived.Test.YtencnahjgbdeoaaGreatDoorQab
namespace Go.Proofs.YtencnahjgbdeoaaGreatDoor
open Go Go.RowKit Dig
set_option maxRecDepth 100000
set_option maxHeartbeats 4000000
set_option linter.unusedSimpArgs false
variable {A A':Option Addr} {B a a' b b' c c' d l l':Nat} {n:Bool} {q r:Rat} {w:World} {z:Int}
theorem iP {P:Program} {fn:Func} {R R':Ending→World→Prop} {a:Act} (h:bodyPost P fn R .ret a w) (hq:∀ e w,R e w→R' e w):bodyPost P fn R' .ret a w:=by
 obtain⟨hd,v,hr,hR⟩:=h;exact⟨hd,v,hr,hq _ _ hR⟩
def RV (w:World) (B:Nat) (v:Value) (q:Rat):Prop:=TV w B v q.num q.den
def TVn (Z:Nat) (w:World) (B:Nat) (v:Value) (z:Int) (d:Nat):Prop:=TV w B v z d∧∀ c0 c1 c2,v=.agg #[c0,c1,c2]→NewC Z c1∧NewC Z c2
def RVn (Z:Nat) (w:World) (B:Nat) (v:Value) (q:Rat):Prop:=RV w B v q∧∀ c0 c1 c2,v=.agg #[c0,c1,c2]→NewC Z c1∧NewC Z c2
theorem YH {Z:Nat} {c0 c1 c2:Value} (h:NewC Z c1∧NewC Z c2):∀ d0 d1 d2,Value.agg #[c0,c1,c2]=.agg #[d0,d1,d2]→NewC Z d1∧NewC Z d2:=fun d0 d1 d2 e=>by
 injection e with e;simp at e;rw[← e.2.1,← e.2.2];exact h
theorem RV.step {w':World} {v:Value} (h:RV w w.heap.size v q) (hb:Below w.heap.size w w'):RV w' w'.heap.size v q:=TV.step h hb
abbrev aHm:=@RV.step
theorem BQ (w:World) (va vb:Value) (q r:Rat) (ha:RV w w.heap.size va q) (hb:RV w w.heap.size vb r) (l1:(dig q.num.natAbs).length≤60000000) (l2:(dig q.den).length≤60000000) (l3:(dig r.num.natAbs).length≤60000000) (l4:(dig r.den).length≤60000000) :
  CV 64 #[va,vb] w fun e w'=>∃ v,e=.returned v∧RVn w.heap.size w' w'.heap.size v (q+r):=by
 obtain⟨n,A,l,c,A',l',c',rfl,Ha,Hd,hn⟩:=ha;obtain⟨m,B,k,e,B',k',e',rfl,Hb,He,hm⟩:=hb;obtain⟨g,hg⟩:=ex (Nat.gcd q.den r.den);obtain⟨x,hx⟩:=ex (q.den / g);obtain⟨y,hy⟩:=ex (r.den / g);obtain⟨N,hN⟩:=ex (α:=Int) (q.num*y+r.num*x);obtain⟨h,hh⟩:=ex (Nat.gcd N.natAbs g);have hS:=YU q r hg hx hy hN hh;have g0:g≠0:=by rw[hg];exact fun e=>q.den_nz (aLz.1 e).1
 have h0:h≠0:=by rw[hh];exact fun e=>g0 (aLz.1 e).2
 have lg:(dig g).length≤60000000:=by rw[hg];exact IZ _ _ l2 l4
 have lx:(dig x).length≤60000000:=by rw[hx];exact aEg (aL (aIo _ _)) l2
 have ly:(dig y).length≤60000000:=by rw[hy];exact aEg (aL (aIo _ _)) l4
 have p1:(dig (q.num*y).natAbs).length≤120000000:=by rw[aGi,aEr];have:=dB q.num.natAbs y;omega
 have p2:(dig (r.num*x).natAbs).length≤120000000:=by rw[aGi,aEr];have:=dB r.num.natAbs x;omega
 have lN:(dig N.natAbs).length≤120000001:=by rw[hN];exact aEg (aL (Int.natAbs_add_le _ _)) (kN _ _ p1 p2)
 have lr:(dig (r.den / h)).length≤60000000:=aEg (aL (aIo _ _)) l4;have m2:=zz hS;have HL:=zz (aEn l1 (aEn l2 (aEn l3 (aEn l4 (aEn lg (aEn lx (aEn ly (aEn p1 (aEn p2 (aEn lN lr))))))))));have HG:=zz hg;have HX:=zz hx;have HY:=zz hy;have HN:=zz hN;have HH:=zz hh;have n2:=zz g0;have U1:=zz h0;clear hS l1 l2 l3 l4 lg lx ly p1 p2 lN lr hg hx hy hN hh g0 h0;obtain⟨w0,hw0⟩:=ex (((w.alloc (.cells #[.bool n,.slice A l c,.slice A' l' c'] 88)).alloc (.cells #[.bool m,.slice B k e,.slice B' k' e'] 88)).alloc (.cells #[.bool false,.slice none 0 0,.slice none 0 0] 88));have B0:=zz (rS hw0);have z0:=rR hw0;have La:=rX hw0;have Lb:=rW hw0;have Lo:=rT hw0;have V1:=zz (WV.mk Ha hn);have W1:=zz (WV.mk Hb hm);clear hn hm;replace V1:=st WV.step V1 B0;replace W1:=st WV.step W1 B0;clear Ha Hb;replace Hd:=zz (aHy Hd B0.o);replace He:=zz (aHy He B0.o);go_enter Tryz.func64,Tryz.ntmps64
 go_upto_region 1 with (fail)
 rw[← hw0];clear hw0;have k1:=cz3 La;have o1:=cz3 Lb;go_wp2_with fail
 refine(nx B0 (jY _ _ _ q.den r.den Hd.o He.o (by have:=HL.o;omega) (by have:=HL.o;omega))).mono ?_;rintro e w1 ⟨⟨B4,z4,L1⟩,vg,rfl,hg⟩;clear k1 o1;rw[← HG.o] at hg;obtain⟨G,cg,rfl,-⟩:=hg.cell;have Hg:=zz hg;clear hg;go_upto_region 2 with (fail)
 have k0:=aEd La B4.o;have l0:=aEd Lb B4.o;refine aFq [se 0 15 [] (.pointer (some ⟨w.heap.size,2,none⟩)),se 1 16 [0] (.slice A' l' c'),se 2 17 [] (.slice G (dig g).length cg),sf 3 18 [1,2] (fun fv fw=>RN fw fw.heap.size fv (dig x)),se 4 19 [] (.pointer (some ⟨w.heap.size+1,2,none⟩)),se 5 20 [4] (.slice B' k' e'),se 6 21 [] (.slice G (dig g).length cg),sf 7 22 [5,6] (fun fv fw=>RN fw fw.heap.size fv (dig y))] 2 (SB k0 (SB l0 S0)) (MA (fun _ _ _ h hb=>h.step hb) (MA (fun _ _ _ h hb=>h.step hb) aFi)) ?_ ?_
 ·intro xs a_ hA;simp only[SX,↓reduceIte,Nat.reduceEqDiff,Nat.reduceAdd] at hA⊢;subst hA;and_intros
  all_goals intro wk b_ z_
  all_goals try exact pl
  ·intro f1 f2;intros;refine wo fun K hK=>?_;go_simp;have P2:=tr B4 b_;have y0:=st aHu Hd P2;have A0:=st aHu Hg b_;(with_reducible refine((show Calls Tryz.prog _ _ _ _ from HX.o▸kG _ _ _ q.den g y0.o A0.o n2.o (by have:=HL.o;omega))).mono ?_)
   rintro e wc11 ⟨s1,v11,rfl,t1⟩;refine hK _ _ ⟨v11,by simp only[FL,f1,f2],s1,t1⟩
  ·intro f5 f6;intros;refine wo fun K hK=>?_;go_simp;have W2:=tr B4 b_;have m0:=st aHu He W2;have C0:=st aHu Hg b_;(with_reducible refine((show Calls Tryz.prog _ _ _ _ from HY.o▸kG _ _ _ r.den g m0.o C0.o n2.o (by have:=HL.o;omega))).mono ?_)
   rintro e wc15 ⟨u1,v15,rfl,v1⟩;refine hK _ _ ⟨v15,by simp only[FL,f5,f6],u1,v1⟩
 ·intro xs r2 B17 z17;simp only[SY];have x1:=tr L1 B17;generalize xs 3=x3,xs 7=x7;rintro f3 f7;obtain⟨A19,c19,rfl,-⟩:=aKl f3;have e0:=zz f3;clear f3;obtain⟨A20,c20,rfl,-⟩:=aKl f7;have D0:=zz f7;clear f7;refine EN 8 rfl fun K hK=>?_
  go_simp;refine hK _ _ ?_;clear hK K;(try simp only[PT])
  refine EN 9 rfl fun K hK=>?_
  go_simp;refine hK _ _ ?_;clear hK K;(try simp only[PT])
  refine ED ?_;(try simp only[Exit.then])
  go_upto_region 3 with (fail)
  have f0:=aEd k0 B17.o;have i0:=aEd l0 B17.o;refine aMe [se 0 23 [] (.pointer (some ⟨w.heap.size,0,none⟩)),se 1 24 [0] (.agg #[.bool n,.slice A l c]),se 2 25 [] (.slice A20 ((dig y)).length c20),sf 3 26 [1,2] (fun fv fw=>WV fw fw.heap.size fv (q.num*(y:Int))),se 4 27 [] (.pointer (some ⟨w.heap.size+1,0,none⟩)),se 5 28 [4] (.agg #[.bool m,.slice B k e]),se 6 29 [] (.slice A19 ((dig x)).length c19),sf 7 30 [5,6] (fun fv fw=>WV fw fw.heap.size fv (r.num*(x:Int))),sf 8 31 [3,7] (fun fv fw=>WV fw fw.heap.size fv N),sf 9 8 [] (fun fv fw=>∃ b,fv=.pointer (some ⟨b,0,none⟩)∧CB fw b 86 #[.bool false,.slice none 0 0])] [] [9] 1 (SB f0 (SB i0 S0)) (MA (fun _ _ _ h hb=>h.step hb) (MA (fun _ _ _ h hb=>h.step hb) (MA (fun _ _ _ h hb=>h.step hb) (MA (fun _ _ _ h hb=>let ⟨b,e,h⟩:=h;⟨b,e,h.step hb⟩) aFi)))) ?_ ?_ ?_
  ·intro xs a_ hA;simp only[SX,↓reduceIte,Nat.reduceEqDiff,Nat.reduceAdd] at hA⊢;subst hA;and_intros
   all_goals intro wk b_ z_
   all_goals try exact pn
   ·intro f1 f2;intros;refine wo fun K hK=>?_;go_simp;have Y2:=tr B4 B17;have X2:=tr Y2 b_;have n0:=st WV.step V1 X2;have E0:=st aHu D0 b_;(with_reducible refine(vW _ _ _ q.num y n0.o E0.o (by have:=HL.o;omega) (by have:=HL.o;omega)).mono ?_)
    rintro e wc27 ⟨y1,v27,rfl,z1⟩;refine hK _ _ ⟨v27,by simp only[FL,f1,f2],y1,z1,nF⟩
   ·intro f5 f6;intros;refine wo fun K hK=>?_;go_simp;have Z2:=tr B4 B17;have M2:=tr Z2 b_;have o0:=st WV.step W1 M2;have F0:=st aHu e0 b_;(with_reducible refine(vW _ _ _ r.num x o0.o F0.o (by have:=HL.o;omega) (by have:=HL.o;omega)).mono ?_)
    rintro e wc32 ⟨A1,v32,rfl,B1⟩;refine hK _ _ ⟨v32,by simp only[FL,f5,f6],A1,B1,nF⟩
   ·intro f3 f7;intros;refine wo fun K hK=>?_;go_simp;(with_reducible refine(PN _ _ _ (q.num*(y:Int)) (r.num*(x:Int)) f3 f7 (by have:=HL.o;omega) (by have:=HL.o;omega)).mono ?_)
    rintro e wc33 ⟨C1,v33,rfl,D1⟩;refine hK _ _ ⟨v33,by kernel_rfl,C1,(by rw[HN.o];exact D1),nF⟩
   ·intros
    refine wo fun K hK=>?_;go_simp;refine hK _ _ ⟨.pointer (some ⟨wk.heap.size,0,none⟩),by kernel_rfl,(aDy _ _).alloc (aEa _) _,⟨_,rfl,aHl _ _ _⟩,fun _=>⟨_,rfl,aEa _,by simp⟩⟩
  ·exact fun _ _ _=>aFi
  ·intro xs s2 hbf _ hn hd;simp only[SY];have n9:=hn 9 (by decide);clear hn hd;have B35:=hbf;have z35:=B35.o.size;have E1:=tr x1 B35;clear hbf;generalize xs 3=x3,xs 7=x7,xs 8=x8,xs 9=x9 at *
   rintro f3 f7 f8 f9;clear f3;clear f7;obtain⟨T1,X1,Y1,Z1,rfl,ha37,p0⟩:=f8;have G0:=zz (WV.mk ha37 p0);clear ha37 p0;obtain⟨Q1,rfl,P1⟩:=f9;have S1:=zz (show r2.heap.size≤Q1 by obtain⟨b',e,h,-⟩:=n9;injection e with e;injection e with e;injection e with e _ _;omega);clear n9;have j2:=P1.lt;have k2:=S1.o;have H0:=cz2 P1;have J0:=fz2 P1;refine EN 10 rfl fun K hK=>?_;go_simp;refine hK _ _ ?_;clear hK K;(try simp only[PT])
   clear H0 J0;refine ED ?_;(try simp only[Exit.then])
   have L0:=aEd f0 B35.o;have M0:=aEd i0 B35.o;have N2:=tr B4 B17;have Q2:=tr N2 B35;have N0:=aEd Lo Q2.o;obtain⟨w47,b0⟩:=ex ((s2.setCell ⟨Q1,0,none⟩ (.bool T1)).setCell ⟨Q1,1,none⟩ (.slice X1 Y1 Z1));rw[← b0];have S47:=zz (JI b0 P1 (by simp[aF,aE]));have M1:=pI b0 L0 (by omega);have O0:=pI b0 M0 (by omega);have P0:=pI b0 N0 (by omega);have d0:=JJ b0 P1;have Q0:=zz (JK b0 E1.o (by omega));have O1:=JH b0;clear b0;have j0:=zz (WV.soft G0.o (S47.o));have o2:=zz (WV.is j0.o).1;have u2:=zz (WV.is j0.o).2;have q2:=zz (YC u2.o (by rw[HH.o];exact Int.ofNat_dvd_left.2 (aLx _ _)) U1.o);have R0:=cz2 d0;go_wp2_with fail
   have U0:=zz (RN.soft Hg.o (((aJw B17.o).trans (aJw B35.o)).trans (S47.o)));refine(nx Q0 (jY _ _ _ N.natAbs g o2.o U0.o (by have:=HL.o;omega) (by have:=HL.o;omega))).mono ?_;rintro e w49 ⟨⟨B52,z52,F1⟩,vh,rfl,hh⟩;clear R0;rw[← HH.o] at hh;obtain⟨Hp,ch,rfl,-⟩:=hh.cell;have Hh:=zz hh;clear hh;go_upto_region 5 with (fail)
   have V0:=aEd d0 B52.o;have W0:=aEd O0 B52.o;refine aFq [se 0 36 [] (.pointer (some ⟨Q1,0,none⟩)),se 1 37 [0] (.bool T1),se 2 38 [] (.pointer (some ⟨Q1,1,none⟩)),se 3 39 [2] (.slice X1 Y1 Z1),se 4 40 [] (.slice Hp (dig h).length ch),sf 5 41 [3,4] (fun fv fw=>RN fw fw.heap.size fv (dig (N.natAbs / h))∧NewC w.heap.size fv),sf 6 42 [5,1] (fun fv fw=>WV fw fw.heap.size fv (N / (h:Int))∧∀ c0 c1,fv=.agg #[c0,c1]→NewC w.heap.size c1),se 7 43 [] (.slice A19 ((dig x)).length c19),se 8 44 [] (.pointer (some ⟨w.heap.size+1,2,none⟩)),se 9 45 [8] (.slice B' k' e'),se 10 46 [] (.slice Hp (dig h).length ch),sf 11 47 [9,10] (fun fv fw=>RN fw fw.heap.size fv (dig (r.den / h))),sf 12 48 [7,11] (fun fv fw=>RN fw fw.heap.size fv (dig (x*(r.den / h)))∧NewC w.heap.size fv),sf 13 49 [6,12] (fun fv fw=>TVn w.heap.size fw fw.heap.size fv (N / (h:Int)) (x*(r.den / h)))] 1 (SB V0 (SB W0 S0)) (MA (fun _ _ _ h hb=>⟨h.1.step hb,h.2⟩) (MA (fun _ _ _ h hb=>⟨h.1.step hb,h.2⟩) (MA (fun _ _ _ h hb=>h.step hb) (MA (fun _ _ _ h hb=>⟨h.1.step hb,h.2⟩) (MA (fun _ _ _ h hb=>⟨h.1.step hb,h.2⟩) aFi))))) ?_ ?_
   ·intro xs a_ hA;simp only[SX,↓reduceIte,Nat.reduceEqDiff,Nat.reduceAdd] at hA⊢;subst hA;and_intros
    all_goals intro wk b_ z_
    all_goals try exact pl
    ·intro f3 f4;intros;refine wo fun K hK=>?_;go_simp;have P3:=tr B52 b_;have s0:=st aHu o2 P3;have X0:=st aHu Hh b_;(with_reducible refine(tN _ _ _ N.natAbs h s0.o X0.o U1.o (by have:=HL.o;omega)).mono ?_)
     rintro e wc59 ⟨G1,v59,rfl,t0⟩;refine hK _ _ ⟨v59,by simp only[FL,f3,f4],G1,⟨t0.1,t0.2.weak (by omega)⟩⟩
    ·intro f5 f1;intros;refine wo fun K hK=>?_;obtain⟨A5,c5,hx5,-⟩:=aKl f5.1;have r5:=f5.1;have m5:=f5.2;rw[hx5] at r5 m5 ⊢;go_simp;refine hK _ _ ⟨.agg #[.bool T1,.slice A5 (dig (N.natAbs / h)).length c5],by simp only[FL,f1,hx5],aDy _ _,⟨WV.mk (by rw[q2.o.1];exact r5) q2.o.2,fun c0 c1 e=>by injection e with e;simp at e;rw[← e.2];exact m5⟩⟩
    ·intro f9 f10;intros;refine wo fun K hK=>?_;go_simp;have u0:=zz (RN.soft He.o ((((((aJw B4.o).trans (aJw B17.o)).trans (aJw B35.o)).trans (S47.o)).trans (aJw B52.o)).trans (aJw b_.o)));have Y0:=st aHu Hh b_;(with_reducible refine(kG _ _ _ r.den h u0.o Y0.o U1.o (by have:=HL.o;omega)).mono ?_)
     rintro e wc62 ⟨H1,v62,rfl,I1⟩;refine hK _ _ ⟨v62,by simp only[FL,f9,f10],H1,I1⟩
    ·intro f7 f11;intros;refine wo fun K hK=>?_;go_simp;have Z0:=zz (RN.soft e0.o ((((aJw B35.o).trans (S47.o)).trans (aJw B52.o)).trans (aJw b_.o)));(with_reducible refine(oQ _ _ _ x (r.den / h) Z0.o f11 (by have:=HL.o;omega) (by have:=HL.o;omega)).mono ?_)
     rintro e wc64 ⟨J1,v64,rfl,v0⟩;refine hK _ _ ⟨v64,by simp only[FL,f7],J1,⟨v0.1,v0.2.weak (by omega)⟩⟩
    ·intro f6 f12;intros;refine wo fun K hK=>?_;obtain⟨⟨nw6,Aw6,lw6,cw6,hw6,gw6,sw6⟩,mw6⟩:=f6;have m6:=mw6 _ _ hw6;obtain⟨A12,c12,hx12,-⟩:=aKl f12.1;have r12:=f12.1;have m12:=f12.2;rw[hx12] at r12 m12 ⊢;rw[hw6];go_simp;refine hK _ _ ⟨.agg #[.bool nw6,.slice Aw6 lw6 cw6,.slice A12 (dig (x*(r.den / h))).length c12],by simp only[FL,hx12,hw6],aDy _ _,⟨aMd gw6 r12 sw6,fun c0 c1 c2 e=>by injection e with e;simp at e;rw[← e.2.1,← e.2.2];exact⟨m6,m12⟩⟩⟩
   ·intro xs z2 B66 z66;simp only[SY];have K1:=tr F1 B66;generalize xs 5=x5,xs 6=x6,xs 11=x11,xs 12=x12,xs 13=x13;rintro f5 f6 f11 f12 f13;clear f5;clear f6;clear f11;clear f12;obtain⟨⟨A2,B2,C2,D2,E2,N1,F2,rfl,ha68,x0,hc68⟩,hn68⟩:=f13;have a1:=zz (aMd ha68 x0 hc68);have HNr:=zz (hn68 _ _ _ rfl);clear ha68 x0 hc68 hn68;have W3:=tr B52 B66;have a0:=aEd P0 W3.o;have b1:=cz3 a0;have g1:=fz3 a0;refine EN 14 rfl fun K hK=>?_;go_simp;refine hK _ _ ?_;clear hK K;(try simp only[PT])
    clear b1 g1;refine ED ?_;(try simp only[Exit.then])
    go_wp2;have HF:=zz (show ∀ w B v,TV w B v (N / (h:Int)) (x*(r.den / h))→RV w B v (q+r) from fun w B v t=>by unfold RV;rw[m2.o.1,m2.o.2];exact t);exact iP (TB.fine rfl a0 (by simp[aF,aE]) K1.o (by omega) a1.o rfl) (fun e w' ⟨hb,he,hv⟩=>⟨hb,_,he,HF.o _ _ _ hv,YH HNr.o⟩)
theorem ZV (w:World) (va vb:Value) (q r:Rat) (ha:RV w w.heap.size va q) (hb:RV w w.heap.size vb r) (l1:(dig q.num.natAbs).length≤60000000) (l2:(dig q.den).length≤60000000) (l3:(dig r.num.natAbs).length≤60000000) (l4:(dig r.den).length≤60000000) :
  CV 64 #[va,vb] w fun e w'=>∃ v,e=.returned v∧RV w' w'.heap.size v (q+r):=
 (BQ w va vb q r ha hb l1 l2 l3 l4).mono fun _ _ ⟨hb,v,he,hv⟩=>⟨hb,v,he,hv.1⟩
theorem ZF (h:z≠0→n=decide (z<0)) (h0:-z≠0):(!n)=decide (-z<0):=by
 rcases dN h with h | ⟨rfl,h⟩ | ⟨rfl,h⟩
 ·omega
 ·rw[aEe (by omega)];rfl
 ·rw[aEj (by omega)];rfl
theorem TV.neg (h:TV w B (.agg #[.bool n,.slice A l c,.slice A' l' c']) z d):TV w B (.agg #[.bool (!n),.slice A l c,.slice A' l' c']) (-z) d:=
 aMd (by rw[aKu];exact h.is.1) h.is.2.1 (ZF h.is.2.2)
theorem RV.neg (h:RV w B (.agg #[.bool n,.slice A l c,.slice A' l' c']) q):RV w B (.agg #[.bool (!n),.slice A l c,.slice A' l' c']) (-q):=by
 unfold RV;rw[Rat.neg_num,Rat.neg_den];exact TV.neg h
theorem RV.soft {w':World} {v:Value} (h:RV w w.heap.size v q) (hs:Soft w w'):RV w' w'.heap.size v q:=TV.soft h hs
theorem TV.fst (h:TV w B (.agg #[.bool n,.slice A l c,.slice A' l' c']) z d):WV w B (.agg #[.bool n,.slice A l c]) z:=WV.mk h.is.1 h.is.2.2
theorem OT {x y:Int} {m:Bool} (h:x≠0→n=decide (x<0)) (k:y≠0→m=decide (y<0)) (h0:x*y≠0):(!(n==m))=decide (x*y<0):=by
 have hx:x≠0:=fun e=>h0 (by rw[e,Int.zero_mul])
 have hy:y≠0:=fun e=>h0 (by rw[e,Int.mul_zero])
 rw[h hx,k hy];rcases aLd hx with h1 | h1 <;> rcases aLd hy with h2 | h2
 ·have:=Int.mul_pos_of_neg_of_neg h1 h2;rw[aEj h1,aEj h2,aEe (by omega)];rfl
 ·have:=Int.mul_neg_of_neg_of_pos h1 h2;rw[aEj h1,aEe (by omega),aEj (by omega)];rfl
 ·have:=Int.mul_neg_of_pos_of_neg h1 h2;rw[aEe (by omega),aEj h2,aEj (by omega)];rfl
 ·have:=Int.mul_pos h1 h2;rw[aEe (by omega),aEe (by omega),aEe (by omega)];rfl
def QL (a b:Nat) (q:Rat):Prop:=(dig q.num.natAbs).length≤a∧(dig q.den).length≤b
theorem QL.mono (h:QL a b q) (h1:a≤a') (h2:b≤b'):QL a' b' q:=⟨aEg h.1 h1,aEg h.2 h2⟩
theorem QL.neg (h:QL a b q):QL a b (-q):=by unfold QL;rw[Rat.neg_num,Rat.neg_den,aKu];exact h
theorem QL.mk' {n:Int} (hn:(dig n.natAbs).length≤a) (hd:(dig d).length≤b) (h0:d≠0):QL a b (mkRat n d):=by
 obtain⟨h1,h2⟩:=kI (n:=n) h0;refine⟨?_,?_⟩
 ·rw[h1,cP (dA _ _)];exact aEg (aL (aIo _ _)) hn
 ·rw[h2];exact aEg (aL (aIo _ _)) hd
theorem QL.add (h:QL a b q) (k:QL a' b' r):QL (a+b'+a'+b+1) (b+b') (q+r):=by
 rw[Rat.add_def'];refine QL.mk' ?_ (aEg (dB _ _) (Nat.add_le_add h.2 k.2)) (Nat.mul_ne_zero q.den_nz r.den_nz);have h1:(dig (q.num*r.den).natAbs).length≤a+b'+a'+b:=by rw[aGi,aEr];have:=dB q.num.natAbs r.den;have:=h.1;have:=k.2;omega
 have h2:(dig (r.num*q.den).natAbs).length≤a+b'+a'+b:=by rw[aGi,aEr];have:=dB r.num.natAbs q.den;have:=k.1;have:=h.2;omega
 exact aEg (aL (Int.natAbs_add_le _ _)) (kN _ _ h1 h2)
theorem QL.sub (h:QL a b q) (k:QL a' b' r):QL (a+b'+a'+b+1) (b+b') (q-r):=by
 rw[aHe];exact h.add k.neg
theorem QL.mul (h:QL a b q) (k:QL a' b' r):QL (a+a') (b+b') (q*r):=by
 rw[Rat.mul_def'];refine QL.mk' ?_ (aEg (dB _ _) (Nat.add_le_add h.2 k.2)) (Nat.mul_ne_zero q.den_nz r.den_nz);rw[aGi];exact aEg (dB _ _) (Nat.add_le_add h.1 k.1)
theorem GH (w:World) (va vb:Value) (q r:Rat) (ha:RV w w.heap.size va q) (hb:RV w w.heap.size vb r) (l1:QL 60000000 60000000 q) (l2:QL 60000000 60000000 r) :
  CV 53 #[va,vb] w fun e w'=>∃ v,e=.returned v∧RVn w.heap.size w' w'.heap.size v (q-r):=by
 have HS:=zz (aHe q r);obtain⟨n,A,l,c,A',l',c',rfl,Ha,Hd,hn⟩:=ha;obtain⟨m,B,k,e,B',k',e',rfl,Hb,He,hm⟩:=hb;have HL:=zz (aEn l1.1 (aEn l1.2 (aEn l2.neg.1 l2.neg.2)));clear l1 l2;have HA:=zz (show RV w w.heap.size _ q from aMd Ha Hd hn);have HB:=zz (RV.neg (show RV w w.heap.size _ r from aMd Hb He hm));clear Ha Hd hn Hb He hm;obtain⟨w0,hw0⟩:=ex (((w.alloc (.cells #[.bool n,.slice A l c,.slice A' l' c'] 88)).alloc (.cells #[.bool m,.slice B k e,.slice B' k' e'] 88)).alloc (.cells #[.bool false,.slice none 0 0,.slice none 0 0] 88));have B0:=zz (rS hw0);have z0:=rR hw0;have Lr:=rX hw0;have Ls:=rW hw0;have Lr4:=rT hw0;replace HA:=st aHm HA B0;replace HB:=st aHm HB B0;go_enter Tryz.func53,Tryz.ntmps53
 go_upto_region 1 with (fail)
 rw[← hw0];clear hw0;have i0:=cz3 Ls;have l0:=fz3 Ls;go_upto_region 2 with (fail)
 clear i0 l0;obtain⟨w3,b0⟩:=ex (w0.setCell ⟨w.heap.size+1,0,none⟩ (.bool (!m)));rw[← b0];have S3:=zz (show Soft w0 w3 by rw[b0];exact aHk (Ls) (by simp[aF,aE]) 0 (.bool (!m)));have c0:=iQ b0 Lr (by omega);have f0:=iQ b0 Lr4 (by omega);have d0:CB w3 (w.heap.size+1) 88 #[.bool (!m),.slice B k e,.slice B' k' e']:=by rw[b0];exact(show CB _ (w.heap.size+1) 88 #[.bool (!m),.slice B k e,.slice B' k' e'] from aGj (Ls) 0 (.bool (!m)))
 have o0:=zz (qM b0 B0.o (by omega));have I0:=xQ b0;clear b0;have p0:=cz3 c0;have s0:=cz3 d0;go_wp2_with fail
 have v0:=zz (RV.soft HA.o (S3.o));have x0:=zz (RV.soft HB.o (S3.o));refine(nx o0 (BQ _ _ _ q (-r) v0.o x0.o HL.o.1 HL.o.2.1 HL.o.2.2.1 HL.o.2.2.2)).mono ?_;rintro e w4 ⟨⟨B9,z9,y0⟩,v,rfl,hv⟩;clear p0 s0;rw[← HS.o] at hv;have hnw:=hv.2;replace hv:=hv.1;obtain⟨U0,V0,W0,X0,Y0,A0,Z0,rfl,ha11,e0,hc11⟩:=hv;have g0:=zz (aMd ha11 e0 hc11);clear ha11 e0 hc11;have hnw2:=hnw _ _ _ rfl;have Q0:=zz (aEn (hnw2.1.weak (show w.heap.size≤_ by omega)) (hnw2.2.weak (show w.heap.size≤_ by omega)));clear hnw hnw2;have a0:=aEd f0 B9.o;have C0:=cz3 a0;have F0:=fz3 a0;go_wp2;exact iP (TB.fine rfl a0 (by simp[aF,aE]) y0.o (by omega) g0.o rfl) (fun e w' ⟨hb,he,hv⟩=>⟨hb,_,he,hv,YH Q0.o⟩)
theorem vV (w:World) (va vb:Value) (q r:Rat) (ha:RV w w.heap.size va q) (hb:RV w w.heap.size vb r) (l1:QL 60000000 60000000 q) (l2:QL 60000000 60000000 r) :
  CV 53 #[va,vb] w fun e w'=>∃ v,e=.returned v∧RV w' w'.heap.size v (q-r):=
 (GH w va vb q r ha hb l1 l2).mono fun _ _ ⟨hb,v,he,hv⟩=>⟨hb,v,he,hv.1⟩
theorem KD (w:World) (v:Value) (q:Rat) (h:RV w w.heap.size v q) (h0:q≠0) :
  CV 140 #[v] w fun e w'=>∃ v,e=.returned v∧RV w' w'.heap.size v q⁻¹:=by
 obtain⟨n,A,l,c,A',l',c',rfl,Ha,Hd,hn⟩:=h;have hz:q.num≠0:=fun e=>h0 (aMf.1 e)
 have HT:=zz (show RV w w.heap.size (.agg #[.bool n,.slice A' l' c',.slice A l c]) q⁻¹ by
  unfold RV;rw[Rat.num_inv,Rat.den_inv,aEu hz];refine aMd ?_ Ha (fun _=>?_)
  ·rw[aGi,aJd hz,aIn,aEr];exact Hd
  ·have hd:=aFy q.den_nz;rw[hn hz];rcases aLd hz with h1 | h1
   ·rw[aJc h1,aEj h1,aEj (by omega)]
   ·rw[aKa h1,aEe (by omega),aEe (by omega)]);clear Ha Hd hn hz h0
 obtain⟨w0,hw0⟩:=ex ((w.alloc (.cells #[.bool n,.slice A l c,.slice A' l' c'] 88)).alloc (.cells #[.bool false,.slice none 0 0,.slice none 0 0] 88));have B0:=zz (pK hw0);have z0:=pJ hw0;have Lr:=pM hw0;have Lr2:=pL hw0;replace HT:=st aHm HT B0;go_enter Tryz.func140,Tryz.ntmps140
 go_upto_region 1 with (fail)
 rw[← hw0];clear hw0;have a0:=cz3 Lr;have d0:=cz3 Lr2;have g0:=fz3 Lr2;go_wp2;exact TB.fin rfl Lr2 (by simp[aF,aE]) B0.o (by omega) HT.o rfl
theorem FY (w:World) (va vb:Value) (q r:Rat) (ha:RV w w.heap.size va q) (hb:RV w w.heap.size vb r) (l1:QL 60000000 60000000 q) (l2:QL 60000000 60000000 r) :
  CV 65 #[va,vb] w fun e w'=>∃ v,e=.returned v∧RVn w.heap.size w' w'.heap.size v (q*r):=by
 obtain⟨n,A,l,c,A',l',c',rfl,Ha,Hd,hn⟩:=ha;obtain⟨m,B,k,e,B',k',e',rfl,Hb,He,hm⟩:=hb;obtain⟨g1,h1⟩:∃ g,g=Nat.gcd q.num.natAbs r.den:=⟨_,rfl⟩;obtain⟨g2,h2⟩:∃ g,g=Nat.gcd r.num.natAbs q.den:=⟨_,rfl⟩;have hP:=VO q r h1 h2;obtain⟨x,hx⟩:=ex (q.num / (g1:Int));obtain⟨y,hy⟩:=ex (r.num / (g2:Int));obtain⟨s,hs⟩:=ex (r.den / g1);obtain⟨t,ht⟩:=ex (q.den / g2);rw[← hx,← hy,← hs,← ht] at hP;have q1:(dig x.natAbs).length≤60000000:=by rw[hx,h1,cP (dA _ _)];exact aEg (aL (aIo _ _)) l1.1
 have q2:(dig y.natAbs).length≤60000000:=by rw[hy,h2,cP (dA _ _)];exact aEg (aL (aIo _ _)) l2.1
 have q3:(dig s).length≤60000000:=by rw[hs];exact aEg (aL (aIo _ _)) l2.2
 have q4:(dig t).length≤60000000:=by rw[ht];exact aEg (aL (aIo _ _)) l1.2
 have hz1:x≠0→q.num≠0:=fun h e=>h (by rw[hx,e];simp)
 have hz2:y≠0→r.num≠0:=fun h e=>h (by rw[hy,e];simp)
 have hS:x*y≠0→(!(n==m))=decide (x*y<0):=OT (fun h=>by rw[hx] at h ⊢;exact(YC hn (h1▸dA _ _) (by rw[h1];exact fun e=>r.den_nz (aLz.1 e).2)).2 h) (fun h=>by rw[hy] at h ⊢;exact(YC hm (h2▸dA _ _) (by rw[h2];exact fun e=>q.den_nz (aLz.1 e).2)).2 h);have HL:=zz (aEn l1.1 (aEn l1.2 (aEn l2.1 (aEn l2.2 (aEn q1 (aEn q2 (aEn q3 q4)))))));have HX:=zz hx;have HY:=zz hy;have HS:=zz hs;have HT:=zz ht;have H1:=zz h1;have H2:=zz h2;have HP:=zz hP;have L1:=zz hS;clear hz1 hz2 hS hP q1 q2 q3 q4 l1 l2 hx hy hs ht h1 h2;have HA:=zz (aMd Ha He hn);have HB:=zz (aMd Hb Hd hm);clear Ha Hd hn Hb He hm;obtain⟨w0,hw0⟩:=ex (((w.alloc (.cells #[.bool n,.slice A l c,.slice A' l' c'] 88)).alloc (.cells #[.bool m,.slice B k e,.slice B' k' e'] 88)).alloc (.cells #[.bool false,.slice none 0 0,.slice none 0 0] 88));have B0:=zz (rS hw0);have z0:=rR hw0;have Lr:=rX hw0;have Ls:=rW hw0;have Lr4:=rT hw0;replace HA:=st TV.step HA B0;replace HB:=st TV.step HB B0;go_enter Tryz.func65,Tryz.ntmps65
 go_upto_region 1 with (fail)
 rw[← hw0];clear hw0;have T0:=cz3 Lr;have W0:=cz3 Ls;go_wp2_with fail
 refine(nx B0 (nJ _ _ q.num r.den HA.o r.den_nz (by have:=HL.o;omega) (by have:=HL.o;omega))).mono ?_;rintro e w1 ⟨⟨B4,z4,j1⟩,v,rfl,hv⟩;clear T0 W0;rw[← H1.o,← HX.o,← HS.o] at hv;obtain⟨M1,B1,C1,D1,E1,l0,F1,rfl,ha6,R0,hc6⟩:=hv;have Z0:=zz (aMd ha6 R0 hc6);clear ha6 R0 hc6;go_upto_region 2 with (fail)
 obtain⟨w7,f0⟩:=ex (w1.alloc (.cells #[.bool M1,.slice B1 C1 D1,.slice E1 l0 F1] 88));rw[← f0];have a1:=cL f0;have za7:=cJ f0;have B8:=zz (cK f0);have z8:=B8.o.size;have k1:=tr j1 B8;clear f0;have P2:=tr B4 B8;have b0:=aEd Lr P2.o;have x0:=cz3 b0;have d0:=aEd Ls P2.o;have C0:=cz3 d0;go_wp2_with fail
 have F0:=st TV.step HB P2;refine(nx k1 (nJ _ _ r.num q.den F0.o q.den_nz (by have:=HL.o;omega) (by have:=HL.o;omega))).mono ?_;rintro e w10 ⟨⟨B17,z17,b1⟩,v,rfl,hv⟩;clear x0 C0;rw[← H2.o,← HY.o,← HT.o] at hv;obtain⟨J1,r1,s1,t1,u1,g0,v1,rfl,ha19,n0,hc19⟩:=hv;have G0:=zz (aMd ha19 n0 hc19);clear ha19 n0 hc19;go_upto_region 3 with (fail)
 obtain⟨w20,e0⟩:=ex (w10.alloc (.cells #[.bool J1,.slice r1 s1 t1,.slice u1 g0 v1] 88));rw[← e0];have h0:=cL e0;have za20:=cJ e0;have B21:=zz (cK e0);have z21:=B21.o.size;have d1:=tr b1 B21;clear e0;have W2:=tr B8 B17;have Y2:=tr W2 B21;have i0:=st TV.step Z0 Y2;have j0:=st TV.step G0 B21;have N1:=zz (TV.is i0.o).1;have O1:=zz (TV.is i0.o).2.1;have P1:=zz (TV.is j0.o).1;have Q1:=zz (TV.is j0.o).2.1;have X2:=tr B17 B21;have H0:=aEd b0 X2.o;have I0:=aEd d0 X2.o;have k0:=aEd a1 X2.o
 refine aFq [se 0 19 [] (.pointer (some ⟨w.heap.size,0,none⟩)),se 1 20 [0] (.pointer (some ⟨w.heap.size,0,none⟩)),se 2 21 [1] (.bool n),se 3 22 [] (.pointer (some ⟨w.heap.size+1,0,none⟩)),se 4 23 [3] (.pointer (some ⟨w.heap.size+1,0,none⟩)),se 5 24 [4] (.bool m),se 6 25 [2,5] (.bool (!(n==m))),se 7 26 [] (.pointer (some ⟨w1.heap.size,0,none⟩)),se 8 27 [7] (.pointer (some ⟨w1.heap.size,1,none⟩)),se 9 28 [8] (.slice B1 C1 D1),se 10 29 [] (.pointer (some ⟨w10.heap.size,0,none⟩)),se 11 30 [10] (.pointer (some ⟨w10.heap.size,1,none⟩)),se 12 31 [11] (.slice r1 s1 t1),sf 13 32 [9,12] (fun fv fw=>RN fw fw.heap.size fv (dig (x.natAbs*y.natAbs))∧NewC w.heap.size fv),sf 14 33 [13,6] (fun fv fw=>WV fw fw.heap.size fv (x*y)∧∀ c0 c1,fv=.agg #[c0,c1]→NewC w.heap.size c1),se 15 34 [] (.pointer (some ⟨w1.heap.size,2,none⟩)),se 16 35 [15] (.slice E1 l0 F1),se 17 36 [] (.pointer (some ⟨w10.heap.size,2,none⟩)),se 18 37 [17] (.slice u1 g0 v1),sf 19 38 [16,18] (fun fv fw=>RN fw fw.heap.size fv (dig (s*t))∧NewC w.heap.size fv),sf 20 39 [14,19] (fun fv fw=>TVn w.heap.size fw fw.heap.size fv (x*y) (s*t))] 1 (SB H0 (SB I0 (SC (fun _ h=>(aEd k0 h).cell 1 rfl) (SC (fun _ h=>(aEd h0 h).cell 1 rfl) (SC (fun _ h=>(aEd k0 h).cell 2 rfl) (SC (fun _ h=>(aEd h0 h).cell 2 rfl) S0)))))) (MA (fun _ _ _ h hb=>⟨h.1.step hb,h.2⟩) (MA (fun _ _ _ h hb=>⟨h.1.step hb,h.2⟩) (MA (fun _ _ _ h hb=>⟨h.1.step hb,h.2⟩) (MA (fun _ _ _ h hb=>⟨h.1.step hb,h.2⟩) aFi)))) ?_ ?_
 ·intro xs a_ hA;simp only[SX,↓reduceIte,Nat.reduceEqDiff,Nat.reduceAdd] at hA⊢;subst hA;and_intros
  all_goals intro wk b_ z_
  all_goals try exact pl
  ·intro f9 f12;intros;refine wo fun K hK=>?_;go_simp;have o0:=st aHu N1 b_;have p0:=st aHu P1 b_;(with_reducible refine(oQ _ _ _ x.natAbs y.natAbs o0.o p0.o (by have:=HL.o;omega) (by have:=HL.o;omega)).mono ?_)
   rintro e wc33 ⟨e1,v33,rfl,q0⟩;refine hK _ _ ⟨v33,by simp only[FL,f9,f12] <;> kernel_rfl,e1,⟨q0.1,q0.2.weak (by omega)⟩⟩
  ·intro f13 f6;intros;refine wo fun K hK=>?_;obtain⟨A13,c13,hx13,-⟩:=aKl f13.1;have r13:=f13.1;have m13:=f13.2;rw[hx13] at r13 m13 ⊢;go_simp;refine hK _ _ ⟨.agg #[.bool (!(n==m)),.slice A13 (dig (x.natAbs*y.natAbs)).length c13],by simp only[FL,f6,hx13] <;> kernel_rfl,aDy _ _,⟨WV.mk (by rw[aGi];exact r13) L1.o,fun c0 c1 e=>by injection e with e;simp at e;rw[← e.2];exact m13⟩⟩
  ·intro f16 f18;intros;refine wo fun K hK=>?_;go_simp;have s0:=st aHu O1 b_;have t0:=st aHu Q1 b_;(with_reducible refine(oQ _ _ _ s t s0.o t0.o (by have:=HL.o;omega) (by have:=HL.o;omega)).mono ?_)
   rintro e wc36 ⟨f1,v36,rfl,u0⟩;refine hK _ _ ⟨v36,by simp only[FL,f16,f18] <;> kernel_rfl,f1,⟨u0.1,u0.2.weak (by omega)⟩⟩
  ·intro f14 f19;intros;refine wo fun K hK=>?_;obtain⟨⟨nw14,Aw14,lw14,cw14,hw14,gw14,sw14⟩,mw14⟩:=f14;have m14:=mw14 _ _ hw14;obtain⟨A19,c19,hx19,-⟩:=aKl f19.1;have r19:=f19.1;have m19:=f19.2;rw[hx19] at r19 m19 ⊢;rw[hw14];go_simp;refine hK _ _ ⟨.agg #[.bool nw14,.slice Aw14 lw14 cw14,.slice A19 (dig (s*t)).length c19],by simp only[FL,hx19,hw14] <;> kernel_rfl,aDy _ _,⟨aMd gw14 r19 sw14,fun c0 c1 c2 e=>by injection e with e;simp at e;rw[← e.2.1,← e.2.2];exact⟨m14,m19⟩⟩⟩
 ·intro xs V1 B38 z38;simp only[SY];have i1:=tr d1 B38;generalize xs 13=x13,xs 14=x14,xs 19=x19,xs 20=x20;rintro f13 f14 f19 f20;clear f13;clear f14;clear f19;obtain⟨⟨W1,X1,Y1,Z1,a2,m1,b2,rfl,ha40,v0,hc40⟩,hn40⟩:=f20;have J0:=zz (aMd ha40 v0 hc40);have HNr:=zz (hn40 _ _ _ rfl);clear ha40 v0 hc40 hn40;have Z2:=tr P2 B17;have M2:=tr Z2 B21;have N2:=tr M2 B38;have a0:=aEd Lr4 N2.o;have K0:=cz3 a0;have N0:=fz3 a0;refine EN 21 rfl fun K hK=>?_;go_simp;refine hK _ _ ?_;clear hK K;(try simp only[PT])
  clear K0 N0;refine ED ?_;(try simp only[Exit.then])
  go_wp2;have HF:=zz (show ∀ w B v,TV w B v (x*y) (s*t)→RV w B v (q*r) from fun w B v t=>by unfold RV;rw[HP.o.1,HP.o.2];exact t);exact iP (TB.fine rfl a0 (by simp[aF,aE]) i1.o (by omega) J0.o rfl) (fun e w' ⟨hb,he,hv⟩=>⟨hb,_,he,HF.o _ _ _ hv,YH HNr.o⟩)
theorem rM (w:World) (va vb:Value) (q r:Rat) (ha:RV w w.heap.size va q) (hb:RV w w.heap.size vb r) (l1:QL 60000000 60000000 q) (l2:QL 60000000 60000000 r) :
  CV 65 #[va,vb] w fun e w'=>∃ v,e=.returned v∧RV w' w'.heap.size v (q*r):=
 (FY w va vb q r ha hb l1 l2).mono fun _ _ ⟨hb,v,he,hv⟩=>⟨hb,v,he,hv.1⟩
theorem ZX (w:World) (va vb:Value) (q r:Rat) (ha:RV w w.heap.size va q) (hb:RV w w.heap.size vb r) (h0:r≠0) (l1:QL 60000000 60000000 q) (l2:QL 60000000 60000000 r) :
  CV 120 #[va,vb] w fun e w'=>∃ v,e=.returned v∧RVn w.heap.size w' w'.heap.size v (q / r):=by
 have HD:=zz (aKk q r);obtain⟨n,A,l,c,A',l',c',rfl,Ha,Hd,hn⟩:=ha;obtain⟨m,B,k,e,B',k',e',rfl,Hb,He,hm⟩:=hb;have HL:=zz l1;have HL':=zz (show QL 60000000 60000000 r⁻¹ by
  have hz:r.num≠0:=fun e=>h0 (aMf.1 e)
  unfold QL;rw[Rat.num_inv,Rat.den_inv,aEu hz,aGi,aJd hz,aIn,aEr];exact⟨l2.2,l2.1⟩);clear l1 l2
 have HA:=zz (show RV w w.heap.size _ q from aMd Ha Hd hn);have HB:=zz (show RV w w.heap.size _ r from aMd Hb He hm);clear Ha Hd hn Hb He hm;have H0:=zz h0;clear h0;obtain⟨w0,hw0⟩:=ex (((w.alloc (.cells #[.bool n,.slice A l c,.slice A' l' c'] 88)).alloc (.cells #[.bool m,.slice B k e,.slice B' k' e'] 88)).alloc (.cells #[.bool false,.slice none 0 0,.slice none 0 0] 88));have B0:=zz (rS hw0);have z0:=rR hw0;have Lr:=rX hw0;have Ls:=rW hw0;have Lr4:=rT hw0;replace HA:=st aHm HA B0;replace HB:=st aHm HB B0;go_enter Tryz.func120,Tryz.ntmps120
 go_upto_region 1 with (fail)
 rw[← hw0];clear hw0;refine aFq [se 0 5 [] (.agg #[.bool n,.slice A l c,.slice A' l' c']),se 1 6 [] (.agg #[.bool m,.slice B k e,.slice B' k' e']),sf 2 7 [1] (fun fv fw=>RV fw fw.heap.size fv r⁻¹),sf 3 8 [0,2] (fun fv fw=>RVn w.heap.size fw fw.heap.size fv (q / r))] 1 (SB Lr (SB Ls S0)) (MA (fun _ _ _ h hb=>h.step hb) (MA (fun _ _ _ h hb=>⟨aHm h.1 hb,h.2⟩) aFi)) ?_ ?_
 ·intro xs a_ hA;simp only[SX,↓reduceIte,Nat.reduceEqDiff,Nat.reduceAdd] at hA⊢;subst hA;and_intros
  all_goals intro wk b_ z_
  all_goals try exact pl
  ·intro f1;intros;refine wo fun K hK=>?_;go_simp;have m0:=st aHm HB b_;(with_reducible refine(KD _ _ r m0.o H0.o).mono ?_)
   rintro e wc2 ⟨q0,v2,rfl,s0⟩;refine hK _ _ ⟨v2,by simp only[FL,f1] <;> kernel_rfl,q0,s0⟩
  ·intro f0 f2;intros;refine wo fun K hK=>?_;go_simp;have n0:=st aHm HA b_;(with_reducible refine((show Calls Tryz.prog _ _ _ _ from HD.o▸FY _ _ _ q r⁻¹ n0.o f2 HL.o HL'.o)).mono ?_)
   rintro e wc4 ⟨t0,v4,rfl,b0⟩;refine hK _ _ ⟨v4,by simp only[FL,f0] <;> kernel_rfl,t0,⟨b0.1,fun c0 c1 c2 e=>⟨(b0.2 c0 c1 c2 e).1.weak (by omega),(b0.2 c0 c1 c2 e).2.weak (by omega)⟩⟩⟩
 ·intro xs y0 B6 z6;simp only[SY];have u0:=tr B0 B6;generalize xs 2=x2,xs 3=x3;rintro f2 f3;clear f2;have hnw:=f3.2;replace f3:=f3.1;obtain⟨D0,E0,F0,G0,I0,o0,J0,rfl,ha8,l0,hc8⟩:=f3;have p0:Hi (RV y0 y0.heap.size (.agg #[.bool D0,.slice E0 F0 G0,.slice I0 o0 J0]) (q / r)):=zz (aMd ha8 l0 hc8);clear ha8 l0 hc8;have HNr:=zz (hnw _ _ _ rfl);clear hnw;have a0:=aEd Lr4 B6.o;have d0:=cz3 a0;have i0:=fz3 a0;refine EN 4 rfl fun K hK=>?_;go_simp;refine hK _ _ ?_;clear hK K;(try simp only[PT])
  clear d0 i0;refine ED ?_;(try simp only[Exit.then])
  go_wp2;exact iP (TB.fine rfl a0 (by simp[aF,aE]) u0.o (by omega) p0.o rfl) (fun e w' ⟨hb,he,hv⟩=>⟨hb,_,he,hv,YH HNr.o⟩)
end Go.Proofs.YtencnahjgbdeoaaGreatDoor
