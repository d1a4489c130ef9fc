/- Texts put together: Layer 35: zero, products (written by gen_la.py). Layer 35: the index of the last column; an element of a row at the captured column. Layer 35: turned's element (written by gen_lb.py). Layer 35: read (written by gen_le.py). Layer 35: small, list, Check (written by gen_lf.py). Layer 35: each over rows (written by gen_lg.py). -/
import Derived.Test.YtdigbofiebfkeaaGreatDoorLa1
import Derived.Test.YtdigbofiebfkeaaGreatDoorQQ
import Derived.Test.YtdigbofiebfkeaaGreatDoorQa
namespace Go.Proofs.YtdigbofiebfkeaaGreatDoor
open Go Go.RowKit Dig
set_option maxRecDepth 100000
set_option maxHeartbeats 4000000
set_option linter.unusedSimpArgs false
theorem ret_zero {w:World} {e:Ending} (h:RetQ w (mkQ 0 1) e):∃ v,e=.returned (.tuple #[v,.int .i64 0])∧QV w w.heap.size v 0:=by
 have e1:mkQ 0 1=(some 0,0):=by
  rw[show mkQ 0 1=_ from mkQ_lit (x:=0) (y:=1) (c:=mkRat 0 1) (by decide) (by decide +kernel) (lit_QL (x:=0) (d:=1) (by decide) (by decide +kernel) (by decide +kernel) (by decide +kernel))]
  rfl
 rw[e1] at h;exact h
theorem qv_rv {w:World} {B:Nat} {n m:Bool} {A A':Option Addr} {l c l' c':Nat} {q:Rat} (h:QV w B (.agg #[.bool n,.slice A l c,.bool m,.slice A' l' c']) q):RV w B (.agg #[.bool n,.slice A l c,.slice A' l' c']) q:=by
 obtain⟨h1,h2,h3,-⟩:=h.is;exact TV.mk h1 h2 (fun _=>h3)
theorem zero_any (w:World) :
  Calls Tryz.prog 38 #[] w fun e w'=>Below w.heap.size w w'∧∃ v,e=.returned v∧RV w' w'.heap.size v 0:=by
 obtain⟨w0,hw0⟩:∃ w0:World,w0=(w.alloc (.cells #[.bool false,.slice none 0 0,.slice none 0 0] 84)):=⟨_,rfl⟩;have B0:=zz (n1_b hw0);have z0:=n1_z hw0;have Lr0:=n1_0 hw0;go_enter Tryz.func38,Tryz.ntmps38
 go_upto_region 1 with (fail)
 rw[← hw0];clear hw0;go_wp2_with fail
 refine(((QOf_any _ 0 1 (by decide) (by decide) (by decide) (by decide)).mono fun e w' h=>And.intro h.1 (ret_zero h.2))).mono ?_;rintro e w1 ⟨l0,v,rfl,hv⟩;have B2:=zz l0;have z2:=B2.out.size;have u0:=tr B0 B2;clear l0;obtain⟨C0,D0,E0,F0,G0,d0,H0,rfl,ha4,m0,hc4⟩:=hv;have o0:=zz (show QV w1 w1.heap.size (.agg #[.bool C0,.slice D0 E0 F0,.bool false,.slice G0 d0 H0]) 0 from⟨_,_,_,_,_,_,_,rfl,ha4,m0,hc4⟩);clear ha4 m0 hc4;go_upto_region 2 with (fail)
 obtain⟨w5,c0⟩:∃ w5:World,w5=(w1.alloc (.cells #[.bool C0,.slice D0 E0 F0,.bool false,.slice G0 d0 H0] 33)):=⟨_,rfl⟩;rw[← c0];have b0:=n1_0 c0;have za5:=n1_z c0;have B6:=zz (n1_b c0);have z6:=B6.out.size;have v0:=tr u0 B6;clear c0;have p0:=b0.cell 0 rfl;have q0:=b0.cell 1 rfl;have r0:=b0.cell 2 rfl;have s0:=b0.cell 3 rfl;have A0:=b0.lt;go_wp2_with fail
 refine(Read_any _ _ _ _ _ _ _ _ _).mono ?_;rintro e w8 ⟨n0,rfl⟩;have B10:=zz n0;have z10:=B10.out.size;have t0:=tr v0 B10;clear n0;clear p0 q0 r0 s0 A0;have P2_4_12:=tr B6 B10;have e0:=zz (QV.step o0.out P2_4_12.out);have HZ:=zz (qv_rv e0.out);have P1_3_15:=tr B2 B6;have P1_4_16:=tr P1_3_15 B10;have a0:=CB.step Lr0 P1_4_16.out;have f0:=a0.cell 0 rfl;have g0:=a0.cell 1 rfl;have h0:=a0.cell 2 rfl;have x0:=a0.lt;have i0:=a0.frozen 0;have j0:=a0.frozen 1;have k0:=a0.frozen 2;have y0:=a0.lt;go_wp2;clear f0 g0 h0 x0 i0 j0 k0 y0;exact TB.fin rfl a0 (by simp[noInt_b,noInt_s]) t0.out (by omega) HZ.out rfl
theorem products_any (w:World) (A B:Option Addr) (n c m d:Nat) (r s:List Rat) (hr:RS w w.heap.size (.slice A n c) r) (hs:RS w w.heap.size (.slice B m d) s) (hle:r.length≤s.length)
  (hL:∀ j,j<r.length→QL 60000000 60000000 (r.getD j 0)∧QL 60000000 60000000 (s.getD j 0)∧QL 60000000 60000000 (r.getD j 0*s.getD j 0)∧QL 60000000 60000000 (dotTo r s j)) :
  Calls Tryz.prog 45 #[.slice A n c,.slice B m d] w fun e w'=>Below w.heap.size w w'∧∃ v,e=.returned v∧RV w' w'.heap.size v (dotQ r s):=by
 obtain⟨rfl,hn1,hn2⟩:=SL.len hr;obtain⟨rfl,hm1,hm2⟩:=SL.len hs;have M1:=zz hr;have N1:=zz hs;have HL:=zz hL;clear hr hs hL;obtain⟨w0,hw0⟩:∃ w0:World,w0=(w.alloc (.cells #[.bool false,.slice none 0 0,.slice none 0 0] 84)):=⟨_,rfl⟩;have B0:=zz (n1_b hw0);have z0:=n1_z hw0;have Lr4:=n1_0 hw0;go_enter Tryz.func45,Tryz.ntmps45
 go_upto_region 1 with (fail)
 rw[← hw0];clear hw0;go_wp2_with fail
 refine(zero_any _).mono ?_;rintro e w1 ⟨X0,v,rfl,hv⟩;have B2:=zz X0;have z2:=B2.out.size;have i1:=tr B0 B2;clear X0;obtain⟨s1,t1,u1,v1,x1,i0,y1,rfl,ha4,Y0,hc4⟩:=hv;have Z0:Hid (RV w1 w1.heap.size (.agg #[.bool s1,.slice t1 u1 v1,.slice x1 i0 y1]) 0):=zz (TV.mk ha4 Y0 hc4);clear ha4 Y0 hc4;have H0:=zz (show RV w1 w1.heap.size (.agg #[.bool s1,.slice t1 u1 v1,.slice x1 i0 y1]) (dotTo r s 0) from Z0.out);go_upto_region 2 with (fail)
 obtain⟨w5,h0⟩:∃ w5:World,w5=(w1.alloc (.cells #[.bool s1,.slice t1 u1 v1,.slice x1 i0 y1] 84)):=⟨_,rfl⟩;rw[← h0];have n0:=n1_0 h0;have za5:=n1_z h0;have B6:=zz (n1_b h0);have z6:=B6.out.size;have j1:=tr i1 B6;clear h0;go_wp2;have r1:=zz (show w.heap.size<w1.heap.size by omega);have u0:=zz (RV.step H0.out B6.out);have P1_3_10:=tr B2 B6;have v0:=CB.step Lr4 P1_3_10.out;go_loopw [11] (fun iv wr=>∃ (j:Nat) (on:Bool) (oA:Option Addr) (ol oc:Nat) (oB:Option Addr) (om od:Nat),j≤r.length∧iv=.int .i64 j∧Hid (CB wr w1.heap.size 84 #[.bool on,.slice oA ol oc,.slice oB om od])∧Hid (RV wr wr.heap.size (.agg #[.bool on,.slice oA ol oc,.slice oB om od]) (dotTo r s j))∧Hid (CB wr w.heap.size 84 #[.bool false,.slice none 0 0,.slice none 0 0])∧Hid (Below w.heap.size w wr)) (fun iv _=>r.length-(intOf iv).toNat)
 case atStart=>exact⟨0,_,_,_,_,_,_,_,Nat.zero_le _,rfl,zz n0,zz u0.out,zz v0,j1⟩
 case round=>
  obtain⟨j,on,oA,ol,oc,oB,om,od,hj,rfl,HC,HV,HR,HW⟩:=hrel;have zr:=HW.out.size;by_cases hlt:j<r.length
  ·obtain⟨g,off,xn,xA,xl,xc,xB,xu,xd,rfl,hg,hE,hx⟩:=RS.elem M1.out hlt;obtain⟨g',off',yn,yA,yl,yc,yB,yu,yd,rfl,hg',hE',hy⟩:=RS.elem N1.out (Nat.lt_of_lt_of_le hlt hle);replace hE:=hE.step HW.out;replace hE':=hE'.step HW.out;have HX:=zz (show RV wr wr.heap.size _ (r.getD j 0) from getD_is hlt▸RV.step hx HW.out);have HY:=zz (show RV wr wr.heap.size _ (s.getD j 0) from getD_is (Nat.lt_of_lt_of_le hlt hle)▸RV.step hy HW.out);clear hx hy hg hg';obtain⟨hq1,hq2,hq3,hq4⟩:=HL.out j hlt;have HQ:=zz (And.intro hq1 (And.intro hq2 (And.intro hq3 hq4)));clear hq1 hq2 hq3 hq4;have hji:(0:Int)≤(j:Int)∧(j:Int)<(r.length:Int):=(by omega);have hjs:(j:Int)<(s.length:Int):=(by omega);have x0:=hE.c0;have y0:=hE.c1;have A0:=hE.c2;have z1:=hE.lt;go_upto_region 5 with (fail)
   clear x0 y0 A0 z1;obtain⟨w12,d0⟩:∃ w12:World,w12=(wr.alloc (.cells #[.bool xn,.slice xA xl xc,.slice xB xu xd] 84)):=⟨_,rfl⟩;rw[← d0];have j0:=n1_0 d0;have za12:=n1_z d0;have B13:=zz (n1_b d0);have z13:=B13.out.size;have a1:=tr HW B13;clear d0;have zl1:=HC.out.lt;have zl2:=HR.out.lt;have g0:=CB.step HC.out B13.out;have e0:=E3.step hE' B13.out;refine Sweep.r0 [se 0 16 [] (.agg #[.bool on,.slice oA ol oc,.slice oB om od]),se 1 17 [] (.agg #[.bool xn,.slice xA xl xc,.slice xB xu xd]),se 2 18 [] (.slice (some ⟨g',off',none⟩) s.length d),se 3 19 [] (.int .i64 (j:Int)),se 4 20 [2,3] (.pointer (some ⟨g',off'+j*3,none⟩)),se 5 21 [4] (.agg #[.bool yn,.slice yA yl yc,.slice yB yu yd]),sf 6 22 [1,5] (fun fv fw=>RV fw fw.heap.size fv (r.getD j 0*s.getD j 0)),sf 7 23 [0,6] (fun fv fw=>RV fw fw.heap.size fv (dotTo r s j+r.getD j 0*s.getD j 0))] 1 (SB g0 (SB j0 (SC (fun _ h=>(E3.step e0 h).c0) (SC (fun _ h=>(E3.step e0 h).c1) (SC (fun _ h=>(E3.step e0 h).c2) S0))))) (MA (fun _ _ _ h hb=>h.step hb) (MA (fun _ _ _ h hb=>h.step hb) trivial)) ?_ ?_
   ·intro xs a_ hA;simp only[SX] at hA
    iterate 8 (refine ac ?_ ?_;rotate_left)
    exact all_nil
    all_goals (intro wk hb;simp only[SX,↓reduceIte,Nat.reduceEqDiff,Nat.reduceAdd];have b_:=zz hb;have z_:=hb.size;clear hb;subst hA)
    any_goals (intros;refine wpOp_step rfl ?_;intro K hK;go_simp;refine hK _ _ ⟨_,?_,Below.refl _ _,rfl⟩;simp only[*,FL] <;> kernel_rfl)
    ·intro f1 f5;intros;refine wpOp_step (o:=_) rfl (fun K hK=>?_);go_simp;have P1_3_17:=tr B13 b_;have o0:=zz (RV.step HX.out P1_3_17.out);have p0:=zz (RV.step HY.out P1_3_17.out);(with_reducible refine(Prod_any _ _ _ _ _ o0.out p0.out HQ.out.1 HQ.out.2.1).mono ?_)
     rintro e wc20 ⟨b1,v20,rfl,d1⟩;refine hK _ _ ⟨v20,by simp only[FL,f1,f5] <;> kernel_rfl,b1,d1⟩
    ·intro f0 f6;intros;refine wpOp_step (o:=_) rfl (fun K hK=>?_);go_simp;have P1_3_21:=tr B13 b_;have l0:=zz (RV.step HV.out P1_3_21.out);(with_reducible refine(SumL_any _ _ _ _ _ l0.out f6 HQ.out.2.2.2 HQ.out.2.2.1).mono ?_)
     rintro e wc23 ⟨e1,v23,rfl,g1⟩;refine hK _ _ ⟨v23,by simp only[FL,f0] <;> kernel_rfl,e1,g1⟩
   ·intro xs q1 hbf;simp only[SY];have B25:=zz hbf;have z25:=B25.out.size;have h1:=tr a1 B25;clear hbf;generalize xs 6=x6,xs 7=x7;rintro f6 f7;clear f6;obtain⟨A1,B1,C1,D1,E1,k0,F1,rfl,ha27,q0,hc27⟩:=f7;have C0:Hid (RV q1 q1.heap.size (.agg #[.bool A1,.slice B1 C1 D1,.slice E1 k0 F1]) (dotTo r s j+r.getD j 0*s.getD j 0)):=zz (TV.mk ha27 q0 hc27);clear ha27 q0 hc27;have a0:=CB.step g0 B25.out;have D0:=a0.cell 0 rfl;have E0:=a0.cell 1 rfl;have F0:=a0.cell 2 rfl;have G1:=a0.lt;have G0:=a0.frozen 0;have I0:=a0.frozen 1;have J0:=a0.frozen 2;have H1:=a0.lt;refine EN 8 rfl fun K hK=>?_;go_simp;refine hK _ _ ?_;clear hK K;(try simp only[PT])
    clear D0 E0 F0 G1 G0 I0 J0 H1;refine ED ?_;(try simp only[Exit.then])
    have P1_3_32:=tr B13 B25;have s0:=CB.step HR.out P1_3_32.out;have K0:=CB.step j0 B25.out;obtain⟨w34,b0⟩:∃ w34:World,w34=(((q1.setCell ⟨w1.heap.size,0,none⟩ (.bool A1)).setCell ⟨w1.heap.size,1,none⟩ (.slice B1 C1 D1)).setCell ⟨w1.heap.size,2,none⟩ (.slice E1 k0 F1)):=⟨_,rfl⟩;rw[← b0];have S34:=zz (p3_s b0 a0 (by simp[noInt_b,noInt_s]));have t0:=p3_f b0 s0 ((by have:=r1.out;have:=HC.out.lt;omega));have k1:=p3_f b0 K0 ((by have:=r1.out;have:=HC.out.lt;omega));have m0:=p3_p b0 a0;have L0:=zz (p3_b b0 h1.out (by have:=r1.out;omega));have l1:=p3_z b0;clear b0;go_wp2;go_roundw;have M0:=zz (RV.soft C0.out (S34.out))
    case rel=>exact⟨j+1,_,_,_,_,_,_,_,by omega,by go_num,zz m0,zz M0.out,zz t0,L0⟩
    case measure=>simp[intOf];omega
  ·obtain rfl:j=r.length:=by omega
   have m1:=r1.out;have N0:=HC.out.cell 0 rfl;have O0:=HC.out.cell 1 rfl;have P0:=HC.out.cell 2 rfl;have I1:=HC.out.lt;have Q0:=HR.out.cell 0 rfl;have R0:=HR.out.cell 1 rfl;have T0:=HR.out.cell 2 rfl;have J1:=HR.out.lt;have U0:=HR.out.frozen 0;have V0:=HR.out.frozen 1;have W0:=HR.out.frozen 2;have K1:=HR.out.lt;go_wp2;clear N0 O0 P0 I1 Q0 R0 T0 J1 U0 V0 W0 K1;exact TB.fin rfl HR.out (by simp[noInt_b,noInt_s]) HW.out (by omega) HV.out rfl
theorem last_any (w:World) (A:Option Addr) (n c:Nat) (M:List (List Rat)) (h:RM w w.heap.size (.slice A n c) M) (hM:0<M.length) :
  Calls Tryz.prog 37 #[.slice A n c] w fun e w'=>Below w.heap.size w w'∧e=.returned (.int .i64 ((M[0].length:Int)-1)):=by
 obtain⟨rfl,hn1,hn2⟩:=SL.len h;obtain⟨g,off,A',c',rfl,hg,hcell,hrow⟩:=SL.row h hM;obtain⟨-,hc1,hc2⟩:=SL.len hrow;rw[Nat.add_zero] at hcell;have h0:(0:Int)<(M.length:Int):=by omega
 have hw:IntKind.i64.wrap ((M[0].length:Int)-1)=(M[0].length:Int)-1:=IntWalk.i64_in _ (by omega);have HB:=zz (Below.refl w.heap.size w);go_enter Tryz.func37,Tryz.ntmps37
 go_wp2;go_ret;exact⟨HB.out,rfl⟩
theorem turned1_any (w:World) (A:Option Addr) (n c N j:Nat) (r:List Rat) (hr:RS w w.heap.size (.slice A n c) r) (hj:j<r.length) (hN:One w N 3 (.int .i64 j)) :
  Calls Tryz.prog 103 #[.slice A n c,.pointer (some ⟨N,0,none⟩)] w fun e w'=>Below w.heap.size w w'∧∃ v,e=.returned v∧RV w' w'.heap.size v (r.getD j 0):=by
 obtain⟨rfl,hn1,hn2⟩:=SL.len hr;obtain⟨g,off,xn,xA,xl,xc,xB,xu,xd,rfl,hg,hE,hx⟩:=RS.elem hr hj;have HX:=zz (show RV w w.heap.size _ (r.getD j 0) from getD_is hj▸hx);clear hx hr hg;have hji:(0:Int)≤(j:Int)∧(j:Int)<(r.length:Int):=(by omega);obtain⟨w0,hw0⟩:∃ w0:World,w0=(w.alloc (.cells #[.bool false,.slice none 0 0,.slice none 0 0] 84)):=⟨_,rfl⟩;have B0:=zz (n1_b hw0);have z0:=n1_z hw0;have Lr3:=n1_0 hw0;go_enter Tryz.func103,Tryz.ntmps103
 go_upto_region 1 with (fail)
 rw[← hw0];clear hw0;have b0:=One.step hN B0.out;have e0:=b0.cell;have f0:=b0.frozen;have p0:=b0.lt;have a0:=E3.step hE B0.out;have g0:=a0.c0;have h0:=a0.c1;have i0:=a0.c2;have q0:=a0.lt;have j0:=Lr3.cell 0 rfl;have k0:=Lr3.cell 1 rfl;have l0:=Lr3.cell 2 rfl;have r0:=Lr3.lt;have m0:=Lr3.frozen 0;have n0:=Lr3.frozen 1;have o0:=Lr3.frozen 2;have s0:=Lr3.lt;go_wp2;clear e0 f0 p0 g0 h0 i0 q0 j0 k0 l0 r0 m0 n0 o0 s0;have d0:=zz (RV.step HX.out B0.out);exact TB.fin rfl Lr3 (by simp[noInt_b,noInt_s]) B0.out (by omega) d0.out rfl
theorem readrow_any (w:World) (A:Option Addr) (n c:Nat) (l:List Rat) (h:QS w w.heap.size (.slice A n c) (l.map qx)) (hl:l.length≤1000000) :
  Calls Tryz.prog 73 #[.slice A n c,.func (.func 42) #[] #[]] w fun e w'=>Below w.heap.size w w'∧∃ g,e=.returned (.slice (some ⟨g,0,none⟩) l.length l.length)∧w.heap.size≤g∧OB 3 ER 84 w' g l.length l:=by
 obtain⟨hn,hn1,hn2⟩:=SL.len h;rw[List.length_map] at hn;subst hn;have HQ:=zz h;have C0:=zz hl;clear h;have hmk:=mk_ratios l.length hl;have n0:=zz (below_alloc1 (Below.refl w.heap.size w) (.cells (madeCells #[.bool false,.slice none 0 0,.slice none 0 0] (l.length*3)) 84));have w0:=zz (OB.made (k:=3) (E:=ER) (T:=84) (z:=#[.bool false,.slice none 0 0,.slice none 0 0]) w (by decide) (by decide) l.length);go_enter Tryz.func73,Tryz.ntmps73
 go_wp2;clear hmk hl;go_loopw [13] (fun iv wr=>∃ j:Nat,j≤l.length∧iv=.int .i64 j∧Hid (OB 3 ER 84 wr w.heap.size l.length (l.take j))∧Hid (Below w.heap.size w wr)) (fun iv _=>l.length-(intOf iv).toNat)
 case atStart=>exact⟨0,Nat.zero_le _,rfl,w0,n0⟩
 case round=>
  obtain⟨j,hj,rfl,HO,HW⟩:=hrel;have zr:=HW.out.size;by_cases hlt:j<l.length
  ·obtain⟨g,off,xA,xl,xc,xB,xu,xd,rfl,hg,hE,hx⟩:=QS.elem HQ.out (j:=j) (by simpa using hlt);replace hE:=hE.step HW.out;simp only[List.getElem_map] at hE hx;have HX:=zz (QV.step (QR.qv hx) HW.out);clear hx hg;have hji:(0:Int)≤(j:Int)∧(j:Int)<(l.length:Int):=(by omega);have f0:=hE.c0;have g0:=hE.c1;have h0:=hE.c2;have i0:=hE.c3;have t0:=hE.lt;go_upto_region 5 with (fail)
   clear f0 g0 h0 i0 t0;obtain⟨w2,b0⟩:∃ w2:World,w2=(wr.alloc (.cells #[.bool (qx l[j]).1.1,.slice xA xl xc,.bool (qx l[j]).2.1,.slice xB xu xd] 33)):=⟨_,rfl⟩;rw[← b0];have a0:=n1_0 b0;have za2:=n1_z b0;have B3:=zz (n1_b b0);have z3:=B3.out.size;have p0:=tr HW B3;clear b0;have j0:=a0.cell 0 rfl;have k0:=a0.cell 1 rfl;have l0:=a0.cell 2 rfl;have m0:=a0.cell 3 rfl;have u0:=a0.lt;go_wp2_with fail
   refine(Read_any _ _ _ _ _ _ _ _ _).mono ?_;rintro e w5 ⟨e0,rfl⟩;have B7:=zz e0;have z7:=B7.out.size;have q0:=tr p0 B7;clear e0;clear j0 k0 l0 m0 u0;have P1_3_9:=tr B3 B7;have d0:=zz (QV.step HX.out P1_3_9.out);have HZ:=zz (qv_rv d0.out);have r0:=zz (OB.step HO.out ER.stable P1_3_9.out);have hlen:(l.take j).length=j:=by rw[List.length_take];omega
   have ht:l.take j++[l[j]]=l.take (j+1):=by rw[List.take_add_one,List.getElem?_eq_getElem hlt];rfl
   have hpush:=OB.push r0.out ER.soft ER.free (by rw[hlen];exact hlt) (cs:=[.bool (qx l[j]).1.1,.slice xA xl xc,.slice xB xu xd]) (x:=l[j]) rfl ⟨_,_,_,rfl,HZ.out⟩;rw[hlen,ht] at hpush;have x0:=zz hpush;clear hpush ht hlen;obtain⟨o0,ho0⟩:=OB.room r0.out (p:=j*3) (by omega);obtain⟨o1,ho1⟩:=OB.room r0.out (p:=j*3+1) (by omega);obtain⟨o2,ho2⟩:=OB.room r0.out (p:=j*3+2) (by omega);have fz0:=OB.frozen r0.out (j*3);have fz1:=OB.frozen r0.out (j*3+1);have fz2:=OB.frozen r0.out (j*3+2);have flt:=OB.lt r0.out;have y0:=zz (below_sets (b:=w.heap.size) (Nat.le_refl _) q0.out (p:=j*3) (cs:=[.bool (qx l[j]).1.1,.slice xA xl xc,.slice xB xu xd]));go_wp2;go_roundw
   case rel=>exact⟨j+1,hlt,by go_num,x0,y0⟩
   case measure=>simp[intOf];omega
  ·obtain rfl:j=l.length:=by omega
   rw[List.take_length] at HO;go_wp2;go_ret;exact⟨HW.out,_,rfl,Nat.le_refl _,HO.out⟩
theorem read_any (w:World) (A:Option Addr) (n c:Nat) (l:List Rat) (h:QS w w.heap.size (.slice A n c) (l.map qx)) (hl:l.length≤1000000) :
  Calls Tryz.prog 35 #[.slice A n c] w fun e w'=>Below w.heap.size w w'∧∃ g,e=.returned (.slice (some ⟨g,0,none⟩) l.length l.length)∧w.heap.size≤g∧OB 3 ER 84 w' g l.length l:=by
 go_enter Tryz.func35,Tryz.ntmps35
 go_wp2_with fail
 refine(readrow_any _ A n c l h hl).mono ?_;rintro e w1 ⟨hb,g,rfl,hg,ho⟩;have HB:=zz hb;have HO:=zz ho;have HG:=zz hg;clear hb ho hg;go_wp2;go_ret;exact⟨HB.out,g,rfl,HG.out,HO.out⟩
theorem dec_le (a b:Nat):decide (a≤b)=!decide (b<a):=by
 by_cases h:a≤b
 ·rw[decide_eq_true h,decide_eq_false (by omega)];rfl
 ·rw[decide_eq_false h,decide_eq_true (by omega)];rfl
theorem max_le4 (x y:Nat):decide (max (x:Int) (y:Int)≤4)=(decide (x≤4)&&decide (y≤4)):=by
 by_cases h1:x≤4 <;> by_cases h2:y≤4 <;> simp[h1,h2] <;> omega
def sysE:Bool→Int
 | true=>0
 | false=>350
theorem QR.lens {w:World} {B:Nat} {n m:Bool} {a b:List Int} {A A':Option Addr} {u c u' c':Nat} (h:QR w B (.agg #[.bool n,.slice A u c,.bool m,.slice A' u' c']) n a m b):u=a.length∧u'=b.length:=by
 obtain⟨A1,u1,c1,A2,u2,c2,e,h1,h2⟩:=h;injection e with e
 simp at e
 obtain⟨⟨rfl,rfl,rfl⟩,rfl,rfl,rfl⟩:=e;exact⟨RI.len h1,RI.len h2⟩
noncomputable def rowX (M:List (List QX)) (r:List QX):Bool:=(decide (r.length≤6)&&decide (r.length=(M.getD 0 []).length))&&okL r
theorem okM_two {M:List (List QX)}:okM M=(!(decide (M.length<1)||decide (12<M.length))&&M.all (rowX M)):=by
 unfold okM;rw[Bool.not_or,dec_le,dec_le]
 rfl
theorem small_any (w:World) (A A':Option Addr) (u c u' c':Nat) (n m:Bool) (a b:List Int) (h:QR w w.heap.size (.agg #[.bool n,.slice A u c,.bool m,.slice A' u' c']) n a m b) :
  Calls Tryz.prog 71 #[.agg #[.bool n,.slice A u c,.bool m,.slice A' u' c']] w fun e w'=>Below w.heap.size w w'∧e=.returned (.bool (smallX ((n,a),(m,b)))):=by
 obtain⟨rfl,rfl⟩:=QR.lens h;have HX:=zz h;clear h;obtain⟨w0,hw0⟩:∃ w0:World,w0=(w.alloc (.cells #[.bool n,.slice A a.length c,.bool m,.slice A' b.length c'] 33)):=⟨_,rfl⟩;have B0:=zz (n1_b hw0);have z0:=n1_z hw0;have Lq:=n1_0 hw0;cases hs:(qOf n a m b).isSome
 case false=>
  have HC:=zz (show chkQ n a m b=40 by unfold chkQ;rw[hs];rfl);have HS:=zz hs;clear hs;go_enter Tryz.func71,Tryz.ntmps71
  go_upto_region 1 with (fail)
  rw[← hw0];clear hw0;have k0:=Lq.cell 0 rfl;have l0:=Lq.cell 1 rfl;have m0:=Lq.cell 2 rfl;have n0:=Lq.cell 3 rfl;have C0:=Lq.lt;go_wp2_with fail
  have d0:=zz (QR.step HX.out B0.out);refine(QCheck_any _ _ n a m b d0.out).mono ?_;rintro e w1 ⟨i0,rfl⟩;have B4:=zz i0;have z4:=B4.out.size;have y0:=tr B0 B4;clear i0;clear k0 l0 m0 n0 C0;rw[HC.out];have b0:=CB.step Lq B4.out;have o0:=b0.cell 0 rfl;have p0:=b0.cell 1 rfl;have q0:=b0.cell 2 rfl;have r0:=b0.cell 3 rfl;have D0:=b0.lt;go_wp2;clear o0 p0 q0 r0 D0;go_ret;exact⟨y0.out,by unfold smallX qv;rw[HS.out];rfl⟩
 case true=>
  have HC:=zz (show chkQ n a m b=0 by unfold chkQ;rw[hs];rfl);have HS:=zz hs;clear hs;go_enter Tryz.func71,Tryz.ntmps71
  go_upto_region 1 with (fail)
  rw[← hw0];clear hw0;have s0:=Lq.cell 0 rfl;have t0:=Lq.cell 1 rfl;have u0:=Lq.cell 2 rfl;have v0:=Lq.cell 3 rfl;have E0:=Lq.lt;go_wp2_with fail
  have c0:=zz (QR.step HX.out B0.out);refine(QCheck_any _ _ n a m b c0.out).mono ?_;rintro e w8 ⟨j0,rfl⟩;have B11:=zz j0;have z11:=B11.out.size;have x0:=tr B0 B11;clear j0;clear s0 t0 u0 v0 E0;rw[HC.out];have a0:=CB.step Lq B11.out;have e0:=a0.cell 0 rfl;have f0:=a0.cell 1 rfl;have g0:=a0.cell 2 rfl;have h0:=a0.cell 3 rfl;have A0:=a0.lt;go_wp2;clear e0 f0 g0 h0 A0;go_ret;exact⟨x0.out,by unfold smallX qv;rw[HS.out];show Ending.returned (.bool (decide (max (a.length:Int) (b.length:Int)≤4)))=_;rw[max_le4];rfl⟩
theorem list1_any (w:World) (A A':Option Addr) (u c u' c':Nat) (n m:Bool) (a b:List Int) (h:QR w w.heap.size (.agg #[.bool n,.slice A u c,.bool m,.slice A' u' c']) n a m b) :
  Calls Tryz.prog 70 #[.agg #[.bool n,.slice A u c,.bool m,.slice A' u' c']] w fun e w'=>Below w.heap.size w w'∧e=.returned (.bool (!smallX ((n,a),(m,b)))):=by
 obtain⟨rfl,rfl⟩:=QR.lens h;have HX:=zz h;clear h;obtain⟨w0,hw0⟩:∃ w0:World,w0=(w.alloc (.cells #[.bool n,.slice A a.length c,.bool m,.slice A' b.length c'] 33)):=⟨_,rfl⟩;have B0:=zz (n1_b hw0);have z0:=n1_z hw0;have Lq:=n1_0 hw0;go_enter Tryz.func70,Tryz.ntmps70
 go_upto_region 1 with (fail)
 rw[← hw0];clear hw0;have c0:=Lq.cell 0 rfl;have d0:=Lq.cell 1 rfl;have e0:=Lq.cell 2 rfl;have f0:=Lq.cell 3 rfl;have h0:=Lq.lt;go_wp2_with fail
 have a0:=zz (QR.step HX.out B0.out);refine(small_any _ _ _ _ _ _ _ n m a b a0.out).mono ?_;rintro e w1 ⟨b0,rfl⟩;have B4:=zz b0;have z4:=B4.out.size;have g0:=tr B0 B4;clear b0;clear c0 d0 e0 f0 h0;go_wp2;go_ret;exact⟨g0.out,rfl⟩
theorem indexQ_any (w:World) (A:Option Addr) (n c:Nat) (l:List QX) (p:QX→Bool) (F0:FuncId) (h:QS w w.heap.size (.slice A n c) l) (hrun:∀ args (w1:World),(callFunc F0 args).run Tryz.prog w1=.ok (.enter F0 args) w1)
  (hF:∀ (w1:World) (A A':Option Addr) (u c u' c':Nat) (n m:Bool) (a b:List Int),QR w1 w1.heap.size (.agg #[.bool n,.slice A u c,.bool m,.slice A' u' c']) n a m b→Calls Tryz.prog F0 #[.agg #[.bool n,.slice A u c,.bool m,.slice A' u' c']] w1 fun e w'=>Below w1.heap.size w1 w'∧e=.returned (.bool (p ((n,a),(m,b))))) :
  Calls Tryz.prog 94 #[.slice A n c,.func (.func F0) #[] #[]] w fun e w'=>Below w.heap.size w w'∧∃ i:Int,e=.returned (.int .i64 i)∧decide (0≤i)=l.any p:=by
 obtain⟨rfl,hn1,hn2⟩:=SL.len h;have HQ:=zz h;have HF:=zz hF;clear h hF;have b0:=zz (Below.refl w.heap.size w);go_enter Tryz.func94,Tryz.ntmps94
 go_wp2;go_loopw [8] (fun iv wr=>∃ j:Nat,j≤l.length∧iv=.int .i64 j∧Hid ((l.take j).any p=false)∧Hid (Below w.heap.size w wr)) (fun iv _=>l.length-(intOf iv).toNat)
 case atStart=>exact⟨0,Nat.zero_le _,rfl,zz rfl,b0⟩
 case round=>
  obtain⟨j,hj,rfl,HP,HW⟩:=hrel;have zr:=HW.out.size;by_cases hlt:j<l.length
  ·obtain⟨g,off,xA,xl,xc,xB,xu,xd,rfl,hg,hE,hx⟩:=QS.elem HQ.out (j:=j) hlt;replace hE:=hE.step HW.out;have hx2:=QR.step hx HW.out;clear hx hg;obtain⟨⟨⟨xn,xa⟩,xm,xb⟩,hxj⟩:∃ x,x=l[j]:=⟨_,rfl⟩;rw[← hxj] at hE hx2;simp only at hE hx2;have e0:=zz hxj;clear hxj;have HX:=zz hx2;clear hx2;have hji:(0:Int)≤(j:Int)∧(j:Int)<(l.length:Int):=(by omega);have q0:=hE.c0;have q1:=hE.c1;have q2:=hE.c2;have q3:=hE.c3;have ql:=hE.lt;have HE:=zz hE;clear hE;go_wp2_with fail
   refine(HF.out _ _ _ _ _ _ _ xn xm xa xb HX.out).mono ?_;rintro e w1 ⟨hb,rfl⟩;have a0:=zz (HW.out.trans (hb.mono HW.out.size));have z1:=hb.size;clear hb q0 q1 q2 q3 ql;have ht:l.take (j+1)=l.take j++[((xn,xa),(xm,xb))]:=by rw[List.take_add_one,List.getElem?_eq_getElem hlt,e0.out];rfl
   cases hp:p ((xn,xa),(xm,xb))
   case true=>
    have HT:=zz ht;have h0:=zz hp;clear ht hp;go_wp2;go_ret;refine⟨a0.out,j,rfl,?_⟩;rw[decide_eq_true (by omega)];refine(List.any_eq_true.2 ⟨_,?_,h0.out⟩).symm;rw[e0.out];exact List.getElem_mem _
   case false=>
    have HT:=zz (show(l.take (j+1)).any p=false by rw[ht,List.any_append,HP.out];simp[hp]);clear ht hp;go_wp2;go_roundw
    case rel=>exact⟨j+1,hlt,by go_num,HT,a0⟩
    case measure=>simp[intOf];omega
  ·obtain rfl:j=l.length:=by omega
   rw[List.take_length] at HP;go_wp2;go_ret;exact⟨HW.out,-1,rfl,by rw[HP.out];rfl⟩
theorem anyQ_any (w:World) (A:Option Addr) (n c:Nat) (l:List QX) (p:QX→Bool) (F0:FuncId) (h:QS w w.heap.size (.slice A n c) l) (hrun:∀ args (w1:World),(callFunc F0 args).run Tryz.prog w1=.ok (.enter F0 args) w1)
  (hF:∀ (w1:World) (A A':Option Addr) (u c u' c':Nat) (n m:Bool) (a b:List Int),QR w1 w1.heap.size (.agg #[.bool n,.slice A u c,.bool m,.slice A' u' c']) n a m b→Calls Tryz.prog F0 #[.agg #[.bool n,.slice A u c,.bool m,.slice A' u' c']] w1 fun e w'=>Below w1.heap.size w1 w'∧e=.returned (.bool (p ((n,a),(m,b))))) :
  Calls Tryz.prog 58 #[.slice A n c,.func (.func F0) #[] #[]] w fun e w'=>Below w.heap.size w w'∧e=.returned (.bool (l.any p)):=by
 go_enter Tryz.func58,Tryz.ntmps58
 go_wp2_with fail
 refine(indexQ_any _ A n c l p F0 h hrun hF).mono ?_;rintro e w1 ⟨hb,i,rfl,hi⟩;have HB:=zz hb;have HI:=zz hi;clear hb hi;go_wp2;go_ret;refine⟨HB.out,?_⟩;rw[← HI.out];rfl
theorem list1_run (args:Array Value) (w1:World):(callFunc 70 args).run Tryz.prog w1=.ok (.enter 70 args) w1:=by kernel_rfl
theorem okL_any {l:List QX}:okL l=!((decide (l.length<1)||decide (12<l.length))||l.any fun x=>!smallX x):=by
 unfold okL;rw[Bool.not_or,Bool.not_or,List.not_any_eq_all_not];rw[dec_le,dec_le]
 congr 1
 congr 1;funext x;simp
theorem list_any (w:World) (A:Option Addr) (n c:Nat) (l:List QX) (h:QS w w.heap.size (.slice A n c) l) :
  Calls Tryz.prog 32 #[.slice A n c] w fun e w'=>Below w.heap.size w w'∧e=.returned (.int .i64 (sysE (okL l))):=by
 obtain⟨rfl,hn1,hn2⟩:=SL.len h;have HQ:=zz h;clear h;have a0:=zz (Below.refl w.heap.size w);by_cases h1:l.length<1
 ·have HO:=zz (show okL l=false by rw[okL_any,decide_eq_true h1];rfl);have h1':((l.length:Int)<1):=by omega
  go_enter Tryz.func32,Tryz.ntmps32
  go_wp2;go_ret;exact⟨a0.out,by rw[HO.out];rfl⟩
 ·by_cases h2:12<l.length
  ·have HO:=zz (show okL l=false by rw[okL_any,decide_eq_true h2,Bool.or_true];rfl);have h1':¬ ((l.length:Int)<1):=by omega
   have h2':(12<(l.length:Int)):=by omega
   go_enter Tryz.func32,Tryz.ntmps32
   go_wp2;go_ret;exact⟨a0.out,by rw[HO.out];rfl⟩
  ·have HO:=zz (show okL l=!(l.any fun x=>!smallX x) by rw[okL_any,decide_eq_false h1,decide_eq_false h2];rfl);have h1':¬ ((l.length:Int)<1):=by omega
   have h2':¬ (12<(l.length:Int)):=by omega
   go_enter Tryz.func32,Tryz.ntmps32
   go_wp2_with fail
   refine(anyQ_any _ A _ c l (fun x=>!smallX x) _ HQ.out list1_run (fun w1 A A' u c u' c' n m a b hx=>list1_any w1 A A' u c u' c' n m a b hx)).mono ?_;rintro e w1 ⟨hb,rfl⟩;have b0:=zz hb;clear hb;cases hv:l.any fun x=>!smallX x
   case false=>
    rw[hv] at HO;go_wp2;go_ret;exact⟨b0.out,by rw[HO.out];rfl⟩
   case true=>
    rw[hv] at HO;go_wp2;go_ret;exact⟨b0.out,by rw[HO.out];rfl⟩
theorem LCheck_any (w:World) (A:Option Addr) (n c:Nat) (M:List (List QX)) (h:QM w w.heap.size (.slice A n c) M) :
  Calls Tryz.prog 31 #[.slice A n c] w fun e w'=>Below w.heap.size w w'∧e=.returned (.int .i64 (sysE (okM M))):=by
 obtain⟨rfl,hn1,hn2⟩:=SL.len h;have HQ:=zz h;clear h;have a0:=zz (Below.refl w.heap.size w);by_cases h1:M.length<1
 ·have HO:=zz (show okM M=false by rw[okM_two,decide_eq_true h1];rfl);have h1':((M.length:Int)<1):=by omega
  go_enter Tryz.func31,Tryz.ntmps31
  go_wp2;go_ret;exact⟨a0.out,by rw[HO.out];rfl⟩
 by_cases h2:12<M.length
 ·have HO:=zz (show okM M=false by rw[okM_two,decide_eq_true h2,Bool.or_true];rfl);have h1':¬ ((M.length:Int)<1):=by omega
  have h2':(12<(M.length:Int)):=by omega
  go_enter Tryz.func31,Tryz.ntmps31
  go_wp2;go_ret;exact⟨a0.out,by rw[HO.out];rfl⟩
 have HO:=zz (show okM M=M.all (rowX M) by rw[okM_two,decide_eq_false h1,decide_eq_false h2];rfl);have h1':¬ ((M.length:Int)<1):=by omega
 have h2':¬ (12<(M.length:Int)):=by omega
 have hM:0<M.length:=by omega
 obtain⟨g0,off0,A0,c0,rfl,hg0,hc0,hr0⟩:=SL.row HQ.out hM;rw[Nat.add_zero] at hc0;have n0:=zz hc0;have o0:=zz hg0;have q0:=zz hr0;clear hc0 hg0 hr0 h1 h2;go_enter Tryz.func31,Tryz.ntmps31
 go_wp2;clear h1' h2';go_loopw [15] (fun iv wr=>∃ j:Nat,j≤M.length∧iv=.int .i64 j∧Hid ((M.take j).all (rowX M)=true)∧Hid (Below w.heap.size w wr)) (fun iv _=>M.length-(intOf iv).toNat)
 case atStart=>exact⟨0,Nat.zero_le _,rfl,zz rfl,a0⟩
 case round=>
  obtain⟨j,hj,rfl,HP,HW⟩:=hrel;have zr:=HW.out.size;by_cases hlt:j<M.length
  ·obtain⟨g,off,A',c',e,hg,hcell,hrow⟩:=SL.row HQ.out hlt;injection e with e;injection e with e1 e2;subst e1;subst e2
   replace hcell:=(HW.out.cell (p:=⟨g0,off0+j,none⟩) hg).trans hcell;have hc0:=(HW.out.cell (p:=⟨g0,off0,none⟩) o0.out).trans n0.out;have i0:=zz (hrow.step EQ.stable HW.out);obtain⟨-,hr1,hr2⟩:=SL.len hrow;clear hrow hg;have hji:(0:Int)≤(j:Int)∧(j:Int)<(M.length:Int):=(by omega);have hmi:(0:Int)<(M.length:Int):=(by omega);have hall:(M.take (j+1)).all (rowX M)=rowX M M[j]:=by rw[List.take_add_one,List.getElem?_eq_getElem hlt,List.all_append,HP.out];simp
   have hfin:rowX M M[j]=false→okM M=false:=fun hr=>by rw[HO.out];exact List.all_eq_false.2 ⟨_,List.getElem_mem hlt,by rw[hr];decide⟩
   have hrx:rowX M M[j]=((decide (M[j].length≤6)&&decide (M[j].length=M[0].length))&&okL M[j]):=by unfold rowX;rw[getD_is hM]
   have k0:=zz hall;have f0:=zz hfin;have d0:=zz hrx;clear hall hfin hrx;generalize hU:M[j].length=u at hcell i0 hr1 hr2 d0;generalize hV:M[0].length=v at hc0 d0;have HU:=zz hU;have HV:=zz hV;clear hU hV;by_cases h6:6<u
   ·have h6':6<(u:Int):=by omega
    go_wp2;go_ret;exact⟨HW.out,by rw[f0.out (by rw[d0.out,decide_eq_false (by omega)];rfl)];rfl⟩
   have h6':¬ 6<(u:Int):=by omega
   by_cases he:u=v
   ·have he':((u:Int) != (v:Int))=false:=by rw[bne_eq_false_iff_eq];omega
    have p0:=zz he;clear he h6;go_wp2_with fail
    refine(list_any _ A' u c' M[j] i0.out).mono ?_;rintro e w1 ⟨hb,rfl⟩;have b0:=zz (HW.out.trans (hb.mono HW.out.size));clear hb hcell hc0;have h66:=zz (show(u:Int)≤6 by omega);clear h6';cases hl:okL M[j]
    case false=>
     have HL:=zz hl;clear hl;rw[show sysE false=350 from rfl];go_wp2;go_ret;exact⟨b0.out,by rw[f0.out (by rw[d0.out,HL.out,Bool.and_false])];rfl⟩
    case true=>
     have HL:=zz hl;clear hl;rw[show sysE true=0 from rfl];go_wp2;go_roundw
     case rel=>exact⟨j+1,hlt,by go_num,zz (by rw[k0.out,d0.out,HL.out,decide_eq_true p0.out,decide_eq_true (by have:=h66.out;omega)];rfl),b0⟩
     case measure=>simp[intOf];omega
   ·have he':((u:Int) != (v:Int))=true:=by rw[bne_iff_ne];omega
    go_wp2;go_ret;exact⟨HW.out,by rw[f0.out (by rw[d0.out,decide_eq_false he,Bool.and_false];rfl)];rfl⟩
  ·obtain rfl:j=M.length:=by omega
   rw[List.take_length] at HP;go_wp2;go_ret;exact⟨HW.out,by rw[HO.out,HP.out];rfl⟩
theorem info_row:(Tryz.prog.info? 75).map (fun i=>(i.zero,i.size,i.bytes))=some (some (.slice none 0 0),1,24):=by kernel_rfl
theorem mk_rows (n:Nat) (hn:n≤1000000) (w:World):(Instr.makeSlice 68 (.int .i64 (n:Int)) (.int .i64 (n:Int))).run Tryz.prog w =
  .ok (.slice (some ⟨w.heap.size,0,none⟩) n n) (w.alloc (.cells (madeCells #[.slice none 0 0] n) 75)):=by
 obtain⟨i,hi,hz,hs,hb⟩:=info_parts info_row;have h:=run_make (P:=Tryz.prog) w 68 75 i _ Tryz.underlying68 hi hz .i64 .i64 n n (by omega) (by omega) (by rw[hb];omega) (by omega);rw[h,hs];simp[Value.cells]
theorem made_hdr {T:TypeId} (w:World) (n:Nat):OB 1 EV T (w.alloc (.cells (madeCells #[.slice none 0 0] n) T)) w.heap.size n []:=by
 have h:=OB.made (k:=1) (E:=EV) (T:=T) (z:=#[.slice none 0 0]) w (by decide) (by decide) n
 rwa [Nat.mul_one] at h
theorem eachC_any (w:World) (A:Option Addr) (n c:Nat) (M:List (List Rat)) (F0:FuncId) (cv:Value) (f:List Rat→Rat) (h:RM w w.heap.size (.slice A n c) M) (hl:M.length≤1000000) (hrun:∀ args (w1:World),(callFunc F0 args).run Tryz.prog w1=.ok (.enter F0 args) w1)
  (hF:∀ (w1:World) (j:Nat) (hj:j<M.length) (A':Option Addr) (u c':Nat),Below w.heap.size w w1→RS w1 w1.heap.size (.slice A' u c') M[j]→Calls Tryz.prog F0 #[.slice A' u c',cv] w1 fun e w'=>Below w1.heap.size w1 w'∧∃ v,e=.returned v∧RV w' w'.heap.size v (f M[j])) :
  Calls Tryz.prog 44 #[.slice A n c,.func (.func F0) #[] #[cv]] w fun e w'=>Below w.heap.size w w'∧∃ g,e=.returned (.slice (some ⟨g,0,none⟩) M.length M.length)∧w.heap.size≤g∧OB 3 ER 84 w' g M.length (M.map f):=by
 obtain⟨rfl,hn1,hn2⟩:=SL.len h;have HQ:=zz h;have n0:=zz hl;have HF:=zz hF;clear h hF;have hmk:=mk_ratios M.length hl;have b0:=zz (below_alloc1 (Below.refl w.heap.size w) (.cells (madeCells #[.bool false,.slice none 0 0,.slice none 0 0] (M.length*3)) 84));have h0:=zz (OB.made (k:=3) (E:=ER) (T:=84) (z:=#[.bool false,.slice none 0 0,.slice none 0 0]) w (by decide) (by decide) M.length);go_enter Tryz.func44,Tryz.ntmps44
 go_wp2;clear hmk hl;go_loopw [13] (fun iv wr=>∃ j:Nat,j≤M.length∧iv=.int .i64 j∧Hid (OB 3 ER 84 wr w.heap.size M.length ((M.take j).map f))∧Hid (Below w.heap.size w wr)) (fun iv _=>M.length-(intOf iv).toNat)
 case atStart=>exact⟨0,Nat.zero_le _,rfl,h0,b0⟩
 case round=>
  obtain⟨j,hj,rfl,HO,HW⟩:=hrel;have zr:=HW.out.size;by_cases hlt:j<M.length
  ·obtain⟨g,off,A',c',rfl,hg,hcell,hrow⟩:=SL.row HQ.out hlt;replace hcell:=(HW.out.cell (p:=⟨g,off+j,none⟩) hg).trans hcell;have f0:=zz (hrow.step ER.stable HW.out);clear hrow hg;have hji:(0:Int)≤(j:Int)∧(j:Int)<(M.length:Int):=(by omega);generalize hU:M[j].length=u at hcell f0;go_wp2_with fail
   refine(HF.out _ j hlt A' u c' HW.out f0.out).mono ?_;rintro e w1 ⟨hb,v,rfl,hv⟩;have P1:=zz hb;have z1:=hb.size;have c0:=zz (HW.out.trans (hb.mono HW.out.size));clear hb hcell hU;obtain⟨vn,vA,vl,vc,vB,vm,vd,rfl,a0⟩:=hv;have HV:Hid (RV w1 w1.heap.size (.agg #[.bool vn,.slice vA vl vc,.slice vB vm vd]) (f M[j])):=zz ⟨_,_,_,_,_,_,_,rfl,a0⟩;clear a0;have d0:=zz (OB.step HO.out ER.stable P1.out);have hlen:((M.take j).map f).length=j:=by rw[List.length_map,List.length_take];omega
   have ht:(M.take j).map f++[f M[j]]=(M.take (j+1)).map f:=by rw[List.take_add_one,List.getElem?_eq_getElem hlt,List.map_append];rfl
   have hpush:=OB.push d0.out ER.soft ER.free (by rw[hlen];exact hlt) (cs:=[.bool vn,.slice vA vl vc,.slice vB vm vd]) (x:=f M[j]) rfl ⟨_,_,_,rfl,HV.out⟩;rw[hlen,ht] at hpush;have i0:=zz hpush;clear hpush ht hlen;obtain⟨o0,ho0⟩:=OB.room d0.out (p:=j*3) (by omega);obtain⟨o1,ho1⟩:=OB.room d0.out (p:=j*3+1) (by omega);obtain⟨o2,ho2⟩:=OB.room d0.out (p:=j*3+2) (by omega);have fz0:=OB.frozen d0.out (j*3);have fz1:=OB.frozen d0.out (j*3+1);have fz2:=OB.frozen d0.out (j*3+2);have flt:=OB.lt d0.out;have j0:=zz (below_sets (b:=w.heap.size) (Nat.le_refl _) c0.out (p:=j*3) (cs:=[.bool vn,.slice vA vl vc,.slice vB vm vd]));go_wp2;go_roundw
   case rel=>exact⟨j+1,hlt,by go_num,i0,j0⟩
   case measure=>simp[intOf];omega
  ·obtain rfl:j=M.length:=by omega
   rw[List.take_length] at HO;go_wp2;go_ret;exact⟨HW.out,_,rfl,Nat.le_refl _,HO.out⟩
theorem eachR_any (w:World) (A:Option Addr) (n c:Nat) (M:List (List Rat)) (F0:FuncId) (cv:Value) (f:List Rat→Rat) (h:RM w w.heap.size (.slice A n c) M) (hl:M.length≤1000000) (hrun:∀ args (w1:World),(callFunc F0 args).run Tryz.prog w1=.ok (.enter F0 args) w1)
  (hF:∀ (w1:World) (j:Nat) (hj:j<M.length) (A':Option Addr) (u c':Nat),Below w.heap.size w w1→RS w1 w1.heap.size (.slice A' u c') M[j]→Calls Tryz.prog F0 #[cv,.slice A' u c'] w1 fun e w'=>Below w1.heap.size w1 w'∧∃ v,e=.returned v∧RV w' w'.heap.size v (f M[j])) :
  Calls Tryz.prog 44 #[.slice A n c,.func (.func F0) #[cv] #[]] w fun e w'=>Below w.heap.size w w'∧∃ g,e=.returned (.slice (some ⟨g,0,none⟩) M.length M.length)∧w.heap.size≤g∧OB 3 ER 84 w' g M.length (M.map f):=by
 obtain⟨rfl,hn1,hn2⟩:=SL.len h;have HQ:=zz h;have n0:=zz hl;have HF:=zz hF;clear h hF;have hmk:=mk_ratios M.length hl;have b0:=zz (below_alloc1 (Below.refl w.heap.size w) (.cells (madeCells #[.bool false,.slice none 0 0,.slice none 0 0] (M.length*3)) 84));have h0:=zz (OB.made (k:=3) (E:=ER) (T:=84) (z:=#[.bool false,.slice none 0 0,.slice none 0 0]) w (by decide) (by decide) M.length);go_enter Tryz.func44,Tryz.ntmps44
 go_wp2;clear hmk hl;go_loopw [13] (fun iv wr=>∃ j:Nat,j≤M.length∧iv=.int .i64 j∧Hid (OB 3 ER 84 wr w.heap.size M.length ((M.take j).map f))∧Hid (Below w.heap.size w wr)) (fun iv _=>M.length-(intOf iv).toNat)
 case atStart=>exact⟨0,Nat.zero_le _,rfl,h0,b0⟩
 case round=>
  obtain⟨j,hj,rfl,HO,HW⟩:=hrel;have zr:=HW.out.size;by_cases hlt:j<M.length
  ·obtain⟨g,off,A',c',rfl,hg,hcell,hrow⟩:=SL.row HQ.out hlt;replace hcell:=(HW.out.cell (p:=⟨g,off+j,none⟩) hg).trans hcell;have f0:=zz (hrow.step ER.stable HW.out);clear hrow hg;have hji:(0:Int)≤(j:Int)∧(j:Int)<(M.length:Int):=(by omega);generalize hU:M[j].length=u at hcell f0;go_wp2_with fail
   refine(HF.out _ j hlt A' u c' HW.out f0.out).mono ?_;rintro e w1 ⟨hb,v,rfl,hv⟩;have P1:=zz hb;have z1:=hb.size;have c0:=zz (HW.out.trans (hb.mono HW.out.size));clear hb hcell hU;obtain⟨vn,vA,vl,vc,vB,vm,vd,rfl,a0⟩:=hv;have HV:Hid (RV w1 w1.heap.size (.agg #[.bool vn,.slice vA vl vc,.slice vB vm vd]) (f M[j])):=zz ⟨_,_,_,_,_,_,_,rfl,a0⟩;clear a0;have d0:=zz (OB.step HO.out ER.stable P1.out);have hlen:((M.take j).map f).length=j:=by rw[List.length_map,List.length_take];omega
   have ht:(M.take j).map f++[f M[j]]=(M.take (j+1)).map f:=by rw[List.take_add_one,List.getElem?_eq_getElem hlt,List.map_append];rfl
   have hpush:=OB.push d0.out ER.soft ER.free (by rw[hlen];exact hlt) (cs:=[.bool vn,.slice vA vl vc,.slice vB vm vd]) (x:=f M[j]) rfl ⟨_,_,_,rfl,HV.out⟩;rw[hlen,ht] at hpush;have i0:=zz hpush;clear hpush ht hlen;obtain⟨o0,ho0⟩:=OB.room d0.out (p:=j*3) (by omega);obtain⟨o1,ho1⟩:=OB.room d0.out (p:=j*3+1) (by omega);obtain⟨o2,ho2⟩:=OB.room d0.out (p:=j*3+2) (by omega);have fz0:=OB.frozen d0.out (j*3);have fz1:=OB.frozen d0.out (j*3+1);have fz2:=OB.frozen d0.out (j*3+2);have flt:=OB.lt d0.out;have j0:=zz (below_sets (b:=w.heap.size) (Nat.le_refl _) c0.out (p:=j*3) (cs:=[.bool vn,.slice vA vl vc,.slice vB vm vd]));go_wp2;go_roundw
   case rel=>exact⟨j+1,hlt,by go_num,i0,j0⟩
   case measure=>simp[intOf];omega
  ·obtain rfl:j=M.length:=by omega
   rw[List.take_length] at HO;go_wp2;go_ret;exact⟨HW.out,_,rfl,Nat.le_refl _,HO.out⟩
theorem eachQ_any (w:World) (A:Option Addr) (n c:Nat) (M:List (List QX)) (F0:FuncId) (f:List QX→List Rat) (h:QM w w.heap.size (.slice A n c) M) (hl:M.length≤1000000) (hrun:∀ args (w1:World),(callFunc F0 args).run Tryz.prog w1=.ok (.enter F0 args) w1)
  (hF:∀ (w1:World) (j:Nat) (hj:j<M.length) (A':Option Addr) (u c':Nat),Below w.heap.size w w1→QS w1 w1.heap.size (.slice A' u c') M[j]→Calls Tryz.prog F0 #[.slice A' u c'] w1 fun e w'=>Below w1.heap.size w1 w'∧∃ g,e=.returned (.slice (some ⟨g,0,none⟩) (f M[j]).length (f M[j]).length)∧w1.heap.size≤g∧(f M[j]).length≤9223372036854775807∧OB 3 ER 84 w' g (f M[j]).length (f M[j])) :
  Calls Tryz.prog 34 #[.slice A n c,.func (.func F0) #[] #[]] w fun e w'=>Below w.heap.size w w'∧∃ g G C,e=.returned (.slice (some ⟨g,0,none⟩) M.length M.length)∧OM 3 ER 84 75 w' w.heap.size g M.length G C (M.map f):=by
 obtain⟨rfl,hn1,hn2⟩:=SL.len h;have HQ:=zz h;have r0:=zz hl;have HF:=zz hF;clear h hF;have hmk:=mk_rows M.length hl;have c0:=zz (below_alloc1 (Below.refl w.heap.size w) (.cells (madeCells #[.slice none 0 0] M.length) 75));have j0:Hid (OM 3 ER 84 75 (w.alloc (.cells (madeCells #[.slice none 0 0] M.length) 75)) w.heap.size w.heap.size M.length (fun _=>0) (fun _=>0) ((M.take 0).map f)):=zz (OM.start 3 ER 84 (made_hdr (T:=75) w M.length) (Nat.le_refl _));go_enter Tryz.func34,Tryz.ntmps34
 go_wp2;clear hmk hl;go_loopw [13] (fun iv wr=>∃ (j:Nat) (G C:Nat→Nat),j≤M.length∧iv=.int .i64 j∧Hid (OM 3 ER 84 75 wr w.heap.size w.heap.size M.length G C ((M.take j).map f))∧Hid (Below w.heap.size w wr)) (fun iv _=>M.length-(intOf iv).toNat)
 case atStart=>exact⟨0,_,_,Nat.zero_le _,rfl,j0,c0⟩
 case round=>
  obtain⟨j,G,C,hj,rfl,HO,HW⟩:=hrel;have zr:=HW.out.size;by_cases hlt:j<M.length
  ·obtain⟨g,off,A',c',rfl,hg,hcell,hrow⟩:=SL.row HQ.out hlt;replace hcell:=(HW.out.cell (p:=⟨g,off+j,none⟩) hg).trans hcell;have i0:=zz (hrow.step EQ.stable HW.out);clear hrow hg;have hji:(0:Int)≤(j:Int)∧(j:Int)<(M.length:Int):=(by omega);generalize hU:M[j].length=u at hcell i0;go_wp2_with fail
   refine(HF.out _ j hlt A' u c' HW.out i0.out).mono ?_;rintro e w1 ⟨hb,v,rfl,hv,a0,b0⟩;have P1:=zz hb;have z1:=hb.size;have d0:=zz (HW.out.trans (hb.mono HW.out.size));have HV:=zz b0;have h0:=zz hv;have k0:=zz a0;clear hb hcell hU hv a0 b0;have f0:=zz (OM.step HO.out ER.stable P1.out);have hlen:((M.take j).map f).length=j:=by rw[List.length_map,List.length_take];omega
   have ht:(M.take j).map f++[f M[j]]=(M.take (j+1)).map f:=by rw[List.take_add_one,List.getElem?_eq_getElem hlt,List.map_append];rfl
   have hpush:=(OM.push f0.out ER.soft (by rw[hlen];exact hlt) (g:=v) (c:=(f M[j]).length) (l:=f M[j]) ⟨by have:=HO.out.lt;have:=h0.out;omega,by have:=h0.out;omega⟩ (fun i hi=>by have:=(HO.out.rows i hi).lt;have:=h0.out;omega) ⟨Nat.le_refl _,k0.out⟩ HV.out).1;rw[hlen,ht] at hpush;have l0:=zz hpush;clear hpush ht hlen;obtain⟨o0,ho0⟩:=OB.room f0.out.hdr (p:=j) (by omega);have fz0:=OM.frozen f0.out j;have flt:=OM.lt f0.out;generalize hfl:(f M[j]).length=fl at *
   have m0:=zz (below_sets (b:=w.heap.size) (Nat.le_refl _) d0.out (p:=j) (cs:=[.slice (some ⟨v,0,none⟩) fl fl]));go_wp2;go_roundw
   case rel=>exact⟨j+1,_,_,hlt,by go_num,l0,m0⟩
   case measure=>simp[intOf];omega
  ·obtain rfl:j=M.length:=by omega
   rw[List.take_length] at HO;go_wp2;go_ret;exact⟨HW.out,_,_,_,rfl,HO.out⟩
theorem eachM_any (w:World) (A:Option Addr) (n c:Nat) (M:List (List Rat)) (F0:FuncId) (cv:Value) (f:List Rat→List Rat) (h:RM w w.heap.size (.slice A n c) M) (hl:M.length≤1000000) (hrun:∀ args (w1:World),(callFunc F0 args).run Tryz.prog w1=.ok (.enter F0 args) w1)
  (hF:∀ (w1:World) (j:Nat) (hj:j<M.length) (A':Option Addr) (u c':Nat),Below w.heap.size w w1→RS w1 w1.heap.size (.slice A' u c') M[j]→Calls Tryz.prog F0 #[.slice A' u c',cv] w1 fun e w'=>Below w1.heap.size w1 w'∧∃ g,e=.returned (.slice (some ⟨g,0,none⟩) (f M[j]).length (f M[j]).length)∧w1.heap.size≤g∧(f M[j]).length≤9223372036854775807∧OB 3 ER 84 w' g (f M[j]).length (f M[j])) :
  Calls Tryz.prog 79 #[.slice A n c,.func (.func F0) #[] #[cv]] w fun e w'=>Below w.heap.size w w'∧∃ g G C,e=.returned (.slice (some ⟨g,0,none⟩) M.length M.length)∧OM 3 ER 84 75 w' w.heap.size g M.length G C (M.map f):=by
 obtain⟨rfl,hn1,hn2⟩:=SL.len h;have HQ:=zz h;have r0:=zz hl;have HF:=zz hF;clear h hF;have hmk:=mk_rows M.length hl;have c0:=zz (below_alloc1 (Below.refl w.heap.size w) (.cells (madeCells #[.slice none 0 0] M.length) 75));have j0:Hid (OM 3 ER 84 75 (w.alloc (.cells (madeCells #[.slice none 0 0] M.length) 75)) w.heap.size w.heap.size M.length (fun _=>0) (fun _=>0) ((M.take 0).map f)):=zz (OM.start 3 ER 84 (made_hdr (T:=75) w M.length) (Nat.le_refl _));go_enter Tryz.func79,Tryz.ntmps79
 go_wp2;clear hmk hl;go_loopw [13] (fun iv wr=>∃ (j:Nat) (G C:Nat→Nat),j≤M.length∧iv=.int .i64 j∧Hid (OM 3 ER 84 75 wr w.heap.size w.heap.size M.length G C ((M.take j).map f))∧Hid (Below w.heap.size w wr)) (fun iv _=>M.length-(intOf iv).toNat)
 case atStart=>exact⟨0,_,_,Nat.zero_le _,rfl,j0,c0⟩
 case round=>
  obtain⟨j,G,C,hj,rfl,HO,HW⟩:=hrel;have zr:=HW.out.size;by_cases hlt:j<M.length
  ·obtain⟨g,off,A',c',rfl,hg,hcell,hrow⟩:=SL.row HQ.out hlt;replace hcell:=(HW.out.cell (p:=⟨g,off+j,none⟩) hg).trans hcell;have i0:=zz (hrow.step ER.stable HW.out);clear hrow hg;have hji:(0:Int)≤(j:Int)∧(j:Int)<(M.length:Int):=(by omega);generalize hU:M[j].length=u at hcell i0;go_wp2_with fail
   refine(HF.out _ j hlt A' u c' HW.out i0.out).mono ?_;rintro e w1 ⟨hb,v,rfl,hv,a0,b0⟩;have P1:=zz hb;have z1:=hb.size;have d0:=zz (HW.out.trans (hb.mono HW.out.size));have HV:=zz b0;have h0:=zz hv;have k0:=zz a0;clear hb hcell hU hv a0 b0;have f0:=zz (OM.step HO.out ER.stable P1.out);have hlen:((M.take j).map f).length=j:=by rw[List.length_map,List.length_take];omega
   have ht:(M.take j).map f++[f M[j]]=(M.take (j+1)).map f:=by rw[List.take_add_one,List.getElem?_eq_getElem hlt,List.map_append];rfl
   have hpush:=(OM.push f0.out ER.soft (by rw[hlen];exact hlt) (g:=v) (c:=(f M[j]).length) (l:=f M[j]) ⟨by have:=HO.out.lt;have:=h0.out;omega,by have:=h0.out;omega⟩ (fun i hi=>by have:=(HO.out.rows i hi).lt;have:=h0.out;omega) ⟨Nat.le_refl _,k0.out⟩ HV.out).1;rw[hlen,ht] at hpush;have l0:=zz hpush;clear hpush ht hlen;obtain⟨o0,ho0⟩:=OB.room f0.out.hdr (p:=j) (by omega);have fz0:=OM.frozen f0.out j;have flt:=OM.lt f0.out;generalize hfl:(f M[j]).length=fl at *
   have m0:=zz (below_sets (b:=w.heap.size) (Nat.le_refl _) d0.out (p:=j) (cs:=[.slice (some ⟨v,0,none⟩) fl fl]));go_wp2;go_roundw
   case rel=>exact⟨j+1,_,_,hlt,by go_num,l0,m0⟩
   case measure=>simp[intOf];omega
  ·obtain rfl:j=M.length:=by omega
   rw[List.take_length] at HO;go_wp2;go_ret;exact⟨HW.out,_,_,_,rfl,HO.out⟩
end Go.Proofs.YtdigbofiebfkeaaGreatDoor
