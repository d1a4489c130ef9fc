/- Texts put together. -/
import Derived.Test.YtencnahjgbdeoaaGreatDoorLa1
import Derived.Test.YtencnahjgbdeoaaGreatDoorQQ
import Derived.Test.YtencnahjgbdeoaaGreatDoorQa
namespace Go.Proofs.YtencnahjgbdeoaaGreatDoor
open Go Go.RowKit Dig
set_option maxRecDepth 100000
set_option maxHeartbeats 4000000
set_option linter.unusedSimpArgs false
variable {w:World}
theorem VI {e:Ending} (h:uU w (MY 0 1) e):∃ v,e=.returned (.tuple #[v,.int .i64 0])∧QV w w.heap.size v 0:=by
 have e1:MY 0 1=(some 0,0):=by
  rw[show MY 0 1=_ from BK (x:=0) (y:=1) (c:=mkRat 0 1) (by decide) (by decide +kernel) (eV (x:=0) (d:=1) (by decide) (by decide +kernel) (by decide +kernel) (by decide +kernel))]
  rfl
 rw[e1] at h;exact h
theorem uX {B:Nat} {n m:Bool} {A A':Option Addr} {l c l' c':Nat} {q:Rat} (h:QV w B (.agg #[.bool n,.slice A l c,.bool m,.slice A' l' c']) q):RV w B (.agg #[.bool n,.slice A l c,.slice A' l' c']) q:=by
 obtain⟨h1,h2,h3,-⟩:=h.is;exact aMd h1 h2 (fun _=>h3)
theorem qT (w:World) :
  CV 73 #[] w fun e w'=>∃ v,e=.returned v∧RV w' w'.heap.size v 0:=by
 obtain⟨w0,hw0⟩:=ex (w.alloc (.cells #[.bool false,.slice none 0 0,.slice none 0 0] 88));have B0:=zz (cK hw0);have z0:=cJ hw0;have Lr0:=cL hw0;go_enter Tryz.func73,Tryz.ntmps73
 go_upto_region 1 with (fail)
 rw[← hw0];clear hw0;go_wp2_with fail
 refine(nx B0 (((BR _ 0 1 (by decide) (by decide) (by decide) (by decide)).mono fun e w' h=>aEn h.1 (VI h.2)))).mono ?_;rintro e w1 ⟨⟨B2,z2,u0⟩,v,rfl,hv⟩;obtain⟨C0,D0,E0,F0,G0,d0,H0,rfl,ha4,m0,hc4⟩:=hv;have o0:=zz (show QV w1 w1.heap.size (.agg #[.bool C0,.slice D0 E0 F0,.bool false,.slice G0 d0 H0]) 0 from⟨_,_,_,_,_,_,_,rfl,ha4,m0,hc4⟩);clear ha4 m0 hc4;go_upto_region 2 with (fail)
 obtain⟨w5,c0⟩:=ex (w1.alloc (.cells #[.bool C0,.slice D0 E0 F0,.bool false,.slice G0 d0 H0] 28));rw[← c0];have b0:=cL c0;have za5:=cJ c0;have B6:=zz (cK c0);have z6:=B6.o.size;have v0:=tr u0 B6;clear c0;have p0:=cz4 b0;go_wp2_with fail
 refine(nx v0 (gU _ _ _ _ _ _ _ _ _)).mono ?_;rintro e w8 ⟨⟨B10,z10,t0⟩,rfl⟩;clear p0;have P0:=tr B6 B10;have e0:=st aHf o0 P0;have HZ:=zz (uX e0.o);have W0:=tr B2 B6;have Y0:=tr W0 B10;have a0:=aEd Lr0 Y0.o;have f0:=cz3 a0;have i0:=fz3 a0;go_wp2;clear f0 i0;exact TB.fin rfl a0 (by simp[aF,aE]) t0.o (by omega) HZ.o rfl
theorem fJ (w:World) (A B:Option Addr) (n c m d:Nat) (r s:List Rat) (hr:RS w w.heap.size (.slice A n c) r) (hs:RS w w.heap.size (.slice B m d) s) (hle:r.length≤s.length)
  (hL:∀ j,j<r.length→QL 60000000 60000000 (r.getD j 0)∧QL 60000000 60000000 (s.getD j 0)∧QL 60000000 60000000 (r.getD j 0*s.getD j 0)∧QL 60000000 60000000 (aJ r s j)) :
  CV 52 #[.slice A n c,.slice B m d] w fun e w'=>∃ v,e=.returned v∧RV w' w'.heap.size v (bK r s):=by
 obtain⟨rfl,hn1,hn2⟩:=aHb hr;obtain⟨rfl,hm1,hm2⟩:=aHb hs;have M1:=zz hr;have N1:=zz hs;have HL:=zz hL;clear hr hs hL;obtain⟨w0,hw0⟩:=ex (w.alloc (.cells #[.bool false,.slice none 0 0,.slice none 0 0] 88));have B0:=zz (cK hw0);have z0:=cJ hw0;have Lr4:=cL hw0;go_enter Tryz.func52,Tryz.ntmps52
 go_upto_region 1 with (fail)
 rw[← hw0];clear hw0;go_wp2_with fail
 refine(nx B0 (qT _)).mono ?_;rintro e w1 ⟨⟨B2,z2,i1⟩,v,rfl,hv⟩;obtain⟨s1,t1,u1,v1,x1,i0,y1,rfl,ha4,Y0,hc4⟩:=hv;have Z0:Hi (RV w1 w1.heap.size (.agg #[.bool s1,.slice t1 u1 v1,.slice x1 i0 y1]) 0):=zz (aMd ha4 Y0 hc4);clear ha4 Y0 hc4;have H0:=zz (show RV w1 w1.heap.size (.agg #[.bool s1,.slice t1 u1 v1,.slice x1 i0 y1]) (aJ r s 0) from Z0.o);go_upto_region 2 with (fail)
 obtain⟨w5,h0⟩:=ex (w1.alloc (.cells #[.bool s1,.slice t1 u1 v1,.slice x1 i0 y1] 88));rw[← h0];have n0:=cL h0;have za5:=cJ h0;have B6:=zz (cK h0);have z6:=B6.o.size;have j1:=tr i1 B6;clear h0;go_wp2;have r1:=zz (show w.heap.size<w1.heap.size by omega);have u0:=st aHm H0 B6;have P1:=tr B2 B6;have v0:=aEd Lr4 P1.o;go_loopw [11] (fun iv wr=>∃ (j:Nat) (on:Bool) (oA:Option Addr) (ol oc:Nat) (oB:Option Addr) (om od:Nat),j≤r.length∧iv=.int .i64 j∧Hi (CB wr w1.heap.size 88 #[.bool on,.slice oA ol oc,.slice oB om od])∧Hi (RV wr wr.heap.size (.agg #[.bool on,.slice oA ol oc,.slice oB om od]) (aJ r s j))∧Hi (CB wr w.heap.size 88 #[.bool false,.slice none 0 0,.slice none 0 0])∧Hi (Below w.heap.size w wr)) (fun iv _=>r.length-(intOf iv).toNat)
 case atStart=>exact⟨0,_,_,_,_,_,_,_,aEy _,rfl,zz n0,zz u0.o,zz v0,j1⟩
 case round=>
  obtain⟨j,on,oA,ol,oc,oB,om,od,hj,rfl,HC,HV,HR,HW⟩:=hrel;have zr:=HW.o.size;by_cases hlt:j<r.length
  ·obtain⟨g,off,xn,xA,xl,xc,xB,xu,xd,rfl,hg,hE,hx⟩:=RS.elem M1.o hlt;obtain⟨g',off',yn,yA,yl,yc,yB,yu,yd,rfl,hg',hE',hy⟩:=RS.elem N1.o (aEt hlt hle);replace hE:=hE.step HW.o;replace hE':=hE'.step HW.o;have HX:=zz (show RV wr wr.heap.size _ (r.getD j 0) from aG hlt▸aHm hx HW.o);have HY:=zz (show RV wr wr.heap.size _ (s.getD j 0) from aG (aEt hlt hle)▸aHm hy HW.o);clear hx hy hg hg';obtain⟨hq1,hq2,hq3,hq4⟩:=HL.o j hlt;have HQ:=zz (aEn hq1 (aEn hq2 (aEn hq3 hq4)));clear hq1 hq2 hq3 hq4;have hji:(0:Int)≤(j:Int)∧(j:Int)<(r.length:Int):=(by omega);have hjs:(j:Int)<(s.length:Int):=(by omega);have x0:=ez3 hE;go_upto_region 5 with (fail)
   clear x0;obtain⟨w12,d0⟩:=ex (wr.alloc (.cells #[.bool xn,.slice xA xl xc,.slice xB xu xd] 88));rw[← d0];have j0:=cL d0;have za12:=cJ d0;have B13:=zz (cK d0);have z13:=B13.o.size;have a1:=tr HW B13;clear d0;have zl1:=HC.o.lt;have zl2:=HR.o.lt;have g0:=aEd HC.o B13.o;have e0:=aIb hE' B13.o;refine aFq [se 0 16 [] (.agg #[.bool on,.slice oA ol oc,.slice oB om od]),se 1 17 [] (.agg #[.bool xn,.slice xA xl xc,.slice xB xu xd]),se 2 18 [] (.slice (some ⟨g',off',none⟩) s.length d),se 3 19 [] (.int .i64 (j:Int)),se 4 20 [2,3] (.pointer (some ⟨g',off'+j*3,none⟩)),se 5 21 [4] (.agg #[.bool yn,.slice yA yl yc,.slice yB yu yd]),sf 6 22 [1,5] (fun fv fw=>RV fw fw.heap.size fv (r.getD j 0*s.getD j 0)),sf 7 23 [0,6] (fun fv fw=>RV fw fw.heap.size fv (aJ r s j+r.getD j 0*s.getD j 0))] 1 (SB g0 (SB j0 (SC (fun _ h=>(aIb e0 h).c0) (SC (fun _ h=>(aIb e0 h).c1) (SC (fun _ h=>(aIb e0 h).c2) S0))))) (MA (fun _ _ _ h hb=>h.step hb) (MA (fun _ _ _ h hb=>h.step hb) aFi)) ?_ ?_
   ·intro xs a_ hA;simp only[SX,↓reduceIte,Nat.reduceEqDiff,Nat.reduceAdd] at hA⊢;subst hA;and_intros
    all_goals intro wk b_ z_
    all_goals try exact pl
    ·intro f1 f5;intros;refine wo fun K hK=>?_;go_simp;have W1:=tr B13 b_;have o0:=st aHm HX W1;have p0:=st aHm HY W1;(with_reducible refine(rM _ _ _ _ _ o0.o p0.o HQ.o.1 HQ.o.2.1).mono ?_)
     rintro e wc20 ⟨b1,v20,rfl,d1⟩;refine hK _ _ ⟨v20,by simp only[FL,f1,f5] <;> kernel_rfl,b1,d1⟩
    ·intro f0 f6;intros;refine wo fun K hK=>?_;go_simp;have Y1:=tr B13 b_;have l0:=st aHm HV Y1;(with_reducible refine(FX _ _ _ _ _ l0.o f6 HQ.o.2.2.2 HQ.o.2.2.1).mono ?_)
     rintro e wc23 ⟨e1,v23,rfl,g1⟩;refine hK _ _ ⟨v23,by simp only[FL,f0] <;> kernel_rfl,e1,g1⟩
   ·intro xs q1 B25 z25;simp only[SY];have h1:=tr a1 B25;generalize xs 6=x6,xs 7=x7;rintro f6 f7;clear f6;obtain⟨A1,B1,C1,D1,E1,k0,F1,rfl,ha27,q0,hc27⟩:=f7;have C0:Hi (RV q1 q1.heap.size (.agg #[.bool A1,.slice B1 C1 D1,.slice E1 k0 F1]) (aJ r s j+r.getD j 0*s.getD j 0)):=zz (aMd ha27 q0 hc27);clear ha27 q0 hc27;have a0:=aEd g0 B25.o;have D0:=cz3 a0;have G0:=fz3 a0;refine EN 8 rfl fun K hK=>?_;go_simp;refine hK _ _ ?_;clear hK K;(try simp only[PT])
    clear D0 G0;refine ED ?_;(try simp only[Exit.then])
    have X1:=tr B13 B25;have s0:=aEd HR.o X1.o;have K0:=aEd j0 B25.o;obtain⟨w34,b0⟩:=ex (((q1.setCell ⟨w1.heap.size,0,none⟩ (.bool A1)).setCell ⟨w1.heap.size,1,none⟩ (.slice B1 C1 D1)).setCell ⟨w1.heap.size,2,none⟩ (.slice E1 k0 F1));rw[← b0];have S34:=zz (aDf b0 a0 (by simp[aF,aE]));have t0:=aCg b0 s0 ((by have:=r1.o;have:=HC.o.lt;omega));have k1:=aCg b0 K0 ((by have:=r1.o;have:=HC.o.lt;omega));have m0:=aDg b0 a0;have L0:=zz (aDh b0 h1.o (by have:=r1.o;omega));have l1:=aDe b0;clear b0;go_wp2;go_roundw;have M0:=zz (RV.soft C0.o (S34.o))
    case rel=>exact⟨j+1,_,_,_,_,_,_,_,by omega,by go_num,zz m0,zz M0.o,zz t0,L0⟩
    case measure=>exact ms
  ·obtain rfl:j=r.length:=by omega
   have m1:=r1.o;have N0:=cz3 HC.o;have Q0:=cz3 HR.o;have U0:=fz3 HR.o;go_wp2;clear N0 Q0 U0;exact TB.fin rfl HR.o (by simp[aF,aE]) HW.o (by omega) HV.o rfl
theorem WL (w:World) (A:Option Addr) (n c:Nat) (M:List (List Rat)) (h:RM w w.heap.size (.slice A n c) M) (hM:0<M.length) :
  CV 72 #[.slice A n c] w fun e _=>e=.returned (.int .i64 ((M[0].length:Int)-1)):=by
 obtain⟨rfl,hn1,hn2⟩:=aHb h;obtain⟨g,off,A',c',rfl,hg,hcell,hrow⟩:=aKy h hM;obtain⟨-,hc1,hc2⟩:=aHb hrow;rw[aGd] at hcell;have h0:(0:Int)<(M.length:Int):=by omega
 have hw:IntKind.i64.wrap ((M[0].length:Int)-1)=(M[0].length:Int)-1:=aHa _ (by omega);have HB:=zz (aDy w.heap.size w);go_enter Tryz.func72,Tryz.ntmps72
 go_wp2;go_ret;exact⟨HB.o,rfl⟩
theorem GP (w:World) (A:Option Addr) (n c N j:Nat) (r:List Rat) (hr:RS w w.heap.size (.slice A n c) r) (hj:j<r.length) (hN:One w N 3 (.int .i64 j)) :
  CV 129 #[.slice A n c,.pointer (some ⟨N,0,none⟩)] w fun e w'=>∃ v,e=.returned v∧RV w' w'.heap.size v (r.getD j 0):=by
 obtain⟨rfl,hn1,hn2⟩:=aHb hr;obtain⟨g,off,xn,xA,xl,xc,xB,xu,xd,rfl,hg,hE,hx⟩:=RS.elem hr hj;have HX:=zz (show RV w w.heap.size _ (r.getD j 0) from aG hj▸hx);clear hx hr hg;have hji:(0:Int)≤(j:Int)∧(j:Int)<(r.length:Int):=(by omega);obtain⟨w0,hw0⟩:=ex (w.alloc (.cells #[.bool false,.slice none 0 0,.slice none 0 0] 88));have B0:=zz (cK hw0);have z0:=cJ hw0;have Lr3:=cL hw0;go_enter Tryz.func129,Tryz.ntmps129
 go_upto_region 1 with (fail)
 rw[← hw0];clear hw0;have b0:=aNf hN B0.o;have e0:=b0.cell;have f0:=b0.frozen;have p0:=b0.lt;have a0:=aIb hE B0.o;have g0:=ez3 a0;have j0:=cz3 Lr3;have m0:=fz3 Lr3;go_wp2;clear e0 f0 p0 g0 j0 m0;have d0:=st aHm HX B0;exact TB.fin rfl Lr3 (by simp[aF,aE]) B0.o (by omega) d0.o rfl
theorem IG (w:World) (A:Option Addr) (n c:Nat) (l:List Rat) (h:QS w w.heap.size (.slice A n c) (l.map qx)) (hl:l.length≤1000000) :
  CV 91 #[.slice A n c,.func (.func 54) #[] #[]] w fun e w'=>∃ g,e=.returned (.slice (some ⟨g,0,none⟩) l.length l.length)∧w.heap.size≤g∧OB 3 ER 88 w' g l.length l:=by
 obtain⟨hn,hn1,hn2⟩:=aHb h;rw[aEb] at hn;subst hn;have HQ:=zz h;have C0:=zz hl;clear h;have hmk:=sU l.length hl;have n0:=zz (aB (aDy w.heap.size w) (.cells (madeCells #[.bool false,.slice none 0 0,.slice none 0 0] (l.length*3)) 88));have w0:=zz (OB.made (k:=3) (E:=ER) (T:=88) (z:=#[.bool false,.slice none 0 0,.slice none 0 0]) w (by decide) (by decide) l.length);go_enter Tryz.func91,Tryz.ntmps91
 go_wp2;clear hmk hl;go_loopw [13] (fun iv wr=>∃ j:Nat,j≤l.length∧iv=.int .i64 j∧Hi (OB 3 ER 88 wr w.heap.size l.length (l.take j))∧Hi (Below w.heap.size w wr)) (fun iv _=>l.length-(intOf iv).toNat)
 case atStart=>exact⟨0,aEy _,rfl,w0,n0⟩
 case round=>
  obtain⟨j,hj,rfl,HO,HW⟩:=hrel;have zr:=HW.o.size;by_cases hlt:j<l.length
  ·obtain⟨g,off,xA,xl,xc,xB,xu,xd,rfl,hg,hE,hx⟩:=aKm HQ.o (j:=j) (by simpa using hlt);replace hE:=hE.step HW.o;simp only[aGm] at hE hx;have HX:=zz (aHf (QR.qv hx) HW.o);clear hx hg;have hji:(0:Int)≤(j:Int)∧(j:Int)<(l.length:Int):=(by omega);have f0:=ez4 hE;go_upto_region 5 with (fail)
   clear f0;obtain⟨w2,b0⟩:=ex (wr.alloc (.cells #[.bool (qx l[j]).1.1,.slice xA xl xc,.bool (qx l[j]).2.1,.slice xB xu xd] 28));rw[← b0];have a0:=cL b0;have za2:=cJ b0;have B3:=zz (cK b0);have z3:=B3.o.size;have p0:=tr HW B3;clear b0;have j0:=cz4 a0;go_wp2_with fail
   refine(nx p0 (gU _ _ _ _ _ _ _ _ _)).mono ?_;rintro e w5 ⟨⟨B7,z7,q0⟩,rfl⟩;clear j0;have P0:=tr B3 B7;have d0:=st aHf HX P0;have HZ:=zz (uX d0.o);have r0:=zz (aKi HO.o aEw P0.o);have hlen:(l.take j).length=j:=by rw[aEk];omega
   have ht:l.take j++[l[j]]=l.take (j+1):=by rw[aFj,aEh hlt];rfl
   have hpush:=OB.push r0.o aKb ER.free (by rw[hlen];exact hlt) (cs:=[.bool (qx l[j]).1.1,.slice xA xl xc,.slice xB xu xd]) (x:=l[j]) rfl ⟨_,_,_,rfl,HZ.o⟩;rw[hlen,ht] at hpush;have x0:=zz hpush;clear hpush ht hlen;obtain⟨o0,ho0⟩:=aIy r0.o (p:=j*3) (by omega);obtain⟨o1,ho1⟩:=aIy r0.o (p:=j*3+1) (by omega);obtain⟨o2,ho2⟩:=aIy r0.o (p:=j*3+2) (by omega);have fz0:=aHn r0.o (j*3);have fz1:=aHn r0.o (j*3+1);have fz2:=aHn r0.o (j*3+2);have flt:=OB.lt r0.o;have y0:=zz (bS (b:=w.heap.size) (aEa _) q0.o (p:=j*3) (cs:=[.bool (qx l[j]).1.1,.slice xA xl xc,.slice xB xu xd]));go_wp2;go_roundw
   case rel=>exact⟨j+1,hlt,by go_num,x0,y0⟩
   case measure=>exact ms
  ·obtain rfl:j=l.length:=by omega
   rw[aFe] at HO;go_wp2;go_ret;exact⟨HW.o,_,rfl,aEa _,HO.o⟩
theorem vI (w:World) (A:Option Addr) (n c:Nat) (l:List Rat) (h:QS w w.heap.size (.slice A n c) (l.map qx)) (hl:l.length≤1000000) :
  CV 40 #[.slice A n c] w fun e w'=>∃ g,e=.returned (.slice (some ⟨g,0,none⟩) l.length l.length)∧w.heap.size≤g∧OB 3 ER 88 w' g l.length l:=by
 go_enter Tryz.func40,Tryz.ntmps40
 go_wp2_with fail
 refine(IG _ A n c l h hl).mono ?_;rintro e w1 ⟨hb,g,rfl,hg,ho⟩;have HB:=zz hb;have HO:=zz ho;have HG:=zz hg;clear hb ho hg;go_wp2;go_ret;exact⟨HB.o,g,rfl,HG.o,HO.o⟩
theorem AN (a b:Nat):decide (a≤b)=!decide (b<a):=by
 by_cases h:a≤b
 ·rw[aEj h,aEe (by omega)];rfl
 ·rw[aEe h,aEj (by omega)];rfl
theorem ZH (x y:Nat):decide (max (x:Int) (y:Int)≤4)=(decide (x≤4)&&decide (y≤4)):=by
 by_cases h1:x≤4 <;> by_cases h2:y≤4 <;> simp[h1,h2] <;> omega
def bD:Bool→Int
 | true=>0
 | false=>350
theorem QR.lens {B:Nat} {n m:Bool} {a b:List Int} {A A':Option Addr} {u c u' c':Nat} (h:QR w B (.agg #[.bool n,.slice A u c,.bool m,.slice A' u' c']) n a m b):u=a.length∧u'=b.length:=by
 obtain⟨A1,u1,c1,A2,u2,c2,e,h1,h2⟩:=h;injection e with e
 simp at e
 obtain⟨⟨rfl,rfl,rfl⟩,rfl,rfl,rfl⟩:=e;exact⟨RI.len h1,RI.len h2⟩
noncomputable def pG (M:List (List QX)) (r:List QX):Bool:=(decide (r.length≤6)&&decide (r.length=(M.getD 0 []).length))&&dC r
theorem BH {M:List (List QX)}:eA M=(!(decide (M.length<1)||decide (12<M.length))&&M.all (pG M)):=by
 unfold eA;rw[Bool.not_or,AN,AN]
 rfl
theorem RE (w:World) (A A':Option Addr) (u c u' c':Nat) (n m:Bool) (a b:List Int) (h:QR w w.heap.size (.agg #[.bool n,.slice A u c,.bool m,.slice A' u' c']) n a m b) :
  CV 89 #[.agg #[.bool n,.slice A u c,.bool m,.slice A' u' c']] w fun e _=>e=.returned (.bool (eC ((n,a),(m,b)))):=by
 obtain⟨rfl,rfl⟩:=QR.lens h;have HX:=zz h;clear h;obtain⟨w0,hw0⟩:=ex (w.alloc (.cells #[.bool n,.slice A a.length c,.bool m,.slice A' b.length c'] 28));have B0:=zz (cK hw0);have z0:=cJ hw0;have Lq:=cL hw0;cases hs:(nS n a m b).isSome
 case false=>
  have HC:=zz (show tZ n a m b=40 by unfold tZ;rw[hs];rfl);have HS:=zz hs;clear hs;go_enter Tryz.func89,Tryz.ntmps89
  go_upto_region 1 with (fail)
  rw[← hw0];clear hw0;have k0:=cz4 Lq;go_wp2_with fail
  have d0:=st aHz HX B0;refine(nx B0 (jX _ _ n a m b d0.o)).mono ?_;rintro e w1 ⟨⟨B4,z4,y0⟩,rfl⟩;clear k0;rw[HC.o];have b0:=aEd Lq B4.o;have o0:=cz4 b0;go_wp2;clear o0;go_ret;exact⟨y0.o,by unfold eC qv;rw[HS.o];rfl⟩
 case true=>
  have HC:=zz (show tZ n a m b=0 by unfold tZ;rw[hs];rfl);have HS:=zz hs;clear hs;go_enter Tryz.func89,Tryz.ntmps89
  go_upto_region 1 with (fail)
  rw[← hw0];clear hw0;have s0:=cz4 Lq;go_wp2_with fail
  have c0:=st aHz HX B0;refine(nx B0 (jX _ _ n a m b c0.o)).mono ?_;rintro e w8 ⟨⟨B11,z11,x0⟩,rfl⟩;clear s0;rw[HC.o];have a0:=aEd Lq B11.o;have e0:=cz4 a0;go_wp2;clear e0;go_ret;exact⟨x0.o,by unfold eC qv;rw[HS.o];show Ending.returned (.bool (decide (max (a.length:Int) (b.length:Int)≤4)))=_;rw[ZH];rfl⟩
theorem SH (w:World) (A A':Option Addr) (u c u' c':Nat) (n m:Bool) (a b:List Int) (h:QR w w.heap.size (.agg #[.bool n,.slice A u c,.bool m,.slice A' u' c']) n a m b) :
  CV 88 #[.agg #[.bool n,.slice A u c,.bool m,.slice A' u' c']] w fun e _=>e=.returned (.bool (!eC ((n,a),(m,b)))):=by
 obtain⟨rfl,rfl⟩:=QR.lens h;have HX:=zz h;clear h;obtain⟨w0,hw0⟩:=ex (w.alloc (.cells #[.bool n,.slice A a.length c,.bool m,.slice A' b.length c'] 28));have B0:=zz (cK hw0);have z0:=cJ hw0;have Lq:=cL hw0;go_enter Tryz.func88,Tryz.ntmps88
 go_upto_region 1 with (fail)
 rw[← hw0];clear hw0;have c0:=cz4 Lq;go_wp2_with fail
 have a0:=st aHz HX B0;refine(nx B0 (RE _ _ _ _ _ _ _ n m a b a0.o)).mono ?_;rintro e w1 ⟨⟨B4,z4,g0⟩,rfl⟩;clear c0;go_wp2;go_ret;exact⟨g0.o,rfl⟩
theorem LP (w:World) (A:Option Addr) (n c:Nat) (l:List QX) (p:QX→Bool) (F0:FuncId) (h:QS w w.heap.size (.slice A n c) l) (hrun:∀ args (w1:World),(callFunc F0 args).run Tryz.prog w1=.ok (.enter F0 args) w1)
  (hF:∀ (w1:World) (A A':Option Addr) (u c u' c':Nat) (n m:Bool) (a b:List Int),QR w1 w1.heap.size (.agg #[.bool n,.slice A u c,.bool m,.slice A' u' c']) n a m b→Calls Tryz.prog F0 #[.agg #[.bool n,.slice A u c,.bool m,.slice A' u' c']] w1 fun e w'=>Below w1.heap.size w1 w'∧e=.returned (.bool (p ((n,a),(m,b))))) :
  CV 109 #[.slice A n c,.func (.func F0) #[] #[]] w fun e _=>∃ i:Int,e=.returned (.int .i64 i)∧decide (0≤i)=l.any p:=by
 obtain⟨rfl,hn1,hn2⟩:=aHb h;have HQ:=zz h;have HF:=zz hF;clear h hF;have b0:=zz (aDy w.heap.size w);go_enter Tryz.func109,Tryz.ntmps109
 go_wp2;go_loopw [8] (fun iv wr=>∃ j:Nat,j≤l.length∧iv=.int .i64 j∧Hi ((l.take j).any p=false)∧Hi (Below w.heap.size w wr)) (fun iv _=>l.length-(intOf iv).toNat)
 case atStart=>exact⟨0,aEy _,rfl,zz rfl,b0⟩
 case round=>
  obtain⟨j,hj,rfl,HP,HW⟩:=hrel;have zr:=HW.o.size;by_cases hlt:j<l.length
  ·obtain⟨g,off,xA,xl,xc,xB,xu,xd,rfl,hg,hE,hx⟩:=aKm HQ.o (j:=j) hlt;replace hE:=hE.step HW.o;have hx2:=aHz hx HW.o;clear hx hg;obtain⟨⟨⟨xn,xa⟩,xm,xb⟩,hxj⟩:∃ x,x=l[j]:=⟨_,rfl⟩;rw[← hxj] at hE hx2;simp only at hE hx2;have e0:=zz hxj;clear hxj;have HX:=zz hx2;clear hx2;have hji:(0:Int)≤(j:Int)∧(j:Int)<(l.length:Int):=(by omega);have q0:=ez4 hE;have HE:=zz hE;clear hE;go_wp2_with fail
   refine(HF.o _ _ _ _ _ _ _ xn xm xa xb HX.o).mono ?_;rintro e w1 ⟨hb,rfl⟩;have a0:=zz (HW.o.trans (hb.mono HW.o.size));have z1:=hb.size;clear hb q0;have ht:l.take (j+1)=l.take j++[((xn,xa),(xm,xb))]:=by rw[aFj,aEh hlt,e0.o];rfl
   cases hp:p ((xn,xa),(xm,xb))
   case true=>
    have HT:=zz ht;have h0:=zz hp;clear ht hp;go_wp2;go_ret;refine⟨a0.o,j,rfl,?_⟩;rw[aEj (by omega)];refine(aJr.2 ⟨_,?_,h0.o⟩).symm;rw[e0.o];exact aEc _
   case false=>
    have HT:=zz (show(l.take (j+1)).any p=false by rw[ht,List.any_append,HP.o];simp[hp]);clear ht hp;go_wp2;go_roundw
    case rel=>exact⟨j+1,hlt,by go_num,HT,a0⟩
    case measure=>exact ms
  ·obtain rfl:j=l.length:=by omega
   rw[aFe] at HP;go_wp2;go_ret;exact⟨HW.o,-1,rfl,by rw[HP.o];rfl⟩
theorem FT (w:World) (A:Option Addr) (n c:Nat) (l:List QX) (p:QX→Bool) (F0:FuncId) (h:QS w w.heap.size (.slice A n c) l) (hrun:∀ args (w1:World),(callFunc F0 args).run Tryz.prog w1=.ok (.enter F0 args) w1)
  (hF:∀ (w1:World) (A A':Option Addr) (u c u' c':Nat) (n m:Bool) (a b:List Int),QR w1 w1.heap.size (.agg #[.bool n,.slice A u c,.bool m,.slice A' u' c']) n a m b→Calls Tryz.prog F0 #[.agg #[.bool n,.slice A u c,.bool m,.slice A' u' c']] w1 fun e w'=>Below w1.heap.size w1 w'∧e=.returned (.bool (p ((n,a),(m,b))))) :
  CV 63 #[.slice A n c,.func (.func F0) #[] #[]] w fun e _=>e=.returned (.bool (l.any p)):=by
 go_enter Tryz.func63,Tryz.ntmps63
 go_wp2_with fail
 refine(LP _ A n c l p F0 h hrun hF).mono ?_;rintro e w1 ⟨hb,i,rfl,hi⟩;have HB:=zz hb;have HI:=zz hi;clear hb hi;go_wp2;go_ret;refine⟨HB.o,?_⟩;rw[← HI.o];rfl
theorem SG (args:Array Value) (w1:World):(callFunc 88 args).run Tryz.prog w1=.ok (.enter 88 args) w1:=by kernel_rfl
theorem BI {l:List QX}:dC l=!((decide (l.length<1)||decide (12<l.length))||l.any fun x=>!eC x):=by
 unfold dC;rw[Bool.not_or,Bool.not_or,List.not_any_eq_all_not];rw[AN,AN]
 congr 1
 congr 1;funext x;simp
theorem fS (w:World) (A:Option Addr) (n c:Nat) (l:List QX) (h:QS w w.heap.size (.slice A n c) l) :
  CV 37 #[.slice A n c] w fun e _=>e=.returned (.int .i64 (bD (dC l))):=by
 obtain⟨rfl,hn1,hn2⟩:=aHb h;have HQ:=zz h;clear h;have a0:=zz (aDy w.heap.size w);by_cases h1:l.length<1
 ·have HO:=zz (show dC l=false by rw[BI,aEj h1];rfl);have h1':((l.length:Int)<1):=by omega
  go_enter Tryz.func37,Tryz.ntmps37
  go_wp2;go_ret;exact⟨a0.o,by rw[HO.o];rfl⟩
 ·by_cases h2:12<l.length
  ·have HO:=zz (show dC l=false by rw[BI,aEj h2,Bool.or_true];rfl);have h1':¬ ((l.length:Int)<1):=by omega
   have h2':(12<(l.length:Int)):=by omega
   go_enter Tryz.func37,Tryz.ntmps37
   go_wp2;go_ret;exact⟨a0.o,by rw[HO.o];rfl⟩
  ·have HO:=zz (show dC l=!(l.any fun x=>!eC x) by rw[BI,aEe h1,aEe h2];rfl);have h1':¬ ((l.length:Int)<1):=by omega
   have h2':¬ (12<(l.length:Int)):=by omega
   go_enter Tryz.func37,Tryz.ntmps37
   go_wp2_with fail
   refine(FT _ A _ c l (fun x=>!eC x) _ HQ.o SG (fun w1 A A' u c u' c' n m a b hx=>SH w1 A A' u c u' c' n m a b hx)).mono ?_;rintro e w1 ⟨hb,rfl⟩;have b0:=zz hb;clear hb;cases hv:l.any fun x=>!eC x
   case false=>
    rw[hv] at HO;go_wp2;go_ret;exact⟨b0.o,by rw[HO.o];rfl⟩
   case true=>
    rw[hv] at HO;go_wp2;go_ret;exact⟨b0.o,by rw[HO.o];rfl⟩
theorem gA (w:World) (A:Option Addr) (n c:Nat) (M:List (List QX)) (h:QM w w.heap.size (.slice A n c) M) :
  CV 13 #[.slice A n c] w fun e _=>e=.returned (.int .i64 (bD (eA M))):=by
 obtain⟨rfl,hn1,hn2⟩:=aHb h;have HQ:=zz h;clear h;have a0:=zz (aDy w.heap.size w);by_cases h1:M.length<1
 ·have HO:=zz (show eA M=false by rw[BH,aEj h1];rfl);have h1':((M.length:Int)<1):=by omega
  go_enter Tryz.func13,Tryz.ntmps13
  go_wp2;go_ret;exact⟨a0.o,by rw[HO.o];rfl⟩
 by_cases h2:12<M.length
 ·have HO:=zz (show eA M=false by rw[BH,aEj h2,Bool.or_true];rfl);have h1':¬ ((M.length:Int)<1):=by omega
  have h2':(12<(M.length:Int)):=by omega
  go_enter Tryz.func13,Tryz.ntmps13
  go_wp2;go_ret;exact⟨a0.o,by rw[HO.o];rfl⟩
 have HO:=zz (show eA M=M.all (pG M) by rw[BH,aEe h1,aEe h2];rfl);have h1':¬ ((M.length:Int)<1):=by omega
 have h2':¬ (12<(M.length:Int)):=by omega
 have hM:0<M.length:=by omega
 obtain⟨g0,off0,A0,c0,rfl,hg0,hc0,hr0⟩:=aKy HQ.o hM;rw[aGd] at hc0;have n0:=zz hc0;have o0:=zz hg0;have q0:=zz hr0;clear hc0 hg0 hr0 h1 h2;go_enter Tryz.func13,Tryz.ntmps13
 go_wp2;clear h1' h2';go_loopw [15] (fun iv wr=>∃ j:Nat,j≤M.length∧iv=.int .i64 j∧Hi ((M.take j).all (pG M)=true)∧Hi (Below w.heap.size w wr)) (fun iv _=>M.length-(intOf iv).toNat)
 case atStart=>exact⟨0,aEy _,rfl,zz rfl,a0⟩
 case round=>
  obtain⟨j,hj,rfl,HP,HW⟩:=hrel;have zr:=HW.o.size;by_cases hlt:j<M.length
  ·obtain⟨g,off,A',c',e,hg,hcell,hrow⟩:=aKy HQ.o hlt;injection e with e;injection e with e1 e2;subst e1;subst e2
   replace hcell:=(HW.o.cell (p:=⟨g0,off0+j,none⟩) hg).trans hcell;have hc0:=(HW.o.cell (p:=⟨g0,off0,none⟩) o0.o).trans n0.o;have i0:=zz (hrow.step aEf HW.o);obtain⟨-,hr1,hr2⟩:=aHb hrow;clear hrow hg;have hji:(0:Int)≤(j:Int)∧(j:Int)<(M.length:Int):=(by omega);have hmi:(0:Int)<(M.length:Int):=(by omega);have hall:(M.take (j+1)).all (pG M)=pG M M[j]:=by rw[aFj,aEh hlt,List.all_append,HP.o];simp
   have hfin:pG M M[j]=false→eA M=false:=fun hr=>by rw[HO.o];exact List.all_eq_false.2 ⟨_,aEc hlt,by rw[hr];decide⟩
   have hrx:pG M M[j]=((decide (M[j].length≤6)&&decide (M[j].length=M[0].length))&&dC M[j]):=by unfold pG;rw[aG hM]
   have k0:=zz hall;have f0:=zz hfin;have d0:=zz hrx;clear hall hfin hrx;generalize hU:M[j].length=u at hcell i0 hr1 hr2 d0;generalize hV:M[0].length=v at hc0 d0;have HU:=zz hU;have HV:=zz hV;clear hU hV;by_cases h6:6<u
   ·have h6':6<(u:Int):=by omega
    go_wp2;go_ret;exact⟨HW.o,by rw[f0.o (by rw[d0.o,aEe (by omega)];rfl)];rfl⟩
   have h6':¬ 6<(u:Int):=by omega
   by_cases he:u=v
   ·have he':((u:Int) != (v:Int))=false:=by rw[aJh];omega
    have p0:=zz he;clear he h6;go_wp2_with fail
    refine(fS _ A' u c' M[j] i0.o).mono ?_;rintro e w1 ⟨hb,rfl⟩;have b0:=zz (HW.o.trans (hb.mono HW.o.size));clear hb hcell hc0;have h66:=zz (show(u:Int)≤6 by omega);clear h6';cases hl:dC M[j]
    case false=>
     have HL:=zz hl;clear hl;rw[show bD false=350 from rfl];go_wp2;go_ret;exact⟨b0.o,by rw[f0.o (by rw[d0.o,HL.o,aMo])];rfl⟩
    case true=>
     have HL:=zz hl;clear hl;rw[show bD true=0 from rfl];go_wp2;go_roundw
     case rel=>exact⟨j+1,hlt,by go_num,zz (by rw[k0.o,d0.o,HL.o,aEj p0.o,aEj (by have:=h66.o;omega)];rfl),b0⟩
     case measure=>exact ms
   ·have he':((u:Int) != (v:Int))=true:=by rw[aJg];omega
    go_wp2;go_ret;exact⟨HW.o,by rw[f0.o (by rw[d0.o,aEe he,aMo];rfl)];rfl⟩
  ·obtain rfl:j=M.length:=by omega
   rw[aFe] at HP;go_wp2;go_ret;exact⟨HW.o,by rw[HO.o,HP.o];rfl⟩
theorem nB:(Tryz.prog.info? 65).map (fun i=>(i.zero,i.size,i.bytes))=some (some (.slice none 0 0),1,24):=by kernel_rfl
theorem NZ (n:Nat) (hn:n≤1000000) (w:World):(Instr.makeSlice 68 (.int .i64 (n:Int)) (.int .i64 (n:Int))).run Tryz.prog w =
  .ok (.slice (some ⟨w.heap.size,0,none⟩) n n) (w.alloc (.cells (madeCells #[.slice none 0 0] n) 65)):=by
 obtain⟨i,hi,hz,hs,hb⟩:=aGf nB;have h:=run_make (P:=Tryz.prog) w 68 65 i _ Tryz.underlying68 hi hz .i64 .i64 n n (by omega) (by omega) (by rw[hb];omega) (by omega);rw[h,hs];simp[Value.cells]
theorem DY {T:TypeId} (w:World) (n:Nat):OB 1 EV T (w.alloc (.cells (madeCells #[.slice none 0 0] n) T)) w.heap.size n []:=by
 have h:=OB.made (k:=1) (E:=EV) (T:=T) (z:=#[.slice none 0 0]) w (by decide) (by decide) n
 rwa [aJi] at h
theorem zH (w:World) (A:Option Addr) (n c:Nat) (M:List (List Rat)) (F0:FuncId) (cv:Value) (f:List Rat→Rat) (h:RM w w.heap.size (.slice A n c) M) (hl:M.length≤1000000) (hrun:∀ args (w1:World),(callFunc F0 args).run Tryz.prog w1=.ok (.enter F0 args) w1)
  (hF:∀ (w1:World) (j:Nat) (hj:j<M.length) (A':Option Addr) (u c':Nat),Below w.heap.size w w1→RS w1 w1.heap.size (.slice A' u c') M[j]→Calls Tryz.prog F0 #[.slice A' u c',cv] w1 fun e w'=>Below w1.heap.size w1 w'∧∃ v,e=.returned v∧RV w' w'.heap.size v (f M[j])) :
  CV 77 #[.slice A n c,.func (.func F0) #[] #[cv]] w fun e w'=>∃ g,e=.returned (.slice (some ⟨g,0,none⟩) M.length M.length)∧w.heap.size≤g∧OB 3 ER 88 w' g M.length (M.map f):=by
 obtain⟨rfl,hn1,hn2⟩:=aHb h;have HQ:=zz h;have n0:=zz hl;have HF:=zz hF;clear h hF;have hmk:=sU M.length hl;have b0:=zz (aB (aDy w.heap.size w) (.cells (madeCells #[.bool false,.slice none 0 0,.slice none 0 0] (M.length*3)) 88));have h0:=zz (OB.made (k:=3) (E:=ER) (T:=88) (z:=#[.bool false,.slice none 0 0,.slice none 0 0]) w (by decide) (by decide) M.length);go_enter Tryz.func77,Tryz.ntmps77
 go_wp2;clear hmk hl;go_loopw [13] (fun iv wr=>∃ j:Nat,j≤M.length∧iv=.int .i64 j∧Hi (OB 3 ER 88 wr w.heap.size M.length ((M.take j).map f))∧Hi (Below w.heap.size w wr)) (fun iv _=>M.length-(intOf iv).toNat)
 case atStart=>exact⟨0,aEy _,rfl,h0,b0⟩
 case round=>
  obtain⟨j,hj,rfl,HO,HW⟩:=hrel;have zr:=HW.o.size;by_cases hlt:j<M.length
  ·obtain⟨g,off,A',c',rfl,hg,hcell,hrow⟩:=aKy HQ.o hlt;replace hcell:=(HW.o.cell (p:=⟨g,off+j,none⟩) hg).trans hcell;have f0:=zz (hrow.step aEw HW.o);clear hrow hg;have hji:(0:Int)≤(j:Int)∧(j:Int)<(M.length:Int):=(by omega);generalize hU:M[j].length=u at hcell f0;go_wp2_with fail
   refine(HF.o _ j hlt A' u c' HW.o f0.o).mono ?_;rintro e w1 ⟨hb,v,rfl,hv⟩;have P1:=zz hb;have z1:=hb.size;have c0:=zz (HW.o.trans (hb.mono HW.o.size));clear hb hcell hU;obtain⟨vn,vA,vl,vc,vB,vm,vd,rfl,a0⟩:=hv;have HV:Hi (RV w1 w1.heap.size (.agg #[.bool vn,.slice vA vl vc,.slice vB vm vd]) (f M[j])):=zz ⟨_,_,_,_,_,_,_,rfl,a0⟩;clear a0;have d0:=zz (aKi HO.o aEw P1.o);have hlen:((M.take j).map f).length=j:=by rw[aEb,aEk];omega
   have ht:(M.take j).map f++[f M[j]]=(M.take (j+1)).map f:=by rw[aFj,aEh hlt,aGc];rfl
   have hpush:=OB.push d0.o aKb ER.free (by rw[hlen];exact hlt) (cs:=[.bool vn,.slice vA vl vc,.slice vB vm vd]) (x:=f M[j]) rfl ⟨_,_,_,rfl,HV.o⟩;rw[hlen,ht] at hpush;have i0:=zz hpush;clear hpush ht hlen;obtain⟨o0,ho0⟩:=aIy d0.o (p:=j*3) (by omega);obtain⟨o1,ho1⟩:=aIy d0.o (p:=j*3+1) (by omega);obtain⟨o2,ho2⟩:=aIy d0.o (p:=j*3+2) (by omega);have fz0:=aHn d0.o (j*3);have fz1:=aHn d0.o (j*3+1);have fz2:=aHn d0.o (j*3+2);have flt:=OB.lt d0.o;have j0:=zz (bS (b:=w.heap.size) (aEa _) c0.o (p:=j*3) (cs:=[.bool vn,.slice vA vl vc,.slice vB vm vd]));go_wp2;go_roundw
   case rel=>exact⟨j+1,hlt,by go_num,i0,j0⟩
   case measure=>exact ms
  ·obtain rfl:j=M.length:=by omega
   rw[aFe] at HO;go_wp2;go_ret;exact⟨HW.o,_,rfl,aEa _,HO.o⟩
theorem sZ (w:World) (A:Option Addr) (n c:Nat) (M:List (List Rat)) (F0:FuncId) (cv:Value) (f:List Rat→Rat) (h:RM w w.heap.size (.slice A n c) M) (hl:M.length≤1000000) (hrun:∀ args (w1:World),(callFunc F0 args).run Tryz.prog w1=.ok (.enter F0 args) w1)
  (hF:∀ (w1:World) (j:Nat) (hj:j<M.length) (A':Option Addr) (u c':Nat),Below w.heap.size w w1→RS w1 w1.heap.size (.slice A' u c') M[j]→Calls Tryz.prog F0 #[cv,.slice A' u c'] w1 fun e w'=>Below w1.heap.size w1 w'∧∃ v,e=.returned v∧RV w' w'.heap.size v (f M[j])) :
  CV 77 #[.slice A n c,.func (.func F0) #[cv] #[]] w fun e w'=>∃ g,e=.returned (.slice (some ⟨g,0,none⟩) M.length M.length)∧w.heap.size≤g∧OB 3 ER 88 w' g M.length (M.map f):=by
 obtain⟨rfl,hn1,hn2⟩:=aHb h;have HQ:=zz h;have n0:=zz hl;have HF:=zz hF;clear h hF;have hmk:=sU M.length hl;have b0:=zz (aB (aDy w.heap.size w) (.cells (madeCells #[.bool false,.slice none 0 0,.slice none 0 0] (M.length*3)) 88));have h0:=zz (OB.made (k:=3) (E:=ER) (T:=88) (z:=#[.bool false,.slice none 0 0,.slice none 0 0]) w (by decide) (by decide) M.length);go_enter Tryz.func77,Tryz.ntmps77
 go_wp2;clear hmk hl;go_loopw [13] (fun iv wr=>∃ j:Nat,j≤M.length∧iv=.int .i64 j∧Hi (OB 3 ER 88 wr w.heap.size M.length ((M.take j).map f))∧Hi (Below w.heap.size w wr)) (fun iv _=>M.length-(intOf iv).toNat)
 case atStart=>exact⟨0,aEy _,rfl,h0,b0⟩
 case round=>
  obtain⟨j,hj,rfl,HO,HW⟩:=hrel;have zr:=HW.o.size;by_cases hlt:j<M.length
  ·obtain⟨g,off,A',c',rfl,hg,hcell,hrow⟩:=aKy HQ.o hlt;replace hcell:=(HW.o.cell (p:=⟨g,off+j,none⟩) hg).trans hcell;have f0:=zz (hrow.step aEw HW.o);clear hrow hg;have hji:(0:Int)≤(j:Int)∧(j:Int)<(M.length:Int):=(by omega);generalize hU:M[j].length=u at hcell f0;go_wp2_with fail
   refine(HF.o _ j hlt A' u c' HW.o f0.o).mono ?_;rintro e w1 ⟨hb,v,rfl,hv⟩;have P1:=zz hb;have z1:=hb.size;have c0:=zz (HW.o.trans (hb.mono HW.o.size));clear hb hcell hU;obtain⟨vn,vA,vl,vc,vB,vm,vd,rfl,a0⟩:=hv;have HV:Hi (RV w1 w1.heap.size (.agg #[.bool vn,.slice vA vl vc,.slice vB vm vd]) (f M[j])):=zz ⟨_,_,_,_,_,_,_,rfl,a0⟩;clear a0;have d0:=zz (aKi HO.o aEw P1.o);have hlen:((M.take j).map f).length=j:=by rw[aEb,aEk];omega
   have ht:(M.take j).map f++[f M[j]]=(M.take (j+1)).map f:=by rw[aFj,aEh hlt,aGc];rfl
   have hpush:=OB.push d0.o aKb ER.free (by rw[hlen];exact hlt) (cs:=[.bool vn,.slice vA vl vc,.slice vB vm vd]) (x:=f M[j]) rfl ⟨_,_,_,rfl,HV.o⟩;rw[hlen,ht] at hpush;have i0:=zz hpush;clear hpush ht hlen;obtain⟨o0,ho0⟩:=aIy d0.o (p:=j*3) (by omega);obtain⟨o1,ho1⟩:=aIy d0.o (p:=j*3+1) (by omega);obtain⟨o2,ho2⟩:=aIy d0.o (p:=j*3+2) (by omega);have fz0:=aHn d0.o (j*3);have fz1:=aHn d0.o (j*3+1);have fz2:=aHn d0.o (j*3+2);have flt:=OB.lt d0.o;have j0:=zz (bS (b:=w.heap.size) (aEa _) c0.o (p:=j*3) (cs:=[.bool vn,.slice vA vl vc,.slice vB vm vd]));go_wp2;go_roundw
   case rel=>exact⟨j+1,hlt,by go_num,i0,j0⟩
   case measure=>exact ms
  ·obtain rfl:j=M.length:=by omega
   rw[aFe] at HO;go_wp2;go_ret;exact⟨HW.o,_,rfl,aEa _,HO.o⟩
theorem SW (w:World) (A:Option Addr) (n c:Nat) (M:List (List QX)) (F0:FuncId) (f:List QX→List Rat) (h:QM w w.heap.size (.slice A n c) M) (hl:M.length≤1000000) (hrun:∀ args (w1:World),(callFunc F0 args).run Tryz.prog w1=.ok (.enter F0 args) w1)
  (hF:∀ (w1:World) (j:Nat) (hj:j<M.length) (A':Option Addr) (u c':Nat),Below w.heap.size w w1→QS w1 w1.heap.size (.slice A' u c') M[j]→Calls Tryz.prog F0 #[.slice A' u c'] w1 fun e w'=>Below w1.heap.size w1 w'∧∃ g,e=.returned (.slice (some ⟨g,0,none⟩) (f M[j]).length (f M[j]).length)∧w1.heap.size≤g∧(f M[j]).length≤9223372036854775807∧OB 3 ER 88 w' g (f M[j]).length (f M[j])) :
  CV 39 #[.slice A n c,.func (.func F0) #[] #[]] w fun e w'=>∃ g G C,e=.returned (.slice (some ⟨g,0,none⟩) M.length M.length)∧OM 3 ER 88 65 w' w.heap.size g M.length G C (M.map f):=by
 obtain⟨rfl,hn1,hn2⟩:=aHb h;have HQ:=zz h;have r0:=zz hl;have HF:=zz hF;clear h hF;have hmk:=NZ M.length hl;have c0:=zz (aB (aDy w.heap.size w) (.cells (madeCells #[.slice none 0 0] M.length) 65));have j0:Hi (OM 3 ER 88 65 (w.alloc (.cells (madeCells #[.slice none 0 0] M.length) 65)) w.heap.size w.heap.size M.length (fun _=>0) (fun _=>0) ((M.take 0).map f)):=zz (OM.start 3 ER 88 (DY (T:=65) w M.length) (aEa _));go_enter Tryz.func39,Tryz.ntmps39
 go_wp2;clear hmk hl;go_loopw [13] (fun iv wr=>∃ (j:Nat) (G C:Nat→Nat),j≤M.length∧iv=.int .i64 j∧Hi (OM 3 ER 88 65 wr w.heap.size w.heap.size M.length G C ((M.take j).map f))∧Hi (Below w.heap.size w wr)) (fun iv _=>M.length-(intOf iv).toNat)
 case atStart=>exact⟨0,_,_,aEy _,rfl,j0,c0⟩
 case round=>
  obtain⟨j,G,C,hj,rfl,HO,HW⟩:=hrel;have zr:=HW.o.size;by_cases hlt:j<M.length
  ·obtain⟨g,off,A',c',rfl,hg,hcell,hrow⟩:=aKy HQ.o hlt;replace hcell:=(HW.o.cell (p:=⟨g,off+j,none⟩) hg).trans hcell;have i0:=zz (hrow.step aEf HW.o);clear hrow hg;have hji:(0:Int)≤(j:Int)∧(j:Int)<(M.length:Int):=(by omega);generalize hU:M[j].length=u at hcell i0;go_wp2_with fail
   refine(HF.o _ j hlt A' u c' HW.o i0.o).mono ?_;rintro e w1 ⟨hb,v,rfl,hv,a0,b0⟩;have P1:=zz hb;have z1:=hb.size;have d0:=zz (HW.o.trans (hb.mono HW.o.size));have HV:=zz b0;have h0:=zz hv;have k0:=zz a0;clear hb hcell hU hv a0 b0;have f0:=zz (aJx HO.o aEw P1.o);have hlen:((M.take j).map f).length=j:=by rw[aEb,aEk];omega
   have ht:(M.take j).map f++[f M[j]]=(M.take (j+1)).map f:=by rw[aFj,aEh hlt,aGc];rfl
   have hpush:=(OM.push f0.o aKb (by rw[hlen];exact hlt) (g:=v) (c:=(f M[j]).length) (l:=f M[j]) ⟨by have:=HO.o.lt;have:=h0.o;omega,by have:=h0.o;omega⟩ (fun i hi=>by have:=(HO.o.rows i hi).lt;have:=h0.o;omega) ⟨aEa _,k0.o⟩ HV.o).1;rw[hlen,ht] at hpush;have l0:=zz hpush;clear hpush ht hlen;obtain⟨o0,ho0⟩:=aIy f0.o.hdr (p:=j) (by omega);have fz0:=OM.frozen f0.o j;have flt:=OM.lt f0.o;generalize hfl:(f M[j]).length=fl at *
   have m0:=zz (bS (b:=w.heap.size) (aEa _) d0.o (p:=j) (cs:=[.slice (some ⟨v,0,none⟩) fl fl]));go_wp2;go_roundw
   case rel=>exact⟨j+1,_,_,hlt,by go_num,l0,m0⟩
   case measure=>exact ms
  ·obtain rfl:j=M.length:=by omega
   rw[aFe] at HO;go_wp2;go_ret;exact⟨HW.o,_,_,_,rfl,HO.o⟩
theorem TA (w:World) (A:Option Addr) (n c:Nat) (M:List (List Rat)) (F0:FuncId) (cv:Value) (f:List Rat→List Rat) (h:RM w w.heap.size (.slice A n c) M) (hl:M.length≤1000000) (hrun:∀ args (w1:World),(callFunc F0 args).run Tryz.prog w1=.ok (.enter F0 args) w1)
  (hF:∀ (w1:World) (j:Nat) (hj:j<M.length) (A':Option Addr) (u c':Nat),Below w.heap.size w w1→RS w1 w1.heap.size (.slice A' u c') M[j]→Calls Tryz.prog F0 #[.slice A' u c',cv] w1 fun e w'=>Below w1.heap.size w1 w'∧∃ g,e=.returned (.slice (some ⟨g,0,none⟩) (f M[j]).length (f M[j]).length)∧w1.heap.size≤g∧(f M[j]).length≤9223372036854775807∧OB 3 ER 88 w' g (f M[j]).length (f M[j])) :
  CV 94 #[.slice A n c,.func (.func F0) #[] #[cv]] w fun e w'=>∃ g G C,e=.returned (.slice (some ⟨g,0,none⟩) M.length M.length)∧OM 3 ER 88 65 w' w.heap.size g M.length G C (M.map f):=by
 obtain⟨rfl,hn1,hn2⟩:=aHb h;have HQ:=zz h;have r0:=zz hl;have HF:=zz hF;clear h hF;have hmk:=NZ M.length hl;have c0:=zz (aB (aDy w.heap.size w) (.cells (madeCells #[.slice none 0 0] M.length) 65));have j0:Hi (OM 3 ER 88 65 (w.alloc (.cells (madeCells #[.slice none 0 0] M.length) 65)) w.heap.size w.heap.size M.length (fun _=>0) (fun _=>0) ((M.take 0).map f)):=zz (OM.start 3 ER 88 (DY (T:=65) w M.length) (aEa _));go_enter Tryz.func94,Tryz.ntmps94
 go_wp2;clear hmk hl;go_loopw [13] (fun iv wr=>∃ (j:Nat) (G C:Nat→Nat),j≤M.length∧iv=.int .i64 j∧Hi (OM 3 ER 88 65 wr w.heap.size w.heap.size M.length G C ((M.take j).map f))∧Hi (Below w.heap.size w wr)) (fun iv _=>M.length-(intOf iv).toNat)
 case atStart=>exact⟨0,_,_,aEy _,rfl,j0,c0⟩
 case round=>
  obtain⟨j,G,C,hj,rfl,HO,HW⟩:=hrel;have zr:=HW.o.size;by_cases hlt:j<M.length
  ·obtain⟨g,off,A',c',rfl,hg,hcell,hrow⟩:=aKy HQ.o hlt;replace hcell:=(HW.o.cell (p:=⟨g,off+j,none⟩) hg).trans hcell;have i0:=zz (hrow.step aEw HW.o);clear hrow hg;have hji:(0:Int)≤(j:Int)∧(j:Int)<(M.length:Int):=(by omega);generalize hU:M[j].length=u at hcell i0;go_wp2_with fail
   refine(HF.o _ j hlt A' u c' HW.o i0.o).mono ?_;rintro e w1 ⟨hb,v,rfl,hv,a0,b0⟩;have P1:=zz hb;have z1:=hb.size;have d0:=zz (HW.o.trans (hb.mono HW.o.size));have HV:=zz b0;have h0:=zz hv;have k0:=zz a0;clear hb hcell hU hv a0 b0;have f0:=zz (aJx HO.o aEw P1.o);have hlen:((M.take j).map f).length=j:=by rw[aEb,aEk];omega
   have ht:(M.take j).map f++[f M[j]]=(M.take (j+1)).map f:=by rw[aFj,aEh hlt,aGc];rfl
   have hpush:=(OM.push f0.o aKb (by rw[hlen];exact hlt) (g:=v) (c:=(f M[j]).length) (l:=f M[j]) ⟨by have:=HO.o.lt;have:=h0.o;omega,by have:=h0.o;omega⟩ (fun i hi=>by have:=(HO.o.rows i hi).lt;have:=h0.o;omega) ⟨aEa _,k0.o⟩ HV.o).1;rw[hlen,ht] at hpush;have l0:=zz hpush;clear hpush ht hlen;obtain⟨o0,ho0⟩:=aIy f0.o.hdr (p:=j) (by omega);have fz0:=OM.frozen f0.o j;have flt:=OM.lt f0.o;generalize hfl:(f M[j]).length=fl at *
   have m0:=zz (bS (b:=w.heap.size) (aEa _) d0.o (p:=j) (cs:=[.slice (some ⟨v,0,none⟩) fl fl]));go_wp2;go_roundw
   case rel=>exact⟨j+1,_,_,hlt,by go_num,l0,m0⟩
   case measure=>exact ms
  ·obtain rfl:j=M.length:=by omega
   rw[aFe] at HO;go_wp2;go_ret;exact⟨HW.o,_,_,_,rfl,HO.o⟩
end Go.Proofs.YtencnahjgbdeoaaGreatDoor
