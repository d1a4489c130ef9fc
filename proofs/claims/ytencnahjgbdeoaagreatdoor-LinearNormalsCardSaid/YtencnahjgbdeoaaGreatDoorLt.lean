/- Layer 35: Measure (written by gen_lt.py). -/
import Derived.Test.YtencnahjgbdeoaaGreatDoorLopq
namespace Go.Proofs.YtencnahjgbdeoaaGreatDoor
open Go Go.RowKit Dig
set_option maxRecDepth 100000
set_option maxHeartbeats 4000000
set_option linter.unusedSimpArgs false
theorem DotOK.le {r s:List Rat} (h:DotOK r s):r.length≤s.length:=h.1
theorem DotOK.ql {r s:List Rat} (h:DotOK r s):∀ j,j<r.length→QL 60000000 60000000 (r.getD j 0)∧QL 60000000 60000000 (s.getD j 0)∧QL 60000000 60000000 (r.getD j 0*s.getD j 0)∧QL 60000000 60000000 (aJ r s j):=h.2
theorem CZ {x:List QX} (h:(x.all fun q=>(qv q).isSome)=true):x=(aW x).map qx∧∀ q∈aW x,QL 600 600 q:=by
 rw[aEx] at h;have key:∀ y∈x,y=qx ((qv y).getD 0)∧QL 600 600 ((qv y).getD 0):=fun y hy=>by
  obtain⟨q,hq⟩:=Option.isSome_iff_exists.1 (h y hy);rw[hq,aIw];obtain⟨h1,h2⟩:=DM hq;have h3:=rC h1;have h4:=rC h2;exact⟨NQ hq,h3.2.2.2,by simpa using h4.2.2.2⟩
 refine⟨?_,fun q hq=>?_⟩
 ·unfold aW;rw[List.map_map]
  conv=>lhs;rw[← List.map_id x]
  exact aKp fun y hy=>(key y hy).1
 ·obtain⟨y,hy,rfl⟩:=aFc.1 hq;exact(key y hy).2
def CL:Bool→Int
 | true=>0
 | false=>40
theorem YK (l:List QX) (n:Bool) (a:List Int) (m:Bool) (b:List Int):max (CL (l.all fun q=>(qv q).isSome)) (tZ n a m b)=CL ((l.all fun q=>(qv q).isSome)&&(qv ((n,a),(m,b))).isSome):=by
 unfold tZ qv;cases (l.all fun q=>(nS q.1.1 q.1.2 q.2.1 q.2.2).isSome) <;> cases (nS n a m b).isSome <;> rfl
theorem LI {M:List (List QX)} {b x:List QX} {E:Int} {fit:Bool} (hE:E=eF [bD (eA M),bD (dC b),CL (x.all fun q=>(qv q).isSome)] fit) (hf:fit=(decide (b.length=M.length)&&decide (x.length=(M.getD 0 []).length))) :
  (E≠0→cV M b x=(none,E))∧(E=0→cV M b x=gY (cF (aK M) (aW b) (aW x))∧eA M=true∧dC b=true∧(x.all fun q=>(qv q).isSome)=true∧b.length=M.length∧x.length=(M.getD 0 []).length):=by
 cases h1:eA M with
 | false=>rw[h1] at hE;refine⟨fun _=>?_,fun h=>?_⟩;unfold cV;rw[h1,aEu (by simp),hE];rfl;rw[h] at hE;cases hE
 | true=>
  cases h2:dC b with
  | false=>rw[h1,h2] at hE;refine⟨fun _=>?_,fun h=>?_⟩;unfold cV;rw[h1,h2,aEu (by simp),hE];rfl;rw[h] at hE;cases hE
  | true=>
   cases h4:(x.all fun q=>(qv q).isSome) with
   | false=>rw[h1,h2,h4] at hE;refine⟨fun _=>?_,fun h=>?_⟩;unfold cV;rw[h1,h2,h4,aEv ⟨rfl,rfl⟩,aEu (by simp),hE];rfl;rw[h] at hE;cases hE
   | true=>
   rw[h1,h2,h4] at hE;cases h3:fit with
   | false=>
    rw[h3] at hE hf;have hn:¬ (b.length=M.length∧x.length=(M.getD 0 []).length):=fun h=>by rw[aEj h.1,aEj h.2] at hf;cases hf
    refine⟨fun _=>?_,fun h=>?_⟩
    ·unfold cV;rw[h1,h2,h4,aEv ⟨rfl,rfl⟩,aEv rfl,aEu hn,hE];rfl
    ·rw[h] at hE;cases hE
   | true=>
    rw[h3] at hE hf;have hp:=(aFg.1 hf.symm);have hp':=aEn (aGw hp.1) (aGw hp.2);refine⟨fun h=>absurd hE h,fun _=>⟨?_,rfl,rfl,rfl,hp'.1,hp'.2⟩⟩;unfold cV;rw[h1,h2,h4,aEv ⟨rfl,rfl⟩,aEv rfl,aEv hp']
theorem CJ (w:World) (A B D:Option Addr) (n c m d k e:Nat) (M:List (List QX)) (b x:List QX) (ha:QM w w.heap.size (.slice A n c) M) (hb:QS w w.heap.size (.slice B m d) b) (hx:QS w w.heap.size (.slice D k e) x) :
  CV 19 #[.slice A n c,.slice B m d,.slice D k e] w fun e w'=>uU w' (cV M b x) e:=by
 obtain⟨rfl,hn1,hn2⟩:=aHb ha;obtain⟨rfl,hm1,hm2⟩:=aHb hb;obtain⟨rfl,I1,J1⟩:=aHb hx;have HQ:=zz ha;have HS:=zz hb;have B2:=zz hx;clear ha hb hx;obtain⟨w0,hw0⟩:=ex ((((w.alloc (.cells #[.slice A M.length c] 22)).alloc (.cells #[.slice B b.length d] 23)).alloc (.cells #[.slice D x.length e] 23)).alloc (.cells #[.bool false,.slice none 0 0,.bool false,.slice none 0 0] 28));have B0:=zz (aAu hw0);have z0:=aAt hw0;have La:=aAy hw0;have Lb:=aAx hw0;have Lx:=aAw hw0;have Lr6:=aAv hw0;have m2:=zz (HQ.o.step (aFl aEf) B0.o);have n2:=zz (HS.o.step aEf B0.o);have U1:=zz (B2.o.step aEf B0.o);have HA:=zz La;have HB:=zz Lb;have HX:=zz Lx;have HO:=zz Lr6;obtain⟨fit,hfit⟩:=ex (α:=Bool) (decide (b.length=M.length)&&decide (x.length=(M.getD 0 []).length));have V1:=zz hfit;clear hfit;obtain⟨E,hE⟩:=ex (eF [bD (eA M),bD (dC b),CL (x.all fun q=>(qv q).isSome)] fit);have o2:=zz hE;clear hE;go_enter Tryz.func19,Tryz.ntmps19
 go_upto_region 1 with (fail)
 rw[← hw0];clear hw0;have Y0:=HX.o.cell 0 rfl;have i2:=HX.o.lt;go_wp2;clear Y0 i2;have n0:=zz (aDy w0.heap.size w0);go_loopw [8,18] (fun vv iv wr=>∃ j:Nat,j≤x.length∧iv=.int .i64 j∧vv=.int .i64 (CL ((x.take j).all fun q=>(qv q).isSome))∧Hi (Below w0.heap.size w0 wr)) (fun _ iv _=>x.length-(intOf iv).toNat)
 case atStart=>exact⟨0,aEy _,rfl,rfl,n0⟩
 case round=>
  obtain⟨j,hj,rfl,rfl,HW⟩:=hrel;have zr:=HW.o.size;by_cases hlt:j<x.length
  ·obtain⟨g,off,xA,xl,xc,xB,xu,xd,rfl,hg,hE,hv⟩:=aKm U1.o hlt;replace hE:=hE.step HW.o;have j0:=aHz hv HW.o;clear hv hg;have htk:(x.take (j+1)).all (fun q=>(qv q).isSome)=((x.take j).all (fun q=>(qv q).isSome)&&(qv x[j]).isSome):=by rw[aFj,aEh hlt,List.all_append];simp
   have S1:=zz htk;clear htk;obtain⟨⟨⟨xn,ya⟩,xm,yb⟩,hxj⟩:∃ y,y=x[j]:=⟨_,rfl⟩;rw[← hxj] at hE j0 S1;simp only at hE j0;clear hxj;have F2:=zz j0;clear j0;have hji:(0:Int)≤(j:Int)∧(j:Int)<(x.length:Int):=(by omega);have Z0:=ez4 hE;go_upto_region 5 with (fail)
   clear Z0;obtain⟨w3,h0⟩:=ex (wr.alloc (.cells #[.bool xn,.slice xA xl xc,.bool xm,.slice xB xu xd] 28));rw[← h0];have d0:=cL h0;have za3:=cJ h0;have B4:=zz (cK h0);have z4:=B4.o.size;have E1:=tr HW B4;clear h0;have e1:=cz4 d0;go_wp2_with fail
   have o1:=st aHz F2 B4;refine(nx E1 (jX _ _ xn ya xm yb o1.o)).mono ?_;rintro e w6 ⟨⟨B9,z9,i0⟩,rfl⟩;clear e1;have hmx:=YK (x.take j) xn ya xm yb;rw[← S1.o] at hmx;have H2:=zz hmx;clear hmx;go_wp2;go_roundw
   case rel=>exact⟨j+1,hlt,by go_num,by rw[← H2.o],i0⟩
   case measure=>exact ms
  ·obtain rfl:j=x.length:=by omega
   rw[aFe];have I2:=tr B0 HW;have HQr:=zz (m2.o.step (aFl aEf) HW.o);have HSr:=zz (n2.o.step aEf HW.o);have HXr:=zz (U1.o.step aEf HW.o);have HAr:=st aEd HA HW;have HBr:=st aEd HB HW;have HXXr:=st aEd HX HW;have HOr:=st aEd HO HW;clear m2 n2 U1 HA HB HX HO n0;go_upto_region 7 with (fail)
   have L1:∀ w':World,Below wr.heap.size wr w'→(Below wr.heap.size wr w'∧w'.cell? ⟨w.heap.size,0,none⟩=some (.slice A M.length c)∧w'.cell? ⟨w.heap.size+1,0,none⟩=some (.slice B b.length d)):=fun w' h=>⟨h,(aEd HAr.o h).cell 0 rfl,(aEd HBr.o h).cell 0 rfl⟩
   refine aIr 7 (fun w'=>Below wr.heap.size wr w'∧w'.cell? ⟨w.heap.size,0,none⟩=some (.slice A M.length c)∧w'.cell? ⟨w.heap.size+1,0,none⟩=some (.slice B b.length d)) (by kernel_rfl) ?_;refine ET 0 (.func (.func 51) #[] #[.pointer (some ⟨w.heap.size+1,0,none⟩),.pointer (some ⟨w.heap.size,0,none⟩),.pointer (some ⟨w.heap.size+2,0,none⟩)]) rfl (Or.inl ⟨by rfl,?_⟩) ?_ ?_
   ·intro w' hSw;obtain⟨-,t0,t1⟩:=hSw;go_simp
   ·exact L1 _ (aA (aDy _ _))
   (try simp only[PT])
   refine ET 1 (.slice A M.length c) rfl (Or.inl ⟨by rfl,?_⟩) ?_ ?_
   ·intro w' hSw;obtain⟨-,t0,t1⟩:=hSw;go_simp
   ·exact L1 _ (aA (aDy _ _))
   (try simp only[PT])
   refine ET 3 (.slice B b.length d) rfl (Or.inl ⟨by rfl,?_⟩) ?_ ?_
   ·intro w' hSw;obtain⟨-,t0,t1⟩:=hSw;go_simp
   ·exact L1 _ (aA (aDy _ _))
   (try simp only[PT])
   refine ET 5 (.int .i64 (CL (x.all fun q=>(qv q).isSome))) rfl (Or.inl ⟨by rfl,?_⟩) ?_ ?_
   ·intro w' hSw;obtain⟨-,t0,t1⟩:=hSw;go_simp
   ·exact L1 _ (aA (aDy _ _))
   (try simp only[PT])
   refine en 2 rfl fun K hK=>?_;go_simp;(with_reducible refine(gA _ A _ c M (aNe HQr.o (aFl aEf))).mono ?_)
   rintro e w12 ⟨g0,rfl⟩;replace g0:Below wr.heap.size wr w12:=aR g0;have B13:=zz g0;have z13:=B13.o.size;have p1:=tr I2 B13;clear g0;refine hK _ _ (fun _=>L1 _ B13.o) ?_;clear hK K;(try simp only[PT])
   refine en 4 rfl fun K hK=>?_;go_simp;(with_reducible refine(fS _ B _ d b (HSr.o.step aEf B13.o)).mono ?_)
   rintro e w15 ⟨o0,rfl⟩;have B16:=zz o0;have z16:=B16.o.size;have q1:=tr p1 B16;clear o0;have Q1:=tr B13 B16;refine hK _ _ (fun _=>L1 _ Q1.o) ?_;clear hK K;(try simp only[PT])
   refine en 6 rfl fun K hK=>?_;go_simp;refine hK _ _ (fun _=>L1 _ (aB (Q1.o) _)) ?_;clear hK K;(try simp only[PT])
   obtain⟨w19,e0⟩:=ex (w15.alloc (.cells #[.int .i64 (bD (eA M)),.int .i64 (bD (dC b)),.int .i64 (CL (x.all fun q=>(qv q).isSome))] 40));rw[← e0];have p0:=cL e0;have za19:=cJ e0;have B20:=zz (cK e0);have z20:=B20.o.size;have r1:=tr q1 B20;clear e0;refine en 7 rfl fun K hK=>?_;go_simp;have W2:=tr Q1 B20;(with_reducible refine((show Calls Tryz.prog _ _ _ _ from o2.o▸jF _ 51 #[.pointer (some ⟨w.heap.size+1,0,none⟩),.pointer (some ⟨w.heap.size,0,none⟩),.pointer (some ⟨w.heap.size+2,0,none⟩)] fit _ 3 3 [bD (eA M),bD (dC b),CL (x.all fun q=>(qv q).isSome)] (kX p0 [_,_,_] rfl (by simp)) (by simp) xM (fun hz w9 f0=>V1.o▸xN w9 _ _ _ A B D c d e M b x (aEd HAr.o (W2.o.trans (f0.mono W2.o.size))) (HQr.o.step (aFl aEf) (W2.o.trans (f0.mono W2.o.size))) (oC (qP (hz _ (by simp)))) (aEd HBr.o (W2.o.trans (f0.mono W2.o.size))) (aEd HXXr.o (W2.o.trans (f0.mono W2.o.size)))))).mono ?_)
   rintro e w23 ⟨q0,rfl⟩;have B24:=zz q0;have z24:=B24.o.size;have s0:=tr r1 B24;clear q0;have X2:=tr W2 B24;refine hK _ _ (fun _=>L1 _ X2.o) ?_;clear hK K;(try simp only[PT])
   refine en 8 rfl fun K hK=>?_;go_simp;refine hK _ _ (fun h=>absurd h (by decide)) ?_;clear hK K;(try simp only[PT])
   refine aIj (by kernel_rfl) ?_ _;(try simp only[Exit.then])
   clear L1;have hsa:=LI o2.o V1.o;by_cases hE0:E=0
   case neg=>
    have hx0:(E != 0)=true:=by rw[aJg];exact hE0
    have HR:=zz (hsa.1 hE0);clear hE0 hsa;have a0:=aEd HOr.o X2.o;have C0:=cz4 a0;have G0:=fz4 a0;go_wp2;clear C0 G0;rw[HR.o];exact aLp (r:=(none,E)) rfl a0 (by simp[aF,aE]) s0.o (by omega) (kA _ _) rfl rfl
   case pos=>
    obtain⟨hr,h1,h2,h3,h4,h5⟩:=hsa.2 hE0;subst hE0;obtain⟨-,hs4,hw4,hm1,hm2,hw1,hw2⟩:=jM h1;obtain⟨hbe,k0,-,-⟩:=fM h2;obtain⟨hxe,hx4⟩:=CZ h3;obtain⟨k,hk⟩:=ex (aM (aK M));have hxk:x.length=k:=by rw[h5,hk,mU]
    rw[← hk] at hw4 hw1 hw2;obtain⟨X,hX⟩:=ex (aW x);obtain⟨Bq,hBq⟩:=ex (aW b);obtain⟨N,hN⟩:=ex (aK M);rw[← hX] at hr hxe hx4;rw[← hBq] at hr hbe k0;rw[← hN] at hr hs4 hw4;have hXl:X.length=k:=by rw[hX,aW,aEb,hxk]
    have hBl:Bq.length=M.length:=by rw[hBq,aW,aEb,h4]
    have hNl:N.length=M.length:=by rw[hN,aK,aEb]
    obtain⟨Rs,hRs⟩:=ex (fP N Bq X);have hRl:Rs.length=M.length:=by rw[hRs,fP,aLb,hNl]
    have hRi:∀ j (hj:j<N.length) (hj':j<Rs.length),Rs[j]=bK X N[j]-Bq.getD j 0:=fun j hj hj'=>by simp only[hRs,fP,aGy];rw[zM (by rw[hw4 _ (aEc hj),hXl])]
    have hRq:∀ q∈Rs,QL 7271 7271 q:=fun q hq=>by
     obtain⟨j,hj,rfl⟩:=aKq hq;rw[hRi j (by omega) hj];have h9:=eD hx4 (hs4 _ (aEc (show j<N.length by omega))) (by decide) (by decide) X.length;exact((h9.mono (show _≤3631 by rw[hXl];omega) (show _≤3631 by rw[hXl];omega)).sub (aT k0 (by decide) j)).mono (by decide) (by decide)
    have HR:=zz (hr.trans (by unfold cF;rw[← hRs]));have H1:=zz h1;have H4:=zz h4;have J2:=zz hxe;have p2:=zz hx4;have K2:=zz hbe;have F1:=zz k0;have q2:=zz hs4;have O1:=zz hw4;have HK:=zz (aEn hm1 (aEn hm2 (aEn hw1 hw2)));have M1:=zz hXl;have r2:=zz hBl;have M2:=zz hNl;have N1:=zz hRl;have N2:=zz hRi;have T1:=zz hRq;have Z2:=zz hxk;have O2:=zz hN;clear hr h1 h2 h3 h4 h5 hxe hx4 hbe k0 hs4 hw4 hm1 hm2 hw1 hw2 hXl hBl hNl hRs hRl hRi hRq hsa hk hX hBq hN hxk;have hkk:(k:Int)≤6∧(1:Int)≤(k:Int):=by have:=HK.o;omega
    have hmm:(M.length:Int)≤12:=by have:=HK.o;omega
    have HXv:=zz (show QS w23 w23.heap.size (.slice D x.length e) (X.map qx) from by rw[← J2.o];exact HXr.o.step aEf X2.o);have l0:=aEd HXXr.o X2.o;have K0:=l0.cell 0 rfl;have Y1:=l0.lt;go_wp2_with fail
    clear K0 Y1;refine(nx s0 (vI _ _ _ _ X HXv.o (by rw[M1.o];omega))).mono ?_;rintro e w32 ⟨⟨B33,z33,s1⟩,g1,rfl,hg1,ho1⟩;rw[M1.o] at ho1 ⊢;have s2:=zz ho1;clear ho1 hg1;have P3:=tr X2 B33;have m0:=aEd HAr.o P3.o;have L0:=m0.cell 0 rfl;have Z1:=m0.lt;go_wp2_with fail
    clear L0 Z1;refine(nx s1 (fF _ A _ c M (HQr.o.step (aFl aEf) P3.o) H1.o)).mono ?_;rintro e w38 ⟨⟨B39,z39,u1⟩,g2,G2,C2,rfl,hom⟩;rw[← O2.o] at hom;have P2:=zz hom;clear hom;have x2:=zz (s2.o.step aEw B39.o);clear s2;have W3:=tr P3 B39;have HBv:=zz (show QS w38 w38.heap.size (.slice B b.length d) (Bq.map qx) from by rw[← K2.o];exact HSr.o.step aEf W3.o);have M0:=aEd HBr.o W3.o;have x0:=aEd HOr.o W3.o;have HBc:=zz M0;have HOc:=zz x0;obtain⟨iq,hiq,hzq,hsq,hbq⟩:=aGf iL;have v1:=zz (aDy w38.heap.size w38);go_wp2;go_loopw [13,44] (fun rv iv wr=>∃ j:Nat,j≤M.length∧iv=.int .i64 j∧Hi (OA 3 ER 88 wr w38.heap.size rv (Rs.take j))∧Hi (Below w38.heap.size w38 wr)) (fun _ iv _=>M.length-(intOf iv).toNat)
    case atStart=>exact⟨0,aEy _,rfl,zz OA.nil,v1⟩
    case round=>
     obtain⟨j,hj,rfl,HO,HW⟩:=hrel;have zr2:=HW.o.size;by_cases hlt:j<M.length
     ·have hjn:j<N.length:=by rw[M2.o];exact hlt
      have hjr:j<Rs.length:=by rw[N1.o];exact hlt
      have R1:=zz (P2.o.step aEw HW.o);have qh:=aMn R1.o O1.o hjn;have qc:=aMi R1.o O1.o hjn;have hrow:=(R1.o.rows j hjn).sl (c:=C2 j) (by rw[O1.o _ (aEc hjn)];exact qc.1) qc.2;rw[O1.o _ (aEc hjn)] at hrow;have t2:=zz hrow;clear hrow;have hox3:=(x2.o.step aEw HW.o).sl (c:=k) (by rw[M1.o];exact aEa _) (by omega);rw[M1.o] at hox3;have y2:=zz hox3;clear hox3;obtain⟨gb,offb,yA,yl,yc,yB,yu,yd,rfl,hgb,hEb,hvb⟩:=aKm HBv.o (j:=j) (by rw[aEb,r2.o];exact hlt);replace hEb:=hEb.step HW.o;simp only[aGm] at hEb hvb;have u2:=zz (aHf (QR.qv hvb) HW.o);clear hvb hgb;have hji:(0:Int)≤(j:Int)∧(j:Int)<(M.length:Int):=by omega
      have hjb:(j:Int)<(b.length:Int):=by have:=H4.o;omega
      have hjq:j<Bq.length:=by rw[r2.o];exact hlt
      obtain⟨y,hy⟩:=ex (Bq[j]);obtain⟨r,hr⟩:=ex (N[j]);have hRj:Rs[j]=bK X r-y:=by rw[N2.o j hjn hjr,hr,hy,aG hjq]
      have hqy:QL 4 4 y:=by rw[hy];exact F1.o _ (aEc hjq)
      have hrl:r.length=k:=by rw[hr];exact O1.o _ (aEc hjn)
      have hdo:DotOK X r:=lQ (by rw[M1.o,hrl];exact aEa _) p2.o (by rw[hr];exact q2.o _ (aEc hjn)) (by decide) (by decide) (by rw[M1.o];omega);have hqd:QL 3631 3631 (bK X r):=(eD p2.o (show ∀ q∈r,QL 4 4 q by rw[hr];exact q2.o _ (aEc hjn)) (by decide) (by decide) X.length).mono (by rw[M1.o];omega) (by rw[M1.o];omega);have htk:Rs.take (j+1)=Rs.take j++[bK X r-y]:=by rw[aFj,aEh hjr,hRj];rfl
      rw[← hy] at hEb u2;rw[← hr] at t2;have S1:=zz htk;have Q2:=zz hqy;have P1:=zz hdo;have a2:=zz hqd;clear htk hqy hdo hqd hRj hy hr hrl;have HBc3:=st aEd HBc HW;go_upto_region 15 with (fail)
      clear qh qc;refine aFq [se 0 49 [] (u13),se 1 50 [] (.slice (some ⟨g1,0,none⟩) k k),se 2 51 [] (.slice (some ⟨G2 j,0,none⟩) k (C2 j)),sf 3 52 [1,2] (fun fv fw=>RV fw fw.heap.size fv (bK X r)),se 4 53 [] (.slice (some ⟨gb,offb,none⟩) b.length d),se 5 54 [] (.int .i64 (j:Int)),se 6 55 [4,5] (.pointer (some ⟨gb,offb+j*4,none⟩)),se 7 56 [6] (.agg #[.bool (qx y).1.1,.slice yA yl yc,.bool (qx y).2.1,.slice yB yu yd]),se 8 57 [7] (.agg #[.bool (qx y).1.1,.slice yA yl yc,.slice yB yu yd]),sf 9 58 [3,8] (fun fv fw=>RV fw fw.heap.size fv (bK X r-y)),sf 10 59 [9] (fun fv fw=>∃ b n A l c B u d,fv=.slice (some ⟨b,0,none⟩) 1 1∧CB fw b 88 #[.bool n,.slice A l c,.slice B u d]∧RV fw fw.heap.size (.agg #[.bool n,.slice A l c,.slice B u d]) (bK X r-y))] 2 (SB HBc3.o (SC (fun _ h=>(aIg hEb h).c0) (SC (fun _ h=>(aIg hEb h).c1) (SC (fun _ h=>(aIg hEb h).c2) (SC (fun _ h=>(aIg hEb h).c3) S0))))) (MA (fun _ _ _ h hb=>h.step hb) (MA (fun _ _ _ h hb=>h.step hb) (MA (fun _ _ _ h hb=>let ⟨b,n,A,l,c,B,u,d,e,h1,h2⟩:=h;⟨b,n,A,l,c,B,u,d,e,h1.step hb,h2.step hb⟩) aFi))) ?_ ?_
      ·intro xs a_ hA;simp only[SX,↓reduceIte,Nat.reduceEqDiff,Nat.reduceAdd] at hA⊢;subst hA;and_intros
       all_goals intro wk b_ z_
       all_goals try exact pl
       ·intro f1 f2;intros;refine wo fun K hK=>?_;go_simp;(with_reducible refine(fJ _ _ _ _ _ _ _ X r (y2.o.step aEw b_.o) (t2.o.step aEw b_.o) (DotOK.le P1.o) (DotOK.ql P1.o)).mono ?_)
        rintro e wc44 ⟨w1,v44,rfl,x1⟩;refine hK _ _ ⟨v44,by simp only[FL,f1,f2] <;> kernel_rfl,w1,x1⟩
       ·intro f7;intros;refine wo fun K hK=>?_;go_simp;(with_reducible refine(gU _ _ _ _ _ _ _ _ _).mono ?_)
        rintro e wc45 ⟨y1,rfl⟩;refine hK _ _ ⟨_,by simp only[FL,f7] <;> kernel_rfl,y1,rfl⟩
       ·intro f3 f8;intros;refine wo fun K hK=>?_;go_simp;have N0:=st aHf u2 b_;(with_reducible refine(vV _ _ _ (bK X r) y f3 (uX N0.o) (a2.o.mono (by decide) (by decide)) (Q2.o.mono (by decide) (by decide))).mono ?_)
        rintro e wc47 ⟨z1,v47,rfl,B1⟩;refine hK _ _ ⟨v47,by simp only[FL,f8] <;> kernel_rfl,z1,B1⟩
       ·intro f9;intros;refine wo fun K hK=>?_;obtain⟨rn,rA,rl,rc,rB,ru,rd,hx9,G1⟩:=f9;rw[hx9];have hrv:RV wk wk.heap.size (.agg #[.bool rn,.slice rA rl rc,.slice rB ru rd]) (bK X r-y):=⟨_,_,_,_,_,_,_,rfl,G1⟩;go_simp;refine hK _ _ ⟨.slice (some ⟨wk.heap.size,0,none⟩) 1 1,by simp only[FL,hx9] <;> kernel_rfl,(aDy _ _).alloc (aEa _) _,⟨_,rn,rA,rl,rc,rB,ru,rd,rfl,aHl _ _ _,aHm hrv ((aDy _ _).alloc (aEa _) _)⟩⟩
      ·intro xs Y2 B49 z49;simp only[SY];generalize xs 3=x3,xs 9=x9,xs 10=x10;rintro f3 f9 f10;clear f3;clear f9;obtain⟨bs,rn,rA,rl,rc,rB,ru,rd,rfl,hbs,hbv⟩:=f10;have R2:=zz hbs;have S2:=zz hbv;clear hbs hbv;have T2:=zz (aNk HO.o aEw B49.o);have z9:=B49.o.size;refine EN 11 rfl fun K hK=>?_;rw[aEv (show Region.wanted _ _=true from rfl)];refine gV _ _ _ rfl w38.heap.size 88 iq _ 56 Tryz.underlying65 hiq hzq hsq hbq rfl (by decide) (by decide) aEw aKb T2.o rfl ⟨bs,0,none⟩ 1 [(bK X r-y)] rfl Nat.one_pos [.bool rn,.slice rA rl rc,.slice rB ru rd] (aLt rfl ⟨_,_,_,rfl,S2.o⟩) (jP R2.o [_,_,_] rfl) (by intro u hu;simp at hu;rcases hu with rfl | rfl | rfl <;> rfl) (by simp only[aEk,aEl,aEm,maxLen];omega) (by simp only[aEk,aEl,aEm];omega) (by omega) ?_;intro v9 w9 hoa9 f0 hs9 hg9 hat9;have z2:Hi (OA 3 ER 88 w9 w38.heap.size v9 (Rs.take (j+1))):=zz (by rw[S1.o];exact hoa9);have i0:=zz ((HW.o.trans (B49.o.mono HW.o.size)).trans f0);clear hoa9 f0 hs9 hg9 hat9;refine hK _ _ ?_;clear hK K;(try simp only[PT])
       refine EN 12 rfl fun K hK=>?_
       go_simp;refine hK _ _ ?_;clear hK K;(try simp only[PT])
       refine ED ?_;(try simp only[Exit.then])
       go_wp2;go_roundw
       case rel=>exact⟨j+1,hlt,by go_num,z2,i0⟩
       case measure=>exact ms
     ·obtain rfl:j=M.length:=by omega
      rw[aFa (aGo N1.o)] at HO;obtain⟨Ar,cr,rfl,-⟩:=aHi HO.o.sl;have hsl:=HO.o.sl;rw[N1.o] at hsl ⊢;have v2:=zz hsl;clear hsl;have hdo:DotOK Rs Rs:=lQ (aEa _) T1.o T1.o (by decide) (by decide) (by rw[N1.o];omega);have hqd:QL 300000000 300000000 (bK Rs Rs):=(eD T1.o T1.o (by decide) (by decide) Rs.length).mono (by rw[N1.o];omega) (by rw[N1.o];omega);have P1:=zz hdo;have a2:=zz hqd;clear hdo hqd;have HBz:=tr u1 HW;have HOz:=st aEd HOc HW;go_wp2_with fail
      refine(nx HBz (fJ _ _ _ _ _ _ _ Rs Rs v2.o v2.o (DotOK.le P1.o) (DotOK.ql P1.o))).mono ?_;rintro e w50 ⟨⟨B51,z51,C1⟩,v,rfl,hv⟩;have U2:=zz hv;clear hv;go_wp2_with fail
      refine(nx C1 (oP _ _ (bK Rs Rs) U2.o a2.o)).mono ?_;rintro e w53 ⟨⟨B54,z54,D1⟩,hr⟩;obtain⟨v,rfl,hv⟩:=hr;obtain⟨n1,A1,l1,c1,m1,A2,l2,c2,rfl⟩:=aMh hv;have V2:=zz hv;clear hv;have Y3:=tr B51 B54;have b0:=aEd HOz.o Y3.o;have O0:=cz4 b0;have T0:=fz4 b0;go_wp2;clear O0 T0;rw[HR.o];exact aLp (r:=gY (bK Rs Rs)) rfl b0 (by simp[aF,aE]) D1.o (by omega) V2.o rfl rfl
end Go.Proofs.YtencnahjgbdeoaaGreatDoor
