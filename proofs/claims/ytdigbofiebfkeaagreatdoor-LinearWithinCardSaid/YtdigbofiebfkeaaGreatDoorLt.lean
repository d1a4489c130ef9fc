/- Layer 35: Measure (written by gen_lt.py). -/
import Derived.Test.YtdigbofiebfkeaaGreatDoorLopq
namespace Go.Proofs.YtdigbofiebfkeaaGreatDoor
open Go Go.RowKit Dig
set_option maxRecDepth 100000
set_option maxHeartbeats 4000000
set_option linter.unusedSimpArgs false
theorem DotOK.le {r s:List Rat} (h:DotOK r s):r.length≤s.length:=h.1
theorem DotOK.ql {r s:List Rat} (h:DotOK r s):∀ j,j<r.length→QL 60000000 60000000 (r.getD j 0)∧QL 60000000 60000000 (s.getD j 0)∧QL 60000000 60000000 (r.getD j 0*s.getD j 0)∧QL 60000000 60000000 (dotTo r s j):=h.2
theorem valid_is {x:List QX} (h:(x.all fun q=>(qv q).isSome)=true):x=(rats x).map qx∧∀ q∈rats x,QL 600 600 q:=by
 rw[List.all_eq_true] at h;have key:∀ y∈x,y=qx ((qv y).getD 0)∧QL 600 600 ((qv y).getD 0):=fun y hy=>by
  obtain⟨q,hq⟩:=Option.isSome_iff_exists.1 (h y hy);rw[hq,Option.getD_some];obtain⟨h1,h2⟩:=qOf_some hq;have h3:=numOf_is h1;have h4:=numOf_is h2;exact⟨qv_some hq,h3.2.2.2,by simpa using h4.2.2.2⟩
 refine⟨?_,fun q hq=>?_⟩
 ·unfold rats;rw[List.map_map]
  conv=>lhs;rw[← List.map_id x]
  exact List.map_congr_left fun y hy=>(key y hy).1
 ·obtain⟨y,hy,rfl⟩:=List.mem_map.1 hq;exact(key y hy).2
def valE:Bool→Int
 | true=>0
 | false=>40
theorem val_max (l:List QX) (n:Bool) (a:List Int) (m:Bool) (b:List Int):max (valE (l.all fun q=>(qv q).isSome)) (chkQ n a m b)=valE ((l.all fun q=>(qv q).isSome)&&(qv ((n,a),(m,b))).isSome):=by
 unfold chkQ qv;cases (l.all fun q=>(qOf q.1.1 q.1.2 q.2.1 q.2.2).isSome) <;> cases (qOf n a m b).isSome <;> rfl
theorem measure_of {M:List (List QX)} {b x:List QX} {E:Int} {fit:Bool} (hE:E=firstE [sysE (okM M),sysE (okL b),valE (x.all fun q=>(qv q).isSome)] fit) (hf:fit=(decide (b.length=M.length)&&decide (x.length=(M.getD 0 []).length))) :
  (E≠0→measureA M b x=(none,E))∧(E=0→measureA M b x=toldQ (squaresQ (ratM M) (rats b) (rats x))∧okM M=true∧okL b=true∧(x.all fun q=>(qv q).isSome)=true∧b.length=M.length∧x.length=(M.getD 0 []).length):=by
 cases h1:okM M with
 | false=>rw[h1] at hE;refine⟨fun _=>?_,fun h=>?_⟩;unfold measureA;rw[h1,if_neg (by simp),hE];rfl;rw[h] at hE;cases hE
 | true=>
  cases h2:okL b with
  | false=>rw[h1,h2] at hE;refine⟨fun _=>?_,fun h=>?_⟩;unfold measureA;rw[h1,h2,if_neg (by simp),hE];rfl;rw[h] at hE;cases hE
  | true=>
   cases h4:(x.all fun q=>(qv q).isSome) with
   | false=>rw[h1,h2,h4] at hE;refine⟨fun _=>?_,fun h=>?_⟩;unfold measureA;rw[h1,h2,h4,if_pos ⟨rfl,rfl⟩,if_neg (by simp),hE];rfl;rw[h] at hE;cases hE
   | true=>
   rw[h1,h2,h4] at hE;cases h3:fit with
   | false=>
    rw[h3] at hE hf;have hn:¬ (b.length=M.length∧x.length=(M.getD 0 []).length):=fun h=>by rw[decide_eq_true h.1,decide_eq_true h.2] at hf;cases hf
    refine⟨fun _=>?_,fun h=>?_⟩
    ·unfold measureA;rw[h1,h2,h4,if_pos ⟨rfl,rfl⟩,if_pos rfl,if_neg hn,hE];rfl
    ·rw[h] at hE;cases hE
   | true=>
    rw[h3] at hE hf;have hp:=(Bool.and_eq_true_iff.1 hf.symm);have hp':=And.intro (of_decide_eq_true hp.1) (of_decide_eq_true hp.2);refine⟨fun h=>absurd hE h,fun _=>⟨?_,rfl,rfl,rfl,hp'.1,hp'.2⟩⟩;unfold measureA;rw[h1,h2,h4,if_pos ⟨rfl,rfl⟩,if_pos rfl,if_pos hp']
theorem LMeasure_any (w:World) (A B D:Option Addr) (n c m d k e:Nat) (M:List (List QX)) (b x:List QX) (ha:QM w w.heap.size (.slice A n c) M) (hb:QS w w.heap.size (.slice B m d) b) (hx:QS w w.heap.size (.slice D k e) x) :
  Calls Tryz.prog 12 #[.slice A n c,.slice B m d,.slice D k e] w fun e w'=>Below w.heap.size w w'∧RetQ w' (measureA M b x) e:=by
 obtain⟨rfl,hn1,hn2⟩:=SL.len ha;obtain⟨rfl,hm1,hm2⟩:=SL.len hb;obtain⟨rfl,I1,J1⟩:=SL.len hx;have HQ:=zz ha;have HS:=zz hb;have B2:=zz hx;clear ha hb hx;obtain⟨w0,hw0⟩:∃ w0:World,w0=((((w.alloc (.cells #[.slice A M.length c] 27)).alloc (.cells #[.slice B b.length d] 28)).alloc (.cells #[.slice D x.length e] 28)).alloc (.cells #[.bool false,.slice none 0 0,.bool false,.slice none 0 0] 33)):=⟨_,rfl⟩;have B0:=zz (n4_b hw0);have z0:=n4_z hw0;have La:=n4_0 hw0;have Lb:=n4_1 hw0;have Lx:=n4_2 hw0;have Lr6:=n4_3 hw0;have m2:=zz (HQ.out.step (SE.stable EQ.stable) B0.out);have n2:=zz (HS.out.step EQ.stable B0.out);have U1:=zz (B2.out.step EQ.stable B0.out);have HA:=zz La;have HB:=zz Lb;have HX:=zz Lx;have HO:=zz Lr6;obtain⟨fit,hfit⟩:∃ fit:Bool,fit=(decide (b.length=M.length)&&decide (x.length=(M.getD 0 []).length)):=⟨_,rfl⟩;have V1:=zz hfit;clear hfit;obtain⟨E,hE⟩:∃ E,E=firstE [sysE (okM M),sysE (okL b),valE (x.all fun q=>(qv q).isSome)] fit:=⟨_,rfl⟩;have o2:=zz hE;clear hE;go_enter Tryz.func12,Tryz.ntmps12
 go_upto_region 1 with (fail)
 rw[← hw0];clear hw0;have Y0:=HX.out.cell 0 rfl;have i2:=HX.out.lt;go_wp2;clear Y0 i2;have n0:=zz (Below.refl w0.heap.size w0);go_loopw [8,18] (fun vv iv wr=>∃ j:Nat,j≤x.length∧iv=.int .i64 j∧vv=.int .i64 (valE ((x.take j).all fun q=>(qv q).isSome))∧Hid (Below w0.heap.size w0 wr)) (fun _ iv _=>x.length-(intOf iv).toNat)
 case atStart=>exact⟨0,Nat.zero_le _,rfl,rfl,n0⟩
 case round=>
  obtain⟨j,hj,rfl,rfl,HW⟩:=hrel;have zr:=HW.out.size;by_cases hlt:j<x.length
  ·obtain⟨g,off,xA,xl,xc,xB,xu,xd,rfl,hg,hE,hv⟩:=QS.elem U1.out hlt;replace hE:=hE.step HW.out;have j0:=QR.step hv HW.out;clear hv hg;have htk:(x.take (j+1)).all (fun q=>(qv q).isSome)=((x.take j).all (fun q=>(qv q).isSome)&&(qv x[j]).isSome):=by rw[List.take_add_one,List.getElem?_eq_getElem hlt,List.all_append];simp
   have S1:=zz htk;clear htk;obtain⟨⟨⟨xn,ya⟩,xm,yb⟩,hxj⟩:∃ y,y=x[j]:=⟨_,rfl⟩;rw[← hxj] at hE j0 S1;simp only at hE j0;clear hxj;have F2:=zz j0;clear j0;have hji:(0:Int)≤(j:Int)∧(j:Int)<(x.length:Int):=(by omega);have Z0:=hE.c0;have a1:=hE.c1;have b1:=hE.c2;have d1:=hE.c3;have j2:=hE.lt;go_upto_region 5 with (fail)
   clear Z0 a1 b1 d1 j2;obtain⟨w3,h0⟩:∃ w3:World,w3=(wr.alloc (.cells #[.bool xn,.slice xA xl xc,.bool xm,.slice xB xu xd] 33)):=⟨_,rfl⟩;rw[← h0];have d0:=n1_0 h0;have za3:=n1_z h0;have B4:=zz (n1_b h0);have z4:=B4.out.size;have E1:=tr HW B4;clear h0;have e1:=d0.cell 0 rfl;have i1:=d0.cell 1 rfl;have j1:=d0.cell 2 rfl;have k1:=d0.cell 3 rfl;have k2:=d0.lt;go_wp2_with fail
   have o1:=zz (QR.step F2.out B4.out);refine(QCheck_any _ _ xn ya xm yb o1.out).mono ?_;rintro e w6 ⟨X0,rfl⟩;have B9:=zz X0;have z9:=B9.out.size;have i0:=tr E1 B9;clear X0;clear e1 i1 j1 k1 k2;have hmx:=val_max (x.take j) xn ya xm yb;rw[← S1.out] at hmx;have H2:=zz hmx;clear hmx;go_wp2;go_roundw
   case rel=>exact⟨j+1,hlt,by go_num,by rw[← H2.out],i0⟩
   case measure=>simp[intOf];omega
  ·obtain rfl:j=x.length:=by omega
   rw[List.take_length];have I2:=tr B0 HW;have HQr:=zz (m2.out.step (SE.stable EQ.stable) HW.out);have HSr:=zz (n2.out.step EQ.stable HW.out);have HXr:=zz (U1.out.step EQ.stable HW.out);have HAr:=zz (CB.step HA.out HW.out);have HBr:=zz (CB.step HB.out HW.out);have HXXr:=zz (CB.step HX.out HW.out);have HOr:=zz (CB.step HO.out HW.out);clear m2 n2 U1 HA HB HX HO n0;go_upto_region 7 with (fail)
   have L1:∀ w':World,Below wr.heap.size wr w'→(Below wr.heap.size wr w'∧w'.cell? ⟨w.heap.size,0,none⟩=some (.slice A M.length c)∧w'.cell? ⟨w.heap.size+1,0,none⟩=some (.slice B b.length d)):=fun w' h=>⟨h,(CB.step HAr.out h).cell 0 rfl,(CB.step HBr.out h).cell 0 rfl⟩
   refine Early.start 7 (fun w'=>Below wr.heap.size wr w'∧w'.cell? ⟨w.heap.size,0,none⟩=some (.slice A M.length c)∧w'.cell? ⟨w.heap.size+1,0,none⟩=some (.slice B b.length d)) (by kernel_rfl) ?_;refine Early.take (i:=0) (.func (.func 53) #[] #[.pointer (some ⟨w.heap.size+1,0,none⟩),.pointer (some ⟨w.heap.size,0,none⟩),.pointer (some ⟨w.heap.size+2,0,none⟩)]) rfl (by kernel_rfl) (by kernel_rfl) (by kernel_rfl) (by kernel_rfl) (by kernel_rfl) (fun _ _ _ h=>h) (Or.inl ⟨by rfl,?_⟩) ?_ ?_
   ·intro w' hSw;obtain⟨-,t0,t1⟩:=hSw;go_simp
   ·exact L1 _ (below_drew1 (Below.refl _ _))
   (try simp only[PT])
   refine Early.take (i:=1) (.slice A M.length c) rfl (by kernel_rfl) (by kernel_rfl) (by kernel_rfl) (by kernel_rfl) (by kernel_rfl) (fun _ _ _ h=>h) (Or.inl ⟨by rfl,?_⟩) ?_ ?_
   ·intro w' hSw;obtain⟨-,t0,t1⟩:=hSw;go_simp
   ·exact L1 _ (below_drew1 (Below.refl _ _))
   (try simp only[PT])
   refine Early.take (i:=3) (.slice B b.length d) rfl (by kernel_rfl) (by kernel_rfl) (by kernel_rfl) (by kernel_rfl) (by kernel_rfl) (fun _ _ _ h=>h) (Or.inl ⟨by rfl,?_⟩) ?_ ?_
   ·intro w' hSw;obtain⟨-,t0,t1⟩:=hSw;go_simp
   ·exact L1 _ (below_drew1 (Below.refl _ _))
   (try simp only[PT])
   refine Early.take (i:=5) (.int .i64 (valE (x.all fun q=>(qv q).isSome))) rfl (by kernel_rfl) (by kernel_rfl) (by kernel_rfl) (by kernel_rfl) (by kernel_rfl) (fun _ _ _ h=>h) (Or.inl ⟨by rfl,?_⟩) ?_ ?_
   ·intro w' hSw;obtain⟨-,t0,t1⟩:=hSw;go_simp
   ·exact L1 _ (below_drew1 (Below.refl _ _))
   (try simp only[PT])
   refine Early.next (i:=2) (by kernel_rfl) rfl (fun K hK=>?_);go_simp;(with_reducible refine(LCheck_any _ A _ c M (SL.drew1 HQr.out (SE.stable EQ.stable))).mono ?_)
   rintro e w12 ⟨g0,rfl⟩;replace g0:Below wr.heap.size wr w12:=below_undrew g0;have B13:=zz g0;have z13:=B13.out.size;have p1:=tr I2 B13;clear g0;refine hK _ _ (fun _=>L1 _ B13.out) ?_;clear hK K;(try simp only[PT])
   refine Early.next (i:=4) (by kernel_rfl) rfl (fun K hK=>?_);go_simp;(with_reducible refine(list_any _ B _ d b (HSr.out.step EQ.stable B13.out)).mono ?_)
   rintro e w15 ⟨o0,rfl⟩;have B16:=zz o0;have z16:=B16.out.size;have q1:=tr p1 B16;clear o0;have P2_4_18:=tr B13 B16;refine hK _ _ (fun _=>L1 _ P2_4_18.out) ?_;clear hK K;(try simp only[PT])
   refine Early.next (i:=6) (by kernel_rfl) rfl (fun K hK=>?_);go_simp;refine hK _ _ (fun _=>L1 _ (below_alloc1 (P2_4_18.out) _)) ?_;clear hK K;(try simp only[PT])
   obtain⟨w19,e0⟩:∃ w19:World,w19=(w15.alloc (.cells #[.int .i64 (sysE (okM M)),.int .i64 (sysE (okL b)),.int .i64 (valE (x.all fun q=>(qv q).isSome))] 37)):=⟨_,rfl⟩;rw[← e0];have p0:=n1_0 e0;have za19:=n1_z e0;have B20:=zz (n1_b e0);have z20:=B20.out.size;have r1:=tr q1 B20;clear e0;refine Early.next (i:=7) (by kernel_rfl) rfl (fun K hK=>?_);go_simp;have P2_5_22:=tr P2_4_18 B20;(with_reducible refine((show Calls Tryz.prog _ _ _ _ from o2.out▸first_any _ 53 #[.pointer (some ⟨w.heap.size+1,0,none⟩),.pointer (some ⟨w.heap.size,0,none⟩),.pointer (some ⟨w.heap.size+2,0,none⟩)] fit _ 3 3 [sysE (okM M),sysE (okL b),valE (x.all fun q=>(qv q).isSome)] (ri_cells p0 [_,_,_] rfl (by simp)) (by simp) measureFit_run (fun hz w9 f0=>V1.out▸measureFit_any w9 _ _ _ A B D c d e M b x (CB.step HAr.out (P2_5_22.out.trans (f0.mono P2_5_22.out.size))) (HQr.out.step (SE.stable EQ.stable) (P2_5_22.out.trans (f0.mono P2_5_22.out.size))) (okM_pos (sysE_ok (hz _ (by simp)))) (CB.step HBr.out (P2_5_22.out.trans (f0.mono P2_5_22.out.size))) (CB.step HXXr.out (P2_5_22.out.trans (f0.mono P2_5_22.out.size)))))).mono ?_)
   rintro e w23 ⟨q0,rfl⟩;have B24:=zz q0;have z24:=B24.out.size;have s0:=tr r1 B24;clear q0;have P2_6_26:=tr P2_5_22 B24;refine hK _ _ (fun _=>L1 _ P2_6_26.out) ?_;clear hK K;(try simp only[PT])
   refine Early.next (i:=8) (by kernel_rfl) rfl (fun K hK=>?_);go_simp;refine hK _ _ (fun h=>absurd h (by decide)) ?_;clear hK K;(try simp only[PT])
   refine Early.done (by kernel_rfl) ?_ _;(try simp only[Exit.then])
   clear L1;have hsa:=measure_of o2.out V1.out;by_cases hE0:E=0
   case neg=>
    have hx0:(E != 0)=true:=by rw[bne_iff_ne];exact hE0
    have HR:=zz (hsa.1 hE0);clear hE0 hsa;have a0:=CB.step HOr.out P2_6_26.out;have C0:=a0.cell 0 rfl;have D0:=a0.cell 1 rfl;have E0:=a0.cell 2 rfl;have F0:=a0.cell 3 rfl;have W1:=a0.lt;have G0:=a0.frozen 0;have H0:=a0.frozen 1;have I0:=a0.frozen 2;have J0:=a0.frozen 3;have X1:=a0.lt;go_wp2;clear C0 D0 E0 F0 W1 G0 H0 I0 J0 X1;rw[HR.out];exact QB.fin (r:=(none,E)) rfl a0 (by simp[noInt_b,noInt_s]) s0.out (by omega) (zeroQ _ _) rfl rfl
   case pos=>
    obtain⟨hr,h1,h2,h3,h4,h5⟩:=hsa.2 hE0;subst hE0;obtain⟨-,hs4,hw4,hm1,hm2,hw1,hw2⟩:=okM_is h1;obtain⟨hbe,k0,-,-⟩:=okL_is h2;obtain⟨hxe,hx4⟩:=valid_is h3;obtain⟨k,hk⟩:∃ k,k=wideQ (ratM M):=⟨_,rfl⟩;have hxk:x.length=k:=by rw[h5,hk,wide_raw]
    rw[← hk] at hw4 hw1 hw2;obtain⟨X,hX⟩:∃ X,X=rats x:=⟨_,rfl⟩;obtain⟨Bq,hBq⟩:∃ Bq,Bq=rats b:=⟨_,rfl⟩;obtain⟨N,hN⟩:∃ N,N=ratM M:=⟨_,rfl⟩;rw[← hX] at hr hxe hx4;rw[← hBq] at hr hbe k0;rw[← hN] at hr hs4 hw4;have hXl:X.length=k:=by rw[hX,rats,List.length_map,hxk]
    have hBl:Bq.length=M.length:=by rw[hBq,rats,List.length_map,h4]
    have hNl:N.length=M.length:=by rw[hN,ratM,List.length_map]
    obtain⟨Rs,hRs⟩:∃ Rs,Rs=restL N Bq X:=⟨_,rfl⟩;have hRl:Rs.length=M.length:=by rw[hRs,restL,List.length_mapIdx,hNl]
    have hRi:∀ j (hj:j<N.length) (hj':j<Rs.length),Rs[j]=dotQ X N[j]-Bq.getD j 0:=fun j hj hj'=>by simp only[hRs,restL,List.getElem_mapIdx];rw[dotQ_comm (by rw[hw4 _ (List.getElem_mem hj),hXl])]
    have hRq:∀ q∈Rs,QL 7271 7271 q:=fun q hq=>by
     obtain⟨j,hj,rfl⟩:=List.getElem_of_mem hq;rw[hRi j (by omega) hj];have h9:=dotTo_ql hx4 (hs4 _ (List.getElem_mem (show j<N.length by omega))) (by decide) (by decide) X.length;exact((h9.mono (show _≤3631 by rw[hXl];omega) (show _≤3631 by rw[hXl];omega)).sub (short_getD k0 (by decide) j)).mono (by decide) (by decide)
    have HR:=zz (hr.trans (by unfold squaresQ;rw[← hRs]));have H1:=zz h1;have H4:=zz h4;have J2:=zz hxe;have p2:=zz hx4;have K2:=zz hbe;have F1:=zz k0;have q2:=zz hs4;have O1:=zz hw4;have HK:=zz (And.intro hm1 (And.intro hm2 (And.intro hw1 hw2)));have M1:=zz hXl;have r2:=zz hBl;have M2:=zz hNl;have N1:=zz hRl;have N2:=zz hRi;have T1:=zz hRq;have Z2:=zz hxk;have O2:=zz hN;clear hr h1 h2 h3 h4 h5 hxe hx4 hbe k0 hs4 hw4 hm1 hm2 hw1 hw2 hXl hBl hNl hRs hRl hRi hRq hsa hk hX hBq hN hxk;have hkk:(k:Int)≤6∧(1:Int)≤(k:Int):=by have:=HK.out;omega
    have hmm:(M.length:Int)≤12:=by have:=HK.out;omega
    have HXv:=zz (show QS w23 w23.heap.size (.slice D x.length e) (X.map qx) from by rw[← J2.out];exact HXr.out.step EQ.stable P2_6_26.out);have l0:=CB.step HXXr.out P2_6_26.out;have K0:=l0.cell 0 rfl;have Y1:=l0.lt;go_wp2_with fail
    clear K0 Y1;refine(read_any _ _ _ _ X HXv.out (by rw[M1.out];omega)).mono ?_;rintro e w32 ⟨u0,g1,rfl,hg1,ho1⟩;have B33:=zz u0;have z33:=B33.out.size;have s1:=tr s0 B33;clear u0;rw[M1.out] at ho1 ⊢;have s2:=zz ho1;clear ho1 hg1;have P2_7_36:=tr P2_6_26 B33;have m0:=CB.step HAr.out P2_7_36.out;have L0:=m0.cell 0 rfl;have Z1:=m0.lt;go_wp2_with fail
    clear L0 Z1;refine(readM_any _ A _ c M (HQr.out.step (SE.stable EQ.stable) P2_7_36.out) H1.out).mono ?_;rintro e w38 ⟨v0,g2,G2,C2,rfl,hom⟩;have B39:=zz v0;have z39:=B39.out.size;have u1:=tr s1 B39;clear v0;rw[← O2.out] at hom;have P2:=zz hom;clear hom;have x2:=zz (s2.out.step ER.stable B39.out);clear s2;have P2_8_41:=tr P2_7_36 B39;have HBv:=zz (show QS w38 w38.heap.size (.slice B b.length d) (Bq.map qx) from by rw[← K2.out];exact HSr.out.step EQ.stable P2_8_41.out);have M0:=CB.step HBr.out P2_8_41.out;have x0:=CB.step HOr.out P2_8_41.out;have HBc:=zz M0;have HOc:=zz x0;obtain⟨iq,hiq,hzq,hsq,hbq⟩:=info_parts info_ratio;have v1:=zz (Below.refl w38.heap.size w38);go_wp2;go_loopw [13,44] (fun rv iv wr=>∃ j:Nat,j≤M.length∧iv=.int .i64 j∧Hid (OA 3 ER 84 wr w38.heap.size rv (Rs.take j))∧Hid (Below w38.heap.size w38 wr)) (fun _ iv _=>M.length-(intOf iv).toNat)
    case atStart=>exact⟨0,Nat.zero_le _,rfl,zz OA.nil,v1⟩
    case round=>
     obtain⟨j,hj,rfl,HO,HW⟩:=hrel;have zr2:=HW.out.size;by_cases hlt:j<M.length
     ·have hjn:j<N.length:=by rw[M2.out];exact hlt
      have hjr:j<Rs.length:=by rw[N1.out];exact hlt
      have R1:=zz (P2.out.step ER.stable HW.out);have qh:=OM.head R1.out O1.out hjn;have qc:=OM.caps R1.out O1.out hjn;have hrow:=(R1.out.rows j hjn).sl (c:=C2 j) (by rw[O1.out _ (List.getElem_mem hjn)];exact qc.1) qc.2;rw[O1.out _ (List.getElem_mem hjn)] at hrow;have t2:=zz hrow;clear hrow;have hox3:=(x2.out.step ER.stable HW.out).sl (c:=k) (by rw[M1.out];exact Nat.le_refl _) (by omega);rw[M1.out] at hox3;have y2:=zz hox3;clear hox3;obtain⟨gb,offb,yA,yl,yc,yB,yu,yd,rfl,hgb,hEb,hvb⟩:=QS.elem HBv.out (j:=j) (by rw[List.length_map,r2.out];exact hlt);replace hEb:=hEb.step HW.out;simp only[List.getElem_map] at hEb hvb;have u2:=zz (QV.step (QR.qv hvb) HW.out);clear hvb hgb;have hji:(0:Int)≤(j:Int)∧(j:Int)<(M.length:Int):=by omega
      have hjb:(j:Int)<(b.length:Int):=by have:=H4.out;omega
      have hjq:j<Bq.length:=by rw[r2.out];exact hlt
      obtain⟨y,hy⟩:∃ y,y=Bq[j]:=⟨_,rfl⟩;obtain⟨r,hr⟩:∃ r,r=N[j]:=⟨_,rfl⟩;have hRj:Rs[j]=dotQ X r-y:=by rw[N2.out j hjn hjr,hr,hy,getD_is hjq]
      have hqy:QL 4 4 y:=by rw[hy];exact F1.out _ (List.getElem_mem hjq)
      have hrl:r.length=k:=by rw[hr];exact O1.out _ (List.getElem_mem hjn)
      have hdo:DotOK X r:=dot_ok (by rw[M1.out,hrl];exact Nat.le_refl _) p2.out (by rw[hr];exact q2.out _ (List.getElem_mem hjn)) (by decide) (by decide) (by rw[M1.out];omega);have hqd:QL 3631 3631 (dotQ X r):=(dotTo_ql p2.out (show ∀ q∈r,QL 4 4 q by rw[hr];exact q2.out _ (List.getElem_mem hjn)) (by decide) (by decide) X.length).mono (by rw[M1.out];omega) (by rw[M1.out];omega);have htk:Rs.take (j+1)=Rs.take j++[dotQ X r-y]:=by rw[List.take_add_one,List.getElem?_eq_getElem hjr,hRj];rfl
      rw[← hy] at hEb u2;rw[← hr] at t2;have S1:=zz htk;have Q2:=zz hqy;have P1:=zz hdo;have a2:=zz hqd;clear htk hqy hdo hqd hRj hy hr hrl;have HBc3:=zz (CB.step HBc.out HW.out);go_upto_region 15 with (fail)
      clear qh qc;refine Sweep.r0 [se 0 49 [] (u13),se 1 50 [] (.slice (some ⟨g1,0,none⟩) k k),se 2 51 [] (.slice (some ⟨G2 j,0,none⟩) k (C2 j)),sf 3 52 [1,2] (fun fv fw=>RV fw fw.heap.size fv (dotQ X r)),se 4 53 [] (.slice (some ⟨gb,offb,none⟩) b.length d),se 5 54 [] (.int .i64 (j:Int)),se 6 55 [4,5] (.pointer (some ⟨gb,offb+j*4,none⟩)),se 7 56 [6] (.agg #[.bool (qx y).1.1,.slice yA yl yc,.bool (qx y).2.1,.slice yB yu yd]),se 8 57 [7] (.agg #[.bool (qx y).1.1,.slice yA yl yc,.slice yB yu yd]),sf 9 58 [3,8] (fun fv fw=>RV fw fw.heap.size fv (dotQ X r-y)),sf 10 59 [9] (fun fv fw=>∃ b n A l c B u d,fv=.slice (some ⟨b,0,none⟩) 1 1∧CB fw b 84 #[.bool n,.slice A l c,.slice B u d]∧RV fw fw.heap.size (.agg #[.bool n,.slice A l c,.slice B u d]) (dotQ X r-y))] 2 (SB HBc3.out (SC (fun _ h=>(E4.step hEb h).c0) (SC (fun _ h=>(E4.step hEb h).c1) (SC (fun _ h=>(E4.step hEb h).c2) (SC (fun _ h=>(E4.step hEb h).c3) S0))))) (MA (fun _ _ _ h hb=>h.step hb) (MA (fun _ _ _ h hb=>h.step hb) (MA (fun _ _ _ h hb=>let ⟨b,n,A,l,c,B,u,d,e,h1,h2⟩:=h;⟨b,n,A,l,c,B,u,d,e,h1.step hb,h2.step hb⟩) trivial))) ?_ ?_
      ·intro xs a_ hA;simp only[SX] at hA
       iterate 11 (refine ac ?_ ?_;rotate_left)
       exact all_nil
       all_goals (intro wk hb;simp only[SX,↓reduceIte,Nat.reduceEqDiff,Nat.reduceAdd];have b_:=zz hb;have z_:=hb.size;clear hb;subst hA)
       any_goals (intros;refine wpOp_step rfl ?_;intro K hK;go_simp;refine hK _ _ ⟨_,?_,Below.refl _ _,rfl⟩;simp only[*,FL] <;> kernel_rfl)
       ·intro f1 f2;intros;refine wpOp_step (o:=_) rfl (fun K hK=>?_);go_simp;(with_reducible refine(products_any _ _ _ _ _ _ _ X r (y2.out.step ER.stable b_.out) (t2.out.step ER.stable b_.out) (DotOK.le P1.out) (DotOK.ql P1.out)).mono ?_)
        rintro e wc44 ⟨w1,v44,rfl,x1⟩;refine hK _ _ ⟨v44,by simp only[FL,f1,f2] <;> kernel_rfl,w1,x1⟩
       ·intro f7;intros;refine wpOp_step (o:=_) rfl (fun K hK=>?_);go_simp;(with_reducible refine(Read_any _ _ _ _ _ _ _ _ _).mono ?_)
        rintro e wc45 ⟨y1,rfl⟩;refine hK _ _ ⟨.agg #[.bool (qx y).1.1,.slice yA yl yc,.slice yB yu yd],by simp only[FL,f7] <;> kernel_rfl,y1,rfl⟩
       ·intro f3 f8;intros;refine wpOp_step (o:=_) rfl (fun K hK=>?_);go_simp;have N0:=zz (QV.step u2.out b_.out);(with_reducible refine(Diff_any _ _ _ (dotQ X r) y f3 (qv_rv N0.out) (a2.out.mono (by decide) (by decide)) (Q2.out.mono (by decide) (by decide))).mono ?_)
        rintro e wc47 ⟨z1,v47,rfl,B1⟩;refine hK _ _ ⟨v47,by simp only[FL,f8] <;> kernel_rfl,z1,B1⟩
       ·intro f9;intros;refine wpOp_step (o:=_) rfl (fun K hK=>?_);obtain⟨rn,rA,rl,rc,rB,ru,rd,hx9,G1⟩:=f9;rw[hx9];have hrv:RV wk wk.heap.size (.agg #[.bool rn,.slice rA rl rc,.slice rB ru rd]) (dotQ X r-y):=⟨_,_,_,_,_,_,_,rfl,G1⟩;go_simp;refine hK _ _ ⟨.slice (some ⟨wk.heap.size,0,none⟩) 1 1,by simp only[FL,hx9] <;> kernel_rfl,(Below.refl _ _).alloc (Nat.le_refl _) _,⟨_,rn,rA,rl,rc,rB,ru,rd,rfl,CB.new _ _ _,RV.step hrv ((Below.refl _ _).alloc (Nat.le_refl _) _)⟩⟩
      ·intro xs Y2 hbf;simp only[SY];have B49:=zz hbf;have z49:=B49.out.size;clear hbf;generalize xs 3=x3,xs 9=x9,xs 10=x10;rintro f3 f9 f10;clear f3;clear f9;obtain⟨bs,rn,rA,rl,rc,rB,ru,rd,rfl,hbs,hbv⟩:=f10;have R2:=zz hbs;have S2:=zz hbv;clear hbs hbv;have T2:=zz (OA.step HO.out ER.stable B49.out);have z9:=B49.out.size;refine EN 11 rfl fun K hK=>?_;rw[if_pos (show Region.wanted _ _=true from rfl)];refine wp_append_oa _ _ _ rfl w38.heap.size 84 iq _ 56 Tryz.underlying75 hiq hzq hsq hbq rfl (by decide) (by decide) ER.stable ER.soft T2.out rfl ⟨bs,0,none⟩ 1 [(dotQ X r-y)] rfl Nat.one_pos [.bool rn,.slice rA rl rc,.slice rB ru rd] (EL.one rfl ⟨_,_,_,rfl,S2.out⟩) (cells_at R2.out [_,_,_] rfl) (by intro u hu;simp at hu;rcases hu with rfl | rfl | rfl <;> rfl) (by simp only[List.length_take,List.length_cons,List.length_nil,maxLen];omega) (by simp only[List.length_take,List.length_cons,List.length_nil];omega) (by omega) ?_;intro v9 w9 hoa9 f0 hs9 hg9 hat9;have z2:Hid (OA 3 ER 84 w9 w38.heap.size v9 (Rs.take (j+1))):=zz (by rw[S1.out];exact hoa9);have i0:=zz ((HW.out.trans (B49.out.mono HW.out.size)).trans f0);clear hoa9 f0 hs9 hg9 hat9;refine hK _ _ ?_;clear hK K;(try simp only[PT])
       refine EN 12 rfl fun K hK=>?_
       go_simp;refine hK _ _ ?_;clear hK K;(try simp only[PT])
       refine ED ?_;(try simp only[Exit.then])
       go_wp2;go_roundw
       case rel=>exact⟨j+1,hlt,by go_num,z2,i0⟩
       case measure=>simp[intOf];omega
     ·obtain rfl:j=M.length:=by omega
      rw[List.take_of_length_le (Nat.le_of_eq N1.out)] at HO;obtain⟨Ar,cr,rfl,-⟩:=SL.slice HO.out.sl;have hsl:=HO.out.sl;rw[N1.out] at hsl ⊢;have v2:=zz hsl;clear hsl;have hdo:DotOK Rs Rs:=dot_ok (Nat.le_refl _) T1.out T1.out (by decide) (by decide) (by rw[N1.out];omega);have hqd:QL 300000000 300000000 (dotQ Rs Rs):=(dotTo_ql T1.out T1.out (by decide) (by decide) Rs.length).mono (by rw[N1.out];omega) (by rw[N1.out];omega);have P1:=zz hdo;have a2:=zz hqd;clear hdo hqd;have HBz:=tr u1 HW;have HOz:=zz (CB.step HOc.out HW.out);go_wp2_with fail
      refine(products_any _ _ _ _ _ _ _ Rs Rs v2.out v2.out (DotOK.le P1.out) (DotOK.ql P1.out)).mono ?_;rintro e w50 ⟨y0,v,rfl,hv⟩;have B51:=zz y0;have z51:=B51.out.size;have C1:=tr HBz B51;clear y0;have U2:=zz hv;clear hv;go_wp2_with fail
      refine(ToldR_any _ _ (dotQ Rs Rs) U2.out a2.out).mono ?_;rintro e w53 ⟨A0,hr⟩;have B54:=zz A0;have z54:=B54.out.size;have D1:=tr C1 B54;clear A0;obtain⟨v,rfl,hv⟩:=hr;obtain⟨n1,A1,l1,c1,m1,A2,l2,c2,rfl⟩:=QO.cells hv;have V2:=zz hv;clear hv;have P1_3_57:=tr B51 B54;have b0:=CB.step HOz.out P1_3_57.out;have O0:=b0.cell 0 rfl;have P0:=b0.cell 1 rfl;have Q0:=b0.cell 2 rfl;have R0:=b0.cell 3 rfl;have b2:=b0.lt;have T0:=b0.frozen 0;have U0:=b0.frozen 1;have V0:=b0.frozen 2;have W0:=b0.frozen 3;have d2:=b0.lt;go_wp2;clear O0 P0 Q0 R0 b2 T0 U0 V0 W0 d2;rw[HR.out];exact QB.fin (r:=toldQ (dotQ Rs Rs)) rfl b0 (by simp[noInt_b,noInt_s]) D1.out (by omega) V2.out rfl rfl
end Go.Proofs.YtdigbofiebfkeaaGreatDoor
