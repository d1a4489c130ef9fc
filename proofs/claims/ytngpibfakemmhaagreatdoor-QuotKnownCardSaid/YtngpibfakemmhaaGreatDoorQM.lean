/- Layer 04: Span, Near (written by gen_qm.py). -/
import Derived.Test.YtngpibfakemmhaaGreatDoorQL
import Derived.Test.YtngpibfakemmhaaGreatDoorQG
namespace Go.Proofs.YtngpibfakemmhaaGreatDoor
open Go Go.RowKit Dig
noncomputable def spanV (z:Int) (d:Nat):(Int × Int) × Int:=
 if (z / (d:Int)).natAbs≤4503599627370496∧(if z % (d:Int)≠0 then z / (d:Int)+1 else z / (d:Int))≤4503599627370496 then ((z / (d:Int),if z % (d:Int)≠0 then z / (d:Int)+1 else z / (d:Int)),0) else ((0,0),6)
noncomputable def spanQ:Option Rat→(Int × Int) × Int
 | some q=>spanV (q.num*4294967296) q.den
 | none=>((0,0),40)
def RetSp (r:(Int × Int) × Int) (e:Ending):Prop:=e=.returned (.tuple #[.agg #[.int .i64 r.1.1,.int .i64 r.1.2],.int .i64 r.2])
theorem dig2:dig 2=[2]:=dig_one (by omega) (by omega)
theorem numN_yes {z m:Int} (h:z.natAbs≤m.natAbs):numN z m=.tuple #[.int .i64 z,.bool true]:=by unfold numN;rw[if_pos h,decide_eq_true h]
theorem numN_no {z m:Int} (h:¬ z.natAbs≤m.natAbs):numN z m=.tuple #[.int .i64 0,.bool false]:=by unfold numN;rw[if_neg h,decide_eq_false h]
theorem SB.put {fn:Func} {p k:Tmp} {W w:World} {B b:Nat} {x y x0 y0:Int} {r:(Int × Int) × Int} {tmps:Array Value} (hf:fn.results=#[.cell p 44,.tmp k]) (hC:CB w b 44 #[.int .i64 x0,.int .i64 y0]) (hb:Below B W w) (hB:B≤b)
  (hr1:r.1=(x,y)) (hp:tmps.getD p undef=.pointer (some ⟨b,0,none⟩)) (hk:tmps.getD k undef=.int .i64 r.2) :
  bodyPost Tryz.prog fn (fun e w'=>Below B W w'∧RetSp r e) .ret ⟨tmps,[]⟩ ((w.setCell ⟨b,0,none⟩ (.int .i64 x)).setCell ⟨b,1,none⟩ (.int .i64 y)):=by
 have h1:CB _ b _ #[.int .i64 x,.int .i64 y0]:=CB.set hC 0 (.int .i64 x);have h2:CB _ b _ #[.int .i64 x,.int .i64 y]:=CB.set h1 1 (.int .i64 y);exact bodyPost_ret (SB.ret hf _ h2 hp) rfl ⟨((hb.setCell hB _).setCell hB _),by unfold RetSp;rw[hk,hr1]⟩
theorem QCheck_no {w:World} {v:Value} {n m:Bool} {a b:List Int} (h:QR w w.heap.size v n a m b) (hq:qOf n a m b=none) :
  Calls Tryz.prog 8 #[v] w fun e w'=>Below w.heap.size w w'∧e=.returned (.int .i64 40):=by
 have h1:=QCheck_any w v _ _ _ _ h;rw[chkQ_none hq] at h1;exact h1
set_option maxRecDepth 100000 in
set_option maxHeartbeats 4000000 in
theorem QSpan_bad (w:World) (va:Value) (n m:Bool) (a b:List Int) (ha:QR w w.heap.size va n a m b) (hbad:qOf n a m b=none) :
  Calls Tryz.prog 20 #[va] w fun e w'=>Below w.heap.size w w'∧RetSp ((0,0),40) e:=by
 obtain⟨A,l,c,A',l',c',rfl,ha⟩:=RI.of ha;have HA:=zz ha;have HC:=zz hbad;clear ha hbad;obtain⟨w0,hw0⟩:∃ w0:World,w0=((w.alloc (.cells #[.bool n,.slice A l c,.bool m,.slice A' l' c'] 28)).alloc (.cells #[.int .i64 0,.int .i64 0] 44)):=⟨_,rfl⟩;have B0:=zz (n2_b hw0);have z0:=n2_z hw0;have La:=n2_0 hw0;have Lr2:=n2_1 hw0;replace HA:=zz (QR.step HA.out B0.out);go_enter Tryz.func20,Tryz.ntmps20
 go_upto_region 1 with (fail)
 rw[← hw0];clear hw0;have c0:=La.cell 0 rfl;have d0:=La.cell 1 rfl;have e0:=La.cell 2 rfl;have f0:=La.cell 3 rfl;have l0:=La.lt;go_wp2_with fail
 refine(QCheck_no HA.out HC.out).mono ?_;rintro e w1 ⟨b0,rfl⟩;have B3:=zz b0;have z3:=B3.out.size;have g0:=zz (B0.out.trans (B3.out.mono B0.out.size));clear b0;clear c0 d0 e0 f0 l0;have a0:=CB.step Lr2 B3.out;have h0:=a0.cell 0 rfl;have i0:=a0.cell 1 rfl;have n0:=a0.lt;have j0:=a0.frozen 0;have k0:=a0.frozen 1;have o0:=a0.lt;go_wp2;exact SB.put rfl a0 g0.out (by omega) rfl rfl rfl
set_option maxRecDepth 100000 in
set_option maxHeartbeats 4000000 in
theorem QSpan_good (w:World) (va:Value) (q:Rat) (ha:QV w w.heap.size va q) (lq:QL 600 600 q) (G:Glob w) :
  Calls Tryz.prog 20 #[va] w fun e w'=>Below w.heap.size w w'∧RetSp (spanQ (some q)) e:=by
 obtain⟨y,hy⟩:∃ y,y=q.num*4294967296:=⟨_,rfl⟩;obtain⟨z,hz⟩:∃ z,z=y / (q.den:Int):=⟨_,rfl⟩;obtain⟨t,ht⟩:∃ t,t=spanQ (some q):=⟨_,rfl⟩;rw[← ht];obtain⟨more,hm⟩:∃ b:Bool,b=decide (y % (q.den:Int)≠0):=⟨_,rfl⟩;have hs:t=if z.natAbs≤4503599627370496∧(if more=true then z+1 else z)≤4503599627370496 then ((z,if more=true then z+1 else z),0) else ((0,0),6):=by
  rw[ht,spanQ,← hy,spanV,← hz,hm];simp only[decide_eq_true_eq]
 have lY:(dig y.natAbs).length≤602:=by rw[hy,Int.natAbs_mul];have h1:=dig_len_mul q.num.natAbs (4294967296:Int).natAbs;have h2:(dig (4294967296:Int).natAbs).length≤2:=(by rw[dig_len_le];decide);have:=lq.1;omega
 have lZ:(dig z.natAbs).length≤604:=by rw[hz];have:=floor_len y q.den_nz;omega
 have HL:=zz (And.intro lY (And.intro lZ (And.intro lq.1 lq.2)));have HY:=zz hy;have HZ:=zz hz;have HS:=zz hs;have HM:=zz hm;clear lY lZ hs hm hz hy ht;obtain⟨n,A,l,c,m,A',l',c',rfl⟩:=QO.cells (show QO w w.heap.size va (some q) from ha);obtain rfl:=(QV.is ha).2.2.2;have HA:=zz ha;have W2:=zz lq;clear ha lq;obtain⟨w0,hw0⟩:∃ w0:World,w0=((w.alloc (.cells #[.bool n,.slice A l c,.bool false,.slice A' l' c'] 28)).alloc (.cells #[.int .i64 0,.int .i64 0] 44)):=⟨_,rfl⟩;have B0:=zz (n2_b hw0);have z0:=n2_z hw0;have La:=n2_0 hw0;have Lr2:=n2_1 hw0;replace HA:=zz (QV.step HA.out B0.out);go_enter Tryz.func20,Tryz.ntmps20
 go_upto_region 1 with (fail)
 rw[← hw0];clear hw0;have I1:=La.cell 0 rfl;have J1:=La.cell 1 rfl;have K1:=La.cell 2 rfl;have L1:=La.cell 3 rfl;have P2:=La.lt;go_wp2_with fail
 refine(QCheck_good HA.out W2.out).mono ?_;rintro e w1 ⟨D1,rfl⟩;have B3:=zz D1;have z3:=B3.out.size;have E1:=zz (B0.out.trans (B3.out.mono B0.out.size));clear D1;clear I1 J1 K1 L1 P2;have m0:=CB.step La B3.out;have M1:=m0.cell 0 rfl;have N1:=m0.cell 1 rfl;have O1:=m0.cell 2 rfl;have P1:=m0.cell 3 rfl;have Q2:=m0.lt;go_wp2_with fail
 refine(Read_any _ n false A A' l c l' c').mono ?_;rintro e w5 ⟨F1,rfl⟩;have B8:=zz F1;have z8:=B8.out.size;have G1:=zz (E1.out.trans (B8.out.mono E1.out.size));clear F1;clear M1 N1 O1 P1 Q2;go_upto_region 5 with (fail)
 obtain⟨w10,o0⟩:∃ w10:World,w10=(w5.alloc (.cells #[.bool n,.slice A l c,.slice A' l' c'] 80)):=⟨_,rfl⟩;rw[← o0];have t0:=n1_0 o0;have za10:=n1_z o0;have B11:=zz (n1_b o0);have z11:=B11.out.size;have C0:=zz (G1.out.trans (B11.out.mono G1.out.size));clear o0;have P1_3_13:=zz (B3.out.trans (B8.out.mono B3.out.size));have P1_4_14:=zz (P1_3_13.out.trans (B11.out.mono P1_3_13.out.size));have u0:=zz (QV.step HA.out P1_4_14.out);have X2:=zz (TV.fst (QV.read u0.out));have Y2:=zz (TV.is (QV.read u0.out)).2.1;have Z2:=zz (show ∀ w B v,WV w B v (q.num*(((4294967296:Int).natAbs:Nat):Int))→WV w B v y from fun w B v h=>by rw[HY.out];exact h);have a3:=zz (show(dig (4294967296:Int).natAbs).length≤100000 by exact Nat.le_trans (show(dig (4294967296:Int).natAbs).length≤2 by rw[dig_len_le];decide) (by decide));refine Flow.run [⟨0,19,fun fv fw=>fv=.pointer (some ⟨w5.heap.size,0,none⟩)⟩,⟨1,20,fun fv fw=>fv=.agg #[.bool n,.slice A l c]⟩,⟨2,21,fun fv fw=>LV fw fw.heap.size fv (4294967296:Int)⟩,⟨3,22,fun fv fw=>RN fw fw.heap.size fv (dig ((4294967296:Int)).natAbs)⟩,⟨4,23,fun fv fw=>WV fw fw.heap.size fv y⟩,⟨5,24,fun fv fw=>fv=.pointer (some ⟨w5.heap.size,0,none⟩)⟩] [] [] 1 (by kernel_rfl) (by kernel_rfl) (by kernel_rfl) (fun _ _ _ _ _ h=>h) ?_ ?_ ?_ ?_
 ·refine(a0 (a0 (all_cons (fun v w1 w2 h hb=>h.step hb) (all_cons (fun v w1 w2 h hb=>h.step hb) (all_cons (fun v w1 w2 h hb=>h.step hb) (a0 all_nil))))))
 ·refine(all_cons ?_ (all_cons ?_ (all_cons ?_ (all_cons ?_ (all_cons ?_ (all_cons ?_ all_nil))))))
  ·intro xs d2 b0 c0;clear b0;clear c0;refine wpOp_step (o:=_) rfl (fun K hK=>?_);simp only[FL]
   go_simp;refine hK _ _ ⟨.pointer (some ⟨w5.heap.size,0,none⟩),by kernel_rfl,Below.refl _ _,rfl,nF⟩
  ·intro xs g2 b0 c0;have O0:=zz b0;have i2:=b0.size;clear b0;have f0:(xs 0)=.pointer (some ⟨w5.heap.size,0,none⟩):=c0 _ (m_ 0 rfl) (by kernel_rfl);clear c0;refine wpOp_step (o:=_) rfl (fun K hK=>?_);simp only[FL]
   have v0:=CB.step t0 O0.out;have X1:=v0.cell 0 rfl;have Y1:=v0.cell 1 rfl;go_simp;refine hK _ _ ⟨.agg #[.bool n,.slice A l c],by simp only[FL,f0] <;> kernel_rfl,Below.refl _ _,rfl,nF⟩
  ·intro xs j2 b0 c0;clear b0;clear c0;refine wpOp_step (o:=_) rfl (fun K hK=>?_);simp only[FL]
   go_simp;(with_reducible refine(Of_any _ 4294967296 (by decide) (by decide)).mono ?_)
   rintro e wc21 ⟨Q1,v21,rfl,R1⟩;refine hK _ _ ⟨v21,by kernel_rfl,Q1,R1,nF⟩
  ·intro xs D0 b0 c0;clear b0;have f2:LV D0 D0.heap.size (xs 2) (4294967296:Int):=c0 _ (m_ 2 rfl) (by kernel_rfl);clear c0;refine wpOp_step (o:=_) rfl (fun K hK=>?_);simp only[FL]
   obtain⟨k3,b3,c3,d3,hx2,H1⟩:=LV.opened f2;have r2:=(LV.is H1).2.2;rw[hx2];clear H1;go_simp;refine hK _ _ ⟨.slice b3 c3 d3,by simp only[FL,hx2] <;> kernel_rfl,Below.refl _ _,r2,nF⟩
  ·intro xs E0 b0 c0;have P0:=zz b0;have m2:=b0.size;clear b0;have f1:(xs 1)=.agg #[.bool n,.slice A l c]:=c0 _ (m_ 1 rfl) (by kernel_rfl);have f3:RN E0 E0.heap.size (xs 3) (dig ((4294967296:Int)).natAbs):=c0 _ (m_ 3 rfl) (by kernel_rfl);clear c0;refine wpOp_step (o:=_) rfl (fun K hK=>?_);simp only[FL]
   go_simp;have F0:=zz (WV.step X2.out P0.out);(with_reducible refine(wtimes_any _ _ _ q.num (4294967296:Int).natAbs F0.out f3 (by have:=HL.out;omega) a3.out).mono ?_)
   rintro e wc25 ⟨S1,v25,rfl,T1⟩;refine hK _ _ ⟨v25,by simp only[FL,f1] <;> kernel_rfl,S1,Z2.out _ _ _ T1,nF⟩
  ·intro xs n2 b0 c0;clear b0;clear c0;refine wpOp_step (o:=_) rfl (fun K hK=>?_);simp only[FL]
   go_simp;refine hK _ _ ⟨.pointer (some ⟨w5.heap.size,0,none⟩),by kernel_rfl,Below.refl _ _,rfl,nF⟩
 ·exact all_nil
 ·intro xs s2 hbf hf hn hd;have f0:(xs 0)=.pointer (some ⟨w5.heap.size,0,none⟩):=hf _ (m_ 0 rfl);have f1:(xs 1)=.agg #[.bool n,.slice A l c]:=hf _ (m_ 1 rfl);have f2:LV s2 s2.heap.size (xs 2) (4294967296:Int):=hf _ (m_ 2 rfl);have f3:RN s2 s2.heap.size (xs 3) (dig ((4294967296:Int)).natAbs):=hf _ (m_ 3 rfl);have f4:WV s2 s2.heap.size (xs 4) y:=hf _ (m_ 4 rfl);have f5:(xs 5)=.pointer (some ⟨w5.heap.size,0,none⟩):=hf _ (m_ 5 rfl);clear hf hn hd;simp only[FL]
  have B28:=zz hbf;have z28:=B28.out.size;have U1:=zz (C0.out.trans (B28.out.mono C0.out.size));clear hbf;generalize xs 0=x0,xs 1=x1,xs 2=x2,xs 3=x3,xs 4=x4,xs 5=x5 at *
  obtain rfl:=f0;obtain rfl:=f1;obtain⟨n30,j3,l30,c30,rfl,G0⟩:=f2.opened;have V1:=zz G0;clear f2 G0;clear f3;obtain⟨q2,t2,u2,v2,rfl,ha31,H0⟩:=f4;have Q0:=zz (WV.mk ha31 H0);clear ha31 H0;obtain rfl:=f5;have d0:=CB.step t0 B28.out;have R0:=d0.cell 0 rfl;have S0:=d0.cell 1 rfl;have T0:=d0.cell 2 rfl;have z2:=d0.lt;have U0:=d0.frozen 0;have V0:=d0.frozen 1;have W0:=d0.frozen 2;have A2:=d0.lt;refine Early.next (i:=6) (by kernel_rfl) rfl (fun K hK=>?_);go_simp;refine hK _ _ (fun _=>trivial) ?_;clear hK K;(try simp only[Act.put,List.setIfInBounds_toArray,List.set_cons_zero,List.set_cons_succ])
  clear R0 S0 T0 z2 U0 V0 W0 A2;refine Early.done (by kernel_rfl) ?_ _;(try simp only[Exit.then])
  have P2_4_36:=zz (B8.out.trans (B11.out.mono B8.out.size));have P2_5_37:=zz (P2_4_36.out.trans (B28.out.mono P2_4_36.out.size));have X0:=CB.step m0 P2_5_37.out;have P1_5_39:=zz (P1_4_14.out.trans (B28.out.mono P1_4_14.out.size));have I0:=CB.step Lr2 P1_5_39.out;obtain⟨w40,k0⟩:∃ w40:World,w40=((s2.setCell ⟨w5.heap.size,0,none⟩ (.bool q2)).setCell ⟨w5.heap.size,1,none⟩ (.slice t2 u2 v2)):=⟨_,rfl⟩;rw[← k0];have S40:=zz (show Soft s2 w40 by rw[k0];exact(CB.soft1 (d0) (by simp[noInt_b,noInt_s]) 0 (.bool q2)).trans (CB.soft1 ((show CB _ (w5.heap.size) 80 #[.bool q2,.slice A l c,.slice A' l' c'] from CB.set (d0) 0 (.bool q2))) (by simp[noInt_b,noInt_s]) 1 (.slice t2 u2 v2)));have c2:=p2_f k0 X0 (by omega);have l0:=p2_f k0 I0 (by omega);have n0:CB w40 (w5.heap.size) 80 #[.bool q2,.slice t2 u2 v2,.slice A' l' c']:=by rw[k0];exact(show CB _ (w5.heap.size) 80 #[.bool q2,.slice t2 u2 v2,.slice A' l' c'] from CB.set ((show CB _ (w5.heap.size) 80 #[.bool q2,.slice A l c,.slice A' l' c'] from CB.set (d0) 0 (.bool q2))) 1 (.slice t2 u2 v2))
  have y0:=zz (p2_b k0 U1.out (by omega));have p2:=p2_z k0;clear k0;have A0:=zz (WV.soft Q0.out (S40.out));have J0:=zz (RN.soft Y2.out ((Soft.of B28.out).trans (S40.out)));have e3:=zz (show TV w40 w40.heap.size (.agg #[.bool q2,.slice t2 u2 v2,.slice A' l' c']) y q.den from TV.mk (WV.is A0.out).1 J0.out (WV.is A0.out).2);have Y0:=n0.cell 0 rfl;have Z0:=n0.cell 1 rfl;have a1:=n0.cell 2 rfl;have B2:=n0.lt;go_wp2_with fail
  refine(floor_any _ _ y q.den e3.out q.den_nz (by have:=HL.out;omega)).mono ?_;rintro e w43 ⟨K0,v,rfl,hv⟩;have B45:=zz K0;have z45:=B45.out.size;have L0:=zz (y0.out.trans (B45.out.mono y0.out.size));clear K0;clear Y0 Z0 a1 B2;rw[← HZ.out] at hv;rw[← HM.out];obtain⟨S2,T2,U2,V2,rfl,ha47,M0⟩:=hv;have b1:=zz (WV.mk ha47 M0);clear ha47 M0;go_upto_region 7 with (fail)
  obtain⟨w48,p0⟩:∃ w48:World,w48=(w43.alloc (.cells #[.bool S2,.slice T2 U2 V2] 78)):=⟨_,rfl⟩;rw[← p0];have r0:=n1_0 p0;have za48:=n1_z p0;have B49:=zz (n1_b p0);have z49:=B49.out.size;have s0:=zz (L0.out.trans (B49.out.mono L0.out.size));clear p0;have c1:=r0.cell 0 rfl;have d1:=r0.cell 1 rfl;have C2:=r0.lt;go_wp2_with fail
  have e1:=zz (WV.step b1.out B49.out);refine(number_any _ _ z 4503599627370496 e1.out (by decide) (by decide) (by have:=HL.out;omega) (G.step s0.out)).mono ?_;rintro e w51 ⟨N0,rfl⟩;have B54:=zz N0;have z54:=B54.out.size;have q0:=zz (s0.out.trans (B54.out.mono s0.out.size));clear N0;clear c1 d1 C2;by_cases hfit:z.natAbs≤4503599627370496
  ·rw[numN_yes (show z.natAbs≤(4503599627370496:Int).natAbs from hfit)];have hz0:-4503599627370496≤z:=by omega
   have hz1:z≤4503599627370496:=by omega
   cases more with
   | false=>
    have HT:=zz (show t=((z,z),0) by rw[HS.out];simp only[Bool.false_eq_true,if_false];exact if_pos ⟨hfit,hz1⟩);clear hfit;have P6_8_57:=zz (B45.out.trans (B49.out.mono B45.out.size));have P6_9_58:=zz (P6_8_57.out.trans (B54.out.mono P6_8_57.out.size));have e0:=CB.step l0 P6_9_58.out;have g1:=e0.cell 0 rfl;have i1:=e0.cell 1 rfl;have D2:=e0.lt;have j1:=e0.frozen 0;have k1:=e0.frozen 1;have E2:=e0.lt;go_wp2;clear g1 i1 D2 j1 k1 E2;exact SB.put rfl e0 q0.out (by omega) (by rw[HT.out]) rfl (by rw[HT.out];rfl)
   | true=>
    have hz3:z+1≤4503599627370497:=by omega
    by_cases hh:z+1≤4503599627370496
    ·have HT:=zz (show t=((z,z+1),0) by rw[HS.out];simp only[if_true];exact if_pos ⟨hfit,hh⟩);clear hfit;have hh2:¬ 4503599627370496<z+1:=by omega
     have P6_8_62:=zz (B45.out.trans (B49.out.mono B45.out.size));have P6_9_63:=zz (P6_8_62.out.trans (B54.out.mono P6_8_62.out.size));have g0:=CB.step l0 P6_9_63.out;have l1:=g0.cell 0 rfl;have m1:=g0.cell 1 rfl;have F2:=g0.lt;have n1:=g0.frozen 0;have o1:=g0.frozen 1;have G2:=g0.lt;go_wp2;clear l1 m1 F2 n1 o1 G2;exact SB.put rfl g0 q0.out (by omega) (by rw[HT.out]) rfl (by rw[HT.out];rfl)
    ·have HT:=zz (show t=((0,0),6) by rw[HS.out];simp only[if_true];exact if_neg (fun h=>hh h.2));clear hfit;have hh2:4503599627370496<z+1:=by omega
     have P6_8_67:=zz (B45.out.trans (B49.out.mono B45.out.size));have P6_9_68:=zz (P6_8_67.out.trans (B54.out.mono P6_8_67.out.size));have h0:=CB.step l0 P6_9_68.out;have p1:=h0.cell 0 rfl;have q1:=h0.cell 1 rfl;have H2:=h0.lt;have r1:=h0.frozen 0;have s1:=h0.frozen 1;have I2:=h0.lt;go_wp2;clear p1 q1 H2 r1 s1 I2;exact SB.put rfl h0 q0.out (by omega) (by rw[HT.out]) rfl (by rw[HT.out];rfl)
  ·rw[numN_no (show ¬ z.natAbs≤(4503599627370496:Int).natAbs from hfit)];have HT:=zz (show t=((0,0),6) by rw[HS.out];exact if_neg (fun h=>hfit h.1));clear hfit;cases more with
   | false=>
    have P6_8_72:=zz (B45.out.trans (B49.out.mono B45.out.size));have P6_9_73:=zz (P6_8_72.out.trans (B54.out.mono P6_8_72.out.size));have i0:=CB.step l0 P6_9_73.out;have t1:=i0.cell 0 rfl;have u1:=i0.cell 1 rfl;have J2:=i0.lt;have v1:=i0.frozen 0;have y1:=i0.frozen 1;have K2:=i0.lt;go_wp2;clear t1 u1 J2 v1 y1 K2;exact SB.put rfl i0 q0.out (by omega) (by rw[HT.out]) rfl (by rw[HT.out];rfl)
   | true=>
    have P6_8_77:=zz (B45.out.trans (B49.out.mono B45.out.size));have P6_9_78:=zz (P6_8_77.out.trans (B54.out.mono P6_8_77.out.size));have j0:=CB.step l0 P6_9_78.out;have z1:=j0.cell 0 rfl;have A1:=j0.cell 1 rfl;have L2:=j0.lt;have B1:=j0.frozen 0;have C1:=j0.frozen 1;have M2:=j0.lt;go_wp2;clear z1 A1 L2 B1 C1 M2;exact SB.put rfl j0 q0.out (by omega) (by rw[HT.out]) rfl (by rw[HT.out];rfl)
noncomputable def nearV (z:Int):Int × Int:=if z.natAbs≤4611686018427387904 then (z,0) else (0,6)
noncomputable def nearQ (o:Option Rat) (s:Int):Int × Int:=
 match o with
 | some q=>if s<1∨1000000000000<s then (0,2) else nearV ((q.num*(2*s)+(q.den:Int)) / ((q.den*2:Nat):Int))
 | none=>(0,40)
set_option maxRecDepth 100000 in
set_option maxHeartbeats 4000000 in
theorem QNear_bad (w:World) (va:Value) (n m:Bool) (a b:List Int) (s:Int) (ha:QR w w.heap.size va n a m b) (hbad:qOf n a m b=none) :
  Calls Tryz.prog 22 #[va,.int .i64 s] w fun e w'=>Below w.heap.size w w'∧RetI (0,40) e:=by
 obtain⟨A,l,c,A',l',c',rfl,ha⟩:=RI.of ha;have HA:=zz ha;have HC:=zz hbad;clear ha hbad;obtain⟨w0,hw0⟩:∃ w0:World,w0=(w.alloc (.cells #[.bool n,.slice A l c,.bool m,.slice A' l' c'] 28)):=⟨_,rfl⟩;have B0:=zz (n1_b hw0);have z0:=n1_z hw0;have La:=n1_0 hw0;replace HA:=zz (QR.step HA.out B0.out);go_enter Tryz.func22,Tryz.ntmps22
 go_upto_region 1 with (fail)
 rw[← hw0];clear hw0;have b0:=La.cell 0 rfl;have c0:=La.cell 1 rfl;have d0:=La.cell 2 rfl;have e0:=La.cell 3 rfl;have g0:=La.lt;go_wp2_with fail
 refine(QCheck_no HA.out HC.out).mono ?_;rintro e w1 ⟨a0,rfl⟩;have B3:=zz a0;have z3:=B3.out.size;have f0:=zz (B0.out.trans (B3.out.mono B0.out.size));clear a0;clear b0 c0 d0 e0 g0;go_wp2;go_ret2;exact⟨f0.out,rfl⟩
set_option maxRecDepth 100000 in
set_option maxHeartbeats 4000000 in
theorem QNear_good (w:World) (va:Value) (q:Rat) (s:Int) (ha:QV w w.heap.size va q) (lq:QL 600 600 q) (G:Glob w) :
  Calls Tryz.prog 22 #[va,.int .i64 s] w fun e w'=>Below w.heap.size w w'∧RetI (nearQ (some q) s) e:=by
 obtain⟨t,ht⟩:∃ t,t=nearQ (some q) s:=⟨_,rfl⟩;rw[← ht];obtain⟨n,A,l,c,m,A',l',c',rfl⟩:=QO.cells (show QO w w.heap.size va (some q) from ha);obtain rfl:=(QV.is ha).2.2.2;have HA:=zz ha;have K3:=zz lq;have HT:=zz ht;clear ha lq ht;obtain⟨w0,hw0⟩:∃ w0:World,w0=(w.alloc (.cells #[.bool n,.slice A l c,.bool false,.slice A' l' c'] 28)):=⟨_,rfl⟩;have B0:=zz (n1_b hw0);have z0:=n1_z hw0;have La:=n1_0 hw0;replace HA:=zz (QV.step HA.out B0.out);by_cases hs:s<1∨1000000000000<s
 ·have P3:=zz (show t=(0,2) by rw[HT.out];exact if_pos hs);by_cases hs1:s<1
  ·clear hs;go_enter Tryz.func22,Tryz.ntmps22
   go_upto_region 1 with (fail)
   rw[← hw0];clear hw0;have M1:=La.cell 0 rfl;have N1:=La.cell 1 rfl;have O1:=La.cell 2 rfl;have P1:=La.cell 3 rfl;have a4:=La.lt;go_wp2_with fail
   refine(QCheck_good HA.out K3.out).mono ?_;rintro e w1 ⟨I1,rfl⟩;have B3:=zz I1;have z3:=B3.out.size;have j2:=zz (B0.out.trans (B3.out.mono B0.out.size));clear I1;clear M1 N1 O1 P1 a4;go_wp2;go_ret2;exact⟨j2.out,by rw[P3.out];rfl⟩
  ·have hs2:1000000000000<s:=by omega
   clear hs;go_enter Tryz.func22,Tryz.ntmps22
   go_upto_region 1 with (fail)
   rw[← hw0];clear hw0;have Q1:=La.cell 0 rfl;have R1:=La.cell 1 rfl;have S1:=La.cell 2 rfl;have T1:=La.cell 3 rfl;have b4:=La.lt;go_wp2_with fail
   refine(QCheck_good HA.out K3.out).mono ?_;rintro e w5 ⟨J1,rfl⟩;have B7:=zz J1;have z7:=B7.out.size;have k2:=zz (B0.out.trans (B7.out.mono B0.out.size));clear J1;clear Q1 R1 S1 T1 b4;go_wp2;go_ret2;exact⟨k2.out,by rw[P3.out];rfl⟩
 ·have hs1:¬ s<1:=by omega
  have hs2:¬ 1000000000000<s:=by omega
  have hs3:1≤s:=by omega
  have hs4:s≤1000000000000:=by omega
  obtain⟨k,hk⟩:∃ k,k=2*s:=⟨_,rfl⟩;have l2:0≤k:=by omega
  have m2:k≤2000000000000:=by omega
  obtain⟨y,hy⟩:∃ y,y=q.num*k+(q.den:Int):=⟨_,rfl⟩;obtain⟨z,hz⟩:∃ z,z=y / ((q.den*2:Nat):Int):=⟨_,rfl⟩;have P3:=zz (show t=nearV z by rw[HT.out,hz,hy,hk];exact if_neg hs);have lK:(dig k.natAbs).length≤2:=by rw[dig_len_le];show k.natAbs<1000000000000000000;omega
  have lP:(dig (q.num*((k.natAbs:Nat):Int)).natAbs).length≤602:=by rw[Int.natAbs_mul,Int.natAbs_natCast];have h1:=dig_len_mul q.num.natAbs k.natAbs;have:=K3.out.1;omega
  have hkk:((k.natAbs:Nat):Int)=k:=by omega
  have lY:(dig y.natAbs).length≤603:=by rw[hy];rw[hkk] at lP;exact Nat.le_trans (dig_len_mono (Int.natAbs_add_le _ _)) (dig_len_add _ _ lP (by rw[Int.natAbs_natCast];have:=K3.out.2;omega))
  have hd2:q.den*2≠0:=Nat.mul_ne_zero q.den_nz (by decide);have lD:(dig (q.den*2)).length≤601:=by have h1:=dig_len_mul q.den 2;rw[dig2] at h1;have:=K3.out.2;simp at h1;omega
  have lZ:(dig z.natAbs).length≤605:=by rw[hz];have:=floor_len y hd2;omega
  have s4:=zz (show ∀ w B v,WV w B v (q.num*((k.natAbs:Nat):Int)+(q.den:Int))→WV w B v y from fun w B v h=>by rw[hy,← hkk];exact h);have HL:=zz (And.intro lK (And.intro lP (And.intro lY (And.intro lD (And.intro lZ (And.intro K3.out.1 K3.out.2))))));have HZ:=zz hz;have t4:=zz hd2;have HK:=zz hk;have i4:=zz (And.intro l2 m2);have F4:=zz hs;clear lK lP hkk lY hd2 lD lZ hz hy hs;have hkw:IntKind.i64.wrap k=k:=IntWalk.i64_in _ (by omega);replace hk:=hk.symm;go_enter Tryz.func22,Tryz.ntmps22
  go_upto_region 1 with (fail)
  rw[← hw0];clear hw0;have S0:=La.cell 0 rfl;have T0:=La.cell 1 rfl;have U0:=La.cell 2 rfl;have V0:=La.cell 3 rfl;have S3:=La.lt;go_wp2_with fail
  refine(QCheck_good HA.out K3.out).mono ?_;rintro e w9 ⟨K1,rfl⟩;have B11:=zz K1;have z11:=B11.out.size;have r0:=zz (B0.out.trans (B11.out.mono B0.out.size));clear K1;clear S0 T0 U0 V0 S3;have g0:=CB.step La B11.out;have W0:=g0.cell 0 rfl;have X0:=g0.cell 1 rfl;have Y0:=g0.cell 2 rfl;have Z0:=g0.cell 3 rfl;have T3:=g0.lt;go_wp2_with fail
  refine(Read_any _ n false A A' l c l' c').mono ?_;rintro e w13 ⟨s0,rfl⟩;have B16:=zz s0;have z16:=B16.out.size;have t0:=zz (r0.out.trans (B16.out.mono r0.out.size));clear s0;clear W0 X0 Y0 Z0 T3;go_upto_region 7 with (fail)
  obtain⟨w18,h0⟩:∃ w18:World,w18=(w13.alloc (.cells #[.bool n,.slice A l c,.slice A' l' c'] 80)):=⟨_,rfl⟩;rw[← h0];have i0:=n1_0 h0;have za18:=n1_z h0;have B19:=zz (n1_b h0);have z19:=B19.out.size;have u0:=zz (t0.out.trans (B19.out.mono t0.out.size));clear h0;have P1_3_21:=zz (B11.out.trans (B16.out.mono B11.out.size));have P1_4_22:=zz (P1_3_21.out.trans (B19.out.mono P1_3_21.out.size));have l0:=zz (QV.step HA.out P1_4_22.out);have u4:=zz (TV.fst (QV.read l0.out));have j4:=zz (TV.is (QV.read l0.out)).2.1;have v4:=zz (show WV w18 w18.heap.size (.agg #[.bool false,.slice A' l' c']) (q.den:Int) from WV.mk (by rw[Int.natAbs_natCast];exact j4.out) (fun _=>by rw[decide_eq_false (by omega)]));refine Flow.run [⟨0,26,fun fv fw=>fv=.pointer (some ⟨w13.heap.size,0,none⟩)⟩,⟨1,27,fun fv fw=>fv=.agg #[.bool n,.slice A l c]⟩,⟨2,28,fun fv fw=>fv=.int .i64 s⟩,⟨3,29,fun fv fw=>fv=.int .i64 k⟩,⟨4,30,fun fv fw=>LV fw fw.heap.size fv k⟩,⟨5,31,fun fv fw=>RN fw fw.heap.size fv (dig (k).natAbs)⟩,⟨6,32,fun fv fw=>WV fw fw.heap.size fv (q.num*((k.natAbs:Nat):Int))⟩,⟨7,33,fun fv fw=>fv=.pointer (some ⟨w13.heap.size,2,none⟩)⟩,⟨8,34,fun fv fw=>fv=.slice A' l' c'⟩,⟨9,35,fun fv fw=>fv=.agg #[.bool false,.slice A' l' c']⟩,⟨10,36,fun fv fw=>WV fw fw.heap.size fv y⟩,⟨11,8,fun fv fw=>∃ b,fv=.pointer (some ⟨b,0,none⟩)∧CB fw b 78 #[.bool false,.slice none 0 0]⟩] [] [11] 1 (by kernel_rfl) (by kernel_rfl) (by kernel_rfl) (fun _ _ _ _ _ h=>h) ?_ ?_ ?_ ?_
  ·refine(a0 (a0 (a0 (a0 (all_cons (fun v w1 w2 h hb=>h.step hb) (all_cons (fun v w1 w2 h hb=>h.step hb) (all_cons (fun v w1 w2 h hb=>h.step hb) (a0 (a0 (a0 (all_cons (fun v w1 w2 h hb=>h.step hb) (all_cons (fun v w1 w2 h hb=>let ⟨b,e,h⟩:=h;⟨b,e,h.step hb⟩) all_nil))))))))))))
  ·refine(all_cons ?_ (all_cons ?_ (all_cons ?_ (all_cons ?_ (all_cons ?_ (all_cons ?_ (all_cons ?_ (all_cons ?_ (all_cons ?_ (all_cons ?_ (all_cons ?_ (all_cons ?_ all_nil))))))))))))
   ·intro xs O2 b0 c0;clear b0;clear c0;refine wpOp_step (o:=_) rfl (fun K hK=>?_);simp only[FL]
    go_simp;refine hK _ _ ⟨.pointer (some ⟨w13.heap.size,0,none⟩),by kernel_rfl,Below.refl _ _,rfl,nF⟩
   ·intro xs Q2 b0 c0;have a1:=zz b0;have R2:=b0.size;clear b0;have f0:(xs 0)=.pointer (some ⟨w13.heap.size,0,none⟩):=c0 _ (m_ 0 rfl) (by kernel_rfl);clear c0;refine wpOp_step (o:=_) rfl (fun K hK=>?_);simp only[FL]
    have m0:=CB.step i0 a1.out;have p2:=m0.cell 0 rfl;have q2:=m0.cell 1 rfl;go_simp;refine hK _ _ ⟨.agg #[.bool n,.slice A l c],by simp only[FL,f0] <;> kernel_rfl,Below.refl _ _,rfl,nF⟩
   ·intro xs S2 b0 c0;clear b0;clear c0;refine wpOp_step (o:=_) rfl (fun K hK=>?_);simp only[FL]
    go_simp;refine hK _ _ ⟨.int .i64 s,by kernel_rfl,Below.refl _ _,rfl,nF⟩
   ·intro xs U2 b0 c0;clear b0;have f2:(xs 2)=.int .i64 s:=c0 _ (m_ 2 rfl) (by kernel_rfl);clear c0;refine wpOp_step (o:=_) rfl (fun K hK=>?_);simp only[FL]
    go_simp;refine hK _ _ ⟨.int .i64 k,by simp only[FL,f2] <;> kernel_rfl,Below.refl _ _,rfl,nF⟩
   ·intro xs W2 b0 c0;have t2:=zz b0;have X2:=b0.size;clear b0;have f3:(xs 3)=.int .i64 k:=c0 _ (m_ 3 rfl) (by kernel_rfl);clear c0;refine wpOp_step (o:=_) rfl (fun K hK=>?_);simp only[FL]
    go_simp;(with_reducible refine(Of_any _ k (by have:=i4.out;omega) (by have:=i4.out;omega)).mono ?_)
    rintro e wc31 ⟨U1,v31,rfl,V1⟩;refine hK _ _ ⟨v31,by simp only[FL,f3] <;> kernel_rfl,U1,V1,nF⟩
   ·intro xs v0 b0 c0;clear b0;have f4:LV v0 v0.heap.size (xs 4) k:=c0 _ (m_ 4 rfl) (by kernel_rfl);clear c0;refine wpOp_step (o:=_) rfl (fun K hK=>?_);simp only[FL]
    obtain⟨G4,w4,y4,z4,hx4,L1⟩:=LV.opened f4;have r4:=(LV.is L1).2.2;rw[hx4];clear L1;go_simp;refine hK _ _ ⟨.slice w4 y4 z4,by simp only[FL,hx4] <;> kernel_rfl,Below.refl _ _,r4,nF⟩
   ·intro xs y0 b0 c0;have b1:=zz b0;have Z2:=b0.size;clear b0;have f1:(xs 1)=.agg #[.bool n,.slice A l c]:=c0 _ (m_ 1 rfl) (by kernel_rfl);have f5:RN y0 y0.heap.size (xs 5) (dig (k).natAbs):=c0 _ (m_ 5 rfl) (by kernel_rfl);clear c0;refine wpOp_step (o:=_) rfl (fun K hK=>?_);simp only[FL]
    go_simp;have A0:=zz (WV.step u4.out b1.out);(with_reducible refine(wtimes_any _ _ _ q.num k.natAbs A0.out f5 (by have:=HL.out;omega) (by have:=HL.out;omega)).mono ?_)
    rintro e wc35 ⟨W1,v35,rfl,X1⟩;refine hK _ _ ⟨v35,by simp only[FL,f1] <;> kernel_rfl,W1,X1,nF⟩
   ·intro xs a3 b0 c0;clear b0;clear c0;refine wpOp_step (o:=_) rfl (fun K hK=>?_);simp only[FL]
    go_simp;refine hK _ _ ⟨.pointer (some ⟨w13.heap.size,2,none⟩),by kernel_rfl,Below.refl _ _,rfl,nF⟩
   ·intro xs c3 b0 c0;have c1:=zz b0;have d3:=b0.size;clear b0;have f7:(xs 7)=.pointer (some ⟨w13.heap.size,2,none⟩):=c0 _ (m_ 7 rfl) (by kernel_rfl);clear c0;refine wpOp_step (o:=_) rfl (fun K hK=>?_);simp only[FL]
    have d1:=CB.step i0 c1.out;have y2:=d1.cell 2 rfl;go_simp;refine hK _ _ ⟨.slice A' l' c',by simp only[FL,f7] <;> kernel_rfl,Below.refl _ _,rfl,nF⟩
   ·intro xs e3 b0 c0;clear b0;have f8:(xs 8)=.slice A' l' c':=c0 _ (m_ 8 rfl) (by kernel_rfl);clear c0;refine wpOp_step (o:=_) rfl (fun K hK=>?_);simp only[FL]
    go_simp;refine hK _ _ ⟨.agg #[.bool false,.slice A' l' c'],by simp only[FL,f8] <;> kernel_rfl,Below.refl _ _,rfl,nF⟩
   ·intro xs C0 b0 c0;have e1:=zz b0;have h3:=b0.size;clear b0;have f6:WV C0 C0.heap.size (xs 6) (q.num*((k.natAbs:Nat):Int)):=c0 _ (m_ 6 rfl) (by kernel_rfl);have f9:(xs 9)=.agg #[.bool false,.slice A' l' c']:=c0 _ (m_ 9 rfl) (by kernel_rfl);clear c0;refine wpOp_step (o:=_) rfl (fun K hK=>?_);simp only[FL]
    go_simp;have D0:=zz (WV.step v4.out e1.out);(with_reducible refine(wplus_any _ _ _ (q.num*((k.natAbs:Nat):Int)) (q.den:Int) f6 D0.out (by have:=HL.out;omega) (by rw[Int.natAbs_natCast];have:=HL.out;omega)).mono ?_)
    rintro e wc43 ⟨Y1,v43,rfl,Z1⟩;refine hK _ _ ⟨v43,by simp only[FL,f9] <;> kernel_rfl,Y1,s4.out _ _ _ Z1,nF⟩
   ·intro xs a2 b0 c0;clear b0;clear c0;refine wpOp_step (o:=_) rfl (fun K hK=>?_);simp only[FL]
    go_simp;refine hK _ _ ⟨.pointer (some ⟨a2.heap.size,0,none⟩),by kernel_rfl,(Below.refl _ _).alloc (Nat.le_refl _) _,⟨_,rfl,CB.new _ _ _⟩,fun _=>⟨_,rfl,Nat.le_refl _,by simp⟩⟩
  ·exact all_nil
  ·intro xs F3 hbf hf hn hd;have f0:(xs 0)=.pointer (some ⟨w13.heap.size,0,none⟩):=hf _ (m_ 0 rfl);have f1:(xs 1)=.agg #[.bool n,.slice A l c]:=hf _ (m_ 1 rfl);have f2:(xs 2)=.int .i64 s:=hf _ (m_ 2 rfl);have f3:(xs 3)=.int .i64 k:=hf _ (m_ 3 rfl);have f4:LV F3 F3.heap.size (xs 4) k:=hf _ (m_ 4 rfl);have f5:RN F3 F3.heap.size (xs 5) (dig (k).natAbs):=hf _ (m_ 5 rfl);have f6:WV F3 F3.heap.size (xs 6) (q.num*((k.natAbs:Nat):Int)):=hf _ (m_ 6 rfl);have f7:(xs 7)=.pointer (some ⟨w13.heap.size,2,none⟩):=hf _ (m_ 7 rfl);have f8:(xs 8)=.slice A' l' c':=hf _ (m_ 8 rfl);have f9:(xs 9)=.agg #[.bool false,.slice A' l' c']:=hf _ (m_ 9 rfl);have f10:WV F3 F3.heap.size (xs 10) y:=hf _ (m_ 10 rfl);have f11:∃ b,(xs 11)=.pointer (some ⟨b,0,none⟩)∧CB F3 b 78 #[.bool false,.slice none 0 0]:=hf _ (m_ 11 rfl);have n11:=hn 11 (by decide);clear hf hn hd;simp only[FL]
   have B46:=zz hbf;have z46:=B46.out.size;have b2:=zz (u0.out.trans (B46.out.mono u0.out.size));clear hbf;generalize xs 0=x0,xs 1=x1,xs 2=x2,xs 3=x3,xs 4=x4,xs 5=x5,xs 6=x6,xs 7=x7,xs 8=x8,xs 9=x9,xs 10=x10,xs 11=x11 at *
   obtain rfl:=f0;obtain rfl:=f1;obtain rfl:=f2;obtain rfl:=f3;obtain⟨n48,E4,l48,c48,rfl,E0⟩:=f4.opened;have n2:=zz E0;clear f4 E0;clear f5;clear f6;obtain rfl:=f7;obtain rfl:=f8;obtain rfl:=f9;obtain⟨G3,H3,I3,J3,rfl,ha49,F0⟩:=f10;have g1:=zz (WV.mk ha49 F0);clear ha49 F0;obtain⟨L3,rfl,C3⟩:=f11;have N3:=zz (show w18.heap.size≤L3 by obtain⟨b',e,h,-⟩:=n11;injection e with e;injection e with e;injection e with e _ _;omega);clear n11;have d4:=C3.lt;have e4:=N3.out;have i1:=C3.cell 0 rfl;have j1:=C3.cell 1 rfl;have U3:=C3.lt;have k1:=C3.frozen 0;have l1:=C3.frozen 1;have V3:=C3.lt;refine Early.next (i:=12) (by kernel_rfl) rfl (fun K hK=>?_);go_simp;refine hK _ _ (fun _=>trivial) ?_;clear hK K;(try simp only[Act.put,List.setIfInBounds_toArray,List.set_cons_zero,List.set_cons_succ])
   clear i1 j1 U3 k1 l1 V3;refine Early.done (by kernel_rfl) ?_ _;(try simp only[Exit.then])
   have P2_4_55:=zz (B16.out.trans (B19.out.mono B16.out.size));have P2_5_56:=zz (P2_4_55.out.trans (B46.out.mono P2_4_55.out.size));have m1:=CB.step g0 P2_5_56.out;have n1:=CB.step i0 B46.out;obtain⟨w58,e0⟩:∃ w58:World,w58=((F3.setCell ⟨L3,0,none⟩ (.bool G3)).setCell ⟨L3,1,none⟩ (.slice H3 I3 J3)):=⟨_,rfl⟩;rw[← e0];have S58:=zz (p2_s e0 C3 (by simp[noInt_b,noInt_s]));have o1:=p2_f e0 m1 (by omega);have n0:=p2_f e0 n1 (by omega);have o0:=p2_p e0 C3;have p0:=zz (p2_b e0 b2.out (by omega));have j3:=p2_z e0;clear e0;have p1:=zz (WV.soft g1.out (S58.out));have k4:=zz (WV.is p1.out);have B4:=zz k4.out.1;obtain⟨bit,hbit⟩:∃ b:Bool,b=decide (y % ((q.den*2:Nat):Int)≠0):=⟨_,rfl⟩;have l4:=zz hbit;clear hbit;have C4:=zz (show(dig 2).length≤1000000 by rw[dig2];decide);go_upto_region 8 with (fail)
   refine Flow.run [⟨0,38,fun fv fw=>fv=.agg #[.bool G3,.slice H3 I3 J3]⟩,⟨1,39,fun fv fw=>fv=.pointer (some ⟨w13.heap.size,2,none⟩)⟩,⟨2,40,fun fv fw=>fv=.slice A' l' c'⟩,⟨3,41,fun fv fw=>RN fw fw.heap.size fv (dig 2)⟩,⟨4,42,fun fv fw=>RN fw fw.heap.size fv (dig (q.den*2))⟩,⟨5,43,fun fv fw=>TV fw fw.heap.size fv y (q.den*2)⟩,⟨6,44,fun fv fw=>∃ u,fv=.tuple #[u,.bool bit]∧WV fw fw.heap.size u z⟩,⟨7,37,fun fv fw=>∃ u,fv=.tuple #[u,.bool bit]∧WV fw fw.heap.size u z⟩,⟨8,45,fun fv fw=>WV fw fw.heap.size fv z⟩,⟨10,9,fun fv fw=>∃ b,fv=.pointer (some ⟨b,0,none⟩)∧CB fw b 78 #[.bool false,.slice none 0 0]⟩] [⟨9,46,fun fv fw=>fv=.bool bit⟩] [10] 2 (by kernel_rfl) (by kernel_rfl) (by kernel_rfl) (fun _ _ _ _ _ h=>h) ?_ ?_ ?_ ?_
   ·refine(a0 (a0 (a0 (all_cons (fun v w1 w2 h hb=>h.step hb) (all_cons (fun v w1 w2 h hb=>h.step hb) (all_cons (fun v w1 w2 h hb=>h.step hb) (all_cons (fun v w1 w2 h hb=>let ⟨u,e,h⟩:=h;⟨u,e,h.step hb⟩) (all_cons (fun v w1 w2 h hb=>let ⟨u,e,h⟩:=h;⟨u,e,h.step hb⟩) (all_cons (fun v w1 w2 h hb=>h.step hb) (all_cons (fun v w1 w2 h hb=>let ⟨b,e,h⟩:=h;⟨b,e,h.step hb⟩) (a0 all_nil)))))))))))
   ·refine(all_cons ?_ (all_cons ?_ (all_cons ?_ (all_cons ?_ (all_cons ?_ (all_cons ?_ (all_cons ?_ (all_cons ?_ (all_cons ?_ (all_cons ?_ all_nil))))))))))
    ·intro xs k3 b0 c0;have q1:=zz b0;have l3:=b0.size;clear b0;clear c0;refine wpOp_step (o:=_) rfl (fun K hK=>?_);simp only[FL]
     have q0:=CB.step o0 q1.out;have B2:=q0.cell 0 rfl;have C2:=q0.cell 1 rfl;go_simp;refine hK _ _ ⟨.agg #[.bool G3,.slice H3 I3 J3],by kernel_rfl,Below.refl _ _,rfl,nF⟩
    ·intro xs m3 b0 c0;have D2:=zz b0;have n3:=b0.size;clear b0;clear c0;refine wpOp_step (o:=_) rfl (fun K hK=>?_);simp only[FL]
     go_simp;refine hK _ _ ⟨.pointer (some ⟨w13.heap.size,2,none⟩),by kernel_rfl,Below.refl _ _,rfl,nF⟩
    ·intro xs o3 b0 c0;have r1:=zz b0;have p3:=b0.size;clear b0;have f1:(xs 1)=.pointer (some ⟨w13.heap.size,2,none⟩):=c0 _ (m_ 1 rfl) (by kernel_rfl);clear c0;refine wpOp_step (o:=_) rfl (fun K hK=>?_);simp only[FL]
     have s1:=CB.step n0 r1.out;have E2:=s1.cell 2 rfl;go_simp;refine hK _ _ ⟨.slice A' l' c',by simp only[FL,f1] <;> kernel_rfl,Below.refl _ _,rfl,nF⟩
    ·intro xs c2 b0 c0;have F2:=zz b0;have q3:=b0.size;clear b0;clear c0;refine wpOp_step (o:=_) rfl (fun K hK=>?_);simp only[FL]
     go_simp;refine hK _ _ ⟨.slice (some ⟨c2.heap.size,0,none⟩) 1 1,by kernel_rfl,(Below.refl _ _).alloc (Nat.le_refl _) _,(by rw[dig2];exact RI.one _ 2),nF⟩
    ·intro xs G0 b0 c0;have t1:=zz b0;have r3:=b0.size;clear b0;have f2:(xs 2)=.slice A' l' c':=c0 _ (m_ 2 rfl) (by kernel_rfl);have f3:RN G0 G0.heap.size (xs 3) (dig 2):=c0 _ (m_ 3 rfl) (by kernel_rfl);clear c0;refine wpOp_step (o:=_) rfl (fun K hK=>?_);simp only[FL]
     go_simp;have H0:=zz (RN.soft j4.out (((Soft.of B46.out).trans (S58.out)).trans (Soft.of t1.out)));(with_reducible refine(Times_any _ _ _ q.den 2 H0.out f3 (by have:=HL.out;omega) C4.out).mono ?_)
     rintro e wc70 ⟨d2,v70,rfl,e2⟩;refine hK _ _ ⟨v70,by simp only[FL,f2] <;> kernel_rfl,d2,e2,nF⟩
    ·intro xs I0 b0 c0;have u1:=zz b0;have s3:=b0.size;clear b0;have f0:(xs 0)=.agg #[.bool G3,.slice H3 I3 J3]:=c0 _ (m_ 0 rfl) (by kernel_rfl);have f4:RN I0 I0.heap.size (xs 4) (dig (q.den*2)):=c0 _ (m_ 4 rfl) (by kernel_rfl);clear c0;refine wpOp_step (o:=_) rfl (fun K hK=>?_);simp only[FL]
     obtain⟨A4,c4,hx4,-⟩:=RN.cell f4;have r4:=f4;rw[hx4] at r4 ⊢;have J0:=zz (RN.step B4.out u1.out);go_simp;refine hK _ _ ⟨.agg #[.bool G3,.slice H3 I3 J3,.slice A4 (dig (q.den*2)).length c4],by simp only[FL,f0,hx4] <;> kernel_rfl,Below.refl _ _,TV.mk J0.out r4 k4.out.2,nF⟩
    ·intro xs K0 b0 c0;have G2:=zz b0;have t3:=b0.size;clear b0;have f5:TV K0 K0.heap.size (xs 5) y (q.den*2):=c0 _ (m_ 5 rfl) (by kernel_rfl);clear c0;refine wpOp_step (o:=_) rfl (fun K hK=>?_);simp only[FL]
     go_simp;(with_reducible refine(floor_any _ _ y (q.den*2) f5 t4.out (by have:=HL.out;omega)).mono ?_)
     rintro e wc74 ⟨g2,v74,rfl,L0⟩;rw[← HZ.out] at L0;rw[← l4.out];refine hK _ _ ⟨.tuple #[v74,.bool bit],by kernel_rfl,g2,⟨v74,rfl,L0⟩,nF⟩
    ·intro xs M0 b0 c0;have H2:=zz b0;have u3:=b0.size;clear b0;have f6:∃ u,(xs 6)=.tuple #[u,.bool bit]∧WV M0 M0.heap.size u z:=c0 _ (m_ 6 rfl) (by kernel_rfl);clear c0;refine wpOp_step (o:=_) rfl (fun K hK=>?_);simp only[FL]
     obtain⟨u,hu,hl⟩:=f6;rw[hu];go_simp;refine hK _ _ ⟨.tuple #[u,.bool bit],by simp only[FL,hu] <;> kernel_rfl,Below.refl _ _,⟨u,rfl,hl⟩,nF⟩
    ·intro xs N0 b0 c0;have I2:=zz b0;have v3:=b0.size;clear b0;have f7:∃ u,(xs 7)=.tuple #[u,.bool bit]∧WV N0 N0.heap.size u z:=c0 _ (m_ 7 rfl) (by kernel_rfl);clear c0;refine wpOp_step (o:=_) rfl (fun K hK=>?_);simp only[FL]
     obtain⟨u,hu,hl⟩:=f7;rw[hu];go_simp;refine hK _ _ ⟨u,by simp only[FL,hu] <;> kernel_rfl,Below.refl _ _,hl,nF⟩
    ·intro xs h2 b0 c0;have J2:=zz b0;have w3:=b0.size;clear b0;clear c0;refine wpOp_step (o:=_) rfl (fun K hK=>?_);simp only[FL]
     go_simp;refine hK _ _ ⟨.pointer (some ⟨h2.heap.size,0,none⟩),by kernel_rfl,(Below.refl _ _).alloc (Nat.le_refl _) _,⟨_,rfl,CB.new _ _ _⟩,fun _=>⟨_,rfl,Nat.le_refl _,by simp⟩⟩
   ·refine(all_cons ?_ all_nil)
    ·intro xs O0 b0 c0;have K2:=zz b0;have y3:=b0.size;clear b0;have f7:∃ u,(xs 7)=.tuple #[u,.bool bit]∧WV O0 O0.heap.size u z:=c0 _ (m_ 7 rfl) (by kernel_rfl);clear c0;obtain⟨u,hu,-⟩:=f7;refine⟨_,.bool bit,rfl,Or.inl ⟨by rfl,fun w=>?_⟩,rfl⟩;simp only[FL]
     rw[hu];go_simp
   ·intro xs D3 hbf hf hn hd;have f0:(xs 0)=.agg #[.bool G3,.slice H3 I3 J3]:=hf _ (m_ 0 rfl);have f1:(xs 1)=.pointer (some ⟨w13.heap.size,2,none⟩):=hf _ (m_ 1 rfl);have f2:(xs 2)=.slice A' l' c':=hf _ (m_ 2 rfl);have f3:RN D3 D3.heap.size (xs 3) (dig 2):=hf _ (m_ 3 rfl);have f4:RN D3 D3.heap.size (xs 4) (dig (q.den*2)):=hf _ (m_ 4 rfl);have f5:TV D3 D3.heap.size (xs 5) y (q.den*2):=hf _ (m_ 5 rfl);have f6:∃ u,(xs 6)=.tuple #[u,.bool bit]∧WV D3 D3.heap.size u z:=hf _ (m_ 6 rfl);have f7:∃ u,(xs 7)=.tuple #[u,.bool bit]∧WV D3 D3.heap.size u z:=hf _ (m_ 7 rfl);have f8:WV D3 D3.heap.size (xs 8) z:=hf _ (m_ 8 rfl);have f10:∃ b,(xs 10)=.pointer (some ⟨b,0,none⟩)∧CB D3 b 78 #[.bool false,.slice none 0 0]:=hf _ (m_ 9 rfl);have f9:(xs 9)=.bool bit:=hf _ (m_ 10 rfl);have n10:=hn 10 (by decide);clear hf hn hd;simp only[FL]
    have B80:=zz hbf;have z80:=B80.out.size;have i2:=zz (p0.out.trans (B80.out.mono p0.out.size));clear hbf;generalize xs 0=x0,xs 1=x1,xs 2=x2,xs 3=x3,xs 4=x4,xs 5=x5,xs 6=x6,xs 7=x7,xs 8=x8,xs 10=x10,xs 9=x9 at *
    obtain rfl:=f0;obtain rfl:=f1;obtain rfl:=f2;clear f3;clear f4;clear f5;clear f6;clear f7;obtain⟨m4,n4,o4,p4,rfl,ha82,P0⟩:=f8;have v1:=zz (WV.mk ha82 P0);clear ha82 P0;obtain⟨M3,rfl,E3⟩:=f10;have O3:=zz (show w58.heap.size≤M3 by obtain⟨b',e,h,-⟩:=n10;injection e with e;injection e with e;injection e with e _ _;omega);clear n10;have g4:=E3.lt;have h4:=O3.out;obtain rfl:=f9;have y1:=E3.cell 0 rfl;have z1:=E3.cell 1 rfl;have W3:=E3.lt;have A1:=E3.frozen 0;have B1:=E3.frozen 1;have X3:=E3.lt;refine Early.next (i:=11) (by kernel_rfl) rfl (fun K hK=>?_);go_simp;refine hK _ _ (fun _=>trivial) ?_;clear hK K;(try simp only[Act.put,List.setIfInBounds_toArray,List.set_cons_zero,List.set_cons_succ])
    clear y1 z1 W3 A1 B1 X3;refine Early.next (i:=12) (by kernel_rfl) rfl (fun K hK=>?_);go_simp;refine hK _ _ (fun _=>trivial) ?_;clear hK K;(try simp only[Act.put,List.setIfInBounds_toArray,List.set_cons_zero,List.set_cons_succ])
    refine Early.done (by kernel_rfl) ?_ _;(try simp only[Exit.then])
    have C1:=CB.step o1 B80.out;have D1:=CB.step n0 B80.out;have E1:=CB.step o0 B80.out;obtain⟨w90,d0⟩:∃ w90:World,w90=((D3.setCell ⟨M3,0,none⟩ (.bool m4)).setCell ⟨M3,1,none⟩ (.slice n4 o4 p4)):=⟨_,rfl⟩;rw[← d0];have S90:=zz (p2_s d0 E3 (by simp[noInt_b,noInt_s]));have L2:=p2_f d0 C1 (by omega);have M2:=p2_f d0 D1 (by omega);have N2:=p2_f d0 E1 (by omega);have j0:=p2_p d0 E3;have k0:=zz (p2_b d0 i2.out (by omega));have A3:=p2_z d0;clear d0;have F1:=j0.cell 0 rfl;have G1:=j0.cell 1 rfl;have Y3:=j0.lt;go_wp2_with fail
    have H1:=zz (WV.soft v1.out (S90.out));refine(number_any _ _ z 4611686018427387904 H1.out (by decide) (by decide) (by have:=HL.out;omega) (G.step k0.out)).mono ?_;rintro e w91 ⟨Q0,rfl⟩;have B94:=zz Q0;have z94:=B94.out.size;have R0:=zz (k0.out.trans (B94.out.mono k0.out.size));clear Q0;clear F1 G1 Y3;by_cases hfit:z.natAbs≤4611686018427387904
    ·rw[numN_yes (show z.natAbs≤(4611686018427387904:Int).natAbs from hfit)];have Z3:=zz (show t=(z,0) by rw[P3.out];exact if_pos hfit);clear hfit;go_wp2;go_ret2;exact⟨R0.out,by rw[Z3.out];rfl⟩
    ·rw[numN_no (show ¬ z.natAbs≤(4611686018427387904:Int).natAbs from hfit)];have Z3:=zz (show t=(0,6) by rw[P3.out];exact if_neg hfit);clear hfit;go_wp2;go_ret2;exact⟨R0.out,by rw[Z3.out];rfl⟩
end Go.Proofs.YtngpibfakemmhaaGreatDoor
