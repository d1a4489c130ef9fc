/- Layer 04: Span, Near (written by gen_qm.py). -/
import Derived.Test.YtioclokmbgmamaaGreatDoorQL
import Derived.Test.YtioclokmbgmamaaGreatDoorQG
namespace Go.Proofs.YtioclokmbgmamaaGreatDoor
open Go Go.RowKit Dig
noncomputable def spanV (z:Int) (d:Nat):(Int × Int) × Int:=
 if (z / (d:Int)).natAbs≤4503599627370496∧(if z % (d:Int)≠0 then z / (d:Int)+1 else z / (d:Int))≤4503599627370496 then ((z / (d:Int),if z % (d:Int)≠0 then z / (d:Int)+1 else z / (d:Int)),0) else ((0,0),6)
noncomputable def spanQ:Option Rat→(Int × Int) × Int
 | some q=>spanV (q.num*4294967296) q.den
 | none=>((0,0),40)
def RetSp (r:(Int × Int) × Int) (e:Ending):Prop:=e=.returned (.tuple #[.agg #[.int .i64 r.1.1,.int .i64 r.1.2],.int .i64 r.2])
theorem dig2:dig 2=[2]:=dig_one (by omega) (by omega)
theorem numN_yes {z m:Int} (h:z.natAbs≤m.natAbs):numN z m=.tuple #[.int .i64 z,.bool true]:=by unfold numN;rw[if_pos h,decide_eq_true h]
theorem numN_no {z m:Int} (h:¬ z.natAbs≤m.natAbs):numN z m=.tuple #[.int .i64 0,.bool false]:=by unfold numN;rw[if_neg h,decide_eq_false h]
theorem SB.put {fn:Func} {p k:Tmp} {W w:World} {B b:Nat} {x y x0 y0:Int} {r:(Int × Int) × Int} {tmps:Array Value} (hf:fn.results=#[.cell p 52,.tmp k]) (hC:CB w b 52 #[.int .i64 x0,.int .i64 y0]) (hb:Below B W w) (hB:B≤b)
  (hr1:r.1=(x,y)) (hp:tmps.getD p undef=.pointer (some ⟨b,0,none⟩)) (hk:tmps.getD k undef=.int .i64 r.2) :
  bodyPost Tryz.prog fn (fun e w'=>Below B W w'∧RetSp r e) .ret ⟨tmps,[]⟩ ((w.setCell ⟨b,0,none⟩ (.int .i64 x)).setCell ⟨b,1,none⟩ (.int .i64 y)):=by
 have h1:CB _ b _ #[.int .i64 x,.int .i64 y0]:=CB.set hC 0 (.int .i64 x)
 have h2:CB _ b _ #[.int .i64 x,.int .i64 y]:=CB.set h1 1 (.int .i64 y)
 exact bodyPost_ret (SB.ret hf _ h2 hp) rfl ⟨((hb.setCell hB _).setCell hB _),by unfold RetSp;rw[hk,hr1]⟩
theorem QCheck_no {w:World} {v:Value} {n m:Bool} {a b:List Int} (h:QR w w.heap.size v n a m b) (hq:qOf n a m b=none) :
  Calls Tryz.prog 45 #[v] w fun e w'=>Below w.heap.size w w'∧e=.returned (.int .i64 40):=by
 have h1:=QCheck_any w v _ _ _ _ h
 rw[chkQ_none hq] at h1
 exact h1
set_option maxRecDepth 100000 in
set_option maxHeartbeats 4000000 in
theorem QSpan_bad (w:World) (va:Value) (n m:Bool) (a b:List Int) (ha:QR w w.heap.size va n a m b) (hbad:qOf n a m b=none) :
  Calls Tryz.prog 25 #[va] w fun e w'=>Below w.heap.size w w'∧RetSp ((0,0),40) e:=by
 obtain⟨A,l,c,A',l',c',rfl,ha⟩:=RI.of ha
 have HA:=zz ha;have HC:=zz hbad;clear ha hbad
 obtain⟨w0,hw0⟩:∃ w0:World,w0=((w.alloc (.cells #[.bool n,.slice A l c,.bool m,.slice A' l' c'] 26)).alloc (.cells #[.int .i64 0,.int .i64 0] 52)):=⟨_,rfl⟩
 have B0:=zz (show Below w.heap.size w w0 by rw[hw0];(repeat' (first | exact Below.refl _ _ | refine Below.drew ?_ | refine Below.alloc ?_ (by first | exact Nat.le_refl _ | (simp;done) | (simp;omega)) _)))
 have z0:w.heap.size+2≤w0.heap.size:=by rw[hw0];simp
 have La:CB w0 (w.heap.size) 26 #[.bool n,.slice A l c,.bool m,.slice A' l' c']:=by rw[hw0];have h:=(CB.new w 26 #[.bool n,.slice A l c,.bool m,.slice A' l' c']).alloc (.cells #[.int .i64 0,.int .i64 0] 52);simpa using h
 have Lr2:CB w0 (w.heap.size+1) 52 #[.int .i64 0,.int .i64 0]:=by rw[hw0];have h:=CB.new (w.alloc (.cells #[.bool n,.slice A l c,.bool m,.slice A' l' c'] 26)) 52 #[.int .i64 0,.int .i64 0];simpa using h
 replace HA:=zz (QR.step HA.out B0.out)
 go_enter Tryz.func25,Tryz.ntmps25
 go_upto_region 1 with (fail)
 rw[← hw0];clear hw0
 have c0:=La.cell 0 rfl
 have d0:=La.cell 1 rfl
 have e0:=La.cell 2 rfl
 have f0:=La.cell 3 rfl
 have q2_lt:=La.lt
 go_wp2_with fail
 refine(QCheck_no HA.out HC.out).mono ?_
 rintro e w1 ⟨b0,rfl⟩
 have B3:=zz b0
 have z3:=B3.out.size
 have g0:=zz (B0.out.trans (B3.out.mono B0.out.size))
 clear b0
 clear c0 d0 e0 f0 q2_lt
 have a0:=CB.step Lr2 B3.out
 have h0:=a0.cell 0 rfl
 have i0:=a0.cell 1 rfl
 have q6_lt:=a0.lt
 have j0:=a0.frozen 0
 have k0:=a0.frozen 1
 have q7_lt:=a0.lt
 go_wp2
 exact SB.put rfl a0 g0.out (by omega) rfl rfl rfl
set_option maxRecDepth 100000 in
set_option maxHeartbeats 4000000 in
theorem QSpan_good (w:World) (va:Value) (q:Rat) (ha:QV w w.heap.size va q) (lq:QL 600 600 q) (G:Glob w) :
  Calls Tryz.prog 25 #[va] w fun e w'=>Below w.heap.size w w'∧RetSp (spanQ (some q)) e:=by
 obtain⟨y,hy⟩:∃ y,y=q.num*4294967296:=⟨_,rfl⟩;obtain⟨z,hz⟩:∃ z,z=y / (q.den:Int):=⟨_,rfl⟩;obtain⟨t,ht⟩:∃ t,t=spanQ (some q):=⟨_,rfl⟩;rw[← ht]
 obtain⟨more,hm⟩:∃ b:Bool,b=decide (y % (q.den:Int)≠0):=⟨_,rfl⟩
 have hs:t=if z.natAbs≤4503599627370496∧(if more=true then z+1 else z)≤4503599627370496 then ((z,if more=true then z+1 else z),0) else ((0,0),6):=by
  rw[ht,spanQ,← hy,spanV,← hz,hm];simp only[decide_eq_true_eq]
 have lY:(dig y.natAbs).length≤602:=by rw[hy,Int.natAbs_mul];have h1:=dig_len_mul q.num.natAbs (4294967296:Int).natAbs;have h2:(dig (4294967296:Int).natAbs).length≤2:=(by rw[dig_len_le];decide);have:=lq.1;omega
 have lZ:(dig z.natAbs).length≤604:=by rw[hz];have:=floor_len y q.den_nz;omega
 have HL:=zz (And.intro lY (And.intro lZ (And.intro lq.1 lq.2)));have HY:=zz hy;have HZ:=zz hz;have HS:=zz hs;have HM:=zz hm;clear lY lZ hs hm hz hy ht
 obtain⟨n,A,l,c,m,A',l',c',rfl⟩:=QO.cells (show QO w w.heap.size va (some q) from ha)
 obtain rfl:=(QV.is ha).2.2.2
 have HA:=zz ha;have HLQ:=zz lq;clear ha lq
 obtain⟨w0,hw0⟩:∃ w0:World,w0=((w.alloc (.cells #[.bool n,.slice A l c,.bool false,.slice A' l' c'] 26)).alloc (.cells #[.int .i64 0,.int .i64 0] 52)):=⟨_,rfl⟩
 have B0:=zz (show Below w.heap.size w w0 by rw[hw0];(repeat' (first | exact Below.refl _ _ | refine Below.drew ?_ | refine Below.alloc ?_ (by first | exact Nat.le_refl _ | (simp;done) | (simp;omega)) _)))
 have z0:w.heap.size+2≤w0.heap.size:=by rw[hw0];simp
 have La:CB w0 (w.heap.size) 26 #[.bool n,.slice A l c,.bool false,.slice A' l' c']:=by rw[hw0];have h:=(CB.new w 26 #[.bool n,.slice A l c,.bool false,.slice A' l' c']).alloc (.cells #[.int .i64 0,.int .i64 0] 52);simpa using h
 have Lr2:CB w0 (w.heap.size+1) 52 #[.int .i64 0,.int .i64 0]:=by rw[hw0];have h:=CB.new (w.alloc (.cells #[.bool n,.slice A l c,.bool false,.slice A' l' c'] 26)) 52 #[.int .i64 0,.int .i64 0];simpa using h
 replace HA:=zz (QV.step HA.out B0.out)
 go_enter Tryz.func25,Tryz.ntmps25
 go_upto_region 1 with (fail)
 rw[← hw0];clear hw0
 have K1:=La.cell 0 rfl
 have L1:=La.cell 1 rfl
 have M1:=La.cell 2 rfl
 have N1:=La.cell 3 rfl
 have q2_lt:=La.lt
 go_wp2_with fail
 refine(QCheck_good HA.out HLQ.out).mono ?_
 rintro e w1 ⟨F1,rfl⟩
 have B3:=zz F1
 have z3:=B3.out.size
 have G1:=zz (B0.out.trans (B3.out.mono B0.out.size))
 clear F1
 clear K1 L1 M1 N1 q2_lt
 have m0:=CB.step La B3.out
 have O1:=m0.cell 0 rfl
 have P1:=m0.cell 1 rfl
 have Q1:=m0.cell 2 rfl
 have R1:=m0.cell 3 rfl
 have q7_lt:=m0.lt
 go_wp2_with fail
 refine(Read_any _ n false A A' l c l' c').mono ?_
 rintro e w5 ⟨H1,rfl⟩
 have B8:=zz H1
 have z8:=B8.out.size
 have I1:=zz (G1.out.trans (B8.out.mono G1.out.size))
 clear H1
 clear O1 P1 Q1 R1 q7_lt
 go_upto_region 5 with (fail)
 obtain⟨w10,o0⟩:∃ w10:World,w10=(w5.alloc (.cells #[.bool n,.slice A l c,.slice A' l' c'] 95)):=⟨_,rfl⟩;rw[← o0]
 have C0:Below w5.heap.size w5 w10:=by rw[o0];(repeat' (first | exact Below.refl _ _ | refine Below.drew ?_ | refine Below.alloc ?_ (by first | exact Nat.le_refl _ | (simp;done) | (simp;omega)) _))
 have t0:CB w10 (w5.heap.size) 95 #[.bool n,.slice A l c,.slice A' l' c']:=by rw[o0];have h:=CB.new w5 95 #[.bool n,.slice A l c,.slice A' l' c'];simpa using h
 have za10:w5.heap.size+1≤w10.heap.size:=by rw[o0];simp
 have B11:=zz C0
 have z11:=B11.out.size
 have D0:=zz (I1.out.trans (B11.out.mono I1.out.size))
 clear C0 o0
 have P1_3_13:=zz (B3.out.trans (B8.out.mono B3.out.size))
 have P1_4_14:=zz (P1_3_13.out.trans (B11.out.mono P1_3_13.out.size))
 have u0:=zz (QV.step HA.out P1_4_14.out)
 have HRW:=zz (TV.fst (QV.read u0.out));have HRD:=zz (TV.is (QV.read u0.out)).2.1
 have HY2:=zz (show ∀ w B v,WV w B v (q.num*(((4294967296:Int).natAbs:Nat):Int))→WV w B v y from fun w B v h=>by rw[HY.out];exact h);have HP2:=zz (show(dig (4294967296:Int).natAbs).length≤100000 by exact Nat.le_trans (show(dig (4294967296:Int).natAbs).length≤2 by rw[dig_len_le];decide) (by decide))
 refine Flow.run [⟨0,19,fun fv fw=>fv=.pointer (some ⟨w5.heap.size,0,none⟩)⟩,⟨1,20,fun fv fw=>fv=.agg #[.bool n,.slice A l c]⟩,⟨2,21,fun fv fw=>LV fw fw.heap.size fv (4294967296:Int)⟩,⟨3,22,fun fv fw=>RN fw fw.heap.size fv (dig ((4294967296:Int)).natAbs)⟩,⟨4,23,fun fv fw=>WV fw fw.heap.size fv y⟩,⟨5,24,fun fv fw=>fv=.pointer (some ⟨w5.heap.size,0,none⟩)⟩] [] [] 1 (by kernel_rfl) (by kernel_rfl) (by kernel_rfl) (fun _ _ _ _ _ h=>h) ?_ ?_ ?_ ?_
 ·refine(a0 (a0 (all_cons (fun v w1 w2 h hb=>h.step hb) (all_cons (fun v w1 w2 h hb=>h.step hb) (all_cons (fun v w1 w2 h hb=>h.step hb) (a0 all_nil))))))
 ·refine(all_cons ?_ (all_cons ?_ (all_cons ?_ (all_cons ?_ (all_cons ?_ (all_cons ?_ all_nil))))))
  ·intro xs g2 b0 c0
   have Y1:=zz b0;have i2:=b0.size;clear b0
   clear c0
   refine wpOp_step (o:=_) rfl (fun K hK=>?_)
   simp only[FL]
   go_simp
   refine hK _ _ ⟨.pointer (some ⟨w5.heap.size,0,none⟩),by kernel_rfl,Below.refl _ _,rfl,nF⟩
  ·intro xs j2 b0 c0
   have Q0:=zz b0;have k2:=b0.size;clear b0
   have f0:(xs 0)=.pointer (some ⟨w5.heap.size,0,none⟩):=c0 _ (m_ 0 rfl) (by kernel_rfl)
   clear c0
   refine wpOp_step (o:=_) rfl (fun K hK=>?_)
   simp only[FL]
   have v0:=CB.step t0 Q0.out
   have Z1:=v0.cell 0 rfl
   have a2:=v0.cell 1 rfl
   go_simp
   refine hK _ _ ⟨.agg #[.bool n,.slice A l c],by simp only[FL,f0] <;> kernel_rfl,Below.refl _ _,rfl,nF⟩
  ·intro xs l2 b0 c0
   have b2:=zz b0;have m2:=b0.size;clear b0
   clear c0
   refine wpOp_step (o:=_) rfl (fun K hK=>?_)
   simp only[FL]
   go_simp
   (with_reducible refine(Of_any _ 4294967296 (by decide) (by decide)).mono ?_)
   rintro e wc21 ⟨S1,v21,rfl,T1⟩
   refine hK _ _ ⟨v21,by kernel_rfl,S1,T1,nF⟩
  ·intro xs E0 b0 c0
   have c2:=zz b0;have n2:=b0.size;clear b0
   have f2:LV E0 E0.heap.size (xs 2) (4294967296:Int):=c0 _ (m_ 2 rfl) (by kernel_rfl)
   clear c0
   refine wpOp_step (o:=_) rfl (fun K hK=>?_)
   simp only[FL]
   obtain⟨on2,oA2,ol2,oc2,hx2,J1⟩:=LV.opened f2;have r2:=(LV.is J1).2.2;rw[hx2];clear J1
   go_simp
   refine hK _ _ ⟨.slice oA2 ol2 oc2,by simp only[FL,hx2] <;> kernel_rfl,Below.refl _ _,r2,nF⟩
  ·intro xs F0 b0 c0
   have R0:=zz b0;have o2:=b0.size;clear b0
   have f1:(xs 1)=.agg #[.bool n,.slice A l c]:=c0 _ (m_ 1 rfl) (by kernel_rfl)
   have f3:RN F0 F0.heap.size (xs 3) (dig ((4294967296:Int)).natAbs):=c0 _ (m_ 3 rfl) (by kernel_rfl)
   clear c0
   refine wpOp_step (o:=_) rfl (fun K hK=>?_)
   simp only[FL]
   go_simp
   have G0:=zz (WV.step HRW.out R0.out)
   (with_reducible refine(wtimes_any _ _ _ q.num (4294967296:Int).natAbs G0.out f3 (by have:=HL.out;omega) HP2.out).mono ?_)
   rintro e wc25 ⟨U1,v25,rfl,V1⟩
   refine hK _ _ ⟨v25,by simp only[FL,f1] <;> kernel_rfl,U1,HY2.out _ _ _ V1,nF⟩
  ·intro xs p2 b0 c0
   have d2:=zz b0;have q2:=b0.size;clear b0
   clear c0
   refine wpOp_step (o:=_) rfl (fun K hK=>?_)
   simp only[FL]
   go_simp
   refine hK _ _ ⟨.pointer (some ⟨w5.heap.size,0,none⟩),by kernel_rfl,Below.refl _ _,rfl,nF⟩
 ·exact all_nil
 ·intro xs wf27 hbf hf hn hd
  have f0:(xs 0)=.pointer (some ⟨w5.heap.size,0,none⟩):=hf _ (m_ 0 rfl)
  have f1:(xs 1)=.agg #[.bool n,.slice A l c]:=hf _ (m_ 1 rfl)
  have f2:LV wf27 wf27.heap.size (xs 2) (4294967296:Int):=hf _ (m_ 2 rfl)
  have f3:RN wf27 wf27.heap.size (xs 3) (dig ((4294967296:Int)).natAbs):=hf _ (m_ 3 rfl)
  have f4:WV wf27 wf27.heap.size (xs 4) y:=hf _ (m_ 4 rfl)
  have f5:(xs 5)=.pointer (some ⟨w5.heap.size,0,none⟩):=hf _ (m_ 5 rfl)
  clear hf hn hd
  simp only[FL]
  have B28:=zz hbf
  have z28:=B28.out.size
  have W1:=zz (D0.out.trans (B28.out.mono D0.out.size))
  clear hbf
  generalize xs 0=x0,xs 1=x1,xs 2=x2,xs 3=x3,xs 4=x4,xs 5=x5 at *
  obtain rfl:=f0
  obtain rfl:=f1
  obtain⟨n30,Ad30,l30,c30,rfl,H0⟩:=f2.opened
  have X1:=zz H0
  clear f2 H0
  clear f3
  obtain⟨on31,oA31,ol31,oc31,rfl,ha31,I0⟩:=f4
  have S0:=zz (WV.mk ha31 I0)
  clear ha31 I0
  obtain rfl:=f5
  have d0:=CB.step t0 B28.out
  have T0:=d0.cell 0 rfl
  have U0:=d0.cell 1 rfl
  have V0:=d0.cell 2 rfl
  have q33_lt:=d0.lt
  have W0:=d0.frozen 0
  have X0:=d0.frozen 1
  have Y0:=d0.frozen 2
  have q34_lt:=d0.lt
  refine Early.next (i:=6) (by kernel_rfl) rfl (fun K hK=>?_)
  go_simp
  refine hK _ _ (fun _=>trivial) ?_
  clear hK K
  (try simp only[Act.put,List.setIfInBounds_toArray,List.set_cons_zero,List.set_cons_succ])
  clear T0 U0 V0 q33_lt W0 X0 Y0 q34_lt
  refine Early.done (by kernel_rfl) ?_ _
  (try simp only[Exit.then])
  have P2_4_36:=zz (B8.out.trans (B11.out.mono B8.out.size))
  have P2_5_37:=zz (P2_4_36.out.trans (B28.out.mono P2_4_36.out.size))
  have Z0:=CB.step m0 P2_5_37.out
  have P1_5_39:=zz (P1_4_14.out.trans (B28.out.mono P1_4_14.out.size))
  have J0:=CB.step Lr2 P1_5_39.out
  obtain⟨w40,k0⟩:∃ w40:World,w40=((wf27.setCell ⟨w5.heap.size,0,none⟩ (.bool on31)).setCell ⟨w5.heap.size,1,none⟩ (.slice oA31 ol31 oc31)):=⟨_,rfl⟩
  rw[← k0]
  have S40:=zz (show Soft wf27 w40 by rw[k0];exact(CB.soft1 (d0) (by simp[noInt_b,noInt_s]) 0 (.bool on31)).trans (CB.soft1 ((show CB _ (w5.heap.size) 95 #[.bool on31,.slice A l c,.slice A' l' c'] from CB.set (d0) 0 (.bool on31))) (by simp[noInt_b,noInt_s]) 1 (.slice oA31 ol31 oc31)))
  have e2:CB w40 (w.heap.size) 26 #[.bool n,.slice A l c,.bool false,.slice A' l' c']:=by rw[k0];exact CB.far (p:=⟨w5.heap.size,1,none⟩) (CB.far (p:=⟨w5.heap.size,0,none⟩) (Z0) (show w.heap.size≠w5.heap.size from by omega) _) (show w.heap.size≠w5.heap.size from by omega) _
  have l0:CB w40 (w.heap.size+1) 52 #[.int .i64 0,.int .i64 0]:=by rw[k0];exact CB.far (p:=⟨w5.heap.size,1,none⟩) (CB.far (p:=⟨w5.heap.size,0,none⟩) (J0) (show w.heap.size+1≠w5.heap.size from by omega) _) (show w.heap.size+1≠w5.heap.size from by omega) _
  have n0:CB w40 (w5.heap.size) 95 #[.bool on31,.slice oA31 ol31 oc31,.slice A' l' c']:=by rw[k0];exact(show CB _ (w5.heap.size) 95 #[.bool on31,.slice oA31 ol31 oc31,.slice A' l' c'] from CB.set ((show CB _ (w5.heap.size) 95 #[.bool on31,.slice A l c,.slice A' l' c'] from CB.set (d0) 0 (.bool on31))) 1 (.slice oA31 ol31 oc31))
  have y0:=zz (show Below w.heap.size w w40 by rw[k0];exact below_set1 (below_set1 (W1.out) (by omega) _ _) (by omega) _ _)
  have s2:w40.heap.size=wf27.heap.size:=by rw[k0];simp[World.setCell]
  clear k0
  have A0:=zz (WV.soft S0.out (S40.out))
  have K0:=zz (RN.soft HRD.out ((Soft.of B28.out).trans (S40.out)))
  have HRT:=zz (show TV w40 w40.heap.size (.agg #[.bool on31,.slice oA31 ol31 oc31,.slice A' l' c']) y q.den from TV.mk (WV.is A0.out).1 K0.out (WV.is A0.out).2)
  have a1:=n0.cell 0 rfl
  have b1:=n0.cell 1 rfl
  have c1:=n0.cell 2 rfl
  have q44_lt:=n0.lt
  go_wp2_with fail
  refine(floor_any _ _ y q.den HRT.out q.den_nz (by have:=HL.out;omega)).mono ?_
  rintro e w43 ⟨L0,v,rfl,hv⟩
  have B45:=zz L0
  have z45:=B45.out.size
  have M0:=zz (y0.out.trans (B45.out.mono y0.out.size))
  clear L0
  clear a1 b1 c1 q44_lt
  rw[← HZ.out] at hv;rw[← HM.out]
  obtain⟨on47,oA47,ol47,oc47,rfl,ha47,N0⟩:=hv
  have d1:=zz (WV.mk ha47 N0)
  clear ha47 N0
  go_upto_region 7 with (fail)
  obtain⟨w48,p0⟩:∃ w48:World,w48=(w43.alloc (.cells #[.bool on47,.slice oA47 ol47 oc47] 93)):=⟨_,rfl⟩;rw[← p0]
  have O0:Below w43.heap.size w43 w48:=by rw[p0];(repeat' (first | exact Below.refl _ _ | refine Below.drew ?_ | refine Below.alloc ?_ (by first | exact Nat.le_refl _ | (simp;done) | (simp;omega)) _))
  have r0:CB w48 (w43.heap.size) 93 #[.bool on47,.slice oA47 ol47 oc47]:=by rw[p0];have h:=CB.new w43 93 #[.bool on47,.slice oA47 ol47 oc47];simpa using h
  have za48:w43.heap.size+1≤w48.heap.size:=by rw[p0];simp
  have B49:=zz O0
  have z49:=B49.out.size
  have s0:=zz (M0.out.trans (B49.out.mono M0.out.size))
  clear O0 p0
  have e1:=r0.cell 0 rfl
  have g1:=r0.cell 1 rfl
  have q52_lt:=r0.lt
  go_wp2_with fail
  have i1:=zz (WV.step d1.out B49.out)
  refine(number_any _ _ z 4503599627370496 i1.out (by decide) (by decide) (by have:=HL.out;omega) (G.step s0.out)).mono ?_
  rintro e w51 ⟨P0,rfl⟩
  have B54:=zz P0
  have z54:=B54.out.size
  have q0:=zz (s0.out.trans (B54.out.mono s0.out.size))
  clear P0
  clear e1 g1 q52_lt
  by_cases hfit:z.natAbs≤4503599627370496
  ·rw[numN_yes (show z.natAbs≤(4503599627370496:Int).natAbs from hfit)]
   have hz0:-4503599627370496≤z:=by omega
   have hz1:z≤4503599627370496:=by omega
   cases more with
   | false=>
    have HT:=zz (show t=((z,z),0) by rw[HS.out];simp only[Bool.false_eq_true,if_false];exact if_pos ⟨hfit,hz1⟩);clear hfit
    have P6_8_57:=zz (B45.out.trans (B49.out.mono B45.out.size))
    have P6_9_58:=zz (P6_8_57.out.trans (B54.out.mono P6_8_57.out.size))
    have e0:=CB.step l0 P6_9_58.out
    have j1:=e0.cell 0 rfl
    have k1:=e0.cell 1 rfl
    have q59_lt:=e0.lt
    have l1:=e0.frozen 0
    have m1:=e0.frozen 1
    have q60_lt:=e0.lt
    go_wp2
    clear j1 k1 q59_lt l1 m1 q60_lt
    exact SB.put rfl e0 q0.out (by omega) (by rw[HT.out]) rfl (by rw[HT.out];rfl)
   | true=>
    have hz3:z+1≤4503599627370497:=by omega
    by_cases hh:z+1≤4503599627370496
    ·have HT:=zz (show t=((z,z+1),0) by rw[HS.out];simp only[if_true];exact if_pos ⟨hfit,hh⟩);clear hfit
     have hh2:¬ 4503599627370496<z+1:=by omega
     have P6_8_62:=zz (B45.out.trans (B49.out.mono B45.out.size))
     have P6_9_63:=zz (P6_8_62.out.trans (B54.out.mono P6_8_62.out.size))
     have g0:=CB.step l0 P6_9_63.out
     have n1:=g0.cell 0 rfl
     have o1:=g0.cell 1 rfl
     have q64_lt:=g0.lt
     have p1:=g0.frozen 0
     have q1:=g0.frozen 1
     have q65_lt:=g0.lt
     go_wp2
     clear n1 o1 q64_lt p1 q1 q65_lt
     exact SB.put rfl g0 q0.out (by omega) (by rw[HT.out]) rfl (by rw[HT.out];rfl)
    ·have HT:=zz (show t=((0,0),6) by rw[HS.out];simp only[if_true];exact if_neg (fun h=>hh h.2));clear hfit
     have hh2:4503599627370496<z+1:=by omega
     have P6_8_67:=zz (B45.out.trans (B49.out.mono B45.out.size))
     have P6_9_68:=zz (P6_8_67.out.trans (B54.out.mono P6_8_67.out.size))
     have h0:=CB.step l0 P6_9_68.out
     have r1:=h0.cell 0 rfl
     have s1:=h0.cell 1 rfl
     have q69_lt:=h0.lt
     have t1:=h0.frozen 0
     have u1:=h0.frozen 1
     have q70_lt:=h0.lt
     go_wp2
     clear r1 s1 q69_lt t1 u1 q70_lt
     exact SB.put rfl h0 q0.out (by omega) (by rw[HT.out]) rfl (by rw[HT.out];rfl)
  ·rw[numN_no (show ¬ z.natAbs≤(4503599627370496:Int).natAbs from hfit)]
   have HT:=zz (show t=((0,0),6) by rw[HS.out];exact if_neg (fun h=>hfit h.1));clear hfit
   cases more with
   | false=>
    have P6_8_72:=zz (B45.out.trans (B49.out.mono B45.out.size))
    have P6_9_73:=zz (P6_8_72.out.trans (B54.out.mono P6_8_72.out.size))
    have i0:=CB.step l0 P6_9_73.out
    have v1:=i0.cell 0 rfl
    have y1:=i0.cell 1 rfl
    have q74_lt:=i0.lt
    have z1:=i0.frozen 0
    have A1:=i0.frozen 1
    have q75_lt:=i0.lt
    go_wp2
    clear v1 y1 q74_lt z1 A1 q75_lt
    exact SB.put rfl i0 q0.out (by omega) (by rw[HT.out]) rfl (by rw[HT.out];rfl)
   | true=>
    have P6_8_77:=zz (B45.out.trans (B49.out.mono B45.out.size))
    have P6_9_78:=zz (P6_8_77.out.trans (B54.out.mono P6_8_77.out.size))
    have j0:=CB.step l0 P6_9_78.out
    have B1:=j0.cell 0 rfl
    have C1:=j0.cell 1 rfl
    have q79_lt:=j0.lt
    have D1:=j0.frozen 0
    have E1:=j0.frozen 1
    have q80_lt:=j0.lt
    go_wp2
    clear B1 C1 q79_lt D1 E1 q80_lt
    exact SB.put rfl j0 q0.out (by omega) (by rw[HT.out]) rfl (by rw[HT.out];rfl)
noncomputable def nearV (z:Int):Int × Int:=if z.natAbs≤4611686018427387904 then (z,0) else (0,6)
noncomputable def nearQ (o:Option Rat) (s:Int):Int × Int:=
 match o with
 | some q=>if s<1∨1000000000000<s then (0,2) else nearV ((q.num*(2*s)+(q.den:Int)) / ((q.den*2:Nat):Int))
 | none=>(0,40)
set_option maxRecDepth 100000 in
set_option maxHeartbeats 4000000 in
theorem QNear_good (w:World) (va:Value) (q:Rat) (s:Int) (ha:QV w w.heap.size va q) (lq:QL 600 600 q) (G:Glob w) :
  Calls Tryz.prog 27 #[va,.int .i64 s] w fun e w'=>Below w.heap.size w w'∧RetI (nearQ (some q) s) e:=by
 obtain⟨t,ht⟩:∃ t,t=nearQ (some q) s:=⟨_,rfl⟩;rw[← ht]
 obtain⟨n,A,l,c,m,A',l',c',rfl⟩:=QO.cells (show QO w w.heap.size va (some q) from ha)
 obtain rfl:=(QV.is ha).2.2.2
 have HA:=zz ha;have HLQ:=zz lq;have HT:=zz ht;clear ha lq ht
 obtain⟨w0,hw0⟩:∃ w0:World,w0=(w.alloc (.cells #[.bool n,.slice A l c,.bool false,.slice A' l' c'] 26)):=⟨_,rfl⟩
 have B0:=zz (show Below w.heap.size w w0 by rw[hw0];(repeat' (first | exact Below.refl _ _ | refine Below.drew ?_ | refine Below.alloc ?_ (by first | exact Nat.le_refl _ | (simp;done) | (simp;omega)) _)))
 have z0:w.heap.size+1≤w0.heap.size:=by rw[hw0];simp
 have La:CB w0 (w.heap.size) 26 #[.bool n,.slice A l c,.bool false,.slice A' l' c']:=by rw[hw0];have h:=CB.new w 26 #[.bool n,.slice A l c,.bool false,.slice A' l' c'];simpa using h
 replace HA:=zz (QV.step HA.out B0.out)
 by_cases hs:s<1∨1000000000000<s
 ·have HTT:=zz (show t=(0,2) by rw[HT.out];exact if_pos hs)
  by_cases hs1:s<1
  ·clear hs
   go_enter Tryz.func27,Tryz.ntmps27
   go_upto_region 1 with (fail)
   rw[← hw0];clear hw0
   have N1:=La.cell 0 rfl
   have O1:=La.cell 1 rfl
   have P1:=La.cell 2 rfl
   have Q1:=La.cell 3 rfl
   have q2_lt:=La.lt
   go_wp2_with fail
   refine(QCheck_good HA.out HLQ.out).mono ?_
   rintro e w1 ⟨J1,rfl⟩
   have B3:=zz J1
   have z3:=B3.out.size
   have k2:=zz (B0.out.trans (B3.out.mono B0.out.size))
   clear J1
   clear N1 O1 P1 Q1 q2_lt
   go_wp2
   go_ret2
   exact⟨k2.out,by rw[HTT.out];rfl⟩
  ·have hs2:1000000000000<s:=by omega
   clear hs
   go_enter Tryz.func27,Tryz.ntmps27
   go_upto_region 1 with (fail)
   rw[← hw0];clear hw0
   have R1:=La.cell 0 rfl
   have S1:=La.cell 1 rfl
   have T1:=La.cell 2 rfl
   have U1:=La.cell 3 rfl
   have q6_lt:=La.lt
   go_wp2_with fail
   refine(QCheck_good HA.out HLQ.out).mono ?_
   rintro e w5 ⟨K1,rfl⟩
   have B7:=zz K1
   have z7:=B7.out.size
   have l2:=zz (B0.out.trans (B7.out.mono B0.out.size))
   clear K1
   clear R1 S1 T1 U1 q6_lt
   go_wp2
   go_ret2
   exact⟨l2.out,by rw[HTT.out];rfl⟩
 ·have hs1:¬ s<1:=by omega
  have hs2:¬ 1000000000000<s:=by omega
  have hs3:1≤s:=by omega
  have hs4:s≤1000000000000:=by omega
  obtain⟨k,hk⟩:∃ k,k=2*s:=⟨_,rfl⟩;have m2:0≤k:=by omega
  have n2:k≤2000000000000:=by omega
  obtain⟨y,hy⟩:∃ y,y=q.num*k+(q.den:Int):=⟨_,rfl⟩;obtain⟨z,hz⟩:∃ z,z=y / ((q.den*2:Nat):Int):=⟨_,rfl⟩
  have HTT:=zz (show t=nearV z by rw[HT.out,hz,hy,hk];exact if_neg hs)
  have lK:(dig k.natAbs).length≤2:=by rw[dig_len_le];show k.natAbs<1000000000000000000;omega
  have lP:(dig (q.num*((k.natAbs:Nat):Int)).natAbs).length≤602:=by rw[Int.natAbs_mul,Int.natAbs_natCast];have h1:=dig_len_mul q.num.natAbs k.natAbs;have:=HLQ.out.1;omega
  have hkk:((k.natAbs:Nat):Int)=k:=by omega
  have lY:(dig y.natAbs).length≤603:=by rw[hy];rw[hkk] at lP;exact Nat.le_trans (dig_len_mono (Int.natAbs_add_le _ _)) (dig_len_add _ _ lP (by rw[Int.natAbs_natCast];have:=HLQ.out.2;omega))
  have hd2:q.den*2≠0:=Nat.mul_ne_zero q.den_nz (by decide)
  have lD:(dig (q.den*2)).length≤601:=by have h1:=dig_len_mul q.den 2;rw[dig2] at h1;have:=HLQ.out.2;simp at h1;omega
  have lZ:(dig z.natAbs).length≤605:=by rw[hz];have:=floor_len y hd2;omega
  have HWY:=zz (show ∀ w B v,WV w B v (q.num*((k.natAbs:Nat):Int)+(q.den:Int))→WV w B v y from fun w B v h=>by rw[hy,← hkk];exact h)
  have HL:=zz (And.intro lK (And.intro lP (And.intro lY (And.intro lD (And.intro lZ (And.intro HLQ.out.1 HLQ.out.2))))));have HZ:=zz hz;have HD2:=zz hd2;have HK:=zz hk;have HKB:=zz (And.intro m2 n2)
  have HS0:=zz hs;clear lK lP hkk lY hd2 lD lZ hz hy hs
  have hkw:IntKind.i64.wrap k=k:=IntWalk.i64_in _ (by omega)
  replace hk:=hk.symm
  go_enter Tryz.func27,Tryz.ntmps27
  go_upto_region 1 with (fail)
  rw[← hw0];clear hw0
  have T0:=La.cell 0 rfl
  have U0:=La.cell 1 rfl
  have V0:=La.cell 2 rfl
  have W0:=La.cell 3 rfl
  have q10_lt:=La.lt
  go_wp2_with fail
  refine(QCheck_good HA.out HLQ.out).mono ?_
  rintro e w9 ⟨L1,rfl⟩
  have B11:=zz L1
  have z11:=B11.out.size
  have r0:=zz (B0.out.trans (B11.out.mono B0.out.size))
  clear L1
  clear T0 U0 V0 W0 q10_lt
  have g0:=CB.step La B11.out
  have X0:=g0.cell 0 rfl
  have Y0:=g0.cell 1 rfl
  have Z0:=g0.cell 2 rfl
  have a1:=g0.cell 3 rfl
  have q15_lt:=g0.lt
  go_wp2_with fail
  refine(Read_any _ n false A A' l c l' c').mono ?_
  rintro e w13 ⟨s0,rfl⟩
  have B16:=zz s0
  have z16:=B16.out.size
  have t0:=zz (r0.out.trans (B16.out.mono r0.out.size))
  clear s0
  clear X0 Y0 Z0 a1 q15_lt
  go_upto_region 7 with (fail)
  obtain⟨w18,h0⟩:∃ w18:World,w18=(w13.alloc (.cells #[.bool n,.slice A l c,.slice A' l' c'] 95)):=⟨_,rfl⟩;rw[← h0]
  have u0:Below w13.heap.size w13 w18:=by rw[h0];(repeat' (first | exact Below.refl _ _ | refine Below.drew ?_ | refine Below.alloc ?_ (by first | exact Nat.le_refl _ | (simp;done) | (simp;omega)) _))
  have i0:CB w18 (w13.heap.size) 95 #[.bool n,.slice A l c,.slice A' l' c']:=by rw[h0];have h:=CB.new w13 95 #[.bool n,.slice A l c,.slice A' l' c'];simpa using h
  have za18:w13.heap.size+1≤w18.heap.size:=by rw[h0];simp
  have B19:=zz u0
  have z19:=B19.out.size
  have v0:=zz (t0.out.trans (B19.out.mono t0.out.size))
  clear u0 h0
  have P1_3_21:=zz (B11.out.trans (B16.out.mono B11.out.size))
  have P1_4_22:=zz (P1_3_21.out.trans (B19.out.mono P1_3_21.out.size))
  have l0:=zz (QV.step HA.out P1_4_22.out)
  have HRW:=zz (TV.fst (QV.read l0.out));have HRD:=zz (TV.is (QV.read l0.out)).2.1
  have HDW:=zz (show WV w18 w18.heap.size (.agg #[.bool false,.slice A' l' c']) (q.den:Int) from WV.mk (by rw[Int.natAbs_natCast];exact HRD.out) (fun _=>by rw[decide_eq_false (by omega)]))
  refine Flow.run [⟨0,26,fun fv fw=>fv=.pointer (some ⟨w13.heap.size,0,none⟩)⟩,⟨1,27,fun fv fw=>fv=.agg #[.bool n,.slice A l c]⟩,⟨2,28,fun fv fw=>fv=.int .i64 s⟩,⟨3,29,fun fv fw=>fv=.int .i64 k⟩,⟨4,30,fun fv fw=>LV fw fw.heap.size fv k⟩,⟨5,31,fun fv fw=>RN fw fw.heap.size fv (dig (k).natAbs)⟩,⟨6,32,fun fv fw=>WV fw fw.heap.size fv (q.num*((k.natAbs:Nat):Int))⟩,⟨7,33,fun fv fw=>fv=.pointer (some ⟨w13.heap.size,2,none⟩)⟩,⟨8,34,fun fv fw=>fv=.slice A' l' c'⟩,⟨9,35,fun fv fw=>fv=.agg #[.bool false,.slice A' l' c']⟩,⟨10,36,fun fv fw=>WV fw fw.heap.size fv y⟩,⟨11,8,fun fv fw=>∃ b,fv=.pointer (some ⟨b,0,none⟩)∧CB fw b 93 #[.bool false,.slice none 0 0]⟩] [] [11] 1 (by kernel_rfl) (by kernel_rfl) (by kernel_rfl) (fun _ _ _ _ _ h=>h) ?_ ?_ ?_ ?_
  ·refine(a0 (a0 (a0 (a0 (all_cons (fun v w1 w2 h hb=>h.step hb) (all_cons (fun v w1 w2 h hb=>h.step hb) (all_cons (fun v w1 w2 h hb=>h.step hb) (a0 (a0 (a0 (all_cons (fun v w1 w2 h hb=>h.step hb) (all_cons (fun v w1 w2 h hb=>let ⟨b,e,h⟩:=h;⟨b,e,h.step hb⟩) all_nil))))))))))))
  ·refine(all_cons ?_ (all_cons ?_ (all_cons ?_ (all_cons ?_ (all_cons ?_ (all_cons ?_ (all_cons ?_ (all_cons ?_ (all_cons ?_ (all_cons ?_ (all_cons ?_ (all_cons ?_ all_nil))))))))))))
   ·intro xs P2 b0 c0
    have p2:=zz b0;have Q2:=b0.size;clear b0
    clear c0
    refine wpOp_step (o:=_) rfl (fun K hK=>?_)
    simp only[FL]
    go_simp
    refine hK _ _ ⟨.pointer (some ⟨w13.heap.size,0,none⟩),by kernel_rfl,Below.refl _ _,rfl,nF⟩
   ·intro xs R2 b0 c0
    have b1:=zz b0;have S2:=b0.size;clear b0
    have f0:(xs 0)=.pointer (some ⟨w13.heap.size,0,none⟩):=c0 _ (m_ 0 rfl) (by kernel_rfl)
    clear c0
    refine wpOp_step (o:=_) rfl (fun K hK=>?_)
    simp only[FL]
    have m0:=CB.step i0 b1.out
    have q2:=m0.cell 0 rfl
    have r2:=m0.cell 1 rfl
    go_simp
    refine hK _ _ ⟨.agg #[.bool n,.slice A l c],by simp only[FL,f0] <;> kernel_rfl,Below.refl _ _,rfl,nF⟩
   ·intro xs T2 b0 c0
    have s2:=zz b0;have U2:=b0.size;clear b0
    clear c0
    refine wpOp_step (o:=_) rfl (fun K hK=>?_)
    simp only[FL]
    go_simp
    refine hK _ _ ⟨.int .i64 s,by kernel_rfl,Below.refl _ _,rfl,nF⟩
   ·intro xs V2 b0 c0
    have t2:=zz b0;have W2:=b0.size;clear b0
    have f2:(xs 2)=.int .i64 s:=c0 _ (m_ 2 rfl) (by kernel_rfl)
    clear c0
    refine wpOp_step (o:=_) rfl (fun K hK=>?_)
    simp only[FL]
    go_simp
    refine hK _ _ ⟨.int .i64 k,by simp only[FL,f2] <;> kernel_rfl,Below.refl _ _,rfl,nF⟩
   ·intro xs X2 b0 c0
    have u2:=zz b0;have Y2:=b0.size;clear b0
    have f3:(xs 3)=.int .i64 k:=c0 _ (m_ 3 rfl) (by kernel_rfl)
    clear c0
    refine wpOp_step (o:=_) rfl (fun K hK=>?_)
    simp only[FL]
    go_simp
    (with_reducible refine(Of_any _ k (by have:=HKB.out;omega) (by have:=HKB.out;omega)).mono ?_)
    rintro e wc31 ⟨V1,v31,rfl,W1⟩
    refine hK _ _ ⟨v31,by simp only[FL,f3] <;> kernel_rfl,V1,W1,nF⟩
   ·intro xs y0 b0 c0
    have v2:=zz b0;have Z2:=b0.size;clear b0
    have f4:LV y0 y0.heap.size (xs 4) k:=c0 _ (m_ 4 rfl) (by kernel_rfl)
    clear c0
    refine wpOp_step (o:=_) rfl (fun K hK=>?_)
    simp only[FL]
    obtain⟨on4,oA4,ol4,oc4,hx4,M1⟩:=LV.opened f4;have r4:=(LV.is M1).2.2;rw[hx4];clear M1
    go_simp
    refine hK _ _ ⟨.slice oA4 ol4 oc4,by simp only[FL,hx4] <;> kernel_rfl,Below.refl _ _,r4,nF⟩
   ·intro xs A0 b0 c0
    have c1:=zz b0;have a3:=b0.size;clear b0
    have f1:(xs 1)=.agg #[.bool n,.slice A l c]:=c0 _ (m_ 1 rfl) (by kernel_rfl)
    have f5:RN A0 A0.heap.size (xs 5) (dig (k).natAbs):=c0 _ (m_ 5 rfl) (by kernel_rfl)
    clear c0
    refine wpOp_step (o:=_) rfl (fun K hK=>?_)
    simp only[FL]
    go_simp
    have C0:=zz (WV.step HRW.out c1.out)
    (with_reducible refine(wtimes_any _ _ _ q.num k.natAbs C0.out f5 (by have:=HL.out;omega) (by have:=HL.out;omega)).mono ?_)
    rintro e wc35 ⟨X1,v35,rfl,Y1⟩
    refine hK _ _ ⟨v35,by simp only[FL,f1] <;> kernel_rfl,X1,Y1,nF⟩
   ·intro xs b3 b0 c0
    have y2:=zz b0;have c3:=b0.size;clear b0
    clear c0
    refine wpOp_step (o:=_) rfl (fun K hK=>?_)
    simp only[FL]
    go_simp
    refine hK _ _ ⟨.pointer (some ⟨w13.heap.size,2,none⟩),by kernel_rfl,Below.refl _ _,rfl,nF⟩
   ·intro xs d3 b0 c0
    have d1:=zz b0;have e3:=b0.size;clear b0
    have f7:(xs 7)=.pointer (some ⟨w13.heap.size,2,none⟩):=c0 _ (m_ 7 rfl) (by kernel_rfl)
    clear c0
    refine wpOp_step (o:=_) rfl (fun K hK=>?_)
    simp only[FL]
    have e1:=CB.step i0 d1.out
    have z2:=e1.cell 2 rfl
    go_simp
    refine hK _ _ ⟨.slice A' l' c',by simp only[FL,f7] <;> kernel_rfl,Below.refl _ _,rfl,nF⟩
   ·intro xs g3 b0 c0
    have A2:=zz b0;have h3:=b0.size;clear b0
    have f8:(xs 8)=.slice A' l' c':=c0 _ (m_ 8 rfl) (by kernel_rfl)
    clear c0
    refine wpOp_step (o:=_) rfl (fun K hK=>?_)
    simp only[FL]
    go_simp
    refine hK _ _ ⟨.agg #[.bool false,.slice A' l' c'],by simp only[FL,f8] <;> kernel_rfl,Below.refl _ _,rfl,nF⟩
   ·intro xs D0 b0 c0
    have g1:=zz b0;have i3:=b0.size;clear b0
    have f6:WV D0 D0.heap.size (xs 6) (q.num*((k.natAbs:Nat):Int)):=c0 _ (m_ 6 rfl) (by kernel_rfl)
    have f9:(xs 9)=.agg #[.bool false,.slice A' l' c']:=c0 _ (m_ 9 rfl) (by kernel_rfl)
    clear c0
    refine wpOp_step (o:=_) rfl (fun K hK=>?_)
    simp only[FL]
    go_simp
    have E0:=zz (WV.step HDW.out g1.out)
    (with_reducible refine(wplus_any _ _ _ (q.num*((k.natAbs:Nat):Int)) (q.den:Int) f6 E0.out (by have:=HL.out;omega) (by rw[Int.natAbs_natCast];have:=HL.out;omega)).mono ?_)
    rintro e wc43 ⟨Z1,v43,rfl,a2⟩
    refine hK _ _ ⟨v43,by simp only[FL,f9] <;> kernel_rfl,Z1,HWY.out _ _ _ a2,nF⟩
   ·intro xs b2 b0 c0
    have B2:=zz b0;have j3:=b0.size;clear b0
    clear c0
    refine wpOp_step (o:=_) rfl (fun K hK=>?_)
    simp only[FL]
    go_simp
    refine hK _ _ ⟨.pointer (some ⟨b2.heap.size,0,none⟩),by kernel_rfl,(Below.refl _ _).alloc (Nat.le_refl _) _,⟨_,rfl,CB.new _ _ _⟩,fun _=>⟨_,rfl,Nat.le_refl _,by simp⟩⟩
  ·exact all_nil
  ·intro xs wf45 hbf hf hn hd
   have f0:(xs 0)=.pointer (some ⟨w13.heap.size,0,none⟩):=hf _ (m_ 0 rfl)
   have f1:(xs 1)=.agg #[.bool n,.slice A l c]:=hf _ (m_ 1 rfl)
   have f2:(xs 2)=.int .i64 s:=hf _ (m_ 2 rfl)
   have f3:(xs 3)=.int .i64 k:=hf _ (m_ 3 rfl)
   have f4:LV wf45 wf45.heap.size (xs 4) k:=hf _ (m_ 4 rfl)
   have f5:RN wf45 wf45.heap.size (xs 5) (dig (k).natAbs):=hf _ (m_ 5 rfl)
   have f6:WV wf45 wf45.heap.size (xs 6) (q.num*((k.natAbs:Nat):Int)):=hf _ (m_ 6 rfl)
   have f7:(xs 7)=.pointer (some ⟨w13.heap.size,2,none⟩):=hf _ (m_ 7 rfl)
   have f8:(xs 8)=.slice A' l' c':=hf _ (m_ 8 rfl)
   have f9:(xs 9)=.agg #[.bool false,.slice A' l' c']:=hf _ (m_ 9 rfl)
   have f10:WV wf45 wf45.heap.size (xs 10) y:=hf _ (m_ 10 rfl)
   have f11:∃ b,(xs 11)=.pointer (some ⟨b,0,none⟩)∧CB wf45 b 93 #[.bool false,.slice none 0 0]:=hf _ (m_ 11 rfl)
   have n11:=hn 11 (by decide)
   clear hf hn hd
   simp only[FL]
   have B46:=zz hbf
   have z46:=B46.out.size
   have c2:=zz (v0.out.trans (B46.out.mono v0.out.size))
   clear hbf
   generalize xs 0=x0,xs 1=x1,xs 2=x2,xs 3=x3,xs 4=x4,xs 5=x5,xs 6=x6,xs 7=x7,xs 8=x8,xs 9=x9,xs 10=x10,xs 11=x11 at *
   obtain rfl:=f0
   obtain rfl:=f1
   obtain rfl:=f2
   obtain rfl:=f3
   obtain⟨n48,Ad48,l48,c48,rfl,F0⟩:=f4.opened
   have o2:=zz F0
   clear f4 F0
   clear f5
   clear f6
   obtain rfl:=f7
   obtain rfl:=f8
   obtain rfl:=f9
   obtain⟨on49,oA49,ol49,oc49,rfl,ha49,G0⟩:=f10
   have i1:=zz (WV.mk ha49 G0)
   clear ha49 G0
   obtain⟨bn50_n,rfl,Ln51_n⟩:=f11
   have hge_bn50_n:=zz (show w18.heap.size≤bn50_n by obtain⟨b',e,h,-⟩:=n11;injection e with e;injection e with e;injection e with e _ _;omega)
   clear n11
   have hgb_bn50_n:=Ln51_n.lt;have hgc_bn50_n:=hge_bn50_n.out
   have j1:=Ln51_n.cell 0 rfl
   have k1:=Ln51_n.cell 1 rfl
   have q52_lt:=Ln51_n.lt
   have l1:=Ln51_n.frozen 0
   have m1:=Ln51_n.frozen 1
   have q53_lt:=Ln51_n.lt
   refine Early.next (i:=12) (by kernel_rfl) rfl (fun K hK=>?_)
   go_simp
   refine hK _ _ (fun _=>trivial) ?_
   clear hK K
   (try simp only[Act.put,List.setIfInBounds_toArray,List.set_cons_zero,List.set_cons_succ])
   clear j1 k1 q52_lt l1 m1 q53_lt
   refine Early.done (by kernel_rfl) ?_ _
   (try simp only[Exit.then])
   have P2_4_55:=zz (B16.out.trans (B19.out.mono B16.out.size))
   have P2_5_56:=zz (P2_4_55.out.trans (B46.out.mono P2_4_55.out.size))
   have n1:=CB.step g0 P2_5_56.out
   have o1:=CB.step i0 B46.out
   obtain⟨w58,e0⟩:∃ w58:World,w58=((wf45.setCell ⟨bn50_n,0,none⟩ (.bool on49)).setCell ⟨bn50_n,1,none⟩ (.slice oA49 ol49 oc49)):=⟨_,rfl⟩
   rw[← e0]
   have S58:=zz (show Soft wf45 w58 by rw[e0];exact(CB.soft1 (Ln51_n) (by simp[noInt_b,noInt_s]) 0 (.bool on49)).trans (CB.soft1 ((show CB _ (bn50_n) 93 #[.bool on49,.slice none 0 0] from CB.set (Ln51_n) 0 (.bool on49))) (by simp[noInt_b,noInt_s]) 1 (.slice oA49 ol49 oc49)))
   have p1:CB w58 (w.heap.size) 26 #[.bool n,.slice A l c,.bool false,.slice A' l' c']:=by rw[e0];exact CB.far (p:=⟨bn50_n,1,none⟩) (CB.far (p:=⟨bn50_n,0,none⟩) (n1) (show w.heap.size≠bn50_n from by omega) _) (show w.heap.size≠bn50_n from by omega) _
   have n0:CB w58 (w13.heap.size) 95 #[.bool n,.slice A l c,.slice A' l' c']:=by rw[e0];exact CB.far (p:=⟨bn50_n,1,none⟩) (CB.far (p:=⟨bn50_n,0,none⟩) (o1) (show w13.heap.size≠bn50_n from by omega) _) (show w13.heap.size≠bn50_n from by omega) _
   have o0:CB w58 (bn50_n) 93 #[.bool on49,.slice oA49 ol49 oc49]:=by rw[e0];exact(show CB _ (bn50_n) 93 #[.bool on49,.slice oA49 ol49 oc49] from CB.set ((show CB _ (bn50_n) 93 #[.bool on49,.slice none 0 0] from CB.set (Ln51_n) 0 (.bool on49))) 1 (.slice oA49 ol49 oc49))
   have p0:=zz (show Below w.heap.size w w58 by rw[e0];exact below_set1 (below_set1 (c2.out) (by omega) _ _) (by omega) _ _)
   have k3:w58.heap.size=wf45.heap.size:=by rw[e0];simp[World.setCell]
   clear e0
   have q1:=zz (WV.soft i1.out (S58.out))
   have HY1:=zz (WV.is q1.out)
   have HYR:=zz HY1.out.1
   obtain⟨bit,hbit⟩:∃ b:Bool,b=decide (y % ((q.den*2:Nat):Int)≠0):=⟨_,rfl⟩;have HBIT:=zz hbit;clear hbit
   have HP2:=zz (show(dig 2).length≤1000000 by rw[dig2];decide)
   go_upto_region 8 with (fail)
   refine Flow.run [⟨0,38,fun fv fw=>fv=.agg #[.bool on49,.slice oA49 ol49 oc49]⟩,⟨1,39,fun fv fw=>fv=.pointer (some ⟨w13.heap.size,2,none⟩)⟩,⟨2,40,fun fv fw=>fv=.slice A' l' c'⟩,⟨3,41,fun fv fw=>RN fw fw.heap.size fv (dig 2)⟩,⟨4,42,fun fv fw=>RN fw fw.heap.size fv (dig (q.den*2))⟩,⟨5,43,fun fv fw=>TV fw fw.heap.size fv y (q.den*2)⟩,⟨6,44,fun fv fw=>∃ u,fv=.tuple #[u,.bool bit]∧WV fw fw.heap.size u z⟩,⟨7,37,fun fv fw=>∃ u,fv=.tuple #[u,.bool bit]∧WV fw fw.heap.size u z⟩,⟨8,45,fun fv fw=>WV fw fw.heap.size fv z⟩,⟨10,9,fun fv fw=>∃ b,fv=.pointer (some ⟨b,0,none⟩)∧CB fw b 93 #[.bool false,.slice none 0 0]⟩] [⟨9,46,fun fv fw=>fv=.bool bit⟩] [10] 2 (by kernel_rfl) (by kernel_rfl) (by kernel_rfl) (fun _ _ _ _ _ h=>h) ?_ ?_ ?_ ?_
   ·refine(a0 (a0 (a0 (all_cons (fun v w1 w2 h hb=>h.step hb) (all_cons (fun v w1 w2 h hb=>h.step hb) (all_cons (fun v w1 w2 h hb=>h.step hb) (all_cons (fun v w1 w2 h hb=>let ⟨u,e,h⟩:=h;⟨u,e,h.step hb⟩) (all_cons (fun v w1 w2 h hb=>let ⟨u,e,h⟩:=h;⟨u,e,h.step hb⟩) (all_cons (fun v w1 w2 h hb=>h.step hb) (all_cons (fun v w1 w2 h hb=>let ⟨b,e,h⟩:=h;⟨b,e,h.step hb⟩) (a0 all_nil)))))))))))
   ·refine(all_cons ?_ (all_cons ?_ (all_cons ?_ (all_cons ?_ (all_cons ?_ (all_cons ?_ (all_cons ?_ (all_cons ?_ (all_cons ?_ (all_cons ?_ all_nil))))))))))
    ·intro xs l3 b0 c0
     have r1:=zz b0;have m3:=b0.size;clear b0
     clear c0
     refine wpOp_step (o:=_) rfl (fun K hK=>?_)
     simp only[FL]
     have q0:=CB.step o0 r1.out
     have C2:=q0.cell 0 rfl
     have D2:=q0.cell 1 rfl
     go_simp
     refine hK _ _ ⟨.agg #[.bool on49,.slice oA49 ol49 oc49],by kernel_rfl,Below.refl _ _,rfl,nF⟩
    ·intro xs n3 b0 c0
     have E2:=zz b0;have o3:=b0.size;clear b0
     clear c0
     refine wpOp_step (o:=_) rfl (fun K hK=>?_)
     simp only[FL]
     go_simp
     refine hK _ _ ⟨.pointer (some ⟨w13.heap.size,2,none⟩),by kernel_rfl,Below.refl _ _,rfl,nF⟩
    ·intro xs p3 b0 c0
     have s1:=zz b0;have q3:=b0.size;clear b0
     have f1:(xs 1)=.pointer (some ⟨w13.heap.size,2,none⟩):=c0 _ (m_ 1 rfl) (by kernel_rfl)
     clear c0
     refine wpOp_step (o:=_) rfl (fun K hK=>?_)
     simp only[FL]
     have t1:=CB.step n0 s1.out
     have F2:=t1.cell 2 rfl
     go_simp
     refine hK _ _ ⟨.slice A' l' c',by simp only[FL,f1] <;> kernel_rfl,Below.refl _ _,rfl,nF⟩
    ·intro xs d2 b0 c0
     have G2:=zz b0;have r3:=b0.size;clear b0
     clear c0
     refine wpOp_step (o:=_) rfl (fun K hK=>?_)
     simp only[FL]
     go_simp
     refine hK _ _ ⟨.slice (some ⟨d2.heap.size,0,none⟩) 1 1,by kernel_rfl,(Below.refl _ _).alloc (Nat.le_refl _) _,(by rw[dig2];exact RI.one _ 2),nF⟩
    ·intro xs H0 b0 c0
     have u1:=zz b0;have s3:=b0.size;clear b0
     have f2:(xs 2)=.slice A' l' c':=c0 _ (m_ 2 rfl) (by kernel_rfl)
     have f3:RN H0 H0.heap.size (xs 3) (dig 2):=c0 _ (m_ 3 rfl) (by kernel_rfl)
     clear c0
     refine wpOp_step (o:=_) rfl (fun K hK=>?_)
     simp only[FL]
     go_simp
     have I0:=zz (RN.soft HRD.out (((Soft.of B46.out).trans (S58.out)).trans (Soft.of u1.out)))
     (with_reducible refine(Times_any _ _ _ q.den 2 I0.out f3 (by have:=HL.out;omega) HP2.out).mono ?_)
     rintro e wc70 ⟨e2,v70,rfl,g2⟩
     refine hK _ _ ⟨v70,by simp only[FL,f2] <;> kernel_rfl,e2,g2,nF⟩
    ·intro xs J0 b0 c0
     have v1:=zz b0;have t3:=b0.size;clear b0
     have f0:(xs 0)=.agg #[.bool on49,.slice oA49 ol49 oc49]:=c0 _ (m_ 0 rfl) (by kernel_rfl)
     have f4:RN J0 J0.heap.size (xs 4) (dig (q.den*2)):=c0 _ (m_ 4 rfl) (by kernel_rfl)
     clear c0
     refine wpOp_step (o:=_) rfl (fun K hK=>?_)
     simp only[FL]
     obtain⟨A4,c4,hx4,-⟩:=RN.cell f4;have r4:=f4;rw[hx4] at r4 ⊢
     have K0:=zz (RN.step HYR.out v1.out)
     go_simp
     refine hK _ _ ⟨.agg #[.bool on49,.slice oA49 ol49 oc49,.slice A4 (dig (q.den*2)).length c4],by simp only[FL,f0,hx4] <;> kernel_rfl,Below.refl _ _,TV.mk K0.out r4 HY1.out.2,nF⟩
    ·intro xs L0 b0 c0
     have H2:=zz b0;have u3:=b0.size;clear b0
     have f5:TV L0 L0.heap.size (xs 5) y (q.den*2):=c0 _ (m_ 5 rfl) (by kernel_rfl)
     clear c0
     refine wpOp_step (o:=_) rfl (fun K hK=>?_)
     simp only[FL]
     go_simp
     (with_reducible refine(floor_any _ _ y (q.den*2) f5 HD2.out (by have:=HL.out;omega)).mono ?_)
     rintro e wc74 ⟨h2,v74,rfl,M0⟩;rw[← HZ.out] at M0;rw[← HBIT.out]
     refine hK _ _ ⟨.tuple #[v74,.bool bit],by kernel_rfl,h2,⟨v74,rfl,M0⟩,nF⟩
    ·intro xs N0 b0 c0
     have I2:=zz b0;have v3:=b0.size;clear b0
     have f6:∃ u,(xs 6)=.tuple #[u,.bool bit]∧WV N0 N0.heap.size u z:=c0 _ (m_ 6 rfl) (by kernel_rfl)
     clear c0
     refine wpOp_step (o:=_) rfl (fun K hK=>?_)
     simp only[FL]
     obtain⟨u,hu,hl⟩:=f6;rw[hu]
     go_simp
     refine hK _ _ ⟨.tuple #[u,.bool bit],by simp only[FL,hu] <;> kernel_rfl,Below.refl _ _,⟨u,rfl,hl⟩,nF⟩
    ·intro xs O0 b0 c0
     have J2:=zz b0;have w3:=b0.size;clear b0
     have f7:∃ u,(xs 7)=.tuple #[u,.bool bit]∧WV O0 O0.heap.size u z:=c0 _ (m_ 7 rfl) (by kernel_rfl)
     clear c0
     refine wpOp_step (o:=_) rfl (fun K hK=>?_)
     simp only[FL]
     obtain⟨u,hu,hl⟩:=f7;rw[hu]
     go_simp
     refine hK _ _ ⟨u,by simp only[FL,hu] <;> kernel_rfl,Below.refl _ _,hl,nF⟩
    ·intro xs i2 b0 c0
     have K2:=zz b0;have y3:=b0.size;clear b0
     clear c0
     refine wpOp_step (o:=_) rfl (fun K hK=>?_)
     simp only[FL]
     go_simp
     refine hK _ _ ⟨.pointer (some ⟨i2.heap.size,0,none⟩),by kernel_rfl,(Below.refl _ _).alloc (Nat.le_refl _) _,⟨_,rfl,CB.new _ _ _⟩,fun _=>⟨_,rfl,Nat.le_refl _,by simp⟩⟩
   ·refine(all_cons ?_ all_nil)
    ·intro xs P0 b0 c0
     have L2:=zz b0;have A3:=b0.size;clear b0
     have f7:∃ u,(xs 7)=.tuple #[u,.bool bit]∧WV P0 P0.heap.size u z:=c0 _ (m_ 7 rfl) (by kernel_rfl)
     clear c0
     obtain⟨u,hu,-⟩:=f7
     refine⟨_,.bool bit,rfl,Or.inl ⟨by rfl,fun w=>?_⟩,rfl⟩
     simp only[FL]
     rw[hu]
     go_simp
   ·intro xs wf79 hbf hf hn hd
    have f0:(xs 0)=.agg #[.bool on49,.slice oA49 ol49 oc49]:=hf _ (m_ 0 rfl)
    have f1:(xs 1)=.pointer (some ⟨w13.heap.size,2,none⟩):=hf _ (m_ 1 rfl)
    have f2:(xs 2)=.slice A' l' c':=hf _ (m_ 2 rfl)
    have f3:RN wf79 wf79.heap.size (xs 3) (dig 2):=hf _ (m_ 3 rfl)
    have f4:RN wf79 wf79.heap.size (xs 4) (dig (q.den*2)):=hf _ (m_ 4 rfl)
    have f5:TV wf79 wf79.heap.size (xs 5) y (q.den*2):=hf _ (m_ 5 rfl)
    have f6:∃ u,(xs 6)=.tuple #[u,.bool bit]∧WV wf79 wf79.heap.size u z:=hf _ (m_ 6 rfl)
    have f7:∃ u,(xs 7)=.tuple #[u,.bool bit]∧WV wf79 wf79.heap.size u z:=hf _ (m_ 7 rfl)
    have f8:WV wf79 wf79.heap.size (xs 8) z:=hf _ (m_ 8 rfl)
    have f10:∃ b,(xs 10)=.pointer (some ⟨b,0,none⟩)∧CB wf79 b 93 #[.bool false,.slice none 0 0]:=hf _ (m_ 9 rfl)
    have f9:(xs 9)=.bool bit:=hf _ (m_ 10 rfl)
    have n10:=hn 10 (by decide)
    clear hf hn hd
    simp only[FL]
    have B80:=zz hbf
    have z80:=B80.out.size
    have j2:=zz (p0.out.trans (B80.out.mono p0.out.size))
    clear hbf
    generalize xs 0=x0,xs 1=x1,xs 2=x2,xs 3=x3,xs 4=x4,xs 5=x5,xs 6=x6,xs 7=x7,xs 8=x8,xs 10=x10,xs 9=x9 at *
    obtain rfl:=f0
    obtain rfl:=f1
    obtain rfl:=f2
    clear f3
    clear f4
    clear f5
    clear f6
    clear f7
    obtain⟨on82,oA82,ol82,oc82,rfl,ha82,Q0⟩:=f8
    have y1:=zz (WV.mk ha82 Q0)
    clear ha82 Q0
    obtain⟨bn83_q,rfl,Ln84_q⟩:=f10
    have hge_bn83_q:=zz (show w58.heap.size≤bn83_q by obtain⟨b',e,h,-⟩:=n10;injection e with e;injection e with e;injection e with e _ _;omega)
    clear n10
    have hgb_bn83_q:=Ln84_q.lt;have hgc_bn83_q:=hge_bn83_q.out
    obtain rfl:=f9
    have z1:=Ln84_q.cell 0 rfl
    have A1:=Ln84_q.cell 1 rfl
    have q85_lt:=Ln84_q.lt
    have B1:=Ln84_q.frozen 0
    have C1:=Ln84_q.frozen 1
    have q86_lt:=Ln84_q.lt
    refine Early.next (i:=11) (by kernel_rfl) rfl (fun K hK=>?_)
    go_simp
    refine hK _ _ (fun _=>trivial) ?_
    clear hK K
    (try simp only[Act.put,List.setIfInBounds_toArray,List.set_cons_zero,List.set_cons_succ])
    clear z1 A1 q85_lt B1 C1 q86_lt
    refine Early.next (i:=12) (by kernel_rfl) rfl (fun K hK=>?_)
    go_simp
    refine hK _ _ (fun _=>trivial) ?_
    clear hK K
    (try simp only[Act.put,List.setIfInBounds_toArray,List.set_cons_zero,List.set_cons_succ])
    refine Early.done (by kernel_rfl) ?_ _
    (try simp only[Exit.then])
    have D1:=CB.step p1 B80.out
    have E1:=CB.step n0 B80.out
    have F1:=CB.step o0 B80.out
    obtain⟨w90,d0⟩:∃ w90:World,w90=((wf79.setCell ⟨bn83_q,0,none⟩ (.bool on82)).setCell ⟨bn83_q,1,none⟩ (.slice oA82 ol82 oc82)):=⟨_,rfl⟩
    rw[← d0]
    have S90:=zz (show Soft wf79 w90 by rw[d0];exact(CB.soft1 (Ln84_q) (by simp[noInt_b,noInt_s]) 0 (.bool on82)).trans (CB.soft1 ((show CB _ (bn83_q) 93 #[.bool on82,.slice none 0 0] from CB.set (Ln84_q) 0 (.bool on82))) (by simp[noInt_b,noInt_s]) 1 (.slice oA82 ol82 oc82)))
    have M2:CB w90 (w.heap.size) 26 #[.bool n,.slice A l c,.bool false,.slice A' l' c']:=by rw[d0];exact CB.far (p:=⟨bn83_q,1,none⟩) (CB.far (p:=⟨bn83_q,0,none⟩) (D1) (show w.heap.size≠bn83_q from by omega) _) (show w.heap.size≠bn83_q from by omega) _
    have N2:CB w90 (w13.heap.size) 95 #[.bool n,.slice A l c,.slice A' l' c']:=by rw[d0];exact CB.far (p:=⟨bn83_q,1,none⟩) (CB.far (p:=⟨bn83_q,0,none⟩) (E1) (show w13.heap.size≠bn83_q from by omega) _) (show w13.heap.size≠bn83_q from by omega) _
    have O2:CB w90 (bn50_n) 93 #[.bool on49,.slice oA49 ol49 oc49]:=by rw[d0];exact CB.far (p:=⟨bn83_q,1,none⟩) (CB.far (p:=⟨bn83_q,0,none⟩) (F1) (show bn50_n≠bn83_q from by omega) _) (show bn50_n≠bn83_q from by omega) _
    have j0:CB w90 (bn83_q) 93 #[.bool on82,.slice oA82 ol82 oc82]:=by rw[d0];exact(show CB _ (bn83_q) 93 #[.bool on82,.slice oA82 ol82 oc82] from CB.set ((show CB _ (bn83_q) 93 #[.bool on82,.slice none 0 0] from CB.set (Ln84_q) 0 (.bool on82))) 1 (.slice oA82 ol82 oc82))
    have k0:=zz (show Below w.heap.size w w90 by rw[d0];exact below_set1 (below_set1 (j2.out) (by omega) _ _) (by omega) _ _)
    have C3:w90.heap.size=wf79.heap.size:=by rw[d0];simp[World.setCell]
    clear d0
    have G1:=j0.cell 0 rfl
    have H1:=j0.cell 1 rfl
    have q92_lt:=j0.lt
    go_wp2_with fail
    have I1:=zz (WV.soft y1.out (S90.out))
    refine(number_any _ _ z 4611686018427387904 I1.out (by decide) (by decide) (by have:=HL.out;omega) (G.step k0.out)).mono ?_
    rintro e w91 ⟨R0,rfl⟩
    have B94:=zz R0
    have z94:=B94.out.size
    have S0:=zz (k0.out.trans (B94.out.mono k0.out.size))
    clear R0
    clear G1 H1 q92_lt
    by_cases hfit:z.natAbs≤4611686018427387904
    ·rw[numN_yes (show z.natAbs≤(4611686018427387904:Int).natAbs from hfit)]
     have HTV:=zz (show t=(z,0) by rw[HTT.out];exact if_pos hfit);clear hfit
     go_wp2
     go_ret2
     exact⟨S0.out,by rw[HTV.out];rfl⟩
    ·rw[numN_no (show ¬ z.natAbs≤(4611686018427387904:Int).natAbs from hfit)]
     have HTV:=zz (show t=(0,6) by rw[HTT.out];exact if_neg hfit);clear hfit
     go_wp2
     go_ret2
     exact⟨S0.out,by rw[HTV.out];rfl⟩
end Go.Proofs.YtioclokmbgmamaaGreatDoor
