/- Layer 04's reference: Lowest, of, drafts (written by gen_qr.py). -/
import Derived.Test.YtioclokmbgmamaaGreatDoorQL
import Derived.Test.YtioclokmbgmamaaGreatDoorRefb
import Derived.Test.YtioclokmbgmamaaGreatDoorPr
namespace Go.Proofs.YtioclokmbgmamaaGreatDoor
open Go Go.RowKit Dig
theorem QV.of2 {w:World} {B:Nat} {n m:Bool} {A A':Option Addr} {l c l' c':Nat} {q:Rat} (h:LV w B (.agg #[.bool n,.slice A l c]) q.num) (k:LV w B (.agg #[.bool m,.slice A' l' c']) (q.den:Int)) :
  QV w B (.agg #[.bool n,.slice A l c,.bool m,.slice A' l' c']) q:=by
 obtain⟨a1,-,a3⟩:=h.is
 obtain⟨b1,-,b3⟩:=k.is
 rw[decide_eq_false (by omega)] at b1
 subst b1
 rw[Int.natAbs_natCast] at b3
 exact⟨n,A,l,c,A',l',c',rfl,a3,b3,a1⟩
theorem low_parts (x:Int) {y:Int} (h:y≠0):(Rat.divInt x y).num=Int.tdiv (x*y.sign) (Int.gcd (x*y.sign) y.natAbs:Int)∧((Rat.divInt x y).den:Int)=Int.tdiv (y.natAbs:Int) (Int.gcd (x*y.sign) y.natAbs:Int)∧(Int.gcd (x*y.sign) y.natAbs:Int)≠0:=by
 have hk:y.natAbs≠0:=by omega
 obtain⟨h1,h2⟩:=rat_reduced (n:=x*y.sign) hk
 have hg:Int.gcd (x*y.sign) y.natAbs=Nat.gcd (x*y.sign).natAbs y.natAbs:=rfl
 have hg0:Nat.gcd (x*y.sign).natAbs y.natAbs≠0:=Nat.gcd_ne_zero_right hk
 rw[divInt_sgn x h,h1,h2,hg]
 refine⟨(Int.tdiv_eq_ediv_of_dvd (gcd_dvd_int _ _)).symm,?_,by omega⟩
 rw[Int.tdiv_eq_ediv_of_nonneg (by omega)];simp
set_option maxRecDepth 100000 in
set_option maxHeartbeats 4000000 in
theorem RLowest_any (w:World) (va vb:Value) (x y:Int) (ha:LV w w.heap.size va x) (hb:LV w w.heap.size vb y) (h0:y≠0) (lx:(dig x.natAbs).length≤80000) (ly:(dig y.natAbs).length≤80000) :
  Calls Tryz.prog 80 #[va,vb] w fun e w'=>Below w.heap.size w w'∧∃ v,e=.returned v∧QV w' w'.heap.size v (Rat.divInt x y):=by
 obtain⟨q,hq⟩:∃ q,q=Rat.divInt x y:=⟨_,rfl⟩;have hp:=low_parts x h0;rw[← hq] at hp ⊢;clear hq
 obtain⟨z,hz⟩:∃ z,z=x*y.sign:=⟨_,rfl⟩;obtain⟨k,hk⟩:∃ k:Int,k=(y.natAbs:Int):=⟨_,rfl⟩
 have hkn:k.natAbs=y.natAbs:=by rw[hk,Int.natAbs_natCast]
 obtain⟨g,hg⟩:∃ g:Int,g=(Int.gcd z k:Int):=⟨_,rfl⟩
 rw[← hz,← hk,← hg] at hp
 have lz:(dig z.natAbs).length≤80000:=by rw[hz,Int.natAbs_mul,Int.natAbs_sign_of_ne_zero h0,Nat.mul_one];exact lx
 have lk:(dig k.natAbs).length≤80000:=by rw[hkn];exact ly
 have hgk:g.natAbs≤k.natAbs:=by rw[hg,Int.natAbs_natCast];exact Nat.le_of_dvd (by omega) (Nat.gcd_dvd_right _ _)
 have lg:(dig g.natAbs).length≤80000:=Nat.le_trans (dig_len_mono hgk) lk
 have HZN:=zz (show y<0→-x=z∧-y=k from fun h=>⟨by rw[hz,Int.sign_eq_neg_one_of_neg h];omega,by omega⟩)
 have HZP:=zz (show ¬ y<0→x=z∧y=k from fun h=>⟨by rw[hz,Int.sign_eq_one_of_pos (by omega)];omega,by omega⟩)
 have HP:=zz hp;have HG:=zz hg;have HL:=zz (And.intro lx (And.intro ly (And.intro lz (And.intro lk lg))));have H0:=zz h0
 clear hp hz hk hkn hg lz lk hgk lg lx ly h0
 obtain⟨n,A,l,c,rfl,ha⟩:=ha.opened;obtain⟨m,B,u,d,rfl,hb⟩:=hb.opened
 have HM:=zz (LV.is hb).1
 have HA:=zz ha;have HB:=zz hb;clear ha hb
 obtain⟨w0,hw0⟩:∃ w0:World,w0=(((w.alloc (.cells #[.bool n,.slice A l c] 24)).alloc (.cells #[.bool m,.slice B u d] 24)).alloc (.cells #[.bool false,.slice none 0 0,.bool false,.slice none 0 0] 26)):=⟨_,rfl⟩
 have B0:=zz (show Below w.heap.size w w0 by rw[hw0];(repeat' (first | exact Below.refl _ _ | refine Below.drew ?_ | refine Below.alloc ?_ (by first | exact Nat.le_refl _ | (simp;done) | (simp;omega)) _)))
 have z0:w.heap.size+3≤w0.heap.size:=by rw[hw0];simp
 have Ln:CB w0 (w.heap.size) 24 #[.bool n,.slice A l c]:=by rw[hw0];have h:=((CB.new w 24 #[.bool n,.slice A l c]).alloc (.cells #[.bool m,.slice B u d] 24)).alloc (.cells #[.bool false,.slice none 0 0,.bool false,.slice none 0 0] 26);simpa using h
 have Ld:CB w0 (w.heap.size+1) 24 #[.bool m,.slice B u d]:=by rw[hw0];have h:=(CB.new (w.alloc (.cells #[.bool n,.slice A l c] 24)) 24 #[.bool m,.slice B u d]).alloc (.cells #[.bool false,.slice none 0 0,.bool false,.slice none 0 0] 26);simpa using h
 have Lr4:CB w0 (w.heap.size+2) 26 #[.bool false,.slice none 0 0,.bool false,.slice none 0 0]:=by rw[hw0];have h:=CB.new ((w.alloc (.cells #[.bool n,.slice A l c] 24)).alloc (.cells #[.bool m,.slice B u d] 24)) 26 #[.bool false,.slice none 0 0,.bool false,.slice none 0 0];simpa using h
 replace HA:=zz (LV.step HA.out B0.out);replace HB:=zz (LV.step HB.out B0.out)
 by_cases hn:y<0
 ·have hm:m=true:=by rw[HM.out,decide_eq_true hn]
  subst hm;have HE:=zz (HZN.out hn);clear hn
  go_enter Tryz.func80,Tryz.ntmps80
  go_upto_region 1 with (fail)
  rw[← hw0];clear hw0
  have r3:=Ln.cell 0 rfl
  have s3:=Ln.cell 1 rfl
  have q1_lt:=Ln.lt
  have t3:=Ld.cell 0 rfl
  have u3:=Ld.cell 1 rfl
  have q2_lt:=Ld.lt
  go_upto_region 2 with (fail)
  clear r3 s3 q1_lt t3 u3 q2_lt
  refine Flow.run [⟨0,12,fun fv fw=>fv=.agg #[.bool n,.slice A l c]⟩,⟨1,13,fun fv fw=>LV fw fw.heap.size fv (-x)⟩,⟨2,14,fun fv fw=>fv=.agg #[.bool true,.slice B u d]⟩,⟨3,15,fun fv fw=>LV fw fw.heap.size fv (-y)⟩] [] [] 2 (by kernel_rfl) (by kernel_rfl) (by kernel_rfl) (fun _ _ _ _ _ h=>h) ?_ ?_ ?_ ?_
  ·refine(a0 (all_cons (fun v w1 w2 h hb=>h.step hb) (a0 (all_cons (fun v w1 w2 h hb=>h.step hb) all_nil))))
  ·refine(all_cons ?_ (all_cons ?_ (all_cons ?_ (all_cons ?_ all_nil))))
   ·intro xs U3 g0 i0
    have v3:=zz g0;have V3:=g0.size;clear g0
    clear i0
    refine wpOp_step (o:=_) rfl (fun K hK=>?_)
    simp only[FL]
    have Z0:=CB.step Ln v3.out
    have N3:=Z0.cell 0 rfl
    have O3:=Z0.cell 1 rfl
    go_simp
    refine hK _ _ ⟨.agg #[.bool n,.slice A l c],by kernel_rfl,Below.refl _ _,rfl,nF⟩
   ·intro xs W3 g0 i0
    have w3:=zz g0;have X3:=g0.size;clear g0
    have f0:(xs 0)=.agg #[.bool n,.slice A l c]:=i0 _ (m_ 0 rfl) (by kernel_rfl)
    clear i0
    refine wpOp_step (o:=_) rfl (fun K hK=>?_)
    simp only[FL]
    go_simp
    have y3:=zz (LV.step HA.out w3.out)
    (with_reducible refine(RMinus_any _ _ x y3.out (by have:=HL.out;omega)).mono ?_)
    rintro e wc8 ⟨G3,v8,rfl,H3⟩
    refine hK _ _ ⟨v8,by simp only[FL,f0] <;> kernel_rfl,G3,H3,nF⟩
   ·intro xs Y3 g0 i0
    have z3:=zz g0;have Z3:=g0.size;clear g0
    clear i0
    refine wpOp_step (o:=_) rfl (fun K hK=>?_)
    simp only[FL]
    have N0:=CB.step Ld z3.out
    have K3:=N0.cell 0 rfl
    have L3:=N0.cell 1 rfl
    go_simp
    refine hK _ _ ⟨.agg #[.bool true,.slice B u d],by kernel_rfl,Below.refl _ _,rfl,nF⟩
   ·intro xs P3 g0 i0
    have i2:=zz g0;have Q3:=g0.size;clear g0
    have f2:(xs 2)=.agg #[.bool true,.slice B u d]:=i0 _ (m_ 2 rfl) (by kernel_rfl)
    clear i0
    refine wpOp_step (o:=_) rfl (fun K hK=>?_)
    simp only[FL]
    go_simp
    have j2:=zz (LV.step HB.out i2.out)
    (with_reducible refine(RMinus_any _ _ y j2.out (by have:=HL.out;omega)).mono ?_)
    rintro e wc14 ⟨A3,v14,rfl,B3⟩
    refine hK _ _ ⟨v14,by simp only[FL,f2] <;> kernel_rfl,A3,B3,nF⟩
  ·exact all_nil
  ·intro xs wf15 hbf hf hn hd
   have f0:(xs 0)=.agg #[.bool n,.slice A l c]:=hf _ (m_ 0 rfl)
   have f1:LV wf15 wf15.heap.size (xs 1) (-x):=hf _ (m_ 1 rfl)
   have f2:(xs 2)=.agg #[.bool true,.slice B u d]:=hf _ (m_ 2 rfl)
   have f3:LV wf15 wf15.heap.size (xs 3) (-y):=hf _ (m_ 3 rfl)
   clear hf hn hd
   simp only[FL]
   have B16:=zz hbf
   have z16:=B16.out.size
   have C3:=zz (B0.out.trans (B16.out.mono B0.out.size))
   clear hbf
   generalize xs 0=x0,xs 1=x1,xs 2=x2,xs 3=x3 at *
   obtain rfl:=f0
   obtain⟨n18,Ad18,l18,c18,rfl,a1⟩:=f1.opened
   have b1:=zz a1
   clear f1 a1
   obtain rfl:=f2
   obtain⟨n19,Ad19,l19,c19,rfl,c1⟩:=f3.opened
   have d1:=zz c1
   clear f3 c1
   have d0:=CB.step Ln B16.out
   have k2:=d0.cell 0 rfl
   have l2:=d0.cell 1 rfl
   have q21_lt:=d0.lt
   have m2:=d0.frozen 0
   have n2:=d0.frozen 1
   have q22_lt:=d0.lt
   refine Early.next (i:=4) (by kernel_rfl) rfl (fun K hK=>?_)
   go_simp
   refine hK _ _ (fun _=>trivial) ?_
   clear hK K
   (try simp only[Act.put,List.setIfInBounds_toArray,List.set_cons_zero,List.set_cons_succ])
   clear k2 l2 q21_lt m2 n2 q22_lt
   have o2:=CB.step Ld B16.out
   have e1:=CB.step Lr4 B16.out
   obtain⟨w25,j0⟩:∃ w25:World,w25=((wf15.setCell ⟨w.heap.size,0,none⟩ (.bool n18)).setCell ⟨w.heap.size,1,none⟩ (.slice Ad18 l18 c18)):=⟨_,rfl⟩
   rw[← j0]
   have S25:=zz (show Soft wf15 w25 by rw[j0];exact(CB.soft1 (d0) (by simp[noInt_b,noInt_s]) 0 (.bool n18)).trans (CB.soft1 ((show CB _ (w.heap.size) 24 #[.bool n18,.slice A l c] from CB.set (d0) 0 (.bool n18))) (by simp[noInt_b,noInt_s]) 1 (.slice Ad18 l18 c18)))
   have e0:CB w25 (w.heap.size+1) 24 #[.bool true,.slice B u d]:=by rw[j0];exact CB.far (p:=⟨w.heap.size,1,none⟩) (CB.far (p:=⟨w.heap.size,0,none⟩) (o2) (show w.heap.size+1≠w.heap.size from by omega) _) (show w.heap.size+1≠w.heap.size from by omega) _
   have g1:CB w25 (w.heap.size+2) 26 #[.bool false,.slice none 0 0,.bool false,.slice none 0 0]:=by rw[j0];exact CB.far (p:=⟨w.heap.size,1,none⟩) (CB.far (p:=⟨w.heap.size,0,none⟩) (e1) (show w.heap.size+2≠w.heap.size from by omega) _) (show w.heap.size+2≠w.heap.size from by omega) _
   have p2:CB w25 (w.heap.size) 24 #[.bool n18,.slice Ad18 l18 c18]:=by rw[j0];exact(show CB _ (w.heap.size) 24 #[.bool n18,.slice Ad18 l18 c18] from CB.set ((show CB _ (w.heap.size) 24 #[.bool n18,.slice A l c] from CB.set (d0) 0 (.bool n18))) 1 (.slice Ad18 l18 c18))
   have q2:=zz (show Below w.heap.size w w25 by rw[j0];exact below_set1 (below_set1 (C3.out) (by omega) _ _) (by omega) _ _)
   have R3:w25.heap.size=wf15.heap.size:=by rw[j0];simp[World.setCell]
   clear j0
   have r2:=e0.cell 0 rfl
   have s2:=e0.cell 1 rfl
   have q26_lt:=e0.lt
   have t2:=e0.frozen 0
   have u2:=e0.frozen 1
   have q27_lt:=e0.lt
   refine Early.next (i:=5) (by kernel_rfl) rfl (fun K hK=>?_)
   go_simp
   refine hK _ _ (fun _=>trivial) ?_
   clear hK K
   (try simp only[Act.put,List.setIfInBounds_toArray,List.set_cons_zero,List.set_cons_succ])
   clear r2 s2 q26_lt t2 u2 q27_lt
   obtain⟨w28,k0⟩:∃ w28:World,w28=((w25.setCell ⟨w.heap.size+1,0,none⟩ (.bool n19)).setCell ⟨w.heap.size+1,1,none⟩ (.slice Ad19 l19 c19)):=⟨_,rfl⟩
   rw[← k0]
   have S28:=zz (show Soft w25 w28 by rw[k0];exact(CB.soft1 (e0) (by simp[noInt_b,noInt_s]) 0 (.bool n19)).trans (CB.soft1 ((show CB _ (w.heap.size+1) 24 #[.bool n19,.slice B u d] from CB.set (e0) 0 (.bool n19))) (by simp[noInt_b,noInt_s]) 1 (.slice Ad19 l19 c19)))
   have r0:CB w28 (w.heap.size) 24 #[.bool n18,.slice Ad18 l18 c18]:=by rw[k0];exact CB.far (p:=⟨w.heap.size+1,1,none⟩) (CB.far (p:=⟨w.heap.size+1,0,none⟩) (p2) (show w.heap.size≠w.heap.size+1 from by omega) _) (show w.heap.size≠w.heap.size+1 from by omega) _
   have h1:CB w28 (w.heap.size+2) 26 #[.bool false,.slice none 0 0,.bool false,.slice none 0 0]:=by rw[k0];exact CB.far (p:=⟨w.heap.size+1,1,none⟩) (CB.far (p:=⟨w.heap.size+1,0,none⟩) (g1) (show w.heap.size+2≠w.heap.size+1 from by omega) _) (show w.heap.size+2≠w.heap.size+1 from by omega) _
   have s0:CB w28 (w.heap.size+1) 24 #[.bool n19,.slice Ad19 l19 c19]:=by rw[k0];exact(show CB _ (w.heap.size+1) 24 #[.bool n19,.slice Ad19 l19 c19] from CB.set ((show CB _ (w.heap.size+1) 24 #[.bool n19,.slice B u d] from CB.set (e0) 0 (.bool n19))) 1 (.slice Ad19 l19 c19))
   have O0:=zz (show Below w.heap.size w w28 by rw[k0];exact below_set1 (below_set1 (q2.out) (by omega) _ _) (by omega) _ _)
   have S3:w28.heap.size=w25.heap.size:=by rw[k0];simp[World.setCell]
   clear k0
   refine Early.done (by kernel_rfl) ?_ _
   (try simp only[Exit.then])
   have i1:=zz (LV.soft b1.out ((S25.out).trans (S28.out)))
   have j1:=zz (LV.soft d1.out ((S25.out).trans (S28.out)))
   have HZ:=zz (show LV w28 w28.heap.size (.agg #[.bool n18,.slice Ad18 l18 c18]) z from HE.out.1▸i1.out);have HK:=zz (show LV w28 w28.heap.size (.agg #[.bool n19,.slice Ad19 l19 c19]) k from HE.out.2▸j1.out)
   have v2:=r0.cell 0 rfl
   have y2:=r0.cell 1 rfl
   have q32_lt:=r0.lt
   have z2:=s0.cell 0 rfl
   have A2:=s0.cell 1 rfl
   have q33_lt:=s0.lt
   go_wp2_with fail
   refine(RCommon_any _ _ _ z k HZ.out HK.out (by have:=HL.out;omega) (by have:=HL.out;omega)).mono ?_
   rintro e w31 ⟨k1,v,rfl,hv⟩
   have B34:=zz k1
   have z34:=B34.out.size
   have l1:=zz (O0.out.trans (B34.out.mono O0.out.size))
   clear k1
   clear v2 y2 q32_lt z2 A2 q33_lt
   rw[← HG.out] at hv
   obtain⟨n36,Ad36,l36,c36,rfl,m1⟩:=hv.opened
   have B2:=zz m1
   clear hv m1
   go_upto_region 4 with (fail)
   obtain⟨w37,v0⟩:∃ w37:World,w37=(w31.alloc (.cells #[.bool n36,.slice Ad36 l36 c36] 24)):=⟨_,rfl⟩;rw[← v0]
   have n1:Below w31.heap.size w31 w37:=by rw[v0];(repeat' (first | exact Below.refl _ _ | refine Below.drew ?_ | refine Below.alloc ?_ (by first | exact Nat.le_refl _ | (simp;done) | (simp;omega)) _))
   have t0:CB w37 (w31.heap.size) 24 #[.bool n36,.slice Ad36 l36 c36]:=by rw[v0];have h:=CB.new w31 24 #[.bool n36,.slice Ad36 l36 c36];simpa using h
   have za37:w31.heap.size+1≤w37.heap.size:=by rw[v0];simp
   have B38:=zz n1
   have z38:=B38.out.size
   have o1:=zz (l1.out.trans (B38.out.mono l1.out.size))
   clear n1 v0
   have P4_6_42:=zz (B34.out.trans (B38.out.mono B34.out.size))
   have F0:=CB.step r0 P4_6_42.out
   have C2:=F0.cell 0 rfl
   have D2:=F0.cell 1 rfl
   have q43_lt:=F0.lt
   have E2:=t0.cell 0 rfl
   have F2:=t0.cell 1 rfl
   have q44_lt:=t0.lt
   go_wp2_with fail
   have G2:=zz (LV.step HZ.out P4_6_42.out)
   have P0:=zz (LV.step B2.out B38.out)
   refine(RParts_any _ _ _ z g G2.out P0.out HP.out.2.2 (by have:=HL.out;omega) (by have:=HL.out;omega)).mono ?_
   rintro e w40 ⟨p1,v,v',rfl,hv,hv'⟩
   have B47:=zz p1
   have z47:=B47.out.size
   have q1:=zz (o1.out.trans (B47.out.mono o1.out.size))
   clear p1
   clear C2 D2 q43_lt E2 F2 q44_lt
   obtain⟨p49,Ap49,lp49,cp49,rfl,-⟩:=hv'.opened;clear hv'
   obtain⟨n50,Ad50,l50,c50,rfl,r1⟩:=hv.opened
   have H2:=zz r1
   clear hv r1
   go_upto_region 5 with (fail)
   obtain⟨w51,o0⟩:∃ w51:World,w51=((w40.alloc (.cells #[.bool n50,.slice Ad50 l50 c50] 24)).alloc (.cells #[.bool p49,.slice Ap49 lp49 cp49] 24)):=⟨_,rfl⟩;rw[← o0]
   have s1:Below w40.heap.size w40 w51:=by rw[o0];(repeat' (first | exact Below.refl _ _ | refine Below.drew ?_ | refine Below.alloc ?_ (by first | exact Nat.le_refl _ | (simp;done) | (simp;omega)) _))
   have I2:CB w51 (w40.heap.size) 24 #[.bool n50,.slice Ad50 l50 c50]:=by rw[o0];have h:=(CB.new w40 24 #[.bool n50,.slice Ad50 l50 c50]).alloc (.cells #[.bool p49,.slice Ap49 lp49 cp49] 24);simpa using h
   have I3:CB w51 (w40.heap.size+1) 24 #[.bool p49,.slice Ap49 lp49 cp49]:=by rw[o0];have h:=CB.new (w40.alloc (.cells #[.bool n50,.slice Ad50 l50 c50] 24)) 24 #[.bool p49,.slice Ap49 lp49 cp49];simpa using h
   have za51:w40.heap.size+2≤w51.heap.size:=by rw[o0];simp
   have B52:=zz s1
   have z52:=B52.out.size
   have t1:=zz (q1.out.trans (B52.out.mono q1.out.size))
   clear s1 o0
   have P4_7_56:=zz (P4_6_42.out.trans (B47.out.mono P4_6_42.out.size))
   have P4_8_57:=zz (P4_7_56.out.trans (B52.out.mono P4_7_56.out.size))
   have G0:=CB.step s0 P4_8_57.out
   have J2:=G0.cell 0 rfl
   have K2:=G0.cell 1 rfl
   have q58_lt:=G0.lt
   have P6_8_60:=zz (B47.out.trans (B52.out.mono B47.out.size))
   have I0:=CB.step t0 P6_8_60.out
   have L2:=I0.cell 0 rfl
   have M2:=I0.cell 1 rfl
   have q61_lt:=I0.lt
   go_wp2_with fail
   have N2:=zz (LV.step HK.out P4_8_57.out)
   have O2:=zz (LV.step P0.out P6_8_60.out)
   refine(RParts_any _ _ _ k g N2.out O2.out HP.out.2.2 (by have:=HL.out;omega) (by have:=HL.out;omega)).mono ?_
   rintro e w54 ⟨u1,v,v',rfl,hv,hv'⟩
   have B64:=zz u1
   have z64:=B64.out.size
   have v1:=zz (t1.out.trans (B64.out.mono t1.out.size))
   clear u1
   clear J2 K2 q58_lt L2 M2 q61_lt
   obtain⟨p66,Ap66,lp66,cp66,rfl,-⟩:=hv'.opened;clear hv'
   obtain⟨n67,Ad67,l67,c67,rfl,y1⟩:=hv.opened
   have P2:=zz y1
   clear hv y1
   go_upto_region 6 with (fail)
   obtain⟨w68,p0⟩:∃ w68:World,w68=((w54.alloc (.cells #[.bool n67,.slice Ad67 l67 c67] 24)).alloc (.cells #[.bool p66,.slice Ap66 lp66 cp66] 24)):=⟨_,rfl⟩;rw[← p0]
   have z1:Below w54.heap.size w54 w68:=by rw[p0];(repeat' (first | exact Below.refl _ _ | refine Below.drew ?_ | refine Below.alloc ?_ (by first | exact Nat.le_refl _ | (simp;done) | (simp;omega)) _))
   have J0:CB w68 (w54.heap.size) 24 #[.bool n67,.slice Ad67 l67 c67]:=by rw[p0];have h:=(CB.new w54 24 #[.bool n67,.slice Ad67 l67 c67]).alloc (.cells #[.bool p66,.slice Ap66 lp66 cp66] 24);simpa using h
   have J3:CB w68 (w54.heap.size+1) 24 #[.bool p66,.slice Ap66 lp66 cp66]:=by rw[p0];have h:=CB.new (w54.alloc (.cells #[.bool n67,.slice Ad67 l67 c67] 24)) 24 #[.bool p66,.slice Ap66 lp66 cp66];simpa using h
   have za68:w54.heap.size+2≤w68.heap.size:=by rw[p0];simp
   have B69:=zz z1
   have z69:=B69.out.size
   have D3:=zz (v1.out.trans (B69.out.mono v1.out.size))
   clear z1 p0
   have P7_9_71:=zz (B52.out.trans (B64.out.mono B52.out.size))
   have P7_10_72:=zz (P7_9_71.out.trans (B69.out.mono P7_9_71.out.size))
   have Q2:=zz (LV.step H2.out P7_10_72.out)
   have R2:=zz (LV.step P2.out B69.out)
   have HQ:=zz (show QV w68 w68.heap.size (.agg #[.bool n50,.slice Ad50 l50 c50,.bool n67,.slice Ad67 l67 c67]) q from QV.of2 (by rw[HP.out.1];exact Q2.out) (by rw[HP.out.2.1];exact R2.out))
   have P8_10_76:=zz (B64.out.trans (B69.out.mono B64.out.size))
   have K0:=CB.step I2 P8_10_76.out
   have S2:=K0.cell 0 rfl
   have T2:=K0.cell 1 rfl
   have q77_lt:=K0.lt
   have U2:=J0.cell 0 rfl
   have V2:=J0.cell 1 rfl
   have q78_lt:=J0.lt
   have P4_9_80:=zz (P4_8_57.out.trans (B64.out.mono P4_8_57.out.size))
   have P4_10_81:=zz (P4_9_80.out.trans (B69.out.mono P4_9_80.out.size))
   have c0:=CB.step h1 P4_10_81.out
   have W2:=c0.cell 0 rfl
   have X2:=c0.cell 1 rfl
   have Y2:=c0.cell 2 rfl
   have Z2:=c0.cell 3 rfl
   have q82_lt:=c0.lt
   have a3:=c0.frozen 0
   have b3:=c0.frozen 1
   have c3:=c0.frozen 2
   have d3:=c0.frozen 3
   have q83_lt:=c0.lt
   go_wp2
   clear S2 T2 q77_lt U2 V2 q78_lt W2 X2 Y2 Z2 q82_lt a3 b3 c3 d3 q83_lt
   obtain⟨w84,q0⟩:∃ w84:World,w84=((((w68.setCell ⟨w.heap.size+2,0,none⟩ (.bool n50)).setCell ⟨w.heap.size+2,1,none⟩ (.slice Ad50 l50 c50)).setCell ⟨w.heap.size+2,2,none⟩ (.bool n67)).setCell ⟨w.heap.size+2,3,none⟩ (.slice Ad67 l67 c67)):=⟨_,rfl⟩
   rw[← q0]
   have S84:=zz (show Soft w68 w84 by rw[q0];exact(((CB.soft1 (c0) (by simp[noInt_b,noInt_s]) 0 (.bool n50)).trans (CB.soft1 ((show CB _ (w.heap.size+2) 26 #[.bool n50,.slice none 0 0,.bool false,.slice none 0 0] from CB.set (c0) 0 (.bool n50))) (by simp[noInt_b,noInt_s]) 1 (.slice Ad50 l50 c50))).trans (CB.soft1 ((show CB _ (w.heap.size+2) 26 #[.bool n50,.slice Ad50 l50 c50,.bool false,.slice none 0 0] from CB.set ((show CB _ (w.heap.size+2) 26 #[.bool n50,.slice none 0 0,.bool false,.slice none 0 0] from CB.set (c0) 0 (.bool n50))) 1 (.slice Ad50 l50 c50))) (by simp[noInt_b,noInt_s]) 2 (.bool n67))).trans (CB.soft1 ((show CB _ (w.heap.size+2) 26 #[.bool n50,.slice Ad50 l50 c50,.bool n67,.slice none 0 0] from CB.set ((show CB _ (w.heap.size+2) 26 #[.bool n50,.slice Ad50 l50 c50,.bool false,.slice none 0 0] from CB.set ((show CB _ (w.heap.size+2) 26 #[.bool n50,.slice none 0 0,.bool false,.slice none 0 0] from CB.set (c0) 0 (.bool n50))) 1 (.slice Ad50 l50 c50))) 2 (.bool n67))) (by simp[noInt_b,noInt_s]) 3 (.slice Ad67 l67 c67)))
   have A1:CB w84 (w.heap.size+2) 26 #[.bool n50,.slice Ad50 l50 c50,.bool n67,.slice Ad67 l67 c67]:=by rw[q0];exact(show CB _ (w.heap.size+2) 26 #[.bool n50,.slice Ad50 l50 c50,.bool n67,.slice Ad67 l67 c67] from CB.set ((show CB _ (w.heap.size+2) 26 #[.bool n50,.slice Ad50 l50 c50,.bool n67,.slice none 0 0] from CB.set ((show CB _ (w.heap.size+2) 26 #[.bool n50,.slice Ad50 l50 c50,.bool false,.slice none 0 0] from CB.set ((show CB _ (w.heap.size+2) 26 #[.bool n50,.slice none 0 0,.bool false,.slice none 0 0] from CB.set (c0) 0 (.bool n50))) 1 (.slice Ad50 l50 c50))) 2 (.bool n67))) 3 (.slice Ad67 l67 c67))
   have e3:=zz (show Below w.heap.size w w84 by rw[q0];exact below_set1 (below_set1 (below_set1 (below_set1 (D3.out) (by omega) _ _) (by omega) _ _) (by omega) _ _) (by omega) _ _)
   have T3:w84.heap.size=w68.heap.size:=by rw[q0];simp[World.setCell]
   clear q0
   have g3:=zz (QV.soft HQ.out (S84.out))
   exact bodyPost_ret (QB.ret1 rfl _ A1 rfl) rfl ⟨e3.out,_,rfl,g3.out⟩
 ·have hm:m=false:=by rw[HM.out,decide_eq_false hn]
  subst hm;have HE:=zz (HZP.out hn);clear hn
  go_enter Tryz.func80,Tryz.ntmps80
  go_upto_region 1 with (fail)
  rw[← hw0];clear hw0
  have HZ:=zz (show LV w0 w0.heap.size (.agg #[.bool n,.slice A l c]) z from HE.out.1▸HA.out);have HK:=zz (show LV w0 w0.heap.size (.agg #[.bool false,.slice B u d]) k from HE.out.2▸HB.out)
  have h3:=Ln.cell 0 rfl
  have i3:=Ln.cell 1 rfl
  have q87_lt:=Ln.lt
  have j3:=Ld.cell 0 rfl
  have k3:=Ld.cell 1 rfl
  have q88_lt:=Ld.lt
  go_wp2_with fail
  refine(RCommon_any _ _ _ z k HZ.out HK.out (by have:=HL.out;omega) (by have:=HL.out;omega)).mono ?_
  rintro e w86 ⟨B1,v,rfl,hv⟩
  have B89:=zz B1
  have z89:=B89.out.size
  have C1:=zz (B0.out.trans (B89.out.mono B0.out.size))
  clear B1
  clear h3 i3 q87_lt j3 k3 q88_lt
  rw[← HG.out] at hv
  obtain⟨n91,Ad91,l91,c91,rfl,D1⟩:=hv.opened
  have l3:=zz D1
  clear hv D1
  go_upto_region 4 with (fail)
  obtain⟨w92,y0⟩:∃ w92:World,w92=(w86.alloc (.cells #[.bool n91,.slice Ad91 l91 c91] 24)):=⟨_,rfl⟩;rw[← y0]
  have E1:Below w86.heap.size w86 w92:=by rw[y0];(repeat' (first | exact Below.refl _ _ | refine Below.drew ?_ | refine Below.alloc ?_ (by first | exact Nat.le_refl _ | (simp;done) | (simp;omega)) _))
  have u0:CB w92 (w86.heap.size) 24 #[.bool n91,.slice Ad91 l91 c91]:=by rw[y0];have h:=CB.new w86 24 #[.bool n91,.slice Ad91 l91 c91];simpa using h
  have za92:w86.heap.size+1≤w92.heap.size:=by rw[y0];simp
  have B93:=zz E1
  have z93:=B93.out.size
  have F1:=zz (C1.out.trans (B93.out.mono C1.out.size))
  clear E1 y0
  have P1_3_97:=zz (B89.out.trans (B93.out.mono B89.out.size))
  have L0:=CB.step Ln P1_3_97.out
  have m3:=L0.cell 0 rfl
  have n3:=L0.cell 1 rfl
  have q98_lt:=L0.lt
  have o3:=u0.cell 0 rfl
  have p3:=u0.cell 1 rfl
  have q99_lt:=u0.lt
  go_wp2_with fail
  have G1:=zz (LV.step HZ.out P1_3_97.out)
  have M0:=zz (LV.step l3.out B93.out)
  refine(RParts_any _ _ _ z g G1.out M0.out HP.out.2.2 (by have:=HL.out;omega) (by have:=HL.out;omega)).mono ?_
  rintro e w95 ⟨H1,v,v',rfl,hv,hv'⟩
  have B102:=zz H1
  have z102:=B102.out.size
  have Q0:=zz (F1.out.trans (B102.out.mono F1.out.size))
  clear H1
  clear m3 n3 q98_lt o3 p3 q99_lt
  obtain⟨p104,Ap104,lp104,cp104,rfl,-⟩:=hv'.opened;clear hv'
  obtain⟨n105,Ad105,l105,c105,rfl,R0⟩:=hv.opened
  have I1:=zz R0
  clear hv R0
  go_upto_region 5 with (fail)
  obtain⟨w106,l0⟩:∃ w106:World,w106=((w95.alloc (.cells #[.bool n105,.slice Ad105 l105 c105] 24)).alloc (.cells #[.bool p104,.slice Ap104 lp104 cp104] 24)):=⟨_,rfl⟩;rw[← l0]
  have S0:Below w95.heap.size w95 w106:=by rw[l0];(repeat' (first | exact Below.refl _ _ | refine Below.drew ?_ | refine Below.alloc ?_ (by first | exact Nat.le_refl _ | (simp;done) | (simp;omega)) _))
  have J1:CB w106 (w95.heap.size) 24 #[.bool n105,.slice Ad105 l105 c105]:=by rw[l0];have h:=(CB.new w95 24 #[.bool n105,.slice Ad105 l105 c105]).alloc (.cells #[.bool p104,.slice Ap104 lp104 cp104] 24);simpa using h
  have E3:CB w106 (w95.heap.size+1) 24 #[.bool p104,.slice Ap104 lp104 cp104]:=by rw[l0];have h:=CB.new (w95.alloc (.cells #[.bool n105,.slice Ad105 l105 c105] 24)) 24 #[.bool p104,.slice Ap104 lp104 cp104];simpa using h
  have za106:w95.heap.size+2≤w106.heap.size:=by rw[l0];simp
  have B107:=zz S0
  have z107:=B107.out.size
  have T0:=zz (Q0.out.trans (B107.out.mono Q0.out.size))
  clear S0 l0
  have P1_4_111:=zz (P1_3_97.out.trans (B102.out.mono P1_3_97.out.size))
  have P1_5_112:=zz (P1_4_111.out.trans (B107.out.mono P1_4_111.out.size))
  have A0:=CB.step Ld P1_5_112.out
  have K1:=A0.cell 0 rfl
  have L1:=A0.cell 1 rfl
  have q113_lt:=A0.lt
  have P3_5_115:=zz (B102.out.trans (B107.out.mono B102.out.size))
  have C0:=CB.step u0 P3_5_115.out
  have M1:=C0.cell 0 rfl
  have N1:=C0.cell 1 rfl
  have q116_lt:=C0.lt
  go_wp2_with fail
  have O1:=zz (LV.step HK.out P1_5_112.out)
  have P1:=zz (LV.step M0.out P3_5_115.out)
  refine(RParts_any _ _ _ k g O1.out P1.out HP.out.2.2 (by have:=HL.out;omega) (by have:=HL.out;omega)).mono ?_
  rintro e w109 ⟨U0,v,v',rfl,hv,hv'⟩
  have B119:=zz U0
  have z119:=B119.out.size
  have V0:=zz (T0.out.trans (B119.out.mono T0.out.size))
  clear U0
  clear K1 L1 q113_lt M1 N1 q116_lt
  obtain⟨p121,Ap121,lp121,cp121,rfl,-⟩:=hv'.opened;clear hv'
  obtain⟨n122,Ad122,l122,c122,rfl,W0⟩:=hv.opened
  have Q1:=zz W0
  clear hv W0
  go_upto_region 6 with (fail)
  obtain⟨w123,m0⟩:∃ w123:World,w123=((w109.alloc (.cells #[.bool n122,.slice Ad122 l122 c122] 24)).alloc (.cells #[.bool p121,.slice Ap121 lp121 cp121] 24)):=⟨_,rfl⟩;rw[← m0]
  have X0:Below w109.heap.size w109 w123:=by rw[m0];(repeat' (first | exact Below.refl _ _ | refine Below.drew ?_ | refine Below.alloc ?_ (by first | exact Nat.le_refl _ | (simp;done) | (simp;omega)) _))
  have D0:CB w123 (w109.heap.size) 24 #[.bool n122,.slice Ad122 l122 c122]:=by rw[m0];have h:=(CB.new w109 24 #[.bool n122,.slice Ad122 l122 c122]).alloc (.cells #[.bool p121,.slice Ap121 lp121 cp121] 24);simpa using h
  have F3:CB w123 (w109.heap.size+1) 24 #[.bool p121,.slice Ap121 lp121 cp121]:=by rw[m0];have h:=CB.new (w109.alloc (.cells #[.bool n122,.slice Ad122 l122 c122] 24)) 24 #[.bool p121,.slice Ap121 lp121 cp121];simpa using h
  have za123:w109.heap.size+2≤w123.heap.size:=by rw[m0];simp
  have B124:=zz X0
  have z124:=B124.out.size
  have q3:=zz (V0.out.trans (B124.out.mono V0.out.size))
  clear X0 m0
  have P4_6_126:=zz (B107.out.trans (B119.out.mono B107.out.size))
  have P4_7_127:=zz (P4_6_126.out.trans (B124.out.mono P4_6_126.out.size))
  have R1:=zz (LV.step I1.out P4_7_127.out)
  have S1:=zz (LV.step Q1.out B124.out)
  have HQ:=zz (show QV w123 w123.heap.size (.agg #[.bool n105,.slice Ad105 l105 c105,.bool n122,.slice Ad122 l122 c122]) q from QV.of2 (by rw[HP.out.1];exact R1.out) (by rw[HP.out.2.1];exact S1.out))
  have P5_7_131:=zz (B119.out.trans (B124.out.mono B119.out.size))
  have E0:=CB.step J1 P5_7_131.out
  have T1:=E0.cell 0 rfl
  have U1:=E0.cell 1 rfl
  have q132_lt:=E0.lt
  have V1:=D0.cell 0 rfl
  have W1:=D0.cell 1 rfl
  have q133_lt:=D0.lt
  have P1_6_135:=zz (P1_5_112.out.trans (B119.out.mono P1_5_112.out.size))
  have P1_7_136:=zz (P1_6_135.out.trans (B124.out.mono P1_6_135.out.size))
  have b0:=CB.step Lr4 P1_7_136.out
  have X1:=b0.cell 0 rfl
  have Y1:=b0.cell 1 rfl
  have Z1:=b0.cell 2 rfl
  have a2:=b0.cell 3 rfl
  have q137_lt:=b0.lt
  have b2:=b0.frozen 0
  have c2:=b0.frozen 1
  have d2:=b0.frozen 2
  have e2:=b0.frozen 3
  have q138_lt:=b0.lt
  go_wp2
  clear T1 U1 q132_lt V1 W1 q133_lt X1 Y1 Z1 a2 q137_lt b2 c2 d2 e2 q138_lt
  obtain⟨w139,n0⟩:∃ w139:World,w139=((((w123.setCell ⟨w.heap.size+2,0,none⟩ (.bool n105)).setCell ⟨w.heap.size+2,1,none⟩ (.slice Ad105 l105 c105)).setCell ⟨w.heap.size+2,2,none⟩ (.bool n122)).setCell ⟨w.heap.size+2,3,none⟩ (.slice Ad122 l122 c122)):=⟨_,rfl⟩
  rw[← n0]
  have S139:=zz (show Soft w123 w139 by rw[n0];exact(((CB.soft1 (b0) (by simp[noInt_b,noInt_s]) 0 (.bool n105)).trans (CB.soft1 ((show CB _ (w.heap.size+2) 26 #[.bool n105,.slice none 0 0,.bool false,.slice none 0 0] from CB.set (b0) 0 (.bool n105))) (by simp[noInt_b,noInt_s]) 1 (.slice Ad105 l105 c105))).trans (CB.soft1 ((show CB _ (w.heap.size+2) 26 #[.bool n105,.slice Ad105 l105 c105,.bool false,.slice none 0 0] from CB.set ((show CB _ (w.heap.size+2) 26 #[.bool n105,.slice none 0 0,.bool false,.slice none 0 0] from CB.set (b0) 0 (.bool n105))) 1 (.slice Ad105 l105 c105))) (by simp[noInt_b,noInt_s]) 2 (.bool n122))).trans (CB.soft1 ((show CB _ (w.heap.size+2) 26 #[.bool n105,.slice Ad105 l105 c105,.bool n122,.slice none 0 0] from CB.set ((show CB _ (w.heap.size+2) 26 #[.bool n105,.slice Ad105 l105 c105,.bool false,.slice none 0 0] from CB.set ((show CB _ (w.heap.size+2) 26 #[.bool n105,.slice none 0 0,.bool false,.slice none 0 0] from CB.set (b0) 0 (.bool n105))) 1 (.slice Ad105 l105 c105))) 2 (.bool n122))) (by simp[noInt_b,noInt_s]) 3 (.slice Ad122 l122 c122)))
  have Y0:CB w139 (w.heap.size+2) 26 #[.bool n105,.slice Ad105 l105 c105,.bool n122,.slice Ad122 l122 c122]:=by rw[n0];exact(show CB _ (w.heap.size+2) 26 #[.bool n105,.slice Ad105 l105 c105,.bool n122,.slice Ad122 l122 c122] from CB.set ((show CB _ (w.heap.size+2) 26 #[.bool n105,.slice Ad105 l105 c105,.bool n122,.slice none 0 0] from CB.set ((show CB _ (w.heap.size+2) 26 #[.bool n105,.slice Ad105 l105 c105,.bool false,.slice none 0 0] from CB.set ((show CB _ (w.heap.size+2) 26 #[.bool n105,.slice none 0 0,.bool false,.slice none 0 0] from CB.set (b0) 0 (.bool n105))) 1 (.slice Ad105 l105 c105))) 2 (.bool n122))) 3 (.slice Ad122 l122 c122))
  have g2:=zz (show Below w.heap.size w w139 by rw[n0];exact below_set1 (below_set1 (below_set1 (below_set1 (q3.out) (by omega) _ _) (by omega) _ _) (by omega) _ _) (by omega) _ _)
  have M3:w139.heap.size=w123.heap.size:=by rw[n0];simp[World.setCell]
  clear n0
  have h2:=zz (QV.soft HQ.out (S139.out))
  exact bodyPost_ret (QB.ret1 rfl _ Y0 rfl) rfl ⟨g2.out,_,rfl,h2.out⟩
theorem QL.divInt {x y:Int} {a b:Nat} (h0:y≠0) (hx:(dig x.natAbs).length≤a) (hy:(dig y.natAbs).length≤b):QL a b (Rat.divInt x y):=by
 rw[divInt_sgn x h0]
 exact QL.mk' (by rw[Int.natAbs_mul,Int.natAbs_sign_of_ne_zero h0,Nat.mul_one];exact hx) hy (by omega)
set_option maxRecDepth 100000 in
set_option maxHeartbeats 4000000 in
theorem Rof_any (w:World) (va vb:Value) (x y:Int) (ha:LV w w.heap.size va x) (hb:LV w w.heap.size vb y) (lx:(dig x.natAbs).length≤47) (ly:(dig y.natAbs).length≤47) :
  Calls Tryz.prog 72 #[va,vb] w fun e w'=>Below w.heap.size w w'∧∃ q,QL 47 47 q∧∃ v,e=.returned v∧QV w' w'.heap.size v q:=by
 obtain⟨n,A,l,c,rfl,ha⟩:=ha.opened;obtain⟨m,B,u,d,rfl,hb⟩:=hb.opened
 have hul:=(LV.is hb).2.1
 have HA:=zz ha;have HB:=zz hb;have HL:=zz (And.intro lx ly);clear ha hb lx ly
 obtain⟨w0,hw0⟩:∃ w0:World,w0=(((w.alloc (.cells #[.bool n,.slice A l c] 24)).alloc (.cells #[.bool m,.slice B u d] 24)).alloc (.cells #[.bool false,.slice none 0 0,.bool false,.slice none 0 0] 26)):=⟨_,rfl⟩
 have B0:=zz (show Below w.heap.size w w0 by rw[hw0];(repeat' (first | exact Below.refl _ _ | refine Below.drew ?_ | refine Below.alloc ?_ (by first | exact Nat.le_refl _ | (simp;done) | (simp;omega)) _)))
 have z0:w.heap.size+3≤w0.heap.size:=by rw[hw0];simp
 have Ln:CB w0 (w.heap.size) 24 #[.bool n,.slice A l c]:=by rw[hw0];have h:=((CB.new w 24 #[.bool n,.slice A l c]).alloc (.cells #[.bool m,.slice B u d] 24)).alloc (.cells #[.bool false,.slice none 0 0,.bool false,.slice none 0 0] 26);simpa using h
 have Ld:CB w0 (w.heap.size+1) 24 #[.bool m,.slice B u d]:=by rw[hw0];have h:=(CB.new (w.alloc (.cells #[.bool n,.slice A l c] 24)) 24 #[.bool m,.slice B u d]).alloc (.cells #[.bool false,.slice none 0 0,.bool false,.slice none 0 0] 26);simpa using h
 have Lr4:CB w0 (w.heap.size+2) 26 #[.bool false,.slice none 0 0,.bool false,.slice none 0 0]:=by rw[hw0];have h:=CB.new ((w.alloc (.cells #[.bool n,.slice A l c] 24)).alloc (.cells #[.bool m,.slice B u d] 24)) 26 #[.bool false,.slice none 0 0,.bool false,.slice none 0 0];simpa using h
 replace HA:=zz (LV.step HA.out B0.out);replace HB:=zz (LV.step HB.out B0.out)
 by_cases hy:y=0
 ·have hu0:((u:Int)==0)=true:=by rw[beq_iff_eq,hul,hy,show(0:Int).natAbs=0 from rfl,dig_zero];rfl
  clear hul hy
  go_enter Tryz.func72,Tryz.ntmps72
  go_upto_region 1 with (fail)
  rw[← hw0];clear hw0
  have e1:=Ld.cell 0 rfl
  have f1:=Ld.cell 1 rfl
  have q2_lt:=Ld.lt
  go_wp2_with fail
  refine(ROf_any _ 1 (by decide) (by decide)).mono ?_
  rintro e w1 ⟨c1,v,rfl,hv⟩
  have B3:=zz c1
  have z3:=B3.out.size
  have o1:=zz (B0.out.trans (B3.out.mono B0.out.size))
  clear c1
  clear e1 f1 q2_lt
  obtain⟨n5,Ad5,l5,c5,rfl,d1⟩:=hv.opened
  have g1:=zz d1
  clear hv d1
  have c0:=CB.step Ld B3.out
  have h1:=c0.cell 0 rfl
  have i1:=c0.cell 1 rfl
  have q7_lt:=c0.lt
  have j1:=c0.frozen 0
  have k1:=c0.frozen 1
  have q8_lt:=c0.lt
  go_upto_region 3 with (fail)
  clear h1 i1 q7_lt j1 k1 q8_lt
  have l1:=CB.step Ln B3.out
  have l0:=CB.step Lr4 B3.out
  obtain⟨w11,d0⟩:∃ w11:World,w11=((w1.setCell ⟨w.heap.size+1,0,none⟩ (.bool n5)).setCell ⟨w.heap.size+1,1,none⟩ (.slice Ad5 l5 c5)):=⟨_,rfl⟩
  rw[← d0]
  have S11:=zz (show Soft w1 w11 by rw[d0];exact(CB.soft1 (c0) (by simp[noInt_b,noInt_s]) 0 (.bool n5)).trans (CB.soft1 ((show CB _ (w.heap.size+1) 24 #[.bool n5,.slice B u d] from CB.set (c0) 0 (.bool n5))) (by simp[noInt_b,noInt_s]) 1 (.slice Ad5 l5 c5)))
  have i0:CB w11 (w.heap.size) 24 #[.bool n,.slice A l c]:=by rw[d0];exact CB.far (p:=⟨w.heap.size+1,1,none⟩) (CB.far (p:=⟨w.heap.size+1,0,none⟩) (l1) (show w.heap.size≠w.heap.size+1 from by omega) _) (show w.heap.size≠w.heap.size+1 from by omega) _
  have m0:CB w11 (w.heap.size+2) 26 #[.bool false,.slice none 0 0,.bool false,.slice none 0 0]:=by rw[d0];exact CB.far (p:=⟨w.heap.size+1,1,none⟩) (CB.far (p:=⟨w.heap.size+1,0,none⟩) (l0) (show w.heap.size+2≠w.heap.size+1 from by omega) _) (show w.heap.size+2≠w.heap.size+1 from by omega) _
  have j0:CB w11 (w.heap.size+1) 24 #[.bool n5,.slice Ad5 l5 c5]:=by rw[d0];exact(show CB _ (w.heap.size+1) 24 #[.bool n5,.slice Ad5 l5 c5] from CB.set ((show CB _ (w.heap.size+1) 24 #[.bool n5,.slice B u d] from CB.set (c0) 0 (.bool n5))) 1 (.slice Ad5 l5 c5))
  have k0:=zz (show Below w.heap.size w w11 by rw[d0];exact below_set1 (below_set1 (o1.out) (by omega) _ _) (by omega) _ _)
  have p1:w11.heap.size=w1.heap.size:=by rw[d0];simp[World.setCell]
  clear d0
  have t0:=i0.cell 0 rfl
  have u0:=i0.cell 1 rfl
  have q13_lt:=i0.lt
  have v0:=j0.cell 0 rfl
  have x0:=j0.cell 1 rfl
  have q14_lt:=j0.lt
  go_wp2_with fail
  have y0:=zz (LV.soft HA.out ((Soft.of B3.out).trans (S11.out)))
  have A0:=zz (LV.soft g1.out (S11.out))
  refine(RLowest_any _ _ _ x 1 y0.out A0.out (by decide) (by have:=HL.out;omega) (Nat.le_trans (fit_i64 (n:=1) (by decide) (by decide)) (by decide))).mono ?_
  rintro e w12 ⟨n0,v,rfl,hv⟩
  have B17:=zz n0
  have z17:=B17.out.size
  have m1:=zz (k0.out.trans (B17.out.mono k0.out.size))
  clear n0
  clear t0 u0 q13_lt v0 x0 q14_lt
  obtain⟨on19,oA19,ol19,oc19,oB19,e0,od19,rfl,ha19,o0,hc19⟩:=hv
  have C0:=zz (show QV w12 w12.heap.size (.agg #[.bool on19,.slice oA19 ol19 oc19,.bool false,.slice oB19 e0 od19]) (Rat.divInt x 1) from⟨_,_,_,_,_,_,_,rfl,ha19,o0,hc19⟩)
  clear ha19 o0 hc19
  have a0:=CB.step m0 B17.out
  have D0:=a0.cell 0 rfl
  have E0:=a0.cell 1 rfl
  have F0:=a0.cell 2 rfl
  have G0:=a0.cell 3 rfl
  have q21_lt:=a0.lt
  have H0:=a0.frozen 0
  have I0:=a0.frozen 1
  have J0:=a0.frozen 2
  have K0:=a0.frozen 3
  have q22_lt:=a0.lt
  go_wp2
  clear D0 E0 F0 G0 q21_lt H0 I0 J0 K0 q22_lt
  obtain⟨w23,g0⟩:∃ w23:World,w23=((((w12.setCell ⟨w.heap.size+2,0,none⟩ (.bool on19)).setCell ⟨w.heap.size+2,1,none⟩ (.slice oA19 ol19 oc19)).setCell ⟨w.heap.size+2,2,none⟩ (.bool false)).setCell ⟨w.heap.size+2,3,none⟩ (.slice oB19 e0 od19)):=⟨_,rfl⟩
  rw[← g0]
  have S23:=zz (show Soft w12 w23 by rw[g0];exact(((CB.soft1 (a0) (by simp[noInt_b,noInt_s]) 0 (.bool on19)).trans (CB.soft1 ((show CB _ (w.heap.size+2) 26 #[.bool on19,.slice none 0 0,.bool false,.slice none 0 0] from CB.set (a0) 0 (.bool on19))) (by simp[noInt_b,noInt_s]) 1 (.slice oA19 ol19 oc19))).trans (CB.soft1 ((show CB _ (w.heap.size+2) 26 #[.bool on19,.slice oA19 ol19 oc19,.bool false,.slice none 0 0] from CB.set ((show CB _ (w.heap.size+2) 26 #[.bool on19,.slice none 0 0,.bool false,.slice none 0 0] from CB.set (a0) 0 (.bool on19))) 1 (.slice oA19 ol19 oc19))) (by simp[noInt_b,noInt_s]) 2 (.bool false))).trans (CB.soft1 ((show CB _ (w.heap.size+2) 26 #[.bool on19,.slice oA19 ol19 oc19,.bool false,.slice none 0 0] from CB.set ((show CB _ (w.heap.size+2) 26 #[.bool on19,.slice oA19 ol19 oc19,.bool false,.slice none 0 0] from CB.set ((show CB _ (w.heap.size+2) 26 #[.bool on19,.slice none 0 0,.bool false,.slice none 0 0] from CB.set (a0) 0 (.bool on19))) 1 (.slice oA19 ol19 oc19))) 2 (.bool false))) (by simp[noInt_b,noInt_s]) 3 (.slice oB19 e0 od19)))
  have p0:CB w23 (w.heap.size+2) 26 #[.bool on19,.slice oA19 ol19 oc19,.bool false,.slice oB19 e0 od19]:=by rw[g0];exact(show CB _ (w.heap.size+2) 26 #[.bool on19,.slice oA19 ol19 oc19,.bool false,.slice oB19 e0 od19] from CB.set ((show CB _ (w.heap.size+2) 26 #[.bool on19,.slice oA19 ol19 oc19,.bool false,.slice none 0 0] from CB.set ((show CB _ (w.heap.size+2) 26 #[.bool on19,.slice oA19 ol19 oc19,.bool false,.slice none 0 0] from CB.set ((show CB _ (w.heap.size+2) 26 #[.bool on19,.slice none 0 0,.bool false,.slice none 0 0] from CB.set (a0) 0 (.bool on19))) 1 (.slice oA19 ol19 oc19))) 2 (.bool false))) 3 (.slice oB19 e0 od19))
  have L0:=zz (show Below w.heap.size w w23 by rw[g0];exact below_set1 (below_set1 (below_set1 (below_set1 (m1.out) (by omega) _ _) (by omega) _ _) (by omega) _ _) (by omega) _ _)
  have q1:w23.heap.size=w12.heap.size:=by rw[g0];simp[World.setCell]
  clear g0
  have M0:=zz (QV.soft C0.out (S23.out))
  exact bodyPost_ret (QB.ret1 rfl _ p0 rfl) rfl ⟨L0.out,_,QL.divInt (by decide) HL.out.1 (Nat.le_trans (fit_i64 (n:=1) (by decide) (by decide)) (by decide)),_,rfl,M0.out⟩
 ·have hu0:((u:Int)==0)=false:=by rw[beq_eq_false_iff_ne,hul];have:=dig_len_pos (n:=y.natAbs) (by omega);omega
  have HY:=zz hy;clear hul hy
  go_enter Tryz.func72,Tryz.ntmps72
  go_upto_region 1 with (fail)
  rw[← hw0];clear hw0
  have N0:=Ln.cell 0 rfl
  have O0:=Ln.cell 1 rfl
  have q26_lt:=Ln.lt
  have P0:=Ld.cell 0 rfl
  have Q0:=Ld.cell 1 rfl
  have q27_lt:=Ld.lt
  go_wp2_with fail
  refine(RLowest_any _ _ _ x y HA.out HB.out HY.out (by have:=HL.out;omega) (by have:=HL.out;omega)).mono ?_
  rintro e w25 ⟨q0,v,rfl,hv⟩
  have B28:=zz q0
  have z28:=B28.out.size
  have n1:=zz (B0.out.trans (B28.out.mono B0.out.size))
  clear q0
  clear N0 O0 q26_lt P0 Q0 q27_lt
  obtain⟨on30,oA30,ol30,oc30,oB30,f0,od30,rfl,ha30,r0,hc30⟩:=hv
  have R0:=zz (show QV w25 w25.heap.size (.agg #[.bool on30,.slice oA30 ol30 oc30,.bool false,.slice oB30 f0 od30]) (Rat.divInt x y) from⟨_,_,_,_,_,_,_,rfl,ha30,r0,hc30⟩)
  clear ha30 r0 hc30
  have b0:=CB.step Lr4 B28.out
  have S0:=b0.cell 0 rfl
  have T0:=b0.cell 1 rfl
  have U0:=b0.cell 2 rfl
  have V0:=b0.cell 3 rfl
  have q32_lt:=b0.lt
  have W0:=b0.frozen 0
  have X0:=b0.frozen 1
  have Y0:=b0.frozen 2
  have Z0:=b0.frozen 3
  have q33_lt:=b0.lt
  go_wp2
  clear S0 T0 U0 V0 q32_lt W0 X0 Y0 Z0 q33_lt
  obtain⟨w34,h0⟩:∃ w34:World,w34=((((w25.setCell ⟨w.heap.size+2,0,none⟩ (.bool on30)).setCell ⟨w.heap.size+2,1,none⟩ (.slice oA30 ol30 oc30)).setCell ⟨w.heap.size+2,2,none⟩ (.bool false)).setCell ⟨w.heap.size+2,3,none⟩ (.slice oB30 f0 od30)):=⟨_,rfl⟩
  rw[← h0]
  have S34:=zz (show Soft w25 w34 by rw[h0];exact(((CB.soft1 (b0) (by simp[noInt_b,noInt_s]) 0 (.bool on30)).trans (CB.soft1 ((show CB _ (w.heap.size+2) 26 #[.bool on30,.slice none 0 0,.bool false,.slice none 0 0] from CB.set (b0) 0 (.bool on30))) (by simp[noInt_b,noInt_s]) 1 (.slice oA30 ol30 oc30))).trans (CB.soft1 ((show CB _ (w.heap.size+2) 26 #[.bool on30,.slice oA30 ol30 oc30,.bool false,.slice none 0 0] from CB.set ((show CB _ (w.heap.size+2) 26 #[.bool on30,.slice none 0 0,.bool false,.slice none 0 0] from CB.set (b0) 0 (.bool on30))) 1 (.slice oA30 ol30 oc30))) (by simp[noInt_b,noInt_s]) 2 (.bool false))).trans (CB.soft1 ((show CB _ (w.heap.size+2) 26 #[.bool on30,.slice oA30 ol30 oc30,.bool false,.slice none 0 0] from CB.set ((show CB _ (w.heap.size+2) 26 #[.bool on30,.slice oA30 ol30 oc30,.bool false,.slice none 0 0] from CB.set ((show CB _ (w.heap.size+2) 26 #[.bool on30,.slice none 0 0,.bool false,.slice none 0 0] from CB.set (b0) 0 (.bool on30))) 1 (.slice oA30 ol30 oc30))) 2 (.bool false))) (by simp[noInt_b,noInt_s]) 3 (.slice oB30 f0 od30)))
  have s0:CB w34 (w.heap.size+2) 26 #[.bool on30,.slice oA30 ol30 oc30,.bool false,.slice oB30 f0 od30]:=by rw[h0];exact(show CB _ (w.heap.size+2) 26 #[.bool on30,.slice oA30 ol30 oc30,.bool false,.slice oB30 f0 od30] from CB.set ((show CB _ (w.heap.size+2) 26 #[.bool on30,.slice oA30 ol30 oc30,.bool false,.slice none 0 0] from CB.set ((show CB _ (w.heap.size+2) 26 #[.bool on30,.slice oA30 ol30 oc30,.bool false,.slice none 0 0] from CB.set ((show CB _ (w.heap.size+2) 26 #[.bool on30,.slice none 0 0,.bool false,.slice none 0 0] from CB.set (b0) 0 (.bool on30))) 1 (.slice oA30 ol30 oc30))) 2 (.bool false))) 3 (.slice oB30 f0 od30))
  have a1:=zz (show Below w.heap.size w w34 by rw[h0];exact below_set1 (below_set1 (below_set1 (below_set1 (n1.out) (by omega) _ _) (by omega) _ _) (by omega) _ _) (by omega) _ _)
  have r1:w34.heap.size=w25.heap.size:=by rw[h0];simp[World.setCell]
  clear h0
  have b1:=zz (QV.soft R0.out (S34.out))
  exact bodyPost_ret (QB.ret1 rfl _ s0 rfl) rfl ⟨a1.out,_,QL.divInt HY.out HL.out.1 HL.out.2,_,rfl,b1.out⟩
set_option maxRecDepth 100000 in
set_option maxHeartbeats 4000000 in
theorem DQuotQ_any (w:World) (n m:Bool) (l k:Int) (s t:Value) (ws wt:List Nat) (hl0:0≤l) (hl1:l≤255) (hs:RW w w.heap.size s ws) (E0:0≤k) (F0:k≤255) (ht:RW w w.heap.size t wt) :
  Calls Tryz.prog 23 #[.agg #[.bool n,.int .u8 l,s,.bool m,.int .u8 k,t]] w fun e w'=>Below w.heap.size w w'∧∃ q,QL 47 47 q∧∃ v,e=.returned v∧QV w' w'.heap.size v q:=by
 obtain⟨X,hX⟩:∃ X,X=sgn n (val (draftDs (l.toNat % 8) 40 ws)):=⟨_,rfl⟩;obtain⟨Y,hY⟩:∃ Y,Y=sgn m (val (draftDs (k.toNat % 8) 40 wt)):=⟨_,rfl⟩
 have lX:(dig X.natAbs).length≤47:=by rw[hX];exact draft_fit (by omega)
 have lY:(dig Y.natAbs).length≤47:=by rw[hY];exact draft_fit (by omega)
 have HL:=zz (And.intro lX lY);have HX:=zz hX;have HY:=zz hY;have HS:=zz hs;have HT:=zz ht;have HB:=zz (And.intro hl0 (And.intro hl1 (And.intro E0 F0)));clear lX lY hX hY hs ht hl0 hl1 E0 F0
 obtain⟨w0,hw0⟩:∃ w0:World,w0=((w.alloc (.cells #[.bool n,.int .u8 l,s,.bool m,.int .u8 k,t] 31)).alloc (.cells #[.bool false,.slice none 0 0,.bool false,.slice none 0 0] 26)):=⟨_,rfl⟩
 have B0:=zz (show Below w.heap.size w w0 by rw[hw0];(repeat' (first | exact Below.refl _ _ | refine Below.drew ?_ | refine Below.alloc ?_ (by first | exact Nat.le_refl _ | (simp;done) | (simp;omega)) _)))
 have z0:w.heap.size+2≤w0.heap.size:=by rw[hw0];simp
 have Ld:CB w0 (w.heap.size) 31 #[.bool n,.int .u8 l,s,.bool m,.int .u8 k,t]:=by rw[hw0];have h:=(CB.new w 31 #[.bool n,.int .u8 l,s,.bool m,.int .u8 k,t]).alloc (.cells #[.bool false,.slice none 0 0,.bool false,.slice none 0 0] 26);simpa using h
 have Lr2:CB w0 (w.heap.size+1) 26 #[.bool false,.slice none 0 0,.bool false,.slice none 0 0]:=by rw[hw0];have h:=CB.new (w.alloc (.cells #[.bool n,.int .u8 l,s,.bool m,.int .u8 k,t] 31)) 26 #[.bool false,.slice none 0 0,.bool false,.slice none 0 0];simpa using h
 replace HS:=zz (RW.step HS.out B0.out);replace HT:=zz (RW.step HT.out B0.out)
 go_enter Tryz.func23,Tryz.ntmps23
 go_upto_region 1 with (fail)
 rw[← hw0];clear hw0
 refine Flow.run [⟨0,3,fun fv fw=>fv=.pointer (some ⟨w.heap.size,0,none⟩)⟩,⟨1,4,fun fv fw=>fv=.agg #[.bool n,.int .u8 l,s]⟩,⟨2,5,fun fv fw=>LV fw fw.heap.size fv X⟩,⟨3,6,fun fv fw=>fv=.pointer (some ⟨w.heap.size,3,none⟩)⟩,⟨4,7,fun fv fw=>fv=.agg #[.bool m,.int .u8 k,t]⟩,⟨5,8,fun fv fw=>LV fw fw.heap.size fv Y⟩,⟨6,9,fun fv fw=>∃ q,QL 47 47 q∧QV fw fw.heap.size fv q⟩] [] [] 1 (by kernel_rfl) (by kernel_rfl) (by kernel_rfl) (fun _ _ _ _ _ h=>h) ?_ ?_ ?_ ?_
 ·refine(a0 (a0 (all_cons (fun v w1 w2 h hb=>h.step hb) (a0 (a0 (all_cons (fun v w1 w2 h hb=>h.step hb) (all_cons (fun v w1 w2 h hb=>let ⟨q,l,h⟩:=h;⟨q,l,h.step hb⟩) all_nil)))))))
 ·refine(all_cons ?_ (all_cons ?_ (all_cons ?_ (all_cons ?_ (all_cons ?_ (all_cons ?_ (all_cons ?_ all_nil)))))))
  ·intro xs g1 c0 d0
   have W0:=zz c0;have h1:=c0.size;clear c0
   clear d0
   refine wpOp_step (o:=_) rfl (fun K hK=>?_)
   simp only[FL]
   go_simp
   refine hK _ _ ⟨.pointer (some ⟨w.heap.size,0,none⟩),by kernel_rfl,Below.refl _ _,rfl,nF⟩
  ·intro xs i1 c0 d0
   have G0:=zz c0;have j1:=c0.size;clear c0
   have f0:(xs 0)=.pointer (some ⟨w.heap.size,0,none⟩):=d0 _ (m_ 0 rfl) (by kernel_rfl)
   clear d0
   refine wpOp_step (o:=_) rfl (fun K hK=>?_)
   simp only[FL]
   have j0:=CB.step Ld G0.out
   have X0:=j0.cell 0 rfl
   have Y0:=j0.cell 1 rfl
   have Z0:=j0.cell 2 rfl
   go_simp
   refine hK _ _ ⟨.agg #[.bool n,.int .u8 l,s],by simp only[FL,f0] <;> kernel_rfl,Below.refl _ _,rfl,nF⟩
  ·intro xs k1 c0 d0
   have H0:=zz c0;have l1:=c0.size;clear c0
   have f1:(xs 1)=.agg #[.bool n,.int .u8 l,s]:=d0 _ (m_ 1 rfl) (by kernel_rfl)
   clear d0
   refine wpOp_step (o:=_) rfl (fun K hK=>?_)
   simp only[FL]
   go_simp
   have I0:=zz (RW.step HS.out H0.out)
   (with_reducible refine((show Calls Tryz.prog _ _ _ _ from HX.out▸Long_any _ n l s ws HB.out.1 HB.out.2.1 I0.out)).mono ?_)
   rintro e wc7 ⟨P0,v7,rfl,Q0⟩
   refine hK _ _ ⟨v7,by simp only[FL,f1] <;> kernel_rfl,P0,Q0,nF⟩
  ·intro xs m1 c0 d0
   have a1:=zz c0;have n1:=c0.size;clear c0
   clear d0
   refine wpOp_step (o:=_) rfl (fun K hK=>?_)
   simp only[FL]
   go_simp
   refine hK _ _ ⟨.pointer (some ⟨w.heap.size,3,none⟩),by kernel_rfl,Below.refl _ _,rfl,nF⟩
  ·intro xs o1 c0 d0
   have J0:=zz c0;have p1:=c0.size;clear c0
   have f3:(xs 3)=.pointer (some ⟨w.heap.size,3,none⟩):=d0 _ (m_ 3 rfl) (by kernel_rfl)
   clear d0
   refine wpOp_step (o:=_) rfl (fun K hK=>?_)
   simp only[FL]
   have h0:=CB.step Ld J0.out
   have R0:=h0.cell 3 rfl
   have S0:=h0.cell 4 rfl
   have T0:=h0.cell 5 rfl
   go_simp
   refine hK _ _ ⟨.agg #[.bool m,.int .u8 k,t],by simp only[FL,f3] <;> kernel_rfl,Below.refl _ _,rfl,nF⟩
  ·intro xs b1 c0 d0
   have m0:=zz c0;have c1:=c0.size;clear c0
   have f4:(xs 4)=.agg #[.bool m,.int .u8 k,t]:=d0 _ (m_ 4 rfl) (by kernel_rfl)
   clear d0
   refine wpOp_step (o:=_) rfl (fun K hK=>?_)
   simp only[FL]
   go_simp
   have n0:=zz (RW.step HT.out m0.out)
   (with_reducible refine((show Calls Tryz.prog _ _ _ _ from HY.out▸Long_any _ m k t wt HB.out.2.2.1 HB.out.2.2.2 n0.out)).mono ?_)
   rintro e wc14 ⟨K0,v14,rfl,L0⟩
   refine hK _ _ ⟨v14,by simp only[FL,f4] <;> kernel_rfl,K0,L0,nF⟩
  ·intro xs i0 c0 d0
   have U0:=zz c0;have d1:=c0.size;clear c0
   have f2:LV i0 i0.heap.size (xs 2) X:=d0 _ (m_ 2 rfl) (by kernel_rfl)
   have f5:LV i0 i0.heap.size (xs 5) Y:=d0 _ (m_ 5 rfl) (by kernel_rfl)
   clear d0
   refine wpOp_step (o:=_) rfl (fun K hK=>?_)
   simp only[FL]
   go_simp
   (with_reducible refine(Rof_any _ _ _ X Y f2 f5 HL.out.1 HL.out.2).mono ?_)
   rintro e wc16 ⟨M0,q16,l16,v16,rfl,N0⟩
   refine hK _ _ ⟨v16,by kernel_rfl,M0,⟨q16,l16,N0⟩,nF⟩
 ·exact all_nil
 ·intro xs wf17 hbf hf hn hd
  have f0:(xs 0)=.pointer (some ⟨w.heap.size,0,none⟩):=hf _ (m_ 0 rfl)
  have f1:(xs 1)=.agg #[.bool n,.int .u8 l,s]:=hf _ (m_ 1 rfl)
  have f2:LV wf17 wf17.heap.size (xs 2) X:=hf _ (m_ 2 rfl)
  have f3:(xs 3)=.pointer (some ⟨w.heap.size,3,none⟩):=hf _ (m_ 3 rfl)
  have f4:(xs 4)=.agg #[.bool m,.int .u8 k,t]:=hf _ (m_ 4 rfl)
  have f5:LV wf17 wf17.heap.size (xs 5) Y:=hf _ (m_ 5 rfl)
  have f6:∃ q,QL 47 47 q∧QV wf17 wf17.heap.size (xs 6) q:=hf _ (m_ 6 rfl)
  clear hf hn hd
  simp only[FL]
  have B18:=zz hbf
  have z18:=B18.out.size
  have O0:=zz (B0.out.trans (B18.out.mono B0.out.size))
  clear hbf
  generalize xs 0=x0,xs 1=x1,xs 2=x2,xs 3=x3,xs 4=x4,xs 5=x5,xs 6=x6 at *
  obtain rfl:=f0
  obtain rfl:=f1
  clear f2
  obtain rfl:=f3
  obtain rfl:=f4
  clear f5
  obtain⟨q,hql,hqv⟩:=f6;have HQL:=zz hql;clear hql
  obtain⟨on20,oA20,ol20,oc20,oB20,e0,od20,rfl,ha20,k0,hc20⟩:=hqv
  have o0:=zz (show QV wf17 wf17.heap.size (.agg #[.bool on20,.slice oA20 ol20 oc20,.bool false,.slice oB20 e0 od20]) q from⟨_,_,_,_,_,_,_,rfl,ha20,k0,hc20⟩)
  clear ha20 k0 hc20
  have b0:=CB.step Lr2 B18.out
  have p0:=b0.cell 0 rfl
  have q0:=b0.cell 1 rfl
  have r0:=b0.cell 2 rfl
  have s0:=b0.cell 3 rfl
  have q22_lt:=b0.lt
  have t0:=b0.frozen 0
  have u0:=b0.frozen 1
  have v0:=b0.frozen 2
  have y0:=b0.frozen 3
  have q23_lt:=b0.lt
  refine Early.next (i:=7) (by kernel_rfl) rfl (fun K hK=>?_)
  go_simp
  refine hK _ _ (fun _=>trivial) ?_
  clear hK K
  (try simp only[Act.put,List.setIfInBounds_toArray,List.set_cons_zero,List.set_cons_succ])
  clear p0 q0 r0 s0 q22_lt t0 u0 v0 y0 q23_lt
  refine Early.done (by kernel_rfl) ?_ _
  (try simp only[Exit.then])
  have A0:=CB.step Ld B18.out
  obtain⟨w25,g0⟩:∃ w25:World,w25=((((wf17.setCell ⟨w.heap.size+1,0,none⟩ (.bool on20)).setCell ⟨w.heap.size+1,1,none⟩ (.slice oA20 ol20 oc20)).setCell ⟨w.heap.size+1,2,none⟩ (.bool false)).setCell ⟨w.heap.size+1,3,none⟩ (.slice oB20 e0 od20)):=⟨_,rfl⟩
  rw[← g0]
  have S25:=zz (show Soft wf17 w25 by rw[g0];exact(((CB.soft1 (b0) (by simp[noInt_b,noInt_s]) 0 (.bool on20)).trans (CB.soft1 ((show CB _ (w.heap.size+1) 26 #[.bool on20,.slice none 0 0,.bool false,.slice none 0 0] from CB.set (b0) 0 (.bool on20))) (by simp[noInt_b,noInt_s]) 1 (.slice oA20 ol20 oc20))).trans (CB.soft1 ((show CB _ (w.heap.size+1) 26 #[.bool on20,.slice oA20 ol20 oc20,.bool false,.slice none 0 0] from CB.set ((show CB _ (w.heap.size+1) 26 #[.bool on20,.slice none 0 0,.bool false,.slice none 0 0] from CB.set (b0) 0 (.bool on20))) 1 (.slice oA20 ol20 oc20))) (by simp[noInt_b,noInt_s]) 2 (.bool false))).trans (CB.soft1 ((show CB _ (w.heap.size+1) 26 #[.bool on20,.slice oA20 ol20 oc20,.bool false,.slice none 0 0] from CB.set ((show CB _ (w.heap.size+1) 26 #[.bool on20,.slice oA20 ol20 oc20,.bool false,.slice none 0 0] from CB.set ((show CB _ (w.heap.size+1) 26 #[.bool on20,.slice none 0 0,.bool false,.slice none 0 0] from CB.set (b0) 0 (.bool on20))) 1 (.slice oA20 ol20 oc20))) 2 (.bool false))) (by simp[noInt_b,noInt_s]) 3 (.slice oB20 e0 od20)))
  have V0:CB w25 (w.heap.size) 31 #[.bool n,.int .u8 l,s,.bool m,.int .u8 k,t]:=by rw[g0];exact CB.far (p:=⟨w.heap.size+1,3,none⟩) (CB.far (p:=⟨w.heap.size+1,2,none⟩) (CB.far (p:=⟨w.heap.size+1,1,none⟩) (CB.far (p:=⟨w.heap.size+1,0,none⟩) (A0) (show w.heap.size≠w.heap.size+1 from by omega) _) (show w.heap.size≠w.heap.size+1 from by omega) _) (show w.heap.size≠w.heap.size+1 from by omega) _) (show w.heap.size≠w.heap.size+1 from by omega) _
  have l0:CB w25 (w.heap.size+1) 26 #[.bool on20,.slice oA20 ol20 oc20,.bool false,.slice oB20 e0 od20]:=by rw[g0];exact(show CB _ (w.heap.size+1) 26 #[.bool on20,.slice oA20 ol20 oc20,.bool false,.slice oB20 e0 od20] from CB.set ((show CB _ (w.heap.size+1) 26 #[.bool on20,.slice oA20 ol20 oc20,.bool false,.slice none 0 0] from CB.set ((show CB _ (w.heap.size+1) 26 #[.bool on20,.slice oA20 ol20 oc20,.bool false,.slice none 0 0] from CB.set ((show CB _ (w.heap.size+1) 26 #[.bool on20,.slice none 0 0,.bool false,.slice none 0 0] from CB.set (b0) 0 (.bool on20))) 1 (.slice oA20 ol20 oc20))) 2 (.bool false))) 3 (.slice oB20 e0 od20))
  have C0:=zz (show Below w.heap.size w w25 by rw[g0];exact below_set1 (below_set1 (below_set1 (below_set1 (O0.out) (by omega) _ _) (by omega) _ _) (by omega) _ _) (by omega) _ _)
  have e1:w25.heap.size=wf17.heap.size:=by rw[g0];simp[World.setCell]
  clear g0
  go_wp2
  have D0:=zz (QV.soft o0.out (S25.out))
  exact bodyPost_ret (QB.ret1 rfl _ l0 rfl) rfl ⟨C0.out,q,HQL.out,_,rfl,D0.out⟩
set_option maxRecDepth 100000 in
set_option maxHeartbeats 4000000 in
theorem DShortQ_any (w:World) (n m:Bool) (l k:Int) (s t:Value) (ws wt:List Nat) (hl0:0≤l) (hl1:l≤255) (hs:RW w w.heap.size s ws) (E0:0≤k) (F0:k≤255) (ht:RW w w.heap.size t wt) :
  Calls Tryz.prog 24 #[.agg #[.bool n,.int .u8 l,s,.bool m,.int .u8 k,t]] w fun e w'=>Below w.heap.size w w'∧∃ q,QL 47 47 q∧∃ v,e=.returned v∧QV w' w'.heap.size v q:=by
 obtain⟨X,hX⟩:∃ X,X=sgn n (val (draftDs 0 3 ws)):=⟨_,rfl⟩;obtain⟨Y,hY⟩:∃ Y,Y=sgn m (val (draftDs 0 3 wt)):=⟨_,rfl⟩
 have lX:(dig X.natAbs).length≤47:=by rw[hX];exact draft_fit (by omega)
 have lY:(dig Y.natAbs).length≤47:=by rw[hY];exact draft_fit (by omega)
 have HL:=zz (And.intro lX lY);have HX:=zz hX;have HY:=zz hY;have HS:=zz hs;have HT:=zz ht;have HB:=zz (And.intro hl0 (And.intro hl1 (And.intro E0 F0)));clear lX lY hX hY hs ht hl0 hl1 E0 F0
 obtain⟨w0,hw0⟩:∃ w0:World,w0=((w.alloc (.cells #[.bool n,.int .u8 l,s,.bool m,.int .u8 k,t] 31)).alloc (.cells #[.bool false,.slice none 0 0,.bool false,.slice none 0 0] 26)):=⟨_,rfl⟩
 have B0:=zz (show Below w.heap.size w w0 by rw[hw0];(repeat' (first | exact Below.refl _ _ | refine Below.drew ?_ | refine Below.alloc ?_ (by first | exact Nat.le_refl _ | (simp;done) | (simp;omega)) _)))
 have z0:w.heap.size+2≤w0.heap.size:=by rw[hw0];simp
 have Ld:CB w0 (w.heap.size) 31 #[.bool n,.int .u8 l,s,.bool m,.int .u8 k,t]:=by rw[hw0];have h:=(CB.new w 31 #[.bool n,.int .u8 l,s,.bool m,.int .u8 k,t]).alloc (.cells #[.bool false,.slice none 0 0,.bool false,.slice none 0 0] 26);simpa using h
 have Lr2:CB w0 (w.heap.size+1) 26 #[.bool false,.slice none 0 0,.bool false,.slice none 0 0]:=by rw[hw0];have h:=CB.new (w.alloc (.cells #[.bool n,.int .u8 l,s,.bool m,.int .u8 k,t] 31)) 26 #[.bool false,.slice none 0 0,.bool false,.slice none 0 0];simpa using h
 replace HS:=zz (RW.step HS.out B0.out);replace HT:=zz (RW.step HT.out B0.out)
 go_enter Tryz.func24,Tryz.ntmps24
 go_upto_region 1 with (fail)
 rw[← hw0];clear hw0
 refine Flow.run [⟨0,3,fun fv fw=>fv=.pointer (some ⟨w.heap.size,0,none⟩)⟩,⟨1,4,fun fv fw=>fv=.agg #[.bool n,.int .u8 l,s]⟩,⟨2,5,fun fv fw=>LV fw fw.heap.size fv X⟩,⟨3,6,fun fv fw=>fv=.pointer (some ⟨w.heap.size,3,none⟩)⟩,⟨4,7,fun fv fw=>fv=.agg #[.bool m,.int .u8 k,t]⟩,⟨5,8,fun fv fw=>LV fw fw.heap.size fv Y⟩,⟨6,9,fun fv fw=>∃ q,QL 47 47 q∧QV fw fw.heap.size fv q⟩] [] [] 1 (by kernel_rfl) (by kernel_rfl) (by kernel_rfl) (fun _ _ _ _ _ h=>h) ?_ ?_ ?_ ?_
 ·refine(a0 (a0 (all_cons (fun v w1 w2 h hb=>h.step hb) (a0 (a0 (all_cons (fun v w1 w2 h hb=>h.step hb) (all_cons (fun v w1 w2 h hb=>let ⟨q,l,h⟩:=h;⟨q,l,h.step hb⟩) all_nil)))))))
 ·refine(all_cons ?_ (all_cons ?_ (all_cons ?_ (all_cons ?_ (all_cons ?_ (all_cons ?_ (all_cons ?_ all_nil)))))))
  ·intro xs g1 c0 d0
   have W0:=zz c0;have h1:=c0.size;clear c0
   clear d0
   refine wpOp_step (o:=_) rfl (fun K hK=>?_)
   simp only[FL]
   go_simp
   refine hK _ _ ⟨.pointer (some ⟨w.heap.size,0,none⟩),by kernel_rfl,Below.refl _ _,rfl,nF⟩
  ·intro xs i1 c0 d0
   have G0:=zz c0;have j1:=c0.size;clear c0
   have f0:(xs 0)=.pointer (some ⟨w.heap.size,0,none⟩):=d0 _ (m_ 0 rfl) (by kernel_rfl)
   clear d0
   refine wpOp_step (o:=_) rfl (fun K hK=>?_)
   simp only[FL]
   have j0:=CB.step Ld G0.out
   have X0:=j0.cell 0 rfl
   have Y0:=j0.cell 1 rfl
   have Z0:=j0.cell 2 rfl
   go_simp
   refine hK _ _ ⟨.agg #[.bool n,.int .u8 l,s],by simp only[FL,f0] <;> kernel_rfl,Below.refl _ _,rfl,nF⟩
  ·intro xs k1 c0 d0
   have H0:=zz c0;have l1:=c0.size;clear c0
   have f1:(xs 1)=.agg #[.bool n,.int .u8 l,s]:=d0 _ (m_ 1 rfl) (by kernel_rfl)
   clear d0
   refine wpOp_step (o:=_) rfl (fun K hK=>?_)
   simp only[FL]
   go_simp
   have I0:=zz (RW.step HS.out H0.out)
   (with_reducible refine((show Calls Tryz.prog _ _ _ _ from HX.out▸Short_any _ n l s ws HB.out.1 HB.out.2.1 I0.out)).mono ?_)
   rintro e wc7 ⟨P0,v7,rfl,Q0⟩
   refine hK _ _ ⟨v7,by simp only[FL,f1] <;> kernel_rfl,P0,Q0,nF⟩
  ·intro xs m1 c0 d0
   have a1:=zz c0;have n1:=c0.size;clear c0
   clear d0
   refine wpOp_step (o:=_) rfl (fun K hK=>?_)
   simp only[FL]
   go_simp
   refine hK _ _ ⟨.pointer (some ⟨w.heap.size,3,none⟩),by kernel_rfl,Below.refl _ _,rfl,nF⟩
  ·intro xs o1 c0 d0
   have J0:=zz c0;have p1:=c0.size;clear c0
   have f3:(xs 3)=.pointer (some ⟨w.heap.size,3,none⟩):=d0 _ (m_ 3 rfl) (by kernel_rfl)
   clear d0
   refine wpOp_step (o:=_) rfl (fun K hK=>?_)
   simp only[FL]
   have h0:=CB.step Ld J0.out
   have R0:=h0.cell 3 rfl
   have S0:=h0.cell 4 rfl
   have T0:=h0.cell 5 rfl
   go_simp
   refine hK _ _ ⟨.agg #[.bool m,.int .u8 k,t],by simp only[FL,f3] <;> kernel_rfl,Below.refl _ _,rfl,nF⟩
  ·intro xs b1 c0 d0
   have m0:=zz c0;have c1:=c0.size;clear c0
   have f4:(xs 4)=.agg #[.bool m,.int .u8 k,t]:=d0 _ (m_ 4 rfl) (by kernel_rfl)
   clear d0
   refine wpOp_step (o:=_) rfl (fun K hK=>?_)
   simp only[FL]
   go_simp
   have n0:=zz (RW.step HT.out m0.out)
   (with_reducible refine((show Calls Tryz.prog _ _ _ _ from HY.out▸Short_any _ m k t wt HB.out.2.2.1 HB.out.2.2.2 n0.out)).mono ?_)
   rintro e wc14 ⟨K0,v14,rfl,L0⟩
   refine hK _ _ ⟨v14,by simp only[FL,f4] <;> kernel_rfl,K0,L0,nF⟩
  ·intro xs i0 c0 d0
   have U0:=zz c0;have d1:=c0.size;clear c0
   have f2:LV i0 i0.heap.size (xs 2) X:=d0 _ (m_ 2 rfl) (by kernel_rfl)
   have f5:LV i0 i0.heap.size (xs 5) Y:=d0 _ (m_ 5 rfl) (by kernel_rfl)
   clear d0
   refine wpOp_step (o:=_) rfl (fun K hK=>?_)
   simp only[FL]
   go_simp
   (with_reducible refine(Rof_any _ _ _ X Y f2 f5 HL.out.1 HL.out.2).mono ?_)
   rintro e wc16 ⟨M0,q16,l16,v16,rfl,N0⟩
   refine hK _ _ ⟨v16,by kernel_rfl,M0,⟨q16,l16,N0⟩,nF⟩
 ·exact all_nil
 ·intro xs wf17 hbf hf hn hd
  have f0:(xs 0)=.pointer (some ⟨w.heap.size,0,none⟩):=hf _ (m_ 0 rfl)
  have f1:(xs 1)=.agg #[.bool n,.int .u8 l,s]:=hf _ (m_ 1 rfl)
  have f2:LV wf17 wf17.heap.size (xs 2) X:=hf _ (m_ 2 rfl)
  have f3:(xs 3)=.pointer (some ⟨w.heap.size,3,none⟩):=hf _ (m_ 3 rfl)
  have f4:(xs 4)=.agg #[.bool m,.int .u8 k,t]:=hf _ (m_ 4 rfl)
  have f5:LV wf17 wf17.heap.size (xs 5) Y:=hf _ (m_ 5 rfl)
  have f6:∃ q,QL 47 47 q∧QV wf17 wf17.heap.size (xs 6) q:=hf _ (m_ 6 rfl)
  clear hf hn hd
  simp only[FL]
  have B18:=zz hbf
  have z18:=B18.out.size
  have O0:=zz (B0.out.trans (B18.out.mono B0.out.size))
  clear hbf
  generalize xs 0=x0,xs 1=x1,xs 2=x2,xs 3=x3,xs 4=x4,xs 5=x5,xs 6=x6 at *
  obtain rfl:=f0
  obtain rfl:=f1
  clear f2
  obtain rfl:=f3
  obtain rfl:=f4
  clear f5
  obtain⟨q,hql,hqv⟩:=f6;have HQL:=zz hql;clear hql
  obtain⟨on20,oA20,ol20,oc20,oB20,e0,od20,rfl,ha20,k0,hc20⟩:=hqv
  have o0:=zz (show QV wf17 wf17.heap.size (.agg #[.bool on20,.slice oA20 ol20 oc20,.bool false,.slice oB20 e0 od20]) q from⟨_,_,_,_,_,_,_,rfl,ha20,k0,hc20⟩)
  clear ha20 k0 hc20
  have b0:=CB.step Lr2 B18.out
  have p0:=b0.cell 0 rfl
  have q0:=b0.cell 1 rfl
  have r0:=b0.cell 2 rfl
  have s0:=b0.cell 3 rfl
  have q22_lt:=b0.lt
  have t0:=b0.frozen 0
  have u0:=b0.frozen 1
  have v0:=b0.frozen 2
  have y0:=b0.frozen 3
  have q23_lt:=b0.lt
  refine Early.next (i:=7) (by kernel_rfl) rfl (fun K hK=>?_)
  go_simp
  refine hK _ _ (fun _=>trivial) ?_
  clear hK K
  (try simp only[Act.put,List.setIfInBounds_toArray,List.set_cons_zero,List.set_cons_succ])
  clear p0 q0 r0 s0 q22_lt t0 u0 v0 y0 q23_lt
  refine Early.done (by kernel_rfl) ?_ _
  (try simp only[Exit.then])
  have A0:=CB.step Ld B18.out
  obtain⟨w25,g0⟩:∃ w25:World,w25=((((wf17.setCell ⟨w.heap.size+1,0,none⟩ (.bool on20)).setCell ⟨w.heap.size+1,1,none⟩ (.slice oA20 ol20 oc20)).setCell ⟨w.heap.size+1,2,none⟩ (.bool false)).setCell ⟨w.heap.size+1,3,none⟩ (.slice oB20 e0 od20)):=⟨_,rfl⟩
  rw[← g0]
  have S25:=zz (show Soft wf17 w25 by rw[g0];exact(((CB.soft1 (b0) (by simp[noInt_b,noInt_s]) 0 (.bool on20)).trans (CB.soft1 ((show CB _ (w.heap.size+1) 26 #[.bool on20,.slice none 0 0,.bool false,.slice none 0 0] from CB.set (b0) 0 (.bool on20))) (by simp[noInt_b,noInt_s]) 1 (.slice oA20 ol20 oc20))).trans (CB.soft1 ((show CB _ (w.heap.size+1) 26 #[.bool on20,.slice oA20 ol20 oc20,.bool false,.slice none 0 0] from CB.set ((show CB _ (w.heap.size+1) 26 #[.bool on20,.slice none 0 0,.bool false,.slice none 0 0] from CB.set (b0) 0 (.bool on20))) 1 (.slice oA20 ol20 oc20))) (by simp[noInt_b,noInt_s]) 2 (.bool false))).trans (CB.soft1 ((show CB _ (w.heap.size+1) 26 #[.bool on20,.slice oA20 ol20 oc20,.bool false,.slice none 0 0] from CB.set ((show CB _ (w.heap.size+1) 26 #[.bool on20,.slice oA20 ol20 oc20,.bool false,.slice none 0 0] from CB.set ((show CB _ (w.heap.size+1) 26 #[.bool on20,.slice none 0 0,.bool false,.slice none 0 0] from CB.set (b0) 0 (.bool on20))) 1 (.slice oA20 ol20 oc20))) 2 (.bool false))) (by simp[noInt_b,noInt_s]) 3 (.slice oB20 e0 od20)))
  have V0:CB w25 (w.heap.size) 31 #[.bool n,.int .u8 l,s,.bool m,.int .u8 k,t]:=by rw[g0];exact CB.far (p:=⟨w.heap.size+1,3,none⟩) (CB.far (p:=⟨w.heap.size+1,2,none⟩) (CB.far (p:=⟨w.heap.size+1,1,none⟩) (CB.far (p:=⟨w.heap.size+1,0,none⟩) (A0) (show w.heap.size≠w.heap.size+1 from by omega) _) (show w.heap.size≠w.heap.size+1 from by omega) _) (show w.heap.size≠w.heap.size+1 from by omega) _) (show w.heap.size≠w.heap.size+1 from by omega) _
  have l0:CB w25 (w.heap.size+1) 26 #[.bool on20,.slice oA20 ol20 oc20,.bool false,.slice oB20 e0 od20]:=by rw[g0];exact(show CB _ (w.heap.size+1) 26 #[.bool on20,.slice oA20 ol20 oc20,.bool false,.slice oB20 e0 od20] from CB.set ((show CB _ (w.heap.size+1) 26 #[.bool on20,.slice oA20 ol20 oc20,.bool false,.slice none 0 0] from CB.set ((show CB _ (w.heap.size+1) 26 #[.bool on20,.slice oA20 ol20 oc20,.bool false,.slice none 0 0] from CB.set ((show CB _ (w.heap.size+1) 26 #[.bool on20,.slice none 0 0,.bool false,.slice none 0 0] from CB.set (b0) 0 (.bool on20))) 1 (.slice oA20 ol20 oc20))) 2 (.bool false))) 3 (.slice oB20 e0 od20))
  have C0:=zz (show Below w.heap.size w w25 by rw[g0];exact below_set1 (below_set1 (below_set1 (below_set1 (O0.out) (by omega) _ _) (by omega) _ _) (by omega) _ _) (by omega) _ _)
  have e1:w25.heap.size=wf17.heap.size:=by rw[g0];simp[World.setCell]
  clear g0
  go_wp2
  have D0:=zz (QV.soft o0.out (S25.out))
  exact bodyPost_ret (QB.ret1 rfl _ l0 rfl) rfl ⟨C0.out,q,HQL.out,_,rfl,D0.out⟩
end Go.Proofs.YtioclokmbgmamaaGreatDoor
