/- Texts put together: Layer 04: number (written by gen_qg.py). Layer 04: Span, Near (written by gen_qm.py). Plain facts of rounding fractions. Layer 04's reference: Prod, Sum, Span, Near (written by gen_qx.py). -/
import Derived.Test.YtkhljkiehohckaaGreatDoorQF
import Derived.Test.YtkhljkiehohckaaGreatDoorQL
import Derived.Test.YtkhljkiehohckaaGreatDoorQT
import Derived.Test.YtkhljkiehohckaaGreatDoorRefc
namespace Go.Proofs.YtkhljkiehohckaaGreatDoor
open Go Go.RowKit Dig
end Go.Proofs.YtkhljkiehohckaaGreatDoor
namespace Go.Proofs.YtkhljkiehohckaaGreatDoor
open Go Go.RowKit Dig
end Go.Proofs.YtkhljkiehohckaaGreatDoor
namespace Go.Proofs.YtkhljkiehohckaaGreatDoor
open Go Go.RowKit Dig
end Go.Proofs.YtkhljkiehohckaaGreatDoor
namespace Go.Proofs.YtkhljkiehohckaaGreatDoor
open Go Go.RowKit Dig
theorem sum_divInt (q r:Rat):Rat.divInt (q.num*(r.den:Int)+r.num*(q.den:Int)) ((q.den:Int)*(r.den:Int))=q+r:=by
 have h:=Rat.divInt_add_divInt q.num r.num (d₁:=q.den) (d₂:=r.den) (Int.natCast_ne_zero.2 q.den_nz) (Int.natCast_ne_zero.2 r.den_nz);rw[Rat.num_divInt_den,Rat.num_divInt_den] at h;exact h.symm
theorem prod_divInt (q r:Rat):Rat.divInt (q.num*r.num) ((q.den:Int)*(r.den:Int))=q*r:=by
 rw[← Rat.divInt_mul_divInt,Rat.num_divInt_den,Rat.num_divInt_den]
theorem len_mul {a b:Int} {j k:Nat} (h:(dig a.natAbs).length≤j) (h':(dig b.natAbs).length≤k):(dig (a*b).natAbs).length≤j+k:=by
 rw[Int.natAbs_mul];exact Nat.le_trans (dig_len_mul _ _) (Nat.add_le_add h h')
set_option maxRecDepth 100000 in
set_option maxHeartbeats 4000000 in
theorem RProdQ_any (w:World) (va vb:Value) (q r:Rat) (ha:QV w w.heap.size va q) (hb:QV w w.heap.size vb r) (lq:QL 20000 20000 q) (lr:QL 20000 20000 r) :
  Calls Tryz.prog 62 #[va,vb] w fun e w'=>Below w.heap.size w w'∧∃ v,e=.returned v∧QV w' w'.heap.size v (q*r):=by
 obtain⟨n,A,l,c,m,A',l',c',rfl⟩:=QO.cells (show QO w w.heap.size va (some q) from ha);obtain⟨n2,B,k,d,m2,B',k',d',rfl⟩:=QO.cells (show QO w w.heap.size vb (some r) from hb);obtain⟨p,hp⟩:∃ p,p=(q*r):=⟨_,rfl⟩;rw[← hp];have HE:=zz hp;clear hp;have HD:=zz (show(q.den:Int)*(r.den:Int)≠0 from Int.mul_ne_zero (Int.natCast_ne_zero.2 q.den_nz) (Int.natCast_ne_zero.2 r.den_nz));have hd1:(dig (q.den:Int).natAbs).length≤20000:=lq.2;have hd2:(dig (r.den:Int).natAbs).length≤20000:=lr.2;have HL:=zz (And.intro lq.1 (And.intro lq.2 (And.intro lr.1 lr.2)));have R1:=zz (len_mul hd1 hd2);have Q1:=zz (len_mul lq.1 lr.1);clear lq lr hd1 hd2;have H1:=zz (QV.fst ha);have H2:=zz (QV.snd ha);have H3:=zz (QV.fst hb);have H4:=zz (QV.snd hb);clear ha hb;obtain⟨w0,hw0⟩:∃ w0:World,w0=(((w.alloc (.cells #[.bool n,.slice A l c,.bool m,.slice A' l' c'] 43)).alloc (.cells #[.bool n2,.slice B k d,.bool m2,.slice B' k' d'] 43)).alloc (.cells #[.bool false,.slice none 0 0,.bool false,.slice none 0 0] 43)):=⟨_,rfl⟩;have B0:=zz (n3_b hw0);have z0:=n3_z hw0;have La:=n3_0 hw0;have Lb:=n3_1 hw0;have Lr4:=n3_2 hw0;replace H1:=zz (LV.step H1.out B0.out);replace H2:=zz (LV.step H2.out B0.out);replace H3:=zz (LV.step H3.out B0.out);replace H4:=zz (LV.step H4.out B0.out);go_enter Tryz.func62,Tryz.ntmps62
 go_upto_region 1 with (fail)
 rw[← hw0];clear hw0;have HV:=zz (show Rat.divInt (q.num*r.num) ((q.den:Int)*(r.den:Int))=p from(prod_divInt q r).trans HE.out.symm);refine Flow.run [⟨0,5,fun fv fw=>fv=.pointer (some ⟨w.heap.size,0,none⟩)⟩,⟨1,6,fun fv fw=>fv=.agg #[.bool n,.slice A l c]⟩,⟨2,7,fun fv fw=>fv=.pointer (some ⟨w.heap.size+1,0,none⟩)⟩,⟨3,8,fun fv fw=>fv=.agg #[.bool n2,.slice B k d]⟩,⟨4,9,fun fv fw=>LV fw fw.heap.size fv (q.num*r.num)⟩,⟨5,10,fun fv fw=>fv=.pointer (some ⟨w.heap.size,2,none⟩)⟩,⟨6,11,fun fv fw=>fv=.agg #[.bool m,.slice A' l' c']⟩,⟨7,12,fun fv fw=>fv=.pointer (some ⟨w.heap.size+1,2,none⟩)⟩,⟨8,13,fun fv fw=>fv=.agg #[.bool m2,.slice B' k' d']⟩,⟨9,14,fun fv fw=>LV fw fw.heap.size fv ((q.den:Int)*(r.den:Int))⟩,⟨10,15,fun fv fw=>QV fw fw.heap.size fv p⟩] [] [] 1 (by kernel_rfl) (by kernel_rfl) (by kernel_rfl) (fun _ _ _ _ _ h=>h) ?_ ?_ ?_ ?_
 ·refine(all_cons (fun v w1 w2 h hb=>h) (all_cons (fun v w1 w2 h hb=>h) (all_cons (fun v w1 w2 h hb=>h) (all_cons (fun v w1 w2 h hb=>h) (all_cons (fun v w1 w2 h hb=>h.step hb) (all_cons (fun v w1 w2 h hb=>h) (all_cons (fun v w1 w2 h hb=>h) (all_cons (fun v w1 w2 h hb=>h) (all_cons (fun v w1 w2 h hb=>h) (all_cons (fun v w1 w2 h hb=>h.step hb) (all_cons (fun v w1 w2 h hb=>h.step hb) all_nil)))))))))))
 ·refine(all_cons ?_ (all_cons ?_ (all_cons ?_ (all_cons ?_ (all_cons ?_ (all_cons ?_ (all_cons ?_ (all_cons ?_ (all_cons ?_ (all_cons ?_ (all_cons ?_ all_nil)))))))))))
  ·intro xs wk1 a0 b0;clear a0;clear b0;refine wpOp_step (o:=_) rfl (fun K hK=>?_);simp only[FL]
   go_simp;refine hK _ _ ⟨.pointer (some ⟨w.heap.size,0,none⟩),by kernel_rfl,Below.refl _ _,rfl,nF⟩
  ·intro xs wk2 a0 b0;have M0:=zz a0;have A1:=a0.size;clear a0;have f0:(xs 0)=.pointer (some ⟨w.heap.size,0,none⟩):=b0 _ (m_ 0 rfl) (by kernel_rfl);clear b0;refine wpOp_step (o:=_) rfl (fun K hK=>?_);simp only[FL]
   have m0:=CB.step La M0.out;have g1:=m0.cell 0 rfl;have h1:=m0.cell 1 rfl;go_simp;refine hK _ _ ⟨.agg #[.bool n,.slice A l c],by simp only[FL,f0] <;> kernel_rfl,Below.refl _ _,rfl,nF⟩
  ·intro xs wk5 a0 b0;clear a0;clear b0;refine wpOp_step (o:=_) rfl (fun K hK=>?_);simp only[FL]
   go_simp;refine hK _ _ ⟨.pointer (some ⟨w.heap.size+1,0,none⟩),by kernel_rfl,Below.refl _ _,rfl,nF⟩
  ·intro xs wk6 a0 b0;have N0:=zz a0;have C1:=a0.size;clear a0;have f2:(xs 2)=.pointer (some ⟨w.heap.size+1,0,none⟩):=b0 _ (m_ 2 rfl) (by kernel_rfl);clear b0;refine wpOp_step (o:=_) rfl (fun K hK=>?_);simp only[FL]
   have n0:=CB.step Lb N0.out;have j1:=n0.cell 0 rfl;have k1:=n0.cell 1 rfl;go_simp;refine hK _ _ ⟨.agg #[.bool n2,.slice B k d],by simp only[FL,f2] <;> kernel_rfl,Below.refl _ _,rfl,nF⟩
  ·intro xs D1 a0 b0;have o0:=zz a0;have E1:=a0.size;clear a0;have f1:(xs 1)=.agg #[.bool n,.slice A l c]:=b0 _ (m_ 1 rfl) (by kernel_rfl);have f3:(xs 3)=.agg #[.bool n2,.slice B k d]:=b0 _ (m_ 3 rfl) (by kernel_rfl);clear b0;refine wpOp_step (o:=_) rfl (fun K hK=>?_);simp only[FL]
   go_simp;have p0:=zz (LV.step H1.out o0.out);have q0:=zz (LV.step H3.out o0.out);(with_reducible refine(RProd_any _ _ _ q.num r.num p0.out q0.out (by have:=HL.out;omega) (by have:=HL.out;omega)).mono ?_)
   rintro e wc12 ⟨O0,v12,rfl,P0⟩;refine hK _ _ ⟨v12,by simp only[FL,f1,f3] <;> kernel_rfl,O0,P0,nF⟩
  ·intro xs l1 a0 b0;clear a0;clear b0;refine wpOp_step (o:=_) rfl (fun K hK=>?_);simp only[FL]
   go_simp;refine hK _ _ ⟨.pointer (some ⟨w.heap.size,2,none⟩),by kernel_rfl,Below.refl _ _,rfl,nF⟩
  ·intro xs n1 a0 b0;have v0:=zz a0;have o1:=a0.size;clear a0;have f5:(xs 5)=.pointer (some ⟨w.heap.size,2,none⟩):=b0 _ (m_ 5 rfl) (by kernel_rfl);clear b0;refine wpOp_step (o:=_) rfl (fun K hK=>?_);simp only[FL]
   have g0:=CB.step La v0.out;have W0:=g0.cell 2 rfl;have X0:=g0.cell 3 rfl;go_simp;refine hK _ _ ⟨.agg #[.bool m,.slice A' l' c'],by simp only[FL,f5] <;> kernel_rfl,Below.refl _ _,rfl,nF⟩
  ·intro xs p1 a0 b0;clear a0;clear b0;refine wpOp_step (o:=_) rfl (fun K hK=>?_);simp only[FL]
   go_simp;refine hK _ _ ⟨.pointer (some ⟨w.heap.size+1,2,none⟩),by kernel_rfl,Below.refl _ _,rfl,nF⟩
  ·intro xs r1 a0 b0;have y0:=zz a0;have s1:=a0.size;clear a0;have f7:(xs 7)=.pointer (some ⟨w.heap.size+1,2,none⟩):=b0 _ (m_ 7 rfl) (by kernel_rfl);clear b0;refine wpOp_step (o:=_) rfl (fun K hK=>?_);simp only[FL]
   have h0:=CB.step Lb y0.out;have Z0:=h0.cell 2 rfl;have a1:=h0.cell 3 rfl;go_simp;refine hK _ _ ⟨.agg #[.bool m2,.slice B' k' d'],by simp only[FL,f7] <;> kernel_rfl,Below.refl _ _,rfl,nF⟩
  ·intro xs t1 a0 b0;have i0:=zz a0;have u1:=a0.size;clear a0;have f6:(xs 6)=.agg #[.bool m,.slice A' l' c']:=b0 _ (m_ 6 rfl) (by kernel_rfl);have f8:(xs 8)=.agg #[.bool m2,.slice B' k' d']:=b0 _ (m_ 8 rfl) (by kernel_rfl);clear b0;refine wpOp_step (o:=_) rfl (fun K hK=>?_);simp only[FL]
   go_simp;have r0:=zz (LV.step H2.out i0.out);have s0:=zz (LV.step H4.out i0.out);(with_reducible refine(RProd_any _ _ _ (q.den:Int) (r.den:Int) r0.out s0.out (by rw[Int.natAbs_natCast];have:=HL.out;omega) (by rw[Int.natAbs_natCast];have:=HL.out;omega)).mono ?_)
   rintro e wc24 ⟨Q0,v24,rfl,R0⟩;refine hK _ _ ⟨v24,by simp only[FL,f6,f8] <;> kernel_rfl,Q0,R0,nF⟩
  ·intro xs e0 a0 b0;have b1:=zz a0;have v1:=a0.size;clear a0;have f4:LV e0 e0.heap.size (xs 4) (q.num*r.num):=b0 _ (m_ 4 rfl) (by kernel_rfl);have f9:LV e0 e0.heap.size (xs 9) ((q.den:Int)*(r.den:Int)):=b0 _ (m_ 9 rfl) (by kernel_rfl);clear b0;refine wpOp_step (o:=_) rfl (fun K hK=>?_);simp only[FL]
   go_simp;(with_reducible refine((show Calls Tryz.prog _ _ _ _ from HV.out▸RLowest_any _ _ _ (q.num*r.num) ((q.den:Int)*(r.den:Int)) f4 f9 HD.out (by have:=Q1.out;omega) (by have:=R1.out;omega))).mono ?_)
   rintro e wc26 ⟨S0,v26,rfl,T0⟩;refine hK _ _ ⟨v26,by kernel_rfl,S0,T0,nF⟩
 ·exact all_nil
 ·intro xs F1 hbf hf hn hd;have f0:(xs 0)=.pointer (some ⟨w.heap.size,0,none⟩):=hf _ (m_ 0 rfl);have f1:(xs 1)=.agg #[.bool n,.slice A l c]:=hf _ (m_ 1 rfl);have f2:(xs 2)=.pointer (some ⟨w.heap.size+1,0,none⟩):=hf _ (m_ 2 rfl);have f3:(xs 3)=.agg #[.bool n2,.slice B k d]:=hf _ (m_ 3 rfl);have f4:LV F1 F1.heap.size (xs 4) (q.num*r.num):=hf _ (m_ 4 rfl);have f5:(xs 5)=.pointer (some ⟨w.heap.size,2,none⟩):=hf _ (m_ 5 rfl);have f6:(xs 6)=.agg #[.bool m,.slice A' l' c']:=hf _ (m_ 6 rfl);have f7:(xs 7)=.pointer (some ⟨w.heap.size+1,2,none⟩):=hf _ (m_ 7 rfl);have f8:(xs 8)=.agg #[.bool m2,.slice B' k' d']:=hf _ (m_ 8 rfl);have f9:LV F1 F1.heap.size (xs 9) ((q.den:Int)*(r.den:Int)):=hf _ (m_ 9 rfl);have f10:QV F1 F1.heap.size (xs 10) p:=hf _ (m_ 10 rfl);clear hf hn hd;simp only[FL]
  have B28:=zz hbf;have z28:=B28.out.size;have U0:=zz (B0.out.trans (B28.out.mono B0.out.size));clear hbf;generalize xs 0=x0 at *
  generalize xs 1=x1 at *
  generalize xs 2=x2 at *
  generalize xs 3=x3 at *
  generalize xs 4=x4 at *
  generalize xs 5=x5 at *
  generalize xs 6=x6 at *
  generalize xs 7=x7 at *
  generalize xs 8=x8 at *
  generalize xs 9=x9 at *
  generalize xs 10=x10 at *
  obtain rfl:=f0;obtain rfl:=f1;obtain rfl:=f2;obtain rfl:=f3;clear f4;obtain rfl:=f5;obtain rfl:=f6;obtain rfl:=f7;obtain rfl:=f8;clear f9;obtain⟨G1,I1,J1,K1,L1,j0,M1,rfl,ha30,t0,hc30⟩:=f10;have k0:=zz (show QV F1 F1.heap.size (.agg #[.bool G1,.slice I1 J1 K1,.bool false,.slice L1 j0 M1]) p from⟨_,_,_,_,_,_,_,rfl,ha30,t0,hc30⟩);clear ha30 t0 hc30;have c0:=CB.step Lr4 B28.out;have A0:=c0.cell 0 rfl;have C0:=c0.cell 1 rfl;have D0:=c0.cell 2 rfl;have E0:=c0.cell 3 rfl;have N1:=c0.lt;have F0:=c0.frozen 0;have G0:=c0.frozen 1;have H0:=c0.frozen 2;have I0:=c0.frozen 3;have O1:=c0.lt;refine Early.next (i:=11) (by kernel_rfl) rfl (fun K hK=>?_);go_simp;refine hK _ _ (fun _=>trivial) ?_;clear hK K;(try simp only[Act.put,List.setIfInBounds_toArray,List.set_cons_zero,List.set_cons_succ])
  clear A0 C0 D0 E0 N1 F0 G0 H0 I0 O1;have J0:=CB.step La B28.out;have K0:=CB.step Lb B28.out;obtain⟨w36,d0⟩:∃ w36:World,w36=((((F1.setCell ⟨w.heap.size+2,0,none⟩ (.bool G1)).setCell ⟨w.heap.size+2,1,none⟩ (.slice I1 J1 K1)).setCell ⟨w.heap.size+2,2,none⟩ (.bool false)).setCell ⟨w.heap.size+2,3,none⟩ (.slice L1 j0 M1)):=⟨_,rfl⟩;rw[← d0];have S36:=zz (p4_s d0 c0 (by simp[noInt_b,noInt_s]));have c1:=p4_f d0 J0 (by omega);have d1:=p4_f d0 K0 (by omega);have u0:=p4_p d0 c0;have L0:=zz (p4_b d0 U0.out (by omega));have y1:=p4_z d0;clear d0;refine Early.done (by kernel_rfl) ?_ _;(try simp only[Exit.then])
  go_wp2;have l0:=zz (QV.soft k0.out (S36.out));exact bodyPost_ret (QB.ret1 rfl _ u0 rfl) rfl ⟨L0.out,_,rfl,l0.out⟩
set_option maxRecDepth 100000 in
set_option maxHeartbeats 4000000 in
theorem RSumQ_any (w:World) (va vb:Value) (q r:Rat) (ha:QV w w.heap.size va q) (hb:QV w w.heap.size vb r) (lq:QL 20000 20000 q) (lr:QL 20000 20000 r) :
  Calls Tryz.prog 66 #[va,vb] w fun e w'=>Below w.heap.size w w'∧∃ v,e=.returned v∧QV w' w'.heap.size v (q+r):=by
 obtain⟨n,A,l,c,m,A',l',c',rfl⟩:=QO.cells (show QO w w.heap.size va (some q) from ha);obtain⟨n2,B,k,d,m2,B',k',d',rfl⟩:=QO.cells (show QO w w.heap.size vb (some r) from hb);obtain⟨p,hp⟩:∃ p,p=(q+r):=⟨_,rfl⟩;rw[← hp];have HE:=zz hp;clear hp;have HD:=zz (show(q.den:Int)*(r.den:Int)≠0 from Int.mul_ne_zero (Int.natCast_ne_zero.2 q.den_nz) (Int.natCast_ne_zero.2 r.den_nz));have hd1:(dig (q.den:Int).natAbs).length≤20000:=lq.2;have hd2:(dig (r.den:Int).natAbs).length≤20000:=lr.2;have HL:=zz (And.intro lq.1 (And.intro lq.2 (And.intro lr.1 lr.2)));have B2:=zz (len_mul hd1 hd2);have p2:=zz (len_mul lq.1 hd2);have q2:=zz (len_mul lr.1 hd1);clear lq lr hd1 hd2;have H1:=zz (QV.fst ha);have H2:=zz (QV.snd ha);have H3:=zz (QV.fst hb);have H4:=zz (QV.snd hb);clear ha hb;obtain⟨w0,hw0⟩:∃ w0:World,w0=(((w.alloc (.cells #[.bool n,.slice A l c,.bool m,.slice A' l' c'] 43)).alloc (.cells #[.bool n2,.slice B k d,.bool m2,.slice B' k' d'] 43)).alloc (.cells #[.bool false,.slice none 0 0,.bool false,.slice none 0 0] 43)):=⟨_,rfl⟩;have B0:=zz (n3_b hw0);have z0:=n3_z hw0;have La:=n3_0 hw0;have Lb:=n3_1 hw0;have Lr4:=n3_2 hw0;replace H1:=zz (LV.step H1.out B0.out);replace H2:=zz (LV.step H2.out B0.out);replace H3:=zz (LV.step H3.out B0.out);replace H4:=zz (LV.step H4.out B0.out);go_enter Tryz.func66,Tryz.ntmps66
 go_upto_region 1 with (fail)
 rw[← hw0];clear hw0;have HV:=zz (show Rat.divInt ((q.num*(r.den:Int))+(r.num*(q.den:Int))) ((q.den:Int)*(r.den:Int))=p from(sum_divInt q r).trans HE.out.symm);have C2:=zz (show(dig ((q.num*(r.den:Int))+(r.num*(q.den:Int))).natAbs).length≤40001 from Len.add (k:=40000) p2.out q2.out);refine Flow.run [⟨0,5,fun fv fw=>fv=.pointer (some ⟨w.heap.size,0,none⟩)⟩,⟨1,6,fun fv fw=>fv=.agg #[.bool n,.slice A l c]⟩,⟨2,7,fun fv fw=>fv=.pointer (some ⟨w.heap.size+1,2,none⟩)⟩,⟨3,8,fun fv fw=>fv=.agg #[.bool m2,.slice B' k' d']⟩,⟨4,9,fun fv fw=>LV fw fw.heap.size fv (q.num*(r.den:Int))⟩,⟨5,10,fun fv fw=>fv=.pointer (some ⟨w.heap.size+1,0,none⟩)⟩,⟨6,11,fun fv fw=>fv=.agg #[.bool n2,.slice B k d]⟩,⟨7,12,fun fv fw=>fv=.pointer (some ⟨w.heap.size,2,none⟩)⟩,⟨8,13,fun fv fw=>fv=.agg #[.bool m,.slice A' l' c']⟩,⟨9,14,fun fv fw=>LV fw fw.heap.size fv (r.num*(q.den:Int))⟩,⟨10,15,fun fv fw=>LV fw fw.heap.size fv ((q.num*(r.den:Int))+(r.num*(q.den:Int)))⟩,⟨11,16,fun fv fw=>fv=.pointer (some ⟨w.heap.size,2,none⟩)⟩,⟨12,17,fun fv fw=>fv=.agg #[.bool m,.slice A' l' c']⟩,⟨13,18,fun fv fw=>fv=.pointer (some ⟨w.heap.size+1,2,none⟩)⟩,⟨14,19,fun fv fw=>fv=.agg #[.bool m2,.slice B' k' d']⟩,⟨15,20,fun fv fw=>LV fw fw.heap.size fv ((q.den:Int)*(r.den:Int))⟩,⟨16,21,fun fv fw=>QV fw fw.heap.size fv p⟩] [] [] 1 (by kernel_rfl) (by kernel_rfl) (by kernel_rfl) (fun _ _ _ _ _ h=>h) ?_ ?_ ?_ ?_
 ·refine(all_cons (fun v w1 w2 h hb=>h) (all_cons (fun v w1 w2 h hb=>h) (all_cons (fun v w1 w2 h hb=>h) (all_cons (fun v w1 w2 h hb=>h) (all_cons (fun v w1 w2 h hb=>h.step hb) (all_cons (fun v w1 w2 h hb=>h) (all_cons (fun v w1 w2 h hb=>h) (all_cons (fun v w1 w2 h hb=>h) (all_cons (fun v w1 w2 h hb=>h) (all_cons (fun v w1 w2 h hb=>h.step hb) (all_cons (fun v w1 w2 h hb=>h.step hb) (all_cons (fun v w1 w2 h hb=>h) (all_cons (fun v w1 w2 h hb=>h) (all_cons (fun v w1 w2 h hb=>h) (all_cons (fun v w1 w2 h hb=>h) (all_cons (fun v w1 w2 h hb=>h.step hb) (all_cons (fun v w1 w2 h hb=>h.step hb) all_nil)))))))))))))))))
 ·refine(all_cons ?_ (all_cons ?_ (all_cons ?_ (all_cons ?_ (all_cons ?_ (all_cons ?_ (all_cons ?_ (all_cons ?_ (all_cons ?_ (all_cons ?_ (all_cons ?_ (all_cons ?_ (all_cons ?_ (all_cons ?_ (all_cons ?_ (all_cons ?_ (all_cons ?_ all_nil)))))))))))))))))
  ·intro xs wk1 a0 b0;clear a0;clear b0;refine wpOp_step (o:=_) rfl (fun K hK=>?_);simp only[FL]
   go_simp;refine hK _ _ ⟨.pointer (some ⟨w.heap.size,0,none⟩),by kernel_rfl,Below.refl _ _,rfl,nF⟩
  ·intro xs wk2 a0 b0;have U0:=zz a0;have g2:=a0.size;clear a0;have f0:(xs 0)=.pointer (some ⟨w.heap.size,0,none⟩):=b0 _ (m_ 0 rfl) (by kernel_rfl);clear b0;refine wpOp_step (o:=_) rfl (fun K hK=>?_);simp only[FL]
   have q0:=CB.step La U0.out;have B1:=q0.cell 0 rfl;have C1:=q0.cell 1 rfl;go_simp;refine hK _ _ ⟨.agg #[.bool n,.slice A l c],by simp only[FL,f0] <;> kernel_rfl,Below.refl _ _,rfl,nF⟩
  ·intro xs wk5 a0 b0;clear a0;clear b0;refine wpOp_step (o:=_) rfl (fun K hK=>?_);simp only[FL]
   go_simp;refine hK _ _ ⟨.pointer (some ⟨w.heap.size+1,2,none⟩),by kernel_rfl,Below.refl _ _,rfl,nF⟩
  ·intro xs wk6 a0 b0;have V0:=zz a0;have i2:=a0.size;clear a0;have f2:(xs 2)=.pointer (some ⟨w.heap.size+1,2,none⟩):=b0 _ (m_ 2 rfl) (by kernel_rfl);clear b0;refine wpOp_step (o:=_) rfl (fun K hK=>?_);simp only[FL]
   have r0:=CB.step Lb V0.out;have E1:=r0.cell 2 rfl;have F1:=r0.cell 3 rfl;go_simp;refine hK _ _ ⟨.agg #[.bool m2,.slice B' k' d'],by simp only[FL,f2] <;> kernel_rfl,Below.refl _ _,rfl,nF⟩
  ·intro xs j2 a0 b0;have s0:=zz a0;have k2:=a0.size;clear a0;have f1:(xs 1)=.agg #[.bool n,.slice A l c]:=b0 _ (m_ 1 rfl) (by kernel_rfl);have f3:(xs 3)=.agg #[.bool m2,.slice B' k' d']:=b0 _ (m_ 3 rfl) (by kernel_rfl);clear b0;refine wpOp_step (o:=_) rfl (fun K hK=>?_);simp only[FL]
   go_simp;have t0:=zz (LV.step H1.out s0.out);have u0:=zz (LV.step H4.out s0.out);(with_reducible refine(RProd_any _ _ _ q.num (r.den:Int) t0.out u0.out (by have:=HL.out;omega) (by rw[Int.natAbs_natCast];have:=HL.out;omega)).mono ?_)
   rintro e wc12 ⟨W0,v12,rfl,X0⟩;refine hK _ _ ⟨v12,by simp only[FL,f1,f3] <;> kernel_rfl,W0,X0,nF⟩
  ·intro xs G1 a0 b0;clear a0;clear b0;refine wpOp_step (o:=_) rfl (fun K hK=>?_);simp only[FL]
   go_simp;refine hK _ _ ⟨.pointer (some ⟨w.heap.size+1,0,none⟩),by kernel_rfl,Below.refl _ _,rfl,nF⟩
  ·intro xs J1 a0 b0;have F0:=zz a0;have K1:=a0.size;clear a0;have f5:(xs 5)=.pointer (some ⟨w.heap.size+1,0,none⟩):=b0 _ (m_ 5 rfl) (by kernel_rfl);clear b0;refine wpOp_step (o:=_) rfl (fun K hK=>?_);simp only[FL]
   have h0:=CB.step Lb F0.out;have j1:=h0.cell 0 rfl;have k1:=h0.cell 1 rfl;go_simp;refine hK _ _ ⟨.agg #[.bool n2,.slice B k d],by simp only[FL,f5] <;> kernel_rfl,Below.refl _ _,rfl,nF⟩
  ·intro xs L1 a0 b0;clear a0;clear b0;refine wpOp_step (o:=_) rfl (fun K hK=>?_);simp only[FL]
   go_simp;refine hK _ _ ⟨.pointer (some ⟨w.heap.size,2,none⟩),by kernel_rfl,Below.refl _ _,rfl,nF⟩
  ·intro xs N1 a0 b0;have G0:=zz a0;have O1:=a0.size;clear a0;have f7:(xs 7)=.pointer (some ⟨w.heap.size,2,none⟩):=b0 _ (m_ 7 rfl) (by kernel_rfl);clear b0;refine wpOp_step (o:=_) rfl (fun K hK=>?_);simp only[FL]
   have i0:=CB.step La G0.out;have m1:=i0.cell 2 rfl;have n1:=i0.cell 3 rfl;go_simp;refine hK _ _ ⟨.agg #[.bool m,.slice A' l' c'],by simp only[FL,f7] <;> kernel_rfl,Below.refl _ _,rfl,nF⟩
  ·intro xs P1 a0 b0;have j0:=zz a0;have Q1:=a0.size;clear a0;have f6:(xs 6)=.agg #[.bool n2,.slice B k d]:=b0 _ (m_ 6 rfl) (by kernel_rfl);have f8:(xs 8)=.agg #[.bool m,.slice A' l' c']:=b0 _ (m_ 8 rfl) (by kernel_rfl);clear b0;refine wpOp_step (o:=_) rfl (fun K hK=>?_);simp only[FL]
   go_simp;have v0:=zz (LV.step H3.out j0.out);have y0:=zz (LV.step H2.out j0.out);(with_reducible refine(RProd_any _ _ _ r.num (q.den:Int) v0.out y0.out (by have:=HL.out;omega) (by rw[Int.natAbs_natCast];have:=HL.out;omega)).mono ?_)
   rintro e wc24 ⟨Y0,v24,rfl,Z0⟩;refine hK _ _ ⟨v24,by simp only[FL,f6,f8] <;> kernel_rfl,Y0,Z0,nF⟩
  ·intro xs e0 a0 b0;have o1:=zz a0;have R1:=a0.size;clear a0;have f4:LV e0 e0.heap.size (xs 4) (q.num*(r.den:Int)):=b0 _ (m_ 4 rfl) (by kernel_rfl);have f9:LV e0 e0.heap.size (xs 9) (r.num*(q.den:Int)):=b0 _ (m_ 9 rfl) (by kernel_rfl);clear b0;refine wpOp_step (o:=_) rfl (fun K hK=>?_);simp only[FL]
   go_simp;(with_reducible refine(RSum_any _ _ _ (q.num*(r.den:Int)) (r.num*(q.den:Int)) f4 f9 (by have:=p2.out;omega) (by have:=q2.out;omega)).mono ?_)
   rintro e wc26 ⟨a1,v26,rfl,b1⟩;refine hK _ _ ⟨v26,by kernel_rfl,a1,b1,nF⟩
  ·intro xs S1 a0 b0;clear a0;clear b0;refine wpOp_step (o:=_) rfl (fun K hK=>?_);simp only[FL]
   go_simp;refine hK _ _ ⟨.pointer (some ⟨w.heap.size,2,none⟩),by kernel_rfl,Below.refl _ _,rfl,nF⟩
  ·intro xs U1 a0 b0;have H0:=zz a0;have V1:=a0.size;clear a0;have f11:(xs 11)=.pointer (some ⟨w.heap.size,2,none⟩):=b0 _ (m_ 11 rfl) (by kernel_rfl);clear b0;refine wpOp_step (o:=_) rfl (fun K hK=>?_);simp only[FL]
   have k0:=CB.step La H0.out;have q1:=k0.cell 2 rfl;have r1:=k0.cell 3 rfl;go_simp;refine hK _ _ ⟨.agg #[.bool m,.slice A' l' c'],by simp only[FL,f11] <;> kernel_rfl,Below.refl _ _,rfl,nF⟩
  ·intro xs W1 a0 b0;clear a0;clear b0;refine wpOp_step (o:=_) rfl (fun K hK=>?_);simp only[FL]
   go_simp;refine hK _ _ ⟨.pointer (some ⟨w.heap.size+1,2,none⟩),by kernel_rfl,Below.refl _ _,rfl,nF⟩
  ·intro xs Y1 a0 b0;have I0:=zz a0;have Z1:=a0.size;clear a0;have f13:(xs 13)=.pointer (some ⟨w.heap.size+1,2,none⟩):=b0 _ (m_ 13 rfl) (by kernel_rfl);clear b0;refine wpOp_step (o:=_) rfl (fun K hK=>?_);simp only[FL]
   have l0:=CB.step Lb I0.out;have t1:=l0.cell 2 rfl;have u1:=l0.cell 3 rfl;go_simp;refine hK _ _ ⟨.agg #[.bool m2,.slice B' k' d'],by simp only[FL,f13] <;> kernel_rfl,Below.refl _ _,rfl,nF⟩
  ·intro xs a2 a0 b0;have m0:=zz a0;have b2:=a0.size;clear a0;have f12:(xs 12)=.agg #[.bool m,.slice A' l' c']:=b0 _ (m_ 12 rfl) (by kernel_rfl);have f14:(xs 14)=.agg #[.bool m2,.slice B' k' d']:=b0 _ (m_ 14 rfl) (by kernel_rfl);clear b0;refine wpOp_step (o:=_) rfl (fun K hK=>?_);simp only[FL]
   go_simp;have A0:=zz (LV.step H2.out m0.out);have C0:=zz (LV.step H4.out m0.out);(with_reducible refine(RProd_any _ _ _ (q.den:Int) (r.den:Int) A0.out C0.out (by rw[Int.natAbs_natCast];have:=HL.out;omega) (by rw[Int.natAbs_natCast];have:=HL.out;omega)).mono ?_)
   rintro e wc38 ⟨c1,v38,rfl,d1⟩;refine hK _ _ ⟨v38,by simp only[FL,f12,f14] <;> kernel_rfl,c1,d1,nF⟩
  ·intro xs g0 a0 b0;have v1:=zz a0;have c2:=a0.size;clear a0;have f10:LV g0 g0.heap.size (xs 10) ((q.num*(r.den:Int))+(r.num*(q.den:Int))):=b0 _ (m_ 10 rfl) (by kernel_rfl);have f15:LV g0 g0.heap.size (xs 15) ((q.den:Int)*(r.den:Int)):=b0 _ (m_ 15 rfl) (by kernel_rfl);clear b0;refine wpOp_step (o:=_) rfl (fun K hK=>?_);simp only[FL]
   go_simp;(with_reducible refine((show Calls Tryz.prog _ _ _ _ from HV.out▸RLowest_any _ _ _ ((q.num*(r.den:Int))+(r.num*(q.den:Int))) ((q.den:Int)*(r.den:Int)) f10 f15 HD.out (by have:=C2.out;omega) (by have:=B2.out;omega))).mono ?_)
   rintro e wc40 ⟨e1,v40,rfl,g1⟩;refine hK _ _ ⟨v40,by kernel_rfl,e1,g1,nF⟩
 ·exact all_nil
 ·intro xs l2 hbf hf hn hd;have f0:(xs 0)=.pointer (some ⟨w.heap.size,0,none⟩):=hf _ (m_ 0 rfl);have f1:(xs 1)=.agg #[.bool n,.slice A l c]:=hf _ (m_ 1 rfl);have f2:(xs 2)=.pointer (some ⟨w.heap.size+1,2,none⟩):=hf _ (m_ 2 rfl);have f3:(xs 3)=.agg #[.bool m2,.slice B' k' d']:=hf _ (m_ 3 rfl);have f4:LV l2 l2.heap.size (xs 4) (q.num*(r.den:Int)):=hf _ (m_ 4 rfl);have f5:(xs 5)=.pointer (some ⟨w.heap.size+1,0,none⟩):=hf _ (m_ 5 rfl);have f6:(xs 6)=.agg #[.bool n2,.slice B k d]:=hf _ (m_ 6 rfl);have f7:(xs 7)=.pointer (some ⟨w.heap.size,2,none⟩):=hf _ (m_ 7 rfl);have f8:(xs 8)=.agg #[.bool m,.slice A' l' c']:=hf _ (m_ 8 rfl);have f9:LV l2 l2.heap.size (xs 9) (r.num*(q.den:Int)):=hf _ (m_ 9 rfl);have f10:LV l2 l2.heap.size (xs 10) ((q.num*(r.den:Int))+(r.num*(q.den:Int))):=hf _ (m_ 10 rfl);have f11:(xs 11)=.pointer (some ⟨w.heap.size,2,none⟩):=hf _ (m_ 11 rfl);have f12:(xs 12)=.agg #[.bool m,.slice A' l' c']:=hf _ (m_ 12 rfl);have f13:(xs 13)=.pointer (some ⟨w.heap.size+1,2,none⟩):=hf _ (m_ 13 rfl);have f14:(xs 14)=.agg #[.bool m2,.slice B' k' d']:=hf _ (m_ 14 rfl);have f15:LV l2 l2.heap.size (xs 15) ((q.den:Int)*(r.den:Int)):=hf _ (m_ 15 rfl);have f16:QV l2 l2.heap.size (xs 16) p:=hf _ (m_ 16 rfl);clear hf hn hd;simp only[FL]
  have B42:=zz hbf;have z42:=B42.out.size;have h1:=zz (B0.out.trans (B42.out.mono B0.out.size));clear hbf;generalize xs 0=x0 at *
  generalize xs 1=x1 at *
  generalize xs 2=x2 at *
  generalize xs 3=x3 at *
  generalize xs 4=x4 at *
  generalize xs 5=x5 at *
  generalize xs 6=x6 at *
  generalize xs 7=x7 at *
  generalize xs 8=x8 at *
  generalize xs 9=x9 at *
  generalize xs 10=x10 at *
  generalize xs 11=x11 at *
  generalize xs 12=x12 at *
  generalize xs 13=x13 at *
  generalize xs 14=x14 at *
  generalize xs 15=x15 at *
  generalize xs 16=x16 at *
  obtain rfl:=f0;obtain rfl:=f1;obtain rfl:=f2;obtain rfl:=f3;clear f4;obtain rfl:=f5;obtain rfl:=f6;obtain rfl:=f7;obtain rfl:=f8;clear f9;clear f10;obtain rfl:=f11;obtain rfl:=f12;obtain rfl:=f13;obtain rfl:=f14;clear f15;obtain⟨r2,s2,t2,u2,v2,n0,y2,rfl,ha44,D0,hc44⟩:=f16;have o0:=zz (show QV l2 l2.heap.size (.agg #[.bool r2,.slice s2 t2 u2,.bool false,.slice v2 n0 y2]) p from⟨_,_,_,_,_,_,_,rfl,ha44,D0,hc44⟩);clear ha44 D0 hc44;have c0:=CB.step Lr4 B42.out;have J0:=c0.cell 0 rfl;have K0:=c0.cell 1 rfl;have L0:=c0.cell 2 rfl;have M0:=c0.cell 3 rfl;have z2:=c0.lt;have N0:=c0.frozen 0;have O0:=c0.frozen 1;have P0:=c0.frozen 2;have Q0:=c0.frozen 3;have A2:=c0.lt;refine Early.next (i:=17) (by kernel_rfl) rfl (fun K hK=>?_);go_simp;refine hK _ _ (fun _=>trivial) ?_;clear hK K;(try simp only[Act.put,List.setIfInBounds_toArray,List.set_cons_zero,List.set_cons_succ])
  clear J0 K0 L0 M0 z2 N0 O0 P0 Q0 A2;have R0:=CB.step La B42.out;have S0:=CB.step Lb B42.out;obtain⟨w50,d0⟩:∃ w50:World,w50=((((l2.setCell ⟨w.heap.size+2,0,none⟩ (.bool r2)).setCell ⟨w.heap.size+2,1,none⟩ (.slice s2 t2 u2)).setCell ⟨w.heap.size+2,2,none⟩ (.bool false)).setCell ⟨w.heap.size+2,3,none⟩ (.slice v2 n0 y2)):=⟨_,rfl⟩;rw[← d0];have S50:=zz (p4_s d0 c0 (by simp[noInt_b,noInt_s]));have y1:=p4_f d0 R0 (by omega);have z1:=p4_f d0 S0 (by omega);have E0:=p4_p d0 c0;have T0:=zz (p4_b d0 h1.out (by omega));have d2:=p4_z d0;clear d0;refine Early.done (by kernel_rfl) ?_ _;(try simp only[Exit.then])
  go_wp2;have p0:=zz (QV.soft o0.out (S50.out));exact bodyPost_ret (QB.ret1 rfl _ E0 rfl) rfl ⟨T0.out,_,rfl,p0.out⟩
end Go.Proofs.YtkhljkiehohckaaGreatDoor
