/- Layer 04's reference: Prod, Sum, Span, Near (written by gen_qx.py). -/
import Derived.Test.YtioclokmbgmamaaGreatDoorU
import Derived.Test.YtioclokmbgmamaaGreatDoorQT
import Derived.Test.YtioclokmbgmamaaGreatDoorQM
import Derived.Test.YtioclokmbgmamaaGreatDoorRefc
import Derived.Test.YtioclokmbgmamaaGreatDoorQRnd
namespace Go.Proofs.YtioclokmbgmamaaGreatDoor
open Go Go.RowKit Dig
theorem floor_divInt (x:Int) {y:Int} (hy:0<y):(Rat.divInt x y).num / ((Rat.divInt x y).den:Int)=x / y:=by
 have h:=div_fact x hy;have p:0<((Rat.divInt x y).den:Int):=by have:=Rat.den_pos (Rat.divInt x y);omega
 rw[← Int.mul_ediv_mul_of_pos_left _ _ hy,h,Int.mul_comm ((Rat.divInt x y).den:Int) y,Int.mul_ediv_mul_of_pos_left _ _ p]
theorem sum_divInt (q r:Rat):Rat.divInt (q.num*(r.den:Int)+r.num*(q.den:Int)) ((q.den:Int)*(r.den:Int))=q+r:=by
 have h:=Rat.divInt_add_divInt q.num r.num (d₁:=q.den) (d₂:=r.den) (Int.natCast_ne_zero.2 q.den_nz) (Int.natCast_ne_zero.2 r.den_nz);rw[Rat.num_divInt_den,Rat.num_divInt_den] at h;exact h.symm
theorem prod_divInt (q r:Rat):Rat.divInt (q.num*r.num) ((q.den:Int)*(r.den:Int))=q*r:=by
 rw[← Rat.divInt_mul_divInt,Rat.num_divInt_den,Rat.num_divInt_den]
theorem near_sum (q:Rat) (s:Int):q*Rat.divInt s 1+Rat.divInt 1 2=Rat.divInt (q.num*(2*s)+(q.den:Int)) ((q.den*2:Nat):Int):=by
 have h:q*Rat.divInt s 1=Rat.divInt (q.num*s) q.den:=by
  conv=>lhs;rw[← Rat.num_divInt_den q]
  rw[Rat.divInt_mul_divInt,Int.mul_one]
 rw[h,Rat.divInt_add_divInt _ _ (Int.natCast_ne_zero.2 q.den_nz) (by decide),Int.natCast_mul]
 congr 1
 grind
theorem ceil_neg (y:Int) {d:Int} (hd:0<d):-((-y) / d)=if y % d≠0 then y / d+1 else y / d:=by
 split
 ·next h=> 
  have:(-y) / d=-(y / d)-1:=by
   have e:=Int.mul_ediv_add_emod y d;have m0:=Int.emod_nonneg y (by omega:d≠0);have m1:=Int.emod_lt_of_pos y hd;have h3:(-y) / d=-(y / d)-1∧(-y) % d=d-y % d:=(Int.ediv_emod_unique hd).2 ⟨by rw[Int.mul_sub,Int.mul_neg,Int.mul_one];omega,by omega,by omega⟩;exact h3.1
  omega
 ·next h=>
  have h0:y % d=0:=by omega
  have e:=Int.mul_ediv_add_emod y d;have:(-y) / d=-(y / d):=by
   have h3:(-y) / d=-(y / d)∧(-y) % d=0:=(Int.ediv_emod_unique hd).2 ⟨by rw[Int.mul_neg];omega,by omega,by omega⟩;exact h3.1
  omega
theorem len_mul {a b:Int} {j k:Nat} (h:(dig a.natAbs).length≤j) (h':(dig b.natAbs).length≤k):(dig (a*b).natAbs).length≤j+k:=by
 rw[Int.natAbs_mul];exact Nat.le_trans (dig_len_mul _ _) (Nat.add_le_add h h')
theorem RInt_num {w:World} {va:Value} {a:Int} (ha:LV w w.heap.size va a) (h0:-9223372036854775808≤a) (h1:a≤9223372036854775807) :
  Calls Tryz.prog 78 #[va] w fun e w'=>Below w.heap.size w w'∧e=.returned (.tuple #[.int .i64 a,.int .i64 0]):=by
 refine(RInt_any w va _ _ ha).mono fun e w' ⟨hw,h⟩=>⟨hw,?_⟩
 rw[numOf_dig (Nat.le_trans (fit_i64 h0 h1) (by decide)),show A1 intZ (some a)=(a,0) from if_pos ⟨h0,h1⟩] at h;exact h
theorem cmpZ_lt {a b:Int} (h:a<b):(cmpZ a b).1=-1:=if_pos h
theorem cmpZ_gt {a b:Int} (h:b<a):(cmpZ a b).1=1:=by show(if a<b then (-1:Int) else if a=b then 0 else 1)=_;rw[if_neg (by omega),if_neg (by omega)]
theorem cmpZ_not_lt {a b:Int} (h:¬ a<b):¬ (cmpZ a b).1<0:=by show ¬ (if a<b then (-1:Int) else if a=b then 0 else 1)<0;rw[if_neg h];split <;> decide
theorem cmpZ_not_gt {a b:Int} (h:¬ b<a):¬ 0<(cmpZ a b).1:=by
 show ¬ 0<(if a<b then (-1:Int) else if a=b then 0 else 1)
 split
 ·decide
 ·rw[if_pos (by omega)];decide
set_option maxRecDepth 100000 in
set_option maxHeartbeats 4000000 in
theorem RProdQ_any (w:World) (va vb:Value) (q r:Rat) (ha:QV w w.heap.size va q) (hb:QV w w.heap.size vb r) (lq:QL 20000 20000 q) (lr:QL 20000 20000 r) :
  Calls Tryz.prog 82 #[va,vb] w fun e w'=>Below w.heap.size w w'∧∃ v,e=.returned v∧QV w' w'.heap.size v (q*r):=by
 obtain⟨n,A,l,c,m,A',l',c',rfl⟩:=QO.cells (show QO w w.heap.size va (some q) from ha);obtain⟨n2,B,k,d,m2,B',k',d',rfl⟩:=QO.cells (show QO w w.heap.size vb (some r) from hb);obtain⟨p,hp⟩:∃ p,p=(q*r):=⟨_,rfl⟩;rw[← hp];have HE:=zz hp;clear hp;have HD:=zz (show(q.den:Int)*(r.den:Int)≠0 from Int.mul_ne_zero (Int.natCast_ne_zero.2 q.den_nz) (Int.natCast_ne_zero.2 r.den_nz));have hd1:(dig (q.den:Int).natAbs).length≤20000:=lq.2;have hd2:(dig (r.den:Int).natAbs).length≤20000:=lr.2;have HL:=zz (And.intro lq.1 (And.intro lq.2 (And.intro lr.1 lr.2)));have W1:=zz (len_mul hd1 hd2);have V1:=zz (len_mul lq.1 lr.1);clear lq lr hd1 hd2;have H1:=zz (QV.fst ha);have H2:=zz (QV.snd ha);have H3:=zz (QV.fst hb);have H4:=zz (QV.snd hb);clear ha hb;obtain⟨w0,hw0⟩:∃ w0:World,w0=(((w.alloc (.cells #[.bool n,.slice A l c,.bool m,.slice A' l' c'] 26)).alloc (.cells #[.bool n2,.slice B k d,.bool m2,.slice B' k' d'] 26)).alloc (.cells #[.bool false,.slice none 0 0,.bool false,.slice none 0 0] 26)):=⟨_,rfl⟩;have B0:=zz (n3_b hw0);have z0:=n3_z hw0;have La:=n3_0 hw0;have Lb:=n3_1 hw0;have Lr4:=n3_2 hw0;replace H1:=zz (LV.step H1.out B0.out);replace H2:=zz (LV.step H2.out B0.out);replace H3:=zz (LV.step H3.out B0.out);replace H4:=zz (LV.step H4.out B0.out);go_enter Tryz.func82,Tryz.ntmps82
 go_upto_region 1 with (fail)
 rw[← hw0];clear hw0;have HV:=zz (show Rat.divInt (q.num*r.num) ((q.den:Int)*(r.den:Int))=p from(prod_divInt q r).trans HE.out.symm);refine Flow.run [⟨0,5,fun fv fw=>fv=.pointer (some ⟨w.heap.size,0,none⟩)⟩,⟨1,6,fun fv fw=>fv=.agg #[.bool n,.slice A l c]⟩,⟨2,7,fun fv fw=>fv=.pointer (some ⟨w.heap.size+1,0,none⟩)⟩,⟨3,8,fun fv fw=>fv=.agg #[.bool n2,.slice B k d]⟩,⟨4,9,fun fv fw=>LV fw fw.heap.size fv (q.num*r.num)⟩,⟨5,10,fun fv fw=>fv=.pointer (some ⟨w.heap.size,2,none⟩)⟩,⟨6,11,fun fv fw=>fv=.agg #[.bool m,.slice A' l' c']⟩,⟨7,12,fun fv fw=>fv=.pointer (some ⟨w.heap.size+1,2,none⟩)⟩,⟨8,13,fun fv fw=>fv=.agg #[.bool m2,.slice B' k' d']⟩,⟨9,14,fun fv fw=>LV fw fw.heap.size fv ((q.den:Int)*(r.den:Int))⟩,⟨10,15,fun fv fw=>QV fw fw.heap.size fv p⟩] [] [] 1 (by kernel_rfl) (by kernel_rfl) (by kernel_rfl) (fun _ _ _ _ _ h=>h) ?_ ?_ ?_ ?_
 ·refine(a0 (a0 (a0 (a0 (all_cons (fun v w1 w2 h hb=>h.step hb) (a0 (a0 (a0 (a0 (all_cons (fun v w1 w2 h hb=>h.step hb) (all_cons (fun v w1 w2 h hb=>h.step hb) all_nil)))))))))))
 ·refine(all_cons ?_ (all_cons ?_ (all_cons ?_ (all_cons ?_ (all_cons ?_ (all_cons ?_ (all_cons ?_ (all_cons ?_ (all_cons ?_ (all_cons ?_ (all_cons ?_ all_nil)))))))))))
  ·intro xs A1 b0 c0;clear b0;clear c0;refine wpOp_step (o:=_) rfl (fun K hK=>?_);simp only[FL]
   go_simp;refine hK _ _ ⟨.pointer (some ⟨w.heap.size,0,none⟩),by kernel_rfl,Below.refl _ _,rfl,nF⟩
  ·intro xs C1 b0 c0;have N0:=zz b0;have D1:=b0.size;clear b0;have f0:(xs 0)=.pointer (some ⟨w.heap.size,0,none⟩):=c0 _ (m_ 0 rfl) (by kernel_rfl);clear c0;refine wpOp_step (o:=_) rfl (fun K hK=>?_);simp only[FL]
   have n0:=CB.step La N0.out;have h1:=n0.cell 0 rfl;have i1:=n0.cell 1 rfl;go_simp;refine hK _ _ ⟨.agg #[.bool n,.slice A l c],by simp only[FL,f0] <;> kernel_rfl,Below.refl _ _,rfl,nF⟩
  ·intro xs E1 b0 c0;clear b0;clear c0;refine wpOp_step (o:=_) rfl (fun K hK=>?_);simp only[FL]
   go_simp;refine hK _ _ ⟨.pointer (some ⟨w.heap.size+1,0,none⟩),by kernel_rfl,Below.refl _ _,rfl,nF⟩
  ·intro xs G1 b0 c0;have O0:=zz b0;have I1:=b0.size;clear b0;have f2:(xs 2)=.pointer (some ⟨w.heap.size+1,0,none⟩):=c0 _ (m_ 2 rfl) (by kernel_rfl);clear c0;refine wpOp_step (o:=_) rfl (fun K hK=>?_);simp only[FL]
   have o0:=CB.step Lb O0.out;have k1:=o0.cell 0 rfl;have l1:=o0.cell 1 rfl;go_simp;refine hK _ _ ⟨.agg #[.bool n2,.slice B k d],by simp only[FL,f2] <;> kernel_rfl,Below.refl _ _,rfl,nF⟩
  ·intro xs J1 b0 c0;have p0:=zz b0;have K1:=b0.size;clear b0;have f1:(xs 1)=.agg #[.bool n,.slice A l c]:=c0 _ (m_ 1 rfl) (by kernel_rfl);have f3:(xs 3)=.agg #[.bool n2,.slice B k d]:=c0 _ (m_ 3 rfl) (by kernel_rfl);clear c0;refine wpOp_step (o:=_) rfl (fun K hK=>?_);simp only[FL]
   go_simp;have q0:=zz (LV.step H1.out p0.out);have r0:=zz (LV.step H3.out p0.out);(with_reducible refine(RProd_any _ _ _ q.num r.num q0.out r0.out (by have:=HL.out;omega) (by have:=HL.out;omega)).mono ?_)
   rintro e wc12 ⟨P0,v12,rfl,Q0⟩;refine hK _ _ ⟨v12,by simp only[FL,f1,f3] <;> kernel_rfl,P0,Q0,nF⟩
  ·intro xs m1 b0 c0;clear b0;clear c0;refine wpOp_step (o:=_) rfl (fun K hK=>?_);simp only[FL]
   go_simp;refine hK _ _ ⟨.pointer (some ⟨w.heap.size,2,none⟩),by kernel_rfl,Below.refl _ _,rfl,nF⟩
  ·intro xs o1 b0 c0;have y0:=zz b0;have p1:=b0.size;clear b0;have f5:(xs 5)=.pointer (some ⟨w.heap.size,2,none⟩):=c0 _ (m_ 5 rfl) (by kernel_rfl);clear c0;refine wpOp_step (o:=_) rfl (fun K hK=>?_);simp only[FL]
   have h0:=CB.step La y0.out;have X0:=h0.cell 2 rfl;have Y0:=h0.cell 3 rfl;go_simp;refine hK _ _ ⟨.agg #[.bool m,.slice A' l' c'],by simp only[FL,f5] <;> kernel_rfl,Below.refl _ _,rfl,nF⟩
  ·intro xs q1 b0 c0;clear b0;clear c0;refine wpOp_step (o:=_) rfl (fun K hK=>?_);simp only[FL]
   go_simp;refine hK _ _ ⟨.pointer (some ⟨w.heap.size+1,2,none⟩),by kernel_rfl,Below.refl _ _,rfl,nF⟩
  ·intro xs s1 b0 c0;have A0:=zz b0;have t1:=b0.size;clear b0;have f7:(xs 7)=.pointer (some ⟨w.heap.size+1,2,none⟩):=c0 _ (m_ 7 rfl) (by kernel_rfl);clear c0;refine wpOp_step (o:=_) rfl (fun K hK=>?_);simp only[FL]
   have i0:=CB.step Lb A0.out;have a1:=i0.cell 2 rfl;have b1:=i0.cell 3 rfl;go_simp;refine hK _ _ ⟨.agg #[.bool m2,.slice B' k' d'],by simp only[FL,f7] <;> kernel_rfl,Below.refl _ _,rfl,nF⟩
  ·intro xs u1 b0 c0;have j0:=zz b0;have v1:=b0.size;clear b0;have f6:(xs 6)=.agg #[.bool m,.slice A' l' c']:=c0 _ (m_ 6 rfl) (by kernel_rfl);have f8:(xs 8)=.agg #[.bool m2,.slice B' k' d']:=c0 _ (m_ 8 rfl) (by kernel_rfl);clear c0;refine wpOp_step (o:=_) rfl (fun K hK=>?_);simp only[FL]
   go_simp;have s0:=zz (LV.step H2.out j0.out);have t0:=zz (LV.step H4.out j0.out);(with_reducible refine(RProd_any _ _ _ (q.den:Int) (r.den:Int) s0.out t0.out (by rw[Int.natAbs_natCast];have:=HL.out;omega) (by rw[Int.natAbs_natCast];have:=HL.out;omega)).mono ?_)
   rintro e wc24 ⟨R0,v24,rfl,S0⟩;refine hK _ _ ⟨v24,by simp only[FL,f6,f8] <;> kernel_rfl,R0,S0,nF⟩
  ·intro xs g0 b0 c0;have c1:=zz b0;have y1:=b0.size;clear b0;have f4:LV g0 g0.heap.size (xs 4) (q.num*r.num):=c0 _ (m_ 4 rfl) (by kernel_rfl);have f9:LV g0 g0.heap.size (xs 9) ((q.den:Int)*(r.den:Int)):=c0 _ (m_ 9 rfl) (by kernel_rfl);clear c0;refine wpOp_step (o:=_) rfl (fun K hK=>?_);simp only[FL]
   go_simp;(with_reducible refine((show Calls Tryz.prog _ _ _ _ from HV.out▸RLowest_any _ _ _ (q.num*r.num) ((q.den:Int)*(r.den:Int)) f4 f9 HD.out (by have:=V1.out;omega) (by have:=W1.out;omega))).mono ?_)
   rintro e wc26 ⟨T0,v26,rfl,U0⟩;refine hK _ _ ⟨v26,by kernel_rfl,T0,U0,nF⟩
 ·exact all_nil
 ·intro xs L1 hbf hf hn hd;have f0:(xs 0)=.pointer (some ⟨w.heap.size,0,none⟩):=hf _ (m_ 0 rfl);have f1:(xs 1)=.agg #[.bool n,.slice A l c]:=hf _ (m_ 1 rfl);have f2:(xs 2)=.pointer (some ⟨w.heap.size+1,0,none⟩):=hf _ (m_ 2 rfl);have f3:(xs 3)=.agg #[.bool n2,.slice B k d]:=hf _ (m_ 3 rfl);have f4:LV L1 L1.heap.size (xs 4) (q.num*r.num):=hf _ (m_ 4 rfl);have f5:(xs 5)=.pointer (some ⟨w.heap.size,2,none⟩):=hf _ (m_ 5 rfl);have f6:(xs 6)=.agg #[.bool m,.slice A' l' c']:=hf _ (m_ 6 rfl);have f7:(xs 7)=.pointer (some ⟨w.heap.size+1,2,none⟩):=hf _ (m_ 7 rfl);have f8:(xs 8)=.agg #[.bool m2,.slice B' k' d']:=hf _ (m_ 8 rfl);have f9:LV L1 L1.heap.size (xs 9) ((q.den:Int)*(r.den:Int)):=hf _ (m_ 9 rfl);have f10:QV L1 L1.heap.size (xs 10) p:=hf _ (m_ 10 rfl);clear hf hn hd;simp only[FL]
  have B28:=zz hbf;have z28:=B28.out.size;have V0:=zz (B0.out.trans (B28.out.mono B0.out.size));clear hbf;generalize xs 0=x0,xs 1=x1,xs 2=x2,xs 3=x3,xs 4=x4,xs 5=x5,xs 6=x6,xs 7=x7,xs 8=x8,xs 9=x9,xs 10=x10 at *
  obtain rfl:=f0;obtain rfl:=f1;obtain rfl:=f2;obtain rfl:=f3;clear f4;obtain rfl:=f5;obtain rfl:=f6;obtain rfl:=f7;obtain rfl:=f8;clear f9;obtain⟨M1,N1,O1,P1,Q1,k0,R1,rfl,ha30,u0,hc30⟩:=f10;have l0:=zz (show QV L1 L1.heap.size (.agg #[.bool M1,.slice N1 O1 P1,.bool false,.slice Q1 k0 R1]) p from⟨_,_,_,_,_,_,_,rfl,ha30,u0,hc30⟩);clear ha30 u0 hc30;have d0:=CB.step Lr4 B28.out;have C0:=d0.cell 0 rfl;have D0:=d0.cell 1 rfl;have E0:=d0.cell 2 rfl;have F0:=d0.cell 3 rfl;have S1:=d0.lt;have G0:=d0.frozen 0;have H0:=d0.frozen 1;have I0:=d0.frozen 2;have J0:=d0.frozen 3;have T1:=d0.lt;refine Early.next (i:=11) (by kernel_rfl) rfl (fun K hK=>?_);go_simp;refine hK _ _ (fun _=>trivial) ?_;clear hK K;(try simp only[Act.put,List.setIfInBounds_toArray,List.set_cons_zero,List.set_cons_succ])
  clear C0 D0 E0 F0 S1 G0 H0 I0 J0 T1;have K0:=CB.step La B28.out;have L0:=CB.step Lb B28.out;obtain⟨w36,e0⟩:∃ w36:World,w36=((((L1.setCell ⟨w.heap.size+2,0,none⟩ (.bool M1)).setCell ⟨w.heap.size+2,1,none⟩ (.slice N1 O1 P1)).setCell ⟨w.heap.size+2,2,none⟩ (.bool false)).setCell ⟨w.heap.size+2,3,none⟩ (.slice Q1 k0 R1)):=⟨_,rfl⟩;rw[← e0];have S36:=zz (p4_s e0 d0 (by simp[noInt_b,noInt_s]));have d1:=p4_f e0 K0 (by omega);have e1:=p4_f e0 L0 (by omega);have v0:=p4_p e0 d0;have M0:=zz (p4_b e0 V0.out (by omega));have z1:=p4_z e0;clear e0;refine Early.done (by kernel_rfl) ?_ _;(try simp only[Exit.then])
  go_wp2;have m0:=zz (QV.soft l0.out (S36.out));exact bodyPost_ret (QB.ret1 rfl _ v0 rfl) rfl ⟨M0.out,_,rfl,m0.out⟩
set_option maxRecDepth 100000 in
set_option maxHeartbeats 4000000 in
theorem RSumQ_any (w:World) (va vb:Value) (q r:Rat) (ha:QV w w.heap.size va q) (hb:QV w w.heap.size vb r) (lq:QL 20000 20000 q) (lr:QL 20000 20000 r) :
  Calls Tryz.prog 81 #[va,vb] w fun e w'=>Below w.heap.size w w'∧∃ v,e=.returned v∧QV w' w'.heap.size v (q+r):=by
 obtain⟨n,A,l,c,m,A',l',c',rfl⟩:=QO.cells (show QO w w.heap.size va (some q) from ha);obtain⟨n2,B,k,d,m2,B',k',d',rfl⟩:=QO.cells (show QO w w.heap.size vb (some r) from hb);obtain⟨p,hp⟩:∃ p,p=(q+r):=⟨_,rfl⟩;rw[← hp];have HE:=zz hp;clear hp;have HD:=zz (show(q.den:Int)*(r.den:Int)≠0 from Int.mul_ne_zero (Int.natCast_ne_zero.2 q.den_nz) (Int.natCast_ne_zero.2 r.den_nz));have hd1:(dig (q.den:Int).natAbs).length≤20000:=lq.2;have hd2:(dig (r.den:Int).natAbs).length≤20000:=lr.2;have HL:=zz (And.intro lq.1 (And.intro lq.2 (And.intro lr.1 lr.2)));have G2:=zz (len_mul hd1 hd2);have u2:=zz (len_mul lq.1 hd2);have v2:=zz (len_mul lr.1 hd1);clear lq lr hd1 hd2;have H1:=zz (QV.fst ha);have H2:=zz (QV.snd ha);have H3:=zz (QV.fst hb);have H4:=zz (QV.snd hb);clear ha hb;obtain⟨w0,hw0⟩:∃ w0:World,w0=(((w.alloc (.cells #[.bool n,.slice A l c,.bool m,.slice A' l' c'] 26)).alloc (.cells #[.bool n2,.slice B k d,.bool m2,.slice B' k' d'] 26)).alloc (.cells #[.bool false,.slice none 0 0,.bool false,.slice none 0 0] 26)):=⟨_,rfl⟩;have B0:=zz (n3_b hw0);have z0:=n3_z hw0;have La:=n3_0 hw0;have Lb:=n3_1 hw0;have Lr4:=n3_2 hw0;replace H1:=zz (LV.step H1.out B0.out);replace H2:=zz (LV.step H2.out B0.out);replace H3:=zz (LV.step H3.out B0.out);replace H4:=zz (LV.step H4.out B0.out);go_enter Tryz.func81,Tryz.ntmps81
 go_upto_region 1 with (fail)
 rw[← hw0];clear hw0;have HV:=zz (show Rat.divInt ((q.num*(r.den:Int))+(r.num*(q.den:Int))) ((q.den:Int)*(r.den:Int))=p from(sum_divInt q r).trans HE.out.symm);have I2:=zz (show(dig ((q.num*(r.den:Int))+(r.num*(q.den:Int))).natAbs).length≤40001 from Len.add (k:=40000) u2.out v2.out);refine Flow.run [⟨0,5,fun fv fw=>fv=.pointer (some ⟨w.heap.size,0,none⟩)⟩,⟨1,6,fun fv fw=>fv=.agg #[.bool n,.slice A l c]⟩,⟨2,7,fun fv fw=>fv=.pointer (some ⟨w.heap.size+1,2,none⟩)⟩,⟨3,8,fun fv fw=>fv=.agg #[.bool m2,.slice B' k' d']⟩,⟨4,9,fun fv fw=>LV fw fw.heap.size fv (q.num*(r.den:Int))⟩,⟨5,10,fun fv fw=>fv=.pointer (some ⟨w.heap.size+1,0,none⟩)⟩,⟨6,11,fun fv fw=>fv=.agg #[.bool n2,.slice B k d]⟩,⟨7,12,fun fv fw=>fv=.pointer (some ⟨w.heap.size,2,none⟩)⟩,⟨8,13,fun fv fw=>fv=.agg #[.bool m,.slice A' l' c']⟩,⟨9,14,fun fv fw=>LV fw fw.heap.size fv (r.num*(q.den:Int))⟩,⟨10,15,fun fv fw=>LV fw fw.heap.size fv ((q.num*(r.den:Int))+(r.num*(q.den:Int)))⟩,⟨11,16,fun fv fw=>fv=.pointer (some ⟨w.heap.size,2,none⟩)⟩,⟨12,17,fun fv fw=>fv=.agg #[.bool m,.slice A' l' c']⟩,⟨13,18,fun fv fw=>fv=.pointer (some ⟨w.heap.size+1,2,none⟩)⟩,⟨14,19,fun fv fw=>fv=.agg #[.bool m2,.slice B' k' d']⟩,⟨15,20,fun fv fw=>LV fw fw.heap.size fv ((q.den:Int)*(r.den:Int))⟩,⟨16,21,fun fv fw=>QV fw fw.heap.size fv p⟩] [] [] 1 (by kernel_rfl) (by kernel_rfl) (by kernel_rfl) (fun _ _ _ _ _ h=>h) ?_ ?_ ?_ ?_
 ·refine(a0 (a0 (a0 (a0 (all_cons (fun v w1 w2 h hb=>h.step hb) (a0 (a0 (a0 (a0 (all_cons (fun v w1 w2 h hb=>h.step hb) (all_cons (fun v w1 w2 h hb=>h.step hb) (a0 (a0 (a0 (a0 (all_cons (fun v w1 w2 h hb=>h.step hb) (all_cons (fun v w1 w2 h hb=>h.step hb) all_nil)))))))))))))))))
 ·refine(all_cons ?_ (all_cons ?_ (all_cons ?_ (all_cons ?_ (all_cons ?_ (all_cons ?_ (all_cons ?_ (all_cons ?_ (all_cons ?_ (all_cons ?_ (all_cons ?_ (all_cons ?_ (all_cons ?_ (all_cons ?_ (all_cons ?_ (all_cons ?_ (all_cons ?_ all_nil)))))))))))))))))
  ·intro xs g2 b0 c0;clear b0;clear c0;refine wpOp_step (o:=_) rfl (fun K hK=>?_);simp only[FL]
   go_simp;refine hK _ _ ⟨.pointer (some ⟨w.heap.size,0,none⟩),by kernel_rfl,Below.refl _ _,rfl,nF⟩
  ·intro xs i2 b0 c0;have V0:=zz b0;have j2:=b0.size;clear b0;have f0:(xs 0)=.pointer (some ⟨w.heap.size,0,none⟩):=c0 _ (m_ 0 rfl) (by kernel_rfl);clear c0;refine wpOp_step (o:=_) rfl (fun K hK=>?_);simp only[FL]
   have r0:=CB.step La V0.out;have C1:=r0.cell 0 rfl;have D1:=r0.cell 1 rfl;go_simp;refine hK _ _ ⟨.agg #[.bool n,.slice A l c],by simp only[FL,f0] <;> kernel_rfl,Below.refl _ _,rfl,nF⟩
  ·intro xs k2 b0 c0;clear b0;clear c0;refine wpOp_step (o:=_) rfl (fun K hK=>?_);simp only[FL]
   go_simp;refine hK _ _ ⟨.pointer (some ⟨w.heap.size+1,2,none⟩),by kernel_rfl,Below.refl _ _,rfl,nF⟩
  ·intro xs o2 b0 c0;have W0:=zz b0;have p2:=b0.size;clear b0;have f2:(xs 2)=.pointer (some ⟨w.heap.size+1,2,none⟩):=c0 _ (m_ 2 rfl) (by kernel_rfl);clear c0;refine wpOp_step (o:=_) rfl (fun K hK=>?_);simp only[FL]
   have s0:=CB.step Lb W0.out;have F1:=s0.cell 2 rfl;have G1:=s0.cell 3 rfl;go_simp;refine hK _ _ ⟨.agg #[.bool m2,.slice B' k' d'],by simp only[FL,f2] <;> kernel_rfl,Below.refl _ _,rfl,nF⟩
  ·intro xs q2 b0 c0;have t0:=zz b0;have r2:=b0.size;clear b0;have f1:(xs 1)=.agg #[.bool n,.slice A l c]:=c0 _ (m_ 1 rfl) (by kernel_rfl);have f3:(xs 3)=.agg #[.bool m2,.slice B' k' d']:=c0 _ (m_ 3 rfl) (by kernel_rfl);clear c0;refine wpOp_step (o:=_) rfl (fun K hK=>?_);simp only[FL]
   go_simp;have u0:=zz (LV.step H1.out t0.out);have v0:=zz (LV.step H4.out t0.out);(with_reducible refine(RProd_any _ _ _ q.num (r.den:Int) u0.out v0.out (by have:=HL.out;omega) (by rw[Int.natAbs_natCast];have:=HL.out;omega)).mono ?_)
   rintro e wc12 ⟨X0,v12,rfl,Y0⟩;refine hK _ _ ⟨v12,by simp only[FL,f1,f3] <;> kernel_rfl,X0,Y0,nF⟩
  ·intro xs I1 b0 c0;clear b0;clear c0;refine wpOp_step (o:=_) rfl (fun K hK=>?_);simp only[FL]
   go_simp;refine hK _ _ ⟨.pointer (some ⟨w.heap.size+1,0,none⟩),by kernel_rfl,Below.refl _ _,rfl,nF⟩
  ·intro xs K1 b0 c0;have G0:=zz b0;have L1:=b0.size;clear b0;have f5:(xs 5)=.pointer (some ⟨w.heap.size+1,0,none⟩):=c0 _ (m_ 5 rfl) (by kernel_rfl);clear c0;refine wpOp_step (o:=_) rfl (fun K hK=>?_);simp only[FL]
   have i0:=CB.step Lb G0.out;have k1:=i0.cell 0 rfl;have l1:=i0.cell 1 rfl;go_simp;refine hK _ _ ⟨.agg #[.bool n2,.slice B k d],by simp only[FL,f5] <;> kernel_rfl,Below.refl _ _,rfl,nF⟩
  ·intro xs M1 b0 c0;clear b0;clear c0;refine wpOp_step (o:=_) rfl (fun K hK=>?_);simp only[FL]
   go_simp;refine hK _ _ ⟨.pointer (some ⟨w.heap.size,2,none⟩),by kernel_rfl,Below.refl _ _,rfl,nF⟩
  ·intro xs O1 b0 c0;have H0:=zz b0;have P1:=b0.size;clear b0;have f7:(xs 7)=.pointer (some ⟨w.heap.size,2,none⟩):=c0 _ (m_ 7 rfl) (by kernel_rfl);clear c0;refine wpOp_step (o:=_) rfl (fun K hK=>?_);simp only[FL]
   have j0:=CB.step La H0.out;have n1:=j0.cell 2 rfl;have o1:=j0.cell 3 rfl;go_simp;refine hK _ _ ⟨.agg #[.bool m,.slice A' l' c'],by simp only[FL,f7] <;> kernel_rfl,Below.refl _ _,rfl,nF⟩
  ·intro xs Q1 b0 c0;have k0:=zz b0;have R1:=b0.size;clear b0;have f6:(xs 6)=.agg #[.bool n2,.slice B k d]:=c0 _ (m_ 6 rfl) (by kernel_rfl);have f8:(xs 8)=.agg #[.bool m,.slice A' l' c']:=c0 _ (m_ 8 rfl) (by kernel_rfl);clear c0;refine wpOp_step (o:=_) rfl (fun K hK=>?_);simp only[FL]
   go_simp;have y0:=zz (LV.step H3.out k0.out);have A0:=zz (LV.step H2.out k0.out);(with_reducible refine(RProd_any _ _ _ r.num (q.den:Int) y0.out A0.out (by have:=HL.out;omega) (by rw[Int.natAbs_natCast];have:=HL.out;omega)).mono ?_)
   rintro e wc24 ⟨Z0,v24,rfl,a1⟩;refine hK _ _ ⟨v24,by simp only[FL,f6,f8] <;> kernel_rfl,Z0,a1,nF⟩
  ·intro xs g0 b0 c0;have p1:=zz b0;have S1:=b0.size;clear b0;have f4:LV g0 g0.heap.size (xs 4) (q.num*(r.den:Int)):=c0 _ (m_ 4 rfl) (by kernel_rfl);have f9:LV g0 g0.heap.size (xs 9) (r.num*(q.den:Int)):=c0 _ (m_ 9 rfl) (by kernel_rfl);clear c0;refine wpOp_step (o:=_) rfl (fun K hK=>?_);simp only[FL]
   go_simp;(with_reducible refine(RSum_any _ _ _ (q.num*(r.den:Int)) (r.num*(q.den:Int)) f4 f9 (by have:=u2.out;omega) (by have:=v2.out;omega)).mono ?_)
   rintro e wc26 ⟨b1,v26,rfl,c1⟩;refine hK _ _ ⟨v26,by kernel_rfl,b1,c1,nF⟩
  ·intro xs T1 b0 c0;clear b0;clear c0;refine wpOp_step (o:=_) rfl (fun K hK=>?_);simp only[FL]
   go_simp;refine hK _ _ ⟨.pointer (some ⟨w.heap.size,2,none⟩),by kernel_rfl,Below.refl _ _,rfl,nF⟩
  ·intro xs V1 b0 c0;have I0:=zz b0;have W1:=b0.size;clear b0;have f11:(xs 11)=.pointer (some ⟨w.heap.size,2,none⟩):=c0 _ (m_ 11 rfl) (by kernel_rfl);clear c0;refine wpOp_step (o:=_) rfl (fun K hK=>?_);simp only[FL]
   have l0:=CB.step La I0.out;have r1:=l0.cell 2 rfl;have s1:=l0.cell 3 rfl;go_simp;refine hK _ _ ⟨.agg #[.bool m,.slice A' l' c'],by simp only[FL,f11] <;> kernel_rfl,Below.refl _ _,rfl,nF⟩
  ·intro xs X1 b0 c0;clear b0;clear c0;refine wpOp_step (o:=_) rfl (fun K hK=>?_);simp only[FL]
   go_simp;refine hK _ _ ⟨.pointer (some ⟨w.heap.size+1,2,none⟩),by kernel_rfl,Below.refl _ _,rfl,nF⟩
  ·intro xs Z1 b0 c0;have J0:=zz b0;have a2:=b0.size;clear b0;have f13:(xs 13)=.pointer (some ⟨w.heap.size+1,2,none⟩):=c0 _ (m_ 13 rfl) (by kernel_rfl);clear c0;refine wpOp_step (o:=_) rfl (fun K hK=>?_);simp only[FL]
   have m0:=CB.step Lb J0.out;have u1:=m0.cell 2 rfl;have v1:=m0.cell 3 rfl;go_simp;refine hK _ _ ⟨.agg #[.bool m2,.slice B' k' d'],by simp only[FL,f13] <;> kernel_rfl,Below.refl _ _,rfl,nF⟩
  ·intro xs b2 b0 c0;have n0:=zz b0;have c2:=b0.size;clear b0;have f12:(xs 12)=.agg #[.bool m,.slice A' l' c']:=c0 _ (m_ 12 rfl) (by kernel_rfl);have f14:(xs 14)=.agg #[.bool m2,.slice B' k' d']:=c0 _ (m_ 14 rfl) (by kernel_rfl);clear c0;refine wpOp_step (o:=_) rfl (fun K hK=>?_);simp only[FL]
   go_simp;have C0:=zz (LV.step H2.out n0.out);have D0:=zz (LV.step H4.out n0.out);(with_reducible refine(RProd_any _ _ _ (q.den:Int) (r.den:Int) C0.out D0.out (by rw[Int.natAbs_natCast];have:=HL.out;omega) (by rw[Int.natAbs_natCast];have:=HL.out;omega)).mono ?_)
   rintro e wc38 ⟨d1,v38,rfl,e1⟩;refine hK _ _ ⟨v38,by simp only[FL,f12,f14] <;> kernel_rfl,d1,e1,nF⟩
  ·intro xs h0 b0 c0;have y1:=zz b0;have d2:=b0.size;clear b0;have f10:LV h0 h0.heap.size (xs 10) ((q.num*(r.den:Int))+(r.num*(q.den:Int))):=c0 _ (m_ 10 rfl) (by kernel_rfl);have f15:LV h0 h0.heap.size (xs 15) ((q.den:Int)*(r.den:Int)):=c0 _ (m_ 15 rfl) (by kernel_rfl);clear c0;refine wpOp_step (o:=_) rfl (fun K hK=>?_);simp only[FL]
   go_simp;(with_reducible refine((show Calls Tryz.prog _ _ _ _ from HV.out▸RLowest_any _ _ _ ((q.num*(r.den:Int))+(r.num*(q.den:Int))) ((q.den:Int)*(r.den:Int)) f10 f15 HD.out (by have:=I2.out;omega) (by have:=G2.out;omega))).mono ?_)
   rintro e wc40 ⟨g1,v40,rfl,h1⟩;refine hK _ _ ⟨v40,by kernel_rfl,g1,h1,nF⟩
 ·exact all_nil
 ·intro xs s2 hbf hf hn hd;have f0:(xs 0)=.pointer (some ⟨w.heap.size,0,none⟩):=hf _ (m_ 0 rfl);have f1:(xs 1)=.agg #[.bool n,.slice A l c]:=hf _ (m_ 1 rfl);have f2:(xs 2)=.pointer (some ⟨w.heap.size+1,2,none⟩):=hf _ (m_ 2 rfl);have f3:(xs 3)=.agg #[.bool m2,.slice B' k' d']:=hf _ (m_ 3 rfl);have f4:LV s2 s2.heap.size (xs 4) (q.num*(r.den:Int)):=hf _ (m_ 4 rfl);have f5:(xs 5)=.pointer (some ⟨w.heap.size+1,0,none⟩):=hf _ (m_ 5 rfl);have f6:(xs 6)=.agg #[.bool n2,.slice B k d]:=hf _ (m_ 6 rfl);have f7:(xs 7)=.pointer (some ⟨w.heap.size,2,none⟩):=hf _ (m_ 7 rfl);have f8:(xs 8)=.agg #[.bool m,.slice A' l' c']:=hf _ (m_ 8 rfl);have f9:LV s2 s2.heap.size (xs 9) (r.num*(q.den:Int)):=hf _ (m_ 9 rfl);have f10:LV s2 s2.heap.size (xs 10) ((q.num*(r.den:Int))+(r.num*(q.den:Int))):=hf _ (m_ 10 rfl);have f11:(xs 11)=.pointer (some ⟨w.heap.size,2,none⟩):=hf _ (m_ 11 rfl);have f12:(xs 12)=.agg #[.bool m,.slice A' l' c']:=hf _ (m_ 12 rfl);have f13:(xs 13)=.pointer (some ⟨w.heap.size+1,2,none⟩):=hf _ (m_ 13 rfl);have f14:(xs 14)=.agg #[.bool m2,.slice B' k' d']:=hf _ (m_ 14 rfl);have f15:LV s2 s2.heap.size (xs 15) ((q.den:Int)*(r.den:Int)):=hf _ (m_ 15 rfl);have f16:QV s2 s2.heap.size (xs 16) p:=hf _ (m_ 16 rfl);clear hf hn hd;simp only[FL]
  have B42:=zz hbf;have z42:=B42.out.size;have i1:=zz (B0.out.trans (B42.out.mono B0.out.size));clear hbf;generalize xs 0=x0,xs 1=x1,xs 2=x2,xs 3=x3,xs 4=x4,xs 5=x5,xs 6=x6,xs 7=x7,xs 8=x8,xs 9=x9,xs 10=x10,xs 11=x11,xs 12=x12,xs 13=x13,xs 14=x14,xs 15=x15,xs 16=x16 at *
  obtain rfl:=f0;obtain rfl:=f1;obtain rfl:=f2;obtain rfl:=f3;clear f4;obtain rfl:=f5;obtain rfl:=f6;obtain rfl:=f7;obtain rfl:=f8;clear f9;clear f10;obtain rfl:=f11;obtain rfl:=f12;obtain rfl:=f13;obtain rfl:=f14;clear f15;obtain⟨y2,z2,A2,B2,C2,o0,D2,rfl,ha44,E0,hc44⟩:=f16;have p0:=zz (show QV s2 s2.heap.size (.agg #[.bool y2,.slice z2 A2 B2,.bool false,.slice C2 o0 D2]) p from⟨_,_,_,_,_,_,_,rfl,ha44,E0,hc44⟩);clear ha44 E0 hc44;have d0:=CB.step Lr4 B42.out;have K0:=d0.cell 0 rfl;have L0:=d0.cell 1 rfl;have M0:=d0.cell 2 rfl;have N0:=d0.cell 3 rfl;have E2:=d0.lt;have O0:=d0.frozen 0;have P0:=d0.frozen 1;have Q0:=d0.frozen 2;have R0:=d0.frozen 3;have F2:=d0.lt;refine Early.next (i:=17) (by kernel_rfl) rfl (fun K hK=>?_);go_simp;refine hK _ _ (fun _=>trivial) ?_;clear hK K;(try simp only[Act.put,List.setIfInBounds_toArray,List.set_cons_zero,List.set_cons_succ])
  clear K0 L0 M0 N0 E2 O0 P0 Q0 R0 F2;have S0:=CB.step La B42.out;have T0:=CB.step Lb B42.out;obtain⟨w50,e0⟩:∃ w50:World,w50=((((s2.setCell ⟨w.heap.size+2,0,none⟩ (.bool y2)).setCell ⟨w.heap.size+2,1,none⟩ (.slice z2 A2 B2)).setCell ⟨w.heap.size+2,2,none⟩ (.bool false)).setCell ⟨w.heap.size+2,3,none⟩ (.slice C2 o0 D2)):=⟨_,rfl⟩;rw[← e0];have S50:=zz (p4_s e0 d0 (by simp[noInt_b,noInt_s]));have z1:=p4_f e0 S0 (by omega);have A1:=p4_f e0 T0 (by omega);have F0:=p4_p e0 d0;have U0:=zz (p4_b e0 i1.out (by omega));have e2:=p4_z e0;clear e0;refine Early.done (by kernel_rfl) ?_ _;(try simp only[Exit.then])
  go_wp2;have q0:=zz (QV.soft p0.out (S50.out));exact bodyPost_ret (QB.ret1 rfl _ F0 rfl) rfl ⟨U0.out,_,rfl,q0.out⟩
set_option maxRecDepth 100000 in
set_option maxHeartbeats 4000000 in
theorem RSpanQ_any (w:World) (va:Value) (n m:Bool) (a b:List Int) (ha:QR w w.heap.size va n a m b) :
  Calls Tryz.prog 26 #[va] w fun e w'=>Below w.heap.size w w'∧RetSp (spanQ (qOf n a m b)) e:=by
 obtain⟨A,l,c,A',l',c',rfl,ha⟩:=RI.of ha;have HA:=zz ha;clear ha;obtain⟨w0,hw0⟩:∃ w0:World,w0=((w.alloc (.cells #[.bool n,.slice A l c,.bool m,.slice A' l' c'] 26)).alloc (.cells #[.int .i64 0,.int .i64 0] 52)):=⟨_,rfl⟩;have B0:=zz (n2_b hw0);have z0:=n2_z hw0;have La:=n2_0 hw0;have Lr2:=n2_1 hw0;replace HA:=zz (QR.step HA.out B0.out);rcases h1:qOf n a m b with _ | q
 ·have E1:=zz h1;clear h1;go_enter Tryz.func26,Tryz.ntmps26
  go_upto_region 1 with (fail)
  rw[← hw0];clear hw0;have Q2:=La.cell 0 rfl;have R2:=La.cell 1 rfl;have S2:=La.cell 2 rfl;have T2:=La.cell 3 rfl;have T6:=La.lt;go_wp2_with fail
  refine(RRightQ_no HA.out E1.out).mono ?_;rintro e w1 ⟨O2,rfl⟩;have B3:=zz O2;have z3:=B3.out.size;have u3:=zz (B0.out.trans (B3.out.mono B0.out.size));clear O2;clear Q2 R2 S2 T2 T6;have i0:=CB.step Lr2 B3.out;have U2:=i0.cell 0 rfl;have V2:=i0.cell 1 rfl;have U6:=i0.lt;have W2:=i0.frozen 0;have X2:=i0.frozen 1;have V6:=i0.lt;go_wp2;clear U2 V2 U6 W2 X2 V6;exact SB.put rfl i0 u3.out (by omega) rfl rfl rfl
 ·have E1:=zz h1;clear h1;obtain⟨t,ht⟩:∃ t,t=spanQ (some q):=⟨_,rfl⟩;rw[← ht];obtain⟨y,hy⟩:∃ y,y=q.num*4294967296:=⟨_,rfl⟩;obtain⟨lo,hlo⟩:∃ z,z=y / (q.den:Int):=⟨_,rfl⟩;obtain⟨hi,hhi⟩:∃ z,z=-((-y) / (q.den:Int)):=⟨_,rfl⟩;have hdp:0<(q.den:Int):=by have:=q.den_pos;omega
  have hts:t=if lo.natAbs≤4503599627370496∧hi≤4503599627370496 then ((lo,hi),0) else ((0,0),6):=by rw[ht,spanQ,← hy,spanV,← ceil_neg y hdp,← hlo,← hhi]
  have hle:lo≤hi∧hi≤lo+1:=by rw[hhi,ceil_neg y hdp,← hlo];split <;> omega
  have K6:=zz hts;have d7:=zz hle;have HY:=zz hy;have b7:=zz hlo;have g7:=zz hhi;have c7:=zz hdp;clear hts hle hy hlo hhi hdp ht;go_enter Tryz.func26,Tryz.ntmps26
  go_upto_region 1 with (fail)
  rw[← hw0];clear hw0;have Y2:=La.cell 0 rfl;have Z2:=La.cell 1 rfl;have a3:=La.cell 2 rfl;have b3:=La.cell 3 rfl;have W6:=La.lt;go_wp2_with fail
  refine(RRightQ_yes HA.out E1.out).mono ?_;rintro e w8 ⟨P2,rfl⟩;have B10:=zz P2;have z10:=B10.out.size;have a1:=zz (B0.out.trans (B10.out.mono B0.out.size));clear P2;clear Y2 Z2 a3 b3 W6;have S1:=zz (QR.step HA.out B10.out);have HV:=zz (QR.valid S1.out E1.out);have HN:=zz (QV.fst HV.out.1);have h7:=zz (QV.snd HV.out.1);have hlc:(dig (4294967296:Int).natAbs).length≤2:=by rw[dig_len_le];decide
  have hly:=len_mul HV.out.2.1 hlc;rw[← HY.out] at hly;have hlo:(dig lo.natAbs).length≤604:=by rw[b7.out];have:=floor_len y q.den_nz;omega
  have hlm:(dig (-y).natAbs).length≤602:=by rw[Int.natAbs_neg];exact hly
  have hlh:(dig (-y / (q.den:Int)).natAbs).length≤604:=by have:=floor_len (-y) q.den_nz;omega
  have u6:=zz hlc;have o6:=zz (And.intro hly (And.intro hlo (And.intro hlm (And.intro hlh (And.intro HV.out.2.1 HV.out.2.2)))));clear hlc hly hlo hlm hlh;go_upto_region 3 with (fail)
  refine Flow.run [⟨0,15,fun fv fw=>fv=.pointer (some ⟨w.heap.size,0,none⟩)⟩,⟨1,16,fun fv fw=>fv=.agg #[.bool n,.slice A l c]⟩,⟨2,17,fun fv fw=>LV fw fw.heap.size fv 4294967296⟩,⟨3,18,fun fv fw=>LV fw fw.heap.size fv y⟩,⟨4,4,fun fv fw=>∃ b,fv=.pointer (some ⟨b,0,none⟩)∧CB fw b 24 #[.bool false,.slice none 0 0]⟩] [] [4] 1 (by kernel_rfl) (by kernel_rfl) (by kernel_rfl) (fun _ _ _ _ _ h=>h) ?_ ?_ ?_ ?_
  ·refine(a0 (a0 (all_cons (fun v w1 w2 h hb=>h.step hb) (all_cons (fun v w1 w2 h hb=>h.step hb) (all_cons (fun v w1 w2 h hb=>let ⟨b,e,h⟩:=h;⟨b,e,h.step hb⟩) all_nil)))))
  ·refine(all_cons ?_ (all_cons ?_ (all_cons ?_ (all_cons ?_ (all_cons ?_ all_nil)))))
   ·intro xs s5 c0 b0;clear c0;clear b0;refine wpOp_step (o:=_) rfl (fun K hK=>?_);simp only[FL]
    go_simp;refine hK _ _ ⟨.pointer (some ⟨w.heap.size,0,none⟩),by kernel_rfl,Below.refl _ _,rfl,nF⟩
   ·intro xs u5 c0 b0;have T1:=zz c0;have v5:=c0.size;clear c0;have f0:(xs 0)=.pointer (some ⟨w.heap.size,0,none⟩):=b0 _ (m_ 0 rfl) (by kernel_rfl);clear b0;refine wpOp_step (o:=_) rfl (fun K hK=>?_);simp only[FL]
    have P1_3_16:=zz (B10.out.trans (T1.out.mono B10.out.size));have E0:=CB.step La P1_3_16.out;have c4:=E0.cell 0 rfl;have d4:=E0.cell 1 rfl;go_simp;refine hK _ _ ⟨.agg #[.bool n,.slice A l c],by simp only[FL,f0] <;> kernel_rfl,Below.refl _ _,rfl,nF⟩
   ·intro xs w5 c0 b0;clear c0;clear b0;refine wpOp_step (o:=_) rfl (fun K hK=>?_);simp only[FL]
    go_simp;(with_reducible refine(ROf_any _ 4294967296 (by decide) (by decide)).mono ?_)
    rintro e wc19 ⟨c3,v19,rfl,d3⟩;refine hK _ _ ⟨v19,by kernel_rfl,c3,d3,nF⟩
   ·intro xs b1 c0 b0;have U1:=zz c0;have z5:=c0.size;clear c0;have f1:(xs 1)=.agg #[.bool n,.slice A l c]:=b0 _ (m_ 1 rfl) (by kernel_rfl);have f2:LV b1 b1.heap.size (xs 2) 4294967296:=b0 _ (m_ 2 rfl) (by kernel_rfl);clear b0;refine wpOp_step (o:=_) rfl (fun K hK=>?_);simp only[FL]
    go_simp;have V1:=zz (LV.step HN.out U1.out);(with_reducible refine((show Calls Tryz.prog _ _ _ _ from HY.out▸RProd_any _ _ _ q.num 4294967296 V1.out f2 (by have:=o6.out;have:=u6.out;omega) (by have:=o6.out;have:=u6.out;omega))).mono ?_)
    rintro e wc22 ⟨e3,v22,rfl,g3⟩;refine hK _ _ ⟨v22,by simp only[FL,f1] <;> kernel_rfl,e3,g3,nF⟩
   ·intro xs h3 c0 b0;clear c0;clear b0;refine wpOp_step (o:=_) rfl (fun K hK=>?_);simp only[FL]
    go_simp;refine hK _ _ ⟨.pointer (some ⟨h3.heap.size,0,none⟩),by kernel_rfl,(Below.refl _ _).alloc (Nat.le_refl _) _,⟨_,rfl,CB.new _ _ _⟩,fun _=>⟨_,rfl,Nat.le_refl _,by simp⟩⟩
  ·exact all_nil
  ·intro xs m6 hbf hf hn hd;have f0:(xs 0)=.pointer (some ⟨w.heap.size,0,none⟩):=hf _ (m_ 0 rfl);have f1:(xs 1)=.agg #[.bool n,.slice A l c]:=hf _ (m_ 1 rfl);have f2:LV m6 m6.heap.size (xs 2) 4294967296:=hf _ (m_ 2 rfl);have f3:LV m6 m6.heap.size (xs 3) y:=hf _ (m_ 3 rfl);have f4:∃ b,(xs 4)=.pointer (some ⟨b,0,none⟩)∧CB m6 b 24 #[.bool false,.slice none 0 0]:=hf _ (m_ 4 rfl);have n4:=hn 4 (by decide);clear hf hn hd;simp only[FL]
   have B25:=zz hbf;have z25:=B25.out.size;have i3:=zz (a1.out.trans (B25.out.mono a1.out.size));clear hbf;generalize xs 0=x0,xs 1=x1,xs 2=x2,xs 3=x3,xs 4=x4 at *
   obtain rfl:=f0;obtain rfl:=f1;clear f2;obtain⟨n27,s6,l27,c27,rfl,c1⟩:=f3.opened;have W1:=zz c1;clear f3 c1;obtain⟨t6,rfl,h6⟩:=f4;have v6:=zz (show w8.heap.size≤t6 by obtain⟨b',e,h,-⟩:=n4;injection e with e;injection e with e;injection e with e _ _;omega);clear n4;have X6:=h6.lt;have Y6:=v6.out;have X1:=h6.cell 0 rfl;have Y1:=h6.cell 1 rfl;have M6:=h6.lt;have Z1:=h6.frozen 0;have a2:=h6.frozen 1;have N6:=h6.lt;refine Early.next (i:=5) (by kernel_rfl) rfl (fun K hK=>?_);go_simp;refine hK _ _ (fun _=>trivial) ?_;clear hK K;(try simp only[Act.put,List.setIfInBounds_toArray,List.set_cons_zero,List.set_cons_succ])
   clear X1 Y1 M6 Z1 a2 N6;have P1_3_33:=zz (B10.out.trans (B25.out.mono B10.out.size));have b2:=CB.step La P1_3_33.out;have d1:=CB.step Lr2 P1_3_33.out;obtain⟨w35,k0⟩:∃ w35:World,w35=((m6.setCell ⟨t6,0,none⟩ (.bool n27)).setCell ⟨t6,1,none⟩ (.slice s6 l27 c27)):=⟨_,rfl⟩;rw[← k0];have S35:=zz (p2_s k0 h6 (by simp[noInt_b,noInt_s]));have j0:=p2_f k0 b2 (by omega);have e1:=p2_f k0 d1 (by omega);have q0:=p2_p k0 h6;have F0:=zz (p2_b k0 i3.out (by omega));have B5:=p2_z k0;clear k0;refine Early.done (by kernel_rfl) ?_ _;(try simp only[Exit.then])
   have c2:=q0.cell 0 rfl;have d2:=q0.cell 1 rfl;have O6:=q0.lt;have e2:=j0.cell 0 rfl;have g2:=j0.cell 1 rfl;have h2:=j0.cell 2 rfl;have i2:=j0.cell 3 rfl;have P6:=j0.lt;go_wp2_with fail
   have G0:=zz (LV.soft W1.out (S35.out));have H0:=zz (LV.soft h7.out ((Soft.of B25.out).trans (S35.out)));refine(RDownQ_any _ _ _ y (q.den:Int) G0.out H0.out c7.out (by have:=o6.out;have:=u6.out;omega) (by rw[Int.natAbs_natCast];have:=o6.out.2.2.2.2.2;omega)).mono ?_;rintro e w36 ⟨g1,v,rfl,hv⟩;have B41:=zz g1;have z41:=B41.out.size;have i1:=zz (F0.out.trans (B41.out.mono F0.out.size));clear g1;clear c2 d2 O6 e2 g2 h2 i2 P6;rw[← b7.out] at hv;obtain⟨n43,i6,l43,c43,rfl,j1⟩:=hv.opened;have r0:=zz j1;clear hv j1;go_upto_region 5 with (fail)
   obtain⟨w44,u0⟩:∃ w44:World,w44=(w36.alloc (.cells #[.bool n43,.slice i6 l43 c43] 24)):=⟨_,rfl⟩;rw[← u0];have S0:=n1_0 u0;have za44:=n1_z u0;have B45:=zz (n1_b u0);have z45:=B45.out.size;have k1:=zz (i1.out.trans (B45.out.mono i1.out.size));clear u0;refine Flow.run [⟨0,23,fun fv fw=>fv=.agg #[.bool n27,.slice s6 l27 c27]⟩,⟨1,24,fun fv fw=>LV fw fw.heap.size fv (-y)⟩,⟨2,25,fun fv fw=>fv=.pointer (some ⟨w.heap.size,2,none⟩)⟩,⟨3,26,fun fv fw=>fv=.agg #[.bool m,.slice A' l' c']⟩,⟨4,27,fun fv fw=>LV fw fw.heap.size fv (-y / (q.den:Int))⟩,⟨5,28,fun fv fw=>LV fw fw.heap.size fv hi⟩,⟨6,6,fun fv fw=>∃ b,fv=.pointer (some ⟨b,0,none⟩)∧CB fw b 24 #[.bool false,.slice none 0 0]⟩] [] [6] 1 (by kernel_rfl) (by kernel_rfl) (by kernel_rfl) (fun _ _ _ _ _ h=>h) ?_ ?_ ?_ ?_
   ·refine(a0 (all_cons (fun v w1 w2 h hb=>h.step hb) (a0 (a0 (all_cons (fun v w1 w2 h hb=>h.step hb) (all_cons (fun v w1 w2 h hb=>h.step hb) (all_cons (fun v w1 w2 h hb=>let ⟨b,e,h⟩:=h;⟨b,e,h.step hb⟩) all_nil)))))))
   ·refine(all_cons ?_ (all_cons ?_ (all_cons ?_ (all_cons ?_ (all_cons ?_ (all_cons ?_ (all_cons ?_ all_nil)))))))
    ·intro xs C5 c0 b0;have j2:=zz c0;have D5:=c0.size;clear c0;clear b0;refine wpOp_step (o:=_) rfl (fun K hK=>?_);simp only[FL]
     have P4_6_49:=zz (B41.out.trans (B45.out.mono B41.out.size));have P4_7_50:=zz (P4_6_49.out.trans (j2.out.mono P4_6_49.out.size));have I0:=CB.step q0 P4_7_50.out;have h4:=I0.cell 0 rfl;have i4:=I0.cell 1 rfl;go_simp;refine hK _ _ ⟨.agg #[.bool n27,.slice s6 l27 c27],by kernel_rfl,Below.refl _ _,rfl,nF⟩
    ·intro xs E5 c0 b0;have k2:=zz c0;have F5:=c0.size;clear c0;have f0:(xs 0)=.agg #[.bool n27,.slice s6 l27 c27]:=b0 _ (m_ 0 rfl) (by kernel_rfl);clear b0;refine wpOp_step (o:=_) rfl (fun K hK=>?_);simp only[FL]
     go_simp;have P4_6_53:=zz (B41.out.trans (B45.out.mono B41.out.size));have P4_7_54:=zz (P4_6_53.out.trans (k2.out.mono P4_6_53.out.size));have l2:=zz (LV.step G0.out P4_7_54.out);(with_reducible refine(RMinus_any _ _ y l2.out (by have:=o6.out;have:=u6.out;omega)).mono ?_)
     rintro e wc56 ⟨j3,v56,rfl,k3⟩;refine hK _ _ ⟨v56,by simp only[FL,f0] <;> kernel_rfl,j3,k3,nF⟩
    ·intro xs G5 c0 b0;have j4:=zz c0;have H5:=c0.size;clear c0;clear b0;refine wpOp_step (o:=_) rfl (fun K hK=>?_);simp only[FL]
     go_simp;refine hK _ _ ⟨.pointer (some ⟨w.heap.size,2,none⟩),by kernel_rfl,Below.refl _ _,rfl,nF⟩
    ·intro xs I5 c0 b0;have m2:=zz c0;have J5:=c0.size;clear c0;have f2:(xs 2)=.pointer (some ⟨w.heap.size,2,none⟩):=b0 _ (m_ 2 rfl) (by kernel_rfl);clear b0;refine wpOp_step (o:=_) rfl (fun K hK=>?_);simp only[FL]
     have P4_6_60:=zz (B41.out.trans (B45.out.mono B41.out.size));have P4_7_61:=zz (P4_6_60.out.trans (m2.out.mono P4_6_60.out.size));have J0:=CB.step j0 P4_7_61.out;have k4:=J0.cell 2 rfl;have l4:=J0.cell 3 rfl;go_simp;refine hK _ _ ⟨.agg #[.bool m,.slice A' l' c'],by simp only[FL,f2] <;> kernel_rfl,Below.refl _ _,rfl,nF⟩
    ·intro xs l1 c0 b0;have n2:=zz c0;have K5:=c0.size;clear c0;have f1:LV l1 l1.heap.size (xs 1) (-y):=b0 _ (m_ 1 rfl) (by kernel_rfl);have f3:(xs 3)=.agg #[.bool m,.slice A' l' c']:=b0 _ (m_ 3 rfl) (by kernel_rfl);clear b0;refine wpOp_step (o:=_) rfl (fun K hK=>?_);simp only[FL]
     go_simp;have P4_6_64:=zz (B41.out.trans (B45.out.mono B41.out.size));have P4_7_65:=zz (P4_6_64.out.trans (n2.out.mono P4_6_64.out.size));have o2:=zz (LV.step H0.out P4_7_65.out);(with_reducible refine(RDownQ_any _ _ _ (-y) (q.den:Int) f1 o2.out c7.out (by have:=o6.out;have:=u6.out;omega) (by rw[Int.natAbs_natCast];have:=o6.out.2.2.2.2.2;omega)).mono ?_)
     rintro e wc67 ⟨l3,v67,rfl,m3⟩;refine hK _ _ ⟨v67,by simp only[FL,f3] <;> kernel_rfl,l3,m3,nF⟩
    ·intro xs m1 c0 b0;have m4:=zz c0;have L5:=c0.size;clear c0;have f4:LV m1 m1.heap.size (xs 4) (-y / (q.den:Int)):=b0 _ (m_ 4 rfl) (by kernel_rfl);clear b0;refine wpOp_step (o:=_) rfl (fun K hK=>?_);simp only[FL]
     go_simp;(with_reducible refine((show Calls Tryz.prog _ _ _ _ from g7.out▸RMinus_any _ _ (-y / (q.den:Int)) f4 (by have:=o6.out;have:=u6.out;omega))).mono ?_)
     rintro e wc69 ⟨n3,v69,rfl,o3⟩;refine hK _ _ ⟨v69,by kernel_rfl,n3,o3,nF⟩
    ·intro xs p3 c0 b0;have o4:=zz c0;have M5:=c0.size;clear c0;clear b0;refine wpOp_step (o:=_) rfl (fun K hK=>?_);simp only[FL]
     go_simp;refine hK _ _ ⟨.pointer (some ⟨p3.heap.size,0,none⟩),by kernel_rfl,(Below.refl _ _).alloc (Nat.le_refl _) _,⟨_,rfl,CB.new _ _ _⟩,fun _=>⟨_,rfl,Nat.le_refl _,by simp⟩⟩
   ·exact all_nil
   ·intro xs k6 hbf hf hn hd;have f0:(xs 0)=.agg #[.bool n27,.slice s6 l27 c27]:=hf _ (m_ 0 rfl);have f1:LV k6 k6.heap.size (xs 1) (-y):=hf _ (m_ 1 rfl);have f2:(xs 2)=.pointer (some ⟨w.heap.size,2,none⟩):=hf _ (m_ 2 rfl);have f3:(xs 3)=.agg #[.bool m,.slice A' l' c']:=hf _ (m_ 3 rfl);have f4:LV k6 k6.heap.size (xs 4) (-y / (q.den:Int)):=hf _ (m_ 4 rfl);have f5:LV k6 k6.heap.size (xs 5) hi:=hf _ (m_ 5 rfl);have f6:∃ b,(xs 6)=.pointer (some ⟨b,0,none⟩)∧CB k6 b 24 #[.bool false,.slice none 0 0]:=hf _ (m_ 6 rfl);have n6:=hn 6 (by decide);clear hf hn hd;simp only[FL]
    have B72:=zz hbf;have z72:=B72.out.size;have q3:=zz (k1.out.trans (B72.out.mono k1.out.size));clear hbf;generalize xs 0=x0,xs 1=x1,xs 2=x2,xs 3=x3,xs 4=x4,xs 5=x5,xs 6=x6 at *
    obtain rfl:=f0;clear f1;obtain rfl:=f2;obtain rfl:=f3;clear f4;obtain⟨n74,j6,l74,c74,rfl,n1⟩:=f5.opened;have v0:=zz n1;clear f5 n1;obtain⟨l6,rfl,g6⟩:=f6;have p6:=zz (show w44.heap.size≤l6 by obtain⟨b',e,h,-⟩:=n6;injection e with e;injection e with e;injection e with e _ _;omega);clear n6;have H6:=g6.lt;have I6:=p6.out;have p2:=g6.cell 0 rfl;have q2:=g6.cell 1 rfl;have Q6:=g6.lt;have r2:=g6.frozen 0;have s2:=g6.frozen 1;have R6:=g6.lt;refine Early.next (i:=7) (by kernel_rfl) rfl (fun K hK=>?_);go_simp;refine hK _ _ (fun _=>trivial) ?_;clear hK K;(try simp only[Act.put,List.setIfInBounds_toArray,List.set_cons_zero,List.set_cons_succ])
    clear p2 q2 Q6 r2 s2 R6;have P4_6_80:=zz (B41.out.trans (B45.out.mono B41.out.size));have P4_7_81:=zz (P4_6_80.out.trans (B72.out.mono P4_6_80.out.size));have t2:=CB.step j0 P4_7_81.out;have o1:=CB.step e1 P4_7_81.out;have u2:=CB.step q0 P4_7_81.out;have T0:=CB.step S0 B72.out;obtain⟨w85,h0⟩:∃ w85:World,w85=((k6.setCell ⟨l6,0,none⟩ (.bool n74)).setCell ⟨l6,1,none⟩ (.slice j6 l74 c74)):=⟨_,rfl⟩;rw[← h0];have S85:=zz (p2_s h0 g6 (by simp[noInt_b,noInt_s]));have p4:=p2_f h0 t2 (by omega);have y0:=p2_f h0 o1 (by omega);have q4:=p2_f h0 u2 (by omega);have m0:=p2_f h0 T0 (by omega);have o0:=p2_p h0 g6;have n0:=zz (p2_b h0 q3.out (by omega));have N5:=p2_z h0;clear h0;refine Early.done (by kernel_rfl) ?_ _;(try simp only[Exit.then])
    go_upto_region 6 with (fail)
    by_cases hc1:lo < -4503599627370496
    ·have HT:=zz (show t=((0,0),6) by rw[K6.out];exact if_neg (fun h=>by omega));have HC:=zz (cmpZ_lt hc1);clear hc1;refine Flow.run [⟨0,29,fun fv fw=>fv=.agg #[.bool n43,.slice i6 l43 c43]⟩,⟨1,30,fun fv fw=>LV fw fw.heap.size fv (-4503599627370496)⟩,⟨2,31,fun fv fw=>fv=.int .i64 (-1)⟩,⟨3,32,fun fv fw=>fv=.bool true⟩,⟨4,33,fun fv fw=>fv=.bool true⟩,⟨5,34,fun fv fw=>True⟩,⟨6,35,fun fv fw=>True⟩,⟨7,36,fun fv fw=>True⟩,⟨8,37,fun fv fw=>True⟩,⟨9,38,fun fv fw=>fv=.bool true⟩] [] [] 0 (by kernel_rfl) (by kernel_rfl) (by kernel_rfl) (fun _ _ _ _ _ h=>h) ?_ ?_ ?_ ?_
     ·refine(a0 (all_cons (fun v w1 w2 h hb=>h.step hb) (a0 (a0 (a0 (a0 (a0 (a0 (a0 (a0 all_nil))))))))))
     ·refine(all_cons ?_ (all_cons ?_ (all_cons ?_ (all_cons ?_ (all_cons ?_ (all_cons ?_ (all_cons ?_ (all_cons ?_ (all_cons ?_ (all_cons ?_ all_nil))))))))))
      ·intro xs O5 c0 b0;have v2:=zz c0;have P5:=c0.size;clear c0;clear b0;refine wpOp_step (o:=_) rfl (fun K hK=>?_);simp only[FL]
       have D0:=CB.step m0 v2.out;have r4:=D0.cell 0 rfl;have s4:=D0.cell 1 rfl;go_simp;refine hK _ _ ⟨.agg #[.bool n43,.slice i6 l43 c43],by kernel_rfl,Below.refl _ _,rfl,nF⟩
      ·intro xs Q5 c0 b0;have t4:=zz c0;have R5:=c0.size;clear c0;clear b0;refine wpOp_step (o:=_) rfl (fun K hK=>?_);simp only[FL]
       go_simp;(with_reducible refine(ROf_any _ (-4503599627370496) (by decide) (by decide)).mono ?_)
       rintro e wc90 ⟨r3,v90,rfl,s3⟩;refine hK _ _ ⟨v90,by kernel_rfl,r3,s3,nF⟩
      ·intro xs p1 c0 b0;have y2:=zz c0;have S5:=c0.size;clear c0;have f0:(xs 0)=.agg #[.bool n43,.slice i6 l43 c43]:=b0 _ (m_ 0 rfl) (by kernel_rfl);have f1:LV p1 p1.heap.size (xs 1) (-4503599627370496):=b0 _ (m_ 1 rfl) (by kernel_rfl);clear b0;refine wpOp_step (o:=_) rfl (fun K hK=>?_);simp only[FL]
       go_simp;have q1:=zz (LV.soft r0.out ((((Soft.of B45.out).trans (Soft.of B72.out)).trans (S85.out)).trans (Soft.of y2.out)));(with_reducible refine((show Calls Tryz.prog _ _ _ _ from HC.out▸ROrder_any _ _ _ lo (-4503599627370496) q1.out f1)).mono ?_)
       rintro e wc93 ⟨t3,rfl⟩;refine hK _ _ ⟨.int .i64 (-1),by simp only[FL,f0] <;> kernel_rfl,t3,rfl,nF⟩
      ·intro xs T5 c0 b0;have u4:=zz c0;have U5:=c0.size;clear c0;have f2:(xs 2)=.int .i64 (-1):=b0 _ (m_ 2 rfl) (by kernel_rfl);clear b0;refine wpOp_step (o:=_) rfl (fun K hK=>?_);simp only[FL]
       go_simp;refine hK _ _ ⟨.bool true,by simp only[FL,f2] <;> kernel_rfl,Below.refl _ _,rfl,nF⟩
      ·intro xs V5 c0 b0;have v4:=zz c0;have W5:=c0.size;clear c0;have f3:(xs 3)=.bool true:=b0 _ (m_ 3 rfl) (by kernel_rfl);clear b0;refine wpOp_step (o:=_) rfl (fun K hK=>?_);simp only[FL]
       go_simp;refine hK _ _ ⟨.bool true,by simp only[FL,f3] <;> kernel_rfl,Below.refl _ _,rfl,nF⟩
      ·intro xs X5 c0 b0;have w4:=zz c0;have Y5:=c0.size;clear c0;have f4:(xs 4)=.bool true:=b0 _ (m_ 4 rfl) (by kernel_rfl);clear b0;refine wpOp_step (o:=?_) ?y4 ?_
       case y4=>exact rfl
       intro K hK;simp only[FL]
       go_simp;refine hK _ _ ⟨undef,by simp only[FL,f4] <;> kernel_rfl,Below.refl _ _,trivial,nF⟩
      ·intro xs Z5 c0 b0;have z4:=zz c0;have a6:=c0.size;clear c0;have f4:(xs 4)=.bool true:=b0 _ (m_ 4 rfl) (by kernel_rfl);clear b0;refine wpOp_step (o:=?_) ?A4 ?_
       case A4=>exact rfl
       intro K hK;simp only[FL]
       go_simp;refine hK _ _ ⟨undef,by simp only[FL,f4] <;> kernel_rfl,Below.refl _ _,trivial,nF⟩
      ·intro xs b6 c0 b0;have B4:=zz c0;have c6:=c0.size;clear c0;have f4:(xs 4)=.bool true:=b0 _ (m_ 4 rfl) (by kernel_rfl);clear b0;refine wpOp_step (o:=?_) ?C4 ?_
       case C4=>exact rfl
       intro K hK;simp only[FL]
       go_simp;refine hK _ _ ⟨undef,by simp only[FL,f4] <;> kernel_rfl,Below.refl _ _,trivial,nF⟩
      ·intro xs d6 c0 b0;have D4:=zz c0;have e6:=c0.size;clear c0;have f4:(xs 4)=.bool true:=b0 _ (m_ 4 rfl) (by kernel_rfl);clear b0;refine wpOp_step (o:=?_) ?E4 ?_
       case E4=>exact rfl
       intro K hK;simp only[FL]
       go_simp;refine hK _ _ ⟨undef,by simp only[FL,f4] <;> kernel_rfl,Below.refl _ _,trivial,nF⟩
      ·intro xs F4 c0 b0;have v3:=zz c0;have G4:=c0.size;clear c0;have f4:(xs 4)=.bool true:=b0 _ (m_ 4 rfl) (by kernel_rfl);clear b0;refine wpOp_step (o:=_) rfl (fun K hK=>?_);simp only[FL]
       go_simp;refine hK _ _ ⟨.bool true,by simp only[FL,f4] <;> kernel_rfl,Below.refl _ _,rfl,nF⟩
     ·exact all_nil
     ·intro xs y6 hbf hf hn hd;have f0:(xs 0)=.agg #[.bool n43,.slice i6 l43 c43]:=hf _ (m_ 0 rfl);have f1:LV y6 y6.heap.size (xs 1) (-4503599627370496):=hf _ (m_ 1 rfl);have f2:(xs 2)=.int .i64 (-1):=hf _ (m_ 2 rfl);have f3:(xs 3)=.bool true:=hf _ (m_ 3 rfl);have f4:(xs 4)=.bool true:=hf _ (m_ 4 rfl);have f5:True:=hf _ (m_ 5 rfl);have f6:True:=hf _ (m_ 6 rfl);have f7:True:=hf _ (m_ 7 rfl);have f8:True:=hf _ (m_ 8 rfl);have f9:(xs 9)=.bool true:=hf _ (m_ 9 rfl);clear hf hn hd;simp only[FL]
      have B102:=zz hbf;have z102:=B102.out.size;have z2:=zz (n0.out.trans (B102.out.mono n0.out.size));clear hbf;generalize xs 0=x0,xs 1=x1,xs 2=x2,xs 3=x3,xs 4=x4,xs 5=x5,xs 6=x6,xs 7=x7,xs 8=x8,xs 9=x9 at *
      obtain rfl:=f0;clear f1;obtain rfl:=f2;obtain rfl:=f3;obtain rfl:=f4;clear f5;clear f6;clear f7;clear f8;obtain rfl:=f9;refine Early.done (by kernel_rfl) ?_ _;(try simp only[Exit.then])
      have d0:=CB.step y0 B102.out;have r1:=d0.cell 0 rfl;have s1:=d0.cell 1 rfl;have z6:=d0.lt;have t1:=d0.frozen 0;have u1:=d0.frozen 1;have A6:=d0.lt;go_wp2;clear r1 s1 z6 t1 u1 A6;exact SB.put rfl d0 z2.out (by omega) (by rw[HT.out]) rfl (by rw[HT.out];rfl)
    ·obtain⟨c,hc⟩:∃ c,(cmpZ lo (-4503599627370496)).1=c:=⟨_,rfl⟩;have hc0:¬ c<0:=hc▸cmpZ_not_lt hc1;have HC:=zz hc;clear hc;by_cases hc2:4503599627370496<hi
     ·have HT:=zz (show t=((0,0),6) by rw[K6.out];exact if_neg (fun h=>by omega));have S6:=zz (cmpZ_gt hc2);clear hc2 hc1;refine Flow.run [⟨0,29,fun fv fw=>fv=.agg #[.bool n43,.slice i6 l43 c43]⟩,⟨1,30,fun fv fw=>LV fw fw.heap.size fv (-4503599627370496)⟩,⟨2,31,fun fv fw=>fv=.int .i64 c⟩,⟨3,32,fun fv fw=>fv=.bool false⟩,⟨4,33,fun fv fw=>fv=.bool false⟩,⟨5,34,fun fv fw=>fv=.agg #[.bool n74,.slice j6 l74 c74]⟩,⟨6,35,fun fv fw=>LV fw fw.heap.size fv 4503599627370496⟩,⟨7,36,fun fv fw=>fv=.int .i64 1⟩,⟨8,37,fun fv fw=>fv=.bool true⟩,⟨9,38,fun fv fw=>fv=.bool true⟩] [] [] 0 (by kernel_rfl) (by kernel_rfl) (by kernel_rfl) (fun _ _ _ _ _ h=>h) ?_ ?_ ?_ ?_
      ·refine(a0 (all_cons (fun v w1 w2 h hb=>h.step hb) (a0 (a0 (a0 (a0 (all_cons (fun v w1 w2 h hb=>h.step hb) (a0 (a0 (a0 all_nil))))))))))
      ·refine(all_cons ?_ (all_cons ?_ (all_cons ?_ (all_cons ?_ (all_cons ?_ (all_cons ?_ (all_cons ?_ (all_cons ?_ (all_cons ?_ (all_cons ?_ all_nil))))))))))
       ·intro xs H4 c0 b0;have v1:=zz c0;have I4:=c0.size;clear c0;clear b0;refine wpOp_step (o:=_) rfl (fun K hK=>?_);simp only[FL]
        have A0:=CB.step m0 v1.out;have w3:=A0.cell 0 rfl;have y3:=A0.cell 1 rfl;go_simp;refine hK _ _ ⟨.agg #[.bool n43,.slice i6 l43 c43],by kernel_rfl,Below.refl _ _,rfl,nF⟩
       ·intro xs J4 c0 b0;have A3:=zz c0;have K4:=c0.size;clear c0;clear b0;refine wpOp_step (o:=_) rfl (fun K hK=>?_);simp only[FL]
        go_simp;(with_reducible refine(ROf_any _ (-4503599627370496) (by decide) (by decide)).mono ?_)
        rintro e wc111 ⟨A2,v111,rfl,B2⟩;refine hK _ _ ⟨v111,by kernel_rfl,A2,B2,nF⟩
       ·intro xs K0 c0 b0;have y1:=zz c0;have L4:=c0.size;clear c0;have f0:(xs 0)=.agg #[.bool n43,.slice i6 l43 c43]:=b0 _ (m_ 0 rfl) (by kernel_rfl);have f1:LV K0 K0.heap.size (xs 1) (-4503599627370496):=b0 _ (m_ 1 rfl) (by kernel_rfl);clear b0;refine wpOp_step (o:=_) rfl (fun K hK=>?_);simp only[FL]
        go_simp;have U0:=zz (LV.soft r0.out ((((Soft.of B45.out).trans (Soft.of B72.out)).trans (S85.out)).trans (Soft.of y1.out)));(with_reducible refine((show Calls Tryz.prog _ _ _ _ from HC.out▸ROrder_any _ _ _ lo (-4503599627370496) U0.out f1)).mono ?_)
        rintro e wc114 ⟨C2,rfl⟩;refine hK _ _ ⟨.int .i64 c,by simp only[FL,f0] <;> kernel_rfl,C2,rfl,nF⟩
       ·intro xs M4 c0 b0;have C3:=zz c0;have N4:=c0.size;clear c0;have f2:(xs 2)=.int .i64 c:=b0 _ (m_ 2 rfl) (by kernel_rfl);clear b0;refine wpOp_step (o:=_) rfl (fun K hK=>?_);simp only[FL]
        go_simp;refine hK _ _ ⟨.bool false,by simp only[FL,f2] <;> kernel_rfl,Below.refl _ _,rfl,nF⟩
       ·intro xs O4 c0 b0;have D3:=zz c0;have P4:=c0.size;clear c0;have f3:(xs 3)=.bool false:=b0 _ (m_ 3 rfl) (by kernel_rfl);clear b0;refine wpOp_step (o:=_) rfl (fun K hK=>?_);simp only[FL]
        go_simp;refine hK _ _ ⟨.bool false,by simp only[FL,f3] <;> kernel_rfl,Below.refl _ _,rfl,nF⟩
       ·intro xs Q4 c0 b0;have z1:=zz c0;have R4:=c0.size;clear c0;have f4:(xs 4)=.bool false:=b0 _ (m_ 4 rfl) (by kernel_rfl);clear b0;refine wpOp_step (o:=?_) ?E3 ?_
        case E3=>exact rfl
        intro K hK;simp only[FL]
        have s0:=CB.step o0 z1.out;have F3:=s0.cell 0 rfl;have G3:=s0.cell 1 rfl;go_simp;refine hK _ _ ⟨.agg #[.bool n74,.slice j6 l74 c74],by simp only[FL,f4] <;> kernel_rfl,Below.refl _ _,rfl,nF⟩
       ·intro xs S4 c0 b0;have H3:=zz c0;have T4:=c0.size;clear c0;have f4:(xs 4)=.bool false:=b0 _ (m_ 4 rfl) (by kernel_rfl);clear b0;refine wpOp_step (o:=?_) ?I3 ?_
        case I3=>exact rfl
        intro K hK;simp only[FL]
        go_simp;(with_reducible refine(ROf_any _ 4503599627370496 (by decide) (by decide)).mono ?_)
        rintro e wc121 ⟨D2,v121,rfl,E2⟩;refine hK _ _ ⟨v121,by simp only[FL,f4] <;> kernel_rfl,D2,E2,nF⟩
       ·intro xs L0 c0 b0;have A1:=zz c0;have U4:=c0.size;clear c0;have f4:(xs 4)=.bool false:=b0 _ (m_ 4 rfl) (by kernel_rfl);have f5:(xs 5)=.agg #[.bool n74,.slice j6 l74 c74]:=b0 _ (m_ 5 rfl) (by kernel_rfl);have f6:LV L0 L0.heap.size (xs 6) 4503599627370496:=b0 _ (m_ 6 rfl) (by kernel_rfl);clear b0;refine wpOp_step (o:=?_) ?J3 ?_
        case J3=>exact rfl
        intro K hK;simp only[FL]
        go_simp;have V0:=zz (LV.soft v0.out ((S85.out).trans (Soft.of A1.out)));(with_reducible refine((show Calls Tryz.prog _ _ _ _ from S6.out▸ROrder_any _ _ _ hi 4503599627370496 V0.out f6)).mono ?_)
        rintro e wc124 ⟨F2,rfl⟩;refine hK _ _ ⟨.int .i64 1,by simp only[FL,f4,f5] <;> kernel_rfl,F2,rfl,nF⟩
       ·intro xs V4 c0 b0;have K3:=zz c0;have W4:=c0.size;clear c0;have f4:(xs 4)=.bool false:=b0 _ (m_ 4 rfl) (by kernel_rfl);have f7:(xs 7)=.int .i64 1:=b0 _ (m_ 7 rfl) (by kernel_rfl);clear b0;refine wpOp_step (o:=?_) ?L3 ?_
        case L3=>exact rfl
        intro K hK;simp only[FL]
        go_simp;refine hK _ _ ⟨.bool true,by simp only[FL,f4,f7] <;> kernel_rfl,Below.refl _ _,rfl,nF⟩
       ·intro xs X4 c0 b0;have M3:=zz c0;have Y4:=c0.size;clear c0;have f4:(xs 4)=.bool false:=b0 _ (m_ 4 rfl) (by kernel_rfl);have f8:(xs 8)=.bool true:=b0 _ (m_ 8 rfl) (by kernel_rfl);clear b0;refine wpOp_step (o:=_) rfl (fun K hK=>?_);simp only[FL]
        go_simp;refine hK _ _ ⟨.bool true,by simp only[FL,f4,f8] <;> kernel_rfl,Below.refl _ _,rfl,nF⟩
      ·exact all_nil
      ·intro xs q6 hbf hf hn hd;have f0:(xs 0)=.agg #[.bool n43,.slice i6 l43 c43]:=hf _ (m_ 0 rfl);have f1:LV q6 q6.heap.size (xs 1) (-4503599627370496):=hf _ (m_ 1 rfl);have f2:(xs 2)=.int .i64 c:=hf _ (m_ 2 rfl);have f3:(xs 3)=.bool false:=hf _ (m_ 3 rfl);have f4:(xs 4)=.bool false:=hf _ (m_ 4 rfl);have f5:(xs 5)=.agg #[.bool n74,.slice j6 l74 c74]:=hf _ (m_ 5 rfl);have f6:LV q6 q6.heap.size (xs 6) 4503599627370496:=hf _ (m_ 6 rfl);have f7:(xs 7)=.int .i64 1:=hf _ (m_ 7 rfl);have f8:(xs 8)=.bool true:=hf _ (m_ 8 rfl);have f9:(xs 9)=.bool true:=hf _ (m_ 9 rfl);clear hf hn hd;simp only[FL]
       have B128:=zz hbf;have z128:=B128.out.size;have G2:=zz (n0.out.trans (B128.out.mono n0.out.size));clear hbf;generalize xs 0=x0,xs 1=x1,xs 2=x2,xs 3=x3,xs 4=x4,xs 5=x5,xs 6=x6,xs 7=x7,xs 8=x8,xs 9=x9 at *
       obtain rfl:=f0;clear f1;obtain rfl:=f2;obtain rfl:=f3;obtain rfl:=f4;obtain rfl:=f5;clear f6;obtain rfl:=f7;obtain rfl:=f8;obtain rfl:=f9;refine Early.done (by kernel_rfl) ?_ _;(try simp only[Exit.then])
       have e0:=CB.step y0 B128.out;have B1:=e0.cell 0 rfl;have C1:=e0.cell 1 rfl;have B6:=e0.lt;have D1:=e0.frozen 0;have F1:=e0.frozen 1;have C6:=e0.lt;go_wp2;clear B1 C1 B6 D1 F1 C6;exact SB.put rfl e0 G2.out (by omega) (by rw[HT.out]) rfl (by rw[HT.out];rfl)
     ·have hle:=d7.out;have HT:=zz (show t=((lo,hi),0) by rw[K6.out];exact if_pos ⟨by omega,by omega⟩);have HB:=zz (show(-9223372036854775808≤lo∧lo≤9223372036854775807)∧(-9223372036854775808≤hi∧hi≤9223372036854775807) by omega);clear hle;obtain⟨e,he⟩:∃ c,(cmpZ hi 4503599627370496).1=c:=⟨_,rfl⟩;have he0:¬ 0<e:=he▸cmpZ_not_gt hc2;have S6:=zz he;clear he hc1 hc2;refine Flow.run [⟨0,29,fun fv fw=>fv=.agg #[.bool n43,.slice i6 l43 c43]⟩,⟨1,30,fun fv fw=>LV fw fw.heap.size fv (-4503599627370496)⟩,⟨2,31,fun fv fw=>fv=.int .i64 c⟩,⟨3,32,fun fv fw=>fv=.bool false⟩,⟨4,33,fun fv fw=>fv=.bool false⟩,⟨5,34,fun fv fw=>fv=.agg #[.bool n74,.slice j6 l74 c74]⟩,⟨6,35,fun fv fw=>LV fw fw.heap.size fv 4503599627370496⟩,⟨7,36,fun fv fw=>fv=.int .i64 e⟩,⟨8,37,fun fv fw=>fv=.bool false⟩,⟨9,38,fun fv fw=>fv=.bool false⟩] [] [] 0 (by kernel_rfl) (by kernel_rfl) (by kernel_rfl) (fun _ _ _ _ _ h=>h) ?_ ?_ ?_ ?_
      ·refine(a0 (all_cons (fun v w1 w2 h hb=>h.step hb) (a0 (a0 (a0 (a0 (all_cons (fun v w1 w2 h hb=>h.step hb) (a0 (a0 (a0 all_nil))))))))))
      ·refine(all_cons ?_ (all_cons ?_ (all_cons ?_ (all_cons ?_ (all_cons ?_ (all_cons ?_ (all_cons ?_ (all_cons ?_ (all_cons ?_ (all_cons ?_ all_nil))))))))))
       ·intro xs Z4 c0 b0;have G1:=zz c0;have a5:=c0.size;clear c0;clear b0;refine wpOp_step (o:=_) rfl (fun K hK=>?_);simp only[FL]
        have C0:=CB.step m0 G1.out;have N3:=C0.cell 0 rfl;have O3:=C0.cell 1 rfl;go_simp;refine hK _ _ ⟨.agg #[.bool n43,.slice i6 l43 c43],by kernel_rfl,Below.refl _ _,rfl,nF⟩
       ·intro xs b5 c0 b0;have P3:=zz c0;have c5:=c0.size;clear c0;clear b0;refine wpOp_step (o:=_) rfl (fun K hK=>?_);simp only[FL]
        go_simp;(with_reducible refine(ROf_any _ (-4503599627370496) (by decide) (by decide)).mono ?_)
        rintro e wc137 ⟨H2,v137,rfl,I2⟩;refine hK _ _ ⟨v137,by kernel_rfl,H2,I2,nF⟩
       ·intro xs M0 c0 b0;have H1:=zz c0;have d5:=c0.size;clear c0;have f0:(xs 0)=.agg #[.bool n43,.slice i6 l43 c43]:=b0 _ (m_ 0 rfl) (by kernel_rfl);have f1:LV M0 M0.heap.size (xs 1) (-4503599627370496):=b0 _ (m_ 1 rfl) (by kernel_rfl);clear b0;refine wpOp_step (o:=_) rfl (fun K hK=>?_);simp only[FL]
        go_simp;have W0:=zz (LV.soft r0.out ((((Soft.of B45.out).trans (Soft.of B72.out)).trans (S85.out)).trans (Soft.of H1.out)));(with_reducible refine((show Calls Tryz.prog _ _ _ _ from HC.out▸ROrder_any _ _ _ lo (-4503599627370496) W0.out f1)).mono ?_)
        rintro e wc140 ⟨J2,rfl⟩;refine hK _ _ ⟨.int .i64 c,by simp only[FL,f0] <;> kernel_rfl,J2,rfl,nF⟩
       ·intro xs e5 c0 b0;have Q3:=zz c0;have g5:=c0.size;clear c0;have f2:(xs 2)=.int .i64 c:=b0 _ (m_ 2 rfl) (by kernel_rfl);clear b0;refine wpOp_step (o:=_) rfl (fun K hK=>?_);simp only[FL]
        go_simp;refine hK _ _ ⟨.bool false,by simp only[FL,f2] <;> kernel_rfl,Below.refl _ _,rfl,nF⟩
       ·intro xs h5 c0 b0;have R3:=zz c0;have i5:=c0.size;clear c0;have f3:(xs 3)=.bool false:=b0 _ (m_ 3 rfl) (by kernel_rfl);clear b0;refine wpOp_step (o:=_) rfl (fun K hK=>?_);simp only[FL]
        go_simp;refine hK _ _ ⟨.bool false,by simp only[FL,f3] <;> kernel_rfl,Below.refl _ _,rfl,nF⟩
       ·intro xs j5 c0 b0;have I1:=zz c0;have k5:=c0.size;clear c0;have f4:(xs 4)=.bool false:=b0 _ (m_ 4 rfl) (by kernel_rfl);clear b0;refine wpOp_step (o:=?_) ?S3 ?_
        case S3=>exact rfl
        intro K hK;simp only[FL]
        have t0:=CB.step o0 I1.out;have T3:=t0.cell 0 rfl;have U3:=t0.cell 1 rfl;go_simp;refine hK _ _ ⟨.agg #[.bool n74,.slice j6 l74 c74],by simp only[FL,f4] <;> kernel_rfl,Below.refl _ _,rfl,nF⟩
       ·intro xs l5 c0 b0;have V3:=zz c0;have m5:=c0.size;clear c0;have f4:(xs 4)=.bool false:=b0 _ (m_ 4 rfl) (by kernel_rfl);clear b0;refine wpOp_step (o:=?_) ?W3 ?_
        case W3=>exact rfl
        intro K hK;simp only[FL]
        go_simp;(with_reducible refine(ROf_any _ 4503599627370496 (by decide) (by decide)).mono ?_)
        rintro e wc147 ⟨K2,v147,rfl,L2⟩;refine hK _ _ ⟨v147,by simp only[FL,f4] <;> kernel_rfl,K2,L2,nF⟩
       ·intro xs N0 c0 b0;have J1:=zz c0;have n5:=c0.size;clear c0;have f4:(xs 4)=.bool false:=b0 _ (m_ 4 rfl) (by kernel_rfl);have f5:(xs 5)=.agg #[.bool n74,.slice j6 l74 c74]:=b0 _ (m_ 5 rfl) (by kernel_rfl);have f6:LV N0 N0.heap.size (xs 6) 4503599627370496:=b0 _ (m_ 6 rfl) (by kernel_rfl);clear b0;refine wpOp_step (o:=?_) ?X3 ?_
        case X3=>exact rfl
        intro K hK;simp only[FL]
        go_simp;have X0:=zz (LV.soft v0.out ((S85.out).trans (Soft.of J1.out)));(with_reducible refine((show Calls Tryz.prog _ _ _ _ from S6.out▸ROrder_any _ _ _ hi 4503599627370496 X0.out f6)).mono ?_)
        rintro e wc150 ⟨M2,rfl⟩;refine hK _ _ ⟨.int .i64 e,by simp only[FL,f4,f5] <;> kernel_rfl,M2,rfl,nF⟩
       ·intro xs o5 c0 b0;have Y3:=zz c0;have p5:=c0.size;clear c0;have f4:(xs 4)=.bool false:=b0 _ (m_ 4 rfl) (by kernel_rfl);have f7:(xs 7)=.int .i64 e:=b0 _ (m_ 7 rfl) (by kernel_rfl);clear b0;refine wpOp_step (o:=?_) ?Z3 ?_
        case Z3=>exact rfl
        intro K hK;simp only[FL]
        go_simp;refine hK _ _ ⟨.bool false,by simp only[FL,f4,f7] <;> kernel_rfl,Below.refl _ _,rfl,nF⟩
       ·intro xs q5 c0 b0;have a4:=zz c0;have r5:=c0.size;clear c0;have f4:(xs 4)=.bool false:=b0 _ (m_ 4 rfl) (by kernel_rfl);have f8:(xs 8)=.bool false:=b0 _ (m_ 8 rfl) (by kernel_rfl);clear b0;refine wpOp_step (o:=_) rfl (fun K hK=>?_);simp only[FL]
        go_simp;refine hK _ _ ⟨.bool false,by simp only[FL,f4,f8] <;> kernel_rfl,Below.refl _ _,rfl,nF⟩
      ·exact all_nil
      ·intro xs r6 hbf hf hn hd;have f0:(xs 0)=.agg #[.bool n43,.slice i6 l43 c43]:=hf _ (m_ 0 rfl);have f1:LV r6 r6.heap.size (xs 1) (-4503599627370496):=hf _ (m_ 1 rfl);have f2:(xs 2)=.int .i64 c:=hf _ (m_ 2 rfl);have f3:(xs 3)=.bool false:=hf _ (m_ 3 rfl);have f4:(xs 4)=.bool false:=hf _ (m_ 4 rfl);have f5:(xs 5)=.agg #[.bool n74,.slice j6 l74 c74]:=hf _ (m_ 5 rfl);have f6:LV r6 r6.heap.size (xs 6) 4503599627370496:=hf _ (m_ 6 rfl);have f7:(xs 7)=.int .i64 e:=hf _ (m_ 7 rfl);have f8:(xs 8)=.bool false:=hf _ (m_ 8 rfl);have f9:(xs 9)=.bool false:=hf _ (m_ 9 rfl);clear hf hn hd;simp only[FL]
       have B154:=zz hbf;have z154:=B154.out.size;have O0:=zz (n0.out.trans (B154.out.mono n0.out.size));clear hbf;generalize xs 0=x0,xs 1=x1,xs 2=x2,xs 3=x3,xs 4=x4,xs 5=x5,xs 6=x6,xs 7=x7,xs 8=x8,xs 9=x9 at *
       obtain rfl:=f0;clear f1;obtain rfl:=f2;obtain rfl:=f3;obtain rfl:=f4;obtain rfl:=f5;clear f6;obtain rfl:=f7;obtain rfl:=f8;obtain rfl:=f9;refine Early.done (by kernel_rfl) ?_ _;(try simp only[Exit.then])
       have p0:=CB.step m0 B154.out;have K1:=p0.cell 0 rfl;have L1:=p0.cell 1 rfl;have D6:=p0.lt;go_wp2_with fail
       have Y0:=zz (LV.soft r0.out ((((Soft.of B45.out).trans (Soft.of B72.out)).trans (S85.out)).trans (Soft.of B154.out)));refine(RInt_num Y0.out HB.out.1.1 HB.out.1.2).mono ?_;rintro e w156 ⟨P0,rfl⟩;have B160:=zz P0;have z160:=B160.out.size;have Q0:=zz (O0.out.trans (B160.out.mono O0.out.size));clear P0;clear K1 L1 D6;have P8_10_164:=zz (B154.out.trans (B160.out.mono B154.out.size));have l0:=CB.step o0 P8_10_164.out;have M1:=l0.cell 0 rfl;have N1:=l0.cell 1 rfl;have E6:=l0.lt;go_wp2_with fail
       have Z0:=zz (LV.soft v0.out (((S85.out).trans (Soft.of B154.out)).trans (Soft.of B160.out)));refine(RInt_num Z0.out HB.out.2.1 HB.out.2.2).mono ?_;rintro e w162 ⟨R0,rfl⟩;have B167:=zz R0;have z167:=B167.out.size;have N2:=zz (Q0.out.trans (B167.out.mono Q0.out.size));clear R0;clear M1 N1 E6;have P8_11_170:=zz (P8_10_164.out.trans (B167.out.mono P8_10_164.out.size));have g0:=CB.step y0 P8_11_170.out;have O1:=g0.cell 0 rfl;have P1:=g0.cell 1 rfl;have F6:=g0.lt;have Q1:=g0.frozen 0;have R1:=g0.frozen 1;have G6:=g0.lt;go_wp2;clear O1 P1 F6 Q1 R1 G6;exact SB.put rfl g0 N2.out (by omega) (by rw[HT.out]) rfl (by rw[HT.out];rfl)
set_option maxRecDepth 100000 in
set_option maxHeartbeats 4000000 in
theorem RNearQ_any (w:World) (va:Value) (n m:Bool) (a b:List Int) (s:Int) (ha:QR w w.heap.size va n a m b) :
  Calls Tryz.prog 28 #[va,.int .i64 s] w fun e w'=>Below w.heap.size w w'∧RetI (nearQ (qOf n a m b) s) e:=by
 obtain⟨A,l,c,A',l',c',rfl,ha⟩:=RI.of ha;have HA:=zz ha;clear ha;obtain⟨w0,hw0⟩:∃ w0:World,w0=(w.alloc (.cells #[.bool n,.slice A l c,.bool m,.slice A' l' c'] 26)):=⟨_,rfl⟩;have B0:=zz (n1_b hw0);have z0:=n1_z hw0;have La:=n1_0 hw0;replace HA:=zz (QR.step HA.out B0.out);rcases h1:qOf n a m b with _ | q
 ·have E1:=zz h1;clear h1;go_enter Tryz.func28,Tryz.ntmps28
  go_upto_region 1 with (fail)
  rw[← hw0];clear hw0;have T2:=La.cell 0 rfl;have U2:=La.cell 1 rfl;have V2:=La.cell 2 rfl;have W2:=La.cell 3 rfl;have W6:=La.lt;go_wp2_with fail
  refine(RRightQ_no HA.out E1.out).mono ?_;rintro e w1 ⟨Q2,rfl⟩;have B3:=zz Q2;have z3:=B3.out.size;have q3:=zz (B0.out.trans (B3.out.mono B0.out.size));clear Q2;clear T2 U2 V2 W2 W6;go_wp2;go_ret2;exact⟨q3.out,rfl⟩
 ·have E1:=zz h1;clear h1;obtain⟨t,ht⟩:∃ t,t=nearQ (some q) s:=⟨_,rfl⟩;rw[← ht];by_cases h1:s<1
  ·have HT:=zz (show t=(0,2) by rw[ht];exact if_pos (.inl h1));clear ht;rw[HT.out];go_enter Tryz.func28,Tryz.ntmps28
   go_upto_region 1 with (fail)
   rw[← hw0];clear hw0;have X2:=La.cell 0 rfl;have Y2:=La.cell 1 rfl;have Z2:=La.cell 2 rfl;have a3:=La.cell 3 rfl;have X6:=La.lt;go_wp2_with fail
   refine(RRightQ_yes HA.out E1.out).mono ?_;rintro e w5 ⟨R2,rfl⟩;have B7:=zz R2;have z7:=B7.out.size;have r3:=zz (B0.out.trans (B7.out.mono B0.out.size));clear R2;clear X2 Y2 Z2 a3 X6;go_wp2;go_ret2;exact⟨r3.out,rfl⟩
  ·by_cases h2:1000000000000<s
   ·have HT:=zz (show t=(0,2) by rw[ht];exact if_pos (.inr h2));clear ht;rw[HT.out];go_enter Tryz.func28,Tryz.ntmps28
    go_upto_region 1 with (fail)
    rw[← hw0];clear hw0;have X1:=La.cell 0 rfl;have Y1:=La.cell 1 rfl;have Z1:=La.cell 2 rfl;have a2:=La.cell 3 rfl;have I6:=La.lt;go_wp2_with fail
    refine(RRightQ_yes HA.out E1.out).mono ?_;rintro e w9 ⟨S2,rfl⟩;have B11:=zz S2;have z11:=B11.out.size;have b3:=zz (B0.out.trans (B11.out.mono B0.out.size));clear S2;clear X1 Y1 Z1 a2 I6;go_wp2;go_ret2;exact⟨b3.out,rfl⟩
   ·have h1':¬ s≤0:=by omega
    obtain⟨z,hz⟩:∃ z,z=(q.num*(2*s)+(q.den:Int)) / ((q.den*2:Nat):Int):=⟨_,rfl⟩;have hts:t=if z.natAbs≤4611686018427387904 then (z,0) else (0,6):=by rw[ht,nearQ,if_neg (by omega),← hz];rfl
    obtain⟨p,hp⟩:∃ p,p=q*Rat.divInt s 1+Rat.divInt 1 2:=⟨_,rfl⟩;have hpz:p.num / (p.den:Int)=z:=by rw[hp,near_sum,floor_divInt _ (by have:=q.den_pos;omega),hz]
    have J6:=zz hts;have HP:=zz hp;have k7:=zz hpz;have l7:=zz (And.intro h1 h2);clear hts hp hpz hz ht;go_enter Tryz.func28,Tryz.ntmps28
    go_upto_region 1 with (fail)
    rw[← hw0];clear hw0;have b2:=La.cell 0 rfl;have c2:=La.cell 1 rfl;have d2:=La.cell 2 rfl;have e2:=La.cell 3 rfl;have K6:=La.lt;go_wp2_with fail
    refine(RRightQ_yes HA.out E1.out).mono ?_;rintro e w13 ⟨a1,rfl⟩;have B15:=zz a1;have z15:=B15.out.size;have b1:=zz (B0.out.trans (B15.out.mono B0.out.size));clear a1;clear b2 c2 d2 e2 K6;have g2:=zz (QR.step HA.out B15.out);have L6:=zz (QR.valid g2.out E1.out);have HQ:=zz L6.out.1;have b7:=zz L6.out.2;clear L6;go_wp2_with fail
    refine(ROf_any _ 1 (by decide) (by decide)).mono ?_;rintro e w19 ⟨c1,v18,rfl,d1⟩;have B20:=zz c1;have z20:=B20.out.size;have e1:=zz (b1.out.trans (B20.out.mono b1.out.size));clear c1;have m7:=zz d1;clear d1;go_wp2_with fail
    refine(ROf_any _ 2 (by decide) (by decide)).mono ?_;rintro e w23 ⟨g1,v22,rfl,i1⟩;have B24:=zz g1;have z24:=B24.out.size;have j1:=zz (e1.out.trans (B24.out.mono e1.out.size));clear g1;have n7:=zz i1;clear i1;go_wp2_with fail
    have k1:=zz (LV.step m7.out B24.out);refine(RLowest_any _ _ _ 1 2 k1.out n7.out (by decide) (Nat.le_trans (fit_i64 (by decide) (by decide)) (by decide)) (Nat.le_trans (fit_i64 (by decide) (by decide)) (by decide))).mono ?_;rintro e w26 ⟨l1,v,rfl,hv⟩;have B28:=zz l1;have z28:=B28.out.size;have m1:=zz (j1.out.trans (B28.out.mono j1.out.size));clear l1;obtain⟨u6,v6,w6,y6,z6,j0,A6,rfl,ha30,n1,hc30⟩:=hv;have Q0:=zz (show QV w26 w26.heap.size (.agg #[.bool u6,.slice v6 w6 y6,.bool false,.slice z6 j0 A6]) (Rat.divInt 1 2) from⟨_,_,_,_,_,_,_,rfl,ha30,n1,hc30⟩);clear ha30 n1 hc30;go_upto_region 6 with (fail)
    obtain⟨w31,u0⟩:∃ w31:World,w31=(w26.alloc (.cells #[.bool u6,.slice v6 w6 y6,.bool false,.slice z6 j0 A6] 26)):=⟨_,rfl⟩;rw[← u0];have v0:=n1_0 u0;have za31:=n1_z u0;have B32:=zz (n1_b u0);have z32:=B32.out.size;have o1:=zz (m1.out.trans (B32.out.mono m1.out.size));clear u0;have E6:=zz (show -9223372036854775808≤s∧s≤9223372036854775807 by have:=l7.out;omega);have c7:=zz (show(dig s.natAbs).length≤3 from fit_i64 E6.out.1 E6.out.2);have d7:=zz (show QL 3 3 (Rat.divInt s 1) from QL.divInt (by decide) c7.out (fit_i64 (by decide) (by decide)));have e7:=zz (show QL 3 3 (Rat.divInt 1 2) from QL.divInt (by decide) (fit_i64 (by decide) (by decide)) (fit_i64 (by decide) (by decide)));have g7:=zz (show QL 603 603 (q*Rat.divInt s 1) from QL.mul b7.out d7.out);have h7:=zz (show QL 1213 606 p from by rw[HP.out];exact(QL.add g7.out e7.out).mono (by decide) (by decide))
    refine Flow.run [⟨0,22,fun fv fw=>fv=.agg #[.bool n,.slice A l c,.bool m,.slice A' l' c']⟩,⟨1,23,fun fv fw=>fv=.int .i64 s⟩,⟨2,24,fun fv fw=>LV fw fw.heap.size fv s⟩,⟨3,25,fun fv fw=>LV fw fw.heap.size fv 1⟩,⟨4,26,fun fv fw=>QV fw fw.heap.size fv (Rat.divInt s 1)⟩,⟨5,27,fun fv fw=>QV fw fw.heap.size fv (q*Rat.divInt s 1)⟩,⟨6,28,fun fv fw=>fv=.agg #[.bool u6,.slice v6 w6 y6,.bool false,.slice z6 j0 A6]⟩,⟨7,29,fun fv fw=>QV fw fw.heap.size fv p⟩,⟨8,7,fun fv fw=>∃ b,fv=.pointer (some ⟨b,0,none⟩)∧CB fw b 26 #[.bool false,.slice none 0 0,.bool false,.slice none 0 0]⟩] [] [8] 1 (by kernel_rfl) (by kernel_rfl) (by kernel_rfl) (fun _ _ _ _ _ h=>h) ?_ ?_ ?_ ?_
    ·refine(a0 (a0 (all_cons (fun v w1 w2 h hb=>h.step hb) (all_cons (fun v w1 w2 h hb=>h.step hb) (all_cons (fun v w1 w2 h hb=>h.step hb) (all_cons (fun v w1 w2 h hb=>h.step hb) (a0 (all_cons (fun v w1 w2 h hb=>h.step hb) (all_cons (fun v w1 w2 h hb=>let ⟨b,e,h⟩:=h;⟨b,e,h.step hb⟩) all_nil)))))))))
    ·refine(all_cons ?_ (all_cons ?_ (all_cons ?_ (all_cons ?_ (all_cons ?_ (all_cons ?_ (all_cons ?_ (all_cons ?_ (all_cons ?_ all_nil)))))))))
     ·intro xs X5 c0 b0;have i2:=zz c0;have Y5:=c0.size;clear c0;clear b0;refine wpOp_step (o:=_) rfl (fun K hK=>?_);simp only[FL]
      have P1_3_36:=zz (B15.out.trans (B20.out.mono B15.out.size));have P1_4_37:=zz (P1_3_36.out.trans (B24.out.mono P1_3_36.out.size));have P1_5_38:=zz (P1_4_37.out.trans (B28.out.mono P1_4_37.out.size));have P1_6_39:=zz (P1_5_38.out.trans (B32.out.mono P1_5_38.out.size));have P1_7_40:=zz (P1_6_39.out.trans (i2.out.mono P1_6_39.out.size));have t0:=CB.step La P1_7_40.out;have v4:=t0.cell 0 rfl;have w4:=t0.cell 1 rfl;have y4:=t0.cell 2 rfl;have z4:=t0.cell 3 rfl;go_simp;refine hK _ _ ⟨.agg #[.bool n,.slice A l c,.bool m,.slice A' l' c'],by kernel_rfl,Below.refl _ _,rfl,nF⟩
     ·intro xs Z5 c0 b0;clear c0;clear b0;refine wpOp_step (o:=_) rfl (fun K hK=>?_);simp only[FL]
      go_simp;refine hK _ _ ⟨.int .i64 s,by kernel_rfl,Below.refl _ _,rfl,nF⟩
     ·intro xs b6 c0 b0;clear c0;have f1:(xs 1)=.int .i64 s:=b0 _ (m_ 1 rfl) (by kernel_rfl);clear b0;refine wpOp_step (o:=_) rfl (fun K hK=>?_);simp only[FL]
      go_simp;(with_reducible refine(ROf_any _ s E6.out.1 E6.out.2).mono ?_)
      rintro e wc44 ⟨c3,v44,rfl,d3⟩;refine hK _ _ ⟨v44,by simp only[FL,f1] <;> kernel_rfl,c3,d3,nF⟩
     ·intro xs d6 c0 b0;clear c0;clear b0;refine wpOp_step (o:=_) rfl (fun K hK=>?_);simp only[FL]
      go_simp;(with_reducible refine(ROf_any _ 1 (by decide) (by decide)).mono ?_)
      rintro e wc46 ⟨e3,v46,rfl,g3⟩;refine hK _ _ ⟨v46,by kernel_rfl,e3,g3,nF⟩
     ·intro xs G0 c0 b0;clear c0;have f2:LV G0 G0.heap.size (xs 2) s:=b0 _ (m_ 2 rfl) (by kernel_rfl);have f3:LV G0 G0.heap.size (xs 3) 1:=b0 _ (m_ 3 rfl) (by kernel_rfl);clear b0;refine wpOp_step (o:=_) rfl (fun K hK=>?_);simp only[FL]
      go_simp;(with_reducible refine(RLowest_any _ _ _ s 1 f2 f3 (by decide) (Nat.le_trans c7.out (by decide)) (Nat.le_trans (fit_i64 (by decide) (by decide)) (by decide))).mono ?_)
      rintro e wc48 ⟨h3,v48,rfl,i3⟩;refine hK _ _ ⟨v48,by kernel_rfl,h3,i3,nF⟩
     ·intro xs p1 c0 b0;have j2:=zz c0;have h6:=c0.size;clear c0;have f0:(xs 0)=.agg #[.bool n,.slice A l c,.bool m,.slice A' l' c']:=b0 _ (m_ 0 rfl) (by kernel_rfl);have f4:QV p1 p1.heap.size (xs 4) (Rat.divInt s 1):=b0 _ (m_ 4 rfl) (by kernel_rfl);clear b0;refine wpOp_step (o:=_) rfl (fun K hK=>?_);simp only[FL]
      go_simp;have P2_4_50:=zz (B20.out.trans (B24.out.mono B20.out.size));have P2_5_51:=zz (P2_4_50.out.trans (B28.out.mono P2_4_50.out.size));have P2_6_52:=zz (P2_5_51.out.trans (B32.out.mono P2_5_51.out.size));have P2_7_53:=zz (P2_6_52.out.trans (j2.out.mono P2_6_52.out.size));have k2:=zz (QV.step HQ.out P2_7_53.out);(with_reducible refine(RProdQ_any _ _ _ q (Rat.divInt s 1) k2.out f4 (b7.out.mono (by decide) (by decide)) (d7.out.mono (by decide) (by decide))).mono ?_)
      rintro e wc55 ⟨j3,v55,rfl,k3⟩;refine hK _ _ ⟨v55,by simp only[FL,f0] <;> kernel_rfl,j3,k3,nF⟩
     ·intro xs i6 c0 b0;have l2:=zz c0;have j6:=c0.size;clear c0;clear b0;refine wpOp_step (o:=_) rfl (fun K hK=>?_);simp only[FL]
      have h0:=CB.step v0 l2.out;have E4:=h0.cell 0 rfl;have F4:=h0.cell 1 rfl;have G4:=h0.cell 2 rfl;have H4:=h0.cell 3 rfl;go_simp;refine hK _ _ ⟨.agg #[.bool u6,.slice v6 w6 y6,.bool false,.slice z6 j0 A6],by kernel_rfl,Below.refl _ _,rfl,nF⟩
     ·intro xs q1 c0 b0;have m2:=zz c0;have k6:=c0.size;clear c0;have f5:QV q1 q1.heap.size (xs 5) (q*Rat.divInt s 1):=b0 _ (m_ 5 rfl) (by kernel_rfl);have f6:(xs 6)=.agg #[.bool u6,.slice v6 w6 y6,.bool false,.slice z6 j0 A6]:=b0 _ (m_ 6 rfl) (by kernel_rfl);clear b0;refine wpOp_step (o:=_) rfl (fun K hK=>?_);simp only[FL]
      go_simp;have P5_7_60:=zz (B32.out.trans (m2.out.mono B32.out.size));have R0:=zz (QV.step Q0.out P5_7_60.out);(with_reducible refine((show Calls Tryz.prog _ _ _ _ from HP.out▸RSumQ_any _ _ _ (q*Rat.divInt s 1) (Rat.divInt 1 2) f5 R0.out (g7.out.mono (by decide) (by decide)) (e7.out.mono (by decide) (by decide)))).mono ?_)
      rintro e wc62 ⟨l3,v62,rfl,m3⟩;refine hK _ _ ⟨v62,by simp only[FL,f6] <;> kernel_rfl,l3,m3,nF⟩
     ·intro xs n3 c0 b0;clear c0;clear b0;refine wpOp_step (o:=_) rfl (fun K hK=>?_);simp only[FL]
      go_simp;refine hK _ _ ⟨.pointer (some ⟨n3.heap.size,0,none⟩),by kernel_rfl,(Below.refl _ _).alloc (Nat.le_refl _) _,⟨_,rfl,CB.new _ _ _⟩,fun _=>⟨_,rfl,Nat.le_refl _,by simp⟩⟩
    ·exact all_nil
    ·intro xs s6 hbf hf hn hd;have f0:(xs 0)=.agg #[.bool n,.slice A l c,.bool m,.slice A' l' c']:=hf _ (m_ 0 rfl);have f1:(xs 1)=.int .i64 s:=hf _ (m_ 1 rfl);have f2:LV s6 s6.heap.size (xs 2) s:=hf _ (m_ 2 rfl);have f3:LV s6 s6.heap.size (xs 3) 1:=hf _ (m_ 3 rfl);have f4:QV s6 s6.heap.size (xs 4) (Rat.divInt s 1):=hf _ (m_ 4 rfl);have f5:QV s6 s6.heap.size (xs 5) (q*Rat.divInt s 1):=hf _ (m_ 5 rfl);have f6:(xs 6)=.agg #[.bool u6,.slice v6 w6 y6,.bool false,.slice z6 j0 A6]:=hf _ (m_ 6 rfl);have f7:QV s6 s6.heap.size (xs 7) p:=hf _ (m_ 7 rfl);have f8:∃ b,(xs 8)=.pointer (some ⟨b,0,none⟩)∧CB s6 b 26 #[.bool false,.slice none 0 0,.bool false,.slice none 0 0]:=hf _ (m_ 8 rfl);have n8:=hn 8 (by decide);clear hf hn hd;simp only[FL]
     have B65:=zz hbf;have z65:=B65.out.size;have o3:=zz (o1.out.trans (B65.out.mono o1.out.size));clear hbf;generalize xs 0=x0,xs 1=x1,xs 2=x2,xs 3=x3,xs 4=x4,xs 5=x5,xs 6=x6,xs 7=x7,xs 8=x8 at *
     obtain rfl:=f0;obtain rfl:=f1;clear f2;clear f3;clear f4;clear f5;obtain rfl:=f6;obtain⟨M6,N6,O6,P6,Q6,T0,R6,rfl,ha67,r1,hc67⟩:=f7;have n2:=zz (show QV s6 s6.heap.size (.agg #[.bool M6,.slice N6 O6 P6,.bool false,.slice Q6 T0 R6]) p from⟨_,_,_,_,_,_,_,rfl,ha67,r1,hc67⟩);clear ha67 r1 hc67;obtain⟨t6,rfl,r6⟩:=f8;have C6:=zz (show w31.heap.size≤t6 by obtain⟨b',e,h,-⟩:=n8;injection e with e;injection e with e;injection e with e _ _;omega);clear n8;have Y6:=r6.lt;have Z6:=C6.out;have o2:=r6.cell 0 rfl;have p2:=r6.cell 1 rfl;have q2:=r6.cell 2 rfl;have r2:=r6.cell 3 rfl;have S6:=r6.lt;have s2:=r6.frozen 0;have t2:=r6.frozen 1;have u2:=r6.frozen 2;have v2:=r6.frozen 3;have T6:=r6.lt;refine Early.next (i:=9) (by kernel_rfl) rfl (fun K hK=>?_);go_simp;refine hK _ _ (fun _=>trivial) ?_;clear hK K;(try simp only[Act.put,List.setIfInBounds_toArray,List.set_cons_zero,List.set_cons_succ])
     clear o2 p2 q2 r2 S6 s2 t2 u2 v2 T6;have P1_3_73:=zz (B15.out.trans (B20.out.mono B15.out.size));have P1_4_74:=zz (P1_3_73.out.trans (B24.out.mono P1_3_73.out.size));have P1_5_75:=zz (P1_4_74.out.trans (B28.out.mono P1_4_74.out.size));have P1_6_76:=zz (P1_5_75.out.trans (B32.out.mono P1_5_75.out.size));have P1_7_77:=zz (P1_6_76.out.trans (B65.out.mono P1_6_76.out.size));have y2:=CB.step La P1_7_77.out;have S0:=CB.step v0 B65.out;obtain⟨w79,i0⟩:∃ w79:World,w79=((((s6.setCell ⟨t6,0,none⟩ (.bool M6)).setCell ⟨t6,1,none⟩ (.slice N6 O6 P6)).setCell ⟨t6,2,none⟩ (.bool false)).setCell ⟨t6,3,none⟩ (.slice Q6 T0 R6)):=⟨_,rfl⟩;rw[← i0];have S79:=zz (p4_s i0 r6 (by simp[noInt_b,noInt_s]));have J4:=p4_f i0 y2 (by omega);have p3:=p4_f i0 S0 (by omega);have l0:=p4_p i0 r6;have U0:=zz (p4_b i0 o3.out (by omega));have m6:=p4_z i0;clear i0;refine Early.done (by kernel_rfl) ?_ _;(try simp only[Exit.then])
     have V0:=zz (QV.soft n2.out (S79.out));have o7:=zz (QV.fst V0.out);have p7:=zz (QV.snd V0.out);have z2:=l0.cell 0 rfl;have A2:=l0.cell 1 rfl;have B2:=l0.cell 2 rfl;have C2:=l0.cell 3 rfl;have U6:=l0.lt;go_wp2_with fail
     refine(RDownQ_any _ _ _ p.num (p.den:Int) o7.out p7.out (by have:=p.den_pos;omega) (Nat.le_trans h7.out.1 (by decide)) (Nat.le_trans h7.out.2 (by decide))).mono ?_;rintro e w81 ⟨s1,v,rfl,hv⟩;have B83:=zz s1;have z83:=B83.out.size;have t1:=zz (U0.out.trans (B83.out.mono U0.out.size));clear s1;clear z2 A2 B2 C2 U6;rw[k7.out] at hv;obtain⟨n85,p6,l85,c85,rfl,u1⟩:=hv.opened;have k0:=zz u1;clear hv u1;go_upto_region 8 with (fail)
     obtain⟨w86,y0⟩:∃ w86:World,w86=(w81.alloc (.cells #[.bool n85,.slice p6 l85 c85] 24)):=⟨_,rfl⟩;rw[← y0];have g0:=n1_0 y0;have za86:=n1_z y0;have B87:=zz (n1_b y0);have z87:=B87.out.size;have v1:=zz (t1.out.trans (B87.out.mono t1.out.size));clear y0;go_wp2_with fail
     refine(ROf_any _ 4611686018427387904 (by decide) (by decide)).mono ?_;rintro e w89 ⟨y1,v,rfl,hv⟩;have B90:=zz y1;have z90:=B90.out.size;have z1:=zz (v1.out.trans (B90.out.mono v1.out.size));clear y1;obtain⟨n92,q6,l92,c92,rfl,A1⟩:=hv.opened;have d0:=zz A1;clear hv A1;go_upto_region 9 with (fail)
     obtain⟨w93,A0⟩:∃ w93:World,w93=(w89.alloc (.cells #[.bool n92,.slice q6 l92 c92] 24)):=⟨_,rfl⟩;rw[← A0];have e0:=n1_0 A0;have za93:=n1_z A0;have B94:=zz (n1_b A0);have z94:=B94.out.size;have m0:=zz (z1.out.trans (B94.out.mono z1.out.size));clear A0;by_cases hc1:4611686018427387904<z
     ·have HT:=zz (show t=(0,6) by rw[J6.out];exact if_neg (by omega));have HC:=zz (cmpZ_gt hc1);clear hc1;refine Flow.run [⟨0,36,fun fv fw=>fv=.agg #[.bool n85,.slice p6 l85 c85]⟩,⟨1,37,fun fv fw=>fv=.agg #[.bool n92,.slice q6 l92 c92]⟩,⟨2,38,fun fv fw=>fv=.int .i64 1⟩,⟨3,39,fun fv fw=>fv=.bool true⟩,⟨4,40,fun fv fw=>fv=.bool true⟩,⟨5,41,fun fv fw=>True⟩,⟨6,42,fun fv fw=>True⟩,⟨7,43,fun fv fw=>True⟩,⟨8,44,fun fv fw=>True⟩,⟨9,45,fun fv fw=>True⟩,⟨10,46,fun fv fw=>fv=.bool true⟩] [] [] 0 (by kernel_rfl) (by kernel_rfl) (by kernel_rfl) (fun _ _ _ _ _ h=>h) ?_ ?_ ?_ ?_
      ·refine(a0 (a0 (a0 (a0 (a0 (a0 (a0 (a0 (a0 (a0 (a0 all_nil)))))))))))
      ·refine(all_cons ?_ (all_cons ?_ (all_cons ?_ (all_cons ?_ (all_cons ?_ (all_cons ?_ (all_cons ?_ (all_cons ?_ (all_cons ?_ (all_cons ?_ (all_cons ?_ all_nil)))))))))))
       ·intro xs n6 c0 b0;have D2:=zz c0;have o6:=c0.size;clear c0;clear b0;refine wpOp_step (o:=_) rfl (fun K hK=>?_);simp only[FL]
        have P10_12_98:=zz (B90.out.trans (B94.out.mono B90.out.size));have P10_13_99:=zz (P10_12_98.out.trans (D2.out.mono P10_12_98.out.size));have H0:=CB.step g0 P10_13_99.out;have s3:=H0.cell 0 rfl;have t3:=H0.cell 1 rfl;go_simp;refine hK _ _ ⟨.agg #[.bool n85,.slice p6 l85 c85],by kernel_rfl,Below.refl _ _,rfl,nF⟩
       ·intro xs K4 c0 b0;have B1:=zz c0;have L4:=c0.size;clear c0;clear b0;refine wpOp_step (o:=_) rfl (fun K hK=>?_);simp only[FL]
        have o0:=CB.step e0 B1.out;have u3:=o0.cell 0 rfl;have v3:=o0.cell 1 rfl;go_simp;refine hK _ _ ⟨.agg #[.bool n92,.slice q6 l92 c92],by kernel_rfl,Below.refl _ _,rfl,nF⟩
       ·intro xs M4 c0 b0;have I0:=zz c0;have N4:=c0.size;clear c0;have f0:(xs 0)=.agg #[.bool n85,.slice p6 l85 c85]:=b0 _ (m_ 0 rfl) (by kernel_rfl);have f1:(xs 1)=.agg #[.bool n92,.slice q6 l92 c92]:=b0 _ (m_ 1 rfl) (by kernel_rfl);clear b0;refine wpOp_step (o:=_) rfl (fun K hK=>?_);simp only[FL]
        go_simp;have P9_11_105:=zz (B87.out.trans (B90.out.mono B87.out.size));have P9_12_106:=zz (P9_11_105.out.trans (B94.out.mono P9_11_105.out.size));have P9_13_107:=zz (P9_12_106.out.trans (I0.out.mono P9_12_106.out.size));have C1:=zz (LV.step k0.out P9_13_107.out);have P11_13_109:=zz (B94.out.trans (I0.out.mono B94.out.size));have J0:=zz (LV.step d0.out P11_13_109.out);(with_reducible refine((show Calls Tryz.prog _ _ _ _ from HC.out▸ROrder_any _ _ _ z 4611686018427387904 C1.out J0.out)).mono ?_)
        rintro e wc111 ⟨E2,rfl⟩;refine hK _ _ ⟨.int .i64 1,by simp only[FL,f0,f1] <;> kernel_rfl,E2,rfl,nF⟩
       ·intro xs O4 c0 b0;have w3:=zz c0;have P4:=c0.size;clear c0;have f2:(xs 2)=.int .i64 1:=b0 _ (m_ 2 rfl) (by kernel_rfl);clear b0;refine wpOp_step (o:=_) rfl (fun K hK=>?_);simp only[FL]
        go_simp;refine hK _ _ ⟨.bool true,by simp only[FL,f2] <;> kernel_rfl,Below.refl _ _,rfl,nF⟩
       ·intro xs Q4 c0 b0;have y3:=zz c0;have R4:=c0.size;clear c0;have f3:(xs 3)=.bool true:=b0 _ (m_ 3 rfl) (by kernel_rfl);clear b0;refine wpOp_step (o:=_) rfl (fun K hK=>?_);simp only[FL]
        go_simp;refine hK _ _ ⟨.bool true,by simp only[FL,f3] <;> kernel_rfl,Below.refl _ _,rfl,nF⟩
       ·intro xs S4 c0 b0;have A3:=zz c0;have T4:=c0.size;clear c0;have f4:(xs 4)=.bool true:=b0 _ (m_ 4 rfl) (by kernel_rfl);clear b0;refine wpOp_step (o:=?_) ?C3 ?_
        case C3=>exact rfl
        intro K hK;simp only[FL]
        go_simp;refine hK _ _ ⟨undef,by simp only[FL,f4] <;> kernel_rfl,Below.refl _ _,trivial,nF⟩
       ·intro xs U4 c0 b0;have D3:=zz c0;have V4:=c0.size;clear c0;have f4:(xs 4)=.bool true:=b0 _ (m_ 4 rfl) (by kernel_rfl);clear b0;refine wpOp_step (o:=?_) ?E3 ?_
        case E3=>exact rfl
        intro K hK;simp only[FL]
        go_simp;refine hK _ _ ⟨undef,by simp only[FL,f4] <;> kernel_rfl,Below.refl _ _,trivial,nF⟩
       ·intro xs W4 c0 b0;have F3:=zz c0;have X4:=c0.size;clear c0;have f4:(xs 4)=.bool true:=b0 _ (m_ 4 rfl) (by kernel_rfl);clear b0;refine wpOp_step (o:=?_) ?G3 ?_
        case G3=>exact rfl
        intro K hK;simp only[FL]
        go_simp;refine hK _ _ ⟨undef,by simp only[FL,f4] <;> kernel_rfl,Below.refl _ _,trivial,nF⟩
       ·intro xs Y4 c0 b0;have H3:=zz c0;have Z4:=c0.size;clear c0;have f4:(xs 4)=.bool true:=b0 _ (m_ 4 rfl) (by kernel_rfl);clear b0;refine wpOp_step (o:=?_) ?I3 ?_
        case I3=>exact rfl
        intro K hK;simp only[FL]
        go_simp;refine hK _ _ ⟨undef,by simp only[FL,f4] <;> kernel_rfl,Below.refl _ _,trivial,nF⟩
       ·intro xs a5 c0 b0;have J3:=zz c0;have b5:=c0.size;clear c0;have f4:(xs 4)=.bool true:=b0 _ (m_ 4 rfl) (by kernel_rfl);clear b0;refine wpOp_step (o:=?_) ?K3 ?_
        case K3=>exact rfl
        intro K hK;simp only[FL]
        go_simp;refine hK _ _ ⟨undef,by simp only[FL,f4] <;> kernel_rfl,Below.refl _ _,trivial,nF⟩
       ·intro xs c5 c0 b0;have L3:=zz c0;have d5:=c0.size;clear c0;have f4:(xs 4)=.bool true:=b0 _ (m_ 4 rfl) (by kernel_rfl);clear b0;refine wpOp_step (o:=_) rfl (fun K hK=>?_);simp only[FL]
        go_simp;refine hK _ _ ⟨.bool true,by simp only[FL,f4] <;> kernel_rfl,Below.refl _ _,rfl,nF⟩
      ·exact all_nil
      ·intro xs q7 hbf hf hn hd;have f0:(xs 0)=.agg #[.bool n85,.slice p6 l85 c85]:=hf _ (m_ 0 rfl);have f1:(xs 1)=.agg #[.bool n92,.slice q6 l92 c92]:=hf _ (m_ 1 rfl);have f2:(xs 2)=.int .i64 1:=hf _ (m_ 2 rfl);have f3:(xs 3)=.bool true:=hf _ (m_ 3 rfl);have f4:(xs 4)=.bool true:=hf _ (m_ 4 rfl);have f5:True:=hf _ (m_ 5 rfl);have f6:True:=hf _ (m_ 6 rfl);have f7:True:=hf _ (m_ 7 rfl);have f8:True:=hf _ (m_ 8 rfl);have f9:True:=hf _ (m_ 9 rfl);have f10:(xs 10)=.bool true:=hf _ (m_ 10 rfl);clear hf hn hd;simp only[FL]
       have B121:=zz hbf;have z121:=B121.out.size;have F2:=zz (m0.out.trans (B121.out.mono m0.out.size));clear hbf;generalize xs 0=x0,xs 1=x1,xs 2=x2,xs 3=x3,xs 4=x4,xs 5=x5,xs 6=x6,xs 7=x7,xs 8=x8,xs 9=x9,xs 10=x10 at *
       obtain rfl:=f0;obtain rfl:=f1;obtain rfl:=f2;obtain rfl:=f3;obtain rfl:=f4;clear f5;clear f6;clear f7;clear f8;clear f9;obtain rfl:=f10;refine Early.done (by kernel_rfl) ?_ _;(try simp only[Exit.then])
       go_wp2;go_ret2;exact⟨F2.out,(by rw[HT.out];rfl)⟩
     ·obtain⟨c,hc⟩:∃ c,(cmpZ z 4611686018427387904).1=c:=⟨_,rfl⟩;have hc0:¬ 0<c:=hc▸cmpZ_not_gt hc1;have HC:=zz hc;clear hc;by_cases hc2:z < -4611686018427387904
      ·have HT:=zz (show t=(0,6) by rw[J6.out];exact if_neg (by omega));have V6:=zz (cmpZ_lt hc2);clear hc2 hc1;refine Flow.run [⟨0,36,fun fv fw=>fv=.agg #[.bool n85,.slice p6 l85 c85]⟩,⟨1,37,fun fv fw=>fv=.agg #[.bool n92,.slice q6 l92 c92]⟩,⟨2,38,fun fv fw=>fv=.int .i64 c⟩,⟨3,39,fun fv fw=>fv=.bool false⟩,⟨4,40,fun fv fw=>fv=.bool false⟩,⟨5,41,fun fv fw=>fv=.agg #[.bool n85,.slice p6 l85 c85]⟩,⟨6,42,fun fv fw=>fv=.agg #[.bool n92,.slice q6 l92 c92]⟩,⟨7,43,fun fv fw=>LV fw fw.heap.size fv (-4611686018427387904)⟩,⟨8,44,fun fv fw=>fv=.int .i64 (-1)⟩,⟨9,45,fun fv fw=>fv=.bool true⟩,⟨10,46,fun fv fw=>fv=.bool true⟩] [] [] 0 (by kernel_rfl) (by kernel_rfl) (by kernel_rfl) (fun _ _ _ _ _ h=>h) ?_ ?_ ?_ ?_
       ·refine(a0 (a0 (a0 (a0 (a0 (a0 (a0 (all_cons (fun v w1 w2 h hb=>h.step hb) (a0 (a0 (a0 all_nil)))))))))))
       ·refine(all_cons ?_ (all_cons ?_ (all_cons ?_ (all_cons ?_ (all_cons ?_ (all_cons ?_ (all_cons ?_ (all_cons ?_ (all_cons ?_ (all_cons ?_ (all_cons ?_ all_nil)))))))))))
        ·intro xs e5 c0 b0;have D1:=zz c0;have g5:=c0.size;clear c0;clear b0;refine wpOp_step (o:=_) rfl (fun K hK=>?_);simp only[FL]
         have P10_12_125:=zz (B90.out.trans (B94.out.mono B90.out.size));have P10_13_126:=zz (P10_12_125.out.trans (D1.out.mono P10_12_125.out.size));have C0:=CB.step g0 P10_13_126.out;have M3:=C0.cell 0 rfl;have N3:=C0.cell 1 rfl;go_simp;refine hK _ _ ⟨.agg #[.bool n85,.slice p6 l85 c85],by kernel_rfl,Below.refl _ _,rfl,nF⟩
        ·intro xs h5 c0 b0;have F1:=zz c0;have i5:=c0.size;clear c0;clear b0;refine wpOp_step (o:=_) rfl (fun K hK=>?_);simp only[FL]
         have p0:=CB.step e0 F1.out;have O3:=p0.cell 0 rfl;have P3:=p0.cell 1 rfl;go_simp;refine hK _ _ ⟨.agg #[.bool n92,.slice q6 l92 c92],by kernel_rfl,Below.refl _ _,rfl,nF⟩
        ·intro xs j5 c0 b0;have K0:=zz c0;have k5:=c0.size;clear c0;have f0:(xs 0)=.agg #[.bool n85,.slice p6 l85 c85]:=b0 _ (m_ 0 rfl) (by kernel_rfl);have f1:(xs 1)=.agg #[.bool n92,.slice q6 l92 c92]:=b0 _ (m_ 1 rfl) (by kernel_rfl);clear b0;refine wpOp_step (o:=_) rfl (fun K hK=>?_);simp only[FL]
         go_simp;have P9_11_132:=zz (B87.out.trans (B90.out.mono B87.out.size));have P9_12_133:=zz (P9_11_132.out.trans (B94.out.mono P9_11_132.out.size));have P9_13_134:=zz (P9_12_133.out.trans (K0.out.mono P9_12_133.out.size));have G1:=zz (LV.step k0.out P9_13_134.out);have P11_13_136:=zz (B94.out.trans (K0.out.mono B94.out.size));have L0:=zz (LV.step d0.out P11_13_136.out);(with_reducible refine((show Calls Tryz.prog _ _ _ _ from HC.out▸ROrder_any _ _ _ z 4611686018427387904 G1.out L0.out)).mono ?_)
         rintro e wc138 ⟨G2,rfl⟩;refine hK _ _ ⟨.int .i64 c,by simp only[FL,f0,f1] <;> kernel_rfl,G2,rfl,nF⟩
        ·intro xs l5 c0 b0;have Q3:=zz c0;have m5:=c0.size;clear c0;have f2:(xs 2)=.int .i64 c:=b0 _ (m_ 2 rfl) (by kernel_rfl);clear b0;refine wpOp_step (o:=_) rfl (fun K hK=>?_);simp only[FL]
         go_simp;refine hK _ _ ⟨.bool false,by simp only[FL,f2] <;> kernel_rfl,Below.refl _ _,rfl,nF⟩
        ·intro xs n5 c0 b0;have R3:=zz c0;have o5:=c0.size;clear c0;have f3:(xs 3)=.bool false:=b0 _ (m_ 3 rfl) (by kernel_rfl);clear b0;refine wpOp_step (o:=_) rfl (fun K hK=>?_);simp only[FL]
         go_simp;refine hK _ _ ⟨.bool false,by simp only[FL,f3] <;> kernel_rfl,Below.refl _ _,rfl,nF⟩
        ·intro xs p5 c0 b0;have H1:=zz c0;have q5:=c0.size;clear c0;have f4:(xs 4)=.bool false:=b0 _ (m_ 4 rfl) (by kernel_rfl);clear b0;refine wpOp_step (o:=?_) ?S3 ?_
         case S3=>exact rfl
         intro K hK;simp only[FL]
         have P10_12_143:=zz (B90.out.trans (B94.out.mono B90.out.size));have P10_13_144:=zz (P10_12_143.out.trans (H1.out.mono P10_12_143.out.size));have D0:=CB.step g0 P10_13_144.out;have T3:=D0.cell 0 rfl;have U3:=D0.cell 1 rfl;go_simp;refine hK _ _ ⟨.agg #[.bool n85,.slice p6 l85 c85],by simp only[FL,f4] <;> kernel_rfl,Below.refl _ _,rfl,nF⟩
        ·intro xs r5 c0 b0;have I1:=zz c0;have s5:=c0.size;clear c0;have f4:(xs 4)=.bool false:=b0 _ (m_ 4 rfl) (by kernel_rfl);clear b0;refine wpOp_step (o:=?_) ?V3 ?_
         case V3=>exact rfl
         intro K hK;simp only[FL]
         have q0:=CB.step e0 I1.out;have W3:=q0.cell 0 rfl;have X3:=q0.cell 1 rfl;go_simp;refine hK _ _ ⟨.agg #[.bool n92,.slice q6 l92 c92],by simp only[FL,f4] <;> kernel_rfl,Below.refl _ _,rfl,nF⟩
        ·intro xs t5 c0 b0;have J1:=zz c0;have u5:=c0.size;clear c0;have f4:(xs 4)=.bool false:=b0 _ (m_ 4 rfl) (by kernel_rfl);have f6:(xs 6)=.agg #[.bool n92,.slice q6 l92 c92]:=b0 _ (m_ 6 rfl) (by kernel_rfl);clear b0;refine wpOp_step (o:=?_) ?Y3 ?_
         case Y3=>exact rfl
         intro K hK;simp only[FL]
         go_simp;have P11_13_150:=zz (B94.out.trans (J1.out.mono B94.out.size));have M0:=zz (LV.step d0.out P11_13_150.out);(with_reducible refine(RMinus_any _ _ 4611686018427387904 M0.out (Nat.le_trans (fit_i64 (by decide) (by decide)) (by decide))).mono ?_)
         rintro e wc152 ⟨H2,v152,rfl,I2⟩;refine hK _ _ ⟨v152,by simp only[FL,f4,f6] <;> kernel_rfl,H2,I2,nF⟩
        ·intro xs W0 c0 b0;have K1:=zz c0;have v5:=c0.size;clear c0;have f4:(xs 4)=.bool false:=b0 _ (m_ 4 rfl) (by kernel_rfl);have f5:(xs 5)=.agg #[.bool n85,.slice p6 l85 c85]:=b0 _ (m_ 5 rfl) (by kernel_rfl);have f7:LV W0 W0.heap.size (xs 7) (-4611686018427387904):=b0 _ (m_ 7 rfl) (by kernel_rfl);clear b0;refine wpOp_step (o:=?_) ?Z3 ?_
         case Z3=>exact rfl
         intro K hK;simp only[FL]
         go_simp;have P9_11_154:=zz (B87.out.trans (B90.out.mono B87.out.size));have P9_12_155:=zz (P9_11_154.out.trans (B94.out.mono P9_11_154.out.size));have P9_13_156:=zz (P9_12_155.out.trans (K1.out.mono P9_12_155.out.size));have L1:=zz (LV.step k0.out P9_13_156.out);(with_reducible refine((show Calls Tryz.prog _ _ _ _ from V6.out▸ROrder_any _ _ _ z (-4611686018427387904) L1.out f7)).mono ?_)
         rintro e wc158 ⟨J2,rfl⟩;refine hK _ _ ⟨.int .i64 (-1),by simp only[FL,f4,f5] <;> kernel_rfl,J2,rfl,nF⟩
        ·intro xs y5 c0 b0;have a4:=zz c0;have z5:=c0.size;clear c0;have f4:(xs 4)=.bool false:=b0 _ (m_ 4 rfl) (by kernel_rfl);have f8:(xs 8)=.int .i64 (-1):=b0 _ (m_ 8 rfl) (by kernel_rfl);clear b0;refine wpOp_step (o:=?_) ?b4 ?_
         case b4=>exact rfl
         intro K hK;simp only[FL]
         go_simp;refine hK _ _ ⟨.bool true,by simp only[FL,f4,f8] <;> kernel_rfl,Below.refl _ _,rfl,nF⟩
        ·intro xs A5 c0 b0;have c4:=zz c0;have B5:=c0.size;clear c0;have f4:(xs 4)=.bool false:=b0 _ (m_ 4 rfl) (by kernel_rfl);have f9:(xs 9)=.bool true:=b0 _ (m_ 9 rfl) (by kernel_rfl);clear b0;refine wpOp_step (o:=_) rfl (fun K hK=>?_);simp only[FL]
         go_simp;refine hK _ _ ⟨.bool true,by simp only[FL,f4,f9] <;> kernel_rfl,Below.refl _ _,rfl,nF⟩
       ·exact all_nil
       ·intro xs F6 hbf hf hn hd;have f0:(xs 0)=.agg #[.bool n85,.slice p6 l85 c85]:=hf _ (m_ 0 rfl);have f1:(xs 1)=.agg #[.bool n92,.slice q6 l92 c92]:=hf _ (m_ 1 rfl);have f2:(xs 2)=.int .i64 c:=hf _ (m_ 2 rfl);have f3:(xs 3)=.bool false:=hf _ (m_ 3 rfl);have f4:(xs 4)=.bool false:=hf _ (m_ 4 rfl);have f5:(xs 5)=.agg #[.bool n85,.slice p6 l85 c85]:=hf _ (m_ 5 rfl);have f6:(xs 6)=.agg #[.bool n92,.slice q6 l92 c92]:=hf _ (m_ 6 rfl);have f7:LV F6 F6.heap.size (xs 7) (-4611686018427387904):=hf _ (m_ 7 rfl);have f8:(xs 8)=.int .i64 (-1):=hf _ (m_ 8 rfl);have f9:(xs 9)=.bool true:=hf _ (m_ 9 rfl);have f10:(xs 10)=.bool true:=hf _ (m_ 10 rfl);clear hf hn hd;simp only[FL]
        have B162:=zz hbf;have z162:=B162.out.size;have K2:=zz (m0.out.trans (B162.out.mono m0.out.size));clear hbf;generalize xs 0=x0,xs 1=x1,xs 2=x2,xs 3=x3,xs 4=x4,xs 5=x5,xs 6=x6,xs 7=x7,xs 8=x8,xs 9=x9,xs 10=x10 at *
        obtain rfl:=f0;obtain rfl:=f1;obtain rfl:=f2;obtain rfl:=f3;obtain rfl:=f4;obtain rfl:=f5;obtain rfl:=f6;clear f7;obtain rfl:=f8;obtain rfl:=f9;obtain rfl:=f10;refine Early.done (by kernel_rfl) ?_ _;(try simp only[Exit.then])
        go_wp2;go_ret2;exact⟨K2.out,(by rw[HT.out];rfl)⟩
      ·have HT:=zz (show t=(z,0) by rw[J6.out];exact if_pos (by omega));have i7:=zz (show -9223372036854775808≤z∧z≤9223372036854775807 by omega);obtain⟨e,he⟩:∃ c,(cmpZ z (-4611686018427387904)).1=c:=⟨_,rfl⟩;have he0:¬ e<0:=he▸cmpZ_not_lt hc2;have V6:=zz he;clear he hc1 hc2;refine Flow.run [⟨0,36,fun fv fw=>fv=.agg #[.bool n85,.slice p6 l85 c85]⟩,⟨1,37,fun fv fw=>fv=.agg #[.bool n92,.slice q6 l92 c92]⟩,⟨2,38,fun fv fw=>fv=.int .i64 c⟩,⟨3,39,fun fv fw=>fv=.bool false⟩,⟨4,40,fun fv fw=>fv=.bool false⟩,⟨5,41,fun fv fw=>fv=.agg #[.bool n85,.slice p6 l85 c85]⟩,⟨6,42,fun fv fw=>fv=.agg #[.bool n92,.slice q6 l92 c92]⟩,⟨7,43,fun fv fw=>LV fw fw.heap.size fv (-4611686018427387904)⟩,⟨8,44,fun fv fw=>fv=.int .i64 e⟩,⟨9,45,fun fv fw=>fv=.bool false⟩,⟨10,46,fun fv fw=>fv=.bool false⟩] [] [] 0 (by kernel_rfl) (by kernel_rfl) (by kernel_rfl) (fun _ _ _ _ _ h=>h) ?_ ?_ ?_ ?_
       ·refine(a0 (a0 (a0 (a0 (a0 (a0 (a0 (all_cons (fun v w1 w2 h hb=>h.step hb) (a0 (a0 (a0 all_nil)))))))))))
       ·refine(all_cons ?_ (all_cons ?_ (all_cons ?_ (all_cons ?_ (all_cons ?_ (all_cons ?_ (all_cons ?_ (all_cons ?_ (all_cons ?_ (all_cons ?_ (all_cons ?_ all_nil)))))))))))
        ·intro xs C5 c0 b0;have M1:=zz c0;have D5:=c0.size;clear c0;clear b0;refine wpOp_step (o:=_) rfl (fun K hK=>?_);simp only[FL]
         have P10_12_166:=zz (B90.out.trans (B94.out.mono B90.out.size));have P10_13_167:=zz (P10_12_166.out.trans (M1.out.mono P10_12_166.out.size));have E0:=CB.step g0 P10_13_167.out;have d4:=E0.cell 0 rfl;have e4:=E0.cell 1 rfl;go_simp;refine hK _ _ ⟨.agg #[.bool n85,.slice p6 l85 c85],by kernel_rfl,Below.refl _ _,rfl,nF⟩
        ·intro xs E5 c0 b0;have N1:=zz c0;have F5:=c0.size;clear c0;clear b0;refine wpOp_step (o:=_) rfl (fun K hK=>?_);simp only[FL]
         have r0:=CB.step e0 N1.out;have g4:=r0.cell 0 rfl;have h4:=r0.cell 1 rfl;go_simp;refine hK _ _ ⟨.agg #[.bool n92,.slice q6 l92 c92],by kernel_rfl,Below.refl _ _,rfl,nF⟩
        ·intro xs G5 c0 b0;have N0:=zz c0;have H5:=c0.size;clear c0;have f0:(xs 0)=.agg #[.bool n85,.slice p6 l85 c85]:=b0 _ (m_ 0 rfl) (by kernel_rfl);have f1:(xs 1)=.agg #[.bool n92,.slice q6 l92 c92]:=b0 _ (m_ 1 rfl) (by kernel_rfl);clear b0;refine wpOp_step (o:=_) rfl (fun K hK=>?_);simp only[FL]
         go_simp;have P9_11_173:=zz (B87.out.trans (B90.out.mono B87.out.size));have P9_12_174:=zz (P9_11_173.out.trans (B94.out.mono P9_11_173.out.size));have P9_13_175:=zz (P9_12_174.out.trans (N0.out.mono P9_12_174.out.size));have O1:=zz (LV.step k0.out P9_13_175.out);have P11_13_177:=zz (B94.out.trans (N0.out.mono B94.out.size));have O0:=zz (LV.step d0.out P11_13_177.out);(with_reducible refine((show Calls Tryz.prog _ _ _ _ from HC.out▸ROrder_any _ _ _ z 4611686018427387904 O1.out O0.out)).mono ?_)
         rintro e wc179 ⟨L2,rfl⟩;refine hK _ _ ⟨.int .i64 c,by simp only[FL,f0,f1] <;> kernel_rfl,L2,rfl,nF⟩
        ·intro xs I5 c0 b0;have i4:=zz c0;have J5:=c0.size;clear c0;have f2:(xs 2)=.int .i64 c:=b0 _ (m_ 2 rfl) (by kernel_rfl);clear b0;refine wpOp_step (o:=_) rfl (fun K hK=>?_);simp only[FL]
         go_simp;refine hK _ _ ⟨.bool false,by simp only[FL,f2] <;> kernel_rfl,Below.refl _ _,rfl,nF⟩
        ·intro xs K5 c0 b0;have j4:=zz c0;have L5:=c0.size;clear c0;have f3:(xs 3)=.bool false:=b0 _ (m_ 3 rfl) (by kernel_rfl);clear b0;refine wpOp_step (o:=_) rfl (fun K hK=>?_);simp only[FL]
         go_simp;refine hK _ _ ⟨.bool false,by simp only[FL,f3] <;> kernel_rfl,Below.refl _ _,rfl,nF⟩
        ·intro xs M5 c0 b0;have P1:=zz c0;have N5:=c0.size;clear c0;have f4:(xs 4)=.bool false:=b0 _ (m_ 4 rfl) (by kernel_rfl);clear b0;refine wpOp_step (o:=?_) ?k4 ?_
         case k4=>exact rfl
         intro K hK;simp only[FL]
         have P10_12_184:=zz (B90.out.trans (B94.out.mono B90.out.size));have P10_13_185:=zz (P10_12_184.out.trans (P1.out.mono P10_12_184.out.size));have F0:=CB.step g0 P10_13_185.out;have l4:=F0.cell 0 rfl;have m4:=F0.cell 1 rfl;go_simp;refine hK _ _ ⟨.agg #[.bool n85,.slice p6 l85 c85],by simp only[FL,f4] <;> kernel_rfl,Below.refl _ _,rfl,nF⟩
        ·intro xs O5 c0 b0;have Q1:=zz c0;have P5:=c0.size;clear c0;have f4:(xs 4)=.bool false:=b0 _ (m_ 4 rfl) (by kernel_rfl);clear b0;refine wpOp_step (o:=?_) ?n4 ?_
         case n4=>exact rfl
         intro K hK;simp only[FL]
         have s0:=CB.step e0 Q1.out;have o4:=s0.cell 0 rfl;have p4:=s0.cell 1 rfl;go_simp;refine hK _ _ ⟨.agg #[.bool n92,.slice q6 l92 c92],by simp only[FL,f4] <;> kernel_rfl,Below.refl _ _,rfl,nF⟩
        ·intro xs Q5 c0 b0;have R1:=zz c0;have R5:=c0.size;clear c0;have f4:(xs 4)=.bool false:=b0 _ (m_ 4 rfl) (by kernel_rfl);have f6:(xs 6)=.agg #[.bool n92,.slice q6 l92 c92]:=b0 _ (m_ 6 rfl) (by kernel_rfl);clear b0;refine wpOp_step (o:=?_) ?q4 ?_
         case q4=>exact rfl
         intro K hK;simp only[FL]
         go_simp;have P11_13_191:=zz (B94.out.trans (R1.out.mono B94.out.size));have P0:=zz (LV.step d0.out P11_13_191.out);(with_reducible refine(RMinus_any _ _ 4611686018427387904 P0.out (Nat.le_trans (fit_i64 (by decide) (by decide)) (by decide))).mono ?_)
         rintro e wc193 ⟨M2,v193,rfl,N2⟩;refine hK _ _ ⟨v193,by simp only[FL,f4,f6] <;> kernel_rfl,M2,N2,nF⟩
        ·intro xs X0 c0 b0;have S1:=zz c0;have S5:=c0.size;clear c0;have f4:(xs 4)=.bool false:=b0 _ (m_ 4 rfl) (by kernel_rfl);have f5:(xs 5)=.agg #[.bool n85,.slice p6 l85 c85]:=b0 _ (m_ 5 rfl) (by kernel_rfl);have f7:LV X0 X0.heap.size (xs 7) (-4611686018427387904):=b0 _ (m_ 7 rfl) (by kernel_rfl);clear b0;refine wpOp_step (o:=?_) ?r4 ?_
         case r4=>exact rfl
         intro K hK;simp only[FL]
         go_simp;have P9_11_195:=zz (B87.out.trans (B90.out.mono B87.out.size));have P9_12_196:=zz (P9_11_195.out.trans (B94.out.mono P9_11_195.out.size));have P9_13_197:=zz (P9_12_196.out.trans (S1.out.mono P9_12_196.out.size));have T1:=zz (LV.step k0.out P9_13_197.out);(with_reducible refine((show Calls Tryz.prog _ _ _ _ from V6.out▸ROrder_any _ _ _ z (-4611686018427387904) T1.out f7)).mono ?_)
         rintro e wc199 ⟨O2,rfl⟩;refine hK _ _ ⟨.int .i64 e,by simp only[FL,f4,f5] <;> kernel_rfl,O2,rfl,nF⟩
        ·intro xs T5 c0 b0;have s4:=zz c0;have U5:=c0.size;clear c0;have f4:(xs 4)=.bool false:=b0 _ (m_ 4 rfl) (by kernel_rfl);have f8:(xs 8)=.int .i64 e:=b0 _ (m_ 8 rfl) (by kernel_rfl);clear b0;refine wpOp_step (o:=?_) ?t4 ?_
         case t4=>exact rfl
         intro K hK;simp only[FL]
         go_simp;refine hK _ _ ⟨.bool false,by simp only[FL,f4,f8] <;> kernel_rfl,Below.refl _ _,rfl,nF⟩
        ·intro xs V5 c0 b0;have u4:=zz c0;have W5:=c0.size;clear c0;have f4:(xs 4)=.bool false:=b0 _ (m_ 4 rfl) (by kernel_rfl);have f9:(xs 9)=.bool false:=b0 _ (m_ 9 rfl) (by kernel_rfl);clear b0;refine wpOp_step (o:=_) rfl (fun K hK=>?_);simp only[FL]
         go_simp;refine hK _ _ ⟨.bool false,by simp only[FL,f4,f9] <;> kernel_rfl,Below.refl _ _,rfl,nF⟩
       ·exact all_nil
       ·intro xs G6 hbf hf hn hd;have f0:(xs 0)=.agg #[.bool n85,.slice p6 l85 c85]:=hf _ (m_ 0 rfl);have f1:(xs 1)=.agg #[.bool n92,.slice q6 l92 c92]:=hf _ (m_ 1 rfl);have f2:(xs 2)=.int .i64 c:=hf _ (m_ 2 rfl);have f3:(xs 3)=.bool false:=hf _ (m_ 3 rfl);have f4:(xs 4)=.bool false:=hf _ (m_ 4 rfl);have f5:(xs 5)=.agg #[.bool n85,.slice p6 l85 c85]:=hf _ (m_ 5 rfl);have f6:(xs 6)=.agg #[.bool n92,.slice q6 l92 c92]:=hf _ (m_ 6 rfl);have f7:LV G6 G6.heap.size (xs 7) (-4611686018427387904):=hf _ (m_ 7 rfl);have f8:(xs 8)=.int .i64 e:=hf _ (m_ 8 rfl);have f9:(xs 9)=.bool false:=hf _ (m_ 9 rfl);have f10:(xs 10)=.bool false:=hf _ (m_ 10 rfl);clear hf hn hd;simp only[FL]
        have B203:=zz hbf;have z203:=B203.out.size;have Y0:=zz (m0.out.trans (B203.out.mono m0.out.size));clear hbf;generalize xs 0=x0,xs 1=x1,xs 2=x2,xs 3=x3,xs 4=x4,xs 5=x5,xs 6=x6,xs 7=x7,xs 8=x8,xs 9=x9,xs 10=x10 at *
        obtain rfl:=f0;obtain rfl:=f1;obtain rfl:=f2;obtain rfl:=f3;obtain rfl:=f4;obtain rfl:=f5;obtain rfl:=f6;clear f7;obtain rfl:=f8;obtain rfl:=f9;obtain rfl:=f10;refine Early.done (by kernel_rfl) ?_ _;(try simp only[Exit.then])
        have P10_12_207:=zz (B90.out.trans (B94.out.mono B90.out.size));have P10_13_208:=zz (P10_12_207.out.trans (B203.out.mono P10_12_207.out.size));have n0:=CB.step g0 P10_13_208.out;have U1:=n0.cell 0 rfl;have V1:=n0.cell 1 rfl;have H6:=n0.lt;go_wp2_with fail
        have P9_11_210:=zz (B87.out.trans (B90.out.mono B87.out.size));have P9_12_211:=zz (P9_11_210.out.trans (B94.out.mono P9_11_210.out.size));have P9_13_212:=zz (P9_12_211.out.trans (B203.out.mono P9_12_211.out.size));have W1:=zz (LV.step k0.out P9_13_212.out);refine(RInt_num W1.out i7.out.1 i7.out.2).mono ?_;rintro e w205 ⟨Z0,rfl⟩;have B214:=zz Z0;have z214:=B214.out.size;have P2:=zz (Y0.out.trans (B214.out.mono Y0.out.size));clear Z0;clear U1 V1 H6;go_wp2;go_ret2;exact⟨P2.out,(by rw[HT.out];rfl)⟩
end Go.Proofs.YtioclokmbgmamaaGreatDoor
