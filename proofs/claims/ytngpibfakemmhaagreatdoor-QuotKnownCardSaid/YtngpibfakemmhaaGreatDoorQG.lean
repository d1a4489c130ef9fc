/- Layer 04: number (written by gen_qg.py). -/
import Derived.Test.YtngpibfakemmhaaGreatDoorQF
namespace Go.Proofs.YtngpibfakemmhaaGreatDoor
open Go Go.RowKit Dig
def numN (z most:Int):Value:=.tuple #[.int .i64 (if z.natAbs≤most.natAbs then z else 0),.bool (decide (z.natAbs≤most.natAbs))]
set_option maxRecDepth 100000 in
set_option maxHeartbeats 4000000 in
theorem number_any (w:World) (v:Value) (z most:Int) (h:WV w w.heap.size v z) (h0:0≤most) (h1:most≤4611686018427387904) (hl:(dig z.natAbs).length≤100000) (G:Glob w) :
  Calls Tryz.prog 56 #[v,.int .i64 most] w fun e w'=>Below w.heap.size w w'∧e=.returned (numN z most):=by
 obtain⟨n,A,l,c,rfl,Ha,hn⟩:=h;have el:=RN.len Ha;have HL:=zz hl;have HN:=zz hn;have H0:=zz h0;have H1:=zz h1;have w3:=zz el;replace Ha:=zz Ha;clear el hl h0 h1;obtain⟨w0,hw0⟩:∃ w0:World,w0=(w.alloc (.cells #[.bool n,.slice A l c] 78)):=⟨_,rfl⟩;have B0:=zz (n1_b hw0);have z0:=n1_z hw0;have La:=n1_0 hw0;replace Ha:=zz (RN.stepN Ha.out B0.out);by_cases hle:z.natAbs≤most.natAbs
 ·have g3:=zz hle;have HV:=zz (show numN z most=.tuple #[.int .i64 z,.bool true] by unfold numN;rw[if_pos hle,decide_eq_true hle]);clear hle;cases n with
  | false=>
   have o3:=zz (show false=decide (z<0) from by rw[decide_eq_false];rcases wsgn_cases hn with h | ⟨h,-⟩ | ⟨-,h⟩ <;> first | omega | cases h);clear hn;go_enter Tryz.func56,Tryz.ntmps56
   go_upto_region 1 with (fail)
   rw[← hw0];clear hw0;refine Flow.run [⟨0,8,fun fv fw=>fv=.pointer (some ⟨w.heap.size,1,none⟩)⟩,⟨1,9,fun fv fw=>fv=.slice A l c⟩,⟨2,10,fun fv fw=>fv=.int .i64 most⟩,⟨3,11,fun fv fw=>LV fw fw.heap.size fv most⟩,⟨4,12,fun fv fw=>RN fw fw.heap.size fv (dig (most).natAbs)⟩,⟨5,13,fun fv fw=>∃ c:Int,fv=.int .i64 c∧SignOf c (z.natAbs) (most.natAbs)⟩,⟨6,14,fun fv fw=>fv=.bool false⟩] [] [] 0 (by kernel_rfl) (by kernel_rfl) (by kernel_rfl) (fun _ _ _ _ _ h=>h) ?_ ?_ ?_ ?_
   ·refine(a0 (a0 (a0 (all_cons (fun v w1 w2 h hb=>h.step hb) (all_cons (fun v w1 w2 h hb=>h.step hb) (a0 (a0 all_nil)))))))
   ·refine(all_cons ?_ (all_cons ?_ (all_cons ?_ (all_cons ?_ (all_cons ?_ (all_cons ?_ (all_cons ?_ all_nil)))))))
    ·intro xs V2 b0 c0;clear b0;clear c0;refine wpOp_step (o:=_) rfl (fun K hK=>?_);simp only[FL]
     go_simp;refine hK _ _ ⟨.pointer (some ⟨w.heap.size,1,none⟩),by kernel_rfl,Below.refl _ _,rfl,nF⟩
    ·intro xs X2 b0 c0;have c1:=zz b0;have Y2:=b0.size;clear b0;have f0:(xs 0)=.pointer (some ⟨w.heap.size,1,none⟩):=c0 _ (m_ 0 rfl) (by kernel_rfl);clear c0;refine wpOp_step (o:=_) rfl (fun K hK=>?_);simp only[FL]
     have d1:=CB.step La c1.out;have c2:=d1.cell 1 rfl;go_simp;refine hK _ _ ⟨.slice A l c,by simp only[FL,f0] <;> kernel_rfl,Below.refl _ _,rfl,nF⟩
    ·intro xs Z2 b0 c0;clear b0;clear c0;refine wpOp_step (o:=_) rfl (fun K hK=>?_);simp only[FL]
     go_simp;refine hK _ _ ⟨.int .i64 most,by kernel_rfl,Below.refl _ _,rfl,nF⟩
    ·intro xs b3 b0 c0;have e2:=zz b0;have c3:=b0.size;clear b0;have f2:(xs 2)=.int .i64 most:=c0 _ (m_ 2 rfl) (by kernel_rfl);clear c0;refine wpOp_step (o:=_) rfl (fun K hK=>?_);simp only[FL]
     go_simp;(with_reducible refine(Of_any _ most (by have:=H0.out;omega) (by have:=H1.out;omega)).mono ?_)
     rintro e wc7 ⟨v1,v7,rfl,y1⟩;refine hK _ _ ⟨v7,by simp only[FL,f2] <;> kernel_rfl,v1,y1,nF⟩
    ·intro xs a1 b0 c0;clear b0;have f3:LV a1 a1.heap.size (xs 3) most:=c0 _ (m_ 3 rfl) (by kernel_rfl);clear c0;refine wpOp_step (o:=_) rfl (fun K hK=>?_);simp only[FL]
     obtain⟨q3,k3,l3,m3,hx3,d0⟩:=LV.opened f3;have r3:=(LV.is d0).2.2;rw[hx3];clear d0;go_simp;refine hK _ _ ⟨.slice k3 l3 m3,by simp only[FL,hx3] <;> kernel_rfl,Below.refl _ _,r3,nF⟩
    ·intro xs b1 b0 c0;have e1:=zz b0;have e3:=b0.size;clear b0;have f1:(xs 1)=.slice A l c:=c0 _ (m_ 1 rfl) (by kernel_rfl);have f4:RN b1 b1.heap.size (xs 4) (dig (most).natAbs):=c0 _ (m_ 4 rfl) (by kernel_rfl);clear c0;refine wpOp_step (o:=_) rfl (fun K hK=>?_);simp only[FL]
     go_simp;have D0:=zz (RN.step Ha.out e1.out);(with_reducible refine(Cmp_any _ _ _ z.natAbs most.natAbs D0.out f4).mono ?_)
     rintro e wc11 ⟨g1,c11,rfl,hc11⟩;refine hK _ _ ⟨.int .i64 c11,by simp only[FL,f1] <;> kernel_rfl,g1,⟨c11,rfl,hc11⟩,nF⟩
    ·intro xs h2 b0 c0;have I1:=zz b0;have i2:=b0.size;clear b0;have f5:∃ c:Int,(xs 5)=.int .i64 c∧SignOf c (z.natAbs) (most.natAbs):=c0 _ (m_ 5 rfl) (by kernel_rfl);clear c0;refine wpOp_step (o:=_) rfl (fun K hK=>?_);simp only[FL]
     obtain⟨c,hc,hs⟩:=f5;unfold SignOf at hs;have hq:¬ 0<c:=by have:=g3.out;omega
     rw[hc];clear hs;go_simp;refine hK _ _ ⟨.bool false,by simp only[FL,hc] <;> kernel_rfl,Below.refl _ _,rfl,nF⟩
   ·exact all_nil
   ·intro xs h3 hbf hf hn hd;have f0:(xs 0)=.pointer (some ⟨w.heap.size,1,none⟩):=hf _ (m_ 0 rfl);have f1:(xs 1)=.slice A l c:=hf _ (m_ 1 rfl);have f2:(xs 2)=.int .i64 most:=hf _ (m_ 2 rfl);have f3:LV h3 h3.heap.size (xs 3) most:=hf _ (m_ 3 rfl);have f4:RN h3 h3.heap.size (xs 4) (dig (most).natAbs):=hf _ (m_ 4 rfl);have f5:∃ c:Int,(xs 5)=.int .i64 c∧SignOf c (z.natAbs) (most.natAbs):=hf _ (m_ 5 rfl);have f6:(xs 6)=.bool false:=hf _ (m_ 6 rfl);clear hf hn hd;simp only[FL]
    have B14:=zz hbf;have z14:=B14.out.size;have j0:=zz (B0.out.trans (B14.out.mono B0.out.size));clear hbf;generalize xs 0=x0,xs 1=x1,xs 2=x2,xs 3=x3,xs 4=x4,xs 5=x5,xs 6=x6 at *
    obtain rfl:=f0;obtain rfl:=f1;obtain rfl:=f2;obtain⟨n16,y3,l16,c16,rfl,m0⟩:=f3.opened;have z1:=zz m0;clear f3 m0;obtain⟨A17,c17,rfl,-⟩:=RN.cell f4;have A1:=zz f4;clear f4;clear f5;obtain rfl:=f6;refine Early.done (by kernel_rfl) ?_ _;(try simp only[Exit.then])
    have E0:=zz (RN.step Ha.out B14.out);have HZ:=zz (show LV h3 h3.heap.size (.agg #[.bool false,.slice A l c]) z from⟨_,by rw[o3.out],E0.out⟩);have e0:=CB.step La B14.out;have F0:=e0.cell 0 rfl;have G0:=e0.cell 1 rfl;have t3:=e0.lt;go_wp2_with fail
    refine(Int_num HZ.out (show(dig z.natAbs).length≤600 by rw[dig_len_le];have:=g3.out;have h1:=H1.out;have h0:=H0.out;refine Nat.lt_of_le_of_lt (show z.natAbs≤4611686018427387904 by omega) (Nat.lt_of_lt_of_le (show 4611686018427387904<bp 3 by decide) (bp_le (by omega)))) (G.step j0.out)).mono ?_;rintro e w19 ⟨n0,rfl⟩;have B22:=zz n0;have z22:=B22.out.size;have i1:=zz (j0.out.trans (B22.out.mono j0.out.size));clear n0;clear F0 G0 t3;rw[show intZ z=(z,0) from if_pos (by have:=g3.out;have h1:=H1.out;have h0:=H0.out;omega)];go_wp2;go_ret2;exact⟨i1.out,by rw[HV.out];rfl⟩
  | true=>
   by_cases hz:z=0
   ·have hl0:decide (0<l)=false:=by rw[w3.out,hz,show(0:Int).natAbs=0 from rfl,dig_zero];decide
    have o3:=zz (show false=decide (z<0) from by rw[hz];rfl);clear hn;clear hz;go_enter Tryz.func56,Tryz.ntmps56
    go_upto_region 1 with (fail)
    rw[← hw0];clear hw0;refine Flow.run [⟨0,8,fun fv fw=>fv=.pointer (some ⟨w.heap.size,1,none⟩)⟩,⟨1,9,fun fv fw=>fv=.slice A l c⟩,⟨2,10,fun fv fw=>fv=.int .i64 most⟩,⟨3,11,fun fv fw=>LV fw fw.heap.size fv most⟩,⟨4,12,fun fv fw=>RN fw fw.heap.size fv (dig (most).natAbs)⟩,⟨5,13,fun fv fw=>∃ c:Int,fv=.int .i64 c∧SignOf c (z.natAbs) (most.natAbs)⟩,⟨6,14,fun fv fw=>fv=.bool false⟩] [] [] 0 (by kernel_rfl) (by kernel_rfl) (by kernel_rfl) (fun _ _ _ _ _ h=>h) ?_ ?_ ?_ ?_
    ·refine(a0 (a0 (a0 (all_cons (fun v w1 w2 h hb=>h.step hb) (all_cons (fun v w1 w2 h hb=>h.step hb) (a0 (a0 all_nil)))))))
    ·refine(all_cons ?_ (all_cons ?_ (all_cons ?_ (all_cons ?_ (all_cons ?_ (all_cons ?_ (all_cons ?_ all_nil)))))))
     ·intro xs j2 b0 c0;clear b0;clear c0;refine wpOp_step (o:=_) rfl (fun K hK=>?_);simp only[FL]
      go_simp;refine hK _ _ ⟨.pointer (some ⟨w.heap.size,1,none⟩),by kernel_rfl,Below.refl _ _,rfl,nF⟩
     ·intro xs l2 b0 c0;have I0:=zz b0;have m2:=b0.size;clear b0;have f0:(xs 0)=.pointer (some ⟨w.heap.size,1,none⟩):=c0 _ (m_ 0 rfl) (by kernel_rfl);clear c0;refine wpOp_step (o:=_) rfl (fun K hK=>?_);simp only[FL]
      have J0:=CB.step La I0.out;have K1:=J0.cell 1 rfl;go_simp;refine hK _ _ ⟨.slice A l c,by simp only[FL,f0] <;> kernel_rfl,Below.refl _ _,rfl,nF⟩
     ·intro xs n2 b0 c0;clear b0;clear c0;refine wpOp_step (o:=_) rfl (fun K hK=>?_);simp only[FL]
      go_simp;refine hK _ _ ⟨.int .i64 most,by kernel_rfl,Below.refl _ _,rfl,nF⟩
     ·intro xs p2 b0 c0;have M1:=zz b0;have q2:=b0.size;clear b0;have f2:(xs 2)=.int .i64 most:=c0 _ (m_ 2 rfl) (by kernel_rfl);clear c0;refine wpOp_step (o:=_) rfl (fun K hK=>?_);simp only[FL]
      go_simp;(with_reducible refine(Of_any _ most (by have:=H0.out;omega) (by have:=H1.out;omega)).mono ?_)
      rintro e wc30 ⟨j1,v30,rfl,k1⟩;refine hK _ _ ⟨v30,by simp only[FL,f2] <;> kernel_rfl,j1,k1,nF⟩
     ·intro xs o0 b0 c0;clear b0;have f3:LV o0 o0.heap.size (xs 3) most:=c0 _ (m_ 3 rfl) (by kernel_rfl);clear c0;refine wpOp_step (o:=_) rfl (fun K hK=>?_);simp only[FL]
      obtain⟨q3,k3,l3,m3,hx3,d0⟩:=LV.opened f3;have r3:=(LV.is d0).2.2;rw[hx3];clear d0;go_simp;refine hK _ _ ⟨.slice k3 l3 m3,by simp only[FL,hx3] <;> kernel_rfl,Below.refl _ _,r3,nF⟩
     ·intro xs p0 b0 c0;have K0:=zz b0;have s2:=b0.size;clear b0;have f1:(xs 1)=.slice A l c:=c0 _ (m_ 1 rfl) (by kernel_rfl);have f4:RN p0 p0.heap.size (xs 4) (dig (most).natAbs):=c0 _ (m_ 4 rfl) (by kernel_rfl);clear c0;refine wpOp_step (o:=_) rfl (fun K hK=>?_);simp only[FL]
      go_simp;have L0:=zz (RN.step Ha.out K0.out);(with_reducible refine(Cmp_any _ _ _ z.natAbs most.natAbs L0.out f4).mono ?_)
      rintro e wc34 ⟨l1,c34,rfl,hc34⟩;refine hK _ _ ⟨.int .i64 c34,by simp only[FL,f1] <;> kernel_rfl,l1,⟨c34,rfl,hc34⟩,nF⟩
     ·intro xs t2 b0 c0;have O1:=zz b0;have u2:=b0.size;clear b0;have f5:∃ c:Int,(xs 5)=.int .i64 c∧SignOf c (z.natAbs) (most.natAbs):=c0 _ (m_ 5 rfl) (by kernel_rfl);clear c0;refine wpOp_step (o:=_) rfl (fun K hK=>?_);simp only[FL]
      obtain⟨c,hc,hs⟩:=f5;unfold SignOf at hs;have hq:¬ 0<c:=by have:=g3.out;omega
      rw[hc];clear hs;go_simp;refine hK _ _ ⟨.bool false,by simp only[FL,hc] <;> kernel_rfl,Below.refl _ _,rfl,nF⟩
    ·exact all_nil
    ·intro xs i3 hbf hf hn hd;have f0:(xs 0)=.pointer (some ⟨w.heap.size,1,none⟩):=hf _ (m_ 0 rfl);have f1:(xs 1)=.slice A l c:=hf _ (m_ 1 rfl);have f2:(xs 2)=.int .i64 most:=hf _ (m_ 2 rfl);have f3:LV i3 i3.heap.size (xs 3) most:=hf _ (m_ 3 rfl);have f4:RN i3 i3.heap.size (xs 4) (dig (most).natAbs):=hf _ (m_ 4 rfl);have f5:∃ c:Int,(xs 5)=.int .i64 c∧SignOf c (z.natAbs) (most.natAbs):=hf _ (m_ 5 rfl);have f6:(xs 6)=.bool false:=hf _ (m_ 6 rfl);clear hf hn hd;simp only[FL]
     have B37:=zz hbf;have z37:=B37.out.size;have k0:=zz (B0.out.trans (B37.out.mono B0.out.size));clear hbf;generalize xs 0=x0,xs 1=x1,xs 2=x2,xs 3=x3,xs 4=x4,xs 5=x5,xs 6=x6 at *
     obtain rfl:=f0;obtain rfl:=f1;obtain rfl:=f2;obtain⟨n39,z3,l39,c39,rfl,q0⟩:=f3.opened;have B1:=zz q0;clear f3 q0;obtain⟨A40,c40,rfl,-⟩:=RN.cell f4;have C1:=zz f4;clear f4;clear f5;obtain rfl:=f6;refine Early.done (by kernel_rfl) ?_ _;(try simp only[Exit.then])
     have M0:=zz (RN.step Ha.out B37.out);have HZ:=zz (show LV i3 i3.heap.size (.agg #[.bool false,.slice A l c]) z from⟨_,by rw[o3.out],M0.out⟩);have g0:=CB.step La B37.out;have N0:=g0.cell 0 rfl;have O0:=g0.cell 1 rfl;have u3:=g0.lt;go_wp2_with fail
     refine(Int_num HZ.out (show(dig z.natAbs).length≤600 by rw[dig_len_le];have:=g3.out;have h1:=H1.out;have h0:=H0.out;refine Nat.lt_of_le_of_lt (show z.natAbs≤4611686018427387904 by omega) (Nat.lt_of_lt_of_le (show 4611686018427387904<bp 3 by decide) (bp_le (by omega)))) (G.step k0.out)).mono ?_;rintro e w42 ⟨r0,rfl⟩;have B45:=zz r0;have z45:=B45.out.size;have m1:=zz (k0.out.trans (B45.out.mono k0.out.size));clear r0;clear N0 O0 u3;rw[show intZ z=(z,0) from if_pos (by have:=g3.out;have h1:=H1.out;have h0:=H0.out;omega)];go_wp2;go_ret2;exact⟨m1.out,by rw[HV.out];rfl⟩
   ·have hl0:decide (0<l)=true:=by rw[decide_eq_true_eq,w3.out];have:=dig_len_pos (n:=z.natAbs) (by omega);omega
    have o3:=zz (show true=decide (z<0) from hn hz);clear hn;clear hz;go_enter Tryz.func56,Tryz.ntmps56
    go_upto_region 1 with (fail)
    rw[← hw0];clear hw0;refine Flow.run [⟨0,8,fun fv fw=>fv=.pointer (some ⟨w.heap.size,1,none⟩)⟩,⟨1,9,fun fv fw=>fv=.slice A l c⟩,⟨2,10,fun fv fw=>fv=.int .i64 most⟩,⟨3,11,fun fv fw=>LV fw fw.heap.size fv most⟩,⟨4,12,fun fv fw=>RN fw fw.heap.size fv (dig (most).natAbs)⟩,⟨5,13,fun fv fw=>∃ c:Int,fv=.int .i64 c∧SignOf c (z.natAbs) (most.natAbs)⟩,⟨6,14,fun fv fw=>fv=.bool false⟩] [] [] 0 (by kernel_rfl) (by kernel_rfl) (by kernel_rfl) (fun _ _ _ _ _ h=>h) ?_ ?_ ?_ ?_
    ·refine(a0 (a0 (a0 (all_cons (fun v w1 w2 h hb=>h.step hb) (all_cons (fun v w1 w2 h hb=>h.step hb) (a0 (a0 all_nil)))))))
    ·refine(all_cons ?_ (all_cons ?_ (all_cons ?_ (all_cons ?_ (all_cons ?_ (all_cons ?_ (all_cons ?_ all_nil)))))))
     ·intro xs v2 b0 c0;clear b0;clear c0;refine wpOp_step (o:=_) rfl (fun K hK=>?_);simp only[FL]
      go_simp;refine hK _ _ ⟨.pointer (some ⟨w.heap.size,1,none⟩),by kernel_rfl,Below.refl _ _,rfl,nF⟩
     ·intro xs z2 b0 c0;have P0:=zz b0;have A2:=b0.size;clear b0;have f0:(xs 0)=.pointer (some ⟨w.heap.size,1,none⟩):=c0 _ (m_ 0 rfl) (by kernel_rfl);clear c0;refine wpOp_step (o:=_) rfl (fun K hK=>?_);simp only[FL]
      have Q0:=CB.step La P0.out;have Q1:=Q0.cell 1 rfl;go_simp;refine hK _ _ ⟨.slice A l c,by simp only[FL,f0] <;> kernel_rfl,Below.refl _ _,rfl,nF⟩
     ·intro xs B2 b0 c0;clear b0;clear c0;refine wpOp_step (o:=_) rfl (fun K hK=>?_);simp only[FL]
      go_simp;refine hK _ _ ⟨.int .i64 most,by kernel_rfl,Below.refl _ _,rfl,nF⟩
     ·intro xs D2 b0 c0;have S1:=zz b0;have E2:=b0.size;clear b0;have f2:(xs 2)=.int .i64 most:=c0 _ (m_ 2 rfl) (by kernel_rfl);clear c0;refine wpOp_step (o:=_) rfl (fun K hK=>?_);simp only[FL]
      go_simp;(with_reducible refine(Of_any _ most (by have:=H0.out;omega) (by have:=H1.out;omega)).mono ?_)
      rintro e wc53 ⟨n1,v53,rfl,o1⟩;refine hK _ _ ⟨v53,by simp only[FL,f2] <;> kernel_rfl,n1,o1,nF⟩
     ·intro xs s0 b0 c0;clear b0;have f3:LV s0 s0.heap.size (xs 3) most:=c0 _ (m_ 3 rfl) (by kernel_rfl);clear c0;refine wpOp_step (o:=_) rfl (fun K hK=>?_);simp only[FL]
      obtain⟨q3,k3,l3,m3,hx3,d0⟩:=LV.opened f3;have r3:=(LV.is d0).2.2;rw[hx3];clear d0;go_simp;refine hK _ _ ⟨.slice k3 l3 m3,by simp only[FL,hx3] <;> kernel_rfl,Below.refl _ _,r3,nF⟩
     ·intro xs t0 b0 c0;have R0:=zz b0;have G2:=b0.size;clear b0;have f1:(xs 1)=.slice A l c:=c0 _ (m_ 1 rfl) (by kernel_rfl);have f4:RN t0 t0.heap.size (xs 4) (dig (most).natAbs):=c0 _ (m_ 4 rfl) (by kernel_rfl);clear c0;refine wpOp_step (o:=_) rfl (fun K hK=>?_);simp only[FL]
      go_simp;have S0:=zz (RN.step Ha.out R0.out);(with_reducible refine(Cmp_any _ _ _ z.natAbs most.natAbs S0.out f4).mono ?_)
      rintro e wc57 ⟨p1,c57,rfl,hc57⟩;refine hK _ _ ⟨.int .i64 c57,by simp only[FL,f1] <;> kernel_rfl,p1,⟨c57,rfl,hc57⟩,nF⟩
     ·intro xs H2 b0 c0;have U1:=zz b0;have I2:=b0.size;clear b0;have f5:∃ c:Int,(xs 5)=.int .i64 c∧SignOf c (z.natAbs) (most.natAbs):=c0 _ (m_ 5 rfl) (by kernel_rfl);clear c0;refine wpOp_step (o:=_) rfl (fun K hK=>?_);simp only[FL]
      obtain⟨c,hc,hs⟩:=f5;unfold SignOf at hs;have hq:¬ 0<c:=by have:=g3.out;omega
      rw[hc];clear hs;go_simp;refine hK _ _ ⟨.bool false,by simp only[FL,hc] <;> kernel_rfl,Below.refl _ _,rfl,nF⟩
    ·exact all_nil
    ·intro xs j3 hbf hf hn hd;have f0:(xs 0)=.pointer (some ⟨w.heap.size,1,none⟩):=hf _ (m_ 0 rfl);have f1:(xs 1)=.slice A l c:=hf _ (m_ 1 rfl);have f2:(xs 2)=.int .i64 most:=hf _ (m_ 2 rfl);have f3:LV j3 j3.heap.size (xs 3) most:=hf _ (m_ 3 rfl);have f4:RN j3 j3.heap.size (xs 4) (dig (most).natAbs):=hf _ (m_ 4 rfl);have f5:∃ c:Int,(xs 5)=.int .i64 c∧SignOf c (z.natAbs) (most.natAbs):=hf _ (m_ 5 rfl);have f6:(xs 6)=.bool false:=hf _ (m_ 6 rfl);clear hf hn hd;simp only[FL]
     have B60:=zz hbf;have z60:=B60.out.size;have l0:=zz (B0.out.trans (B60.out.mono B0.out.size));clear hbf;generalize xs 0=x0,xs 1=x1,xs 2=x2,xs 3=x3,xs 4=x4,xs 5=x5,xs 6=x6 at *
     obtain rfl:=f0;obtain rfl:=f1;obtain rfl:=f2;obtain⟨n62,A3,l62,c62,rfl,u0⟩:=f3.opened;have D1:=zz u0;clear f3 u0;obtain⟨A63,c63,rfl,-⟩:=RN.cell f4;have E1:=zz f4;clear f4;clear f5;obtain rfl:=f6;refine Early.done (by kernel_rfl) ?_ _;(try simp only[Exit.then])
     have T0:=zz (RN.step Ha.out B60.out);have HZ:=zz (show LV j3 j3.heap.size (.agg #[.bool true,.slice A l c]) z from⟨_,by rw[o3.out],T0.out⟩);have i0:=CB.step La B60.out;have U0:=i0.cell 0 rfl;have V0:=i0.cell 1 rfl;have v3:=i0.lt;go_wp2_with fail
     refine(Int_num HZ.out (show(dig z.natAbs).length≤600 by rw[dig_len_le];have:=g3.out;have h1:=H1.out;have h0:=H0.out;refine Nat.lt_of_le_of_lt (show z.natAbs≤4611686018427387904 by omega) (Nat.lt_of_lt_of_le (show 4611686018427387904<bp 3 by decide) (bp_le (by omega)))) (G.step l0.out)).mono ?_;rintro e w65 ⟨v0,rfl⟩;have B68:=zz v0;have z68:=B68.out.size;have q1:=zz (l0.out.trans (B68.out.mono l0.out.size));clear v0;clear U0 V0 v3;rw[show intZ z=(z,0) from if_pos (by have:=g3.out;have h1:=H1.out;have h0:=H0.out;omega)];go_wp2;go_ret2;exact⟨q1.out,by rw[HV.out];rfl⟩
 ·have g3:=zz hle;have HV:=zz (show numN z most=.tuple #[.int .i64 0,.bool false] by unfold numN;rw[if_neg hle,decide_eq_false hle]);clear hle hn;go_enter Tryz.func56,Tryz.ntmps56
  go_upto_region 1 with (fail)
  rw[← hw0];clear hw0;refine Flow.run [⟨0,8,fun fv fw=>fv=.pointer (some ⟨w.heap.size,1,none⟩)⟩,⟨1,9,fun fv fw=>fv=.slice A l c⟩,⟨2,10,fun fv fw=>fv=.int .i64 most⟩,⟨3,11,fun fv fw=>LV fw fw.heap.size fv most⟩,⟨4,12,fun fv fw=>RN fw fw.heap.size fv (dig (most).natAbs)⟩,⟨5,13,fun fv fw=>∃ c:Int,fv=.int .i64 c∧SignOf c (z.natAbs) (most.natAbs)⟩,⟨6,14,fun fv fw=>fv=.bool true⟩] [] [] 0 (by kernel_rfl) (by kernel_rfl) (by kernel_rfl) (fun _ _ _ _ _ h=>h) ?_ ?_ ?_ ?_
  ·refine(a0 (a0 (a0 (all_cons (fun v w1 w2 h hb=>h.step hb) (all_cons (fun v w1 w2 h hb=>h.step hb) (a0 (a0 all_nil)))))))
  ·refine(all_cons ?_ (all_cons ?_ (all_cons ?_ (all_cons ?_ (all_cons ?_ (all_cons ?_ (all_cons ?_ all_nil)))))))
   ·intro xs J2 b0 c0;clear b0;clear c0;refine wpOp_step (o:=_) rfl (fun K hK=>?_);simp only[FL]
    go_simp;refine hK _ _ ⟨.pointer (some ⟨w.heap.size,1,none⟩),by kernel_rfl,Below.refl _ _,rfl,nF⟩
   ·intro xs L2 b0 c0;have W0:=zz b0;have M2:=b0.size;clear b0;have f0:(xs 0)=.pointer (some ⟨w.heap.size,1,none⟩):=c0 _ (m_ 0 rfl) (by kernel_rfl);clear c0;refine wpOp_step (o:=_) rfl (fun K hK=>?_);simp only[FL]
    have X0:=CB.step La W0.out;have W1:=X0.cell 1 rfl;go_simp;refine hK _ _ ⟨.slice A l c,by simp only[FL,f0] <;> kernel_rfl,Below.refl _ _,rfl,nF⟩
   ·intro xs N2 b0 c0;clear b0;clear c0;refine wpOp_step (o:=_) rfl (fun K hK=>?_);simp only[FL]
    go_simp;refine hK _ _ ⟨.int .i64 most,by kernel_rfl,Below.refl _ _,rfl,nF⟩
   ·intro xs P2 b0 c0;have Y1:=zz b0;have Q2:=b0.size;clear b0;have f2:(xs 2)=.int .i64 most:=c0 _ (m_ 2 rfl) (by kernel_rfl);clear c0;refine wpOp_step (o:=_) rfl (fun K hK=>?_);simp only[FL]
    go_simp;(with_reducible refine(Of_any _ most (by have:=H0.out;omega) (by have:=H1.out;omega)).mono ?_)
    rintro e wc76 ⟨r1,v76,rfl,s1⟩;refine hK _ _ ⟨v76,by simp only[FL,f2] <;> kernel_rfl,r1,s1,nF⟩
   ·intro xs y0 b0 c0;clear b0;have f3:LV y0 y0.heap.size (xs 3) most:=c0 _ (m_ 3 rfl) (by kernel_rfl);clear c0;refine wpOp_step (o:=_) rfl (fun K hK=>?_);simp only[FL]
    obtain⟨q3,k3,l3,m3,hx3,d0⟩:=LV.opened f3;have r3:=(LV.is d0).2.2;rw[hx3];clear d0;go_simp;refine hK _ _ ⟨.slice k3 l3 m3,by simp only[FL,hx3] <;> kernel_rfl,Below.refl _ _,r3,nF⟩
   ·intro xs A0 b0 c0;have Y0:=zz b0;have S2:=b0.size;clear b0;have f1:(xs 1)=.slice A l c:=c0 _ (m_ 1 rfl) (by kernel_rfl);have f4:RN A0 A0.heap.size (xs 4) (dig (most).natAbs):=c0 _ (m_ 4 rfl) (by kernel_rfl);clear c0;refine wpOp_step (o:=_) rfl (fun K hK=>?_);simp only[FL]
    go_simp;have Z0:=zz (RN.step Ha.out Y0.out);(with_reducible refine(Cmp_any _ _ _ z.natAbs most.natAbs Z0.out f4).mono ?_)
    rintro e wc80 ⟨t1,c80,rfl,hc80⟩;refine hK _ _ ⟨.int .i64 c80,by simp only[FL,f1] <;> kernel_rfl,t1,⟨c80,rfl,hc80⟩,nF⟩
   ·intro xs T2 b0 c0;have a2:=zz b0;have U2:=b0.size;clear b0;have f5:∃ c:Int,(xs 5)=.int .i64 c∧SignOf c (z.natAbs) (most.natAbs):=c0 _ (m_ 5 rfl) (by kernel_rfl);clear c0;refine wpOp_step (o:=_) rfl (fun K hK=>?_);simp only[FL]
    obtain⟨c,hc,hs⟩:=f5;unfold SignOf at hs;have hq:0<c:=by have:=g3.out;omega
    rw[hc];clear hs;go_simp;refine hK _ _ ⟨.bool true,by simp only[FL,hc] <;> kernel_rfl,Below.refl _ _,rfl,nF⟩
  ·exact all_nil
  ·intro xs n3 hbf hf hn hd;have f0:(xs 0)=.pointer (some ⟨w.heap.size,1,none⟩):=hf _ (m_ 0 rfl);have f1:(xs 1)=.slice A l c:=hf _ (m_ 1 rfl);have f2:(xs 2)=.int .i64 most:=hf _ (m_ 2 rfl);have f3:LV n3 n3.heap.size (xs 3) most:=hf _ (m_ 3 rfl);have f4:RN n3 n3.heap.size (xs 4) (dig (most).natAbs):=hf _ (m_ 4 rfl);have f5:∃ c:Int,(xs 5)=.int .i64 c∧SignOf c (z.natAbs) (most.natAbs):=hf _ (m_ 5 rfl);have f6:(xs 6)=.bool true:=hf _ (m_ 6 rfl);clear hf hn hd;simp only[FL]
   have B83:=zz hbf;have z83:=B83.out.size;have u1:=zz (B0.out.trans (B83.out.mono B0.out.size));clear hbf;generalize xs 0=x0,xs 1=x1,xs 2=x2,xs 3=x3,xs 4=x4,xs 5=x5,xs 6=x6 at *
   obtain rfl:=f0;obtain rfl:=f1;obtain rfl:=f2;obtain⟨n85,B3,l85,c85,rfl,C0⟩:=f3.opened;have F1:=zz C0;clear f3 C0;obtain⟨A86,c86,rfl,-⟩:=RN.cell f4;have G1:=zz f4;clear f4;clear f5;obtain rfl:=f6;refine Early.done (by kernel_rfl) ?_ _;(try simp only[Exit.then])
   go_wp2;go_ret2;exact⟨u1.out,by rw[HV.out];rfl⟩
end Go.Proofs.YtngpibfakemmhaaGreatDoor
