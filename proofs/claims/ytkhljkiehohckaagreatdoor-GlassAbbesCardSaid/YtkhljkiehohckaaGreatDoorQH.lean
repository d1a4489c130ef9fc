/- Layer 04: Check (written by gen_qg.py). -/
import Derived.Test.YtkhljkiehohckaaGreatDoorQF
import Derived.Test.YtkhljkiehohckaaGreatDoorPr
namespace Go.Proofs.YtkhljkiehohckaaGreatDoor
open Go Go.RowKit Dig
theorem qOf_none1 {n m:Bool} {a b:List Int} (h:¬ Valid n a):qOf n a m b=none:=by unfold qOf;rw[numOf_bad h]
theorem qOf_none2 {n m:Bool} {a b:List Int} (h:¬ Valid m b):qOf n a m b=none:=by unfold qOf;rw[numOf_bad h];cases numOf n a <;> rfl
theorem qOf_both {n m:Bool} {a b:List Int} {x y:Int} (hx:numOf n a=some x) (hy:numOf m b=some y):qOf n a m b=if 0<y∧Nat.gcd x.natAbs y.natAbs=1 then some (mkRat x y.natAbs) else none:=by unfold qOf;rw[hx,hy]
theorem lr_is {w:World} {B:Nat} {n:Bool} {s:Value} {m:Bool} {l:List Int} (h:LR w B (.agg #[.bool n,s]) m l):RI w B s l:=by
 obtain⟨s',e,h⟩:=h;injection e with e
 simp at e
 rw[e.2];exact h
set_option maxRecDepth 100000 in
set_option maxHeartbeats 4000000 in
theorem QCheck_q (w:World) (v:Value) (n:Bool) (a:List Int) (m:Bool) (b:List Int) (h:QR w w.heap.size v n a m b) (hq:∃ q,qOf n a m b=some q) :
  Calls Tryz.prog 79 #[v] w fun e w'=>Below w.heap.size w w'∧e=.returned (.int .i64 0):=by
 obtain⟨q,hq⟩:=hq;have hva:Valid n a:=Classical.byContradiction fun h=>(by rw[qOf_none1 h] at hq;cases hq)
 have hvb:Valid m b:=Classical.byContradiction fun h=>(by rw[qOf_none2 h] at hq;cases hq)
 obtain⟨A,l,c,B,k,d,rfl,Ha,Hb⟩:=h;have ea:=RI.len Ha;have eb:=RI.len Hb;have s3:=zz eb;clear ea eb;obtain⟨x,hx,nx,ax,lx⟩:=numOf_valid hva;obtain⟨y,hy,ny,by',ly⟩:=numOf_valid hvb;rw[qOf_both hx hy] at hq;have hgd:0<y∧Nat.gcd x.natAbs y.natAbs=1:=Classical.byContradiction fun h=>(by rw[if_neg h] at hq;cases hq)
 obtain rfl:m=false:=by rw[ny,decide_eq_false (by omega)]
 have t3:=zz hva;have u3:=zz hvb;have HX:=zz hx;have HY:=zz hy;have NX:=zz nx;have NY:=zz ny;have AX:=zz ax;have BY:=zz by';have HL:=zz (And.intro lx ly);clear hva hvb hx hy nx ny ax by' lx ly hq
 have hk:k≠0:=fun hk=>(by have h1:=s3.out;rw[BY.out,ni_length,hk] at h1;have:=dig_nil.1 h1.symm;have:=hgd.1;omega)
 have j3:((k:Int)==0)=false:=by rw[beq_eq_false_iff_ne];omega
 have y3:=zz hgd.2;clear hgd hk;obtain⟨w0,hw0⟩:∃ w0:World,w0=(w.alloc (.cells #[.bool n,.slice A l c,.bool false,.slice B k d] 43)):=⟨_,rfl⟩;have B0:=zz (n1_b hw0);have z0:=n1_z hw0;have La:=n1_0 hw0;have HA:=zz (show LR w0 w0.heap.size (.agg #[.bool n,.slice A l c]) n a from LR.step ⟨_,rfl,Ha⟩ B0.out);have HB:=zz (show LR w0 w0.heap.size (.agg #[.bool false,.slice B k d]) false b from LR.step ⟨_,rfl,Hb⟩ B0.out);clear Ha Hb;have B3:=zz (show RN w0 w0.heap.size (.slice A l c) (dig x.natAbs) from by have h1:RI w0 w0.heap.size (.slice A l c) a:=lr_is HA.out;rw[AX.out] at h1;exact h1);have K0:=zz (show RN w0 w0.heap.size (.slice B k d) (dig y.natAbs) from by have h1:RI w0 w0.heap.size (.slice B k d) b:=lr_is HB.out;rw[BY.out] at h1;exact h1);go_enter Tryz.func79,Tryz.ntmps79
 go_upto_region 1 with (fail)
 rw[← hw0];clear hw0
 refine Flow.run [⟨0,3,fun fv fw=>fv=.pointer (some ⟨w.heap.size,0,none⟩)⟩,⟨1,4,fun fv fw=>fv=.agg #[.bool n,.slice A l c]⟩,⟨2,5,fun fv fw=>fv=.int .i64 0⟩,⟨3,6,fun fv fw=>fv=.bool false⟩,⟨4,7,fun fv fw=>fv=.bool false⟩,⟨5,8,fun fv fw=>fv=.pointer (some ⟨w.heap.size,2,none⟩)⟩,⟨6,9,fun fv fw=>fv=.agg #[.bool false,.slice B k d]⟩,⟨7,10,fun fv fw=>fv=.int .i64 0⟩,⟨8,11,fun fv fw=>fv=.bool false⟩,⟨9,12,fun fv fw=>fv=.bool false⟩,⟨10,13,fun fv fw=>fv=.bool false⟩,⟨11,14,fun fv fw=>fv=.pointer (some ⟨w.heap.size,2,none⟩)⟩,⟨12,15,fun fv fw=>fv=.pointer (some ⟨w.heap.size,2,none⟩)⟩,⟨13,16,fun fv fw=>fv=.bool false⟩,⟨14,17,fun fv fw=>fv=.bool false⟩,⟨15,18,fun fv fw=>fv=.bool false⟩,⟨16,19,fun fv fw=>fv=.pointer (some ⟨w.heap.size,2,none⟩)⟩,⟨17,20,fun fv fw=>fv=.pointer (some ⟨w.heap.size,3,none⟩)⟩,⟨18,21,fun fv fw=>fv=.slice B k d⟩,⟨19,22,fun fv fw=>fv=.int .i64 (k:Int)⟩,⟨20,23,fun fv fw=>fv=.bool false⟩,⟨21,24,fun fv fw=>fv=.bool false⟩,⟨22,25,fun fv fw=>fv=.bool false⟩,⟨23,26,fun fv fw=>fv=.agg #[.bool n,.slice A l c,.bool false,.slice B k d]⟩,⟨24,27,fun fv fw=>fv=.agg #[.bool n,.slice A l c,.slice B k d]⟩,⟨25,28,fun fv fw=>fv=.agg #[.bool n,.slice A l c]⟩,⟨26,29,fun fv fw=>fv=.slice A l c⟩,⟨27,30,fun fv fw=>fv=.pointer (some ⟨w.heap.size,2,none⟩)⟩,⟨28,31,fun fv fw=>fv=.pointer (some ⟨w.heap.size,3,none⟩)⟩,⟨29,32,fun fv fw=>fv=.slice B k d⟩,⟨30,33,fun fv fw=>RN fw fw.heap.size fv (dig 1)⟩,⟨31,34,fun fv fw=>RN fw fw.heap.size fv (dig 1)⟩,⟨32,35,fun fv fw=>∃ c:Int,fv=.int .i64 c∧SignOf c (1) (1)⟩,⟨33,36,fun fv fw=>fv=.bool false⟩,⟨34,37,fun fv fw=>fv=.bool false⟩] [] [] 0 (by kernel_rfl) (by kernel_rfl) (by kernel_rfl) (fun _ _ _ _ _ h=>h) ?_ ?_ ?_ ?_
 ·refine(a0 (a0 (a0 (a0 (a0 (a0 (a0 (a0 (a0 (a0 (a0 (a0 (a0 (a0 (a0 (a0 (a0 (a0 (a0 (a0 (a0 (a0 (a0 (a0 (a0 (a0 (a0 (a0 (a0 (a0 (all_cons (fun v w1 w2 h hb=>h.step hb) (all_cons (fun v w1 w2 h hb=>h.step hb) (a0 (a0 (a0 all_nil)))))))))))))))))))))))))))))))))))
 ·refine(all_cons ?_ (all_cons ?_ (all_cons ?_ (all_cons ?_ (all_cons ?_ (all_cons ?_ (all_cons ?_ (all_cons ?_ (all_cons ?_ (all_cons ?_ (all_cons ?_ (all_cons ?_ (all_cons ?_ (all_cons ?_ (all_cons ?_ (all_cons ?_ (all_cons ?_ (all_cons ?_ (all_cons ?_ (all_cons ?_ (all_cons ?_ (all_cons ?_ (all_cons ?_ (all_cons ?_ (all_cons ?_ (all_cons ?_ (all_cons ?_ (all_cons ?_ (all_cons ?_ (all_cons ?_ (all_cons ?_ (all_cons ?_ (all_cons ?_ (all_cons ?_ (all_cons ?_ all_nil)))))))))))))))))))))))))))))))))))
  ·intro xs wk1 c0 b0;clear c0;clear b0;refine wpOp_step (o:=_) rfl (fun K hK=>?_);simp only[FL]
   go_simp;refine hK _ _ ⟨.pointer (some ⟨w.heap.size,0,none⟩),by kernel_rfl,Below.refl _ _,rfl,nF⟩
  ·intro xs wk2 c0 b0;have v0:=zz c0;have l3:=c0.size;clear c0;have f0:(xs 0)=.pointer (some ⟨w.heap.size,0,none⟩):=b0 _ (m_ 0 rfl) (by kernel_rfl);clear b0;refine wpOp_step (o:=_) rfl (fun K hK=>?_);simp only[FL]
   have i0:=CB.step La v0.out;have U1:=i0.cell 0 rfl;have V1:=i0.cell 1 rfl;go_simp;refine hK _ _ ⟨.agg #[.bool n,.slice A l c],by simp only[FL,f0] <;> kernel_rfl,Below.refl _ _,rfl,nF⟩
  ·intro xs wk5 c0 b0;have y0:=zz c0;have m3:=c0.size;clear c0;have f1:(xs 1)=.agg #[.bool n,.slice A l c]:=b0 _ (m_ 1 rfl) (by kernel_rfl);clear b0;refine wpOp_step (o:=_) rfl (fun K hK=>?_);simp only[FL]
   go_simp;have A0:=zz (LR.step HA.out y0.out);(with_reducible refine(Check_good A0.out t3.out).mono ?_)
   rintro e wc7 ⟨L0,rfl⟩;refine hK _ _ ⟨.int .i64 0,by simp only[FL,f1] <;> kernel_rfl,L0,rfl,nF⟩
  ·intro xs n3 c0 b0;clear c0;have f2:(xs 2)=.int .i64 0:=b0 _ (m_ 2 rfl) (by kernel_rfl);clear b0;refine wpOp_step (o:=_) rfl (fun K hK=>?_);simp only[FL]
   go_simp;refine hK _ _ ⟨.bool false,by simp only[FL,f2] <;> kernel_rfl,Below.refl _ _,rfl,nF⟩
  ·intro xs p3 c0 b0;clear c0;have f3:(xs 3)=.bool false:=b0 _ (m_ 3 rfl) (by kernel_rfl);clear b0;refine wpOp_step (o:=_) rfl (fun K hK=>?_);simp only[FL]
   go_simp;refine hK _ _ ⟨.bool false,by simp only[FL,f3] <;> kernel_rfl,Below.refl _ _,rfl,nF⟩
  ·intro xs Y1 c0 b0;clear c0;have f4:(xs 4)=.bool false:=b0 _ (m_ 4 rfl) (by kernel_rfl);clear b0;refine wpOp_step (o:=?_) ?N0 ?_
   case N0=>exact rfl
   intro K hK;simp only[FL]
   go_simp;refine hK _ _ ⟨.pointer (some ⟨w.heap.size,2,none⟩),by simp only[FL,f4] <;> kernel_rfl,Below.refl _ _,rfl,nF⟩
  ·intro xs a2 c0 b0;have l0:=zz c0;have b2:=c0.size;clear c0;have f4:(xs 4)=.bool false:=b0 _ (m_ 4 rfl) (by kernel_rfl);have f5:(xs 5)=.pointer (some ⟨w.heap.size,2,none⟩):=b0 _ (m_ 5 rfl) (by kernel_rfl);clear b0;refine wpOp_step (o:=?_) ?O0 ?_
   case O0=>exact rfl
   intro K hK;simp only[FL]
   have g0:=CB.step La l0.out;have P0:=g0.cell 2 rfl;have Q0:=g0.cell 3 rfl;go_simp;refine hK _ _ ⟨.agg #[.bool false,.slice B k d],by simp only[FL,f4,f5] <;> kernel_rfl,Below.refl _ _,rfl,nF⟩
  ·intro xs c2 c0 b0;have m0:=zz c0;have d2:=c0.size;clear c0;have f4:(xs 4)=.bool false:=b0 _ (m_ 4 rfl) (by kernel_rfl);have f6:(xs 6)=.agg #[.bool false,.slice B k d]:=b0 _ (m_ 6 rfl) (by kernel_rfl);clear b0;refine wpOp_step (o:=?_) ?R0 ?_
   case R0=>exact rfl
   intro K hK;simp only[FL]
   go_simp;have n0:=zz (LR.step HB.out m0.out);(with_reducible refine(Check_good n0.out u3.out).mono ?_)
   rintro e wc16 ⟨C0,rfl⟩;refine hK _ _ ⟨.int .i64 0,by simp only[FL,f4,f6] <;> kernel_rfl,C0,rfl,nF⟩
  ·intro xs e2 c0 b0;clear c0;have f4:(xs 4)=.bool false:=b0 _ (m_ 4 rfl) (by kernel_rfl);have f7:(xs 7)=.int .i64 0:=b0 _ (m_ 7 rfl) (by kernel_rfl);clear b0;refine wpOp_step (o:=?_) ?T0 ?_
   case T0=>exact rfl
   intro K hK;simp only[FL]
   go_simp;refine hK _ _ ⟨.bool false,by simp only[FL,f4,f7] <;> kernel_rfl,Below.refl _ _,rfl,nF⟩
  ·intro xs h2 c0 b0;clear c0;have f4:(xs 4)=.bool false:=b0 _ (m_ 4 rfl) (by kernel_rfl);have f8:(xs 8)=.bool false:=b0 _ (m_ 8 rfl) (by kernel_rfl);clear b0;refine wpOp_step (o:=_) rfl (fun K hK=>?_);simp only[FL]
   go_simp;refine hK _ _ ⟨.bool false,by simp only[FL,f4,f8] <;> kernel_rfl,Below.refl _ _,rfl,nF⟩
  ·intro xs j2 c0 b0;clear c0;have f9:(xs 9)=.bool false:=b0 _ (m_ 9 rfl) (by kernel_rfl);clear b0;refine wpOp_step (o:=_) rfl (fun K hK=>?_);simp only[FL]
   go_simp;refine hK _ _ ⟨.bool false,by simp only[FL,f9] <;> kernel_rfl,Below.refl _ _,rfl,nF⟩
  ·intro xs l2 c0 b0;clear c0;have f10:(xs 10)=.bool false:=b0 _ (m_ 10 rfl) (by kernel_rfl);clear b0;refine wpOp_step (o:=?_) ?X0 ?_
   case X0=>exact rfl
   intro K hK;simp only[FL]
   go_simp;refine hK _ _ ⟨.pointer (some ⟨w.heap.size,2,none⟩),by simp only[FL,f10] <;> kernel_rfl,Below.refl _ _,rfl,nF⟩
  ·intro xs n2 c0 b0;clear c0;have f10:(xs 10)=.bool false:=b0 _ (m_ 10 rfl) (by kernel_rfl);have f11:(xs 11)=.pointer (some ⟨w.heap.size,2,none⟩):=b0 _ (m_ 11 rfl) (by kernel_rfl);clear b0;refine wpOp_step (o:=?_) ?Z0 ?_
   case Z0=>exact rfl
   intro K hK;simp only[FL]
   go_simp;refine hK _ _ ⟨.pointer (some ⟨w.heap.size,2,none⟩),by simp only[FL,f10,f11] <;> kernel_rfl,Below.refl _ _,rfl,nF⟩
  ·intro xs p2 c0 b0;have o0:=zz c0;have q2:=c0.size;clear c0;have f10:(xs 10)=.bool false:=b0 _ (m_ 10 rfl) (by kernel_rfl);have f12:(xs 12)=.pointer (some ⟨w.heap.size,2,none⟩):=b0 _ (m_ 12 rfl) (by kernel_rfl);clear b0;refine wpOp_step (o:=?_) ?a1 ?_
   case a1=>exact rfl
   intro K hK;simp only[FL]
   have p0:=CB.step La o0.out;have b1:=p0.cell 2 rfl;go_simp;refine hK _ _ ⟨.bool false,by simp only[FL,f10,f12] <;> kernel_rfl,Below.refl _ _,rfl,nF⟩
  ·intro xs r2 c0 b0;clear c0;have f10:(xs 10)=.bool false:=b0 _ (m_ 10 rfl) (by kernel_rfl);have f13:(xs 13)=.bool false:=b0 _ (m_ 13 rfl) (by kernel_rfl);clear b0;refine wpOp_step (o:=_) rfl (fun K hK=>?_);simp only[FL]
   go_simp;refine hK _ _ ⟨.bool false,by simp only[FL,f10,f13] <;> kernel_rfl,Below.refl _ _,rfl,nF⟩
  ·intro xs t2 c0 b0;clear c0;have f14:(xs 14)=.bool false:=b0 _ (m_ 14 rfl) (by kernel_rfl);clear b0;refine wpOp_step (o:=_) rfl (fun K hK=>?_);simp only[FL]
   go_simp;refine hK _ _ ⟨.bool false,by simp only[FL,f14] <;> kernel_rfl,Below.refl _ _,rfl,nF⟩
  ·intro xs v2 c0 b0;clear c0;have f15:(xs 15)=.bool false:=b0 _ (m_ 15 rfl) (by kernel_rfl);clear b0;refine wpOp_step (o:=?_) ?g1 ?_
   case g1=>exact rfl
   intro K hK;simp only[FL]
   go_simp;refine hK _ _ ⟨.pointer (some ⟨w.heap.size,2,none⟩),by simp only[FL,f15] <;> kernel_rfl,Below.refl _ _,rfl,nF⟩
  ·intro xs z2 c0 b0;clear c0;have f15:(xs 15)=.bool false:=b0 _ (m_ 15 rfl) (by kernel_rfl);have f16:(xs 16)=.pointer (some ⟨w.heap.size,2,none⟩):=b0 _ (m_ 16 rfl) (by kernel_rfl);clear b0;refine wpOp_step (o:=?_) ?j1 ?_
   case j1=>exact rfl
   intro K hK;simp only[FL]
   go_simp;refine hK _ _ ⟨.pointer (some ⟨w.heap.size,3,none⟩),by simp only[FL,f15,f16] <;> kernel_rfl,Below.refl _ _,rfl,nF⟩
  ·intro xs B2 c0 b0;have q0:=zz c0;have C2:=c0.size;clear c0;have f15:(xs 15)=.bool false:=b0 _ (m_ 15 rfl) (by kernel_rfl);have f17:(xs 17)=.pointer (some ⟨w.heap.size,3,none⟩):=b0 _ (m_ 17 rfl) (by kernel_rfl);clear b0;refine wpOp_step (o:=?_) ?k1 ?_
   case k1=>exact rfl
   intro K hK;simp only[FL]
   have r0:=CB.step La q0.out;have l1:=r0.cell 3 rfl;go_simp;refine hK _ _ ⟨.slice B k d,by simp only[FL,f15,f17] <;> kernel_rfl,Below.refl _ _,rfl,nF⟩
  ·intro xs D2 c0 b0;clear c0;have f15:(xs 15)=.bool false:=b0 _ (m_ 15 rfl) (by kernel_rfl);have f18:(xs 18)=.slice B k d:=b0 _ (m_ 18 rfl) (by kernel_rfl);clear b0;refine wpOp_step (o:=?_) ?n1 ?_
   case n1=>exact rfl
   intro K hK;simp only[FL]
   go_simp;refine hK _ _ ⟨.int .i64 (k:Int),by simp only[FL,f15,f18] <;> kernel_rfl,Below.refl _ _,rfl,nF⟩
  ·intro xs F2 c0 b0;clear c0;have f15:(xs 15)=.bool false:=b0 _ (m_ 15 rfl) (by kernel_rfl);have f19:(xs 19)=.int .i64 (k:Int):=b0 _ (m_ 19 rfl) (by kernel_rfl);clear b0;refine wpOp_step (o:=?_) ?p1 ?_
   case p1=>exact rfl
   intro K hK;simp only[FL]
   go_simp;refine hK _ _ ⟨.bool false,by simp only[FL,f15,f19] <;> kernel_rfl,Below.refl _ _,rfl,nF⟩
  ·intro xs H2 c0 b0;clear c0;have f15:(xs 15)=.bool false:=b0 _ (m_ 15 rfl) (by kernel_rfl);have f20:(xs 20)=.bool false:=b0 _ (m_ 20 rfl) (by kernel_rfl);clear b0;refine wpOp_step (o:=_) rfl (fun K hK=>?_);simp only[FL]
   go_simp;refine hK _ _ ⟨.bool false,by simp only[FL,f15,f20] <;> kernel_rfl,Below.refl _ _,rfl,nF⟩
  ·intro xs J2 c0 b0;clear c0;have f21:(xs 21)=.bool false:=b0 _ (m_ 21 rfl) (by kernel_rfl);clear b0;refine wpOp_step (o:=_) rfl (fun K hK=>?_);simp only[FL]
   go_simp;refine hK _ _ ⟨.bool false,by simp only[FL,f21] <;> kernel_rfl,Below.refl _ _,rfl,nF⟩
  ·intro xs L2 c0 b0;have s0:=zz c0;have M2:=c0.size;clear c0;have f22:(xs 22)=.bool false:=b0 _ (m_ 22 rfl) (by kernel_rfl);clear b0;refine wpOp_step (o:=?_) ?s1 ?_
   case s1=>exact rfl
   intro K hK;simp only[FL]
   have d0:=CB.step La s0.out;have t1:=d0.cell 0 rfl;have u1:=d0.cell 1 rfl;have v1:=d0.cell 2 rfl;have y1:=d0.cell 3 rfl;go_simp;refine hK _ _ ⟨.agg #[.bool n,.slice A l c,.bool false,.slice B k d],by simp only[FL,f22] <;> kernel_rfl,Below.refl _ _,rfl,nF⟩
  ·intro xs N2 c0 b0;clear c0;have f22:(xs 22)=.bool false:=b0 _ (m_ 22 rfl) (by kernel_rfl);have f23:(xs 23)=.agg #[.bool n,.slice A l c,.bool false,.slice B k d]:=b0 _ (m_ 23 rfl) (by kernel_rfl);clear b0;refine wpOp_step (o:=?_) ?A1 ?_
   case A1=>exact rfl
   intro K hK;simp only[FL]
   go_simp;(with_reducible refine(Read_any _ n false A B l c k d).mono ?_)
   rintro e wc40 ⟨D0,rfl⟩;refine hK _ _ ⟨.agg #[.bool n,.slice A l c,.slice B k d],by simp only[FL,f22,f23] <;> kernel_rfl,D0,rfl,nF⟩
  ·intro xs P2 c0 b0;clear c0;have f22:(xs 22)=.bool false:=b0 _ (m_ 22 rfl) (by kernel_rfl);have f24:(xs 24)=.agg #[.bool n,.slice A l c,.slice B k d]:=b0 _ (m_ 24 rfl) (by kernel_rfl);clear b0;refine wpOp_step (o:=?_) ?C1 ?_
   case C1=>exact rfl
   intro K hK;simp only[FL]
   go_simp;refine hK _ _ ⟨.agg #[.bool n,.slice A l c],by simp only[FL,f22,f24] <;> kernel_rfl,Below.refl _ _,rfl,nF⟩
  ·intro xs R2 c0 b0;clear c0;have f22:(xs 22)=.bool false:=b0 _ (m_ 22 rfl) (by kernel_rfl);have f25:(xs 25)=.agg #[.bool n,.slice A l c]:=b0 _ (m_ 25 rfl) (by kernel_rfl);clear b0;refine wpOp_step (o:=?_) ?E1 ?_
   case E1=>exact rfl
   intro K hK;simp only[FL]
   go_simp;refine hK _ _ ⟨.slice A l c,by simp only[FL,f22,f25] <;> kernel_rfl,Below.refl _ _,rfl,nF⟩
  ·intro xs T2 c0 b0;clear c0;have f22:(xs 22)=.bool false:=b0 _ (m_ 22 rfl) (by kernel_rfl);clear b0;refine wpOp_step (o:=?_) ?G1 ?_
   case G1=>exact rfl
   intro K hK;simp only[FL]
   go_simp;refine hK _ _ ⟨.pointer (some ⟨w.heap.size,2,none⟩),by simp only[FL,f22] <;> kernel_rfl,Below.refl _ _,rfl,nF⟩
  ·intro xs V2 c0 b0;clear c0;have f22:(xs 22)=.bool false:=b0 _ (m_ 22 rfl) (by kernel_rfl);have f27:(xs 27)=.pointer (some ⟨w.heap.size,2,none⟩):=b0 _ (m_ 27 rfl) (by kernel_rfl);clear b0;refine wpOp_step (o:=?_) ?I1 ?_
   case I1=>exact rfl
   intro K hK;simp only[FL]
   go_simp;refine hK _ _ ⟨.pointer (some ⟨w.heap.size,3,none⟩),by simp only[FL,f22,f27] <;> kernel_rfl,Below.refl _ _,rfl,nF⟩
  ·intro xs X2 c0 b0;have t0:=zz c0;have Y2:=c0.size;clear c0;have f22:(xs 22)=.bool false:=b0 _ (m_ 22 rfl) (by kernel_rfl);have f28:(xs 28)=.pointer (some ⟨w.heap.size,3,none⟩):=b0 _ (m_ 28 rfl) (by kernel_rfl);clear b0;refine wpOp_step (o:=?_) ?J1 ?_
   case J1=>exact rfl
   intro K hK;simp only[FL]
   have u0:=CB.step La t0.out;have K1:=u0.cell 3 rfl;go_simp;refine hK _ _ ⟨.slice B k d,by simp only[FL,f22,f28] <;> kernel_rfl,Below.refl _ _,rfl,nF⟩
  ·intro xs Z2 c0 b0;have h0:=zz c0;have a3:=c0.size;clear c0;have f22:(xs 22)=.bool false:=b0 _ (m_ 22 rfl) (by kernel_rfl);have f26:(xs 26)=.slice A l c:=b0 _ (m_ 26 rfl) (by kernel_rfl);have f29:(xs 29)=.slice B k d:=b0 _ (m_ 29 rfl) (by kernel_rfl);clear b0;refine wpOp_step (o:=?_) ?L1 ?_
   case L1=>exact rfl
   intro K hK;simp only[FL]
   go_simp;have j0:=zz (RN.step B3.out h0.out);have k0:=zz (RN.step K0.out h0.out);(with_reducible refine((show Calls Tryz.prog _ _ _ _ from y3.out▸Common_any _ _ _ x.natAbs y.natAbs j0.out k0.out (by have:=HL.out;omega) (by have:=HL.out;omega))).mono ?_)
   rintro e wc51 ⟨E0,v51,rfl,F0⟩;refine hK _ _ ⟨v51,by simp only[FL,f22,f26,f29] <;> kernel_rfl,E0,F0,nF⟩
  ·intro xs b3 c0 b0;clear c0;have f22:(xs 22)=.bool false:=b0 _ (m_ 22 rfl) (by kernel_rfl);clear b0;refine wpOp_step (o:=?_) ?N1 ?_
   case N1=>exact rfl
   intro K hK;simp only[FL]
   go_simp;(with_reducible refine(one_any _).mono ?_)
   rintro e wc53 ⟨G0,v53,rfl,H0⟩;refine hK _ _ ⟨v53,by simp only[FL,f22] <;> kernel_rfl,G0,H0,nF⟩
  ·intro xs e0 c0 b0;clear c0;have f22:(xs 22)=.bool false:=b0 _ (m_ 22 rfl) (by kernel_rfl);have f30:RN e0 e0.heap.size (xs 30) (dig 1):=b0 _ (m_ 30 rfl) (by kernel_rfl);have f31:RN e0 e0.heap.size (xs 31) (dig 1):=b0 _ (m_ 31 rfl) (by kernel_rfl);clear b0;refine wpOp_step (o:=?_) ?P1 ?_
   case P1=>exact rfl
   intro K hK;simp only[FL]
   go_simp;(with_reducible refine(Cmp_any _ _ _ 1 1 f30 f31).mono ?_)
   rintro e wc55 ⟨I0,c55,rfl,hc55⟩;refine hK _ _ ⟨.int .i64 c55,by simp only[FL,f22] <;> kernel_rfl,I0,⟨c55,rfl,hc55⟩,nF⟩
  ·intro xs e3 c0 b0;have Q1:=zz c0;have g3:=c0.size;clear c0;have f22:(xs 22)=.bool false:=b0 _ (m_ 22 rfl) (by kernel_rfl);have f32:∃ c:Int,(xs 32)=.int .i64 c∧SignOf c (1) (1):=b0 _ (m_ 32 rfl) (by kernel_rfl);clear b0;refine wpOp_step (o:=?_) ?R1 ?_
   case R1=>exact rfl
   intro K hK;simp only[FL]
   obtain⟨c,hc,hs⟩:=f32;unfold SignOf at hs;have hq:(c != 0)=false:=by rw[bne_eq_false_iff_eq];omega
   rw[hc];clear hs;go_simp;refine hK _ _ ⟨.bool false,by simp only[FL,f22,hc] <;> kernel_rfl,Below.refl _ _,rfl,nF⟩
  ·intro xs h3 c0 b0;clear c0;have f22:(xs 22)=.bool false:=b0 _ (m_ 22 rfl) (by kernel_rfl);have f33:(xs 33)=.bool false:=b0 _ (m_ 33 rfl) (by kernel_rfl);clear b0;refine wpOp_step (o:=_) rfl (fun K hK=>?_);simp only[FL]
   go_simp;refine hK _ _ ⟨.bool false,by simp only[FL,f22,f33] <;> kernel_rfl,Below.refl _ _,rfl,nF⟩
 ·exact all_nil
 ·intro xs r3 hbf hf hn hd;have f0:(xs 0)=.pointer (some ⟨w.heap.size,0,none⟩):=hf _ (m_ 0 rfl);have f1:(xs 1)=.agg #[.bool n,.slice A l c]:=hf _ (m_ 1 rfl);have f2:(xs 2)=.int .i64 0:=hf _ (m_ 2 rfl);have f3:(xs 3)=.bool false:=hf _ (m_ 3 rfl);have f4:(xs 4)=.bool false:=hf _ (m_ 4 rfl);have f5:(xs 5)=.pointer (some ⟨w.heap.size,2,none⟩):=hf _ (m_ 5 rfl);have f6:(xs 6)=.agg #[.bool false,.slice B k d]:=hf _ (m_ 6 rfl);have f7:(xs 7)=.int .i64 0:=hf _ (m_ 7 rfl);have f8:(xs 8)=.bool false:=hf _ (m_ 8 rfl);have f9:(xs 9)=.bool false:=hf _ (m_ 9 rfl);have f10:(xs 10)=.bool false:=hf _ (m_ 10 rfl);have f11:(xs 11)=.pointer (some ⟨w.heap.size,2,none⟩):=hf _ (m_ 11 rfl);have f12:(xs 12)=.pointer (some ⟨w.heap.size,2,none⟩):=hf _ (m_ 12 rfl);have f13:(xs 13)=.bool false:=hf _ (m_ 13 rfl);have f14:(xs 14)=.bool false:=hf _ (m_ 14 rfl);have f15:(xs 15)=.bool false:=hf _ (m_ 15 rfl);have f16:(xs 16)=.pointer (some ⟨w.heap.size,2,none⟩):=hf _ (m_ 16 rfl);have f17:(xs 17)=.pointer (some ⟨w.heap.size,3,none⟩):=hf _ (m_ 17 rfl);have f18:(xs 18)=.slice B k d:=hf _ (m_ 18 rfl);have f19:(xs 19)=.int .i64 (k:Int):=hf _ (m_ 19 rfl);have f20:(xs 20)=.bool false:=hf _ (m_ 20 rfl);have f21:(xs 21)=.bool false:=hf _ (m_ 21 rfl);have f22:(xs 22)=.bool false:=hf _ (m_ 22 rfl);have f23:(xs 23)=.agg #[.bool n,.slice A l c,.bool false,.slice B k d]:=hf _ (m_ 23 rfl);have f24:(xs 24)=.agg #[.bool n,.slice A l c,.slice B k d]:=hf _ (m_ 24 rfl)
  have f25:(xs 25)=.agg #[.bool n,.slice A l c]:=hf _ (m_ 25 rfl);have f26:(xs 26)=.slice A l c:=hf _ (m_ 26 rfl);have f27:(xs 27)=.pointer (some ⟨w.heap.size,2,none⟩):=hf _ (m_ 27 rfl);have f28:(xs 28)=.pointer (some ⟨w.heap.size,3,none⟩):=hf _ (m_ 28 rfl);have f29:(xs 29)=.slice B k d:=hf _ (m_ 29 rfl);have f30:RN r3 r3.heap.size (xs 30) (dig 1):=hf _ (m_ 30 rfl);have f31:RN r3 r3.heap.size (xs 31) (dig 1):=hf _ (m_ 31 rfl);have f32:∃ c:Int,(xs 32)=.int .i64 c∧SignOf c (1) (1):=hf _ (m_ 32 rfl);have f33:(xs 33)=.bool false:=hf _ (m_ 33 rfl);have f34:(xs 34)=.bool false:=hf _ (m_ 34 rfl);clear hf hn hd;simp only[FL]
  have B59:=zz hbf;have z59:=B59.out.size;have J0:=zz (B0.out.trans (B59.out.mono B0.out.size));clear hbf;generalize xs 0=x0,xs 1=x1,xs 2=x2,xs 3=x3,xs 4=x4,xs 5=x5,xs 6=x6,xs 7=x7,xs 8=x8,xs 9=x9,xs 10=x10,xs 11=x11,xs 12=x12,xs 13=x13,xs 14=x14,xs 15=x15,xs 16=x16,xs 17=x17,xs 18=x18,xs 19=x19,xs 20=x20,xs 21=x21,xs 22=x22,xs 23=x23,xs 24=x24,xs 25=x25,xs 26=x26,xs 27=x27,xs 28=x28,xs 29=x29,xs 30=x30,xs 31=x31,xs 32=x32,xs 33=x33,xs 34=x34 at *
  obtain rfl:=f0;obtain rfl:=f1;obtain rfl:=f2;obtain rfl:=f3;obtain rfl:=f4;obtain rfl:=f5;obtain rfl:=f6;obtain rfl:=f7;obtain rfl:=f8;obtain rfl:=f9;obtain rfl:=f10;obtain rfl:=f11;obtain rfl:=f12;obtain rfl:=f13;obtain rfl:=f14;obtain rfl:=f15;obtain rfl:=f16;obtain rfl:=f17;obtain rfl:=f18;obtain rfl:=f19;obtain rfl:=f20;obtain rfl:=f21;obtain rfl:=f22;obtain rfl:=f23;obtain rfl:=f24;obtain rfl:=f25;obtain rfl:=f26;obtain rfl:=f27;obtain rfl:=f28;obtain rfl:=f29;clear f30;clear f31;clear f32;obtain rfl:=f33;obtain rfl:=f34;refine Early.done (by kernel_rfl) ?_ _;(try simp only[Exit.then])
  go_wp2;go_ret;exact⟨J0.out,rfl⟩
end Go.Proofs.YtkhljkiehohckaaGreatDoor
