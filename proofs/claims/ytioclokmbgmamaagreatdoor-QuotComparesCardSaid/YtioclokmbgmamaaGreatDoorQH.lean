/- Layer 04: Check (written by gen_qg.py). -/
import Derived.Test.YtioclokmbgmamaaGreatDoorQF
import Derived.Test.YtioclokmbgmamaaGreatDoorPr
namespace Go.Proofs.YtioclokmbgmamaaGreatDoor
open Go Go.RowKit Dig
theorem qOf_none1 {n m:Bool} {a b:List Int} (h:¬ Valid n a):qOf n a m b=none:=by unfold qOf;rw[numOf_bad h]
theorem qOf_none2 {n m:Bool} {a b:List Int} (h:¬ Valid m b):qOf n a m b=none:=by unfold qOf;rw[numOf_bad h];cases numOf n a <;> rfl
theorem qOf_both {n m:Bool} {a b:List Int} {x y:Int} (hx:numOf n a=some x) (hy:numOf m b=some y):qOf n a m b=if 0<y∧Nat.gcd x.natAbs y.natAbs=1 then some (mkRat x y.natAbs) else none:=by unfold qOf;rw[hx,hy]
noncomputable def chkQ (n:Bool) (a:List Int) (m:Bool) (b:List Int):Int:=if (qOf n a m b).isSome then 0 else 40
theorem chkQ_some {n m:Bool} {a b:List Int} {q:Rat} (h:qOf n a m b=some q):chkQ n a m b=0:=by unfold chkQ;rw[h];rfl
theorem chkQ_none {n m:Bool} {a b:List Int} (h:qOf n a m b=none):chkQ n a m b=40:=by unfold chkQ;rw[h];rfl
theorem lr_is {w:World} {B:Nat} {n:Bool} {s:Value} {m:Bool} {l:List Int} (h:LR w B (.agg #[.bool n,s]) m l):RI w B s l:=by
 obtain⟨s',e,h⟩:=h
 injection e with e
 simp at e
 rw[e.2];exact h
set_option maxRecDepth 100000 in
set_option maxHeartbeats 4000000 in
theorem QCheck_any (w:World) (v:Value) (n:Bool) (a:List Int) (m:Bool) (b:List Int) (h:QR w w.heap.size v n a m b) :
  Calls Tryz.prog 45 #[v] w fun e w'=>Below w.heap.size w w'∧e=.returned (.int .i64 (chkQ n a m b)):=by
 obtain⟨r,hr⟩:∃ r,r=chkQ n a m b:=⟨_,rfl⟩;rw[← hr];have HR:=zz hr;clear hr
 obtain⟨A,l,c,B,k,d,rfl,Ha,Hb⟩:=h
 have ea:=RI.len Ha;have eb:=RI.len Hb;have HEB:=zz eb;clear ea eb
 obtain⟨w0,hw0⟩:∃ w0:World,w0=(w.alloc (.cells #[.bool n,.slice A l c,.bool m,.slice B k d] 26)):=⟨_,rfl⟩
 have B0:=zz (show Below w.heap.size w w0 by rw[hw0];(repeat' (first | exact Below.refl _ _ | refine Below.drew ?_ | refine Below.alloc ?_ (by first | exact Nat.le_refl _ | (simp;done) | (simp;omega)) _)))
 have z0:w.heap.size+1≤w0.heap.size:=by rw[hw0];simp
 have La:CB w0 (w.heap.size) 26 #[.bool n,.slice A l c,.bool m,.slice B k d]:=by rw[hw0];have h:=CB.new w 26 #[.bool n,.slice A l c,.bool m,.slice B k d];simpa using h
 have HA:=zz (show LR w0 w0.heap.size (.agg #[.bool n,.slice A l c]) n a from LR.step ⟨_,rfl,Ha⟩ B0.out);have HB:=zz (show LR w0 w0.heap.size (.agg #[.bool m,.slice B k d]) m b from LR.step ⟨_,rfl,Hb⟩ B0.out);clear Ha Hb
 by_cases hva:Valid n a
 ·have HVA:=zz hva;clear hva
  by_cases hvb:Valid m b
  ·have HVB:=zz hvb;clear hvb
   obtain⟨x,hx,nx,ax,lx⟩:=numOf_valid HVA.out;obtain⟨y,hy,ny,by',ly⟩:=numOf_valid HVB.out
   have HX:=zz hx;have HY:=zz hy;have NX:=zz nx;have NY:=zz ny;have AX:=zz ax;have BY:=zz by';have HL:=zz (And.intro lx ly);clear hx hy nx ny ax by' lx ly
   cases m with
   | true=>
    have HNO:=zz (show qOf n a true b=none by rw[qOf_both HX.out HY.out,if_neg (fun h=>by have h1:=NY.out;rw[decide_eq_false (by omega)] at h1;cases h1)])
    go_enter Tryz.func45,Tryz.ntmps45
    go_upto_region 1 with (fail)
    rw[← hw0];clear hw0
    refine Flow.run [⟨0,3,fun fv fw=>fv=.pointer (some ⟨w.heap.size,0,none⟩)⟩,⟨1,4,fun fv fw=>fv=.agg #[.bool n,.slice A l c]⟩,⟨2,5,fun fv fw=>fv=.int .i64 0⟩,⟨3,6,fun fv fw=>fv=.bool false⟩,⟨4,7,fun fv fw=>fv=.bool false⟩,⟨5,8,fun fv fw=>fv=.pointer (some ⟨w.heap.size,2,none⟩)⟩,⟨6,9,fun fv fw=>fv=.agg #[.bool true,.slice B k d]⟩,⟨7,10,fun fv fw=>fv=.int .i64 0⟩,⟨8,11,fun fv fw=>fv=.bool false⟩,⟨9,12,fun fv fw=>fv=.bool false⟩,⟨10,13,fun fv fw=>fv=.bool false⟩,⟨11,14,fun fv fw=>fv=.pointer (some ⟨w.heap.size,2,none⟩)⟩,⟨12,15,fun fv fw=>fv=.pointer (some ⟨w.heap.size,2,none⟩)⟩,⟨13,16,fun fv fw=>fv=.bool true⟩,⟨14,17,fun fv fw=>fv=.bool true⟩,⟨15,18,fun fv fw=>fv=.bool true⟩,⟨16,19,fun fv fw=>True⟩,⟨17,20,fun fv fw=>True⟩,⟨18,21,fun fv fw=>True⟩,⟨19,22,fun fv fw=>True⟩,⟨20,23,fun fv fw=>True⟩,⟨21,24,fun fv fw=>fv=.bool true⟩,⟨22,25,fun fv fw=>fv=.bool true⟩,⟨23,26,fun fv fw=>True⟩,⟨24,27,fun fv fw=>True⟩,⟨25,28,fun fv fw=>True⟩,⟨26,29,fun fv fw=>True⟩,⟨27,30,fun fv fw=>True⟩,⟨28,31,fun fv fw=>True⟩,⟨29,32,fun fv fw=>True⟩,⟨30,33,fun fv fw=>True⟩,⟨31,34,fun fv fw=>True⟩,⟨32,35,fun fv fw=>True⟩,⟨33,36,fun fv fw=>True⟩,⟨34,37,fun fv fw=>fv=.bool true⟩] [] [] 0 (by kernel_rfl) (by kernel_rfl) (by kernel_rfl) (fun _ _ _ _ _ h=>h) ?_ ?_ ?_ ?_
    ·refine(a0 (a0 (a0 (a0 (a0 (a0 (a0 (a0 (a0 (a0 (a0 (a0 (a0 (a0 (a0 (a0 (a0 (a0 (a0 (a0 (a0 (a0 (a0 (a0 (a0 (a0 (a0 (a0 (a0 (a0 (a0 (a0 (a0 (a0 (a0 all_nil)))))))))))))))))))))))))))))))))))
    ·refine(all_cons ?_ (all_cons ?_ (all_cons ?_ (all_cons ?_ (all_cons ?_ (all_cons ?_ (all_cons ?_ (all_cons ?_ (all_cons ?_ (all_cons ?_ (all_cons ?_ (all_cons ?_ (all_cons ?_ (all_cons ?_ (all_cons ?_ (all_cons ?_ (all_cons ?_ (all_cons ?_ (all_cons ?_ (all_cons ?_ (all_cons ?_ (all_cons ?_ (all_cons ?_ (all_cons ?_ (all_cons ?_ (all_cons ?_ (all_cons ?_ (all_cons ?_ (all_cons ?_ (all_cons ?_ (all_cons ?_ (all_cons ?_ (all_cons ?_ (all_cons ?_ (all_cons ?_ all_nil)))))))))))))))))))))))))))))))))))
     ·intro xs wk1 c0 b0
      have P14:=zz c0;have zk1:=c0.size;clear c0
      clear b0
      refine wpOp_step (o:=_) rfl (fun K hK=>?_)
      simp only[FL]
      go_simp
      refine hK _ _ ⟨.pointer (some ⟨w.heap.size,0,none⟩),by kernel_rfl,Below.refl _ _,rfl,nF⟩
     ·intro xs wk2 c0 b0
      have d2:=zz c0;have zk2:=c0.size;clear c0
      have f0:(xs 0)=.pointer (some ⟨w.heap.size,0,none⟩):=b0 _ (m_ 0 rfl) (by kernel_rfl)
      clear b0
      refine wpOp_step (o:=_) rfl (fun K hK=>?_)
      simp only[FL]
      have C0:=CB.step La d2.out
      have Q14:=C0.cell 0 rfl
      have R14:=C0.cell 1 rfl
      go_simp
      refine hK _ _ ⟨.agg #[.bool n,.slice A l c],by simp only[FL,f0] <;> kernel_rfl,Below.refl _ _,rfl,nF⟩
     ·intro xs wk5 c0 b0
      have e2:=zz c0;have zk5:=c0.size;clear c0
      have f1:(xs 1)=.agg #[.bool n,.slice A l c]:=b0 _ (m_ 1 rfl) (by kernel_rfl)
      clear b0
      refine wpOp_step (o:=_) rfl (fun K hK=>?_)
      simp only[FL]
      go_simp
      have g2:=zz (LR.step HA.out e2.out)
      (with_reducible refine(Check_good g2.out HVA.out).mono ?_)
      rintro e wc7 ⟨m2,rfl⟩
      refine hK _ _ ⟨.int .i64 0,by simp only[FL,f1] <;> kernel_rfl,m2,rfl,nF⟩
     ·intro xs wk8 c0 b0
      have S14:=zz c0;have zk8:=c0.size;clear c0
      have f2:(xs 2)=.int .i64 0:=b0 _ (m_ 2 rfl) (by kernel_rfl)
      clear b0
      refine wpOp_step (o:=_) rfl (fun K hK=>?_)
      simp only[FL]
      go_simp
      refine hK _ _ ⟨.bool false,by simp only[FL,f2] <;> kernel_rfl,Below.refl _ _,rfl,nF⟩
     ·intro xs wk9 c0 b0
      have T14:=zz c0;have zk9:=c0.size;clear c0
      have f3:(xs 3)=.bool false:=b0 _ (m_ 3 rfl) (by kernel_rfl)
      clear b0
      refine wpOp_step (o:=_) rfl (fun K hK=>?_)
      simp only[FL]
      go_simp
      refine hK _ _ ⟨.bool false,by simp only[FL,f3] <;> kernel_rfl,Below.refl _ _,rfl,nF⟩
     ·intro xs U14 c0 b0
      have b7:=zz c0;have V14:=c0.size;clear c0
      have f4:(xs 4)=.bool false:=b0 _ (m_ 4 rfl) (by kernel_rfl)
      clear b0
      refine wpOp_step (o:=?go10) ?c7 ?gh10
      case c7=>exact rfl
      intro K hK
      simp only[FL]
      go_simp
      refine hK _ _ ⟨.pointer (some ⟨w.heap.size,2,none⟩),by simp only[FL,f4] <;> kernel_rfl,Below.refl _ _,rfl,nF⟩
     ·intro xs W14 c0 b0
      have o1:=zz c0;have X14:=c0.size;clear c0
      have f4:(xs 4)=.bool false:=b0 _ (m_ 4 rfl) (by kernel_rfl)
      have f5:(xs 5)=.pointer (some ⟨w.heap.size,2,none⟩):=b0 _ (m_ 5 rfl) (by kernel_rfl)
      clear b0
      refine wpOp_step (o:=?go11) ?d7 ?gh11
      case d7=>exact rfl
      intro K hK
      simp only[FL]
      have r0:=CB.step La o1.out
      have e7:=r0.cell 2 rfl
      have g7:=r0.cell 3 rfl
      go_simp
      refine hK _ _ ⟨.agg #[.bool true,.slice B k d],by simp only[FL,f4,f5] <;> kernel_rfl,Below.refl _ _,rfl,nF⟩
     ·intro xs Y14 c0 b0
      have p1:=zz c0;have Z14:=c0.size;clear c0
      have f4:(xs 4)=.bool false:=b0 _ (m_ 4 rfl) (by kernel_rfl)
      have f6:(xs 6)=.agg #[.bool true,.slice B k d]:=b0 _ (m_ 6 rfl) (by kernel_rfl)
      clear b0
      refine wpOp_step (o:=?go14) ?h7 ?gh14
      case h7=>exact rfl
      intro K hK
      simp only[FL]
      go_simp
      have q1:=zz (LR.step HB.out p1.out)
      (with_reducible refine(Check_good q1.out HVB.out).mono ?_)
      rintro e wc16 ⟨h2,rfl⟩
      refine hK _ _ ⟨.int .i64 0,by simp only[FL,f4,f6] <;> kernel_rfl,h2,rfl,nF⟩
     ·intro xs a15 c0 b0
      have i7:=zz c0;have b15:=c0.size;clear c0
      have f4:(xs 4)=.bool false:=b0 _ (m_ 4 rfl) (by kernel_rfl)
      have f7:(xs 7)=.int .i64 0:=b0 _ (m_ 7 rfl) (by kernel_rfl)
      clear b0
      refine wpOp_step (o:=?go17) ?j7 ?gh17
      case j7=>exact rfl
      intro K hK
      simp only[FL]
      go_simp
      refine hK _ _ ⟨.bool false,by simp only[FL,f4,f7] <;> kernel_rfl,Below.refl _ _,rfl,nF⟩
     ·intro xs c15 c0 b0
      have k7:=zz c0;have d15:=c0.size;clear c0
      have f4:(xs 4)=.bool false:=b0 _ (m_ 4 rfl) (by kernel_rfl)
      have f8:(xs 8)=.bool false:=b0 _ (m_ 8 rfl) (by kernel_rfl)
      clear b0
      refine wpOp_step (o:=_) rfl (fun K hK=>?_)
      simp only[FL]
      go_simp
      refine hK _ _ ⟨.bool false,by simp only[FL,f4,f8] <;> kernel_rfl,Below.refl _ _,rfl,nF⟩
     ·intro xs e15 c0 b0
      have l7:=zz c0;have g15:=c0.size;clear c0
      have f9:(xs 9)=.bool false:=b0 _ (m_ 9 rfl) (by kernel_rfl)
      clear b0
      refine wpOp_step (o:=_) rfl (fun K hK=>?_)
      simp only[FL]
      go_simp
      refine hK _ _ ⟨.bool false,by simp only[FL,f9] <;> kernel_rfl,Below.refl _ _,rfl,nF⟩
     ·intro xs h15 c0 b0
      have m7:=zz c0;have i15:=c0.size;clear c0
      have f10:(xs 10)=.bool false:=b0 _ (m_ 10 rfl) (by kernel_rfl)
      clear b0
      refine wpOp_step (o:=?go20) ?n7 ?gh20
      case n7=>exact rfl
      intro K hK
      simp only[FL]
      go_simp
      refine hK _ _ ⟨.pointer (some ⟨w.heap.size,2,none⟩),by simp only[FL,f10] <;> kernel_rfl,Below.refl _ _,rfl,nF⟩
     ·intro xs j15 c0 b0
      have o7:=zz c0;have k15:=c0.size;clear c0
      have f10:(xs 10)=.bool false:=b0 _ (m_ 10 rfl) (by kernel_rfl)
      have f11:(xs 11)=.pointer (some ⟨w.heap.size,2,none⟩):=b0 _ (m_ 11 rfl) (by kernel_rfl)
      clear b0
      refine wpOp_step (o:=?go21) ?p7 ?gh21
      case p7=>exact rfl
      intro K hK
      simp only[FL]
      go_simp
      refine hK _ _ ⟨.pointer (some ⟨w.heap.size,2,none⟩),by simp only[FL,f10,f11] <;> kernel_rfl,Below.refl _ _,rfl,nF⟩
     ·intro xs l15 c0 b0
      have r1:=zz c0;have m15:=c0.size;clear c0
      have f10:(xs 10)=.bool false:=b0 _ (m_ 10 rfl) (by kernel_rfl)
      have f12:(xs 12)=.pointer (some ⟨w.heap.size,2,none⟩):=b0 _ (m_ 12 rfl) (by kernel_rfl)
      clear b0
      refine wpOp_step (o:=?go22) ?q7 ?gh22
      case q7=>exact rfl
      intro K hK
      simp only[FL]
      have s1:=CB.step La r1.out
      have r7:=s1.cell 2 rfl
      go_simp
      refine hK _ _ ⟨.bool true,by simp only[FL,f10,f12] <;> kernel_rfl,Below.refl _ _,rfl,nF⟩
     ·intro xs n15 c0 b0
      have s7:=zz c0;have o15:=c0.size;clear c0
      have f10:(xs 10)=.bool false:=b0 _ (m_ 10 rfl) (by kernel_rfl)
      have f13:(xs 13)=.bool true:=b0 _ (m_ 13 rfl) (by kernel_rfl)
      clear b0
      refine wpOp_step (o:=_) rfl (fun K hK=>?_)
      simp only[FL]
      go_simp
      refine hK _ _ ⟨.bool true,by simp only[FL,f10,f13] <;> kernel_rfl,Below.refl _ _,rfl,nF⟩
     ·intro xs p15 c0 b0
      have t7:=zz c0;have q15:=c0.size;clear c0
      have f14:(xs 14)=.bool true:=b0 _ (m_ 14 rfl) (by kernel_rfl)
      clear b0
      refine wpOp_step (o:=_) rfl (fun K hK=>?_)
      simp only[FL]
      go_simp
      refine hK _ _ ⟨.bool true,by simp only[FL,f14] <;> kernel_rfl,Below.refl _ _,rfl,nF⟩
     ·intro xs r15 c0 b0
      have u7:=zz c0;have s15:=c0.size;clear c0
      have f15:(xs 15)=.bool true:=b0 _ (m_ 15 rfl) (by kernel_rfl)
      clear b0
      refine wpOp_step (o:=?go27) ?v7 ?gh27
      case v7=>exact rfl
      intro K hK
      simp only[FL]
      go_simp
      refine hK _ _ ⟨undef,by simp only[FL,f15] <;> kernel_rfl,Below.refl _ _,trivial,nF⟩
     ·intro xs t15 c0 b0
      have w7:=zz c0;have u15:=c0.size;clear c0
      have f15:(xs 15)=.bool true:=b0 _ (m_ 15 rfl) (by kernel_rfl)
      clear b0
      refine wpOp_step (o:=?go28) ?y7 ?gh28
      case y7=>exact rfl
      intro K hK
      simp only[FL]
      go_simp
      refine hK _ _ ⟨undef,by simp only[FL,f15] <;> kernel_rfl,Below.refl _ _,trivial,nF⟩
     ·intro xs v15 c0 b0
      have z7:=zz c0;have w15:=c0.size;clear c0
      have f15:(xs 15)=.bool true:=b0 _ (m_ 15 rfl) (by kernel_rfl)
      clear b0
      refine wpOp_step (o:=?go29) ?A7 ?gh29
      case A7=>exact rfl
      intro K hK
      simp only[FL]
      go_simp
      refine hK _ _ ⟨undef,by simp only[FL,f15] <;> kernel_rfl,Below.refl _ _,trivial,nF⟩
     ·intro xs y15 c0 b0
      have B7:=zz c0;have z15:=c0.size;clear c0
      have f15:(xs 15)=.bool true:=b0 _ (m_ 15 rfl) (by kernel_rfl)
      clear b0
      refine wpOp_step (o:=?go30) ?C7 ?gh30
      case C7=>exact rfl
      intro K hK
      simp only[FL]
      go_simp
      refine hK _ _ ⟨undef,by simp only[FL,f15] <;> kernel_rfl,Below.refl _ _,trivial,nF⟩
     ·intro xs A15 c0 b0
      have D7:=zz c0;have B15:=c0.size;clear c0
      have f15:(xs 15)=.bool true:=b0 _ (m_ 15 rfl) (by kernel_rfl)
      clear b0
      refine wpOp_step (o:=?go31) ?E7 ?gh31
      case E7=>exact rfl
      intro K hK
      simp only[FL]
      go_simp
      refine hK _ _ ⟨undef,by simp only[FL,f15] <;> kernel_rfl,Below.refl _ _,trivial,nF⟩
     ·intro xs C15 c0 b0
      have F7:=zz c0;have D15:=c0.size;clear c0
      have f15:(xs 15)=.bool true:=b0 _ (m_ 15 rfl) (by kernel_rfl)
      clear b0
      refine wpOp_step (o:=_) rfl (fun K hK=>?_)
      simp only[FL]
      go_simp
      refine hK _ _ ⟨.bool true,by simp only[FL,f15] <;> kernel_rfl,Below.refl _ _,rfl,nF⟩
     ·intro xs E15 c0 b0
      have G7:=zz c0;have F15:=c0.size;clear c0
      have f21:(xs 21)=.bool true:=b0 _ (m_ 21 rfl) (by kernel_rfl)
      clear b0
      refine wpOp_step (o:=_) rfl (fun K hK=>?_)
      simp only[FL]
      go_simp
      refine hK _ _ ⟨.bool true,by simp only[FL,f21] <;> kernel_rfl,Below.refl _ _,rfl,nF⟩
     ·intro xs G15 c0 b0
      have H7:=zz c0;have H15:=c0.size;clear c0
      have f22:(xs 22)=.bool true:=b0 _ (m_ 22 rfl) (by kernel_rfl)
      clear b0
      refine wpOp_step (o:=?go34) ?I7 ?gh34
      case I7=>exact rfl
      intro K hK
      simp only[FL]
      go_simp
      refine hK _ _ ⟨undef,by simp only[FL,f22] <;> kernel_rfl,Below.refl _ _,trivial,nF⟩
     ·intro xs I15 c0 b0
      have J7:=zz c0;have J15:=c0.size;clear c0
      have f22:(xs 22)=.bool true:=b0 _ (m_ 22 rfl) (by kernel_rfl)
      clear b0
      refine wpOp_step (o:=?go35) ?K7 ?gh35
      case K7=>exact rfl
      intro K hK
      simp only[FL]
      go_simp
      refine hK _ _ ⟨undef,by simp only[FL,f22] <;> kernel_rfl,Below.refl _ _,trivial,nF⟩
     ·intro xs K15 c0 b0
      have L7:=zz c0;have L15:=c0.size;clear c0
      have f22:(xs 22)=.bool true:=b0 _ (m_ 22 rfl) (by kernel_rfl)
      clear b0
      refine wpOp_step (o:=?go36) ?M7 ?gh36
      case M7=>exact rfl
      intro K hK
      simp only[FL]
      go_simp
      refine hK _ _ ⟨undef,by simp only[FL,f22] <;> kernel_rfl,Below.refl _ _,trivial,nF⟩
     ·intro xs M15 c0 b0
      have N7:=zz c0;have N15:=c0.size;clear c0
      have f22:(xs 22)=.bool true:=b0 _ (m_ 22 rfl) (by kernel_rfl)
      clear b0
      refine wpOp_step (o:=?go37) ?O7 ?gh37
      case O7=>exact rfl
      intro K hK
      simp only[FL]
      go_simp
      refine hK _ _ ⟨undef,by simp only[FL,f22] <;> kernel_rfl,Below.refl _ _,trivial,nF⟩
     ·intro xs O15 c0 b0
      have P7:=zz c0;have P15:=c0.size;clear c0
      have f22:(xs 22)=.bool true:=b0 _ (m_ 22 rfl) (by kernel_rfl)
      clear b0
      refine wpOp_step (o:=?go38) ?Q7 ?gh38
      case Q7=>exact rfl
      intro K hK
      simp only[FL]
      go_simp
      refine hK _ _ ⟨undef,by simp only[FL,f22] <;> kernel_rfl,Below.refl _ _,trivial,nF⟩
     ·intro xs Q15 c0 b0
      have R7:=zz c0;have R15:=c0.size;clear c0
      have f22:(xs 22)=.bool true:=b0 _ (m_ 22 rfl) (by kernel_rfl)
      clear b0
      refine wpOp_step (o:=?go39) ?S7 ?gh39
      case S7=>exact rfl
      intro K hK
      simp only[FL]
      go_simp
      refine hK _ _ ⟨undef,by simp only[FL,f22] <;> kernel_rfl,Below.refl _ _,trivial,nF⟩
     ·intro xs S15 c0 b0
      have T7:=zz c0;have T15:=c0.size;clear c0
      have f22:(xs 22)=.bool true:=b0 _ (m_ 22 rfl) (by kernel_rfl)
      clear b0
      refine wpOp_step (o:=?go40) ?U7 ?gh40
      case U7=>exact rfl
      intro K hK
      simp only[FL]
      go_simp
      refine hK _ _ ⟨undef,by simp only[FL,f22] <;> kernel_rfl,Below.refl _ _,trivial,nF⟩
     ·intro xs U15 c0 b0
      have V7:=zz c0;have V15:=c0.size;clear c0
      have f22:(xs 22)=.bool true:=b0 _ (m_ 22 rfl) (by kernel_rfl)
      clear b0
      refine wpOp_step (o:=?go41) ?W7 ?gh41
      case W7=>exact rfl
      intro K hK
      simp only[FL]
      go_simp
      refine hK _ _ ⟨undef,by simp only[FL,f22] <;> kernel_rfl,Below.refl _ _,trivial,nF⟩
     ·intro xs W15 c0 b0
      have X7:=zz c0;have X15:=c0.size;clear c0
      have f22:(xs 22)=.bool true:=b0 _ (m_ 22 rfl) (by kernel_rfl)
      clear b0
      refine wpOp_step (o:=?go42) ?Y7 ?gh42
      case Y7=>exact rfl
      intro K hK
      simp only[FL]
      go_simp
      refine hK _ _ ⟨undef,by simp only[FL,f22] <;> kernel_rfl,Below.refl _ _,trivial,nF⟩
     ·intro xs Y15 c0 b0
      have Z7:=zz c0;have Z15:=c0.size;clear c0
      have f22:(xs 22)=.bool true:=b0 _ (m_ 22 rfl) (by kernel_rfl)
      clear b0
      refine wpOp_step (o:=?go43) ?a8 ?gh43
      case a8=>exact rfl
      intro K hK
      simp only[FL]
      go_simp
      refine hK _ _ ⟨undef,by simp only[FL,f22] <;> kernel_rfl,Below.refl _ _,trivial,nF⟩
     ·intro xs a16 c0 b0
      have b8:=zz c0;have b16:=c0.size;clear c0
      have f22:(xs 22)=.bool true:=b0 _ (m_ 22 rfl) (by kernel_rfl)
      clear b0
      refine wpOp_step (o:=?go44) ?c8 ?gh44
      case c8=>exact rfl
      intro K hK
      simp only[FL]
      go_simp
      refine hK _ _ ⟨undef,by simp only[FL,f22] <;> kernel_rfl,Below.refl _ _,trivial,nF⟩
     ·intro xs c16 c0 b0
      have d8:=zz c0;have d16:=c0.size;clear c0
      have f22:(xs 22)=.bool true:=b0 _ (m_ 22 rfl) (by kernel_rfl)
      clear b0
      refine wpOp_step (o:=_) rfl (fun K hK=>?_)
      simp only[FL]
      go_simp
      refine hK _ _ ⟨.bool true,by simp only[FL,f22] <;> kernel_rfl,Below.refl _ _,rfl,nF⟩
    ·exact all_nil
    ·intro xs wf46 hbf hf hn hd
     have f0:(xs 0)=.pointer (some ⟨w.heap.size,0,none⟩):=hf _ (m_ 0 rfl)
     have f1:(xs 1)=.agg #[.bool n,.slice A l c]:=hf _ (m_ 1 rfl)
     have f2:(xs 2)=.int .i64 0:=hf _ (m_ 2 rfl)
     have f3:(xs 3)=.bool false:=hf _ (m_ 3 rfl)
     have f4:(xs 4)=.bool false:=hf _ (m_ 4 rfl)
     have f5:(xs 5)=.pointer (some ⟨w.heap.size,2,none⟩):=hf _ (m_ 5 rfl)
     have f6:(xs 6)=.agg #[.bool true,.slice B k d]:=hf _ (m_ 6 rfl)
     have f7:(xs 7)=.int .i64 0:=hf _ (m_ 7 rfl)
     have f8:(xs 8)=.bool false:=hf _ (m_ 8 rfl)
     have f9:(xs 9)=.bool false:=hf _ (m_ 9 rfl)
     have f10:(xs 10)=.bool false:=hf _ (m_ 10 rfl)
     have f11:(xs 11)=.pointer (some ⟨w.heap.size,2,none⟩):=hf _ (m_ 11 rfl)
     have f12:(xs 12)=.pointer (some ⟨w.heap.size,2,none⟩):=hf _ (m_ 12 rfl)
     have f13:(xs 13)=.bool true:=hf _ (m_ 13 rfl)
     have f14:(xs 14)=.bool true:=hf _ (m_ 14 rfl)
     have f15:(xs 15)=.bool true:=hf _ (m_ 15 rfl)
     have f16:True:=hf _ (m_ 16 rfl)
     have f17:True:=hf _ (m_ 17 rfl)
     have f18:True:=hf _ (m_ 18 rfl)
     have f19:True:=hf _ (m_ 19 rfl)
     have f20:True:=hf _ (m_ 20 rfl)
     have f21:(xs 21)=.bool true:=hf _ (m_ 21 rfl)
     have f22:(xs 22)=.bool true:=hf _ (m_ 22 rfl)
     have f23:True:=hf _ (m_ 23 rfl)
     have f24:True:=hf _ (m_ 24 rfl)
     have f25:True:=hf _ (m_ 25 rfl)
     have f26:True:=hf _ (m_ 26 rfl)
     have f27:True:=hf _ (m_ 27 rfl)
     have f28:True:=hf _ (m_ 28 rfl)
     have f29:True:=hf _ (m_ 29 rfl)
     have f30:True:=hf _ (m_ 30 rfl)
     have f31:True:=hf _ (m_ 31 rfl)
     have f32:True:=hf _ (m_ 32 rfl)
     have f33:True:=hf _ (m_ 33 rfl)
     have f34:(xs 34)=.bool true:=hf _ (m_ 34 rfl)
     clear hf hn hd
     simp only[FL]
     have B47:=zz hbf
     have z47:=B47.out.size
     have i2:=zz (B0.out.trans (B47.out.mono B0.out.size))
     clear hbf
     generalize xs 0=x0,xs 1=x1,xs 2=x2,xs 3=x3,xs 4=x4,xs 5=x5,xs 6=x6,xs 7=x7,xs 8=x8,xs 9=x9,xs 10=x10,xs 11=x11,xs 12=x12,xs 13=x13,xs 14=x14,xs 15=x15,xs 16=x16,xs 17=x17,xs 18=x18,xs 19=x19,xs 20=x20,xs 21=x21,xs 22=x22,xs 23=x23,xs 24=x24,xs 25=x25,xs 26=x26,xs 27=x27,xs 28=x28,xs 29=x29,xs 30=x30,xs 31=x31,xs 32=x32,xs 33=x33,xs 34=x34 at *
     obtain rfl:=f0
     obtain rfl:=f1
     obtain rfl:=f2
     obtain rfl:=f3
     obtain rfl:=f4
     obtain rfl:=f5
     obtain rfl:=f6
     obtain rfl:=f7
     obtain rfl:=f8
     obtain rfl:=f9
     obtain rfl:=f10
     obtain rfl:=f11
     obtain rfl:=f12
     obtain rfl:=f13
     obtain rfl:=f14
     obtain rfl:=f15
     clear f16
     clear f17
     clear f18
     clear f19
     clear f20
     obtain rfl:=f21
     obtain rfl:=f22
     clear f23
     clear f24
     clear f25
     clear f26
     clear f27
     clear f28
     clear f29
     clear f30
     clear f31
     clear f32
     clear f33
     obtain rfl:=f34
     refine Early.done (by kernel_rfl) ?_ _
     (try simp only[Exit.then])
     go_wp2
     go_ret
     exact⟨i2.out,by rw[HR.out,chkQ_none HNO.out];rfl⟩
   | false=>
    by_cases hk:k=0
    ·have n2:((k:Int)==0)=true:=by rw[beq_iff_eq];omega
     have HNO:=zz (show qOf n a false b=none by rw[qOf_both HX.out HY.out,if_neg (fun h=>by have h1:=HEB.out;rw[BY.out,ni_length,hk] at h1;have:=dig_nil.1 h1.symm;omega)]);clear hk
     go_enter Tryz.func45,Tryz.ntmps45
     go_upto_region 1 with (fail)
     rw[← hw0];clear hw0
     refine Flow.run [⟨0,3,fun fv fw=>fv=.pointer (some ⟨w.heap.size,0,none⟩)⟩,⟨1,4,fun fv fw=>fv=.agg #[.bool n,.slice A l c]⟩,⟨2,5,fun fv fw=>fv=.int .i64 0⟩,⟨3,6,fun fv fw=>fv=.bool false⟩,⟨4,7,fun fv fw=>fv=.bool false⟩,⟨5,8,fun fv fw=>fv=.pointer (some ⟨w.heap.size,2,none⟩)⟩,⟨6,9,fun fv fw=>fv=.agg #[.bool false,.slice B k d]⟩,⟨7,10,fun fv fw=>fv=.int .i64 0⟩,⟨8,11,fun fv fw=>fv=.bool false⟩,⟨9,12,fun fv fw=>fv=.bool false⟩,⟨10,13,fun fv fw=>fv=.bool false⟩,⟨11,14,fun fv fw=>fv=.pointer (some ⟨w.heap.size,2,none⟩)⟩,⟨12,15,fun fv fw=>fv=.pointer (some ⟨w.heap.size,2,none⟩)⟩,⟨13,16,fun fv fw=>fv=.bool false⟩,⟨14,17,fun fv fw=>fv=.bool false⟩,⟨15,18,fun fv fw=>fv=.bool false⟩,⟨16,19,fun fv fw=>fv=.pointer (some ⟨w.heap.size,2,none⟩)⟩,⟨17,20,fun fv fw=>fv=.pointer (some ⟨w.heap.size,3,none⟩)⟩,⟨18,21,fun fv fw=>fv=.slice B k d⟩,⟨19,22,fun fv fw=>fv=.int .i64 (k:Int)⟩,⟨20,23,fun fv fw=>fv=.bool true⟩,⟨21,24,fun fv fw=>fv=.bool true⟩,⟨22,25,fun fv fw=>fv=.bool true⟩,⟨23,26,fun fv fw=>True⟩,⟨24,27,fun fv fw=>True⟩,⟨25,28,fun fv fw=>True⟩,⟨26,29,fun fv fw=>True⟩,⟨27,30,fun fv fw=>True⟩,⟨28,31,fun fv fw=>True⟩,⟨29,32,fun fv fw=>True⟩,⟨30,33,fun fv fw=>True⟩,⟨31,34,fun fv fw=>True⟩,⟨32,35,fun fv fw=>True⟩,⟨33,36,fun fv fw=>True⟩,⟨34,37,fun fv fw=>fv=.bool true⟩] [] [] 0 (by kernel_rfl) (by kernel_rfl) (by kernel_rfl) (fun _ _ _ _ _ h=>h) ?_ ?_ ?_ ?_
     ·refine(a0 (a0 (a0 (a0 (a0 (a0 (a0 (a0 (a0 (a0 (a0 (a0 (a0 (a0 (a0 (a0 (a0 (a0 (a0 (a0 (a0 (a0 (a0 (a0 (a0 (a0 (a0 (a0 (a0 (a0 (a0 (a0 (a0 (a0 (a0 all_nil)))))))))))))))))))))))))))))))))))
     ·refine(all_cons ?_ (all_cons ?_ (all_cons ?_ (all_cons ?_ (all_cons ?_ (all_cons ?_ (all_cons ?_ (all_cons ?_ (all_cons ?_ (all_cons ?_ (all_cons ?_ (all_cons ?_ (all_cons ?_ (all_cons ?_ (all_cons ?_ (all_cons ?_ (all_cons ?_ (all_cons ?_ (all_cons ?_ (all_cons ?_ (all_cons ?_ (all_cons ?_ (all_cons ?_ (all_cons ?_ (all_cons ?_ (all_cons ?_ (all_cons ?_ (all_cons ?_ (all_cons ?_ (all_cons ?_ (all_cons ?_ (all_cons ?_ (all_cons ?_ (all_cons ?_ (all_cons ?_ all_nil)))))))))))))))))))))))))))))))))))
      ·intro xs e16 c0 b0
       have e8:=zz c0;have g16:=c0.size;clear c0
       clear b0
       refine wpOp_step (o:=_) rfl (fun K hK=>?_)
       simp only[FL]
       go_simp
       refine hK _ _ ⟨.pointer (some ⟨w.heap.size,0,none⟩),by kernel_rfl,Below.refl _ _,rfl,nF⟩
      ·intro xs h16 c0 b0
       have t1:=zz c0;have i16:=c0.size;clear c0
       have f0:(xs 0)=.pointer (some ⟨w.heap.size,0,none⟩):=b0 _ (m_ 0 rfl) (by kernel_rfl)
       clear b0
       refine wpOp_step (o:=_) rfl (fun K hK=>?_)
       simp only[FL]
       have s0:=CB.step La t1.out
       have g8:=s0.cell 0 rfl
       have h8:=s0.cell 1 rfl
       go_simp
       refine hK _ _ ⟨.agg #[.bool n,.slice A l c],by simp only[FL,f0] <;> kernel_rfl,Below.refl _ _,rfl,nF⟩
      ·intro xs j16 c0 b0
       have u1:=zz c0;have k16:=c0.size;clear c0
       have f1:(xs 1)=.agg #[.bool n,.slice A l c]:=b0 _ (m_ 1 rfl) (by kernel_rfl)
       clear b0
       refine wpOp_step (o:=_) rfl (fun K hK=>?_)
       simp only[FL]
       go_simp
       have v1:=zz (LR.step HA.out u1.out)
       (with_reducible refine(Check_good v1.out HVA.out).mono ?_)
       rintro e wc55 ⟨j2,rfl⟩
       refine hK _ _ ⟨.int .i64 0,by simp only[FL,f1] <;> kernel_rfl,j2,rfl,nF⟩
      ·intro xs l16 c0 b0
       have i8:=zz c0;have m16:=c0.size;clear c0
       have f2:(xs 2)=.int .i64 0:=b0 _ (m_ 2 rfl) (by kernel_rfl)
       clear b0
       refine wpOp_step (o:=_) rfl (fun K hK=>?_)
       simp only[FL]
       go_simp
       refine hK _ _ ⟨.bool false,by simp only[FL,f2] <;> kernel_rfl,Below.refl _ _,rfl,nF⟩
      ·intro xs n16 c0 b0
       have j8:=zz c0;have o16:=c0.size;clear c0
       have f3:(xs 3)=.bool false:=b0 _ (m_ 3 rfl) (by kernel_rfl)
       clear b0
       refine wpOp_step (o:=_) rfl (fun K hK=>?_)
       simp only[FL]
       go_simp
       refine hK _ _ ⟨.bool false,by simp only[FL,f3] <;> kernel_rfl,Below.refl _ _,rfl,nF⟩
      ·intro xs p16 c0 b0
       have k8:=zz c0;have q16:=c0.size;clear c0
       have f4:(xs 4)=.bool false:=b0 _ (m_ 4 rfl) (by kernel_rfl)
       clear b0
       refine wpOp_step (o:=?go58) ?l8 ?gh58
       case l8=>exact rfl
       intro K hK
       simp only[FL]
       go_simp
       refine hK _ _ ⟨.pointer (some ⟨w.heap.size,2,none⟩),by simp only[FL,f4] <;> kernel_rfl,Below.refl _ _,rfl,nF⟩
      ·intro xs r16 c0 b0
       have y1:=zz c0;have s16:=c0.size;clear c0
       have f4:(xs 4)=.bool false:=b0 _ (m_ 4 rfl) (by kernel_rfl)
       have f5:(xs 5)=.pointer (some ⟨w.heap.size,2,none⟩):=b0 _ (m_ 5 rfl) (by kernel_rfl)
       clear b0
       refine wpOp_step (o:=?go59) ?m8 ?gh59
       case m8=>exact rfl
       intro K hK
       simp only[FL]
       have t0:=CB.step La y1.out
       have n8:=t0.cell 2 rfl
       have o8:=t0.cell 3 rfl
       go_simp
       refine hK _ _ ⟨.agg #[.bool false,.slice B k d],by simp only[FL,f4,f5] <;> kernel_rfl,Below.refl _ _,rfl,nF⟩
      ·intro xs t16 c0 b0
       have z1:=zz c0;have u16:=c0.size;clear c0
       have f4:(xs 4)=.bool false:=b0 _ (m_ 4 rfl) (by kernel_rfl)
       have f6:(xs 6)=.agg #[.bool false,.slice B k d]:=b0 _ (m_ 6 rfl) (by kernel_rfl)
       clear b0
       refine wpOp_step (o:=?go62) ?p8 ?gh62
       case p8=>exact rfl
       intro K hK
       simp only[FL]
       go_simp
       have A1:=zz (LR.step HB.out z1.out)
       (with_reducible refine(Check_good A1.out HVB.out).mono ?_)
       rintro e wc64 ⟨k2,rfl⟩
       refine hK _ _ ⟨.int .i64 0,by simp only[FL,f4,f6] <;> kernel_rfl,k2,rfl,nF⟩
      ·intro xs v16 c0 b0
       have q8:=zz c0;have w16:=c0.size;clear c0
       have f4:(xs 4)=.bool false:=b0 _ (m_ 4 rfl) (by kernel_rfl)
       have f7:(xs 7)=.int .i64 0:=b0 _ (m_ 7 rfl) (by kernel_rfl)
       clear b0
       refine wpOp_step (o:=?go65) ?r8 ?gh65
       case r8=>exact rfl
       intro K hK
       simp only[FL]
       go_simp
       refine hK _ _ ⟨.bool false,by simp only[FL,f4,f7] <;> kernel_rfl,Below.refl _ _,rfl,nF⟩
      ·intro xs y16 c0 b0
       have s8:=zz c0;have z16:=c0.size;clear c0
       have f4:(xs 4)=.bool false:=b0 _ (m_ 4 rfl) (by kernel_rfl)
       have f8:(xs 8)=.bool false:=b0 _ (m_ 8 rfl) (by kernel_rfl)
       clear b0
       refine wpOp_step (o:=_) rfl (fun K hK=>?_)
       simp only[FL]
       go_simp
       refine hK _ _ ⟨.bool false,by simp only[FL,f4,f8] <;> kernel_rfl,Below.refl _ _,rfl,nF⟩
      ·intro xs A16 c0 b0
       have t8:=zz c0;have B16:=c0.size;clear c0
       have f9:(xs 9)=.bool false:=b0 _ (m_ 9 rfl) (by kernel_rfl)
       clear b0
       refine wpOp_step (o:=_) rfl (fun K hK=>?_)
       simp only[FL]
       go_simp
       refine hK _ _ ⟨.bool false,by simp only[FL,f9] <;> kernel_rfl,Below.refl _ _,rfl,nF⟩
      ·intro xs C16 c0 b0
       have u8:=zz c0;have D16:=c0.size;clear c0
       have f10:(xs 10)=.bool false:=b0 _ (m_ 10 rfl) (by kernel_rfl)
       clear b0
       refine wpOp_step (o:=?go68) ?v8 ?gh68
       case v8=>exact rfl
       intro K hK
       simp only[FL]
       go_simp
       refine hK _ _ ⟨.pointer (some ⟨w.heap.size,2,none⟩),by simp only[FL,f10] <;> kernel_rfl,Below.refl _ _,rfl,nF⟩
      ·intro xs E16 c0 b0
       have w8:=zz c0;have F16:=c0.size;clear c0
       have f10:(xs 10)=.bool false:=b0 _ (m_ 10 rfl) (by kernel_rfl)
       have f11:(xs 11)=.pointer (some ⟨w.heap.size,2,none⟩):=b0 _ (m_ 11 rfl) (by kernel_rfl)
       clear b0
       refine wpOp_step (o:=?go69) ?y8 ?gh69
       case y8=>exact rfl
       intro K hK
       simp only[FL]
       go_simp
       refine hK _ _ ⟨.pointer (some ⟨w.heap.size,2,none⟩),by simp only[FL,f10,f11] <;> kernel_rfl,Below.refl _ _,rfl,nF⟩
      ·intro xs G16 c0 b0
       have B1:=zz c0;have H16:=c0.size;clear c0
       have f10:(xs 10)=.bool false:=b0 _ (m_ 10 rfl) (by kernel_rfl)
       have f12:(xs 12)=.pointer (some ⟨w.heap.size,2,none⟩):=b0 _ (m_ 12 rfl) (by kernel_rfl)
       clear b0
       refine wpOp_step (o:=?go70) ?z8 ?gh70
       case z8=>exact rfl
       intro K hK
       simp only[FL]
       have C1:=CB.step La B1.out
       have A8:=C1.cell 2 rfl
       go_simp
       refine hK _ _ ⟨.bool false,by simp only[FL,f10,f12] <;> kernel_rfl,Below.refl _ _,rfl,nF⟩
      ·intro xs I16 c0 b0
       have B8:=zz c0;have J16:=c0.size;clear c0
       have f10:(xs 10)=.bool false:=b0 _ (m_ 10 rfl) (by kernel_rfl)
       have f13:(xs 13)=.bool false:=b0 _ (m_ 13 rfl) (by kernel_rfl)
       clear b0
       refine wpOp_step (o:=_) rfl (fun K hK=>?_)
       simp only[FL]
       go_simp
       refine hK _ _ ⟨.bool false,by simp only[FL,f10,f13] <;> kernel_rfl,Below.refl _ _,rfl,nF⟩
      ·intro xs K16 c0 b0
       have C8:=zz c0;have L16:=c0.size;clear c0
       have f14:(xs 14)=.bool false:=b0 _ (m_ 14 rfl) (by kernel_rfl)
       clear b0
       refine wpOp_step (o:=_) rfl (fun K hK=>?_)
       simp only[FL]
       go_simp
       refine hK _ _ ⟨.bool false,by simp only[FL,f14] <;> kernel_rfl,Below.refl _ _,rfl,nF⟩
      ·intro xs M16 c0 b0
       have D8:=zz c0;have N16:=c0.size;clear c0
       have f15:(xs 15)=.bool false:=b0 _ (m_ 15 rfl) (by kernel_rfl)
       clear b0
       refine wpOp_step (o:=?go75) ?E8 ?gh75
       case E8=>exact rfl
       intro K hK
       simp only[FL]
       go_simp
       refine hK _ _ ⟨.pointer (some ⟨w.heap.size,2,none⟩),by simp only[FL,f15] <;> kernel_rfl,Below.refl _ _,rfl,nF⟩
      ·intro xs O16 c0 b0
       have F8:=zz c0;have P16:=c0.size;clear c0
       have f15:(xs 15)=.bool false:=b0 _ (m_ 15 rfl) (by kernel_rfl)
       have f16:(xs 16)=.pointer (some ⟨w.heap.size,2,none⟩):=b0 _ (m_ 16 rfl) (by kernel_rfl)
       clear b0
       refine wpOp_step (o:=?go76) ?G8 ?gh76
       case G8=>exact rfl
       intro K hK
       simp only[FL]
       go_simp
       refine hK _ _ ⟨.pointer (some ⟨w.heap.size,3,none⟩),by simp only[FL,f15,f16] <;> kernel_rfl,Below.refl _ _,rfl,nF⟩
      ·intro xs Q16 c0 b0
       have D1:=zz c0;have R16:=c0.size;clear c0
       have f15:(xs 15)=.bool false:=b0 _ (m_ 15 rfl) (by kernel_rfl)
       have f17:(xs 17)=.pointer (some ⟨w.heap.size,3,none⟩):=b0 _ (m_ 17 rfl) (by kernel_rfl)
       clear b0
       refine wpOp_step (o:=?go77) ?H8 ?gh77
       case H8=>exact rfl
       intro K hK
       simp only[FL]
       have E1:=CB.step La D1.out
       have I8:=E1.cell 3 rfl
       go_simp
       refine hK _ _ ⟨.slice B k d,by simp only[FL,f15,f17] <;> kernel_rfl,Below.refl _ _,rfl,nF⟩
      ·intro xs S16 c0 b0
       have J8:=zz c0;have T16:=c0.size;clear c0
       have f15:(xs 15)=.bool false:=b0 _ (m_ 15 rfl) (by kernel_rfl)
       have f18:(xs 18)=.slice B k d:=b0 _ (m_ 18 rfl) (by kernel_rfl)
       clear b0
       refine wpOp_step (o:=?go80) ?K8 ?gh80
       case K8=>exact rfl
       intro K hK
       simp only[FL]
       go_simp
       refine hK _ _ ⟨.int .i64 (k:Int),by simp only[FL,f15,f18] <;> kernel_rfl,Below.refl _ _,rfl,nF⟩
      ·intro xs U16 c0 b0
       have L8:=zz c0;have V16:=c0.size;clear c0
       have f15:(xs 15)=.bool false:=b0 _ (m_ 15 rfl) (by kernel_rfl)
       have f19:(xs 19)=.int .i64 (k:Int):=b0 _ (m_ 19 rfl) (by kernel_rfl)
       clear b0
       refine wpOp_step (o:=?go81) ?M8 ?gh81
       case M8=>exact rfl
       intro K hK
       simp only[FL]
       go_simp
       refine hK _ _ ⟨.bool true,by simp only[FL,f15,f19] <;> kernel_rfl,Below.refl _ _,rfl,nF⟩
      ·intro xs W16 c0 b0
       have N8:=zz c0;have X16:=c0.size;clear c0
       have f15:(xs 15)=.bool false:=b0 _ (m_ 15 rfl) (by kernel_rfl)
       have f20:(xs 20)=.bool true:=b0 _ (m_ 20 rfl) (by kernel_rfl)
       clear b0
       refine wpOp_step (o:=_) rfl (fun K hK=>?_)
       simp only[FL]
       go_simp
       refine hK _ _ ⟨.bool true,by simp only[FL,f15,f20] <;> kernel_rfl,Below.refl _ _,rfl,nF⟩
      ·intro xs Y16 c0 b0
       have O8:=zz c0;have Z16:=c0.size;clear c0
       have f21:(xs 21)=.bool true:=b0 _ (m_ 21 rfl) (by kernel_rfl)
       clear b0
       refine wpOp_step (o:=_) rfl (fun K hK=>?_)
       simp only[FL]
       go_simp
       refine hK _ _ ⟨.bool true,by simp only[FL,f21] <;> kernel_rfl,Below.refl _ _,rfl,nF⟩
      ·intro xs a17 c0 b0
       have P8:=zz c0;have b17:=c0.size;clear c0
       have f22:(xs 22)=.bool true:=b0 _ (m_ 22 rfl) (by kernel_rfl)
       clear b0
       refine wpOp_step (o:=?go84) ?Q8 ?gh84
       case Q8=>exact rfl
       intro K hK
       simp only[FL]
       go_simp
       refine hK _ _ ⟨undef,by simp only[FL,f22] <;> kernel_rfl,Below.refl _ _,trivial,nF⟩
      ·intro xs c17 c0 b0
       have R8:=zz c0;have d17:=c0.size;clear c0
       have f22:(xs 22)=.bool true:=b0 _ (m_ 22 rfl) (by kernel_rfl)
       clear b0
       refine wpOp_step (o:=?go85) ?S8 ?gh85
       case S8=>exact rfl
       intro K hK
       simp only[FL]
       go_simp
       refine hK _ _ ⟨undef,by simp only[FL,f22] <;> kernel_rfl,Below.refl _ _,trivial,nF⟩
      ·intro xs e17 c0 b0
       have T8:=zz c0;have g17:=c0.size;clear c0
       have f22:(xs 22)=.bool true:=b0 _ (m_ 22 rfl) (by kernel_rfl)
       clear b0
       refine wpOp_step (o:=?go86) ?U8 ?gh86
       case U8=>exact rfl
       intro K hK
       simp only[FL]
       go_simp
       refine hK _ _ ⟨undef,by simp only[FL,f22] <;> kernel_rfl,Below.refl _ _,trivial,nF⟩
      ·intro xs h17 c0 b0
       have V8:=zz c0;have i17:=c0.size;clear c0
       have f22:(xs 22)=.bool true:=b0 _ (m_ 22 rfl) (by kernel_rfl)
       clear b0
       refine wpOp_step (o:=?go87) ?W8 ?gh87
       case W8=>exact rfl
       intro K hK
       simp only[FL]
       go_simp
       refine hK _ _ ⟨undef,by simp only[FL,f22] <;> kernel_rfl,Below.refl _ _,trivial,nF⟩
      ·intro xs j17 c0 b0
       have X8:=zz c0;have k17:=c0.size;clear c0
       have f22:(xs 22)=.bool true:=b0 _ (m_ 22 rfl) (by kernel_rfl)
       clear b0
       refine wpOp_step (o:=?go88) ?Y8 ?gh88
       case Y8=>exact rfl
       intro K hK
       simp only[FL]
       go_simp
       refine hK _ _ ⟨undef,by simp only[FL,f22] <;> kernel_rfl,Below.refl _ _,trivial,nF⟩
      ·intro xs l17 c0 b0
       have Z8:=zz c0;have m17:=c0.size;clear c0
       have f22:(xs 22)=.bool true:=b0 _ (m_ 22 rfl) (by kernel_rfl)
       clear b0
       refine wpOp_step (o:=?go89) ?a9 ?gh89
       case a9=>exact rfl
       intro K hK
       simp only[FL]
       go_simp
       refine hK _ _ ⟨undef,by simp only[FL,f22] <;> kernel_rfl,Below.refl _ _,trivial,nF⟩
      ·intro xs n17 c0 b0
       have b9:=zz c0;have o17:=c0.size;clear c0
       have f22:(xs 22)=.bool true:=b0 _ (m_ 22 rfl) (by kernel_rfl)
       clear b0
       refine wpOp_step (o:=?go90) ?c9 ?gh90
       case c9=>exact rfl
       intro K hK
       simp only[FL]
       go_simp
       refine hK _ _ ⟨undef,by simp only[FL,f22] <;> kernel_rfl,Below.refl _ _,trivial,nF⟩
      ·intro xs p17 c0 b0
       have d9:=zz c0;have q17:=c0.size;clear c0
       have f22:(xs 22)=.bool true:=b0 _ (m_ 22 rfl) (by kernel_rfl)
       clear b0
       refine wpOp_step (o:=?go91) ?e9 ?gh91
       case e9=>exact rfl
       intro K hK
       simp only[FL]
       go_simp
       refine hK _ _ ⟨undef,by simp only[FL,f22] <;> kernel_rfl,Below.refl _ _,trivial,nF⟩
      ·intro xs r17 c0 b0
       have g9:=zz c0;have s17:=c0.size;clear c0
       have f22:(xs 22)=.bool true:=b0 _ (m_ 22 rfl) (by kernel_rfl)
       clear b0
       refine wpOp_step (o:=?go92) ?h9 ?gh92
       case h9=>exact rfl
       intro K hK
       simp only[FL]
       go_simp
       refine hK _ _ ⟨undef,by simp only[FL,f22] <;> kernel_rfl,Below.refl _ _,trivial,nF⟩
      ·intro xs t17 c0 b0
       have i9:=zz c0;have u17:=c0.size;clear c0
       have f22:(xs 22)=.bool true:=b0 _ (m_ 22 rfl) (by kernel_rfl)
       clear b0
       refine wpOp_step (o:=?go93) ?j9 ?gh93
       case j9=>exact rfl
       intro K hK
       simp only[FL]
       go_simp
       refine hK _ _ ⟨undef,by simp only[FL,f22] <;> kernel_rfl,Below.refl _ _,trivial,nF⟩
      ·intro xs v17 c0 b0
       have k9:=zz c0;have w17:=c0.size;clear c0
       have f22:(xs 22)=.bool true:=b0 _ (m_ 22 rfl) (by kernel_rfl)
       clear b0
       refine wpOp_step (o:=?go94) ?l9 ?gh94
       case l9=>exact rfl
       intro K hK
       simp only[FL]
       go_simp
       refine hK _ _ ⟨undef,by simp only[FL,f22] <;> kernel_rfl,Below.refl _ _,trivial,nF⟩
      ·intro xs y17 c0 b0
       have m9:=zz c0;have z17:=c0.size;clear c0
       have f22:(xs 22)=.bool true:=b0 _ (m_ 22 rfl) (by kernel_rfl)
       clear b0
       refine wpOp_step (o:=_) rfl (fun K hK=>?_)
       simp only[FL]
       go_simp
       refine hK _ _ ⟨.bool true,by simp only[FL,f22] <;> kernel_rfl,Below.refl _ _,rfl,nF⟩
     ·exact all_nil
     ·intro xs wf96 hbf hf hn hd
      have f0:(xs 0)=.pointer (some ⟨w.heap.size,0,none⟩):=hf _ (m_ 0 rfl)
      have f1:(xs 1)=.agg #[.bool n,.slice A l c]:=hf _ (m_ 1 rfl)
      have f2:(xs 2)=.int .i64 0:=hf _ (m_ 2 rfl)
      have f3:(xs 3)=.bool false:=hf _ (m_ 3 rfl)
      have f4:(xs 4)=.bool false:=hf _ (m_ 4 rfl)
      have f5:(xs 5)=.pointer (some ⟨w.heap.size,2,none⟩):=hf _ (m_ 5 rfl)
      have f6:(xs 6)=.agg #[.bool false,.slice B k d]:=hf _ (m_ 6 rfl)
      have f7:(xs 7)=.int .i64 0:=hf _ (m_ 7 rfl)
      have f8:(xs 8)=.bool false:=hf _ (m_ 8 rfl)
      have f9:(xs 9)=.bool false:=hf _ (m_ 9 rfl)
      have f10:(xs 10)=.bool false:=hf _ (m_ 10 rfl)
      have f11:(xs 11)=.pointer (some ⟨w.heap.size,2,none⟩):=hf _ (m_ 11 rfl)
      have f12:(xs 12)=.pointer (some ⟨w.heap.size,2,none⟩):=hf _ (m_ 12 rfl)
      have f13:(xs 13)=.bool false:=hf _ (m_ 13 rfl)
      have f14:(xs 14)=.bool false:=hf _ (m_ 14 rfl)
      have f15:(xs 15)=.bool false:=hf _ (m_ 15 rfl)
      have f16:(xs 16)=.pointer (some ⟨w.heap.size,2,none⟩):=hf _ (m_ 16 rfl)
      have f17:(xs 17)=.pointer (some ⟨w.heap.size,3,none⟩):=hf _ (m_ 17 rfl)
      have f18:(xs 18)=.slice B k d:=hf _ (m_ 18 rfl)
      have f19:(xs 19)=.int .i64 (k:Int):=hf _ (m_ 19 rfl)
      have f20:(xs 20)=.bool true:=hf _ (m_ 20 rfl)
      have f21:(xs 21)=.bool true:=hf _ (m_ 21 rfl)
      have f22:(xs 22)=.bool true:=hf _ (m_ 22 rfl)
      have f23:True:=hf _ (m_ 23 rfl)
      have f24:True:=hf _ (m_ 24 rfl)
      have f25:True:=hf _ (m_ 25 rfl)
      have f26:True:=hf _ (m_ 26 rfl)
      have f27:True:=hf _ (m_ 27 rfl)
      have f28:True:=hf _ (m_ 28 rfl)
      have f29:True:=hf _ (m_ 29 rfl)
      have f30:True:=hf _ (m_ 30 rfl)
      have f31:True:=hf _ (m_ 31 rfl)
      have f32:True:=hf _ (m_ 32 rfl)
      have f33:True:=hf _ (m_ 33 rfl)
      have f34:(xs 34)=.bool true:=hf _ (m_ 34 rfl)
      clear hf hn hd
      simp only[FL]
      have B97:=zz hbf
      have z97:=B97.out.size
      have l2:=zz (B0.out.trans (B97.out.mono B0.out.size))
      clear hbf
      generalize xs 0=x0,xs 1=x1,xs 2=x2,xs 3=x3,xs 4=x4,xs 5=x5,xs 6=x6,xs 7=x7,xs 8=x8,xs 9=x9,xs 10=x10,xs 11=x11,xs 12=x12,xs 13=x13,xs 14=x14,xs 15=x15,xs 16=x16,xs 17=x17,xs 18=x18,xs 19=x19,xs 20=x20,xs 21=x21,xs 22=x22,xs 23=x23,xs 24=x24,xs 25=x25,xs 26=x26,xs 27=x27,xs 28=x28,xs 29=x29,xs 30=x30,xs 31=x31,xs 32=x32,xs 33=x33,xs 34=x34 at *
      obtain rfl:=f0
      obtain rfl:=f1
      obtain rfl:=f2
      obtain rfl:=f3
      obtain rfl:=f4
      obtain rfl:=f5
      obtain rfl:=f6
      obtain rfl:=f7
      obtain rfl:=f8
      obtain rfl:=f9
      obtain rfl:=f10
      obtain rfl:=f11
      obtain rfl:=f12
      obtain rfl:=f13
      obtain rfl:=f14
      obtain rfl:=f15
      obtain rfl:=f16
      obtain rfl:=f17
      obtain rfl:=f18
      obtain rfl:=f19
      obtain rfl:=f20
      obtain rfl:=f21
      obtain rfl:=f22
      clear f23
      clear f24
      clear f25
      clear f26
      clear f27
      clear f28
      clear f29
      clear f30
      clear f31
      clear f32
      clear f33
      obtain rfl:=f34
      refine Early.done (by kernel_rfl) ?_ _
      (try simp only[Exit.then])
      go_wp2
      go_ret
      exact⟨l2.out,by rw[HR.out,chkQ_none HNO.out];rfl⟩
    ·have n2:((k:Int)==0)=false:=by rw[beq_eq_false_iff_ne];omega
     have hy1:y.natAbs≠0:=fun h=>hk (by have h1:=HEB.out;rw[BY.out,ni_length,h,dig_zero] at h1;exact h1)
     have hy0:0<y:=by
      have h3:=NY.out;rcases Int.lt_or_le y 0 with h4 | h4
      ·rw[decide_eq_true h4] at h3;cases h3
      ·omega
     have HY0:=zz hy0;have HY1:=zz hy1;clear hy0 hy1 hk
     obtain⟨g,hg⟩:∃ g,g=Nat.gcd x.natAbs y.natAbs:=⟨_,rfl⟩;have HG:=zz hg;clear hg
     have HA1:=zz (show RN w0 w0.heap.size (.slice A l c) (dig x.natAbs) from by have h1:RI w0 w0.heap.size (.slice A l c) a:=lr_is HA.out;rw[AX.out] at h1;exact h1)
     have c2:=zz (show RN w0 w0.heap.size (.slice B k d) (dig y.natAbs) from by have h1:RI w0 w0.heap.size (.slice B k d) b:=lr_is HB.out;rw[BY.out] at h1;exact h1)
     by_cases hg1:g=1
     ·have HG1:=zz hg1;clear hg1
      have HYES:=zz (show qOf n a false b=some (mkRat x y.natAbs) by rw[qOf_both HX.out HY.out,if_pos ⟨HY0.out,by rw[← HG.out];exact HG1.out⟩])
      go_enter Tryz.func45,Tryz.ntmps45
      go_upto_region 1 with (fail)
      rw[← hw0];clear hw0
      refine Flow.run [⟨0,3,fun fv fw=>fv=.pointer (some ⟨w.heap.size,0,none⟩)⟩,⟨1,4,fun fv fw=>fv=.agg #[.bool n,.slice A l c]⟩,⟨2,5,fun fv fw=>fv=.int .i64 0⟩,⟨3,6,fun fv fw=>fv=.bool false⟩,⟨4,7,fun fv fw=>fv=.bool false⟩,⟨5,8,fun fv fw=>fv=.pointer (some ⟨w.heap.size,2,none⟩)⟩,⟨6,9,fun fv fw=>fv=.agg #[.bool false,.slice B k d]⟩,⟨7,10,fun fv fw=>fv=.int .i64 0⟩,⟨8,11,fun fv fw=>fv=.bool false⟩,⟨9,12,fun fv fw=>fv=.bool false⟩,⟨10,13,fun fv fw=>fv=.bool false⟩,⟨11,14,fun fv fw=>fv=.pointer (some ⟨w.heap.size,2,none⟩)⟩,⟨12,15,fun fv fw=>fv=.pointer (some ⟨w.heap.size,2,none⟩)⟩,⟨13,16,fun fv fw=>fv=.bool false⟩,⟨14,17,fun fv fw=>fv=.bool false⟩,⟨15,18,fun fv fw=>fv=.bool false⟩,⟨16,19,fun fv fw=>fv=.pointer (some ⟨w.heap.size,2,none⟩)⟩,⟨17,20,fun fv fw=>fv=.pointer (some ⟨w.heap.size,3,none⟩)⟩,⟨18,21,fun fv fw=>fv=.slice B k d⟩,⟨19,22,fun fv fw=>fv=.int .i64 (k:Int)⟩,⟨20,23,fun fv fw=>fv=.bool false⟩,⟨21,24,fun fv fw=>fv=.bool false⟩,⟨22,25,fun fv fw=>fv=.bool false⟩,⟨23,26,fun fv fw=>fv=.agg #[.bool n,.slice A l c,.bool false,.slice B k d]⟩,⟨24,27,fun fv fw=>fv=.agg #[.bool n,.slice A l c,.slice B k d]⟩,⟨25,28,fun fv fw=>fv=.agg #[.bool n,.slice A l c]⟩,⟨26,29,fun fv fw=>fv=.slice A l c⟩,⟨27,30,fun fv fw=>fv=.pointer (some ⟨w.heap.size,2,none⟩)⟩,⟨28,31,fun fv fw=>fv=.pointer (some ⟨w.heap.size,3,none⟩)⟩,⟨29,32,fun fv fw=>fv=.slice B k d⟩,⟨30,33,fun fv fw=>RN fw fw.heap.size fv (dig g)⟩,⟨31,34,fun fv fw=>RN fw fw.heap.size fv (dig 1)⟩,⟨32,35,fun fv fw=>∃ c:Int,fv=.int .i64 c∧SignOf c (g) (1)⟩,⟨33,36,fun fv fw=>fv=.bool false⟩,⟨34,37,fun fv fw=>fv=.bool false⟩] [] [] 0 (by kernel_rfl) (by kernel_rfl) (by kernel_rfl) (fun _ _ _ _ _ h=>h) ?_ ?_ ?_ ?_
      ·refine(a0 (a0 (a0 (a0 (a0 (a0 (a0 (a0 (a0 (a0 (a0 (a0 (a0 (a0 (a0 (a0 (a0 (a0 (a0 (a0 (a0 (a0 (a0 (a0 (a0 (a0 (a0 (a0 (a0 (a0 (all_cons (fun v w1 w2 h hb=>h.step hb) (all_cons (fun v w1 w2 h hb=>h.step hb) (a0 (a0 (a0 all_nil)))))))))))))))))))))))))))))))))))
      ·refine(all_cons ?_ (all_cons ?_ (all_cons ?_ (all_cons ?_ (all_cons ?_ (all_cons ?_ (all_cons ?_ (all_cons ?_ (all_cons ?_ (all_cons ?_ (all_cons ?_ (all_cons ?_ (all_cons ?_ (all_cons ?_ (all_cons ?_ (all_cons ?_ (all_cons ?_ (all_cons ?_ (all_cons ?_ (all_cons ?_ (all_cons ?_ (all_cons ?_ (all_cons ?_ (all_cons ?_ (all_cons ?_ (all_cons ?_ (all_cons ?_ (all_cons ?_ (all_cons ?_ (all_cons ?_ (all_cons ?_ (all_cons ?_ (all_cons ?_ (all_cons ?_ (all_cons ?_ all_nil)))))))))))))))))))))))))))))))))))
       ·intro xs A17 c0 b0
        have n9:=zz c0;have B17:=c0.size;clear c0
        clear b0
        refine wpOp_step (o:=_) rfl (fun K hK=>?_)
        simp only[FL]
        go_simp
        refine hK _ _ ⟨.pointer (some ⟨w.heap.size,0,none⟩),by kernel_rfl,Below.refl _ _,rfl,nF⟩
       ·intro xs o9 c0 b0
        have D0:=zz c0;have p9:=c0.size;clear c0
        have f0:(xs 0)=.pointer (some ⟨w.heap.size,0,none⟩):=b0 _ (m_ 0 rfl) (by kernel_rfl)
        clear b0
        refine wpOp_step (o:=_) rfl (fun K hK=>?_)
        simp only[FL]
        have i0:=CB.step La D0.out
        have o2:=i0.cell 0 rfl
        have p2:=i0.cell 1 rfl
        go_simp
        refine hK _ _ ⟨.agg #[.bool n,.slice A l c],by simp only[FL,f0] <;> kernel_rfl,Below.refl _ _,rfl,nF⟩
       ·intro xs q9 c0 b0
        have E0:=zz c0;have r9:=c0.size;clear c0
        have f1:(xs 1)=.agg #[.bool n,.slice A l c]:=b0 _ (m_ 1 rfl) (by kernel_rfl)
        clear b0
        refine wpOp_step (o:=_) rfl (fun K hK=>?_)
        simp only[FL]
        go_simp
        have F0:=zz (LR.step HA.out E0.out)
        (with_reducible refine(Check_good F0.out HVA.out).mono ?_)
        rintro e wc105 ⟨F1,rfl⟩
        refine hK _ _ ⟨.int .i64 0,by simp only[FL,f1] <;> kernel_rfl,F1,rfl,nF⟩
       ·intro xs s9 c0 b0
        have q2:=zz c0;have t9:=c0.size;clear c0
        have f2:(xs 2)=.int .i64 0:=b0 _ (m_ 2 rfl) (by kernel_rfl)
        clear b0
        refine wpOp_step (o:=_) rfl (fun K hK=>?_)
        simp only[FL]
        go_simp
        refine hK _ _ ⟨.bool false,by simp only[FL,f2] <;> kernel_rfl,Below.refl _ _,rfl,nF⟩
       ·intro xs u9 c0 b0
        have r2:=zz c0;have v9:=c0.size;clear c0
        have f3:(xs 3)=.bool false:=b0 _ (m_ 3 rfl) (by kernel_rfl)
        clear b0
        refine wpOp_step (o:=_) rfl (fun K hK=>?_)
        simp only[FL]
        go_simp
        refine hK _ _ ⟨.bool false,by simp only[FL,f3] <;> kernel_rfl,Below.refl _ _,rfl,nF⟩
       ·intro xs w9 c0 b0
        have s2:=zz c0;have y9:=c0.size;clear c0
        have f4:(xs 4)=.bool false:=b0 _ (m_ 4 rfl) (by kernel_rfl)
        clear b0
        refine wpOp_step (o:=?go108) ?t2 ?gh108
        case t2=>exact rfl
        intro K hK
        simp only[FL]
        go_simp
        refine hK _ _ ⟨.pointer (some ⟨w.heap.size,2,none⟩),by simp only[FL,f4] <;> kernel_rfl,Below.refl _ _,rfl,nF⟩
       ·intro xs z9 c0 b0
        have G0:=zz c0;have A9:=c0.size;clear c0
        have f4:(xs 4)=.bool false:=b0 _ (m_ 4 rfl) (by kernel_rfl)
        have f5:(xs 5)=.pointer (some ⟨w.heap.size,2,none⟩):=b0 _ (m_ 5 rfl) (by kernel_rfl)
        clear b0
        refine wpOp_step (o:=?go109) ?u2 ?gh109
        case u2=>exact rfl
        intro K hK
        simp only[FL]
        have j0:=CB.step La G0.out
        have v2:=j0.cell 2 rfl
        have y2:=j0.cell 3 rfl
        go_simp
        refine hK _ _ ⟨.agg #[.bool false,.slice B k d],by simp only[FL,f4,f5] <;> kernel_rfl,Below.refl _ _,rfl,nF⟩
       ·intro xs B9 c0 b0
        have H0:=zz c0;have C9:=c0.size;clear c0
        have f4:(xs 4)=.bool false:=b0 _ (m_ 4 rfl) (by kernel_rfl)
        have f6:(xs 6)=.agg #[.bool false,.slice B k d]:=b0 _ (m_ 6 rfl) (by kernel_rfl)
        clear b0
        refine wpOp_step (o:=?go112) ?z2 ?gh112
        case z2=>exact rfl
        intro K hK
        simp only[FL]
        go_simp
        have I0:=zz (LR.step HB.out H0.out)
        (with_reducible refine(Check_good I0.out HVB.out).mono ?_)
        rintro e wc114 ⟨G1,rfl⟩
        refine hK _ _ ⟨.int .i64 0,by simp only[FL,f4,f6] <;> kernel_rfl,G1,rfl,nF⟩
       ·intro xs D9 c0 b0
        have A2:=zz c0;have E9:=c0.size;clear c0
        have f4:(xs 4)=.bool false:=b0 _ (m_ 4 rfl) (by kernel_rfl)
        have f7:(xs 7)=.int .i64 0:=b0 _ (m_ 7 rfl) (by kernel_rfl)
        clear b0
        refine wpOp_step (o:=?go115) ?B2 ?gh115
        case B2=>exact rfl
        intro K hK
        simp only[FL]
        go_simp
        refine hK _ _ ⟨.bool false,by simp only[FL,f4,f7] <;> kernel_rfl,Below.refl _ _,rfl,nF⟩
       ·intro xs F9 c0 b0
        have C2:=zz c0;have G9:=c0.size;clear c0
        have f4:(xs 4)=.bool false:=b0 _ (m_ 4 rfl) (by kernel_rfl)
        have f8:(xs 8)=.bool false:=b0 _ (m_ 8 rfl) (by kernel_rfl)
        clear b0
        refine wpOp_step (o:=_) rfl (fun K hK=>?_)
        simp only[FL]
        go_simp
        refine hK _ _ ⟨.bool false,by simp only[FL,f4,f8] <;> kernel_rfl,Below.refl _ _,rfl,nF⟩
       ·intro xs H9 c0 b0
        have D2:=zz c0;have I9:=c0.size;clear c0
        have f9:(xs 9)=.bool false:=b0 _ (m_ 9 rfl) (by kernel_rfl)
        clear b0
        refine wpOp_step (o:=_) rfl (fun K hK=>?_)
        simp only[FL]
        go_simp
        refine hK _ _ ⟨.bool false,by simp only[FL,f9] <;> kernel_rfl,Below.refl _ _,rfl,nF⟩
       ·intro xs J9 c0 b0
        have E2:=zz c0;have K9:=c0.size;clear c0
        have f10:(xs 10)=.bool false:=b0 _ (m_ 10 rfl) (by kernel_rfl)
        clear b0
        refine wpOp_step (o:=?go118) ?F2 ?gh118
        case F2=>exact rfl
        intro K hK
        simp only[FL]
        go_simp
        refine hK _ _ ⟨.pointer (some ⟨w.heap.size,2,none⟩),by simp only[FL,f10] <;> kernel_rfl,Below.refl _ _,rfl,nF⟩
       ·intro xs L9 c0 b0
        have G2:=zz c0;have M9:=c0.size;clear c0
        have f10:(xs 10)=.bool false:=b0 _ (m_ 10 rfl) (by kernel_rfl)
        have f11:(xs 11)=.pointer (some ⟨w.heap.size,2,none⟩):=b0 _ (m_ 11 rfl) (by kernel_rfl)
        clear b0
        refine wpOp_step (o:=?go119) ?H2 ?gh119
        case H2=>exact rfl
        intro K hK
        simp only[FL]
        go_simp
        refine hK _ _ ⟨.pointer (some ⟨w.heap.size,2,none⟩),by simp only[FL,f10,f11] <;> kernel_rfl,Below.refl _ _,rfl,nF⟩
       ·intro xs N9 c0 b0
        have J0:=zz c0;have O9:=c0.size;clear c0
        have f10:(xs 10)=.bool false:=b0 _ (m_ 10 rfl) (by kernel_rfl)
        have f12:(xs 12)=.pointer (some ⟨w.heap.size,2,none⟩):=b0 _ (m_ 12 rfl) (by kernel_rfl)
        clear b0
        refine wpOp_step (o:=?go120) ?I2 ?gh120
        case I2=>exact rfl
        intro K hK
        simp only[FL]
        have K0:=CB.step La J0.out
        have J2:=K0.cell 2 rfl
        go_simp
        refine hK _ _ ⟨.bool false,by simp only[FL,f10,f12] <;> kernel_rfl,Below.refl _ _,rfl,nF⟩
       ·intro xs P9 c0 b0
        have K2:=zz c0;have Q9:=c0.size;clear c0
        have f10:(xs 10)=.bool false:=b0 _ (m_ 10 rfl) (by kernel_rfl)
        have f13:(xs 13)=.bool false:=b0 _ (m_ 13 rfl) (by kernel_rfl)
        clear b0
        refine wpOp_step (o:=_) rfl (fun K hK=>?_)
        simp only[FL]
        go_simp
        refine hK _ _ ⟨.bool false,by simp only[FL,f10,f13] <;> kernel_rfl,Below.refl _ _,rfl,nF⟩
       ·intro xs R9 c0 b0
        have L2:=zz c0;have S9:=c0.size;clear c0
        have f14:(xs 14)=.bool false:=b0 _ (m_ 14 rfl) (by kernel_rfl)
        clear b0
        refine wpOp_step (o:=_) rfl (fun K hK=>?_)
        simp only[FL]
        go_simp
        refine hK _ _ ⟨.bool false,by simp only[FL,f14] <;> kernel_rfl,Below.refl _ _,rfl,nF⟩
       ·intro xs T9 c0 b0
        have M2:=zz c0;have U9:=c0.size;clear c0
        have f15:(xs 15)=.bool false:=b0 _ (m_ 15 rfl) (by kernel_rfl)
        clear b0
        refine wpOp_step (o:=?go125) ?N2 ?gh125
        case N2=>exact rfl
        intro K hK
        simp only[FL]
        go_simp
        refine hK _ _ ⟨.pointer (some ⟨w.heap.size,2,none⟩),by simp only[FL,f15] <;> kernel_rfl,Below.refl _ _,rfl,nF⟩
       ·intro xs V9 c0 b0
        have O2:=zz c0;have W9:=c0.size;clear c0
        have f15:(xs 15)=.bool false:=b0 _ (m_ 15 rfl) (by kernel_rfl)
        have f16:(xs 16)=.pointer (some ⟨w.heap.size,2,none⟩):=b0 _ (m_ 16 rfl) (by kernel_rfl)
        clear b0
        refine wpOp_step (o:=?go126) ?P2 ?gh126
        case P2=>exact rfl
        intro K hK
        simp only[FL]
        go_simp
        refine hK _ _ ⟨.pointer (some ⟨w.heap.size,3,none⟩),by simp only[FL,f15,f16] <;> kernel_rfl,Below.refl _ _,rfl,nF⟩
       ·intro xs X9 c0 b0
        have L0:=zz c0;have Y9:=c0.size;clear c0
        have f15:(xs 15)=.bool false:=b0 _ (m_ 15 rfl) (by kernel_rfl)
        have f17:(xs 17)=.pointer (some ⟨w.heap.size,3,none⟩):=b0 _ (m_ 17 rfl) (by kernel_rfl)
        clear b0
        refine wpOp_step (o:=?go127) ?Q2 ?gh127
        case Q2=>exact rfl
        intro K hK
        simp only[FL]
        have M0:=CB.step La L0.out
        have R2:=M0.cell 3 rfl
        go_simp
        refine hK _ _ ⟨.slice B k d,by simp only[FL,f15,f17] <;> kernel_rfl,Below.refl _ _,rfl,nF⟩
       ·intro xs Z9 c0 b0
        have S2:=zz c0;have a10:=c0.size;clear c0
        have f15:(xs 15)=.bool false:=b0 _ (m_ 15 rfl) (by kernel_rfl)
        have f18:(xs 18)=.slice B k d:=b0 _ (m_ 18 rfl) (by kernel_rfl)
        clear b0
        refine wpOp_step (o:=?go130) ?T2 ?gh130
        case T2=>exact rfl
        intro K hK
        simp only[FL]
        go_simp
        refine hK _ _ ⟨.int .i64 (k:Int),by simp only[FL,f15,f18] <;> kernel_rfl,Below.refl _ _,rfl,nF⟩
       ·intro xs b10 c0 b0
        have U2:=zz c0;have c10:=c0.size;clear c0
        have f15:(xs 15)=.bool false:=b0 _ (m_ 15 rfl) (by kernel_rfl)
        have f19:(xs 19)=.int .i64 (k:Int):=b0 _ (m_ 19 rfl) (by kernel_rfl)
        clear b0
        refine wpOp_step (o:=?go131) ?V2 ?gh131
        case V2=>exact rfl
        intro K hK
        simp only[FL]
        go_simp
        refine hK _ _ ⟨.bool false,by simp only[FL,f15,f19] <;> kernel_rfl,Below.refl _ _,rfl,nF⟩
       ·intro xs d10 c0 b0
        have W2:=zz c0;have e10:=c0.size;clear c0
        have f15:(xs 15)=.bool false:=b0 _ (m_ 15 rfl) (by kernel_rfl)
        have f20:(xs 20)=.bool false:=b0 _ (m_ 20 rfl) (by kernel_rfl)
        clear b0
        refine wpOp_step (o:=_) rfl (fun K hK=>?_)
        simp only[FL]
        go_simp
        refine hK _ _ ⟨.bool false,by simp only[FL,f15,f20] <;> kernel_rfl,Below.refl _ _,rfl,nF⟩
       ·intro xs g10 c0 b0
        have X2:=zz c0;have h10:=c0.size;clear c0
        have f21:(xs 21)=.bool false:=b0 _ (m_ 21 rfl) (by kernel_rfl)
        clear b0
        refine wpOp_step (o:=_) rfl (fun K hK=>?_)
        simp only[FL]
        go_simp
        refine hK _ _ ⟨.bool false,by simp only[FL,f21] <;> kernel_rfl,Below.refl _ _,rfl,nF⟩
       ·intro xs i10 c0 b0
        have N0:=zz c0;have j10:=c0.size;clear c0
        have f22:(xs 22)=.bool false:=b0 _ (m_ 22 rfl) (by kernel_rfl)
        clear b0
        refine wpOp_step (o:=?go134) ?Y2 ?gh134
        case Y2=>exact rfl
        intro K hK
        simp only[FL]
        have d0:=CB.step La N0.out
        have Z2:=d0.cell 0 rfl
        have a3:=d0.cell 1 rfl
        have b3:=d0.cell 2 rfl
        have c3:=d0.cell 3 rfl
        go_simp
        refine hK _ _ ⟨.agg #[.bool n,.slice A l c,.bool false,.slice B k d],by simp only[FL,f22] <;> kernel_rfl,Below.refl _ _,rfl,nF⟩
       ·intro xs k10 c0 b0
        have d3:=zz c0;have l10:=c0.size;clear c0
        have f22:(xs 22)=.bool false:=b0 _ (m_ 22 rfl) (by kernel_rfl)
        have f23:(xs 23)=.agg #[.bool n,.slice A l c,.bool false,.slice B k d]:=b0 _ (m_ 23 rfl) (by kernel_rfl)
        clear b0
        refine wpOp_step (o:=?go137) ?e3 ?gh137
        case e3=>exact rfl
        intro K hK
        simp only[FL]
        go_simp
        (with_reducible refine(Read_any _ n false A B l c k d).mono ?_)
        rintro e wc138 ⟨H1,rfl⟩
        refine hK _ _ ⟨.agg #[.bool n,.slice A l c,.slice B k d],by simp only[FL,f22,f23] <;> kernel_rfl,H1,rfl,nF⟩
       ·intro xs m10 c0 b0
        have g3:=zz c0;have n10:=c0.size;clear c0
        have f22:(xs 22)=.bool false:=b0 _ (m_ 22 rfl) (by kernel_rfl)
        have f24:(xs 24)=.agg #[.bool n,.slice A l c,.slice B k d]:=b0 _ (m_ 24 rfl) (by kernel_rfl)
        clear b0
        refine wpOp_step (o:=?go139) ?i3 ?gh139
        case i3=>exact rfl
        intro K hK
        simp only[FL]
        go_simp
        refine hK _ _ ⟨.agg #[.bool n,.slice A l c],by simp only[FL,f22,f24] <;> kernel_rfl,Below.refl _ _,rfl,nF⟩
       ·intro xs o10 c0 b0
        have j3:=zz c0;have p10:=c0.size;clear c0
        have f22:(xs 22)=.bool false:=b0 _ (m_ 22 rfl) (by kernel_rfl)
        have f25:(xs 25)=.agg #[.bool n,.slice A l c]:=b0 _ (m_ 25 rfl) (by kernel_rfl)
        clear b0
        refine wpOp_step (o:=?go140) ?k3 ?gh140
        case k3=>exact rfl
        intro K hK
        simp only[FL]
        go_simp
        refine hK _ _ ⟨.slice A l c,by simp only[FL,f22,f25] <;> kernel_rfl,Below.refl _ _,rfl,nF⟩
       ·intro xs q10 c0 b0
        have l3:=zz c0;have r10:=c0.size;clear c0
        have f22:(xs 22)=.bool false:=b0 _ (m_ 22 rfl) (by kernel_rfl)
        clear b0
        refine wpOp_step (o:=?go141) ?m3 ?gh141
        case m3=>exact rfl
        intro K hK
        simp only[FL]
        go_simp
        refine hK _ _ ⟨.pointer (some ⟨w.heap.size,2,none⟩),by simp only[FL,f22] <;> kernel_rfl,Below.refl _ _,rfl,nF⟩
       ·intro xs s10 c0 b0
        have n3:=zz c0;have t10:=c0.size;clear c0
        have f22:(xs 22)=.bool false:=b0 _ (m_ 22 rfl) (by kernel_rfl)
        have f27:(xs 27)=.pointer (some ⟨w.heap.size,2,none⟩):=b0 _ (m_ 27 rfl) (by kernel_rfl)
        clear b0
        refine wpOp_step (o:=?go142) ?o3 ?gh142
        case o3=>exact rfl
        intro K hK
        simp only[FL]
        go_simp
        refine hK _ _ ⟨.pointer (some ⟨w.heap.size,3,none⟩),by simp only[FL,f22,f27] <;> kernel_rfl,Below.refl _ _,rfl,nF⟩
       ·intro xs u10 c0 b0
        have O0:=zz c0;have v10:=c0.size;clear c0
        have f22:(xs 22)=.bool false:=b0 _ (m_ 22 rfl) (by kernel_rfl)
        have f28:(xs 28)=.pointer (some ⟨w.heap.size,3,none⟩):=b0 _ (m_ 28 rfl) (by kernel_rfl)
        clear b0
        refine wpOp_step (o:=?go143) ?p3 ?gh143
        case p3=>exact rfl
        intro K hK
        simp only[FL]
        have P0:=CB.step La O0.out
        have q3:=P0.cell 3 rfl
        go_simp
        refine hK _ _ ⟨.slice B k d,by simp only[FL,f22,f28] <;> kernel_rfl,Below.refl _ _,rfl,nF⟩
       ·intro xs w10 c0 b0
        have k0:=zz c0;have y10:=c0.size;clear c0
        have f22:(xs 22)=.bool false:=b0 _ (m_ 22 rfl) (by kernel_rfl)
        have f26:(xs 26)=.slice A l c:=b0 _ (m_ 26 rfl) (by kernel_rfl)
        have f29:(xs 29)=.slice B k d:=b0 _ (m_ 29 rfl) (by kernel_rfl)
        clear b0
        refine wpOp_step (o:=?go146) ?r3 ?gh146
        case r3=>exact rfl
        intro K hK
        simp only[FL]
        go_simp
        have u0:=zz (RN.step HA1.out k0.out)
        have v0:=zz (RN.step c2.out k0.out)
        (with_reducible refine((show Calls Tryz.prog _ _ _ _ from HG.out▸Common_any _ _ _ x.natAbs y.natAbs u0.out v0.out (by have:=HL.out;omega) (by have:=HL.out;omega))).mono ?_)
        rintro e wc149 ⟨I1,v149,rfl,J1⟩
        refine hK _ _ ⟨v149,by simp only[FL,f22,f26,f29] <;> kernel_rfl,I1,J1,nF⟩
       ·intro xs z10 c0 b0
        have s3:=zz c0;have A10:=c0.size;clear c0
        have f22:(xs 22)=.bool false:=b0 _ (m_ 22 rfl) (by kernel_rfl)
        clear b0
        refine wpOp_step (o:=?go150) ?t3 ?gh150
        case t3=>exact rfl
        intro K hK
        simp only[FL]
        go_simp
        (with_reducible refine(one_any _).mono ?_)
        rintro e wc151 ⟨K1,v151,rfl,L1⟩
        refine hK _ _ ⟨v151,by simp only[FL,f22] <;> kernel_rfl,K1,L1,nF⟩
       ·intro xs g0 c0 b0
        have u3:=zz c0;have B10:=c0.size;clear c0
        have f22:(xs 22)=.bool false:=b0 _ (m_ 22 rfl) (by kernel_rfl)
        have f30:RN g0 g0.heap.size (xs 30) (dig g):=b0 _ (m_ 30 rfl) (by kernel_rfl)
        have f31:RN g0 g0.heap.size (xs 31) (dig 1):=b0 _ (m_ 31 rfl) (by kernel_rfl)
        clear b0
        refine wpOp_step (o:=?go152) ?v3 ?gh152
        case v3=>exact rfl
        intro K hK
        simp only[FL]
        go_simp
        (with_reducible refine(Cmp_any _ _ _ g 1 f30 f31).mono ?_)
        rintro e wc153 ⟨M1,c153,rfl,hc153⟩
        refine hK _ _ ⟨.int .i64 c153,by simp only[FL,f22] <;> kernel_rfl,M1,⟨c153,rfl,hc153⟩,nF⟩
       ·intro xs C10 c0 b0
        have w3:=zz c0;have D10:=c0.size;clear c0
        have f22:(xs 22)=.bool false:=b0 _ (m_ 22 rfl) (by kernel_rfl)
        have f32:∃ c:Int,(xs 32)=.int .i64 c∧SignOf c (g) (1):=b0 _ (m_ 32 rfl) (by kernel_rfl)
        clear b0
        refine wpOp_step (o:=?go154) ?y3 ?gh154
        case y3=>exact rfl
        intro K hK
        simp only[FL]
        obtain⟨c,hc,hs⟩:=f32;unfold SignOf at hs;have hq:(c != 0)=false:=by have h1:=HG1.out;rw[bne_eq_false_iff_eq];omega
        rw[hc];clear hs
        go_simp
        refine hK _ _ ⟨.bool false,by simp only[FL,f22,hc] <;> kernel_rfl,Below.refl _ _,rfl,nF⟩
       ·intro xs E10 c0 b0
        have z3:=zz c0;have F10:=c0.size;clear c0
        have f22:(xs 22)=.bool false:=b0 _ (m_ 22 rfl) (by kernel_rfl)
        have f33:(xs 33)=.bool false:=b0 _ (m_ 33 rfl) (by kernel_rfl)
        clear b0
        refine wpOp_step (o:=_) rfl (fun K hK=>?_)
        simp only[FL]
        go_simp
        refine hK _ _ ⟨.bool false,by simp only[FL,f22,f33] <;> kernel_rfl,Below.refl _ _,rfl,nF⟩
      ·exact all_nil
      ·intro xs wf156 hbf hf hn hd
       have f0:(xs 0)=.pointer (some ⟨w.heap.size,0,none⟩):=hf _ (m_ 0 rfl)
       have f1:(xs 1)=.agg #[.bool n,.slice A l c]:=hf _ (m_ 1 rfl)
       have f2:(xs 2)=.int .i64 0:=hf _ (m_ 2 rfl)
       have f3:(xs 3)=.bool false:=hf _ (m_ 3 rfl)
       have f4:(xs 4)=.bool false:=hf _ (m_ 4 rfl)
       have f5:(xs 5)=.pointer (some ⟨w.heap.size,2,none⟩):=hf _ (m_ 5 rfl)
       have f6:(xs 6)=.agg #[.bool false,.slice B k d]:=hf _ (m_ 6 rfl)
       have f7:(xs 7)=.int .i64 0:=hf _ (m_ 7 rfl)
       have f8:(xs 8)=.bool false:=hf _ (m_ 8 rfl)
       have f9:(xs 9)=.bool false:=hf _ (m_ 9 rfl)
       have f10:(xs 10)=.bool false:=hf _ (m_ 10 rfl)
       have f11:(xs 11)=.pointer (some ⟨w.heap.size,2,none⟩):=hf _ (m_ 11 rfl)
       have f12:(xs 12)=.pointer (some ⟨w.heap.size,2,none⟩):=hf _ (m_ 12 rfl)
       have f13:(xs 13)=.bool false:=hf _ (m_ 13 rfl)
       have f14:(xs 14)=.bool false:=hf _ (m_ 14 rfl)
       have f15:(xs 15)=.bool false:=hf _ (m_ 15 rfl)
       have f16:(xs 16)=.pointer (some ⟨w.heap.size,2,none⟩):=hf _ (m_ 16 rfl)
       have f17:(xs 17)=.pointer (some ⟨w.heap.size,3,none⟩):=hf _ (m_ 17 rfl)
       have f18:(xs 18)=.slice B k d:=hf _ (m_ 18 rfl)
       have f19:(xs 19)=.int .i64 (k:Int):=hf _ (m_ 19 rfl)
       have f20:(xs 20)=.bool false:=hf _ (m_ 20 rfl)
       have f21:(xs 21)=.bool false:=hf _ (m_ 21 rfl)
       have f22:(xs 22)=.bool false:=hf _ (m_ 22 rfl)
       have f23:(xs 23)=.agg #[.bool n,.slice A l c,.bool false,.slice B k d]:=hf _ (m_ 23 rfl)
       have f24:(xs 24)=.agg #[.bool n,.slice A l c,.slice B k d]:=hf _ (m_ 24 rfl)
       have f25:(xs 25)=.agg #[.bool n,.slice A l c]:=hf _ (m_ 25 rfl)
       have f26:(xs 26)=.slice A l c:=hf _ (m_ 26 rfl)
       have f27:(xs 27)=.pointer (some ⟨w.heap.size,2,none⟩):=hf _ (m_ 27 rfl)
       have f28:(xs 28)=.pointer (some ⟨w.heap.size,3,none⟩):=hf _ (m_ 28 rfl)
       have f29:(xs 29)=.slice B k d:=hf _ (m_ 29 rfl)
       have f30:RN wf156 wf156.heap.size (xs 30) (dig g):=hf _ (m_ 30 rfl)
       have f31:RN wf156 wf156.heap.size (xs 31) (dig 1):=hf _ (m_ 31 rfl)
       have f32:∃ c:Int,(xs 32)=.int .i64 c∧SignOf c (g) (1):=hf _ (m_ 32 rfl)
       have f33:(xs 33)=.bool false:=hf _ (m_ 33 rfl)
       have f34:(xs 34)=.bool false:=hf _ (m_ 34 rfl)
       clear hf hn hd
       simp only[FL]
       have B157:=zz hbf
       have z157:=B157.out.size
       have N1:=zz (B0.out.trans (B157.out.mono B0.out.size))
       clear hbf
       generalize xs 0=x0,xs 1=x1,xs 2=x2,xs 3=x3,xs 4=x4,xs 5=x5,xs 6=x6,xs 7=x7,xs 8=x8,xs 9=x9,xs 10=x10,xs 11=x11,xs 12=x12,xs 13=x13,xs 14=x14,xs 15=x15,xs 16=x16,xs 17=x17,xs 18=x18,xs 19=x19,xs 20=x20,xs 21=x21,xs 22=x22,xs 23=x23,xs 24=x24,xs 25=x25,xs 26=x26,xs 27=x27,xs 28=x28,xs 29=x29,xs 30=x30,xs 31=x31,xs 32=x32,xs 33=x33,xs 34=x34 at *
       obtain rfl:=f0
       obtain rfl:=f1
       obtain rfl:=f2
       obtain rfl:=f3
       obtain rfl:=f4
       obtain rfl:=f5
       obtain rfl:=f6
       obtain rfl:=f7
       obtain rfl:=f8
       obtain rfl:=f9
       obtain rfl:=f10
       obtain rfl:=f11
       obtain rfl:=f12
       obtain rfl:=f13
       obtain rfl:=f14
       obtain rfl:=f15
       obtain rfl:=f16
       obtain rfl:=f17
       obtain rfl:=f18
       obtain rfl:=f19
       obtain rfl:=f20
       obtain rfl:=f21
       obtain rfl:=f22
       obtain rfl:=f23
       obtain rfl:=f24
       obtain rfl:=f25
       obtain rfl:=f26
       obtain rfl:=f27
       obtain rfl:=f28
       obtain rfl:=f29
       clear f30
       clear f31
       clear f32
       obtain rfl:=f33
       obtain rfl:=f34
       refine Early.done (by kernel_rfl) ?_ _
       (try simp only[Exit.then])
       go_wp2
       go_ret
       exact⟨N1.out,by rw[HR.out,chkQ_some HYES.out];rfl⟩
     ·have HG1:=zz hg1;clear hg1
      have HNO:=zz (show qOf n a false b=none by rw[qOf_both HX.out HY.out,if_neg (fun h=>HG1.out (by rw[HG.out];exact h.2))])
      go_enter Tryz.func45,Tryz.ntmps45
      go_upto_region 1 with (fail)
      rw[← hw0];clear hw0
      refine Flow.run [⟨0,3,fun fv fw=>fv=.pointer (some ⟨w.heap.size,0,none⟩)⟩,⟨1,4,fun fv fw=>fv=.agg #[.bool n,.slice A l c]⟩,⟨2,5,fun fv fw=>fv=.int .i64 0⟩,⟨3,6,fun fv fw=>fv=.bool false⟩,⟨4,7,fun fv fw=>fv=.bool false⟩,⟨5,8,fun fv fw=>fv=.pointer (some ⟨w.heap.size,2,none⟩)⟩,⟨6,9,fun fv fw=>fv=.agg #[.bool false,.slice B k d]⟩,⟨7,10,fun fv fw=>fv=.int .i64 0⟩,⟨8,11,fun fv fw=>fv=.bool false⟩,⟨9,12,fun fv fw=>fv=.bool false⟩,⟨10,13,fun fv fw=>fv=.bool false⟩,⟨11,14,fun fv fw=>fv=.pointer (some ⟨w.heap.size,2,none⟩)⟩,⟨12,15,fun fv fw=>fv=.pointer (some ⟨w.heap.size,2,none⟩)⟩,⟨13,16,fun fv fw=>fv=.bool false⟩,⟨14,17,fun fv fw=>fv=.bool false⟩,⟨15,18,fun fv fw=>fv=.bool false⟩,⟨16,19,fun fv fw=>fv=.pointer (some ⟨w.heap.size,2,none⟩)⟩,⟨17,20,fun fv fw=>fv=.pointer (some ⟨w.heap.size,3,none⟩)⟩,⟨18,21,fun fv fw=>fv=.slice B k d⟩,⟨19,22,fun fv fw=>fv=.int .i64 (k:Int)⟩,⟨20,23,fun fv fw=>fv=.bool false⟩,⟨21,24,fun fv fw=>fv=.bool false⟩,⟨22,25,fun fv fw=>fv=.bool false⟩,⟨23,26,fun fv fw=>fv=.agg #[.bool n,.slice A l c,.bool false,.slice B k d]⟩,⟨24,27,fun fv fw=>fv=.agg #[.bool n,.slice A l c,.slice B k d]⟩,⟨25,28,fun fv fw=>fv=.agg #[.bool n,.slice A l c]⟩,⟨26,29,fun fv fw=>fv=.slice A l c⟩,⟨27,30,fun fv fw=>fv=.pointer (some ⟨w.heap.size,2,none⟩)⟩,⟨28,31,fun fv fw=>fv=.pointer (some ⟨w.heap.size,3,none⟩)⟩,⟨29,32,fun fv fw=>fv=.slice B k d⟩,⟨30,33,fun fv fw=>RN fw fw.heap.size fv (dig g)⟩,⟨31,34,fun fv fw=>RN fw fw.heap.size fv (dig 1)⟩,⟨32,35,fun fv fw=>∃ c:Int,fv=.int .i64 c∧SignOf c (g) (1)⟩,⟨33,36,fun fv fw=>fv=.bool true⟩,⟨34,37,fun fv fw=>fv=.bool true⟩] [] [] 0 (by kernel_rfl) (by kernel_rfl) (by kernel_rfl) (fun _ _ _ _ _ h=>h) ?_ ?_ ?_ ?_
      ·refine(a0 (a0 (a0 (a0 (a0 (a0 (a0 (a0 (a0 (a0 (a0 (a0 (a0 (a0 (a0 (a0 (a0 (a0 (a0 (a0 (a0 (a0 (a0 (a0 (a0 (a0 (a0 (a0 (a0 (a0 (all_cons (fun v w1 w2 h hb=>h.step hb) (all_cons (fun v w1 w2 h hb=>h.step hb) (a0 (a0 (a0 all_nil)))))))))))))))))))))))))))))))))))
      ·refine(all_cons ?_ (all_cons ?_ (all_cons ?_ (all_cons ?_ (all_cons ?_ (all_cons ?_ (all_cons ?_ (all_cons ?_ (all_cons ?_ (all_cons ?_ (all_cons ?_ (all_cons ?_ (all_cons ?_ (all_cons ?_ (all_cons ?_ (all_cons ?_ (all_cons ?_ (all_cons ?_ (all_cons ?_ (all_cons ?_ (all_cons ?_ (all_cons ?_ (all_cons ?_ (all_cons ?_ (all_cons ?_ (all_cons ?_ (all_cons ?_ (all_cons ?_ (all_cons ?_ (all_cons ?_ (all_cons ?_ (all_cons ?_ (all_cons ?_ (all_cons ?_ (all_cons ?_ all_nil)))))))))))))))))))))))))))))))))))
       ·intro xs G10 c0 b0
        have A3:=zz c0;have H10:=c0.size;clear c0
        clear b0
        refine wpOp_step (o:=_) rfl (fun K hK=>?_)
        simp only[FL]
        go_simp
        refine hK _ _ ⟨.pointer (some ⟨w.heap.size,0,none⟩),by kernel_rfl,Below.refl _ _,rfl,nF⟩
       ·intro xs I10 c0 b0
        have Q0:=zz c0;have J10:=c0.size;clear c0
        have f0:(xs 0)=.pointer (some ⟨w.heap.size,0,none⟩):=b0 _ (m_ 0 rfl) (by kernel_rfl)
        clear b0
        refine wpOp_step (o:=_) rfl (fun K hK=>?_)
        simp only[FL]
        have l0:=CB.step La Q0.out
        have B3:=l0.cell 0 rfl
        have C3:=l0.cell 1 rfl
        go_simp
        refine hK _ _ ⟨.agg #[.bool n,.slice A l c],by simp only[FL,f0] <;> kernel_rfl,Below.refl _ _,rfl,nF⟩
       ·intro xs K10 c0 b0
        have R0:=zz c0;have L10:=c0.size;clear c0
        have f1:(xs 1)=.agg #[.bool n,.slice A l c]:=b0 _ (m_ 1 rfl) (by kernel_rfl)
        clear b0
        refine wpOp_step (o:=_) rfl (fun K hK=>?_)
        simp only[FL]
        go_simp
        have S0:=zz (LR.step HA.out R0.out)
        (with_reducible refine(Check_good S0.out HVA.out).mono ?_)
        rintro e wc165 ⟨O1,rfl⟩
        refine hK _ _ ⟨.int .i64 0,by simp only[FL,f1] <;> kernel_rfl,O1,rfl,nF⟩
       ·intro xs M10 c0 b0
        have D3:=zz c0;have N10:=c0.size;clear c0
        have f2:(xs 2)=.int .i64 0:=b0 _ (m_ 2 rfl) (by kernel_rfl)
        clear b0
        refine wpOp_step (o:=_) rfl (fun K hK=>?_)
        simp only[FL]
        go_simp
        refine hK _ _ ⟨.bool false,by simp only[FL,f2] <;> kernel_rfl,Below.refl _ _,rfl,nF⟩
       ·intro xs O10 c0 b0
        have E3:=zz c0;have P10:=c0.size;clear c0
        have f3:(xs 3)=.bool false:=b0 _ (m_ 3 rfl) (by kernel_rfl)
        clear b0
        refine wpOp_step (o:=_) rfl (fun K hK=>?_)
        simp only[FL]
        go_simp
        refine hK _ _ ⟨.bool false,by simp only[FL,f3] <;> kernel_rfl,Below.refl _ _,rfl,nF⟩
       ·intro xs Q10 c0 b0
        have F3:=zz c0;have R10:=c0.size;clear c0
        have f4:(xs 4)=.bool false:=b0 _ (m_ 4 rfl) (by kernel_rfl)
        clear b0
        refine wpOp_step (o:=?go168) ?G3 ?gh168
        case G3=>exact rfl
        intro K hK
        simp only[FL]
        go_simp
        refine hK _ _ ⟨.pointer (some ⟨w.heap.size,2,none⟩),by simp only[FL,f4] <;> kernel_rfl,Below.refl _ _,rfl,nF⟩
       ·intro xs S10 c0 b0
        have T0:=zz c0;have T10:=c0.size;clear c0
        have f4:(xs 4)=.bool false:=b0 _ (m_ 4 rfl) (by kernel_rfl)
        have f5:(xs 5)=.pointer (some ⟨w.heap.size,2,none⟩):=b0 _ (m_ 5 rfl) (by kernel_rfl)
        clear b0
        refine wpOp_step (o:=?go169) ?H3 ?gh169
        case H3=>exact rfl
        intro K hK
        simp only[FL]
        have m0:=CB.step La T0.out
        have I3:=m0.cell 2 rfl
        have J3:=m0.cell 3 rfl
        go_simp
        refine hK _ _ ⟨.agg #[.bool false,.slice B k d],by simp only[FL,f4,f5] <;> kernel_rfl,Below.refl _ _,rfl,nF⟩
       ·intro xs U10 c0 b0
        have U0:=zz c0;have V10:=c0.size;clear c0
        have f4:(xs 4)=.bool false:=b0 _ (m_ 4 rfl) (by kernel_rfl)
        have f6:(xs 6)=.agg #[.bool false,.slice B k d]:=b0 _ (m_ 6 rfl) (by kernel_rfl)
        clear b0
        refine wpOp_step (o:=?go172) ?K3 ?gh172
        case K3=>exact rfl
        intro K hK
        simp only[FL]
        go_simp
        have V0:=zz (LR.step HB.out U0.out)
        (with_reducible refine(Check_good V0.out HVB.out).mono ?_)
        rintro e wc174 ⟨P1,rfl⟩
        refine hK _ _ ⟨.int .i64 0,by simp only[FL,f4,f6] <;> kernel_rfl,P1,rfl,nF⟩
       ·intro xs W10 c0 b0
        have L3:=zz c0;have X10:=c0.size;clear c0
        have f4:(xs 4)=.bool false:=b0 _ (m_ 4 rfl) (by kernel_rfl)
        have f7:(xs 7)=.int .i64 0:=b0 _ (m_ 7 rfl) (by kernel_rfl)
        clear b0
        refine wpOp_step (o:=?go175) ?M3 ?gh175
        case M3=>exact rfl
        intro K hK
        simp only[FL]
        go_simp
        refine hK _ _ ⟨.bool false,by simp only[FL,f4,f7] <;> kernel_rfl,Below.refl _ _,rfl,nF⟩
       ·intro xs Y10 c0 b0
        have N3:=zz c0;have Z10:=c0.size;clear c0
        have f4:(xs 4)=.bool false:=b0 _ (m_ 4 rfl) (by kernel_rfl)
        have f8:(xs 8)=.bool false:=b0 _ (m_ 8 rfl) (by kernel_rfl)
        clear b0
        refine wpOp_step (o:=_) rfl (fun K hK=>?_)
        simp only[FL]
        go_simp
        refine hK _ _ ⟨.bool false,by simp only[FL,f4,f8] <;> kernel_rfl,Below.refl _ _,rfl,nF⟩
       ·intro xs a11 c0 b0
        have O3:=zz c0;have b11:=c0.size;clear c0
        have f9:(xs 9)=.bool false:=b0 _ (m_ 9 rfl) (by kernel_rfl)
        clear b0
        refine wpOp_step (o:=_) rfl (fun K hK=>?_)
        simp only[FL]
        go_simp
        refine hK _ _ ⟨.bool false,by simp only[FL,f9] <;> kernel_rfl,Below.refl _ _,rfl,nF⟩
       ·intro xs c11 c0 b0
        have P3:=zz c0;have d11:=c0.size;clear c0
        have f10:(xs 10)=.bool false:=b0 _ (m_ 10 rfl) (by kernel_rfl)
        clear b0
        refine wpOp_step (o:=?go178) ?Q3 ?gh178
        case Q3=>exact rfl
        intro K hK
        simp only[FL]
        go_simp
        refine hK _ _ ⟨.pointer (some ⟨w.heap.size,2,none⟩),by simp only[FL,f10] <;> kernel_rfl,Below.refl _ _,rfl,nF⟩
       ·intro xs e11 c0 b0
        have R3:=zz c0;have g11:=c0.size;clear c0
        have f10:(xs 10)=.bool false:=b0 _ (m_ 10 rfl) (by kernel_rfl)
        have f11:(xs 11)=.pointer (some ⟨w.heap.size,2,none⟩):=b0 _ (m_ 11 rfl) (by kernel_rfl)
        clear b0
        refine wpOp_step (o:=?go179) ?S3 ?gh179
        case S3=>exact rfl
        intro K hK
        simp only[FL]
        go_simp
        refine hK _ _ ⟨.pointer (some ⟨w.heap.size,2,none⟩),by simp only[FL,f10,f11] <;> kernel_rfl,Below.refl _ _,rfl,nF⟩
       ·intro xs h11 c0 b0
        have W0:=zz c0;have i11:=c0.size;clear c0
        have f10:(xs 10)=.bool false:=b0 _ (m_ 10 rfl) (by kernel_rfl)
        have f12:(xs 12)=.pointer (some ⟨w.heap.size,2,none⟩):=b0 _ (m_ 12 rfl) (by kernel_rfl)
        clear b0
        refine wpOp_step (o:=?go180) ?T3 ?gh180
        case T3=>exact rfl
        intro K hK
        simp only[FL]
        have X0:=CB.step La W0.out
        have U3:=X0.cell 2 rfl
        go_simp
        refine hK _ _ ⟨.bool false,by simp only[FL,f10,f12] <;> kernel_rfl,Below.refl _ _,rfl,nF⟩
       ·intro xs j11 c0 b0
        have V3:=zz c0;have k11:=c0.size;clear c0
        have f10:(xs 10)=.bool false:=b0 _ (m_ 10 rfl) (by kernel_rfl)
        have f13:(xs 13)=.bool false:=b0 _ (m_ 13 rfl) (by kernel_rfl)
        clear b0
        refine wpOp_step (o:=_) rfl (fun K hK=>?_)
        simp only[FL]
        go_simp
        refine hK _ _ ⟨.bool false,by simp only[FL,f10,f13] <;> kernel_rfl,Below.refl _ _,rfl,nF⟩
       ·intro xs l11 c0 b0
        have W3:=zz c0;have m11:=c0.size;clear c0
        have f14:(xs 14)=.bool false:=b0 _ (m_ 14 rfl) (by kernel_rfl)
        clear b0
        refine wpOp_step (o:=_) rfl (fun K hK=>?_)
        simp only[FL]
        go_simp
        refine hK _ _ ⟨.bool false,by simp only[FL,f14] <;> kernel_rfl,Below.refl _ _,rfl,nF⟩
       ·intro xs n11 c0 b0
        have X3:=zz c0;have o11:=c0.size;clear c0
        have f15:(xs 15)=.bool false:=b0 _ (m_ 15 rfl) (by kernel_rfl)
        clear b0
        refine wpOp_step (o:=?go185) ?Y3 ?gh185
        case Y3=>exact rfl
        intro K hK
        simp only[FL]
        go_simp
        refine hK _ _ ⟨.pointer (some ⟨w.heap.size,2,none⟩),by simp only[FL,f15] <;> kernel_rfl,Below.refl _ _,rfl,nF⟩
       ·intro xs p11 c0 b0
        have Z3:=zz c0;have q11:=c0.size;clear c0
        have f15:(xs 15)=.bool false:=b0 _ (m_ 15 rfl) (by kernel_rfl)
        have f16:(xs 16)=.pointer (some ⟨w.heap.size,2,none⟩):=b0 _ (m_ 16 rfl) (by kernel_rfl)
        clear b0
        refine wpOp_step (o:=?go186) ?a4 ?gh186
        case a4=>exact rfl
        intro K hK
        simp only[FL]
        go_simp
        refine hK _ _ ⟨.pointer (some ⟨w.heap.size,3,none⟩),by simp only[FL,f15,f16] <;> kernel_rfl,Below.refl _ _,rfl,nF⟩
       ·intro xs r11 c0 b0
        have Y0:=zz c0;have s11:=c0.size;clear c0
        have f15:(xs 15)=.bool false:=b0 _ (m_ 15 rfl) (by kernel_rfl)
        have f17:(xs 17)=.pointer (some ⟨w.heap.size,3,none⟩):=b0 _ (m_ 17 rfl) (by kernel_rfl)
        clear b0
        refine wpOp_step (o:=?go187) ?b4 ?gh187
        case b4=>exact rfl
        intro K hK
        simp only[FL]
        have Z0:=CB.step La Y0.out
        have c4:=Z0.cell 3 rfl
        go_simp
        refine hK _ _ ⟨.slice B k d,by simp only[FL,f15,f17] <;> kernel_rfl,Below.refl _ _,rfl,nF⟩
       ·intro xs t11 c0 b0
        have d4:=zz c0;have u11:=c0.size;clear c0
        have f15:(xs 15)=.bool false:=b0 _ (m_ 15 rfl) (by kernel_rfl)
        have f18:(xs 18)=.slice B k d:=b0 _ (m_ 18 rfl) (by kernel_rfl)
        clear b0
        refine wpOp_step (o:=?go190) ?e4 ?gh190
        case e4=>exact rfl
        intro K hK
        simp only[FL]
        go_simp
        refine hK _ _ ⟨.int .i64 (k:Int),by simp only[FL,f15,f18] <;> kernel_rfl,Below.refl _ _,rfl,nF⟩
       ·intro xs v11 c0 b0
        have g4:=zz c0;have w11:=c0.size;clear c0
        have f15:(xs 15)=.bool false:=b0 _ (m_ 15 rfl) (by kernel_rfl)
        have f19:(xs 19)=.int .i64 (k:Int):=b0 _ (m_ 19 rfl) (by kernel_rfl)
        clear b0
        refine wpOp_step (o:=?go191) ?i4 ?gh191
        case i4=>exact rfl
        intro K hK
        simp only[FL]
        go_simp
        refine hK _ _ ⟨.bool false,by simp only[FL,f15,f19] <;> kernel_rfl,Below.refl _ _,rfl,nF⟩
       ·intro xs y11 c0 b0
        have j4:=zz c0;have z11:=c0.size;clear c0
        have f15:(xs 15)=.bool false:=b0 _ (m_ 15 rfl) (by kernel_rfl)
        have f20:(xs 20)=.bool false:=b0 _ (m_ 20 rfl) (by kernel_rfl)
        clear b0
        refine wpOp_step (o:=_) rfl (fun K hK=>?_)
        simp only[FL]
        go_simp
        refine hK _ _ ⟨.bool false,by simp only[FL,f15,f20] <;> kernel_rfl,Below.refl _ _,rfl,nF⟩
       ·intro xs A11 c0 b0
        have k4:=zz c0;have B11:=c0.size;clear c0
        have f21:(xs 21)=.bool false:=b0 _ (m_ 21 rfl) (by kernel_rfl)
        clear b0
        refine wpOp_step (o:=_) rfl (fun K hK=>?_)
        simp only[FL]
        go_simp
        refine hK _ _ ⟨.bool false,by simp only[FL,f21] <;> kernel_rfl,Below.refl _ _,rfl,nF⟩
       ·intro xs C11 c0 b0
        have a1:=zz c0;have D11:=c0.size;clear c0
        have f22:(xs 22)=.bool false:=b0 _ (m_ 22 rfl) (by kernel_rfl)
        clear b0
        refine wpOp_step (o:=?go194) ?l4 ?gh194
        case l4=>exact rfl
        intro K hK
        simp only[FL]
        have e0:=CB.step La a1.out
        have m4:=e0.cell 0 rfl
        have n4:=e0.cell 1 rfl
        have o4:=e0.cell 2 rfl
        have p4:=e0.cell 3 rfl
        go_simp
        refine hK _ _ ⟨.agg #[.bool n,.slice A l c,.bool false,.slice B k d],by simp only[FL,f22] <;> kernel_rfl,Below.refl _ _,rfl,nF⟩
       ·intro xs E11 c0 b0
        have q4:=zz c0;have F11:=c0.size;clear c0
        have f22:(xs 22)=.bool false:=b0 _ (m_ 22 rfl) (by kernel_rfl)
        have f23:(xs 23)=.agg #[.bool n,.slice A l c,.bool false,.slice B k d]:=b0 _ (m_ 23 rfl) (by kernel_rfl)
        clear b0
        refine wpOp_step (o:=?go197) ?r4 ?gh197
        case r4=>exact rfl
        intro K hK
        simp only[FL]
        go_simp
        (with_reducible refine(Read_any _ n false A B l c k d).mono ?_)
        rintro e wc198 ⟨Q1,rfl⟩
        refine hK _ _ ⟨.agg #[.bool n,.slice A l c,.slice B k d],by simp only[FL,f22,f23] <;> kernel_rfl,Q1,rfl,nF⟩
       ·intro xs G11 c0 b0
        have s4:=zz c0;have H11:=c0.size;clear c0
        have f22:(xs 22)=.bool false:=b0 _ (m_ 22 rfl) (by kernel_rfl)
        have f24:(xs 24)=.agg #[.bool n,.slice A l c,.slice B k d]:=b0 _ (m_ 24 rfl) (by kernel_rfl)
        clear b0
        refine wpOp_step (o:=?go199) ?t4 ?gh199
        case t4=>exact rfl
        intro K hK
        simp only[FL]
        go_simp
        refine hK _ _ ⟨.agg #[.bool n,.slice A l c],by simp only[FL,f22,f24] <;> kernel_rfl,Below.refl _ _,rfl,nF⟩
       ·intro xs I11 c0 b0
        have u4:=zz c0;have J11:=c0.size;clear c0
        have f22:(xs 22)=.bool false:=b0 _ (m_ 22 rfl) (by kernel_rfl)
        have f25:(xs 25)=.agg #[.bool n,.slice A l c]:=b0 _ (m_ 25 rfl) (by kernel_rfl)
        clear b0
        refine wpOp_step (o:=?go200) ?v4 ?gh200
        case v4=>exact rfl
        intro K hK
        simp only[FL]
        go_simp
        refine hK _ _ ⟨.slice A l c,by simp only[FL,f22,f25] <;> kernel_rfl,Below.refl _ _,rfl,nF⟩
       ·intro xs K11 c0 b0
        have w4:=zz c0;have L11:=c0.size;clear c0
        have f22:(xs 22)=.bool false:=b0 _ (m_ 22 rfl) (by kernel_rfl)
        clear b0
        refine wpOp_step (o:=?go201) ?y4 ?gh201
        case y4=>exact rfl
        intro K hK
        simp only[FL]
        go_simp
        refine hK _ _ ⟨.pointer (some ⟨w.heap.size,2,none⟩),by simp only[FL,f22] <;> kernel_rfl,Below.refl _ _,rfl,nF⟩
       ·intro xs M11 c0 b0
        have z4:=zz c0;have N11:=c0.size;clear c0
        have f22:(xs 22)=.bool false:=b0 _ (m_ 22 rfl) (by kernel_rfl)
        have f27:(xs 27)=.pointer (some ⟨w.heap.size,2,none⟩):=b0 _ (m_ 27 rfl) (by kernel_rfl)
        clear b0
        refine wpOp_step (o:=?go202) ?A4 ?gh202
        case A4=>exact rfl
        intro K hK
        simp only[FL]
        go_simp
        refine hK _ _ ⟨.pointer (some ⟨w.heap.size,3,none⟩),by simp only[FL,f22,f27] <;> kernel_rfl,Below.refl _ _,rfl,nF⟩
       ·intro xs O11 c0 b0
        have b1:=zz c0;have P11:=c0.size;clear c0
        have f22:(xs 22)=.bool false:=b0 _ (m_ 22 rfl) (by kernel_rfl)
        have f28:(xs 28)=.pointer (some ⟨w.heap.size,3,none⟩):=b0 _ (m_ 28 rfl) (by kernel_rfl)
        clear b0
        refine wpOp_step (o:=?go203) ?B4 ?gh203
        case B4=>exact rfl
        intro K hK
        simp only[FL]
        have c1:=CB.step La b1.out
        have C4:=c1.cell 3 rfl
        go_simp
        refine hK _ _ ⟨.slice B k d,by simp only[FL,f22,f28] <;> kernel_rfl,Below.refl _ _,rfl,nF⟩
       ·intro xs Q11 c0 b0
        have n0:=zz c0;have R11:=c0.size;clear c0
        have f22:(xs 22)=.bool false:=b0 _ (m_ 22 rfl) (by kernel_rfl)
        have f26:(xs 26)=.slice A l c:=b0 _ (m_ 26 rfl) (by kernel_rfl)
        have f29:(xs 29)=.slice B k d:=b0 _ (m_ 29 rfl) (by kernel_rfl)
        clear b0
        refine wpOp_step (o:=?go206) ?D4 ?gh206
        case D4=>exact rfl
        intro K hK
        simp only[FL]
        go_simp
        have y0:=zz (RN.step HA1.out n0.out)
        have A0:=zz (RN.step c2.out n0.out)
        (with_reducible refine((show Calls Tryz.prog _ _ _ _ from HG.out▸Common_any _ _ _ x.natAbs y.natAbs y0.out A0.out (by have:=HL.out;omega) (by have:=HL.out;omega))).mono ?_)
        rintro e wc209 ⟨R1,v209,rfl,S1⟩
        refine hK _ _ ⟨v209,by simp only[FL,f22,f26,f29] <;> kernel_rfl,R1,S1,nF⟩
       ·intro xs S11 c0 b0
        have E4:=zz c0;have T11:=c0.size;clear c0
        have f22:(xs 22)=.bool false:=b0 _ (m_ 22 rfl) (by kernel_rfl)
        clear b0
        refine wpOp_step (o:=?go210) ?F4 ?gh210
        case F4=>exact rfl
        intro K hK
        simp only[FL]
        go_simp
        (with_reducible refine(one_any _).mono ?_)
        rintro e wc211 ⟨T1,v211,rfl,U1⟩
        refine hK _ _ ⟨v211,by simp only[FL,f22] <;> kernel_rfl,T1,U1,nF⟩
       ·intro xs h0 c0 b0
        have G4:=zz c0;have U11:=c0.size;clear c0
        have f22:(xs 22)=.bool false:=b0 _ (m_ 22 rfl) (by kernel_rfl)
        have f30:RN h0 h0.heap.size (xs 30) (dig g):=b0 _ (m_ 30 rfl) (by kernel_rfl)
        have f31:RN h0 h0.heap.size (xs 31) (dig 1):=b0 _ (m_ 31 rfl) (by kernel_rfl)
        clear b0
        refine wpOp_step (o:=?go212) ?H4 ?gh212
        case H4=>exact rfl
        intro K hK
        simp only[FL]
        go_simp
        (with_reducible refine(Cmp_any _ _ _ g 1 f30 f31).mono ?_)
        rintro e wc213 ⟨V1,c213,rfl,hc213⟩
        refine hK _ _ ⟨.int .i64 c213,by simp only[FL,f22] <;> kernel_rfl,V1,⟨c213,rfl,hc213⟩,nF⟩
       ·intro xs V11 c0 b0
        have I4:=zz c0;have W11:=c0.size;clear c0
        have f22:(xs 22)=.bool false:=b0 _ (m_ 22 rfl) (by kernel_rfl)
        have f32:∃ c:Int,(xs 32)=.int .i64 c∧SignOf c (g) (1):=b0 _ (m_ 32 rfl) (by kernel_rfl)
        clear b0
        refine wpOp_step (o:=?go214) ?J4 ?gh214
        case J4=>exact rfl
        intro K hK
        simp only[FL]
        obtain⟨c,hc,hs⟩:=f32;unfold SignOf at hs;have hq:(c != 0)=true:=by have h1:=HG1.out;rw[bne_iff_ne];omega
        rw[hc];clear hs
        go_simp
        refine hK _ _ ⟨.bool true,by simp only[FL,f22,hc] <;> kernel_rfl,Below.refl _ _,rfl,nF⟩
       ·intro xs X11 c0 b0
        have K4:=zz c0;have Y11:=c0.size;clear c0
        have f22:(xs 22)=.bool false:=b0 _ (m_ 22 rfl) (by kernel_rfl)
        have f33:(xs 33)=.bool true:=b0 _ (m_ 33 rfl) (by kernel_rfl)
        clear b0
        refine wpOp_step (o:=_) rfl (fun K hK=>?_)
        simp only[FL]
        go_simp
        refine hK _ _ ⟨.bool true,by simp only[FL,f22,f33] <;> kernel_rfl,Below.refl _ _,rfl,nF⟩
      ·exact all_nil
      ·intro xs wf216 hbf hf hn hd
       have f0:(xs 0)=.pointer (some ⟨w.heap.size,0,none⟩):=hf _ (m_ 0 rfl)
       have f1:(xs 1)=.agg #[.bool n,.slice A l c]:=hf _ (m_ 1 rfl)
       have f2:(xs 2)=.int .i64 0:=hf _ (m_ 2 rfl)
       have f3:(xs 3)=.bool false:=hf _ (m_ 3 rfl)
       have f4:(xs 4)=.bool false:=hf _ (m_ 4 rfl)
       have f5:(xs 5)=.pointer (some ⟨w.heap.size,2,none⟩):=hf _ (m_ 5 rfl)
       have f6:(xs 6)=.agg #[.bool false,.slice B k d]:=hf _ (m_ 6 rfl)
       have f7:(xs 7)=.int .i64 0:=hf _ (m_ 7 rfl)
       have f8:(xs 8)=.bool false:=hf _ (m_ 8 rfl)
       have f9:(xs 9)=.bool false:=hf _ (m_ 9 rfl)
       have f10:(xs 10)=.bool false:=hf _ (m_ 10 rfl)
       have f11:(xs 11)=.pointer (some ⟨w.heap.size,2,none⟩):=hf _ (m_ 11 rfl)
       have f12:(xs 12)=.pointer (some ⟨w.heap.size,2,none⟩):=hf _ (m_ 12 rfl)
       have f13:(xs 13)=.bool false:=hf _ (m_ 13 rfl)
       have f14:(xs 14)=.bool false:=hf _ (m_ 14 rfl)
       have f15:(xs 15)=.bool false:=hf _ (m_ 15 rfl)
       have f16:(xs 16)=.pointer (some ⟨w.heap.size,2,none⟩):=hf _ (m_ 16 rfl)
       have f17:(xs 17)=.pointer (some ⟨w.heap.size,3,none⟩):=hf _ (m_ 17 rfl)
       have f18:(xs 18)=.slice B k d:=hf _ (m_ 18 rfl)
       have f19:(xs 19)=.int .i64 (k:Int):=hf _ (m_ 19 rfl)
       have f20:(xs 20)=.bool false:=hf _ (m_ 20 rfl)
       have f21:(xs 21)=.bool false:=hf _ (m_ 21 rfl)
       have f22:(xs 22)=.bool false:=hf _ (m_ 22 rfl)
       have f23:(xs 23)=.agg #[.bool n,.slice A l c,.bool false,.slice B k d]:=hf _ (m_ 23 rfl)
       have f24:(xs 24)=.agg #[.bool n,.slice A l c,.slice B k d]:=hf _ (m_ 24 rfl)
       have f25:(xs 25)=.agg #[.bool n,.slice A l c]:=hf _ (m_ 25 rfl)
       have f26:(xs 26)=.slice A l c:=hf _ (m_ 26 rfl)
       have f27:(xs 27)=.pointer (some ⟨w.heap.size,2,none⟩):=hf _ (m_ 27 rfl)
       have f28:(xs 28)=.pointer (some ⟨w.heap.size,3,none⟩):=hf _ (m_ 28 rfl)
       have f29:(xs 29)=.slice B k d:=hf _ (m_ 29 rfl)
       have f30:RN wf216 wf216.heap.size (xs 30) (dig g):=hf _ (m_ 30 rfl)
       have f31:RN wf216 wf216.heap.size (xs 31) (dig 1):=hf _ (m_ 31 rfl)
       have f32:∃ c:Int,(xs 32)=.int .i64 c∧SignOf c (g) (1):=hf _ (m_ 32 rfl)
       have f33:(xs 33)=.bool true:=hf _ (m_ 33 rfl)
       have f34:(xs 34)=.bool true:=hf _ (m_ 34 rfl)
       clear hf hn hd
       simp only[FL]
       have B217:=zz hbf
       have z217:=B217.out.size
       have W1:=zz (B0.out.trans (B217.out.mono B0.out.size))
       clear hbf
       generalize xs 0=x0,xs 1=x1,xs 2=x2,xs 3=x3,xs 4=x4,xs 5=x5,xs 6=x6,xs 7=x7,xs 8=x8,xs 9=x9,xs 10=x10,xs 11=x11,xs 12=x12,xs 13=x13,xs 14=x14,xs 15=x15,xs 16=x16,xs 17=x17,xs 18=x18,xs 19=x19,xs 20=x20,xs 21=x21,xs 22=x22,xs 23=x23,xs 24=x24,xs 25=x25,xs 26=x26,xs 27=x27,xs 28=x28,xs 29=x29,xs 30=x30,xs 31=x31,xs 32=x32,xs 33=x33,xs 34=x34 at *
       obtain rfl:=f0
       obtain rfl:=f1
       obtain rfl:=f2
       obtain rfl:=f3
       obtain rfl:=f4
       obtain rfl:=f5
       obtain rfl:=f6
       obtain rfl:=f7
       obtain rfl:=f8
       obtain rfl:=f9
       obtain rfl:=f10
       obtain rfl:=f11
       obtain rfl:=f12
       obtain rfl:=f13
       obtain rfl:=f14
       obtain rfl:=f15
       obtain rfl:=f16
       obtain rfl:=f17
       obtain rfl:=f18
       obtain rfl:=f19
       obtain rfl:=f20
       obtain rfl:=f21
       obtain rfl:=f22
       obtain rfl:=f23
       obtain rfl:=f24
       obtain rfl:=f25
       obtain rfl:=f26
       obtain rfl:=f27
       obtain rfl:=f28
       obtain rfl:=f29
       clear f30
       clear f31
       clear f32
       obtain rfl:=f33
       obtain rfl:=f34
       refine Early.done (by kernel_rfl) ?_ _
       (try simp only[Exit.then])
       go_wp2
       go_ret
       exact⟨W1.out,by rw[HR.out,chkQ_none HNO.out];rfl⟩
  ·have HVB:=zz hvb;clear hvb
   go_enter Tryz.func45,Tryz.ntmps45
   go_upto_region 1 with (fail)
   rw[← hw0];clear hw0
   refine Flow.run [⟨0,3,fun fv fw=>fv=.pointer (some ⟨w.heap.size,0,none⟩)⟩,⟨1,4,fun fv fw=>fv=.agg #[.bool n,.slice A l c]⟩,⟨2,5,fun fv fw=>fv=.int .i64 0⟩,⟨3,6,fun fv fw=>fv=.bool false⟩,⟨4,7,fun fv fw=>fv=.bool false⟩,⟨5,8,fun fv fw=>fv=.pointer (some ⟨w.heap.size,2,none⟩)⟩,⟨6,9,fun fv fw=>fv=.agg #[.bool m,.slice B k d]⟩,⟨7,10,fun fv fw=>fv=.int .i64 30⟩,⟨8,11,fun fv fw=>fv=.bool true⟩,⟨9,12,fun fv fw=>fv=.bool true⟩,⟨10,13,fun fv fw=>fv=.bool true⟩,⟨11,14,fun fv fw=>True⟩,⟨12,15,fun fv fw=>True⟩,⟨13,16,fun fv fw=>True⟩,⟨14,17,fun fv fw=>fv=.bool true⟩,⟨15,18,fun fv fw=>fv=.bool true⟩,⟨16,19,fun fv fw=>True⟩,⟨17,20,fun fv fw=>True⟩,⟨18,21,fun fv fw=>True⟩,⟨19,22,fun fv fw=>True⟩,⟨20,23,fun fv fw=>True⟩,⟨21,24,fun fv fw=>fv=.bool true⟩,⟨22,25,fun fv fw=>fv=.bool true⟩,⟨23,26,fun fv fw=>True⟩,⟨24,27,fun fv fw=>True⟩,⟨25,28,fun fv fw=>True⟩,⟨26,29,fun fv fw=>True⟩,⟨27,30,fun fv fw=>True⟩,⟨28,31,fun fv fw=>True⟩,⟨29,32,fun fv fw=>True⟩,⟨30,33,fun fv fw=>True⟩,⟨31,34,fun fv fw=>True⟩,⟨32,35,fun fv fw=>True⟩,⟨33,36,fun fv fw=>True⟩,⟨34,37,fun fv fw=>fv=.bool true⟩] [] [] 0 (by kernel_rfl) (by kernel_rfl) (by kernel_rfl) (fun _ _ _ _ _ h=>h) ?_ ?_ ?_ ?_
   ·refine(a0 (a0 (a0 (a0 (a0 (a0 (a0 (a0 (a0 (a0 (a0 (a0 (a0 (a0 (a0 (a0 (a0 (a0 (a0 (a0 (a0 (a0 (a0 (a0 (a0 (a0 (a0 (a0 (a0 (a0 (a0 (a0 (a0 (a0 (a0 all_nil)))))))))))))))))))))))))))))))))))
   ·refine(all_cons ?_ (all_cons ?_ (all_cons ?_ (all_cons ?_ (all_cons ?_ (all_cons ?_ (all_cons ?_ (all_cons ?_ (all_cons ?_ (all_cons ?_ (all_cons ?_ (all_cons ?_ (all_cons ?_ (all_cons ?_ (all_cons ?_ (all_cons ?_ (all_cons ?_ (all_cons ?_ (all_cons ?_ (all_cons ?_ (all_cons ?_ (all_cons ?_ (all_cons ?_ (all_cons ?_ (all_cons ?_ (all_cons ?_ (all_cons ?_ (all_cons ?_ (all_cons ?_ (all_cons ?_ (all_cons ?_ (all_cons ?_ (all_cons ?_ (all_cons ?_ (all_cons ?_ all_nil)))))))))))))))))))))))))))))))))))
    ·intro xs Z11 c0 b0
     have L4:=zz c0;have a12:=c0.size;clear c0
     clear b0
     refine wpOp_step (o:=_) rfl (fun K hK=>?_)
     simp only[FL]
     go_simp
     refine hK _ _ ⟨.pointer (some ⟨w.heap.size,0,none⟩),by kernel_rfl,Below.refl _ _,rfl,nF⟩
    ·intro xs b12 c0 b0
     have d1:=zz c0;have c12:=c0.size;clear c0
     have f0:(xs 0)=.pointer (some ⟨w.heap.size,0,none⟩):=b0 _ (m_ 0 rfl) (by kernel_rfl)
     clear b0
     refine wpOp_step (o:=_) rfl (fun K hK=>?_)
     simp only[FL]
     have o0:=CB.step La d1.out
     have M4:=o0.cell 0 rfl
     have N4:=o0.cell 1 rfl
     go_simp
     refine hK _ _ ⟨.agg #[.bool n,.slice A l c],by simp only[FL,f0] <;> kernel_rfl,Below.refl _ _,rfl,nF⟩
    ·intro xs d12 c0 b0
     have e1:=zz c0;have e12:=c0.size;clear c0
     have f1:(xs 1)=.agg #[.bool n,.slice A l c]:=b0 _ (m_ 1 rfl) (by kernel_rfl)
     clear b0
     refine wpOp_step (o:=_) rfl (fun K hK=>?_)
     simp only[FL]
     go_simp
     have g1:=zz (LR.step HA.out e1.out)
     (with_reducible refine(Check_good g1.out HVA.out).mono ?_)
     rintro e wc225 ⟨X1,rfl⟩
     refine hK _ _ ⟨.int .i64 0,by simp only[FL,f1] <;> kernel_rfl,X1,rfl,nF⟩
    ·intro xs g12 c0 b0
     have O4:=zz c0;have h12:=c0.size;clear c0
     have f2:(xs 2)=.int .i64 0:=b0 _ (m_ 2 rfl) (by kernel_rfl)
     clear b0
     refine wpOp_step (o:=_) rfl (fun K hK=>?_)
     simp only[FL]
     go_simp
     refine hK _ _ ⟨.bool false,by simp only[FL,f2] <;> kernel_rfl,Below.refl _ _,rfl,nF⟩
    ·intro xs i12 c0 b0
     have P4:=zz c0;have j12:=c0.size;clear c0
     have f3:(xs 3)=.bool false:=b0 _ (m_ 3 rfl) (by kernel_rfl)
     clear b0
     refine wpOp_step (o:=_) rfl (fun K hK=>?_)
     simp only[FL]
     go_simp
     refine hK _ _ ⟨.bool false,by simp only[FL,f3] <;> kernel_rfl,Below.refl _ _,rfl,nF⟩
    ·intro xs k12 c0 b0
     have Q4:=zz c0;have l12:=c0.size;clear c0
     have f4:(xs 4)=.bool false:=b0 _ (m_ 4 rfl) (by kernel_rfl)
     clear b0
     refine wpOp_step (o:=?go228) ?R4 ?gh228
     case R4=>exact rfl
     intro K hK
     simp only[FL]
     go_simp
     refine hK _ _ ⟨.pointer (some ⟨w.heap.size,2,none⟩),by simp only[FL,f4] <;> kernel_rfl,Below.refl _ _,rfl,nF⟩
    ·intro xs m12 c0 b0
     have i1:=zz c0;have n12:=c0.size;clear c0
     have f4:(xs 4)=.bool false:=b0 _ (m_ 4 rfl) (by kernel_rfl)
     have f5:(xs 5)=.pointer (some ⟨w.heap.size,2,none⟩):=b0 _ (m_ 5 rfl) (by kernel_rfl)
     clear b0
     refine wpOp_step (o:=?go229) ?S4 ?gh229
     case S4=>exact rfl
     intro K hK
     simp only[FL]
     have p0:=CB.step La i1.out
     have T4:=p0.cell 2 rfl
     have U4:=p0.cell 3 rfl
     go_simp
     refine hK _ _ ⟨.agg #[.bool m,.slice B k d],by simp only[FL,f4,f5] <;> kernel_rfl,Below.refl _ _,rfl,nF⟩
    ·intro xs o12 c0 b0
     have j1:=zz c0;have p12:=c0.size;clear c0
     have f4:(xs 4)=.bool false:=b0 _ (m_ 4 rfl) (by kernel_rfl)
     have f6:(xs 6)=.agg #[.bool m,.slice B k d]:=b0 _ (m_ 6 rfl) (by kernel_rfl)
     clear b0
     refine wpOp_step (o:=?go232) ?V4 ?gh232
     case V4=>exact rfl
     intro K hK
     simp only[FL]
     go_simp
     have k1:=zz (LR.step HB.out j1.out)
     (with_reducible refine(Check_bad k1.out HVB.out).mono ?_)
     rintro e wc234 ⟨Y1,rfl⟩
     refine hK _ _ ⟨.int .i64 30,by simp only[FL,f4,f6] <;> kernel_rfl,Y1,rfl,nF⟩
    ·intro xs q12 c0 b0
     have W4:=zz c0;have r12:=c0.size;clear c0
     have f4:(xs 4)=.bool false:=b0 _ (m_ 4 rfl) (by kernel_rfl)
     have f7:(xs 7)=.int .i64 30:=b0 _ (m_ 7 rfl) (by kernel_rfl)
     clear b0
     refine wpOp_step (o:=?go235) ?X4 ?gh235
     case X4=>exact rfl
     intro K hK
     simp only[FL]
     go_simp
     refine hK _ _ ⟨.bool true,by simp only[FL,f4,f7] <;> kernel_rfl,Below.refl _ _,rfl,nF⟩
    ·intro xs s12 c0 b0
     have Y4:=zz c0;have t12:=c0.size;clear c0
     have f4:(xs 4)=.bool false:=b0 _ (m_ 4 rfl) (by kernel_rfl)
     have f8:(xs 8)=.bool true:=b0 _ (m_ 8 rfl) (by kernel_rfl)
     clear b0
     refine wpOp_step (o:=_) rfl (fun K hK=>?_)
     simp only[FL]
     go_simp
     refine hK _ _ ⟨.bool true,by simp only[FL,f4,f8] <;> kernel_rfl,Below.refl _ _,rfl,nF⟩
    ·intro xs u12 c0 b0
     have Z4:=zz c0;have v12:=c0.size;clear c0
     have f9:(xs 9)=.bool true:=b0 _ (m_ 9 rfl) (by kernel_rfl)
     clear b0
     refine wpOp_step (o:=_) rfl (fun K hK=>?_)
     simp only[FL]
     go_simp
     refine hK _ _ ⟨.bool true,by simp only[FL,f9] <;> kernel_rfl,Below.refl _ _,rfl,nF⟩
    ·intro xs w12 c0 b0
     have a5:=zz c0;have y12:=c0.size;clear c0
     have f10:(xs 10)=.bool true:=b0 _ (m_ 10 rfl) (by kernel_rfl)
     clear b0
     refine wpOp_step (o:=?go238) ?b5 ?gh238
     case b5=>exact rfl
     intro K hK
     simp only[FL]
     go_simp
     refine hK _ _ ⟨undef,by simp only[FL,f10] <;> kernel_rfl,Below.refl _ _,trivial,nF⟩
    ·intro xs z12 c0 b0
     have c5:=zz c0;have A12:=c0.size;clear c0
     have f10:(xs 10)=.bool true:=b0 _ (m_ 10 rfl) (by kernel_rfl)
     clear b0
     refine wpOp_step (o:=?go239) ?d5 ?gh239
     case d5=>exact rfl
     intro K hK
     simp only[FL]
     go_simp
     refine hK _ _ ⟨undef,by simp only[FL,f10] <;> kernel_rfl,Below.refl _ _,trivial,nF⟩
    ·intro xs B12 c0 b0
     have e5:=zz c0;have C12:=c0.size;clear c0
     have f10:(xs 10)=.bool true:=b0 _ (m_ 10 rfl) (by kernel_rfl)
     clear b0
     refine wpOp_step (o:=?go240) ?g5 ?gh240
     case g5=>exact rfl
     intro K hK
     simp only[FL]
     go_simp
     refine hK _ _ ⟨undef,by simp only[FL,f10] <;> kernel_rfl,Below.refl _ _,trivial,nF⟩
    ·intro xs D12 c0 b0
     have h5:=zz c0;have E12:=c0.size;clear c0
     have f10:(xs 10)=.bool true:=b0 _ (m_ 10 rfl) (by kernel_rfl)
     clear b0
     refine wpOp_step (o:=_) rfl (fun K hK=>?_)
     simp only[FL]
     go_simp
     refine hK _ _ ⟨.bool true,by simp only[FL,f10] <;> kernel_rfl,Below.refl _ _,rfl,nF⟩
    ·intro xs F12 c0 b0
     have i5:=zz c0;have G12:=c0.size;clear c0
     have f14:(xs 14)=.bool true:=b0 _ (m_ 14 rfl) (by kernel_rfl)
     clear b0
     refine wpOp_step (o:=_) rfl (fun K hK=>?_)
     simp only[FL]
     go_simp
     refine hK _ _ ⟨.bool true,by simp only[FL,f14] <;> kernel_rfl,Below.refl _ _,rfl,nF⟩
    ·intro xs H12 c0 b0
     have j5:=zz c0;have I12:=c0.size;clear c0
     have f15:(xs 15)=.bool true:=b0 _ (m_ 15 rfl) (by kernel_rfl)
     clear b0
     refine wpOp_step (o:=?go243) ?k5 ?gh243
     case k5=>exact rfl
     intro K hK
     simp only[FL]
     go_simp
     refine hK _ _ ⟨undef,by simp only[FL,f15] <;> kernel_rfl,Below.refl _ _,trivial,nF⟩
    ·intro xs J12 c0 b0
     have l5:=zz c0;have K12:=c0.size;clear c0
     have f15:(xs 15)=.bool true:=b0 _ (m_ 15 rfl) (by kernel_rfl)
     clear b0
     refine wpOp_step (o:=?go244) ?m5 ?gh244
     case m5=>exact rfl
     intro K hK
     simp only[FL]
     go_simp
     refine hK _ _ ⟨undef,by simp only[FL,f15] <;> kernel_rfl,Below.refl _ _,trivial,nF⟩
    ·intro xs L12 c0 b0
     have n5:=zz c0;have M12:=c0.size;clear c0
     have f15:(xs 15)=.bool true:=b0 _ (m_ 15 rfl) (by kernel_rfl)
     clear b0
     refine wpOp_step (o:=?go245) ?o5 ?gh245
     case o5=>exact rfl
     intro K hK
     simp only[FL]
     go_simp
     refine hK _ _ ⟨undef,by simp only[FL,f15] <;> kernel_rfl,Below.refl _ _,trivial,nF⟩
    ·intro xs N12 c0 b0
     have p5:=zz c0;have O12:=c0.size;clear c0
     have f15:(xs 15)=.bool true:=b0 _ (m_ 15 rfl) (by kernel_rfl)
     clear b0
     refine wpOp_step (o:=?go246) ?q5 ?gh246
     case q5=>exact rfl
     intro K hK
     simp only[FL]
     go_simp
     refine hK _ _ ⟨undef,by simp only[FL,f15] <;> kernel_rfl,Below.refl _ _,trivial,nF⟩
    ·intro xs P12 c0 b0
     have r5:=zz c0;have Q12:=c0.size;clear c0
     have f15:(xs 15)=.bool true:=b0 _ (m_ 15 rfl) (by kernel_rfl)
     clear b0
     refine wpOp_step (o:=?go247) ?s5 ?gh247
     case s5=>exact rfl
     intro K hK
     simp only[FL]
     go_simp
     refine hK _ _ ⟨undef,by simp only[FL,f15] <;> kernel_rfl,Below.refl _ _,trivial,nF⟩
    ·intro xs R12 c0 b0
     have t5:=zz c0;have S12:=c0.size;clear c0
     have f15:(xs 15)=.bool true:=b0 _ (m_ 15 rfl) (by kernel_rfl)
     clear b0
     refine wpOp_step (o:=_) rfl (fun K hK=>?_)
     simp only[FL]
     go_simp
     refine hK _ _ ⟨.bool true,by simp only[FL,f15] <;> kernel_rfl,Below.refl _ _,rfl,nF⟩
    ·intro xs T12 c0 b0
     have u5:=zz c0;have U12:=c0.size;clear c0
     have f21:(xs 21)=.bool true:=b0 _ (m_ 21 rfl) (by kernel_rfl)
     clear b0
     refine wpOp_step (o:=_) rfl (fun K hK=>?_)
     simp only[FL]
     go_simp
     refine hK _ _ ⟨.bool true,by simp only[FL,f21] <;> kernel_rfl,Below.refl _ _,rfl,nF⟩
    ·intro xs V12 c0 b0
     have v5:=zz c0;have W12:=c0.size;clear c0
     have f22:(xs 22)=.bool true:=b0 _ (m_ 22 rfl) (by kernel_rfl)
     clear b0
     refine wpOp_step (o:=?go250) ?w5 ?gh250
     case w5=>exact rfl
     intro K hK
     simp only[FL]
     go_simp
     refine hK _ _ ⟨undef,by simp only[FL,f22] <;> kernel_rfl,Below.refl _ _,trivial,nF⟩
    ·intro xs X12 c0 b0
     have y5:=zz c0;have Y12:=c0.size;clear c0
     have f22:(xs 22)=.bool true:=b0 _ (m_ 22 rfl) (by kernel_rfl)
     clear b0
     refine wpOp_step (o:=?go251) ?z5 ?gh251
     case z5=>exact rfl
     intro K hK
     simp only[FL]
     go_simp
     refine hK _ _ ⟨undef,by simp only[FL,f22] <;> kernel_rfl,Below.refl _ _,trivial,nF⟩
    ·intro xs Z12 c0 b0
     have A5:=zz c0;have a13:=c0.size;clear c0
     have f22:(xs 22)=.bool true:=b0 _ (m_ 22 rfl) (by kernel_rfl)
     clear b0
     refine wpOp_step (o:=?go252) ?B5 ?gh252
     case B5=>exact rfl
     intro K hK
     simp only[FL]
     go_simp
     refine hK _ _ ⟨undef,by simp only[FL,f22] <;> kernel_rfl,Below.refl _ _,trivial,nF⟩
    ·intro xs b13 c0 b0
     have C5:=zz c0;have c13:=c0.size;clear c0
     have f22:(xs 22)=.bool true:=b0 _ (m_ 22 rfl) (by kernel_rfl)
     clear b0
     refine wpOp_step (o:=?go253) ?D5 ?gh253
     case D5=>exact rfl
     intro K hK
     simp only[FL]
     go_simp
     refine hK _ _ ⟨undef,by simp only[FL,f22] <;> kernel_rfl,Below.refl _ _,trivial,nF⟩
    ·intro xs d13 c0 b0
     have E5:=zz c0;have e13:=c0.size;clear c0
     have f22:(xs 22)=.bool true:=b0 _ (m_ 22 rfl) (by kernel_rfl)
     clear b0
     refine wpOp_step (o:=?go254) ?F5 ?gh254
     case F5=>exact rfl
     intro K hK
     simp only[FL]
     go_simp
     refine hK _ _ ⟨undef,by simp only[FL,f22] <;> kernel_rfl,Below.refl _ _,trivial,nF⟩
    ·intro xs g13 c0 b0
     have G5:=zz c0;have h13:=c0.size;clear c0
     have f22:(xs 22)=.bool true:=b0 _ (m_ 22 rfl) (by kernel_rfl)
     clear b0
     refine wpOp_step (o:=?go255) ?H5 ?gh255
     case H5=>exact rfl
     intro K hK
     simp only[FL]
     go_simp
     refine hK _ _ ⟨undef,by simp only[FL,f22] <;> kernel_rfl,Below.refl _ _,trivial,nF⟩
    ·intro xs i13 c0 b0
     have I5:=zz c0;have j13:=c0.size;clear c0
     have f22:(xs 22)=.bool true:=b0 _ (m_ 22 rfl) (by kernel_rfl)
     clear b0
     refine wpOp_step (o:=?go256) ?J5 ?gh256
     case J5=>exact rfl
     intro K hK
     simp only[FL]
     go_simp
     refine hK _ _ ⟨undef,by simp only[FL,f22] <;> kernel_rfl,Below.refl _ _,trivial,nF⟩
    ·intro xs k13 c0 b0
     have K5:=zz c0;have l13:=c0.size;clear c0
     have f22:(xs 22)=.bool true:=b0 _ (m_ 22 rfl) (by kernel_rfl)
     clear b0
     refine wpOp_step (o:=?go257) ?L5 ?gh257
     case L5=>exact rfl
     intro K hK
     simp only[FL]
     go_simp
     refine hK _ _ ⟨undef,by simp only[FL,f22] <;> kernel_rfl,Below.refl _ _,trivial,nF⟩
    ·intro xs m13 c0 b0
     have M5:=zz c0;have n13:=c0.size;clear c0
     have f22:(xs 22)=.bool true:=b0 _ (m_ 22 rfl) (by kernel_rfl)
     clear b0
     refine wpOp_step (o:=?go258) ?N5 ?gh258
     case N5=>exact rfl
     intro K hK
     simp only[FL]
     go_simp
     refine hK _ _ ⟨undef,by simp only[FL,f22] <;> kernel_rfl,Below.refl _ _,trivial,nF⟩
    ·intro xs o13 c0 b0
     have O5:=zz c0;have p13:=c0.size;clear c0
     have f22:(xs 22)=.bool true:=b0 _ (m_ 22 rfl) (by kernel_rfl)
     clear b0
     refine wpOp_step (o:=?go259) ?P5 ?gh259
     case P5=>exact rfl
     intro K hK
     simp only[FL]
     go_simp
     refine hK _ _ ⟨undef,by simp only[FL,f22] <;> kernel_rfl,Below.refl _ _,trivial,nF⟩
    ·intro xs q13 c0 b0
     have Q5:=zz c0;have r13:=c0.size;clear c0
     have f22:(xs 22)=.bool true:=b0 _ (m_ 22 rfl) (by kernel_rfl)
     clear b0
     refine wpOp_step (o:=?go260) ?R5 ?gh260
     case R5=>exact rfl
     intro K hK
     simp only[FL]
     go_simp
     refine hK _ _ ⟨undef,by simp only[FL,f22] <;> kernel_rfl,Below.refl _ _,trivial,nF⟩
    ·intro xs s13 c0 b0
     have S5:=zz c0;have t13:=c0.size;clear c0
     have f22:(xs 22)=.bool true:=b0 _ (m_ 22 rfl) (by kernel_rfl)
     clear b0
     refine wpOp_step (o:=_) rfl (fun K hK=>?_)
     simp only[FL]
     go_simp
     refine hK _ _ ⟨.bool true,by simp only[FL,f22] <;> kernel_rfl,Below.refl _ _,rfl,nF⟩
   ·exact all_nil
   ·intro xs wf262 hbf hf hn hd
    have f0:(xs 0)=.pointer (some ⟨w.heap.size,0,none⟩):=hf _ (m_ 0 rfl)
    have f1:(xs 1)=.agg #[.bool n,.slice A l c]:=hf _ (m_ 1 rfl)
    have f2:(xs 2)=.int .i64 0:=hf _ (m_ 2 rfl)
    have f3:(xs 3)=.bool false:=hf _ (m_ 3 rfl)
    have f4:(xs 4)=.bool false:=hf _ (m_ 4 rfl)
    have f5:(xs 5)=.pointer (some ⟨w.heap.size,2,none⟩):=hf _ (m_ 5 rfl)
    have f6:(xs 6)=.agg #[.bool m,.slice B k d]:=hf _ (m_ 6 rfl)
    have f7:(xs 7)=.int .i64 30:=hf _ (m_ 7 rfl)
    have f8:(xs 8)=.bool true:=hf _ (m_ 8 rfl)
    have f9:(xs 9)=.bool true:=hf _ (m_ 9 rfl)
    have f10:(xs 10)=.bool true:=hf _ (m_ 10 rfl)
    have f11:True:=hf _ (m_ 11 rfl)
    have f12:True:=hf _ (m_ 12 rfl)
    have f13:True:=hf _ (m_ 13 rfl)
    have f14:(xs 14)=.bool true:=hf _ (m_ 14 rfl)
    have f15:(xs 15)=.bool true:=hf _ (m_ 15 rfl)
    have f16:True:=hf _ (m_ 16 rfl)
    have f17:True:=hf _ (m_ 17 rfl)
    have f18:True:=hf _ (m_ 18 rfl)
    have f19:True:=hf _ (m_ 19 rfl)
    have f20:True:=hf _ (m_ 20 rfl)
    have f21:(xs 21)=.bool true:=hf _ (m_ 21 rfl)
    have f22:(xs 22)=.bool true:=hf _ (m_ 22 rfl)
    have f23:True:=hf _ (m_ 23 rfl)
    have f24:True:=hf _ (m_ 24 rfl)
    have f25:True:=hf _ (m_ 25 rfl)
    have f26:True:=hf _ (m_ 26 rfl)
    have f27:True:=hf _ (m_ 27 rfl)
    have f28:True:=hf _ (m_ 28 rfl)
    have f29:True:=hf _ (m_ 29 rfl)
    have f30:True:=hf _ (m_ 30 rfl)
    have f31:True:=hf _ (m_ 31 rfl)
    have f32:True:=hf _ (m_ 32 rfl)
    have f33:True:=hf _ (m_ 33 rfl)
    have f34:(xs 34)=.bool true:=hf _ (m_ 34 rfl)
    clear hf hn hd
    simp only[FL]
    have B263:=zz hbf
    have z263:=B263.out.size
    have Z1:=zz (B0.out.trans (B263.out.mono B0.out.size))
    clear hbf
    generalize xs 0=x0,xs 1=x1,xs 2=x2,xs 3=x3,xs 4=x4,xs 5=x5,xs 6=x6,xs 7=x7,xs 8=x8,xs 9=x9,xs 10=x10,xs 11=x11,xs 12=x12,xs 13=x13,xs 14=x14,xs 15=x15,xs 16=x16,xs 17=x17,xs 18=x18,xs 19=x19,xs 20=x20,xs 21=x21,xs 22=x22,xs 23=x23,xs 24=x24,xs 25=x25,xs 26=x26,xs 27=x27,xs 28=x28,xs 29=x29,xs 30=x30,xs 31=x31,xs 32=x32,xs 33=x33,xs 34=x34 at *
    obtain rfl:=f0
    obtain rfl:=f1
    obtain rfl:=f2
    obtain rfl:=f3
    obtain rfl:=f4
    obtain rfl:=f5
    obtain rfl:=f6
    obtain rfl:=f7
    obtain rfl:=f8
    obtain rfl:=f9
    obtain rfl:=f10
    clear f11
    clear f12
    clear f13
    obtain rfl:=f14
    obtain rfl:=f15
    clear f16
    clear f17
    clear f18
    clear f19
    clear f20
    obtain rfl:=f21
    obtain rfl:=f22
    clear f23
    clear f24
    clear f25
    clear f26
    clear f27
    clear f28
    clear f29
    clear f30
    clear f31
    clear f32
    clear f33
    obtain rfl:=f34
    refine Early.done (by kernel_rfl) ?_ _
    (try simp only[Exit.then])
    go_wp2
    go_ret
    exact⟨Z1.out,by rw[HR.out,chkQ_none (qOf_none2 HVB.out)];rfl⟩
 ·have HVA:=zz hva;clear hva
  go_enter Tryz.func45,Tryz.ntmps45
  go_upto_region 1 with (fail)
  rw[← hw0];clear hw0
  refine Flow.run [⟨0,3,fun fv fw=>fv=.pointer (some ⟨w.heap.size,0,none⟩)⟩,⟨1,4,fun fv fw=>fv=.agg #[.bool n,.slice A l c]⟩,⟨2,5,fun fv fw=>fv=.int .i64 30⟩,⟨3,6,fun fv fw=>fv=.bool true⟩,⟨4,7,fun fv fw=>fv=.bool true⟩,⟨5,8,fun fv fw=>True⟩,⟨6,9,fun fv fw=>True⟩,⟨7,10,fun fv fw=>True⟩,⟨8,11,fun fv fw=>True⟩,⟨9,12,fun fv fw=>fv=.bool true⟩,⟨10,13,fun fv fw=>fv=.bool true⟩,⟨11,14,fun fv fw=>True⟩,⟨12,15,fun fv fw=>True⟩,⟨13,16,fun fv fw=>True⟩,⟨14,17,fun fv fw=>fv=.bool true⟩,⟨15,18,fun fv fw=>fv=.bool true⟩,⟨16,19,fun fv fw=>True⟩,⟨17,20,fun fv fw=>True⟩,⟨18,21,fun fv fw=>True⟩,⟨19,22,fun fv fw=>True⟩,⟨20,23,fun fv fw=>True⟩,⟨21,24,fun fv fw=>fv=.bool true⟩,⟨22,25,fun fv fw=>fv=.bool true⟩,⟨23,26,fun fv fw=>True⟩,⟨24,27,fun fv fw=>True⟩,⟨25,28,fun fv fw=>True⟩,⟨26,29,fun fv fw=>True⟩,⟨27,30,fun fv fw=>True⟩,⟨28,31,fun fv fw=>True⟩,⟨29,32,fun fv fw=>True⟩,⟨30,33,fun fv fw=>True⟩,⟨31,34,fun fv fw=>True⟩,⟨32,35,fun fv fw=>True⟩,⟨33,36,fun fv fw=>True⟩,⟨34,37,fun fv fw=>fv=.bool true⟩] [] [] 0 (by kernel_rfl) (by kernel_rfl) (by kernel_rfl) (fun _ _ _ _ _ h=>h) ?_ ?_ ?_ ?_
  ·refine(a0 (a0 (a0 (a0 (a0 (a0 (a0 (a0 (a0 (a0 (a0 (a0 (a0 (a0 (a0 (a0 (a0 (a0 (a0 (a0 (a0 (a0 (a0 (a0 (a0 (a0 (a0 (a0 (a0 (a0 (a0 (a0 (a0 (a0 (a0 all_nil)))))))))))))))))))))))))))))))))))
  ·refine(all_cons ?_ (all_cons ?_ (all_cons ?_ (all_cons ?_ (all_cons ?_ (all_cons ?_ (all_cons ?_ (all_cons ?_ (all_cons ?_ (all_cons ?_ (all_cons ?_ (all_cons ?_ (all_cons ?_ (all_cons ?_ (all_cons ?_ (all_cons ?_ (all_cons ?_ (all_cons ?_ (all_cons ?_ (all_cons ?_ (all_cons ?_ (all_cons ?_ (all_cons ?_ (all_cons ?_ (all_cons ?_ (all_cons ?_ (all_cons ?_ (all_cons ?_ (all_cons ?_ (all_cons ?_ (all_cons ?_ (all_cons ?_ (all_cons ?_ (all_cons ?_ (all_cons ?_ all_nil)))))))))))))))))))))))))))))))))))
   ·intro xs u13 c0 b0
    have T5:=zz c0;have v13:=c0.size;clear c0
    clear b0
    refine wpOp_step (o:=_) rfl (fun K hK=>?_)
    simp only[FL]
    go_simp
    refine hK _ _ ⟨.pointer (some ⟨w.heap.size,0,none⟩),by kernel_rfl,Below.refl _ _,rfl,nF⟩
   ·intro xs w13 c0 b0
    have l1:=zz c0;have y13:=c0.size;clear c0
    have f0:(xs 0)=.pointer (some ⟨w.heap.size,0,none⟩):=b0 _ (m_ 0 rfl) (by kernel_rfl)
    clear b0
    refine wpOp_step (o:=_) rfl (fun K hK=>?_)
    simp only[FL]
    have q0:=CB.step La l1.out
    have U5:=q0.cell 0 rfl
    have V5:=q0.cell 1 rfl
    go_simp
    refine hK _ _ ⟨.agg #[.bool n,.slice A l c],by simp only[FL,f0] <;> kernel_rfl,Below.refl _ _,rfl,nF⟩
   ·intro xs z13 c0 b0
    have m1:=zz c0;have A13:=c0.size;clear c0
    have f1:(xs 1)=.agg #[.bool n,.slice A l c]:=b0 _ (m_ 1 rfl) (by kernel_rfl)
    clear b0
    refine wpOp_step (o:=_) rfl (fun K hK=>?_)
    simp only[FL]
    go_simp
    have n1:=zz (LR.step HA.out m1.out)
    (with_reducible refine(Check_bad n1.out HVA.out).mono ?_)
    rintro e wc271 ⟨a2,rfl⟩
    refine hK _ _ ⟨.int .i64 30,by simp only[FL,f1] <;> kernel_rfl,a2,rfl,nF⟩
   ·intro xs B13 c0 b0
    have W5:=zz c0;have C13:=c0.size;clear c0
    have f2:(xs 2)=.int .i64 30:=b0 _ (m_ 2 rfl) (by kernel_rfl)
    clear b0
    refine wpOp_step (o:=_) rfl (fun K hK=>?_)
    simp only[FL]
    go_simp
    refine hK _ _ ⟨.bool true,by simp only[FL,f2] <;> kernel_rfl,Below.refl _ _,rfl,nF⟩
   ·intro xs D13 c0 b0
    have X5:=zz c0;have E13:=c0.size;clear c0
    have f3:(xs 3)=.bool true:=b0 _ (m_ 3 rfl) (by kernel_rfl)
    clear b0
    refine wpOp_step (o:=_) rfl (fun K hK=>?_)
    simp only[FL]
    go_simp
    refine hK _ _ ⟨.bool true,by simp only[FL,f3] <;> kernel_rfl,Below.refl _ _,rfl,nF⟩
   ·intro xs F13 c0 b0
    have Y5:=zz c0;have G13:=c0.size;clear c0
    have f4:(xs 4)=.bool true:=b0 _ (m_ 4 rfl) (by kernel_rfl)
    clear b0
    refine wpOp_step (o:=?go274) ?Z5 ?gh274
    case Z5=>exact rfl
    intro K hK
    simp only[FL]
    go_simp
    refine hK _ _ ⟨undef,by simp only[FL,f4] <;> kernel_rfl,Below.refl _ _,trivial,nF⟩
   ·intro xs H13 c0 b0
    have a6:=zz c0;have I13:=c0.size;clear c0
    have f4:(xs 4)=.bool true:=b0 _ (m_ 4 rfl) (by kernel_rfl)
    clear b0
    refine wpOp_step (o:=?go275) ?b6 ?gh275
    case b6=>exact rfl
    intro K hK
    simp only[FL]
    go_simp
    refine hK _ _ ⟨undef,by simp only[FL,f4] <;> kernel_rfl,Below.refl _ _,trivial,nF⟩
   ·intro xs J13 c0 b0
    have c6:=zz c0;have K13:=c0.size;clear c0
    have f4:(xs 4)=.bool true:=b0 _ (m_ 4 rfl) (by kernel_rfl)
    clear b0
    refine wpOp_step (o:=?go276) ?d6 ?gh276
    case d6=>exact rfl
    intro K hK
    simp only[FL]
    go_simp
    refine hK _ _ ⟨undef,by simp only[FL,f4] <;> kernel_rfl,Below.refl _ _,trivial,nF⟩
   ·intro xs L13 c0 b0
    have e6:=zz c0;have M13:=c0.size;clear c0
    have f4:(xs 4)=.bool true:=b0 _ (m_ 4 rfl) (by kernel_rfl)
    clear b0
    refine wpOp_step (o:=?go277) ?g6 ?gh277
    case g6=>exact rfl
    intro K hK
    simp only[FL]
    go_simp
    refine hK _ _ ⟨undef,by simp only[FL,f4] <;> kernel_rfl,Below.refl _ _,trivial,nF⟩
   ·intro xs N13 c0 b0
    have h6:=zz c0;have O13:=c0.size;clear c0
    have f4:(xs 4)=.bool true:=b0 _ (m_ 4 rfl) (by kernel_rfl)
    clear b0
    refine wpOp_step (o:=_) rfl (fun K hK=>?_)
    simp only[FL]
    go_simp
    refine hK _ _ ⟨.bool true,by simp only[FL,f4] <;> kernel_rfl,Below.refl _ _,rfl,nF⟩
   ·intro xs P13 c0 b0
    have i6:=zz c0;have Q13:=c0.size;clear c0
    have f9:(xs 9)=.bool true:=b0 _ (m_ 9 rfl) (by kernel_rfl)
    clear b0
    refine wpOp_step (o:=_) rfl (fun K hK=>?_)
    simp only[FL]
    go_simp
    refine hK _ _ ⟨.bool true,by simp only[FL,f9] <;> kernel_rfl,Below.refl _ _,rfl,nF⟩
   ·intro xs R13 c0 b0
    have j6:=zz c0;have S13:=c0.size;clear c0
    have f10:(xs 10)=.bool true:=b0 _ (m_ 10 rfl) (by kernel_rfl)
    clear b0
    refine wpOp_step (o:=?go280) ?k6 ?gh280
    case k6=>exact rfl
    intro K hK
    simp only[FL]
    go_simp
    refine hK _ _ ⟨undef,by simp only[FL,f10] <;> kernel_rfl,Below.refl _ _,trivial,nF⟩
   ·intro xs T13 c0 b0
    have l6:=zz c0;have U13:=c0.size;clear c0
    have f10:(xs 10)=.bool true:=b0 _ (m_ 10 rfl) (by kernel_rfl)
    clear b0
    refine wpOp_step (o:=?go281) ?m6 ?gh281
    case m6=>exact rfl
    intro K hK
    simp only[FL]
    go_simp
    refine hK _ _ ⟨undef,by simp only[FL,f10] <;> kernel_rfl,Below.refl _ _,trivial,nF⟩
   ·intro xs V13 c0 b0
    have n6:=zz c0;have W13:=c0.size;clear c0
    have f10:(xs 10)=.bool true:=b0 _ (m_ 10 rfl) (by kernel_rfl)
    clear b0
    refine wpOp_step (o:=?go282) ?o6 ?gh282
    case o6=>exact rfl
    intro K hK
    simp only[FL]
    go_simp
    refine hK _ _ ⟨undef,by simp only[FL,f10] <;> kernel_rfl,Below.refl _ _,trivial,nF⟩
   ·intro xs X13 c0 b0
    have p6:=zz c0;have Y13:=c0.size;clear c0
    have f10:(xs 10)=.bool true:=b0 _ (m_ 10 rfl) (by kernel_rfl)
    clear b0
    refine wpOp_step (o:=_) rfl (fun K hK=>?_)
    simp only[FL]
    go_simp
    refine hK _ _ ⟨.bool true,by simp only[FL,f10] <;> kernel_rfl,Below.refl _ _,rfl,nF⟩
   ·intro xs Z13 c0 b0
    have q6:=zz c0;have a14:=c0.size;clear c0
    have f14:(xs 14)=.bool true:=b0 _ (m_ 14 rfl) (by kernel_rfl)
    clear b0
    refine wpOp_step (o:=_) rfl (fun K hK=>?_)
    simp only[FL]
    go_simp
    refine hK _ _ ⟨.bool true,by simp only[FL,f14] <;> kernel_rfl,Below.refl _ _,rfl,nF⟩
   ·intro xs b14 c0 b0
    have r6:=zz c0;have c14:=c0.size;clear c0
    have f15:(xs 15)=.bool true:=b0 _ (m_ 15 rfl) (by kernel_rfl)
    clear b0
    refine wpOp_step (o:=?go285) ?s6 ?gh285
    case s6=>exact rfl
    intro K hK
    simp only[FL]
    go_simp
    refine hK _ _ ⟨undef,by simp only[FL,f15] <;> kernel_rfl,Below.refl _ _,trivial,nF⟩
   ·intro xs d14 c0 b0
    have t6:=zz c0;have e14:=c0.size;clear c0
    have f15:(xs 15)=.bool true:=b0 _ (m_ 15 rfl) (by kernel_rfl)
    clear b0
    refine wpOp_step (o:=?go286) ?u6 ?gh286
    case u6=>exact rfl
    intro K hK
    simp only[FL]
    go_simp
    refine hK _ _ ⟨undef,by simp only[FL,f15] <;> kernel_rfl,Below.refl _ _,trivial,nF⟩
   ·intro xs g14 c0 b0
    have v6:=zz c0;have h14:=c0.size;clear c0
    have f15:(xs 15)=.bool true:=b0 _ (m_ 15 rfl) (by kernel_rfl)
    clear b0
    refine wpOp_step (o:=?go287) ?w6 ?gh287
    case w6=>exact rfl
    intro K hK
    simp only[FL]
    go_simp
    refine hK _ _ ⟨undef,by simp only[FL,f15] <;> kernel_rfl,Below.refl _ _,trivial,nF⟩
   ·intro xs i14 c0 b0
    have y6:=zz c0;have j14:=c0.size;clear c0
    have f15:(xs 15)=.bool true:=b0 _ (m_ 15 rfl) (by kernel_rfl)
    clear b0
    refine wpOp_step (o:=?go288) ?z6 ?gh288
    case z6=>exact rfl
    intro K hK
    simp only[FL]
    go_simp
    refine hK _ _ ⟨undef,by simp only[FL,f15] <;> kernel_rfl,Below.refl _ _,trivial,nF⟩
   ·intro xs k14 c0 b0
    have A6:=zz c0;have l14:=c0.size;clear c0
    have f15:(xs 15)=.bool true:=b0 _ (m_ 15 rfl) (by kernel_rfl)
    clear b0
    refine wpOp_step (o:=?go289) ?B6 ?gh289
    case B6=>exact rfl
    intro K hK
    simp only[FL]
    go_simp
    refine hK _ _ ⟨undef,by simp only[FL,f15] <;> kernel_rfl,Below.refl _ _,trivial,nF⟩
   ·intro xs m14 c0 b0
    have C6:=zz c0;have n14:=c0.size;clear c0
    have f15:(xs 15)=.bool true:=b0 _ (m_ 15 rfl) (by kernel_rfl)
    clear b0
    refine wpOp_step (o:=_) rfl (fun K hK=>?_)
    simp only[FL]
    go_simp
    refine hK _ _ ⟨.bool true,by simp only[FL,f15] <;> kernel_rfl,Below.refl _ _,rfl,nF⟩
   ·intro xs o14 c0 b0
    have D6:=zz c0;have p14:=c0.size;clear c0
    have f21:(xs 21)=.bool true:=b0 _ (m_ 21 rfl) (by kernel_rfl)
    clear b0
    refine wpOp_step (o:=_) rfl (fun K hK=>?_)
    simp only[FL]
    go_simp
    refine hK _ _ ⟨.bool true,by simp only[FL,f21] <;> kernel_rfl,Below.refl _ _,rfl,nF⟩
   ·intro xs q14 c0 b0
    have E6:=zz c0;have r14:=c0.size;clear c0
    have f22:(xs 22)=.bool true:=b0 _ (m_ 22 rfl) (by kernel_rfl)
    clear b0
    refine wpOp_step (o:=?go292) ?F6 ?gh292
    case F6=>exact rfl
    intro K hK
    simp only[FL]
    go_simp
    refine hK _ _ ⟨undef,by simp only[FL,f22] <;> kernel_rfl,Below.refl _ _,trivial,nF⟩
   ·intro xs s14 c0 b0
    have G6:=zz c0;have t14:=c0.size;clear c0
    have f22:(xs 22)=.bool true:=b0 _ (m_ 22 rfl) (by kernel_rfl)
    clear b0
    refine wpOp_step (o:=?go293) ?H6 ?gh293
    case H6=>exact rfl
    intro K hK
    simp only[FL]
    go_simp
    refine hK _ _ ⟨undef,by simp only[FL,f22] <;> kernel_rfl,Below.refl _ _,trivial,nF⟩
   ·intro xs u14 c0 b0
    have I6:=zz c0;have v14:=c0.size;clear c0
    have f22:(xs 22)=.bool true:=b0 _ (m_ 22 rfl) (by kernel_rfl)
    clear b0
    refine wpOp_step (o:=?go294) ?J6 ?gh294
    case J6=>exact rfl
    intro K hK
    simp only[FL]
    go_simp
    refine hK _ _ ⟨undef,by simp only[FL,f22] <;> kernel_rfl,Below.refl _ _,trivial,nF⟩
   ·intro xs w14 c0 b0
    have K6:=zz c0;have y14:=c0.size;clear c0
    have f22:(xs 22)=.bool true:=b0 _ (m_ 22 rfl) (by kernel_rfl)
    clear b0
    refine wpOp_step (o:=?go295) ?L6 ?gh295
    case L6=>exact rfl
    intro K hK
    simp only[FL]
    go_simp
    refine hK _ _ ⟨undef,by simp only[FL,f22] <;> kernel_rfl,Below.refl _ _,trivial,nF⟩
   ·intro xs z14 c0 b0
    have M6:=zz c0;have A14:=c0.size;clear c0
    have f22:(xs 22)=.bool true:=b0 _ (m_ 22 rfl) (by kernel_rfl)
    clear b0
    refine wpOp_step (o:=?go296) ?N6 ?gh296
    case N6=>exact rfl
    intro K hK
    simp only[FL]
    go_simp
    refine hK _ _ ⟨undef,by simp only[FL,f22] <;> kernel_rfl,Below.refl _ _,trivial,nF⟩
   ·intro xs B14 c0 b0
    have O6:=zz c0;have C14:=c0.size;clear c0
    have f22:(xs 22)=.bool true:=b0 _ (m_ 22 rfl) (by kernel_rfl)
    clear b0
    refine wpOp_step (o:=?go297) ?P6 ?gh297
    case P6=>exact rfl
    intro K hK
    simp only[FL]
    go_simp
    refine hK _ _ ⟨undef,by simp only[FL,f22] <;> kernel_rfl,Below.refl _ _,trivial,nF⟩
   ·intro xs D14 c0 b0
    have Q6:=zz c0;have E14:=c0.size;clear c0
    have f22:(xs 22)=.bool true:=b0 _ (m_ 22 rfl) (by kernel_rfl)
    clear b0
    refine wpOp_step (o:=?go298) ?R6 ?gh298
    case R6=>exact rfl
    intro K hK
    simp only[FL]
    go_simp
    refine hK _ _ ⟨undef,by simp only[FL,f22] <;> kernel_rfl,Below.refl _ _,trivial,nF⟩
   ·intro xs F14 c0 b0
    have S6:=zz c0;have G14:=c0.size;clear c0
    have f22:(xs 22)=.bool true:=b0 _ (m_ 22 rfl) (by kernel_rfl)
    clear b0
    refine wpOp_step (o:=?go299) ?T6 ?gh299
    case T6=>exact rfl
    intro K hK
    simp only[FL]
    go_simp
    refine hK _ _ ⟨undef,by simp only[FL,f22] <;> kernel_rfl,Below.refl _ _,trivial,nF⟩
   ·intro xs H14 c0 b0
    have U6:=zz c0;have I14:=c0.size;clear c0
    have f22:(xs 22)=.bool true:=b0 _ (m_ 22 rfl) (by kernel_rfl)
    clear b0
    refine wpOp_step (o:=?go300) ?V6 ?gh300
    case V6=>exact rfl
    intro K hK
    simp only[FL]
    go_simp
    refine hK _ _ ⟨undef,by simp only[FL,f22] <;> kernel_rfl,Below.refl _ _,trivial,nF⟩
   ·intro xs J14 c0 b0
    have W6:=zz c0;have K14:=c0.size;clear c0
    have f22:(xs 22)=.bool true:=b0 _ (m_ 22 rfl) (by kernel_rfl)
    clear b0
    refine wpOp_step (o:=?go301) ?X6 ?gh301
    case X6=>exact rfl
    intro K hK
    simp only[FL]
    go_simp
    refine hK _ _ ⟨undef,by simp only[FL,f22] <;> kernel_rfl,Below.refl _ _,trivial,nF⟩
   ·intro xs L14 c0 b0
    have Y6:=zz c0;have M14:=c0.size;clear c0
    have f22:(xs 22)=.bool true:=b0 _ (m_ 22 rfl) (by kernel_rfl)
    clear b0
    refine wpOp_step (o:=?go302) ?Z6 ?gh302
    case Z6=>exact rfl
    intro K hK
    simp only[FL]
    go_simp
    refine hK _ _ ⟨undef,by simp only[FL,f22] <;> kernel_rfl,Below.refl _ _,trivial,nF⟩
   ·intro xs N14 c0 b0
    have a7:=zz c0;have O14:=c0.size;clear c0
    have f22:(xs 22)=.bool true:=b0 _ (m_ 22 rfl) (by kernel_rfl)
    clear b0
    refine wpOp_step (o:=_) rfl (fun K hK=>?_)
    simp only[FL]
    go_simp
    refine hK _ _ ⟨.bool true,by simp only[FL,f22] <;> kernel_rfl,Below.refl _ _,rfl,nF⟩
  ·exact all_nil
  ·intro xs wf304 hbf hf hn hd
   have f0:(xs 0)=.pointer (some ⟨w.heap.size,0,none⟩):=hf _ (m_ 0 rfl)
   have f1:(xs 1)=.agg #[.bool n,.slice A l c]:=hf _ (m_ 1 rfl)
   have f2:(xs 2)=.int .i64 30:=hf _ (m_ 2 rfl)
   have f3:(xs 3)=.bool true:=hf _ (m_ 3 rfl)
   have f4:(xs 4)=.bool true:=hf _ (m_ 4 rfl)
   have f5:True:=hf _ (m_ 5 rfl)
   have f6:True:=hf _ (m_ 6 rfl)
   have f7:True:=hf _ (m_ 7 rfl)
   have f8:True:=hf _ (m_ 8 rfl)
   have f9:(xs 9)=.bool true:=hf _ (m_ 9 rfl)
   have f10:(xs 10)=.bool true:=hf _ (m_ 10 rfl)
   have f11:True:=hf _ (m_ 11 rfl)
   have f12:True:=hf _ (m_ 12 rfl)
   have f13:True:=hf _ (m_ 13 rfl)
   have f14:(xs 14)=.bool true:=hf _ (m_ 14 rfl)
   have f15:(xs 15)=.bool true:=hf _ (m_ 15 rfl)
   have f16:True:=hf _ (m_ 16 rfl)
   have f17:True:=hf _ (m_ 17 rfl)
   have f18:True:=hf _ (m_ 18 rfl)
   have f19:True:=hf _ (m_ 19 rfl)
   have f20:True:=hf _ (m_ 20 rfl)
   have f21:(xs 21)=.bool true:=hf _ (m_ 21 rfl)
   have f22:(xs 22)=.bool true:=hf _ (m_ 22 rfl)
   have f23:True:=hf _ (m_ 23 rfl)
   have f24:True:=hf _ (m_ 24 rfl)
   have f25:True:=hf _ (m_ 25 rfl)
   have f26:True:=hf _ (m_ 26 rfl)
   have f27:True:=hf _ (m_ 27 rfl)
   have f28:True:=hf _ (m_ 28 rfl)
   have f29:True:=hf _ (m_ 29 rfl)
   have f30:True:=hf _ (m_ 30 rfl)
   have f31:True:=hf _ (m_ 31 rfl)
   have f32:True:=hf _ (m_ 32 rfl)
   have f33:True:=hf _ (m_ 33 rfl)
   have f34:(xs 34)=.bool true:=hf _ (m_ 34 rfl)
   clear hf hn hd
   simp only[FL]
   have B305:=zz hbf
   have z305:=B305.out.size
   have b2:=zz (B0.out.trans (B305.out.mono B0.out.size))
   clear hbf
   generalize xs 0=x0,xs 1=x1,xs 2=x2,xs 3=x3,xs 4=x4,xs 5=x5,xs 6=x6,xs 7=x7,xs 8=x8,xs 9=x9,xs 10=x10,xs 11=x11,xs 12=x12,xs 13=x13,xs 14=x14,xs 15=x15,xs 16=x16,xs 17=x17,xs 18=x18,xs 19=x19,xs 20=x20,xs 21=x21,xs 22=x22,xs 23=x23,xs 24=x24,xs 25=x25,xs 26=x26,xs 27=x27,xs 28=x28,xs 29=x29,xs 30=x30,xs 31=x31,xs 32=x32,xs 33=x33,xs 34=x34 at *
   obtain rfl:=f0
   obtain rfl:=f1
   obtain rfl:=f2
   obtain rfl:=f3
   obtain rfl:=f4
   clear f5
   clear f6
   clear f7
   clear f8
   obtain rfl:=f9
   obtain rfl:=f10
   clear f11
   clear f12
   clear f13
   obtain rfl:=f14
   obtain rfl:=f15
   clear f16
   clear f17
   clear f18
   clear f19
   clear f20
   obtain rfl:=f21
   obtain rfl:=f22
   clear f23
   clear f24
   clear f25
   clear f26
   clear f27
   clear f28
   clear f29
   clear f30
   clear f31
   clear f32
   clear f33
   obtain rfl:=f34
   refine Early.done (by kernel_rfl) ?_ _
   (try simp only[Exit.then])
   go_wp2
   go_ret
   exact⟨b2.out,by rw[HR.out,chkQ_none (qOf_none1 HVA.out)];rfl⟩
end Go.Proofs.YtioclokmbgmamaaGreatDoor
