/- Layer 04: Check (written by gen_qg.py). -/
import Derived.Test.YtngpibfakemmhaaGreatDoorQF
import Derived.Test.YtngpibfakemmhaaGreatDoorPr
namespace Go.Proofs.YtngpibfakemmhaaGreatDoor
open Go Go.RowKit Dig
theorem qOf_none1 {n m:Bool} {a b:List Int} (h:¬ Valid n a):qOf n a m b=none:=by unfold qOf;rw[numOf_bad h]
theorem qOf_none2 {n m:Bool} {a b:List Int} (h:¬ Valid m b):qOf n a m b=none:=by unfold qOf;rw[numOf_bad h];cases numOf n a <;> rfl
theorem qOf_both {n m:Bool} {a b:List Int} {x y:Int} (hx:numOf n a=some x) (hy:numOf m b=some y):qOf n a m b=if 0<y∧Nat.gcd x.natAbs y.natAbs=1 then some (mkRat x y.natAbs) else none:=by unfold qOf;rw[hx,hy]
noncomputable def chkQ (n:Bool) (a:List Int) (m:Bool) (b:List Int):Int:=if (qOf n a m b).isSome then 0 else 40
theorem chkQ_some {n m:Bool} {a b:List Int} {q:Rat} (h:qOf n a m b=some q):chkQ n a m b=0:=by unfold chkQ;rw[h];rfl
theorem chkQ_none {n m:Bool} {a b:List Int} (h:qOf n a m b=none):chkQ n a m b=40:=by unfold chkQ;rw[h];rfl
theorem lr_is {w:World} {B:Nat} {n:Bool} {s:Value} {m:Bool} {l:List Int} (h:LR w B (.agg #[.bool n,s]) m l):RI w B s l:=by
 obtain⟨s',e,h⟩:=h;injection e with e
 simp at e
 rw[e.2];exact h
set_option maxRecDepth 100000 in
set_option maxHeartbeats 4000000 in
theorem QCheck_any (w:World) (v:Value) (n:Bool) (a:List Int) (m:Bool) (b:List Int) (h:QR w w.heap.size v n a m b) :
  Calls Tryz.prog 8 #[v] w fun e w'=>Below w.heap.size w w'∧e=.returned (.int .i64 (chkQ n a m b)):=by
 obtain⟨r,hr⟩:∃ r,r=chkQ n a m b:=⟨_,rfl⟩;rw[← hr];have HR:=zz hr;clear hr;obtain⟨A,l,c,B,k,d,rfl,Ha,Hb⟩:=h;have ea:=RI.len Ha;have eb:=RI.len Hb;have HEB:=zz eb;clear ea eb;obtain⟨w0,hw0⟩:∃ w0:World,w0=(w.alloc (.cells #[.bool n,.slice A l c,.bool m,.slice B k d] 28)):=⟨_,rfl⟩;have B0:=zz (n1_b hw0);have z0:=n1_z hw0;have La:=n1_0 hw0;have HA:=zz (show LR w0 w0.heap.size (.agg #[.bool n,.slice A l c]) n a from LR.step ⟨_,rfl,Ha⟩ B0.out);have HB:=zz (show LR w0 w0.heap.size (.agg #[.bool m,.slice B k d]) m b from LR.step ⟨_,rfl,Hb⟩ B0.out);clear Ha Hb;by_cases hva:Valid n a
 ·have HVA:=zz hva;clear hva;by_cases hvb:Valid m b
  ·have HVB:=zz hvb;clear hvb;obtain⟨x,hx,nx,ax,lx⟩:=numOf_valid HVA.out;obtain⟨y,hy,ny,by',ly⟩:=numOf_valid HVB.out;have HX:=zz hx;have HY:=zz hy;have NX:=zz nx;have NY:=zz ny;have AX:=zz ax;have BY:=zz by';have HL:=zz (And.intro lx ly);clear hx hy nx ny ax by' lx ly
   cases m with
   | true=>
    have HNO:=zz (show qOf n a true b=none by rw[qOf_both HX.out HY.out,if_neg (fun h=>by have h1:=NY.out;rw[decide_eq_false (by omega)] at h1;cases h1)]);go_enter Tryz.func8,Tryz.ntmps8
    go_upto_region 1 with (fail)
    rw[← hw0];clear hw0;refine Flow.run [⟨0,3,fun fv fw=>fv=.pointer (some ⟨w.heap.size,0,none⟩)⟩,⟨1,4,fun fv fw=>fv=.agg #[.bool n,.slice A l c]⟩,⟨2,5,fun fv fw=>fv=.int .i64 0⟩,⟨3,6,fun fv fw=>fv=.bool false⟩,⟨4,7,fun fv fw=>fv=.bool false⟩,⟨5,8,fun fv fw=>fv=.pointer (some ⟨w.heap.size,2,none⟩)⟩,⟨6,9,fun fv fw=>fv=.agg #[.bool true,.slice B k d]⟩,⟨7,10,fun fv fw=>fv=.int .i64 0⟩,⟨8,11,fun fv fw=>fv=.bool false⟩,⟨9,12,fun fv fw=>fv=.bool false⟩,⟨10,13,fun fv fw=>fv=.bool false⟩,⟨11,14,fun fv fw=>fv=.pointer (some ⟨w.heap.size,2,none⟩)⟩,⟨12,15,fun fv fw=>fv=.pointer (some ⟨w.heap.size,2,none⟩)⟩,⟨13,16,fun fv fw=>fv=.bool true⟩,⟨14,17,fun fv fw=>fv=.bool true⟩,⟨15,18,fun fv fw=>fv=.bool true⟩,⟨16,19,fun fv fw=>True⟩,⟨17,20,fun fv fw=>True⟩,⟨18,21,fun fv fw=>True⟩,⟨19,22,fun fv fw=>True⟩,⟨20,23,fun fv fw=>True⟩,⟨21,24,fun fv fw=>fv=.bool true⟩,⟨22,25,fun fv fw=>fv=.bool true⟩,⟨23,26,fun fv fw=>True⟩,⟨24,27,fun fv fw=>True⟩,⟨25,28,fun fv fw=>True⟩,⟨26,29,fun fv fw=>True⟩,⟨27,30,fun fv fw=>True⟩,⟨28,31,fun fv fw=>True⟩,⟨29,32,fun fv fw=>True⟩,⟨30,33,fun fv fw=>True⟩,⟨31,34,fun fv fw=>True⟩,⟨32,35,fun fv fw=>True⟩,⟨33,36,fun fv fw=>True⟩,⟨34,37,fun fv fw=>fv=.bool true⟩] [] [] 0 (by kernel_rfl) (by kernel_rfl) (by kernel_rfl) (fun _ _ _ _ _ h=>h) ?_ ?_ ?_ ?_
    ·refine(a0 (a0 (a0 (a0 (a0 (a0 (a0 (a0 (a0 (a0 (a0 (a0 (a0 (a0 (a0 (a0 (a0 (a0 (a0 (a0 (a0 (a0 (a0 (a0 (a0 (a0 (a0 (a0 (a0 (a0 (a0 (a0 (a0 (a0 (a0 all_nil)))))))))))))))))))))))))))))))))))
    ·refine(all_cons ?_ (all_cons ?_ (all_cons ?_ (all_cons ?_ (all_cons ?_ (all_cons ?_ (all_cons ?_ (all_cons ?_ (all_cons ?_ (all_cons ?_ (all_cons ?_ (all_cons ?_ (all_cons ?_ (all_cons ?_ (all_cons ?_ (all_cons ?_ (all_cons ?_ (all_cons ?_ (all_cons ?_ (all_cons ?_ (all_cons ?_ (all_cons ?_ (all_cons ?_ (all_cons ?_ (all_cons ?_ (all_cons ?_ (all_cons ?_ (all_cons ?_ (all_cons ?_ (all_cons ?_ (all_cons ?_ (all_cons ?_ (all_cons ?_ (all_cons ?_ (all_cons ?_ all_nil)))))))))))))))))))))))))))))))))))
     ·intro xs wk1 c0 b0;clear c0;clear b0;refine wpOp_step (o:=_) rfl (fun K hK=>?_);simp only[FL]
      go_simp;refine hK _ _ ⟨.pointer (some ⟨w.heap.size,0,none⟩),by kernel_rfl,Below.refl _ _,rfl,nF⟩
     ·intro xs wk2 c0 b0;have d2:=zz c0;have zk2:=c0.size;clear c0;have f0:(xs 0)=.pointer (some ⟨w.heap.size,0,none⟩):=b0 _ (m_ 0 rfl) (by kernel_rfl);clear b0;refine wpOp_step (o:=_) rfl (fun K hK=>?_);simp only[FL]
      have C0:=CB.step La d2.out;have Q14:=C0.cell 0 rfl;have R14:=C0.cell 1 rfl;go_simp;refine hK _ _ ⟨.agg #[.bool n,.slice A l c],by simp only[FL,f0] <;> kernel_rfl,Below.refl _ _,rfl,nF⟩
     ·intro xs wk5 c0 b0;have e2:=zz c0;have zk5:=c0.size;clear c0;have f1:(xs 1)=.agg #[.bool n,.slice A l c]:=b0 _ (m_ 1 rfl) (by kernel_rfl);clear b0;refine wpOp_step (o:=_) rfl (fun K hK=>?_);simp only[FL]
      go_simp;have g2:=zz (LR.step HA.out e2.out);(with_reducible refine(Check_good g2.out HVA.out).mono ?_)
      rintro e wc7 ⟨m2,rfl⟩;refine hK _ _ ⟨.int .i64 0,by simp only[FL,f1] <;> kernel_rfl,m2,rfl,nF⟩
     ·intro xs wk8 c0 b0;clear c0;have f2:(xs 2)=.int .i64 0:=b0 _ (m_ 2 rfl) (by kernel_rfl);clear b0;refine wpOp_step (o:=_) rfl (fun K hK=>?_);simp only[FL]
      go_simp;refine hK _ _ ⟨.bool false,by simp only[FL,f2] <;> kernel_rfl,Below.refl _ _,rfl,nF⟩
     ·intro xs wk9 c0 b0;clear c0;have f3:(xs 3)=.bool false:=b0 _ (m_ 3 rfl) (by kernel_rfl);clear b0;refine wpOp_step (o:=_) rfl (fun K hK=>?_);simp only[FL]
      go_simp;refine hK _ _ ⟨.bool false,by simp only[FL,f3] <;> kernel_rfl,Below.refl _ _,rfl,nF⟩
     ·intro xs U14 c0 b0;clear c0;have f4:(xs 4)=.bool false:=b0 _ (m_ 4 rfl) (by kernel_rfl);clear b0;refine wpOp_step (o:=?_) ?c7 ?_
      case c7=>exact rfl
      intro K hK;simp only[FL]
      go_simp;refine hK _ _ ⟨.pointer (some ⟨w.heap.size,2,none⟩),by simp only[FL,f4] <;> kernel_rfl,Below.refl _ _,rfl,nF⟩
     ·intro xs W14 c0 b0;have o1:=zz c0;have X14:=c0.size;clear c0;have f4:(xs 4)=.bool false:=b0 _ (m_ 4 rfl) (by kernel_rfl);have f5:(xs 5)=.pointer (some ⟨w.heap.size,2,none⟩):=b0 _ (m_ 5 rfl) (by kernel_rfl);clear b0;refine wpOp_step (o:=?_) ?d7 ?_
      case d7=>exact rfl
      intro K hK;simp only[FL]
      have r0:=CB.step La o1.out;have e7:=r0.cell 2 rfl;have g7:=r0.cell 3 rfl;go_simp;refine hK _ _ ⟨.agg #[.bool true,.slice B k d],by simp only[FL,f4,f5] <;> kernel_rfl,Below.refl _ _,rfl,nF⟩
     ·intro xs Y14 c0 b0;have p1:=zz c0;have Z14:=c0.size;clear c0;have f4:(xs 4)=.bool false:=b0 _ (m_ 4 rfl) (by kernel_rfl);have f6:(xs 6)=.agg #[.bool true,.slice B k d]:=b0 _ (m_ 6 rfl) (by kernel_rfl);clear b0;refine wpOp_step (o:=?_) ?h7 ?_
      case h7=>exact rfl
      intro K hK;simp only[FL]
      go_simp;have q1:=zz (LR.step HB.out p1.out);(with_reducible refine(Check_good q1.out HVB.out).mono ?_)
      rintro e wc16 ⟨h2,rfl⟩;refine hK _ _ ⟨.int .i64 0,by simp only[FL,f4,f6] <;> kernel_rfl,h2,rfl,nF⟩
     ·intro xs a15 c0 b0;clear c0;have f4:(xs 4)=.bool false:=b0 _ (m_ 4 rfl) (by kernel_rfl);have f7:(xs 7)=.int .i64 0:=b0 _ (m_ 7 rfl) (by kernel_rfl);clear b0;refine wpOp_step (o:=?_) ?j7 ?_
      case j7=>exact rfl
      intro K hK;simp only[FL]
      go_simp;refine hK _ _ ⟨.bool false,by simp only[FL,f4,f7] <;> kernel_rfl,Below.refl _ _,rfl,nF⟩
     ·intro xs c15 c0 b0;clear c0;have f4:(xs 4)=.bool false:=b0 _ (m_ 4 rfl) (by kernel_rfl);have f8:(xs 8)=.bool false:=b0 _ (m_ 8 rfl) (by kernel_rfl);clear b0;refine wpOp_step (o:=_) rfl (fun K hK=>?_);simp only[FL]
      go_simp;refine hK _ _ ⟨.bool false,by simp only[FL,f4,f8] <;> kernel_rfl,Below.refl _ _,rfl,nF⟩
     ·intro xs e15 c0 b0;clear c0;have f9:(xs 9)=.bool false:=b0 _ (m_ 9 rfl) (by kernel_rfl);clear b0;refine wpOp_step (o:=_) rfl (fun K hK=>?_);simp only[FL]
      go_simp;refine hK _ _ ⟨.bool false,by simp only[FL,f9] <;> kernel_rfl,Below.refl _ _,rfl,nF⟩
     ·intro xs h15 c0 b0;clear c0;have f10:(xs 10)=.bool false:=b0 _ (m_ 10 rfl) (by kernel_rfl);clear b0;refine wpOp_step (o:=?_) ?n7 ?_
      case n7=>exact rfl
      intro K hK;simp only[FL]
      go_simp;refine hK _ _ ⟨.pointer (some ⟨w.heap.size,2,none⟩),by simp only[FL,f10] <;> kernel_rfl,Below.refl _ _,rfl,nF⟩
     ·intro xs j15 c0 b0;clear c0;have f10:(xs 10)=.bool false:=b0 _ (m_ 10 rfl) (by kernel_rfl);have f11:(xs 11)=.pointer (some ⟨w.heap.size,2,none⟩):=b0 _ (m_ 11 rfl) (by kernel_rfl);clear b0;refine wpOp_step (o:=?_) ?p7 ?_
      case p7=>exact rfl
      intro K hK;simp only[FL]
      go_simp;refine hK _ _ ⟨.pointer (some ⟨w.heap.size,2,none⟩),by simp only[FL,f10,f11] <;> kernel_rfl,Below.refl _ _,rfl,nF⟩
     ·intro xs l15 c0 b0;have r1:=zz c0;have m15:=c0.size;clear c0;have f10:(xs 10)=.bool false:=b0 _ (m_ 10 rfl) (by kernel_rfl);have f12:(xs 12)=.pointer (some ⟨w.heap.size,2,none⟩):=b0 _ (m_ 12 rfl) (by kernel_rfl);clear b0;refine wpOp_step (o:=?_) ?q7 ?_
      case q7=>exact rfl
      intro K hK;simp only[FL]
      have s1:=CB.step La r1.out;have r7:=s1.cell 2 rfl;go_simp;refine hK _ _ ⟨.bool true,by simp only[FL,f10,f12] <;> kernel_rfl,Below.refl _ _,rfl,nF⟩
     ·intro xs n15 c0 b0;clear c0;have f10:(xs 10)=.bool false:=b0 _ (m_ 10 rfl) (by kernel_rfl);have f13:(xs 13)=.bool true:=b0 _ (m_ 13 rfl) (by kernel_rfl);clear b0;refine wpOp_step (o:=_) rfl (fun K hK=>?_);simp only[FL]
      go_simp;refine hK _ _ ⟨.bool true,by simp only[FL,f10,f13] <;> kernel_rfl,Below.refl _ _,rfl,nF⟩
     ·intro xs p15 c0 b0;clear c0;have f14:(xs 14)=.bool true:=b0 _ (m_ 14 rfl) (by kernel_rfl);clear b0;refine wpOp_step (o:=_) rfl (fun K hK=>?_);simp only[FL]
      go_simp;refine hK _ _ ⟨.bool true,by simp only[FL,f14] <;> kernel_rfl,Below.refl _ _,rfl,nF⟩
     ·intro xs r15 c0 b0;clear c0;have f15:(xs 15)=.bool true:=b0 _ (m_ 15 rfl) (by kernel_rfl);clear b0;refine wpOp_step (o:=?_) ?v7 ?_
      case v7=>exact rfl
      intro K hK;simp only[FL]
      go_simp;refine hK _ _ ⟨undef,by simp only[FL,f15] <;> kernel_rfl,Below.refl _ _,trivial,nF⟩
     ·intro xs t15 c0 b0;clear c0;have f15:(xs 15)=.bool true:=b0 _ (m_ 15 rfl) (by kernel_rfl);clear b0;refine wpOp_step (o:=?_) ?y7 ?_
      case y7=>exact rfl
      intro K hK;simp only[FL]
      go_simp;refine hK _ _ ⟨undef,by simp only[FL,f15] <;> kernel_rfl,Below.refl _ _,trivial,nF⟩
     ·intro xs v15 c0 b0;clear c0;have f15:(xs 15)=.bool true:=b0 _ (m_ 15 rfl) (by kernel_rfl);clear b0;refine wpOp_step (o:=?_) ?A7 ?_
      case A7=>exact rfl
      intro K hK;simp only[FL]
      go_simp;refine hK _ _ ⟨undef,by simp only[FL,f15] <;> kernel_rfl,Below.refl _ _,trivial,nF⟩
     ·intro xs y15 c0 b0;clear c0;have f15:(xs 15)=.bool true:=b0 _ (m_ 15 rfl) (by kernel_rfl);clear b0;refine wpOp_step (o:=?_) ?C7 ?_
      case C7=>exact rfl
      intro K hK;simp only[FL]
      go_simp;refine hK _ _ ⟨undef,by simp only[FL,f15] <;> kernel_rfl,Below.refl _ _,trivial,nF⟩
     ·intro xs A15 c0 b0;clear c0;have f15:(xs 15)=.bool true:=b0 _ (m_ 15 rfl) (by kernel_rfl);clear b0;refine wpOp_step (o:=?_) ?E7 ?_
      case E7=>exact rfl
      intro K hK;simp only[FL]
      go_simp;refine hK _ _ ⟨undef,by simp only[FL,f15] <;> kernel_rfl,Below.refl _ _,trivial,nF⟩
     ·intro xs C15 c0 b0;clear c0;have f15:(xs 15)=.bool true:=b0 _ (m_ 15 rfl) (by kernel_rfl);clear b0;refine wpOp_step (o:=_) rfl (fun K hK=>?_);simp only[FL]
      go_simp;refine hK _ _ ⟨.bool true,by simp only[FL,f15] <;> kernel_rfl,Below.refl _ _,rfl,nF⟩
     ·intro xs E15 c0 b0;clear c0;have f21:(xs 21)=.bool true:=b0 _ (m_ 21 rfl) (by kernel_rfl);clear b0;refine wpOp_step (o:=_) rfl (fun K hK=>?_);simp only[FL]
      go_simp;refine hK _ _ ⟨.bool true,by simp only[FL,f21] <;> kernel_rfl,Below.refl _ _,rfl,nF⟩
     ·intro xs G15 c0 b0;clear c0;have f22:(xs 22)=.bool true:=b0 _ (m_ 22 rfl) (by kernel_rfl);clear b0;refine wpOp_step (o:=?_) ?I7 ?_
      case I7=>exact rfl
      intro K hK;simp only[FL]
      go_simp;refine hK _ _ ⟨undef,by simp only[FL,f22] <;> kernel_rfl,Below.refl _ _,trivial,nF⟩
     ·intro xs I15 c0 b0;clear c0;have f22:(xs 22)=.bool true:=b0 _ (m_ 22 rfl) (by kernel_rfl);clear b0;refine wpOp_step (o:=?_) ?K7 ?_
      case K7=>exact rfl
      intro K hK;simp only[FL]
      go_simp;refine hK _ _ ⟨undef,by simp only[FL,f22] <;> kernel_rfl,Below.refl _ _,trivial,nF⟩
     ·intro xs K15 c0 b0;clear c0;have f22:(xs 22)=.bool true:=b0 _ (m_ 22 rfl) (by kernel_rfl);clear b0;refine wpOp_step (o:=?_) ?M7 ?_
      case M7=>exact rfl
      intro K hK;simp only[FL]
      go_simp;refine hK _ _ ⟨undef,by simp only[FL,f22] <;> kernel_rfl,Below.refl _ _,trivial,nF⟩
     ·intro xs M15 c0 b0;clear c0;have f22:(xs 22)=.bool true:=b0 _ (m_ 22 rfl) (by kernel_rfl);clear b0;refine wpOp_step (o:=?_) ?O7 ?_
      case O7=>exact rfl
      intro K hK;simp only[FL]
      go_simp;refine hK _ _ ⟨undef,by simp only[FL,f22] <;> kernel_rfl,Below.refl _ _,trivial,nF⟩
     ·intro xs O15 c0 b0;clear c0;have f22:(xs 22)=.bool true:=b0 _ (m_ 22 rfl) (by kernel_rfl);clear b0;refine wpOp_step (o:=?_) ?Q7 ?_
      case Q7=>exact rfl
      intro K hK;simp only[FL]
      go_simp;refine hK _ _ ⟨undef,by simp only[FL,f22] <;> kernel_rfl,Below.refl _ _,trivial,nF⟩
     ·intro xs Q15 c0 b0;clear c0;have f22:(xs 22)=.bool true:=b0 _ (m_ 22 rfl) (by kernel_rfl);clear b0;refine wpOp_step (o:=?_) ?S7 ?_
      case S7=>exact rfl
      intro K hK;simp only[FL]
      go_simp;refine hK _ _ ⟨undef,by simp only[FL,f22] <;> kernel_rfl,Below.refl _ _,trivial,nF⟩
     ·intro xs S15 c0 b0;clear c0;have f22:(xs 22)=.bool true:=b0 _ (m_ 22 rfl) (by kernel_rfl);clear b0;refine wpOp_step (o:=?_) ?U7 ?_
      case U7=>exact rfl
      intro K hK;simp only[FL]
      go_simp;refine hK _ _ ⟨undef,by simp only[FL,f22] <;> kernel_rfl,Below.refl _ _,trivial,nF⟩
     ·intro xs U15 c0 b0;clear c0;have f22:(xs 22)=.bool true:=b0 _ (m_ 22 rfl) (by kernel_rfl);clear b0;refine wpOp_step (o:=?_) ?W7 ?_
      case W7=>exact rfl
      intro K hK;simp only[FL]
      go_simp;refine hK _ _ ⟨undef,by simp only[FL,f22] <;> kernel_rfl,Below.refl _ _,trivial,nF⟩
     ·intro xs W15 c0 b0;clear c0;have f22:(xs 22)=.bool true:=b0 _ (m_ 22 rfl) (by kernel_rfl);clear b0;refine wpOp_step (o:=?_) ?Y7 ?_
      case Y7=>exact rfl
      intro K hK;simp only[FL]
      go_simp;refine hK _ _ ⟨undef,by simp only[FL,f22] <;> kernel_rfl,Below.refl _ _,trivial,nF⟩
     ·intro xs Y15 c0 b0;clear c0;have f22:(xs 22)=.bool true:=b0 _ (m_ 22 rfl) (by kernel_rfl);clear b0;refine wpOp_step (o:=?_) ?a8 ?_
      case a8=>exact rfl
      intro K hK;simp only[FL]
      go_simp;refine hK _ _ ⟨undef,by simp only[FL,f22] <;> kernel_rfl,Below.refl _ _,trivial,nF⟩
     ·intro xs a16 c0 b0;clear c0;have f22:(xs 22)=.bool true:=b0 _ (m_ 22 rfl) (by kernel_rfl);clear b0;refine wpOp_step (o:=?_) ?c8 ?_
      case c8=>exact rfl
      intro K hK;simp only[FL]
      go_simp;refine hK _ _ ⟨undef,by simp only[FL,f22] <;> kernel_rfl,Below.refl _ _,trivial,nF⟩
     ·intro xs c16 c0 b0;clear c0;have f22:(xs 22)=.bool true:=b0 _ (m_ 22 rfl) (by kernel_rfl);clear b0;refine wpOp_step (o:=_) rfl (fun K hK=>?_);simp only[FL]
      go_simp;refine hK _ _ ⟨.bool true,by simp only[FL,f22] <;> kernel_rfl,Below.refl _ _,rfl,nF⟩
    ·exact all_nil
    ·intro xs Y17 hbf hf hn hd;have f0:(xs 0)=.pointer (some ⟨w.heap.size,0,none⟩):=hf _ (m_ 0 rfl);have f1:(xs 1)=.agg #[.bool n,.slice A l c]:=hf _ (m_ 1 rfl);have f2:(xs 2)=.int .i64 0:=hf _ (m_ 2 rfl);have f3:(xs 3)=.bool false:=hf _ (m_ 3 rfl);have f4:(xs 4)=.bool false:=hf _ (m_ 4 rfl);have f5:(xs 5)=.pointer (some ⟨w.heap.size,2,none⟩):=hf _ (m_ 5 rfl);have f6:(xs 6)=.agg #[.bool true,.slice B k d]:=hf _ (m_ 6 rfl);have f7:(xs 7)=.int .i64 0:=hf _ (m_ 7 rfl);have f8:(xs 8)=.bool false:=hf _ (m_ 8 rfl);have f9:(xs 9)=.bool false:=hf _ (m_ 9 rfl);have f10:(xs 10)=.bool false:=hf _ (m_ 10 rfl);have f11:(xs 11)=.pointer (some ⟨w.heap.size,2,none⟩):=hf _ (m_ 11 rfl);have f12:(xs 12)=.pointer (some ⟨w.heap.size,2,none⟩):=hf _ (m_ 12 rfl);have f13:(xs 13)=.bool true:=hf _ (m_ 13 rfl);have f14:(xs 14)=.bool true:=hf _ (m_ 14 rfl);have f15:(xs 15)=.bool true:=hf _ (m_ 15 rfl);have f16:True:=hf _ (m_ 16 rfl);have f17:True:=hf _ (m_ 17 rfl);have f18:True:=hf _ (m_ 18 rfl);have f19:True:=hf _ (m_ 19 rfl);have f20:True:=hf _ (m_ 20 rfl);have f21:(xs 21)=.bool true:=hf _ (m_ 21 rfl);have f22:(xs 22)=.bool true:=hf _ (m_ 22 rfl);have f23:True:=hf _ (m_ 23 rfl);have f24:True:=hf _ (m_ 24 rfl);have f25:True:=hf _ (m_ 25 rfl);have f26:True:=hf _ (m_ 26 rfl);have f27:True:=hf _ (m_ 27 rfl);have f28:True:=hf _ (m_ 28 rfl);have f29:True:=hf _ (m_ 29 rfl);have f30:True:=hf _ (m_ 30 rfl);have f31:True:=hf _ (m_ 31 rfl);have f32:True:=hf _ (m_ 32 rfl);have f33:True:=hf _ (m_ 33 rfl)
     have f34:(xs 34)=.bool true:=hf _ (m_ 34 rfl);clear hf hn hd;simp only[FL]
     have B47:=zz hbf;have z47:=B47.out.size;have i2:=zz (B0.out.trans (B47.out.mono B0.out.size));clear hbf;generalize xs 0=x0,xs 1=x1,xs 2=x2,xs 3=x3,xs 4=x4,xs 5=x5,xs 6=x6,xs 7=x7,xs 8=x8,xs 9=x9,xs 10=x10,xs 11=x11,xs 12=x12,xs 13=x13,xs 14=x14,xs 15=x15,xs 16=x16,xs 17=x17,xs 18=x18,xs 19=x19,xs 20=x20,xs 21=x21,xs 22=x22,xs 23=x23,xs 24=x24,xs 25=x25,xs 26=x26,xs 27=x27,xs 28=x28,xs 29=x29,xs 30=x30,xs 31=x31,xs 32=x32,xs 33=x33,xs 34=x34 at *
     obtain rfl:=f0;obtain rfl:=f1;obtain rfl:=f2;obtain rfl:=f3;obtain rfl:=f4;obtain rfl:=f5;obtain rfl:=f6;obtain rfl:=f7;obtain rfl:=f8;obtain rfl:=f9;obtain rfl:=f10;obtain rfl:=f11;obtain rfl:=f12;obtain rfl:=f13;obtain rfl:=f14;obtain rfl:=f15;clear f16;clear f17;clear f18;clear f19;clear f20;obtain rfl:=f21;obtain rfl:=f22;clear f23;clear f24;clear f25;clear f26;clear f27;clear f28;clear f29;clear f30;clear f31;clear f32;clear f33;obtain rfl:=f34;refine Early.done (by kernel_rfl) ?_ _;(try simp only[Exit.then])
     go_wp2;go_ret;exact⟨i2.out,by rw[HR.out,chkQ_none HNO.out];rfl⟩
   | false=>
    by_cases hk:k=0
    ·have n2:((k:Int)==0)=true:=by rw[beq_iff_eq];omega
     have HNO:=zz (show qOf n a false b=none by rw[qOf_both HX.out HY.out,if_neg (fun h=>by have h1:=HEB.out;rw[BY.out,ni_length,hk] at h1;have:=dig_nil.1 h1.symm;omega)]);clear hk;go_enter Tryz.func8,Tryz.ntmps8
     go_upto_region 1 with (fail)
     rw[← hw0];clear hw0;refine Flow.run [⟨0,3,fun fv fw=>fv=.pointer (some ⟨w.heap.size,0,none⟩)⟩,⟨1,4,fun fv fw=>fv=.agg #[.bool n,.slice A l c]⟩,⟨2,5,fun fv fw=>fv=.int .i64 0⟩,⟨3,6,fun fv fw=>fv=.bool false⟩,⟨4,7,fun fv fw=>fv=.bool false⟩,⟨5,8,fun fv fw=>fv=.pointer (some ⟨w.heap.size,2,none⟩)⟩,⟨6,9,fun fv fw=>fv=.agg #[.bool false,.slice B k d]⟩,⟨7,10,fun fv fw=>fv=.int .i64 0⟩,⟨8,11,fun fv fw=>fv=.bool false⟩,⟨9,12,fun fv fw=>fv=.bool false⟩,⟨10,13,fun fv fw=>fv=.bool false⟩,⟨11,14,fun fv fw=>fv=.pointer (some ⟨w.heap.size,2,none⟩)⟩,⟨12,15,fun fv fw=>fv=.pointer (some ⟨w.heap.size,2,none⟩)⟩,⟨13,16,fun fv fw=>fv=.bool false⟩,⟨14,17,fun fv fw=>fv=.bool false⟩,⟨15,18,fun fv fw=>fv=.bool false⟩,⟨16,19,fun fv fw=>fv=.pointer (some ⟨w.heap.size,2,none⟩)⟩,⟨17,20,fun fv fw=>fv=.pointer (some ⟨w.heap.size,3,none⟩)⟩,⟨18,21,fun fv fw=>fv=.slice B k d⟩,⟨19,22,fun fv fw=>fv=.int .i64 (k:Int)⟩,⟨20,23,fun fv fw=>fv=.bool true⟩,⟨21,24,fun fv fw=>fv=.bool true⟩,⟨22,25,fun fv fw=>fv=.bool true⟩,⟨23,26,fun fv fw=>True⟩,⟨24,27,fun fv fw=>True⟩,⟨25,28,fun fv fw=>True⟩,⟨26,29,fun fv fw=>True⟩,⟨27,30,fun fv fw=>True⟩,⟨28,31,fun fv fw=>True⟩,⟨29,32,fun fv fw=>True⟩,⟨30,33,fun fv fw=>True⟩,⟨31,34,fun fv fw=>True⟩,⟨32,35,fun fv fw=>True⟩,⟨33,36,fun fv fw=>True⟩,⟨34,37,fun fv fw=>fv=.bool true⟩] [] [] 0 (by kernel_rfl) (by kernel_rfl) (by kernel_rfl) (fun _ _ _ _ _ h=>h) ?_ ?_ ?_ ?_
     ·refine(a0 (a0 (a0 (a0 (a0 (a0 (a0 (a0 (a0 (a0 (a0 (a0 (a0 (a0 (a0 (a0 (a0 (a0 (a0 (a0 (a0 (a0 (a0 (a0 (a0 (a0 (a0 (a0 (a0 (a0 (a0 (a0 (a0 (a0 (a0 all_nil)))))))))))))))))))))))))))))))))))
     ·refine(all_cons ?_ (all_cons ?_ (all_cons ?_ (all_cons ?_ (all_cons ?_ (all_cons ?_ (all_cons ?_ (all_cons ?_ (all_cons ?_ (all_cons ?_ (all_cons ?_ (all_cons ?_ (all_cons ?_ (all_cons ?_ (all_cons ?_ (all_cons ?_ (all_cons ?_ (all_cons ?_ (all_cons ?_ (all_cons ?_ (all_cons ?_ (all_cons ?_ (all_cons ?_ (all_cons ?_ (all_cons ?_ (all_cons ?_ (all_cons ?_ (all_cons ?_ (all_cons ?_ (all_cons ?_ (all_cons ?_ (all_cons ?_ (all_cons ?_ (all_cons ?_ (all_cons ?_ all_nil)))))))))))))))))))))))))))))))))))
      ·intro xs e16 c0 b0;clear c0;clear b0;refine wpOp_step (o:=_) rfl (fun K hK=>?_);simp only[FL]
       go_simp;refine hK _ _ ⟨.pointer (some ⟨w.heap.size,0,none⟩),by kernel_rfl,Below.refl _ _,rfl,nF⟩
      ·intro xs h16 c0 b0;have t1:=zz c0;have i16:=c0.size;clear c0;have f0:(xs 0)=.pointer (some ⟨w.heap.size,0,none⟩):=b0 _ (m_ 0 rfl) (by kernel_rfl);clear b0;refine wpOp_step (o:=_) rfl (fun K hK=>?_);simp only[FL]
       have s0:=CB.step La t1.out;have g8:=s0.cell 0 rfl;have h8:=s0.cell 1 rfl;go_simp;refine hK _ _ ⟨.agg #[.bool n,.slice A l c],by simp only[FL,f0] <;> kernel_rfl,Below.refl _ _,rfl,nF⟩
      ·intro xs j16 c0 b0;have u1:=zz c0;have k16:=c0.size;clear c0;have f1:(xs 1)=.agg #[.bool n,.slice A l c]:=b0 _ (m_ 1 rfl) (by kernel_rfl);clear b0;refine wpOp_step (o:=_) rfl (fun K hK=>?_);simp only[FL]
       go_simp;have v1:=zz (LR.step HA.out u1.out);(with_reducible refine(Check_good v1.out HVA.out).mono ?_)
       rintro e wc55 ⟨j2,rfl⟩;refine hK _ _ ⟨.int .i64 0,by simp only[FL,f1] <;> kernel_rfl,j2,rfl,nF⟩
      ·intro xs l16 c0 b0;clear c0;have f2:(xs 2)=.int .i64 0:=b0 _ (m_ 2 rfl) (by kernel_rfl);clear b0;refine wpOp_step (o:=_) rfl (fun K hK=>?_);simp only[FL]
       go_simp;refine hK _ _ ⟨.bool false,by simp only[FL,f2] <;> kernel_rfl,Below.refl _ _,rfl,nF⟩
      ·intro xs n16 c0 b0;clear c0;have f3:(xs 3)=.bool false:=b0 _ (m_ 3 rfl) (by kernel_rfl);clear b0;refine wpOp_step (o:=_) rfl (fun K hK=>?_);simp only[FL]
       go_simp;refine hK _ _ ⟨.bool false,by simp only[FL,f3] <;> kernel_rfl,Below.refl _ _,rfl,nF⟩
      ·intro xs p16 c0 b0;clear c0;have f4:(xs 4)=.bool false:=b0 _ (m_ 4 rfl) (by kernel_rfl);clear b0;refine wpOp_step (o:=?_) ?l8 ?_
       case l8=>exact rfl
       intro K hK;simp only[FL]
       go_simp;refine hK _ _ ⟨.pointer (some ⟨w.heap.size,2,none⟩),by simp only[FL,f4] <;> kernel_rfl,Below.refl _ _,rfl,nF⟩
      ·intro xs r16 c0 b0;have y1:=zz c0;have s16:=c0.size;clear c0;have f4:(xs 4)=.bool false:=b0 _ (m_ 4 rfl) (by kernel_rfl);have f5:(xs 5)=.pointer (some ⟨w.heap.size,2,none⟩):=b0 _ (m_ 5 rfl) (by kernel_rfl);clear b0;refine wpOp_step (o:=?_) ?m8 ?_
       case m8=>exact rfl
       intro K hK;simp only[FL]
       have t0:=CB.step La y1.out;have n8:=t0.cell 2 rfl;have o8:=t0.cell 3 rfl;go_simp;refine hK _ _ ⟨.agg #[.bool false,.slice B k d],by simp only[FL,f4,f5] <;> kernel_rfl,Below.refl _ _,rfl,nF⟩
      ·intro xs t16 c0 b0;have z1:=zz c0;have u16:=c0.size;clear c0;have f4:(xs 4)=.bool false:=b0 _ (m_ 4 rfl) (by kernel_rfl);have f6:(xs 6)=.agg #[.bool false,.slice B k d]:=b0 _ (m_ 6 rfl) (by kernel_rfl);clear b0;refine wpOp_step (o:=?_) ?p8 ?_
       case p8=>exact rfl
       intro K hK;simp only[FL]
       go_simp;have A1:=zz (LR.step HB.out z1.out);(with_reducible refine(Check_good A1.out HVB.out).mono ?_)
       rintro e wc64 ⟨k2,rfl⟩;refine hK _ _ ⟨.int .i64 0,by simp only[FL,f4,f6] <;> kernel_rfl,k2,rfl,nF⟩
      ·intro xs v16 c0 b0;clear c0;have f4:(xs 4)=.bool false:=b0 _ (m_ 4 rfl) (by kernel_rfl);have f7:(xs 7)=.int .i64 0:=b0 _ (m_ 7 rfl) (by kernel_rfl);clear b0;refine wpOp_step (o:=?_) ?r8 ?_
       case r8=>exact rfl
       intro K hK;simp only[FL]
       go_simp;refine hK _ _ ⟨.bool false,by simp only[FL,f4,f7] <;> kernel_rfl,Below.refl _ _,rfl,nF⟩
      ·intro xs y16 c0 b0;clear c0;have f4:(xs 4)=.bool false:=b0 _ (m_ 4 rfl) (by kernel_rfl);have f8:(xs 8)=.bool false:=b0 _ (m_ 8 rfl) (by kernel_rfl);clear b0;refine wpOp_step (o:=_) rfl (fun K hK=>?_);simp only[FL]
       go_simp;refine hK _ _ ⟨.bool false,by simp only[FL,f4,f8] <;> kernel_rfl,Below.refl _ _,rfl,nF⟩
      ·intro xs A16 c0 b0;clear c0;have f9:(xs 9)=.bool false:=b0 _ (m_ 9 rfl) (by kernel_rfl);clear b0;refine wpOp_step (o:=_) rfl (fun K hK=>?_);simp only[FL]
       go_simp;refine hK _ _ ⟨.bool false,by simp only[FL,f9] <;> kernel_rfl,Below.refl _ _,rfl,nF⟩
      ·intro xs C16 c0 b0;clear c0;have f10:(xs 10)=.bool false:=b0 _ (m_ 10 rfl) (by kernel_rfl);clear b0;refine wpOp_step (o:=?_) ?v8 ?_
       case v8=>exact rfl
       intro K hK;simp only[FL]
       go_simp;refine hK _ _ ⟨.pointer (some ⟨w.heap.size,2,none⟩),by simp only[FL,f10] <;> kernel_rfl,Below.refl _ _,rfl,nF⟩
      ·intro xs E16 c0 b0;clear c0;have f10:(xs 10)=.bool false:=b0 _ (m_ 10 rfl) (by kernel_rfl);have f11:(xs 11)=.pointer (some ⟨w.heap.size,2,none⟩):=b0 _ (m_ 11 rfl) (by kernel_rfl);clear b0;refine wpOp_step (o:=?_) ?y8 ?_
       case y8=>exact rfl
       intro K hK;simp only[FL]
       go_simp;refine hK _ _ ⟨.pointer (some ⟨w.heap.size,2,none⟩),by simp only[FL,f10,f11] <;> kernel_rfl,Below.refl _ _,rfl,nF⟩
      ·intro xs G16 c0 b0;have B1:=zz c0;have H16:=c0.size;clear c0;have f10:(xs 10)=.bool false:=b0 _ (m_ 10 rfl) (by kernel_rfl);have f12:(xs 12)=.pointer (some ⟨w.heap.size,2,none⟩):=b0 _ (m_ 12 rfl) (by kernel_rfl);clear b0;refine wpOp_step (o:=?_) ?z8 ?_
       case z8=>exact rfl
       intro K hK;simp only[FL]
       have C1:=CB.step La B1.out;have A8:=C1.cell 2 rfl;go_simp;refine hK _ _ ⟨.bool false,by simp only[FL,f10,f12] <;> kernel_rfl,Below.refl _ _,rfl,nF⟩
      ·intro xs I16 c0 b0;clear c0;have f10:(xs 10)=.bool false:=b0 _ (m_ 10 rfl) (by kernel_rfl);have f13:(xs 13)=.bool false:=b0 _ (m_ 13 rfl) (by kernel_rfl);clear b0;refine wpOp_step (o:=_) rfl (fun K hK=>?_);simp only[FL]
       go_simp;refine hK _ _ ⟨.bool false,by simp only[FL,f10,f13] <;> kernel_rfl,Below.refl _ _,rfl,nF⟩
      ·intro xs K16 c0 b0;clear c0;have f14:(xs 14)=.bool false:=b0 _ (m_ 14 rfl) (by kernel_rfl);clear b0;refine wpOp_step (o:=_) rfl (fun K hK=>?_);simp only[FL]
       go_simp;refine hK _ _ ⟨.bool false,by simp only[FL,f14] <;> kernel_rfl,Below.refl _ _,rfl,nF⟩
      ·intro xs M16 c0 b0;clear c0;have f15:(xs 15)=.bool false:=b0 _ (m_ 15 rfl) (by kernel_rfl);clear b0;refine wpOp_step (o:=?_) ?E8 ?_
       case E8=>exact rfl
       intro K hK;simp only[FL]
       go_simp;refine hK _ _ ⟨.pointer (some ⟨w.heap.size,2,none⟩),by simp only[FL,f15] <;> kernel_rfl,Below.refl _ _,rfl,nF⟩
      ·intro xs O16 c0 b0;clear c0;have f15:(xs 15)=.bool false:=b0 _ (m_ 15 rfl) (by kernel_rfl);have f16:(xs 16)=.pointer (some ⟨w.heap.size,2,none⟩):=b0 _ (m_ 16 rfl) (by kernel_rfl);clear b0;refine wpOp_step (o:=?_) ?G8 ?_
       case G8=>exact rfl
       intro K hK;simp only[FL]
       go_simp;refine hK _ _ ⟨.pointer (some ⟨w.heap.size,3,none⟩),by simp only[FL,f15,f16] <;> kernel_rfl,Below.refl _ _,rfl,nF⟩
      ·intro xs Q16 c0 b0;have D1:=zz c0;have R16:=c0.size;clear c0;have f15:(xs 15)=.bool false:=b0 _ (m_ 15 rfl) (by kernel_rfl);have f17:(xs 17)=.pointer (some ⟨w.heap.size,3,none⟩):=b0 _ (m_ 17 rfl) (by kernel_rfl);clear b0;refine wpOp_step (o:=?_) ?H8 ?_
       case H8=>exact rfl
       intro K hK;simp only[FL]
       have E1:=CB.step La D1.out;have I8:=E1.cell 3 rfl;go_simp;refine hK _ _ ⟨.slice B k d,by simp only[FL,f15,f17] <;> kernel_rfl,Below.refl _ _,rfl,nF⟩
      ·intro xs S16 c0 b0;clear c0;have f15:(xs 15)=.bool false:=b0 _ (m_ 15 rfl) (by kernel_rfl);have f18:(xs 18)=.slice B k d:=b0 _ (m_ 18 rfl) (by kernel_rfl);clear b0;refine wpOp_step (o:=?_) ?K8 ?_
       case K8=>exact rfl
       intro K hK;simp only[FL]
       go_simp;refine hK _ _ ⟨.int .i64 (k:Int),by simp only[FL,f15,f18] <;> kernel_rfl,Below.refl _ _,rfl,nF⟩
      ·intro xs U16 c0 b0;clear c0;have f15:(xs 15)=.bool false:=b0 _ (m_ 15 rfl) (by kernel_rfl);have f19:(xs 19)=.int .i64 (k:Int):=b0 _ (m_ 19 rfl) (by kernel_rfl);clear b0;refine wpOp_step (o:=?_) ?M8 ?_
       case M8=>exact rfl
       intro K hK;simp only[FL]
       go_simp;refine hK _ _ ⟨.bool true,by simp only[FL,f15,f19] <;> kernel_rfl,Below.refl _ _,rfl,nF⟩
      ·intro xs W16 c0 b0;clear c0;have f15:(xs 15)=.bool false:=b0 _ (m_ 15 rfl) (by kernel_rfl);have f20:(xs 20)=.bool true:=b0 _ (m_ 20 rfl) (by kernel_rfl);clear b0;refine wpOp_step (o:=_) rfl (fun K hK=>?_);simp only[FL]
       go_simp;refine hK _ _ ⟨.bool true,by simp only[FL,f15,f20] <;> kernel_rfl,Below.refl _ _,rfl,nF⟩
      ·intro xs Y16 c0 b0;clear c0;have f21:(xs 21)=.bool true:=b0 _ (m_ 21 rfl) (by kernel_rfl);clear b0;refine wpOp_step (o:=_) rfl (fun K hK=>?_);simp only[FL]
       go_simp;refine hK _ _ ⟨.bool true,by simp only[FL,f21] <;> kernel_rfl,Below.refl _ _,rfl,nF⟩
      ·intro xs a17 c0 b0;clear c0;have f22:(xs 22)=.bool true:=b0 _ (m_ 22 rfl) (by kernel_rfl);clear b0;refine wpOp_step (o:=?_) ?Q8 ?_
       case Q8=>exact rfl
       intro K hK;simp only[FL]
       go_simp;refine hK _ _ ⟨undef,by simp only[FL,f22] <;> kernel_rfl,Below.refl _ _,trivial,nF⟩
      ·intro xs c17 c0 b0;clear c0;have f22:(xs 22)=.bool true:=b0 _ (m_ 22 rfl) (by kernel_rfl);clear b0;refine wpOp_step (o:=?_) ?S8 ?_
       case S8=>exact rfl
       intro K hK;simp only[FL]
       go_simp;refine hK _ _ ⟨undef,by simp only[FL,f22] <;> kernel_rfl,Below.refl _ _,trivial,nF⟩
      ·intro xs e17 c0 b0;clear c0;have f22:(xs 22)=.bool true:=b0 _ (m_ 22 rfl) (by kernel_rfl);clear b0;refine wpOp_step (o:=?_) ?U8 ?_
       case U8=>exact rfl
       intro K hK;simp only[FL]
       go_simp;refine hK _ _ ⟨undef,by simp only[FL,f22] <;> kernel_rfl,Below.refl _ _,trivial,nF⟩
      ·intro xs h17 c0 b0;clear c0;have f22:(xs 22)=.bool true:=b0 _ (m_ 22 rfl) (by kernel_rfl);clear b0;refine wpOp_step (o:=?_) ?W8 ?_
       case W8=>exact rfl
       intro K hK;simp only[FL]
       go_simp;refine hK _ _ ⟨undef,by simp only[FL,f22] <;> kernel_rfl,Below.refl _ _,trivial,nF⟩
      ·intro xs j17 c0 b0;clear c0;have f22:(xs 22)=.bool true:=b0 _ (m_ 22 rfl) (by kernel_rfl);clear b0;refine wpOp_step (o:=?_) ?Y8 ?_
       case Y8=>exact rfl
       intro K hK;simp only[FL]
       go_simp;refine hK _ _ ⟨undef,by simp only[FL,f22] <;> kernel_rfl,Below.refl _ _,trivial,nF⟩
      ·intro xs l17 c0 b0;clear c0;have f22:(xs 22)=.bool true:=b0 _ (m_ 22 rfl) (by kernel_rfl);clear b0;refine wpOp_step (o:=?_) ?a9 ?_
       case a9=>exact rfl
       intro K hK;simp only[FL]
       go_simp;refine hK _ _ ⟨undef,by simp only[FL,f22] <;> kernel_rfl,Below.refl _ _,trivial,nF⟩
      ·intro xs n17 c0 b0;clear c0;have f22:(xs 22)=.bool true:=b0 _ (m_ 22 rfl) (by kernel_rfl);clear b0;refine wpOp_step (o:=?_) ?c9 ?_
       case c9=>exact rfl
       intro K hK;simp only[FL]
       go_simp;refine hK _ _ ⟨undef,by simp only[FL,f22] <;> kernel_rfl,Below.refl _ _,trivial,nF⟩
      ·intro xs p17 c0 b0;clear c0;have f22:(xs 22)=.bool true:=b0 _ (m_ 22 rfl) (by kernel_rfl);clear b0;refine wpOp_step (o:=?_) ?e9 ?_
       case e9=>exact rfl
       intro K hK;simp only[FL]
       go_simp;refine hK _ _ ⟨undef,by simp only[FL,f22] <;> kernel_rfl,Below.refl _ _,trivial,nF⟩
      ·intro xs r17 c0 b0;clear c0;have f22:(xs 22)=.bool true:=b0 _ (m_ 22 rfl) (by kernel_rfl);clear b0;refine wpOp_step (o:=?_) ?h9 ?_
       case h9=>exact rfl
       intro K hK;simp only[FL]
       go_simp;refine hK _ _ ⟨undef,by simp only[FL,f22] <;> kernel_rfl,Below.refl _ _,trivial,nF⟩
      ·intro xs t17 c0 b0;clear c0;have f22:(xs 22)=.bool true:=b0 _ (m_ 22 rfl) (by kernel_rfl);clear b0;refine wpOp_step (o:=?_) ?j9 ?_
       case j9=>exact rfl
       intro K hK;simp only[FL]
       go_simp;refine hK _ _ ⟨undef,by simp only[FL,f22] <;> kernel_rfl,Below.refl _ _,trivial,nF⟩
      ·intro xs v17 c0 b0;clear c0;have f22:(xs 22)=.bool true:=b0 _ (m_ 22 rfl) (by kernel_rfl);clear b0;refine wpOp_step (o:=?_) ?l9 ?_
       case l9=>exact rfl
       intro K hK;simp only[FL]
       go_simp;refine hK _ _ ⟨undef,by simp only[FL,f22] <;> kernel_rfl,Below.refl _ _,trivial,nF⟩
      ·intro xs y17 c0 b0;clear c0;have f22:(xs 22)=.bool true:=b0 _ (m_ 22 rfl) (by kernel_rfl);clear b0;refine wpOp_step (o:=_) rfl (fun K hK=>?_);simp only[FL]
       go_simp;refine hK _ _ ⟨.bool true,by simp only[FL,f22] <;> kernel_rfl,Below.refl _ _,rfl,nF⟩
     ·exact all_nil
     ·intro xs Z17 hbf hf hn hd;have f0:(xs 0)=.pointer (some ⟨w.heap.size,0,none⟩):=hf _ (m_ 0 rfl);have f1:(xs 1)=.agg #[.bool n,.slice A l c]:=hf _ (m_ 1 rfl);have f2:(xs 2)=.int .i64 0:=hf _ (m_ 2 rfl);have f3:(xs 3)=.bool false:=hf _ (m_ 3 rfl);have f4:(xs 4)=.bool false:=hf _ (m_ 4 rfl);have f5:(xs 5)=.pointer (some ⟨w.heap.size,2,none⟩):=hf _ (m_ 5 rfl);have f6:(xs 6)=.agg #[.bool false,.slice B k d]:=hf _ (m_ 6 rfl);have f7:(xs 7)=.int .i64 0:=hf _ (m_ 7 rfl);have f8:(xs 8)=.bool false:=hf _ (m_ 8 rfl);have f9:(xs 9)=.bool false:=hf _ (m_ 9 rfl);have f10:(xs 10)=.bool false:=hf _ (m_ 10 rfl);have f11:(xs 11)=.pointer (some ⟨w.heap.size,2,none⟩):=hf _ (m_ 11 rfl);have f12:(xs 12)=.pointer (some ⟨w.heap.size,2,none⟩):=hf _ (m_ 12 rfl);have f13:(xs 13)=.bool false:=hf _ (m_ 13 rfl);have f14:(xs 14)=.bool false:=hf _ (m_ 14 rfl);have f15:(xs 15)=.bool false:=hf _ (m_ 15 rfl);have f16:(xs 16)=.pointer (some ⟨w.heap.size,2,none⟩):=hf _ (m_ 16 rfl);have f17:(xs 17)=.pointer (some ⟨w.heap.size,3,none⟩):=hf _ (m_ 17 rfl);have f18:(xs 18)=.slice B k d:=hf _ (m_ 18 rfl);have f19:(xs 19)=.int .i64 (k:Int):=hf _ (m_ 19 rfl);have f20:(xs 20)=.bool true:=hf _ (m_ 20 rfl);have f21:(xs 21)=.bool true:=hf _ (m_ 21 rfl);have f22:(xs 22)=.bool true:=hf _ (m_ 22 rfl);have f23:True:=hf _ (m_ 23 rfl);have f24:True:=hf _ (m_ 24 rfl);have f25:True:=hf _ (m_ 25 rfl);have f26:True:=hf _ (m_ 26 rfl);have f27:True:=hf _ (m_ 27 rfl);have f28:True:=hf _ (m_ 28 rfl);have f29:True:=hf _ (m_ 29 rfl)
      have f30:True:=hf _ (m_ 30 rfl);have f31:True:=hf _ (m_ 31 rfl);have f32:True:=hf _ (m_ 32 rfl);have f33:True:=hf _ (m_ 33 rfl);have f34:(xs 34)=.bool true:=hf _ (m_ 34 rfl);clear hf hn hd;simp only[FL]
      have B97:=zz hbf;have z97:=B97.out.size;have l2:=zz (B0.out.trans (B97.out.mono B0.out.size));clear hbf;generalize xs 0=x0,xs 1=x1,xs 2=x2,xs 3=x3,xs 4=x4,xs 5=x5,xs 6=x6,xs 7=x7,xs 8=x8,xs 9=x9,xs 10=x10,xs 11=x11,xs 12=x12,xs 13=x13,xs 14=x14,xs 15=x15,xs 16=x16,xs 17=x17,xs 18=x18,xs 19=x19,xs 20=x20,xs 21=x21,xs 22=x22,xs 23=x23,xs 24=x24,xs 25=x25,xs 26=x26,xs 27=x27,xs 28=x28,xs 29=x29,xs 30=x30,xs 31=x31,xs 32=x32,xs 33=x33,xs 34=x34 at *
      obtain rfl:=f0;obtain rfl:=f1;obtain rfl:=f2;obtain rfl:=f3;obtain rfl:=f4;obtain rfl:=f5;obtain rfl:=f6;obtain rfl:=f7;obtain rfl:=f8;obtain rfl:=f9;obtain rfl:=f10;obtain rfl:=f11;obtain rfl:=f12;obtain rfl:=f13;obtain rfl:=f14;obtain rfl:=f15;obtain rfl:=f16;obtain rfl:=f17;obtain rfl:=f18;obtain rfl:=f19;obtain rfl:=f20;obtain rfl:=f21;obtain rfl:=f22;clear f23;clear f24;clear f25;clear f26;clear f27;clear f28;clear f29;clear f30;clear f31;clear f32;clear f33;obtain rfl:=f34;refine Early.done (by kernel_rfl) ?_ _;(try simp only[Exit.then])
      go_wp2;go_ret;exact⟨l2.out,by rw[HR.out,chkQ_none HNO.out];rfl⟩
    ·have n2:((k:Int)==0)=false:=by rw[beq_eq_false_iff_ne];omega
     have hy1:y.natAbs≠0:=fun h=>hk (by have h1:=HEB.out;rw[BY.out,ni_length,h,dig_zero] at h1;exact h1)
     have hy0:0<y:=by
      have h3:=NY.out;rcases Int.lt_or_le y 0 with h4 | h4
      ·rw[decide_eq_true h4] at h3;cases h3
      ·omega
     have HY0:=zz hy0;have HY1:=zz hy1;clear hy0 hy1 hk;obtain⟨g,hg⟩:∃ g,g=Nat.gcd x.natAbs y.natAbs:=⟨_,rfl⟩;have HG:=zz hg;clear hg;have HA1:=zz (show RN w0 w0.heap.size (.slice A l c) (dig x.natAbs) from by have h1:RI w0 w0.heap.size (.slice A l c) a:=lr_is HA.out;rw[AX.out] at h1;exact h1);have c2:=zz (show RN w0 w0.heap.size (.slice B k d) (dig y.natAbs) from by have h1:RI w0 w0.heap.size (.slice B k d) b:=lr_is HB.out;rw[BY.out] at h1;exact h1);by_cases hg1:g=1
     ·have HG1:=zz hg1;clear hg1;have S17:=zz (show qOf n a false b=some (mkRat x y.natAbs) by rw[qOf_both HX.out HY.out,if_pos ⟨HY0.out,by rw[← HG.out];exact HG1.out⟩]);go_enter Tryz.func8,Tryz.ntmps8
      go_upto_region 1 with (fail)
      rw[← hw0];clear hw0
      refine Flow.run [⟨0,3,fun fv fw=>fv=.pointer (some ⟨w.heap.size,0,none⟩)⟩,⟨1,4,fun fv fw=>fv=.agg #[.bool n,.slice A l c]⟩,⟨2,5,fun fv fw=>fv=.int .i64 0⟩,⟨3,6,fun fv fw=>fv=.bool false⟩,⟨4,7,fun fv fw=>fv=.bool false⟩,⟨5,8,fun fv fw=>fv=.pointer (some ⟨w.heap.size,2,none⟩)⟩,⟨6,9,fun fv fw=>fv=.agg #[.bool false,.slice B k d]⟩,⟨7,10,fun fv fw=>fv=.int .i64 0⟩,⟨8,11,fun fv fw=>fv=.bool false⟩,⟨9,12,fun fv fw=>fv=.bool false⟩,⟨10,13,fun fv fw=>fv=.bool false⟩,⟨11,14,fun fv fw=>fv=.pointer (some ⟨w.heap.size,2,none⟩)⟩,⟨12,15,fun fv fw=>fv=.pointer (some ⟨w.heap.size,2,none⟩)⟩,⟨13,16,fun fv fw=>fv=.bool false⟩,⟨14,17,fun fv fw=>fv=.bool false⟩,⟨15,18,fun fv fw=>fv=.bool false⟩,⟨16,19,fun fv fw=>fv=.pointer (some ⟨w.heap.size,2,none⟩)⟩,⟨17,20,fun fv fw=>fv=.pointer (some ⟨w.heap.size,3,none⟩)⟩,⟨18,21,fun fv fw=>fv=.slice B k d⟩,⟨19,22,fun fv fw=>fv=.int .i64 (k:Int)⟩,⟨20,23,fun fv fw=>fv=.bool false⟩,⟨21,24,fun fv fw=>fv=.bool false⟩,⟨22,25,fun fv fw=>fv=.bool false⟩,⟨23,26,fun fv fw=>fv=.agg #[.bool n,.slice A l c,.bool false,.slice B k d]⟩,⟨24,27,fun fv fw=>fv=.agg #[.bool n,.slice A l c,.slice B k d]⟩,⟨25,28,fun fv fw=>fv=.agg #[.bool n,.slice A l c]⟩,⟨26,29,fun fv fw=>fv=.slice A l c⟩,⟨27,30,fun fv fw=>fv=.pointer (some ⟨w.heap.size,2,none⟩)⟩,⟨28,31,fun fv fw=>fv=.pointer (some ⟨w.heap.size,3,none⟩)⟩,⟨29,32,fun fv fw=>fv=.slice B k d⟩,⟨30,33,fun fv fw=>RN fw fw.heap.size fv (dig g)⟩,⟨31,34,fun fv fw=>RN fw fw.heap.size fv (dig 1)⟩,⟨32,35,fun fv fw=>∃ c:Int,fv=.int .i64 c∧SignOf c (g) (1)⟩,⟨33,36,fun fv fw=>fv=.bool false⟩,⟨34,37,fun fv fw=>fv=.bool false⟩] [] [] 0 (by kernel_rfl) (by kernel_rfl) (by kernel_rfl) (fun _ _ _ _ _ h=>h) ?_ ?_ ?_ ?_
      ·refine(a0 (a0 (a0 (a0 (a0 (a0 (a0 (a0 (a0 (a0 (a0 (a0 (a0 (a0 (a0 (a0 (a0 (a0 (a0 (a0 (a0 (a0 (a0 (a0 (a0 (a0 (a0 (a0 (a0 (a0 (all_cons (fun v w1 w2 h hb=>h.step hb) (all_cons (fun v w1 w2 h hb=>h.step hb) (a0 (a0 (a0 all_nil)))))))))))))))))))))))))))))))))))
      ·refine(all_cons ?_ (all_cons ?_ (all_cons ?_ (all_cons ?_ (all_cons ?_ (all_cons ?_ (all_cons ?_ (all_cons ?_ (all_cons ?_ (all_cons ?_ (all_cons ?_ (all_cons ?_ (all_cons ?_ (all_cons ?_ (all_cons ?_ (all_cons ?_ (all_cons ?_ (all_cons ?_ (all_cons ?_ (all_cons ?_ (all_cons ?_ (all_cons ?_ (all_cons ?_ (all_cons ?_ (all_cons ?_ (all_cons ?_ (all_cons ?_ (all_cons ?_ (all_cons ?_ (all_cons ?_ (all_cons ?_ (all_cons ?_ (all_cons ?_ (all_cons ?_ (all_cons ?_ all_nil)))))))))))))))))))))))))))))))))))
       ·intro xs A17 c0 b0;clear c0;clear b0;refine wpOp_step (o:=_) rfl (fun K hK=>?_);simp only[FL]
        go_simp;refine hK _ _ ⟨.pointer (some ⟨w.heap.size,0,none⟩),by kernel_rfl,Below.refl _ _,rfl,nF⟩
       ·intro xs o9 c0 b0;have D0:=zz c0;have p9:=c0.size;clear c0;have f0:(xs 0)=.pointer (some ⟨w.heap.size,0,none⟩):=b0 _ (m_ 0 rfl) (by kernel_rfl);clear b0;refine wpOp_step (o:=_) rfl (fun K hK=>?_);simp only[FL]
        have i0:=CB.step La D0.out;have o2:=i0.cell 0 rfl;have p2:=i0.cell 1 rfl;go_simp;refine hK _ _ ⟨.agg #[.bool n,.slice A l c],by simp only[FL,f0] <;> kernel_rfl,Below.refl _ _,rfl,nF⟩
       ·intro xs q9 c0 b0;have E0:=zz c0;have r9:=c0.size;clear c0;have f1:(xs 1)=.agg #[.bool n,.slice A l c]:=b0 _ (m_ 1 rfl) (by kernel_rfl);clear b0;refine wpOp_step (o:=_) rfl (fun K hK=>?_);simp only[FL]
        go_simp;have F0:=zz (LR.step HA.out E0.out);(with_reducible refine(Check_good F0.out HVA.out).mono ?_)
        rintro e wc105 ⟨F1,rfl⟩;refine hK _ _ ⟨.int .i64 0,by simp only[FL,f1] <;> kernel_rfl,F1,rfl,nF⟩
       ·intro xs s9 c0 b0;clear c0;have f2:(xs 2)=.int .i64 0:=b0 _ (m_ 2 rfl) (by kernel_rfl);clear b0;refine wpOp_step (o:=_) rfl (fun K hK=>?_);simp only[FL]
        go_simp;refine hK _ _ ⟨.bool false,by simp only[FL,f2] <;> kernel_rfl,Below.refl _ _,rfl,nF⟩
       ·intro xs u9 c0 b0;clear c0;have f3:(xs 3)=.bool false:=b0 _ (m_ 3 rfl) (by kernel_rfl);clear b0;refine wpOp_step (o:=_) rfl (fun K hK=>?_);simp only[FL]
        go_simp;refine hK _ _ ⟨.bool false,by simp only[FL,f3] <;> kernel_rfl,Below.refl _ _,rfl,nF⟩
       ·intro xs w9 c0 b0;clear c0;have f4:(xs 4)=.bool false:=b0 _ (m_ 4 rfl) (by kernel_rfl);clear b0;refine wpOp_step (o:=?_) ?t2 ?_
        case t2=>exact rfl
        intro K hK;simp only[FL]
        go_simp;refine hK _ _ ⟨.pointer (some ⟨w.heap.size,2,none⟩),by simp only[FL,f4] <;> kernel_rfl,Below.refl _ _,rfl,nF⟩
       ·intro xs z9 c0 b0;have G0:=zz c0;have A9:=c0.size;clear c0;have f4:(xs 4)=.bool false:=b0 _ (m_ 4 rfl) (by kernel_rfl);have f5:(xs 5)=.pointer (some ⟨w.heap.size,2,none⟩):=b0 _ (m_ 5 rfl) (by kernel_rfl);clear b0;refine wpOp_step (o:=?_) ?u2 ?_
        case u2=>exact rfl
        intro K hK;simp only[FL]
        have j0:=CB.step La G0.out;have v2:=j0.cell 2 rfl;have y2:=j0.cell 3 rfl;go_simp;refine hK _ _ ⟨.agg #[.bool false,.slice B k d],by simp only[FL,f4,f5] <;> kernel_rfl,Below.refl _ _,rfl,nF⟩
       ·intro xs B9 c0 b0;have H0:=zz c0;have C9:=c0.size;clear c0;have f4:(xs 4)=.bool false:=b0 _ (m_ 4 rfl) (by kernel_rfl);have f6:(xs 6)=.agg #[.bool false,.slice B k d]:=b0 _ (m_ 6 rfl) (by kernel_rfl);clear b0;refine wpOp_step (o:=?_) ?z2 ?_
        case z2=>exact rfl
        intro K hK;simp only[FL]
        go_simp;have I0:=zz (LR.step HB.out H0.out);(with_reducible refine(Check_good I0.out HVB.out).mono ?_)
        rintro e wc114 ⟨G1,rfl⟩;refine hK _ _ ⟨.int .i64 0,by simp only[FL,f4,f6] <;> kernel_rfl,G1,rfl,nF⟩
       ·intro xs D9 c0 b0;clear c0;have f4:(xs 4)=.bool false:=b0 _ (m_ 4 rfl) (by kernel_rfl);have f7:(xs 7)=.int .i64 0:=b0 _ (m_ 7 rfl) (by kernel_rfl);clear b0;refine wpOp_step (o:=?_) ?B2 ?_
        case B2=>exact rfl
        intro K hK;simp only[FL]
        go_simp;refine hK _ _ ⟨.bool false,by simp only[FL,f4,f7] <;> kernel_rfl,Below.refl _ _,rfl,nF⟩
       ·intro xs F9 c0 b0;clear c0;have f4:(xs 4)=.bool false:=b0 _ (m_ 4 rfl) (by kernel_rfl);have f8:(xs 8)=.bool false:=b0 _ (m_ 8 rfl) (by kernel_rfl);clear b0;refine wpOp_step (o:=_) rfl (fun K hK=>?_);simp only[FL]
        go_simp;refine hK _ _ ⟨.bool false,by simp only[FL,f4,f8] <;> kernel_rfl,Below.refl _ _,rfl,nF⟩
       ·intro xs H9 c0 b0;clear c0;have f9:(xs 9)=.bool false:=b0 _ (m_ 9 rfl) (by kernel_rfl);clear b0;refine wpOp_step (o:=_) rfl (fun K hK=>?_);simp only[FL]
        go_simp;refine hK _ _ ⟨.bool false,by simp only[FL,f9] <;> kernel_rfl,Below.refl _ _,rfl,nF⟩
       ·intro xs J9 c0 b0;clear c0;have f10:(xs 10)=.bool false:=b0 _ (m_ 10 rfl) (by kernel_rfl);clear b0;refine wpOp_step (o:=?_) ?F2 ?_
        case F2=>exact rfl
        intro K hK;simp only[FL]
        go_simp;refine hK _ _ ⟨.pointer (some ⟨w.heap.size,2,none⟩),by simp only[FL,f10] <;> kernel_rfl,Below.refl _ _,rfl,nF⟩
       ·intro xs L9 c0 b0;clear c0;have f10:(xs 10)=.bool false:=b0 _ (m_ 10 rfl) (by kernel_rfl);have f11:(xs 11)=.pointer (some ⟨w.heap.size,2,none⟩):=b0 _ (m_ 11 rfl) (by kernel_rfl);clear b0;refine wpOp_step (o:=?_) ?H2 ?_
        case H2=>exact rfl
        intro K hK;simp only[FL]
        go_simp;refine hK _ _ ⟨.pointer (some ⟨w.heap.size,2,none⟩),by simp only[FL,f10,f11] <;> kernel_rfl,Below.refl _ _,rfl,nF⟩
       ·intro xs N9 c0 b0;have J0:=zz c0;have O9:=c0.size;clear c0;have f10:(xs 10)=.bool false:=b0 _ (m_ 10 rfl) (by kernel_rfl);have f12:(xs 12)=.pointer (some ⟨w.heap.size,2,none⟩):=b0 _ (m_ 12 rfl) (by kernel_rfl);clear b0;refine wpOp_step (o:=?_) ?I2 ?_
        case I2=>exact rfl
        intro K hK;simp only[FL]
        have K0:=CB.step La J0.out;have J2:=K0.cell 2 rfl;go_simp;refine hK _ _ ⟨.bool false,by simp only[FL,f10,f12] <;> kernel_rfl,Below.refl _ _,rfl,nF⟩
       ·intro xs P9 c0 b0;clear c0;have f10:(xs 10)=.bool false:=b0 _ (m_ 10 rfl) (by kernel_rfl);have f13:(xs 13)=.bool false:=b0 _ (m_ 13 rfl) (by kernel_rfl);clear b0;refine wpOp_step (o:=_) rfl (fun K hK=>?_);simp only[FL]
        go_simp;refine hK _ _ ⟨.bool false,by simp only[FL,f10,f13] <;> kernel_rfl,Below.refl _ _,rfl,nF⟩
       ·intro xs R9 c0 b0;clear c0;have f14:(xs 14)=.bool false:=b0 _ (m_ 14 rfl) (by kernel_rfl);clear b0;refine wpOp_step (o:=_) rfl (fun K hK=>?_);simp only[FL]
        go_simp;refine hK _ _ ⟨.bool false,by simp only[FL,f14] <;> kernel_rfl,Below.refl _ _,rfl,nF⟩
       ·intro xs T9 c0 b0;clear c0;have f15:(xs 15)=.bool false:=b0 _ (m_ 15 rfl) (by kernel_rfl);clear b0;refine wpOp_step (o:=?_) ?N2 ?_
        case N2=>exact rfl
        intro K hK;simp only[FL]
        go_simp;refine hK _ _ ⟨.pointer (some ⟨w.heap.size,2,none⟩),by simp only[FL,f15] <;> kernel_rfl,Below.refl _ _,rfl,nF⟩
       ·intro xs V9 c0 b0;clear c0;have f15:(xs 15)=.bool false:=b0 _ (m_ 15 rfl) (by kernel_rfl);have f16:(xs 16)=.pointer (some ⟨w.heap.size,2,none⟩):=b0 _ (m_ 16 rfl) (by kernel_rfl);clear b0;refine wpOp_step (o:=?_) ?P2 ?_
        case P2=>exact rfl
        intro K hK;simp only[FL]
        go_simp;refine hK _ _ ⟨.pointer (some ⟨w.heap.size,3,none⟩),by simp only[FL,f15,f16] <;> kernel_rfl,Below.refl _ _,rfl,nF⟩
       ·intro xs X9 c0 b0;have L0:=zz c0;have Y9:=c0.size;clear c0;have f15:(xs 15)=.bool false:=b0 _ (m_ 15 rfl) (by kernel_rfl);have f17:(xs 17)=.pointer (some ⟨w.heap.size,3,none⟩):=b0 _ (m_ 17 rfl) (by kernel_rfl);clear b0;refine wpOp_step (o:=?_) ?Q2 ?_
        case Q2=>exact rfl
        intro K hK;simp only[FL]
        have M0:=CB.step La L0.out;have R2:=M0.cell 3 rfl;go_simp;refine hK _ _ ⟨.slice B k d,by simp only[FL,f15,f17] <;> kernel_rfl,Below.refl _ _,rfl,nF⟩
       ·intro xs Z9 c0 b0;clear c0;have f15:(xs 15)=.bool false:=b0 _ (m_ 15 rfl) (by kernel_rfl);have f18:(xs 18)=.slice B k d:=b0 _ (m_ 18 rfl) (by kernel_rfl);clear b0;refine wpOp_step (o:=?_) ?T2 ?_
        case T2=>exact rfl
        intro K hK;simp only[FL]
        go_simp;refine hK _ _ ⟨.int .i64 (k:Int),by simp only[FL,f15,f18] <;> kernel_rfl,Below.refl _ _,rfl,nF⟩
       ·intro xs b10 c0 b0;clear c0;have f15:(xs 15)=.bool false:=b0 _ (m_ 15 rfl) (by kernel_rfl);have f19:(xs 19)=.int .i64 (k:Int):=b0 _ (m_ 19 rfl) (by kernel_rfl);clear b0;refine wpOp_step (o:=?_) ?V2 ?_
        case V2=>exact rfl
        intro K hK;simp only[FL]
        go_simp;refine hK _ _ ⟨.bool false,by simp only[FL,f15,f19] <;> kernel_rfl,Below.refl _ _,rfl,nF⟩
       ·intro xs d10 c0 b0;clear c0;have f15:(xs 15)=.bool false:=b0 _ (m_ 15 rfl) (by kernel_rfl);have f20:(xs 20)=.bool false:=b0 _ (m_ 20 rfl) (by kernel_rfl);clear b0;refine wpOp_step (o:=_) rfl (fun K hK=>?_);simp only[FL]
        go_simp;refine hK _ _ ⟨.bool false,by simp only[FL,f15,f20] <;> kernel_rfl,Below.refl _ _,rfl,nF⟩
       ·intro xs g10 c0 b0;clear c0;have f21:(xs 21)=.bool false:=b0 _ (m_ 21 rfl) (by kernel_rfl);clear b0;refine wpOp_step (o:=_) rfl (fun K hK=>?_);simp only[FL]
        go_simp;refine hK _ _ ⟨.bool false,by simp only[FL,f21] <;> kernel_rfl,Below.refl _ _,rfl,nF⟩
       ·intro xs i10 c0 b0;have N0:=zz c0;have j10:=c0.size;clear c0;have f22:(xs 22)=.bool false:=b0 _ (m_ 22 rfl) (by kernel_rfl);clear b0;refine wpOp_step (o:=?_) ?Y2 ?_
        case Y2=>exact rfl
        intro K hK;simp only[FL]
        have d0:=CB.step La N0.out;have Z2:=d0.cell 0 rfl;have a3:=d0.cell 1 rfl;have b3:=d0.cell 2 rfl;have c3:=d0.cell 3 rfl;go_simp;refine hK _ _ ⟨.agg #[.bool n,.slice A l c,.bool false,.slice B k d],by simp only[FL,f22] <;> kernel_rfl,Below.refl _ _,rfl,nF⟩
       ·intro xs k10 c0 b0;clear c0;have f22:(xs 22)=.bool false:=b0 _ (m_ 22 rfl) (by kernel_rfl);have f23:(xs 23)=.agg #[.bool n,.slice A l c,.bool false,.slice B k d]:=b0 _ (m_ 23 rfl) (by kernel_rfl);clear b0;refine wpOp_step (o:=?_) ?e3 ?_
        case e3=>exact rfl
        intro K hK;simp only[FL]
        go_simp;(with_reducible refine(Read_any _ n false A B l c k d).mono ?_)
        rintro e wc138 ⟨H1,rfl⟩;refine hK _ _ ⟨.agg #[.bool n,.slice A l c,.slice B k d],by simp only[FL,f22,f23] <;> kernel_rfl,H1,rfl,nF⟩
       ·intro xs m10 c0 b0;clear c0;have f22:(xs 22)=.bool false:=b0 _ (m_ 22 rfl) (by kernel_rfl);have f24:(xs 24)=.agg #[.bool n,.slice A l c,.slice B k d]:=b0 _ (m_ 24 rfl) (by kernel_rfl);clear b0;refine wpOp_step (o:=?_) ?i3 ?_
        case i3=>exact rfl
        intro K hK;simp only[FL]
        go_simp;refine hK _ _ ⟨.agg #[.bool n,.slice A l c],by simp only[FL,f22,f24] <;> kernel_rfl,Below.refl _ _,rfl,nF⟩
       ·intro xs o10 c0 b0;clear c0;have f22:(xs 22)=.bool false:=b0 _ (m_ 22 rfl) (by kernel_rfl);have f25:(xs 25)=.agg #[.bool n,.slice A l c]:=b0 _ (m_ 25 rfl) (by kernel_rfl);clear b0;refine wpOp_step (o:=?_) ?k3 ?_
        case k3=>exact rfl
        intro K hK;simp only[FL]
        go_simp;refine hK _ _ ⟨.slice A l c,by simp only[FL,f22,f25] <;> kernel_rfl,Below.refl _ _,rfl,nF⟩
       ·intro xs q10 c0 b0;clear c0;have f22:(xs 22)=.bool false:=b0 _ (m_ 22 rfl) (by kernel_rfl);clear b0;refine wpOp_step (o:=?_) ?m3 ?_
        case m3=>exact rfl
        intro K hK;simp only[FL]
        go_simp;refine hK _ _ ⟨.pointer (some ⟨w.heap.size,2,none⟩),by simp only[FL,f22] <;> kernel_rfl,Below.refl _ _,rfl,nF⟩
       ·intro xs s10 c0 b0;clear c0;have f22:(xs 22)=.bool false:=b0 _ (m_ 22 rfl) (by kernel_rfl);have f27:(xs 27)=.pointer (some ⟨w.heap.size,2,none⟩):=b0 _ (m_ 27 rfl) (by kernel_rfl);clear b0;refine wpOp_step (o:=?_) ?o3 ?_
        case o3=>exact rfl
        intro K hK;simp only[FL]
        go_simp;refine hK _ _ ⟨.pointer (some ⟨w.heap.size,3,none⟩),by simp only[FL,f22,f27] <;> kernel_rfl,Below.refl _ _,rfl,nF⟩
       ·intro xs u10 c0 b0;have O0:=zz c0;have v10:=c0.size;clear c0;have f22:(xs 22)=.bool false:=b0 _ (m_ 22 rfl) (by kernel_rfl);have f28:(xs 28)=.pointer (some ⟨w.heap.size,3,none⟩):=b0 _ (m_ 28 rfl) (by kernel_rfl);clear b0;refine wpOp_step (o:=?_) ?p3 ?_
        case p3=>exact rfl
        intro K hK;simp only[FL]
        have P0:=CB.step La O0.out;have q3:=P0.cell 3 rfl;go_simp;refine hK _ _ ⟨.slice B k d,by simp only[FL,f22,f28] <;> kernel_rfl,Below.refl _ _,rfl,nF⟩
       ·intro xs w10 c0 b0;have k0:=zz c0;have y10:=c0.size;clear c0;have f22:(xs 22)=.bool false:=b0 _ (m_ 22 rfl) (by kernel_rfl);have f26:(xs 26)=.slice A l c:=b0 _ (m_ 26 rfl) (by kernel_rfl);have f29:(xs 29)=.slice B k d:=b0 _ (m_ 29 rfl) (by kernel_rfl);clear b0;refine wpOp_step (o:=?_) ?r3 ?_
        case r3=>exact rfl
        intro K hK;simp only[FL]
        go_simp;have u0:=zz (RN.step HA1.out k0.out);have v0:=zz (RN.step c2.out k0.out);(with_reducible refine((show Calls Tryz.prog _ _ _ _ from HG.out▸Common_any _ _ _ x.natAbs y.natAbs u0.out v0.out (by have:=HL.out;omega) (by have:=HL.out;omega))).mono ?_)
        rintro e wc149 ⟨I1,v149,rfl,J1⟩;refine hK _ _ ⟨v149,by simp only[FL,f22,f26,f29] <;> kernel_rfl,I1,J1,nF⟩
       ·intro xs z10 c0 b0;clear c0;have f22:(xs 22)=.bool false:=b0 _ (m_ 22 rfl) (by kernel_rfl);clear b0;refine wpOp_step (o:=?_) ?t3 ?_
        case t3=>exact rfl
        intro K hK;simp only[FL]
        go_simp;(with_reducible refine(one_any _).mono ?_)
        rintro e wc151 ⟨K1,v151,rfl,L1⟩;refine hK _ _ ⟨v151,by simp only[FL,f22] <;> kernel_rfl,K1,L1,nF⟩
       ·intro xs g0 c0 b0;clear c0;have f22:(xs 22)=.bool false:=b0 _ (m_ 22 rfl) (by kernel_rfl);have f30:RN g0 g0.heap.size (xs 30) (dig g):=b0 _ (m_ 30 rfl) (by kernel_rfl);have f31:RN g0 g0.heap.size (xs 31) (dig 1):=b0 _ (m_ 31 rfl) (by kernel_rfl);clear b0;refine wpOp_step (o:=?_) ?v3 ?_
        case v3=>exact rfl
        intro K hK;simp only[FL]
        go_simp;(with_reducible refine(Cmp_any _ _ _ g 1 f30 f31).mono ?_)
        rintro e wc153 ⟨M1,c153,rfl,hc153⟩;refine hK _ _ ⟨.int .i64 c153,by simp only[FL,f22] <;> kernel_rfl,M1,⟨c153,rfl,hc153⟩,nF⟩
       ·intro xs C10 c0 b0;have w3:=zz c0;have D10:=c0.size;clear c0;have f22:(xs 22)=.bool false:=b0 _ (m_ 22 rfl) (by kernel_rfl);have f32:∃ c:Int,(xs 32)=.int .i64 c∧SignOf c (g) (1):=b0 _ (m_ 32 rfl) (by kernel_rfl);clear b0;refine wpOp_step (o:=?_) ?y3 ?_
        case y3=>exact rfl
        intro K hK;simp only[FL]
        obtain⟨c,hc,hs⟩:=f32;unfold SignOf at hs;have hq:(c != 0)=false:=by have h1:=HG1.out;rw[bne_eq_false_iff_eq];omega
        rw[hc];clear hs;go_simp;refine hK _ _ ⟨.bool false,by simp only[FL,f22,hc] <;> kernel_rfl,Below.refl _ _,rfl,nF⟩
       ·intro xs E10 c0 b0;clear c0;have f22:(xs 22)=.bool false:=b0 _ (m_ 22 rfl) (by kernel_rfl);have f33:(xs 33)=.bool false:=b0 _ (m_ 33 rfl) (by kernel_rfl);clear b0;refine wpOp_step (o:=_) rfl (fun K hK=>?_);simp only[FL]
        go_simp;refine hK _ _ ⟨.bool false,by simp only[FL,f22,f33] <;> kernel_rfl,Below.refl _ _,rfl,nF⟩
      ·exact all_nil
      ·intro xs E17 hbf hf hn hd;have f0:(xs 0)=.pointer (some ⟨w.heap.size,0,none⟩):=hf _ (m_ 0 rfl);have f1:(xs 1)=.agg #[.bool n,.slice A l c]:=hf _ (m_ 1 rfl);have f2:(xs 2)=.int .i64 0:=hf _ (m_ 2 rfl);have f3:(xs 3)=.bool false:=hf _ (m_ 3 rfl);have f4:(xs 4)=.bool false:=hf _ (m_ 4 rfl);have f5:(xs 5)=.pointer (some ⟨w.heap.size,2,none⟩):=hf _ (m_ 5 rfl);have f6:(xs 6)=.agg #[.bool false,.slice B k d]:=hf _ (m_ 6 rfl);have f7:(xs 7)=.int .i64 0:=hf _ (m_ 7 rfl);have f8:(xs 8)=.bool false:=hf _ (m_ 8 rfl);have f9:(xs 9)=.bool false:=hf _ (m_ 9 rfl);have f10:(xs 10)=.bool false:=hf _ (m_ 10 rfl);have f11:(xs 11)=.pointer (some ⟨w.heap.size,2,none⟩):=hf _ (m_ 11 rfl);have f12:(xs 12)=.pointer (some ⟨w.heap.size,2,none⟩):=hf _ (m_ 12 rfl);have f13:(xs 13)=.bool false:=hf _ (m_ 13 rfl);have f14:(xs 14)=.bool false:=hf _ (m_ 14 rfl);have f15:(xs 15)=.bool false:=hf _ (m_ 15 rfl);have f16:(xs 16)=.pointer (some ⟨w.heap.size,2,none⟩):=hf _ (m_ 16 rfl);have f17:(xs 17)=.pointer (some ⟨w.heap.size,3,none⟩):=hf _ (m_ 17 rfl);have f18:(xs 18)=.slice B k d:=hf _ (m_ 18 rfl);have f19:(xs 19)=.int .i64 (k:Int):=hf _ (m_ 19 rfl);have f20:(xs 20)=.bool false:=hf _ (m_ 20 rfl);have f21:(xs 21)=.bool false:=hf _ (m_ 21 rfl);have f22:(xs 22)=.bool false:=hf _ (m_ 22 rfl);have f23:(xs 23)=.agg #[.bool n,.slice A l c,.bool false,.slice B k d]:=hf _ (m_ 23 rfl);have f24:(xs 24)=.agg #[.bool n,.slice A l c,.slice B k d]:=hf _ (m_ 24 rfl)
       have f25:(xs 25)=.agg #[.bool n,.slice A l c]:=hf _ (m_ 25 rfl);have f26:(xs 26)=.slice A l c:=hf _ (m_ 26 rfl);have f27:(xs 27)=.pointer (some ⟨w.heap.size,2,none⟩):=hf _ (m_ 27 rfl);have f28:(xs 28)=.pointer (some ⟨w.heap.size,3,none⟩):=hf _ (m_ 28 rfl);have f29:(xs 29)=.slice B k d:=hf _ (m_ 29 rfl);have f30:RN E17 E17.heap.size (xs 30) (dig g):=hf _ (m_ 30 rfl);have f31:RN E17 E17.heap.size (xs 31) (dig 1):=hf _ (m_ 31 rfl);have f32:∃ c:Int,(xs 32)=.int .i64 c∧SignOf c (g) (1):=hf _ (m_ 32 rfl);have f33:(xs 33)=.bool false:=hf _ (m_ 33 rfl);have f34:(xs 34)=.bool false:=hf _ (m_ 34 rfl);clear hf hn hd;simp only[FL]
       have B157:=zz hbf;have z157:=B157.out.size;have N1:=zz (B0.out.trans (B157.out.mono B0.out.size));clear hbf;generalize xs 0=x0,xs 1=x1,xs 2=x2,xs 3=x3,xs 4=x4,xs 5=x5,xs 6=x6,xs 7=x7,xs 8=x8,xs 9=x9,xs 10=x10,xs 11=x11,xs 12=x12,xs 13=x13,xs 14=x14,xs 15=x15,xs 16=x16,xs 17=x17,xs 18=x18,xs 19=x19,xs 20=x20,xs 21=x21,xs 22=x22,xs 23=x23,xs 24=x24,xs 25=x25,xs 26=x26,xs 27=x27,xs 28=x28,xs 29=x29,xs 30=x30,xs 31=x31,xs 32=x32,xs 33=x33,xs 34=x34 at *
       obtain rfl:=f0;obtain rfl:=f1;obtain rfl:=f2;obtain rfl:=f3;obtain rfl:=f4;obtain rfl:=f5;obtain rfl:=f6;obtain rfl:=f7;obtain rfl:=f8;obtain rfl:=f9;obtain rfl:=f10;obtain rfl:=f11;obtain rfl:=f12;obtain rfl:=f13;obtain rfl:=f14;obtain rfl:=f15;obtain rfl:=f16;obtain rfl:=f17;obtain rfl:=f18;obtain rfl:=f19;obtain rfl:=f20;obtain rfl:=f21;obtain rfl:=f22;obtain rfl:=f23;obtain rfl:=f24;obtain rfl:=f25;obtain rfl:=f26;obtain rfl:=f27;obtain rfl:=f28;obtain rfl:=f29;clear f30;clear f31;clear f32;obtain rfl:=f33;obtain rfl:=f34;refine Early.done (by kernel_rfl) ?_ _;(try simp only[Exit.then])
       go_wp2;go_ret;exact⟨N1.out,by rw[HR.out,chkQ_some S17.out];rfl⟩
     ·have HG1:=zz hg1;clear hg1;have HNO:=zz (show qOf n a false b=none by rw[qOf_both HX.out HY.out,if_neg (fun h=>HG1.out (by rw[HG.out];exact h.2))]);go_enter Tryz.func8,Tryz.ntmps8
      go_upto_region 1 with (fail)
      rw[← hw0];clear hw0
      refine Flow.run [⟨0,3,fun fv fw=>fv=.pointer (some ⟨w.heap.size,0,none⟩)⟩,⟨1,4,fun fv fw=>fv=.agg #[.bool n,.slice A l c]⟩,⟨2,5,fun fv fw=>fv=.int .i64 0⟩,⟨3,6,fun fv fw=>fv=.bool false⟩,⟨4,7,fun fv fw=>fv=.bool false⟩,⟨5,8,fun fv fw=>fv=.pointer (some ⟨w.heap.size,2,none⟩)⟩,⟨6,9,fun fv fw=>fv=.agg #[.bool false,.slice B k d]⟩,⟨7,10,fun fv fw=>fv=.int .i64 0⟩,⟨8,11,fun fv fw=>fv=.bool false⟩,⟨9,12,fun fv fw=>fv=.bool false⟩,⟨10,13,fun fv fw=>fv=.bool false⟩,⟨11,14,fun fv fw=>fv=.pointer (some ⟨w.heap.size,2,none⟩)⟩,⟨12,15,fun fv fw=>fv=.pointer (some ⟨w.heap.size,2,none⟩)⟩,⟨13,16,fun fv fw=>fv=.bool false⟩,⟨14,17,fun fv fw=>fv=.bool false⟩,⟨15,18,fun fv fw=>fv=.bool false⟩,⟨16,19,fun fv fw=>fv=.pointer (some ⟨w.heap.size,2,none⟩)⟩,⟨17,20,fun fv fw=>fv=.pointer (some ⟨w.heap.size,3,none⟩)⟩,⟨18,21,fun fv fw=>fv=.slice B k d⟩,⟨19,22,fun fv fw=>fv=.int .i64 (k:Int)⟩,⟨20,23,fun fv fw=>fv=.bool false⟩,⟨21,24,fun fv fw=>fv=.bool false⟩,⟨22,25,fun fv fw=>fv=.bool false⟩,⟨23,26,fun fv fw=>fv=.agg #[.bool n,.slice A l c,.bool false,.slice B k d]⟩,⟨24,27,fun fv fw=>fv=.agg #[.bool n,.slice A l c,.slice B k d]⟩,⟨25,28,fun fv fw=>fv=.agg #[.bool n,.slice A l c]⟩,⟨26,29,fun fv fw=>fv=.slice A l c⟩,⟨27,30,fun fv fw=>fv=.pointer (some ⟨w.heap.size,2,none⟩)⟩,⟨28,31,fun fv fw=>fv=.pointer (some ⟨w.heap.size,3,none⟩)⟩,⟨29,32,fun fv fw=>fv=.slice B k d⟩,⟨30,33,fun fv fw=>RN fw fw.heap.size fv (dig g)⟩,⟨31,34,fun fv fw=>RN fw fw.heap.size fv (dig 1)⟩,⟨32,35,fun fv fw=>∃ c:Int,fv=.int .i64 c∧SignOf c (g) (1)⟩,⟨33,36,fun fv fw=>fv=.bool true⟩,⟨34,37,fun fv fw=>fv=.bool true⟩] [] [] 0 (by kernel_rfl) (by kernel_rfl) (by kernel_rfl) (fun _ _ _ _ _ h=>h) ?_ ?_ ?_ ?_
      ·refine(a0 (a0 (a0 (a0 (a0 (a0 (a0 (a0 (a0 (a0 (a0 (a0 (a0 (a0 (a0 (a0 (a0 (a0 (a0 (a0 (a0 (a0 (a0 (a0 (a0 (a0 (a0 (a0 (a0 (a0 (all_cons (fun v w1 w2 h hb=>h.step hb) (all_cons (fun v w1 w2 h hb=>h.step hb) (a0 (a0 (a0 all_nil)))))))))))))))))))))))))))))))))))
      ·refine(all_cons ?_ (all_cons ?_ (all_cons ?_ (all_cons ?_ (all_cons ?_ (all_cons ?_ (all_cons ?_ (all_cons ?_ (all_cons ?_ (all_cons ?_ (all_cons ?_ (all_cons ?_ (all_cons ?_ (all_cons ?_ (all_cons ?_ (all_cons ?_ (all_cons ?_ (all_cons ?_ (all_cons ?_ (all_cons ?_ (all_cons ?_ (all_cons ?_ (all_cons ?_ (all_cons ?_ (all_cons ?_ (all_cons ?_ (all_cons ?_ (all_cons ?_ (all_cons ?_ (all_cons ?_ (all_cons ?_ (all_cons ?_ (all_cons ?_ (all_cons ?_ (all_cons ?_ all_nil)))))))))))))))))))))))))))))))))))
       ·intro xs G10 c0 b0;clear c0;clear b0;refine wpOp_step (o:=_) rfl (fun K hK=>?_);simp only[FL]
        go_simp;refine hK _ _ ⟨.pointer (some ⟨w.heap.size,0,none⟩),by kernel_rfl,Below.refl _ _,rfl,nF⟩
       ·intro xs I10 c0 b0;have Q0:=zz c0;have J10:=c0.size;clear c0;have f0:(xs 0)=.pointer (some ⟨w.heap.size,0,none⟩):=b0 _ (m_ 0 rfl) (by kernel_rfl);clear b0;refine wpOp_step (o:=_) rfl (fun K hK=>?_);simp only[FL]
        have l0:=CB.step La Q0.out;have B3:=l0.cell 0 rfl;have C3:=l0.cell 1 rfl;go_simp;refine hK _ _ ⟨.agg #[.bool n,.slice A l c],by simp only[FL,f0] <;> kernel_rfl,Below.refl _ _,rfl,nF⟩
       ·intro xs K10 c0 b0;have R0:=zz c0;have L10:=c0.size;clear c0;have f1:(xs 1)=.agg #[.bool n,.slice A l c]:=b0 _ (m_ 1 rfl) (by kernel_rfl);clear b0;refine wpOp_step (o:=_) rfl (fun K hK=>?_);simp only[FL]
        go_simp;have S0:=zz (LR.step HA.out R0.out);(with_reducible refine(Check_good S0.out HVA.out).mono ?_)
        rintro e wc165 ⟨O1,rfl⟩;refine hK _ _ ⟨.int .i64 0,by simp only[FL,f1] <;> kernel_rfl,O1,rfl,nF⟩
       ·intro xs M10 c0 b0;clear c0;have f2:(xs 2)=.int .i64 0:=b0 _ (m_ 2 rfl) (by kernel_rfl);clear b0;refine wpOp_step (o:=_) rfl (fun K hK=>?_);simp only[FL]
        go_simp;refine hK _ _ ⟨.bool false,by simp only[FL,f2] <;> kernel_rfl,Below.refl _ _,rfl,nF⟩
       ·intro xs O10 c0 b0;clear c0;have f3:(xs 3)=.bool false:=b0 _ (m_ 3 rfl) (by kernel_rfl);clear b0;refine wpOp_step (o:=_) rfl (fun K hK=>?_);simp only[FL]
        go_simp;refine hK _ _ ⟨.bool false,by simp only[FL,f3] <;> kernel_rfl,Below.refl _ _,rfl,nF⟩
       ·intro xs Q10 c0 b0;clear c0;have f4:(xs 4)=.bool false:=b0 _ (m_ 4 rfl) (by kernel_rfl);clear b0;refine wpOp_step (o:=?_) ?G3 ?_
        case G3=>exact rfl
        intro K hK;simp only[FL]
        go_simp;refine hK _ _ ⟨.pointer (some ⟨w.heap.size,2,none⟩),by simp only[FL,f4] <;> kernel_rfl,Below.refl _ _,rfl,nF⟩
       ·intro xs S10 c0 b0;have T0:=zz c0;have T10:=c0.size;clear c0;have f4:(xs 4)=.bool false:=b0 _ (m_ 4 rfl) (by kernel_rfl);have f5:(xs 5)=.pointer (some ⟨w.heap.size,2,none⟩):=b0 _ (m_ 5 rfl) (by kernel_rfl);clear b0;refine wpOp_step (o:=?_) ?H3 ?_
        case H3=>exact rfl
        intro K hK;simp only[FL]
        have m0:=CB.step La T0.out;have I3:=m0.cell 2 rfl;have J3:=m0.cell 3 rfl;go_simp;refine hK _ _ ⟨.agg #[.bool false,.slice B k d],by simp only[FL,f4,f5] <;> kernel_rfl,Below.refl _ _,rfl,nF⟩
       ·intro xs U10 c0 b0;have U0:=zz c0;have V10:=c0.size;clear c0;have f4:(xs 4)=.bool false:=b0 _ (m_ 4 rfl) (by kernel_rfl);have f6:(xs 6)=.agg #[.bool false,.slice B k d]:=b0 _ (m_ 6 rfl) (by kernel_rfl);clear b0;refine wpOp_step (o:=?_) ?K3 ?_
        case K3=>exact rfl
        intro K hK;simp only[FL]
        go_simp;have V0:=zz (LR.step HB.out U0.out);(with_reducible refine(Check_good V0.out HVB.out).mono ?_)
        rintro e wc174 ⟨P1,rfl⟩;refine hK _ _ ⟨.int .i64 0,by simp only[FL,f4,f6] <;> kernel_rfl,P1,rfl,nF⟩
       ·intro xs W10 c0 b0;clear c0;have f4:(xs 4)=.bool false:=b0 _ (m_ 4 rfl) (by kernel_rfl);have f7:(xs 7)=.int .i64 0:=b0 _ (m_ 7 rfl) (by kernel_rfl);clear b0;refine wpOp_step (o:=?_) ?M3 ?_
        case M3=>exact rfl
        intro K hK;simp only[FL]
        go_simp;refine hK _ _ ⟨.bool false,by simp only[FL,f4,f7] <;> kernel_rfl,Below.refl _ _,rfl,nF⟩
       ·intro xs Y10 c0 b0;clear c0;have f4:(xs 4)=.bool false:=b0 _ (m_ 4 rfl) (by kernel_rfl);have f8:(xs 8)=.bool false:=b0 _ (m_ 8 rfl) (by kernel_rfl);clear b0;refine wpOp_step (o:=_) rfl (fun K hK=>?_);simp only[FL]
        go_simp;refine hK _ _ ⟨.bool false,by simp only[FL,f4,f8] <;> kernel_rfl,Below.refl _ _,rfl,nF⟩
       ·intro xs a11 c0 b0;clear c0;have f9:(xs 9)=.bool false:=b0 _ (m_ 9 rfl) (by kernel_rfl);clear b0;refine wpOp_step (o:=_) rfl (fun K hK=>?_);simp only[FL]
        go_simp;refine hK _ _ ⟨.bool false,by simp only[FL,f9] <;> kernel_rfl,Below.refl _ _,rfl,nF⟩
       ·intro xs c11 c0 b0;clear c0;have f10:(xs 10)=.bool false:=b0 _ (m_ 10 rfl) (by kernel_rfl);clear b0;refine wpOp_step (o:=?_) ?Q3 ?_
        case Q3=>exact rfl
        intro K hK;simp only[FL]
        go_simp;refine hK _ _ ⟨.pointer (some ⟨w.heap.size,2,none⟩),by simp only[FL,f10] <;> kernel_rfl,Below.refl _ _,rfl,nF⟩
       ·intro xs e11 c0 b0;clear c0;have f10:(xs 10)=.bool false:=b0 _ (m_ 10 rfl) (by kernel_rfl);have f11:(xs 11)=.pointer (some ⟨w.heap.size,2,none⟩):=b0 _ (m_ 11 rfl) (by kernel_rfl);clear b0;refine wpOp_step (o:=?_) ?S3 ?_
        case S3=>exact rfl
        intro K hK;simp only[FL]
        go_simp;refine hK _ _ ⟨.pointer (some ⟨w.heap.size,2,none⟩),by simp only[FL,f10,f11] <;> kernel_rfl,Below.refl _ _,rfl,nF⟩
       ·intro xs h11 c0 b0;have W0:=zz c0;have i11:=c0.size;clear c0;have f10:(xs 10)=.bool false:=b0 _ (m_ 10 rfl) (by kernel_rfl);have f12:(xs 12)=.pointer (some ⟨w.heap.size,2,none⟩):=b0 _ (m_ 12 rfl) (by kernel_rfl);clear b0;refine wpOp_step (o:=?_) ?T3 ?_
        case T3=>exact rfl
        intro K hK;simp only[FL]
        have X0:=CB.step La W0.out;have U3:=X0.cell 2 rfl;go_simp;refine hK _ _ ⟨.bool false,by simp only[FL,f10,f12] <;> kernel_rfl,Below.refl _ _,rfl,nF⟩
       ·intro xs j11 c0 b0;clear c0;have f10:(xs 10)=.bool false:=b0 _ (m_ 10 rfl) (by kernel_rfl);have f13:(xs 13)=.bool false:=b0 _ (m_ 13 rfl) (by kernel_rfl);clear b0;refine wpOp_step (o:=_) rfl (fun K hK=>?_);simp only[FL]
        go_simp;refine hK _ _ ⟨.bool false,by simp only[FL,f10,f13] <;> kernel_rfl,Below.refl _ _,rfl,nF⟩
       ·intro xs l11 c0 b0;clear c0;have f14:(xs 14)=.bool false:=b0 _ (m_ 14 rfl) (by kernel_rfl);clear b0;refine wpOp_step (o:=_) rfl (fun K hK=>?_);simp only[FL]
        go_simp;refine hK _ _ ⟨.bool false,by simp only[FL,f14] <;> kernel_rfl,Below.refl _ _,rfl,nF⟩
       ·intro xs n11 c0 b0;clear c0;have f15:(xs 15)=.bool false:=b0 _ (m_ 15 rfl) (by kernel_rfl);clear b0;refine wpOp_step (o:=?_) ?Y3 ?_
        case Y3=>exact rfl
        intro K hK;simp only[FL]
        go_simp;refine hK _ _ ⟨.pointer (some ⟨w.heap.size,2,none⟩),by simp only[FL,f15] <;> kernel_rfl,Below.refl _ _,rfl,nF⟩
       ·intro xs p11 c0 b0;clear c0;have f15:(xs 15)=.bool false:=b0 _ (m_ 15 rfl) (by kernel_rfl);have f16:(xs 16)=.pointer (some ⟨w.heap.size,2,none⟩):=b0 _ (m_ 16 rfl) (by kernel_rfl);clear b0;refine wpOp_step (o:=?_) ?a4 ?_
        case a4=>exact rfl
        intro K hK;simp only[FL]
        go_simp;refine hK _ _ ⟨.pointer (some ⟨w.heap.size,3,none⟩),by simp only[FL,f15,f16] <;> kernel_rfl,Below.refl _ _,rfl,nF⟩
       ·intro xs r11 c0 b0;have Y0:=zz c0;have s11:=c0.size;clear c0;have f15:(xs 15)=.bool false:=b0 _ (m_ 15 rfl) (by kernel_rfl);have f17:(xs 17)=.pointer (some ⟨w.heap.size,3,none⟩):=b0 _ (m_ 17 rfl) (by kernel_rfl);clear b0;refine wpOp_step (o:=?_) ?b4 ?_
        case b4=>exact rfl
        intro K hK;simp only[FL]
        have Z0:=CB.step La Y0.out;have c4:=Z0.cell 3 rfl;go_simp;refine hK _ _ ⟨.slice B k d,by simp only[FL,f15,f17] <;> kernel_rfl,Below.refl _ _,rfl,nF⟩
       ·intro xs t11 c0 b0;clear c0;have f15:(xs 15)=.bool false:=b0 _ (m_ 15 rfl) (by kernel_rfl);have f18:(xs 18)=.slice B k d:=b0 _ (m_ 18 rfl) (by kernel_rfl);clear b0;refine wpOp_step (o:=?_) ?e4 ?_
        case e4=>exact rfl
        intro K hK;simp only[FL]
        go_simp;refine hK _ _ ⟨.int .i64 (k:Int),by simp only[FL,f15,f18] <;> kernel_rfl,Below.refl _ _,rfl,nF⟩
       ·intro xs v11 c0 b0;clear c0;have f15:(xs 15)=.bool false:=b0 _ (m_ 15 rfl) (by kernel_rfl);have f19:(xs 19)=.int .i64 (k:Int):=b0 _ (m_ 19 rfl) (by kernel_rfl);clear b0;refine wpOp_step (o:=?_) ?i4 ?_
        case i4=>exact rfl
        intro K hK;simp only[FL]
        go_simp;refine hK _ _ ⟨.bool false,by simp only[FL,f15,f19] <;> kernel_rfl,Below.refl _ _,rfl,nF⟩
       ·intro xs y11 c0 b0;clear c0;have f15:(xs 15)=.bool false:=b0 _ (m_ 15 rfl) (by kernel_rfl);have f20:(xs 20)=.bool false:=b0 _ (m_ 20 rfl) (by kernel_rfl);clear b0;refine wpOp_step (o:=_) rfl (fun K hK=>?_);simp only[FL]
        go_simp;refine hK _ _ ⟨.bool false,by simp only[FL,f15,f20] <;> kernel_rfl,Below.refl _ _,rfl,nF⟩
       ·intro xs A11 c0 b0;clear c0;have f21:(xs 21)=.bool false:=b0 _ (m_ 21 rfl) (by kernel_rfl);clear b0;refine wpOp_step (o:=_) rfl (fun K hK=>?_);simp only[FL]
        go_simp;refine hK _ _ ⟨.bool false,by simp only[FL,f21] <;> kernel_rfl,Below.refl _ _,rfl,nF⟩
       ·intro xs C11 c0 b0;have a1:=zz c0;have D11:=c0.size;clear c0;have f22:(xs 22)=.bool false:=b0 _ (m_ 22 rfl) (by kernel_rfl);clear b0;refine wpOp_step (o:=?_) ?l4 ?_
        case l4=>exact rfl
        intro K hK;simp only[FL]
        have e0:=CB.step La a1.out;have m4:=e0.cell 0 rfl;have n4:=e0.cell 1 rfl;have o4:=e0.cell 2 rfl;have p4:=e0.cell 3 rfl;go_simp;refine hK _ _ ⟨.agg #[.bool n,.slice A l c,.bool false,.slice B k d],by simp only[FL,f22] <;> kernel_rfl,Below.refl _ _,rfl,nF⟩
       ·intro xs E11 c0 b0;clear c0;have f22:(xs 22)=.bool false:=b0 _ (m_ 22 rfl) (by kernel_rfl);have f23:(xs 23)=.agg #[.bool n,.slice A l c,.bool false,.slice B k d]:=b0 _ (m_ 23 rfl) (by kernel_rfl);clear b0;refine wpOp_step (o:=?_) ?r4 ?_
        case r4=>exact rfl
        intro K hK;simp only[FL]
        go_simp;(with_reducible refine(Read_any _ n false A B l c k d).mono ?_)
        rintro e wc198 ⟨Q1,rfl⟩;refine hK _ _ ⟨.agg #[.bool n,.slice A l c,.slice B k d],by simp only[FL,f22,f23] <;> kernel_rfl,Q1,rfl,nF⟩
       ·intro xs G11 c0 b0;clear c0;have f22:(xs 22)=.bool false:=b0 _ (m_ 22 rfl) (by kernel_rfl);have f24:(xs 24)=.agg #[.bool n,.slice A l c,.slice B k d]:=b0 _ (m_ 24 rfl) (by kernel_rfl);clear b0;refine wpOp_step (o:=?_) ?t4 ?_
        case t4=>exact rfl
        intro K hK;simp only[FL]
        go_simp;refine hK _ _ ⟨.agg #[.bool n,.slice A l c],by simp only[FL,f22,f24] <;> kernel_rfl,Below.refl _ _,rfl,nF⟩
       ·intro xs I11 c0 b0;clear c0;have f22:(xs 22)=.bool false:=b0 _ (m_ 22 rfl) (by kernel_rfl);have f25:(xs 25)=.agg #[.bool n,.slice A l c]:=b0 _ (m_ 25 rfl) (by kernel_rfl);clear b0;refine wpOp_step (o:=?_) ?v4 ?_
        case v4=>exact rfl
        intro K hK;simp only[FL]
        go_simp;refine hK _ _ ⟨.slice A l c,by simp only[FL,f22,f25] <;> kernel_rfl,Below.refl _ _,rfl,nF⟩
       ·intro xs K11 c0 b0;clear c0;have f22:(xs 22)=.bool false:=b0 _ (m_ 22 rfl) (by kernel_rfl);clear b0;refine wpOp_step (o:=?_) ?y4 ?_
        case y4=>exact rfl
        intro K hK;simp only[FL]
        go_simp;refine hK _ _ ⟨.pointer (some ⟨w.heap.size,2,none⟩),by simp only[FL,f22] <;> kernel_rfl,Below.refl _ _,rfl,nF⟩
       ·intro xs M11 c0 b0;clear c0;have f22:(xs 22)=.bool false:=b0 _ (m_ 22 rfl) (by kernel_rfl);have f27:(xs 27)=.pointer (some ⟨w.heap.size,2,none⟩):=b0 _ (m_ 27 rfl) (by kernel_rfl);clear b0;refine wpOp_step (o:=?_) ?A4 ?_
        case A4=>exact rfl
        intro K hK;simp only[FL]
        go_simp;refine hK _ _ ⟨.pointer (some ⟨w.heap.size,3,none⟩),by simp only[FL,f22,f27] <;> kernel_rfl,Below.refl _ _,rfl,nF⟩
       ·intro xs O11 c0 b0;have b1:=zz c0;have P11:=c0.size;clear c0;have f22:(xs 22)=.bool false:=b0 _ (m_ 22 rfl) (by kernel_rfl);have f28:(xs 28)=.pointer (some ⟨w.heap.size,3,none⟩):=b0 _ (m_ 28 rfl) (by kernel_rfl);clear b0;refine wpOp_step (o:=?_) ?B4 ?_
        case B4=>exact rfl
        intro K hK;simp only[FL]
        have c1:=CB.step La b1.out;have C4:=c1.cell 3 rfl;go_simp;refine hK _ _ ⟨.slice B k d,by simp only[FL,f22,f28] <;> kernel_rfl,Below.refl _ _,rfl,nF⟩
       ·intro xs Q11 c0 b0;have n0:=zz c0;have R11:=c0.size;clear c0;have f22:(xs 22)=.bool false:=b0 _ (m_ 22 rfl) (by kernel_rfl);have f26:(xs 26)=.slice A l c:=b0 _ (m_ 26 rfl) (by kernel_rfl);have f29:(xs 29)=.slice B k d:=b0 _ (m_ 29 rfl) (by kernel_rfl);clear b0;refine wpOp_step (o:=?_) ?D4 ?_
        case D4=>exact rfl
        intro K hK;simp only[FL]
        go_simp;have y0:=zz (RN.step HA1.out n0.out);have A0:=zz (RN.step c2.out n0.out);(with_reducible refine((show Calls Tryz.prog _ _ _ _ from HG.out▸Common_any _ _ _ x.natAbs y.natAbs y0.out A0.out (by have:=HL.out;omega) (by have:=HL.out;omega))).mono ?_)
        rintro e wc209 ⟨R1,v209,rfl,S1⟩;refine hK _ _ ⟨v209,by simp only[FL,f22,f26,f29] <;> kernel_rfl,R1,S1,nF⟩
       ·intro xs S11 c0 b0;clear c0;have f22:(xs 22)=.bool false:=b0 _ (m_ 22 rfl) (by kernel_rfl);clear b0;refine wpOp_step (o:=?_) ?F4 ?_
        case F4=>exact rfl
        intro K hK;simp only[FL]
        go_simp;(with_reducible refine(one_any _).mono ?_)
        rintro e wc211 ⟨T1,v211,rfl,U1⟩;refine hK _ _ ⟨v211,by simp only[FL,f22] <;> kernel_rfl,T1,U1,nF⟩
       ·intro xs h0 c0 b0;clear c0;have f22:(xs 22)=.bool false:=b0 _ (m_ 22 rfl) (by kernel_rfl);have f30:RN h0 h0.heap.size (xs 30) (dig g):=b0 _ (m_ 30 rfl) (by kernel_rfl);have f31:RN h0 h0.heap.size (xs 31) (dig 1):=b0 _ (m_ 31 rfl) (by kernel_rfl);clear b0;refine wpOp_step (o:=?_) ?H4 ?_
        case H4=>exact rfl
        intro K hK;simp only[FL]
        go_simp;(with_reducible refine(Cmp_any _ _ _ g 1 f30 f31).mono ?_)
        rintro e wc213 ⟨V1,c213,rfl,hc213⟩;refine hK _ _ ⟨.int .i64 c213,by simp only[FL,f22] <;> kernel_rfl,V1,⟨c213,rfl,hc213⟩,nF⟩
       ·intro xs V11 c0 b0;have I4:=zz c0;have W11:=c0.size;clear c0;have f22:(xs 22)=.bool false:=b0 _ (m_ 22 rfl) (by kernel_rfl);have f32:∃ c:Int,(xs 32)=.int .i64 c∧SignOf c (g) (1):=b0 _ (m_ 32 rfl) (by kernel_rfl);clear b0;refine wpOp_step (o:=?_) ?J4 ?_
        case J4=>exact rfl
        intro K hK;simp only[FL]
        obtain⟨c,hc,hs⟩:=f32;unfold SignOf at hs;have hq:(c != 0)=true:=by have h1:=HG1.out;rw[bne_iff_ne];omega
        rw[hc];clear hs;go_simp;refine hK _ _ ⟨.bool true,by simp only[FL,f22,hc] <;> kernel_rfl,Below.refl _ _,rfl,nF⟩
       ·intro xs X11 c0 b0;clear c0;have f22:(xs 22)=.bool false:=b0 _ (m_ 22 rfl) (by kernel_rfl);have f33:(xs 33)=.bool true:=b0 _ (m_ 33 rfl) (by kernel_rfl);clear b0;refine wpOp_step (o:=_) rfl (fun K hK=>?_);simp only[FL]
        go_simp;refine hK _ _ ⟨.bool true,by simp only[FL,f22,f33] <;> kernel_rfl,Below.refl _ _,rfl,nF⟩
      ·exact all_nil
      ·intro xs F17 hbf hf hn hd;have f0:(xs 0)=.pointer (some ⟨w.heap.size,0,none⟩):=hf _ (m_ 0 rfl);have f1:(xs 1)=.agg #[.bool n,.slice A l c]:=hf _ (m_ 1 rfl);have f2:(xs 2)=.int .i64 0:=hf _ (m_ 2 rfl);have f3:(xs 3)=.bool false:=hf _ (m_ 3 rfl);have f4:(xs 4)=.bool false:=hf _ (m_ 4 rfl);have f5:(xs 5)=.pointer (some ⟨w.heap.size,2,none⟩):=hf _ (m_ 5 rfl);have f6:(xs 6)=.agg #[.bool false,.slice B k d]:=hf _ (m_ 6 rfl);have f7:(xs 7)=.int .i64 0:=hf _ (m_ 7 rfl);have f8:(xs 8)=.bool false:=hf _ (m_ 8 rfl);have f9:(xs 9)=.bool false:=hf _ (m_ 9 rfl);have f10:(xs 10)=.bool false:=hf _ (m_ 10 rfl);have f11:(xs 11)=.pointer (some ⟨w.heap.size,2,none⟩):=hf _ (m_ 11 rfl);have f12:(xs 12)=.pointer (some ⟨w.heap.size,2,none⟩):=hf _ (m_ 12 rfl);have f13:(xs 13)=.bool false:=hf _ (m_ 13 rfl);have f14:(xs 14)=.bool false:=hf _ (m_ 14 rfl);have f15:(xs 15)=.bool false:=hf _ (m_ 15 rfl);have f16:(xs 16)=.pointer (some ⟨w.heap.size,2,none⟩):=hf _ (m_ 16 rfl);have f17:(xs 17)=.pointer (some ⟨w.heap.size,3,none⟩):=hf _ (m_ 17 rfl);have f18:(xs 18)=.slice B k d:=hf _ (m_ 18 rfl);have f19:(xs 19)=.int .i64 (k:Int):=hf _ (m_ 19 rfl);have f20:(xs 20)=.bool false:=hf _ (m_ 20 rfl);have f21:(xs 21)=.bool false:=hf _ (m_ 21 rfl);have f22:(xs 22)=.bool false:=hf _ (m_ 22 rfl);have f23:(xs 23)=.agg #[.bool n,.slice A l c,.bool false,.slice B k d]:=hf _ (m_ 23 rfl);have f24:(xs 24)=.agg #[.bool n,.slice A l c,.slice B k d]:=hf _ (m_ 24 rfl)
       have f25:(xs 25)=.agg #[.bool n,.slice A l c]:=hf _ (m_ 25 rfl);have f26:(xs 26)=.slice A l c:=hf _ (m_ 26 rfl);have f27:(xs 27)=.pointer (some ⟨w.heap.size,2,none⟩):=hf _ (m_ 27 rfl);have f28:(xs 28)=.pointer (some ⟨w.heap.size,3,none⟩):=hf _ (m_ 28 rfl);have f29:(xs 29)=.slice B k d:=hf _ (m_ 29 rfl);have f30:RN F17 F17.heap.size (xs 30) (dig g):=hf _ (m_ 30 rfl);have f31:RN F17 F17.heap.size (xs 31) (dig 1):=hf _ (m_ 31 rfl);have f32:∃ c:Int,(xs 32)=.int .i64 c∧SignOf c (g) (1):=hf _ (m_ 32 rfl);have f33:(xs 33)=.bool true:=hf _ (m_ 33 rfl);have f34:(xs 34)=.bool true:=hf _ (m_ 34 rfl);clear hf hn hd;simp only[FL]
       have B217:=zz hbf;have z217:=B217.out.size;have W1:=zz (B0.out.trans (B217.out.mono B0.out.size));clear hbf;generalize xs 0=x0,xs 1=x1,xs 2=x2,xs 3=x3,xs 4=x4,xs 5=x5,xs 6=x6,xs 7=x7,xs 8=x8,xs 9=x9,xs 10=x10,xs 11=x11,xs 12=x12,xs 13=x13,xs 14=x14,xs 15=x15,xs 16=x16,xs 17=x17,xs 18=x18,xs 19=x19,xs 20=x20,xs 21=x21,xs 22=x22,xs 23=x23,xs 24=x24,xs 25=x25,xs 26=x26,xs 27=x27,xs 28=x28,xs 29=x29,xs 30=x30,xs 31=x31,xs 32=x32,xs 33=x33,xs 34=x34 at *
       obtain rfl:=f0;obtain rfl:=f1;obtain rfl:=f2;obtain rfl:=f3;obtain rfl:=f4;obtain rfl:=f5;obtain rfl:=f6;obtain rfl:=f7;obtain rfl:=f8;obtain rfl:=f9;obtain rfl:=f10;obtain rfl:=f11;obtain rfl:=f12;obtain rfl:=f13;obtain rfl:=f14;obtain rfl:=f15;obtain rfl:=f16;obtain rfl:=f17;obtain rfl:=f18;obtain rfl:=f19;obtain rfl:=f20;obtain rfl:=f21;obtain rfl:=f22;obtain rfl:=f23;obtain rfl:=f24;obtain rfl:=f25;obtain rfl:=f26;obtain rfl:=f27;obtain rfl:=f28;obtain rfl:=f29;clear f30;clear f31;clear f32;obtain rfl:=f33;obtain rfl:=f34;refine Early.done (by kernel_rfl) ?_ _;(try simp only[Exit.then])
       go_wp2;go_ret;exact⟨W1.out,by rw[HR.out,chkQ_none HNO.out];rfl⟩
  ·have HVB:=zz hvb;clear hvb;go_enter Tryz.func8,Tryz.ntmps8
   go_upto_region 1 with (fail)
   rw[← hw0];clear hw0;refine Flow.run [⟨0,3,fun fv fw=>fv=.pointer (some ⟨w.heap.size,0,none⟩)⟩,⟨1,4,fun fv fw=>fv=.agg #[.bool n,.slice A l c]⟩,⟨2,5,fun fv fw=>fv=.int .i64 0⟩,⟨3,6,fun fv fw=>fv=.bool false⟩,⟨4,7,fun fv fw=>fv=.bool false⟩,⟨5,8,fun fv fw=>fv=.pointer (some ⟨w.heap.size,2,none⟩)⟩,⟨6,9,fun fv fw=>fv=.agg #[.bool m,.slice B k d]⟩,⟨7,10,fun fv fw=>fv=.int .i64 30⟩,⟨8,11,fun fv fw=>fv=.bool true⟩,⟨9,12,fun fv fw=>fv=.bool true⟩,⟨10,13,fun fv fw=>fv=.bool true⟩,⟨11,14,fun fv fw=>True⟩,⟨12,15,fun fv fw=>True⟩,⟨13,16,fun fv fw=>True⟩,⟨14,17,fun fv fw=>fv=.bool true⟩,⟨15,18,fun fv fw=>fv=.bool true⟩,⟨16,19,fun fv fw=>True⟩,⟨17,20,fun fv fw=>True⟩,⟨18,21,fun fv fw=>True⟩,⟨19,22,fun fv fw=>True⟩,⟨20,23,fun fv fw=>True⟩,⟨21,24,fun fv fw=>fv=.bool true⟩,⟨22,25,fun fv fw=>fv=.bool true⟩,⟨23,26,fun fv fw=>True⟩,⟨24,27,fun fv fw=>True⟩,⟨25,28,fun fv fw=>True⟩,⟨26,29,fun fv fw=>True⟩,⟨27,30,fun fv fw=>True⟩,⟨28,31,fun fv fw=>True⟩,⟨29,32,fun fv fw=>True⟩,⟨30,33,fun fv fw=>True⟩,⟨31,34,fun fv fw=>True⟩,⟨32,35,fun fv fw=>True⟩,⟨33,36,fun fv fw=>True⟩,⟨34,37,fun fv fw=>fv=.bool true⟩] [] [] 0 (by kernel_rfl) (by kernel_rfl) (by kernel_rfl) (fun _ _ _ _ _ h=>h) ?_ ?_ ?_ ?_
   ·refine(a0 (a0 (a0 (a0 (a0 (a0 (a0 (a0 (a0 (a0 (a0 (a0 (a0 (a0 (a0 (a0 (a0 (a0 (a0 (a0 (a0 (a0 (a0 (a0 (a0 (a0 (a0 (a0 (a0 (a0 (a0 (a0 (a0 (a0 (a0 all_nil)))))))))))))))))))))))))))))))))))
   ·refine(all_cons ?_ (all_cons ?_ (all_cons ?_ (all_cons ?_ (all_cons ?_ (all_cons ?_ (all_cons ?_ (all_cons ?_ (all_cons ?_ (all_cons ?_ (all_cons ?_ (all_cons ?_ (all_cons ?_ (all_cons ?_ (all_cons ?_ (all_cons ?_ (all_cons ?_ (all_cons ?_ (all_cons ?_ (all_cons ?_ (all_cons ?_ (all_cons ?_ (all_cons ?_ (all_cons ?_ (all_cons ?_ (all_cons ?_ (all_cons ?_ (all_cons ?_ (all_cons ?_ (all_cons ?_ (all_cons ?_ (all_cons ?_ (all_cons ?_ (all_cons ?_ (all_cons ?_ all_nil)))))))))))))))))))))))))))))))))))
    ·intro xs Z11 c0 b0;clear c0;clear b0;refine wpOp_step (o:=_) rfl (fun K hK=>?_);simp only[FL]
     go_simp;refine hK _ _ ⟨.pointer (some ⟨w.heap.size,0,none⟩),by kernel_rfl,Below.refl _ _,rfl,nF⟩
    ·intro xs b12 c0 b0;have d1:=zz c0;have c12:=c0.size;clear c0;have f0:(xs 0)=.pointer (some ⟨w.heap.size,0,none⟩):=b0 _ (m_ 0 rfl) (by kernel_rfl);clear b0;refine wpOp_step (o:=_) rfl (fun K hK=>?_);simp only[FL]
     have o0:=CB.step La d1.out;have M4:=o0.cell 0 rfl;have N4:=o0.cell 1 rfl;go_simp;refine hK _ _ ⟨.agg #[.bool n,.slice A l c],by simp only[FL,f0] <;> kernel_rfl,Below.refl _ _,rfl,nF⟩
    ·intro xs d12 c0 b0;have e1:=zz c0;have e12:=c0.size;clear c0;have f1:(xs 1)=.agg #[.bool n,.slice A l c]:=b0 _ (m_ 1 rfl) (by kernel_rfl);clear b0;refine wpOp_step (o:=_) rfl (fun K hK=>?_);simp only[FL]
     go_simp;have g1:=zz (LR.step HA.out e1.out);(with_reducible refine(Check_good g1.out HVA.out).mono ?_)
     rintro e wc225 ⟨X1,rfl⟩;refine hK _ _ ⟨.int .i64 0,by simp only[FL,f1] <;> kernel_rfl,X1,rfl,nF⟩
    ·intro xs g12 c0 b0;clear c0;have f2:(xs 2)=.int .i64 0:=b0 _ (m_ 2 rfl) (by kernel_rfl);clear b0;refine wpOp_step (o:=_) rfl (fun K hK=>?_);simp only[FL]
     go_simp;refine hK _ _ ⟨.bool false,by simp only[FL,f2] <;> kernel_rfl,Below.refl _ _,rfl,nF⟩
    ·intro xs i12 c0 b0;clear c0;have f3:(xs 3)=.bool false:=b0 _ (m_ 3 rfl) (by kernel_rfl);clear b0;refine wpOp_step (o:=_) rfl (fun K hK=>?_);simp only[FL]
     go_simp;refine hK _ _ ⟨.bool false,by simp only[FL,f3] <;> kernel_rfl,Below.refl _ _,rfl,nF⟩
    ·intro xs k12 c0 b0;clear c0;have f4:(xs 4)=.bool false:=b0 _ (m_ 4 rfl) (by kernel_rfl);clear b0;refine wpOp_step (o:=?_) ?R4 ?_
     case R4=>exact rfl
     intro K hK;simp only[FL]
     go_simp;refine hK _ _ ⟨.pointer (some ⟨w.heap.size,2,none⟩),by simp only[FL,f4] <;> kernel_rfl,Below.refl _ _,rfl,nF⟩
    ·intro xs m12 c0 b0;have i1:=zz c0;have n12:=c0.size;clear c0;have f4:(xs 4)=.bool false:=b0 _ (m_ 4 rfl) (by kernel_rfl);have f5:(xs 5)=.pointer (some ⟨w.heap.size,2,none⟩):=b0 _ (m_ 5 rfl) (by kernel_rfl);clear b0;refine wpOp_step (o:=?_) ?S4 ?_
     case S4=>exact rfl
     intro K hK;simp only[FL]
     have p0:=CB.step La i1.out;have T4:=p0.cell 2 rfl;have U4:=p0.cell 3 rfl;go_simp;refine hK _ _ ⟨.agg #[.bool m,.slice B k d],by simp only[FL,f4,f5] <;> kernel_rfl,Below.refl _ _,rfl,nF⟩
    ·intro xs o12 c0 b0;have j1:=zz c0;have p12:=c0.size;clear c0;have f4:(xs 4)=.bool false:=b0 _ (m_ 4 rfl) (by kernel_rfl);have f6:(xs 6)=.agg #[.bool m,.slice B k d]:=b0 _ (m_ 6 rfl) (by kernel_rfl);clear b0;refine wpOp_step (o:=?_) ?V4 ?_
     case V4=>exact rfl
     intro K hK;simp only[FL]
     go_simp;have k1:=zz (LR.step HB.out j1.out);(with_reducible refine(Check_bad k1.out HVB.out).mono ?_)
     rintro e wc234 ⟨Y1,rfl⟩;refine hK _ _ ⟨.int .i64 30,by simp only[FL,f4,f6] <;> kernel_rfl,Y1,rfl,nF⟩
    ·intro xs q12 c0 b0;clear c0;have f4:(xs 4)=.bool false:=b0 _ (m_ 4 rfl) (by kernel_rfl);have f7:(xs 7)=.int .i64 30:=b0 _ (m_ 7 rfl) (by kernel_rfl);clear b0;refine wpOp_step (o:=?_) ?X4 ?_
     case X4=>exact rfl
     intro K hK;simp only[FL]
     go_simp;refine hK _ _ ⟨.bool true,by simp only[FL,f4,f7] <;> kernel_rfl,Below.refl _ _,rfl,nF⟩
    ·intro xs s12 c0 b0;clear c0;have f4:(xs 4)=.bool false:=b0 _ (m_ 4 rfl) (by kernel_rfl);have f8:(xs 8)=.bool true:=b0 _ (m_ 8 rfl) (by kernel_rfl);clear b0;refine wpOp_step (o:=_) rfl (fun K hK=>?_);simp only[FL]
     go_simp;refine hK _ _ ⟨.bool true,by simp only[FL,f4,f8] <;> kernel_rfl,Below.refl _ _,rfl,nF⟩
    ·intro xs u12 c0 b0;clear c0;have f9:(xs 9)=.bool true:=b0 _ (m_ 9 rfl) (by kernel_rfl);clear b0;refine wpOp_step (o:=_) rfl (fun K hK=>?_);simp only[FL]
     go_simp;refine hK _ _ ⟨.bool true,by simp only[FL,f9] <;> kernel_rfl,Below.refl _ _,rfl,nF⟩
    ·intro xs w12 c0 b0;clear c0;have f10:(xs 10)=.bool true:=b0 _ (m_ 10 rfl) (by kernel_rfl);clear b0;refine wpOp_step (o:=?_) ?b5 ?_
     case b5=>exact rfl
     intro K hK;simp only[FL]
     go_simp;refine hK _ _ ⟨undef,by simp only[FL,f10] <;> kernel_rfl,Below.refl _ _,trivial,nF⟩
    ·intro xs z12 c0 b0;clear c0;have f10:(xs 10)=.bool true:=b0 _ (m_ 10 rfl) (by kernel_rfl);clear b0;refine wpOp_step (o:=?_) ?d5 ?_
     case d5=>exact rfl
     intro K hK;simp only[FL]
     go_simp;refine hK _ _ ⟨undef,by simp only[FL,f10] <;> kernel_rfl,Below.refl _ _,trivial,nF⟩
    ·intro xs B12 c0 b0;clear c0;have f10:(xs 10)=.bool true:=b0 _ (m_ 10 rfl) (by kernel_rfl);clear b0;refine wpOp_step (o:=?_) ?g5 ?_
     case g5=>exact rfl
     intro K hK;simp only[FL]
     go_simp;refine hK _ _ ⟨undef,by simp only[FL,f10] <;> kernel_rfl,Below.refl _ _,trivial,nF⟩
    ·intro xs D12 c0 b0;clear c0;have f10:(xs 10)=.bool true:=b0 _ (m_ 10 rfl) (by kernel_rfl);clear b0;refine wpOp_step (o:=_) rfl (fun K hK=>?_);simp only[FL]
     go_simp;refine hK _ _ ⟨.bool true,by simp only[FL,f10] <;> kernel_rfl,Below.refl _ _,rfl,nF⟩
    ·intro xs F12 c0 b0;clear c0;have f14:(xs 14)=.bool true:=b0 _ (m_ 14 rfl) (by kernel_rfl);clear b0;refine wpOp_step (o:=_) rfl (fun K hK=>?_);simp only[FL]
     go_simp;refine hK _ _ ⟨.bool true,by simp only[FL,f14] <;> kernel_rfl,Below.refl _ _,rfl,nF⟩
    ·intro xs H12 c0 b0;clear c0;have f15:(xs 15)=.bool true:=b0 _ (m_ 15 rfl) (by kernel_rfl);clear b0;refine wpOp_step (o:=?_) ?k5 ?_
     case k5=>exact rfl
     intro K hK;simp only[FL]
     go_simp;refine hK _ _ ⟨undef,by simp only[FL,f15] <;> kernel_rfl,Below.refl _ _,trivial,nF⟩
    ·intro xs J12 c0 b0;clear c0;have f15:(xs 15)=.bool true:=b0 _ (m_ 15 rfl) (by kernel_rfl);clear b0;refine wpOp_step (o:=?_) ?m5 ?_
     case m5=>exact rfl
     intro K hK;simp only[FL]
     go_simp;refine hK _ _ ⟨undef,by simp only[FL,f15] <;> kernel_rfl,Below.refl _ _,trivial,nF⟩
    ·intro xs L12 c0 b0;clear c0;have f15:(xs 15)=.bool true:=b0 _ (m_ 15 rfl) (by kernel_rfl);clear b0;refine wpOp_step (o:=?_) ?o5 ?_
     case o5=>exact rfl
     intro K hK;simp only[FL]
     go_simp;refine hK _ _ ⟨undef,by simp only[FL,f15] <;> kernel_rfl,Below.refl _ _,trivial,nF⟩
    ·intro xs N12 c0 b0;clear c0;have f15:(xs 15)=.bool true:=b0 _ (m_ 15 rfl) (by kernel_rfl);clear b0;refine wpOp_step (o:=?_) ?q5 ?_
     case q5=>exact rfl
     intro K hK;simp only[FL]
     go_simp;refine hK _ _ ⟨undef,by simp only[FL,f15] <;> kernel_rfl,Below.refl _ _,trivial,nF⟩
    ·intro xs P12 c0 b0;clear c0;have f15:(xs 15)=.bool true:=b0 _ (m_ 15 rfl) (by kernel_rfl);clear b0;refine wpOp_step (o:=?_) ?s5 ?_
     case s5=>exact rfl
     intro K hK;simp only[FL]
     go_simp;refine hK _ _ ⟨undef,by simp only[FL,f15] <;> kernel_rfl,Below.refl _ _,trivial,nF⟩
    ·intro xs R12 c0 b0;clear c0;have f15:(xs 15)=.bool true:=b0 _ (m_ 15 rfl) (by kernel_rfl);clear b0;refine wpOp_step (o:=_) rfl (fun K hK=>?_);simp only[FL]
     go_simp;refine hK _ _ ⟨.bool true,by simp only[FL,f15] <;> kernel_rfl,Below.refl _ _,rfl,nF⟩
    ·intro xs T12 c0 b0;clear c0;have f21:(xs 21)=.bool true:=b0 _ (m_ 21 rfl) (by kernel_rfl);clear b0;refine wpOp_step (o:=_) rfl (fun K hK=>?_);simp only[FL]
     go_simp;refine hK _ _ ⟨.bool true,by simp only[FL,f21] <;> kernel_rfl,Below.refl _ _,rfl,nF⟩
    ·intro xs V12 c0 b0;clear c0;have f22:(xs 22)=.bool true:=b0 _ (m_ 22 rfl) (by kernel_rfl);clear b0;refine wpOp_step (o:=?_) ?w5 ?_
     case w5=>exact rfl
     intro K hK;simp only[FL]
     go_simp;refine hK _ _ ⟨undef,by simp only[FL,f22] <;> kernel_rfl,Below.refl _ _,trivial,nF⟩
    ·intro xs X12 c0 b0;clear c0;have f22:(xs 22)=.bool true:=b0 _ (m_ 22 rfl) (by kernel_rfl);clear b0;refine wpOp_step (o:=?_) ?z5 ?_
     case z5=>exact rfl
     intro K hK;simp only[FL]
     go_simp;refine hK _ _ ⟨undef,by simp only[FL,f22] <;> kernel_rfl,Below.refl _ _,trivial,nF⟩
    ·intro xs Z12 c0 b0;clear c0;have f22:(xs 22)=.bool true:=b0 _ (m_ 22 rfl) (by kernel_rfl);clear b0;refine wpOp_step (o:=?_) ?B5 ?_
     case B5=>exact rfl
     intro K hK;simp only[FL]
     go_simp;refine hK _ _ ⟨undef,by simp only[FL,f22] <;> kernel_rfl,Below.refl _ _,trivial,nF⟩
    ·intro xs b13 c0 b0;clear c0;have f22:(xs 22)=.bool true:=b0 _ (m_ 22 rfl) (by kernel_rfl);clear b0;refine wpOp_step (o:=?_) ?D5 ?_
     case D5=>exact rfl
     intro K hK;simp only[FL]
     go_simp;refine hK _ _ ⟨undef,by simp only[FL,f22] <;> kernel_rfl,Below.refl _ _,trivial,nF⟩
    ·intro xs d13 c0 b0;clear c0;have f22:(xs 22)=.bool true:=b0 _ (m_ 22 rfl) (by kernel_rfl);clear b0;refine wpOp_step (o:=?_) ?F5 ?_
     case F5=>exact rfl
     intro K hK;simp only[FL]
     go_simp;refine hK _ _ ⟨undef,by simp only[FL,f22] <;> kernel_rfl,Below.refl _ _,trivial,nF⟩
    ·intro xs g13 c0 b0;clear c0;have f22:(xs 22)=.bool true:=b0 _ (m_ 22 rfl) (by kernel_rfl);clear b0;refine wpOp_step (o:=?_) ?H5 ?_
     case H5=>exact rfl
     intro K hK;simp only[FL]
     go_simp;refine hK _ _ ⟨undef,by simp only[FL,f22] <;> kernel_rfl,Below.refl _ _,trivial,nF⟩
    ·intro xs i13 c0 b0;clear c0;have f22:(xs 22)=.bool true:=b0 _ (m_ 22 rfl) (by kernel_rfl);clear b0;refine wpOp_step (o:=?_) ?J5 ?_
     case J5=>exact rfl
     intro K hK;simp only[FL]
     go_simp;refine hK _ _ ⟨undef,by simp only[FL,f22] <;> kernel_rfl,Below.refl _ _,trivial,nF⟩
    ·intro xs k13 c0 b0;clear c0;have f22:(xs 22)=.bool true:=b0 _ (m_ 22 rfl) (by kernel_rfl);clear b0;refine wpOp_step (o:=?_) ?L5 ?_
     case L5=>exact rfl
     intro K hK;simp only[FL]
     go_simp;refine hK _ _ ⟨undef,by simp only[FL,f22] <;> kernel_rfl,Below.refl _ _,trivial,nF⟩
    ·intro xs m13 c0 b0;clear c0;have f22:(xs 22)=.bool true:=b0 _ (m_ 22 rfl) (by kernel_rfl);clear b0;refine wpOp_step (o:=?_) ?N5 ?_
     case N5=>exact rfl
     intro K hK;simp only[FL]
     go_simp;refine hK _ _ ⟨undef,by simp only[FL,f22] <;> kernel_rfl,Below.refl _ _,trivial,nF⟩
    ·intro xs o13 c0 b0;clear c0;have f22:(xs 22)=.bool true:=b0 _ (m_ 22 rfl) (by kernel_rfl);clear b0;refine wpOp_step (o:=?_) ?P5 ?_
     case P5=>exact rfl
     intro K hK;simp only[FL]
     go_simp;refine hK _ _ ⟨undef,by simp only[FL,f22] <;> kernel_rfl,Below.refl _ _,trivial,nF⟩
    ·intro xs q13 c0 b0;clear c0;have f22:(xs 22)=.bool true:=b0 _ (m_ 22 rfl) (by kernel_rfl);clear b0;refine wpOp_step (o:=?_) ?R5 ?_
     case R5=>exact rfl
     intro K hK;simp only[FL]
     go_simp;refine hK _ _ ⟨undef,by simp only[FL,f22] <;> kernel_rfl,Below.refl _ _,trivial,nF⟩
    ·intro xs s13 c0 b0;clear c0;have f22:(xs 22)=.bool true:=b0 _ (m_ 22 rfl) (by kernel_rfl);clear b0;refine wpOp_step (o:=_) rfl (fun K hK=>?_);simp only[FL]
     go_simp;refine hK _ _ ⟨.bool true,by simp only[FL,f22] <;> kernel_rfl,Below.refl _ _,rfl,nF⟩
   ·exact all_nil
   ·intro xs V17 hbf hf hn hd;have f0:(xs 0)=.pointer (some ⟨w.heap.size,0,none⟩):=hf _ (m_ 0 rfl);have f1:(xs 1)=.agg #[.bool n,.slice A l c]:=hf _ (m_ 1 rfl);have f2:(xs 2)=.int .i64 0:=hf _ (m_ 2 rfl);have f3:(xs 3)=.bool false:=hf _ (m_ 3 rfl);have f4:(xs 4)=.bool false:=hf _ (m_ 4 rfl);have f5:(xs 5)=.pointer (some ⟨w.heap.size,2,none⟩):=hf _ (m_ 5 rfl);have f6:(xs 6)=.agg #[.bool m,.slice B k d]:=hf _ (m_ 6 rfl);have f7:(xs 7)=.int .i64 30:=hf _ (m_ 7 rfl);have f8:(xs 8)=.bool true:=hf _ (m_ 8 rfl);have f9:(xs 9)=.bool true:=hf _ (m_ 9 rfl);have f10:(xs 10)=.bool true:=hf _ (m_ 10 rfl);have f11:True:=hf _ (m_ 11 rfl);have f12:True:=hf _ (m_ 12 rfl);have f13:True:=hf _ (m_ 13 rfl);have f14:(xs 14)=.bool true:=hf _ (m_ 14 rfl);have f15:(xs 15)=.bool true:=hf _ (m_ 15 rfl);have f16:True:=hf _ (m_ 16 rfl);have f17:True:=hf _ (m_ 17 rfl);have f18:True:=hf _ (m_ 18 rfl);have f19:True:=hf _ (m_ 19 rfl);have f20:True:=hf _ (m_ 20 rfl);have f21:(xs 21)=.bool true:=hf _ (m_ 21 rfl);have f22:(xs 22)=.bool true:=hf _ (m_ 22 rfl);have f23:True:=hf _ (m_ 23 rfl);have f24:True:=hf _ (m_ 24 rfl);have f25:True:=hf _ (m_ 25 rfl);have f26:True:=hf _ (m_ 26 rfl);have f27:True:=hf _ (m_ 27 rfl);have f28:True:=hf _ (m_ 28 rfl);have f29:True:=hf _ (m_ 29 rfl);have f30:True:=hf _ (m_ 30 rfl);have f31:True:=hf _ (m_ 31 rfl);have f32:True:=hf _ (m_ 32 rfl);have f33:True:=hf _ (m_ 33 rfl);have f34:(xs 34)=.bool true:=hf _ (m_ 34 rfl);clear hf hn hd;simp only[FL]
    have B263:=zz hbf;have z263:=B263.out.size;have Z1:=zz (B0.out.trans (B263.out.mono B0.out.size));clear hbf;generalize xs 0=x0,xs 1=x1,xs 2=x2,xs 3=x3,xs 4=x4,xs 5=x5,xs 6=x6,xs 7=x7,xs 8=x8,xs 9=x9,xs 10=x10,xs 11=x11,xs 12=x12,xs 13=x13,xs 14=x14,xs 15=x15,xs 16=x16,xs 17=x17,xs 18=x18,xs 19=x19,xs 20=x20,xs 21=x21,xs 22=x22,xs 23=x23,xs 24=x24,xs 25=x25,xs 26=x26,xs 27=x27,xs 28=x28,xs 29=x29,xs 30=x30,xs 31=x31,xs 32=x32,xs 33=x33,xs 34=x34 at *
    obtain rfl:=f0;obtain rfl:=f1;obtain rfl:=f2;obtain rfl:=f3;obtain rfl:=f4;obtain rfl:=f5;obtain rfl:=f6;obtain rfl:=f7;obtain rfl:=f8;obtain rfl:=f9;obtain rfl:=f10;clear f11;clear f12;clear f13;obtain rfl:=f14;obtain rfl:=f15;clear f16;clear f17;clear f18;clear f19;clear f20;obtain rfl:=f21;obtain rfl:=f22;clear f23;clear f24;clear f25;clear f26;clear f27;clear f28;clear f29;clear f30;clear f31;clear f32;clear f33;obtain rfl:=f34;refine Early.done (by kernel_rfl) ?_ _;(try simp only[Exit.then])
    go_wp2;go_ret;exact⟨Z1.out,by rw[HR.out,chkQ_none (qOf_none2 HVB.out)];rfl⟩
 ·have HVA:=zz hva;clear hva;go_enter Tryz.func8,Tryz.ntmps8
  go_upto_region 1 with (fail)
  rw[← hw0];clear hw0;refine Flow.run [⟨0,3,fun fv fw=>fv=.pointer (some ⟨w.heap.size,0,none⟩)⟩,⟨1,4,fun fv fw=>fv=.agg #[.bool n,.slice A l c]⟩,⟨2,5,fun fv fw=>fv=.int .i64 30⟩,⟨3,6,fun fv fw=>fv=.bool true⟩,⟨4,7,fun fv fw=>fv=.bool true⟩,⟨5,8,fun fv fw=>True⟩,⟨6,9,fun fv fw=>True⟩,⟨7,10,fun fv fw=>True⟩,⟨8,11,fun fv fw=>True⟩,⟨9,12,fun fv fw=>fv=.bool true⟩,⟨10,13,fun fv fw=>fv=.bool true⟩,⟨11,14,fun fv fw=>True⟩,⟨12,15,fun fv fw=>True⟩,⟨13,16,fun fv fw=>True⟩,⟨14,17,fun fv fw=>fv=.bool true⟩,⟨15,18,fun fv fw=>fv=.bool true⟩,⟨16,19,fun fv fw=>True⟩,⟨17,20,fun fv fw=>True⟩,⟨18,21,fun fv fw=>True⟩,⟨19,22,fun fv fw=>True⟩,⟨20,23,fun fv fw=>True⟩,⟨21,24,fun fv fw=>fv=.bool true⟩,⟨22,25,fun fv fw=>fv=.bool true⟩,⟨23,26,fun fv fw=>True⟩,⟨24,27,fun fv fw=>True⟩,⟨25,28,fun fv fw=>True⟩,⟨26,29,fun fv fw=>True⟩,⟨27,30,fun fv fw=>True⟩,⟨28,31,fun fv fw=>True⟩,⟨29,32,fun fv fw=>True⟩,⟨30,33,fun fv fw=>True⟩,⟨31,34,fun fv fw=>True⟩,⟨32,35,fun fv fw=>True⟩,⟨33,36,fun fv fw=>True⟩,⟨34,37,fun fv fw=>fv=.bool true⟩] [] [] 0 (by kernel_rfl) (by kernel_rfl) (by kernel_rfl) (fun _ _ _ _ _ h=>h) ?_ ?_ ?_ ?_
  ·refine(a0 (a0 (a0 (a0 (a0 (a0 (a0 (a0 (a0 (a0 (a0 (a0 (a0 (a0 (a0 (a0 (a0 (a0 (a0 (a0 (a0 (a0 (a0 (a0 (a0 (a0 (a0 (a0 (a0 (a0 (a0 (a0 (a0 (a0 (a0 all_nil)))))))))))))))))))))))))))))))))))
  ·refine(all_cons ?_ (all_cons ?_ (all_cons ?_ (all_cons ?_ (all_cons ?_ (all_cons ?_ (all_cons ?_ (all_cons ?_ (all_cons ?_ (all_cons ?_ (all_cons ?_ (all_cons ?_ (all_cons ?_ (all_cons ?_ (all_cons ?_ (all_cons ?_ (all_cons ?_ (all_cons ?_ (all_cons ?_ (all_cons ?_ (all_cons ?_ (all_cons ?_ (all_cons ?_ (all_cons ?_ (all_cons ?_ (all_cons ?_ (all_cons ?_ (all_cons ?_ (all_cons ?_ (all_cons ?_ (all_cons ?_ (all_cons ?_ (all_cons ?_ (all_cons ?_ (all_cons ?_ all_nil)))))))))))))))))))))))))))))))))))
   ·intro xs u13 c0 b0;clear c0;clear b0;refine wpOp_step (o:=_) rfl (fun K hK=>?_);simp only[FL]
    go_simp;refine hK _ _ ⟨.pointer (some ⟨w.heap.size,0,none⟩),by kernel_rfl,Below.refl _ _,rfl,nF⟩
   ·intro xs w13 c0 b0;have l1:=zz c0;have y13:=c0.size;clear c0;have f0:(xs 0)=.pointer (some ⟨w.heap.size,0,none⟩):=b0 _ (m_ 0 rfl) (by kernel_rfl);clear b0;refine wpOp_step (o:=_) rfl (fun K hK=>?_);simp only[FL]
    have q0:=CB.step La l1.out;have U5:=q0.cell 0 rfl;have V5:=q0.cell 1 rfl;go_simp;refine hK _ _ ⟨.agg #[.bool n,.slice A l c],by simp only[FL,f0] <;> kernel_rfl,Below.refl _ _,rfl,nF⟩
   ·intro xs z13 c0 b0;have m1:=zz c0;have A13:=c0.size;clear c0;have f1:(xs 1)=.agg #[.bool n,.slice A l c]:=b0 _ (m_ 1 rfl) (by kernel_rfl);clear b0;refine wpOp_step (o:=_) rfl (fun K hK=>?_);simp only[FL]
    go_simp;have n1:=zz (LR.step HA.out m1.out);(with_reducible refine(Check_bad n1.out HVA.out).mono ?_)
    rintro e wc271 ⟨a2,rfl⟩;refine hK _ _ ⟨.int .i64 30,by simp only[FL,f1] <;> kernel_rfl,a2,rfl,nF⟩
   ·intro xs B13 c0 b0;clear c0;have f2:(xs 2)=.int .i64 30:=b0 _ (m_ 2 rfl) (by kernel_rfl);clear b0;refine wpOp_step (o:=_) rfl (fun K hK=>?_);simp only[FL]
    go_simp;refine hK _ _ ⟨.bool true,by simp only[FL,f2] <;> kernel_rfl,Below.refl _ _,rfl,nF⟩
   ·intro xs D13 c0 b0;clear c0;have f3:(xs 3)=.bool true:=b0 _ (m_ 3 rfl) (by kernel_rfl);clear b0;refine wpOp_step (o:=_) rfl (fun K hK=>?_);simp only[FL]
    go_simp;refine hK _ _ ⟨.bool true,by simp only[FL,f3] <;> kernel_rfl,Below.refl _ _,rfl,nF⟩
   ·intro xs F13 c0 b0;clear c0;have f4:(xs 4)=.bool true:=b0 _ (m_ 4 rfl) (by kernel_rfl);clear b0;refine wpOp_step (o:=?_) ?Z5 ?_
    case Z5=>exact rfl
    intro K hK;simp only[FL]
    go_simp;refine hK _ _ ⟨undef,by simp only[FL,f4] <;> kernel_rfl,Below.refl _ _,trivial,nF⟩
   ·intro xs H13 c0 b0;clear c0;have f4:(xs 4)=.bool true:=b0 _ (m_ 4 rfl) (by kernel_rfl);clear b0;refine wpOp_step (o:=?_) ?b6 ?_
    case b6=>exact rfl
    intro K hK;simp only[FL]
    go_simp;refine hK _ _ ⟨undef,by simp only[FL,f4] <;> kernel_rfl,Below.refl _ _,trivial,nF⟩
   ·intro xs J13 c0 b0;clear c0;have f4:(xs 4)=.bool true:=b0 _ (m_ 4 rfl) (by kernel_rfl);clear b0;refine wpOp_step (o:=?_) ?d6 ?_
    case d6=>exact rfl
    intro K hK;simp only[FL]
    go_simp;refine hK _ _ ⟨undef,by simp only[FL,f4] <;> kernel_rfl,Below.refl _ _,trivial,nF⟩
   ·intro xs L13 c0 b0;clear c0;have f4:(xs 4)=.bool true:=b0 _ (m_ 4 rfl) (by kernel_rfl);clear b0;refine wpOp_step (o:=?_) ?g6 ?_
    case g6=>exact rfl
    intro K hK;simp only[FL]
    go_simp;refine hK _ _ ⟨undef,by simp only[FL,f4] <;> kernel_rfl,Below.refl _ _,trivial,nF⟩
   ·intro xs N13 c0 b0;clear c0;have f4:(xs 4)=.bool true:=b0 _ (m_ 4 rfl) (by kernel_rfl);clear b0;refine wpOp_step (o:=_) rfl (fun K hK=>?_);simp only[FL]
    go_simp;refine hK _ _ ⟨.bool true,by simp only[FL,f4] <;> kernel_rfl,Below.refl _ _,rfl,nF⟩
   ·intro xs P13 c0 b0;clear c0;have f9:(xs 9)=.bool true:=b0 _ (m_ 9 rfl) (by kernel_rfl);clear b0;refine wpOp_step (o:=_) rfl (fun K hK=>?_);simp only[FL]
    go_simp;refine hK _ _ ⟨.bool true,by simp only[FL,f9] <;> kernel_rfl,Below.refl _ _,rfl,nF⟩
   ·intro xs R13 c0 b0;clear c0;have f10:(xs 10)=.bool true:=b0 _ (m_ 10 rfl) (by kernel_rfl);clear b0;refine wpOp_step (o:=?_) ?k6 ?_
    case k6=>exact rfl
    intro K hK;simp only[FL]
    go_simp;refine hK _ _ ⟨undef,by simp only[FL,f10] <;> kernel_rfl,Below.refl _ _,trivial,nF⟩
   ·intro xs T13 c0 b0;clear c0;have f10:(xs 10)=.bool true:=b0 _ (m_ 10 rfl) (by kernel_rfl);clear b0;refine wpOp_step (o:=?_) ?m6 ?_
    case m6=>exact rfl
    intro K hK;simp only[FL]
    go_simp;refine hK _ _ ⟨undef,by simp only[FL,f10] <;> kernel_rfl,Below.refl _ _,trivial,nF⟩
   ·intro xs V13 c0 b0;clear c0;have f10:(xs 10)=.bool true:=b0 _ (m_ 10 rfl) (by kernel_rfl);clear b0;refine wpOp_step (o:=?_) ?o6 ?_
    case o6=>exact rfl
    intro K hK;simp only[FL]
    go_simp;refine hK _ _ ⟨undef,by simp only[FL,f10] <;> kernel_rfl,Below.refl _ _,trivial,nF⟩
   ·intro xs X13 c0 b0;clear c0;have f10:(xs 10)=.bool true:=b0 _ (m_ 10 rfl) (by kernel_rfl);clear b0;refine wpOp_step (o:=_) rfl (fun K hK=>?_);simp only[FL]
    go_simp;refine hK _ _ ⟨.bool true,by simp only[FL,f10] <;> kernel_rfl,Below.refl _ _,rfl,nF⟩
   ·intro xs Z13 c0 b0;clear c0;have f14:(xs 14)=.bool true:=b0 _ (m_ 14 rfl) (by kernel_rfl);clear b0;refine wpOp_step (o:=_) rfl (fun K hK=>?_);simp only[FL]
    go_simp;refine hK _ _ ⟨.bool true,by simp only[FL,f14] <;> kernel_rfl,Below.refl _ _,rfl,nF⟩
   ·intro xs b14 c0 b0;clear c0;have f15:(xs 15)=.bool true:=b0 _ (m_ 15 rfl) (by kernel_rfl);clear b0;refine wpOp_step (o:=?_) ?s6 ?_
    case s6=>exact rfl
    intro K hK;simp only[FL]
    go_simp;refine hK _ _ ⟨undef,by simp only[FL,f15] <;> kernel_rfl,Below.refl _ _,trivial,nF⟩
   ·intro xs d14 c0 b0;clear c0;have f15:(xs 15)=.bool true:=b0 _ (m_ 15 rfl) (by kernel_rfl);clear b0;refine wpOp_step (o:=?_) ?u6 ?_
    case u6=>exact rfl
    intro K hK;simp only[FL]
    go_simp;refine hK _ _ ⟨undef,by simp only[FL,f15] <;> kernel_rfl,Below.refl _ _,trivial,nF⟩
   ·intro xs g14 c0 b0;clear c0;have f15:(xs 15)=.bool true:=b0 _ (m_ 15 rfl) (by kernel_rfl);clear b0;refine wpOp_step (o:=?_) ?w6 ?_
    case w6=>exact rfl
    intro K hK;simp only[FL]
    go_simp;refine hK _ _ ⟨undef,by simp only[FL,f15] <;> kernel_rfl,Below.refl _ _,trivial,nF⟩
   ·intro xs i14 c0 b0;clear c0;have f15:(xs 15)=.bool true:=b0 _ (m_ 15 rfl) (by kernel_rfl);clear b0;refine wpOp_step (o:=?_) ?z6 ?_
    case z6=>exact rfl
    intro K hK;simp only[FL]
    go_simp;refine hK _ _ ⟨undef,by simp only[FL,f15] <;> kernel_rfl,Below.refl _ _,trivial,nF⟩
   ·intro xs k14 c0 b0;clear c0;have f15:(xs 15)=.bool true:=b0 _ (m_ 15 rfl) (by kernel_rfl);clear b0;refine wpOp_step (o:=?_) ?B6 ?_
    case B6=>exact rfl
    intro K hK;simp only[FL]
    go_simp;refine hK _ _ ⟨undef,by simp only[FL,f15] <;> kernel_rfl,Below.refl _ _,trivial,nF⟩
   ·intro xs m14 c0 b0;clear c0;have f15:(xs 15)=.bool true:=b0 _ (m_ 15 rfl) (by kernel_rfl);clear b0;refine wpOp_step (o:=_) rfl (fun K hK=>?_);simp only[FL]
    go_simp;refine hK _ _ ⟨.bool true,by simp only[FL,f15] <;> kernel_rfl,Below.refl _ _,rfl,nF⟩
   ·intro xs o14 c0 b0;clear c0;have f21:(xs 21)=.bool true:=b0 _ (m_ 21 rfl) (by kernel_rfl);clear b0;refine wpOp_step (o:=_) rfl (fun K hK=>?_);simp only[FL]
    go_simp;refine hK _ _ ⟨.bool true,by simp only[FL,f21] <;> kernel_rfl,Below.refl _ _,rfl,nF⟩
   ·intro xs q14 c0 b0;clear c0;have f22:(xs 22)=.bool true:=b0 _ (m_ 22 rfl) (by kernel_rfl);clear b0;refine wpOp_step (o:=?_) ?F6 ?_
    case F6=>exact rfl
    intro K hK;simp only[FL]
    go_simp;refine hK _ _ ⟨undef,by simp only[FL,f22] <;> kernel_rfl,Below.refl _ _,trivial,nF⟩
   ·intro xs s14 c0 b0;clear c0;have f22:(xs 22)=.bool true:=b0 _ (m_ 22 rfl) (by kernel_rfl);clear b0;refine wpOp_step (o:=?_) ?H6 ?_
    case H6=>exact rfl
    intro K hK;simp only[FL]
    go_simp;refine hK _ _ ⟨undef,by simp only[FL,f22] <;> kernel_rfl,Below.refl _ _,trivial,nF⟩
   ·intro xs u14 c0 b0;clear c0;have f22:(xs 22)=.bool true:=b0 _ (m_ 22 rfl) (by kernel_rfl);clear b0;refine wpOp_step (o:=?_) ?J6 ?_
    case J6=>exact rfl
    intro K hK;simp only[FL]
    go_simp;refine hK _ _ ⟨undef,by simp only[FL,f22] <;> kernel_rfl,Below.refl _ _,trivial,nF⟩
   ·intro xs w14 c0 b0;clear c0;have f22:(xs 22)=.bool true:=b0 _ (m_ 22 rfl) (by kernel_rfl);clear b0;refine wpOp_step (o:=?_) ?L6 ?_
    case L6=>exact rfl
    intro K hK;simp only[FL]
    go_simp;refine hK _ _ ⟨undef,by simp only[FL,f22] <;> kernel_rfl,Below.refl _ _,trivial,nF⟩
   ·intro xs z14 c0 b0;clear c0;have f22:(xs 22)=.bool true:=b0 _ (m_ 22 rfl) (by kernel_rfl);clear b0;refine wpOp_step (o:=?_) ?N6 ?_
    case N6=>exact rfl
    intro K hK;simp only[FL]
    go_simp;refine hK _ _ ⟨undef,by simp only[FL,f22] <;> kernel_rfl,Below.refl _ _,trivial,nF⟩
   ·intro xs B14 c0 b0;clear c0;have f22:(xs 22)=.bool true:=b0 _ (m_ 22 rfl) (by kernel_rfl);clear b0;refine wpOp_step (o:=?_) ?P6 ?_
    case P6=>exact rfl
    intro K hK;simp only[FL]
    go_simp;refine hK _ _ ⟨undef,by simp only[FL,f22] <;> kernel_rfl,Below.refl _ _,trivial,nF⟩
   ·intro xs D14 c0 b0;clear c0;have f22:(xs 22)=.bool true:=b0 _ (m_ 22 rfl) (by kernel_rfl);clear b0;refine wpOp_step (o:=?_) ?R6 ?_
    case R6=>exact rfl
    intro K hK;simp only[FL]
    go_simp;refine hK _ _ ⟨undef,by simp only[FL,f22] <;> kernel_rfl,Below.refl _ _,trivial,nF⟩
   ·intro xs F14 c0 b0;clear c0;have f22:(xs 22)=.bool true:=b0 _ (m_ 22 rfl) (by kernel_rfl);clear b0;refine wpOp_step (o:=?_) ?T6 ?_
    case T6=>exact rfl
    intro K hK;simp only[FL]
    go_simp;refine hK _ _ ⟨undef,by simp only[FL,f22] <;> kernel_rfl,Below.refl _ _,trivial,nF⟩
   ·intro xs H14 c0 b0;clear c0;have f22:(xs 22)=.bool true:=b0 _ (m_ 22 rfl) (by kernel_rfl);clear b0;refine wpOp_step (o:=?_) ?V6 ?_
    case V6=>exact rfl
    intro K hK;simp only[FL]
    go_simp;refine hK _ _ ⟨undef,by simp only[FL,f22] <;> kernel_rfl,Below.refl _ _,trivial,nF⟩
   ·intro xs J14 c0 b0;clear c0;have f22:(xs 22)=.bool true:=b0 _ (m_ 22 rfl) (by kernel_rfl);clear b0;refine wpOp_step (o:=?_) ?X6 ?_
    case X6=>exact rfl
    intro K hK;simp only[FL]
    go_simp;refine hK _ _ ⟨undef,by simp only[FL,f22] <;> kernel_rfl,Below.refl _ _,trivial,nF⟩
   ·intro xs L14 c0 b0;clear c0;have f22:(xs 22)=.bool true:=b0 _ (m_ 22 rfl) (by kernel_rfl);clear b0;refine wpOp_step (o:=?_) ?Z6 ?_
    case Z6=>exact rfl
    intro K hK;simp only[FL]
    go_simp;refine hK _ _ ⟨undef,by simp only[FL,f22] <;> kernel_rfl,Below.refl _ _,trivial,nF⟩
   ·intro xs N14 c0 b0;clear c0;have f22:(xs 22)=.bool true:=b0 _ (m_ 22 rfl) (by kernel_rfl);clear b0;refine wpOp_step (o:=_) rfl (fun K hK=>?_);simp only[FL]
    go_simp;refine hK _ _ ⟨.bool true,by simp only[FL,f22] <;> kernel_rfl,Below.refl _ _,rfl,nF⟩
  ·exact all_nil
  ·intro xs W17 hbf hf hn hd;have f0:(xs 0)=.pointer (some ⟨w.heap.size,0,none⟩):=hf _ (m_ 0 rfl);have f1:(xs 1)=.agg #[.bool n,.slice A l c]:=hf _ (m_ 1 rfl);have f2:(xs 2)=.int .i64 30:=hf _ (m_ 2 rfl);have f3:(xs 3)=.bool true:=hf _ (m_ 3 rfl);have f4:(xs 4)=.bool true:=hf _ (m_ 4 rfl);have f5:True:=hf _ (m_ 5 rfl);have f6:True:=hf _ (m_ 6 rfl);have f7:True:=hf _ (m_ 7 rfl);have f8:True:=hf _ (m_ 8 rfl);have f9:(xs 9)=.bool true:=hf _ (m_ 9 rfl);have f10:(xs 10)=.bool true:=hf _ (m_ 10 rfl);have f11:True:=hf _ (m_ 11 rfl);have f12:True:=hf _ (m_ 12 rfl);have f13:True:=hf _ (m_ 13 rfl);have f14:(xs 14)=.bool true:=hf _ (m_ 14 rfl);have f15:(xs 15)=.bool true:=hf _ (m_ 15 rfl);have f16:True:=hf _ (m_ 16 rfl);have f17:True:=hf _ (m_ 17 rfl);have f18:True:=hf _ (m_ 18 rfl);have f19:True:=hf _ (m_ 19 rfl);have f20:True:=hf _ (m_ 20 rfl);have f21:(xs 21)=.bool true:=hf _ (m_ 21 rfl);have f22:(xs 22)=.bool true:=hf _ (m_ 22 rfl);have f23:True:=hf _ (m_ 23 rfl);have f24:True:=hf _ (m_ 24 rfl);have f25:True:=hf _ (m_ 25 rfl);have f26:True:=hf _ (m_ 26 rfl);have f27:True:=hf _ (m_ 27 rfl);have f28:True:=hf _ (m_ 28 rfl);have f29:True:=hf _ (m_ 29 rfl);have f30:True:=hf _ (m_ 30 rfl);have f31:True:=hf _ (m_ 31 rfl);have f32:True:=hf _ (m_ 32 rfl);have f33:True:=hf _ (m_ 33 rfl);have f34:(xs 34)=.bool true:=hf _ (m_ 34 rfl);clear hf hn hd;simp only[FL]
   have B305:=zz hbf;have z305:=B305.out.size;have b2:=zz (B0.out.trans (B305.out.mono B0.out.size));clear hbf;generalize xs 0=x0,xs 1=x1,xs 2=x2,xs 3=x3,xs 4=x4,xs 5=x5,xs 6=x6,xs 7=x7,xs 8=x8,xs 9=x9,xs 10=x10,xs 11=x11,xs 12=x12,xs 13=x13,xs 14=x14,xs 15=x15,xs 16=x16,xs 17=x17,xs 18=x18,xs 19=x19,xs 20=x20,xs 21=x21,xs 22=x22,xs 23=x23,xs 24=x24,xs 25=x25,xs 26=x26,xs 27=x27,xs 28=x28,xs 29=x29,xs 30=x30,xs 31=x31,xs 32=x32,xs 33=x33,xs 34=x34 at *
   obtain rfl:=f0;obtain rfl:=f1;obtain rfl:=f2;obtain rfl:=f3;obtain rfl:=f4;clear f5;clear f6;clear f7;clear f8;obtain rfl:=f9;obtain rfl:=f10;clear f11;clear f12;clear f13;obtain rfl:=f14;obtain rfl:=f15;clear f16;clear f17;clear f18;clear f19;clear f20;obtain rfl:=f21;obtain rfl:=f22;clear f23;clear f24;clear f25;clear f26;clear f27;clear f28;clear f29;clear f30;clear f31;clear f32;clear f33;obtain rfl:=f34;refine Early.done (by kernel_rfl) ?_ _;(try simp only[Exit.then])
   go_wp2;go_ret;exact⟨b2.out,by rw[HR.out,chkQ_none (qOf_none1 HVA.out)];rfl⟩
end Go.Proofs.YtngpibfakemmhaaGreatDoor
