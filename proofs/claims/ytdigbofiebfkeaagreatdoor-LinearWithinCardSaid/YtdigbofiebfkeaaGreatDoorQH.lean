/- Layer 04: Check (written by gen_qg.py). -/
import Derived.Test.YtdigbofiebfkeaaGreatDoorQF
import Derived.Test.YtdigbofiebfkeaaGreatDoorPr
namespace Go.Proofs.YtdigbofiebfkeaaGreatDoor
open Go Go.RowKit Dig
set_option maxRecDepth 100000
set_option maxHeartbeats 4000000
set_option linter.unusedSimpArgs false
theorem qOf_none1 {n m:Bool} {a b:List Int} (h:¬ Valid n a):qOf n a m b=none:=by unfold qOf;rw[numOf_bad h]
theorem qOf_none2 {n m:Bool} {a b:List Int} (h:¬ Valid m b):qOf n a m b=none:=by unfold qOf;rw[numOf_bad h];cases numOf n a <;> rfl
theorem qOf_both {n m:Bool} {a b:List Int} {x y:Int} (hx:numOf n a=some x) (hy:numOf m b=some y):qOf n a m b=if 0<y∧Nat.gcd x.natAbs y.natAbs=1 then some (mkRat x y.natAbs) else none:=by unfold qOf;rw[hx,hy]
noncomputable def chkQ (n:Bool) (a:List Int) (m:Bool) (b:List Int):Int:=if (qOf n a m b).isSome then 0 else 40
theorem chkQ_some {n m:Bool} {a b:List Int} {q:Rat} (h:qOf n a m b=some q):chkQ n a m b=0:=by unfold chkQ;rw[h];rfl
theorem chkQ_none {n m:Bool} {a b:List Int} (h:qOf n a m b=none):chkQ n a m b=40:=by unfold chkQ;rw[h];rfl
theorem lr_is {w:World} {B:Nat} {n:Bool} {s:Value} {m:Bool} {l:List Int} (h:LR w B (.agg #[.bool n,s]) m l):RI w B s l:=by
 obtain⟨s',e,h⟩:=h;injection e with e
 simp at e
 rw[e.2];exact h
theorem QCheck_any (w:World) (v:Value) (n:Bool) (a:List Int) (m:Bool) (b:List Int) (h:QR w w.heap.size v n a m b) :
  Calls Tryz.prog 52 #[v] w fun e w'=>Below w.heap.size w w'∧e=.returned (.int .i64 (chkQ n a m b)):=by
 obtain⟨r,hr⟩:∃ r,r=chkQ n a m b:=⟨_,rfl⟩;rw[← hr];have HR:=zz hr;clear hr;obtain⟨A,l,c,B,k,d,rfl,Ha,Hb⟩:=h;have ea:=RI.len Ha;have eb:=RI.len Hb;have B1:=zz eb;clear ea eb;obtain⟨w0,hw0⟩:∃ w0:World,w0=(w.alloc (.cells #[.bool n,.slice A l c,.bool m,.slice B k d] 33)):=⟨_,rfl⟩;have B0:=zz (n1_b hw0);have z0:=n1_z hw0;have La:=n1_0 hw0;have HA:=zz (show LR w0 w0.heap.size (.agg #[.bool n,.slice A l c]) n a from LR.step ⟨_,rfl,Ha⟩ B0.out);have HB:=zz (show LR w0 w0.heap.size (.agg #[.bool m,.slice B k d]) m b from LR.step ⟨_,rfl,Hb⟩ B0.out);clear Ha Hb;by_cases hva:Valid n a
 ·have q1:=zz hva;clear hva;by_cases hvb:Valid m b
  ·have r1:=zz hvb;clear hvb;obtain⟨x,hx,nx,ax,lx⟩:=numOf_valid q1.out;obtain⟨y,hy,ny,by',ly⟩:=numOf_valid r1.out;have HX:=zz hx;have HY:=zz hy;have NX:=zz nx;have NY:=zz ny;have AX:=zz ax;have BY:=zz by';have HL:=zz (And.intro lx ly);clear hx hy nx ny ax by' lx ly
   cases m with
   | true=>
    have s1:=zz (show qOf n a true b=none by rw[qOf_both HX.out HY.out,if_neg (fun h=>by have h1:=NY.out;rw[decide_eq_false (by omega)] at h1;cases h1)]);go_enter Tryz.func52,Tryz.ntmps52
    go_upto_region 1 with (fail)
    rw[← hw0];clear hw0;refine Sweep.r0 [se 0 3 [] (.pointer (some ⟨w.heap.size,0,none⟩)),se 1 4 [0] (.agg #[.bool n,.slice A l c]),se 2 5 [1] (.int .i64 0),se 3 6 [2] (.bool false),se 4 7 [3] (.bool false),se 5 8 [4] (.pointer (some ⟨w.heap.size,2,none⟩)),se 6 9 [4,5] (.agg #[.bool true,.slice B k d]),se 7 10 [4,6] (.int .i64 0),se 8 11 [4,7] (.bool false),se 9 12 [4,8] (.bool false),se 10 13 [9] (.bool false),se 11 14 [10] (.pointer (some ⟨w.heap.size,2,none⟩)),se 12 15 [10,11] (.pointer (some ⟨w.heap.size,2,none⟩)),se 13 16 [10,12] (.bool true),se 14 17 [10,13] (.bool true),se 15 18 [14] (.bool true),se 16 19 [15] undef,se 17 20 [15] undef,se 18 21 [15] undef,se 19 22 [15] undef,se 20 23 [15] undef,se 21 24 [15] (.bool true),se 22 25 [21] (.bool true),se 23 26 [22] undef,se 24 27 [22] undef,se 25 28 [22] undef,se 26 29 [22] undef,se 27 30 [22] undef,se 28 31 [22] undef,se 29 32 [22] undef,se 30 33 [22] undef,se 31 34 [22] undef,se 32 35 [22] undef,se 33 36 [22] undef,se 34 37 [22] (.bool true)] 0 (SB La S0) trivial ?_ ?_
    ·intro xs a_ hA;simp only[SX] at hA
     iterate 35 (refine ac ?_ ?_;rotate_left)
     exact all_nil
     all_goals (intro wk hb;simp only[SX,↓reduceIte,Nat.reduceEqDiff,Nat.reduceAdd];have b_:=zz hb;have z_:=hb.size;clear hb;subst hA)
     any_goals (intros;refine wpOp_step rfl ?_;intro K hK;go_simp;refine hK _ _ ⟨_,?_,Below.refl _ _,rfl⟩;simp only[*,FL] <;> kernel_rfl)
     ·intro f1;intros;refine wpOp_step (o:=_) rfl (fun K hK=>?_);go_simp;have n0:=zz (LR.step HA.out b_.out);(with_reducible refine(Check_good n0.out q1.out).mono ?_)
      rintro e wc2 ⟨V0,rfl⟩;refine hK _ _ ⟨.int .i64 0,by simp only[FL,f1] <;> kernel_rfl,V0,rfl⟩
     ·intro f4 f6;intros;refine wpOp_step (o:=?_) ?p1 ?_
      case p1=>exact rfl
      intro K hK;go_simp;have o0:=zz (LR.step HB.out b_.out);(with_reducible refine(Check_good o0.out r1.out).mono ?_)
      rintro e wc5 ⟨W0,rfl⟩;refine hK _ _ ⟨.int .i64 0,by simp only[FL,f4,f6] <;> kernel_rfl,W0,rfl⟩
    ·intro xs N1 hbf;simp only[SY];have B7:=zz hbf;have z7:=B7.out.size;have X0:=tr B0 B7;clear hbf;refine ED ?_;(try simp only[Exit.then])
     go_wp2;go_ret;exact⟨X0.out,by rw[HR.out,chkQ_none s1.out];rfl⟩
   | false=>
    by_cases hk:k=0
    ·have Y0:((k:Int)==0)=true:=by rw[beq_iff_eq];omega
     have s1:=zz (show qOf n a false b=none by rw[qOf_both HX.out HY.out,if_neg (fun h=>by have h1:=B1.out;rw[BY.out,ni_length,hk] at h1;have:=dig_nil.1 h1.symm;omega)]);clear hk;go_enter Tryz.func52,Tryz.ntmps52
     go_upto_region 1 with (fail)
     rw[← hw0];clear hw0;refine Sweep.r0 [se 0 3 [] (.pointer (some ⟨w.heap.size,0,none⟩)),se 1 4 [0] (.agg #[.bool n,.slice A l c]),se 2 5 [1] (.int .i64 0),se 3 6 [2] (.bool false),se 4 7 [3] (.bool false),se 5 8 [4] (.pointer (some ⟨w.heap.size,2,none⟩)),se 6 9 [4,5] (.agg #[.bool false,.slice B k d]),se 7 10 [4,6] (.int .i64 0),se 8 11 [4,7] (.bool false),se 9 12 [4,8] (.bool false),se 10 13 [9] (.bool false),se 11 14 [10] (.pointer (some ⟨w.heap.size,2,none⟩)),se 12 15 [10,11] (.pointer (some ⟨w.heap.size,2,none⟩)),se 13 16 [10,12] (.bool false),se 14 17 [10,13] (.bool false),se 15 18 [14] (.bool false),se 16 19 [15] (.pointer (some ⟨w.heap.size,2,none⟩)),se 17 20 [15,16] (.pointer (some ⟨w.heap.size,3,none⟩)),se 18 21 [15,17] (.slice B k d),se 19 22 [15,18] (.int .i64 (k:Int)),se 20 23 [15,19] (.bool true),se 21 24 [15,20] (.bool true),se 22 25 [21] (.bool true),se 23 26 [22] undef,se 24 27 [22] undef,se 25 28 [22] undef,se 26 29 [22] undef,se 27 30 [22] undef,se 28 31 [22] undef,se 29 32 [22] undef,se 30 33 [22] undef,se 31 34 [22] undef,se 32 35 [22] undef,se 33 36 [22] undef,se 34 37 [22] (.bool true)] 0 (SB La S0) trivial ?_ ?_
     ·intro xs a_ hA;simp only[SX] at hA
      iterate 35 (refine ac ?_ ?_;rotate_left)
      exact all_nil
      all_goals (intro wk hb;simp only[SX,↓reduceIte,Nat.reduceEqDiff,Nat.reduceAdd];have b_:=zz hb;have z_:=hb.size;clear hb;subst hA)
      any_goals (intros;refine wpOp_step rfl ?_;intro K hK;go_simp;refine hK _ _ ⟨_,?_,Below.refl _ _,rfl⟩;simp only[*,FL] <;> kernel_rfl)
      ·intro f1;intros;refine wpOp_step (o:=_) rfl (fun K hK=>?_);go_simp;have p0:=zz (LR.step HA.out b_.out);(with_reducible refine(Check_good p0.out q1.out).mono ?_)
       rintro e wc10 ⟨q0,rfl⟩;refine hK _ _ ⟨.int .i64 0,by simp only[FL,f1] <;> kernel_rfl,q0,rfl⟩
      ·intro f4 f6;intros;refine wpOp_step (o:=?_) ?Z0 ?_
       case Z0=>exact rfl
       intro K hK;go_simp;have e0:=zz (LR.step HB.out b_.out);(with_reducible refine(Check_good e0.out r1.out).mono ?_)
       rintro e wc13 ⟨s0,rfl⟩;refine hK _ _ ⟨.int .i64 0,by simp only[FL,f4,f6] <;> kernel_rfl,s0,rfl⟩
     ·intro xs I1 hbf;simp only[SY];have B15:=zz hbf;have z15:=B15.out.size;have t0:=tr B0 B15;clear hbf;refine ED ?_;(try simp only[Exit.then])
      go_wp2;go_ret;exact⟨t0.out,by rw[HR.out,chkQ_none s1.out];rfl⟩
    ·have Y0:((k:Int)==0)=false:=by rw[beq_eq_false_iff_ne];omega
     have hy1:y.natAbs≠0:=fun h=>hk (by have h1:=B1.out;rw[BY.out,ni_length,h,dig_zero] at h1;exact h1)
     have hy0:0<y:=by
      have h3:=NY.out;rcases Int.lt_or_le y 0 with h4 | h4
      ·rw[decide_eq_true h4] at h3;cases h3
      ·omega
     have G1:=zz hy0;have O1:=zz hy1;clear hy0 hy1 hk;obtain⟨g,hg⟩:∃ g,g=Nat.gcd x.natAbs y.natAbs:=⟨_,rfl⟩;have HG:=zz hg;clear hg;have C1:=zz (show RN w0 w0.heap.size (.slice A l c) (dig x.natAbs) from by have h1:RI w0 w0.heap.size (.slice A l c) a:=lr_is HA.out;rw[AX.out] at h1;exact h1);have m0:=zz (show RN w0 w0.heap.size (.slice B k d) (dig y.natAbs) from by have h1:RI w0 w0.heap.size (.slice B k d) b:=lr_is HB.out;rw[BY.out] at h1;exact h1);by_cases hg1:g=1
     ·have t1:=zz hg1;clear hg1;have E1:=zz (show qOf n a false b=some (mkRat x y.natAbs) by rw[qOf_both HX.out HY.out,if_pos ⟨G1.out,by rw[← HG.out];exact t1.out⟩]);go_enter Tryz.func52,Tryz.ntmps52
      go_upto_region 1 with (fail)
      rw[← hw0];clear hw0
      refine Sweep.r0 [se 0 3 [] (.pointer (some ⟨w.heap.size,0,none⟩)),se 1 4 [0] (.agg #[.bool n,.slice A l c]),se 2 5 [1] (.int .i64 0),se 3 6 [2] (.bool false),se 4 7 [3] (.bool false),se 5 8 [4] (.pointer (some ⟨w.heap.size,2,none⟩)),se 6 9 [4,5] (.agg #[.bool false,.slice B k d]),se 7 10 [4,6] (.int .i64 0),se 8 11 [4,7] (.bool false),se 9 12 [4,8] (.bool false),se 10 13 [9] (.bool false),se 11 14 [10] (.pointer (some ⟨w.heap.size,2,none⟩)),se 12 15 [10,11] (.pointer (some ⟨w.heap.size,2,none⟩)),se 13 16 [10,12] (.bool false),se 14 17 [10,13] (.bool false),se 15 18 [14] (.bool false),se 16 19 [15] (.pointer (some ⟨w.heap.size,2,none⟩)),se 17 20 [15,16] (.pointer (some ⟨w.heap.size,3,none⟩)),se 18 21 [15,17] (.slice B k d),se 19 22 [15,18] (.int .i64 (k:Int)),se 20 23 [15,19] (.bool false),se 21 24 [15,20] (.bool false),se 22 25 [21] (.bool false),se 23 26 [22] (.agg #[.bool n,.slice A l c,.bool false,.slice B k d]),se 24 27 [22,23] (.agg #[.bool n,.slice A l c,.slice B k d]),se 25 28 [22,24] (.agg #[.bool n,.slice A l c]),se 26 29 [22,25] (.slice A l c),se 27 30 [22] (.pointer (some ⟨w.heap.size,2,none⟩)),se 28 31 [22,27] (.pointer (some ⟨w.heap.size,3,none⟩)),se 29 32 [22,28] (.slice B k d),sf 30 33 [22,26,29] (fun fv fw=>RN fw fw.heap.size fv (dig g)),sf 31 34 [22] (fun fv fw=>RN fw fw.heap.size fv (dig 1)),sf 32 35 [22,30,31] (fun fv fw=>∃ c:Int,fv=.int .i64 c∧SignOf c (g) (1)),se 33 36 [22,32] (.bool false),se 34 37 [22,33] (.bool false)] 0 (SB La S0) (MA (fun _ _ _ h hb=>h.step hb) (MA (fun _ _ _ h hb=>h.step hb) (MA (fun _ _ _ h _=>h) trivial))) ?_ ?_
      ·intro xs a_ hA;simp only[SX] at hA
       iterate 35 (refine ac ?_ ?_;rotate_left)
       exact all_nil
       all_goals (intro wk hb;simp only[SX,↓reduceIte,Nat.reduceEqDiff,Nat.reduceAdd];have b_:=zz hb;have z_:=hb.size;clear hb;subst hA)
       any_goals (intros;refine wpOp_step rfl ?_;intro K hK;go_simp;refine hK _ _ ⟨_,?_,Below.refl _ _,rfl⟩;simp only[*,FL] <;> kernel_rfl)
       ·intro f1;intros;refine wpOp_step (o:=_) rfl (fun K hK=>?_);go_simp;have f0:=zz (LR.step HA.out b_.out);(with_reducible refine(Check_good f0.out q1.out).mono ?_)
        rintro e wc18 ⟨u0,rfl⟩;refine hK _ _ ⟨.int .i64 0,by simp only[FL,f1] <;> kernel_rfl,u0,rfl⟩
       ·intro f4 f6;intros;refine wpOp_step (o:=?_) ?a1 ?_
        case a1=>exact rfl
        intro K hK;go_simp;have g0:=zz (LR.step HB.out b_.out);(with_reducible refine(Check_good g0.out r1.out).mono ?_)
        rintro e wc21 ⟨v0,rfl⟩;refine hK _ _ ⟨.int .i64 0,by simp only[FL,f4,f6] <;> kernel_rfl,v0,rfl⟩
       ·intro f22 f23;intros;refine wpOp_step (o:=?_) ?b1 ?_
        case b1=>exact rfl
        intro K hK;go_simp;(with_reducible refine(Read_any _ n false A B l c k d).mono ?_)
        rintro e wc23 ⟨x0,rfl⟩;refine hK _ _ ⟨.agg #[.bool n,.slice A l c,.slice B k d],by simp only[FL,f22,f23] <;> kernel_rfl,x0,rfl⟩
       ·intro f22 f26 f29;intros;refine wpOp_step (o:=?_) ?c1 ?_
        case c1=>exact rfl
        intro K hK;go_simp;have a0:=zz (RN.step C1.out b_.out);have b0:=zz (RN.step m0.out b_.out);(with_reducible refine((show Calls Tryz.prog _ _ _ _ from HG.out▸Common_any _ _ _ x.natAbs y.natAbs a0.out b0.out (by have:=HL.out;omega) (by have:=HL.out;omega))).mono ?_)
        rintro e wc27 ⟨y0,v27,rfl,A0⟩;refine hK _ _ ⟨v27,by simp only[FL,f22,f26,f29] <;> kernel_rfl,y0,A0⟩
       ·intro f22;intros;refine wpOp_step (o:=?_) ?d1 ?_
        case d1=>exact rfl
        intro K hK;go_simp;(with_reducible refine(one_any _).mono ?_)
        rintro e wc29 ⟨C0,v29,rfl,D0⟩;refine hK _ _ ⟨v29,by simp only[FL,f22] <;> kernel_rfl,C0,D0⟩
       ·intro f22 f30 f31;intros;refine wpOp_step (o:=?_) ?e1 ?_
        case e1=>exact rfl
        intro K hK;go_simp;(with_reducible refine(Cmp_any _ _ _ g 1 f30 f31).mono ?_)
        rintro e wc31 ⟨E0,c31,rfl,hc31⟩;refine hK _ _ ⟨.int .i64 c31,by simp only[FL,f22] <;> kernel_rfl,E0,⟨c31,rfl,hc31⟩⟩
       ·intro f22 f32;intros;refine wpOp_step (o:=?_) ?g1 ?_
        case g1=>exact rfl
        intro K hK;obtain⟨c,hc,hs⟩:=f32;unfold SignOf at hs;have hq:(c != 0)=false:=by have h1:=t1.out;rw[bne_eq_false_iff_eq];omega
        rw[hc];clear hs;go_simp;refine hK _ _ ⟨.bool false,by simp only[FL,f22,hc] <;> kernel_rfl,Below.refl _ _,rfl⟩
      ·intro xs J1 hbf;simp only[SY];have B34:=zz hbf;have z34:=B34.out.size;have F0:=tr B0 B34;clear hbf;generalize xs 30=x30,xs 31=x31,xs 32=x32;rintro f30 f31 f32;clear f30;clear f31;clear f32;refine ED ?_;(try simp only[Exit.then])
       go_wp2;go_ret;exact⟨F0.out,by rw[HR.out,chkQ_some E1.out];rfl⟩
     ·have t1:=zz hg1;clear hg1;have s1:=zz (show qOf n a false b=none by rw[qOf_both HX.out HY.out,if_neg (fun h=>t1.out (by rw[HG.out];exact h.2))]);go_enter Tryz.func52,Tryz.ntmps52
      go_upto_region 1 with (fail)
      rw[← hw0];clear hw0
      refine Sweep.r0 [se 0 3 [] (.pointer (some ⟨w.heap.size,0,none⟩)),se 1 4 [0] (.agg #[.bool n,.slice A l c]),se 2 5 [1] (.int .i64 0),se 3 6 [2] (.bool false),se 4 7 [3] (.bool false),se 5 8 [4] (.pointer (some ⟨w.heap.size,2,none⟩)),se 6 9 [4,5] (.agg #[.bool false,.slice B k d]),se 7 10 [4,6] (.int .i64 0),se 8 11 [4,7] (.bool false),se 9 12 [4,8] (.bool false),se 10 13 [9] (.bool false),se 11 14 [10] (.pointer (some ⟨w.heap.size,2,none⟩)),se 12 15 [10,11] (.pointer (some ⟨w.heap.size,2,none⟩)),se 13 16 [10,12] (.bool false),se 14 17 [10,13] (.bool false),se 15 18 [14] (.bool false),se 16 19 [15] (.pointer (some ⟨w.heap.size,2,none⟩)),se 17 20 [15,16] (.pointer (some ⟨w.heap.size,3,none⟩)),se 18 21 [15,17] (.slice B k d),se 19 22 [15,18] (.int .i64 (k:Int)),se 20 23 [15,19] (.bool false),se 21 24 [15,20] (.bool false),se 22 25 [21] (.bool false),se 23 26 [22] (.agg #[.bool n,.slice A l c,.bool false,.slice B k d]),se 24 27 [22,23] (.agg #[.bool n,.slice A l c,.slice B k d]),se 25 28 [22,24] (.agg #[.bool n,.slice A l c]),se 26 29 [22,25] (.slice A l c),se 27 30 [22] (.pointer (some ⟨w.heap.size,2,none⟩)),se 28 31 [22,27] (.pointer (some ⟨w.heap.size,3,none⟩)),se 29 32 [22,28] (.slice B k d),sf 30 33 [22,26,29] (fun fv fw=>RN fw fw.heap.size fv (dig g)),sf 31 34 [22] (fun fv fw=>RN fw fw.heap.size fv (dig 1)),sf 32 35 [22,30,31] (fun fv fw=>∃ c:Int,fv=.int .i64 c∧SignOf c (g) (1)),se 33 36 [22,32] (.bool true),se 34 37 [22,33] (.bool true)] 0 (SB La S0) (MA (fun _ _ _ h hb=>h.step hb) (MA (fun _ _ _ h hb=>h.step hb) (MA (fun _ _ _ h _=>h) trivial))) ?_ ?_
      ·intro xs a_ hA;simp only[SX] at hA
       iterate 35 (refine ac ?_ ?_;rotate_left)
       exact all_nil
       all_goals (intro wk hb;simp only[SX,↓reduceIte,Nat.reduceEqDiff,Nat.reduceAdd];have b_:=zz hb;have z_:=hb.size;clear hb;subst hA)
       any_goals (intros;refine wpOp_step rfl ?_;intro K hK;go_simp;refine hK _ _ ⟨_,?_,Below.refl _ _,rfl⟩;simp only[*,FL] <;> kernel_rfl)
       ·intro f1;intros;refine wpOp_step (o:=_) rfl (fun K hK=>?_);go_simp;have h0:=zz (LR.step HA.out b_.out);(with_reducible refine(Check_good h0.out q1.out).mono ?_)
        rintro e wc37 ⟨G0,rfl⟩;refine hK _ _ ⟨.int .i64 0,by simp only[FL,f1] <;> kernel_rfl,G0,rfl⟩
       ·intro f4 f6;intros;refine wpOp_step (o:=?_) ?i1 ?_
        case i1=>exact rfl
        intro K hK;go_simp;have i0:=zz (LR.step HB.out b_.out);(with_reducible refine(Check_good i0.out r1.out).mono ?_)
        rintro e wc40 ⟨H0,rfl⟩;refine hK _ _ ⟨.int .i64 0,by simp only[FL,f4,f6] <;> kernel_rfl,H0,rfl⟩
       ·intro f22 f23;intros;refine wpOp_step (o:=?_) ?j1 ?_
        case j1=>exact rfl
        intro K hK;go_simp;(with_reducible refine(Read_any _ n false A B l c k d).mono ?_)
        rintro e wc42 ⟨I0,rfl⟩;refine hK _ _ ⟨.agg #[.bool n,.slice A l c,.slice B k d],by simp only[FL,f22,f23] <;> kernel_rfl,I0,rfl⟩
       ·intro f22 f26 f29;intros;refine wpOp_step (o:=?_) ?k1 ?_
        case k1=>exact rfl
        intro K hK;go_simp;have c0:=zz (RN.step C1.out b_.out);have d0:=zz (RN.step m0.out b_.out);(with_reducible refine((show Calls Tryz.prog _ _ _ _ from HG.out▸Common_any _ _ _ x.natAbs y.natAbs c0.out d0.out (by have:=HL.out;omega) (by have:=HL.out;omega))).mono ?_)
        rintro e wc46 ⟨J0,v46,rfl,K0⟩;refine hK _ _ ⟨v46,by simp only[FL,f22,f26,f29] <;> kernel_rfl,J0,K0⟩
       ·intro f22;intros;refine wpOp_step (o:=?_) ?l1 ?_
        case l1=>exact rfl
        intro K hK;go_simp;(with_reducible refine(one_any _).mono ?_)
        rintro e wc48 ⟨L0,v48,rfl,M0⟩;refine hK _ _ ⟨v48,by simp only[FL,f22] <;> kernel_rfl,L0,M0⟩
       ·intro f22 f30 f31;intros;refine wpOp_step (o:=?_) ?m1 ?_
        case m1=>exact rfl
        intro K hK;go_simp;(with_reducible refine(Cmp_any _ _ _ g 1 f30 f31).mono ?_)
        rintro e wc50 ⟨N0,c50,rfl,hc50⟩;refine hK _ _ ⟨.int .i64 c50,by simp only[FL,f22] <;> kernel_rfl,N0,⟨c50,rfl,hc50⟩⟩
       ·intro f22 f32;intros;refine wpOp_step (o:=?_) ?n1 ?_
        case n1=>exact rfl
        intro K hK;obtain⟨c,hc,hs⟩:=f32;unfold SignOf at hs;have hq:(c != 0)=true:=by have h1:=t1.out;rw[bne_iff_ne];omega
        rw[hc];clear hs;go_simp;refine hK _ _ ⟨.bool true,by simp only[FL,f22,hc] <;> kernel_rfl,Below.refl _ _,rfl⟩
      ·intro xs K1 hbf;simp only[SY];have B53:=zz hbf;have z53:=B53.out.size;have O0:=tr B0 B53;clear hbf;generalize xs 30=x30,xs 31=x31,xs 32=x32;rintro f30 f31 f32;clear f30;clear f31;clear f32;refine ED ?_;(try simp only[Exit.then])
       go_wp2;go_ret;exact⟨O0.out,by rw[HR.out,chkQ_none s1.out];rfl⟩
  ·have r1:=zz hvb;clear hvb;go_enter Tryz.func52,Tryz.ntmps52
   go_upto_region 1 with (fail)
   rw[← hw0];clear hw0;refine Sweep.r0 [se 0 3 [] (.pointer (some ⟨w.heap.size,0,none⟩)),se 1 4 [0] (.agg #[.bool n,.slice A l c]),se 2 5 [1] (.int .i64 0),se 3 6 [2] (.bool false),se 4 7 [3] (.bool false),se 5 8 [4] (.pointer (some ⟨w.heap.size,2,none⟩)),se 6 9 [4,5] (.agg #[.bool m,.slice B k d]),se 7 10 [4,6] (.int .i64 30),se 8 11 [4,7] (.bool true),se 9 12 [4,8] (.bool true),se 10 13 [9] (.bool true),se 11 14 [10] undef,se 12 15 [10] undef,se 13 16 [10] undef,se 14 17 [10] (.bool true),se 15 18 [14] (.bool true),se 16 19 [15] undef,se 17 20 [15] undef,se 18 21 [15] undef,se 19 22 [15] undef,se 20 23 [15] undef,se 21 24 [15] (.bool true),se 22 25 [21] (.bool true),se 23 26 [22] undef,se 24 27 [22] undef,se 25 28 [22] undef,se 26 29 [22] undef,se 27 30 [22] undef,se 28 31 [22] undef,se 29 32 [22] undef,se 30 33 [22] undef,se 31 34 [22] undef,se 32 35 [22] undef,se 33 36 [22] undef,se 34 37 [22] (.bool true)] 0 (SB La S0) trivial ?_ ?_
   ·intro xs a_ hA;simp only[SX] at hA
    iterate 35 (refine ac ?_ ?_;rotate_left)
    exact all_nil
    all_goals (intro wk hb;simp only[SX,↓reduceIte,Nat.reduceEqDiff,Nat.reduceAdd];have b_:=zz hb;have z_:=hb.size;clear hb;subst hA)
    any_goals (intros;refine wpOp_step rfl ?_;intro K hK;go_simp;refine hK _ _ ⟨_,?_,Below.refl _ _,rfl⟩;simp only[*,FL] <;> kernel_rfl)
    ·intro f1;intros;refine wpOp_step (o:=_) rfl (fun K hK=>?_);go_simp;have j0:=zz (LR.step HA.out b_.out);(with_reducible refine(Check_good j0.out q1.out).mono ?_)
     rintro e wc56 ⟨P0,rfl⟩;refine hK _ _ ⟨.int .i64 0,by simp only[FL,f1] <;> kernel_rfl,P0,rfl⟩
    ·intro f4 f6;intros;refine wpOp_step (o:=?_) ?o1 ?_
     case o1=>exact rfl
     intro K hK;go_simp;have k0:=zz (LR.step HB.out b_.out);(with_reducible refine(Check_bad k0.out r1.out).mono ?_)
     rintro e wc59 ⟨Q0,rfl⟩;refine hK _ _ ⟨.int .i64 30,by simp only[FL,f4,f6] <;> kernel_rfl,Q0,rfl⟩
   ·intro xs L1 hbf;simp only[SY];have B61:=zz hbf;have z61:=B61.out.size;have R0:=tr B0 B61;clear hbf;refine ED ?_;(try simp only[Exit.then])
    go_wp2;go_ret;exact⟨R0.out,by rw[HR.out,chkQ_none (qOf_none2 r1.out)];rfl⟩
 ·have q1:=zz hva;clear hva;go_enter Tryz.func52,Tryz.ntmps52
  go_upto_region 1 with (fail)
  rw[← hw0];clear hw0;refine Sweep.r0 [se 0 3 [] (.pointer (some ⟨w.heap.size,0,none⟩)),se 1 4 [0] (.agg #[.bool n,.slice A l c]),se 2 5 [1] (.int .i64 30),se 3 6 [2] (.bool true),se 4 7 [3] (.bool true),se 5 8 [4] undef,se 6 9 [4] undef,se 7 10 [4] undef,se 8 11 [4] undef,se 9 12 [4] (.bool true),se 10 13 [9] (.bool true),se 11 14 [10] undef,se 12 15 [10] undef,se 13 16 [10] undef,se 14 17 [10] (.bool true),se 15 18 [14] (.bool true),se 16 19 [15] undef,se 17 20 [15] undef,se 18 21 [15] undef,se 19 22 [15] undef,se 20 23 [15] undef,se 21 24 [15] (.bool true),se 22 25 [21] (.bool true),se 23 26 [22] undef,se 24 27 [22] undef,se 25 28 [22] undef,se 26 29 [22] undef,se 27 30 [22] undef,se 28 31 [22] undef,se 29 32 [22] undef,se 30 33 [22] undef,se 31 34 [22] undef,se 32 35 [22] undef,se 33 36 [22] undef,se 34 37 [22] (.bool true)] 0 (SB La S0) trivial ?_ ?_
  ·intro xs a_ hA;simp only[SX] at hA
   iterate 35 (refine ac ?_ ?_;rotate_left)
   exact all_nil
   all_goals (intro wk hb;simp only[SX,↓reduceIte,Nat.reduceEqDiff,Nat.reduceAdd];have b_:=zz hb;have z_:=hb.size;clear hb;subst hA)
   any_goals (intros;refine wpOp_step rfl ?_;intro K hK;go_simp;refine hK _ _ ⟨_,?_,Below.refl _ _,rfl⟩;simp only[*,FL] <;> kernel_rfl)
   ·intro f1;intros;refine wpOp_step (o:=_) rfl (fun K hK=>?_);go_simp;have l0:=zz (LR.step HA.out b_.out);(with_reducible refine(Check_bad l0.out q1.out).mono ?_)
    rintro e wc64 ⟨T0,rfl⟩;refine hK _ _ ⟨.int .i64 30,by simp only[FL,f1] <;> kernel_rfl,T0,rfl⟩
  ·intro xs M1 hbf;simp only[SY];have B66:=zz hbf;have z66:=B66.out.size;have U0:=tr B0 B66;clear hbf;refine ED ?_;(try simp only[Exit.then])
   go_wp2;go_ret;exact⟨U0.out,by rw[HR.out,chkQ_none (qOf_none1 q1.out)];rfl⟩
end Go.Proofs.YtdigbofiebfkeaaGreatDoor
