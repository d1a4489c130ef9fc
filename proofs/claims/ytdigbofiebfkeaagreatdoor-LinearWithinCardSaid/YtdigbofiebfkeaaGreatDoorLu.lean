/- Layer 35: what fits Damped (written by gen_lu.py). -/
import Derived.Test.YtdigbofiebfkeaaGreatDoorLt
namespace Go.Proofs.YtdigbofiebfkeaaGreatDoor
open Go Go.RowKit Dig
set_option maxRecDepth 100000
set_option maxHeartbeats 4000000
set_option linter.unusedSimpArgs false
def dampFit (M:List (List QX)) (b d:List QX) (n:Bool):Bool:=decide (b.length=M.length)&&(decide (d.length=(M.getD 0 []).length)&&(!n&&!(d.any fun q=>q.1.1)))
theorem neg_any (w:World) (L0 L1:Option Addr) (u c u' c':Nat) (n m:Bool) (a b:List Int) (_h:QR w w.heap.size (.agg #[.bool n,.slice L0 u c,.bool m,.slice L1 u' c']) n a m b) :
  Calls Tryz.prog 56 #[.agg #[.bool n,.slice L0 u c,.bool m,.slice L1 u' c']] w fun e w'=>Below w.heap.size w w'∧e=.returned (.bool n):=by
 obtain⟨w0,hw0⟩:∃ w0:World,w0=(w.alloc (.cells #[.bool n,.slice L0 u c,.bool m,.slice L1 u' c'] 33)):=⟨_,rfl⟩;have B0:=zz (n1_b hw0);have z0:=n1_z hw0;have Lq:=n1_0 hw0;go_enter Tryz.func56,Tryz.ntmps56
 go_upto_region 1 with (fail)
 rw[← hw0];clear hw0;have a0:=Lq.cell 0 rfl;have b0:=Lq.cell 1 rfl;have c0:=Lq.cell 2 rfl;have d0:=Lq.cell 3 rfl;have e0:=Lq.lt;go_wp2;go_ret;exact⟨B0.out,rfl⟩
theorem neg_run (args:Array Value) (w1:World):(callFunc 56 args).run Tryz.prog w1=.ok (.enter 56 args) w1:=by kernel_rfl
theorem dampFit_any (w:World) (ba bb bd bf bl:Nat) (Aa Ab Ad L0 L1:Option Addr) (ca cb cd u c u' c':Nat) (M:List (List QX)) (b d:List QX) (n m:Bool) (x y:List Int) (hA:CB w ba 27 #[.slice Aa M.length ca]) (hQ:QM w w.heap.size (.slice Aa M.length ca) M) (hM:0<M.length) (hB:CB w bb 28 #[.slice Ab b.length cb]) (hD:CB w bd 28 #[.slice Ad d.length cd]) (y0:QS w w.heap.size (.slice Ad d.length cd) d)
  (hF:CB w bf 103 #[.func (.func 56) #[] #[]]) (hl:CB w bl 33 #[.bool n,.slice L0 u c,.bool m,.slice L1 u' c']) (hL:QR w w.heap.size (.agg #[.bool n,.slice L0 u c,.bool m,.slice L1 u' c']) n x m y) :
  Calls Tryz.prog 57 #[.pointer (some ⟨bb,0,none⟩),.pointer (some ⟨ba,0,none⟩),.pointer (some ⟨bd,0,none⟩),.pointer (some ⟨bf,0,none⟩),.pointer (some ⟨bl,0,none⟩)] w fun e w'=>Below w.heap.size w w'∧e=.returned (.bool (dampFit M b d n)):=by
 obtain⟨g0,off0,A0,c0,rfl,hg0,hc0,-⟩:=SL.row hQ hM;rw[Nat.add_zero] at hc0;have hl1:=SL.len hQ;have hmi:(0:Int)<(M.length:Int):=by omega
 obtain⟨v0,a0⟩:∃ v,v=(M.getD 0 []).length:=⟨_,rfl⟩;rw[show M[0].length=v0 by rw[a0,getD_is hM]] at hc0;have hdf:dampFit M b d n=(decide (b.length=M.length)&&(decide (d.length=v0)&&(!n&&!(d.any fun q=>q.1.1)))):=by unfold dampFit;rw[a0]
 rw[hdf];have HA:=zz hA;have HB:=zz hB;have HD:=zz hD;have HF:=zz hF;have HL:=zz hl;have z0:=zz hL;have F0:=zz y0;have t0:=zz hc0;have u0:=zz hg0;clear hA hB hD hF hl hL y0 hQ hc0 hg0 a0 hdf;have B0:=zz (Below.refl w.heap.size w);by_cases h1:b.length=M.length
 case neg=>
  have h1':((b.length:Int)==(M.length:Int))=false:=by rw[beq_eq_false_iff_ne];omega
  rw[decide_eq_false h1];clear h1;go_enter Tryz.func57,Tryz.ntmps57
  go_upto_region 1 with (fail)
  refine Sweep.r0 [se 0 6 [] (.slice Ab b.length cb),se 1 7 [0] (.int .i64 (b.length:Int)),se 2 8 [] (.slice (some ⟨g0,off0,none⟩) M.length ca),se 3 9 [2] (.int .i64 (M.length:Int)),se 4 10 [1,3] (.bool false),se 5 11 [4] (.bool false),se 6 12 [5] undef,se 7 13 [5] undef,se 8 14 [5] undef,se 9 15 [5] undef,se 10 16 [5] undef,se 11 17 [5] undef,se 12 18 [5] undef,se 13 19 [5] (.bool false),se 14 20 [13] (.bool false),se 15 21 [14] undef,se 16 22 [14] undef,se 17 23 [14] undef,se 18 24 [14] undef,se 19 25 [14] (.bool false),se 20 26 [19] (.bool false),se 21 27 [20] undef,se 22 28 [20] undef,se 23 29 [20] undef,se 24 30 [20] undef,se 25 31 [20] (.bool false)] 1 (SB HB.out (SB HA.out S0)) trivial ?_ ?_
  ·intro xs a_ hA;simp only[SX] at hA
   iterate 26 (refine ac ?_ ?_;rotate_left)
   exact all_nil
   all_goals (intro wk hb;simp only[SX,↓reduceIte,Nat.reduceEqDiff,Nat.reduceAdd];have b_:=zz hb;have z_:=hb.size;clear hb;subst hA)
   any_goals (intros;refine wpOp_step rfl ?_;intro K hK;go_simp;refine hK _ _ ⟨_,?_,Below.refl _ _,rfl⟩;simp only[*,FL] <;> kernel_rfl)
  ·intro xs I0 hbf;simp only[SY];have B2:=zz hbf;have z2:=B2.out.size;have k0:=tr B0 B2;clear hbf;refine EN 26 rfl fun K hK=>?_
   go_simp;refine hK _ _ ?_;clear hK K;(try simp only[PT])
   refine ED ?_;(try simp only[Exit.then])
   go_wp2;go_ret;exact⟨k0.out,rfl⟩
 case pos=>
  have h1':((b.length:Int)==(M.length:Int))=true:=by rw[beq_iff_eq];omega
  rw[decide_eq_true h1];clear h1;by_cases h2:d.length=v0
  case neg=>
   have h2':((d.length:Int)==(v0:Int))=false:=by rw[beq_eq_false_iff_ne];omega
   rw[decide_eq_false h2];clear h2;go_enter Tryz.func57,Tryz.ntmps57
   go_upto_region 1 with (fail)
   refine Sweep.r0 [se 0 6 [] (.slice Ab b.length cb),se 1 7 [0] (.int .i64 (b.length:Int)),se 2 8 [] (.slice (some ⟨g0,off0,none⟩) M.length ca),se 3 9 [2] (.int .i64 (M.length:Int)),se 4 10 [1,3] (.bool true),se 5 11 [4] (.bool true),se 6 12 [5] (.slice Ad d.length cd),se 7 13 [5,6] (.int .i64 (d.length:Int)),se 8 14 [5] (.slice (some ⟨g0,off0,none⟩) M.length ca),se 9 15 [5,8] (.pointer (some ⟨g0,off0,none⟩)),se 10 16 [5,9] (.slice A0 v0 c0),se 11 17 [5,10] (.int .i64 (v0:Int)),se 12 18 [5,7,11] (.bool false),se 13 19 [5,12] (.bool false),se 14 20 [13] (.bool false),se 15 21 [14] undef,se 16 22 [14] undef,se 17 23 [14] undef,se 18 24 [14] undef,se 19 25 [14] (.bool false),se 20 26 [19] (.bool false),se 21 27 [20] undef,se 22 28 [20] undef,se 23 29 [20] undef,se 24 30 [20] undef,se 25 31 [20] (.bool false)] 1 (SB HB.out (SB HA.out (SB HD.out S0))) trivial ?_ ?_
   ·intro xs a_ hA;simp only[SX] at hA
    iterate 26 (refine ac ?_ ?_;rotate_left)
    exact all_nil
    all_goals (intro wk hb;simp only[SX,↓reduceIte,Nat.reduceEqDiff,Nat.reduceAdd];have b_:=zz hb;have z_:=hb.size;clear hb;subst hA)
    any_goals (intro f5 f9;intros;refine wpOp_step (i:=10) (o:=?go4) ?p0 ?gh4;(case p0=>exact rfl);intro K hK;have qv0:=(Below.cell b_.out (p:=⟨g0,off0,none⟩) u0.out).trans t0.out;go_simp;(refine hK _ _ ⟨.slice A0 v0 c0,by simp only[FL,f5,f9] <;> kernel_rfl,Below.refl _ _,rfl⟩))
    any_goals (intros;refine wpOp_step rfl ?_;intro K hK;go_simp;refine hK _ _ ⟨_,?_,Below.refl _ _,rfl⟩;simp only[*,FL] <;> kernel_rfl)
   ·intro xs J0 hbf;simp only[SY];have B6:=zz hbf;have z6:=B6.out.size;have l0:=tr B0 B6;clear hbf;refine EN 26 rfl fun K hK=>?_
    go_simp;refine hK _ _ ?_;clear hK K;(try simp only[PT])
    refine ED ?_;(try simp only[Exit.then])
    go_wp2;go_ret;exact⟨l0.out,rfl⟩
  case pos=>
   have h2':((d.length:Int)==(v0:Int))=true:=by rw[beq_iff_eq];omega
   rw[decide_eq_true h2];clear h2;cases n
   case false=>
    go_enter Tryz.func57,Tryz.ntmps57
    go_upto_region 1 with (fail)
    refine Sweep.r0 [se 0 6 [] (.slice Ab b.length cb),se 1 7 [0] (.int .i64 (b.length:Int)),se 2 8 [] (.slice (some ⟨g0,off0,none⟩) M.length ca),se 3 9 [2] (.int .i64 (M.length:Int)),se 4 10 [1,3] (.bool true),se 5 11 [4] (.bool true),se 6 12 [5] (.slice Ad d.length cd),se 7 13 [5,6] (.int .i64 (d.length:Int)),se 8 14 [5] (.slice (some ⟨g0,off0,none⟩) M.length ca),se 9 15 [5,8] (.pointer (some ⟨g0,off0,none⟩)),se 10 16 [5,9] (.slice A0 v0 c0),se 11 17 [5,10] (.int .i64 (v0:Int)),se 12 18 [5,7,11] (.bool true),se 13 19 [5,12] (.bool true),se 14 20 [13] (.bool true),se 15 21 [14] (.func (.func 56) #[] #[]),se 16 22 [14] (.agg #[.bool false,.slice L0 u c,.bool m,.slice L1 u' c']),se 17 23 [14,15,16] (.bool false),se 18 24 [14,17] (.bool true),se 19 25 [14,18] (.bool true),se 20 26 [19] (.bool true),se 21 27 [20] (.slice Ad d.length cd),se 22 28 [20] (.func (.func 56) #[] #[]),se 23 29 [20,21,22] (.bool (d.any fun q=>q.1.1)),se 24 30 [20,23] (.bool (!(d.any fun q=>q.1.1))),se 25 31 [20,24] (.bool (!(d.any fun q=>q.1.1)))] 1 (SB HB.out (SB HA.out (SB HD.out (SB HF.out (SB HL.out S0))))) trivial ?_ ?_
    ·intro xs a_ hA;simp only[SX] at hA
     iterate 26 (refine ac ?_ ?_;rotate_left)
     exact all_nil
     all_goals (intro wk hb;simp only[SX,↓reduceIte,Nat.reduceEqDiff,Nat.reduceAdd];have b_:=zz hb;have z_:=hb.size;clear hb;subst hA)
     any_goals (intro f5 f9;intros;refine wpOp_step (i:=10) (o:=?go8) ?q0 ?gh8;(case q0=>exact rfl);intro K hK;have qv0:=(Below.cell b_.out (p:=⟨g0,off0,none⟩) u0.out).trans t0.out;go_simp;(refine hK _ _ ⟨.slice A0 v0 c0,by simp only[FL,f5,f9] <;> kernel_rfl,Below.refl _ _,rfl⟩))
     any_goals (intros;refine wpOp_step rfl ?_;intro K hK;go_simp;refine hK _ _ ⟨_,?_,Below.refl _ _,rfl⟩;simp only[*,FL] <;> kernel_rfl)
     ·intro f14 f15 f16;intros;refine wpOp_step (o:=?_) ?s0 ?_
      case s0=>exact rfl
      intro K hK;go_simp;have b0:=zz (QR.step z0.out b_.out);(with_reducible refine(neg_any _ _ _ _ _ _ _ false m x y b0.out).mono ?_)
      rintro e wc11 ⟨e0,rfl⟩;refine hK _ _ ⟨.bool false,by simp only[FL,f14,f15,f16] <;> kernel_rfl,e0,rfl⟩
     ·intro f20 f21 f22;intros;refine wpOp_step (o:=?_) ?m0 ?_
      case m0=>exact rfl
      intro K hK;go_simp;(with_reducible refine(anyQ_any _ Ad _ cd d (fun q=>q.1.1) _ (F0.out.step EQ.stable b_.out) neg_run (fun w1 A A' u c u' c' n m a b hx=>neg_any w1 A A' u c u' c' n m a b hx)).mono ?_)
      rintro e wc13 ⟨f0,rfl⟩;refine hK _ _ ⟨.bool (d.any fun q=>q.1.1),by simp only[FL,f20,f21,f22] <;> kernel_rfl,f0,rfl⟩
    ·intro xs G0 hbf;simp only[SY];have B15:=zz hbf;have z15:=B15.out.size;have h0:=tr B0 B15;clear hbf;refine EN 26 rfl fun K hK=>?_
     go_simp;refine hK _ _ ?_;clear hK K;(try simp only[PT])
     refine ED ?_;(try simp only[Exit.then])
     go_wp2;go_ret;exact⟨h0.out,rfl⟩
   case true=>
    go_enter Tryz.func57,Tryz.ntmps57
    go_upto_region 1 with (fail)
    refine Sweep.r0 [se 0 6 [] (.slice Ab b.length cb),se 1 7 [0] (.int .i64 (b.length:Int)),se 2 8 [] (.slice (some ⟨g0,off0,none⟩) M.length ca),se 3 9 [2] (.int .i64 (M.length:Int)),se 4 10 [1,3] (.bool true),se 5 11 [4] (.bool true),se 6 12 [5] (.slice Ad d.length cd),se 7 13 [5,6] (.int .i64 (d.length:Int)),se 8 14 [5] (.slice (some ⟨g0,off0,none⟩) M.length ca),se 9 15 [5,8] (.pointer (some ⟨g0,off0,none⟩)),se 10 16 [5,9] (.slice A0 v0 c0),se 11 17 [5,10] (.int .i64 (v0:Int)),se 12 18 [5,7,11] (.bool true),se 13 19 [5,12] (.bool true),se 14 20 [13] (.bool true),se 15 21 [14] (.func (.func 56) #[] #[]),se 16 22 [14] (.agg #[.bool true,.slice L0 u c,.bool m,.slice L1 u' c']),se 17 23 [14,15,16] (.bool true),se 18 24 [14,17] (.bool false),se 19 25 [14,18] (.bool false),se 20 26 [19] (.bool false),se 21 27 [20] undef,se 22 28 [20] undef,se 23 29 [20] undef,se 24 30 [20] undef,se 25 31 [20] (.bool false)] 1 (SB HB.out (SB HA.out (SB HD.out (SB HF.out (SB HL.out S0))))) trivial ?_ ?_
    ·intro xs a_ hA;simp only[SX] at hA
     iterate 26 (refine ac ?_ ?_;rotate_left)
     exact all_nil
     all_goals (intro wk hb;simp only[SX,↓reduceIte,Nat.reduceEqDiff,Nat.reduceAdd];have b_:=zz hb;have z_:=hb.size;clear hb;subst hA)
     any_goals (intro f5 f9;intros;refine wpOp_step (i:=10) (o:=?go17) ?n0 ?gh17;(case n0=>exact rfl);intro K hK;have qv0:=(Below.cell b_.out (p:=⟨g0,off0,none⟩) u0.out).trans t0.out;go_simp;(refine hK _ _ ⟨.slice A0 v0 c0,by simp only[FL,f5,f9] <;> kernel_rfl,Below.refl _ _,rfl⟩))
     any_goals (intros;refine wpOp_step rfl ?_;intro K hK;go_simp;refine hK _ _ ⟨_,?_,Below.refl _ _,rfl⟩;simp only[*,FL] <;> kernel_rfl)
     ·intro f14 f15 f16;intros;refine wpOp_step (o:=?_) ?o0 ?_
      case o0=>exact rfl
      intro K hK;go_simp;have d0:=zz (QR.step z0.out b_.out);(with_reducible refine(neg_any _ _ _ _ _ _ _ true m x y d0.out).mono ?_)
      rintro e wc20 ⟨i0,rfl⟩;refine hK _ _ ⟨.bool true,by simp only[FL,f14,f15,f16] <;> kernel_rfl,i0,rfl⟩
    ·intro xs H0 hbf;simp only[SY];have B22:=zz hbf;have z22:=B22.out.size;have j0:=tr B0 B22;clear hbf;refine EN 26 rfl fun K hK=>?_
     go_simp;refine hK _ _ ?_;clear hK K;(try simp only[PT])
     refine ED ?_;(try simp only[Exit.then])
     go_wp2;go_ret;exact⟨j0.out,rfl⟩
theorem dampFit_run (args:Array Value) (w1:World):(callFunc 57 args).run Tryz.prog w1=.ok (.enter 57 args) w1:=by kernel_rfl
end Go.Proofs.YtdigbofiebfkeaaGreatDoor
