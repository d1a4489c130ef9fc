/- Layer 35: what fits Damped (written by gen_lu.py). -/
import Derived.Test.YtencnahjgbdeoaaGreatDoorLt
namespace Go.Proofs.YtencnahjgbdeoaaGreatDoor
open Go Go.RowKit Dig
set_option maxRecDepth 100000
set_option maxHeartbeats 4000000
set_option linter.unusedSimpArgs false
def mD (M:List (List QX)) (b d:List QX) (n:Bool):Bool:=decide (b.length=M.length)&&(decide (d.length=(M.getD 0 []).length)&&(!n&&!(d.any fun q=>q.1.1)))
theorem BJ (w:World) (L0 L1:Option Addr) (u c u' c':Nat) (n m:Bool) (a b:List Int) (_h:QR w w.heap.size (.agg #[.bool n,.slice L0 u c,.bool m,.slice L1 u' c']) n a m b) :
  CV 61 #[.agg #[.bool n,.slice L0 u c,.bool m,.slice L1 u' c']] w fun e _=>e=.returned (.bool n):=by
 obtain⟨w0,hw0⟩:=ex (w.alloc (.cells #[.bool n,.slice L0 u c,.bool m,.slice L1 u' c'] 28));have B0:=zz (cK hw0);have z0:=cJ hw0;have Lq:=cL hw0;go_enter Tryz.func61,Tryz.ntmps61
 go_upto_region 1 with (fail)
 rw[← hw0];clear hw0;have a0:=cz4 Lq;go_wp2;go_ret;exact⟨B0.o,rfl⟩
theorem ZG (args:Array Value) (w1:World):(callFunc 61 args).run Tryz.prog w1=.ok (.enter 61 args) w1:=by kernel_rfl
theorem JB (w:World) (ba bb bd bf bl:Nat) (Aa Ab Ad L0 L1:Option Addr) (ca cb cd u c u' c':Nat) (M:List (List QX)) (b d:List QX) (n m:Bool) (x y:List Int) (hA:CB w ba 22 #[.slice Aa M.length ca]) (hQ:QM w w.heap.size (.slice Aa M.length ca) M) (hM:0<M.length) (hB:CB w bb 23 #[.slice Ab b.length cb]) (hD:CB w bd 23 #[.slice Ad d.length cd]) (y0:QS w w.heap.size (.slice Ad d.length cd) d)
  (hF:CB w bf 93 #[.func (.func 61) #[] #[]]) (hl:CB w bl 28 #[.bool n,.slice L0 u c,.bool m,.slice L1 u' c']) (hL:QR w w.heap.size (.agg #[.bool n,.slice L0 u c,.bool m,.slice L1 u' c']) n x m y) :
  CV 62 #[.pointer (some ⟨bb,0,none⟩),.pointer (some ⟨ba,0,none⟩),.pointer (some ⟨bd,0,none⟩),.pointer (some ⟨bf,0,none⟩),.pointer (some ⟨bl,0,none⟩)] w fun e _=>e=.returned (.bool (mD M b d n)):=by
 obtain⟨g0,off0,A0,c0,rfl,hg0,hc0,-⟩:=aKy hQ hM;rw[aGd] at hc0;have hl1:=aHb hQ;have hmi:(0:Int)<(M.length:Int):=by omega
 obtain⟨v0,a0⟩:∃ v,v=(M.getD 0 []).length:=⟨_,rfl⟩;rw[show M[0].length=v0 by rw[a0,aG hM]] at hc0;have hdf:mD M b d n=(decide (b.length=M.length)&&(decide (d.length=v0)&&(!n&&!(d.any fun q=>q.1.1)))):=by unfold mD;rw[a0]
 rw[hdf];have HA:=zz hA;have HB:=zz hB;have HD:=zz hD;have HF:=zz hF;have HL:=zz hl;have z0:=zz hL;have F0:=zz y0;have t0:=zz hc0;have u0:=zz hg0;clear hA hB hD hF hl hL y0 hQ hc0 hg0 a0 hdf;have B0:=zz (aDy w.heap.size w);by_cases h1:b.length=M.length
 case neg=>
  have h1':((b.length:Int)==(M.length:Int))=false:=by rw[aEo];omega
  rw[aEe h1];clear h1;go_enter Tryz.func62,Tryz.ntmps62
  go_upto_region 1 with (fail)
  refine aFq [se 0 6 [] (.slice Ab b.length cb),se 1 7 [0] (.int .i64 (b.length:Int)),se 2 8 [] (.slice (some ⟨g0,off0,none⟩) M.length ca),se 3 9 [2] (.int .i64 (M.length:Int)),se 4 10 [1,3] (.bool false),se 5 11 [4] (.bool false),se 6 12 [5] undef,se 7 13 [5] undef,se 8 14 [5] undef,se 9 15 [5] undef,se 10 16 [5] undef,se 11 17 [5] undef,se 12 18 [5] undef,se 13 19 [5] (.bool false),se 14 20 [13] (.bool false),se 15 21 [14] undef,se 16 22 [14] undef,se 17 23 [14] undef,se 18 24 [14] undef,se 19 25 [14] (.bool false),se 20 26 [19] (.bool false),se 21 27 [20] undef,se 22 28 [20] undef,se 23 29 [20] undef,se 24 30 [20] undef,se 25 31 [20] (.bool false)] 1 (SB HB.o (SB HA.o S0)) aFi ?_ ?_
  ·intro xs a_ hA;simp only[SX,↓reduceIte,Nat.reduceEqDiff,Nat.reduceAdd] at hA⊢;subst hA;and_intros
   all_goals intro wk b_ z_
   all_goals try exact pl
  ·intro xs I0 B2 z2;simp only[SY];have k0:=tr B0 B2;refine EN 26 rfl fun K hK=>?_
   go_simp;refine hK _ _ ?_;clear hK K;(try simp only[PT])
   refine ED ?_;(try simp only[Exit.then])
   go_wp2;go_ret;exact⟨k0.o,rfl⟩
 case pos=>
  have h1':((b.length:Int)==(M.length:Int))=true:=by rw[aIh];omega
  rw[aEj h1];clear h1;by_cases h2:d.length=v0
  case neg=>
   have h2':((d.length:Int)==(v0:Int))=false:=by rw[aEo];omega
   rw[aEe h2];clear h2;go_enter Tryz.func62,Tryz.ntmps62
   go_upto_region 1 with (fail)
   refine aFq [se 0 6 [] (.slice Ab b.length cb),se 1 7 [0] (.int .i64 (b.length:Int)),se 2 8 [] (.slice (some ⟨g0,off0,none⟩) M.length ca),se 3 9 [2] (.int .i64 (M.length:Int)),se 4 10 [1,3] (.bool true),se 5 11 [4] (.bool true),se 6 12 [5] (.slice Ad d.length cd),se 7 13 [5,6] (.int .i64 (d.length:Int)),se 8 14 [5] (.slice (some ⟨g0,off0,none⟩) M.length ca),se 9 15 [5,8] (.pointer (some ⟨g0,off0,none⟩)),se 10 16 [5,9] (.slice A0 v0 c0),se 11 17 [5,10] (.int .i64 (v0:Int)),se 12 18 [5,7,11] (.bool false),se 13 19 [5,12] (.bool false),se 14 20 [13] (.bool false),se 15 21 [14] undef,se 16 22 [14] undef,se 17 23 [14] undef,se 18 24 [14] undef,se 19 25 [14] (.bool false),se 20 26 [19] (.bool false),se 21 27 [20] undef,se 22 28 [20] undef,se 23 29 [20] undef,se 24 30 [20] undef,se 25 31 [20] (.bool false)] 1 (SB HB.o (SB HA.o (SB HD.o S0))) aFi ?_ ?_
   ·intro xs a_ hA;simp only[SX,↓reduceIte,Nat.reduceEqDiff,Nat.reduceAdd] at hA⊢;subst hA;and_intros
    all_goals intro wk b_ z_
    any_goals (intro f5 f9;intros;refine aDz (i:=10) (o:=?go4) ?p0 ?gh4;(case p0=>exact rfl);intro K hK;have qv0:=(aGn b_.o (p:=⟨g0,off0,none⟩) u0.o).trans t0.o;go_simp;(refine hK _ _ ⟨_,by simp only[FL,f5,f9] <;> kernel_rfl,aDy _ _,rfl⟩))
    all_goals try exact pl
   ·intro xs J0 B6 z6;simp only[SY];have l0:=tr B0 B6;refine EN 26 rfl fun K hK=>?_
    go_simp;refine hK _ _ ?_;clear hK K;(try simp only[PT])
    refine ED ?_;(try simp only[Exit.then])
    go_wp2;go_ret;exact⟨l0.o,rfl⟩
  case pos=>
   have h2':((d.length:Int)==(v0:Int))=true:=by rw[aIh];omega
   rw[aEj h2];clear h2;cases n
   case false=>
    go_enter Tryz.func62,Tryz.ntmps62
    go_upto_region 1 with (fail)
    refine aFq [se 0 6 [] (.slice Ab b.length cb),se 1 7 [0] (.int .i64 (b.length:Int)),se 2 8 [] (.slice (some ⟨g0,off0,none⟩) M.length ca),se 3 9 [2] (.int .i64 (M.length:Int)),se 4 10 [1,3] (.bool true),se 5 11 [4] (.bool true),se 6 12 [5] (.slice Ad d.length cd),se 7 13 [5,6] (.int .i64 (d.length:Int)),se 8 14 [5] (.slice (some ⟨g0,off0,none⟩) M.length ca),se 9 15 [5,8] (.pointer (some ⟨g0,off0,none⟩)),se 10 16 [5,9] (.slice A0 v0 c0),se 11 17 [5,10] (.int .i64 (v0:Int)),se 12 18 [5,7,11] (.bool true),se 13 19 [5,12] (.bool true),se 14 20 [13] (.bool true),se 15 21 [14] (.func (.func 61) #[] #[]),se 16 22 [14] (.agg #[.bool false,.slice L0 u c,.bool m,.slice L1 u' c']),se 17 23 [14,15,16] (.bool false),se 18 24 [14,17] (.bool true),se 19 25 [14,18] (.bool true),se 20 26 [19] (.bool true),se 21 27 [20] (.slice Ad d.length cd),se 22 28 [20] (.func (.func 61) #[] #[]),se 23 29 [20,21,22] (.bool (d.any fun q=>q.1.1)),se 24 30 [20,23] (.bool (!(d.any fun q=>q.1.1))),se 25 31 [20,24] (.bool (!(d.any fun q=>q.1.1)))] 1 (SB HB.o (SB HA.o (SB HD.o (SB HF.o (SB HL.o S0))))) aFi ?_ ?_
    ·intro xs a_ hA;simp only[SX,↓reduceIte,Nat.reduceEqDiff,Nat.reduceAdd] at hA⊢;subst hA;and_intros
     all_goals intro wk b_ z_
     any_goals (intro f5 f9;intros;refine aDz (i:=10) (o:=?go8) ?q0 ?gh8;(case q0=>exact rfl);intro K hK;have qv0:=(aGn b_.o (p:=⟨g0,off0,none⟩) u0.o).trans t0.o;go_simp;(refine hK _ _ ⟨_,by simp only[FL,f5,f9] <;> kernel_rfl,aDy _ _,rfl⟩))
     all_goals try exact pl
     ·intro f14 f15 f16;intros;refine aDz (o:=?_) ?s0 ?_
      case s0=>exact rfl
      intro K hK;go_simp;have b0:=st aHz z0 b_;(with_reducible refine(BJ _ _ _ _ _ _ _ false m x y b0.o).mono ?_)
      rintro e wc11 ⟨e0,rfl⟩;refine hK _ _ ⟨_,by simp only[FL,f14,f15,f16] <;> kernel_rfl,e0,rfl⟩
     ·intro f20 f21 f22;intros;refine aDz (o:=?_) ?m0 ?_
      case m0=>exact rfl
      intro K hK;go_simp;(with_reducible refine(FT _ Ad _ cd d (fun q=>q.1.1) _ (F0.o.step aEf b_.o) ZG (fun w1 A A' u c u' c' n m a b hx=>BJ w1 A A' u c u' c' n m a b hx)).mono ?_)
      rintro e wc13 ⟨f0,rfl⟩;refine hK _ _ ⟨_,by simp only[FL,f20,f21,f22] <;> kernel_rfl,f0,rfl⟩
    ·intro xs G0 B15 z15;simp only[SY];have h0:=tr B0 B15;refine EN 26 rfl fun K hK=>?_
     go_simp;refine hK _ _ ?_;clear hK K;(try simp only[PT])
     refine ED ?_;(try simp only[Exit.then])
     go_wp2;go_ret;exact⟨h0.o,rfl⟩
   case true=>
    go_enter Tryz.func62,Tryz.ntmps62
    go_upto_region 1 with (fail)
    refine aFq [se 0 6 [] (.slice Ab b.length cb),se 1 7 [0] (.int .i64 (b.length:Int)),se 2 8 [] (.slice (some ⟨g0,off0,none⟩) M.length ca),se 3 9 [2] (.int .i64 (M.length:Int)),se 4 10 [1,3] (.bool true),se 5 11 [4] (.bool true),se 6 12 [5] (.slice Ad d.length cd),se 7 13 [5,6] (.int .i64 (d.length:Int)),se 8 14 [5] (.slice (some ⟨g0,off0,none⟩) M.length ca),se 9 15 [5,8] (.pointer (some ⟨g0,off0,none⟩)),se 10 16 [5,9] (.slice A0 v0 c0),se 11 17 [5,10] (.int .i64 (v0:Int)),se 12 18 [5,7,11] (.bool true),se 13 19 [5,12] (.bool true),se 14 20 [13] (.bool true),se 15 21 [14] (.func (.func 61) #[] #[]),se 16 22 [14] (.agg #[.bool true,.slice L0 u c,.bool m,.slice L1 u' c']),se 17 23 [14,15,16] (.bool true),se 18 24 [14,17] (.bool false),se 19 25 [14,18] (.bool false),se 20 26 [19] (.bool false),se 21 27 [20] undef,se 22 28 [20] undef,se 23 29 [20] undef,se 24 30 [20] undef,se 25 31 [20] (.bool false)] 1 (SB HB.o (SB HA.o (SB HD.o (SB HF.o (SB HL.o S0))))) aFi ?_ ?_
    ·intro xs a_ hA;simp only[SX,↓reduceIte,Nat.reduceEqDiff,Nat.reduceAdd] at hA⊢;subst hA;and_intros
     all_goals intro wk b_ z_
     any_goals (intro f5 f9;intros;refine aDz (i:=10) (o:=?go17) ?n0 ?gh17;(case n0=>exact rfl);intro K hK;have qv0:=(aGn b_.o (p:=⟨g0,off0,none⟩) u0.o).trans t0.o;go_simp;(refine hK _ _ ⟨_,by simp only[FL,f5,f9] <;> kernel_rfl,aDy _ _,rfl⟩))
     all_goals try exact pl
     ·intro f14 f15 f16;intros;refine aDz (o:=?_) ?o0 ?_
      case o0=>exact rfl
      intro K hK;go_simp;have d0:=st aHz z0 b_;(with_reducible refine(BJ _ _ _ _ _ _ _ true m x y d0.o).mono ?_)
      rintro e wc20 ⟨i0,rfl⟩;refine hK _ _ ⟨_,by simp only[FL,f14,f15,f16] <;> kernel_rfl,i0,rfl⟩
    ·intro xs H0 B22 z22;simp only[SY];have j0:=tr B0 B22;refine EN 26 rfl fun K hK=>?_
     go_simp;refine hK _ _ ?_;clear hK K;(try simp only[PT])
     refine ED ?_;(try simp only[Exit.then])
     go_wp2;go_ret;exact⟨j0.o,rfl⟩
theorem JA (args:Array Value) (w1:World):(callFunc 62 args).run Tryz.prog w1=.ok (.enter 62 args) w1:=by kernel_rfl
end Go.Proofs.YtencnahjgbdeoaaGreatDoor
