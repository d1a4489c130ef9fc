/- Layer 04: Check (written by gen_qg.py). -/
import Derived.Test.YtencnahjgbdeoaaGreatDoorQF
import Derived.Test.YtencnahjgbdeoaaGreatDoorPr
namespace Go.Proofs.YtencnahjgbdeoaaGreatDoor
open Go Go.RowKit Dig
set_option maxRecDepth 100000
set_option maxHeartbeats 4000000
set_option linter.unusedSimpArgs false
variable {a b:List Int} {m n:Bool}
theorem yV (h:¬ Valid n a):nS n a m b=none:=by unfold nS;rw[sR h]
theorem yU (h:¬ Valid m b):nS n a m b=none:=by unfold nS;rw[sR h];cases kB n a <;> rfl
theorem gP {x y:Int} (hx:kB n a=some x) (hy:kB m b=some y):nS n a m b=if 0<y∧Nat.gcd x.natAbs y.natAbs=1 then some (mkRat x y.natAbs) else none:=by unfold nS;rw[hx,hy]
noncomputable def tZ (n:Bool) (a:List Int) (m:Bool) (b:List Int):Int:=if (nS n a m b).isSome then 0 else 40
theorem zP {q:Rat} (h:nS n a m b=some q):tZ n a m b=0:=by unfold tZ;rw[h];rfl
theorem jH (h:nS n a m b=none):tZ n a m b=40:=by unfold tZ;rw[h];rfl
theorem aAi {w:World} {B:Nat} {s:Value} {l:List Int} (h:LR w B (.agg #[.bool n,s]) m l):RI w B s l:=by
 obtain⟨s',e,h⟩:=h;injection e with e
 simp at e
 rw[e.2];exact h
theorem jX (w:World) (v:Value) (n:Bool) (a:List Int) (m:Bool) (b:List Int) (h:QR w w.heap.size v n a m b) :
  CV 50 #[v] w fun e _=>e=.returned (.int .i64 (tZ n a m b)):=by
 obtain⟨r,hr⟩:=ex (tZ n a m b);rw[← hr];have HR:=zz hr;clear hr;obtain⟨A,l,c,B,k,d,rfl,Ha,Hb⟩:=h;have ea:=RI.len Ha;have eb:=RI.len Hb;have B1:=zz eb;clear ea eb;obtain⟨w0,hw0⟩:=ex (w.alloc (.cells #[.bool n,.slice A l c,.bool m,.slice B k d] 28));have B0:=zz (cK hw0);have z0:=cJ hw0;have La:=cL hw0;have HA:=zz (show LR w0 w0.heap.size (.agg #[.bool n,.slice A l c]) n a from aKr ⟨_,rfl,Ha⟩ B0.o);have HB:=zz (show LR w0 w0.heap.size (.agg #[.bool m,.slice B k d]) m b from aKr ⟨_,rfl,Hb⟩ B0.o);clear Ha Hb;by_cases hva:Valid n a
 ·have q1:=zz hva;clear hva;by_cases hvb:Valid m b
  ·have r1:=zz hvb;clear hvb;obtain⟨x,hx,nx,ax,lx⟩:=fC q1.o;obtain⟨y,hy,ny,by',ly⟩:=fC r1.o;have HX:=zz hx;have HY:=zz hy;have NX:=zz nx;have NY:=zz ny;have AX:=zz ax;have BY:=zz by';have HL:=zz (aEn lx ly);clear hx hy nx ny ax by' lx ly
   cases m with
   | true=>
    have s1:=zz (show nS n a true b=none by rw[gP HX.o HY.o,aEu (fun h=>by have h1:=NY.o;rw[aEe (by omega)] at h1;cases h1)]);go_enter Tryz.func50,Tryz.ntmps50
    go_upto_region 1 with (fail)
    rw[← hw0];clear hw0;refine aFq [se 0 3 [] (.pointer (some ⟨w.heap.size,0,none⟩)),se 1 4 [0] (.agg #[.bool n,.slice A l c]),se 2 5 [1] (.int .i64 0),se 3 6 [2] (.bool false),se 4 7 [3] (.bool false),se 5 8 [4] (.pointer (some ⟨w.heap.size,2,none⟩)),se 6 9 [4,5] (.agg #[.bool true,.slice B k d]),se 7 10 [4,6] (.int .i64 0),se 8 11 [4,7] (.bool false),se 9 12 [4,8] (.bool false),se 10 13 [9] (.bool false),se 11 14 [10] (.pointer (some ⟨w.heap.size,2,none⟩)),se 12 15 [10,11] (.pointer (some ⟨w.heap.size,2,none⟩)),se 13 16 [10,12] (.bool true),se 14 17 [10,13] (.bool true),se 15 18 [14] (.bool true),se 16 19 [15] undef,se 17 20 [15] undef,se 18 21 [15] undef,se 19 22 [15] undef,se 20 23 [15] undef,se 21 24 [15] (.bool true),se 22 25 [21] (.bool true),se 23 26 [22] undef,se 24 27 [22] undef,se 25 28 [22] undef,se 26 29 [22] undef,se 27 30 [22] undef,se 28 31 [22] undef,se 29 32 [22] undef,se 30 33 [22] undef,se 31 34 [22] undef,se 32 35 [22] undef,se 33 36 [22] undef,se 34 37 [22] (.bool true)] 0 (SB La S0) aFi ?_ ?_
    ·intro xs a_ hA;simp only[SX,↓reduceIte,Nat.reduceEqDiff,Nat.reduceAdd] at hA⊢;subst hA;and_intros
     all_goals intro wk b_ z_
     all_goals try exact pl
     ·intro f1;intros;refine wo fun K hK=>?_;go_simp;have n0:=st aKr HA b_;(with_reducible refine(dO n0.o q1.o).mono ?_)
      rintro e wc2 ⟨V0,rfl⟩;refine hK _ _ ⟨_,by simp only[FL,f1] <;> kernel_rfl,V0,rfl⟩
     ·intro f4 f6;intros;refine aDz (o:=?_) ?p1 ?_
      case p1=>exact rfl
      intro K hK;go_simp;have o0:=st aKr HB b_;(with_reducible refine(dO o0.o r1.o).mono ?_)
      rintro e wc5 ⟨W0,rfl⟩;refine hK _ _ ⟨_,by simp only[FL,f4,f6] <;> kernel_rfl,W0,rfl⟩
    ·intro xs N1 B7 z7;simp only[SY];have X0:=tr B0 B7;refine ED ?_;(try simp only[Exit.then])
     go_wp2;go_ret;exact⟨X0.o,by rw[HR.o,jH s1.o];rfl⟩
   | false=>
    by_cases hk:k=0
    ·have Y0:((k:Int)==0)=true:=by rw[aIh];omega
     have s1:=zz (show nS n a false b=none by rw[gP HX.o HY.o,aEu (fun h=>by have h1:=B1.o;rw[BY.o,aC,hk] at h1;have:=OO.1 h1.symm;omega)]);clear hk;go_enter Tryz.func50,Tryz.ntmps50
     go_upto_region 1 with (fail)
     rw[← hw0];clear hw0;refine aFq [se 0 3 [] (.pointer (some ⟨w.heap.size,0,none⟩)),se 1 4 [0] (.agg #[.bool n,.slice A l c]),se 2 5 [1] (.int .i64 0),se 3 6 [2] (.bool false),se 4 7 [3] (.bool false),se 5 8 [4] (.pointer (some ⟨w.heap.size,2,none⟩)),se 6 9 [4,5] (.agg #[.bool false,.slice B k d]),se 7 10 [4,6] (.int .i64 0),se 8 11 [4,7] (.bool false),se 9 12 [4,8] (.bool false),se 10 13 [9] (.bool false),se 11 14 [10] (.pointer (some ⟨w.heap.size,2,none⟩)),se 12 15 [10,11] (.pointer (some ⟨w.heap.size,2,none⟩)),se 13 16 [10,12] (.bool false),se 14 17 [10,13] (.bool false),se 15 18 [14] (.bool false),se 16 19 [15] (.pointer (some ⟨w.heap.size,2,none⟩)),se 17 20 [15,16] (.pointer (some ⟨w.heap.size,3,none⟩)),se 18 21 [15,17] (.slice B k d),se 19 22 [15,18] (.int .i64 (k:Int)),se 20 23 [15,19] (.bool true),se 21 24 [15,20] (.bool true),se 22 25 [21] (.bool true),se 23 26 [22] undef,se 24 27 [22] undef,se 25 28 [22] undef,se 26 29 [22] undef,se 27 30 [22] undef,se 28 31 [22] undef,se 29 32 [22] undef,se 30 33 [22] undef,se 31 34 [22] undef,se 32 35 [22] undef,se 33 36 [22] undef,se 34 37 [22] (.bool true)] 0 (SB La S0) aFi ?_ ?_
     ·intro xs a_ hA;simp only[SX,↓reduceIte,Nat.reduceEqDiff,Nat.reduceAdd] at hA⊢;subst hA;and_intros
      all_goals intro wk b_ z_
      all_goals try exact pl
      ·intro f1;intros;refine wo fun K hK=>?_;go_simp;have p0:=st aKr HA b_;(with_reducible refine(dO p0.o q1.o).mono ?_)
       rintro e wc10 ⟨q0,rfl⟩;refine hK _ _ ⟨_,by simp only[FL,f1] <;> kernel_rfl,q0,rfl⟩
      ·intro f4 f6;intros;refine aDz (o:=?_) ?Z0 ?_
       case Z0=>exact rfl
       intro K hK;go_simp;have e0:=st aKr HB b_;(with_reducible refine(dO e0.o r1.o).mono ?_)
       rintro e wc13 ⟨s0,rfl⟩;refine hK _ _ ⟨_,by simp only[FL,f4,f6] <;> kernel_rfl,s0,rfl⟩
     ·intro xs I1 B15 z15;simp only[SY];have t0:=tr B0 B15;refine ED ?_;(try simp only[Exit.then])
      go_wp2;go_ret;exact⟨t0.o,by rw[HR.o,jH s1.o];rfl⟩
    ·have Y0:((k:Int)==0)=false:=by rw[aEo];omega
     have hy1:y.natAbs≠0:=fun h=>hk (by have h1:=B1.o;rw[BY.o,aC,h,bF] at h1;exact h1)
     have hy0:0<y:=by
      have h3:=NY.o;rcases Int.lt_or_le y 0 with h4 | h4
      ·rw[aEj h4] at h3;cases h3
      ·omega
     have G1:=zz hy0;have O1:=zz hy1;clear hy0 hy1 hk;obtain⟨g,hg⟩:=ex (Nat.gcd x.natAbs y.natAbs);have HG:=zz hg;clear hg;have C1:=zz (show RN w0 w0.heap.size (.slice A l c) (dig x.natAbs) from by have h1:RI w0 w0.heap.size (.slice A l c) a:=aAi HA.o;rw[AX.o] at h1;exact h1);have m0:=zz (show RN w0 w0.heap.size (.slice B k d) (dig y.natAbs) from by have h1:RI w0 w0.heap.size (.slice B k d) b:=aAi HB.o;rw[BY.o] at h1;exact h1);by_cases hg1:g=1
     ·have t1:=zz hg1;clear hg1;have E1:=zz (show nS n a false b=some (mkRat x y.natAbs) by rw[gP HX.o HY.o,aEv ⟨G1.o,by rw[← HG.o];exact t1.o⟩]);go_enter Tryz.func50,Tryz.ntmps50
      go_upto_region 1 with (fail)
      rw[← hw0];clear hw0
      refine aFq [se 0 3 [] (.pointer (some ⟨w.heap.size,0,none⟩)),se 1 4 [0] (.agg #[.bool n,.slice A l c]),se 2 5 [1] (.int .i64 0),se 3 6 [2] (.bool false),se 4 7 [3] (.bool false),se 5 8 [4] (.pointer (some ⟨w.heap.size,2,none⟩)),se 6 9 [4,5] (.agg #[.bool false,.slice B k d]),se 7 10 [4,6] (.int .i64 0),se 8 11 [4,7] (.bool false),se 9 12 [4,8] (.bool false),se 10 13 [9] (.bool false),se 11 14 [10] (.pointer (some ⟨w.heap.size,2,none⟩)),se 12 15 [10,11] (.pointer (some ⟨w.heap.size,2,none⟩)),se 13 16 [10,12] (.bool false),se 14 17 [10,13] (.bool false),se 15 18 [14] (.bool false),se 16 19 [15] (.pointer (some ⟨w.heap.size,2,none⟩)),se 17 20 [15,16] (.pointer (some ⟨w.heap.size,3,none⟩)),se 18 21 [15,17] (.slice B k d),se 19 22 [15,18] (.int .i64 (k:Int)),se 20 23 [15,19] (.bool false),se 21 24 [15,20] (.bool false),se 22 25 [21] (.bool false),se 23 26 [22] (.agg #[.bool n,.slice A l c,.bool false,.slice B k d]),se 24 27 [22,23] (.agg #[.bool n,.slice A l c,.slice B k d]),se 25 28 [22,24] (.agg #[.bool n,.slice A l c]),se 26 29 [22,25] (.slice A l c),se 27 30 [22] (.pointer (some ⟨w.heap.size,2,none⟩)),se 28 31 [22,27] (.pointer (some ⟨w.heap.size,3,none⟩)),se 29 32 [22,28] (.slice B k d),sf 30 33 [22,26,29] (fun fv fw=>RN fw fw.heap.size fv (dig g)),sf 31 34 [22] (fun fv fw=>RN fw fw.heap.size fv (dig 1)),sf 32 35 [22,30,31] (fun fv fw=>∃ c:Int,fv=.int .i64 c∧fU c (g) (1)),se 33 36 [22,32] (.bool false),se 34 37 [22,33] (.bool false)] 0 (SB La S0) (MA (fun _ _ _ h hb=>h.step hb) (MA (fun _ _ _ h hb=>h.step hb) (MA (fun _ _ _ h _=>h) aFi))) ?_ ?_
      ·intro xs a_ hA;simp only[SX,↓reduceIte,Nat.reduceEqDiff,Nat.reduceAdd] at hA⊢;subst hA;and_intros
       all_goals intro wk b_ z_
       all_goals try exact pl
       ·intro f1;intros;refine wo fun K hK=>?_;go_simp;have f0:=st aKr HA b_;(with_reducible refine(dO f0.o q1.o).mono ?_)
        rintro e wc18 ⟨u0,rfl⟩;refine hK _ _ ⟨_,by simp only[FL,f1] <;> kernel_rfl,u0,rfl⟩
       ·intro f4 f6;intros;refine aDz (o:=?_) ?a1 ?_
        case a1=>exact rfl
        intro K hK;go_simp;have g0:=st aKr HB b_;(with_reducible refine(dO g0.o r1.o).mono ?_)
        rintro e wc21 ⟨v0,rfl⟩;refine hK _ _ ⟨_,by simp only[FL,f4,f6] <;> kernel_rfl,v0,rfl⟩
       ·intro f22 f23;intros;refine aDz (o:=?_) ?b1 ?_
        case b1=>exact rfl
        intro K hK;go_simp;(with_reducible refine(gU _ n false A B l c k d).mono ?_)
        rintro e wc23 ⟨x0,rfl⟩;refine hK _ _ ⟨_,by simp only[FL,f22,f23] <;> kernel_rfl,x0,rfl⟩
       ·intro f22 f26 f29;intros;refine aDz (o:=?_) ?c1 ?_
        case c1=>exact rfl
        intro K hK;go_simp;have a0:=st aHu C1 b_;have b0:=st aHu m0 b_;(with_reducible refine((show Calls Tryz.prog _ _ _ _ from HG.o▸jY _ _ _ x.natAbs y.natAbs a0.o b0.o (by have:=HL.o;omega) (by have:=HL.o;omega))).mono ?_)
        rintro e wc27 ⟨y0,v27,rfl,A0⟩;refine hK _ _ ⟨v27,by simp only[FL,f22,f26,f29] <;> kernel_rfl,y0,A0⟩
       ·intro f22;intros;refine aDz (o:=?_) ?d1 ?_
        case d1=>exact rfl
        intro K hK;go_simp;(with_reducible refine(NU _).mono ?_)
        rintro e wc29 ⟨C0,v29,rfl,D0⟩;refine hK _ _ ⟨v29,by simp only[FL,f22] <;> kernel_rfl,C0,D0⟩
       ·intro f22 f30 f31;intros;refine aDz (o:=?_) ?e1 ?_
        case e1=>exact rfl
        intro K hK;go_simp;(with_reducible refine(oF _ _ _ g 1 f30 f31).mono ?_)
        rintro e wc31 ⟨E0,c31,rfl,hc31⟩;refine hK _ _ ⟨.int .i64 c31,by simp only[FL,f22] <;> kernel_rfl,E0,⟨c31,rfl,hc31⟩⟩
       ·intro f22 f32;intros;refine aDz (o:=?_) ?g1 ?_
        case g1=>exact rfl
        intro K hK;obtain⟨c,hc,hs⟩:=f32;unfold fU at hs;have hq:(c != 0)=false:=by have h1:=t1.o;rw[aJh];omega
        rw[hc];clear hs;go_simp;refine hK _ _ ⟨_,by simp only[FL,f22,hc] <;> kernel_rfl,aDy _ _,rfl⟩
      ·intro xs J1 B34 z34;simp only[SY];have F0:=tr B0 B34;generalize xs 30=x30,xs 31=x31,xs 32=x32;rintro f30 f31 f32;clear f30;clear f31;clear f32;refine ED ?_;(try simp only[Exit.then])
       go_wp2;go_ret;exact⟨F0.o,by rw[HR.o,zP E1.o];rfl⟩
     ·have t1:=zz hg1;clear hg1;have s1:=zz (show nS n a false b=none by rw[gP HX.o HY.o,aEu (fun h=>t1.o (by rw[HG.o];exact h.2))]);go_enter Tryz.func50,Tryz.ntmps50
      go_upto_region 1 with (fail)
      rw[← hw0];clear hw0
      refine aFq [se 0 3 [] (.pointer (some ⟨w.heap.size,0,none⟩)),se 1 4 [0] (.agg #[.bool n,.slice A l c]),se 2 5 [1] (.int .i64 0),se 3 6 [2] (.bool false),se 4 7 [3] (.bool false),se 5 8 [4] (.pointer (some ⟨w.heap.size,2,none⟩)),se 6 9 [4,5] (.agg #[.bool false,.slice B k d]),se 7 10 [4,6] (.int .i64 0),se 8 11 [4,7] (.bool false),se 9 12 [4,8] (.bool false),se 10 13 [9] (.bool false),se 11 14 [10] (.pointer (some ⟨w.heap.size,2,none⟩)),se 12 15 [10,11] (.pointer (some ⟨w.heap.size,2,none⟩)),se 13 16 [10,12] (.bool false),se 14 17 [10,13] (.bool false),se 15 18 [14] (.bool false),se 16 19 [15] (.pointer (some ⟨w.heap.size,2,none⟩)),se 17 20 [15,16] (.pointer (some ⟨w.heap.size,3,none⟩)),se 18 21 [15,17] (.slice B k d),se 19 22 [15,18] (.int .i64 (k:Int)),se 20 23 [15,19] (.bool false),se 21 24 [15,20] (.bool false),se 22 25 [21] (.bool false),se 23 26 [22] (.agg #[.bool n,.slice A l c,.bool false,.slice B k d]),se 24 27 [22,23] (.agg #[.bool n,.slice A l c,.slice B k d]),se 25 28 [22,24] (.agg #[.bool n,.slice A l c]),se 26 29 [22,25] (.slice A l c),se 27 30 [22] (.pointer (some ⟨w.heap.size,2,none⟩)),se 28 31 [22,27] (.pointer (some ⟨w.heap.size,3,none⟩)),se 29 32 [22,28] (.slice B k d),sf 30 33 [22,26,29] (fun fv fw=>RN fw fw.heap.size fv (dig g)),sf 31 34 [22] (fun fv fw=>RN fw fw.heap.size fv (dig 1)),sf 32 35 [22,30,31] (fun fv fw=>∃ c:Int,fv=.int .i64 c∧fU c (g) (1)),se 33 36 [22,32] (.bool true),se 34 37 [22,33] (.bool true)] 0 (SB La S0) (MA (fun _ _ _ h hb=>h.step hb) (MA (fun _ _ _ h hb=>h.step hb) (MA (fun _ _ _ h _=>h) aFi))) ?_ ?_
      ·intro xs a_ hA;simp only[SX,↓reduceIte,Nat.reduceEqDiff,Nat.reduceAdd] at hA⊢;subst hA;and_intros
       all_goals intro wk b_ z_
       all_goals try exact pl
       ·intro f1;intros;refine wo fun K hK=>?_;go_simp;have h0:=st aKr HA b_;(with_reducible refine(dO h0.o q1.o).mono ?_)
        rintro e wc37 ⟨G0,rfl⟩;refine hK _ _ ⟨_,by simp only[FL,f1] <;> kernel_rfl,G0,rfl⟩
       ·intro f4 f6;intros;refine aDz (o:=?_) ?i1 ?_
        case i1=>exact rfl
        intro K hK;go_simp;have i0:=st aKr HB b_;(with_reducible refine(dO i0.o r1.o).mono ?_)
        rintro e wc40 ⟨H0,rfl⟩;refine hK _ _ ⟨_,by simp only[FL,f4,f6] <;> kernel_rfl,H0,rfl⟩
       ·intro f22 f23;intros;refine aDz (o:=?_) ?j1 ?_
        case j1=>exact rfl
        intro K hK;go_simp;(with_reducible refine(gU _ n false A B l c k d).mono ?_)
        rintro e wc42 ⟨I0,rfl⟩;refine hK _ _ ⟨_,by simp only[FL,f22,f23] <;> kernel_rfl,I0,rfl⟩
       ·intro f22 f26 f29;intros;refine aDz (o:=?_) ?k1 ?_
        case k1=>exact rfl
        intro K hK;go_simp;have c0:=st aHu C1 b_;have d0:=st aHu m0 b_;(with_reducible refine((show Calls Tryz.prog _ _ _ _ from HG.o▸jY _ _ _ x.natAbs y.natAbs c0.o d0.o (by have:=HL.o;omega) (by have:=HL.o;omega))).mono ?_)
        rintro e wc46 ⟨J0,v46,rfl,K0⟩;refine hK _ _ ⟨v46,by simp only[FL,f22,f26,f29] <;> kernel_rfl,J0,K0⟩
       ·intro f22;intros;refine aDz (o:=?_) ?l1 ?_
        case l1=>exact rfl
        intro K hK;go_simp;(with_reducible refine(NU _).mono ?_)
        rintro e wc48 ⟨L0,v48,rfl,M0⟩;refine hK _ _ ⟨v48,by simp only[FL,f22] <;> kernel_rfl,L0,M0⟩
       ·intro f22 f30 f31;intros;refine aDz (o:=?_) ?m1 ?_
        case m1=>exact rfl
        intro K hK;go_simp;(with_reducible refine(oF _ _ _ g 1 f30 f31).mono ?_)
        rintro e wc50 ⟨N0,c50,rfl,hc50⟩;refine hK _ _ ⟨.int .i64 c50,by simp only[FL,f22] <;> kernel_rfl,N0,⟨c50,rfl,hc50⟩⟩
       ·intro f22 f32;intros;refine aDz (o:=?_) ?n1 ?_
        case n1=>exact rfl
        intro K hK;obtain⟨c,hc,hs⟩:=f32;unfold fU at hs;have hq:(c != 0)=true:=by have h1:=t1.o;rw[aJg];omega
        rw[hc];clear hs;go_simp;refine hK _ _ ⟨_,by simp only[FL,f22,hc] <;> kernel_rfl,aDy _ _,rfl⟩
      ·intro xs K1 B53 z53;simp only[SY];have O0:=tr B0 B53;generalize xs 30=x30,xs 31=x31,xs 32=x32;rintro f30 f31 f32;clear f30;clear f31;clear f32;refine ED ?_;(try simp only[Exit.then])
       go_wp2;go_ret;exact⟨O0.o,by rw[HR.o,jH s1.o];rfl⟩
  ·have r1:=zz hvb;clear hvb;go_enter Tryz.func50,Tryz.ntmps50
   go_upto_region 1 with (fail)
   rw[← hw0];clear hw0;refine aFq [se 0 3 [] (.pointer (some ⟨w.heap.size,0,none⟩)),se 1 4 [0] (.agg #[.bool n,.slice A l c]),se 2 5 [1] (.int .i64 0),se 3 6 [2] (.bool false),se 4 7 [3] (.bool false),se 5 8 [4] (.pointer (some ⟨w.heap.size,2,none⟩)),se 6 9 [4,5] (.agg #[.bool m,.slice B k d]),se 7 10 [4,6] (.int .i64 30),se 8 11 [4,7] (.bool true),se 9 12 [4,8] (.bool true),se 10 13 [9] (.bool true),se 11 14 [10] undef,se 12 15 [10] undef,se 13 16 [10] undef,se 14 17 [10] (.bool true),se 15 18 [14] (.bool true),se 16 19 [15] undef,se 17 20 [15] undef,se 18 21 [15] undef,se 19 22 [15] undef,se 20 23 [15] undef,se 21 24 [15] (.bool true),se 22 25 [21] (.bool true),se 23 26 [22] undef,se 24 27 [22] undef,se 25 28 [22] undef,se 26 29 [22] undef,se 27 30 [22] undef,se 28 31 [22] undef,se 29 32 [22] undef,se 30 33 [22] undef,se 31 34 [22] undef,se 32 35 [22] undef,se 33 36 [22] undef,se 34 37 [22] (.bool true)] 0 (SB La S0) aFi ?_ ?_
   ·intro xs a_ hA;simp only[SX,↓reduceIte,Nat.reduceEqDiff,Nat.reduceAdd] at hA⊢;subst hA;and_intros
    all_goals intro wk b_ z_
    all_goals try exact pl
    ·intro f1;intros;refine wo fun K hK=>?_;go_simp;have j0:=st aKr HA b_;(with_reducible refine(dO j0.o q1.o).mono ?_)
     rintro e wc56 ⟨P0,rfl⟩;refine hK _ _ ⟨_,by simp only[FL,f1] <;> kernel_rfl,P0,rfl⟩
    ·intro f4 f6;intros;refine aDz (o:=?_) ?o1 ?_
     case o1=>exact rfl
     intro K hK;go_simp;have k0:=st aKr HB b_;(with_reducible refine(AC k0.o r1.o).mono ?_)
     rintro e wc59 ⟨Q0,rfl⟩;refine hK _ _ ⟨_,by simp only[FL,f4,f6] <;> kernel_rfl,Q0,rfl⟩
   ·intro xs L1 B61 z61;simp only[SY];have R0:=tr B0 B61;refine ED ?_;(try simp only[Exit.then])
    go_wp2;go_ret;exact⟨R0.o,by rw[HR.o,jH (yU r1.o)];rfl⟩
 ·have q1:=zz hva;clear hva;go_enter Tryz.func50,Tryz.ntmps50
  go_upto_region 1 with (fail)
  rw[← hw0];clear hw0;refine aFq [se 0 3 [] (.pointer (some ⟨w.heap.size,0,none⟩)),se 1 4 [0] (.agg #[.bool n,.slice A l c]),se 2 5 [1] (.int .i64 30),se 3 6 [2] (.bool true),se 4 7 [3] (.bool true),se 5 8 [4] undef,se 6 9 [4] undef,se 7 10 [4] undef,se 8 11 [4] undef,se 9 12 [4] (.bool true),se 10 13 [9] (.bool true),se 11 14 [10] undef,se 12 15 [10] undef,se 13 16 [10] undef,se 14 17 [10] (.bool true),se 15 18 [14] (.bool true),se 16 19 [15] undef,se 17 20 [15] undef,se 18 21 [15] undef,se 19 22 [15] undef,se 20 23 [15] undef,se 21 24 [15] (.bool true),se 22 25 [21] (.bool true),se 23 26 [22] undef,se 24 27 [22] undef,se 25 28 [22] undef,se 26 29 [22] undef,se 27 30 [22] undef,se 28 31 [22] undef,se 29 32 [22] undef,se 30 33 [22] undef,se 31 34 [22] undef,se 32 35 [22] undef,se 33 36 [22] undef,se 34 37 [22] (.bool true)] 0 (SB La S0) aFi ?_ ?_
  ·intro xs a_ hA;simp only[SX,↓reduceIte,Nat.reduceEqDiff,Nat.reduceAdd] at hA⊢;subst hA;and_intros
   all_goals intro wk b_ z_
   all_goals try exact pl
   ·intro f1;intros;refine wo fun K hK=>?_;go_simp;have l0:=st aKr HA b_;(with_reducible refine(AC l0.o q1.o).mono ?_)
    rintro e wc64 ⟨T0,rfl⟩;refine hK _ _ ⟨_,by simp only[FL,f1] <;> kernel_rfl,T0,rfl⟩
  ·intro xs M1 B66 z66;simp only[SY];have U0:=tr B0 B66;refine ED ?_;(try simp only[Exit.then])
   go_wp2;go_ret;exact⟨U0.o,by rw[HR.o,jH (yV q1.o)];rfl⟩
end Go.Proofs.YtencnahjgbdeoaaGreatDoor
