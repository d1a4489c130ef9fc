/- Layer 09: valid glasses (written by gen_gd.py). -/
import Derived.Test.YtkhljkiehohckaaGreatDoorGC
namespace Go.Proofs.YtkhljkiehohckaaGreatDoor
open Go Go.RowKit Dig
theorem chkCases {f c P q:Int} (k:Nat):(f≠1∧c < -1000000000000)∨(f=1∧k % 2=0∧c < -1000000000000)∨(f=1∧k % 2=1∧c < -1000000000000)∨(f≠1∧1000000000000<c)∨(f=1∧k % 2=0∧1000000000000<c)∨(f=1∧k % 2=1∧1000000000000<c)∨(f=1∧k % 2=1∧P≤q∧-1000000000000≤c∧c≤1000000000000)∨(f=1∧k % 2=1∧q<P∧-1000000000000≤c∧c≤1000000000000)∨(f=1∧k % 2=0∧-1000000000000≤c∧c≤1000000000000)∨(f=2∧2<k∧c≠0∧-1000000000000≤c∧c≤1000000000000)∨(f=2∧2<k∧c=0∧-1000000000000≤c∧c≤1000000000000)∨(f=2∧k≤2∧-1000000000000≤c∧c≤1000000000000)∨(f≠1∧f≠2∧-1000000000000≤c∧c≤1000000000000):=by
  rcases(show c < -1000000000000∨1000000000000<c∨(-1000000000000≤c∧c≤1000000000000) by omega) with h1 | h1 | h1
  · by_cases h2:f=1
    · rcases Nat.mod_two_eq_zero_or_one k with h3 | h3
      · refine .inr (.inl ?_);omega
      · refine .inr (.inr (.inl ?_));omega
    · refine .inl ?_;omega
  · by_cases h2:f=1
    · rcases Nat.mod_two_eq_zero_or_one k with h3 | h3
      · refine .inr (.inr (.inr (.inr (.inl ?_))));omega
      · refine .inr (.inr (.inr (.inr (.inr (.inl ?_)))));omega
    · refine .inr (.inr (.inr (.inl ?_)));omega
  · by_cases h2:f=1
    · rcases Nat.mod_two_eq_zero_or_one k with h3 | h3
      · refine .inr (.inr (.inr (.inr (.inr (.inr (.inr (.inr (.inl ?_))))))));omega
      · by_cases h4:P≤q
        · refine .inr (.inr (.inr (.inr (.inr (.inr (.inl ?_))))));omega
        · refine .inr (.inr (.inr (.inr (.inr (.inr (.inr (.inl ?_)))))));omega
    · by_cases h3:f=2
      · by_cases h4:2<k
        · by_cases h5:c=0
          · refine .inr (.inr (.inr (.inr (.inr (.inr (.inr (.inr (.inr (.inr (.inl ?_))))))))));omega
          · refine .inr (.inr (.inr (.inr (.inr (.inr (.inr (.inr (.inr (.inl ?_)))))))));omega
        · refine .inr (.inr (.inr (.inr (.inr (.inr (.inr (.inr (.inr (.inr (.inr (.inl ?_)))))))))));omega
      · refine .inr (.inr (.inr (.inr (.inr (.inr (.inr (.inr (.inr (.inr (.inr (.inr ?_)))))))))));omega
set_option maxRecDepth 100000 in
set_option maxHeartbeats 4000000 in
theorem Check_G (w:World) (g:GL) (hs:g.nm.size≤1000) :
    Calls Tryz.prog 14 #[.agg (GC g)] w fun e w'=>Below w.heap.size w w'∧e=.returned (.int .i64 (if okG g then 0 else 90)):=by
  obtain⟨r,hr⟩:∃ r:Int,r=if okG g then 0 else 90:=⟨_,rfl⟩;rw[← hr];have HR:=zz hr;clear hr
  obtain⟨w0,hw0⟩:∃ w0:World,w0=(w.alloc (.cells (GC g) 32)):=⟨_,rfl⟩;have B0:=zz (n1_b hw0);have z0:=n1_z hw0;have Lg:=n1_0 hw0;by_cases hh:headG g
  · have HH:=zz hh;obtain⟨h1,h2,h3,h4,h5,h6,h7⟩:=hh
    have hm:(g.nm.toList==[77,73,82,82,79,82])=false:=by rw[mir_eq];exact decide_eq_false h2
    first
      | have k0:decide (g.lo<300000)=true:=by rw[decide_eq_true_eq];omega
      | have k0:decide (g.lo<300000)=false:=by rw[decide_eq_false_iff_not];omega
    first
      | have k1:decide (g.hi<g.lo)=true:=by rw[decide_eq_true_eq];omega
      | have k1:decide (g.hi<g.lo)=false:=by rw[decide_eq_false_iff_not];omega
    first
      | have k2:decide (2500000<g.hi)=true:=by rw[decide_eq_true_eq];omega
      | have k2:decide (2500000<g.hi)=false:=by rw[decide_eq_false_iff_not];omega
    first
      | have k3:decide (g.f<1)=true:=by rw[decide_eq_true_eq];omega
      | have k3:decide (g.f<1)=false:=by rw[decide_eq_false_iff_not];omega
    first
      | have k4:decide (3<g.f)=true:=by rw[decide_eq_true_eq];omega
      | have k4:decide (3<g.f)=false:=by rw[decide_eq_false_iff_not];omega
    have HL:=zz (And.intro h3 (Int.le_trans h4 h5));have s2:=zz (And.intro h6 h7);clear h2 h3 h4 h5 h6 h7;go_enter Tryz.func14,Tryz.ntmps14
    go_upto_region 1 with (fail)
    rw[← hw0];clear hw0;have T0:w0.cell? ⟨w.heap.size,0,none⟩=some (.string g.nm):=Lg.cell 0 rfl;have U0:w0.cell? ⟨w.heap.size,1,none⟩=some (.int .i64 g.f):=Lg.cell 1 rfl;have V0:w0.cell? ⟨w.heap.size,2,none⟩=some (.int .i64 g.c0):=Lg.cell 2 rfl;have W0:w0.cell? ⟨w.heap.size,3,none⟩=some (.int .i64 g.c1):=Lg.cell 3 rfl;have X0:w0.cell? ⟨w.heap.size,4,none⟩=some (.int .i64 g.c2):=Lg.cell 4 rfl;have Y0:w0.cell? ⟨w.heap.size,5,none⟩=some (.int .i64 g.c3):=Lg.cell 5 rfl;have Z0:w0.cell? ⟨w.heap.size,6,none⟩=some (.int .i64 g.c4):=Lg.cell 6 rfl;have a1:w0.cell? ⟨w.heap.size,7,none⟩=some (.int .i64 g.c5):=Lg.cell 7 rfl;have b1:w0.cell? ⟨w.heap.size,8,none⟩=some (.int .i64 g.lo):=Lg.cell 8 rfl;have d1:w0.cell? ⟨w.heap.size,9,none⟩=some (.int .i64 g.hi):=Lg.cell 9 rfl;go_wp2_with fail
    refine(Name_any _ _ hs).mono ?_;rintro e w1 ⟨Q0,rfl⟩;have B3:=zz Q0;have z3:=B3.out.size;have R0:=zz (B0.out.trans (B3.out.mono B0.out.size));clear Q0;clear T0 U0 V0 W0 X0 Y0 Z0 a1 b1 d1;rw[h1];clear h1;have e0:=CB.step Lg B3.out;have f1:w1.cell? ⟨w.heap.size,0,none⟩=some (.string g.nm):=e0.cell 0 rfl;have g1:w1.cell? ⟨w.heap.size,1,none⟩=some (.int .i64 g.f):=e0.cell 1 rfl;have i1:w1.cell? ⟨w.heap.size,2,none⟩=some (.int .i64 g.c0):=e0.cell 2 rfl;have j1:w1.cell? ⟨w.heap.size,3,none⟩=some (.int .i64 g.c1):=e0.cell 3 rfl;have l1:w1.cell? ⟨w.heap.size,4,none⟩=some (.int .i64 g.c2):=e0.cell 4 rfl;have m1:w1.cell? ⟨w.heap.size,5,none⟩=some (.int .i64 g.c3):=e0.cell 5 rfl;have n1:w1.cell? ⟨w.heap.size,6,none⟩=some (.int .i64 g.c4):=e0.cell 6 rfl;have o1:w1.cell? ⟨w.heap.size,7,none⟩=some (.int .i64 g.c5):=e0.cell 7 rfl;have p1:w1.cell? ⟨w.heap.size,8,none⟩=some (.int .i64 g.lo):=e0.cell 8 rfl;have q1:w1.cell? ⟨w.heap.size,9,none⟩=some (.int .i64 g.hi):=e0.cell 9 rfl;go_wp2;clear f1 g1 i1 j1 l1 m1 n1 o1 p1 q1;clear hm k0 k1 k2 k3 k4;go_loopw [44] (fun iv wr=>∃ k:Nat,k≤6∧iv=.int .i64 k∧Hid (∀ i<k,¬ badC g i)∧Hid (Below w1.heap.size w1 wr)) (fun iv _=>6-(intOf iv).toNat)
    case atStart=>exact⟨0,by omega,rfl,zz (fun i hi=>absurd hi (Nat.not_lt_zero _)),zz (Below.refl _ _)⟩
    case round=>
      obtain⟨k,hk,rfl,HA,HW⟩:=hrel;have zr:=HW.out.size;have q2:=zz (R0.out.trans (HW.out.mono R0.out.size));by_cases hlt:k<6
      · have m2:(0:Int)≤(k:Int)∧(k:Int)<6:=by omega
        have f0:=CB.step e0 HW.out;have hci:=GC_c f0 hlt;have hidx:∀ w:World,(Instr.index 30 (.agg #[.int .i64 g.c0,.int .i64 g.c1,.int .i64 g.c2,.int .i64 g.c3,.int .i64 g.c4,.int .i64 g.c5]) (.int .i64 k)).run Tryz.prog w=.ok (.int .i64 (g.c k)) w:=by
          intro w;rcases k with _ | _ | _ | _ | _ | _ | k
          all_goals first | omega | kernel_rfl
        have n2:=zz (badC_iff g k);obtain⟨c,hc⟩:∃ c,g.c k=c:=⟨_,rfl⟩;obtain⟨P,hP⟩:∃ P,g.lo*g.lo=P:=⟨_,rfl⟩;obtain⟨q,hq⟩:∃ q,wrap64 (1000*c)=q:=⟨_,rfl⟩;rw[hc] at hci hidx;rw[hc,hP] at n2;have hPb:90000000000≤P∧P≤6250000000000:=by rw[← hP];exact sq_bound HL.out
        have hp:wrap64 (g.lo*g.lo)=P:=by rw[hP];exact IntWalk.wrap64_in _ (by omega)
        have hqm:-1000000000000≤c→c≤1000000000000→q=1000*c:=fun h1 h2=>by rw[← hq];exact IntWalk.wrap64_in _ (by omega)
        have hf0:=s2.out;clear hP hc;rcases chkCases (f:=g.f) (c:=c) (P:=P) (q:=q) k with h | h | h | h | h | h | h | h | h | h | h | h | h
        all_goals
          first
            | have k0:(g.f==1)=true:=by rw[beq_iff_eq];omega
            | have k0:(g.f==1)=false:=by rw[beq_eq_false_iff_ne];omega
            | skip
          first
            | have k1:(g.f==2)=true:=by rw[beq_iff_eq];omega
            | have k1:(g.f==2)=false:=by rw[beq_eq_false_iff_ne];omega
            | skip
          first
            | have k2:((k:Int) % 2==1)=true:=by rw[beq_iff_eq];omega
            | have k2:((k:Int) % 2==1)=false:=by rw[beq_eq_false_iff_ne];omega
            | skip
          first
            | have k3:decide (2<(k:Int))=true:=by rw[decide_eq_true_eq];omega
            | have k3:decide (2<(k:Int))=false:=by rw[decide_eq_false_iff_not];omega
            | skip
          first
            | have k4:decide (c < -1000000000000)=true:=by rw[decide_eq_true_eq];omega
            | have k4:decide (c < -1000000000000)=false:=by rw[decide_eq_false_iff_not];omega
            | skip
          first
            | have k5:decide (1000000000000<c)=true:=by rw[decide_eq_true_eq];omega
            | have k5:decide (1000000000000<c)=false:=by rw[decide_eq_false_iff_not];omega
            | skip
          first
            | have k6:decide (P≤q)=true:=by rw[decide_eq_true_eq];omega
            | have k6:decide (P≤q)=false:=by rw[decide_eq_false_iff_not];omega
            | skip
          first
            | have k7:(c != 0)=true:=by rw[bne_iff_ne];omega
            | have k7:(c != 0)=false:=by rw[bne_eq_false_iff_eq];omega
            | skip
          have Z1:wr.cell? ⟨w.heap.size,0,none⟩=some (.string g.nm):=f0.cell 0 rfl;have a2:wr.cell? ⟨w.heap.size,1,none⟩=some (.int .i64 g.f):=f0.cell 1 rfl;have b2:wr.cell? ⟨w.heap.size,2,none⟩=some (.int .i64 g.c0):=f0.cell 2 rfl;have d2:wr.cell? ⟨w.heap.size,3,none⟩=some (.int .i64 g.c1):=f0.cell 3 rfl;have e2:wr.cell? ⟨w.heap.size,4,none⟩=some (.int .i64 g.c2):=f0.cell 4 rfl;have f2:wr.cell? ⟨w.heap.size,5,none⟩=some (.int .i64 g.c3):=f0.cell 5 rfl;have g2:wr.cell? ⟨w.heap.size,6,none⟩=some (.int .i64 g.c4):=f0.cell 6 rfl;have i2:wr.cell? ⟨w.heap.size,7,none⟩=some (.int .i64 g.c5):=f0.cell 7 rfl;have j2:wr.cell? ⟨w.heap.size,8,none⟩=some (.int .i64 g.lo):=f0.cell 8 rfl;have l2:wr.cell? ⟨w.heap.size,9,none⟩=some (.int .i64 g.hi):=f0.cell 9 rfl
          first
            | have HG:=zz (show ¬ badC g k from fun e=>by have e1:=n2.out.1 e;have:=hqm;omega)
              clear h hqm hPb hf0;go_wp2;go_roundw
              case rel=>exact⟨k+1,by omega,by go_num,zz (fun i hi=>by rcases Nat.lt_succ_iff_lt_or_eq.1 hi with h | rfl;exact HA.out i h;exact HG.out),HW⟩
              case measure=>simp[intOf];omega
            | have HF:=zz (show r=90 by rw[HR.out];exact if_neg (fun e=>e.2 k hlt (n2.out.2 (by have:=hqm;omega))))
              clear h hqm hPb hf0;go_wp2;go_ret;exact⟨q2.out,by rw[HF.out];rfl⟩
      · obtain rfl:k=6:=by omega
        have HF:=zz (show r=0 by rw[HR.out];exact if_pos ⟨HH.out,HA.out⟩);rw[show((6:Nat):Int)=6 from rfl];go_wp2;go_ret;exact⟨q2.out,by rw[HF.out];rfl⟩
  · have HF:=zz (show r=90 by rw[HR.out];exact if_neg (fun h=>hh h.1))
    rcases headG_no hh with h | ⟨h1,h⟩ | ⟨h1,h2,h⟩
    · clear hh
      go_enter Tryz.func14,Tryz.ntmps14
      go_upto_region 1 with (fail)
      rw[← hw0];clear hw0;have i0:w0.cell? ⟨w.heap.size,0,none⟩=some (.string g.nm):=Lg.cell 0 rfl;have j0:w0.cell? ⟨w.heap.size,1,none⟩=some (.int .i64 g.f):=Lg.cell 1 rfl;have l0:w0.cell? ⟨w.heap.size,2,none⟩=some (.int .i64 g.c0):=Lg.cell 2 rfl;have m0:w0.cell? ⟨w.heap.size,3,none⟩=some (.int .i64 g.c1):=Lg.cell 3 rfl;have n0:w0.cell? ⟨w.heap.size,4,none⟩=some (.int .i64 g.c2):=Lg.cell 4 rfl;have o0:w0.cell? ⟨w.heap.size,5,none⟩=some (.int .i64 g.c3):=Lg.cell 5 rfl;have p0:w0.cell? ⟨w.heap.size,6,none⟩=some (.int .i64 g.c4):=Lg.cell 6 rfl;have q0:w0.cell? ⟨w.heap.size,7,none⟩=some (.int .i64 g.c5):=Lg.cell 7 rfl;have r0:w0.cell? ⟨w.heap.size,8,none⟩=some (.int .i64 g.lo):=Lg.cell 8 rfl;have s0:w0.cell? ⟨w.heap.size,9,none⟩=some (.int .i64 g.hi):=Lg.cell 9 rfl;go_wp2_with fail
      refine(Name_any _ _ hs).mono ?_;rintro e w9 ⟨S0,rfl⟩;have B11:=zz S0;have z11:=B11.out.size;have r1:=zz (B0.out.trans (B11.out.mono B0.out.size));clear S0;clear i0 j0 l0 m0 n0 o0 p0 q0 r0 s0;rw[h];have a0:=CB.step Lg B11.out;have u1:w9.cell? ⟨w.heap.size,0,none⟩=some (.string g.nm):=a0.cell 0 rfl;have v1:w9.cell? ⟨w.heap.size,1,none⟩=some (.int .i64 g.f):=a0.cell 1 rfl;have x1:w9.cell? ⟨w.heap.size,2,none⟩=some (.int .i64 g.c0):=a0.cell 2 rfl;have y1:w9.cell? ⟨w.heap.size,3,none⟩=some (.int .i64 g.c1):=a0.cell 3 rfl;have z1:w9.cell? ⟨w.heap.size,4,none⟩=some (.int .i64 g.c2):=a0.cell 4 rfl;have A1:w9.cell? ⟨w.heap.size,5,none⟩=some (.int .i64 g.c3):=a0.cell 5 rfl;have B1:w9.cell? ⟨w.heap.size,6,none⟩=some (.int .i64 g.c4):=a0.cell 6 rfl;have C1:w9.cell? ⟨w.heap.size,7,none⟩=some (.int .i64 g.c5):=a0.cell 7 rfl;have D1:w9.cell? ⟨w.heap.size,8,none⟩=some (.int .i64 g.lo):=a0.cell 8 rfl;have E1:w9.cell? ⟨w.heap.size,9,none⟩=some (.int .i64 g.hi):=a0.cell 9 rfl;go_wp2;go_ret;exact⟨r1.out,by rw[HF.out];rfl⟩
    · have hm:(g.nm.toList==[77,73,82,82,79,82])=true:=by rw[mir_eq];exact decide_eq_true h
      clear hh h;go_enter Tryz.func14,Tryz.ntmps14
      go_upto_region 1 with (fail)
      rw[← hw0];clear hw0;have t0:w0.cell? ⟨w.heap.size,0,none⟩=some (.string g.nm):=Lg.cell 0 rfl;have u0:w0.cell? ⟨w.heap.size,1,none⟩=some (.int .i64 g.f):=Lg.cell 1 rfl;have v0:w0.cell? ⟨w.heap.size,2,none⟩=some (.int .i64 g.c0):=Lg.cell 2 rfl;have x0:w0.cell? ⟨w.heap.size,3,none⟩=some (.int .i64 g.c1):=Lg.cell 3 rfl;have y0:w0.cell? ⟨w.heap.size,4,none⟩=some (.int .i64 g.c2):=Lg.cell 4 rfl;have A0:w0.cell? ⟨w.heap.size,5,none⟩=some (.int .i64 g.c3):=Lg.cell 5 rfl;have C0:w0.cell? ⟨w.heap.size,6,none⟩=some (.int .i64 g.c4):=Lg.cell 6 rfl;have D0:w0.cell? ⟨w.heap.size,7,none⟩=some (.int .i64 g.c5):=Lg.cell 7 rfl;have E0:w0.cell? ⟨w.heap.size,8,none⟩=some (.int .i64 g.lo):=Lg.cell 8 rfl;have F0:w0.cell? ⟨w.heap.size,9,none⟩=some (.int .i64 g.hi):=Lg.cell 9 rfl;go_wp2_with fail
      refine(Name_any _ _ hs).mono ?_;rintro e w15 ⟨g0,rfl⟩;have B17:=zz g0;have z17:=B17.out.size;have s1:=zz (B0.out.trans (B17.out.mono B0.out.size));clear g0;clear t0 u0 v0 x0 y0 A0 C0 D0 E0 F0;rw[h1];have b0:=CB.step Lg B17.out;have F1:w15.cell? ⟨w.heap.size,0,none⟩=some (.string g.nm):=b0.cell 0 rfl;have G1:w15.cell? ⟨w.heap.size,1,none⟩=some (.int .i64 g.f):=b0.cell 1 rfl;have H1:w15.cell? ⟨w.heap.size,2,none⟩=some (.int .i64 g.c0):=b0.cell 2 rfl;have I1:w15.cell? ⟨w.heap.size,3,none⟩=some (.int .i64 g.c1):=b0.cell 3 rfl;have J1:w15.cell? ⟨w.heap.size,4,none⟩=some (.int .i64 g.c2):=b0.cell 4 rfl;have K1:w15.cell? ⟨w.heap.size,5,none⟩=some (.int .i64 g.c3):=b0.cell 5 rfl;have L1:w15.cell? ⟨w.heap.size,6,none⟩=some (.int .i64 g.c4):=b0.cell 6 rfl;have M1:w15.cell? ⟨w.heap.size,7,none⟩=some (.int .i64 g.c5):=b0.cell 7 rfl;have N1:w15.cell? ⟨w.heap.size,8,none⟩=some (.int .i64 g.lo):=b0.cell 8 rfl;have O1:w15.cell? ⟨w.heap.size,9,none⟩=some (.int .i64 g.hi):=b0.cell 9 rfl;go_wp2;go_ret;exact⟨s1.out,by rw[HF.out];rfl⟩
    · have hm:(g.nm.toList==[77,73,82,82,79,82])=false:=by rw[mir_eq];exact decide_eq_false h2
      clear hh h2;rcases(show g.lo<300000∨(300000≤g.lo∧g.hi<g.lo)∨(300000≤g.lo∧g.lo≤g.hi∧2500000<g.hi)∨(300000≤g.lo∧g.lo≤g.hi∧g.hi≤2500000∧g.f<1)∨(300000≤g.lo∧g.lo≤g.hi∧g.hi≤2500000∧1≤g.f∧3<g.f) by omega) with h | h | h | h | h
      all_goals
        first
          | have k0:decide (g.lo<300000)=true:=by rw[decide_eq_true_eq];omega
          | have k0:decide (g.lo<300000)=false:=by rw[decide_eq_false_iff_not];omega
          | skip
        first
          | have k1:decide (g.hi<g.lo)=true:=by rw[decide_eq_true_eq];omega
          | have k1:decide (g.hi<g.lo)=false:=by rw[decide_eq_false_iff_not];omega
          | skip
        first
          | have k2:decide (2500000<g.hi)=true:=by rw[decide_eq_true_eq];omega
          | have k2:decide (2500000<g.hi)=false:=by rw[decide_eq_false_iff_not];omega
          | skip
        first
          | have k3:decide (g.f<1)=true:=by rw[decide_eq_true_eq];omega
          | have k3:decide (g.f<1)=false:=by rw[decide_eq_false_iff_not];omega
          | skip
        first
          | have k4:decide (3<g.f)=true:=by rw[decide_eq_true_eq];omega
          | have k4:decide (3<g.f)=false:=by rw[decide_eq_false_iff_not];omega
          | skip
        clear h;go_enter Tryz.func14,Tryz.ntmps14
        go_upto_region 1 with (fail)
        rw[← hw0];clear hw0;have G0:w0.cell? ⟨w.heap.size,0,none⟩=some (.string g.nm):=Lg.cell 0 rfl;have H0:w0.cell? ⟨w.heap.size,1,none⟩=some (.int .i64 g.f):=Lg.cell 1 rfl;have I0:w0.cell? ⟨w.heap.size,2,none⟩=some (.int .i64 g.c0):=Lg.cell 2 rfl;have J0:w0.cell? ⟨w.heap.size,3,none⟩=some (.int .i64 g.c1):=Lg.cell 3 rfl;have K0:w0.cell? ⟨w.heap.size,4,none⟩=some (.int .i64 g.c2):=Lg.cell 4 rfl;have L0:w0.cell? ⟨w.heap.size,5,none⟩=some (.int .i64 g.c3):=Lg.cell 5 rfl;have M0:w0.cell? ⟨w.heap.size,6,none⟩=some (.int .i64 g.c4):=Lg.cell 6 rfl;have N0:w0.cell? ⟨w.heap.size,7,none⟩=some (.int .i64 g.c5):=Lg.cell 7 rfl;have O0:w0.cell? ⟨w.heap.size,8,none⟩=some (.int .i64 g.lo):=Lg.cell 8 rfl;have P0:w0.cell? ⟨w.heap.size,9,none⟩=some (.int .i64 g.hi):=Lg.cell 9 rfl;go_wp2_with fail
        refine(Name_any _ _ hs).mono ?_;rintro e w21 ⟨h0,rfl⟩;have B23:=zz h0;have z23:=B23.out.size;have t1:=zz (B0.out.trans (B23.out.mono B0.out.size));clear h0;clear G0 H0 I0 J0 K0 L0 M0 N0 O0 P0;rw[h1];have d0:=CB.step Lg B23.out;have P1:w21.cell? ⟨w.heap.size,0,none⟩=some (.string g.nm):=d0.cell 0 rfl;have Q1:w21.cell? ⟨w.heap.size,1,none⟩=some (.int .i64 g.f):=d0.cell 1 rfl;have R1:w21.cell? ⟨w.heap.size,2,none⟩=some (.int .i64 g.c0):=d0.cell 2 rfl;have S1:w21.cell? ⟨w.heap.size,3,none⟩=some (.int .i64 g.c1):=d0.cell 3 rfl;have T1:w21.cell? ⟨w.heap.size,4,none⟩=some (.int .i64 g.c2):=d0.cell 4 rfl;have U1:w21.cell? ⟨w.heap.size,5,none⟩=some (.int .i64 g.c3):=d0.cell 5 rfl;have V1:w21.cell? ⟨w.heap.size,6,none⟩=some (.int .i64 g.c4):=d0.cell 6 rfl;have W1:w21.cell? ⟨w.heap.size,7,none⟩=some (.int .i64 g.c5):=d0.cell 7 rfl;have X1:w21.cell? ⟨w.heap.size,8,none⟩=some (.int .i64 g.lo):=d0.cell 8 rfl;have Y1:w21.cell? ⟨w.heap.size,9,none⟩=some (.int .i64 g.hi):=d0.cell 9 rfl;go_wp2;go_ret;exact⟨t1.out,by rw[HF.out];rfl⟩
end Go.Proofs.YtkhljkiehohckaaGreatDoor
