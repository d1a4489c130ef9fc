/- Layer 09, the reference: Square (written by gen_gx.py). -/
import Derived.Test.YtkhljkiehohckaaGreatDoorGD
import Derived.Test.YtkhljkiehohckaaGreatDoorGs
namespace Go.Proofs.YtkhljkiehohckaaGreatDoor
open Go Go.RowKit Dig
set_option maxRecDepth 100000 in
set_option maxHeartbeats 4000000 in
theorem RSquare_G (w:World) (g:GL) (L:Int) (hs:g.nm.size≤1000) :
    Calls Tryz.prog 18 #[.agg (GC g),.int .i64 L] w fun e w'=>Below w.heap.size w w'∧RetQ w' (sqR g L) e:=by
  obtain⟨t,ht⟩:∃ t,t=sqR g L:=⟨_,rfl⟩;rw[← ht];have HT:=zz ht;clear ht;obtain⟨w0,hw0⟩:∃ w0:World,w0=((w.alloc (.cells (GC g) 32)).alloc (.cells #[.bool false,.slice none 0 0,.bool false,.slice none 0 0] 43)):=⟨_,rfl⟩;have B0:=zz (n2_b hw0);have z0:=n2_z hw0;have Lg:=n2_0 hw0;have Lr4:=n2_1 hw0;by_cases ho:okG g
  · have HO:=zz ho;clear ho
    rcases(show L<g.lo∨(g.lo≤L∧g.hi<L)∨(g.lo≤L∧L≤g.hi) by omega) with h | h | h
    · replace HT:=zz (show t=(none,2) by have he:erG g L=2:=(by rw[erG,if_pos HO.out,if_pos (by omega)]);rw[HT.out,sqR,he];rfl);rw[HT.out]
      first
        | have k0:decide (L<g.lo)=true:=by rw[decide_eq_true_eq];omega
        | have k0:decide (L<g.lo)=false:=by rw[decide_eq_false_iff_not];omega
      first
        | have k1:decide (g.hi<L)=true:=by rw[decide_eq_true_eq];omega
        | have k1:decide (g.hi<L)=false:=by rw[decide_eq_false_iff_not];omega
        | skip
      clear h;go_enter Tryz.func18,Tryz.ntmps18
      go_upto_region 1 with (fail)
      rw[← hw0];clear hw0;go_wp2_with (refine wpList_load_row rfl _ _ rfl _ rfl _ _ (0,0) _ Lg rfl rfl rfl ?_)
      refine(RRight_G _ g hs).mono ?_;rintro e w1 ⟨U0,rfl⟩;have B2:=zz U0;have z2:=B2.out.size;have j1:=zz (B0.out.trans (B2.out.mono B0.out.size));clear U0;rw[decide_eq_true HO.out];have g0:=CB.step Lg B2.out;have W0:w1.cell? ⟨w.heap.size,8,none⟩=some (.int .i64 g.lo):=g0.cell 8 rfl;have X0:w1.cell? ⟨w.heap.size,9,none⟩=some (.int .i64 g.hi):=g0.cell 9 rfl;go_upto_region 4 with (fail)
      clear W0 X0;have d0:=CB.step Lr4 B2.out;have Y0:=d0.cell 0 rfl;have Z0:=d0.cell 1 rfl;have a1:=d0.cell 2 rfl;have b1:=d0.cell 3 rfl;have t1:=d0.lt;have c1:=d0.frozen 0;have d1:=d0.frozen 1;have e1:=d0.frozen 2;have f1:=d0.frozen 3;have u1:=d0.lt;go_wp2;clear Y0 Z0 a1 b1 t1 c1 d1 e1 f1 u1;exact QB.fin (r:=(none,2)) rfl d0 (by simp[noInt_b,noInt_s]) j1.out (by omega) (zeroQ _ _) rfl rfl
    · replace HT:=zz (show t=(none,2) by have he:erG g L=2:=(by rw[erG,if_pos HO.out,if_pos (by omega)]);rw[HT.out,sqR,he];rfl);rw[HT.out]
      first
        | have k0:decide (L<g.lo)=true:=by rw[decide_eq_true_eq];omega
        | have k0:decide (L<g.lo)=false:=by rw[decide_eq_false_iff_not];omega
      first
        | have k1:decide (g.hi<L)=true:=by rw[decide_eq_true_eq];omega
        | have k1:decide (g.hi<L)=false:=by rw[decide_eq_false_iff_not];omega
        | skip
      clear h;go_enter Tryz.func18,Tryz.ntmps18
      go_upto_region 1 with (fail)
      rw[← hw0];clear hw0;go_wp2_with (refine wpList_load_row rfl _ _ rfl _ rfl _ _ (0,0) _ Lg rfl rfl rfl ?_)
      refine(RRight_G _ g hs).mono ?_;rintro e w9 ⟨V0,rfl⟩;have B10:=zz V0;have z10:=B10.out.size;have g1:=zz (B0.out.trans (B10.out.mono B0.out.size));clear V0;rw[decide_eq_true HO.out];have f0:=CB.step Lg B10.out;have n0:w9.cell? ⟨w.heap.size,8,none⟩=some (.int .i64 g.lo):=f0.cell 8 rfl;have o0:w9.cell? ⟨w.heap.size,9,none⟩=some (.int .i64 g.hi):=f0.cell 9 rfl;go_upto_region 4 with (fail)
      clear n0 o0;have a0:=CB.step Lr4 B10.out;have p0:=a0.cell 0 rfl;have q0:=a0.cell 1 rfl;have r0:=a0.cell 2 rfl;have s0:=a0.cell 3 rfl;have n1:=a0.lt;have t0:=a0.frozen 0;have u0:=a0.frozen 1;have v0:=a0.frozen 2;have x0:=a0.frozen 3;have o1:=a0.lt;go_wp2;clear p0 q0 r0 s0 n1 t0 u0 v0 x0 o1;exact QB.fin (r:=(none,2)) rfl a0 (by simp[noInt_b,noInt_s]) g1.out (by omega) (zeroQ _ _) rfl rfl
    · have he:erG g L=0:=by rw[erG,if_pos HO.out,if_neg (by omega)]
      have HL:=zz (erG_ok he);replace HT:=zz (show t=(some (sqG g L),0) by rw[HT.out,sqR,if_pos he]);clear he;rw[HT.out]
      first
        | have k0:decide (L<g.lo)=true:=by rw[decide_eq_true_eq];omega
        | have k0:decide (L<g.lo)=false:=by rw[decide_eq_false_iff_not];omega
      first
        | have k1:decide (g.hi<L)=true:=by rw[decide_eq_true_eq];omega
        | have k1:decide (g.hi<L)=false:=by rw[decide_eq_false_iff_not];omega
        | skip
      clear h;go_enter Tryz.func18,Tryz.ntmps18
      go_upto_region 1 with (fail)
      rw[← hw0];clear hw0;go_wp2_with (refine wpList_load_row rfl _ _ rfl _ rfl _ _ (0,0) _ Lg rfl rfl rfl ?_)
      refine(RRight_G _ g hs).mono ?_;rintro e w17 ⟨h0,rfl⟩;have B18:=zz h0;have z18:=B18.out.size;have i0:=zz (B0.out.trans (B18.out.mono B0.out.size));clear h0;rw[decide_eq_true HO.out];have e0:=CB.step Lg B18.out;have y0:w17.cell? ⟨w.heap.size,8,none⟩=some (.int .i64 g.lo):=e0.cell 8 rfl;have A0:w17.cell? ⟨w.heap.size,9,none⟩=some (.int .i64 g.hi):=e0.cell 9 rfl;go_upto_region 5 with (fail)
      clear y0 A0;go_wp2_with (refine wpList_load_row rfl _ _ rfl _ rfl _ _ (0,0) _ e0 rfl rfl rfl ?_)
      refine(rsquare_any _ g L HL.out).mono ?_;rintro e w22 ⟨j0,v,rfl,hv⟩;have B23:=zz j0;have z23:=B23.out.size;have h1:=zz (i0.out.trans (B23.out.mono i0.out.size));clear j0;obtain⟨v1,x1,y1,z1,A1,C0,B1,rfl,ha25,l0,hc25⟩:=hv;have D0:=zz (show QV w22 w22.heap.size (.agg #[.bool v1,.slice x1 y1 z1,.bool false,.slice A1 C0 B1]) (sqG g L) from⟨_,_,_,_,_,_,_,rfl,ha25,l0,hc25⟩);clear ha25 l0 hc25;have P1_3_27:=zz (B18.out.trans (B23.out.mono B18.out.size));have b0:=CB.step Lr4 P1_3_27.out;have E0:=b0.cell 0 rfl;have F0:=b0.cell 1 rfl;have G0:=b0.cell 2 rfl;have H0:=b0.cell 3 rfl;have p1:=b0.lt;have I0:=b0.frozen 0;have J0:=b0.frozen 1;have K0:=b0.frozen 2;have L0:=b0.frozen 3;have q1:=b0.lt;go_wp2;clear E0 F0 G0 H0 p1 I0 J0 K0 L0 q1;exact QB.fin (r:=(some (sqG g L),0)) rfl b0 (by simp[noInt_b,noInt_s]) h1.out (by omega) D0.out rfl rfl
  · replace HT:=zz (show t=(none,90) by have he:erG g L=90:=(if_neg ho);rw[HT.out,sqR,he];rfl);have HO:=zz ho;clear ho;rw[HT.out]
    go_enter Tryz.func18,Tryz.ntmps18
    go_upto_region 1 with (fail)
    rw[← hw0];clear hw0;go_wp2_with (refine wpList_load_row rfl _ _ rfl _ rfl _ _ (0,0) _ Lg rfl rfl rfl ?_)
    refine(RRight_G _ g hs).mono ?_;rintro e w30 ⟨m0,rfl⟩;have B31:=zz m0;have z31:=B31.out.size;have i1:=zz (B0.out.trans (B31.out.mono B0.out.size));clear m0;rw[decide_eq_false HO.out];go_upto_region 2 with (fail)
    have c0:=CB.step Lr4 B31.out;have M0:=c0.cell 0 rfl;have N0:=c0.cell 1 rfl;have O0:=c0.cell 2 rfl;have P0:=c0.cell 3 rfl;have r1:=c0.lt;have Q0:=c0.frozen 0;have R0:=c0.frozen 1;have S0:=c0.frozen 2;have T0:=c0.frozen 3;have s1:=c0.lt;go_wp2;clear M0 N0 O0 P0 r1 Q0 R0 S0 T0 s1;exact QB.fin (r:=(none,90)) rfl c0 (by simp[noInt_b,noInt_s]) i1.out (by omega) (zeroQ _ _) rfl rfl
end Go.Proofs.YtkhljkiehohckaaGreatDoor
