/- The law LinearExact, walked (written by gen_exact.py). -/
import Derived.Test.YtbpigdhidopiiaaGreatDoorWc
import Derived.Test.YtbpigdhidopiiaaGreatDoorWhk
import Derived.Test.YtbpigdhidopiiaaGreatDoorLopq
namespace Go.Proofs.YtbpigdhidopiiaaGreatDoor
open Go Go.RowKit Dig
set_option maxRecDepth 100000
set_option maxHeartbeats 4000000
set_option linter.unusedSimpArgs false
theorem DV.cut {w:World} {B:Nat} {r c y:Int} {N D:List Int} {s t:Value} (h:DV w B (.agg #[.int .u8 r,.int .u8 c,s,t]) r c N D) (hy:0≤y∧y≤255):DV w B (.agg #[.int .u8 y,.int .u8 y,s,t]) y y N D:=by
 obtain⟨A,ca,A',cd,e,h0,h1,h2⟩:=h;injection e with e
 simp at e
 obtain⟨rfl,rfl⟩:=e;exact⟨A,ca,A',cd,rfl,⟨hy.1,hy.2,hy.1,hy.2⟩,h1,h2⟩
theorem LinearExact_any (w:World) (_G:Glob w) (M:MaxL w) (v:Value) (r c:Int) (N D:List Int) (h:DV w w.heap.size v r c N D) (t:Int) (ht0:0≤t) (ht1:t≤255) :
  Calls Tryz.prog 7 #[v,.int .u8 t] w fun e w'=>Below w.heap.size w w'∧e=.returned (.bool true):=by
 have ht:0≤t∧t≤255:=⟨ht0,ht1⟩;clear ht0 ht1;obtain⟨A,ca,A',cd,rfl,h0,hN,hD⟩:=h;obtain⟨y,hy⟩:∃ y,r % 4=y:=⟨_,rfl⟩;have hy4:0≤y∧y<4:=by omega
 obtain⟨n,hn⟩:∃ n:Nat,1+y.toNat=n:=⟨_,rfl⟩;have hn4:1≤n∧n≤4:=by omega
 have m2:=zz (show matD y y N D=rowsD N D n n by unfold matD;rw[show 1+(y % 4).toNat=n by omega,show 1+(y % 6).toNat=n by omega]);have hyt:Int.tmod r 4=y:=by rw[← hy];exact Int.tmod_eq_emod_of_nonneg h0.1
 have f2:=zz (DV.cut (y:=y) ⟨A,ca,A',cd,rfl,h0,hN,hD⟩ (by omega));clear hN hD;have hwy:IntKind.u8.wrap y=y:=by unfold IntKind.wrap;simp only[IntKind.bits,IntKind.signed];simp;omega
 have K1:=zz hn4;have HM:=zz M;clear hy hn M hn4;obtain⟨w0,hw0⟩:∃ w0:World,w0=(w.alloc (.cells #[.int .u8 r,.int .u8 c,.slice A N.length ca,.slice A' D.length cd] 34)):=⟨_,rfl⟩;have B0:=zz (n1_b hw0);have z0:=n1_z hw0;have Ld:=n1_0 hw0;go_enter Tryz.func7,Tryz.ntmps7
 go_upto_region 1 with (fail)
 rw[← hw0];clear hw0;go_wp2_with fail
 refine(works35 _ (HM.out.step B0.out)).mono ?_;rintro e w1 ⟨V0,rfl⟩;have B2:=zz V0;have z2:=B2.out.size;have y1:=tr B0 B2;clear V0;have a0:=CB.step Ld B2.out;have W0:=a0.cell 0 rfl;have X0:=a0.cell 1 rfl;have Y0:=a0.cell 2 rfl;have Z0:=a0.cell 3 rfl;have a2:=a0.lt;have a1:=a0.frozen 0;have b1:=a0.frozen 1;have d1:=a0.frozen 2;have e1:=a0.frozen 3;have b2:=a0.lt;go_upto_region 4 with (fail)
 clear W0 X0 Y0 Z0 a2 a1 b1 d1 e1 b2;obtain⟨w7,l0⟩:∃ w7:World,w7=w1.setCell ⟨w.heap.size,1,none⟩ (.int .u8 y):=⟨_,rfl⟩;rw[← l0];have b0:CB w7 (w.heap.size) 34 #[.int .u8 r,.int .u8 y,.slice A N.length ca,.slice A' D.length cd]:=by rw[l0];exact(CB.set a0 1 (.int .u8 y))
 have f1:=zz (p1_b l0 y1.out (by omega));have H1:=p1_z l0;clear l0;have g1:=b0.cell 0 rfl;have i1:=b0.cell 1 rfl;have j1:=b0.cell 2 rfl;have k1:=b0.cell 3 rfl;have d2:=b0.lt;have l1:=b0.frozen 0;have m1:=b0.frozen 1;have n1:=b0.frozen 2;have o1:=b0.frozen 3;have e2:=b0.lt;go_upto_region 5 with (fail)
 clear g1 i1 j1 k1 d2 l1 m1 n1 o1 e2;obtain⟨w10,g0⟩:∃ w10:World,w10=w7.setCell ⟨w.heap.size,0,none⟩ (.int .u8 y):=⟨_,rfl⟩;rw[← g0];have d0:CB w10 (w.heap.size) 34 #[.int .u8 y,.int .u8 y,.slice A N.length ca,.slice A' D.length cd]:=by rw[g0];exact(CB.set b0 0 (.int .u8 y))
 have n0:=zz (p1_b g0 f1.out (by omega));have C1:=p1_z g0;clear g0;clear hyt hwy;have I0:=d0.cell 0 rfl;have J0:=d0.cell 1 rfl;have K0:=d0.cell 2 rfl;have L0:=d0.cell 3 rfl;have S1:=d0.lt;go_wp2_with fail
 refine(rmatrix_any _ _ y y N D (f2.out.step n0.out)).mono ?_;rintro e w11 ⟨q0,v,rfl,hv⟩;have B13:=zz q0;have z13:=B13.out.size;have r0:=tr n0 B13;clear q0;clear I0 J0 K0 L0 S1;rw[m2.out] at hv;obtain⟨A1,c1,rfl,h1⟩:=VM.open (n:=n) (show VM _ _ v (rowsD N D n n) from hv) (rowsD_len _ _ _ _);obtain⟨ga,oa,rfl,-⟩:=SL.addr h1.rat (by rw[List.length_map,rowsD_len];have:=K1.out;omega);have HA:=zz h1;clear hv h1;have c0:=CB.step d0 B13.out;have M0:=c0.cell 0 rfl;have N0:=c0.cell 1 rfl;have O0:=c0.cell 2 rfl;have P0:=c0.cell 3 rfl;have T1:=c0.lt;go_wp2_with fail
 refine(rdlist_any _ _ y y N D n 11 (f2.out.step r0.out) (by have:=K1.out;omega) (by decide)).mono ?_;rintro e w15 ⟨s0,v,rfl,hv⟩;have B18:=zz s0;have z18:=B18.out.size;have p1:=tr r0 B18;clear s0;clear M0 N0 O0 P0 T1;obtain⟨B1,c2,rfl,h1⟩:=VL.open (n:=n) (show VL _ _ v (listD N D 11 n) from hv) (listD_len _ _ _ _);obtain⟨gb,ob,rfl,-⟩:=SL.addr h1.rat (by rw[List.length_map,listD_len];have:=K1.out;omega);have HB:=zz h1;clear hv h1;go_wp2_with fail
 have i0:=zz (VM.step HA.out B18.out);refine(LSolve_any _ _ _ _ _ _ _ _ _ i0.out.rat HB.out.rat).mono ?_;rintro e w20 ⟨u0,hr⟩;have B22:=zz u0;have z22:=B22.out.size;have m0:=tr p1 B22;clear u0;obtain⟨k,hk⟩:∃ k:Nat,(t % (n:Int)).toNat=k:=⟨_,rfl⟩;have hkn:k<n:=by have h1:=K1.out;have h2:=Int.emod_lt_of_pos t (show(0:Int)<(n:Int) by omega);have h3:=Int.emod_nonneg t (show(n:Int)≠0 by omega);omega
 have htk:Int.tmod t (n:Int)=(k:Int):=by rw[Int.tmod_eq_emod_of_nonneg ht.1,← hk];have h1:=K1.out;have h3:=Int.emod_nonneg t (show(n:Int)≠0 by omega);omega
 have hun:((n:Int)=0)=False:=by have:=K1.out;simp;omega
 have hnn:(n=0)=False:=by have:=K1.out;simp;omega
 have hwt:IntKind.i64.wrap t=t:=by unfold IntKind.wrap;simp only[IntKind.bits,IntKind.signed];simp;omega
 clear hk;have P1:=zz hkn;have g2:=zz (And.intro htk (And.intro hun (And.intro hnn hwt)));clear htk hun hnn hwt hkn;have i2:=zz (exact_rot (N:=N) (D:=D) (f:=11) K1.out.1 K1.out.2 P1.out);cases hq:solveQ (rowsD N D n n) (listD N D 11 n)
 case none=>
  have HQ:=zz hq;clear hq;have Q1:=zz (exact_none K1.out.1 K1.out.2 HQ.out);obtain rfl:=ret_err hr Q1.out;clear hr;obtain⟨htk,hun,hnn,hwt⟩:=g2.out;have hkn:=P1.out;go_upto_region 11 with (fail)
  clear htk hun hnn hwt;obtain⟨il,hil,hzl,hsl,hbl⟩:=info_parts info_qlist;obtain⟨iq,hiq,hzq,hsq,hbq⟩:=info_parts info_quot;have Q0:=zz (VM.step i0.out B22.out);have R0:=zz (VL.step HB.out B22.out);obtain⟨hs,hsl0,hhd,hrw⟩:=QM.heads Q0.out.rat;rw[List.length_map,rowsD_len] at hsl0;have N1:=zz hhd;have V1:=zz hrw;have L1:=zz hsl0;clear hhd hrw hsl0;have O1:=zz R0.out.rat;have M1:=zz (show((listD N D 11 n).map qx).length=n by rw[List.length_map,listD_len]);obtain⟨-,hnc1,hnc2⟩:=SL.len N1.out;obtain⟨-,hmc1,hmc2⟩:=SL.len O1.out;have hkn:=P1.out;have hn4:=K1.out;have z1:(0:Int)≤(k:Int):=by omega
  have hka:(k:Int)≤(n:Int):=by omega
  have hna:(n:Int)≤(c1:Int):=by omega
  have hnb:(n:Int)≤(c2:Int):=by omega
  have hkc:(k:Int)≤(c1:Int):=by omega
  have hkd:(k:Int)≤(c2:Int):=by omega
  have hck:(c1=k)=False:=by simp;omega
  have hdk:(c2=k)=False:=by simp;omega
  have hne1:(n:Int)-(k:Int)=((n-k:Nat):Int):=by omega
  have hne2:(c1:Int)-(k:Int)=((c1-k:Nat):Int):=by omega
  have hne3:(c2:Int)-(k:Int)=((c2-k:Nat):Int):=by omega
  have P5_7_27:=tr B18 B22;have e0:=CB.step c0 P5_7_27.out;have I1:∀ w':World,Below w20.heap.size w20 w'→(Below w20.heap.size w20 w'∧w'.cell? ⟨w.heap.size,0,none⟩=some (.int .u8 y)∧w'.cell? ⟨w.heap.size,1,none⟩=some (.int .u8 y)∧w'.cell? ⟨w.heap.size,2,none⟩=some (.slice A N.length ca)∧w'.cell? ⟨w.heap.size,3,none⟩=some (.slice A' D.length cd)):=fun w' h=>⟨h,(CB.step e0 h).cell 0 rfl,(CB.step e0 h).cell 1 rfl,(CB.step e0 h).cell 2 rfl,(CB.step e0 h).cell 3 rfl⟩
  refine Early.start 21 (fun w'=>Below w20.heap.size w20 w'∧w'.cell? ⟨w.heap.size,0,none⟩=some (.int .u8 y)∧w'.cell? ⟨w.heap.size,1,none⟩=some (.int .u8 y)∧w'.cell? ⟨w.heap.size,2,none⟩=some (.slice A N.length ca)∧w'.cell? ⟨w.heap.size,3,none⟩=some (.slice A' D.length cd)) (by kernel_rfl) ?_;refine Early.take (i:=0) (.slice (some ⟨ga,oa,none⟩) n c1) rfl (by kernel_rfl) (by kernel_rfl) (by kernel_rfl) (by kernel_rfl) (by kernel_rfl) (fun _ _ _ h=>h) (Or.inl ⟨by rfl,?_⟩) ?_ ?_
  ·intro w' hSw;obtain⟨-,t0,t1,t2,t3⟩:=hSw;go_simp
  ·exact I1 _ (below_drew1 (Below.refl _ _))
  (try simp only[PT])
  refine Early.take (i:=1) (.int .i64 (k:Int)) rfl (by kernel_rfl) (by kernel_rfl) (by kernel_rfl) (by kernel_rfl) (by kernel_rfl) (fun _ _ _ h=>h) (Or.inl ⟨by rfl,?_⟩) ?_ ?_
  ·intro w' hSw;obtain⟨-,t0,t1,t2,t3⟩:=hSw;go_simp
  ·exact I1 _ (below_drew1 (Below.refl _ _))
  (try simp only[PT])
  refine Early.take (i:=2) (.slice (some ⟨ga,oa+k,none⟩) (n-k) (c1-k)) rfl (by kernel_rfl) (by kernel_rfl) (by kernel_rfl) (by kernel_rfl) (by kernel_rfl) (fun _ _ _ h=>h) (Or.inl ⟨by rfl,?_⟩) ?_ ?_
  ·intro w' hSw;obtain⟨-,t0,t1,t2,t3⟩:=hSw;go_simp
  ·exact I1 _ (below_drew1 (Below.refl _ _))
  (try simp only[PT])
  refine Early.take (i:=4) (.slice (some ⟨ga,oa,none⟩) n c1) rfl (by kernel_rfl) (by kernel_rfl) (by kernel_rfl) (by kernel_rfl) (by kernel_rfl) (fun _ _ _ h=>h) (Or.inl ⟨by rfl,?_⟩) ?_ ?_
  ·intro w' hSw;obtain⟨-,t0,t1,t2,t3⟩:=hSw;go_simp
  ·exact I1 _ (below_drew1 (Below.refl _ _))
  (try simp only[PT])
  refine Early.take (i:=5) (.int .i64 (k:Int)) rfl (by kernel_rfl) (by kernel_rfl) (by kernel_rfl) (by kernel_rfl) (by kernel_rfl) (fun _ _ _ h=>h) (Or.inl ⟨by rfl,?_⟩) ?_ ?_
  ·intro w' hSw;obtain⟨-,t0,t1,t2,t3⟩:=hSw;go_simp
  ·exact I1 _ (below_drew1 (Below.refl _ _))
  (try simp only[PT])
  refine Early.take (i:=6) (.slice (some ⟨ga,oa,none⟩) k c1) rfl (by kernel_rfl) (by kernel_rfl) (by kernel_rfl) (by kernel_rfl) (by kernel_rfl) (fun _ _ _ h=>h) (Or.inl ⟨by rfl,?_⟩) ?_ ?_
  ·intro w' hSw;obtain⟨-,t0,t1,t2,t3⟩:=hSw;go_simp
  ·exact I1 _ (below_drew1 (Below.refl _ _))
  (try simp only[PT])
  refine Early.take (i:=8) (.slice (some ⟨gb,ob,none⟩) n c2) rfl (by kernel_rfl) (by kernel_rfl) (by kernel_rfl) (by kernel_rfl) (by kernel_rfl) (fun _ _ _ h=>h) (Or.inl ⟨by rfl,?_⟩) ?_ ?_
  ·intro w' hSw;obtain⟨-,t0,t1,t2,t3⟩:=hSw;go_simp
  ·exact I1 _ (below_drew1 (Below.refl _ _))
  (try simp only[PT])
  refine Early.take (i:=9) (.int .i64 (k:Int)) rfl (by kernel_rfl) (by kernel_rfl) (by kernel_rfl) (by kernel_rfl) (by kernel_rfl) (fun _ _ _ h=>h) (Or.inl ⟨by rfl,?_⟩) ?_ ?_
  ·intro w' hSw;obtain⟨-,t0,t1,t2,t3⟩:=hSw;go_simp
  ·exact I1 _ (below_drew1 (Below.refl _ _))
  (try simp only[PT])
  refine Early.take (i:=10) (.slice (some ⟨gb,ob+k*4,none⟩) (n-k) (c2-k)) rfl (by kernel_rfl) (by kernel_rfl) (by kernel_rfl) (by kernel_rfl) (by kernel_rfl) (fun _ _ _ h=>h) (Or.inl ⟨by rfl,?_⟩) ?_ ?_
  ·intro w' hSw;obtain⟨-,t0,t1,t2,t3⟩:=hSw;go_simp
  ·exact I1 _ (below_drew1 (Below.refl _ _))
  (try simp only[PT])
  refine Early.take (i:=12) (.slice (some ⟨gb,ob,none⟩) n c2) rfl (by kernel_rfl) (by kernel_rfl) (by kernel_rfl) (by kernel_rfl) (by kernel_rfl) (fun _ _ _ h=>h) (Or.inl ⟨by rfl,?_⟩) ?_ ?_
  ·intro w' hSw;obtain⟨-,t0,t1,t2,t3⟩:=hSw;go_simp
  ·exact I1 _ (below_drew1 (Below.refl _ _))
  (try simp only[PT])
  refine Early.take (i:=13) (.int .i64 (k:Int)) rfl (by kernel_rfl) (by kernel_rfl) (by kernel_rfl) (by kernel_rfl) (by kernel_rfl) (fun _ _ _ h=>h) (Or.inl ⟨by rfl,?_⟩) ?_ ?_
  ·intro w' hSw;obtain⟨-,t0,t1,t2,t3⟩:=hSw;go_simp
  ·exact I1 _ (below_drew1 (Below.refl _ _))
  (try simp only[PT])
  refine Early.take (i:=14) (.slice (some ⟨gb,ob,none⟩) k c2) rfl (by kernel_rfl) (by kernel_rfl) (by kernel_rfl) (by kernel_rfl) (by kernel_rfl) (fun _ _ _ h=>h) (Or.inl ⟨by rfl,?_⟩) ?_ ?_
  ·intro w' hSw;obtain⟨-,t0,t1,t2,t3⟩:=hSw;go_simp
  ·exact I1 _ (below_drew1 (Below.refl _ _))
  (try simp only[PT])
  refine Early.next (i:=3) (by kernel_rfl) rfl (fun K hK=>?_);go_simp;(with_reducible refine(cloneH_any _ _ _ _ (hs.drop k) ((show SL 1 EH _ _ _ _ from by have:=SL.drop N1.out (j:=k) (by rw[L1.out];omega);rwa [Nat.mul_one] at this).step EH.stable (below_drew1 (Below.refl _ _))) (by rw[List.length_drop,L1.out];omega) (by rw[List.length_drop,L1.out];omega)).mono ?_)
  rintro e w29 ⟨j0,vc,rfl,hoc⟩;replace j0:Below w20.heap.size w20 w29:=below_undrew j0;have B30:=zz j0;have z30:=B30.out.size;have D1:=tr m0 B30;clear j0;refine hK _ _ (fun _=>I1 _ B30.out) ?_;clear hK K;(try simp only[PT])
  have W1:=zz hoc;clear hoc;refine Early.next (i:=7) (by kernel_rfl) rfl (fun K hK=>?_);rw[if_pos (show Region.wanted _ _=true from rfl)];refine wp_append_sl _ _ _ rfl w20.heap.size 23 il _ 24 Tryz.underlying22 hil hzl hsl hbl rfl (by decide) (by decide) EH.stable EH.soft EH.ones W1.out (by rw[List.length_drop,L1.out];omega) rfl (SL.step (SL.take N1.out (n:=k) (by rw[L1.out];omega)) EH.stable B30.out) rfl (by rw[List.length_drop,List.length_take,L1.out];omega) (by decide) B30.out.size ?_;intro v32 w32 hoa32 hba32;have P32:=zz (B30.out.trans (hba32.mono (Nat.le_refl _)));refine hK _ _ (fun _=>I1 _ P32.out) ?_;clear hK K;(try simp only[PT])
  have v0:=tr m0 P32;have zp32:=P32.out.size;have hqm:QM w32 w32.heap.size v32 (rotQ k ((rowsD N D n n).map (List.map qx))):=QM.of (B':=w20.heap.size) hoa32 (by show(rotQ k hs).length=_;rw[rotQ_len (by rw[L1.out];omega),L1.out,rotQ_len (by rw[List.length_map,rowsD_len];omega),List.length_map,rowsD_len]) (fun i h1 h2=>(rot_rows (by rw[L1.out,List.length_map,rowsD_len]) V1.out i h1 h2).below EQ.stable P32.out) P32.out.size;rw[← rotQ_map] at hqm;obtain⟨A32,c32,rfl,h32⟩:=VM.open (n:=n) (show VM _ _ v32 (rotQ k (rowsD N D n n)) from hqm) (by rw[rotQ_len (by rw[rowsD_len];omega),rowsD_len]);have X1:=zz h32;clear hqm h32 hoa32 hba32;refine Early.next (i:=11) (by kernel_rfl) rfl (fun K hK=>?_);go_simp;(with_reducible refine(cloneQ_any _ _ _ _ (((listD N D 11 n).map qx).drop k) ((SL.drop O1.out (j:=k) (by rw[M1.out];omega)).step EQ.stable P32.out) (by rw[List.length_drop,M1.out];omega) (by rw[List.length_drop,M1.out];omega)).mono ?_)
  rintro e w33 ⟨x0,vd,rfl,hod⟩;have B34:=zz x0;have z34:=B34.out.size;have E1:=tr v0 B34;clear x0;have P7_10_36:=tr P32 B34;refine hK _ _ (fun _=>I1 _ P7_10_36.out) ?_;clear hK K;(try simp only[PT])
  have Y1:=zz hod;clear hod;refine Early.next (i:=15) (by kernel_rfl) rfl (fun K hK=>?_);rw[if_pos (show Region.wanted _ _=true from rfl)];refine wp_append_sl _ _ _ rfl w32.heap.size 28 iq _ 64 Tryz.underlying23 hiq hzq hsq hbq rfl (by decide) (by decide) EQ.stable EQ.soft EQ.ones Y1.out (by rw[List.length_drop,M1.out];omega) rfl (SL.step (SL.take O1.out (n:=k) (by rw[M1.out];omega)) EQ.stable P7_10_36.out) rfl (by rw[List.length_drop,List.length_take,M1.out];omega) (by decide) B34.out.size ?_;intro v37 w37 hoa37 hba37;have P37:=zz (B34.out.trans (hba37.mono (Nat.le_refl _)));have P37':=tr P32 P37;refine hK _ _ (fun _=>I1 _ P37'.out) ?_;clear hK K;(try simp only[PT])
  have q1:=tr v0 P37;have zp37:=P37.out.size;have hqs:QS w37 w37.heap.size v37 (rotQ k ((listD N D 11 n).map qx)):=hoa37.sl;rw[← rotQ_map] at hqs;obtain⟨A37,c37,rfl,h37⟩:=VL.open (n:=n) (show VL _ _ v37 (rotQ k (listD N D 11 n)) from hqs) (by rw[rotQ_len (by rw[listD_len];omega),listD_len]);have Z1:=zz h37;have R1:=zz (X1.out.step P37.out);clear hqs h37 hoa37 hba37;refine Early.next (i:=16) (by kernel_rfl) rfl (fun K hK=>?_);go_simp;(with_reducible refine(((LSolve_any _ _ _ _ _ _ _ _ _ R1.out.rat Z1.out.rat).mono fun e w' h=>And.intro h.1 (ret_err h.2 (i2.out.trans Q1.out)))).mono ?_)
  rintro e w38 ⟨y0,rfl⟩;have B39:=zz y0;have z39:=B39.out.size;have r1:=tr q1 B39;clear y0;have P7_12_41:=zz (P37'.out.trans (B39.out.mono P37'.out.size));refine hK _ _ (fun _=>I1 _ P7_12_41.out) ?_;clear hK K;(try simp only[PT])
  refine Early.take (i:=17) (.tuple #[.slice none 0 0,.int .i64 7]) rfl (by kernel_rfl) (by kernel_rfl) (by kernel_rfl) (by kernel_rfl) (by kernel_rfl) (fun _ _ _ h=>h) (Or.inl ⟨by rfl,?_⟩) ?_ ?_
  ·intro w' hSw;obtain⟨-,t0,t1,t2,t3⟩:=hSw;go_simp
  ·exact I1 _ (P7_12_41.out)
  (try simp only[PT])
  refine Early.take (i:=18) (.slice none 0 0) rfl (by kernel_rfl) (by kernel_rfl) (by kernel_rfl) (by kernel_rfl) (by kernel_rfl) (fun _ _ _ h=>h) (Or.inl ⟨by rfl,?_⟩) ?_ ?_
  ·intro w' hSw;obtain⟨-,t0,t1,t2,t3⟩:=hSw;go_simp
  ·exact I1 _ (P7_12_41.out)
  (try simp only[PT])
  refine Early.take (i:=19) (.int .i64 7) rfl (by kernel_rfl) (by kernel_rfl) (by kernel_rfl) (by kernel_rfl) (by kernel_rfl) (fun _ _ _ h=>h) (Or.inl ⟨by rfl,?_⟩) ?_ ?_
  ·intro w' hSw;obtain⟨-,t0,t1,t2,t3⟩:=hSw;go_simp
  ·exact I1 _ (P7_12_41.out)
  (try simp only[PT])
  refine Early.next (i:=20) (by kernel_rfl) rfl (fun K hK=>?_);go_simp;refine hK _ _ (fun _=>I1 _ (P7_12_41.out)) ?_;clear hK K;(try simp only[PT])
  refine Early.next (i:=21) (by kernel_rfl) rfl (fun K hK=>?_);go_simp;refine hK _ _ (fun h=>absurd h (by decide)) ?_;clear hK K;(try simp only[PT])
  refine Early.done (by kernel_rfl) ?_ _;(try simp only[Exit.then])
  clear I1;go_wp2_with fail
  refine(alike_any _ _ _ _ _ _ _ [] [] 7 7 (SL.nil _ _ _ _) (SL.nil _ _ _ _)).mono ?_;rintro e w42 ⟨A0,rfl⟩;have B43:=zz A0;have z43:=B43.out.size;have s1:=tr r1 B43;clear A0;go_wp2;go_ret;exact⟨s1.out,by simp⟩
 case some x=>
  have HQ:=zz hq;clear hq;have Q1:=zz (exact_some K1.out.1 K1.out.2 HQ.out);have j2:=zz (exact_fit K1.out.1 K1.out.2 HQ.out).1;have n2:=zz (exact_holds K1.out.1 K1.out.2 HQ.out);obtain⟨A8,c8,rfl,h8⟩:=ret_list (n:=n) hr Q1.out j2.out;have k2:=zz h8;clear h8 hr;go_wp2_with fail
  have o0:=zz (VM.step i0.out B22.out);have p0:=zz (VL.step HB.out B22.out);refine(holds_any _ _ _ _ _ _ _ _ _ _ (rowsD N D n n) x (listD N D 11 n) o0.out k2.out p0.out n2.out).mono ?_;rintro e w45 ⟨C0,rfl⟩;have B48:=zz C0;have z48:=B48.out.size;have D0:=tr m0 B48;clear C0;obtain⟨htk,hun,hnn,hwt⟩:=g2.out;have hkn:=P1.out;go_upto_region 11 with (fail)
  clear htk hun hnn hwt;have S0:=zz (VL.step k2.out B48.out);obtain⟨il,hil,hzl,hsl,hbl⟩:=info_parts info_qlist;obtain⟨iq,hiq,hzq,hsq,hbq⟩:=info_parts info_quot;have T0:=zz (VM.step o0.out B48.out);have U0:=zz (VL.step p0.out B48.out);obtain⟨hs,hsl0,hhd,hrw⟩:=QM.heads T0.out.rat;rw[List.length_map,rowsD_len] at hsl0;have N1:=zz hhd;have V1:=zz hrw;have L1:=zz hsl0;clear hhd hrw hsl0;have O1:=zz U0.out.rat;have M1:=zz (show((listD N D 11 n).map qx).length=n by rw[List.length_map,listD_len]);obtain⟨-,hnc1,hnc2⟩:=SL.len N1.out;obtain⟨-,hmc1,hmc2⟩:=SL.len O1.out;have hkn:=P1.out;have hn4:=K1.out;have z1:(0:Int)≤(k:Int):=by omega
  have hka:(k:Int)≤(n:Int):=by omega
  have hna:(n:Int)≤(c1:Int):=by omega
  have hnb:(n:Int)≤(c2:Int):=by omega
  have hkc:(k:Int)≤(c1:Int):=by omega
  have hkd:(k:Int)≤(c2:Int):=by omega
  have hck:(c1=k)=False:=by simp;omega
  have hdk:(c2=k)=False:=by simp;omega
  have hne1:(n:Int)-(k:Int)=((n-k:Nat):Int):=by omega
  have hne2:(c1:Int)-(k:Int)=((c1-k:Nat):Int):=by omega
  have hne3:(c2:Int)-(k:Int)=((c2-k:Nat):Int):=by omega
  have P5_7_54:=tr B18 B22;have P5_8_55:=tr P5_7_54 B48;have f0:=CB.step c0 P5_8_55.out;have J1:∀ w':World,Below w45.heap.size w45 w'→(Below w45.heap.size w45 w'∧w'.cell? ⟨w.heap.size,0,none⟩=some (.int .u8 y)∧w'.cell? ⟨w.heap.size,1,none⟩=some (.int .u8 y)∧w'.cell? ⟨w.heap.size,2,none⟩=some (.slice A N.length ca)∧w'.cell? ⟨w.heap.size,3,none⟩=some (.slice A' D.length cd)):=fun w' h=>⟨h,(CB.step f0 h).cell 0 rfl,(CB.step f0 h).cell 1 rfl,(CB.step f0 h).cell 2 rfl,(CB.step f0 h).cell 3 rfl⟩
  refine Early.start 21 (fun w'=>Below w45.heap.size w45 w'∧w'.cell? ⟨w.heap.size,0,none⟩=some (.int .u8 y)∧w'.cell? ⟨w.heap.size,1,none⟩=some (.int .u8 y)∧w'.cell? ⟨w.heap.size,2,none⟩=some (.slice A N.length ca)∧w'.cell? ⟨w.heap.size,3,none⟩=some (.slice A' D.length cd)) (by kernel_rfl) ?_;refine Early.take (i:=0) (.slice (some ⟨ga,oa,none⟩) n c1) rfl (by kernel_rfl) (by kernel_rfl) (by kernel_rfl) (by kernel_rfl) (by kernel_rfl) (fun _ _ _ h=>h) (Or.inl ⟨by rfl,?_⟩) ?_ ?_
  ·intro w' hSw;obtain⟨-,t0,t1,t2,t3⟩:=hSw;go_simp
  ·exact J1 _ (below_drew1 (Below.refl _ _))
  (try simp only[PT])
  refine Early.take (i:=1) (.int .i64 (k:Int)) rfl (by kernel_rfl) (by kernel_rfl) (by kernel_rfl) (by kernel_rfl) (by kernel_rfl) (fun _ _ _ h=>h) (Or.inl ⟨by rfl,?_⟩) ?_ ?_
  ·intro w' hSw;obtain⟨-,t0,t1,t2,t3⟩:=hSw;go_simp
  ·exact J1 _ (below_drew1 (Below.refl _ _))
  (try simp only[PT])
  refine Early.take (i:=2) (.slice (some ⟨ga,oa+k,none⟩) (n-k) (c1-k)) rfl (by kernel_rfl) (by kernel_rfl) (by kernel_rfl) (by kernel_rfl) (by kernel_rfl) (fun _ _ _ h=>h) (Or.inl ⟨by rfl,?_⟩) ?_ ?_
  ·intro w' hSw;obtain⟨-,t0,t1,t2,t3⟩:=hSw;go_simp
  ·exact J1 _ (below_drew1 (Below.refl _ _))
  (try simp only[PT])
  refine Early.take (i:=4) (.slice (some ⟨ga,oa,none⟩) n c1) rfl (by kernel_rfl) (by kernel_rfl) (by kernel_rfl) (by kernel_rfl) (by kernel_rfl) (fun _ _ _ h=>h) (Or.inl ⟨by rfl,?_⟩) ?_ ?_
  ·intro w' hSw;obtain⟨-,t0,t1,t2,t3⟩:=hSw;go_simp
  ·exact J1 _ (below_drew1 (Below.refl _ _))
  (try simp only[PT])
  refine Early.take (i:=5) (.int .i64 (k:Int)) rfl (by kernel_rfl) (by kernel_rfl) (by kernel_rfl) (by kernel_rfl) (by kernel_rfl) (fun _ _ _ h=>h) (Or.inl ⟨by rfl,?_⟩) ?_ ?_
  ·intro w' hSw;obtain⟨-,t0,t1,t2,t3⟩:=hSw;go_simp
  ·exact J1 _ (below_drew1 (Below.refl _ _))
  (try simp only[PT])
  refine Early.take (i:=6) (.slice (some ⟨ga,oa,none⟩) k c1) rfl (by kernel_rfl) (by kernel_rfl) (by kernel_rfl) (by kernel_rfl) (by kernel_rfl) (fun _ _ _ h=>h) (Or.inl ⟨by rfl,?_⟩) ?_ ?_
  ·intro w' hSw;obtain⟨-,t0,t1,t2,t3⟩:=hSw;go_simp
  ·exact J1 _ (below_drew1 (Below.refl _ _))
  (try simp only[PT])
  refine Early.take (i:=8) (.slice (some ⟨gb,ob,none⟩) n c2) rfl (by kernel_rfl) (by kernel_rfl) (by kernel_rfl) (by kernel_rfl) (by kernel_rfl) (fun _ _ _ h=>h) (Or.inl ⟨by rfl,?_⟩) ?_ ?_
  ·intro w' hSw;obtain⟨-,t0,t1,t2,t3⟩:=hSw;go_simp
  ·exact J1 _ (below_drew1 (Below.refl _ _))
  (try simp only[PT])
  refine Early.take (i:=9) (.int .i64 (k:Int)) rfl (by kernel_rfl) (by kernel_rfl) (by kernel_rfl) (by kernel_rfl) (by kernel_rfl) (fun _ _ _ h=>h) (Or.inl ⟨by rfl,?_⟩) ?_ ?_
  ·intro w' hSw;obtain⟨-,t0,t1,t2,t3⟩:=hSw;go_simp
  ·exact J1 _ (below_drew1 (Below.refl _ _))
  (try simp only[PT])
  refine Early.take (i:=10) (.slice (some ⟨gb,ob+k*4,none⟩) (n-k) (c2-k)) rfl (by kernel_rfl) (by kernel_rfl) (by kernel_rfl) (by kernel_rfl) (by kernel_rfl) (fun _ _ _ h=>h) (Or.inl ⟨by rfl,?_⟩) ?_ ?_
  ·intro w' hSw;obtain⟨-,t0,t1,t2,t3⟩:=hSw;go_simp
  ·exact J1 _ (below_drew1 (Below.refl _ _))
  (try simp only[PT])
  refine Early.take (i:=12) (.slice (some ⟨gb,ob,none⟩) n c2) rfl (by kernel_rfl) (by kernel_rfl) (by kernel_rfl) (by kernel_rfl) (by kernel_rfl) (fun _ _ _ h=>h) (Or.inl ⟨by rfl,?_⟩) ?_ ?_
  ·intro w' hSw;obtain⟨-,t0,t1,t2,t3⟩:=hSw;go_simp
  ·exact J1 _ (below_drew1 (Below.refl _ _))
  (try simp only[PT])
  refine Early.take (i:=13) (.int .i64 (k:Int)) rfl (by kernel_rfl) (by kernel_rfl) (by kernel_rfl) (by kernel_rfl) (by kernel_rfl) (fun _ _ _ h=>h) (Or.inl ⟨by rfl,?_⟩) ?_ ?_
  ·intro w' hSw;obtain⟨-,t0,t1,t2,t3⟩:=hSw;go_simp
  ·exact J1 _ (below_drew1 (Below.refl _ _))
  (try simp only[PT])
  refine Early.take (i:=14) (.slice (some ⟨gb,ob,none⟩) k c2) rfl (by kernel_rfl) (by kernel_rfl) (by kernel_rfl) (by kernel_rfl) (by kernel_rfl) (fun _ _ _ h=>h) (Or.inl ⟨by rfl,?_⟩) ?_ ?_
  ·intro w' hSw;obtain⟨-,t0,t1,t2,t3⟩:=hSw;go_simp
  ·exact J1 _ (below_drew1 (Below.refl _ _))
  (try simp only[PT])
  refine Early.next (i:=3) (by kernel_rfl) rfl (fun K hK=>?_);go_simp;(with_reducible refine(cloneH_any _ _ _ _ (hs.drop k) ((show SL 1 EH _ _ _ _ from by have:=SL.drop N1.out (j:=k) (by rw[L1.out];omega);rwa [Nat.mul_one] at this).step EH.stable (below_drew1 (Below.refl _ _))) (by rw[List.length_drop,L1.out];omega) (by rw[List.length_drop,L1.out];omega)).mono ?_)
  rintro e w57 ⟨k0,vc,rfl,hoc⟩;replace k0:Below w45.heap.size w45 w57:=below_undrew k0;have B58:=zz k0;have z58:=B58.out.size;have F1:=tr D0 B58;clear k0;refine hK _ _ (fun _=>J1 _ B58.out) ?_;clear hK K;(try simp only[PT])
  have W1:=zz hoc;clear hoc;refine Early.next (i:=7) (by kernel_rfl) rfl (fun K hK=>?_);rw[if_pos (show Region.wanted _ _=true from rfl)];refine wp_append_sl _ _ _ rfl w45.heap.size 23 il _ 24 Tryz.underlying22 hil hzl hsl hbl rfl (by decide) (by decide) EH.stable EH.soft EH.ones W1.out (by rw[List.length_drop,L1.out];omega) rfl (SL.step (SL.take N1.out (n:=k) (by rw[L1.out];omega)) EH.stable B58.out) rfl (by rw[List.length_drop,List.length_take,L1.out];omega) (by decide) B58.out.size ?_;intro v60 w60 hoa60 hba60;have P60:=zz (B58.out.trans (hba60.mono (Nat.le_refl _)));refine hK _ _ (fun _=>J1 _ P60.out) ?_;clear hK K;(try simp only[PT])
  have E0:=tr D0 P60;have zp60:=P60.out.size;have hqm:QM w60 w60.heap.size v60 (rotQ k ((rowsD N D n n).map (List.map qx))):=QM.of (B':=w45.heap.size) hoa60 (by show(rotQ k hs).length=_;rw[rotQ_len (by rw[L1.out];omega),L1.out,rotQ_len (by rw[List.length_map,rowsD_len];omega),List.length_map,rowsD_len]) (fun i h1 h2=>(rot_rows (by rw[L1.out,List.length_map,rowsD_len]) V1.out i h1 h2).below EQ.stable P60.out) P60.out.size;rw[← rotQ_map] at hqm;obtain⟨A60,c60,rfl,h60⟩:=VM.open (n:=n) (show VM _ _ v60 (rotQ k (rowsD N D n n)) from hqm) (by rw[rotQ_len (by rw[rowsD_len];omega),rowsD_len]);have X1:=zz h60;clear hqm h60 hoa60 hba60;refine Early.next (i:=11) (by kernel_rfl) rfl (fun K hK=>?_);go_simp;(with_reducible refine(cloneQ_any _ _ _ _ (((listD N D 11 n).map qx).drop k) ((SL.drop O1.out (j:=k) (by rw[M1.out];omega)).step EQ.stable P60.out) (by rw[List.length_drop,M1.out];omega) (by rw[List.length_drop,M1.out];omega)).mono ?_)
  rintro e w61 ⟨F0,vd,rfl,hod⟩;have B62:=zz F0;have z62:=B62.out.size;have G1:=tr E0 B62;clear F0;have P8_11_64:=tr P60 B62;refine hK _ _ (fun _=>J1 _ P8_11_64.out) ?_;clear hK K;(try simp only[PT])
  have Y1:=zz hod;clear hod;refine Early.next (i:=15) (by kernel_rfl) rfl (fun K hK=>?_);rw[if_pos (show Region.wanted _ _=true from rfl)];refine wp_append_sl _ _ _ rfl w60.heap.size 28 iq _ 64 Tryz.underlying23 hiq hzq hsq hbq rfl (by decide) (by decide) EQ.stable EQ.soft EQ.ones Y1.out (by rw[List.length_drop,M1.out];omega) rfl (SL.step (SL.take O1.out (n:=k) (by rw[M1.out];omega)) EQ.stable P8_11_64.out) rfl (by rw[List.length_drop,List.length_take,M1.out];omega) (by decide) B62.out.size ?_;intro v65 w65 hoa65 hba65;have P65:=zz (B62.out.trans (hba65.mono (Nat.le_refl _)));have P65':=tr P60 P65;refine hK _ _ (fun _=>J1 _ P65'.out) ?_;clear hK K;(try simp only[PT])
  have u1:=tr E0 P65;have zp65:=P65.out.size;have hqs:QS w65 w65.heap.size v65 (rotQ k ((listD N D 11 n).map qx)):=hoa65.sl;rw[← rotQ_map] at hqs;obtain⟨A65,c65,rfl,h65⟩:=VL.open (n:=n) (show VL _ _ v65 (rotQ k (listD N D 11 n)) from hqs) (by rw[rotQ_len (by rw[listD_len];omega),listD_len]);have Z1:=zz h65;have R1:=zz (X1.out.step P65.out);clear hqs h65 hoa65 hba65;refine Early.next (i:=16) (by kernel_rfl) rfl (fun K hK=>?_);go_simp;(with_reducible refine(((LSolve_any _ _ _ _ _ _ _ _ _ R1.out.rat Z1.out.rat).mono fun e w' h=>And.intro h.1 (ret_list (n:=n) h.2 (i2.out.trans Q1.out) j2.out))).mono ?_)
  rintro e w66 ⟨G0,A9,c9,rfl,h9⟩;have B67:=zz G0;have z67:=B67.out.size;have v1:=tr u1 B67;clear G0;have P8_13_69:=zz (P65'.out.trans (B67.out.mono P65'.out.size));refine hK _ _ (fun _=>J1 _ P8_13_69.out) ?_;clear hK K;(try simp only[PT])
  have o2:=zz h9;clear h9;refine Early.take (i:=17) (.tuple #[.slice A9 n c9,.int .i64 0]) rfl (by kernel_rfl) (by kernel_rfl) (by kernel_rfl) (by kernel_rfl) (by kernel_rfl) (fun _ _ _ h=>h) (Or.inl ⟨by rfl,?_⟩) ?_ ?_
  ·intro w' hSw;obtain⟨-,t0,t1,t2,t3⟩:=hSw;go_simp
  ·exact J1 _ (P8_13_69.out)
  (try simp only[PT])
  refine Early.take (i:=18) (.slice A9 n c9) rfl (by kernel_rfl) (by kernel_rfl) (by kernel_rfl) (by kernel_rfl) (by kernel_rfl) (fun _ _ _ h=>h) (Or.inl ⟨by rfl,?_⟩) ?_ ?_
  ·intro w' hSw;obtain⟨-,t0,t1,t2,t3⟩:=hSw;go_simp
  ·exact J1 _ (P8_13_69.out)
  (try simp only[PT])
  refine Early.take (i:=19) (.int .i64 0) rfl (by kernel_rfl) (by kernel_rfl) (by kernel_rfl) (by kernel_rfl) (by kernel_rfl) (fun _ _ _ h=>h) (Or.inl ⟨by rfl,?_⟩) ?_ ?_
  ·intro w' hSw;obtain⟨-,t0,t1,t2,t3⟩:=hSw;go_simp
  ·exact J1 _ (P8_13_69.out)
  (try simp only[PT])
  refine Early.next (i:=20) (by kernel_rfl) rfl (fun K hK=>?_);go_simp;refine hK _ _ (fun _=>J1 _ (P8_13_69.out)) ?_;clear hK K;(try simp only[PT])
  refine Early.next (i:=21) (by kernel_rfl) rfl (fun K hK=>?_);go_simp;refine hK _ _ (fun h=>absurd h (by decide)) ?_;clear hK K;(try simp only[PT])
  refine Early.done (by kernel_rfl) ?_ _;(try simp only[Exit.then])
  clear J1;have p2:=zz (VL.step S0.out P8_13_69.out);go_wp2_with fail
  refine(alike_any _ _ _ _ _ _ _ (x.map qx) (x.map qx) 0 0 p2.out.rat o2.out.rat).mono ?_;rintro e w70 ⟨H0,rfl⟩;have B71:=zz H0;have z71:=B71.out.size;have x1:=tr v1 B71;clear H0;go_wp2;go_ret;exact⟨x1.out,by simp⟩
end Go.Proofs.YtbpigdhidopiiaaGreatDoor
