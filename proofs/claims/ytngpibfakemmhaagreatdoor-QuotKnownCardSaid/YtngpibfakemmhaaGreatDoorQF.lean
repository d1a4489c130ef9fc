/- Layer 04: floor, made (written by gen_qf.py). -/
import Derived.Test.YtngpibfakemmhaaGreatDoorQE
namespace Go.Proofs.YtngpibfakemmhaaGreatDoor
open Go Go.RowKit Dig
theorem QO.cells {w:World} {B:Nat} {v:Value} {o:Option Rat} (h:QO w B v o):∃ n A l c m A' l' c',v=.agg #[.bool n,.slice A l c,.bool m,.slice A' l' c']:=by
 cases o with
 | some q=>obtain⟨n,A,l,c,A',l',c',e,-⟩:=h;exact⟨_,_,_,_,_,_,_,_,e⟩
 | none=>obtain⟨A,l,c,A',l',c',e,-⟩:=h;exact⟨_,_,_,_,_,_,_,_,e⟩
theorem QO.soft {w w':World} {v:Value} {o:Option Rat} (h:QO w w.heap.size v o) (hs:Soft w w'):QO w' w'.heap.size v o:=by
 cases o with
 | some q=>exact QV.soft h hs
 | none=>exact QR.soft h hs
theorem WB.ret {w:World} {b:Nat} {fn:Func} {p k:Tmp} {c0 c1:Value} (hf:fn.results=#[.cell p 78,.tmp k]) (tmps:Array Value) (h:CB w b 78 #[c0,c1]) (hp:tmps.getD p undef=.pointer (some ⟨b,0,none⟩)) :
  (results fn tmps).run Tryz.prog w=.ok (.tuple #[.agg #[c0,c1],tmps.getD k undef]) w:=by
 rw[results_cell_tmp hf,hp];simp[asAddr,run_loadVar_row w b _ 78 #[c0,c1] (0,0) _ h Tryz.underlying78 rfl (by kernel_rfl)]
theorem GB.ret {w:World} {b:Nat} {fn:Func} {p k:Tmp} {c0 c1:Value} (hf:fn.results=#[.cell p 26,.tmp k]) (tmps:Array Value) (h:CB w b 26 #[c0,c1]) (hp:tmps.getD p undef=.pointer (some ⟨b,0,none⟩)) :
  (results fn tmps).run Tryz.prog w=.ok (.tuple #[.agg #[c0,c1],tmps.getD k undef]) w:=by
 rw[results_cell_tmp hf,hp];simp[asAddr,run_loadVar_row w b _ 26 #[c0,c1] (0,0) _ h Tryz.underlying26 rfl (by kernel_rfl)]
theorem SB.ret {w:World} {b:Nat} {fn:Func} {p k:Tmp} {c0 c1:Value} (hf:fn.results=#[.cell p 44,.tmp k]) (tmps:Array Value) (h:CB w b 44 #[c0,c1]) (hp:tmps.getD p undef=.pointer (some ⟨b,0,none⟩)) :
  (results fn tmps).run Tryz.prog w=.ok (.tuple #[.agg #[c0,c1],tmps.getD k undef]) w:=by
 rw[results_cell_tmp hf,hp];simp[asAddr,run_loadVar_row w b _ 44 #[c0,c1] (0,0) _ h Tryz.underlying44 rfl (by kernel_rfl)]
theorem floor_exact {z:Int} {d:Nat} (hr:z.natAbs % d=0):(z / (d:Int)).natAbs=z.natAbs / d∧z % (d:Int)=0:=by
 have h1:(d:Int)∣z:=Int.ofNat_dvd_left.2 (Nat.dvd_of_mod_eq_zero hr);exact⟨natAbs_ediv_nat h1,Int.emod_eq_zero_of_dvd h1⟩
theorem floor_up {z:Int} {d:Nat} (hz:0≤z):(z / (d:Int)).natAbs=z.natAbs / d∧0≤z / (d:Int)∧((z % (d:Int)=0)↔z.natAbs % d=0):=by
 obtain⟨n,rfl⟩:=Int.eq_ofNat_of_zero_le hz;refine⟨by rw[Int.natAbs_natCast,← Int.natCast_ediv,Int.natAbs_natCast],Int.ediv_nonneg hz (by omega),?_⟩;rw[Int.natAbs_natCast,← Int.natCast_emod]
 constructor <;> intro h <;> omega
theorem floor_down {z:Int} {d:Nat} (hd:d≠0) (hz:z<0) (hr:z.natAbs % d≠0):z / (d:Int)=-((z.natAbs / d+1:Nat):Int)∧z % (d:Int)≠0:=by
 have h1:=Nat.div_add_mod z.natAbs d;have h2:=Nat.mod_lt z.natAbs (Nat.pos_of_ne_zero hd);generalize z.natAbs / d=q at *
 generalize z.natAbs % d=r at *
 have h3:z=-((d*q+r:Nat):Int):=by omega
 have h4:z / (d:Int)=-((q:Int)+1)∧z % (d:Int)=(d:Int)-r:=by
  refine(Int.ediv_emod_unique (by omega)).2 ⟨?_,by omega,by omega⟩;rw[h3,Int.mul_neg,Int.mul_add,Int.mul_one];simp only[Int.natCast_add,Int.natCast_mul];omega
 exact⟨by rw[h4.1];simp,by rw[h4.2];omega⟩
def RetF (w':World) (z:Int) (d:Nat) (e:Ending):Prop:=∃ v,e=.returned (.tuple #[v,.bool (decide (z % (d:Int)≠0))])∧WV w' w'.heap.size v (z / (d:Int))
set_option maxRecDepth 100000 in
set_option maxHeartbeats 4000000 in
theorem floor_any (w:World) (v:Value) (z:Int) (d:Nat) (h:TV w w.heap.size v z d) (hd:d≠0) (hl:(dig z.natAbs).length≤100000) :
  Calls Tryz.prog 55 #[v] w fun e w'=>Below w.heap.size w w'∧RetF w' z d e:=by
 obtain⟨n,A,l,c,A',l',c',rfl,Ha,Hd,hn⟩:=h;obtain⟨q,hq⟩:∃ q,q=z.natAbs / d:=⟨_,rfl⟩;obtain⟨r,hr⟩:∃ r,r=z.natAbs % d:=⟨_,rfl⟩;have HQ:=zz hq;have HR:=zz hr;have HD:=zz hd;have HL:=zz hl;have HN:=zz hn;replace Ha:=zz Ha;replace Hd:=zz Hd;clear hq hr hd hl hn;obtain⟨w0,hw0⟩:∃ w0:World,w0=((w.alloc (.cells #[.bool n,.slice A l c,.slice A' l' c'] 80)).alloc (.cells #[.bool false,.slice none 0 0] 78)):=⟨_,rfl⟩;have B0:=zz (n2_b hw0);have z0:=n2_z hw0;have Lr:=n2_0 hw0;have Lr2:=n2_1 hw0;replace Ha:=zz (RN.stepN Ha.out B0.out);replace Hd:=zz (RN.stepN Hd.out B0.out);go_enter Tryz.func55,Tryz.ntmps55
 go_wp2;go_step3
 rw[← hw0];clear hw0;have I1:=Lr.cell 0 rfl;have J1:=Lr.cell 1 rfl;have K1:=Lr.cell 2 rfl;have x2:=Lr.lt;go_wp2_with fail
 refine(Over_any _ _ _ z.natAbs d Ha.out Hd.out HD.out HL.out).mono ?_;rintro e w1 ⟨H1,vq,vr,rfl,hvq,hvr⟩;have B3:=zz H1;have z3:=B3.out.size;have t0:=zz (B0.out.trans (B3.out.mono B0.out.size));clear H1;clear I1 J1 K1 x2;rw[← HQ.out] at hvq;rw[← HR.out] at hvr;obtain⟨Q,cq,rfl,-⟩:=hvq.cell;obtain⟨R,cr,rfl,-⟩:=hvr.cell;have Hq:=zz hvq;have Hr:=zz hvr;clear hvq hvr;have hlr:(dig r).length=0↔r=0:=dig_nil;by_cases hr0:r=0
 ·have hr1:(((dig r).length:Int)==0)=true:=by rw[beq_iff_eq];have:=hlr.2 hr0;omega
  have hr2:decide (0<(dig r).length)=false:=by rw[decide_eq_false];have:=hlr.2 hr0;omega
  have HF:=zz (floor_exact (d:=d) (by rw[← HR.out];exact hr0));clear hr0 hlr;have q0:=CB.step Lr B3.out;have L1:=q0.cell 0 rfl;have M1:=q0.cell 1 rfl;have N1:=q0.cell 2 rfl;have y2:=q0.lt;go_wp2;clear L1 M1 N1 y2;obtain⟨w7,u0⟩:∃ w7:World,w7=(w1.alloc (.cells #[.bool n,.slice Q (dig q).length cq] 78)):=⟨_,rfl⟩;rw[← u0];have k0:=n1_0 u0;have za7:=n1_z u0;have B8:=zz (n1_b u0);have z8:=B8.out.size;have T1:=zz (t0.out.trans (B8.out.mono t0.out.size));clear u0;go_step3
  have l0:=CB.step q0 B8.out;have K0:=l0.cell 0 rfl;have L0:=l0.cell 1 rfl;have M0:=l0.cell 2 rfl;have f2:=l0.lt;have N0:=zz (RN.step Hq.out B8.out);have P1_3_14:=zz (B3.out.trans (B8.out.mono B3.out.size));have b0:=CB.step Lr2 P1_3_14.out;have O0:=b0.cell 0 rfl;have P0:=b0.cell 1 rfl;have g2:=b0.lt;have Q0:=k0.cell 0 rfl;have R0:=k0.cell 1 rfl;have h2:=k0.lt;have S0:=b0.frozen 0;have T0:=b0.frozen 1;have i2:=b0.lt;go_wp2;clear K0 L0 M0 f2 O0 P0 g2 Q0 R0 h2 S0 T0 i2;have HV:=zz (show WV w7 w7.heap.size (.agg #[.bool n,.slice Q (dig q).length cq]) (z / (d:Int)) from WV.mk (by rw[HF.out.1,← HQ.out];exact N0.out) (wred HN.out (Int.dvd_of_emod_eq_zero HF.out.2) HD.out).2);obtain⟨w18,e0⟩:∃ w18:World,w18=((w7.setCell ⟨w.heap.size+1,0,none⟩ (.bool n)).setCell ⟨w.heap.size+1,1,none⟩ (.slice Q (dig q).length cq)):=⟨_,rfl⟩;rw[← e0];have S18:=zz (p2_s e0 b0 (by simp[noInt_b,noInt_s]));have Q1:=p2_f e0 k0 (by omega);have U1:=p2_f e0 l0 (by omega);have C0:=p2_p e0 b0;have U0:=zz (p2_b e0 T1.out (by omega));have X1:=p2_z e0;clear e0;have c2:=zz (show decide (z % (d:Int)≠0)=false from by rw[decide_eq_false];exact fun h=>h HF.out.2);rw[Exit.noGoto_ret];have v0:=zz (WV.soft HV.out (S18.out));exact bodyPost_ret (WB.ret rfl _ C0 rfl) rfl ⟨U0.out,_,by rw[c2.out];rfl,v0.out⟩
 ·have hr1:(((dig r).length:Int)==0)=false:=by rw[beq_eq_false_iff_ne];have:=mt hlr.1 hr0;omega
  have hr2:decide (0<(dig r).length)=true:=by rw[decide_eq_true_eq];have:=mt hlr.1 hr0;omega
  have k2:=zz hr0;clear hlr hr0;have hz:z≠0:=fun h=>k2.out (by rw[HR.out,h];simp)
  by_cases hz0:z<0
  ·have hn1:n=true:=by rw[HN.out hz,decide_eq_true hz0]
   subst hn1;have HF:=zz (floor_down HD.out hz0 (by rw[← HR.out];exact k2.out));clear hz hz0;have m0:=CB.step Lr B3.out;have V0:=m0.cell 0 rfl;have W0:=m0.cell 1 rfl;have X0:=m0.cell 2 rfl;have l2:=m0.lt;go_wp2;clear V0 W0 X0 l2;obtain⟨w22,r0⟩:∃ w22:World,w22=(w1.alloc (.cells #[.bool true,.slice Q (dig q).length cq] 78)):=⟨_,rfl⟩;rw[← r0];have x0:=n1_0 r0;have za22:=n1_z r0;have B23:=zz (n1_b r0);have z23:=B23.out.size;have D0:=zz (t0.out.trans (B23.out.mono t0.out.size));clear r0;go_step3
   have n0:=CB.step m0 B23.out;have Y0:=n0.cell 0 rfl;have Z0:=n0.cell 1 rfl;have a1:=n0.cell 2 rfl;have m2:=n0.lt;go_wp2_with fail
   refine(one_any _).mono ?_;rintro e w27 ⟨E0,vo,rfl,ho⟩;have B28:=zz E0;have z28:=B28.out.size;have F0:=zz (D0.out.trans (B28.out.mono D0.out.size));clear E0;clear Y0 Z0 a1 m2;obtain⟨O,co,rfl,-⟩:=ho.cell;have Ho:=zz ho;clear ho;go_wp2_with fail
   have P2_4_31:=zz (B23.out.trans (B28.out.mono B23.out.size));have b1:=zz (RN.step Hq.out P2_4_31.out);refine(Plus_any _ _ _ q 1 b1.out Ho.out (by have:=HL.out;have h1:=HQ.out;have:=dig_len_mono (show q≤z.natAbs by rw[h1];exact Nat.div_le_self _ _);omega) (by rw[dig1];simp)).mono ?_;rintro e w30 ⟨G0,vp,rfl,hp⟩;have B33:=zz G0;have z33:=B33.out.size;have O1:=zz (F0.out.trans (B33.out.mono F0.out.size));clear G0;obtain⟨S,cs,rfl,-⟩:=hp.cell;have Hp:=zz hp;clear hp;have P3_5_36:=zz (B28.out.trans (B33.out.mono B28.out.size));have a0:=CB.step x0 P3_5_36.out;have c1:=a0.cell 0 rfl;have d1:=a0.cell 1 rfl;have n2:=a0.lt;have e1:=a0.frozen 0;have f1:=a0.frozen 1;have o2:=a0.lt;go_upto_region 6 with (fail)
   clear c1 d1 n2 e1 f1 o2;have g1:=CB.step n0 P3_5_36.out;have P1_3_41:=zz (B3.out.trans (B23.out.mono B3.out.size));have P1_4_42:=zz (P1_3_41.out.trans (B28.out.mono P1_3_41.out.size));have P1_5_43:=zz (P1_4_42.out.trans (B33.out.mono P1_4_42.out.size));have H0:=CB.step Lr2 P1_5_43.out;obtain⟨w44,f0⟩:∃ w44:World,w44=(w30.setCell ⟨w1.heap.size,1,none⟩ (.slice S (dig (q+1)).length cs)):=⟨_,rfl⟩;rw[← f0];have S44:=zz (show Soft w30 w44 by rw[f0];exact CB.soft1 (a0) (by simp[noInt_b,noInt_s]) 1 (.slice S (dig (q+1)).length cs));have i1:=p1_f f0 g1 (by omega);have c0:=p1_f f0 H0 (by omega);have i0:CB w44 (w1.heap.size) 78 #[.bool true,.slice S (dig (q+1)).length cs]:=by rw[f0];exact(show CB _ (w1.heap.size) 78 #[.bool true,.slice S (dig (q+1)).length cs] from CB.set (a0) 1 (.slice S (dig (q+1)).length cs))
   have j1:=zz (p1_b f0 O1.out (by omega));have Y1:=p1_z f0;clear f0;have k1:=zz (RN.soft Hp.out (S44.out));have l1:=c0.cell 0 rfl;have m1:=c0.cell 1 rfl;have p2:=c0.lt;have n1:=i0.cell 0 rfl;have o1:=i0.cell 1 rfl;have q2:=i0.lt;have p1:=c0.frozen 0;have q1:=c0.frozen 1;have r2:=c0.lt;go_wp2;clear l1 m1 p2 n1 o1 q2 p1 q1 r2;have HV:=zz (show WV w44 w44.heap.size (.agg #[.bool true,.slice S (dig (q+1)).length cs]) (z / (d:Int)) from WV.mk (by rw[HF.out.1,Int.natAbs_neg,Int.natAbs_natCast,← HQ.out];exact k1.out) (fun _=>by rw[HF.out.1];generalize z.natAbs / d=u;exact(decide_eq_true (by omega)).symm));obtain⟨w49,g0⟩:∃ w49:World,w49=((w44.setCell ⟨w.heap.size+1,0,none⟩ (.bool true)).setCell ⟨w.heap.size+1,1,none⟩ (.slice S (dig (q+1)).length cs)):=⟨_,rfl⟩;rw[← g0];have S49:=zz (p2_s g0 c0 (by simp[noInt_b,noInt_s]));have R1:=p2_f g0 i0 (by omega);have V1:=p2_f g0 i1 (by omega);have I0:=p2_p g0 c0;have r1:=zz (p2_b g0 j1.out (by omega));have Z1:=p2_z g0;clear g0;have c2:=zz (show decide (z % (d:Int)≠0)=true from by rw[decide_eq_true];exact HF.out.2);rw[Exit.noGoto_ret];have y0:=zz (WV.soft HV.out (S49.out));exact bodyPost_ret (WB.ret rfl _ I0 rfl) rfl ⟨r1.out,_,by rw[c2.out];rfl,y0.out⟩
  ·have hn1:n=false:=by rw[HN.out hz,decide_eq_false hz0]
   subst hn1;have HF:=zz (floor_up (d:=d) (show 0≤z by omega));clear hz hz0;have o0:=CB.step Lr B3.out;have s1:=o0.cell 0 rfl;have t1:=o0.cell 1 rfl;have u1:=o0.cell 2 rfl;have s2:=o0.lt;go_wp2;clear s1 t1 u1 s2;obtain⟨w53,s0⟩:∃ w53:World,w53=(w1.alloc (.cells #[.bool false,.slice Q (dig q).length cq] 78)):=⟨_,rfl⟩;rw[← s0];have j0:=n1_0 s0;have za53:=n1_z s0;have B54:=zz (n1_b s0);have z54:=B54.out.size;have P1:=zz (t0.out.trans (B54.out.mono t0.out.size));clear s0;go_step3
   have p0:=CB.step o0 B54.out;have v1:=p0.cell 0 rfl;have x1:=p0.cell 1 rfl;have y1:=p0.cell 2 rfl;have t2:=p0.lt;have z1:=zz (RN.step Hq.out B54.out);have P1_3_60:=zz (B3.out.trans (B54.out.mono B3.out.size));have d0:=CB.step Lr2 P1_3_60.out;have A1:=d0.cell 0 rfl;have B1:=d0.cell 1 rfl;have u2:=d0.lt;have C1:=j0.cell 0 rfl;have D1:=j0.cell 1 rfl;have v2:=j0.lt;have E1:=d0.frozen 0;have F1:=d0.frozen 1;have w2:=d0.lt;go_wp2;clear v1 x1 y1 t2 A1 B1 u2 C1 D1 v2 E1 F1 w2;have HV:=zz (show WV w53 w53.heap.size (.agg #[.bool false,.slice Q (dig q).length cq]) (z / (d:Int)) from WV.mk (by rw[HF.out.1,← HQ.out];exact z1.out) (fun _=>by rw[decide_eq_false];have:=HF.out.2.1;omega));obtain⟨w64,h0⟩:∃ w64:World,w64=((w53.setCell ⟨w.heap.size+1,0,none⟩ (.bool false)).setCell ⟨w.heap.size+1,1,none⟩ (.slice Q (dig q).length cq)):=⟨_,rfl⟩;rw[← h0];have S64:=zz (p2_s h0 d0 (by simp[noInt_b,noInt_s]));have S1:=p2_f h0 j0 (by omega);have W1:=p2_f h0 p0 (by omega);have J0:=p2_p h0 d0;have G1:=zz (p2_b h0 P1.out (by omega));have a2:=p2_z h0;clear h0;have c2:=zz (show decide (z % (d:Int)≠0)=true from by rw[decide_eq_true];exact fun h=>k2.out (by rw[HR.out];exact HF.out.2.2.1 h));rw[Exit.noGoto_ret];have A0:=zz (WV.soft HV.out (S64.out));exact bodyPost_ret (WB.ret rfl _ J0 rfl) rfl ⟨G1.out,_,by rw[c2.out];rfl,A0.out⟩
theorem madeI_any (w:World) (n e:Int) :
  Calls Tryz.prog 60 #[.int .i64 n,.int .i64 e] w fun r w'=>Below w.heap.size w w'∧r=.returned (.tuple #[.int .i64 (if e=0 then n else 0),.int .i64 e]):=by
 by_cases he:e=0
 ·subst he;rw[if_pos rfl];go_enter Tryz.func60,Tryz.ntmps60
  go_wp2;go_ret2;exact⟨Below.refl _ _,rfl⟩
 ·have he0:(e==0)=false:=by rw[beq_eq_false_iff_ne];exact he
  rw[if_neg he];clear he;go_enter Tryz.func60,Tryz.ntmps60
  go_wp2;go_ret2;exact⟨Below.refl _ _,rfl⟩
set_option maxRecDepth 100000 in
set_option maxHeartbeats 4000000 in
theorem madeG_yes (w:World) (n:Bool) (A:Option Addr) (l c:Nat) :
  Calls Tryz.prog 62 #[.agg #[.bool n,.slice A l c],.int .i64 0] w fun e w'=>Below w.heap.size w w'∧e=.returned (.tuple #[.agg #[.bool n,.slice A l c],.int .i64 0]):=by
 have HB:=zz (below_alloc1 (below_alloc1 (Below.refl w.heap.size w) (.cells #[.bool n,.slice A l c] 26)) (.cells #[.bool n,.slice A l c] 26));have HC:=zz (show CB ((w.alloc (.cells #[.bool n,.slice A l c] 26)).alloc (.cells #[.bool n,.slice A l c] 26)) (w.heap.size+1) 26 #[.bool n,.slice A l c] by have h:=CB.new (w.alloc (.cells #[.bool n,.slice A l c] 26)) 26 #[.bool n,.slice A l c];simpa using h);go_enter Tryz.func62,Tryz.ntmps62
 go_wp2;exact bodyPost_ret (GB.ret rfl _ HC.out rfl) rfl ⟨HB.out,rfl⟩
set_option maxRecDepth 100000 in
set_option maxHeartbeats 4000000 in
theorem madeG_no (w:World) (n:Bool) (A:Option Addr) (l c:Nat) (e:Int) (he:e≠0) :
  Calls Tryz.prog 62 #[.agg #[.bool n,.slice A l c],.int .i64 e] w fun r w'=>Below w.heap.size w w'∧r=.returned (.tuple #[.agg #[.bool false,.slice none 0 0],.int .i64 e]):=by
 have HB:=zz (below_alloc1 (below_alloc1 (below_alloc1 (Below.refl w.heap.size w) (.cells #[.bool n,.slice A l c] 26)) (.cells #[.bool false,.slice none 0 0] 26)) (.cells #[.bool false,.slice none 0 0] 26));have HC:=zz (show CB (((w.alloc (.cells #[.bool n,.slice A l c] 26)).alloc (.cells #[.bool false,.slice none 0 0] 26)).alloc (.cells #[.bool false,.slice none 0 0] 26)) (w.heap.size+1) 26 #[.bool false,.slice none 0 0] by have h:=(CB.new (w.alloc (.cells #[.bool n,.slice A l c] 26)) 26 #[.bool false,.slice none 0 0]).alloc (.cells #[.bool false,.slice none 0 0] 26);simpa using h);have he0:(e==0)=false:=by rw[beq_eq_false_iff_ne];exact he
 clear he;go_enter Tryz.func62,Tryz.ntmps62
 go_wp2;exact bodyPost_ret (GB.ret rfl _ HC.out rfl) rfl ⟨HB.out,rfl⟩
end Go.Proofs.YtngpibfakemmhaaGreatDoor
