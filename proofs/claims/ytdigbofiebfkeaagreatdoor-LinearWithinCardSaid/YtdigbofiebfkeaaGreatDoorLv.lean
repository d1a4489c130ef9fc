/- Layer 35: Damped (written by gen_lv.py). -/
import Derived.Test.YtdigbofiebfkeaaGreatDoorLu
import Derived.Test.YtdigbofiebfkeaaGreatDoorLns
import Derived.Test.YtdigbofiebfkeaaGreatDoorLj
namespace Go.Proofs.YtdigbofiebfkeaaGreatDoor
open Go Go.RowKit Dig
set_option maxRecDepth 100000
set_option maxHeartbeats 4000000
set_option linter.unusedSimpArgs false
theorem Sum_newL (w:World) (va vb:Value) (q r:Rat) (ha:RV w w.heap.size va q) (hb:RV w w.heap.size vb r) (l1:QL 60000000 60000000 q) (l2:QL 60000000 60000000 r) :
  Calls Tryz.prog 48 #[va,vb] w fun e w'=>Below w.heap.size w w'∧∃ v,e=.returned v∧RVn w.heap.size w' w'.heap.size v (q+r):=by
 unfold QL at l1 l2;exact Sum_new w va vb q r ha hb l1.1 l1.2 l2.1 l2.2
theorem store_func {w:World} {t:TypeId} {f:FuncId}:(store ⟨w.heap.size,0,none⟩ (.func (.func f) #[] #[])).run Tryz.prog (w.alloc (.cells #[.nilFunc] t))=.ok () ((w.alloc (.cells #[.nilFunc] t)).setCell ⟨w.heap.size,0,none⟩ (.func (.func f) #[] #[])):=by
 have h:=CB.new w t #[.nilFunc];rw[run_store _ _ _ _ _ rfl,h.cell 0 rfl,h.frozen 0];rfl
theorem okL_one {l:QX}:okL [l]=smallX l:=by unfold okL;simp
theorem dampFit_is {M:List (List QX)} {b d:List QX} {n:Bool}:dampFit M b d n=true↔(b.length=M.length∧d.length=(M.getD 0 []).length∧n=false∧d.all (fun q=>!q.1.1)=true):=by
 unfold dampFit;simp only[Bool.and_eq_true,decide_eq_true_eq,Bool.not_eq_true',List.any_eq_false,List.all_eq_true,Bool.not_eq_true]
theorem damped_of {M:List (List QX)} {b d:List QX} {l:QX} {E:Int} {fit:Bool} (hE:E=firstE [sysE (okM M),sysE (okL b),sysE (okL d),sysE (okL [l])] fit) (hf:fit=dampFit M b d l.1.1) :
  (E≠0→dampedA M b d l=(none,E))∧(E=0→dampedA M b d l=toldO (solveQ (dampQ (normM (ratM M)) ((qv l).getD 0) (rats d)) (normV (ratM M) (rats b)))∧okM M=true∧okL b=true∧okL d=true∧smallX l=true∧b.length=M.length∧d.length=(M.getD 0 []).length):=by
 rw[okL_one] at hE;by_cases hv:okM M=true∧okL b=true∧okL d=true∧smallX l=true
 ·obtain⟨h1,h2,h3,h4⟩:=hv;rw[h1,h2,h3,h4] at hE;cases h5:fit with
  | false=>
   rw[h5] at hE hf;have hn:¬ (b.length=M.length∧d.length=(M.getD 0 []).length∧l.1.1=false∧d.all (fun q=>!q.1.1)=true):=fun h=>by rw[dampFit_is.2 h] at hf;cases hf
   refine⟨fun _=>?_,fun h=>?_⟩
   ·unfold dampedA;rw[h1,h2,h3,h4,if_pos ⟨rfl,rfl,rfl,rfl⟩,if_neg hn,hE];rfl
   ·rw[h] at hE;cases hE
  | true=>
   rw[h5] at hE hf;have hp:=dampFit_is.1 hf.symm;refine⟨fun h=>absurd hE h,fun _=>⟨?_,h1,h2,h3,h4,hp.1,hp.2.1⟩⟩;unfold dampedA;rw[if_pos ⟨h1,h2,h3,h4⟩,if_pos hp]
 ·have hE':E=350:=by
   rw[hE];cases h1:okM M <;> cases h2:okL b <;> cases h3:okL d <;> cases h4:smallX l <;> first | rfl | exact absurd ⟨h1,h2,h3,h4⟩ hv
  refine⟨fun _=>?_,fun h=>?_⟩
  ·unfold dampedA;rw[if_neg hv,hE']
  ·rw[h] at hE';cases hE'
theorem qs_one {w:World} {b:Nat} {A A':Option Addr} {u c u' c':Nat} {n m:Bool} {x y:List Int} (h:CB w b 33 #[.bool n,.slice A u c,.bool m,.slice A' u' c']) (hq:QR w w.heap.size (.agg #[.bool n,.slice A u c,.bool m,.slice A' u' c']) n x m y):QS w w.heap.size (.slice (some ⟨b,0,none⟩) 1 1) [((n,x),(m,y))]:=
 ⟨_,_,rfl,Nat.le_refl _,by omega,fun _=>⟨b,0,rfl,h.lt,fun j hj=>by
  obtain rfl:j=0:=by simp at hj;omega
  exact⟨[.bool n,.slice A u c,.bool m,.slice A' u' c'],rfl,fun i v hv=>by rw[show 0+0*4+i=i by omega];exact h.cell i (by simpa using hv),_,_,_,_,rfl,hq⟩⟩⟩
def dampR (lam:Rat) (D:List Rat) (i:Nat) (r:List Rat):List Rat:=r.set i (r.getD i 0+lam*D.getD i 0)
theorem damp_at {lam:Rat} {D:List Rat} {N:List (List Rat)} {i:Nat} (hi:i<N.length):atQ (mapTo (dampR lam D) i N) i i=(N.getD i []).getD i 0:=by
 unfold atQ;rw[getD_mapTo hi (Or.inl (Nat.lt_irrefl i))]
theorem damp_set {lam:Rat} {D:List Rat} {N:List (List Rat)} {i:Nat} (hi:i<N.length):setQ (mapTo (dampR lam D) i N) i i ((N.getD i []).getD i 0+lam*D.getD i 0)=mapTo (dampR lam D) (i+1) N:=by
 unfold setQ;rw[getD_mapTo hi (Or.inl (Nat.lt_irrefl i)),← mapTo_set hi,getD_is hi];rfl
theorem damp_short {N:List (List Rat)} {lam:Rat} {D:List Rat} (hN:Short 117 N) (hl:QL 4 4 lam) (hD:∀ q∈D,QL 4 4 q):Short 130 (dampQ N lam D):=by
 intro r hr q hq;obtain⟨i,hi,rfl⟩:=List.mem_mapIdx.1 hr;rcases List.mem_or_eq_of_mem_set hq with h | h
 ·exact(hN _ (List.getElem_mem hi) q h).mono (by decide) (by decide)
 ·rw[h];exact((short_getD (hN _ (List.getElem_mem hi)) (by decide) i).add2 (hl.mul (short_getD hD (by decide) i)) (m:=125) (by decide) (by decide)).mono (by decide) (by decide)
theorem LDamped_any (w:World) (A B D L0 L1:Option Addr) (na ca nb cb nd cd u c u' c':Nat) (M:List (List QX)) (b d:List QX) (n m:Bool) (x y:List Int) (ha:QM w w.heap.size (.slice A na ca) M) (hb:QS w w.heap.size (.slice B nb cb) b) (hd:QS w w.heap.size (.slice D nd cd) d) (hl:QR w w.heap.size (.agg #[.bool n,.slice L0 u c,.bool m,.slice L1 u' c']) n x m y) :
  Calls Tryz.prog 14 #[.slice A na ca,.slice B nb cb,.slice D nd cd,.agg #[.bool n,.slice L0 u c,.bool m,.slice L1 u' c']] w fun e w'=>Below w.heap.size w w'∧RetLs w' (dampedA M b d ((n,x),(m,y))) e:=by
 obtain⟨rfl,hn1,hn2⟩:=SL.len ha;obtain⟨rfl,hm1,hm2⟩:=SL.len hb;obtain⟨rfl,x1,y1⟩:=SL.len hd;have HQ:=zz ha;have HS:=zz hb;have t2:=zz hd;have u2:=zz hl;clear ha hb hd hl;obtain⟨w0,hw0⟩:∃ w0:World,w0=((((w.alloc (.cells #[.slice A M.length ca] 27)).alloc (.cells #[.slice B b.length cb] 28)).alloc (.cells #[.slice D d.length cd] 28)).alloc (.cells #[.bool n,.slice L0 u c,.bool m,.slice L1 u' c'] 33)):=⟨_,rfl⟩;have B0:=zz (n4_b hw0);have z0:=n4_z hw0;have La:=n4_0 hw0;have Lb:=n4_1 hw0;have Ld:=n4_2 hw0;have Ll:=n4_3 hw0;have O1:=zz (HQ.out.step (SE.stable EQ.stable) B0.out);have a2:=zz (HS.out.step EQ.stable B0.out);have J1:=zz (t2.out.step EQ.stable B0.out);have K1:=zz (QR.step u2.out B0.out);have HA:=zz La;have HB:=zz Lb;have HD:=zz Ld;have HL:=zz Ll;obtain⟨fit,hfit⟩:∃ fit:Bool,fit=dampFit M b d n:=⟨_,rfl⟩;have P1:=zz hfit;clear hfit;obtain⟨E,hE⟩:∃ E,E=firstE [sysE (okM M),sysE (okL b),sysE (okL d),sysE (okL [((n,x),(m,y))])] fit:=⟨_,rfl⟩;have b2:=zz hE;clear hE;go_enter Tryz.func14,Tryz.ntmps14
 go_upto_region 1 with (fail)
 rw[← hw0];clear hw0;have hst:=store_func (w:=w0) (t:=103) (f:=56);go_upto_region 2 with (fail)
 clear hst;obtain⟨w1,h0⟩:∃ w1:World,w1=(w0.alloc (.cells #[.func (.func 56) #[] #[]] 103)):=⟨_,rfl⟩;rw[← h0];have i0:=n1_0 h0;have za1:=n1_z h0;have B2:=zz (n1_b h0);have z2:=B2.out.size;have p1:=tr B0 B2;clear h0;have HF:=zz i0;go_upto_region 3 with (fail)
 have m0:=CB.step HA.out B2.out;have n0:=CB.step HB.out B2.out;have o0:=CB.step HD.out B2.out;have p0:=CB.step HL.out B2.out;refine Sweep.r0 [se 0 20 [] (.func (.func 57) #[] #[.pointer (some ⟨w.heap.size+1,0,none⟩),.pointer (some ⟨w.heap.size,0,none⟩),.pointer (some ⟨w.heap.size+2,0,none⟩),.pointer (some ⟨w0.heap.size,0,none⟩),.pointer (some ⟨w.heap.size+3,0,none⟩)]),se 1 21 [] (.slice A M.length ca),se 2 22 [1] (.int .i64 (sysE (okM M))),se 3 23 [] (.slice B b.length cb),se 4 24 [3] (.int .i64 (sysE (okL b))),se 5 25 [] (.slice D d.length cd),se 6 26 [5] (.int .i64 (sysE (okL d))),se 7 27 [] (.agg #[.bool n,.slice L0 u c,.bool m,.slice L1 u' c']),sf 8 28 [7] (fun fv fw=>∃ zb,fv=.slice (some ⟨zb,0,none⟩) 1 1∧CB fw zb 33 #[.bool n,.slice L0 u c,.bool m,.slice L1 u' c']),se 9 29 [8] (.int .i64 (sysE (okL [((n,x),(m,y))]))),sf 10 30 [2,4,6,9] (fun fv fw=>∃ zb,fv=.slice (some ⟨zb,0,none⟩) 4 4∧CB fw zb 37 #[.int .i64 (sysE (okM M)),.int .i64 (sysE (okL b)),.int .i64 (sysE (okL d)),.int .i64 (sysE (okL [((n,x),(m,y))]))]),se 11 31 [0,10] (.int .i64 E)] 1 (SB m0 (SB n0 (SB o0 (SB p0 S0)))) (MA (fun _ _ _ h hb=>let ⟨b,e,h⟩:=h;⟨b,e,h.step hb⟩) (MA (fun _ _ _ h hb=>let ⟨b,e,h⟩:=h;⟨b,e,h.step hb⟩) trivial)) ?_ ?_
 ·intro xs a_ hA;simp only[SX] at hA
  iterate 12 (refine ac ?_ ?_;rotate_left)
  exact all_nil
  all_goals (intro wk hb;simp only[SX,↓reduceIte,Nat.reduceEqDiff,Nat.reduceAdd];have b_:=zz hb;have z_:=hb.size;clear hb;subst hA)
  any_goals (intros;refine wpOp_step rfl ?_;intro K hK;go_simp;refine hK _ _ ⟨_,?_,Below.refl _ _,rfl⟩;simp only[*,FL] <;> kernel_rfl)
  ·intro f1;intros;refine wpOp_step (o:=_) rfl (fun K hK=>?_);go_simp;have P1_3_8:=tr B2 b_;(with_reducible refine(LCheck_any _ A _ ca M (O1.out.step (SE.stable EQ.stable) P1_3_8.out)).mono ?_)
   rintro e wc9 ⟨a0,rfl⟩;refine hK _ _ ⟨.int .i64 (sysE (okM M)),by simp only[FL,f1] <;> kernel_rfl,a0,rfl⟩
  ·intro f3;intros;refine wpOp_step (o:=_) rfl (fun K hK=>?_);go_simp;have P1_3_10:=tr B2 b_;(with_reducible refine(list_any _ B _ cb b (a2.out.step EQ.stable P1_3_10.out)).mono ?_)
   rintro e wc11 ⟨W0,rfl⟩;refine hK _ _ ⟨.int .i64 (sysE (okL b)),by simp only[FL,f3] <;> kernel_rfl,W0,rfl⟩
  ·intro f5;intros;refine wpOp_step (o:=_) rfl (fun K hK=>?_);go_simp;have P1_3_12:=tr B2 b_;(with_reducible refine(list_any _ D _ cd d (J1.out.step EQ.stable P1_3_12.out)).mono ?_)
   rintro e wc13 ⟨X0,rfl⟩;refine hK _ _ ⟨.int .i64 (sysE (okL d)),by simp only[FL,f5] <;> kernel_rfl,X0,rfl⟩
  ·intro f7;intros;refine wpOp_step (o:=_) rfl (fun K hK=>?_);go_simp;refine hK _ _ ⟨.slice (some ⟨wk.heap.size,0,none⟩) 1 1,by simp only[FL,f7] <;> kernel_rfl,(Below.refl _ _).alloc (Nat.le_refl _) _,⟨_,rfl,CB.new _ _ _⟩⟩
  ·intro f8;intros;refine wpOp_step (o:=_) rfl (fun K hK=>?_);obtain⟨b8,e8,h8⟩:=f8;rw[e8];go_simp;have P1_3_14:=tr B2 b_;(with_reducible refine(list_any _ _ _ 1 [((n,x),(m,y))] (qs_one h8 (QR.step K1.out P1_3_14.out))).mono ?_)
   rintro e wc15 ⟨Y0,rfl⟩;refine hK _ _ ⟨.int .i64 (sysE (okL [((n,x),(m,y))])),by simp only[FL,e8] <;> kernel_rfl,Y0,rfl⟩
  ·intro f2 f4 f6 f9;intros;refine wpOp_step (o:=_) rfl (fun K hK=>?_);go_simp;refine hK _ _ ⟨.slice (some ⟨wk.heap.size,0,none⟩) 4 4,by simp only[FL,f2,f4,f6,f9] <;> kernel_rfl,(Below.refl _ _).alloc (Nat.le_refl _) _,⟨_,rfl,CB.new _ _ _⟩⟩
  ·intro f0 f10;intros;refine wpOp_step (o:=_) rfl (fun K hK=>?_);obtain⟨b10,e10,h10⟩:=f10;rw[e10];go_simp;have P1_3_16:=tr B2 b_;(with_reducible refine((show Calls Tryz.prog _ _ _ _ from b2.out▸first_any _ 57 #[.pointer (some ⟨w.heap.size+1,0,none⟩),.pointer (some ⟨w.heap.size,0,none⟩),.pointer (some ⟨w.heap.size+2,0,none⟩),.pointer (some ⟨w0.heap.size,0,none⟩),.pointer (some ⟨w.heap.size+3,0,none⟩)] fit _ 4 4 [sysE (okM M),sysE (okL b),sysE (okL d),sysE (okL [((n,x),(m,y))])] (ri_cells h10 [_,_,_,_] rfl (by simp)) (by simp) dampFit_run (fun hz w9 a0=>P1.out▸dampFit_any w9 _ _ _ _ _ A B D L0 L1 ca cb cd u c u' c' M b d n m x y (CB.step HA.out (P1_3_16.out.trans (a0.mono P1_3_16.out.size))) (O1.out.step (SE.stable EQ.stable) (P1_3_16.out.trans (a0.mono P1_3_16.out.size))) (okM_pos (sysE_ok (hz _ (by simp)))) (CB.step HB.out (P1_3_16.out.trans (a0.mono P1_3_16.out.size))) (CB.step HD.out (P1_3_16.out.trans (a0.mono P1_3_16.out.size))) (J1.out.step EQ.stable (P1_3_16.out.trans (a0.mono P1_3_16.out.size))) (CB.step HF.out (b_.out.trans (a0.mono b_.out.size))) (CB.step HL.out (P1_3_16.out.trans (a0.mono P1_3_16.out.size))) (QR.step K1.out (P1_3_16.out.trans (a0.mono P1_3_16.out.size)))))).mono ?_)
   rintro e wc17 ⟨Z0,rfl⟩;refine hK _ _ ⟨.int .i64 E,by simp only[FL,f0,e10] <;> kernel_rfl,Z0,rfl⟩
 ·intro xs z1 hbf;simp only[SY];have B19:=zz hbf;have z19:=B19.out.size;have j0:=tr p1 B19;clear hbf;generalize xs 8=x8,xs 10=x10;rintro f8 f10;obtain⟨bs21,rfl,Lb21⟩:=f8;obtain⟨bs22,rfl,Lb22⟩:=f10;refine EN 12 rfl fun K hK=>?_
  go_simp;refine hK _ _ ?_;clear hK K;(try simp only[PT])
  refine ED ?_;(try simp only[Exit.then])
  have hsa:=damped_of b2.out P1.out;by_cases hE0:E=0
  case neg=>
   have hx:(E != 0)=true:=by rw[bne_iff_ne];exact hE0
   have HR:=zz (hsa.1 hE0);clear hE0 hsa;go_wp2;go_ret2;exact⟨j0.out,by rw[HR.out];exact⟨_,rfl,rfl⟩⟩
  case pos=>
   obtain⟨hr,h1,h2,h2',hsl,h3,h4⟩:=hsa.2 hE0;subst hE0;obtain⟨-,hs4,hw4,hm1,hm2,hw1,hw2⟩:=okM_is h1;obtain⟨-,q0,-,-⟩:=okL_is h2;obtain⟨hde,hd4,-,-⟩:=okL_is h2';obtain⟨hle,hl4⟩:=small_is hsl;obtain⟨k,hk⟩:∃ k,k=wideQ (ratM M):=⟨_,rfl⟩;have hdk:d.length=k:=by rw[h4,hk,wide_raw]
   rw[← hk] at hw4 hw1 hw2;obtain⟨lam,hlam⟩:∃ lam,lam=(qv ((n,x),(m,y))).getD 0:=⟨_,rfl⟩;rw[← hlam] at hr hle hl4;obtain⟨Dq,hDq⟩:∃ Dq,Dq=rats d:=⟨_,rfl⟩;rw[← hDq] at hr hde hd4;have hdl:Dq.length=k:=by rw[hDq,rats,List.length_map,hdk]
   obtain⟨N,hN⟩:∃ N,N=normM (ratM M):=⟨_,rfl⟩;obtain⟨V,hV⟩:∃ V,V=normV (ratM M) (rats b):=⟨_,rfl⟩;have hnl:N.length=k:=by rw[hN,normM_ln,hk]
   have hvl:V.length=k:=by rw[hV,normV_ln,hk]
   have hnw:Wide N k:=by rw[hN,hk];exact normM_wd
   have hml:(ratM M).length=M.length:=by rw[ratM,List.length_map]
   have hns:Short 117 N:=by rw[hN];exact(normM_short hs4 (by decide)).mono (by rw[hml];omega)
   have hvs:∀ q∈V,QL 130 130 q:=by rw[hV];exact fun q hq=>((normV_short hs4 q0 (by decide) (by decide)) q hq).mono (by rw[hml];omega) (by rw[hml];omega)
   have hts:Short 130 (dampQ N lam Dq):=damp_short hns hl4 hd4;have htw:Wide (dampQ N lam Dq) k:=dampQ_wide hnw;have htl:(dampQ N lam Dq).length=k:=by rw[dampQ_len,hnl]
   obtain⟨T,hT⟩:∃ T,T=dampQ N lam Dq:=⟨_,rfl⟩;rw[← hN,← hV,← hT] at hr;rw[← hT] at hts htw htl;have hlr:RV w0 w0.heap.size (.agg #[.bool n,.slice L0 u c,.slice L1 u' c']) lam:=by have h:=K1.out;rw[show n=(qx lam).1.1 from congrArg (fun q=>q.1.1) hle,show x=(qx lam).1.2 from congrArg (fun q=>q.1.2) hle,show m=(qx lam).2.1 from congrArg (fun q=>q.2.1) hle,show y=(qx lam).2.2 from congrArg (fun q=>q.2.2) hle] at h;rw[show n=(qx lam).1.1 from congrArg (fun q=>q.1.1) hle];exact qv_rv (QR.qv h)
   have hgk:growQ 130 k≤20000*1000:=Nat.le_trans (growQ_mono hw2) (by decide);have HR:=zz hr;have H1:=zz h1;have H2:=zz h2;have H3:=zz h3;have A2:=zz hs4;have D2:=zz hw4;have q1:=zz q0;have E2:=zz hd4;have F2:=zz hde;have I2:=zz hdl;have d2:=zz hl4;have C1:=zz (And.intro hm1 (And.intro hm2 (And.intro hw1 hw2)));have HN:=zz hN;have HV:=zz hV;have Q1:=zz hnl;have F1:=zz hvl;have J2:=zz hnw;have K2:=zz hns;have R1:=zz hvs;have S1:=zz hts;have T1:=zz htw;have B1:=zz htl;have HT:=zz hT;have L2:=zz hlr;have M1:=zz hgk;have e2:=zz hdk;clear hr h1 h2 h2' hsl h3 h4 hs4 hw4 q0 hd4 hde hdl hl4 hle hlam hDq hm1 hm2 hw1 hw2 hsa hk hN hV hnl hvl hnw hml hns hvs hts htw htl hT hlr hgk hdk;go_upto_region 6 with (fail)
   have P1_3_23:=tr B2 B19;have D0:=CB.step m0 B19.out;have E0:=CB.step n0 B19.out;have F0:=CB.step o0 B19.out;have G0:=CB.step p0 B19.out;have M2:=zz D0;have HB4':=zz E0;have HD4':=zz F0;have HL4':=zz G0;have N2:=zz (O1.out.step (SE.stable EQ.stable) P1_3_23.out);have HS4':=zz (a2.out.step EQ.stable P1_3_23.out);have HDv:=zz (show QS z1 z1.heap.size (.slice D d.length cd) (Dq.map qx) from by rw[← F2.out];exact J1.out.step EQ.stable P1_3_23.out);have HLv:=zz (RV.step L2.out P1_3_23.out);have O2:=zz (j0.out);have hkk:(k:Int)≤6∧(1:Int)≤(k:Int):=by have:=C1.out;omega
   have A1:∀ w':World,Below z1.heap.size z1 w'→(Below z1.heap.size z1 w'∧w'.cell? ⟨w.heap.size,0,none⟩=some (.slice A M.length ca)∧w'.cell? ⟨w.heap.size+1,0,none⟩=some (.slice B b.length cb)):=fun w' h=>⟨h,(CB.step M2.out h).cell 0 rfl,(CB.step HB4'.out h).cell 0 rfl⟩
   refine Early.start 9 (fun w'=>Below z1.heap.size z1 w'∧w'.cell? ⟨w.heap.size,0,none⟩=some (.slice A M.length ca)∧w'.cell? ⟨w.heap.size+1,0,none⟩=some (.slice B b.length cb)) (by kernel_rfl) ?_;refine Early.take (i:=0) (.slice A M.length ca) rfl (by kernel_rfl) (by kernel_rfl) (by kernel_rfl) (by kernel_rfl) (by kernel_rfl) (fun _ _ _ h=>h) (Or.inl ⟨by rfl,?_⟩) ?_ ?_
   ·intro w' hSw;obtain⟨-,t0,t1⟩:=hSw;go_simp
   ·exact A1 _ (below_drew1 (Below.refl _ _))
   (try simp only[PT])
   refine Early.take (i:=2) (.slice B b.length cb) rfl (by kernel_rfl) (by kernel_rfl) (by kernel_rfl) (by kernel_rfl) (by kernel_rfl) (fun _ _ _ h=>h) (Or.inl ⟨by rfl,?_⟩) ?_ ?_
   ·intro w' hSw;obtain⟨-,t0,t1⟩:=hSw;go_simp
   ·exact A1 _ (below_drew1 (Below.refl _ _))
   (try simp only[PT])
   refine Early.next (i:=1) (by kernel_rfl) rfl (fun K hK=>?_);go_simp;(with_reducible refine(readM_any _ A _ ca M (SL.drew1 N2.out (SE.stable EQ.stable)) H1.out).mono ?_)
   rintro e w29 ⟨g0,g,G,C,rfl,hom⟩;replace g0:Below z1.heap.size z1 w29:=below_undrew g0;have B30:=zz g0;have z30:=B30.out.size;have a1:=tr j0 B30;clear g0;refine hK _ _ (fun _=>A1 _ B30.out) ?_;clear hK K;(try simp only[PT])
   have P2:=zz hom;clear hom;refine Early.next (i:=3) (by kernel_rfl) rfl (fun K hK=>?_);go_simp;(with_reducible refine(readL_any _ B _ cb b (HS4'.out.step EQ.stable B30.out) H2.out).mono ?_)
   rintro e w32 ⟨s0,g',rfl,hgl,hol⟩;have B33:=zz s0;have z33:=B33.out.size;have b1:=tr a1 B33;clear s0;have P3_5_35:=tr B30 B33;refine hK _ _ (fun _=>A1 _ P3_5_35.out) ?_;clear hK K;(try simp only[PT])
   have Q2:=zz hol;have t3:=zz hgl;clear hol hgl;refine Early.next (i:=4) (by kernel_rfl) rfl (fun K hK=>?_);go_simp;(with_reducible refine(normal_any _ _ _ _ _ _ _ (ratM M) (rats b) k 4 4 (slM (P2.out.step ER.stable B33.out) (by have:=C1.out;omega)) (slR Q2.out (by have:=C1.out;have:=H3.out;omega)) (by rw[ratM,List.length_map];have:=C1.out;omega) (by rw[ratM,rats,List.length_map,List.length_map,H3.out]) D2.out ⟨by rw[ratM,List.length_map];have:=C1.out;omega,by have:=C1.out;omega⟩ A2.out q1.out (by decide) (by rw[ratM,List.length_map];have:=C1.out;omega)).mono ?_)
   rintro e w36 ⟨u0,g2,G2,C2,g3,rfl,hom2,hgl2,hol2,hap2⟩;have B37:=zz u0;have z37:=B37.out.size;have u1:=tr b1 B37;clear u0;have P3_6_39:=tr P3_5_35 B37;refine hK _ _ (fun _=>A1 _ P3_6_39.out) ?_;clear hK K;(try simp only[PT])
   rw[← HN.out] at hom2;rw[← HV.out] at hol2;have p2:=zz hom2;have q2:=zz hol2;have r2:=zz hap2;clear hom2 hgl2 hol2 hap2;refine Early.next (i:=5) (by kernel_rfl) rfl (fun K hK=>?_);go_simp;refine hK _ _ (fun _=>A1 _ (P3_6_39.out)) ?_;clear hK K;(try simp only[PT])
   refine Early.take (i:=7) (.slice (some ⟨g3,0,none⟩) k k) rfl (by kernel_rfl) (by kernel_rfl) (by kernel_rfl) (by kernel_rfl) (by kernel_rfl) (fun _ _ _ h=>h) (Or.inl ⟨by rfl,?_⟩) ?_ ?_
   ·intro w' hSw;obtain⟨-,t0,t1⟩:=hSw;go_simp
   ·exact A1 _ (P3_6_39.out)
   (try simp only[PT])
   refine Early.next (i:=6) (by kernel_rfl) rfl (fun K hK=>?_);go_simp;refine hK _ _ (fun _=>A1 _ (P3_6_39.out)) ?_;clear hK K;(try simp only[PT])
   refine Early.next (i:=8) (by kernel_rfl) rfl (fun K hK=>?_);go_simp;refine hK _ _ (fun _=>A1 _ (P3_6_39.out)) ?_;clear hK K;(try simp only[PT])
   refine Early.next (i:=9) (by kernel_rfl) rfl (fun K hK=>?_);go_simp;refine hK _ _ (fun h=>absurd h (by decide)) ?_;clear hK K;(try simp only[PT])
   refine Early.done (by kernel_rfl) ?_ _;(try simp only[Exit.then])
   clear A1;have R2:Hid (OM 3 (ERo Option.none) 84 75 w36 z1.heap.size g2 k G2 C2 (mapTo (dampR lam Dq) 0 N)):=zz (by rw[mapTo_zero];exact(p2.out.weak (show z1.heap.size≤_ by omega)).mapE (fun _ _ h=>ERo.ofNone h));have r1:=zz (P3_6_39.out);have hz2:z1.heap.size≤w36.heap.size:=by omega
   have k0:=CB.step HD4'.out P3_6_39.out;have H0:=k0.cell 0 rfl;have U1:=k0.lt;go_wp2;clear H0 U1;go_loopw [45] (fun iv wr=>∃ i:Nat,i≤k∧iv=.int .i64 i∧Hid (OM 3 (ERo Option.none) 84 75 wr z1.heap.size g2 k G2 C2 (mapTo (dampR lam Dq) i N))∧Hid (OB 3 ER 84 wr g3 k V)∧Hid (Turns w36 wr (fun b:Nat=>z1.heap.size≤b))) (fun iv _=>k-(intOf iv).toNat)
   case atStart=>exact⟨0,Nat.zero_le _,rfl,R2,q2,zz (Turns.refl _ _)⟩
   case round=>
    obtain⟨i,hi,rfl,HO,V1,HW⟩:=hrel;have zr:=HW.out.size;have HWb:=zz (r1.out.trans (HW.out.below hz2 (fun b h=>h)));by_cases hlt:i<k
    ·have hin:i<N.length:=by rw[Q1.out];exact hlt
     have hid':i<Dq.length:=by rw[I2.out];exact hlt
     have G1:=zz (mapTo_wide (g:=dampR lam Dq) (n:=i) J2.out (fun i r h=>by unfold dampR;rw[List.length_set];exact h));have i2:=zz (show(mapTo (dampR lam Dq) i N).length=k by rw[mapTo_len,Q1.out]);have W1:=zz (damp_at (lam:=lam) (D:=Dq) hin);have N1:=zz (damp_set (lam:=lam) (D:=Dq) hin);generalize mapTo (dampR lam Dq) i N=MK at HO G1 i2 W1 N1;have hik:i<MK.length:=by rw[i2.out];exact hlt
     obtain⟨x0,hx0⟩:∃ x,x=(N.getD i []).getD i 0:=⟨_,rfl⟩;rw[← hx0] at W1 N1;have S2:=zz hx0;clear hx0;have hrow:G2 i≠g2∧z1.heap.size≤G2 i:=HO.out.apart i hik;have T2:=zz hrow;clear hrow;obtain⟨xn,xA,xl,xc,xB,xu,xd,hEx,hv⟩:=OM.elem HO.out G1.out hik hlt;rw[W1.out] at hv;have U2:=zz hv;clear hv;obtain⟨gd,offd,yA,yl,yc,yB,yu,yd,rfl,hgd,hEd,hvd⟩:=QS.elem HDv.out (j:=i) (by rw[List.length_map];exact hid');replace hEd:=hEd.step HWb.out;simp only[List.getElem_map] at hEd hvd;have j2:=zz (QV.step (QR.qv hvd) HWb.out);clear hvd hgd;obtain⟨z,hz⟩:∃ z,z=Dq[i]:=⟨_,rfl⟩;have hzd:Dq.getD i 0=z:=by rw[hz,getD_is hid']
     have hqz:QL 4 4 z:=by rw[hz];exact E2.out _ (List.getElem_mem hid')
     rw[← hz] at hEd j2;rw[hzd] at N1;have k2:=zz hqz;clear hqz hzd hz;have V2:Hid (QL 117 117 x0):=zz (by rw[S2.out];exact short_getD (K2.out.row i) (by decide) i);have hji:(0:Int)≤(i:Int)∧(i:Int)<(k:Int):=by omega
     have hjd:(i:Int)<(d.length:Int):=by have:=e2.out;omega
     have HDr:=zz (CB.step HD4'.out HWb.out);have HLr:=zz (CB.step HL4'.out HWb.out);have HLvr:=zz (RV.step HLv.out HWb.out);have I0:=hEd.c0;have J0:=hEd.c1;have K0:=hEd.c2;have M0:=hEd.c3;have X1:=hEd.lt;go_upto_region 10 with (fail)
     clear I0 J0 K0 M0 X1;obtain⟨w43,e0⟩:∃ w43:World,w43=(wr.alloc (.cells #[.bool (qx z).1.1,.slice yA yl yc,.bool (qx z).2.1,.slice yB yu yd] 33)):=⟨_,rfl⟩;rw[← e0];have N0:=n1_0 e0;have za43:=n1_z e0;have B44:=zz (n1_b e0);have z44:=B44.out.size;have d1:=tr HWb B44;clear e0;have l2:=zz (OM.head HO.out G1.out hik);have HCA':=zz (OM.caps HO.out G1.out hik);have b0:=E3.step hEx B44.out;have O0:=CB.step HLr.out B44.out
     refine Sweep.r0 [se 0 50 [] (.slice (some ⟨g2,0,none⟩) k k),se 1 51 [] (.int .i64 (i:Int)),se 2 52 [0,1] (.pointer (some ⟨g2,i,none⟩)),se 3 53 [2] (.slice (some ⟨G2 i,0,none⟩) k (C2 i)),se 4 54 [] (.int .i64 (i:Int)),se 5 55 [] (.slice (some ⟨g2,0,none⟩) k k),se 6 56 [] (.int .i64 (i:Int)),se 7 57 [5,6] (.pointer (some ⟨g2,i,none⟩)),se 8 58 [7] (.slice (some ⟨G2 i,0,none⟩) k (C2 i)),se 9 59 [] (.int .i64 (i:Int)),se 10 60 [8,9] (.pointer (some ⟨G2 i,i*3,none⟩)),se 11 61 [10] (.agg #[.bool xn,.slice xA xl xc,.slice xB xu xd]),se 12 62 [] (.agg #[.bool n,.slice L0 u c,.bool m,.slice L1 u' c']),se 13 63 [12] (.agg #[.bool n,.slice L0 u c,.slice L1 u' c']),se 14 64 [] (.agg #[.bool (qx z).1.1,.slice yA yl yc,.bool (qx z).2.1,.slice yB yu yd]),se 15 65 [14] (.agg #[.bool (qx z).1.1,.slice yA yl yc,.slice yB yu yd]),sf 16 66 [13,15] (fun fv fw=>RV fw fw.heap.size fv (lam*z)),sf 17 67 [11,16] (fun fv fw=>(RVn wr.heap.size) fw fw.heap.size fv (x0+lam*z)),se 18 68 [3,4] (.pointer (some ⟨G2 i,i*3,none⟩))] 1 (SC (fun _ h=>(E3.step b0 h).c0) (SC (fun _ h=>(E3.step b0 h).c1) (SC (fun _ h=>(E3.step b0 h).c2) (SB O0 (SB N0 S0))))) (MA (fun _ _ _ h hb=>h.step hb) (MA (fun _ _ _ h hb=>RVn.step h hb) trivial)) ?_ ?_
     ·intro xs a_ hA;simp only[SX] at hA
      iterate 19 (refine ac ?_ ?_;rotate_left)
      exact all_nil
      all_goals (intro wk hb;simp only[SX,↓reduceIte,Nat.reduceEqDiff,Nat.reduceAdd];have b_:=zz hb;have z_:=hb.size;clear hb;subst hA)
      any_goals (intro f2;intros;(refine wpOp_step (i:=3) (o:=_) rfl (fun K hK=>?_));have P1_3_48:=tr B44 b_;have qv0:=(Below.cell P1_3_48.out (p:=⟨g2,i,none⟩) HO.out.lt).trans l2.out;go_simp;(refine hK _ _ ⟨.slice (some ⟨G2 i,0,none⟩) k (C2 i),by simp only[FL,f2] <;> kernel_rfl,Below.refl _ _,rfl⟩))
      any_goals (intro f7;intros;(refine wpOp_step (i:=8) (o:=_) rfl (fun K hK=>?_));have P1_3_49:=tr B44 b_;have qv0:=(Below.cell P1_3_49.out (p:=⟨g2,i,none⟩) HO.out.lt).trans l2.out;go_simp;(refine hK _ _ ⟨.slice (some ⟨G2 i,0,none⟩) k (C2 i),by simp only[FL,f7] <;> kernel_rfl,Below.refl _ _,rfl⟩))
      any_goals (intro f8 f9;intros;(refine wpOp_step (i:=10) (o:=_) rfl (fun K hK=>?_));have P1_3_50:=tr B44 b_;have qv0:=HCA'.out;go_simp;(refine hK _ _ ⟨.pointer (some ⟨G2 i,i*3,none⟩),by simp only[FL,f8,f9] <;> kernel_rfl,Below.refl _ _,rfl⟩))
      any_goals (intro f3 f4;intros;(refine wpOp_step (i:=18) (o:=_) rfl (fun K hK=>?_));have P1_3_51:=tr B44 b_;have qv0:=HCA'.out;go_simp;(refine hK _ _ ⟨.pointer (some ⟨G2 i,i*3,none⟩),by simp only[FL,f3,f4] <;> kernel_rfl,Below.refl _ _,rfl⟩))
      any_goals (intros;refine wpOp_step rfl ?_;intro K hK;go_simp;refine hK _ _ ⟨_,?_,Below.refl _ _,rfl⟩;simp only[*,FL] <;> kernel_rfl)
      ·intro f12;intros;refine wpOp_step (o:=_) rfl (fun K hK=>?_);go_simp;(with_reducible refine(Read_any _ _ _ _ _ _ _ _ _).mono ?_)
       rintro e wc52 ⟨e1,rfl⟩;refine hK _ _ ⟨.agg #[.bool n,.slice L0 u c,.slice L1 u' c'],by simp only[FL,f12] <;> kernel_rfl,e1,rfl⟩
      ·intro f14;intros;refine wpOp_step (o:=_) rfl (fun K hK=>?_);go_simp;(with_reducible refine(Read_any _ _ _ _ _ _ _ _ _).mono ?_)
       rintro e wc53 ⟨g1,rfl⟩;refine hK _ _ ⟨.agg #[.bool (qx z).1.1,.slice yA yl yc,.slice yB yu yd],by simp only[FL,f14] <;> kernel_rfl,g1,rfl⟩
      ·intro f13 f15;intros;refine wpOp_step (o:=_) rfl (fun K hK=>?_);go_simp;have P1_3_54:=tr B44 b_;have l0:=zz (RV.step HLvr.out P1_3_54.out);have P0:=zz (QV.step j2.out P1_3_54.out);(with_reducible refine(Prod_any _ _ _ lam z l0.out (qv_rv P0.out) (d2.out.mono (by decide) (by decide)) (k2.out.mono (by decide) (by decide))).mono ?_)
       rintro e wc57 ⟨i1,v57,rfl,j1⟩;refine hK _ _ ⟨v57,by simp only[FL,f13,f15] <;> kernel_rfl,i1,j1⟩
      ·intro f11 f16;intros;refine wpOp_step (o:=_) rfl (fun K hK=>?_);go_simp;have P1_3_58:=tr B44 b_;have Q0:=zz (RV.step U2.out P1_3_58.out);(with_reducible refine(Sum_newL _ _ _ _ _ Q0.out f16 (V2.out.mono (by decide) (by decide)) ((d2.out.mul k2.out).mono (by decide) (by decide))).mono ?_)
       rintro e wc60 ⟨k1,v60,rfl,l1⟩;refine hK _ _ ⟨v60,by simp only[FL,f11] <;> kernel_rfl,k1,RVn.weak l1 (by omega)⟩
     ·intro xs m3 hbf;simp only[SY];have B62:=zz hbf;have z62:=B62.out.size;have v1:=tr d1 B62;clear hbf;generalize xs 16=x16,xs 17=x17;rintro f16 f17;clear f16;obtain⟨n3,o3,p3,q3,r3,s1,s3,rfl,v0,hf64⟩:=RVn.opened f17;have R0:=zz v0;have HNs:=zz hf64;clear v0 hf64;have P1_3_65:=tr B44 B62;have I1:=zz (OM.step HO.out ERo.stable P1_3_65.out);obtain⟨hpu,htu⟩:=OM.put (S:=(fun b:Nat=>z1.heap.size≤b)) I1.out G1.out hik hlt T2.out.2 R0.out HNs.out (fun X hX=>by cases hX);have hvb:=OB.far (V1.out.step ER.stable P1_3_65.out) ER.soft (show g3≠G2 i by have:=r2.out.2 i hlt;omega) htu.soft;rw[N1.out] at hpu;have W2:=zz hpu;have X2:=zz hvb;have Y2:=zz ((HW.out.trans (Turns.of P1_3_65.out)).trans htu);clear hpu htu hvb;have d0:=E3.step b0 B62.out;have T0:=d0.c0;have U0:=d0.c1;have V0:=d0.c2;have Y1:=d0.lt;have fz0:=OM.rowfz I1.out hik (i*3);have fz1:=OM.rowfz I1.out hik (i*3+1);have fz2:=OM.rowfz I1.out hik (i*3+2);have flt:=OM.rowlt I1.out hik;refine EN 19 rfl fun K hK=>?_;go_simp;refine hK _ _ ?_;clear hK K fz0 fz1 fz2 flt;(try simp only[PT])
      clear T0 U0 V0 Y1;refine ED ?_;(try simp only[Exit.then])
      go_wp2;go_roundw
      case rel=>exact⟨i+1,hlt,by go_num,W2,X2,Y2⟩
      case measure=>simp[intOf];omega
    ·obtain rfl:i=k:=by omega
     have hend:(i:Int)=(d.length:Int):=by have:=e2.out;omega
     have m2:=zz ((OM.ofEq HO.out (show mapTo (dampR lam Dq) i N=T by rw[mapTo_full (Nat.le_of_eq Q1.out),HT.out];rfl)).mapE (fun _ _ h=>ERo.er h));clear HO;have HBz:=tr O2 HWb;cases hso:solveQ T V
     case none=>
      have D1:=zz hso;clear hso;go_wp2_with fail
      refine((solve_any _ _ _ _ _ _ _ T V i 130 (B1.out▸m2.out.sl (c:=i) (by rw[B1.out];exact Nat.le_refl _) (by omega)) (F1.out▸V1.out.sl (c:=i) (by rw[F1.out];exact Nat.le_refl _) (by omega)) (by rw[B1.out];omega) (by omega) (by rw[B1.out,F1.out];exact Nat.le_refl _) T1.out ⟨by rw[B1.out];omega,by omega⟩ S1.out R1.out (by decide) (by have:=M1.out;omega)).mono (fun _ _ h=>And.intro h.1 (solN D1.out h.2))).mono ?_;rintro e w68 ⟨y0,rfl⟩;have B69:=zz y0;have z69:=B69.out.size;have m1:=tr HBz B69;clear y0;go_wp2;go_ret2;exact⟨m1.out,by rw[HR.out,D1.out];exact⟨_,rfl,rfl⟩⟩
     case some r=>
      have D1:=zz hso;clear hso;go_wp2_with fail
      refine((solve_any _ _ _ _ _ _ _ T V i 130 (B1.out▸m2.out.sl (c:=i) (by rw[B1.out];exact Nat.le_refl _) (by omega)) (F1.out▸V1.out.sl (c:=i) (by rw[F1.out];exact Nat.le_refl _) (by omega)) (by rw[B1.out];omega) (by omega) (by rw[B1.out,F1.out];exact Nat.le_refl _) T1.out ⟨by rw[B1.out];omega,by omega⟩ S1.out R1.out (by decide) (by have:=M1.out;omega)).mono (fun _ _ h=>And.intro h.1 (solS D1.out h.2))).mono ?_;rintro e w71 ⟨A0,gx,rfl,hgx,hox⟩;have B72:=zz A0;have z72:=B72.out.size;have n1:=tr HBz B72;clear A0;have Z2:=zz hox;clear hox hgx;have hwq:wideQ T=i:=by rw[wideQ,T1.out.getD (by rw[B1.out];omega)]
      have hxl:r.length=i:=by rw[solveQ_len D1.out,hwq]
      have n2:=zz hxl;have o2:=zz hwq;clear hxl hwq;go_wp2_with fail
      refine(ltold_any _ _ _ _ r (Z2.out.sl (Nat.le_refl _) (by rw[n2.out];omega)) (fun q hq=>(solveQ_short D1.out S1.out R1.out (by decide) q hq).mono (by rw[o2.out];have:=M1.out;omega) (by rw[o2.out];have:=M1.out;omega)) (by rw[n2.out];omega)).mono ?_;rintro e w74 ⟨C0,v,rfl,hv⟩;have B75:=zz C0;have z75:=B75.out.size;have o1:=tr n1 B75;clear C0;have a3:=zz hv;clear hv;go_wp2;go_ret2;exact⟨o1.out,by rw[HR.out,D1.out];exact⟨_,rfl,a3.out⟩⟩
end Go.Proofs.YtdigbofiebfkeaaGreatDoor
