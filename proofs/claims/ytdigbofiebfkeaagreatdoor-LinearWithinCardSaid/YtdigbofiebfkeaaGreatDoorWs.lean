/- Layer 35, the law package: system (written by gen_sys.py). -/
import Derived.Test.YtdigbofiebfkeaaGreatDoorWq
import Derived.Test.YtdigbofiebfkeaaGreatDoorWn
namespace Go.Proofs.YtdigbofiebfkeaaGreatDoor
open Go Go.RowKit Dig
set_option maxRecDepth 100000
set_option maxHeartbeats 4000000
set_option linter.unusedSimpArgs false
theorem DV.cut2 {w:World} {B:Nat} {r c y z:Int} {N D:List Int} {s t:Value} (h:DV w B (.agg #[.int .u8 r,.int .u8 c,s,t]) r c N D) (hy:0≤y∧y≤255) (hz:0≤z∧z≤255):DV w B (.agg #[.int .u8 y,.int .u8 z,s,t]) y z N D:=by
  obtain⟨A,ca,A',cd,e,h0,h1,h2⟩:=h;injection e with e
  simp at e
  obtain⟨rfl,rfl⟩:=e;exact⟨A,ca,A',cd,rfl,⟨hy.1,hy.2,hz.1,hz.2⟩,h1,h2⟩
def Zed (w:World) (b:Nat):Prop:=∀ p v,w.cell? ⟨b,p,none⟩=some v→v=.bool false∨v=.slice none 0 0
theorem Zed.of {w:World} {b:Nat} {t:TypeId} {cs:Array Value} (h:CB w b t cs) (hc:∀ v∈cs.toList,v=.bool false∨v=.slice none 0 0):Zed w b:=fun p v hv=>by
  unfold CB at h;simp only[World.cell?,h] at hv
  exact hc v (by have:=Array.mem_of_getElem? (by simpa using hv);simpa using this)
section
variable {w w':World} {b:Nat}
theorem cell_far (h:∀ g,g≠b→w'.heap[g]?=w.heap[g]?) {g p:Nat} (hg:g≠b):w'.cell? ⟨g,p,none⟩=w.cell? ⟨g,p,none⟩:=by simp[World.cell?,h g hg]
theorem QS.far {v:Value} {l:List Rat} (hQ:QS w w.heap.size v (l.map qx)) (hz:Zed w b) (hh:∀ g,g≠b→w'.heap[g]?=w.heap[g]?) (hs:Go.Proofs.YtdigbofiebfkeaaGreatDoor.Soft w w') (hsz:w.heap.size≤w'.heap.size):QS w' w'.heap.size v (l.map qx):=by
  obtain⟨A',c',e,h1,h2,h3⟩:=hQ;refine⟨A',c',e,h1,h2,fun h0=>?_⟩;obtain⟨g,off,e1,hg,hx⟩:=h3 h0;refine⟨g,off,e1,Nat.lt_of_lt_of_le hg hsz,fun j hj=>?_⟩;obtain⟨cs,k1,k2,k3⟩:=hx j hj;have hgb:g≠b:=fun e2=>by
    subst e2;simp only[List.getElem_map] at k3
    generalize l[j]'(by simpa using hj)=q at k3;obtain⟨c0,c1,c2,c3,rfl,B0,n0,d0,B1,n1,d1,e4,-,r2⟩:=k3;injection e4 with e4
    simp at e4
    obtain⟨rfl,rfl,rfl,rfl⟩:=e4;rcases hz _ _ (k2 3 _ rfl) with h5 | h5
    · cases h5
    · injection h5 with _ h6 _
      have h7:=RI.len r2;rw[h6] at h7;have h8:=dig_len_pos (n:=q.den) q.den_nz;simp[qx,ni_length] at h7
      omega
  exact⟨cs,k1,fun i u hu=>(cell_far hh hgb).trans (k2 i u hu),EQ.soft k3 hs⟩
theorem QM.far {v:Value} {M:List (List Rat)} (hQ:QM w w.heap.size v (M.map (List.map qx))) (hM:∀ r∈M,0<r.length) (hz:Zed w b) (hh:∀ g,g≠b→w'.heap[g]?=w.heap[g]?) (hs:Go.Proofs.YtdigbofiebfkeaaGreatDoor.Soft w w') (hsz:w.heap.size≤w'.heap.size):QM w' w'.heap.size v (M.map (List.map qx)):=by
  obtain⟨A',c',e,h1,h2,h3⟩:=hQ;refine⟨A',c',e,h1,h2,fun h0=>?_⟩;obtain⟨g,off,e1,hg,hx⟩:=h3 h0;refine⟨g,off,e1,Nat.lt_of_lt_of_le hg hsz,fun j hj=>?_⟩;obtain⟨cs,k1,k2,k3⟩:=hx j hj;have hr:0<(M[j]'(by simpa using hj)).length:=hM _ (List.getElem_mem _);simp only[List.getElem_map] at k3 ⊢
  generalize M[j]'(by simpa using hj)=r at k3 hr;obtain⟨u,rfl,hu⟩:=k3;have hgb:g≠b:=fun e2=>by
    subst e2;obtain⟨A2,c2,e3,-⟩:=hu;have h4:=hz _ _ (k2 0 _ rfl);rw[e3] at h4;rcases h4 with h5 | h5
    · cases h5
    · injection h5 with _ h6 _
      rw[List.length_map] at h6
      omega
  exact⟨[u],k1,fun i x hx'=>(cell_far hh hgb).trans (k2 i x hx'),u,rfl,QS.far hu hz hh hs hsz⟩
end
theorem far_sets {b g:Nat} (hg:g≠b):∀ {cs:List Value} {w:World} {p:Nat},(setCells w b p cs).heap[g]?=w.heap[g]?
  | [],_,_=>rfl
  | c :: cs,w,p=>(far_sets hg (cs:=cs)).trans (Below.heap_setCell w ⟨b,p,none⟩ c g hg)
theorem size_sets {b:Nat}:∀ {cs:List Value} {w:World} {p:Nat},(setCells w b p cs).heap.size=w.heap.size
  | [],_,_=>rfl
  | c :: cs,w,p=>(size_sets (cs:=cs)).trans (by simp[World.setCell])
theorem put_all {w w':World} {b:Nat} {t:TypeId} {cs ds:List Value} (e:w'=setCells w b 0 ds) (h:CB w b t cs.toArray) (hl:ds.length=cs.length) (hn:∀ v∈cs,noInt v=true):CB w' b t ds.toArray∧Go.Proofs.YtdigbofiebfkeaaGreatDoor.Soft w w'∧(∀ g,g≠b→w'.heap[g]?=w.heap[g]?)∧w'.heap.size=w.heap.size:=by
  subst e;obtain⟨arr,h1,h2,h3,-⟩:=CB.sets (cs:=ds) (p:=0) h (by simp[hl]);have e:arr=ds.toArray:=by
    apply Array.ext_getElem?
    intro i;rcases Nat.lt_or_ge i ds.length with hi | hi
    · have:=h3 i _ (List.getElem?_eq_getElem hi)
      rw[Nat.zero_add] at this;simp[this,hi]
    · rw[Array.getElem?_eq_none (by rw[h2];simpa[hl] using hi)]
      simp[hi]
  rw[e] at h1;exact⟨h1,soft_sets h (fun i v _ hv=>hn v (by have:=Array.mem_of_getElem? hv;simpa using this)),fun g hg=>far_sets hg,size_sets⟩
theorem absL_succ (N D:List Int) (e j:Nat):dampD N D e (j+1)=dampD N D e j++[absR (numD N D (e+j))]:=by unfold dampD absL;rw[listD_succ,List.map_append];rfl
theorem system_any (w:World) (v:Value) (r c:Int) (N D:List Int) (h:DV w w.heap.size v r c N D) (v2:Value) (r2 c2:Int) (N2 D2:List Int) (h2:DV w w.heap.size v2 r2 c2 N2 D2) (n k m:Nat) (hn:1+(r % 6).toNat=n) (hk:1+(c % 4).toNat=k) (hm:1+(r2 % 4).toNat=m) :
    Calls Tryz.prog 6 #[v,v2] w fun e w'=>Below w.heap.size w w'∧∃ ga oa ca gb ob cb A1 c1 A2 c2 A3 c3 m0 A4 l4 c4 m5 A5 l5 c5,e=.returned (.agg #[.slice (some ⟨ga,oa,none⟩) n ca,.slice (some ⟨gb,ob,none⟩) m cb,.slice A1 n c1,.slice A2 k c2,.slice A3 m c3,.bool m0,.slice A4 l4 c4,.bool m5,.slice A5 l5 c5]) ∧
      VM w' w'.heap.size (.slice (some ⟨ga,oa,none⟩) n ca) (rowsD N D k n)∧VM w' w'.heap.size (.slice (some ⟨gb,ob,none⟩) m cb) (rowsD N2 D2 k m)∧VL w' w'.heap.size (.slice A1 n c1) (listD N D 11 n)∧VL w' w'.heap.size (.slice A2 k c2) (dampD N D 7 k)∧VL w' w'.heap.size (.slice A3 m c3) (listD N2 D2 3 m)∧QV w' w'.heap.size (.agg #[.bool m0,.slice A4 l4 c4,.bool m5,.slice A5 l5 c5]) (dampF N2 D2 5):=by
  obtain⟨A,ka,A',ka',rfl,h0⟩:=h.parts;obtain⟨B,kb,B',kb',rfl,h02⟩:=h2.parts;obtain⟨y,hy⟩:∃ y,r2 % 4=y:=⟨_,rfl⟩;have hy4:0≤y∧y<4:=by omega
  have hyt:Int.tmod r2 4=y:=by rw[← hy];exact Int.tmod_eq_emod_of_nonneg h02.1
  have hwy:IntKind.u8.wrap y=y:=by unfold IntKind.wrap;simp only[IntKind.bits,IntKind.signed];simp;omega
  have z3:=zz (show matD r c N D=rowsD N D k n by unfold matD;rw[hn,hk]);have w3:=zz (show matD y c N2 D2=rowsD N2 D2 k m by unfold matD;rw[hk,show y % 6=r2 % 4 by omega,hm]);have Z2:=zz h;have a3:=zz (DV.cut2 (y:=y) (z:=c) h2 (by omega) ⟨h0.2.2.1,h0.2.2.2⟩);have HN:=zz (show(1≤n∧n≤6)∧(1≤k∧k≤4)∧1≤m∧m≤4 by omega);obtain⟨iq,hiq,hzq,hsq,hbq⟩:=info_parts info_quot;clear h h2 h0 h02 hn hk hm hy;obtain⟨w0,hw0⟩:∃ w0:World,w0=(((w.alloc (.cells #[.int .u8 r,.int .u8 c,.slice A N.length ka,.slice A' D.length ka'] 25)).alloc (.cells #[.int .u8 r2,.int .u8 c2,.slice B N2.length kb,.slice B' D2.length kb'] 25)).alloc (.cells #[.slice none 0 0,.slice none 0 0,.slice none 0 0,.slice none 0 0,.slice none 0 0,.bool false,.slice none 0 0,.bool false,.slice none 0 0] 35)):=⟨_,rfl⟩;have B0:=zz (n3_b hw0);have z0:=n3_z hw0;have Ldd:=n3_0 hw0;have Ldc:=n3_1 hw0;have Lso:=n3_2 hw0;go_enter Tryz.func6,Tryz.ntmps6
  go_upto_region 1 with (fail)
  rw[← hw0];clear hw0;have a2:=Ldd.cell 0 rfl;have b2:=Ldd.cell 1 rfl;have d2:=Ldd.cell 2 rfl;have g2:=Ldd.cell 3 rfl;have r3:=Ldd.lt;have i2:=Ldc.cell 0 rfl;have j2:=Ldc.cell 1 rfl;have k2:=Ldc.cell 2 rfl;have l2:=Ldc.cell 3 rfl;have s3:=Ldc.lt;have m2:=Ldc.frozen 0;have n2:=Ldc.frozen 1;have o2:=Ldc.frozen 2;have p2:=Ldc.frozen 3;have t3:=Ldc.lt;go_upto_region 2 with (fail)
  clear a2 b2 d2 g2 r3 i2 j2 k2 l2 s3 m2 n2 o2 p2 t3;obtain⟨w4,n0⟩:∃ w4:World,w4=w0.setCell ⟨w.heap.size+1,1,none⟩ (.int .u8 c):=⟨_,rfl⟩;rw[← n0];have T0:=p1_f n0 Ldd (by omega);have U0:=p1_f n0 Lso (by omega);have V0:CB w4 (w.heap.size+1) 25 #[.int .u8 r2,.int .u8 c,.slice B N2.length kb,.slice B' D2.length kb']:=by rw[n0];exact(CB.set Ldc 1 (.int .u8 c))
  have q2:=zz (p1_b n0 B0.out (by omega));have Q2:=p1_z n0;clear n0;obtain⟨w5,o0⟩:∃ w5:World,w5=w4.setCell ⟨w.heap.size+1,0,none⟩ (.int .u8 y):=⟨_,rfl⟩;rw[← o0];have x0:=p1_f o0 T0 (by omega);have t0:=p1_f o0 U0 (by omega);have u0:CB w5 (w.heap.size+1) 25 #[.int .u8 y,.int .u8 c,.slice B N2.length kb,.slice B' D2.length kb']:=by rw[o0];exact(CB.set V0 0 (.int .u8 y))
  have p0:=zz (p1_b o0 q2.out (by omega));have R2:=p1_z o0;clear o0;clear hyt hwy hy4;refine Sweep.r0 [se 0 18 [] (.agg #[.int .u8 r,.int .u8 c,.slice A N.length ka,.slice A' D.length ka']),sf 1 19 [0] (fun fv fw=>∃ g o c,fv=.slice (some ⟨g,o,none⟩) n c∧VM fw fw.heap.size (.slice (some ⟨g,o,none⟩) n c) (rowsD N D k n)),se 2 20 [] (.agg #[.int .u8 y,.int .u8 c,.slice B N2.length kb,.slice B' D2.length kb']),sf 3 21 [2] (fun fv fw=>∃ g o c,fv=.slice (some ⟨g,o,none⟩) m c∧VM fw fw.heap.size (.slice (some ⟨g,o,none⟩) m c) (rowsD N2 D2 k m))] 2 (SB x0 (SB u0 S0)) (MA (fun _ _ _ h hb=>let ⟨g,o,c,e,h⟩:=h;⟨g,o,c,e,VM.step h hb⟩) (MA (fun _ _ _ h hb=>let ⟨g,o,c,e,h⟩:=h;⟨g,o,c,e,VM.step h hb⟩) trivial)) ?_ ?_
  · intro xs a_ hA;simp only[SX] at hA
    refine(ac ?_ (ac ?_ (ac ?_ (ac ?_ all_nil))))
    all_goals (intro wk hb;simp only[SX,↓reduceIte,Nat.reduceEqDiff,Nat.reduceAdd];have b_:=zz hb;have z_:=hb.size;clear hb;subst hA)
    any_goals (intros;refine wpOp_step rfl ?_;intro K hK;go_simp;refine hK _ _ ⟨_,?_,Below.refl _ _,rfl⟩;simp only[*,FL] <;> kernel_rfl)
    · intro f0;intros
      refine wpOp_step (o:=_) rfl (fun K hK=>?_);go_simp;(with_reducible refine(matrix_ok (Z2.out.step (p0.out.trans (b_.out.mono p0.out.size))) z3.out (by have:=HN.out;omega)).mono ?_)
      rintro e wc6 ⟨E2,g6,o6,c6,rfl,h6⟩;refine hK _ _ ⟨.slice (some ⟨g6,o6,none⟩) n c6,by simp only[FL,f0] <;> kernel_rfl,E2,⟨g6,o6,c6,rfl,h6⟩⟩
    · intro f2;intros
      refine wpOp_step (o:=_) rfl (fun K hK=>?_);go_simp;(with_reducible refine(matrix_ok (a3.out.step (p0.out.trans (b_.out.mono p0.out.size))) w3.out (by have:=HN.out;omega)).mono ?_)
      rintro e wc7 ⟨F2,g7,o7,c7,rfl,h7⟩;refine hK _ _ ⟨.slice (some ⟨g7,o7,none⟩) m c7,by simp only[FL,f2] <;> kernel_rfl,F2,⟨g7,o7,c7,rfl,h7⟩⟩
  · intro xs O3 hbf;simp only[SY]
    have B9:=zz hbf;have z9:=B9.out.size;have v0:=tr p0 B9;clear hbf;generalize xs 1=x1,xs 3=x3;rintro f1 f3;obtain⟨ga,oa,ca,rfl,h9⟩:=f1;have Hma:=zz h9;clear h9;obtain⟨gb,ob,cb,rfl,h9⟩:=f3;have Hmb:=zz h9;clear h9;refine EN 4 rfl fun K hK=>?_
    go_simp;refine hK _ _ ?_;clear hK K;(try simp only[PT])
    refine EN 5 rfl fun K hK=>?_
    go_simp;refine hK _ _ ?_;clear hK K;(try simp only[PT])
    refine ED ?_;(try simp only[Exit.then])
    obtain⟨A0,c0,hg0,hc0,-⟩:=VM.head0 (k:=k) Hma.out (rowsD_wide k n) (by rw[rowsD_len];have:=HN.out;omega);have B3:=zz hg0;have C3:=zz hc0;clear hg0 hc0;have hn0:(0:Int)<(n:Int):=by have:=HN.out;omega
    have hn0':0<n:=by have:=HN.out;omega
    go_upto_region 4 with (fail)
    have j0:=CB.step x0 B9.out;refine Sweep.r0 [se 0 22 [] (.agg #[.int .u8 r,.int .u8 c,.slice A N.length ka,.slice A' D.length ka']),se 1 23 [] (.slice (some ⟨ga,oa,none⟩) n ca),se 2 24 [1] (.pointer (some ⟨ga,oa,none⟩)),se 3 25 [2] (.slice A0 k c0),se 4 26 [3] (.int .i64 (k:Int)),sf 5 27 [0,4] (fun fv fw=>∃ A c,fv=.slice A k c∧VL fw fw.heap.size (.slice A k c) (listD N D 7 k)),se 6 28 [5] (.int .i64 (k:Int)),se 7 29 [] (.int .i64 0)] 0 (SB j0 S0) (MA (fun _ _ _ h hb=>let ⟨A,c,e,h⟩:=h;⟨A,c,e,VL.step h hb⟩) trivial) ?_ ?_
    · intro xs a_ hA;simp only[SX] at hA
      iterate 8 (refine ac ?_ ?_;rotate_left)
      exact all_nil
      all_goals (intro wk hb;simp only[SX,↓reduceIte,Nat.reduceEqDiff,Nat.reduceAdd];have b_:=zz hb;have z_:=hb.size;clear hb;subst hA)
      any_goals (intro f2;intros;(refine wpOp_step (i:=3) (o:=_) rfl (fun K hK=>?_));have qv0:=(Below.cell b_.out (p:=⟨ga,oa,none⟩) B3.out).trans C3.out;go_simp;(refine hK _ _ ⟨.slice A0 k c0,by simp only[FL,f2] <;> kernel_rfl,Below.refl _ _,rfl⟩))
      any_goals (intros;refine wpOp_step rfl ?_;intro K hK;go_simp;refine hK _ _ ⟨_,?_,Below.refl _ _,rfl⟩;simp only[*,FL] <;> kernel_rfl)
      · intro f0 f4;intros
        refine wpOp_step (o:=_) rfl (fun K hK=>?_);go_simp;(with_reducible refine(dlist_lit (n:=k) (f:=7) (Z2.out.step (v0.out.trans (b_.out.mono v0.out.size))) (by decide) (by have:=HN.out;omega) (by decide)).mono ?_)
        rintro e wc12 ⟨s2,A12,c12,rfl,h12⟩;refine hK _ _ ⟨.slice A12 k c12,by simp only[FL,f0,f4] <;> kernel_rfl,s2,⟨A12,c12,rfl,h12⟩⟩
      · intro f5;intros
        refine wpOp_step (o:=_) rfl (fun K hK=>?_);obtain⟨A9,c9,hu,-⟩:=f5;rw[hu];go_simp;refine hK _ _ ⟨.int .i64 (k:Int),by simp only[FL,hu] <;> kernel_rfl,Below.refl _ _,rfl⟩
    · intro xs U2 hbf;simp only[SY]
      have B14:=zz hbf;have z14:=B14.out.size;have t2:=tr v0 B14;clear hbf;generalize xs 5=x5;rintro f5;obtain⟨A7,c7,rfl,h9⟩:=f5;have Hl7:=zz h9;clear h9;refine ED ?_;(try simp only[Exit.then])
      clear hn0 hn0';have b3:=zz (show(k:Int)≤4 by have:=HN.out;omega);go_wp2;go_loopw [7,29] (fun ov iv wr=>∃ j:Nat,j≤k∧iv=.int .i64 j∧Hid (OA 4 EQ 33 wr U2.heap.size ov ((dampD N D 7 j).map qx))∧Hid (Below U2.heap.size U2 wr)) (fun _ iv _=>k-(intOf iv).toNat)
      case atStart=>exact⟨0,Nat.zero_le _,rfl,zz OA.nil,zz (Below.refl _ _)⟩
      case round=>
        obtain⟨j,hj,rfl,HO,HW⟩:=hrel;have zr:=HW.out.size;have d3:=tr t2 HW;by_cases hlt:j<k
        case pos=>
          have C0:=zz (VL.step Hl7.out HW.out);obtain⟨g,off,xA,xl,xc,xB,xu,xd,hAe,hg,hE,hx⟩:=QS.elem (show QS _ _ _ ((listD N D 7 k).map qx) from C0.out) (j:=j) (by rw[List.length_map,listD_len];exact hlt);subst hAe;have hqj:((listD N D 7 k).map qx)[j]'(by rw[List.length_map,listD_len];exact hlt)=qx (numD N D (7+j)):=by simp[listD]
          rw[hqj] at hE hx;have HX:=zz (QR.qv hx);clear hx hg hqj;have hji:(0:Int)≤(j:Int)∧(j:Int)<(k:Int):=by omega
          have hlt':(j:Int)<(k:Int):=by omega
          have S2:=b3.out;have W0:=hE.c0;have X0:=hE.c1;have Y0:=hE.c2;have Z0:=hE.c3;have g3:=hE.lt;go_upto_region 7 with (fail)
          clear W0 X0 Y0 Z0 g3;obtain⟨w18,q0⟩:∃ w18:World,w18=(wr.alloc (.cells #[.bool (qx (numD N D (7+j))).1.1,.slice xA xl xc,.bool (qx (numD N D (7+j))).2.1,.slice xB xu xd] 33)):=⟨_,rfl⟩;rw[← q0];have d0:=n1_0 q0;have za18:=n1_z q0;have B19:=zz (n1_b q0);have z19:=B19.out.size;have u2:=tr d3 B19;clear q0;have a1:=d0.cell 0 rfl;have b1:=d0.cell 1 rfl;have d1:=d0.cell 2 rfl;have g1:=d0.cell 3 rfl;have h3:=d0.lt;have h1:=d0.frozen 0;have i1:=d0.frozen 1;have j1:=d0.frozen 2;have k1:=d0.frozen 3;have i3:=d0.lt;go_upto_region 8 with (fail)
          clear a1 b1 d1 g1 h3 h1 i1 j1 k1 i3;have P4_6_24:=tr B14 HW;have P4_7_25:=tr P4_6_24 B19;have D0:=CB.step j0 P4_7_25.out;have P3_5_27:=tr B9 B14;have P3_6_28:=tr P3_5_27 HW;have P3_7_29:=tr P3_6_28 B19;have E0:=CB.step u0 P3_7_29.out;have F0:=CB.step t0 P3_7_29.out;obtain⟨w31,g0⟩:∃ w31:World,w31=w18.setCell ⟨wr.heap.size,0,none⟩ (.bool false):=⟨_,rfl⟩;rw[← g0];have G2:=p1_f g0 D0 (by omega);have H2:=p1_f g0 E0 (by omega);have I2:=p1_f g0 F0 (by omega);have k0:CB w31 (wr.heap.size) 33 #[.bool false,.slice xA xl xc,.bool (qx (numD N D (7+j))).2.1,.slice xB xu xd]:=by rw[g0];exact(CB.set d0 0 (.bool false))
          have O2:=zz (p1_b g0 u2.out (by omega));have j3:=zz (p1_b g0 B19.out (Nat.le_refl _));have w2:=p1_z g0;clear g0;clear w2;have D3:=zz (QV.abs (QV.step HX.out j3.out));have E3:=zz (HO.out.step EQ.stable j3.out);have v3:=tr HW j3;have y0:Below w31.heap.size w31 (w31.alloc (.cells #[.bool false,.slice xA xl xc,.bool (qx (numD N D (7+j))).2.1,.slice xB xu xd] 33)):=below_alloc1 (Below.refl _ _) _;have F3:=zz (E3.out.step EQ.stable y0);have G3:=zz ((QV.step D3.out y0).qr);have Z1:=zz (v3.out.trans (y0.mono v3.out.size));clear y0;have l1:=k0.cell 0 rfl;have m1:=k0.cell 1 rfl;have n1:=k0.cell 2 rfl;have o1:=k0.cell 3 rfl;have k3:=k0.lt;go_wp2_with (at_builtin;go_loud (refine wpList_append_oa rfl _ _ _ rfl U2.heap.size 33 iq _ 64 Tryz.underlying28 hiq hzq hsq hbq rfl (by decide) (by decide) EQ.stable EQ.soft F3.out rfl ⟨w31.heap.size,0,none⟩ 1 [qx (absR (numD N D (7+j)))] rfl Nat.one_pos [.bool false,.slice xA xl xc,.bool (qx (numD N D (7+j))).2.1,.slice xB xu xd] (EL.one rfl ⟨_,_,_,_,rfl,G3.out⟩) (cells_new _ _ [_,_,_,_]) (by intro u hu;simp at hu;rcases hu with rfl | rfl | rfl | rfl <;> rfl) (by simp only[List.length_map,dampD_len,List.length_cons,List.length_nil,maxLen];have:=b3.out;omega) (by simp only[List.length_map,dampD_len,List.length_cons,List.length_nil];have:=b3.out;omega) (by have:=Z1.out.size;simpa using this) ?_))
          clear l1 m1 n1 o1 k3;intro v' w' hoa hb hs' hg' hat;have H3:Hid (OA 4 EQ 33 w' U2.heap.size v' ((dampD N D 7 (j+1)).map qx)):=zz (by rw[absL_succ,List.map_append];exact hoa);have J2:=zz (Z1.out.trans hb);clear hoa hb hs' hg' hat;go_wp2;go_roundw
          case rel=>exact⟨j+1,hlt,by go_num,H3,J2⟩
          case measure=>simp[intOf];omega
        case neg=>
          obtain rfl:k=j:=by omega
          have hlt':¬ (k:Int)<(k:Int):=by omega
          obtain⟨AD,cD,rfl,hD9⟩:=VL.open (n:=k) (show VL _ _ _ (dampD N D 7 k) from HO.out.sl) dampD_len;have I3:=zz hD9;clear hD9 HO;have P3_5_35:=tr B9 B14;have P3_6_36:=tr P3_5_35 HW;have e0:=CB.step u0 P3_6_36.out;have p1:=e0.cell 0 rfl;have q1:=e0.cell 1 rfl;have r1:=e0.cell 2 rfl;have s1:=e0.cell 3 rfl;have l3:=e0.lt;go_wp2_with fail
          refine(dlist_lit (n:=1) (f:=5) (a3.out.step d3.out) (by decide) (by decide) (by decide)).mono ?_;rintro e w33 ⟨G0,A5,c5,rfl,h5⟩;have B38:=zz G0;have z38:=B38.out.size;have x2:=tr d3 B38;clear G0;clear p1 q1 r1 s1 l3;obtain⟨g5,o5,xA,xl,xc,xB,xu,xd,rfl,hE,hx⟩:=VL.elem0 (q:=numD N2 D2 5) h5;clear h5;have J3:=zz (QR.qv hx);clear hx;have t1:=hE.c0;have u1:=hE.c1;have v1:=hE.c2;have w1:=hE.c3;have m3:=hE.lt;go_upto_region 11 with (fail)
          clear t1 u1 v1 w1 m3;obtain⟨w41,s0⟩:∃ w41:World,w41=(w33.alloc (.cells #[.bool (qx (numD N2 D2 5)).1.1,.slice xA xl xc,.bool (qx (numD N2 D2 5)).2.1,.slice xB xu xd] 33)):=⟨_,rfl⟩;rw[← s0];have b0:=n1_0 s0;have za41:=n1_z s0;have B42:=zz (n1_b s0);have z42:=B42.out.size;have y2:=tr x2 B42;clear s0;have y1:=b0.cell 0 rfl;have z1:=b0.cell 1 rfl;have B1:=b0.cell 2 rfl;have C1:=b0.cell 3 rfl;have n3:=b0.lt;have D1:=b0.frozen 0;have E1:=b0.frozen 1;have F1:=b0.frozen 2;have G1:=b0.frozen 3;have o3:=b0.lt;go_upto_region 12 with (fail)
          clear y1 z1 B1 C1 n3 D1 E1 F1 G1 o3;have P4_6_47:=tr B14 HW;have P4_7_48:=tr P4_6_47 B38;have P4_8_49:=tr P4_7_48 B42;have H0:=CB.step j0 P4_8_49.out;have P6_8_51:=tr B38 B42;have I0:=CB.step e0 P6_8_51.out;have P3_7_53:=tr P3_6_36 B38;have P3_8_54:=tr P3_7_53 B42;have J0:=CB.step t0 P3_8_54.out;obtain⟨w55,i0⟩:∃ w55:World,w55=w41.setCell ⟨w33.heap.size,0,none⟩ (.bool false):=⟨_,rfl⟩;rw[← i0];have K2:=p1_f i0 H0 (by omega);have L2:=p1_f i0 I0 (by omega);have M2:=p1_f i0 J0 (by omega);have K0:CB w55 (w33.heap.size) 33 #[.bool false,.slice xA xl xc,.bool (qx (numD N2 D2 5)).2.1,.slice xB xu xd]:=by rw[i0];exact(CB.set b0 0 (.bool false))
          have l0:=zz (p1_b i0 y2.out (by omega));have Y2:=zz (p1_b i0 B42.out (Nat.le_refl _));have P2:=p1_z i0;clear i0;have L0:=zz (QV.step J3.out Y2.out);have K3:=zz (QV.abs L0.out);have P4_8_58:=tr P4_7_48 Y2;have M0:=CB.step j0 P4_8_58.out;have P6_8_60:=tr B38 Y2;have N0:=CB.step e0 P6_8_60.out;refine Sweep.r0 [se 0 46 [] (.slice (some ⟨ga,oa,none⟩) n ca),se 1 47 [] (.slice (some ⟨gb,ob,none⟩) m cb),se 2 48 [] (.agg #[.int .u8 r,.int .u8 c,.slice A N.length ka,.slice A' D.length ka']),se 3 49 [] (.slice (some ⟨ga,oa,none⟩) n ca),se 4 50 [3] (.int .i64 (n:Int)),sf 5 51 [2,4] (fun fv fw=>∃ A c,fv=.slice A n c∧VL fw fw.heap.size (.slice A n c) (listD N D 11 n)),se 6 52 [] (.slice AD k cD),se 7 53 [] (.agg #[.int .u8 y,.int .u8 c,.slice B N2.length kb,.slice B' D2.length kb']),se 8 54 [] (.slice (some ⟨gb,ob,none⟩) m cb),se 9 55 [8] (.int .i64 (m:Int)),sf 10 56 [7,9] (fun fv fw=>∃ A c,fv=.slice A m c∧VL fw fw.heap.size (.slice A m c) (listD N2 D2 3 m)),se 11 57 [] (.agg #[.bool false,.slice xA xl xc,.bool (qx (numD N2 D2 5)).2.1,.slice xB xu xd])] 2 (SB M0 (SB N0 (SB K0 S0))) (MA (fun _ _ _ h hb=>let ⟨A,c,e,h⟩:=h;⟨A,c,e,VL.step h hb⟩) (MA (fun _ _ _ h hb=>let ⟨A,c,e,h⟩:=h;⟨A,c,e,VL.step h hb⟩) trivial)) ?_ ?_
          · intro xs a_ hA;simp only[SX] at hA
            iterate 12 (refine ac ?_ ?_;rotate_left)
            exact all_nil
            all_goals (intro wk hb;simp only[SX,↓reduceIte,Nat.reduceEqDiff,Nat.reduceAdd];have b_:=zz hb;have z_:=hb.size;clear hb;subst hA)
            any_goals (intros;refine wpOp_step rfl ?_;intro K hK;go_simp;refine hK _ _ ⟨_,?_,Below.refl _ _,rfl⟩;simp only[*,FL] <;> kernel_rfl)
            · intro f2 f4;intros
              refine wpOp_step (o:=_) rfl (fun K hK=>?_);go_simp;(with_reducible refine(dlist_lit (n:=n) (f:=11) (Z2.out.step (l0.out.trans (b_.out.mono l0.out.size))) (by decide) (by have:=HN.out;omega) (by decide)).mono ?_)
              rintro e wc61 ⟨z2,A61,c61,rfl,h61⟩;refine hK _ _ ⟨.slice A61 n c61,by simp only[FL,f2,f4] <;> kernel_rfl,z2,⟨A61,c61,rfl,h61⟩⟩
            · intro f7 f9;intros
              refine wpOp_step (o:=_) rfl (fun K hK=>?_);go_simp;(with_reducible refine(dlist_lit (n:=m) (f:=3) (a3.out.step (l0.out.trans (b_.out.mono l0.out.size))) (by decide) (by have:=HN.out;omega) (by decide)).mono ?_)
              rintro e wc62 ⟨B2,A62,c62,rfl,h62⟩;refine hK _ _ ⟨.slice A62 m c62,by simp only[FL,f7,f9] <;> kernel_rfl,B2,⟨A62,c62,rfl,h62⟩⟩
          · intro xs X2 hbf;simp only[SY]
            have B64:=zz hbf;have z64:=B64.out.size;have C2:=tr l0 B64;clear hbf;generalize xs 5=x5,xs 10=x10;rintro f5 f10;obtain⟨A11,c11,rfl,h9⟩:=f5;have Hl11:=zz h9;clear h9;obtain⟨A13,c13,rfl,h9⟩:=f10;have Hl3:=zz h9;clear h9;refine EN 12 rfl fun K hK=>?_
            go_simp;refine hK _ _ ?_;clear hK K;(try simp only[PT])
            have P3_8_67:=tr P3_7_53 Y2;have P3_9_68:=tr P3_8_67 B64;have a0:=CB.step t0 P3_9_68.out;have H1:=a0.cell 0 rfl;have I1:=a0.cell 1 rfl;have J1:=a0.cell 2 rfl;have K1:=a0.cell 3 rfl;have L1:=a0.cell 4 rfl;have M1:=a0.cell 5 rfl;have N1:=a0.cell 6 rfl;have O1:=a0.cell 7 rfl;have P1:=a0.cell 8 rfl;have p3:=a0.lt;have Q1:=a0.frozen 0;have R1:=a0.frozen 1;have S1:=a0.frozen 2;have T1:=a0.frozen 3;have U1:=a0.frozen 4;have V1:=a0.frozen 5;have W1:=a0.frozen 6;have X1:=a0.frozen 7;have Y1:=a0.frozen 8;have q3:=a0.lt;refine EN 13 rfl fun K hK=>?_
            go_simp;refine hK _ _ ?_;clear hK K;(try simp only[PT])
            clear H1 I1 J1 K1 L1 M1 N1 O1 P1 p3 Q1 R1 S1 T1 U1 V1 W1 X1 Y1 q3;refine ED ?_;(try simp only[Exit.then])
            have P4_9_71:=tr P4_8_58 B64;have O0:=zz (VM.step Hma.out P4_9_71.out);have P0:=zz (VM.step Hmb.out P4_9_71.out);have P6_9_74:=tr P6_8_60 B64;have Q0:=zz (VL.step I3.out P6_9_74.out);have W2:=zz (Zed.of a0 (by intro v hv;simp at hv;rcases hv with h | h | h | h <;> first | exact .inl h | exact .inr h | exact h));obtain⟨wS,hS⟩:∃ wS:World,wS=setCells X2 (w.heap.size+2) 0 [.slice (some ⟨ga,oa,none⟩) n ca,.slice (some ⟨gb,ob,none⟩) m cb,.slice A11 n c11,.slice AD k cD,.slice A13 m c13,.bool false,.slice xA xl xc,.bool (qx (numD N2 D2 5)).2.1,.slice xB xu xd]:=⟨_,rfl⟩;rw[show(((((((((X2.setCell ⟨w.heap.size+2,0,none⟩ (.slice (some ⟨ga,oa,none⟩) n ca)).setCell ⟨w.heap.size+2,1,none⟩ (.slice (some ⟨gb,ob,none⟩) m cb)).setCell ⟨w.heap.size+2,2,none⟩ (.slice A11 n c11)).setCell ⟨w.heap.size+2,3,none⟩ (.slice AD k cD)).setCell ⟨w.heap.size+2,4,none⟩ (.slice A13 m c13)).setCell ⟨w.heap.size+2,5,none⟩ (.bool false)).setCell ⟨w.heap.size+2,6,none⟩ (.slice xA xl xc)).setCell ⟨w.heap.size+2,7,none⟩ (.bool (qx (numD N2 D2 5)).2.1)).setCell ⟨w.heap.size+2,8,none⟩ (.slice xB xu xd))=wS from hS.symm];obtain⟨hC9,hs9,hf9,hz9⟩:=put_all hS (cs:=[.slice none 0 0,.slice none 0 0,.slice none 0 0,.slice none 0 0,.slice none 0 0,.bool false,.slice none 0 0,.bool false,.slice none 0 0]) a0 rfl (by decide);have L3:=zz (show Below w.heap.size w wS by rw[hS];exact below_sets (by omega) C2.out);have M3:=zz hC9;have hsz9:X2.heap.size≤wS.heap.size:=Nat.le_of_eq hz9.symm;clear hS
            have hlm:∀ {N D:List Int} {k n:Nat},1≤k→∀ r∈rowsD N D k n,0<r.length:=fun {N D k n} hk r hr=>by rw[rowsD_wide k n r hr];exact hk
            have e1:VM wS wS.heap.size _ _:=QM.far O0.out (hlm HN.out.2.1.1) W2.out hf9 hs9 hsz9;have e2:VM wS wS.heap.size _ _:=QM.far P0.out (hlm HN.out.2.1.1) W2.out hf9 hs9 hsz9;have e3:VL wS wS.heap.size _ _:=QS.far Hl11.out W2.out hf9 hs9 hsz9;have e4:VL wS wS.heap.size _ _:=QS.far Q0.out W2.out hf9 hs9 hsz9;have e5:VL wS wS.heap.size _ _:=QS.far Hl3.out W2.out hf9 hs9 hsz9;have R0:=zz (QV.step K3.out B64.out);have e6:QV wS wS.heap.size _ _:=QV.soft R0.out hs9;have E16:=zz (And.intro e1 (And.intro e2 (And.intro e3 (And.intro e4 (And.intro e5 e6)))));clear e1 e2 e3 e4 e5 e6 hs9 hf9 hz9 hsz9 hlm hC9;go_wp2;exact bodyPost_ret (results_cell_row rfl _ _ (w.heap.size+2) _ #[.slice (some ⟨ga,oa,none⟩) n ca,.slice (some ⟨gb,ob,none⟩) m cb,.slice A11 n c11,.slice AD k cD,.slice A13 m c13,.bool false,.slice xA xl xc,.bool (qx (numD N2 D2 5)).2.1,.slice xB xu xd] (0,0) _ rfl M3.out Tryz.underlying35 rfl (by kernel_rfl)) rfl ⟨L3.out,_,_,_,_,_,_,_,_,_,_,_,_,_,_,_,_,_,_,_,_,rfl,E16.out⟩
end Go.Proofs.YtdigbofiebfkeaaGreatDoor
