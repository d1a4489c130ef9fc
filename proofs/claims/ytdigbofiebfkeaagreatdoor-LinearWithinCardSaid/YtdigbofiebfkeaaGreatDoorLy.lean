/- Layer 35: Bound (written by gen_ly.py). -/
import Derived.Test.YtdigbofiebfkeaaGreatDoorLx
import Derived.Test.YtdigbofiebfkeaaGreatDoorLv
namespace Go.Proofs.YtdigbofiebfkeaaGreatDoor
open Go Go.RowKit Dig
set_option maxRecDepth 100000
set_option maxHeartbeats 4000000
set_option linter.unusedSimpArgs false
theorem movedQ_ql {x:List Rat} {ways:List (List Rat)} {s:List Rat} {l l':Nat} (hx:∀ q∈x,QL l l q) (hs:∀ q∈s,QL l' l' q) (hw:Short l ways) (h1:1≤l) (h2:1≤l') {q:Rat} (hq:q∈movedQ x ways s):QL (l+(l'+l+1)*s.length+2) (l+(l'+l+1)*s.length+2) q:=by
 obtain⟨i,hi,rfl⟩:=List.getElem_of_mem hq;simp only[movedQ,List.length_mapIdx] at hi
 simp only[movedQ,List.getElem_mapIdx]
 have:=moved_ql hx hs hw h1 h2 s.length i;rw[getD_is hi] at this;exact this
theorem OB.elem3 {T:TypeId} {w:World} {g n j:Nat} {l:List Rat} (h:OB 3 ER T w g n l) (hj:j<l.length):∃ xn xA xl xc xB xu xd,E3 w g (j*3) (.bool xn) (.slice xA xl xc) (.slice xB xu xd)∧RV w w.heap.size (.agg #[.bool xn,.slice xA xl xc,.slice xB xu xd]) l[j]:=by
 obtain⟨cs,-,h2,x0,x1,x2,rfl,xn,xA,xl,xc,xB,xu,xd,e,h3⟩:=h.at j hj;injection e with e
 simp at e
 obtain⟨rfl,rfl,rfl⟩:=e;exact⟨xn,xA,xl,xc,xB,xu,xd,E3.of h2,_,_,_,_,_,_,_,rfl,h3⟩
theorem OMV.nil0 {α:Type} {k:Nat} {E:Elem α} {T TH:TypeId} {w:World} {B:Nat}:OMV k E T TH w B (.slice none 0 0) (fun _=>0) (fun _=>0) ([]:List (List α)):=OMV.nil
theorem ret_one {w:World} {e:Ending} (h:RetQ w (mkQ 1 1) e):∃ v,e=.returned (.tuple #[v,.int .i64 0])∧QV w w.heap.size v 1:=by
 have e1:mkQ 1 1=(some 1,0):=by
  rw[show mkQ 1 1=_ from mkQ_lit (x:=1) (y:=1) (c:=mkRat 1 1) (by decide) (by decide +kernel) (lit_QL (x:=1) (d:=1) (by decide) (by decide +kernel) (by decide +kernel) (by decide +kernel))]
  rfl
 rw[e1] at h;exact h
theorem OM.other {α:Type} {k:Nat} {E:Elem α} {T TH t:TypeId} {w:World} {B tb R b:Nat} {G C:Nat→Nat} {M:List (List α)} {cs:Array Value} (h:OM k E T TH w B tb R G C M) (hb:CB w b t cs) (h1:t≠T) (h2:t≠TH):b≠tb∧∀ i,i<M.length→G i≠b:=by
 have key:∀ {b':Nat} {t':TypeId} {cs':Array Value},CB w b' t' cs'→t≠t'→b'≠b:=fun h' hn e=>by
  subst e;unfold CB at hb h';rw[hb] at h';injection h' with h'
  injection h' with _ h'
  exact hn h'
 obtain⟨arr,h3,-⟩:=h.hdr;refine⟨fun e=>key h3 h2 e.symm,fun i hi=>?_⟩;obtain⟨arr',h4,-⟩:=h.rows i hi;exact key h4 h1
noncomputable def boundV (a:List (List Rat)) (b:List Rat) (t:List (List Rat)) (p:List Nat) (sv:Bool) (n:Nat):Option (List Rat) × Int:=
 if sv=true then
  if waysQ t p n=[] then toldL (pointQ t p n)
  else match solveQ (normM (stepsQ a (waysQ t p n))) (normV (stepsQ a (waysQ t p n)) (leftQ a b (pointQ t p n))) with
   | some s=>toldL (movedQ (pointQ t p n) (waysQ t p n) s)
   | none=>(none,7)
 else (none,4)
theorem boundFit_is {M:List (List QX)} {b:List QX} {Z:List (List QX)} {f:List QX}:boundFit M b Z f=true↔(b.length=M.length∧f.length=Z.length∧(Z.getD 0 []).length=(M.getD 0 []).length):=by
 unfold boundFit;simp only[Bool.and_eq_true,decide_eq_true_eq]
theorem bound_of {M:List (List QX)} {b:List QX} {Z:List (List QX)} {f:List QX} {E:Int} {fit:Bool} (hE:E=firstE [sysE (okM M),sysE (okL b),sysE (okM Z),sysE (okL f)] fit) (hf:fit=boundFit M b Z f) :
  (E≠0→boundA M b Z f=(none,E))∧(E=0→boundA M b Z f=boundV (ratM M) (rats b) (elimQ (withQ (ratM Z) (rats f)) (wideQ (ratM Z))).1 (elimQ (withQ (ratM Z) (rats f)) (wideQ (ratM Z))).2 (solvQ (elimQ (withQ (ratM Z) (rats f)) (wideQ (ratM Z))) (wideQ (ratM Z))) (wideQ (ratM Z))∧okM M=true∧okL b=true∧okM Z=true∧okL f=true∧b.length=M.length∧f.length=Z.length∧(Z.getD 0 []).length=(M.getD 0 []).length):=by
 by_cases hv:okM M=true∧okL b=true∧okM Z=true∧okL f=true
 ·obtain⟨h1,h2,h3,h4⟩:=hv;rw[h1,h2,h3,h4] at hE;cases h5:fit with
  | false=>
   rw[h5] at hE hf;have hn:¬ (b.length=M.length∧f.length=Z.length∧(Z.getD 0 []).length=(M.getD 0 []).length):=fun h=>by rw[boundFit_is.2 h] at hf;cases hf
   refine⟨fun _=>?_,fun h=>?_⟩
   ·unfold boundA;rw[h1,h2,h3,h4,if_pos ⟨rfl,rfl,rfl,rfl⟩,if_neg hn,hE];rfl
   ·rw[h] at hE;cases hE
  | true=>
   rw[h5] at hE hf;have hp:=boundFit_is.1 hf.symm;refine⟨fun h=>absurd hE h,fun _=>⟨?_,h1,h2,h3,h4,hp.1,hp.2.1,hp.2.2⟩⟩;unfold boundA;rw[if_pos ⟨h1,h2,h3,h4⟩,if_pos hp];rfl
 ·have hE':E=350:=by
   rw[hE];cases h1:okM M <;> cases h2:okL b <;> cases h3:okM Z <;> cases h4:okL f <;> first | rfl | exact absurd ⟨h1,h2,h3,h4⟩ hv
  refine⟨fun _=>?_,fun h=>?_⟩
  ·unfold boundA;rw[if_neg hv,hE']
  ·rw[h] at hE';cases hE'
structure BoundD (M:List (List QX)) (b:List QX) (Z:List (List QX)) (T0 t:List (List Rat)) (p:List Nat) (n:Nat):Prop where
 n1:1≤n
 n6:n≤6
 z12:Z.length≤12
 z1:1≤Z.length
 zw:Wide (ratM Z) n
 zl:∀ r∈ratM Z,r.length=n
 t0l:(ratM Z).length=T0.length
 t0w:Wide T0 (n+1)
 t0s:Short 4 T0
 tl:t.length=T0.length
 tw:Wide t (n+1)
 ts:Short (boundE p.length) t
 pl:p.length≤t.length
 pn:p.length≤n
 ps:p.Pairwise (· < ·)
 plt:∀ x∈p,x<n
 m12:M.length≤12
 m1:1≤M.length
 mw:Wide (ratM M) n
 ms:Short 4 (ratM M)
 bs:∀ q∈rats b,QL 4 4 q
theorem bound_data {M:List (List QX)} {b:List QX} {Z:List (List QX)} {f:List QX} {X:Prop} (hr:X) (h1:okM M=true) (h2:okL b=true) (h3:okM Z=true) (h4:okL f=true) (_h5:b.length=M.length) (_h6:f.length=Z.length) (h7:(Z.getD 0 []).length=(M.getD 0 []).length) :
  X∧BoundD M b Z (withQ (ratM Z) (rats f)) (elimQ (withQ (ratM Z) (rats f)) (wideQ (ratM Z))).1 (elimQ (withQ (ratM Z) (rats f)) (wideQ (ratM Z))).2 (wideQ (ratM Z)):=by
 obtain⟨-,ms,mw,m1,m12,-,-⟩:=okM_is h1;obtain⟨-,bs,-,-⟩:=okL_is h2;obtain⟨-,zs,zw,z1,z12,w1,w2⟩:=okM_is h3;obtain⟨-,fs,-,-⟩:=okL_is h4;have hw:wideQ (ratM Z)=wideQ (ratM M):=by rw[wide_raw,wide_raw,h7]
 have hs:=with_short zs fs (by decide);have hp:=elimQ_piv (withQ (ratM Z) (rats f)) (wideQ (ratM Z));have ho:=elimQ_sorted (withQ (ratM Z) (rats f)) (wideQ (ratM Z));exact⟨hr,⟨w1,w2,z12,z1,zw,fun r hr=>zw r hr,by simp[withQ],with_wide zw,hs,elimQ_len _ _,(with_wide zw).elim _,hs.elim (by decide) _,by rw[elimQ_len];exact hp.1,hp.2,ho.1,ho.2,m12,m1,by rw[hw];exact mw,ms,bs⟩⟩
theorem LBound_any (w:World) (A B D0 F0:Option Addr) (na ca nb cb nc cc nf cf:Nat) (M:List (List QX)) (b:List QX) (Z:List (List QX)) (f:List QX) (ha:QM w w.heap.size (.slice A na ca) M) (hb:QS w w.heap.size (.slice B nb cb) b) (hc:QM w w.heap.size (.slice D0 nc cc) Z) (hf:QS w w.heap.size (.slice F0 nf cf) f) :
  Calls Tryz.prog 7 #[.slice A na ca,.slice B nb cb,.slice D0 nc cc,.slice F0 nf cf] w fun e w'=>Below w.heap.size w w'∧RetLs w' (boundA M b Z f) e:=by
 obtain⟨rfl,hn1,hn2⟩:=SL.len ha;obtain⟨rfl,hm1,hm2⟩:=SL.len hb;obtain⟨rfl,o3,p3⟩:=SL.len hc;obtain⟨rfl,hj1,hj2⟩:=SL.len hf;have HQ:=zz ha;have HS:=zz hb;have c8:=zz hc;have d8:=zz hf;clear ha hb hc hf;obtain⟨w0,hw0⟩:∃ w0:World,w0=((((w.alloc (.cells #[.slice A M.length ca] 27)).alloc (.cells #[.slice B b.length cb] 28)).alloc (.cells #[.slice D0 Z.length cc] 27)).alloc (.cells #[.slice F0 f.length cf] 28)):=⟨_,rfl⟩;have B0:=zz (n4_b hw0);have z0:=n4_z hw0;have La:=n4_0 hw0;have Lb:=n4_1 hw0;have Lc:=n4_2 hw0;have Lf:=n4_3 hw0;have X3:=zz (HQ.out.step (SE.stable EQ.stable) B0.out);have Y3:=zz (HS.out.step EQ.stable B0.out);have e4:=zz (c8.out.step (SE.stable EQ.stable) B0.out);have y4:=zz (d8.out.step EQ.stable B0.out);have HA:=zz La;have HB:=zz Lb;have HC:=zz Lc;have HF:=zz Lf;obtain⟨fit,hfit⟩:∃ fit:Bool,fit=boundFit M b Z f:=⟨_,rfl⟩;have j5:=zz hfit;clear hfit;obtain⟨E,hE⟩:∃ E,E=firstE [sysE (okM M),sysE (okL b),sysE (okM Z),sysE (okL f)] fit:=⟨_,rfl⟩;have I6:=zz hE;clear hE;go_enter Tryz.func7,Tryz.ntmps7
 go_upto_region 2 with (fail)
 rw[← hw0];clear hw0;refine Sweep.r0 [se 0 36 [] (.func (.func 29) #[] #[.pointer (some ⟨w.heap.size+1,0,none⟩),.pointer (some ⟨w.heap.size,0,none⟩),.pointer (some ⟨w.heap.size+3,0,none⟩),.pointer (some ⟨w.heap.size+2,0,none⟩)]),se 1 37 [] (.slice A M.length ca),se 2 38 [1] (.int .i64 (sysE (okM M))),se 3 39 [] (.slice B b.length cb),se 4 40 [3] (.int .i64 (sysE (okL b))),se 5 41 [] (.slice D0 Z.length cc),se 6 42 [5] (.int .i64 (sysE (okM Z))),se 7 43 [] (.slice F0 f.length cf),se 8 44 [7] (.int .i64 (sysE (okL f))),sf 9 45 [2,4,6,8] (fun fv fw=>∃ zb,fv=.slice (some ⟨zb,0,none⟩) 4 4∧CB fw zb 37 #[.int .i64 (sysE (okM M)),.int .i64 (sysE (okL b)),.int .i64 (sysE (okM Z)),.int .i64 (sysE (okL f))]),se 10 46 [0,9] (.int .i64 E)] 1 (SB HA.out (SB HB.out (SB HC.out (SB HF.out S0)))) (MA (fun _ _ _ h hb=>let ⟨b,e,h⟩:=h;⟨b,e,h.step hb⟩) trivial) ?_ ?_
 ·intro xs a_ hA;simp only[SX] at hA
  iterate 11 (refine ac ?_ ?_;rotate_left)
  exact all_nil
  all_goals (intro wk hb;simp only[SX,↓reduceIte,Nat.reduceEqDiff,Nat.reduceAdd];have b_:=zz hb;have z_:=hb.size;clear hb;subst hA)
  any_goals (intros;refine wpOp_step rfl ?_;intro K hK;go_simp;refine hK _ _ ⟨_,?_,Below.refl _ _,rfl⟩;simp only[*,FL] <;> kernel_rfl)
  ·intro f1;intros;refine wpOp_step (o:=_) rfl (fun K hK=>?_);go_simp;(with_reducible refine(LCheck_any _ A _ ca M (X3.out.step (SE.stable EQ.stable) b_.out)).mono ?_)
   rintro e wc1 ⟨X2,rfl⟩;refine hK _ _ ⟨.int .i64 (sysE (okM M)),by simp only[FL,f1] <;> kernel_rfl,X2,rfl⟩
  ·intro f3;intros;refine wpOp_step (o:=_) rfl (fun K hK=>?_);go_simp;(with_reducible refine(list_any _ B _ cb b (Y3.out.step EQ.stable b_.out)).mono ?_)
   rintro e wc2 ⟨Y2,rfl⟩;refine hK _ _ ⟨.int .i64 (sysE (okL b)),by simp only[FL,f3] <;> kernel_rfl,Y2,rfl⟩
  ·intro f5;intros;refine wpOp_step (o:=_) rfl (fun K hK=>?_);go_simp;(with_reducible refine(LCheck_any _ D0 _ cc Z (e4.out.step (SE.stable EQ.stable) b_.out)).mono ?_)
   rintro e wc3 ⟨a0,rfl⟩;refine hK _ _ ⟨.int .i64 (sysE (okM Z)),by simp only[FL,f5] <;> kernel_rfl,a0,rfl⟩
  ·intro f7;intros;refine wpOp_step (o:=_) rfl (fun K hK=>?_);go_simp;(with_reducible refine(list_any _ F0 _ cf f (y4.out.step EQ.stable b_.out)).mono ?_)
   rintro e wc4 ⟨Z2,rfl⟩;refine hK _ _ ⟨.int .i64 (sysE (okL f)),by simp only[FL,f7] <;> kernel_rfl,Z2,rfl⟩
  ·intro f2 f4 f6 f8;intros;refine wpOp_step (o:=_) rfl (fun K hK=>?_);go_simp;refine hK _ _ ⟨.slice (some ⟨wk.heap.size,0,none⟩) 4 4,by simp only[FL,f2,f4,f6,f8] <;> kernel_rfl,(Below.refl _ _).alloc (Nat.le_refl _) _,⟨_,rfl,CB.new _ _ _⟩⟩
  ·intro f0 f9;intros;refine wpOp_step (o:=_) rfl (fun K hK=>?_);obtain⟨b9,e9,h9⟩:=f9;rw[e9];go_simp;(with_reducible refine((show Calls Tryz.prog _ _ _ _ from I6.out▸first_any _ 29 #[.pointer (some ⟨w.heap.size+1,0,none⟩),.pointer (some ⟨w.heap.size,0,none⟩),.pointer (some ⟨w.heap.size+3,0,none⟩),.pointer (some ⟨w.heap.size+2,0,none⟩)] fit _ 4 4 [sysE (okM M),sysE (okL b),sysE (okM Z),sysE (okL f)] (ri_cells h9 [_,_,_,_] rfl (by simp)) (by simp) boundFit_run (fun hz w9 k0=>j5.out▸boundFit_any w9 _ _ _ _ A B D0 F0 ca cb cc cf M b Z f (CB.step HA.out (b_.out.trans (k0.mono b_.out.size))) (X3.out.step (SE.stable EQ.stable) (b_.out.trans (k0.mono b_.out.size))) (okM_pos (sysE_ok (hz _ (by simp)))) (CB.step HB.out (b_.out.trans (k0.mono b_.out.size))) (CB.step HC.out (b_.out.trans (k0.mono b_.out.size))) (e4.out.step (SE.stable EQ.stable) (b_.out.trans (k0.mono b_.out.size))) (okM_pos (sysE_ok (hz _ (by simp)))) (CB.step HF.out (b_.out.trans (k0.mono b_.out.size)))))).mono ?_)
   rintro e wc5 ⟨a3,rfl⟩;refine hK _ _ ⟨.int .i64 E,by simp only[FL,f0,e9] <;> kernel_rfl,a3,rfl⟩
 ·intro xs O3 hbf;simp only[SY];have B7:=zz hbf;have z7:=B7.out.size;have d0:=tr B0 B7;clear hbf;generalize xs 9=x9;rintro f9;obtain⟨bs9,rfl,Lb9⟩:=f9;refine EN 11 rfl fun K hK=>?_
  go_simp;refine hK _ _ ?_;clear hK K;(try simp only[PT])
  refine ED ?_;(try simp only[Exit.then])
  have hsa:=bound_of I6.out j5.out;by_cases hE0:E=0
  case neg=>
   have hx:(E != 0)=true:=by rw[bne_iff_ne];exact hE0
   have HR:=zz (hsa.1 hE0);clear hE0 hsa;go_wp2;go_ret2;exact⟨d0.out,by rw[HR.out];exact⟨_,rfl,rfl⟩⟩
  case pos=>
   obtain⟨hr,h1,h2,h3,h4,h5,h6,h7⟩:=hsa.2 hE0;subst hE0;obtain⟨hr,BD⟩:=bound_data hr h1 h2 h3 h4 h5 h6 h7;obtain⟨n,hn⟩:∃ n,n=wideQ (ratM Z):=⟨_,rfl⟩;obtain⟨T0,hT0⟩:∃ T,T=withQ (ratM Z) (rats f):=⟨_,rfl⟩;rw[← hn,← hT0] at hr BD;obtain⟨t,p,he⟩:∃ t p,elimQ T0 n=(t,p):=⟨_,_,rfl⟩;rw[he] at hr BD;simp only at hr BD;have H1:=zz h1;have H2:=zz h2;have H3:=zz h3;have H4:=zz h4;have H5:=zz h5;have H6:=zz h6;have HR:=zz hr;have HE:=zz he;have e8:=zz hT0;have HD:=zz BD;have HN:=zz hn;clear h1 h2 h3 h4 h5 h6 h7 hr he hT0 BD hn hsa;have hnn:(n:Int)≤6∧(1:Int)≤(n:Int):=by have:=HD.out.n1;have:=HD.out.n6;omega
   go_upto_region 5 with (fail)
   have s1:=CB.step HA.out B7.out;have t1:=CB.step HB.out B7.out;have u1:=CB.step HC.out B7.out;have v1:=CB.step HF.out B7.out;have J6:=zz (X3.out.step (SE.stable EQ.stable) B7.out);have K6:=zz (Y3.out.step EQ.stable B7.out);have l5:=zz (e4.out.step (SE.stable EQ.stable) B7.out);have m5:=zz (y4.out.step EQ.stable B7.out);have o5:=zz s1;have E0:=zz t1;have p5:=zz u1;have q5:=zz v1;have g8:=zz (d0.out);refine Sweep.run [se 0 50 [] (.slice D0 Z.length cc),sf 1 51 [0] (fun fv fw=>∃ A n c,fv=.slice A n c∧RM fw fw.heap.size (.slice A n c) (ratM Z)),se 2 52 [] (.slice F0 f.length cf),sf 3 53 [2] (fun fv fw=>∃ A n c,fv=.slice A n c∧RS fw fw.heap.size (.slice A n c) (rats f)),sf 4 54 [1,3] (fun fv fw=>∃ tb R G C,fv=.agg #[.slice (some ⟨tb,0,none⟩) T0.length R]∧R≤9223372036854775807∧OM 3 ER 84 75 fw O3.heap.size tb R G C T0),sf 5 12 [] (fun fv fw=>∃ b,fv=.pointer (some ⟨b,0,none⟩)∧CB fw b 71 #[.slice none 0 0])] [] [5] 1 (SB p5.out (SB q5.out S0)) (MA (fun _ _ _ h hb=>let ⟨A,n,c,e,h⟩:=h;⟨A,n,c,e,SL.step h (SE.stable ER.stable) hb⟩) (MA (fun _ _ _ h hb=>let ⟨A,n,c,e,h⟩:=h;⟨A,n,c,e,SL.step h (ER.stable) hb⟩) (MA (fun _ _ _ h hb=>let ⟨tb,R,G,C,e,h1,h2⟩:=h;⟨tb,R,G,C,e,h1,h2.step ER.stable hb⟩) (MA (fun _ _ _ h hb=>let ⟨b,e,h⟩:=h;⟨b,e,h.step hb⟩) trivial)))) ?_ ?_ ?_
   ·intro xs a_ hA;simp only[SX] at hA
    iterate 6 (refine ac ?_ ?_;rotate_left)
    exact all_nil
    all_goals (intro wk hb;simp only[SX,↓reduceIte,Nat.reduceEqDiff,Nat.reduceAdd];have b_:=zz hb;have z_:=hb.size;clear hb;subst hA)
    any_goals (intros;refine wpOp_step rfl ?_;intro K hK;go_simp;refine hK _ _ ⟨_,?_,Below.refl _ _,rfl,nF⟩;simp only[*,FL] <;> kernel_rfl)
    ·intro f0;intros;refine wpOp_step (o:=_) rfl (fun K hK=>?_);go_simp;(with_reducible refine(readM_any _ D0 _ cc Z (l5.out.step (SE.stable EQ.stable) b_.out) H3.out).mono ?_)
     rintro e wc14 ⟨v2,g14,G14,C14,rfl,hom14⟩;refine hK _ _ ⟨.slice (some ⟨g14,0,none⟩) Z.length Z.length,by simp only[FL,f0] <;> kernel_rfl,v2,⟨_,_,_,rfl,slM hom14 (by have:=HD.out.z12;omega)⟩,nF⟩
    ·intro f2;intros;refine wpOp_step (o:=_) rfl (fun K hK=>?_);go_simp;(with_reducible refine(readL_any _ F0 _ cf f (m5.out.step EQ.stable b_.out) H4.out).mono ?_)
     rintro e wc15 ⟨w2,g15,rfl,hgl15,hol15⟩;refine hK _ _ ⟨.slice (some ⟨g15,0,none⟩) f.length f.length,by simp only[FL,f2] <;> kernel_rfl,w2,⟨_,_,_,rfl,slR hol15 (by have:=HD.out.z12;have:=H6.out;omega)⟩,nF⟩
    ·intro f1 f3;intros;refine wpOp_step (o:=_) rfl (fun K hK=>?_);obtain⟨A1,n1,c1,e1,h1⟩:=f1;obtain⟨A3,n3,c3,e3,h3⟩:=f3;rw[e1,e3];go_simp;(with_reducible refine(with_any _ _ _ _ _ _ _ (ratM Z) (rats f) h1 h3 (by rw[ratM,List.length_map];exact okM_pos H3.out) (by rw[ratM,rats,List.length_map,List.length_map,H6.out];exact Nat.le_refl _) (fun r hr=>by rw[HD.out.zl r hr];omega) (by rw[ratM,List.length_map];have:=HD.out.z12;omega)).mono ?_)
     rintro e wc16 ⟨y2,tb16,R16,G16,C16,rfl,hR16,hom16⟩;refine hK _ _ ⟨.agg #[.slice (some ⟨tb16,0,none⟩) (ratM Z).length R16],by simp only[FL,e1,e3] <;> kernel_rfl,y2,⟨tb16,R16,G16,C16,by rw[HD.out.t0l],hR16,by rw[e8.out];exact hom16.weak (by omega)⟩,nF⟩
    ·intros
     refine wpOp_step (o:=_) rfl (fun K hK=>?_);go_simp;refine hK _ _ ⟨.pointer (some ⟨wk.heap.size,0,none⟩),by kernel_rfl,(Below.refl _ _).alloc (Nat.le_refl _) _,⟨_,rfl,CB.new _ _ _⟩,fun _=>⟨_,rfl,Nat.le_refl _,by simp⟩⟩
   ·exact fun _ _ _=>all_nil
   ·intro xs r5 hbf hn hd;simp only[SY];have n5:=hn 5 (by decide);clear hn hd;have B18:=zz hbf;have z18:=B18.out.size;have z2:=tr d0 B18;clear hbf;generalize xs 1=x1,xs 3=x3,xs 4=x4,xs 5=x5 at *
    rintro f1 f3 f4 f5;clear f1;clear f3;obtain⟨tb,R,G,C,rfl,hR,hom⟩:=f4;have R3:=zz hom;have h8:=zz hR;clear hom hR;obtain⟨u3,rfl,v3⟩:=f5;have g4:=zz (show O3.heap.size≤u3 by obtain⟨b',e,h,-⟩:=n5;injection e with e;injection e with e;injection e with e _ _;omega);clear n5;have y6:=v3.lt;have z6:=g4.out;have y1:=v3.cell 0 rfl;have s5:=v3.lt;have B1:=v3.frozen 0;have t5:=v3.lt;refine EN 6 rfl fun K hK=>?_;go_simp;refine hK _ _ ?_;clear hK K;(try simp only[PT])
    clear y1 s5 B1 t5;refine ED ?_;(try simp only[Exit.then])
    have hft:=OM.other R3.out v3 (by decide) (by decide);have p4:=zz hft;clear hft;have C1:=CB.step o5.out B18.out;have D1:=CB.step E0.out B18.out;have E1:=CB.step p5.out B18.out;have F1:=CB.step q5.out B18.out;obtain⟨w28,b0⟩:∃ w28:World,w28=(r5.setCell ⟨u3,0,none⟩ (.slice (some ⟨tb,0,none⟩) T0.length R)):=⟨_,rfl⟩;rw[← b0];have S28:=zz (show Soft r5 w28 by rw[b0];exact CB.soft1 (v3) (by simp[noInt_b,noInt_s]) 0 (.slice (some ⟨tb,0,none⟩) T0.length R));have d3:=p1_f b0 C1 ((by omega));have i3:=p1_f b0 D1 ((by omega));have j3:=p1_f b0 E1 ((by omega));have k3:=p1_f b0 F1 ((by omega));have G1:CB w28 (u3) 71 #[.slice (some ⟨tb,0,none⟩) T0.length R]:=by rw[b0];exact(show CB _ (u3) 71 #[.slice (some ⟨tb,0,none⟩) T0.length R] from CB.set (v3) 0 (.slice (some ⟨tb,0,none⟩) T0.length R))
    have l3:=zz (p1_b b0 z2.out (by omega));have S3:=zz (show OM 3 ER 84 75 w28 O3.heap.size tb R G C T0 by rw[b0];exact OM.turns (S:=fun b=>b=u3) R3.out ER.soft (Turns.set (cs:=[_]) rfl (CB.soft1 v3 (by simp[noInt_b,noInt_s]) 0 _)) ⟨fun e=>p4.out.1 e.symm,p4.out.2⟩);have G0:=zz (show Below O3.heap.size O3 w28 by rw[b0];exact below_sets (b:=u3) (p:=0) (cs:=[_]) (by omega) B18.out);have m3:=p1_z b0;clear b0;have q4:=zz G1;have hz6:O3.heap.size≤w28.heap.size:=G0.out.size;have hbt6:=q4.out.lt;obtain⟨S,hS⟩:∃ S:Nat→Prop,S=fun b=>b=tb∨∃ i,i<T0.length∧G i=b:=⟨_,rfl⟩
    have hs1:∀ b,S b→b<w28.heap.size∧O3.heap.size≤b∧b≠u3:=by
     rw[hS];rintro b (rfl | ⟨i,hi,rfl⟩)
     ·exact⟨S3.out.lt,S3.out.low,fun e=>p4.out.1 e.symm⟩
     ·exact⟨S3.out.rowlt hi,(S3.out.apart i hi).2,p4.out.2 i hi⟩
    have hs2:S tb∧∀ i,i<T0.length→S (G i):=by rw[hS];exact⟨.inl rfl,fun i hi=>.inr ⟨i,hi,rfl⟩⟩
    have HS1':=zz hs1;have L6:=zz hs2;clear hS hs1 hs2 p4 R3;have hrr:T0.length≤R∧R≤9223372036854775807:=⟨by have:=S3.out.hdr.len;rwa [hdL_len] at this,h8.out⟩;have u5:=zz hrr;clear hrr;have htm:0<T0.length:=by rw[← HD.out.t0l,ratM,List.length_map];exact HD.out.z1
    have v5:Hid (T0.length≤12):=zz (by rw[← HD.out.t0l,ratM,List.length_map];exact HD.out.z12);have I1:=q4.out.cell 0 rfl;have w5:=q4.out.lt;go_wp2_with fail
    refine(reduce_any w28 tb R O3.heap.size R G C T0 n 4 S u5.out S3.out HD.out.t0w htm L6.out (fun b hb=>(HS1'.out b hb).1) HD.out.t0s (by decide) (Nat.le_trans (Nat.mul_le_mul_left 3 (growQ_mono HD.out.n6)) (by decide)) ⟨by have:=v5.out;omega,by omega⟩).mono ?_;rintro e w7 ⟨v7,G3,C3,rfl,hv,ht,ho,-⟩;clear I1 w5;rw[HE.out] at hv ho ⊢;simp only at hv ho;obtain⟨Ap,cp,rfl⟩:=RI.slice hv;rw[ni_length];rw[ni_length] at hv;have i0:=zz (G0.out.trans (ht.below hz6 (fun b hb=>(HS1'.out b hb).2.1)));have z7:=ht.size;have T4:Hid (CB w7 u3 71 #[.slice (some ⟨tb,0,none⟩) t.length R]):=zz (by rw[HD.out.tl];exact q4.out.turns ht (fun h=>(HS1'.out _ h).2.2 rfl));have t2:=tr g8 i0;have M6:=zz hv;have y5:=zz (OM.mapE ho fun _ _ h=>ERo.ofNone h);have D7:=zz (show t.length≤R∧R≤9223372036854775807 from HD.out.tl▸u5.out);have htm7:0<t.length:=HD.out.tl▸htm;rw[← HD.out.tl];clear hv ht ho S3 q4 HS1' L6 u5 htm hbt6;have N6:=zz (J6.out.step (SE.stable EQ.stable) i0.out);have O6:=zz (K6.out.step EQ.stable i0.out);have P6:=zz (CB.step o5.out i0.out);have HB7':=zz (CB.step E0.out i0.out);clear J6 K6 o5 E0 l5 m5 p5 q5 X3 Y3 e4 y4 HA HB HC HF;obtain⟨sv,hsv⟩:∃ sv,sv=solvQ (t,p) n:=⟨_,rfl⟩;rw[← hsv] at HR;rw[← hsv];clear hsv;have htt:(t.length:Int)≤12:=by have:=v5.out;have:=HD.out.tl;omega
    have hpp:p.length≤t.length∧p.length≤n:=⟨HD.out.pl,HD.out.pn⟩;cases sv
    case false=>
     have U4:=zz (HR.out.trans (if_neg Bool.false_ne_true));clear HR;go_wp2;go_ret2;exact⟨t2.out,by rw[U4.out];exact⟨_,rfl,rfl⟩⟩
    case true=>
     have U4:=zz (HR.out.trans (if_pos rfl));clear HR;have J1:=T4.out.cell 0 rfl;have z5:=T4.out.lt;go_wp2_with fail
     refine(lastO_any w7 tb R _ _ G3 C3 t n y5.out HD.out.tw htm7 D7.out).mono ?_;rintro e w31 ⟨H0,rfl⟩;have B32:=zz H0;have z32:=B32.out.size;have A2:=tr t2 B32;clear H0;clear J1 z5;have d0:=zz A2.out;have A5:=zz (OM.step y5.out ERo.stable B32.out);have B5:=zz (M6.out.step B32.out);have V4:=zz (CB.step T4.out B32.out);have Q6:=zz (N6.out.step (SE.stable EQ.stable) B32.out);have R6:=zz (O6.out.step EQ.stable B32.out);have S6:=zz (CB.step P6.out B32.out);have HB8':=zz (CB.step HB7'.out B32.out);clear y5 M6 T4 N6 O6 P6 HB7';have hmk:=mk_row n (by omega) w31;have Z3:=zz (made_row w31 n);have T3:=zz (below_alloc1 (Below.refl w31.heap.size w31) (.cells (madeCells #[.bool false,.slice none 0 0,.slice none 0 0] (n*3)) 84));go_wp2;clear hmk;go_loopw [68] (fun iv wr=>∃ j:Nat,j≤n∧iv=.int .i64 j∧Hid (OB 3 ER 84 wr w31.heap.size n ((pointQ t p n).take j))∧Hid (Below w31.heap.size w31 wr)) (fun iv _=>n-(intOf iv).toNat)
     case atStart=>exact⟨0,Nat.zero_le _,rfl,Z3,T3⟩
     case round=>
      obtain⟨j,hj,rfl,HO,HW⟩:=hrel;have zr:=HW.out.size;by_cases hlt:j<n
      ·skip
       have hjl:((pointQ t p n).take j).length=j:=by rw[List.length_take,pointQ_len];omega
       have hpt:=pointQ_take (t:=t) (p:=p) hlt;have B3:=zz hpt;have F3:=zz hjl;clear hpt hjl;generalize (pointQ t p n).take j=l at HO B3 F3;have hji:(0:Int)≤(j:Int)∧(j:Int)<(n:Int):=by omega
       go_wp2_with fail
       refine(zero_any _).mono ?_;rintro e w34 ⟨I0,v,rfl,hv⟩;have B35:=zz I0;have z35:=B35.out.size;have B2:=tr HW B35;clear I0;obtain⟨A4,B4,C4,D4,E4,l0,F4,rfl,ha37,J0,hc37⟩:=hv;have K1:Hid (RV w34 w34.heap.size (.agg #[.bool A4,.slice B4 C4 D4,.slice E4 l0 F4]) 0):=zz (TV.mk ha37 J0 hc37);clear ha37 J0 hc37;have w3:=zz (OB.step HO.out ER.stable B35.out);have r4:=zz B2.out;obtain⟨o0,ho0⟩:=OB.room w3.out (p:=j*3) (by omega);obtain⟨o1,ho1⟩:=OB.room w3.out (p:=j*3+1) (by omega);obtain⟨o2,ho2⟩:=OB.room w3.out (p:=j*3+2) (by omega);have fz0:=OB.frozen w3.out (j*3);have fz1:=OB.frozen w3.out (j*3+1);have fz2:=OB.frozen w3.out (j*3+2);have flt:=OB.lt w3.out;go_wp2_with fail
       clear ho0 ho1 ho2 fz0 fz1 fz2 flt;obtain⟨w38,n0⟩:∃ v:World,v=(((w34.setCell ⟨w31.heap.size,j*3,none⟩ (.bool A4)).setCell ⟨w31.heap.size,j*3+1,none⟩ (.slice B4 C4 D4)).setCell ⟨w31.heap.size,j*3+2,none⟩ (.slice E4 l0 F4)):=⟨_,rfl⟩;rw[← n0];obtain⟨hp1,hp2,hp3⟩:=OB.push1 (B:=w31.heap.size) (j:=j) w3.out F3.out.symm hlt K1.out (Nat.le_refl _);rw[show setCells w34 (w31.heap.size) (j*3) [.bool A4,.slice B4 C4 D4,.slice E4 l0 F4]=w38 from n0.symm] at hp1 hp2 hp3;clear n0;have U3:=zz hp1;have L3:=zz (r4.out.trans hp2);clear hp1 hp2 hp3 w3 r4;have z10:=L3.out.size;refine(indexI_any _ Ap p.length cp (ni p) (j:Int) (B5.out.step L3.out)).mono ?_;rintro e w39 ⟨K0,rfl⟩;have B40:=zz K0;have z40:=B40.out.size;have D2:=tr L3 B40;clear K0;have y3:=zz (OB.step U3.out ER.stable B40.out);have z3:=zz D2.out;clear U3;rw[idx_ni];by_cases hjp:j∈p
       ·rw[if_pos hjp];obtain⟨i,hi⟩:∃ i,i=p.idxOf j:=⟨_,rfl⟩;have hip:i<p.length:=by rw[hi];exact List.idxOf_lt_length_iff.2 hjp
        have hpe:pointE t p n j=atQ t i n:=by rw[hi];exact if_pos hjp
        rw[← hi];rw[hpe] at B3;clear hpe hi;have hit:i<t.length:=by omega
        have hii:(0:Int)≤(i:Int)∧(i:Int)<(t.length:Int):=by omega
        have hn1':(n:Int)<((n+1:Nat):Int):=by omega
        have hn0:(0:Int)≤(n:Int):=by omega
        have HOt:=zz (OM.step A5.out ERo.stable z3.out);have qh:=OM.head HOt.out HD.out.tw hit;have qc:=OM.caps HOt.out HD.out.tw hit;obtain⟨xn,xA,xl,xc,xB,xu,xd,hE,hv⟩:=OM.elem HOt.out HD.out.tw hit (show n<n+1 by omega);have V3:=zz hv;clear hv;have qt:=(CB.step V4.out z3.out).cell 0 rfl;have ql:=(CB.step V4.out z3.out).lt;have qe0:=hE.c0;have qe1:=hE.c1;have qe2:=hE.c2;have qel:=hE.lt;have qtl:=HOt.out.lt;obtain⟨o0,ho0⟩:=OB.room y3.out (p:=j*3) (by omega);obtain⟨o1,ho1⟩:=OB.room y3.out (p:=j*3+1) (by omega);obtain⟨o2,ho2⟩:=OB.room y3.out (p:=j*3+2) (by omega);have fz0:=OB.frozen y3.out (j*3);have fz1:=OB.frozen y3.out (j*3+1);have fz2:=OB.frozen y3.out (j*3+2);have flt:=OB.lt y3.out;obtain⟨hp1,hp2,hp3⟩:=OB.put1 (B:=w31.heap.size) (j:=j) y3.out (by rw[List.length_append,F3.out];simp) V3.out (Nat.le_refl _);rw[show(l++[(0:Rat)]).set j (atQ t i n)=l++[atQ t i n] by rw[← F3.out];simp,← B3.out] at hp1;have I3:=zz hp1;have s4:=zz (z3.out.trans hp2);clear hp1 hp2 hp3;go_wp2;go_roundw
        case rel=>exact⟨j+1,hlt,by go_num,I3,s4⟩
        case measure=>simp[intOf];omega
       ·rw[if_neg hjp];have hpe:pointE t p n j=0:=if_neg hjp;rw[hpe] at B3;have I3:Hid (OB 3 ER 84 w39 w31.heap.size n ((pointQ t p n).take (j+1))):=zz (by rw[B3.out];exact y3.out);go_wp2;go_roundw
        case rel=>exact⟨j+1,hlt,by go_num,I3,z3⟩
        case measure=>simp[intOf];omega
      ·obtain rfl:n=j:=by omega
       rw[List.take_of_length_le (by rw[pointQ_len];exact Nat.le_refl _)] at HO
       rename World=>wA
       have T6:=tr d0 HW;have C5:=zz HO.out;have U6:=zz (OM.step A5.out ERo.stable HW.out);have D5:=zz (B5.out.step HW.out);have V6:=zz (CB.step V4.out HW.out);have W6:=zz (Q6.out.step (SE.stable EQ.stable) HW.out);have X6:=zz (R6.out.step EQ.stable HW.out);have Y6:=zz (CB.step S6.out HW.out);have Z6:=zz (CB.step HB8'.out HW.out);have hgA:=HO.out.lt;clear d0 A5 B5 V4 Q6 R6 S6 HB8' HO HW Z3 T3 hj hlt;have hgaw:w.heap.size≤w31.heap.size:=by omega
       obtain⟨ga,hga⟩:∃ g,g=w31.heap.size:=⟨_,rfl⟩;rw[← hga] at C5 hgA hgaw ⊢;have E8:=zz hga;clear hga;obtain⟨ir,hir,hzr,hsr,hbr⟩:=info_parts info_row;have E5:=zz (Below.refl wA.heap.size wA);go_wp2;go_loopw [17,93] (fun ov iv wr=>∃ (j:Nat) (GW CW:Nat→Nat),j≤n∧iv=.int .i64 j∧Hid (OMV 3 ER 84 75 wr wA.heap.size ov GW CW (waysTo t p n j))∧Hid (Below wA.heap.size wA wr)) (fun _ iv _=>n-(intOf iv).toNat)
       case atStart=>exact⟨0,_,_,Nat.zero_le _,rfl,zz OMV.nil0,E5⟩
       case round=>
        obtain⟨j,GW,CW,hj,rfl,HO,HW⟩:=hrel;have zr:=HW.out.size;by_cases hlt:j<n
        ·skip
         have hji:(0:Int)≤(j:Int)∧(j:Int)<(n:Int):=by omega
         go_wp2_with fail
         refine(containsI_any _ Ap p.length cp (ni p) (j:Int) (D5.out.step HW.out)).mono ?_;rintro e w42 ⟨L0,rfl⟩;have B43:=zz L0;have z43:=B43.out.size;have E2:=tr HW B43;clear L0;have i4:=zz (OMV.step HO.out ER.stable B43.out);have N3:=zz E2.out;clear HO HW;rw[mem_ni];by_cases hjp:j∈p
         ·rw[decide_eq_true hjp];have E7:Hid (OMV 3 ER 84 75 w42 wA.heap.size u17 GW CW (waysTo t p n (j+1))):=zz (by rw[waysTo_in hjp];exact i4.out);go_wp2;go_roundw
          case rel=>exact⟨j+1,GW,CW,hlt,by go_num,E7,N3⟩
          case measure=>simp[intOf];omega
         ·rw[decide_eq_false hjp];have hmk:=mk_row n (by omega) w42;have hbm:Below w42.heap.size w42 (w42.alloc (.cells (madeCells #[.bool false,.slice none 0 0,.slice none 0 0] (n*3)) 84)):=below_alloc1 (Below.refl _ _) _;have Z3:=zz (made_row w42 n);have T3:=zz hbm;clear hbm;go_wp2;clear hmk;go_loopw [103] (fun iv wr=>∃ i:Nat,i≤n∧iv=.int .i64 i∧Hid (OB 3 ER 84 wr w42.heap.size n ((wayQ t p n j).take i))∧Hid (Below w42.heap.size w42 wr)) (fun iv _=>n-(intOf iv).toNat)
          case atStart=>exact⟨0,Nat.zero_le _,rfl,Z3,T3⟩
          case round=>
           obtain⟨i,hi,rfl,HO,HW⟩:=hrel;have zr':=HW.out.size;by_cases hit:i<n
           ·skip
            have hjl:((wayQ t p n j).take i).length=i:=by rw[List.length_take,wayQ_len];omega
            have hpt:=wayQ_take (t:=t) (p:=p) (j:=j) hit;have B3:=zz hpt;have F3:=zz hjl;clear hpt hjl;generalize (wayQ t p n j).take i=l at HO B3 F3;have hii:(0:Int)≤(i:Int)∧(i:Int)<(n:Int):=by omega
            go_wp2_with fail
            refine(zero_any _).mono ?_;rintro e w45 ⟨M0,v,rfl,hv⟩;have B46:=zz M0;have z46:=B46.out.size;have F2:=tr HW B46;clear M0;obtain⟨G4,I4,J4,K4,L4,m0,M4,rfl,ha48,N0,hc48⟩:=hv;have L1:Hid (RV w45 w45.heap.size (.agg #[.bool G4,.slice I4 J4 K4,.slice L4 m0 M4]) 0):=zz (TV.mk ha48 N0 hc48);clear ha48 N0 hc48;have w3:=zz (OB.step HO.out ER.stable B46.out);have r4:=zz F2.out;obtain⟨o0,ho0⟩:=OB.room w3.out (p:=i*3) (by omega);obtain⟨o1,ho1⟩:=OB.room w3.out (p:=i*3+1) (by omega);obtain⟨o2,ho2⟩:=OB.room w3.out (p:=i*3+2) (by omega);have fz0:=OB.frozen w3.out (i*3);have fz1:=OB.frozen w3.out (i*3+1);have fz2:=OB.frozen w3.out (i*3+2);have flt:=OB.lt w3.out;go_wp2_with fail
            clear ho0 ho1 ho2 fz0 fz1 fz2 flt;obtain⟨w49,p0⟩:∃ v:World,v=(((w45.setCell ⟨w42.heap.size,i*3,none⟩ (.bool G4)).setCell ⟨w42.heap.size,i*3+1,none⟩ (.slice I4 J4 K4)).setCell ⟨w42.heap.size,i*3+2,none⟩ (.slice L4 m0 M4)):=⟨_,rfl⟩;rw[← p0];obtain⟨hp1,hp2,hp3⟩:=OB.push1 (B:=w42.heap.size) (j:=i) w3.out F3.out.symm hit L1.out (Nat.le_refl _);rw[show setCells w45 (w42.heap.size) (i*3) [.bool G4,.slice I4 J4 K4,.slice L4 m0 M4]=w49 from p0.symm] at hp1 hp2 hp3;clear p0;have U3:=zz hp1;have L3:=zz (r4.out.trans hp2);clear hp1 hp2 hp3 w3 r4;have z10:=L3.out.size;refine(indexI_any _ Ap p.length cp (ni p) (i:Int) (D5.out.step (N3.out.trans (L3.out.mono N3.out.size)))).mono ?_;rintro e w50 ⟨O0,rfl⟩;have B51:=zz O0;have z51:=B51.out.size;have I2:=tr L3 B51;clear O0;have y3:=zz (OB.step U3.out ER.stable B51.out);have z3:=zz I2.out;clear U3;have z11:=z3.out.size;have G5:=tr N3 z3;rw[idx_ni];by_cases hip:i∈p
            ·rw[if_pos hip];have hij:¬ i=j:=fun e=>hjp (e▸hip);have hij':((i:Int)==(j:Int))=false:=by rw[beq_eq_false_iff_ne];omega
             obtain⟨k,hk⟩:∃ k,k=p.idxOf i:=⟨_,rfl⟩;have hkp:k<p.length:=by rw[hk];exact List.idxOf_lt_length_iff.2 hip
             have hpe:wayE t p j i=0-atQ t k j:=by rw[hk];unfold wayE;rw[if_neg hij,if_pos hip,Rat.sub_eq_add_neg,Rat.zero_add]
             rw[← hk];rw[hpe] at B3;clear hpe hk hij;have hkt:k<t.length:=by omega
             have hki:(0:Int)≤(k:Int)∧(k:Int)<(t.length:Int):=by omega
             have hjn':(0:Int)≤(j:Int)∧(j:Int)<(n:Int)+1:=(by omega);have hjn'':j<n+1:=(by omega);have HOt:=zz (OM.step U6.out ERo.stable G5.out);have I5:=zz (OM.head HOt.out HD.out.tw hkt);have P3:=zz (OM.caps HOt.out HD.out.tw hkt);obtain⟨xn,xA,xl,xc,xB,xu,xd,hE,hv⟩:=OM.elem HOt.out HD.out.tw hkt (show j<n+1 by omega);have V3:=zz hv;clear hv;obtain⟨x,hx⟩:∃ x,x=atQ t k j:=⟨_,rfl⟩;rw[← hx] at V3 B3;have J5:Hid (QL 60000000 60000000 x):=zz (by rw[hx];have h9:boundE p.length≤60000000:=Nat.le_trans (growQ_mono (Nat.le_trans HD.out.pn HD.out.n6)) (by decide);exact(HD.out.ts.at (growQ_pos (by decide) _) k j).mono h9 h9);have F7:=zz (CB.step V6.out G5.out);go_upto_region 31 with (fail)
             refine Sweep.r0 [se 0 115 [] (.slice (some ⟨w42.heap.size,0,none⟩) n n),se 1 116 [] (.int .i64 (i:Int)),sf 2 117 [] (fun fv fw=>RV fw fw.heap.size fv 0),se 3 118 [] (.pointer (some ⟨u3,0,none⟩)),se 4 119 [3] (.slice (some ⟨tb,0,none⟩) t.length R),se 5 120 [] (.int .i64 (k:Int)),se 6 121 [4,5] (.pointer (some ⟨tb,k,none⟩)),se 7 122 [6] (.slice (some ⟨G3 k,0,none⟩) (n+1) (C3 k)),se 8 123 [] (.int .i64 (j:Int)),se 9 124 [7,8] (.pointer (some ⟨G3 k,j*3,none⟩)),se 10 125 [9] (.agg #[.bool xn,.slice xA xl xc,.slice xB xu xd]),sf 11 126 [2,10] (fun fv fw=>RV fw fw.heap.size fv (0-x)),se 12 127 [0,1] (.pointer (some ⟨w42.heap.size,i*3,none⟩))] 1 (SB F7.out (SC (fun _ h=>(E3.step hE h).c0) (SC (fun _ h=>(E3.step hE h).c1) (SC (fun _ h=>(E3.step hE h).c2) S0)))) (MA (fun _ _ _ h hb=>h.step hb) (MA (fun _ _ _ h hb=>h.step hb) trivial)) ?_ ?_
             ·intro xs a_ hA;simp only[SX] at hA
              iterate 13 (refine ac ?_ ?_;rotate_left)
              exact all_nil
              all_goals (intro wk hb;simp only[SX,↓reduceIte,Nat.reduceEqDiff,Nat.reduceAdd];have b_:=zz hb;have z_:=hb.size;clear hb;subst hA)
              any_goals (intro f6;intros;(refine wpOp_step (i:=7) (o:=_) rfl (fun K hK=>?_));have qv0:=(Below.cell b_.out (p:=⟨tb,k,none⟩) HOt.out.lt).trans I5.out;go_simp;(refine hK _ _ ⟨.slice (some ⟨G3 k,0,none⟩) (n+1) (C3 k),by simp only[FL,f6] <;> kernel_rfl,Below.refl _ _,rfl⟩))
              any_goals (intro f7 f8;intros;(refine wpOp_step (i:=9) (o:=_) rfl (fun K hK=>?_));have qv0:=P3.out;go_simp;(refine hK _ _ ⟨.pointer (some ⟨G3 k,j*3,none⟩),by simp only[FL,f7,f8] <;> kernel_rfl,Below.refl _ _,rfl⟩))
              any_goals (intros;refine wpOp_step rfl ?_;intro K hK;go_simp;refine hK _ _ ⟨_,?_,Below.refl _ _,rfl⟩;simp only[*,FL] <;> kernel_rfl)
              ·intros
               refine wpOp_step (o:=_) rfl (fun K hK=>?_);go_simp;(with_reducible refine(zero_any _).mono ?_)
               rintro e wc53 ⟨J2,v53,rfl,K2⟩;refine hK _ _ ⟨v53,by kernel_rfl,J2,K2⟩
              ·intro f2 f10;intros;refine wpOp_step (o:=_) rfl (fun K hK=>?_);go_simp;have M1:=zz (RV.step V3.out b_.out);(with_reducible refine(Diff_any _ _ _ 0 x f2 M1.out (QL.zero1 _ _ (by decide)) J5.out).mono ?_)
               rintro e wc55 ⟨L2,v55,rfl,M2⟩;refine hK _ _ ⟨v55,by simp only[FL,f10] <;> kernel_rfl,L2,M2⟩
             ·intro xs K5 hbf;simp only[SY];have B57:=zz hbf;have z57:=B57.out.size;have N2:=tr z3 B57;clear hbf;generalize xs 2=x2,xs 11=x11;rintro f2 f11;clear f2;obtain⟨G7,H7,I7,J7,K7,N1,L7,rfl,ha59,P0,hc59⟩:=f11;have O1:Hid (RV K5 K5.heap.size (.agg #[.bool G7,.slice H7 I7 J7,.slice K7 N1 L7]) (0-x)):=zz (TV.mk ha59 P0 hc59);clear ha59 P0 hc59;have q3:=zz (OB.step y3.out ER.stable B57.out);have N4:=zz N2.out;obtain⟨o0,ho0⟩:=OB.room q3.out (p:=i*3) (by omega);obtain⟨o1,ho1⟩:=OB.room q3.out (p:=i*3+1) (by omega);obtain⟨o2,ho2⟩:=OB.room q3.out (p:=i*3+2) (by omega);have fz0:=OB.frozen q3.out (i*3);have fz1:=OB.frozen q3.out (i*3+1);have fz2:=OB.frozen q3.out (i*3+2);have flt:=OB.lt q3.out;obtain⟨hp1,hp2,hp3⟩:=OB.put1 (B:=w42.heap.size) (j:=i) q3.out (by rw[List.length_append,F3.out];simp) O1.out (Nat.le_refl _);rw[show(l++[(0:Rat)]).set i (0-x)=l++[0-x] by rw[← F3.out];simp,← B3.out] at hp1;have I3:=zz hp1;have s4:=zz (N4.out.trans hp2);clear hp1 hp2 hp3;refine EN 13 rfl fun K hK=>?_;go_simp;refine hK _ _ ?_;clear hK K;clear ho0 ho1 ho2 fz0 fz1 fz2 flt;(try simp only[PT])
              refine ED ?_;(try simp only[Exit.then])
              go_wp2;go_roundw
              case rel=>exact⟨i+1,hit,by go_num,I3,s4⟩
              case measure=>simp[intOf];omega
            ·rw[if_neg hip];by_cases hij:i=j
             ·have hij':((i:Int)==(j:Int))=true:=by rw[beq_iff_eq];omega
              have hpe:wayE t p j i=1:=if_pos hij;rw[hpe] at B3;clear hpe hij;go_wp2_with fail
              refine(((QOf_any _ 1 1 (by decide) (by decide) (by decide) (by decide)).mono fun e w' h=>And.intro h.1 (ret_one h.2))).mono ?_;rintro e w60 ⟨Q0,v,rfl,hv⟩;have B61:=zz Q0;have z61:=B61.out.size;have O2:=tr z3 B61;clear Q0;obtain⟨L5,M5,N5,O5,P5,q0,Q5,rfl,ha63,R0,hc63⟩:=hv;have P1:=zz (show QV w60 w60.heap.size (.agg #[.bool L5,.slice M5 N5 O5,.bool false,.slice P5 q0 Q5]) 1 from⟨_,_,_,_,_,_,_,rfl,ha63,R0,hc63⟩);clear ha63 R0 hc63;go_upto_region 34 with (fail)
              obtain⟨w64,j0⟩:∃ w64:World,w64=(w60.alloc (.cells #[.bool L5,.slice M5 N5 O5,.bool false,.slice P5 q0 Q5] 33)):=⟨_,rfl⟩;rw[← j0];have e0:=n1_0 j0;have za64:=n1_z j0;have B65:=zz (n1_b j0);have z65:=B65.out.size;have P2:=tr O2 B65;clear j0;have Q1:=e0.cell 0 rfl;have R1:=e0.cell 1 rfl;have S1:=e0.cell 2 rfl;have T1:=e0.cell 3 rfl;have R5:=e0.lt;go_wp2_with fail
              clear Q1 R1 S1 T1 R5;refine(Read_any _ _ _ _ _ _ _ _ _).mono ?_;rintro e w68 ⟨U0,rfl⟩;have B69:=zz U0;have z69:=B69.out.size;have Q2:=tr P2 B69;clear U0;have P1_3_71:=tr B61 B65;have P1_4_72:=tr P1_3_71 B69;have P2_4_73:=tr B65 B69;have U1:=zz (QV.step P1.out P2_4_73.out);have HZ:=zz (qv_rv U1.out);have q3:=zz (OB.step y3.out ER.stable P1_4_72.out);have N4:=zz Q2.out;obtain⟨o0,ho0⟩:=OB.room q3.out (p:=i*3) (by omega);obtain⟨o1,ho1⟩:=OB.room q3.out (p:=i*3+1) (by omega);obtain⟨o2,ho2⟩:=OB.room q3.out (p:=i*3+2) (by omega);have fz0:=OB.frozen q3.out (i*3);have fz1:=OB.frozen q3.out (i*3+1);have fz2:=OB.frozen q3.out (i*3+2);have flt:=OB.lt q3.out;obtain⟨hp1,hp2,hp3⟩:=OB.put1 (B:=w42.heap.size) (j:=i) q3.out (by rw[List.length_append,F3.out];simp) HZ.out (Nat.le_refl _);rw[show(l++[(0:Rat)]).set i 1=l++[1] by rw[← F3.out];simp,← B3.out] at hp1;have I3:=zz hp1;have s4:=zz (N4.out.trans hp2);clear hp1 hp2 hp3;go_wp2;go_roundw
              case rel=>exact⟨i+1,hit,by go_num,I3,s4⟩
              case measure=>simp[intOf];omega
             ·have hij':((i:Int)==(j:Int))=false:=by rw[beq_eq_false_iff_ne];omega
              have hpe:wayE t p j i=0:=by unfold wayE;rw[if_neg hij,if_neg hip]
              rw[hpe] at B3;have I3:Hid (OB 3 ER 84 w50 w42.heap.size n ((wayQ t p n j).take (i+1))):=zz (by rw[B3.out];exact y3.out);clear hpe hij;go_wp2;go_roundw
              case rel=>exact⟨i+1,hit,by go_num,I3,z3⟩
              case measure=>simp[intOf];omega
           ·obtain rfl:n=i:=by omega
            rw[List.take_of_length_le (by rw[wayQ_len];exact Nat.le_refl _)] at HO;rename World=>wC
            have a0:Below wC.heap.size wC (wC.alloc (.cells #[.slice (some ⟨w42.heap.size,0,none⟩) n n] 75)):=below_alloc1 (Below.refl _ _) _;have a7:=tr N3 HW;have hgC:=HO.out.lt;have a4:=zz ((OMV.step i4.out ER.stable HW.out).step ER.stable a0);have W4:=zz (OB.step HO.out ER.stable a0);have g0:=zz (a7.out.trans (a0.mono a7.out.size));clear a0;have hwl:=waysTo_le (t:=t) (p:=p) (n:=n) (j:=j);go_wp2_with (at_builtin;go_loud (refine wpList_append_oa rfl _ _ _ rfl wA.heap.size 75 ir _ 24 Tryz.underlying69 hir hzr hsr hbr rfl (by decide) (by decide) EV.stable EV.soft a4.out.hdr rfl ⟨wC.heap.size,0,none⟩ 1 [.slice (some ⟨w42.heap.size,0,none⟩) n n] rfl Nat.one_pos [.slice (some ⟨w42.heap.size,0,none⟩) n n] (EL.one rfl ⟨rfl,rfl⟩) (cell_one_new _ _ _) (by intro u hu;simp at hu;subst hu;rfl) (by simp only[hdL_len,List.length_cons,List.length_nil,maxLen];omega) (by simp only[hdL_len,List.length_cons,List.length_nil];omega) (by have:=g0.out.size;simpa using this) ?_))
            intro v8 w8' hoa hb hs' hg' hat;have hl8:(wayQ t p n j).length=n:=wayQ_len;have happ:=a4.out.app ER.soft (g:=w42.heap.size) (c:=n) (l:=wayQ t p n j) ⟨N3.out.size,fun e=>by have:=(i4.out.hdr.blk e).1;omega⟩ (fun i hi=>by have:=(i4.out.rows i hi).lt;omega) ⟨Nat.le_of_eq hl8,by omega⟩ W4.out (by rw[hl8];simpa[hdL_len] using hoa) hs' hg' (by simpa using hat);rw[← waysTo_out hjp] at happ;have M7:=zz happ;have d0:=zz (g0.out.trans hb);clear happ hoa hb hs' hg' hat;go_wp2;go_roundw
            case rel=>exact⟨j+1,_,_,hlt,by go_num,M7,d0⟩
            case measure=>simp[intOf];omega
        ·obtain rfl:n=j:=by omega
         rw[waysTo_all] at HO;rename World=>wD
         obtain⟨Aw,cw,rfl,-⟩:=SL.slice HO.out.sl;have S5:=tr T6 HW;have T5:=zz HO.out;have u4:=zz (OB.step C5.out ER.stable HW.out);have b7:=zz (W6.out.step (SE.stable EQ.stable) HW.out);have c7:=zz (X6.out.step EQ.stable HW.out);have U5:=zz (CB.step Y6.out HW.out);have V5:=zz (CB.step Z6.out HW.out);have hgD:=u4.out.lt;have hgw:=hgA;have hsA:=HW.out.size;clear HO HW C5 U6 D5 V6 W6 X6 Y6 Z6 T6 E5 hj hlt hgA;obtain⟨X,hX⟩:∃ X,X=pointQ t p n:=⟨_,rfl⟩;have hxl:X.length=n:=by rw[hX,pointQ_len]
         have hxs:∀ q∈X,QL (boundE p.length) (boundE p.length) q:=by rw[hX];exact point_short HD.out.ts (growQ_pos (by decide) _)
         obtain⟨Y,hY⟩:∃ Y,Y=waysQ t p n:=⟨_,rfl⟩;have hyw:Wide Y n:=by rw[hY];exact waysTo_wide (j:=n)
         have hys:Short (boundE p.length) Y:=by rw[hY];exact ways_short HD.out.ts (growQ_pos (by decide) _)
         have hyc:Y.length+p.length≤n:=by rw[hY];exact free_count HD.out.ps HD.out.plt
         have hr2:=U4.out;rw[← hX,← hY] at hr2;rw[← hX] at u4;rw[← hY] at T5 ⊢;have J3:=zz hxl;have b4:=zz hxs;have X4:=zz hyw;have v4:=zz hys;have d7:=zz hyc;clear hX hY U4 hxl hxs hyw hys hyc;have he6:boundE p.length≤17749:=Nat.le_trans (growQ_mono (Nat.le_trans HD.out.pn HD.out.n6)) (by decide);have M3:=zz he6;clear he6;by_cases hy0:Y=[]
         case pos=>
          have Y4:=zz (hr2.trans (if_pos hy0));have hy1:Y.length=0:=by rw[hy0];rfl
          rw[hy1];clear hr2 hy0 hy1;go_wp2_with fail
          refine(ltold_any _ _ _ _ X (by have h:=u4.out.sl (c:=n) (Nat.le_of_eq J3.out) (by omega);rwa [J3.out] at h) (fun q hq=>(b4.out q hq).mono (by have:=M3.out;omega) (by have:=M3.out;omega)) (by rw[J3.out];omega)).mono ?_;rintro e w75 ⟨V0,v,rfl,hv⟩;have B76:=zz V0;have z76:=B76.out.size;have R2:=tr S5 B76;clear V0;have W5:=zz hv;clear hv;go_wp2;go_ret2;exact⟨R2.out,by rw[Y4.out];exact⟨_,rfl,W5.out⟩⟩
         case neg=>
          have Y4:=zz (hr2.trans (if_neg hy0));have hy1:1≤Y.length:=by rcases Y with _ | _;exact absurd rfl hy0;simp
          have hyi:((Y.length:Int)==0)=false:=by rw[beq_eq_false_iff_ne];omega
          clear hr2 hy0;have hy6:(Y.length:Int)≤6:=by have:=d7.out;omega
          obtain⟨Q,hQ⟩:∃ Q,Q=stepsQ (ratM M) Y:=⟨_,rfl⟩;obtain⟨V,hV⟩:∃ V,V=leftQ (ratM M) (rats b) X:=⟨_,rfl⟩;have hml:(ratM M).length=M.length:=by rw[ratM,List.length_map]
          have hql:Q.length=M.length:=by rw[hQ,stepsQ_len,hml]
          have hvl:V.length=M.length:=by rw[hV,leftQ_len,hml]
          have hqw:Wide Q Y.length:=by rw[hQ];exact stepsQ_wide
          have b3:(4+boundE p.length+1)*n≤(4+boundE p.length+1)*6:=Nat.mul_le_mul_left _ HD.out.n6;have hqs:Short (boundS p.length) Q:=by rw[hQ];exact(steps_short HD.out.ms v4.out (by decide) (growQ_pos (by decide) _) HD.out.mw).mono (by unfold boundS;omega)
          have hvs:∀ q∈V,QL (boundS p.length) (boundS p.length) q:=by rw[hV];exact fun q hq=>(left_short HD.out.ms HD.out.bs b4.out (by decide) (growQ_pos (by decide) _) HD.out.mw q hq).mono (by unfold boundS;omega) (by unfold boundS;omega)
          have hq0:=fun(i:Nat) (h:i<(ratM M).length)=>steps_take (ways:=Y) h;have W0:=fun(i:Nat) (h:i<(ratM M).length)=>left_take (b:=rats b) (x:=X) h;rw[← hQ] at hq0;rw[← hV] at W0
          have hr3:=Y4.out;rw[← hQ,← hV] at hr3;have e7:=zz hr3;clear Y4 hr3;have i8:=zz hml;have D3:=zz hql;have X5:=zz hvl;have Y5:=zz hqw;have Z4:=zz hqs;have Z5:=zz hvs;have j8:=zz hq0;have k8:=zz W0;clear hml hql hvl hqw b3 hqs hvs hq0 W0 hQ hV;have hmm:(M.length:Int)≤12∧(1:Int)≤(M.length:Int):=by have:=HD.out.m12;have:=HD.out.m1;omega
          obtain⟨iq,hiq,hzq,hsq,hbq⟩:=info_parts info_ratio;have V1:=U5.out.cell 0 rfl;have a6:=U5.out.lt;go_wp2_with fail
          clear V1 a6;refine(readM_any _ A _ ca M b7.out H1.out).mono ?_;rintro e w79 ⟨X0,gm,GM,CM,rfl,hom⟩;have B80:=zz X0;have z80:=B80.out.size;have S2:=tr S5 B80;clear X0;have R3:=zz hom;clear hom;have g7:=zz S2.out;have c6:=zz (OMV.step T5.out ER.stable B80.out);have a5:=zz (OB.step u4.out ER.stable B80.out);have i7:=zz (show QS w79 w79.heap.size (.slice B b.length cb) b from c7.out.step EQ.stable B80.out);have d6:=zz (CB.step V5.out B80.out);have hgE:=a5.out.lt;have hsE:=B80.out.size;clear T5 u4 c7 V5 U5 b7 S5 hgD;have e6:=zz (Below.refl w79.heap.size w79);go_wp2;go_loopw [26,27,156] (fun sv rv iv wr=>∃ (i:Nat) (GS CS:Nat→Nat),i≤M.length∧iv=.int .i64 i∧Hid (OMV 3 ER 84 75 wr w79.heap.size sv GS CS (Q.take i))∧Hid (OA 3 ER 84 wr w79.heap.size rv (V.take i))∧Hid (ApartV sv rv GS i)∧Hid (Below w79.heap.size w79 wr)) (fun _ _ iv _=>M.length-(intOf iv).toNat)
          case atStart=>exact⟨0,_,_,Nat.zero_le _,rfl,zz OMV.nil0,zz OA.nil,zz ApartV.nil,e6⟩
          case round=>
           obtain⟨i,GS,CS,hi,rfl,HO,HV,b5,HW⟩:=hrel;have zr:=HW.out.size;by_cases hlt:i<M.length
           ·skip
            have him:i<(ratM M).length:=by rw[i8.out];exact hlt
            have hii:(0:Int)≤(i:Int)∧(i:Int)<(M.length:Int):=by omega
            have hib:i<b.length:=by rw[H5.out];exact hlt
            have hbi:(i:Int)<(b.length:Int):=by omega
            have hq1:=j8.out i him;have s0:=k8.out i him;obtain⟨r,hr⟩:∃ r,r=(ratM M)[i]:=⟨_,rfl⟩;obtain⟨y,hy⟩:∃ y,y=(qv b[i]).getD 0:=⟨_,rfl⟩;have hrl:r.length=n:=by rw[hr];exact HD.out.mw _ (List.getElem_mem him)
            have hrs:∀ q∈r,QL 4 4 q:=by rw[hr];exact HD.out.ms _ (List.getElem_mem him)
            have hby:(rats b).getD i 0=y:=by rw[hy,rats,getD_is (by rw[List.length_map];exact hib),List.getElem_map]
            have hys':QL 4 4 y:=by rw[← hby];exact short_getD HD.out.bs (by decide) i
            have j7:=zz hr;rw[← hr] at hq1 s0;rw[hby] at s0;have HOr:=zz (OM.step R3.out ER.stable HW.out);have I5:=zz (OM.head HOr.out HD.out.mw him);have P3:=zz (OM.caps HOr.out HD.out.mw him);have hrow:=(HOr.out.rows i him).sl (c:=CM i) (by rw[← hr,hrl];exact P3.out.1) P3.out.2;rw[← hr,hrl] at hrow;have c5:=zz hrow;clear hrow;obtain⟨gb,offb,yA,yl,yc,yB,yu,yd,rfl,hgb,hEb,hvb⟩:=QS.elem i7.out hib;have hqx:b[i]=qx y:=by have h9:=(okL_is H2.out).1;rw[hy];exact(small_is (by have h:=H2.out;unfold okL at h;simp only[Bool.and_eq_true,List.all_eq_true] at h;exact h.2 _ (List.getElem_mem hib))).1
            rw[hqx] at hEb hvb;clear hqx;have m8:=zz hEb;have d5:=zz (QR.qv hvb);clear hvb hgb hEb;have Q3:=zz hrl;have g6:=zz hrs;have n8:=zz hys';have X3:=zz hq1;have o8:=zz s0;clear hrl hrs hby hys' hq1 s0 hy hr;have qh:=I5.out;have qtl:=HOr.out.lt;have hdy:∀ z∈Y,DotOK r z:=fun z hz=>dot_ok (l:=4) (l':=boundE p.length) (by rw[Q3.out,X4.out z hz];exact Nat.le_refl _) g6.out (v4.out z hz) (by decide) (growQ_pos (by decide) _) (Nat.le_trans (Nat.mul_le_mul (show 4+boundE p.length+1≤17754 by have:=M3.out;omega) (show r.length+1≤7 by rw[Q3.out];omega)) (by decide));have k7:=zz hdy;clear hdy
            have hdx:DotOK r X:=dot_ok (l:=4) (l':=boundE p.length) (by rw[Q3.out,J3.out];exact Nat.le_refl _) g6.out b4.out (by decide) (growQ_pos (by decide) _) (Nat.le_trans (Nat.mul_le_mul (show 4+boundE p.length+1≤17754 by have:=M3.out;omega) (show r.length+1≤7 by rw[Q3.out];omega)) (by decide));have l7:=zz hdx;clear hdx;have hqd:QL 60000000 60000000 (dotQ r X):=(dotTo_ql g6.out b4.out (by decide) (growQ_pos (by decide) _) r.length).mono (Nat.le_trans (Nat.succ_le_succ (Nat.mul_le_mul (show 4+boundE p.length+1≤17754 by have:=M3.out;omega) (show r.length≤6 by rw[Q3.out];omega))) (by decide)) (Nat.le_trans (Nat.succ_le_succ (Nat.mul_le_mul (show 4+boundE p.length+1≤17754 by have:=M3.out;omega) (show r.length≤6 by rw[Q3.out];omega))) (by decide));have O7:=zz hqd;clear hqd;have HYr:=zz (OMV.sl (OMV.step c6.out ER.stable HW.out));go_wp2_with fail
            clear qh qtl;refine(eachR_any _ Aw Y.length cw Y 45 (.slice (some ⟨GM i,0,none⟩) n (CM i)) (dotQ r) HYr.out (by omega) products_run (fun w1 j hj A' u' c' hb hx=>products_any w1 _ A' n (CM i) u' c' r Y[j] (c5.out.step ER.stable hb) hx (k7.out _ (List.getElem_mem hj)).le (k7.out _ (List.getElem_mem hj)).ql)).mono ?_;rintro e w82 ⟨Y0,g,rfl,hg,ho⟩;have B83:=zz Y0;have z83:=B83.out.size;have Z0:=tr HW B83;clear Y0;have a0:Below w82.heap.size w82 (w82.alloc (.cells #[.slice (some ⟨g,0,none⟩) Y.length Y.length] 75)):=below_alloc1 (Below.refl _ _) _;have a4:=zz ((OMV.step HO.out ER.stable B83.out).step ER.stable a0);have m7:=zz ((OA.step HV.out ER.stable B83.out).step ER.stable a0);have W4:=zz (OB.step ho ER.stable a0);have g0:=zz (Z0.out.trans (a0.mono Z0.out.size));have hz3:=a0.size;have HG:=zz hg;clear a0 ho hg;go_wp2_with (at_builtin;go_loud (refine wpList_append_oa rfl _ _ _ rfl w79.heap.size 75 ir _ 24 Tryz.underlying69 hir hzr hsr hbr rfl (by decide) (by decide) EV.stable EV.soft a4.out.hdr rfl ⟨w82.heap.size,0,none⟩ 1 [.slice (some ⟨g,0,none⟩) Y.length Y.length] rfl Nat.one_pos [.slice (some ⟨g,0,none⟩) Y.length Y.length] (EL.one rfl ⟨rfl,rfl⟩) (cell_one_new _ _ _) (by intro u hu;simp at hu;subst hu;rfl) (by simp only[hdL_len,List.length_take,List.length_cons,List.length_nil,maxLen];omega) (by simp only[hdL_len,List.length_take,List.length_cons,List.length_nil];omega) (by have:=g0.out.size;simpa using this) ?_))
            intro v8 w8' hoa hb hs' hg' hat;have hl8:(Y.map (dotQ r)).length=Y.length:=List.length_map _;have hil:(Q.take i).length=i:=by rw[List.length_take,D3.out];omega
            have hub:∀ X',u27.ownBlock=some X'→X'<wr.heap.size:=fun X' e=>(HV.out.blk e).1
            have happ:=a4.out.app ER.soft (g:=g) (c:=Y.length) (l:=Y.map (dotQ r)) ⟨by have:=HG.out;omega,fun e=>by have:=(HO.out.hdr.blk e).1;have:=HG.out;omega⟩ (fun i hi=>by have:=(HO.out.rows i hi).lt;have:=HG.out;omega) ⟨Nat.le_of_eq hl8,by omega⟩ W4.out (by rw[hl8];simpa[hdL_len] using hoa) hs' hg' (by simpa using hat);rw[show(Q.take i).length=i from hil] at happ;have hap2:=b5.out.push (g:=g) (v':=v8) (Z:=wr.heap.size) hub HG.out hat (by have:=B83.out.size;simp at hz3 ⊢;omega);have P7:=zz (OA.grown m7.out ER.soft hg' (fun X' e e'=>(b5.out X' e).1 e') hs');have Q7:Hid (OMV 3 ER 84 75 w8' w79.heap.size v8 _ _ (Q.take (i+1))):=zz (by rw[X3.out];exact happ);have P4:=zz hap2;have d0:=zz (g0.out.trans hb);clear happ hap2 hoa hb hs' hg' hat hz3 hub hl8 hil a4 m7 W4 g0 HO HV b5 HYr c5 HOr;have z8:=d0.out.size;have HOr:=zz (OM.step R3.out ER.stable d0.out);have HXr:=zz (OB.step a5.out ER.stable d0.out);have HBr:=zz (CB.step d6.out d0.out);have hEb:=m8.out.step d0.out;have HYr:=zz (QV.step d5.out d0.out);have W1:=HBr.out.cell 0 rfl;have i6:=HBr.out.lt;have X1:=hEb.c0;have Y1:=hEb.c1;have Z1:=hEb.c2;have a2:=hEb.c3;have j6:=hEb.lt;go_wp2_with fail
            clear W1 i6 X1 Y1 Z1 a2 j6;refine(Read_any _ _ _ _ _ _ _ _ _).mono ?_;rintro e w87 ⟨a1,rfl⟩;have B88:=zz a1;have z88:=B88.out.size;have T2:=tr d0 B88;clear a1;go_wp2_with fail
            have hrow:=((HOr.out.step ER.stable B88.out).rows i him).sl (c:=CM i) (by rw[← j7.out,Q3.out];exact P3.out.1) P3.out.2;rw[← j7.out,Q3.out] at hrow;have c5:=zz hrow;clear hrow;have hxr:=(HXr.out.step ER.stable B88.out).sl (c:=n) (Nat.le_of_eq J3.out) (by omega);rw[J3.out] at hxr;have p8:=zz hxr;clear hxr;refine(products_any _ _ _ n (CM i) n n r X c5.out p8.out l7.out.le l7.out.ql).mono ?_;rintro e w90 ⟨b1,v,rfl,hv⟩;have B91:=zz b1;have z91:=B91.out.size;have U2:=tr T2 B91;clear b1;obtain⟨R7,S7,T7,U7,V7,b2,W7,rfl,ha93,d1,hc93⟩:=hv;have d2:Hid (RV w90 w90.heap.size (.agg #[.bool R7,.slice S7 T7 U7,.slice V7 b2 W7]) (dotQ r X)):=zz (TV.mk ha93 d1 hc93);clear ha93 d1 hc93;go_wp2_with fail
            have P1_3_95:=tr B88 B91;have e2:=zz (QV.step HYr.out P1_3_95.out);refine(Diff_any _ _ _ y (dotQ r X) (qv_rv e2.out) d2.out (n8.out.mono (by decide) (by decide)) O7.out).mono ?_;rintro e w94 ⟨g1,v,rfl,hv⟩;have B97:=zz g1;have z97:=B97.out.size;have i1:=tr U2 B97;clear g1;obtain⟨j4,k4,l4,m4,n4,h0,o4,rfl,ha99,j1,hc99⟩:=hv;have i2:Hid (RV w94 w94.heap.size (.agg #[.bool j4,.slice k4 l4 m4,.slice n4 h0 o4]) (y-dotQ r X)):=zz (TV.mk ha99 j1 hc99);clear ha99 j1 hc99;have a0:Below w94.heap.size w94 (w94.alloc (.cells #[.bool j4,.slice k4 l4 m4,.slice n4 h0 o4] 84)):=below_alloc1 (Below.refl _ _) _;have q8:=zz (CB.new w94 84 #[.bool j4,.slice k4 l4 m4,.slice n4 h0 o4]);have r8:=zz (RV.step i2.out a0);have P1_4_100:=tr P1_3_95 B97;have Q4:=zz ((OMV.step Q7.out ER.stable P1_4_100.out).step ER.stable a0);have X7:=zz ((OA.step P7.out ER.stable P1_4_100.out).step ER.stable a0);have u2:=zz (i1.out.trans (a0.mono i1.out.size));clear a0
            go_wp2_with (at_builtin;go_loud (refine wpList_append_oa rfl _ _ _ rfl w79.heap.size 84 iq _ 56 Tryz.underlying75 hiq hzq hsq hbq rfl (by decide) (by decide) ER.stable ER.soft X7.out rfl ⟨w94.heap.size,0,none⟩ 1 [y-dotQ r X] rfl Nat.one_pos [.bool j4,.slice k4 l4 m4,.slice n4 h0 o4] (EL.one rfl ⟨_,_,_,rfl,r8.out⟩) (cells_at q8.out [_,_,_] rfl) (by intro u hu;simp at hu;rcases hu with rfl | rfl | rfl <;> rfl) (by simp only[List.length_take,List.length_cons,List.length_nil,maxLen];omega) (by simp only[List.length_take,List.length_cons,List.length_nil];omega) (by have:=u2.out.size;simpa using this) ?_))
            intro v9 w9' hoa hb hs' hg' hat;have hov4:=OMV.grown Q4.out ER.soft hg' ⟨fun X' e e'=>(P4.out X' e').1 e,fun k hk e'=>(P4.out _ e').2 k (by rw[List.length_take,D3.out] at hk;omega) rfl⟩ hs';have hap4:=P4.out.other (u':=v9) (fun X' e=>Q4.out.blk e) (fun k hk=>(Q4.out.rows k (by rw[List.length_take,D3.out];omega)).lt) (by simpa using hat);have Y7:=zz hov4;have Z7:=zz hap4;have a8:Hid (OA 3 ER 84 w9' w79.heap.size v9 (V.take (i+1))):=zz (by rw[o8.out];exact hoa);have V2:=zz (u2.out.trans hb);clear hov4 hap4 hoa hb hs' hg' hat;go_wp2;go_roundw
            case rel=>exact⟨i+1,_,_,hlt,by go_num,Y7,a8,Z7,V2⟩
            case measure=>simp[intOf];omega
           ·obtain rfl:i=M.length:=by omega
            rw[List.take_of_length_le (Nat.le_of_eq D3.out)] at HO;rw[List.take_of_length_le (Nat.le_of_eq X5.out)] at HV;rename World=>wG
            obtain⟨Aq,cq,rfl,-⟩:=SL.slice HO.out.sl;obtain⟨Av,cv,rfl,-⟩:=SL.slice HV.out.sl;have n7:=tr g7 HW;have o7:=zz (OMV.step c6.out ER.stable HW.out);have p7:=zz (OB.step a5.out ER.stable HW.out);have q7:=zz HO.out.sl;have r7:=zz HV.out.sl;have hsG:=HW.out.size;clear HO HV HW b5 c6 a5 g7 e6 R3 i7 d6 hgE hi hlt;obtain⟨N,hN⟩:∃ N,N=normM Q:=⟨_,rfl⟩;obtain⟨U,hU⟩:∃ U,U=normV Q V:=⟨_,rfl⟩;have hwq:wideQ Q=Y.length:=Y5.out.getD (by rw[D3.out];omega);have hnl:N.length=Y.length:=by rw[hN,normM_ln,hwq]
            have hul:U.length=Y.length:=by rw[hU,normV_ln,hwq]
            have hnw:Wide N Y.length:=by rw[hN,← hwq];exact normM_wd
            have W2:(boundS p.length+boundS p.length+1)*Q.length≤(boundS p.length+boundS p.length+1)*12:=Nat.mul_le_mul_left _ (by rw[D3.out];omega);have hs1:1≤boundS p.length:=by unfold boundS;omega
            have hns:Short (boundN p.length) N:=by rw[hN];exact(normM_short Z4.out hs1).mono (by unfold boundN;omega)
            have hus:∀ q∈U,QL (boundN p.length) (boundN p.length) q:=by rw[hU];exact fun q hq=>(normV_short Z4.out Z5.out hs1 hs1 q hq).mono (by unfold boundN;omega) (by unfold boundN;omega)
            have hbs:boundS p.length≤106530:=by have:=M3.out;unfold boundS;omega
            have hbz:=bound_sizes (r:=p.length) (k:=Y.length) (by have:=d7.out;have:=HD.out.n6;omega) hy1;have hr4:=e7.out;rw[← hN,← hU] at hr4;have HN:=zz hN;have HU:=zz hU;have K3:=zz hnl;have c4:=zz hul;have k6:=zz hnw;have l6:=zz hns;have m6:=zz hus;have g0:=zz hbs;have d4:=zz hbz;have Y3:=zz hs1;clear e7 hN hU hnl hul hnw hns hus hbs hbz W2 hwq hs1;cases hso:solveQ N U
            case none=>
             rw[hso] at hr4;simp only at hr4;have o6:=zz hr4;have w4:=zz hso;clear hso hr4;go_wp2_with fail
             refine(normal_any _ Aq Av Q.length cq V.length cv Q V Y.length (boundS p.length) (boundS p.length) q7.out r7.out (by rw[D3.out];omega) (by rw[X5.out,D3.out]) Y5.out ⟨by rw[D3.out];omega,by omega⟩ Z4.out Z5.out ⟨Y3.out,Nat.le_refl _⟩ (Nat.le_trans (Nat.mul_le_mul (show 2*boundS p.length+1≤213061 by have:=g0.out;omega) (show Q.length+1≤13 by rw[D3.out];omega)) (by decide))).mono ?_;rintro e w101 ⟨t0,g2,G2,C2,g3,rfl,hom2,hgl2,hol2,hap2⟩;have B102:=zz t0;have z102:=B102.out.size;have j2:=tr n7 B102;clear t0;rw[← HN.out] at hom2;rw[← HU.out] at hol2;have R4:=zz hom2;have S4:=zz hol2;clear hom2 hgl2 hol2 hap2;go_wp2_with fail
             refine((solve_any _ _ _ _ _ _ _ N U Y.length (boundN p.length) (K3.out▸R4.out.sl (c:=Y.length) (by rw[K3.out];exact Nat.le_refl _) (by omega)) (c4.out▸S4.out.sl (c:=Y.length) (by rw[c4.out];exact Nat.le_refl _) (by omega)) (by rw[K3.out];omega) (by omega) (by rw[K3.out,c4.out];exact Nat.le_refl _) k6.out ⟨by rw[K3.out];omega,by omega⟩ l6.out m6.out (by unfold boundN;omega) d4.out.2.1).mono (fun _ _ h=>And.intro h.1 (solN w4.out h.2))).mono ?_;rintro e w104 ⟨u0,rfl⟩;have B105:=zz u0;have z105:=B105.out.size;have k2:=tr j2 B105;clear u0;go_wp2;go_ret2;exact⟨k2.out,by rw[o6.out];exact⟨_,rfl,rfl⟩⟩
            case some s=>
             rw[hso] at hr4;simp only at hr4;have o6:=zz hr4;have w4:=zz hso;clear hso hr4;go_wp2_with fail
             refine(normal_any _ Aq Av Q.length cq V.length cv Q V Y.length (boundS p.length) (boundS p.length) q7.out r7.out (by rw[D3.out];omega) (by rw[X5.out,D3.out]) Y5.out ⟨by rw[D3.out];omega,by omega⟩ Z4.out Z5.out ⟨Y3.out,Nat.le_refl _⟩ (Nat.le_trans (Nat.mul_le_mul (show 2*boundS p.length+1≤213061 by have:=g0.out;omega) (show Q.length+1≤13 by rw[D3.out];omega)) (by decide))).mono ?_;rintro e w107 ⟨v0,g2,G2,C2,g3,rfl,hom2,hgl2,hol2,hap2⟩;have B108:=zz v0;have z108:=B108.out.size;have l2:=tr n7 B108;clear v0;rw[← HN.out] at hom2;rw[← HU.out] at hol2;have R4:=zz hom2;have S4:=zz hol2;clear hom2 hgl2 hol2 hap2;go_wp2_with fail
             refine((solve_any _ _ _ _ _ _ _ N U Y.length (boundN p.length) (K3.out▸R4.out.sl (c:=Y.length) (by rw[K3.out];exact Nat.le_refl _) (by omega)) (c4.out▸S4.out.sl (c:=Y.length) (by rw[c4.out];exact Nat.le_refl _) (by omega)) (by rw[K3.out];omega) (by omega) (by rw[K3.out,c4.out];exact Nat.le_refl _) k6.out ⟨by rw[K3.out];omega,by omega⟩ l6.out m6.out (by unfold boundN;omega) d4.out.2.1).mono (fun _ _ h=>And.intro h.1 (solS w4.out h.2))).mono ?_;rintro e w110 ⟨y0,gx,rfl,hgx,hox⟩;have B111:=zz y0;have z111:=B111.out.size;have m2:=tr l2 B111;clear y0;have P1_3_113:=tr B108 B111;have hwn:wideQ N=Y.length:=k6.out.getD (by rw[K3.out];omega);have hsl:s.length=Y.length:=by rw[solveQ_len w4.out,hwn]
             have hss:∀ q∈s,QL (growQ (boundN p.length) Y.length) (growQ (boundN p.length) Y.length) q:=by have h:=solveQ_short w4.out l6.out m6.out (by unfold boundN;omega);rwa [hwn] at h
             have t8:=zz hox;have u8:=zz hgx;have e5:=zz hsl;have p6:=zz hss;clear hox hgx hsl hss hwn;have s7:=zz m2.out;have t7:=zz (OMV.step o7.out ER.stable P1_3_113.out);have q6:=zz (OB.step p7.out ER.stable P1_3_113.out);clear o7 p7;obtain⟨ty,Ry,hv,hRy,homy⟩:=t7.out.om (by omega);injection hv with e1 _ e3;subst e1;subst e3
             have g5:=zz (homy.mapE (fun _ _ h=>ERo.ofNone h));clear homy t7 hRy;have hapy:¬ (ty=ga)∧∀ i,i<Y.length→¬ (GW i=ga):=⟨fun e=>by have:=g5.out.low;omega,fun i hi e=>by have:=(g5.out.apart i hi).2;omega⟩;have u7:=zz hapy;clear hapy;have hapx:¬ (gx=ga):=fun e=>by have:=u8.out;omega
             have w8:=zz hapx;clear hapx;have Z3:Hid (OB 3 ER 84 w110 ga n (movedTo X Y s 0)):=zz (by rw[movedTo_zero];exact q6.out);have hgF:=q6.out.lt;clear q6;go_wp2;go_loopw [195] (fun iv wr=>∃ k:Nat,k≤Y.length∧iv=.int .i64 k∧Hid (OB 3 ER 84 wr ga n (movedTo X Y s k))∧Hid (Turns w110 wr (fun b:Nat=>b=ga))) (fun iv _=>Y.length-(intOf iv).toNat)
             case atStart=>exact⟨0,Nat.zero_le _,rfl,Z3,zz (Turns.refl _ _)⟩
             case round=>
              obtain⟨k,hk,rfl,HO,HW⟩:=hrel;have zr:=HW.out.size;by_cases hlt:k<Y.length
              ·skip
               have HYr:=zz (OM.turns g5.out ERo.soft HW.out u7.out);have qh:=OM.head HYr.out X4.out hlt;have qtl:=HYr.out.lt;have hki:(0:Int)≤(k:Int)∧(k:Int)<(Y.length:Int):=by omega
               have x7:Hid (OB 3 ER 84 wr ga n (mapTo (moveE Y s k) 0 (movedTo X Y s k))):=zz (by rw[mapTo_zero];exact HO.out);have T3:=zz HW.out;clear HO;go_wp2;clear qh qtl HYr;go_loopw [202] (fun iv wr=>∃ i:Nat,i≤n∧iv=.int .i64 i∧Hid (OB 3 ER 84 wr ga n (mapTo (moveE Y s k) i (movedTo X Y s k)))∧Hid (Turns w110 wr (fun b:Nat=>b=ga))) (fun iv _=>n-(intOf iv).toNat)
               case atStart=>exact⟨0,Nat.zero_le _,rfl,x7,T3⟩
               case round=>
                clear x7 T3 HW;obtain⟨i,hi,rfl,HO,HW⟩:=hrel;have zr':=HW.out.size;by_cases hit:i<n
                ·skip
                 have hil:i<(movedTo X Y s k).length:=by rw[movedTo_len,J3.out];exact hit
                 have hset:(mapTo (moveE Y s k) i (movedTo X Y s k)).set i ((movedTo X Y s k)[i]+s.getD k 0*atQ Y k i)=mapTo (moveE Y s k) (i+1) (movedTo X Y s k):=mapTo_set (f:=moveE Y s k) hil;have W3:=zz hset;clear hset;have hget:=mapTo_get (f:=moveE Y s k) (k:=i) hil;rw[if_neg (Nat.lt_irrefl i)] at hget;have hx0:(movedTo X Y s k)[i]=X.getD i 0+dotTo s (colQ Y i) k:=by simp only[movedTo,List.getElem_mapIdx];rw[getD_is (by rw[J3.out];exact hit)]
                 have hqx:=moved_ql b4.out p6.out v4.out (growQ_pos (by decide) _) (growQ_pos (by unfold boundN;omega) _) k i;rw[← hx0] at hqx;have hbb:boundE p.length+(growQ (boundN p.length) Y.length+boundE p.length+1)*k+2≤60000000:=by have h1:=d4.out.2.2;have h2:(growQ (boundN p.length) Y.length+boundE p.length+1)*k≤(growQ (boundN p.length) Y.length+boundE p.length+1)*Y.length:=Nat.mul_le_mul_left _ hk;omega
                 have hqx2:=hqx.mono hbb hbb;clear hqx hbb;have hml:(mapTo (moveE Y s k) i (movedTo X Y s k)).length=n:=by rw[mapTo_len,movedTo_len,J3.out]
                 obtain⟨xn,xA,xl,xc,xB,xu,xd,hEx,hv⟩:=OB.elem3 HO.out (j:=i) (by rw[hml];exact hit);rw[hget] at hv;have V3:=zz hv;clear hv hget hx0;have r6:=zz hml;clear hml;obtain⟨x0,hx0⟩:∃ x,x=(movedTo X Y s k)[i]:=⟨_,rfl⟩;rw[← hx0] at V3 W3 hqx2;have J5:=zz hqx2;clear hqx2 hx0;generalize mapTo (moveE Y s k) i (movedTo X Y s k)=l at HO W3 r6;have HYr:=zz (OM.turns g5.out ERo.soft HW.out u7.out);have P3:=zz (OM.caps HYr.out X4.out hlt);have HSr:=zz (OB.turns t8.out ER.soft HW.out w8.out);obtain⟨yn,yA,yl,yc,yB,yu,yd,hEy,hv⟩:=OM.elem HYr.out X4.out hlt hit;have d5:=zz hv;clear hv;have hks:k<s.length:=by rw[e5.out];exact hlt
                 obtain⟨sn,sA,sl,sc,sB,su,sd,hEs,hv⟩:=OB.elem3 HSr.out (j:=k) hks;rw[← getD_is (d:=0) hks] at hv;have s6:=zz hv;clear hv;have b8:=s6.out;obtain⟨y,hy⟩:∃ y,y=atQ Y k i:=⟨_,rfl⟩;obtain⟨z,hz⟩:∃ z,z=s.getD k 0:=⟨_,rfl⟩;rw[← hy] at d5 W3;rw[← hz] at s6 W3;clear b8;have hqy:QL 17749 17749 y:=by rw[hy];exact(v4.out.at (growQ_pos (by decide) _) k i).mono M3.out M3.out
                 have hqz:QL 20000000 20000000 z:=by rw[hz];have h9:growQ (boundN p.length) Y.length≤20000000:=(by have:=d4.out.2.1;omega);exact(short_getD p6.out (growQ_pos (by unfold boundN;omega) _) k).mono h9 h9
                 have y7:=zz hqy;have A7:=zz hqz;clear hqy hqz hy hz;have hii:(0:Int)≤(i:Int)∧(i:Int)<(n:Int):=by omega
                 have hksi:(k:Int)<(s.length:Int):=by omega
                 go_upto_region 57 with (fail)
                 refine Sweep.r0 [se 0 205 [] (.slice (some ⟨ga,0,none⟩) n n),se 1 206 [] (.int .i64 (i:Int)),se 2 207 [] (.slice (some ⟨ga,0,none⟩) n n),se 3 208 [] (.int .i64 (i:Int)),se 4 209 [2,3] (.pointer (some ⟨ga,i*3,none⟩)),se 5 210 [4] (.agg #[.bool xn,.slice xA xl xc,.slice xB xu xd]),se 6 211 [] (.slice (some ⟨gx,0,none⟩) s.length s.length),se 7 212 [] (.int .i64 (k:Int)),se 8 213 [6,7] (.pointer (some ⟨gx,k*3,none⟩)),se 9 214 [8] (.agg #[.bool sn,.slice sA sl sc,.slice sB su sd]),se 10 215 [] (.slice (some ⟨GW k,0,none⟩) n (CW k)),se 11 216 [] (.int .i64 (i:Int)),se 12 217 [10,11] (.pointer (some ⟨GW k,i*3,none⟩)),se 13 218 [12] (.agg #[.bool yn,.slice yA yl yc,.slice yB yu yd]),sf 14 219 [9,13] (fun fv fw=>RV fw fw.heap.size fv (z*y)),sf 15 220 [5,14] (fun fv fw=>RV fw fw.heap.size fv (x0+z*y)),se 16 221 [0,1] (.pointer (some ⟨ga,i*3,none⟩))] 1 (SC (fun _ h=>(E3.step hEx h).c0) (SC (fun _ h=>(E3.step hEx h).c1) (SC (fun _ h=>(E3.step hEx h).c2) (SC (fun _ h=>(E3.step hEs h).c0) (SC (fun _ h=>(E3.step hEs h).c1) (SC (fun _ h=>(E3.step hEs h).c2) (SC (fun _ h=>(E3.step hEy h).c0) (SC (fun _ h=>(E3.step hEy h).c1) (SC (fun _ h=>(E3.step hEy h).c2) S0))))))))) (MA (fun _ _ _ h hb=>h.step hb) (MA (fun _ _ _ h hb=>h.step hb) trivial)) ?_ ?_
                 ·intro xs a_ hA;simp only[SX] at hA
                  iterate 17 (refine ac ?_ ?_;rotate_left)
                  exact all_nil
                  all_goals (intro wk hb;simp only[SX,↓reduceIte,Nat.reduceEqDiff,Nat.reduceAdd];have b_:=zz hb;have z_:=hb.size;clear hb;subst hA)
                  any_goals (intro f10 f11;intros;(refine wpOp_step (i:=12) (o:=_) rfl (fun K hK=>?_));have qv0:=P3.out;go_simp;(refine hK _ _ ⟨.pointer (some ⟨GW k,i*3,none⟩),by simp only[FL,f10,f11] <;> kernel_rfl,Below.refl _ _,rfl⟩))
                  any_goals (intros;refine wpOp_step rfl ?_;intro K hK;go_simp;refine hK _ _ ⟨_,?_,Below.refl _ _,rfl⟩;simp only[*,FL] <;> kernel_rfl)
                  ·intro f9 f13;intros;refine wpOp_step (o:=_) rfl (fun K hK=>?_);go_simp;have k1:=zz (RV.step s6.out b_.out);have l1:=zz (RV.step d5.out b_.out);(with_reducible refine(Prod_any _ _ _ _ _ k1.out l1.out (A7.out.mono (by decide) (by decide)) (y7.out.mono (by decide) (by decide))).mono ?_)
                   rintro e wc116 ⟨n2,v116,rfl,p2⟩;refine hK _ _ ⟨v116,by simp only[FL,f9,f13] <;> kernel_rfl,n2,p2⟩
                  ·intro f5 f14;intros;refine wpOp_step (o:=_) rfl (fun K hK=>?_);go_simp;have p1:=zz (RV.step V3.out b_.out);(with_reducible refine(SumL_any _ _ _ _ _ p1.out f14 J5.out ((A7.out.mul y7.out).mono (by decide) (by decide))).mono ?_)
                   rintro e wc118 ⟨q2,v118,rfl,r2⟩;refine hK _ _ ⟨v118,by simp only[FL,f5] <;> kernel_rfl,q2,r2⟩
                 ·intro xs i5 hbf;simp only[SY];have B120:=zz hbf;have z120:=B120.out.size;clear hbf;generalize xs 14=x14,xs 15=x15;rintro f14 f15;clear f14;obtain⟨B6,C6,D6,E6,F6,q1,G6,rfl,ha121,A0,hc121⟩:=f15;have r1:Hid (RV i5 i5.heap.size (.agg #[.bool B6,.slice C6 D6 E6,.slice F6 q1 G6]) (x0+z*y)):=zz (TV.mk ha121 A0 hc121);clear ha121 A0 hc121;have q3:=zz (OB.step HO.out ER.stable B120.out);obtain⟨o0,ho0⟩:=OB.room q3.out (p:=i*3) (by omega);obtain⟨o1,ho1⟩:=OB.room q3.out (p:=i*3+1) (by omega);obtain⟨o2,ho2⟩:=OB.room q3.out (p:=i*3+2) (by omega);have fz0:=OB.frozen q3.out (i*3);have fz1:=OB.frozen q3.out (i*3+1);have fz2:=OB.frozen q3.out (i*3+2);have flt:=OB.lt q3.out;obtain⟨hp1,hp2,hp3⟩:=OB.put1 (B:=ga) (j:=i) q3.out (by rw[r6.out];exact hit) r1.out (Nat.le_refl _);rw[W3.out] at hp1;have I3:=zz hp1;have x8:=zz ((HW.out.trans (Turns.of B120.out)).trans (Turns.set (S:=(fun b:Nat=>b=ga)) rfl hp3));clear hp1 hp2 hp3;refine EN 17 rfl fun K hK=>?_;go_simp;refine hK _ _ ?_;clear hK K;clear ho0 ho1 ho2 fz0 fz1 fz2 flt;(try simp only[PT])
                  refine ED ?_;(try simp only[Exit.then])
                  go_wp2;go_roundw
                  case rel=>exact⟨i+1,hit,by go_num,I3,x8⟩
                  case measure=>simp[intOf];omega
                ·obtain rfl:n=i:=by omega
                 have hsc:=movedTo_succ (x:=X) (ways:=Y) (s:=s) (k:=k);rw[J3.out] at hsc;rw[hsc] at HO;clear hsc;go_wp2;go_roundw
                 case rel=>exact⟨k+1,hlt,by go_num,HO,HW⟩
                 case measure=>simp[intOf];omega
              ·obtain rfl:k=Y.length:=by omega
               rw[← e5.out,movedTo_all] at HO;have HBz:=zz (s7.out.trans (HW.out.below s7.out.size (fun b hb=>by subst hb;exact hgaw)));have hmq:(movedQ X Y s).length=n:=by rw[movedQ,List.length_mapIdx,J3.out]
               have t6:=zz hmq;clear hmq;go_wp2_with fail
               refine(ltold_any _ _ _ _ (movedQ X Y s) (by have h:=HO.out.sl (c:=n) (Nat.le_of_eq t6.out) (by omega);rwa [t6.out] at h) (fun q hq=>(movedQ_ql b4.out p6.out v4.out (growQ_pos (by decide) _) (growQ_pos (by unfold boundN;omega) _) hq).mono (by rw[e5.out];have:=d4.out.2.2;omega) (by rw[e5.out];have:=d4.out.2.2;omega)) (by rw[t6.out];omega)).mono ?_;rintro e w122 ⟨C0,v,rfl,hv⟩;have B123:=zz C0;have z123:=B123.out.size;have s2:=tr HBz B123;clear C0;have W5:=zz hv;clear hv;go_wp2;go_ret2;exact⟨s2.out,by rw[o6.out];exact⟨_,rfl,W5.out⟩⟩
end Go.Proofs.YtdigbofiebfkeaaGreatDoor
