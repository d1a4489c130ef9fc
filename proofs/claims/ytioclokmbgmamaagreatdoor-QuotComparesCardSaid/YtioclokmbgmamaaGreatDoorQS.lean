/- The law package's own and pairs (layer 04; written by gen_qs.py). -/
import Derived.Test.YtioclokmbgmamaaGreatDoorQR
import Derived.Test.YtioclokmbgmamaaGreatDoorQOwn
namespace Go.Proofs.YtioclokmbgmamaaGreatDoor
open Go Go.RowKit Dig
def PairVal (v:Value) (P:Value→Value→Prop):Prop:=∃ (n m n2 m2:Bool) (A A' B B':Option Addr) (l c l' c' k d k' d':Nat),v=.agg #[.bool n,.slice A l c,.bool m,.slice A' l' c',.bool n2,.slice B k d,.bool m2,.slice B' k' d']∧P (.agg #[.bool n,.slice A l c,.bool m,.slice A' l' c']) (.agg #[.bool n2,.slice B k d,.bool m2,.slice B' k' d'])
def PairAt (w:World) (g o:Nat) (P:Value→Value→Prop):Prop:=∃ (n m n2 m2:Bool) (A A' B B':Option Addr) (l c l' c' k d k' d':Nat),w.cell? ⟨g,o,none⟩=some (.bool n)∧w.cell? ⟨g,o+1,none⟩=some (.slice A l c)∧w.cell? ⟨g,o+2,none⟩=some (.bool m)∧w.cell? ⟨g,o+3,none⟩=some (.slice A' l' c')∧w.cell? ⟨g,o+4,none⟩=some (.bool n2)∧w.cell? ⟨g,o+5,none⟩=some (.slice B k d)∧w.cell? ⟨g,o+6,none⟩=some (.bool m2)∧w.cell? ⟨g,o+7,none⟩=some (.slice B' k' d')∧P (.agg #[.bool n,.slice A l c,.bool m,.slice A' l' c']) (.agg #[.bool n2,.slice B k d,.bool m2,.slice B' k' d'])
def oneQ (w:World) (v:Value):Prop:=∃ n a m b,QR w w.heap.size v n a m b∧a.length≤60∧b.length≤60
def anyQ (w:World) (u v:Value):Prop:=oneQ w u∧oneQ w v
def drawnQ (w:World) (u v:Value):Prop:=∃ q r,QL 47 47 q∧QL 47 47 r∧QV w w.heap.size u q∧QV w w.heap.size v r
theorem oneQ.step {w w':World} {v:Value} (h:oneQ w v) (hb:Below w.heap.size w w'):oneQ w' v:=let ⟨n,a,m,b,h1,h2⟩:=h;⟨n,a,m,b,h1.step hb,h2⟩
theorem anyQ.step {w w':World} {u v:Value} (h:anyQ w u v) (hb:Below w.heap.size w w'):anyQ w' u v:=⟨h.1.step hb,h.2.step hb⟩
theorem drawnQ.step {w w':World} {u v:Value} (h:drawnQ w u v) (hb:Below w.heap.size w w'):drawnQ w' u v:=let ⟨q,r,h1,h2,h3,h4⟩:=h;⟨q,r,h1,h2,h3.step hb,h4.step hb⟩
theorem QV.one {w:World} {v:Value} {q:Rat} (h:QV w w.heap.size v q) (l:QL 47 47 q):oneQ w v:=⟨_,_,_,_,h.qr,by rw[ni_length];exact Nat.le_trans l.1 (by decide),by rw[ni_length];exact Nat.le_trans l.2 (by decide)⟩
theorem PairVal.mono {v:Value} {P Q:Value→Value→Prop} (h:PairVal v P) (hq:∀ u u',P u u'→Q u u'):PairVal v Q:=by
 obtain⟨n,m,n2,m2,A,A',B,B',l,c,l',c',k,d,k',d',e,h⟩:=h
 exact⟨n,m,n2,m2,A,A',B,B',l,c,l',c',k,d,k',d',e,hq _ _ h⟩
theorem PairAt.step {w w':World} {g o:Nat} {P Q:Value→Value→Prop} (h:PairAt w g o P) (hb:Below w.heap.size w w') (hq:∀ u u',P u u'→Q u u'):PairAt w' g o Q:=by
 obtain⟨n,m,n2,m2,A,A',B,B',l,c,l',c',k,d,k',d',e0,e1,e2,e3,e4,e5,e6,e7,h⟩:=h
 have hg:=cell_lt e0
 exact⟨n,m,n2,m2,A,A',B,B',l,c,l',c',k,d,k',d',(hb.cell (p:=⟨g,o,none⟩) hg).trans e0,(hb.cell (p:=⟨g,o+1,none⟩) hg).trans e1,(hb.cell (p:=⟨g,o+2,none⟩) hg).trans e2,(hb.cell (p:=⟨g,o+3,none⟩) hg).trans e3,(hb.cell (p:=⟨g,o+4,none⟩) hg).trans e4,(hb.cell (p:=⟨g,o+5,none⟩) hg).trans e5,(hb.cell (p:=⟨g,o+6,none⟩) hg).trans e6,(hb.cell (p:=⟨g,o+7,none⟩) hg).trans e7,hq _ _ h⟩
structure PairsQ (w:World) (g:Nat):Prop where
 p0:PairAt w g 0 (anyQ w)
 p1:PairAt w g 8 (drawnQ w)
 p2:PairAt w g 16 (drawnQ w)
 p3:PairAt w g 24 (anyQ w)
theorem PairsQ.step {w w':World} {g:Nat} (h:PairsQ w g) (hb:Below w.heap.size w w'):PairsQ w' g:=
 ⟨h.p0.step hb fun _ _ k=>k.step hb,h.p1.step hb fun _ _ k=>k.step hb,h.p2.step hb fun _ _ k=>k.step hb,h.p3.step hb fun _ _ k=>k.step hb⟩
theorem PairsQ.drawn {w:World} {g:Nat} (h:PairsQ w g) (k:Nat) (hk:k<2):PairAt w g (8+k*8) (drawnQ w):=by
 have hk':k=0∨k=1:=by omega
 rcases hk' with rfl | rfl
 ·exact h.p1
 ·exact h.p2
set_option maxRecDepth 100000 in
set_option maxHeartbeats 8000000 in
theorem ownQ_any (w:World) (v:Value) (n m:Bool) (a b:List Int) (h:QR w w.heap.size v n a m b) :
  Calls Tryz.prog 22 #[v] w fun e w'=>Below w.heap.size w w'∧∃ v,e=.returned v∧QR w' w'.heap.size v n (a.take 60) m (b.take 60):=by
 obtain⟨A,l,c,A',l',c',rfl,h⟩:=RI.of h
 have HA:=zz (QR.fst h);have HB:=zz (QR.snd h);clear h
 obtain⟨w0,hw0⟩:∃ w0:World,w0=((w.alloc (.cells #[.bool n,.slice A l c,.bool m,.slice A' l' c'] 26)).alloc (.cells #[.bool false,.slice none 0 0,.bool false,.slice none 0 0] 26)):=⟨_,rfl⟩
 have B0:=zz (show Below w.heap.size w w0 by rw[hw0];(repeat' (first | exact Below.refl _ _ | refine Below.drew ?_ | refine Below.alloc ?_ (by first | exact Nat.le_refl _ | (simp;done) | (simp;omega)) _)))
 have z0:w.heap.size+2≤w0.heap.size:=by rw[hw0];simp
 have La:CB w0 (w.heap.size) 26 #[.bool n,.slice A l c,.bool m,.slice A' l' c']:=by rw[hw0];have h:=(CB.new w 26 #[.bool n,.slice A l c,.bool m,.slice A' l' c']).alloc (.cells #[.bool false,.slice none 0 0,.bool false,.slice none 0 0] 26);simpa using h
 have Lr2:CB w0 (w.heap.size+1) 26 #[.bool false,.slice none 0 0,.bool false,.slice none 0 0]:=by rw[hw0];have h:=CB.new (w.alloc (.cells #[.bool n,.slice A l c,.bool m,.slice A' l' c'] 26)) 26 #[.bool false,.slice none 0 0,.bool false,.slice none 0 0];simpa using h
 replace HA:=zz (LR.step HA.out B0.out);replace HB:=zz (LR.step HB.out B0.out)
 go_enter Tryz.func22,Tryz.ntmps22
 go_upto_region 1 with (fail)
 rw[← hw0];clear hw0
 refine Flow.run [⟨0,3,fun fv fw=>fv=.pointer (some ⟨w.heap.size,0,none⟩)⟩,⟨1,4,fun fv fw=>fv=.agg #[.bool n,.slice A l c]⟩,⟨2,5,fun fv fw=>LR fw fw.heap.size fv n (a.take 60)⟩,⟨3,6,fun fv fw=>fv=.pointer (some ⟨w.heap.size,2,none⟩)⟩,⟨4,7,fun fv fw=>fv=.agg #[.bool m,.slice A' l' c']⟩,⟨5,8,fun fv fw=>LR fw fw.heap.size fv m (b.take 60)⟩,⟨6,9,fun fv fw=>QR fw fw.heap.size fv n (a.take 60) m (b.take 60)⟩] [] [] 1 (by kernel_rfl) (by kernel_rfl) (by kernel_rfl) (fun _ _ _ _ _ h=>h) ?_ ?_ ?_ ?_
 ·refine(a0 (a0 (all_cons (fun v w1 w2 h hb=>h.step hb) (a0 (a0 (all_cons (fun v w1 w2 h hb=>h.step hb) (all_cons (fun v w1 w2 h hb=>h.step hb) all_nil)))))))
 ·refine(all_cons ?_ (all_cons ?_ (all_cons ?_ (all_cons ?_ (all_cons ?_ (all_cons ?_ (all_cons ?_ all_nil)))))))
  ·intro xs Z0 c0 d0
   have R0:=zz c0;have a1:=c0.size;clear c0
   clear d0
   refine wpOp_step (o:=_) rfl (fun K hK=>?_)
   simp only[FL]
   go_simp
   refine hK _ _ ⟨.pointer (some ⟨w.heap.size,0,none⟩),by kernel_rfl,Below.refl _ _,rfl,nF⟩
  ·intro xs b1 c0 d0
   have E0:=zz c0;have c1:=c0.size;clear c0
   have f0:(xs 0)=.pointer (some ⟨w.heap.size,0,none⟩):=d0 _ (m_ 0 rfl) (by kernel_rfl)
   clear d0
   refine wpOp_step (o:=_) rfl (fun K hK=>?_)
   simp only[FL]
   have i0:=CB.step La E0.out
   have S0:=i0.cell 0 rfl
   have T0:=i0.cell 1 rfl
   go_simp
   refine hK _ _ ⟨.agg #[.bool n,.slice A l c],by simp only[FL,f0] <;> kernel_rfl,Below.refl _ _,rfl,nF⟩
  ·intro xs d1 c0 d0
   have F0:=zz c0;have e1:=c0.size;clear c0
   have f1:(xs 1)=.agg #[.bool n,.slice A l c]:=d0 _ (m_ 1 rfl) (by kernel_rfl)
   clear d0
   refine wpOp_step (o:=_) rfl (fun K hK=>?_)
   simp only[FL]
   go_simp
   have G0:=zz (LR.step HA.out F0.out)
   (with_reducible refine(ownLong_any _ _ n a G0.out).mono ?_)
   rintro e wc7 ⟨L0,v7,rfl,M0⟩
   refine hK _ _ ⟨v7,by simp only[FL,f1] <;> kernel_rfl,L0,M0,nF⟩
  ·intro xs g1 c0 d0
   have U0:=zz c0;have h1:=c0.size;clear c0
   clear d0
   refine wpOp_step (o:=_) rfl (fun K hK=>?_)
   simp only[FL]
   go_simp
   refine hK _ _ ⟨.pointer (some ⟨w.heap.size,2,none⟩),by kernel_rfl,Below.refl _ _,rfl,nF⟩
  ·intro xs i1 c0 d0
   have H0:=zz c0;have j1:=c0.size;clear c0
   have f3:(xs 3)=.pointer (some ⟨w.heap.size,2,none⟩):=d0 _ (m_ 3 rfl) (by kernel_rfl)
   clear d0
   refine wpOp_step (o:=_) rfl (fun K hK=>?_)
   simp only[FL]
   have h0:=CB.step La H0.out
   have N0:=h0.cell 2 rfl
   have O0:=h0.cell 3 rfl
   go_simp
   refine hK _ _ ⟨.agg #[.bool m,.slice A' l' c'],by simp only[FL,f3] <;> kernel_rfl,Below.refl _ _,rfl,nF⟩
  ·intro xs V0 c0 d0
   have l0:=zz c0;have W0:=c0.size;clear c0
   have f4:(xs 4)=.agg #[.bool m,.slice A' l' c']:=d0 _ (m_ 4 rfl) (by kernel_rfl)
   clear d0
   refine wpOp_step (o:=_) rfl (fun K hK=>?_)
   simp only[FL]
   go_simp
   have m0:=zz (LR.step HB.out l0.out)
   (with_reducible refine(ownLong_any _ _ m b m0.out).mono ?_)
   rintro e wc14 ⟨I0,v14,rfl,J0⟩
   refine hK _ _ ⟨v14,by simp only[FL,f4] <;> kernel_rfl,I0,J0,nF⟩
  ·intro xs g0 c0 d0
   have P0:=zz c0;have X0:=c0.size;clear c0
   have f2:LR g0 g0.heap.size (xs 2) n (a.take 60):=d0 _ (m_ 2 rfl) (by kernel_rfl)
   have f5:LR g0 g0.heap.size (xs 5) m (b.take 60):=d0 _ (m_ 5 rfl) (by kernel_rfl)
   clear d0
   refine wpOp_step (o:=_) rfl (fun K hK=>?_)
   simp only[FL]
   obtain⟨A2,k2,c2,hx2,C0⟩:=LR.opened f2;rw[hx2];have HV2:=zz C0;clear C0
   obtain⟨A5,k5,c5,hx5,D0⟩:=LR.opened f5;rw[hx5];have HV5:=zz D0;clear D0
   go_simp
   refine hK _ _ ⟨.agg #[.bool n,.slice A2 k2 c2,.bool m,.slice A5 k5 c5],by simp only[FL,hx2,hx5] <;> kernel_rfl,Below.refl _ _,QR.mk (lr_is HV2.out) (lr_is HV5.out),nF⟩
 ·exact all_nil
 ·intro xs wf16 hbf hf hn hd
  have f0:(xs 0)=.pointer (some ⟨w.heap.size,0,none⟩):=hf _ (m_ 0 rfl)
  have f1:(xs 1)=.agg #[.bool n,.slice A l c]:=hf _ (m_ 1 rfl)
  have f2:LR wf16 wf16.heap.size (xs 2) n (a.take 60):=hf _ (m_ 2 rfl)
  have f3:(xs 3)=.pointer (some ⟨w.heap.size,2,none⟩):=hf _ (m_ 3 rfl)
  have f4:(xs 4)=.agg #[.bool m,.slice A' l' c']:=hf _ (m_ 4 rfl)
  have f5:LR wf16 wf16.heap.size (xs 5) m (b.take 60):=hf _ (m_ 5 rfl)
  have f6:QR wf16 wf16.heap.size (xs 6) n (a.take 60) m (b.take 60):=hf _ (m_ 6 rfl)
  clear hf hn hd
  simp only[FL]
  have B17:=zz hbf
  have z17:=B17.out.size
  have K0:=zz (B0.out.trans (B17.out.mono B0.out.size))
  clear hbf
  generalize xs 0=x0,xs 1=x1,xs 2=x2,xs 3=x3,xs 4=x4,xs 5=x5,xs 6=x6 at *
  obtain rfl:=f0
  obtain rfl:=f1
  clear f2
  obtain rfl:=f3
  obtain rfl:=f4
  clear f5
  obtain⟨A19,l19,c19,A19',l19',c19',rfl,j0⟩:=RI.of f6;have Hq19:=zz j0;clear j0 f6
  have b0:=CB.step Lr2 B17.out
  have n0:=b0.cell 0 rfl
  have o0:=b0.cell 1 rfl
  have p0:=b0.cell 2 rfl
  have q0:=b0.cell 3 rfl
  have q21_lt:=b0.lt
  have r0:=b0.frozen 0
  have s0:=b0.frozen 1
  have t0:=b0.frozen 2
  have u0:=b0.frozen 3
  have q22_lt:=b0.lt
  refine Early.next (i:=7) (by kernel_rfl) rfl (fun K hK=>?_)
  go_simp
  refine hK _ _ (fun _=>trivial) ?_
  clear hK K
  (try simp only[Act.put,List.setIfInBounds_toArray,List.set_cons_zero,List.set_cons_succ])
  clear n0 o0 p0 q0 q21_lt r0 s0 t0 u0 q22_lt
  refine Early.done (by kernel_rfl) ?_ _
  (try simp only[Exit.then])
  have v0:=CB.step La B17.out
  obtain⟨w24,e0⟩:∃ w24:World,w24=((((wf16.setCell ⟨w.heap.size+1,0,none⟩ (.bool n)).setCell ⟨w.heap.size+1,1,none⟩ (.slice A19 l19 c19)).setCell ⟨w.heap.size+1,2,none⟩ (.bool m)).setCell ⟨w.heap.size+1,3,none⟩ (.slice A19' l19' c19')):=⟨_,rfl⟩
  rw[← e0]
  have S24:=zz (show Soft wf16 w24 by rw[e0];exact(((CB.soft1 (b0) (by simp[noInt_b,noInt_s]) 0 (.bool n)).trans (CB.soft1 ((show CB _ (w.heap.size+1) 26 #[.bool n,.slice none 0 0,.bool false,.slice none 0 0] from CB.set (b0) 0 (.bool n))) (by simp[noInt_b,noInt_s]) 1 (.slice A19 l19 c19))).trans (CB.soft1 ((show CB _ (w.heap.size+1) 26 #[.bool n,.slice A19 l19 c19,.bool false,.slice none 0 0] from CB.set ((show CB _ (w.heap.size+1) 26 #[.bool n,.slice none 0 0,.bool false,.slice none 0 0] from CB.set (b0) 0 (.bool n))) 1 (.slice A19 l19 c19))) (by simp[noInt_b,noInt_s]) 2 (.bool m))).trans (CB.soft1 ((show CB _ (w.heap.size+1) 26 #[.bool n,.slice A19 l19 c19,.bool m,.slice none 0 0] from CB.set ((show CB _ (w.heap.size+1) 26 #[.bool n,.slice A19 l19 c19,.bool false,.slice none 0 0] from CB.set ((show CB _ (w.heap.size+1) 26 #[.bool n,.slice none 0 0,.bool false,.slice none 0 0] from CB.set (b0) 0 (.bool n))) 1 (.slice A19 l19 c19))) 2 (.bool m))) (by simp[noInt_b,noInt_s]) 3 (.slice A19' l19' c19')))
  have Q0:CB w24 (w.heap.size) 26 #[.bool n,.slice A l c,.bool m,.slice A' l' c']:=by rw[e0];exact CB.far (p:=⟨w.heap.size+1,3,none⟩) (CB.far (p:=⟨w.heap.size+1,2,none⟩) (CB.far (p:=⟨w.heap.size+1,1,none⟩) (CB.far (p:=⟨w.heap.size+1,0,none⟩) (v0) (show w.heap.size≠w.heap.size+1 from by omega) _) (show w.heap.size≠w.heap.size+1 from by omega) _) (show w.heap.size≠w.heap.size+1 from by omega) _) (show w.heap.size≠w.heap.size+1 from by omega) _
  have k0:CB w24 (w.heap.size+1) 26 #[.bool n,.slice A19 l19 c19,.bool m,.slice A19' l19' c19']:=by rw[e0];exact(show CB _ (w.heap.size+1) 26 #[.bool n,.slice A19 l19 c19,.bool m,.slice A19' l19' c19'] from CB.set ((show CB _ (w.heap.size+1) 26 #[.bool n,.slice A19 l19 c19,.bool m,.slice none 0 0] from CB.set ((show CB _ (w.heap.size+1) 26 #[.bool n,.slice A19 l19 c19,.bool false,.slice none 0 0] from CB.set ((show CB _ (w.heap.size+1) 26 #[.bool n,.slice none 0 0,.bool false,.slice none 0 0] from CB.set (b0) 0 (.bool n))) 1 (.slice A19 l19 c19))) 2 (.bool m))) 3 (.slice A19' l19' c19'))
  have y0:=zz (show Below w.heap.size w w24 by rw[e0];exact below_set1 (below_set1 (below_set1 (below_set1 (K0.out) (by omega) _ _) (by omega) _ _) (by omega) _ _) (by omega) _ _)
  have Y0:w24.heap.size=wf16.heap.size:=by rw[e0];simp[World.setCell]
  clear e0
  go_wp2
  have A0:=zz (QR.soft Hq19.out (S24.out))
  exact bodyPost_ret (QB.ret1 rfl _ k0 rfl) rfl ⟨y0.out,_,rfl,A0.out⟩
set_option maxRecDepth 100000 in
set_option maxHeartbeats 8000000 in
theorem pairsQ_any (w:World) (n m n2 m2:Bool) (s0 s1 s2 s3:Value) (a b a2 b2:List Int) (ha:QR w w.heap.size (.agg #[.bool n,s0,.bool m,s1]) n a m b) (hb:QR w w.heap.size (.agg #[.bool n2,s2,.bool m2,s3]) n2 a2 m2 b2)
  (x1 x2 y1 y2:Bool) (l1 l2 k1 k2:Int) (t1 t2 u1 u2:Value) (c1 c2 d1 d2:List Nat) (hl1:0≤l1∧l1≤255) (hl2:0≤l2∧l2≤255) (C2:0≤k1∧k1≤255) (D2:0≤k2∧k2≤255) (ht1:RW w w.heap.size t1 c1) (ht2:RW w w.heap.size t2 c2) (hu1:RW w w.heap.size u1 d1) (hu2:RW w w.heap.size u2 d2) :
  Calls Tryz.prog 13 #[.agg #[.bool n,s0,.bool m,s1,.bool n2,s2,.bool m2,s3,.bool x1,.int .u8 l1,t1,.bool x2,.int .u8 l2,t2,.bool y1,.int .u8 k1,u1,.bool y2,.int .u8 k2,u2]] w fun e w'=>Below w.heap.size w w'∧∃ g,e=.returned (.slice (some ⟨g,0,none⟩) 4 4)∧PairsQ w' g:=by
 have HK:=zz (And.intro hl1 (And.intro hl2 (And.intro C2 D2)));have HA:=zz ha;have HB:=zz hb;have H1:=zz ht1;have H2:=zz ht2;have H3:=zz hu1;have H4:=zz hu2;clear hl1 hl2 C2 D2 ha hb ht1 ht2 hu1 hu2
 obtain⟨w0,hw0⟩:∃ w0:World,w0=(w.alloc (.cells #[.bool n,s0,.bool m,s1,.bool n2,s2,.bool m2,s3,.bool x1,.int .u8 l1,t1,.bool x2,.int .u8 l2,t2,.bool y1,.int .u8 k1,u1,.bool y2,.int .u8 k2,u2] 33)):=⟨_,rfl⟩
 have B0:=zz (show Below w.heap.size w w0 by rw[hw0];(repeat' (first | exact Below.refl _ _ | refine Below.drew ?_ | refine Below.alloc ?_ (by first | exact Nat.le_refl _ | (simp;done) | (simp;omega)) _)))
 have z0:w.heap.size+1≤w0.heap.size:=by rw[hw0];simp
 have Lt:CB w0 (w.heap.size) 33 #[.bool n,s0,.bool m,s1,.bool n2,s2,.bool m2,s3,.bool x1,.int .u8 l1,t1,.bool x2,.int .u8 l2,t2,.bool y1,.int .u8 k1,u1,.bool y2,.int .u8 k2,u2]:=by rw[hw0];have h:=CB.new w 33 #[.bool n,s0,.bool m,s1,.bool n2,s2,.bool m2,s3,.bool x1,.int .u8 l1,t1,.bool x2,.int .u8 l2,t2,.bool y1,.int .u8 k1,u1,.bool y2,.int .u8 k2,u2];simpa using h
 replace HA:=zz (QR.step HA.out B0.out)
 replace HB:=zz (QR.step HB.out B0.out)
 replace H1:=zz (RW.step H1.out B0.out)
 replace H2:=zz (RW.step H2.out B0.out)
 replace H3:=zz (RW.step H3.out B0.out)
 replace H4:=zz (RW.step H4.out B0.out)
 go_enter Tryz.func13,Tryz.ntmps13
 go_upto_region 1 with (fail)
 rw[← hw0];clear hw0
 refine Flow.run [⟨0,3,fun fv fw=>fv=.pointer (some ⟨w.heap.size,0,none⟩)⟩,⟨1,4,fun fv fw=>fv=.agg #[.bool n,s0,.bool m,s1]⟩,⟨2,5,fun fv fw=>oneQ fw fv⟩,⟨3,6,fun fv fw=>fv=.pointer (some ⟨w.heap.size,4,none⟩)⟩,⟨4,7,fun fv fw=>fv=.agg #[.bool n2,s2,.bool m2,s3]⟩,⟨5,8,fun fv fw=>oneQ fw fv⟩,⟨6,9,fun fv fw=>PairVal fv (anyQ fw)⟩,⟨7,10,fun fv fw=>fv=.pointer (some ⟨w.heap.size,8,none⟩)⟩,⟨8,11,fun fv fw=>fv=.agg #[.bool x1,.int .u8 l1,t1,.bool x2,.int .u8 l2,t2]⟩,⟨9,12,fun fv fw=>∃ q,QL 47 47 q∧QV fw fw.heap.size fv q⟩,⟨10,13,fun fv fw=>fv=.pointer (some ⟨w.heap.size,14,none⟩)⟩,⟨11,14,fun fv fw=>fv=.agg #[.bool y1,.int .u8 k1,u1,.bool y2,.int .u8 k2,u2]⟩,⟨12,15,fun fv fw=>∃ q,QL 47 47 q∧QV fw fw.heap.size fv q⟩,⟨13,16,fun fv fw=>PairVal fv (drawnQ fw)⟩,⟨14,17,fun fv fw=>fv=.pointer (some ⟨w.heap.size,8,none⟩)⟩,⟨15,18,fun fv fw=>fv=.agg #[.bool x1,.int .u8 l1,t1,.bool x2,.int .u8 l2,t2]⟩,⟨16,19,fun fv fw=>∃ q,QL 47 47 q∧QV fw fw.heap.size fv q⟩,⟨17,20,fun fv fw=>fv=.pointer (some ⟨w.heap.size,14,none⟩)⟩,⟨18,21,fun fv fw=>fv=.agg #[.bool y1,.int .u8 k1,u1,.bool y2,.int .u8 k2,u2]⟩,⟨19,22,fun fv fw=>∃ q,QL 47 47 q∧QV fw fw.heap.size fv q⟩,⟨20,23,fun fv fw=>PairVal fv (drawnQ fw)⟩,⟨21,24,fun fv fw=>fv=.pointer (some ⟨w.heap.size,8,none⟩)⟩,⟨22,25,fun fv fw=>fv=.agg #[.bool x1,.int .u8 l1,t1,.bool x2,.int .u8 l2,t2]⟩,⟨23,26,fun fv fw=>∃ q,QL 47 47 q∧QV fw fw.heap.size fv q⟩,⟨24,27,fun fv fw=>fv=.pointer (some ⟨w.heap.size,4,none⟩)⟩,⟨25,28,fun fv fw=>fv=.agg #[.bool n2,s2,.bool m2,s3]⟩,⟨26,29,fun fv fw=>oneQ fw fv⟩,⟨27,30,fun fv fw=>PairVal fv (anyQ fw)⟩,⟨28,31,fun fv fw=>∃ g,fv=.slice (some ⟨g,0,none⟩) 4 4∧PairsQ fw g⟩] [] [] 1 (by kernel_rfl) (by kernel_rfl) (by kernel_rfl) (fun _ _ _ _ _ h=>h) ?_ ?_ ?_ ?_
 ·refine(a0 (a0 (all_cons (fun v w1 w2 h hb=>h.step hb) (a0 (a0 (all_cons (fun v w1 w2 h hb=>h.step hb) (all_cons (fun v w1 w2 h hb=>PairVal.mono h fun _ _ k=>k.step hb) (a0 (a0 (all_cons (fun v w1 w2 h hb=>let ⟨q,l,h⟩:=h;⟨q,l,h.step hb⟩) (a0 (a0 (all_cons (fun v w1 w2 h hb=>let ⟨q,l,h⟩:=h;⟨q,l,h.step hb⟩) (all_cons (fun v w1 w2 h hb=>PairVal.mono h fun _ _ k=>k.step hb) (a0 (a0 (all_cons (fun v w1 w2 h hb=>let ⟨q,l,h⟩:=h;⟨q,l,h.step hb⟩) (a0 (a0 (all_cons (fun v w1 w2 h hb=>let ⟨q,l,h⟩:=h;⟨q,l,h.step hb⟩) (all_cons (fun v w1 w2 h hb=>PairVal.mono h fun _ _ k=>k.step hb) (a0 (a0 (all_cons (fun v w1 w2 h hb=>let ⟨q,l,h⟩:=h;⟨q,l,h.step hb⟩) (a0 (a0 (all_cons (fun v w1 w2 h hb=>h.step hb) (all_cons (fun v w1 w2 h hb=>PairVal.mono h fun _ _ k=>k.step hb) (all_cons (fun v w1 w2 h hb=>let ⟨g,e,h⟩:=h;⟨g,e,h.step hb⟩) all_nil)))))))))))))))))))))))))))))
 ·refine(all_cons ?_ (all_cons ?_ (all_cons ?_ (all_cons ?_ (all_cons ?_ (all_cons ?_ (all_cons ?_ (all_cons ?_ (all_cons ?_ (all_cons ?_ (all_cons ?_ (all_cons ?_ (all_cons ?_ (all_cons ?_ (all_cons ?_ (all_cons ?_ (all_cons ?_ (all_cons ?_ (all_cons ?_ (all_cons ?_ (all_cons ?_ (all_cons ?_ (all_cons ?_ (all_cons ?_ (all_cons ?_ (all_cons ?_ (all_cons ?_ (all_cons ?_ (all_cons ?_ all_nil)))))))))))))))))))))))))))))
  ·intro xs p5 b0 c0
   have j4:=zz b0;have q5:=b0.size;clear b0
   clear c0
   refine wpOp_step (o:=_) rfl (fun K hK=>?_)
   simp only[FL]
   go_simp
   refine hK _ _ ⟨.pointer (some ⟨w.heap.size,0,none⟩),by kernel_rfl,Below.refl _ _,rfl,nF⟩
  ·intro xs r5 b0 c0
   have N2:=zz b0;have s5:=b0.size;clear b0
   have f0:(xs 0)=.pointer (some ⟨w.heap.size,0,none⟩):=c0 _ (m_ 0 rfl) (by kernel_rfl)
   clear c0
   refine wpOp_step (o:=_) rfl (fun K hK=>?_)
   simp only[FL]
   have m0:=CB.step Lt N2.out
   have k4:=m0.cell 0 rfl
   have l4:=m0.cell 1 rfl
   have m4:=m0.cell 2 rfl
   have n4:=m0.cell 3 rfl
   go_simp
   refine hK _ _ ⟨.agg #[.bool n,s0,.bool m,s1],by simp only[FL,f0] <;> kernel_rfl,Below.refl _ _,rfl,nF⟩
  ·intro xs t5 b0 c0
   have O2:=zz b0;have u5:=b0.size;clear b0
   have f1:(xs 1)=.agg #[.bool n,s0,.bool m,s1]:=c0 _ (m_ 1 rfl) (by kernel_rfl)
   clear c0
   refine wpOp_step (o:=_) rfl (fun K hK=>?_)
   simp only[FL]
   go_simp
   have i2:=zz (QR.step HA.out O2.out)
   (with_reducible refine(ownQ_any _ _ n m a b i2.out).mono ?_)
   rintro e wc7 ⟨g3,v7,rfl,h3⟩
   refine hK _ _ ⟨v7,by simp only[FL,f1] <;> kernel_rfl,g3,⟨_,_,_,_,h3,by rw[List.length_take];omega,by rw[List.length_take];omega⟩,nF⟩
  ·intro xs v5 b0 c0
   have o4:=zz b0;have w5:=b0.size;clear b0
   clear c0
   refine wpOp_step (o:=_) rfl (fun K hK=>?_)
   simp only[FL]
   go_simp
   refine hK _ _ ⟨.pointer (some ⟨w.heap.size,4,none⟩),by kernel_rfl,Below.refl _ _,rfl,nF⟩
  ·intro xs y5 b0 c0
   have P2:=zz b0;have z5:=b0.size;clear b0
   have f3:(xs 3)=.pointer (some ⟨w.heap.size,4,none⟩):=c0 _ (m_ 3 rfl) (by kernel_rfl)
   clear c0
   refine wpOp_step (o:=_) rfl (fun K hK=>?_)
   simp only[FL]
   have k0:=CB.step Lt P2.out
   have J3:=k0.cell 4 rfl
   have K3:=k0.cell 5 rfl
   have L3:=k0.cell 6 rfl
   have M3:=k0.cell 7 rfl
   go_simp
   refine hK _ _ ⟨.agg #[.bool n2,s2,.bool m2,s3],by simp only[FL,f3] <;> kernel_rfl,Below.refl _ _,rfl,nF⟩
  ·intro xs p4 b0 c0
   have j2:=zz b0;have q4:=b0.size;clear b0
   have f4:(xs 4)=.agg #[.bool n2,s2,.bool m2,s3]:=c0 _ (m_ 4 rfl) (by kernel_rfl)
   clear c0
   refine wpOp_step (o:=_) rfl (fun K hK=>?_)
   simp only[FL]
   go_simp
   have Y0:=zz (QR.step HB.out j2.out)
   (with_reducible refine(ownQ_any _ _ n2 m2 a2 b2 Y0.out).mono ?_)
   rintro e wc14 ⟨Q2,v14,rfl,R2⟩
   refine hK _ _ ⟨v14,by simp only[FL,f4] <;> kernel_rfl,Q2,⟨_,_,_,_,R2,by rw[List.length_take];omega,by rw[List.length_take];omega⟩,nF⟩
  ·intro xs Z0 b0 c0
   have N3:=zz b0;have r4:=b0.size;clear b0
   have f2:oneQ Z0 (xs 2):=c0 _ (m_ 2 rfl) (by kernel_rfl)
   have f5:oneQ Z0 (xs 5):=c0 _ (m_ 5 rfl) (by kernel_rfl)
   clear c0
   refine wpOp_step (o:=_) rfl (fun K hK=>?_)
   simp only[FL]
   obtain⟨n2,a2,m2,b2,hq2,hz2⟩:=f2;obtain⟨A2,l2,c2,A2',l2',c2',hx2,hq2⟩:=RI.of hq2;rw[hx2];have HQ2:Hid (oneQ _ _):=zz ⟨_,_,_,_,hq2,hz2⟩;clear hq2 hz2
   obtain⟨n5,a5,m5,b5,hq5,hz5⟩:=f5;obtain⟨A5,l5,c5,A5',l5',c5',hx5,hq5⟩:=RI.of hq5;rw[hx5];have HQ5:Hid (oneQ _ _):=zz ⟨_,_,_,_,hq5,hz5⟩;clear hq5 hz5
   go_simp
   refine hK _ _ ⟨.agg #[.bool n2,.slice A2 l2 c2,.bool m2,.slice A2' l2' c2',.bool n5,.slice A5 l5 c5,.bool m5,.slice A5' l5' c5'],by simp only[FL,hx2,hx5] <;> kernel_rfl,Below.refl _ _,⟨_,_,_,_,_,_,_,_,_,_,_,_,_,_,_,_,rfl,⟨HQ2.out,HQ5.out⟩⟩,nF⟩
  ·intro xs s4 b0 c0
   have O3:=zz b0;have t4:=b0.size;clear b0
   clear c0
   refine wpOp_step (o:=_) rfl (fun K hK=>?_)
   simp only[FL]
   go_simp
   refine hK _ _ ⟨.pointer (some ⟨w.heap.size,8,none⟩),by kernel_rfl,Below.refl _ _,rfl,nF⟩
  ·intro xs u4 b0 c0
   have o2:=zz b0;have v4:=b0.size;clear b0
   have f7:(xs 7)=.pointer (some ⟨w.heap.size,8,none⟩):=c0 _ (m_ 7 rfl) (by kernel_rfl)
   clear c0
   refine wpOp_step (o:=_) rfl (fun K hK=>?_)
   simp only[FL]
   have e0:=CB.step Lt o2.out
   have P3:=e0.cell 8 rfl
   have Q3:=e0.cell 9 rfl
   have i3:=e0.cell 10 rfl
   have j3:=e0.cell 11 rfl
   have k3:=e0.cell 12 rfl
   have l3:=e0.cell 13 rfl
   go_simp
   refine hK _ _ ⟨.agg #[.bool x1,.int .u8 l1,t1,.bool x2,.int .u8 l2,t2],by simp only[FL,f7] <;> kernel_rfl,Below.refl _ _,rfl,nF⟩
  ·intro xs w4 b0 c0
   have q0:=zz b0;have y4:=b0.size;clear b0
   have f8:(xs 8)=.agg #[.bool x1,.int .u8 l1,t1,.bool x2,.int .u8 l2,t2]:=c0 _ (m_ 8 rfl) (by kernel_rfl)
   clear c0
   refine wpOp_step (o:=_) rfl (fun K hK=>?_)
   simp only[FL]
   go_simp
   have a1:=zz (RW.step H1.out q0.out)
   have b1:=zz (RW.step H2.out q0.out)
   (with_reducible refine(DQuotQ_any _ x1 x2 l1 l2 t1 t2 c1 c2 HK.out.1.1 HK.out.1.2 a1.out HK.out.2.1.1 HK.out.2.1.2 b1.out).mono ?_)
   rintro e wc23 ⟨S2,q23,l23,v23,rfl,T2⟩
   refine hK _ _ ⟨v23,by simp only[FL,f8] <;> kernel_rfl,S2,⟨q23,l23,T2⟩,nF⟩
  ·intro xs z4 b0 c0
   have R3:=zz b0;have A4:=b0.size;clear b0
   clear c0
   refine wpOp_step (o:=_) rfl (fun K hK=>?_)
   simp only[FL]
   go_simp
   refine hK _ _ ⟨.pointer (some ⟨w.heap.size,14,none⟩),by kernel_rfl,Below.refl _ _,rfl,nF⟩
  ·intro xs B4 b0 c0
   have p2:=zz b0;have C4:=b0.size;clear b0
   have f10:(xs 10)=.pointer (some ⟨w.heap.size,14,none⟩):=c0 _ (m_ 10 rfl) (by kernel_rfl)
   clear c0
   refine wpOp_step (o:=_) rfl (fun K hK=>?_)
   simp only[FL]
   have g0:=CB.step Lt p2.out
   have m3:=g0.cell 14 rfl
   have n3:=g0.cell 15 rfl
   have o3:=g0.cell 16 rfl
   have p3:=g0.cell 17 rfl
   have q3:=g0.cell 18 rfl
   have r3:=g0.cell 19 rfl
   go_simp
   refine hK _ _ ⟨.agg #[.bool y1,.int .u8 k1,u1,.bool y2,.int .u8 k2,u2],by simp only[FL,f10] <;> kernel_rfl,Below.refl _ _,rfl,nF⟩
  ·intro xs D4 b0 c0
   have r0:=zz b0;have E4:=b0.size;clear b0
   have f11:(xs 11)=.agg #[.bool y1,.int .u8 k1,u1,.bool y2,.int .u8 k2,u2]:=c0 _ (m_ 11 rfl) (by kernel_rfl)
   clear c0
   refine wpOp_step (o:=_) rfl (fun K hK=>?_)
   simp only[FL]
   go_simp
   have e1:=zz (RW.step H3.out r0.out)
   have g1:=zz (RW.step H4.out r0.out)
   (with_reducible refine(DQuotQ_any _ y1 y2 k1 k2 u1 u2 d1 d2 HK.out.2.2.1.1 HK.out.2.2.1.2 e1.out HK.out.2.2.2.1 HK.out.2.2.2.2 g1.out).mono ?_)
   rintro e wc31 ⟨U2,q31,l31,v31,rfl,V2⟩
   refine hK _ _ ⟨v31,by simp only[FL,f11] <;> kernel_rfl,U2,⟨q31,l31,V2⟩,nF⟩
  ·intro xs n0 b0 c0
   have S3:=zz b0;have F4:=b0.size;clear b0
   have f9:∃ q,QL 47 47 q∧QV n0 n0.heap.size (xs 9) q:=c0 _ (m_ 9 rfl) (by kernel_rfl)
   have f12:∃ q,QL 47 47 q∧QV n0 n0.heap.size (xs 12) q:=c0 _ (m_ 12 rfl) (by kernel_rfl)
   clear c0
   refine wpOp_step (o:=_) rfl (fun K hK=>?_)
   simp only[FL]
   obtain⟨q9,hl9,hq9⟩:=f9;obtain⟨n9,A9,l9,c9,m9,A9',l9',c9',hx9⟩:=QO.cells (show QO _ _ _ (some q9) from hq9);rw[hx9] at hq9 ⊢;have HQ9:=zz hq9;have HL9:=zz hl9;clear hq9 hl9
   obtain⟨q12,hl12,hq12⟩:=f12;obtain⟨n12,A12,l12,c12,m12,A12',l12',c12',hx12⟩:=QO.cells (show QO _ _ _ (some q12) from hq12);rw[hx12] at hq12 ⊢;have HQ12:=zz hq12;have HL12:=zz hl12;clear hq12 hl12
   go_simp
   refine hK _ _ ⟨.agg #[.bool n9,.slice A9 l9 c9,.bool m9,.slice A9' l9' c9',.bool n12,.slice A12 l12 c12,.bool m12,.slice A12' l12' c12'],by simp only[FL,hx9,hx12] <;> kernel_rfl,Below.refl _ _,⟨_,_,_,_,_,_,_,_,_,_,_,_,_,_,_,_,rfl,⟨q9,q12,HL9.out,HL12.out,HQ9.out,HQ12.out⟩⟩,nF⟩
  ·intro xs G4 b0 c0
   have T3:=zz b0;have I4:=b0.size;clear b0
   clear c0
   refine wpOp_step (o:=_) rfl (fun K hK=>?_)
   simp only[FL]
   go_simp
   refine hK _ _ ⟨.pointer (some ⟨w.heap.size,8,none⟩),by kernel_rfl,Below.refl _ _,rfl,nF⟩
  ·intro xs J4 b0 c0
   have q2:=zz b0;have K4:=b0.size;clear b0
   have f14:(xs 14)=.pointer (some ⟨w.heap.size,8,none⟩):=c0 _ (m_ 14 rfl) (by kernel_rfl)
   clear c0
   refine wpOp_step (o:=_) rfl (fun K hK=>?_)
   simp only[FL]
   have h0:=CB.step Lt q2.out
   have U3:=h0.cell 8 rfl
   have V3:=h0.cell 9 rfl
   have t3:=h0.cell 10 rfl
   have u3:=h0.cell 11 rfl
   have v3:=h0.cell 12 rfl
   have w3:=h0.cell 13 rfl
   go_simp
   refine hK _ _ ⟨.agg #[.bool x1,.int .u8 l1,t1,.bool x2,.int .u8 l2,t2],by simp only[FL,f14] <;> kernel_rfl,Below.refl _ _,rfl,nF⟩
  ·intro xs L4 b0 c0
   have t0:=zz b0;have M4:=b0.size;clear b0
   have f15:(xs 15)=.agg #[.bool x1,.int .u8 l1,t1,.bool x2,.int .u8 l2,t2]:=c0 _ (m_ 15 rfl) (by kernel_rfl)
   clear c0
   refine wpOp_step (o:=_) rfl (fun K hK=>?_)
   simp only[FL]
   go_simp
   have h1:=zz (RW.step H1.out t0.out)
   have i1:=zz (RW.step H2.out t0.out)
   (with_reducible refine(DShortQ_any _ x1 x2 l1 l2 t1 t2 c1 c2 HK.out.1.1 HK.out.1.2 h1.out HK.out.2.1.1 HK.out.2.1.2 i1.out).mono ?_)
   rintro e wc40 ⟨W2,q40,l40,v40,rfl,X2⟩
   refine hK _ _ ⟨v40,by simp only[FL,f15] <;> kernel_rfl,W2,⟨q40,l40,X2⟩,nF⟩
  ·intro xs N4 b0 c0
   have W3:=zz b0;have O4:=b0.size;clear b0
   clear c0
   refine wpOp_step (o:=_) rfl (fun K hK=>?_)
   simp only[FL]
   go_simp
   refine hK _ _ ⟨.pointer (some ⟨w.heap.size,14,none⟩),by kernel_rfl,Below.refl _ _,rfl,nF⟩
  ·intro xs P4 b0 c0
   have r2:=zz b0;have Q4:=b0.size;clear b0
   have f17:(xs 17)=.pointer (some ⟨w.heap.size,14,none⟩):=c0 _ (m_ 17 rfl) (by kernel_rfl)
   clear c0
   refine wpOp_step (o:=_) rfl (fun K hK=>?_)
   simp only[FL]
   have i0:=CB.step Lt r2.out
   have y3:=i0.cell 14 rfl
   have z3:=i0.cell 15 rfl
   have A3:=i0.cell 16 rfl
   have B3:=i0.cell 17 rfl
   have C3:=i0.cell 18 rfl
   have D3:=i0.cell 19 rfl
   go_simp
   refine hK _ _ ⟨.agg #[.bool y1,.int .u8 k1,u1,.bool y2,.int .u8 k2,u2],by simp only[FL,f17] <;> kernel_rfl,Below.refl _ _,rfl,nF⟩
  ·intro xs R4 b0 c0
   have u0:=zz b0;have S4:=b0.size;clear b0
   have f18:(xs 18)=.agg #[.bool y1,.int .u8 k1,u1,.bool y2,.int .u8 k2,u2]:=c0 _ (m_ 18 rfl) (by kernel_rfl)
   clear c0
   refine wpOp_step (o:=_) rfl (fun K hK=>?_)
   simp only[FL]
   go_simp
   have j1:=zz (RW.step H3.out u0.out)
   have m1:=zz (RW.step H4.out u0.out)
   (with_reducible refine(DShortQ_any _ y1 y2 k1 k2 u1 u2 d1 d2 HK.out.2.2.1.1 HK.out.2.2.1.2 j1.out HK.out.2.2.2.1 HK.out.2.2.2.2 m1.out).mono ?_)
   rintro e wc48 ⟨Y2,q48,l48,v48,rfl,Z2⟩
   refine hK _ _ ⟨v48,by simp only[FL,f18] <;> kernel_rfl,Y2,⟨q48,l48,Z2⟩,nF⟩
  ·intro xs o0 b0 c0
   have X3:=zz b0;have T4:=b0.size;clear b0
   have f16:∃ q,QL 47 47 q∧QV o0 o0.heap.size (xs 16) q:=c0 _ (m_ 16 rfl) (by kernel_rfl)
   have f19:∃ q,QL 47 47 q∧QV o0 o0.heap.size (xs 19) q:=c0 _ (m_ 19 rfl) (by kernel_rfl)
   clear c0
   refine wpOp_step (o:=_) rfl (fun K hK=>?_)
   simp only[FL]
   obtain⟨q16,hl16,hq16⟩:=f16;obtain⟨n16,A16,l16,c16,m16,A16',l16',c16',hx16⟩:=QO.cells (show QO _ _ _ (some q16) from hq16);rw[hx16] at hq16 ⊢;have HQ16:=zz hq16;have HL16:=zz hl16;clear hq16 hl16
   obtain⟨q19,hl19,hq19⟩:=f19;obtain⟨n19,A19,l19,c19,m19,A19',l19',c19',hx19⟩:=QO.cells (show QO _ _ _ (some q19) from hq19);rw[hx19] at hq19 ⊢;have HQ19:=zz hq19;have HL19:=zz hl19;clear hq19 hl19
   go_simp
   refine hK _ _ ⟨.agg #[.bool n16,.slice A16 l16 c16,.bool m16,.slice A16' l16' c16',.bool n19,.slice A19 l19 c19,.bool m19,.slice A19' l19' c19'],by simp only[FL,hx16,hx19] <;> kernel_rfl,Below.refl _ _,⟨_,_,_,_,_,_,_,_,_,_,_,_,_,_,_,_,rfl,⟨q16,q19,HL16.out,HL19.out,HQ16.out,HQ19.out⟩⟩,nF⟩
  ·intro xs U4 b0 c0
   have Y3:=zz b0;have V4:=b0.size;clear b0
   clear c0
   refine wpOp_step (o:=_) rfl (fun K hK=>?_)
   simp only[FL]
   go_simp
   refine hK _ _ ⟨.pointer (some ⟨w.heap.size,8,none⟩),by kernel_rfl,Below.refl _ _,rfl,nF⟩
  ·intro xs W4 b0 c0
   have v2:=zz b0;have X4:=b0.size;clear b0
   have f21:(xs 21)=.pointer (some ⟨w.heap.size,8,none⟩):=c0 _ (m_ 21 rfl) (by kernel_rfl)
   clear c0
   refine wpOp_step (o:=_) rfl (fun K hK=>?_)
   simp only[FL]
   have j0:=CB.step Lt v2.out
   have Z3:=j0.cell 8 rfl
   have a4:=j0.cell 9 rfl
   have E3:=j0.cell 10 rfl
   have F3:=j0.cell 11 rfl
   have G3:=j0.cell 12 rfl
   have I3:=j0.cell 13 rfl
   go_simp
   refine hK _ _ ⟨.agg #[.bool x1,.int .u8 l1,t1,.bool x2,.int .u8 l2,t2],by simp only[FL,f21] <;> kernel_rfl,Below.refl _ _,rfl,nF⟩
  ·intro xs Y4 b0 c0
   have v0:=zz b0;have Z4:=b0.size;clear b0
   have f22:(xs 22)=.agg #[.bool x1,.int .u8 l1,t1,.bool x2,.int .u8 l2,t2]:=c0 _ (m_ 22 rfl) (by kernel_rfl)
   clear c0
   refine wpOp_step (o:=_) rfl (fun K hK=>?_)
   simp only[FL]
   go_simp
   have n1:=zz (RW.step H1.out v0.out)
   have o1:=zz (RW.step H2.out v0.out)
   (with_reducible refine(DShortQ_any _ x1 x2 l1 l2 t1 t2 c1 c2 HK.out.1.1 HK.out.1.2 n1.out HK.out.2.1.1 HK.out.2.1.2 o1.out).mono ?_)
   rintro e wc57 ⟨a3,q57,l57,v57,rfl,b3⟩
   refine hK _ _ ⟨v57,by simp only[FL,f22] <;> kernel_rfl,a3,⟨q57,l57,b3⟩,nF⟩
  ·intro xs d5 b0 c0
   have b4:=zz b0;have e5:=b0.size;clear b0
   clear c0
   refine wpOp_step (o:=_) rfl (fun K hK=>?_)
   simp only[FL]
   go_simp
   refine hK _ _ ⟨.pointer (some ⟨w.heap.size,4,none⟩),by kernel_rfl,Below.refl _ _,rfl,nF⟩
  ·intro xs g5 b0 c0
   have z2:=zz b0;have h5:=b0.size;clear b0
   have f24:(xs 24)=.pointer (some ⟨w.heap.size,4,none⟩):=c0 _ (m_ 24 rfl) (by kernel_rfl)
   clear c0
   refine wpOp_step (o:=_) rfl (fun K hK=>?_)
   simp only[FL]
   have l0:=CB.step Lt z2.out
   have c4:=l0.cell 4 rfl
   have d4:=l0.cell 5 rfl
   have e4:=l0.cell 6 rfl
   have g4:=l0.cell 7 rfl
   go_simp
   refine hK _ _ ⟨.agg #[.bool n2,s2,.bool m2,s3],by simp only[FL,f24] <;> kernel_rfl,Below.refl _ _,rfl,nF⟩
  ·intro xs i5 b0 c0
   have B2:=zz b0;have j5:=b0.size;clear b0
   have f25:(xs 25)=.agg #[.bool n2,s2,.bool m2,s3]:=c0 _ (m_ 25 rfl) (by kernel_rfl)
   clear c0
   refine wpOp_step (o:=_) rfl (fun K hK=>?_)
   simp only[FL]
   go_simp
   have p1:=zz (QR.step HB.out B2.out)
   (with_reducible refine(ownQ_any _ _ n2 m2 a2 b2 p1.out).mono ?_)
   rintro e wc64 ⟨c3,v64,rfl,d3⟩
   refine hK _ _ ⟨v64,by simp only[FL,f25] <;> kernel_rfl,c3,⟨_,_,_,_,d3,by rw[List.length_take];omega,by rw[List.length_take];omega⟩,nF⟩
  ·intro xs p0 b0 c0
   have h4:=zz b0;have k5:=b0.size;clear b0
   have f23:∃ q,QL 47 47 q∧QV p0 p0.heap.size (xs 23) q:=c0 _ (m_ 23 rfl) (by kernel_rfl)
   have f26:oneQ p0 (xs 26):=c0 _ (m_ 26 rfl) (by kernel_rfl)
   clear c0
   refine wpOp_step (o:=_) rfl (fun K hK=>?_)
   simp only[FL]
   obtain⟨q23,hl23,hq23⟩:=f23;obtain⟨n23,A23,l23,c23,m23,A23',l23',c23',hx23⟩:=QO.cells (show QO _ _ _ (some q23) from hq23);rw[hx23] at hq23 ⊢;have HQ23:=zz hq23;have HL23:=zz hl23;clear hq23 hl23
   obtain⟨n26,a26,m26,b26,hq26,hz26⟩:=f26;obtain⟨A26,l26,c26,A26',l26',c26',hx26,hq26⟩:=RI.of hq26;rw[hx26];have HQ26:Hid (oneQ _ _):=zz ⟨_,_,_,_,hq26,hz26⟩;clear hq26 hz26
   go_simp
   refine hK _ _ ⟨.agg #[.bool n23,.slice A23 l23 c23,.bool m23,.slice A23' l23' c23',.bool n26,.slice A26 l26 c26,.bool m26,.slice A26' l26' c26'],by simp only[FL,hx23,hx26] <;> kernel_rfl,Below.refl _ _,⟨_,_,_,_,_,_,_,_,_,_,_,_,_,_,_,_,rfl,⟨QV.one HQ23.out HL23.out,HQ26.out⟩⟩,nF⟩
  ·intro xs d0 b0 c0
   have i4:=zz b0;have o5:=b0.size;clear b0
   have f6:PairVal (xs 6) (anyQ d0):=c0 _ (m_ 6 rfl) (by kernel_rfl)
   have f13:PairVal (xs 13) (drawnQ d0):=c0 _ (m_ 13 rfl) (by kernel_rfl)
   have f20:PairVal (xs 20) (drawnQ d0):=c0 _ (m_ 20 rfl) (by kernel_rfl)
   have f27:PairVal (xs 27) (anyQ d0):=c0 _ (m_ 27 rfl) (by kernel_rfl)
   clear c0
   refine wpOp_step (o:=_) rfl (fun K hK=>?_)
   simp only[FL]
   obtain⟨E2,F2,q1,r1,G2,v1,I2,z1,J2,K2,A1,B1,L2,M2,C1,D1,hx6,hp6⟩:=f6;rw[hx6];have HP6:=zz hp6;clear hp6
   obtain⟨E1,F1,y0,A0,G1,C0,I1,D0,J1,K1,E0,F0,L1,M1,G0,H0,hx13,hp13⟩:=f13;rw[hx13];have HP13:=zz hp13;clear hp13
   obtain⟨N1,O1,I0,J0,P1,K0,Q1,L0,R1,S1,M0,N0,T1,U1,O0,P0,hx20,hp20⟩:=f20;rw[hx20];have HP20:=zz hp20;clear hp20
   obtain⟨V1,W1,Q0,R0,X1,S0,Y1,T0,Z1,e2,U0,V0,g2,h2,W0,X0,hx27,hp27⟩:=f27;rw[hx27];have HP27:=zz hp27;clear hp27
   have HCB:=zz (CB.new d0 37 #[.bool E2,.slice G2 J2 K2,.bool F2,.slice v1 A1 B1,.bool q1,.slice I2 L2 M2,.bool r1,.slice z1 C1 D1,.bool E1,.slice G1 J1 K1,.bool F1,.slice C0 E0 F0,.bool y0,.slice I1 L1 M1,.bool A0,.slice D0 G0 H0,.bool N1,.slice P1 R1 S1,.bool O1,.slice K0 M0 N0,.bool I0,.slice Q1 T1 U1,.bool J0,.slice L0 O0 P0,.bool V1,.slice X1 Z1 e2,.bool W1,.slice S0 U0 V0,.bool Q0,.slice Y1 g2 h2,.bool R0,.slice T0 W0 X0])
   have HBA:=zz (below_alloc1 (Below.refl d0.heap.size d0) (.cells #[.bool E2,.slice G2 J2 K2,.bool F2,.slice v1 A1 B1,.bool q1,.slice I2 L2 M2,.bool r1,.slice z1 C1 D1,.bool E1,.slice G1 J1 K1,.bool F1,.slice C0 E0 F0,.bool y0,.slice I1 L1 M1,.bool A0,.slice D0 G0 H0,.bool N1,.slice P1 R1 S1,.bool O1,.slice K0 M0 N0,.bool I0,.slice Q1 T1 U1,.bool J0,.slice L0 O0 P0,.bool V1,.slice X1 Z1 e2,.bool W1,.slice S0 U0 V0,.bool Q0,.slice Y1 g2 h2,.bool R0,.slice T0 W0 X0] 37))
   go_simp
   refine hK _ _ ⟨.slice (some ⟨d0.heap.size,0,none⟩) 4 4,by simp only[FL,hx6,hx13,hx20,hx27] <;> kernel_rfl,HBA.out,⟨_,rfl,⟨⟨_,_,_,_,_,_,_,_,_,_,_,_,_,_,_,_,HCB.out.cell 0 rfl,HCB.out.cell 1 rfl,HCB.out.cell 2 rfl,HCB.out.cell 3 rfl,HCB.out.cell 4 rfl,HCB.out.cell 5 rfl,HCB.out.cell 6 rfl,HCB.out.cell 7 rfl,HP6.out.step HBA.out⟩,⟨_,_,_,_,_,_,_,_,_,_,_,_,_,_,_,_,HCB.out.cell 8 rfl,HCB.out.cell 9 rfl,HCB.out.cell 10 rfl,HCB.out.cell 11 rfl,HCB.out.cell 12 rfl,HCB.out.cell 13 rfl,HCB.out.cell 14 rfl,HCB.out.cell 15 rfl,HP13.out.step HBA.out⟩,⟨_,_,_,_,_,_,_,_,_,_,_,_,_,_,_,_,HCB.out.cell 16 rfl,HCB.out.cell 17 rfl,HCB.out.cell 18 rfl,HCB.out.cell 19 rfl,HCB.out.cell 20 rfl,HCB.out.cell 21 rfl,HCB.out.cell 22 rfl,HCB.out.cell 23 rfl,HP20.out.step HBA.out⟩,⟨_,_,_,_,_,_,_,_,_,_,_,_,_,_,_,_,HCB.out.cell 24 rfl,HCB.out.cell 25 rfl,HCB.out.cell 26 rfl,HCB.out.cell 27 rfl,HCB.out.cell 28 rfl,HCB.out.cell 29 rfl,HCB.out.cell 30 rfl,HCB.out.cell 31 rfl,HP27.out.step HBA.out⟩⟩⟩,nF⟩
 ·exact all_nil
 ·intro xs wf67 hbf hf hn hd
  have f0:(xs 0)=.pointer (some ⟨w.heap.size,0,none⟩):=hf _ (m_ 0 rfl)
  have f1:(xs 1)=.agg #[.bool n,s0,.bool m,s1]:=hf _ (m_ 1 rfl)
  have f2:oneQ wf67 (xs 2):=hf _ (m_ 2 rfl)
  have f3:(xs 3)=.pointer (some ⟨w.heap.size,4,none⟩):=hf _ (m_ 3 rfl)
  have f4:(xs 4)=.agg #[.bool n2,s2,.bool m2,s3]:=hf _ (m_ 4 rfl)
  have f5:oneQ wf67 (xs 5):=hf _ (m_ 5 rfl)
  have f6:PairVal (xs 6) (anyQ wf67):=hf _ (m_ 6 rfl)
  have f7:(xs 7)=.pointer (some ⟨w.heap.size,8,none⟩):=hf _ (m_ 7 rfl)
  have f8:(xs 8)=.agg #[.bool x1,.int .u8 l1,t1,.bool x2,.int .u8 l2,t2]:=hf _ (m_ 8 rfl)
  have f9:∃ q,QL 47 47 q∧QV wf67 wf67.heap.size (xs 9) q:=hf _ (m_ 9 rfl)
  have f10:(xs 10)=.pointer (some ⟨w.heap.size,14,none⟩):=hf _ (m_ 10 rfl)
  have f11:(xs 11)=.agg #[.bool y1,.int .u8 k1,u1,.bool y2,.int .u8 k2,u2]:=hf _ (m_ 11 rfl)
  have f12:∃ q,QL 47 47 q∧QV wf67 wf67.heap.size (xs 12) q:=hf _ (m_ 12 rfl)
  have f13:PairVal (xs 13) (drawnQ wf67):=hf _ (m_ 13 rfl)
  have f14:(xs 14)=.pointer (some ⟨w.heap.size,8,none⟩):=hf _ (m_ 14 rfl)
  have f15:(xs 15)=.agg #[.bool x1,.int .u8 l1,t1,.bool x2,.int .u8 l2,t2]:=hf _ (m_ 15 rfl)
  have f16:∃ q,QL 47 47 q∧QV wf67 wf67.heap.size (xs 16) q:=hf _ (m_ 16 rfl)
  have f17:(xs 17)=.pointer (some ⟨w.heap.size,14,none⟩):=hf _ (m_ 17 rfl)
  have f18:(xs 18)=.agg #[.bool y1,.int .u8 k1,u1,.bool y2,.int .u8 k2,u2]:=hf _ (m_ 18 rfl)
  have f19:∃ q,QL 47 47 q∧QV wf67 wf67.heap.size (xs 19) q:=hf _ (m_ 19 rfl)
  have f20:PairVal (xs 20) (drawnQ wf67):=hf _ (m_ 20 rfl)
  have f21:(xs 21)=.pointer (some ⟨w.heap.size,8,none⟩):=hf _ (m_ 21 rfl)
  have f22:(xs 22)=.agg #[.bool x1,.int .u8 l1,t1,.bool x2,.int .u8 l2,t2]:=hf _ (m_ 22 rfl)
  have f23:∃ q,QL 47 47 q∧QV wf67 wf67.heap.size (xs 23) q:=hf _ (m_ 23 rfl)
  have f24:(xs 24)=.pointer (some ⟨w.heap.size,4,none⟩):=hf _ (m_ 24 rfl)
  have f25:(xs 25)=.agg #[.bool n2,s2,.bool m2,s3]:=hf _ (m_ 25 rfl)
  have f26:oneQ wf67 (xs 26):=hf _ (m_ 26 rfl)
  have f27:PairVal (xs 27) (anyQ wf67):=hf _ (m_ 27 rfl)
  have f28:∃ g,(xs 28)=.slice (some ⟨g,0,none⟩) 4 4∧PairsQ wf67 g:=hf _ (m_ 28 rfl)
  clear hf hn hd
  simp only[FL]
  have B68:=zz hbf
  have z68:=B68.out.size
  have e3:=zz (B0.out.trans (B68.out.mono B0.out.size))
  clear hbf
  generalize xs 0=x0,xs 1=x1,xs 2=x2,xs 3=x3,xs 4=x4,xs 5=x5,xs 6=x6,xs 7=x7,xs 8=x8,xs 9=x9,xs 10=x10,xs 11=x11,xs 12=x12,xs 13=x13,xs 14=x14,xs 15=x15,xs 16=x16,xs 17=x17,xs 18=x18,xs 19=x19,xs 20=x20,xs 21=x21,xs 22=x22,xs 23=x23,xs 24=x24,xs 25=x25,xs 26=x26,xs 27=x27,xs 28=x28 at *
  obtain rfl:=f0
  obtain rfl:=f1
  clear f2
  obtain rfl:=f3
  obtain rfl:=f4
  clear f5
  clear f6
  obtain rfl:=f7
  obtain rfl:=f8
  clear f9
  obtain rfl:=f10
  obtain rfl:=f11
  clear f12
  clear f13
  obtain rfl:=f14
  obtain rfl:=f15
  clear f16
  obtain rfl:=f17
  obtain rfl:=f18
  clear f19
  clear f20
  obtain rfl:=f21
  obtain rfl:=f22
  clear f23
  obtain rfl:=f24
  obtain rfl:=f25
  clear f26
  clear f27
  obtain⟨g,rfl,hpq⟩:=f28;have HPQ:=zz hpq;clear hpq
  refine Early.next (i:=29) (by kernel_rfl) rfl (fun K hK=>?_)
  go_simp
  refine hK _ _ (fun _=>trivial) ?_
  clear hK K
  (try simp only[Act.put,List.setIfInBounds_toArray,List.set_cons_zero,List.set_cons_succ])
  refine Early.done (by kernel_rfl) ?_ _
  (try simp only[Exit.then])
  go_wp2
  go_ret
  exact⟨e3.out,g,rfl,HPQ.out⟩
end Go.Proofs.YtioclokmbgmamaaGreatDoor
