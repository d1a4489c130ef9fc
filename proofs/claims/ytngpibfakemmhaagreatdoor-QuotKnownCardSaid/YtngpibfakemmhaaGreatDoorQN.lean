/- Layer 04: Text, Parse (written by gen_qn.py). -/
import Derived.Test.YtngpibfakemmhaaGreatDoorQM
import Derived.Test.YtngpibfakemmhaaGreatDoorQP
namespace Go.Proofs.YtngpibfakemmhaaGreatDoor
open Go Go.RowKit Dig
theorem beq_str (s t:ByteArray):(s.toList==t.toList)=decide (s.data.toList=t.data.toList):=by
 rw[Lib.toList_data,Lib.toList_data];by_cases h:s.data.toList=t.data.toList
 ·rw[h];simp
 ·rw[decide_eq_false h];exact beq_eq_false_iff_ne.2 h
def MaxL (w:World):Prop:=∃ m:Int,w.cell? ⟨0,0,none⟩=some (.int .i64 m)
theorem MaxL.step {w w':World} (h:MaxL w) (hb:Below w.heap.size w w'):MaxL w':=by
 obtain⟨m,hm⟩:=h;exact⟨m,(hb.cell (cell_lt hm)).trans hm⟩
theorem Cut_any (w:World) (s:ByteArray) (hs:s.size≤1000000) (M:MaxL w) :
  Calls Tryz.prog 65 #[.string s,.string ⟨#[47]⟩] w fun e w'=>Below w.heap.size w w'∧∃ (a b:ByteArray) (k:Bool),e=.returned (.tuple #[.string a,.string b,.bool k])∧(a.data.toList,b.data.toList,k)=Lib.cut s.data.toList [47]:=by
 obtain⟨m,hm⟩:=M;refine(Tryz.strings_Cut s ⟨#[47]⟩ m w (by omega) hm).mono ?_;rintro e w' ⟨rfl,n,rfl⟩;exact⟨below_drewN (Below.refl _ _) n,_,_,_,rfl,by simp⟩
theorem cut_sizes {s a b:List UInt8} {k:Bool} (h:(a,b,k)=Lib.cut s [47]):a.length≤s.length∧b.length≤s.length:=by
 rcases first47 s with hs | ⟨x,y,hx,rfl⟩
 ·rw[cut_none hs] at h;injection h with h1 h2;injection h2 with h2 h3
  rw[h1,h2];simp
 ·rw[cut_some hx] at h;injection h with h1 h2;injection h2 with h2 h3
  rw[h1,h2];simp;omega
theorem QV.of {w:World} {B:Nat} {n m:Bool} {A A':Option Addr} {l c l' c':Nat} {x:Int} {d:Nat} (h:LV w B (.agg #[.bool n,.slice A l c]) x) (k:LV w B (.agg #[.bool m,.slice A' l' c']) (d:Int)) (h0:d≠0) (h1:Nat.gcd x.natAbs d=1) :
  QV w B (.agg #[.bool n,.slice A l c,.bool m,.slice A' l' c']) (mkRat x d):=by
 obtain⟨e1,e2⟩:=mkRat_low (x:=x) (y:=d) (Nat.pos_of_ne_zero h0) h1;obtain⟨a1,-,a3⟩:=h.is;obtain⟨b1,-,b3⟩:=k.is;rw[decide_eq_false (by omega)] at b1;subst b1;rw[Int.natAbs_natCast] at b3;exact⟨n,A,l,c,A',l',c',rfl,by rw[e1];exact a3,by rw[e2];exact b3,by rw[e1];exact a1⟩
theorem QR.of {w:World} {B:Nat} {n m:Bool} {A A':Option Addr} {l c l' c':Nat} {x y:Int} (h:LV w B (.agg #[.bool n,.slice A l c]) x) (k:LV w B (.agg #[.bool m,.slice A' l' c']) y) :
  QR w B (.agg #[.bool n,.slice A l c,.bool m,.slice A' l' c']) (decide (x<0)) (ni (dig x.natAbs)) (decide (y<0)) (ni (dig y.natAbs)):=by
 obtain⟨a1,-,a3⟩:=h.is;obtain⟨b1,-,b3⟩:=k.is;subst a1;subst b1;exact QR.mk a3 b3
theorem qOf_pair {x y:Int} (hx:(dig x.natAbs).length≤600) (hy:(dig y.natAbs).length≤600):qOf (decide (x<0)) (ni (dig x.natAbs)) (decide (y<0)) (ni (dig y.natAbs))=if 0<y∧Nat.gcd x.natAbs y.natAbs=1 then some (mkRat x y.natAbs) else none:=
 qOf_both (numOf_dig hx) (numOf_dig hy)
def RetT (o:Option Rat) (e:Ending):Prop:=
 match o with
 | some q=>∃ t:ByteArray,e=.returned (.tuple #[.string t,.int .i64 0])∧t.data.toList=textQ q
 | none=>e=.returned (.tuple #[.string ⟨#[]⟩,.int .i64 40])
set_option maxRecDepth 100000 in
set_option maxHeartbeats 4000000 in
theorem QText_bad (w:World) (va:Value) (n m:Bool) (a b:List Int) (ha:QR w w.heap.size va n a m b) (hbad:qOf n a m b=none) :
  Calls Tryz.prog 26 #[va] w fun e w'=>Below w.heap.size w w'∧RetT none e:=by
 obtain⟨A,l,c,A',l',c',rfl,ha⟩:=RI.of ha;have HA:=zz ha;have HC:=zz hbad;clear ha hbad;obtain⟨w0,hw0⟩:∃ w0:World,w0=(w.alloc (.cells #[.bool n,.slice A l c,.bool m,.slice A' l' c'] 28)):=⟨_,rfl⟩;have B0:=zz (n1_b hw0);have z0:=n1_z hw0;have La:=n1_0 hw0;replace HA:=zz (QR.step HA.out B0.out);go_enter Tryz.func26,Tryz.ntmps26
 go_upto_region 1 with (fail)
 rw[← hw0];clear hw0;have b0:=La.cell 0 rfl;have c0:=La.cell 1 rfl;have d0:=La.cell 2 rfl;have e0:=La.cell 3 rfl;have g0:=La.lt;go_wp2_with fail
 refine(QCheck_no HA.out HC.out).mono ?_;rintro e w1 ⟨a0,rfl⟩;have B3:=zz a0;have z3:=B3.out.size;have f0:=zz (B0.out.trans (B3.out.mono B0.out.size));clear a0;clear b0 c0 d0 e0 g0;go_wp2;go_ret2;exact⟨f0.out,rfl⟩
set_option maxRecDepth 100000 in
set_option maxHeartbeats 4000000 in
theorem QText_good (w:World) (va:Value) (q:Rat) (ha:QV w w.heap.size va q) (lq:QL 600 600 q) (G:Glob w) :
  Calls Tryz.prog 26 #[va] w fun e w'=>Below w.heap.size w w'∧RetT (some q) e:=by
 obtain⟨n,A,l,c,m,A',l',c',rfl⟩:=QO.cells (show QO w w.heap.size va (some q) from ha);have HA:=zz ha;have x0:=zz lq;clear ha lq;obtain⟨w0,hw0⟩:∃ w0:World,w0=(w.alloc (.cells #[.bool n,.slice A l c,.bool m,.slice A' l' c'] 28)):=⟨_,rfl⟩;have B0:=zz (n1_b hw0);have z0:=n1_z hw0;have La:=n1_0 hw0;replace HA:=zz (QV.step HA.out B0.out);go_enter Tryz.func26,Tryz.ntmps26
 go_upto_region 1 with (fail)
 rw[← hw0];clear hw0;have n0:=La.cell 0 rfl;have o0:=La.cell 1 rfl;have p0:=La.cell 2 rfl;have q0:=La.cell 3 rfl;have C0:=La.lt;go_wp2_with fail
 refine(QCheck_good HA.out x0.out).mono ?_;rintro e w1 ⟨l0,rfl⟩;have B3:=zz l0;have z3:=B3.out.size;have d0:=zz (B0.out.trans (B3.out.mono B0.out.size));clear l0;clear n0 o0 p0 q0 C0;have b0:=CB.step La B3.out;have r0:=b0.cell 0 rfl;have s0:=b0.cell 1 rfl;have t0:=b0.cell 2 rfl;have u0:=b0.cell 3 rfl;have D0:=b0.lt;go_wp2_with fail
 have e0:=zz (QV.step HA.out B3.out);refine(Text_num (QV.fst e0.out) x0.out.1 (G.step d0.out)).mono ?_;rintro e w5 ⟨m0,rfl⟩;have B9:=zz m0;have z9:=B9.out.size;have c0:=zz (d0.out.trans (B9.out.mono d0.out.size));clear m0;clear r0 s0 t0 u0 D0;obtain⟨s,hs⟩:∃ s:ByteArray,s=⟨(Lib.itoa q.num).toArray⟩:=⟨_,rfl⟩;rw[← hs];have Hs:=zz (show s.data.toList=Lib.itoa q.num by rw[hs]);have zs:s.size≤5401:=by rw[hs,Lib.size_eq];exact itoa_len x0.out.1
 clear hs;have a0:=CB.step b0 B9.out;have g0:=a0.cell 0 rfl;have h0:=a0.cell 1 rfl;have i0:=a0.cell 2 rfl;have j0:=a0.cell 3 rfl;have y0:=a0.lt;go_wp2_with fail
 have k0:=zz (QV.step e0.out B9.out);refine(Text_num (QV.snd k0.out) (by rw[Fit,Int.natAbs_natCast];exact x0.out.2) (G.step c0.out)).mono ?_;rintro e w11 ⟨f0,rfl⟩;have B15:=zz f0;have z15:=B15.out.size;have v0:=zz (c0.out.trans (B15.out.mono c0.out.size));clear f0;clear g0 h0 i0 j0 y0;obtain⟨t,ht⟩:∃ s:ByteArray,s=⟨(Lib.itoa (q.den:Int)).toArray⟩:=⟨_,rfl⟩;rw[← ht];have Ht:=zz (show t.data.toList=Lib.itoa (q.den:Int) by rw[ht]);have zt:t.size≤5401:=by rw[ht,Lib.size_eq];exact itoa_len (by rw[Int.natAbs_natCast];exact x0.out.2)
 clear ht;have hcat1:¬ 9223372036854775807<s.size+1:=by omega
 have hcat2:¬ 9223372036854775807<s.size+1+t.size:=by omega
 go_wp2_with fail
 refine(Tryz.strings_TrimSuffix _ ⟨#[47,49]⟩ _ ?_).mono ?_
 ·simp only[ByteArray.size_append];show s.size+1+t.size≤_;omega
 rintro e w9 ⟨rfl,rfl⟩;obtain⟨u,hu⟩:∃ u:ByteArray,u=⟨(Lib.trimSuffix (s++⟨#[47]⟩++t).data.toList (⟨#[47,49]⟩:ByteArray).data.toList).toArray⟩:=⟨_,rfl⟩;rw[← hu];have HU:=zz (show u.data.toList=textQ q by rw[hu,ByteArray.data_append,ByteArray.data_append,Array.toList_append,Array.toList_append,Hs.out,Ht.out];show Lib.trimSuffix (Lib.itoa q.num++[47]++Lib.itoa q.den) [47,49]=_;rw[List.append_assoc];exact textQ_trim q);clear hu;go_wp2;go_ret2;exact⟨v0.out,_,rfl,HU.out⟩
set_option maxRecDepth 100000 in
set_option maxHeartbeats 4000000 in
theorem QParse_any (w:World) (s:ByteArray) (hs:s.size≤1000000) (M:MaxL w) :
  Calls Tryz.prog 27 #[.string s] w fun e w'=>Below w.heap.size w w'∧RetQ w' (parseQ s.data.toList) e:=by
 obtain⟨r,hr⟩:∃ r,r=parseQ s.data.toList:=⟨_,rfl⟩;rw[← hr];have HR:=zz hr;clear hr;have p4:=zz hs;clear hs;obtain⟨w0,hw0⟩:∃ w0:World,w0=(w.alloc (.cells #[.bool false,.slice none 0 0,.bool false,.slice none 0 0] 28)):=⟨_,rfl⟩;have B0:=zz (n1_b hw0);have z0:=n1_z hw0;have Lr2:=n1_0 hw0;go_enter Tryz.func27,Tryz.ntmps27
 go_upto_region 1 with (fail)
 rw[← hw0];clear hw0;go_wp2_with fail
 refine(Cut_any _ s p4.out (M.step B0.out)).mono ?_;rintro e w1 ⟨c3,sa,sb,k,rfl,hcut⟩;have B2:=zz c3;have z2:=B2.out.size;have d3:=zz (B0.out.trans (B2.out.mono B0.out.size));clear c3;have hcz:=cut_sizes hcut;have a5:=zz (show sa.size≤1000000 by rw[Lib.size_eq];have h1:=p4.out;rw[Lib.size_eq] at h1;omega);have b5:=zz (show sb.size≤1000000 by rw[Lib.size_eq];have h1:=p4.out;rw[Lib.size_eq] at h1;omega);clear hcz;have b4:=zz (show r=if (parseZ sa.data.toList).2≠0 then (none,(parseZ sa.data.toList).2) else if k=false then (some (mkRat (parseZ sa.data.toList).1 1),0) else if (parseZ sb.data.toList).2≠0 then (none,(parseZ sb.data.toList).2) else if 2≤(parseZ sb.data.toList).1∧Nat.gcd (parseZ sa.data.toList).1.natAbs (parseZ sb.data.toList).1.natAbs=1 then (some (mkRat (parseZ sa.data.toList).1 (parseZ sb.data.toList).1.natAbs),0) else (none,5) by
  rw[HR.out,parseQ,← hcut])
 clear hcut HR;obtain⟨p,hp⟩:∃ p,p=parseZ sa.data.toList:=⟨_,rfl⟩;have HP:=zz hp;have R4:=zz (parseZ_cases sa.data.toList);rw[← hp] at R4 b4;clear hp;go_wp2_with fail
 refine((show Calls Tryz.prog _ _ _ _ from HP.out▸Parse_any _ sa a5.out)).mono ?_;rintro e w4 ⟨e3,v,rfl,hv⟩;have B5:=zz e3;have z5:=B5.out.size;have g3:=zz (d3.out.trans (B5.out.mono d3.out.size));clear e3;obtain⟨x,e1⟩:=p;replace hv:LV w4 w4.heap.size v x:=hv;dsimp only at b4 ⊢
 obtain⟨n7,Z3,l7,c7,rfl,i3⟩:=hv.opened;have G0:=zz i3;clear hv i3;go_upto_region 3 with (fail)
 obtain⟨w8,D0⟩:∃ w8:World,w8=(w4.alloc (.cells #[.bool n7,.slice Z3 l7 c7] 26)):=⟨_,rfl⟩;rw[← D0];have l0:=n1_0 D0;have za8:=n1_z D0;have B9:=zz (n1_b D0);have z9:=B9.out.size;have n0:=zz (g3.out.trans (B9.out.mono g3.out.size));clear D0;by_cases he1:e1=0
 ·subst he1;cases k with
  | false=>
   have HV:=zz (show r=(some (mkRat x 1),0) by rw[b4.out];simp);go_upto_region 4 with (fail)
   refine Flow.run [⟨0,27,fun fv fw=>fv=.agg #[.bool n7,.slice Z3 l7 c7]⟩,⟨1,28,fun fv fw=>LV fw fw.heap.size fv 1⟩,⟨2,29,fun fv fw=>QV fw fw.heap.size fv (mkRat x 1)⟩,⟨3,30,fun fv fw=>fv=.int .i64 0⟩,⟨4,31,fun fv fw=>∃ u,fv=.tuple #[u,.int .i64 0]∧QO fw fw.heap.size u (some (mkRat x 1))⟩,⟨5,32,fun fv fw=>QO fw fw.heap.size fv (some (mkRat x 1))⟩,⟨6,33,fun fv fw=>fv=.int .i64 0⟩] [] [] 2 (by kernel_rfl) (by kernel_rfl) (by kernel_rfl) (fun _ _ _ _ _ h=>h) ?_ ?_ ?_ ?_
   ·refine(a0 (all_cons (fun v w1 w2 h hb=>h.step hb) (all_cons (fun v w1 w2 h hb=>h.step hb) (a0 (all_cons (fun v w1 w2 h hb=>let ⟨u,e,h⟩:=h;⟨u,e,QO.step (o:=(some (mkRat x 1))) h hb⟩) (all_cons (fun v w1 w2 h hb=>QO.step (o:=(some (mkRat x 1))) h hb) (a0 all_nil)))))))
   ·refine(all_cons ?_ (all_cons ?_ (all_cons ?_ (all_cons ?_ (all_cons ?_ (all_cons ?_ (all_cons ?_ all_nil)))))))
    ·intro xs P3 b0 c0;have P1:=zz b0;have Q3:=b0.size;clear b0;clear c0;refine wpOp_step (o:=_) rfl (fun K hK=>?_);simp only[FL]
     have I0:=CB.step l0 P1.out;have w3:=I0.cell 0 rfl;have y3:=I0.cell 1 rfl;go_simp;refine hK _ _ ⟨.agg #[.bool n7,.slice Z3 l7 c7],by kernel_rfl,Below.refl _ _,rfl,nF⟩
    ·intro xs R3 b0 c0;clear b0;clear c0;refine wpOp_step (o:=_) rfl (fun K hK=>?_);simp only[FL]
     go_simp;(with_reducible refine(Of_any _ 1 (by decide) (by decide)).mono ?_)
     rintro e wc15 ⟨j3,v15,rfl,k3⟩;refine hK _ _ ⟨v15,by kernel_rfl,j3,k3,nF⟩
    ·intro xs R0 b0 c0;have Q1:=zz b0;have T3:=b0.size;clear b0;have f0:(xs 0)=.agg #[.bool n7,.slice Z3 l7 c7]:=c0 _ (m_ 0 rfl) (by kernel_rfl);have f1:LV R0 R0.heap.size (xs 1) 1:=c0 _ (m_ 1 rfl) (by kernel_rfl);clear c0;refine wpOp_step (o:=_) rfl (fun K hK=>?_);simp only[FL]
     obtain⟨q4,r4,s4,t4,hx1,E0⟩:=LV.opened f1;rw[hx1];have P3_5_17:=zz (B9.out.trans (Q1.out.mono B9.out.size));have R1:=zz (LV.step G0.out P3_5_17.out);have u4:=zz E0;clear E0;go_simp;refine hK _ _ ⟨.agg #[.bool n7,.slice Z3 l7 c7,.bool q4,.slice r4 s4 t4],by simp only[FL,f0,hx1] <;> kernel_rfl,Below.refl _ _,QV.of (d:=1) R1.out u4.out (by decide) (Nat.gcd_one_right _),nF⟩
    ·intro xs U3 b0 c0;clear b0;clear c0;refine wpOp_step (o:=_) rfl (fun K hK=>?_);simp only[FL]
     go_simp;refine hK _ _ ⟨.int .i64 0,by kernel_rfl,Below.refl _ _,rfl,nF⟩
    ·intro xs S0 b0 c0;clear b0;have f2:QV S0 S0.heap.size (xs 2) (mkRat x 1):=c0 _ (m_ 2 rfl) (by kernel_rfl);have f3:(xs 3)=.int .i64 0:=c0 _ (m_ 3 rfl) (by kernel_rfl);clear c0;refine wpOp_step (o:=_) rfl (fun K hK=>?_);simp only[FL]
     obtain⟨qn,qA,ql,qc,qB,qm,qd,hu,ra,rb,rc⟩:=f2;rw[hu];have RC:=zz (And.intro ra (And.intro rb rc));clear ra rb rc;go_simp;(with_reducible refine(madeQ_yes _ qn false qA qB ql qc qm qd).mono ?_)
     rintro e wc21 ⟨T0,rfl⟩;refine hK _ _ ⟨.tuple #[.agg #[.bool qn,.slice qA ql qc,.bool false,.slice qB qm qd],.int .i64 0],by simp only[FL,f3,hu] <;> kernel_rfl,T0,⟨_,rfl,QV.step ⟨_,_,_,_,_,_,_,rfl,RC.out.1,RC.out.2.1,RC.out.2.2⟩ T0⟩,nF⟩
    ·intro xs U0 b0 c0;clear b0;have f4:∃ u,(xs 4)=.tuple #[u,.int .i64 0]∧QO U0 U0.heap.size u (some (mkRat x 1)):=c0 _ (m_ 4 rfl) (by kernel_rfl);clear c0;refine wpOp_step (o:=_) rfl (fun K hK=>?_);simp only[FL]
     obtain⟨u,hu,hl⟩:=f4;rw[hu];go_simp;refine hK _ _ ⟨u,by simp only[FL,hu] <;> kernel_rfl,Below.refl _ _,hl,nF⟩
    ·intro xs V0 b0 c0;clear b0;have f4:∃ u,(xs 4)=.tuple #[u,.int .i64 0]∧QO V0 V0.heap.size u (some (mkRat x 1)):=c0 _ (m_ 4 rfl) (by kernel_rfl);clear c0;refine wpOp_step (o:=_) rfl (fun K hK=>?_);simp only[FL]
     obtain⟨u,hu,-⟩:=f4;rw[hu];go_simp;refine hK _ _ ⟨.int .i64 0,by simp only[FL,hu] <;> kernel_rfl,Below.refl _ _,rfl,nF⟩
   ·exact all_nil
   ·intro xs d4 hbf hf hn hd;have f0:(xs 0)=.agg #[.bool n7,.slice Z3 l7 c7]:=hf _ (m_ 0 rfl);have f1:LV d4 d4.heap.size (xs 1) 1:=hf _ (m_ 1 rfl);have f2:QV d4 d4.heap.size (xs 2) (mkRat x 1):=hf _ (m_ 2 rfl);have f3:(xs 3)=.int .i64 0:=hf _ (m_ 3 rfl);have f4:∃ u,(xs 4)=.tuple #[u,.int .i64 0]∧QO d4 d4.heap.size u (some (mkRat x 1)):=hf _ (m_ 4 rfl);have f5:QO d4 d4.heap.size (xs 5) (some (mkRat x 1)):=hf _ (m_ 5 rfl);have f6:(xs 6)=.int .i64 0:=hf _ (m_ 6 rfl);clear hf hn hd;simp only[FL]
    have B25:=zz hbf;have z25:=B25.out.size;have l3:=zz (n0.out.trans (B25.out.mono n0.out.size));clear hbf;generalize xs 0=x0,xs 1=x1,xs 2=x2,xs 3=x3,xs 4=x4,xs 5=x5,xs 6=x6 at *
    obtain rfl:=f0;clear f1;clear f2;obtain rfl:=f3;clear f4;have hg27:=f5;obtain⟨n5,o5,p5,q5,r5,s5,E3,t5,rfl⟩:=QO.cells hg27;have Q0:=zz hg27;clear hg27;obtain rfl:=f6;have P1_3_29:=zz (B2.out.trans (B5.out.mono B2.out.size));have P1_4_30:=zz (P1_3_29.out.trans (B9.out.mono P1_3_29.out.size));have P1_5_31:=zz (P1_4_30.out.trans (B25.out.mono P1_4_30.out.size));have h0:=CB.step Lr2 P1_5_31.out;have S1:=h0.cell 0 rfl;have T1:=h0.cell 1 rfl;have U1:=h0.cell 2 rfl;have V1:=h0.cell 3 rfl;have v4:=h0.lt;have W1:=h0.frozen 0;have X1:=h0.frozen 1;have Y1:=h0.frozen 2;have Z1:=h0.frozen 3;have y4:=h0.lt;refine Early.next (i:=7) (by kernel_rfl) rfl (fun K hK=>?_);go_simp;refine hK _ _ (fun _=>trivial) ?_;clear hK K;(try simp only[Act.put,List.setIfInBounds_toArray,List.set_cons_zero,List.set_cons_succ])
    clear S1 T1 U1 V1 v4 W1 X1 Y1 Z1 y4;refine Early.next (i:=8) (by kernel_rfl) rfl (fun K hK=>?_);go_simp;refine hK _ _ (fun _=>trivial) ?_;clear hK K;(try simp only[Act.put,List.setIfInBounds_toArray,List.set_cons_zero,List.set_cons_succ])
    refine Early.done (by kernel_rfl) ?_ _;(try simp only[Exit.then])
    go_wp2;exact QB.fin rfl h0 (by simp[noInt_b,noInt_s]) l3.out (by omega) (by rw[HV.out];exact Q0.out) rfl (by rw[HV.out];rfl)
  | true=>
   obtain⟨p,hp⟩:∃ p,p=parseZ sb.data.toList:=⟨_,rfl⟩;have c5:=zz hp;have S4:=zz (parseZ_cases sb.data.toList);rw[← hp] at S4 b4;clear hp;have a2:=l0.cell 0 rfl;have b2:=l0.cell 1 rfl;have z4:=l0.lt;go_wp2_with fail
   refine((show Calls Tryz.prog _ _ _ _ from c5.out▸Parse_any _ sb b5.out)).mono ?_;rintro e w34 ⟨W0,v,rfl,hv⟩;have B36:=zz W0;have z36:=B36.out.size;have X0:=zz (n0.out.trans (B36.out.mono n0.out.size));clear W0;clear a2 b2 z4;obtain⟨y,e2⟩:=p;replace hv:LV w34 w34.heap.size v y:=hv;dsimp only at b4 ⊢
   replace b4:=zz (show r=if e2≠0 then (none,e2) else if 2≤y∧Nat.gcd x.natAbs y.natAbs=1 then (some (mkRat x y.natAbs),0) else (none,5) by rw[b4.out];simp);obtain⟨n38,e4,l38,c38,rfl,Y0⟩:=hv.opened;have c2:=zz Y0;clear hv Y0;go_upto_region 6 with (fail)
   obtain⟨w39,q0⟩:∃ w39:World,w39=(w34.alloc (.cells #[.bool n38,.slice e4 l38 c38] 26)):=⟨_,rfl⟩;rw[← q0];have k0:=n1_0 q0;have za39:=n1_z q0;have B40:=zz (n1_b q0);have z40:=B40.out.size;have o0:=zz (X0.out.trans (B40.out.mono X0.out.size));clear q0;by_cases he2:e2=0
   ·subst he2;obtain⟨hxl,hyl,hyt⟩:(dig x.natAbs).length≤600∧(dig y.natAbs).length≤600∧Lib.itoa y=sb.data.toList:=by
     rcases R4.out with h | ⟨h,-⟩ | ⟨z,h,-,h2⟩
     ·injection h with _ h;cases h
     ·injection h with _ h;cases h
     ·injection h with h _;subst h
      rcases S4.out with h | ⟨h,-⟩ | ⟨z,h,h3,h4⟩
      ·injection h with _ h;cases h
      ·injection h with _ h;cases h
      ·injection h with h _;subst h;exact⟨h2,h4,h3⟩
    have T4:=zz hxl;have U4:=zz hyl;have V4:=zz hyt;clear hxl hyl hyt;have P3_5_42:=zz (B9.out.trans (B36.out.mono B9.out.size));have P3_6_43:=zz (P3_5_42.out.trans (B40.out.mono P3_5_42.out.size));have J0:=zz (LV.step G0.out P3_6_43.out);have K0:=zz (LV.step c2.out B40.out);have W4:=zz (QR.of J0.out K0.out);by_cases hq:0<y∧Nat.gcd x.natAbs y.natAbs=1
    ·have HQ:=zz hq;have B4:=zz (show qOf _ _ _ _=some (mkRat x y.natAbs) from(qOf_pair T4.out U4.out).trans (if_pos hq));clear hq;have P4_6_48:=zz (B36.out.trans (B40.out.mono B36.out.size));have m0:=CB.step l0 P4_6_48.out;have d2:=m0.cell 0 rfl;have g2:=m0.cell 1 rfl;have C4:=m0.lt;have i2:=k0.cell 0 rfl;have j2:=k0.cell 1 rfl;have D4:=k0.lt;go_wp2_with fail
     refine((show Calls Tryz.prog _ _ _ _ from(chkQ_some B4.out)▸QCheck_any _ _ _ _ _ _ W4.out)).mono ?_;rintro e w46 ⟨Z0,rfl⟩;have B51:=zz Z0;have z51:=B51.out.size;have s0:=zz (o0.out.trans (B51.out.mono o0.out.size));clear Z0;clear d2 g2 C4 i2 j2 D4;by_cases hy1:y=1
     ·have hone:(sb.toList==[49])=true:=by rw[Lib.toList_data,← V4.out,hy1,itoa_one];rfl
      have HV:=zz (show r=(none,5) by rw[b4.out,hy1];simp);clear hy1;have t0:=CB.step m0 B51.out;have k2:=t0.cell 0 rfl;have l2:=t0.cell 1 rfl;have E4:=t0.lt;have u0:=CB.step k0 B51.out;have m2:=u0.cell 0 rfl;have n2:=u0.cell 1 rfl;have F4:=u0.lt;go_wp2_with fail
      refine(madeQ_no _ n7 n38 Z3 e4 l7 c7 l38 c38 5 (by decide)).mono ?_;rintro e w53 ⟨a1,rfl⟩;have B58:=zz a1;have z58:=B58.out.size;have m3:=zz (s0.out.trans (B58.out.mono s0.out.size));clear a1;clear k2 l2 E4 m2 n2 F4;have P1_3_61:=zz (B2.out.trans (B5.out.mono B2.out.size));have P1_4_62:=zz (P1_3_61.out.trans (B9.out.mono P1_3_61.out.size));have P1_5_63:=zz (P1_4_62.out.trans (B36.out.mono P1_4_62.out.size));have P1_6_64:=zz (P1_5_63.out.trans (B40.out.mono P1_5_63.out.size));have P1_7_65:=zz (P1_6_64.out.trans (B51.out.mono P1_6_64.out.size));have P1_8_66:=zz (P1_7_65.out.trans (B58.out.mono P1_7_65.out.size));have i0:=CB.step Lr2 P1_8_66.out;have o2:=i0.cell 0 rfl;have p2:=i0.cell 1 rfl;have q2:=i0.cell 2 rfl;have r2:=i0.cell 3 rfl;have G4:=i0.lt;have s2:=i0.frozen 0;have t2:=i0.frozen 1;have u2:=i0.frozen 2;have v2:=i0.frozen 3;have H4:=i0.lt;go_wp2;clear o2 p2 q2 r2 G4 s2 t2 u2 v2 H4;exact QB.fin rfl i0 (by simp[noInt_b,noInt_s]) m3.out (by omega) (by rw[HV.out];exact zeroQ _ _) rfl (by rw[HV.out];rfl)
     ·have hone:(sb.toList==[49])=false:=by rw[Lib.toList_data,← V4.out];exact beq_eq_false_iff_ne.2 (fun h=>hy1 (itoa_is_one.1 h))
      have HV:=zz (show r=(some (mkRat x y.natAbs),0) by rw[b4.out,if_neg (by decide),if_pos ⟨by have:=HQ.out.1;omega,HQ.out.2⟩]);have d5:=zz (show y=((y.natAbs:Nat):Int) by have:=HQ.out.1;omega);clear hy1;have v0:=CB.step m0 B51.out;have y2:=v0.cell 0 rfl;have A2:=v0.cell 1 rfl;have I4:=v0.lt;have y0:=CB.step k0 B51.out;have C2:=y0.cell 0 rfl;have D2:=y0.cell 1 rfl;have J4:=y0.lt;go_wp2_with fail
      refine(madeQ_yes _ n7 n38 Z3 e4 l7 c7 l38 c38).mono ?_;rintro e w69 ⟨b1,rfl⟩;have B74:=zz b1;have z74:=B74.out.size;have n3:=zz (s0.out.trans (B74.out.mono s0.out.size));clear b1;clear y2 A2 I4 C2 D2 J4;have P6_8_76:=zz (B51.out.trans (B74.out.mono B51.out.size));have E2:=zz (LV.step J0.out P6_8_76.out);have F2:=zz (LV.step K0.out P6_8_76.out);have X4:=zz (show QV w69 w69.heap.size (.agg #[.bool n7,.slice Z3 l7 c7,.bool n38,.slice e4 l38 c38]) (mkRat x y.natAbs) from QV.of E2.out (by rw[← d5.out];exact F2.out) (by have:=HQ.out.1;omega) HQ.out.2);have P1_3_80:=zz (B2.out.trans (B5.out.mono B2.out.size));have P1_4_81:=zz (P1_3_80.out.trans (B9.out.mono P1_3_80.out.size));have P1_5_82:=zz (P1_4_81.out.trans (B36.out.mono P1_4_81.out.size));have P1_6_83:=zz (P1_5_82.out.trans (B40.out.mono P1_5_82.out.size));have P1_7_84:=zz (P1_6_83.out.trans (B51.out.mono P1_6_83.out.size));have P1_8_85:=zz (P1_7_84.out.trans (B74.out.mono P1_7_84.out.size));have j0:=CB.step Lr2 P1_8_85.out;have G2:=j0.cell 0 rfl;have H2:=j0.cell 1 rfl;have I2:=j0.cell 2 rfl;have J2:=j0.cell 3 rfl;have K4:=j0.lt;have K2:=j0.frozen 0;have L2:=j0.frozen 1;have M2:=j0.frozen 2;have N2:=j0.frozen 3;have L4:=j0.lt;go_wp2;clear G2 H2 I2 J2 K4 K2 L2 M2 N2 L4;exact QB.fin rfl j0 (by simp[noInt_b,noInt_s]) n3.out (by omega) (by rw[HV.out];exact X4.out) rfl (by rw[HV.out];rfl)
    ·have B4:=zz (show qOf _ _ _ _=none from(qOf_pair T4.out U4.out).trans (if_neg hq));have HV:=zz (show r=(none,5) by rw[b4.out,if_neg (by decide),if_neg (fun h=>hq ⟨by omega,h.2⟩)]);clear hq;have P4_6_90:=zz (B36.out.trans (B40.out.mono B36.out.size));have p0:=CB.step l0 P4_6_90.out;have O2:=p0.cell 0 rfl;have P2:=p0.cell 1 rfl;have M4:=p0.lt;have Q2:=k0.cell 0 rfl;have R2:=k0.cell 1 rfl;have N4:=k0.lt;go_wp2_with fail
     refine(QCheck_no W4.out B4.out).mono ?_;rintro e w88 ⟨c1,rfl⟩;have B93:=zz c1;have z93:=B93.out.size;have d1:=zz (o0.out.trans (B93.out.mono o0.out.size));clear c1;clear O2 P2 M4 Q2 R2 N4;have A0:=CB.step p0 B93.out;have S2:=A0.cell 0 rfl;have T2:=A0.cell 1 rfl;have O4:=A0.lt;have C0:=CB.step k0 B93.out;have U2:=C0.cell 0 rfl;have V2:=C0.cell 1 rfl;have P4:=C0.lt;go_wp2_with fail
     refine(madeQ_no _ n7 n38 Z3 e4 l7 c7 l38 c38 5 (by decide)).mono ?_;rintro e w95 ⟨g1,rfl⟩;have B100:=zz g1;have z100:=B100.out.size;have W2:=zz (d1.out.trans (B100.out.mono d1.out.size));clear g1;clear S2 T2 O4 U2 V2 P4;have P1_3_103:=zz (B2.out.trans (B5.out.mono B2.out.size));have P1_4_104:=zz (P1_3_103.out.trans (B9.out.mono P1_3_103.out.size));have P1_5_105:=zz (P1_4_104.out.trans (B36.out.mono P1_4_104.out.size));have P1_6_106:=zz (P1_5_105.out.trans (B40.out.mono P1_5_105.out.size));have P1_7_107:=zz (P1_6_106.out.trans (B93.out.mono P1_6_106.out.size));have P1_8_108:=zz (P1_7_107.out.trans (B100.out.mono P1_7_107.out.size));have d0:=CB.step Lr2 P1_8_108.out;have i1:=d0.cell 0 rfl;have j1:=d0.cell 1 rfl;have k1:=d0.cell 2 rfl;have l1:=d0.cell 3 rfl;have g4:=d0.lt;have m1:=d0.frozen 0;have n1:=d0.frozen 1;have o1:=d0.frozen 2;have p1:=d0.frozen 3;have i4:=d0.lt;go_wp2;clear i1 j1 k1 l1 g4 m1 n1 o1 p1 i4;exact QB.fin rfl d0 (by simp[noInt_b,noInt_s]) W2.out (by omega) (by rw[HV.out];exact zeroQ _ _) rfl (by rw[HV.out];rfl)
   ·have HE:=zz he2;have hez:(e2==0)=false:=by rw[beq_eq_false_iff_ne];exact he2
    have HV:=zz (show r=(none,e2) by rw[b4.out,if_pos he2]);clear he2;have P4_6_113:=zz (B36.out.trans (B40.out.mono B36.out.size));have r0:=CB.step l0 P4_6_113.out;have q1:=r0.cell 0 rfl;have r1:=r0.cell 1 rfl;have j4:=r0.lt;have s1:=k0.cell 0 rfl;have t1:=k0.cell 1 rfl;have k4:=k0.lt;go_wp2_with fail
    refine(madeQ_no _ n7 n38 Z3 e4 l7 c7 l38 c38 e2 HE.out).mono ?_;rintro e w111 ⟨L0,rfl⟩;have B116:=zz L0;have z116:=B116.out.size;have X2:=zz (o0.out.trans (B116.out.mono o0.out.size));clear L0;clear q1 r1 j4 s1 t1 k4;have P1_3_119:=zz (B2.out.trans (B5.out.mono B2.out.size));have P1_4_120:=zz (P1_3_119.out.trans (B9.out.mono P1_3_119.out.size));have P1_5_121:=zz (P1_4_120.out.trans (B36.out.mono P1_4_120.out.size));have P1_6_122:=zz (P1_5_121.out.trans (B40.out.mono P1_5_121.out.size));have P1_7_123:=zz (P1_6_122.out.trans (B116.out.mono P1_6_122.out.size));have e0:=CB.step Lr2 P1_7_123.out;have u1:=e0.cell 0 rfl;have v1:=e0.cell 1 rfl;have y1:=e0.cell 2 rfl;have z1:=e0.cell 3 rfl;have l4:=e0.lt;have A1:=e0.frozen 0;have B1:=e0.frozen 1;have C1:=e0.frozen 2;have D1:=e0.frozen 3;have m4:=e0.lt;go_wp2;clear u1 v1 y1 z1 l4 A1 B1 C1 D1 m4;exact QB.fin rfl e0 (by simp[noInt_b,noInt_s]) X2.out (by omega) (by rw[HV.out];exact zeroQ _ _) rfl (by rw[HV.out];rfl)
 ·have HE:=zz he1;have hez:(e1==0)=false:=by rw[beq_eq_false_iff_ne];exact he1
  have HV:=zz (show r=(none,e1) by rw[b4.out,if_pos he1]);clear he1;go_upto_region 4 with (fail)
  refine Flow.run [⟨0,27,fun fv fw=>fv=.agg #[.bool n7,.slice Z3 l7 c7]⟩,⟨1,28,fun fv fw=>LV fw fw.heap.size fv 1⟩,⟨2,29,fun fv fw=>QV fw fw.heap.size fv (mkRat x 1)⟩,⟨3,30,fun fv fw=>fv=.int .i64 e1⟩,⟨4,31,fun fv fw=>∃ u,fv=.tuple #[u,.int .i64 e1]∧QO fw fw.heap.size u none⟩,⟨5,32,fun fv fw=>QO fw fw.heap.size fv none⟩,⟨6,33,fun fv fw=>fv=.int .i64 e1⟩] [] [] 2 (by kernel_rfl) (by kernel_rfl) (by kernel_rfl) (fun _ _ _ _ _ h=>h) ?_ ?_ ?_ ?_
  ·refine(a0 (all_cons (fun v w1 w2 h hb=>h.step hb) (all_cons (fun v w1 w2 h hb=>h.step hb) (a0 (all_cons (fun v w1 w2 h hb=>let ⟨u,e,h⟩:=h;⟨u,e,QO.step (o:=none) h hb⟩) (all_cons (fun v w1 w2 h hb=>QO.step (o:=none) h hb) (a0 all_nil)))))))
  ·refine(all_cons ?_ (all_cons ?_ (all_cons ?_ (all_cons ?_ (all_cons ?_ (all_cons ?_ (all_cons ?_ all_nil)))))))
   ·intro xs F3 b0 c0;have E1:=zz b0;have G3:=b0.size;clear b0;clear c0;refine wpOp_step (o:=_) rfl (fun K hK=>?_);simp only[FL]
    have F0:=CB.step l0 E1.out;have o3:=F0.cell 0 rfl;have p3:=F0.cell 1 rfl;go_simp;refine hK _ _ ⟨.agg #[.bool n7,.slice Z3 l7 c7],by kernel_rfl,Below.refl _ _,rfl,nF⟩
   ·intro xs H3 b0 c0;clear b0;clear c0;refine wpOp_step (o:=_) rfl (fun K hK=>?_);simp only[FL]
    go_simp;(with_reducible refine(Of_any _ 1 (by decide) (by decide)).mono ?_)
    rintro e wc130 ⟨Y2,v130,rfl,Z2⟩;refine hK _ _ ⟨v130,by kernel_rfl,Y2,Z2,nF⟩
   ·intro xs M0 b0 c0;have F1:=zz b0;have J3:=b0.size;clear b0;have f0:(xs 0)=.agg #[.bool n7,.slice Z3 l7 c7]:=c0 _ (m_ 0 rfl) (by kernel_rfl);have f1:LV M0 M0.heap.size (xs 1) 1:=c0 _ (m_ 1 rfl) (by kernel_rfl);clear c0;refine wpOp_step (o:=_) rfl (fun K hK=>?_);simp only[FL]
    obtain⟨q4,r4,s4,t4,hx1,E0⟩:=LV.opened f1;rw[hx1];have P3_5_132:=zz (B9.out.trans (F1.out.mono B9.out.size));have G1:=zz (LV.step G0.out P3_5_132.out);have u4:=zz E0;clear E0;go_simp;refine hK _ _ ⟨.agg #[.bool n7,.slice Z3 l7 c7,.bool q4,.slice r4 s4 t4],by simp only[FL,f0,hx1] <;> kernel_rfl,Below.refl _ _,QV.of (d:=1) G1.out u4.out (by decide) (Nat.gcd_one_right _),nF⟩
   ·intro xs K3 b0 c0;clear b0;clear c0;refine wpOp_step (o:=_) rfl (fun K hK=>?_);simp only[FL]
    go_simp;refine hK _ _ ⟨.int .i64 e1,by kernel_rfl,Below.refl _ _,rfl,nF⟩
   ·intro xs N0 b0 c0;clear b0;have f2:QV N0 N0.heap.size (xs 2) (mkRat x 1):=c0 _ (m_ 2 rfl) (by kernel_rfl);have f3:(xs 3)=.int .i64 e1:=c0 _ (m_ 3 rfl) (by kernel_rfl);clear c0;refine wpOp_step (o:=_) rfl (fun K hK=>?_);simp only[FL]
    obtain⟨qn,qA,ql,qc,qB,qm,qd,hu,ra,rb,rc⟩:=f2;rw[hu];have RC:=zz (And.intro ra (And.intro rb rc));clear ra rb rc;go_simp;(with_reducible refine(madeQ_no _ qn false qA qB ql qc qm qd e1 HE.out).mono ?_)
    rintro e wc136 ⟨a3,rfl⟩;refine hK _ _ ⟨.tuple #[.agg #[.bool false,.slice none 0 0,.bool false,.slice none 0 0],.int .i64 e1],by simp only[FL,f3,hu] <;> kernel_rfl,a3,⟨_,rfl,zeroQ _ _⟩,nF⟩
   ·intro xs O0 b0 c0;clear b0;have f4:∃ u,(xs 4)=.tuple #[u,.int .i64 e1]∧QO O0 O0.heap.size u none:=c0 _ (m_ 4 rfl) (by kernel_rfl);clear c0;refine wpOp_step (o:=_) rfl (fun K hK=>?_);simp only[FL]
    obtain⟨u,hu,hl⟩:=f4;rw[hu];go_simp;refine hK _ _ ⟨u,by simp only[FL,hu] <;> kernel_rfl,Below.refl _ _,hl,nF⟩
   ·intro xs P0 b0 c0;clear b0;have f4:∃ u,(xs 4)=.tuple #[u,.int .i64 e1]∧QO P0 P0.heap.size u none:=c0 _ (m_ 4 rfl) (by kernel_rfl);clear c0;refine wpOp_step (o:=_) rfl (fun K hK=>?_);simp only[FL]
    obtain⟨u,hu,-⟩:=f4;rw[hu];go_simp;refine hK _ _ ⟨.int .i64 e1,by simp only[FL,hu] <;> kernel_rfl,Below.refl _ _,rfl,nF⟩
  ·exact all_nil
  ·intro xs a4 hbf hf hn hd;have f0:(xs 0)=.agg #[.bool n7,.slice Z3 l7 c7]:=hf _ (m_ 0 rfl);have f1:LV a4 a4.heap.size (xs 1) 1:=hf _ (m_ 1 rfl);have f2:QV a4 a4.heap.size (xs 2) (mkRat x 1):=hf _ (m_ 2 rfl);have f3:(xs 3)=.int .i64 e1:=hf _ (m_ 3 rfl);have f4:∃ u,(xs 4)=.tuple #[u,.int .i64 e1]∧QO a4 a4.heap.size u none:=hf _ (m_ 4 rfl);have f5:QO a4 a4.heap.size (xs 5) none:=hf _ (m_ 5 rfl);have f6:(xs 6)=.int .i64 e1:=hf _ (m_ 6 rfl);clear hf hn hd;simp only[FL]
   have B140:=zz hbf;have z140:=B140.out.size;have b3:=zz (n0.out.trans (B140.out.mono n0.out.size));clear hbf;generalize xs 0=x0,xs 1=x1,xs 2=x2,xs 3=x3,xs 4=x4,xs 5=x5,xs 6=x6 at *
   obtain rfl:=f0;clear f1;clear f2;obtain rfl:=f3;clear f4;have hg142:=f5;obtain⟨e5,g5,h5,i5,j5,k5,v3,l5,rfl⟩:=QO.cells hg142;have H0:=zz hg142;clear hg142;obtain rfl:=f6;have P1_3_144:=zz (B2.out.trans (B5.out.mono B2.out.size));have P1_4_145:=zz (P1_3_144.out.trans (B9.out.mono P1_3_144.out.size));have P1_5_146:=zz (P1_4_145.out.trans (B140.out.mono P1_4_145.out.size));have g0:=CB.step Lr2 P1_5_146.out;have H1:=g0.cell 0 rfl;have I1:=g0.cell 1 rfl;have J1:=g0.cell 2 rfl;have K1:=g0.cell 3 rfl;have n4:=g0.lt;have L1:=g0.frozen 0;have M1:=g0.frozen 1;have N1:=g0.frozen 2;have O1:=g0.frozen 3;have o4:=g0.lt;refine Early.next (i:=7) (by kernel_rfl) rfl (fun K hK=>?_);go_simp;refine hK _ _ (fun _=>trivial) ?_;clear hK K;(try simp only[Act.put,List.setIfInBounds_toArray,List.set_cons_zero,List.set_cons_succ])
   clear H1 I1 J1 K1 n4 L1 M1 N1 O1 o4;refine Early.next (i:=8) (by kernel_rfl) rfl (fun K hK=>?_);go_simp;refine hK _ _ (fun _=>trivial) ?_;clear hK K;(try simp only[Act.put,List.setIfInBounds_toArray,List.set_cons_zero,List.set_cons_succ])
   refine Early.done (by kernel_rfl) ?_ _;(try simp only[Exit.then])
   go_wp2;exact QB.fin rfl g0 (by simp[noInt_b,noInt_s]) b3.out (by omega) (by rw[HV.out];exact H0.out) rfl (by rw[HV.out];rfl)
end Go.Proofs.YtngpibfakemmhaaGreatDoor
