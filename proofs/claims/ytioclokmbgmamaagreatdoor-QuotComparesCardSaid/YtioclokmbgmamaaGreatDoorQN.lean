/- Layer 04: Text, Parse (written by gen_qn.py). -/
import Derived.Test.YtioclokmbgmamaaGreatDoorQM
import Derived.Test.YtioclokmbgmamaaGreatDoorQP
namespace Go.Proofs.YtioclokmbgmamaaGreatDoor
open Go Go.RowKit Dig
theorem beq_str (s t:ByteArray):(s.toList==t.toList)=decide (s.data.toList=t.data.toList):=by
 rw[Lib.toList_data,Lib.toList_data]
 by_cases h:s.data.toList=t.data.toList
 ·rw[h];simp
 ·rw[decide_eq_false h];exact beq_eq_false_iff_ne.2 h
def MaxL (w:World):Prop:=∃ m:Int,w.cell? ⟨0,0,none⟩=some (.int .i64 m)
theorem MaxL.step {w w':World} (h:MaxL w) (hb:Below w.heap.size w w'):MaxL w':=by
 obtain⟨m,hm⟩:=h
 exact⟨m,(hb.cell (cell_lt hm)).trans hm⟩
theorem Cut_any (w:World) (s:ByteArray) (hs:s.size≤1000000) (M:MaxL w) :
  Calls Tryz.prog 86 #[.string s,.string ⟨#[47]⟩] w fun e w'=>Below w.heap.size w w'∧∃ (a b:ByteArray) (k:Bool),e=.returned (.tuple #[.string a,.string b,.bool k])∧(a.data.toList,b.data.toList,k)=Lib.cut s.data.toList [47]:=by
 obtain⟨m,hm⟩:=M
 refine(Tryz.strings_Cut s ⟨#[47]⟩ m w (by omega) hm).mono ?_
 rintro e w' ⟨rfl,n,rfl⟩
 exact⟨below_drewN (Below.refl _ _) n,_,_,_,rfl,by simp⟩
theorem cut_sizes {s a b:List UInt8} {k:Bool} (h:(a,b,k)=Lib.cut s [47]):a.length≤s.length∧b.length≤s.length:=by
 rcases first47 s with hs | ⟨x,y,hx,rfl⟩
 ·rw[cut_none hs] at h;injection h with h1 h2;injection h2 with h2 h3
  rw[h1,h2];simp
 ·rw[cut_some hx] at h;injection h with h1 h2;injection h2 with h2 h3
  rw[h1,h2];simp;omega
theorem QV.of {w:World} {B:Nat} {n m:Bool} {A A':Option Addr} {l c l' c':Nat} {x:Int} {d:Nat} (h:LV w B (.agg #[.bool n,.slice A l c]) x) (k:LV w B (.agg #[.bool m,.slice A' l' c']) (d:Int)) (h0:d≠0) (h1:Nat.gcd x.natAbs d=1) :
  QV w B (.agg #[.bool n,.slice A l c,.bool m,.slice A' l' c']) (mkRat x d):=by
 obtain⟨e1,e2⟩:=mkRat_low (x:=x) (y:=d) (Nat.pos_of_ne_zero h0) h1
 obtain⟨a1,-,a3⟩:=h.is
 obtain⟨b1,-,b3⟩:=k.is
 rw[decide_eq_false (by omega)] at b1
 subst b1
 rw[Int.natAbs_natCast] at b3
 exact⟨n,A,l,c,A',l',c',rfl,by rw[e1];exact a3,by rw[e2];exact b3,by rw[e1];exact a1⟩
theorem QR.of {w:World} {B:Nat} {n m:Bool} {A A':Option Addr} {l c l' c':Nat} {x y:Int} (h:LV w B (.agg #[.bool n,.slice A l c]) x) (k:LV w B (.agg #[.bool m,.slice A' l' c']) y) :
  QR w B (.agg #[.bool n,.slice A l c,.bool m,.slice A' l' c']) (decide (x<0)) (ni (dig x.natAbs)) (decide (y<0)) (ni (dig y.natAbs)):=by
 obtain⟨a1,-,a3⟩:=h.is
 obtain⟨b1,-,b3⟩:=k.is
 subst a1;subst b1
 exact QR.mk a3 b3
theorem qOf_pair {x y:Int} (hx:(dig x.natAbs).length≤600) (hy:(dig y.natAbs).length≤600):qOf (decide (x<0)) (ni (dig x.natAbs)) (decide (y<0)) (ni (dig y.natAbs))=if 0<y∧Nat.gcd x.natAbs y.natAbs=1 then some (mkRat x y.natAbs) else none:=
 qOf_both (numOf_dig hx) (numOf_dig hy)
def RetT (o:Option Rat) (e:Ending):Prop:=
 match o with
 | some q=>∃ t:ByteArray,e=.returned (.tuple #[.string t,.int .i64 0])∧t.data.toList=textQ q
 | none=>e=.returned (.tuple #[.string ⟨#[]⟩,.int .i64 40])
set_option maxRecDepth 100000 in
set_option maxHeartbeats 4000000 in
theorem QText_good (w:World) (va:Value) (q:Rat) (ha:QV w w.heap.size va q) (lq:QL 600 600 q) (G:Glob w) :
  Calls Tryz.prog 29 #[va] w fun e w'=>Below w.heap.size w w'∧RetT (some q) e:=by
 obtain⟨n,A,l,c,m,A',l',c',rfl⟩:=QO.cells (show QO w w.heap.size va (some q) from ha)
 have HA:=zz ha;have HLQ:=zz lq;clear ha lq
 obtain⟨w0,hw0⟩:∃ w0:World,w0=(w.alloc (.cells #[.bool n,.slice A l c,.bool m,.slice A' l' c'] 26)):=⟨_,rfl⟩
 have B0:=zz (show Below w.heap.size w w0 by rw[hw0];(repeat' (first | exact Below.refl _ _ | refine Below.drew ?_ | refine Below.alloc ?_ (by first | exact Nat.le_refl _ | (simp;done) | (simp;omega)) _)))
 have z0:w.heap.size+1≤w0.heap.size:=by rw[hw0];simp
 have La:CB w0 (w.heap.size) 26 #[.bool n,.slice A l c,.bool m,.slice A' l' c']:=by rw[hw0];have h:=CB.new w 26 #[.bool n,.slice A l c,.bool m,.slice A' l' c'];simpa using h
 replace HA:=zz (QV.step HA.out B0.out)
 go_enter Tryz.func29,Tryz.ntmps29
 go_upto_region 1 with (fail)
 rw[← hw0];clear hw0
 have n0:=La.cell 0 rfl
 have o0:=La.cell 1 rfl
 have p0:=La.cell 2 rfl
 have q0:=La.cell 3 rfl
 have q2_lt:=La.lt
 go_wp2_with fail
 refine(QCheck_good HA.out HLQ.out).mono ?_
 rintro e w1 ⟨l0,rfl⟩
 have B3:=zz l0
 have z3:=B3.out.size
 have d0:=zz (B0.out.trans (B3.out.mono B0.out.size))
 clear l0
 clear n0 o0 p0 q0 q2_lt
 have b0:=CB.step La B3.out
 have r0:=b0.cell 0 rfl
 have s0:=b0.cell 1 rfl
 have t0:=b0.cell 2 rfl
 have u0:=b0.cell 3 rfl
 have q7_lt:=b0.lt
 go_wp2_with fail
 have e0:=zz (QV.step HA.out B3.out)
 refine(Text_num (QV.fst e0.out) HLQ.out.1 (G.step d0.out)).mono ?_
 rintro e w5 ⟨m0,rfl⟩
 have B9:=zz m0
 have z9:=B9.out.size
 have c0:=zz (d0.out.trans (B9.out.mono d0.out.size))
 clear m0
 clear r0 s0 t0 u0 q7_lt
 obtain⟨s,hs⟩:∃ s:ByteArray,s=⟨(Lib.itoa q.num).toArray⟩:=⟨_,rfl⟩;rw[← hs]
 have Hs:=zz (show s.data.toList=Lib.itoa q.num by rw[hs]);have zs:s.size≤5401:=by rw[hs,Lib.size_eq];exact itoa_len HLQ.out.1
 clear hs
 have a0:=CB.step b0 B9.out
 have g0:=a0.cell 0 rfl
 have h0:=a0.cell 1 rfl
 have i0:=a0.cell 2 rfl
 have j0:=a0.cell 3 rfl
 have q13_lt:=a0.lt
 go_wp2_with fail
 have k0:=zz (QV.step e0.out B9.out)
 refine(Text_num (QV.snd k0.out) (by rw[Fit,Int.natAbs_natCast];exact HLQ.out.2) (G.step c0.out)).mono ?_
 rintro e w11 ⟨f0,rfl⟩
 have B15:=zz f0
 have z15:=B15.out.size
 have v0:=zz (c0.out.trans (B15.out.mono c0.out.size))
 clear f0
 clear g0 h0 i0 j0 q13_lt
 obtain⟨t,ht⟩:∃ s:ByteArray,s=⟨(Lib.itoa (q.den:Int)).toArray⟩:=⟨_,rfl⟩;rw[← ht]
 have Ht:=zz (show t.data.toList=Lib.itoa (q.den:Int) by rw[ht]);have zt:t.size≤5401:=by rw[ht,Lib.size_eq];exact itoa_len (by rw[Int.natAbs_natCast];exact HLQ.out.2)
 clear ht
 have hcat1:¬ 9223372036854775807<s.size+1:=by omega
 have hcat2:¬ 9223372036854775807<s.size+1+t.size:=by omega
 go_wp2_with fail
 refine(Tryz.strings_TrimSuffix _ ⟨#[47,49]⟩ _ ?_).mono ?_
 ·simp only[ByteArray.size_append];show s.size+1+t.size≤_;omega
 rintro e w9 ⟨rfl,rfl⟩
 obtain⟨u,hu⟩:∃ u:ByteArray,u=⟨(Lib.trimSuffix (s++⟨#[47]⟩++t).data.toList (⟨#[47,49]⟩:ByteArray).data.toList).toArray⟩:=⟨_,rfl⟩;rw[← hu]
 have HU:=zz (show u.data.toList=textQ q by rw[hu,ByteArray.data_append,ByteArray.data_append,Array.toList_append,Array.toList_append,Hs.out,Ht.out];show Lib.trimSuffix (Lib.itoa q.num++[47]++Lib.itoa q.den) [47,49]=_;rw[List.append_assoc];exact textQ_trim q);clear hu
 go_wp2
 go_ret2
 exact⟨v0.out,_,rfl,HU.out⟩
set_option maxRecDepth 100000 in
set_option maxHeartbeats 4000000 in
theorem QParse_any (w:World) (s:ByteArray) (hs:s.size≤1000000) (M:MaxL w) :
  Calls Tryz.prog 31 #[.string s] w fun e w'=>Below w.heap.size w w'∧RetQ w' (parseQ s.data.toList) e:=by
 obtain⟨r,hr⟩:∃ r,r=parseQ s.data.toList:=⟨_,rfl⟩;rw[← hr];have HR:=zz hr;clear hr
 have HSZ:=zz hs;clear hs
 obtain⟨w0,hw0⟩:∃ w0:World,w0=(w.alloc (.cells #[.bool false,.slice none 0 0,.bool false,.slice none 0 0] 26)):=⟨_,rfl⟩
 have B0:=zz (show Below w.heap.size w w0 by rw[hw0];(repeat' (first | exact Below.refl _ _ | refine Below.drew ?_ | refine Below.alloc ?_ (by first | exact Nat.le_refl _ | (simp;done) | (simp;omega)) _)))
 have z0:w.heap.size+1≤w0.heap.size:=by rw[hw0];simp
 have Lr2:CB w0 (w.heap.size) 26 #[.bool false,.slice none 0 0,.bool false,.slice none 0 0]:=by rw[hw0];have h:=CB.new w 26 #[.bool false,.slice none 0 0,.bool false,.slice none 0 0];simpa using h
 go_enter Tryz.func31,Tryz.ntmps31
 go_upto_region 1 with (fail)
 rw[← hw0];clear hw0
 go_wp2_with fail
 refine(Cut_any _ s HSZ.out (M.step B0.out)).mono ?_
 rintro e w1 ⟨d3,sa,sb,k,rfl,hcut⟩
 have B2:=zz d3
 have z2:=B2.out.size
 have e3:=zz (B0.out.trans (B2.out.mono B0.out.size))
 clear d3
 have hcz:=cut_sizes hcut;have HZA:=zz (show sa.size≤1000000 by rw[Lib.size_eq];have h1:=HSZ.out;rw[Lib.size_eq] at h1;omega);have HZB:=zz (show sb.size≤1000000 by rw[Lib.size_eq];have h1:=HSZ.out;rw[Lib.size_eq] at h1;omega);clear hcz
 have HRR:=zz (show r=if (parseZ sa.data.toList).2≠0 then (none,(parseZ sa.data.toList).2) else if k=false then (some (mkRat (parseZ sa.data.toList).1 1),0) else if (parseZ sb.data.toList).2≠0 then (none,(parseZ sb.data.toList).2) else if 2≤(parseZ sb.data.toList).1∧Nat.gcd (parseZ sa.data.toList).1.natAbs (parseZ sb.data.toList).1.natAbs=1 then (some (mkRat (parseZ sa.data.toList).1 (parseZ sb.data.toList).1.natAbs),0) else (none,5) by
  rw[HR.out,parseQ,← hcut])
 clear hcut HR
 obtain⟨p,hp⟩:∃ p,p=parseZ sa.data.toList:=⟨_,rfl⟩;have HP:=zz hp
 have HPC:=zz (parseZ_cases sa.data.toList);rw[← hp] at HPC HRR;clear hp
 go_wp2_with fail
 refine((show Calls Tryz.prog _ _ _ _ from HP.out▸Parse_any _ sa HZA.out)).mono ?_
 rintro e w4 ⟨g3,v,rfl,hv⟩
 have B5:=zz g3
 have z5:=B5.out.size
 have i3:=zz (e3.out.trans (B5.out.mono e3.out.size))
 clear g3
 obtain⟨x,e1⟩:=p;replace hv:LV w4 w4.heap.size v x:=hv
 dsimp only at HRR ⊢
 obtain⟨n7,Ad7,l7,c7,rfl,j3⟩:=hv.opened
 have G0:=zz j3
 clear hv j3
 go_upto_region 3 with (fail)
 obtain⟨w8,D0⟩:∃ w8:World,w8=(w4.alloc (.cells #[.bool n7,.slice Ad7 l7 c7] 24)):=⟨_,rfl⟩;rw[← D0]
 have k3:Below w4.heap.size w4 w8:=by rw[D0];(repeat' (first | exact Below.refl _ _ | refine Below.drew ?_ | refine Below.alloc ?_ (by first | exact Nat.le_refl _ | (simp;done) | (simp;omega)) _))
 have l0:CB w8 (w4.heap.size) 24 #[.bool n7,.slice Ad7 l7 c7]:=by rw[D0];have h:=CB.new w4 24 #[.bool n7,.slice Ad7 l7 c7];simpa using h
 have za8:w4.heap.size+1≤w8.heap.size:=by rw[D0];simp
 have B9:=zz k3
 have z9:=B9.out.size
 have n0:=zz (i3.out.trans (B9.out.mono i3.out.size))
 clear k3 D0
 by_cases he1:e1=0
 ·subst he1
  cases k with
  | false=>
   have HV:=zz (show r=(some (mkRat x 1),0) by rw[HRR.out];simp)
   go_upto_region 4 with (fail)
   refine Flow.run [⟨0,27,fun fv fw=>fv=.agg #[.bool n7,.slice Ad7 l7 c7]⟩,⟨1,28,fun fv fw=>LV fw fw.heap.size fv 1⟩,⟨2,29,fun fv fw=>QV fw fw.heap.size fv (mkRat x 1)⟩,⟨3,30,fun fv fw=>fv=.int .i64 0⟩,⟨4,31,fun fv fw=>∃ u,fv=.tuple #[u,.int .i64 0]∧QO fw fw.heap.size u (some (mkRat x 1))⟩,⟨5,32,fun fv fw=>QO fw fw.heap.size fv (some (mkRat x 1))⟩,⟨6,33,fun fv fw=>fv=.int .i64 0⟩] [] [] 2 (by kernel_rfl) (by kernel_rfl) (by kernel_rfl) (fun _ _ _ _ _ h=>h) ?_ ?_ ?_ ?_
   ·refine(a0 (all_cons (fun v w1 w2 h hb=>h.step hb) (all_cons (fun v w1 w2 h hb=>h.step hb) (a0 (all_cons (fun v w1 w2 h hb=>let ⟨u,e,h⟩:=h;⟨u,e,QO.step (o:=(some (mkRat x 1))) h hb⟩) (all_cons (fun v w1 w2 h hb=>QO.step (o:=(some (mkRat x 1))) h hb) (a0 all_nil)))))))
   ·refine(all_cons ?_ (all_cons ?_ (all_cons ?_ (all_cons ?_ (all_cons ?_ (all_cons ?_ (all_cons ?_ all_nil)))))))
    ·intro xs R3 b0 c0
     have Q1:=zz b0;have S3:=b0.size;clear b0
     clear c0
     refine wpOp_step (o:=_) rfl (fun K hK=>?_)
     simp only[FL]
     have I0:=CB.step l0 Q1.out
     have z3:=I0.cell 0 rfl
     have A3:=I0.cell 1 rfl
     go_simp
     refine hK _ _ ⟨.agg #[.bool n7,.slice Ad7 l7 c7],by kernel_rfl,Below.refl _ _,rfl,nF⟩
    ·intro xs T3 b0 c0
     have B3:=zz b0;have U3:=b0.size;clear b0
     clear c0
     refine wpOp_step (o:=_) rfl (fun K hK=>?_)
     simp only[FL]
     go_simp
     (with_reducible refine(Of_any _ 1 (by decide) (by decide)).mono ?_)
     rintro e wc15 ⟨l3,v15,rfl,m3⟩
     refine hK _ _ ⟨v15,by kernel_rfl,l3,m3,nF⟩
    ·intro xs R0 b0 c0
     have R1:=zz b0;have V3:=b0.size;clear b0
     have f0:(xs 0)=.agg #[.bool n7,.slice Ad7 l7 c7]:=c0 _ (m_ 0 rfl) (by kernel_rfl)
     have f1:LV R0 R0.heap.size (xs 1) 1:=c0 _ (m_ 1 rfl) (by kernel_rfl)
     clear c0
     refine wpOp_step (o:=_) rfl (fun K hK=>?_)
     simp only[FL]
     obtain⟨on1,oA1,ol1,oc1,hx1,E0⟩:=LV.opened f1;rw[hx1]
     have P3_5_17:=zz (B9.out.trans (R1.out.mono B9.out.size))
     have S1:=zz (LV.step G0.out P3_5_17.out)
     have HVV:=zz E0;clear E0
     go_simp
     refine hK _ _ ⟨.agg #[.bool n7,.slice Ad7 l7 c7,.bool on1,.slice oA1 ol1 oc1],by simp only[FL,f0,hx1] <;> kernel_rfl,Below.refl _ _,QV.of (d:=1) S1.out HVV.out (by decide) (Nat.gcd_one_right _),nF⟩
    ·intro xs W3 b0 c0
     have C3:=zz b0;have X3:=b0.size;clear b0
     clear c0
     refine wpOp_step (o:=_) rfl (fun K hK=>?_)
     simp only[FL]
     go_simp
     refine hK _ _ ⟨.int .i64 0,by kernel_rfl,Below.refl _ _,rfl,nF⟩
    ·intro xs S0 b0 c0
     have D3:=zz b0;have Y3:=b0.size;clear b0
     have f2:QV S0 S0.heap.size (xs 2) (mkRat x 1):=c0 _ (m_ 2 rfl) (by kernel_rfl)
     have f3:(xs 3)=.int .i64 0:=c0 _ (m_ 3 rfl) (by kernel_rfl)
     clear c0
     refine wpOp_step (o:=_) rfl (fun K hK=>?_)
     simp only[FL]
     obtain⟨qn,qA,ql,qc,qB,qm,qd,hu,ra,rb,rc⟩:=f2;rw[hu];have RC:=zz (And.intro ra (And.intro rb rc));clear ra rb rc
     go_simp
     (with_reducible refine(madeQ_yes _ qn false qA qB ql qc qm qd).mono ?_)
     rintro e wc21 ⟨T0,rfl⟩
     refine hK _ _ ⟨.tuple #[.agg #[.bool qn,.slice qA ql qc,.bool false,.slice qB qm qd],.int .i64 0],by simp only[FL,f3,hu] <;> kernel_rfl,T0,⟨_,rfl,QV.step ⟨_,_,_,_,_,_,_,rfl,RC.out.1,RC.out.2.1,RC.out.2.2⟩ T0⟩,nF⟩
    ·intro xs U0 b0 c0
     have E3:=zz b0;have Z3:=b0.size;clear b0
     have f4:∃ u,(xs 4)=.tuple #[u,.int .i64 0]∧QO U0 U0.heap.size u (some (mkRat x 1)):=c0 _ (m_ 4 rfl) (by kernel_rfl)
     clear c0
     refine wpOp_step (o:=_) rfl (fun K hK=>?_)
     simp only[FL]
     obtain⟨u,hu,hl⟩:=f4;rw[hu]
     go_simp
     refine hK _ _ ⟨u,by simp only[FL,hu] <;> kernel_rfl,Below.refl _ _,hl,nF⟩
    ·intro xs V0 b0 c0
     have F3:=zz b0;have a4:=b0.size;clear b0
     have f4:∃ u,(xs 4)=.tuple #[u,.int .i64 0]∧QO V0 V0.heap.size u (some (mkRat x 1)):=c0 _ (m_ 4 rfl) (by kernel_rfl)
     clear c0
     refine wpOp_step (o:=_) rfl (fun K hK=>?_)
     simp only[FL]
     obtain⟨u,hu,-⟩:=f4;rw[hu]
     go_simp
     refine hK _ _ ⟨.int .i64 0,by simp only[FL,hu] <;> kernel_rfl,Below.refl _ _,rfl,nF⟩
   ·exact all_nil
   ·intro xs wf24 hbf hf hn hd
    have f0:(xs 0)=.agg #[.bool n7,.slice Ad7 l7 c7]:=hf _ (m_ 0 rfl)
    have f1:LV wf24 wf24.heap.size (xs 1) 1:=hf _ (m_ 1 rfl)
    have f2:QV wf24 wf24.heap.size (xs 2) (mkRat x 1):=hf _ (m_ 2 rfl)
    have f3:(xs 3)=.int .i64 0:=hf _ (m_ 3 rfl)
    have f4:∃ u,(xs 4)=.tuple #[u,.int .i64 0]∧QO wf24 wf24.heap.size u (some (mkRat x 1)):=hf _ (m_ 4 rfl)
    have f5:QO wf24 wf24.heap.size (xs 5) (some (mkRat x 1)):=hf _ (m_ 5 rfl)
    have f6:(xs 6)=.int .i64 0:=hf _ (m_ 6 rfl)
    clear hf hn hd
    simp only[FL]
    have B25:=zz hbf
    have z25:=B25.out.size
    have n3:=zz (n0.out.trans (B25.out.mono n0.out.size))
    clear hbf
    generalize xs 0=x0,xs 1=x1,xs 2=x2,xs 3=x3,xs 4=x4,xs 5=x5,xs 6=x6 at *
    obtain rfl:=f0
    clear f1
    clear f2
    obtain rfl:=f3
    clear f4
    have hg27:=f5;obtain⟨on27,oA27,ol27,oc27,oe27,oB27,G3,od27,rfl⟩:=QO.cells hg27;have Q0:=zz hg27;clear hg27
    obtain rfl:=f6
    have P1_3_29:=zz (B2.out.trans (B5.out.mono B2.out.size))
    have P1_4_30:=zz (P1_3_29.out.trans (B9.out.mono P1_3_29.out.size))
    have P1_5_31:=zz (P1_4_30.out.trans (B25.out.mono P1_4_30.out.size))
    have h0:=CB.step Lr2 P1_5_31.out
    have T1:=h0.cell 0 rfl
    have U1:=h0.cell 1 rfl
    have V1:=h0.cell 2 rfl
    have W1:=h0.cell 3 rfl
    have q32_lt:=h0.lt
    have X1:=h0.frozen 0
    have Y1:=h0.frozen 1
    have Z1:=h0.frozen 2
    have a2:=h0.frozen 3
    have q33_lt:=h0.lt
    refine Early.next (i:=7) (by kernel_rfl) rfl (fun K hK=>?_)
    go_simp
    refine hK _ _ (fun _=>trivial) ?_
    clear hK K
    (try simp only[Act.put,List.setIfInBounds_toArray,List.set_cons_zero,List.set_cons_succ])
    clear T1 U1 V1 W1 q32_lt X1 Y1 Z1 a2 q33_lt
    refine Early.next (i:=8) (by kernel_rfl) rfl (fun K hK=>?_)
    go_simp
    refine hK _ _ (fun _=>trivial) ?_
    clear hK K
    (try simp only[Act.put,List.setIfInBounds_toArray,List.set_cons_zero,List.set_cons_succ])
    refine Early.done (by kernel_rfl) ?_ _
    (try simp only[Exit.then])
    go_wp2
    exact QB.fin rfl h0 (by simp[noInt_b,noInt_s]) n3.out (by omega) (by rw[HV.out];exact Q0.out) rfl (by rw[HV.out];rfl)
  | true=>
   obtain⟨p,hp⟩:∃ p,p=parseZ sb.data.toList:=⟨_,rfl⟩;have HP2:=zz hp
   have HPD:=zz (parseZ_cases sb.data.toList);rw[← hp] at HPD HRR;clear hp
   have b2:=l0.cell 0 rfl
   have c2:=l0.cell 1 rfl
   have q35_lt:=l0.lt
   go_wp2_with fail
   refine((show Calls Tryz.prog _ _ _ _ from HP2.out▸Parse_any _ sb HZB.out)).mono ?_
   rintro e w34 ⟨W0,v,rfl,hv⟩
   have B36:=zz W0
   have z36:=B36.out.size
   have X0:=zz (n0.out.trans (B36.out.mono n0.out.size))
   clear W0
   clear b2 c2 q35_lt
   obtain⟨y,e2⟩:=p;replace hv:LV w34 w34.heap.size v y:=hv
   dsimp only at HRR ⊢
   replace HRR:=zz (show r=if e2≠0 then (none,e2) else if 2≤y∧Nat.gcd x.natAbs y.natAbs=1 then (some (mkRat x y.natAbs),0) else (none,5) by rw[HRR.out];simp)
   obtain⟨n38,Ad38,l38,c38,rfl,Y0⟩:=hv.opened
   have d2:=zz Y0
   clear hv Y0
   go_upto_region 6 with (fail)
   obtain⟨w39,q0⟩:∃ w39:World,w39=(w34.alloc (.cells #[.bool n38,.slice Ad38 l38 c38] 24)):=⟨_,rfl⟩;rw[← q0]
   have Z0:Below w34.heap.size w34 w39:=by rw[q0];(repeat' (first | exact Below.refl _ _ | refine Below.drew ?_ | refine Below.alloc ?_ (by first | exact Nat.le_refl _ | (simp;done) | (simp;omega)) _))
   have k0:CB w39 (w34.heap.size) 24 #[.bool n38,.slice Ad38 l38 c38]:=by rw[q0];have h:=CB.new w34 24 #[.bool n38,.slice Ad38 l38 c38];simpa using h
   have za39:w34.heap.size+1≤w39.heap.size:=by rw[q0];simp
   have B40:=zz Z0
   have z40:=B40.out.size
   have o0:=zz (X0.out.trans (B40.out.mono X0.out.size))
   clear Z0 q0
   by_cases he2:e2=0
   ·subst he2
    obtain⟨hxl,hyl,hyt⟩:(dig x.natAbs).length≤600∧(dig y.natAbs).length≤600∧Lib.itoa y=sb.data.toList:=by
     rcases HPC.out with h | ⟨h,-⟩ | ⟨z,h,-,h2⟩
     ·injection h with _ h;cases h
     ·injection h with _ h;cases h
     ·injection h with h _;subst h
      rcases HPD.out with h | ⟨h,-⟩ | ⟨z,h,h3,h4⟩
      ·injection h with _ h;cases h
      ·injection h with _ h;cases h
      ·injection h with h _;subst h;exact⟨h2,h4,h3⟩
    have HXL:=zz hxl;have HYL:=zz hyl;have HYT:=zz hyt;clear hxl hyl hyt
    have P3_5_42:=zz (B9.out.trans (B36.out.mono B9.out.size))
    have P3_6_43:=zz (P3_5_42.out.trans (B40.out.mono P3_5_42.out.size))
    have J0:=zz (LV.step G0.out P3_6_43.out)
    have K0:=zz (LV.step d2.out B40.out)
    have HQR:=zz (QR.of J0.out K0.out)
    by_cases hq:0<y∧Nat.gcd x.natAbs y.natAbs=1
    ·have HQ:=zz hq;have HQO:=zz (show qOf _ _ _ _=some (mkRat x y.natAbs) from(qOf_pair HXL.out HYL.out).trans (if_pos hq));clear hq
     have P4_6_48:=zz (B36.out.trans (B40.out.mono B36.out.size))
     have m0:=CB.step l0 P4_6_48.out
     have g2:=m0.cell 0 rfl
     have i2:=m0.cell 1 rfl
     have q49_lt:=m0.lt
     have j2:=k0.cell 0 rfl
     have k2:=k0.cell 1 rfl
     have q50_lt:=k0.lt
     go_wp2_with fail
     refine((show Calls Tryz.prog _ _ _ _ from(chkQ_some HQO.out)▸QCheck_any _ _ _ _ _ _ HQR.out)).mono ?_
     rintro e w46 ⟨a1,rfl⟩
     have B51:=zz a1
     have z51:=B51.out.size
     have s0:=zz (o0.out.trans (B51.out.mono o0.out.size))
     clear a1
     clear g2 i2 q49_lt j2 k2 q50_lt
     by_cases hy1:y=1
     ·have hone:(sb.toList==[49])=true:=by rw[Lib.toList_data,← HYT.out,hy1,itoa_one];rfl
      have HV:=zz (show r=(none,5) by rw[HRR.out,hy1];simp)
      clear hy1
      have t0:=CB.step m0 B51.out
      have l2:=t0.cell 0 rfl
      have m2:=t0.cell 1 rfl
      have q55_lt:=t0.lt
      have u0:=CB.step k0 B51.out
      have n2:=u0.cell 0 rfl
      have o2:=u0.cell 1 rfl
      have q57_lt:=u0.lt
      go_wp2_with fail
      refine(madeQ_no _ n7 n38 Ad7 Ad38 l7 c7 l38 c38 5 (by decide)).mono ?_
      rintro e w53 ⟨b1,rfl⟩
      have B58:=zz b1
      have z58:=B58.out.size
      have o3:=zz (s0.out.trans (B58.out.mono s0.out.size))
      clear b1
      clear l2 m2 q55_lt n2 o2 q57_lt
      have P1_3_61:=zz (B2.out.trans (B5.out.mono B2.out.size))
      have P1_4_62:=zz (P1_3_61.out.trans (B9.out.mono P1_3_61.out.size))
      have P1_5_63:=zz (P1_4_62.out.trans (B36.out.mono P1_4_62.out.size))
      have P1_6_64:=zz (P1_5_63.out.trans (B40.out.mono P1_5_63.out.size))
      have P1_7_65:=zz (P1_6_64.out.trans (B51.out.mono P1_6_64.out.size))
      have P1_8_66:=zz (P1_7_65.out.trans (B58.out.mono P1_7_65.out.size))
      have i0:=CB.step Lr2 P1_8_66.out
      have p2:=i0.cell 0 rfl
      have q2:=i0.cell 1 rfl
      have r2:=i0.cell 2 rfl
      have s2:=i0.cell 3 rfl
      have q67_lt:=i0.lt
      have t2:=i0.frozen 0
      have u2:=i0.frozen 1
      have v2:=i0.frozen 2
      have y2:=i0.frozen 3
      have q68_lt:=i0.lt
      go_wp2
      clear p2 q2 r2 s2 q67_lt t2 u2 v2 y2 q68_lt
      exact QB.fin rfl i0 (by simp[noInt_b,noInt_s]) o3.out (by omega) (by rw[HV.out];exact zeroQ _ _) rfl (by rw[HV.out];rfl)
     ·have hone:(sb.toList==[49])=false:=by rw[Lib.toList_data,← HYT.out];exact beq_eq_false_iff_ne.2 (fun h=>hy1 (itoa_is_one.1 h))
      have HV:=zz (show r=(some (mkRat x y.natAbs),0) by rw[HRR.out,if_neg (by decide),if_pos ⟨by have:=HQ.out.1;omega,HQ.out.2⟩])
      have HY2:=zz (show y=((y.natAbs:Nat):Int) by have:=HQ.out.1;omega)
      clear hy1
      have v0:=CB.step m0 B51.out
      have A2:=v0.cell 0 rfl
      have C2:=v0.cell 1 rfl
      have q71_lt:=v0.lt
      have y0:=CB.step k0 B51.out
      have D2:=y0.cell 0 rfl
      have E2:=y0.cell 1 rfl
      have q73_lt:=y0.lt
      go_wp2_with fail
      refine(madeQ_yes _ n7 n38 Ad7 Ad38 l7 c7 l38 c38).mono ?_
      rintro e w69 ⟨c1,rfl⟩
      have B74:=zz c1
      have z74:=B74.out.size
      have p3:=zz (s0.out.trans (B74.out.mono s0.out.size))
      clear c1
      clear A2 C2 q71_lt D2 E2 q73_lt
      have P6_8_76:=zz (B51.out.trans (B74.out.mono B51.out.size))
      have F2:=zz (LV.step J0.out P6_8_76.out)
      have G2:=zz (LV.step K0.out P6_8_76.out)
      have HRES:=zz (show QV w69 w69.heap.size (.agg #[.bool n7,.slice Ad7 l7 c7,.bool n38,.slice Ad38 l38 c38]) (mkRat x y.natAbs) from QV.of F2.out (by rw[← HY2.out];exact G2.out) (by have:=HQ.out.1;omega) HQ.out.2)
      have P1_3_80:=zz (B2.out.trans (B5.out.mono B2.out.size))
      have P1_4_81:=zz (P1_3_80.out.trans (B9.out.mono P1_3_80.out.size))
      have P1_5_82:=zz (P1_4_81.out.trans (B36.out.mono P1_4_81.out.size))
      have P1_6_83:=zz (P1_5_82.out.trans (B40.out.mono P1_5_82.out.size))
      have P1_7_84:=zz (P1_6_83.out.trans (B51.out.mono P1_6_83.out.size))
      have P1_8_85:=zz (P1_7_84.out.trans (B74.out.mono P1_7_84.out.size))
      have j0:=CB.step Lr2 P1_8_85.out
      have H2:=j0.cell 0 rfl
      have I2:=j0.cell 1 rfl
      have J2:=j0.cell 2 rfl
      have K2:=j0.cell 3 rfl
      have q86_lt:=j0.lt
      have L2:=j0.frozen 0
      have M2:=j0.frozen 1
      have N2:=j0.frozen 2
      have O2:=j0.frozen 3
      have q87_lt:=j0.lt
      go_wp2
      clear H2 I2 J2 K2 q86_lt L2 M2 N2 O2 q87_lt
      exact QB.fin rfl j0 (by simp[noInt_b,noInt_s]) p3.out (by omega) (by rw[HV.out];exact HRES.out) rfl (by rw[HV.out];rfl)
    ·have HQO:=zz (show qOf _ _ _ _=none from(qOf_pair HXL.out HYL.out).trans (if_neg hq));have HV:=zz (show r=(none,5) by rw[HRR.out,if_neg (by decide),if_neg (fun h=>hq ⟨by omega,h.2⟩)]);clear hq
     have P4_6_90:=zz (B36.out.trans (B40.out.mono B36.out.size))
     have p0:=CB.step l0 P4_6_90.out
     have P2:=p0.cell 0 rfl
     have Q2:=p0.cell 1 rfl
     have q91_lt:=p0.lt
     have R2:=k0.cell 0 rfl
     have S2:=k0.cell 1 rfl
     have q92_lt:=k0.lt
     go_wp2_with fail
     refine(QCheck_no HQR.out HQO.out).mono ?_
     rintro e w88 ⟨d1,rfl⟩
     have B93:=zz d1
     have z93:=B93.out.size
     have g1:=zz (o0.out.trans (B93.out.mono o0.out.size))
     clear d1
     clear P2 Q2 q91_lt R2 S2 q92_lt
     have A0:=CB.step p0 B93.out
     have T2:=A0.cell 0 rfl
     have U2:=A0.cell 1 rfl
     have q97_lt:=A0.lt
     have C0:=CB.step k0 B93.out
     have V2:=C0.cell 0 rfl
     have W2:=C0.cell 1 rfl
     have q99_lt:=C0.lt
     go_wp2_with fail
     refine(madeQ_no _ n7 n38 Ad7 Ad38 l7 c7 l38 c38 5 (by decide)).mono ?_
     rintro e w95 ⟨i1,rfl⟩
     have B100:=zz i1
     have z100:=B100.out.size
     have X2:=zz (g1.out.trans (B100.out.mono g1.out.size))
     clear i1
     clear T2 U2 q97_lt V2 W2 q99_lt
     have P1_3_103:=zz (B2.out.trans (B5.out.mono B2.out.size))
     have P1_4_104:=zz (P1_3_103.out.trans (B9.out.mono P1_3_103.out.size))
     have P1_5_105:=zz (P1_4_104.out.trans (B36.out.mono P1_4_104.out.size))
     have P1_6_106:=zz (P1_5_105.out.trans (B40.out.mono P1_5_105.out.size))
     have P1_7_107:=zz (P1_6_106.out.trans (B93.out.mono P1_6_106.out.size))
     have P1_8_108:=zz (P1_7_107.out.trans (B100.out.mono P1_7_107.out.size))
     have d0:=CB.step Lr2 P1_8_108.out
     have j1:=d0.cell 0 rfl
     have k1:=d0.cell 1 rfl
     have l1:=d0.cell 2 rfl
     have m1:=d0.cell 3 rfl
     have q109_lt:=d0.lt
     have n1:=d0.frozen 0
     have o1:=d0.frozen 1
     have p1:=d0.frozen 2
     have q1:=d0.frozen 3
     have q110_lt:=d0.lt
     go_wp2
     clear j1 k1 l1 m1 q109_lt n1 o1 p1 q1 q110_lt
     exact QB.fin rfl d0 (by simp[noInt_b,noInt_s]) X2.out (by omega) (by rw[HV.out];exact zeroQ _ _) rfl (by rw[HV.out];rfl)
   ·have HE:=zz he2;have hez:(e2==0)=false:=by rw[beq_eq_false_iff_ne];exact he2
    have HV:=zz (show r=(none,e2) by rw[HRR.out,if_pos he2]);clear he2
    have P4_6_113:=zz (B36.out.trans (B40.out.mono B36.out.size))
    have r0:=CB.step l0 P4_6_113.out
    have r1:=r0.cell 0 rfl
    have s1:=r0.cell 1 rfl
    have q114_lt:=r0.lt
    have t1:=k0.cell 0 rfl
    have u1:=k0.cell 1 rfl
    have q115_lt:=k0.lt
    go_wp2_with fail
    refine(madeQ_no _ n7 n38 Ad7 Ad38 l7 c7 l38 c38 e2 HE.out).mono ?_
    rintro e w111 ⟨L0,rfl⟩
    have B116:=zz L0
    have z116:=B116.out.size
    have Y2:=zz (o0.out.trans (B116.out.mono o0.out.size))
    clear L0
    clear r1 s1 q114_lt t1 u1 q115_lt
    have P1_3_119:=zz (B2.out.trans (B5.out.mono B2.out.size))
    have P1_4_120:=zz (P1_3_119.out.trans (B9.out.mono P1_3_119.out.size))
    have P1_5_121:=zz (P1_4_120.out.trans (B36.out.mono P1_4_120.out.size))
    have P1_6_122:=zz (P1_5_121.out.trans (B40.out.mono P1_5_121.out.size))
    have P1_7_123:=zz (P1_6_122.out.trans (B116.out.mono P1_6_122.out.size))
    have e0:=CB.step Lr2 P1_7_123.out
    have v1:=e0.cell 0 rfl
    have y1:=e0.cell 1 rfl
    have z1:=e0.cell 2 rfl
    have A1:=e0.cell 3 rfl
    have q124_lt:=e0.lt
    have B1:=e0.frozen 0
    have C1:=e0.frozen 1
    have D1:=e0.frozen 2
    have E1:=e0.frozen 3
    have q125_lt:=e0.lt
    go_wp2
    clear v1 y1 z1 A1 q124_lt B1 C1 D1 E1 q125_lt
    exact QB.fin rfl e0 (by simp[noInt_b,noInt_s]) Y2.out (by omega) (by rw[HV.out];exact zeroQ _ _) rfl (by rw[HV.out];rfl)
 ·have HE:=zz he1;have hez:(e1==0)=false:=by rw[beq_eq_false_iff_ne];exact he1
  have HV:=zz (show r=(none,e1) by rw[HRR.out,if_pos he1]);clear he1
  go_upto_region 4 with (fail)
  refine Flow.run [⟨0,27,fun fv fw=>fv=.agg #[.bool n7,.slice Ad7 l7 c7]⟩,⟨1,28,fun fv fw=>LV fw fw.heap.size fv 1⟩,⟨2,29,fun fv fw=>QV fw fw.heap.size fv (mkRat x 1)⟩,⟨3,30,fun fv fw=>fv=.int .i64 e1⟩,⟨4,31,fun fv fw=>∃ u,fv=.tuple #[u,.int .i64 e1]∧QO fw fw.heap.size u none⟩,⟨5,32,fun fv fw=>QO fw fw.heap.size fv none⟩,⟨6,33,fun fv fw=>fv=.int .i64 e1⟩] [] [] 2 (by kernel_rfl) (by kernel_rfl) (by kernel_rfl) (fun _ _ _ _ _ h=>h) ?_ ?_ ?_ ?_
  ·refine(a0 (all_cons (fun v w1 w2 h hb=>h.step hb) (all_cons (fun v w1 w2 h hb=>h.step hb) (a0 (all_cons (fun v w1 w2 h hb=>let ⟨u,e,h⟩:=h;⟨u,e,QO.step (o:=none) h hb⟩) (all_cons (fun v w1 w2 h hb=>QO.step (o:=none) h hb) (a0 all_nil)))))))
  ·refine(all_cons ?_ (all_cons ?_ (all_cons ?_ (all_cons ?_ (all_cons ?_ (all_cons ?_ (all_cons ?_ all_nil)))))))
   ·intro xs H3 b0 c0
    have F1:=zz b0;have I3:=b0.size;clear b0
    clear c0
    refine wpOp_step (o:=_) rfl (fun K hK=>?_)
    simp only[FL]
    have F0:=CB.step l0 F1.out
    have q3:=F0.cell 0 rfl
    have r3:=F0.cell 1 rfl
    go_simp
    refine hK _ _ ⟨.agg #[.bool n7,.slice Ad7 l7 c7],by kernel_rfl,Below.refl _ _,rfl,nF⟩
   ·intro xs J3 b0 c0
    have s3:=zz b0;have K3:=b0.size;clear b0
    clear c0
    refine wpOp_step (o:=_) rfl (fun K hK=>?_)
    simp only[FL]
    go_simp
    (with_reducible refine(Of_any _ 1 (by decide) (by decide)).mono ?_)
    rintro e wc130 ⟨Z2,v130,rfl,a3⟩
    refine hK _ _ ⟨v130,by kernel_rfl,Z2,a3,nF⟩
   ·intro xs M0 b0 c0
    have G1:=zz b0;have L3:=b0.size;clear b0
    have f0:(xs 0)=.agg #[.bool n7,.slice Ad7 l7 c7]:=c0 _ (m_ 0 rfl) (by kernel_rfl)
    have f1:LV M0 M0.heap.size (xs 1) 1:=c0 _ (m_ 1 rfl) (by kernel_rfl)
    clear c0
    refine wpOp_step (o:=_) rfl (fun K hK=>?_)
    simp only[FL]
    obtain⟨on1,oA1,ol1,oc1,hx1,E0⟩:=LV.opened f1;rw[hx1]
    have P3_5_132:=zz (B9.out.trans (G1.out.mono B9.out.size))
    have H1:=zz (LV.step G0.out P3_5_132.out)
    have HVV:=zz E0;clear E0
    go_simp
    refine hK _ _ ⟨.agg #[.bool n7,.slice Ad7 l7 c7,.bool on1,.slice oA1 ol1 oc1],by simp only[FL,f0,hx1] <;> kernel_rfl,Below.refl _ _,QV.of (d:=1) H1.out HVV.out (by decide) (Nat.gcd_one_right _),nF⟩
   ·intro xs M3 b0 c0
    have t3:=zz b0;have N3:=b0.size;clear b0
    clear c0
    refine wpOp_step (o:=_) rfl (fun K hK=>?_)
    simp only[FL]
    go_simp
    refine hK _ _ ⟨.int .i64 e1,by kernel_rfl,Below.refl _ _,rfl,nF⟩
   ·intro xs N0 b0 c0
    have u3:=zz b0;have O3:=b0.size;clear b0
    have f2:QV N0 N0.heap.size (xs 2) (mkRat x 1):=c0 _ (m_ 2 rfl) (by kernel_rfl)
    have f3:(xs 3)=.int .i64 e1:=c0 _ (m_ 3 rfl) (by kernel_rfl)
    clear c0
    refine wpOp_step (o:=_) rfl (fun K hK=>?_)
    simp only[FL]
    obtain⟨qn,qA,ql,qc,qB,qm,qd,hu,ra,rb,rc⟩:=f2;rw[hu];have RC:=zz (And.intro ra (And.intro rb rc));clear ra rb rc
    go_simp
    (with_reducible refine(madeQ_no _ qn false qA qB ql qc qm qd e1 HE.out).mono ?_)
    rintro e wc136 ⟨b3,rfl⟩
    refine hK _ _ ⟨.tuple #[.agg #[.bool false,.slice none 0 0,.bool false,.slice none 0 0],.int .i64 e1],by simp only[FL,f3,hu] <;> kernel_rfl,b3,⟨_,rfl,zeroQ _ _⟩,nF⟩
   ·intro xs O0 b0 c0
    have v3:=zz b0;have P3:=b0.size;clear b0
    have f4:∃ u,(xs 4)=.tuple #[u,.int .i64 e1]∧QO O0 O0.heap.size u none:=c0 _ (m_ 4 rfl) (by kernel_rfl)
    clear c0
    refine wpOp_step (o:=_) rfl (fun K hK=>?_)
    simp only[FL]
    obtain⟨u,hu,hl⟩:=f4;rw[hu]
    go_simp
    refine hK _ _ ⟨u,by simp only[FL,hu] <;> kernel_rfl,Below.refl _ _,hl,nF⟩
   ·intro xs P0 b0 c0
    have w3:=zz b0;have Q3:=b0.size;clear b0
    have f4:∃ u,(xs 4)=.tuple #[u,.int .i64 e1]∧QO P0 P0.heap.size u none:=c0 _ (m_ 4 rfl) (by kernel_rfl)
    clear c0
    refine wpOp_step (o:=_) rfl (fun K hK=>?_)
    simp only[FL]
    obtain⟨u,hu,-⟩:=f4;rw[hu]
    go_simp
    refine hK _ _ ⟨.int .i64 e1,by simp only[FL,hu] <;> kernel_rfl,Below.refl _ _,rfl,nF⟩
  ·exact all_nil
  ·intro xs wf139 hbf hf hn hd
   have f0:(xs 0)=.agg #[.bool n7,.slice Ad7 l7 c7]:=hf _ (m_ 0 rfl)
   have f1:LV wf139 wf139.heap.size (xs 1) 1:=hf _ (m_ 1 rfl)
   have f2:QV wf139 wf139.heap.size (xs 2) (mkRat x 1):=hf _ (m_ 2 rfl)
   have f3:(xs 3)=.int .i64 e1:=hf _ (m_ 3 rfl)
   have f4:∃ u,(xs 4)=.tuple #[u,.int .i64 e1]∧QO wf139 wf139.heap.size u none:=hf _ (m_ 4 rfl)
   have f5:QO wf139 wf139.heap.size (xs 5) none:=hf _ (m_ 5 rfl)
   have f6:(xs 6)=.int .i64 e1:=hf _ (m_ 6 rfl)
   clear hf hn hd
   simp only[FL]
   have B140:=zz hbf
   have z140:=B140.out.size
   have c3:=zz (n0.out.trans (B140.out.mono n0.out.size))
   clear hbf
   generalize xs 0=x0,xs 1=x1,xs 2=x2,xs 3=x3,xs 4=x4,xs 5=x5,xs 6=x6 at *
   obtain rfl:=f0
   clear f1
   clear f2
   obtain rfl:=f3
   clear f4
   have hg142:=f5;obtain⟨on142,oA142,ol142,oc142,oe142,oB142,y3,od142,rfl⟩:=QO.cells hg142;have H0:=zz hg142;clear hg142
   obtain rfl:=f6
   have P1_3_144:=zz (B2.out.trans (B5.out.mono B2.out.size))
   have P1_4_145:=zz (P1_3_144.out.trans (B9.out.mono P1_3_144.out.size))
   have P1_5_146:=zz (P1_4_145.out.trans (B140.out.mono P1_4_145.out.size))
   have g0:=CB.step Lr2 P1_5_146.out
   have I1:=g0.cell 0 rfl
   have J1:=g0.cell 1 rfl
   have K1:=g0.cell 2 rfl
   have L1:=g0.cell 3 rfl
   have q147_lt:=g0.lt
   have M1:=g0.frozen 0
   have N1:=g0.frozen 1
   have O1:=g0.frozen 2
   have P1:=g0.frozen 3
   have q148_lt:=g0.lt
   refine Early.next (i:=7) (by kernel_rfl) rfl (fun K hK=>?_)
   go_simp
   refine hK _ _ (fun _=>trivial) ?_
   clear hK K
   (try simp only[Act.put,List.setIfInBounds_toArray,List.set_cons_zero,List.set_cons_succ])
   clear I1 J1 K1 L1 q147_lt M1 N1 O1 P1 q148_lt
   refine Early.next (i:=8) (by kernel_rfl) rfl (fun K hK=>?_)
   go_simp
   refine hK _ _ (fun _=>trivial) ?_
   clear hK K
   (try simp only[Act.put,List.setIfInBounds_toArray,List.set_cons_zero,List.set_cons_succ])
   refine Early.done (by kernel_rfl) ?_ _
   (try simp only[Exit.then])
   go_wp2
   exact QB.fin rfl g0 (by simp[noInt_b,noInt_s]) c3.out (by omega) (by rw[HV.out];exact H0.out) rfl (by rw[HV.out];rfl)
end Go.Proofs.YtioclokmbgmamaaGreatDoor
