/- Layer 04's reference: Text, Parse (written by gen_qtx.py). -/
import Derived.Test.YtioclokmbgmamaaGreatDoorU
import Derived.Test.YtioclokmbgmamaaGreatDoorQT
import Derived.Test.YtioclokmbgmamaaGreatDoorQN
import Derived.Test.YtioclokmbgmamaaGreatDoorRefc
namespace Go.Proofs.YtioclokmbgmamaaGreatDoor
open Go Go.RowKit Dig
theorem rest_bytes (s:ByteArray) (i:Nat) (h:i<s.size):s.data.toList=(s.extract 0 i).data.toList++s[i] :: (s.extract (i+1) s.size).data.toList:=by
 have h1:(s.extract 0 i).data.toList=s.data.toList.take i:=by simp
 have h2:(s.extract (i+1) s.size).data.toList=s.data.toList.drop (i+1):=by rw[Lib.extract_to_end]
 rw[h1,h2];have hl:i<s.data.toList.length:=by simpa using h
 conv=>lhs;rw[← List.take_append_drop i s.data.toList,List.drop_eq_getElem_cons hl]
 congr 1
theorem cmpZ_lt' {a b:Int} (h:a<b):(cmpZ a b).1=-1:=if_pos h
theorem cmpZ_ge' {a b:Int} (h:¬ a<b):¬ (cmpZ a b).1<0:=by show ¬ (if a<b then (-1:Int) else if a=b then 0 else 1)<0;rw[if_neg h];split <;> decide
set_option maxRecDepth 100000 in
set_option maxHeartbeats 4000000 in
theorem RTextQ_any (w:World) (va:Value) (n m:Bool) (a b:List Int) (ha:QR w w.heap.size va n a m b) :
  Calls Tryz.prog 30 #[va] w fun e w'=>Below w.heap.size w w'∧RetT (qOf n a m b) e:=by
 obtain⟨A,l,c,A',l',c',rfl,ha⟩:=RI.of ha;have HA:=zz ha;clear ha;obtain⟨w0,hw0⟩:∃ w0:World,w0=(w.alloc (.cells #[.bool n,.slice A l c,.bool m,.slice A' l' c'] 26)):=⟨_,rfl⟩;have B0:=zz (n1_b hw0);have z0:=n1_z hw0;have La:=n1_0 hw0;replace HA:=zz (QR.step HA.out B0.out);rcases h1:qOf n a m b with _ | q
 ·have E1:=zz h1;clear h1;go_enter Tryz.func30,Tryz.ntmps30
  go_upto_region 1 with (fail)
  rw[← hw0];clear hw0;have M0:=La.cell 0 rfl;have N0:=La.cell 1 rfl;have O0:=La.cell 2 rfl;have P0:=La.cell 3 rfl;have p2:=La.lt;go_wp2_with fail
  refine(RRightQ_no HA.out E1.out).mono ?_;rintro e w1 ⟨K0,rfl⟩;have B3:=zz K0;have z3:=B3.out.size;have g1:=zz (B0.out.trans (B3.out.mono B0.out.size));clear K0;clear M0 N0 O0 P0 p2;go_wp2;go_ret2;exact⟨g1.out,rfl⟩
 ·have E1:=zz h1;clear h1;go_enter Tryz.func30,Tryz.ntmps30
  go_upto_region 1 with (fail)
  rw[← hw0];clear hw0;have Q0:=La.cell 0 rfl;have R0:=La.cell 1 rfl;have S0:=La.cell 2 rfl;have T0:=La.cell 3 rfl;have q2:=La.lt;go_wp2_with fail
  refine(RRightQ_yes HA.out E1.out).mono ?_;rintro e w5 ⟨L0,rfl⟩;have B7:=zz L0;have z7:=B7.out.size;have e0:=zz (B0.out.trans (B7.out.mono B0.out.size));clear L0;clear Q0 R0 S0 T0 q2;have U0:=zz (QR.step HA.out B7.out);have r2:=zz (QR.valid U0.out E1.out);have HV:=zz (show QV _ _ _ q∧(dig q.num.natAbs).length≤600∧(dig q.den).length≤600 from r2.out);clear r2;have HN:=zz (QV.fst HV.out.1);have HD:=zz (QV.snd HV.out.1);by_cases hden:q.den=1
  ·have i2:=zz hden;have k2:=zz (show decide ((q.den:Int)=1)=true from decide_eq_true (by omega));clear hden;go_upto_region 3 with (fail)
   refine Flow.run [⟨0,7,fun fv fw=>fv=.pointer (some ⟨w.heap.size,2,none⟩)⟩,⟨1,8,fun fv fw=>fv=.agg #[.bool m,.slice A' l' c']⟩,⟨2,9,fun fv fw=>LV fw fw.heap.size fv 1⟩,⟨3,10,fun fv fw=>fv=.bool true⟩] [] [] 0 (by kernel_rfl) (by kernel_rfl) (by kernel_rfl) (fun _ _ _ _ _ h=>h) ?_ ?_ ?_ ?_
   ·refine(a0 (a0 (all_cons (fun v w1 w2 h hb=>h.step hb) (a0 all_nil))))
   ·refine(all_cons ?_ (all_cons ?_ (all_cons ?_ (all_cons ?_ all_nil))))
    ·intro xs A1 b0 c0;clear b0;clear c0;refine wpOp_step (o:=_) rfl (fun K hK=>?_);simp only[FL]
     go_simp;refine hK _ _ ⟨.pointer (some ⟨w.heap.size,2,none⟩),by kernel_rfl,Below.refl _ _,rfl,nF⟩
    ·intro xs C1 b0 c0;have p0:=zz b0;have D1:=b0.size;clear b0;have f0:(xs 0)=.pointer (some ⟨w.heap.size,2,none⟩):=c0 _ (m_ 0 rfl) (by kernel_rfl);clear c0;refine wpOp_step (o:=_) rfl (fun K hK=>?_);simp only[FL]
     have P1_3_13:=zz (B7.out.trans (p0.out.mono B7.out.size));have g0:=CB.step La P1_3_13.out;have j1:=g0.cell 2 rfl;have k1:=g0.cell 3 rfl;go_simp;refine hK _ _ ⟨.agg #[.bool m,.slice A' l' c'],by simp only[FL,f0] <;> kernel_rfl,Below.refl _ _,rfl,nF⟩
    ·intro xs F1 b0 c0;clear b0;clear c0;refine wpOp_step (o:=_) rfl (fun K hK=>?_);simp only[FL]
     go_simp;(with_reducible refine(ROf_any _ 1 (by decide) (by decide)).mono ?_)
     rintro e wc16 ⟨V0,v16,rfl,W0⟩;refine hK _ _ ⟨v16,by kernel_rfl,V0,W0,nF⟩
    ·intro xs k0 b0 c0;have q0:=zz b0;have H1:=b0.size;clear b0;have f1:(xs 1)=.agg #[.bool m,.slice A' l' c']:=c0 _ (m_ 1 rfl) (by kernel_rfl);have f2:LV k0 k0.heap.size (xs 2) 1:=c0 _ (m_ 2 rfl) (by kernel_rfl);clear c0;refine wpOp_step (o:=_) rfl (fun K hK=>?_);simp only[FL]
     go_simp;have r0:=zz (LV.step HD.out q0.out);(with_reducible refine((show Calls Tryz.prog _ _ _ _ from k2.out▸SameR_num r0.out f2)).mono ?_)
     rintro e wc19 ⟨X0,rfl⟩;refine hK _ _ ⟨.bool true,by simp only[FL,f1] <;> kernel_rfl,X0,rfl,nF⟩
   ·exact all_nil
   ·intro xs l2 hbf hf hn hd;have f0:(xs 0)=.pointer (some ⟨w.heap.size,2,none⟩):=hf _ (m_ 0 rfl);have f1:(xs 1)=.agg #[.bool m,.slice A' l' c']:=hf _ (m_ 1 rfl);have f2:LV l2 l2.heap.size (xs 2) 1:=hf _ (m_ 2 rfl);have f3:(xs 3)=.bool true:=hf _ (m_ 3 rfl);clear hf hn hd;simp only[FL]
    have B21:=zz hbf;have z21:=B21.out.size;have l0:=zz (e0.out.trans (B21.out.mono e0.out.size));clear hbf;generalize xs 0=x0,xs 1=x1,xs 2=x2,xs 3=x3 at *
    obtain rfl:=f0;obtain rfl:=f1;clear f2;obtain rfl:=f3;refine Early.done (by kernel_rfl) ?_ _;(try simp only[Exit.then])
    have P1_3_25:=zz (B7.out.trans (B21.out.mono B7.out.size));have d0:=CB.step La P1_3_25.out;have s0:=d0.cell 0 rfl;have t0:=d0.cell 1 rfl;have u0:=d0.cell 2 rfl;have v0:=d0.cell 3 rfl;have m2:=d0.lt;go_wp2_with fail
    have y0:=zz (LV.step HN.out B21.out);refine(RDecimal_any _ _ q.num y0.out (Nat.le_trans HV.out.2.1 (by decide))).mono ?_;rintro e w23 ⟨m0,s,rfl,hs⟩;have B28:=zz m0;have z28:=B28.out.size;have Y0:=zz (l0.out.trans (B28.out.mono l0.out.size));clear m0;clear s0 t0 u0 v0 m2;have HS:=zz hs;clear hs;go_wp2;go_ret2;exact⟨Y0.out,s,rfl,by rw[HS.out,textQ,if_pos i2.out]⟩
  ·have i2:=zz hden;have k2:=zz (show decide ((q.den:Int)=1)=false from decide_eq_false (by omega));clear hden;go_upto_region 3 with (fail)
   refine Flow.run [⟨0,7,fun fv fw=>fv=.pointer (some ⟨w.heap.size,2,none⟩)⟩,⟨1,8,fun fv fw=>fv=.agg #[.bool m,.slice A' l' c']⟩,⟨2,9,fun fv fw=>LV fw fw.heap.size fv 1⟩,⟨3,10,fun fv fw=>fv=.bool false⟩] [] [] 0 (by kernel_rfl) (by kernel_rfl) (by kernel_rfl) (fun _ _ _ _ _ h=>h) ?_ ?_ ?_ ?_
   ·refine(a0 (a0 (all_cons (fun v w1 w2 h hb=>h.step hb) (a0 all_nil))))
   ·refine(all_cons ?_ (all_cons ?_ (all_cons ?_ (all_cons ?_ all_nil))))
    ·intro xs I1 b0 c0;clear b0;clear c0;refine wpOp_step (o:=_) rfl (fun K hK=>?_);simp only[FL]
     go_simp;refine hK _ _ ⟨.pointer (some ⟨w.heap.size,2,none⟩),by kernel_rfl,Below.refl _ _,rfl,nF⟩
    ·intro xs K1 b0 c0;have A0:=zz b0;have L1:=b0.size;clear b0;have f0:(xs 0)=.pointer (some ⟨w.heap.size,2,none⟩):=c0 _ (m_ 0 rfl) (by kernel_rfl);clear c0;refine wpOp_step (o:=_) rfl (fun K hK=>?_);simp only[FL]
     have P1_3_33:=zz (B7.out.trans (A0.out.mono B7.out.size));have h0:=CB.step La P1_3_33.out;have n1:=h0.cell 2 rfl;have o1:=h0.cell 3 rfl;go_simp;refine hK _ _ ⟨.agg #[.bool m,.slice A' l' c'],by simp only[FL,f0] <;> kernel_rfl,Below.refl _ _,rfl,nF⟩
    ·intro xs M1 b0 c0;clear b0;clear c0;refine wpOp_step (o:=_) rfl (fun K hK=>?_);simp only[FL]
     go_simp;(with_reducible refine(ROf_any _ 1 (by decide) (by decide)).mono ?_)
     rintro e wc36 ⟨Z0,v36,rfl,a1⟩;refine hK _ _ ⟨v36,by kernel_rfl,Z0,a1,nF⟩
    ·intro xs n0 b0 c0;have C0:=zz b0;have O1:=b0.size;clear b0;have f1:(xs 1)=.agg #[.bool m,.slice A' l' c']:=c0 _ (m_ 1 rfl) (by kernel_rfl);have f2:LV n0 n0.heap.size (xs 2) 1:=c0 _ (m_ 2 rfl) (by kernel_rfl);clear c0;refine wpOp_step (o:=_) rfl (fun K hK=>?_);simp only[FL]
     go_simp;have D0:=zz (LV.step HD.out C0.out);(with_reducible refine((show Calls Tryz.prog _ _ _ _ from k2.out▸SameR_num D0.out f2)).mono ?_)
     rintro e wc39 ⟨b1,rfl⟩;refine hK _ _ ⟨.bool false,by simp only[FL,f1] <;> kernel_rfl,b1,rfl,nF⟩
   ·exact all_nil
   ·intro xs n2 hbf hf hn hd;have f0:(xs 0)=.pointer (some ⟨w.heap.size,2,none⟩):=hf _ (m_ 0 rfl);have f1:(xs 1)=.agg #[.bool m,.slice A' l' c']:=hf _ (m_ 1 rfl);have f2:LV n2 n2.heap.size (xs 2) 1:=hf _ (m_ 2 rfl);have f3:(xs 3)=.bool false:=hf _ (m_ 3 rfl);clear hf hn hd;simp only[FL]
    have B41:=zz hbf;have z41:=B41.out.size;have o0:=zz (e0.out.trans (B41.out.mono e0.out.size));clear hbf;generalize xs 0=x0,xs 1=x1,xs 2=x2,xs 3=x3 at *
    obtain rfl:=f0;obtain rfl:=f1;clear f2;obtain rfl:=f3;refine Early.done (by kernel_rfl) ?_ _;(try simp only[Exit.then])
    go_upto_region 5 with (fail)
    refine Flow.run [⟨0,14,fun fv fw=>fv=.pointer (some ⟨w.heap.size,0,none⟩)⟩,⟨1,15,fun fv fw=>fv=.agg #[.bool n,.slice A l c]⟩,⟨2,16,fun fv fw=>∃ s:ByteArray,fv=.string s∧s.data.toList=Lib.itoa q.num⟩,⟨3,17,fun fv fw=>∃ s:ByteArray,fv=.string s∧s.data.toList=Lib.itoa q.num++[47]⟩,⟨4,18,fun fv fw=>fv=.pointer (some ⟨w.heap.size,2,none⟩)⟩,⟨5,19,fun fv fw=>fv=.agg #[.bool m,.slice A' l' c']⟩,⟨6,20,fun fv fw=>∃ s:ByteArray,fv=.string s∧s.data.toList=Lib.itoa (q.den:Int)⟩,⟨7,21,fun fv fw=>∃ s:ByteArray,fv=.string s∧s.data.toList=textQ q⟩] [] [] 2 (by kernel_rfl) (by kernel_rfl) (by kernel_rfl) (fun _ _ _ _ _ h=>h) ?_ ?_ ?_ ?_
    ·refine(a0 (a0 (a0 (a0 (a0 (a0 (a0 (a0 all_nil))))))))
    ·refine(all_cons ?_ (all_cons ?_ (all_cons ?_ (all_cons ?_ (all_cons ?_ (all_cons ?_ (all_cons ?_ (all_cons ?_ all_nil))))))))
     ·intro xs P1 b0 c0;have q1:=zz b0;have Q1:=b0.size;clear b0;clear c0;refine wpOp_step (o:=_) rfl (fun K hK=>?_);simp only[FL]
      go_simp;refine hK _ _ ⟨.pointer (some ⟨w.heap.size,0,none⟩),by kernel_rfl,Below.refl _ _,rfl,nF⟩
     ·intro xs R1 b0 c0;have E0:=zz b0;have S1:=b0.size;clear b0;have f0:(xs 0)=.pointer (some ⟨w.heap.size,0,none⟩):=c0 _ (m_ 0 rfl) (by kernel_rfl);clear c0;refine wpOp_step (o:=_) rfl (fun K hK=>?_);simp only[FL]
      have P1_3_46:=zz (B7.out.trans (B41.out.mono B7.out.size));have P1_4_47:=zz (P1_3_46.out.trans (E0.out.mono P1_3_46.out.size));have i0:=CB.step La P1_4_47.out;have r1:=i0.cell 0 rfl;have s1:=i0.cell 1 rfl;go_simp;refine hK _ _ ⟨.agg #[.bool n,.slice A l c],by simp only[FL,f0] <;> kernel_rfl,Below.refl _ _,rfl,nF⟩
     ·intro xs T1 b0 c0;have F0:=zz b0;have U1:=b0.size;clear b0;have f1:(xs 1)=.agg #[.bool n,.slice A l c]:=c0 _ (m_ 1 rfl) (by kernel_rfl);clear c0;refine wpOp_step (o:=_) rfl (fun K hK=>?_);simp only[FL]
      go_simp;have P2_4_50:=zz (B41.out.trans (F0.out.mono B41.out.size));have G0:=zz (LV.step HN.out P2_4_50.out);(with_reducible refine(RDecimal_any _ _ q.num G0.out (Nat.le_trans HV.out.2.1 (by decide))).mono ?_)
      rintro e wc52 ⟨c1,s52,rfl,hs52⟩;refine hK _ _ ⟨.string s52,by simp only[FL,f1] <;> kernel_rfl,c1,⟨s52,rfl,hs52⟩,nF⟩
     ·intro xs V1 b0 c0;have t1:=zz b0;have W1:=b0.size;clear b0;have f2:∃ s:ByteArray,(xs 2)=.string s∧s.data.toList=Lib.itoa q.num:=c0 _ (m_ 2 rfl) (by kernel_rfl);clear c0;refine wpOp_step (o:=_) rfl (fun K hK=>?_);simp only[FL]
      obtain⟨s,hs,hl⟩:=f2;rw[hs];have hc1:¬ 9223372036854775807<s.size+1:=by rw[Lib.size_eq,hl];have:=itoa_len HV.out.2.1;omega
      have o2:=zz hl;clear hl;go_simp;refine hK _ _ ⟨.string (s++⟨#[47]⟩),by simp only[FL,hs] <;> kernel_rfl,Below.refl _ _,⟨_,rfl,by rw[ByteArray.data_append,Array.toList_append,o2.out]⟩,nF⟩
     ·intro xs X1 b0 c0;have u1:=zz b0;have Y1:=b0.size;clear b0;clear c0;refine wpOp_step (o:=_) rfl (fun K hK=>?_);simp only[FL]
      go_simp;refine hK _ _ ⟨.pointer (some ⟨w.heap.size,2,none⟩),by kernel_rfl,Below.refl _ _,rfl,nF⟩
     ·intro xs Z1 b0 c0;have H0:=zz b0;have a2:=b0.size;clear b0;have f4:(xs 4)=.pointer (some ⟨w.heap.size,2,none⟩):=c0 _ (m_ 4 rfl) (by kernel_rfl);clear c0;refine wpOp_step (o:=_) rfl (fun K hK=>?_);simp only[FL]
      have P1_3_57:=zz (B7.out.trans (B41.out.mono B7.out.size));have P1_4_58:=zz (P1_3_57.out.trans (H0.out.mono P1_3_57.out.size));have j0:=CB.step La P1_4_58.out;have v1:=j0.cell 2 rfl;have y1:=j0.cell 3 rfl;go_simp;refine hK _ _ ⟨.agg #[.bool m,.slice A' l' c'],by simp only[FL,f4] <;> kernel_rfl,Below.refl _ _,rfl,nF⟩
     ·intro xs b2 b0 c0;have I0:=zz b0;have c2:=b0.size;clear b0;have f5:(xs 5)=.agg #[.bool m,.slice A' l' c']:=c0 _ (m_ 5 rfl) (by kernel_rfl);clear c0;refine wpOp_step (o:=_) rfl (fun K hK=>?_);simp only[FL]
      go_simp;have P2_4_61:=zz (B41.out.trans (I0.out.mono B41.out.size));have J0:=zz (LV.step HD.out P2_4_61.out);(with_reducible refine(RDecimal_any _ _ (q.den:Int) J0.out (by rw[Int.natAbs_natCast];exact Nat.le_trans HV.out.2.2 (by decide))).mono ?_)
      rintro e wc63 ⟨d1,s63,rfl,hs63⟩;refine hK _ _ ⟨.string s63,by simp only[FL,f5] <;> kernel_rfl,d1,⟨s63,rfl,hs63⟩,nF⟩
     ·intro xs d2 b0 c0;have z1:=zz b0;have e2:=b0.size;clear b0;have f3:∃ s:ByteArray,(xs 3)=.string s∧s.data.toList=Lib.itoa q.num++[47]:=c0 _ (m_ 3 rfl) (by kernel_rfl);have f6:∃ s:ByteArray,(xs 6)=.string s∧s.data.toList=Lib.itoa (q.den:Int):=c0 _ (m_ 6 rfl) (by kernel_rfl);clear c0;refine wpOp_step (o:=_) rfl (fun K hK=>?_);simp only[FL]
      obtain⟨s,hs,hl⟩:=f3;obtain⟨t,ht,hk⟩:=f6;rw[hs,ht];have hc1:¬ 9223372036854775807<s.size+t.size:=by rw[Lib.size_eq,Lib.size_eq,hl,hk];have h1:=itoa_len HV.out.2.1;have h2:=itoa_len (z:=(q.den:Int)) (by rw[Int.natAbs_natCast];exact HV.out.2.2);simp only[List.length_append,List.length_singleton];omega
      have o2:=zz hl;have u2:=zz hk;clear hl hk;go_simp;refine hK _ _ ⟨.string (s++t),by simp only[FL,hs,ht] <;> kernel_rfl,Below.refl _ _,⟨_,rfl,by rw[ByteArray.data_append,Array.toList_append,o2.out,u2.out,textQ,if_neg i2.out,List.append_assoc];rfl⟩,nF⟩
    ·exact all_nil
    ·intro xs y2 hbf hf hn hd;have f0:(xs 0)=.pointer (some ⟨w.heap.size,0,none⟩):=hf _ (m_ 0 rfl);have f1:(xs 1)=.agg #[.bool n,.slice A l c]:=hf _ (m_ 1 rfl);have f2:∃ s:ByteArray,(xs 2)=.string s∧s.data.toList=Lib.itoa q.num:=hf _ (m_ 2 rfl);have f3:∃ s:ByteArray,(xs 3)=.string s∧s.data.toList=Lib.itoa q.num++[47]:=hf _ (m_ 3 rfl);have f4:(xs 4)=.pointer (some ⟨w.heap.size,2,none⟩):=hf _ (m_ 4 rfl);have f5:(xs 5)=.agg #[.bool m,.slice A' l' c']:=hf _ (m_ 5 rfl);have f6:∃ s:ByteArray,(xs 6)=.string s∧s.data.toList=Lib.itoa (q.den:Int):=hf _ (m_ 6 rfl);have f7:∃ s:ByteArray,(xs 7)=.string s∧s.data.toList=textQ q:=hf _ (m_ 7 rfl);clear hf hn hd;simp only[FL]
     have B66:=zz hbf;have z66:=B66.out.size;have e1:=zz (o0.out.trans (B66.out.mono o0.out.size));clear hbf;generalize xs 0=x0,xs 1=x1,xs 2=x2,xs 3=x3,xs 4=x4,xs 5=x5,xs 6=x6,xs 7=x7 at *
     obtain rfl:=f0;obtain rfl:=f1;clear f2;clear f3;obtain rfl:=f4;obtain rfl:=f5;clear f6;obtain⟨u,rfl,hu⟩:=f7;refine Early.next (i:=8) (by kernel_rfl) rfl (fun K hK=>?_);go_simp;refine hK _ _ (fun _=>trivial) ?_;clear hK K;(try simp only[Act.put,List.setIfInBounds_toArray,List.set_cons_zero,List.set_cons_succ])
     refine Early.next (i:=9) (by kernel_rfl) rfl (fun K hK=>?_);go_simp;refine hK _ _ (fun _=>trivial) ?_;clear hK K;(try simp only[Act.put,List.setIfInBounds_toArray,List.set_cons_zero,List.set_cons_succ])
     refine Early.done (by kernel_rfl) ?_ _;(try simp only[Exit.then])
     go_wp2;go_ret2;exact⟨e1.out,u,rfl,hu⟩
set_option maxRecDepth 100000 in
set_option maxHeartbeats 4000000 in
theorem RParseQ_any (w:World) (s:ByteArray) (hs:s.size≤1000000) :
  Calls Tryz.prog 32 #[.string s] w fun e w'=>Below w.heap.size w w'∧RetQ w' (parseQ s.data.toList) e:=by
 obtain⟨r,hr⟩:∃ r,r=parseQ s.data.toList:=⟨_,rfl⟩;rw[← hr];have HR:=zz hr;clear hr;obtain⟨w0,hw0⟩:∃ w0:World,w0=(w.alloc (.cells #[.bool false,.slice none 0 0,.bool false,.slice none 0 0] 26)):=⟨_,rfl⟩;have B0:=zz (n1_b hw0);have z0:=n1_z hw0;have Lr2:=n1_0 hw0;go_enter Tryz.func32,Tryz.ntmps32
 go_upto_region 1 with (fail)
 rw[← hw0];clear hw0;go_wp2;go_loop [4] (fun iv=>∃ i:Nat,iv=.int .i64 i∧i≤s.size∧Hid (47∉s.data.toList.take i)) (fun iv=>s.size-(intOf iv).toNat)
 case atStart=>exact⟨0,rfl,Nat.zero_le _,zz (by rw[List.take_zero];exact List.not_mem_nil)⟩
 case round=>
  obtain⟨i,rfl,hi,hall⟩:=hrel;by_cases hlt:i<s.size
  rotate_left
  ·obtain rfl:i=s.size:=by omega
   go_wp2_with fail
   have M5:=zz hs;have t5:=zz (show r=if (parseZ s.data.toList).2≠0 then (none,(parseZ s.data.toList).2) else (some (mkRat (parseZ s.data.toList).1 1),0) by
    rw[HR.out,parseQ_plain (by have h:=hall.out;rwa [List.take_of_length_le (by rw[← Lib.size_eq];omega)] at h)])
   obtain⟨p,hp⟩:∃ p,p=parseZ s.data.toList:=⟨_,rfl⟩;have HP:=zz hp;have B5:=zz (parseZ_cases s.data.toList);rw[← hp] at B5 t5;clear hp;refine((show Calls Tryz.prog _ _ _ _ from HP.out▸RParse_any _ s M5.out)).mono ?_;rintro e w1 ⟨V2,v,rfl,hv⟩;have B2:=zz V2;have z2:=B2.out.size;have W2:=zz (B0.out.trans (B2.out.mono B0.out.size));clear V2;obtain⟨x,e1⟩:=p;replace hv:LV w1 w1.heap.size v x:=hv;dsimp only at t5 ⊢
   obtain⟨n4,A5,l4,c4,rfl,X2⟩:=hv.opened;have Z2:=zz X2;clear hv X2;go_upto_region 5 with (fail)
   obtain⟨w5,y0⟩:∃ w5:World,w5=(w1.alloc (.cells #[.bool n4,.slice A5 l4 c4] 24)):=⟨_,rfl⟩;rw[← y0];have a3:=n1_0 y0;have za5:=n1_z y0;have B6:=zz (n1_b y0);have z6:=B6.out.size;have K0:=zz (W2.out.trans (B6.out.mono W2.out.size));clear y0;by_cases he1:e1=0
   ·subst he1;have HV:=zz (show r=(some (mkRat x 1),0) by rw[t5.out];simp);clear hlt hi;go_upto_region 8 with (fail)
    refine Flow.run [⟨0,36,fun fv fw=>fv=.agg #[.bool n4,.slice A5 l4 c4]⟩,⟨1,37,fun fv fw=>LV fw fw.heap.size fv 1⟩,⟨2,38,fun fv fw=>QV fw fw.heap.size fv (mkRat x 1)⟩] [] [] 2 (by kernel_rfl) (by kernel_rfl) (by kernel_rfl) (fun _ _ _ _ _ h=>h) ?_ ?_ ?_ ?_
    ·refine(a0 (all_cons (fun v w1 w2 h hb=>h.step hb) (all_cons (fun v w1 w2 h hb=>h.step hb) all_nil)))
    ·refine(all_cons ?_ (all_cons ?_ (all_cons ?_ all_nil)))
     ·intro xs q5 c0 b0;have b3:=zz c0;have r5:=c0.size;clear c0;clear b0;refine wpOp_step (o:=_) rfl (fun K hK=>?_);simp only[FL]
      have L0:=CB.step a3 b3.out;have F3:=L0.cell 0 rfl;have G3:=L0.cell 1 rfl;go_simp;refine hK _ _ ⟨.agg #[.bool n4,.slice A5 l4 c4],by kernel_rfl,Below.refl _ _,rfl,nF⟩
     ·intro xs G4 c0 b0;clear c0;clear b0;refine wpOp_step (o:=_) rfl (fun K hK=>?_);simp only[FL]
      go_simp;(with_reducible refine(ROf_any _ 1 (by decide) (by decide)).mono ?_)
      rintro e wc12 ⟨c3,v12,rfl,d3⟩;refine hK _ _ ⟨v12,by kernel_rfl,c3,d3,nF⟩
     ·intro xs M0 c0 b0;have S1:=zz c0;have I4:=c0.size;clear c0;have f0:(xs 0)=.agg #[.bool n4,.slice A5 l4 c4]:=b0 _ (m_ 0 rfl) (by kernel_rfl);have f1:LV M0 M0.heap.size (xs 1) 1:=b0 _ (m_ 1 rfl) (by kernel_rfl);clear b0;refine wpOp_step (o:=_) rfl (fun K hK=>?_);simp only[FL]
      obtain⟨p6,q6,r6,s6,hx1,Y2⟩:=LV.opened f1;rw[hx1];have P2_4_14:=zz (B6.out.trans (S1.out.mono B6.out.size));have T1:=zz (LV.step Z2.out P2_4_14.out);have t6:=zz Y2;clear Y2;go_simp;refine hK _ _ ⟨.agg #[.bool n4,.slice A5 l4 c4,.bool p6,.slice q6 r6 s6],by simp only[FL,f0,hx1] <;> kernel_rfl,Below.refl _ _,QV.of (d:=1) T1.out t6.out (by decide) (Nat.gcd_one_right _),nF⟩
    ·exact all_nil
    ·intro xs y5 hbf hf hn hd;have f0:(xs 0)=.agg #[.bool n4,.slice A5 l4 c4]:=hf _ (m_ 0 rfl);have f1:LV y5 y5.heap.size (xs 1) 1:=hf _ (m_ 1 rfl);have f2:QV y5 y5.heap.size (xs 2) (mkRat x 1):=hf _ (m_ 2 rfl);clear hf hn hd;simp only[FL]
     have B17:=zz hbf;have z17:=B17.out.size;have e3:=zz (K0.out.trans (B17.out.mono K0.out.size));clear hbf;generalize xs 0=x0,xs 1=x1,xs 2=x2 at *
     obtain rfl:=f0;clear f1;obtain⟨h6,i6,j6,k6,l6,U1,m6,rfl,ha19,N0,hc19⟩:=f2;have I0:=zz (show QV y5 y5.heap.size (.agg #[.bool h6,.slice i6 j6 k6,.bool false,.slice l6 U1 m6]) (mkRat x 1) from⟨_,_,_,_,_,_,_,rfl,ha19,N0,hc19⟩);clear ha19 N0 hc19;have P1_3_21:=zz (B2.out.trans (B6.out.mono B2.out.size));have P1_4_22:=zz (P1_3_21.out.trans (B17.out.mono P1_3_21.out.size));have i0:=CB.step Lr2 P1_4_22.out;have V1:=i0.cell 0 rfl;have W1:=i0.cell 1 rfl;have X1:=i0.cell 2 rfl;have Y1:=i0.cell 3 rfl;have N5:=i0.lt;have Z1:=i0.frozen 0;have a2:=i0.frozen 1;have b2:=i0.frozen 2;have c2:=i0.frozen 3;have O5:=i0.lt;refine Early.next (i:=3) (by kernel_rfl) rfl (fun K hK=>?_);go_simp;refine hK _ _ (fun _=>trivial) ?_;clear hK K;(try simp only[Act.put,List.setIfInBounds_toArray,List.set_cons_zero,List.set_cons_succ])
     clear V1 W1 X1 Y1 N5 Z1 a2 b2 c2 O5;refine Early.next (i:=4) (by kernel_rfl) rfl (fun K hK=>?_);go_simp;refine hK _ _ (fun _=>trivial) ?_;clear hK K;(try simp only[Act.put,List.setIfInBounds_toArray,List.set_cons_zero,List.set_cons_succ])
     refine Early.done (by kernel_rfl) ?_ _;(try simp only[Exit.then])
     go_wp2;exact QB.fin rfl i0 (by simp[noInt_b,noInt_s]) e3.out (by omega) (by rw[HV.out];exact I0.out) rfl (by rw[HV.out];rfl)
   ·have HE:=zz he1;have hez:(e1==0)=false:=by rw[beq_eq_false_iff_ne];exact he1
    have HV:=zz (show r=(none,e1) by rw[t5.out,if_pos he1]);clear he1;have P1_3_26:=zz (B2.out.trans (B6.out.mono B2.out.size));have j0:=CB.step Lr2 P1_3_26.out;have d2:=j0.cell 0 rfl;have g2:=j0.cell 1 rfl;have i2:=j0.cell 2 rfl;have j2:=j0.cell 3 rfl;have P5:=j0.lt;have k2:=j0.frozen 0;have l2:=j0.frozen 1;have m2:=j0.frozen 2;have n2:=j0.frozen 3;have Q5:=j0.lt;go_wp2;clear d2 g2 i2 j2 P5 k2 l2 m2 n2 Q5;exact QB.fin rfl j0 (by simp[noInt_b,noInt_s]) K0.out (by omega) (by rw[HV.out];exact zeroQ _ _) rfl (by rw[HV.out];rfl)
  ·have hii:(i:Int)<(s.size:Int):=by omega
   by_cases h47:s[i]=47
   rotate_left
   ·have hn:47∉s.data.toList.take (i+1):=by rw[take_bytes s i hlt,List.mem_append,List.mem_singleton];exact fun h=>h.elim hall.out (fun h=>h47 h.symm)
    have HN:=zz hn;have hck:((s[i].toNat:Int)==47)=false:=by rw[beq_eq_false_iff_ne];intro h;exact h47 (UInt8.toNat_inj.1 (by show s[i].toNat=47;omega))
    clear hn h47;go_wp2;go_round
    case rel=>exact⟨i+1,by go_num,by omega,HN⟩
    case measure=>simp[intOf];omega
   ·have Y5:=zz (rest_bytes s i hlt);rw[h47] at Y5;have hck:((s[i].toNat:Int)==47)=true:=by rw[h47];rfl
    go_wp2_with fail
    generalize hsa:s.extract 0 _=sa;have hza:sa.size≤1000000:=by rw[← hsa,ByteArray.size_extract];omega
    have Z5:=zz hsa;have M5:=zz hza;clear hsa hza;clear hck;obtain⟨sb,hsb⟩:∃ sb,sb=s.extract (i+1) s.size:=⟨_,rfl⟩;have a6:=zz hsb;have v6:=zz (show sb.size≤1000000 by rw[hsb,ByteArray.size_extract];omega);clear hsb;have t5:=zz (show r=if (parseZ sa.data.toList).2≠0 then (none,(parseZ sa.data.toList).2) else if (parseZ sb.data.toList).2≠0 then (none,(parseZ sb.data.toList).2) else if 2≤(parseZ sb.data.toList).1∧Nat.gcd (parseZ sa.data.toList).1.natAbs (parseZ sb.data.toList).1.natAbs=1 then (some (mkRat (parseZ sa.data.toList).1 (parseZ sb.data.toList).1.natAbs),0) else (none,5) by
     rw[HR.out,Y5.out,← a6.out,Z5.out];exact parseQ_two (by rw[← Z5.out];simpa using hall.out))
    obtain⟨p,hp⟩:∃ p,p=parseZ sa.data.toList:=⟨_,rfl⟩;have HP:=zz hp;have B5:=zz (parseZ_cases sa.data.toList);rw[← hp] at B5 t5;clear hp;refine((show Calls Tryz.prog _ _ _ _ from HP.out▸RParse_any _ sa M5.out)).mono ?_;rintro e w29 ⟨O0,v,rfl,hv⟩;have B30:=zz O0;have z30:=B30.out.size;have P0:=zz (B0.out.trans (B30.out.mono B0.out.size));clear O0;obtain⟨x,e1⟩:=p;replace hv:LV w29 w29.heap.size v x:=hv;dsimp only at t5 ⊢
    obtain⟨n32,u5,l32,c32,rfl,Q0⟩:=hv.opened;have o2:=zz Q0;clear hv Q0;go_upto_region 5 with (fail)
    obtain⟨w33,s0⟩:∃ w33:World,w33=(w29.alloc (.cells #[.bool n32,.slice u5 l32 c32] 24)):=⟨_,rfl⟩;rw[← s0];have p2:=n1_0 s0;have za33:=n1_z s0;have B34:=zz (n1_b s0);have z34:=B34.out.size;have C0:=zz (P0.out.trans (B34.out.mono P0.out.size));clear s0;by_cases he1:e1=0
    ·subst he1;obtain⟨p,hp⟩:∃ p,p=parseZ sb.data.toList:=⟨_,rfl⟩;have w6:=zz hp;have b6:=zz (parseZ_cases sb.data.toList);rw[← hp] at b6 t5;clear hp;have hne:((i:Int)==(s.size:Int))=false:=by rw[beq_eq_false_iff_ne];omega
     go_wp2_with fail
     clear hne;rw[show s.extract _ s.size=sb from a6.out.symm];refine((show Calls Tryz.prog _ _ _ _ from w6.out▸RParse_any _ sb v6.out)).mono ?_;rintro e w36 ⟨R0,v,rfl,hv⟩;have B37:=zz R0;have z37:=B37.out.size;have S0:=zz (C0.out.trans (B37.out.mono C0.out.size));clear R0;obtain⟨y,e2⟩:=p;replace hv:LV w36 w36.heap.size v y:=hv;dsimp only at t5 ⊢
     replace t5:=zz (show r=if e2≠0 then (none,e2) else if 2≤y∧Nat.gcd x.natAbs y.natAbs=1 then (some (mkRat x y.natAbs),0) else (none,5) by rw[t5.out];simp);obtain⟨n39,s5,l39,c39,rfl,T0⟩:=hv.opened;have q2:=zz T0;clear hv T0;go_upto_region 10 with (fail)
     obtain⟨w40,t0⟩:∃ w40:World,w40=(w36.alloc (.cells #[.bool n39,.slice s5 l39 c39] 24)):=⟨_,rfl⟩;rw[← t0];have n0:=n1_0 t0;have za40:=n1_z t0;have B41:=zz (n1_b t0);have z41:=B41.out.size;have D0:=zz (S0.out.trans (B41.out.mono S0.out.size));clear t0;by_cases he2:e2=0
     ·subst he2;obtain⟨hxl,hyl⟩:(dig x.natAbs).length≤600∧(dig y.natAbs).length≤600:=by
       rcases B5.out with h | ⟨h,-⟩ | ⟨z,h,-,h2⟩
       ·injection h with _ h;cases h
       ·injection h with _ h;cases h
       ·injection h with h _;subst h
        rcases b6.out with h | ⟨h,-⟩ | ⟨z,h,h3,h4⟩
        ·injection h with _ h;cases h
        ·injection h with _ h;cases h
        ·injection h with h _;subst h;exact⟨h2,h4⟩
      have c6:=zz hxl;have d6:=zz hyl;clear hxl hyl;have P3_5_44:=zz (B37.out.trans (B41.out.mono B37.out.size));have v0:=CB.step p2 P3_5_44.out;have r2:=v0.cell 0 rfl;have s2:=v0.cell 1 rfl;have R5:=v0.lt;have t2:=n0.cell 0 rfl;have u2:=n0.cell 1 rfl;have S5:=n0.lt;go_upto_region 13 with (fail)
      clear r2 s2 R5 t2 u2 S5;obtain⟨w47,u0⟩:∃ w47:World,w47=(w40.alloc (.cells #[.bool n32,.slice u5 l32 c32,.bool n39,.slice s5 l39 c39] 26)):=⟨_,rfl⟩;rw[← u0];have q0:=n1_0 u0;have za47:=n1_z u0;have B48:=zz (n1_b u0);have z48:=B48.out.size;have r0:=zz (D0.out.trans (B48.out.mono D0.out.size));clear u0;have P2_4_50:=zz (B34.out.trans (B37.out.mono B34.out.size));have P2_5_51:=zz (P2_4_50.out.trans (B41.out.mono P2_4_50.out.size));have P2_6_52:=zz (P2_5_51.out.trans (B48.out.mono P2_5_51.out.size));have E0:=zz (LV.step o2.out P2_6_52.out);have P4_6_54:=zz (B41.out.trans (B48.out.mono B41.out.size));have p0:=zz (LV.step q2.out P4_6_54.out);have e6:=zz (QR.of E0.out p0.out);by_cases hy2:y<2
      ·have HC:=zz (cmpZ_lt' hy2);have HV:=zz (show r=(none,5) by rw[t5.out,if_neg (by decide),if_neg (fun h=>by omega)]);clear hy2;refine Flow.run [⟨0,54,fun fv fw=>fv=.agg #[.bool n39,.slice s5 l39 c39]⟩,⟨1,55,fun fv fw=>LV fw fw.heap.size fv 2⟩,⟨2,56,fun fv fw=>fv=.int .i64 (-1)⟩,⟨3,57,fun fv fw=>fv=.bool true⟩,⟨4,58,fun fv fw=>fv=.bool true⟩,⟨5,59,fun fv fw=>True⟩,⟨6,60,fun fv fw=>True⟩,⟨7,61,fun fv fw=>True⟩,⟨8,62,fun fv fw=>fv=.bool true⟩] [] [] 0 (by kernel_rfl) (by kernel_rfl) (by kernel_rfl) (fun _ _ _ _ _ h=>h) ?_ ?_ ?_ ?_
       ·refine(a0 (all_cons (fun v w1 w2 h hb=>h.step hb) (a0 (a0 (a0 (a0 (a0 (a0 (a0 all_nil)))))))))
       ·refine(all_cons ?_ (all_cons ?_ (all_cons ?_ (all_cons ?_ (all_cons ?_ (all_cons ?_ (all_cons ?_ (all_cons ?_ (all_cons ?_ all_nil)))))))))
        ·intro xs J4 c0 b0;have v2:=zz c0;have K4:=c0.size;clear c0;clear b0;refine wpOp_step (o:=_) rfl (fun K hK=>?_);simp only[FL]
         have P5_7_58:=zz (B48.out.trans (v2.out.mono B48.out.size));have F0:=CB.step n0 P5_7_58.out;have I3:=F0.cell 0 rfl;have J3:=F0.cell 1 rfl;go_simp;refine hK _ _ ⟨.agg #[.bool n39,.slice s5 l39 c39],by kernel_rfl,Below.refl _ _,rfl,nF⟩
        ·intro xs L4 c0 b0;clear c0;clear b0;refine wpOp_step (o:=_) rfl (fun K hK=>?_);simp only[FL]
         go_simp;(with_reducible refine(ROf_any _ 2 (by decide) (by decide)).mono ?_)
         rintro e wc61 ⟨g3,v61,rfl,i3⟩;refine hK _ _ ⟨v61,by kernel_rfl,g3,i3,nF⟩
        ·intro xs U0 c0 b0;have y2:=zz c0;have N4:=c0.size;clear c0;have f0:(xs 0)=.agg #[.bool n39,.slice s5 l39 c39]:=b0 _ (m_ 0 rfl) (by kernel_rfl);have f1:LV U0 U0.heap.size (xs 1) 2:=b0 _ (m_ 1 rfl) (by kernel_rfl);clear b0;refine wpOp_step (o:=_) rfl (fun K hK=>?_);simp only[FL]
         go_simp;have A2:=zz (LV.step p0.out y2.out);(with_reducible refine((show Calls Tryz.prog _ _ _ _ from HC.out▸ROrder_any _ _ _ y 2 A2.out f1)).mono ?_)
         rintro e wc64 ⟨j3,rfl⟩;refine hK _ _ ⟨.int .i64 (-1),by simp only[FL,f0] <;> kernel_rfl,j3,rfl,nF⟩
        ·intro xs O4 c0 b0;clear c0;have f2:(xs 2)=.int .i64 (-1):=b0 _ (m_ 2 rfl) (by kernel_rfl);clear b0;refine wpOp_step (o:=_) rfl (fun K hK=>?_);simp only[FL]
         go_simp;refine hK _ _ ⟨.bool true,by simp only[FL,f2] <;> kernel_rfl,Below.refl _ _,rfl,nF⟩
        ·intro xs Q4 c0 b0;clear c0;have f3:(xs 3)=.bool true:=b0 _ (m_ 3 rfl) (by kernel_rfl);clear b0;refine wpOp_step (o:=_) rfl (fun K hK=>?_);simp only[FL]
         go_simp;refine hK _ _ ⟨.bool true,by simp only[FL,f3] <;> kernel_rfl,Below.refl _ _,rfl,nF⟩
        ·intro xs S4 c0 b0;clear c0;have f4:(xs 4)=.bool true:=b0 _ (m_ 4 rfl) (by kernel_rfl);clear b0;refine wpOp_step (o:=?_) ?O3 ?_
         case O3=>exact rfl
         intro K hK;simp only[FL]
         go_simp;refine hK _ _ ⟨undef,by simp only[FL,f4] <;> kernel_rfl,Below.refl _ _,trivial,nF⟩
        ·intro xs U4 c0 b0;clear c0;have f4:(xs 4)=.bool true:=b0 _ (m_ 4 rfl) (by kernel_rfl);clear b0;refine wpOp_step (o:=?_) ?Q3 ?_
         case Q3=>exact rfl
         intro K hK;simp only[FL]
         go_simp;refine hK _ _ ⟨undef,by simp only[FL,f4] <;> kernel_rfl,Below.refl _ _,trivial,nF⟩
        ·intro xs W4 c0 b0;clear c0;have f4:(xs 4)=.bool true:=b0 _ (m_ 4 rfl) (by kernel_rfl);clear b0;refine wpOp_step (o:=?_) ?S3 ?_
         case S3=>exact rfl
         intro K hK;simp only[FL]
         go_simp;refine hK _ _ ⟨undef,by simp only[FL,f4] <;> kernel_rfl,Below.refl _ _,trivial,nF⟩
        ·intro xs Y4 c0 b0;clear c0;have f4:(xs 4)=.bool true:=b0 _ (m_ 4 rfl) (by kernel_rfl);clear b0;refine wpOp_step (o:=_) rfl (fun K hK=>?_);simp only[FL]
         go_simp;refine hK _ _ ⟨.bool true,by simp only[FL,f4] <;> kernel_rfl,Below.refl _ _,rfl,nF⟩
       ·exact all_nil
       ·intro xs T5 hbf hf hn hd;have f0:(xs 0)=.agg #[.bool n39,.slice s5 l39 c39]:=hf _ (m_ 0 rfl);have f1:LV T5 T5.heap.size (xs 1) 2:=hf _ (m_ 1 rfl);have f2:(xs 2)=.int .i64 (-1):=hf _ (m_ 2 rfl);have f3:(xs 3)=.bool true:=hf _ (m_ 3 rfl);have f4:(xs 4)=.bool true:=hf _ (m_ 4 rfl);have f5:True:=hf _ (m_ 5 rfl);have f6:True:=hf _ (m_ 6 rfl);have f7:True:=hf _ (m_ 7 rfl);have f8:(xs 8)=.bool true:=hf _ (m_ 8 rfl);clear hf hn hd;simp only[FL]
        have B72:=zz hbf;have z72:=B72.out.size;have k3:=zz (r0.out.trans (B72.out.mono r0.out.size));clear hbf;generalize xs 0=x0,xs 1=x1,xs 2=x2,xs 3=x3,xs 4=x4,xs 5=x5,xs 6=x6,xs 7=x7,xs 8=x8 at *
        obtain rfl:=f0;clear f1;obtain rfl:=f2;obtain rfl:=f3;obtain rfl:=f4;clear f5;clear f6;clear f7;obtain rfl:=f8;refine Early.done (by kernel_rfl) ?_ _;(try simp only[Exit.then])
        have P1_3_75:=zz (B30.out.trans (B34.out.mono B30.out.size));have P1_4_76:=zz (P1_3_75.out.trans (B37.out.mono P1_3_75.out.size));have P1_5_77:=zz (P1_4_76.out.trans (B41.out.mono P1_4_76.out.size));have P1_6_78:=zz (P1_5_77.out.trans (B48.out.mono P1_5_77.out.size));have P1_7_79:=zz (P1_6_78.out.trans (B72.out.mono P1_6_78.out.size));have k0:=CB.step Lr2 P1_7_79.out;have C2:=k0.cell 0 rfl;have D2:=k0.cell 1 rfl;have E2:=k0.cell 2 rfl;have F2:=k0.cell 3 rfl;have U5:=k0.lt;have G2:=k0.frozen 0;have H2:=k0.frozen 1;have I2:=k0.frozen 2;have J2:=k0.frozen 3;have V5:=k0.lt;go_wp2;clear C2 D2 E2 F2 U5 G2 H2 I2 J2 V5;exact QB.fin rfl k0 (by simp[noInt_b,noInt_s]) k3.out (by omega) (by rw[HV.out];exact zeroQ _ _) rfl (by rw[HV.out];rfl)
      ·obtain⟨c,hc⟩:∃ c,(cmpZ y 2).1=c:=⟨_,rfl⟩;have hc0:¬ c<0:=hc▸cmpZ_ge' hy2;have HC:=zz hc;clear hc;by_cases hq:0<y∧Nat.gcd x.natAbs y.natAbs=1
       ·have HQ:=zz hq;have W5:=zz (show qOf _ _ _ _=some (mkRat x y.natAbs) from(qOf_pair c6.out d6.out).trans (if_pos hq));have HV:=zz (show r=(some (mkRat x y.natAbs),0) by rw[t5.out,if_neg (by decide),if_pos ⟨by omega,hq.2⟩]);have A6:=zz (show y=((y.natAbs:Nat):Int) by omega);clear hq hy2;refine Flow.run [⟨0,54,fun fv fw=>fv=.agg #[.bool n39,.slice s5 l39 c39]⟩,⟨1,55,fun fv fw=>LV fw fw.heap.size fv 2⟩,⟨2,56,fun fv fw=>fv=.int .i64 c⟩,⟨3,57,fun fv fw=>fv=.bool false⟩,⟨4,58,fun fv fw=>fv=.bool false⟩,⟨5,59,fun fv fw=>fv=.agg #[.bool n32,.slice u5 l32 c32,.bool n39,.slice s5 l39 c39]⟩,⟨6,60,fun fv fw=>fv=.bool true⟩,⟨7,61,fun fv fw=>fv=.bool false⟩,⟨8,62,fun fv fw=>fv=.bool false⟩] [] [] 0 (by kernel_rfl) (by kernel_rfl) (by kernel_rfl) (fun _ _ _ _ _ h=>h) ?_ ?_ ?_ ?_
        ·refine(a0 (all_cons (fun v w1 w2 h hb=>h.step hb) (a0 (a0 (a0 (a0 (a0 (a0 (a0 all_nil)))))))))
        ·refine(all_cons ?_ (all_cons ?_ (all_cons ?_ (all_cons ?_ (all_cons ?_ (all_cons ?_ (all_cons ?_ (all_cons ?_ (all_cons ?_ all_nil)))))))))
         ·intro xs a5 c0 b0;have K2:=zz c0;have b5:=c0.size;clear c0;clear b0;refine wpOp_step (o:=_) rfl (fun K hK=>?_);simp only[FL]
          have P5_7_84:=zz (B48.out.trans (K2.out.mono B48.out.size));have G0:=CB.step n0 P5_7_84.out;have U3:=G0.cell 0 rfl;have V3:=G0.cell 1 rfl;go_simp;refine hK _ _ ⟨.agg #[.bool n39,.slice s5 l39 c39],by kernel_rfl,Below.refl _ _,rfl,nF⟩
         ·intro xs c5 c0 b0;clear c0;clear b0;refine wpOp_step (o:=_) rfl (fun K hK=>?_);simp only[FL]
          go_simp;(with_reducible refine(ROf_any _ 2 (by decide) (by decide)).mono ?_)
          rintro e wc87 ⟨l3,v87,rfl,m3⟩;refine hK _ _ ⟨v87,by kernel_rfl,l3,m3,nF⟩
         ·intro xs V0 c0 b0;have L2:=zz c0;have e5:=c0.size;clear c0;have f0:(xs 0)=.agg #[.bool n39,.slice s5 l39 c39]:=b0 _ (m_ 0 rfl) (by kernel_rfl);have f1:LV V0 V0.heap.size (xs 1) 2:=b0 _ (m_ 1 rfl) (by kernel_rfl);clear b0;refine wpOp_step (o:=_) rfl (fun K hK=>?_);simp only[FL]
          go_simp;have M2:=zz (LV.step p0.out L2.out);(with_reducible refine((show Calls Tryz.prog _ _ _ _ from HC.out▸ROrder_any _ _ _ y 2 M2.out f1)).mono ?_)
          rintro e wc90 ⟨n3,rfl⟩;refine hK _ _ ⟨.int .i64 c,by simp only[FL,f0] <;> kernel_rfl,n3,rfl,nF⟩
         ·intro xs g5 c0 b0;clear c0;have f2:(xs 2)=.int .i64 c:=b0 _ (m_ 2 rfl) (by kernel_rfl);clear b0;refine wpOp_step (o:=_) rfl (fun K hK=>?_);simp only[FL]
          go_simp;refine hK _ _ ⟨.bool false,by simp only[FL,f2] <;> kernel_rfl,Below.refl _ _,rfl,nF⟩
         ·intro xs i5 c0 b0;clear c0;have f3:(xs 3)=.bool false:=b0 _ (m_ 3 rfl) (by kernel_rfl);clear b0;refine wpOp_step (o:=_) rfl (fun K hK=>?_);simp only[FL]
          go_simp;refine hK _ _ ⟨.bool false,by simp only[FL,f3] <;> kernel_rfl,Below.refl _ _,rfl,nF⟩
         ·intro xs k5 c0 b0;have N2:=zz c0;have l5:=c0.size;clear c0;have f4:(xs 4)=.bool false:=b0 _ (m_ 4 rfl) (by kernel_rfl);clear b0;refine wpOp_step (o:=?_) ?Z3 ?_
          case Z3=>exact rfl
          intro K hK;simp only[FL]
          have o0:=CB.step q0 N2.out;have a4:=o0.cell 0 rfl;have b4:=o0.cell 1 rfl;have d4:=o0.cell 2 rfl;have e4:=o0.cell 3 rfl;go_simp;refine hK _ _ ⟨.agg #[.bool n32,.slice u5 l32 c32,.bool n39,.slice s5 l39 c39],by simp only[FL,f4] <;> kernel_rfl,Below.refl _ _,rfl,nF⟩
         ·intro xs m5 c0 b0;have O2:=zz c0;have n5:=c0.size;clear c0;have f4:(xs 4)=.bool false:=b0 _ (m_ 4 rfl) (by kernel_rfl);have f5:(xs 5)=.agg #[.bool n32,.slice u5 l32 c32,.bool n39,.slice s5 l39 c39]:=b0 _ (m_ 5 rfl) (by kernel_rfl);clear b0;refine wpOp_step (o:=?_) ?g4 ?_
          case g4=>exact rfl
          intro K hK;simp only[FL]
          go_simp;have W0:=zz (QR.step e6.out O2.out);(with_reducible refine(RRightQ_yes W0.out W5.out).mono ?_)
          rintro e wc98 ⟨o3,rfl⟩;refine hK _ _ ⟨.bool true,by simp only[FL,f4,f5] <;> kernel_rfl,o3,rfl,nF⟩
         ·intro xs o5 c0 b0;clear c0;have f4:(xs 4)=.bool false:=b0 _ (m_ 4 rfl) (by kernel_rfl);have f6:(xs 6)=.bool true:=b0 _ (m_ 6 rfl) (by kernel_rfl);clear b0;refine wpOp_step (o:=?_) ?j4 ?_
          case j4=>exact rfl
          intro K hK;simp only[FL]
          go_simp;refine hK _ _ ⟨.bool false,by simp only[FL,f4,f6] <;> kernel_rfl,Below.refl _ _,rfl,nF⟩
         ·intro xs k4 c0 b0;clear c0;have f4:(xs 4)=.bool false:=b0 _ (m_ 4 rfl) (by kernel_rfl);have f7:(xs 7)=.bool false:=b0 _ (m_ 7 rfl) (by kernel_rfl);clear b0;refine wpOp_step (o:=_) rfl (fun K hK=>?_);simp only[FL]
          go_simp;refine hK _ _ ⟨.bool false,by simp only[FL,f4,f7] <;> kernel_rfl,Below.refl _ _,rfl,nF⟩
        ·exact all_nil
        ·intro xs z5 hbf hf hn hd;have f0:(xs 0)=.agg #[.bool n39,.slice s5 l39 c39]:=hf _ (m_ 0 rfl);have f1:LV z5 z5.heap.size (xs 1) 2:=hf _ (m_ 1 rfl);have f2:(xs 2)=.int .i64 c:=hf _ (m_ 2 rfl);have f3:(xs 3)=.bool false:=hf _ (m_ 3 rfl);have f4:(xs 4)=.bool false:=hf _ (m_ 4 rfl);have f5:(xs 5)=.agg #[.bool n32,.slice u5 l32 c32,.bool n39,.slice s5 l39 c39]:=hf _ (m_ 5 rfl);have f6:(xs 6)=.bool true:=hf _ (m_ 6 rfl);have f7:(xs 7)=.bool false:=hf _ (m_ 7 rfl);have f8:(xs 8)=.bool false:=hf _ (m_ 8 rfl);clear hf hn hd;simp only[FL]
         have B102:=zz hbf;have z102:=B102.out.size;have P2:=zz (r0.out.trans (B102.out.mono r0.out.size));clear hbf;generalize xs 0=x0,xs 1=x1,xs 2=x2,xs 3=x3,xs 4=x4,xs 5=x5,xs 6=x6,xs 7=x7,xs 8=x8 at *
         obtain rfl:=f0;clear f1;obtain rfl:=f2;obtain rfl:=f3;obtain rfl:=f4;obtain rfl:=f5;obtain rfl:=f6;obtain rfl:=f7;obtain rfl:=f8;refine Early.done (by kernel_rfl) ?_ _;(try simp only[Exit.then])
         have X0:=zz (LV.step E0.out B102.out);have Y0:=zz (LV.step p0.out B102.out);have n6:=zz (show QV z5 z5.heap.size (.agg #[.bool n32,.slice u5 l32 c32,.bool n39,.slice s5 l39 c39]) (mkRat x y.natAbs) from QV.of X0.out (by rw[← A6.out];exact Y0.out) (by have:=HQ.out.1;omega) HQ.out.2);have l0:=CB.step q0 B102.out;have Z0:=l0.cell 0 rfl;have a1:=l0.cell 1 rfl;have b1:=l0.cell 2 rfl;have c1:=l0.cell 3 rfl;have D5:=l0.lt;have P1_3_109:=zz (B30.out.trans (B34.out.mono B30.out.size));have P1_4_110:=zz (P1_3_109.out.trans (B37.out.mono P1_3_109.out.size));have P1_5_111:=zz (P1_4_110.out.trans (B41.out.mono P1_4_110.out.size));have P1_6_112:=zz (P1_5_111.out.trans (B48.out.mono P1_5_111.out.size));have P1_7_113:=zz (P1_6_112.out.trans (B102.out.mono P1_6_112.out.size));have d0:=CB.step Lr2 P1_7_113.out;have d1:=d0.cell 0 rfl;have g1:=d0.cell 1 rfl;have h1:=d0.cell 2 rfl;have i1:=d0.cell 3 rfl;have E5:=d0.lt;have j1:=d0.frozen 0;have k1:=d0.frozen 1;have l1:=d0.frozen 2;have m1:=d0.frozen 3;have F5:=d0.lt;go_wp2;clear Z0 a1 b1 c1 D5 d1 g1 h1 i1 E5 j1 k1 l1 m1 F5;exact QB.fin rfl d0 (by simp[noInt_b,noInt_s]) P2.out (by omega) (by rw[HV.out];exact n6.out) rfl (by rw[HV.out];rfl)
       ·have W5:=zz (show qOf _ _ _ _=none from(qOf_pair c6.out d6.out).trans (if_neg hq));have HV:=zz (show r=(none,5) by rw[t5.out,if_neg (by decide),if_neg (fun h=>hq ⟨by omega,h.2⟩)]);clear hq hy2;refine Flow.run [⟨0,54,fun fv fw=>fv=.agg #[.bool n39,.slice s5 l39 c39]⟩,⟨1,55,fun fv fw=>LV fw fw.heap.size fv 2⟩,⟨2,56,fun fv fw=>fv=.int .i64 c⟩,⟨3,57,fun fv fw=>fv=.bool false⟩,⟨4,58,fun fv fw=>fv=.bool false⟩,⟨5,59,fun fv fw=>fv=.agg #[.bool n32,.slice u5 l32 c32,.bool n39,.slice s5 l39 c39]⟩,⟨6,60,fun fv fw=>fv=.bool false⟩,⟨7,61,fun fv fw=>fv=.bool true⟩,⟨8,62,fun fv fw=>fv=.bool true⟩] [] [] 0 (by kernel_rfl) (by kernel_rfl) (by kernel_rfl) (fun _ _ _ _ _ h=>h) ?_ ?_ ?_ ?_
        ·refine(a0 (all_cons (fun v w1 w2 h hb=>h.step hb) (a0 (a0 (a0 (a0 (a0 (a0 (a0 all_nil)))))))))
        ·refine(all_cons ?_ (all_cons ?_ (all_cons ?_ (all_cons ?_ (all_cons ?_ (all_cons ?_ (all_cons ?_ (all_cons ?_ (all_cons ?_ all_nil)))))))))
         ·intro xs o4 c0 b0;have n1:=zz c0;have p4:=c0.size;clear c0;clear b0;refine wpOp_step (o:=_) rfl (fun K hK=>?_);simp only[FL]
          have P5_7_118:=zz (B48.out.trans (n1.out.mono B48.out.size));have A0:=CB.step n0 P5_7_118.out;have q3:=A0.cell 0 rfl;have r3:=A0.cell 1 rfl;go_simp;refine hK _ _ ⟨.agg #[.bool n39,.slice s5 l39 c39],by kernel_rfl,Below.refl _ _,rfl,nF⟩
         ·intro xs q4 c0 b0;clear c0;clear b0;refine wpOp_step (o:=_) rfl (fun K hK=>?_);simp only[FL]
          go_simp;(with_reducible refine(ROf_any _ 2 (by decide) (by decide)).mono ?_)
          rintro e wc121 ⟨Q2,v121,rfl,R2⟩;refine hK _ _ ⟨v121,by kernel_rfl,Q2,R2,nF⟩
         ·intro xs H0 c0 b0;have o1:=zz c0;have s4:=c0.size;clear c0;have f0:(xs 0)=.agg #[.bool n39,.slice s5 l39 c39]:=b0 _ (m_ 0 rfl) (by kernel_rfl);have f1:LV H0 H0.heap.size (xs 1) 2:=b0 _ (m_ 1 rfl) (by kernel_rfl);clear b0;refine wpOp_step (o:=_) rfl (fun K hK=>?_);simp only[FL]
          go_simp;have p1:=zz (LV.step p0.out o1.out);(with_reducible refine((show Calls Tryz.prog _ _ _ _ from HC.out▸ROrder_any _ _ _ y 2 p1.out f1)).mono ?_)
          rintro e wc124 ⟨S2,rfl⟩;refine hK _ _ ⟨.int .i64 c,by simp only[FL,f0] <;> kernel_rfl,S2,rfl,nF⟩
         ·intro xs t4 c0 b0;clear c0;have f2:(xs 2)=.int .i64 c:=b0 _ (m_ 2 rfl) (by kernel_rfl);clear b0;refine wpOp_step (o:=_) rfl (fun K hK=>?_);simp only[FL]
          go_simp;refine hK _ _ ⟨.bool false,by simp only[FL,f2] <;> kernel_rfl,Below.refl _ _,rfl,nF⟩
         ·intro xs v4 c0 b0;clear c0;have f3:(xs 3)=.bool false:=b0 _ (m_ 3 rfl) (by kernel_rfl);clear b0;refine wpOp_step (o:=_) rfl (fun K hK=>?_);simp only[FL]
          go_simp;refine hK _ _ ⟨.bool false,by simp only[FL,f3] <;> kernel_rfl,Below.refl _ _,rfl,nF⟩
         ·intro xs y4 c0 b0;have q1:=zz c0;have z4:=c0.size;clear c0;have f4:(xs 4)=.bool false:=b0 _ (m_ 4 rfl) (by kernel_rfl);clear b0;refine wpOp_step (o:=?_) ?v3 ?_
          case v3=>exact rfl
          intro K hK;simp only[FL]
          have m0:=CB.step q0 q1.out;have w3:=m0.cell 0 rfl;have y3:=m0.cell 1 rfl;have z3:=m0.cell 2 rfl;have A3:=m0.cell 3 rfl;go_simp;refine hK _ _ ⟨.agg #[.bool n32,.slice u5 l32 c32,.bool n39,.slice s5 l39 c39],by simp only[FL,f4] <;> kernel_rfl,Below.refl _ _,rfl,nF⟩
         ·intro xs A4 c0 b0;have r1:=zz c0;have B4:=c0.size;clear c0;have f4:(xs 4)=.bool false:=b0 _ (m_ 4 rfl) (by kernel_rfl);have f5:(xs 5)=.agg #[.bool n32,.slice u5 l32 c32,.bool n39,.slice s5 l39 c39]:=b0 _ (m_ 5 rfl) (by kernel_rfl);clear b0;refine wpOp_step (o:=?_) ?B3 ?_
          case B3=>exact rfl
          intro K hK;simp only[FL]
          go_simp;have J0:=zz (QR.step e6.out r1.out);(with_reducible refine(RRightQ_no J0.out W5.out).mono ?_)
          rintro e wc132 ⟨T2,rfl⟩;refine hK _ _ ⟨.bool false,by simp only[FL,f4,f5] <;> kernel_rfl,T2,rfl,nF⟩
         ·intro xs C4 c0 b0;clear c0;have f4:(xs 4)=.bool false:=b0 _ (m_ 4 rfl) (by kernel_rfl);have f6:(xs 6)=.bool false:=b0 _ (m_ 6 rfl) (by kernel_rfl);clear b0;refine wpOp_step (o:=?_) ?D3 ?_
          case D3=>exact rfl
          intro K hK;simp only[FL]
          go_simp;refine hK _ _ ⟨.bool true,by simp only[FL,f4,f6] <;> kernel_rfl,Below.refl _ _,rfl,nF⟩
         ·intro xs E4 c0 b0;clear c0;have f4:(xs 4)=.bool false:=b0 _ (m_ 4 rfl) (by kernel_rfl);have f7:(xs 7)=.bool true:=b0 _ (m_ 7 rfl) (by kernel_rfl);clear b0;refine wpOp_step (o:=_) rfl (fun K hK=>?_);simp only[FL]
          go_simp;refine hK _ _ ⟨.bool true,by simp only[FL,f4,f7] <;> kernel_rfl,Below.refl _ _,rfl,nF⟩
        ·exact all_nil
        ·intro xs C5 hbf hf hn hd;have f0:(xs 0)=.agg #[.bool n39,.slice s5 l39 c39]:=hf _ (m_ 0 rfl);have f1:LV C5 C5.heap.size (xs 1) 2:=hf _ (m_ 1 rfl);have f2:(xs 2)=.int .i64 c:=hf _ (m_ 2 rfl);have f3:(xs 3)=.bool false:=hf _ (m_ 3 rfl);have f4:(xs 4)=.bool false:=hf _ (m_ 4 rfl);have f5:(xs 5)=.agg #[.bool n32,.slice u5 l32 c32,.bool n39,.slice s5 l39 c39]:=hf _ (m_ 5 rfl);have f6:(xs 6)=.bool false:=hf _ (m_ 6 rfl);have f7:(xs 7)=.bool true:=hf _ (m_ 7 rfl);have f8:(xs 8)=.bool true:=hf _ (m_ 8 rfl);clear hf hn hd;simp only[FL]
         have B136:=zz hbf;have z136:=B136.out.size;have U2:=zz (r0.out.trans (B136.out.mono r0.out.size));clear hbf;generalize xs 0=x0,xs 1=x1,xs 2=x2,xs 3=x3,xs 4=x4,xs 5=x5,xs 6=x6,xs 7=x7,xs 8=x8 at *
         obtain rfl:=f0;clear f1;obtain rfl:=f2;obtain rfl:=f3;obtain rfl:=f4;obtain rfl:=f5;obtain rfl:=f6;obtain rfl:=f7;obtain rfl:=f8;refine Early.done (by kernel_rfl) ?_ _;(try simp only[Exit.then])
         have P1_3_139:=zz (B30.out.trans (B34.out.mono B30.out.size));have P1_4_140:=zz (P1_3_139.out.trans (B37.out.mono P1_3_139.out.size));have P1_5_141:=zz (P1_4_140.out.trans (B41.out.mono P1_4_140.out.size));have P1_6_142:=zz (P1_5_141.out.trans (B48.out.mono P1_5_141.out.size));have P1_7_143:=zz (P1_6_142.out.trans (B136.out.mono P1_6_142.out.size));have e0:=CB.step Lr2 P1_7_143.out;have s1:=e0.cell 0 rfl;have t1:=e0.cell 1 rfl;have u1:=e0.cell 2 rfl;have v1:=e0.cell 3 rfl;have G5:=e0.lt;have y1:=e0.frozen 0;have z1:=e0.frozen 1;have A1:=e0.frozen 2;have B1:=e0.frozen 3;have H5:=e0.lt;go_wp2;clear s1 t1 u1 v1 G5 y1 z1 A1 B1 H5;exact QB.fin rfl e0 (by simp[noInt_b,noInt_s]) U2.out (by omega) (by rw[HV.out];exact zeroQ _ _) rfl (by rw[HV.out];rfl)
     ·have HE:=zz he2;have hez:(e2==0)=false:=by rw[beq_eq_false_iff_ne];exact he2
      have HV:=zz (show r=(none,e2) by rw[t5.out,if_pos he2]);clear he2;have P1_3_147:=zz (B30.out.trans (B34.out.mono B30.out.size));have P1_4_148:=zz (P1_3_147.out.trans (B37.out.mono P1_3_147.out.size));have P1_5_149:=zz (P1_4_148.out.trans (B41.out.mono P1_4_148.out.size));have g0:=CB.step Lr2 P1_5_149.out;have C1:=g0.cell 0 rfl;have D1:=g0.cell 1 rfl;have E1:=g0.cell 2 rfl;have F1:=g0.cell 3 rfl;have I5:=g0.lt;have G1:=g0.frozen 0;have H1:=g0.frozen 1;have I1:=g0.frozen 2;have J1:=g0.frozen 3;have J5:=g0.lt;go_wp2;clear C1 D1 E1 F1 I5 G1 H1 I1 J1 J5;exact QB.fin rfl g0 (by simp[noInt_b,noInt_s]) D0.out (by omega) (by rw[HV.out];exact zeroQ _ _) rfl (by rw[HV.out];rfl)
    ·have HE:=zz he1;have hez:(e1==0)=false:=by rw[beq_eq_false_iff_ne];exact he1
     have HV:=zz (show r=(none,e1) by rw[t5.out,if_pos he1]);clear he1;have P1_3_153:=zz (B30.out.trans (B34.out.mono B30.out.size));have h0:=CB.step Lr2 P1_3_153.out;have K1:=h0.cell 0 rfl;have L1:=h0.cell 1 rfl;have M1:=h0.cell 2 rfl;have N1:=h0.cell 3 rfl;have K5:=h0.lt;have O1:=h0.frozen 0;have P1:=h0.frozen 1;have Q1:=h0.frozen 2;have R1:=h0.frozen 3;have L5:=h0.lt;go_wp2;clear K1 L1 M1 N1 K5 O1 P1 Q1 R1 L5;exact QB.fin rfl h0 (by simp[noInt_b,noInt_s]) C0.out (by omega) (by rw[HV.out];exact zeroQ _ _) rfl (by rw[HV.out];rfl)
end Go.Proofs.YtioclokmbgmamaaGreatDoor
