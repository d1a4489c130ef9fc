/- The law QuotField (written by its generator). -/
import Derived.Test.YtioclokmbgmamaaGreatDoorQS
import Derived.Test.YtioclokmbgmamaaGreatDoorQW
import Derived.Test.YtioclokmbgmamaaGreatDoorFlowS
namespace Go.Proofs.YtioclokmbgmamaaGreatDoor
open Go Go.RowKit Dig
theorem QSameV_yes {w:World} {va vb:Value} {q r:Rat} (ha:QV w w.heap.size va q) (hb:QV w w.heap.size vb r) (h:q=r) :
  Calls Tryz.prog 36 #[va,vb] w fun e w'=>Below w.heap.size w w'∧e=.returned (.bool true):=by
 subst h
 have h1:=QSame_any w va vb _ _ _ _ _ _ _ _ ha.qr hb.qr
 rw[decide_eq_true ⟨⟨rfl,rfl⟩,rfl,rfl⟩] at h1
 exact h1
set_option linter.unusedVariables false in
set_option maxRecDepth 100000 in
set_option maxHeartbeats 16000000 in
theorem QuotField_any (w:World) (G:Glob w) (M:MaxL w) (tn tm tn2 tm2:Bool) (ts0 ts1 ts2 ts3:Value) (ta tb ta2 tb2:List Int) (tx1 tx2 ty1 ty2:Bool) (tl1 tl2 tk1 tk2:Int) (tt1 tt2 tu1 tu2:Value) (tc1 tc2 td1 td2:List Nat)
  (ha:QR w w.heap.size (.agg #[.bool tn,ts0,.bool tm,ts1]) tn ta tm tb) (hb:QR w w.heap.size (.agg #[.bool tn2,ts2,.bool tm2,ts3]) tn2 ta2 tm2 tb2) (hl1:0≤tl1∧tl1≤255) (hl2:0≤tl2∧tl2≤255) (C8:0≤tk1∧tk1≤255) (D8:0≤tk2∧tk2≤255) (ht1:RW w w.heap.size tt1 tc1) (ht2:RW w w.heap.size tt2 tc2) (hu1:RW w w.heap.size tu1 td1) (hu2:RW w w.heap.size tu2 td2)
  (dz1 dz2:Bool) (dzl dzk:Int) (dzs dzt:Value) (de1 de2:List Nat) (hzl:0≤dzl∧dzl≤255) (hzs:RW w w.heap.size dzs de1) (hzk:0≤dzk∧dzk≤255) (hzt:RW w w.heap.size dzt de2) :
  Calls Tryz.prog 6 #[.agg #[.bool tn,ts0,.bool tm,ts1,.bool tn2,ts2,.bool tm2,ts3,.bool tx1,.int .u8 tl1,tt1,.bool tx2,.int .u8 tl2,tt2,.bool ty1,.int .u8 tk1,tu1,.bool ty2,.int .u8 tk2,tu2],.agg #[.bool dz1,.int .u8 dzl,dzs,.bool dz2,.int .u8 dzk,dzt]] w fun e w'=>Below w.heap.size w w'∧e=.returned (.bool true):=by
 have HK:=zz (And.intro hl1 (And.intro hl2 (And.intro C8 D8)));have HA:=zz ha;have HB:=zz hb;have H1:=zz ht1;have H2:=zz ht2;have H3:=zz hu1;have H4:=zz hu2;clear hl1 hl2 C8 D8 ha hb ht1 ht2 hu1 hu2
 have HZK:=zz (And.intro hzl hzk);have HZS:=zz hzs;have HZT:=zz hzt;clear hzl hzk hzs hzt
 obtain⟨w0,hw0⟩:∃ w0:World,w0=((w.alloc (.cells #[.bool tn,ts0,.bool tm,ts1,.bool tn2,ts2,.bool tm2,ts3,.bool tx1,.int .u8 tl1,tt1,.bool tx2,.int .u8 tl2,tt2,.bool ty1,.int .u8 tk1,tu1,.bool ty2,.int .u8 tk2,tu2] 33)).alloc (.cells #[.bool dz1,.int .u8 dzl,dzs,.bool dz2,.int .u8 dzk,dzt] 31)):=⟨_,rfl⟩
 have B0:=zz (show Below w.heap.size w w0 by rw[hw0];(repeat' (first | exact Below.refl _ _ | refine Below.drew ?_ | refine Below.alloc ?_ (by first | exact Nat.le_refl _ | (simp;done) | (simp;omega)) _)))
 have z0:w.heap.size+2≤w0.heap.size:=by rw[hw0];simp
 have Lt:CB w0 (w.heap.size) 33 #[.bool tn,ts0,.bool tm,ts1,.bool tn2,ts2,.bool tm2,ts3,.bool tx1,.int .u8 tl1,tt1,.bool tx2,.int .u8 tl2,tt2,.bool ty1,.int .u8 tk1,tu1,.bool ty2,.int .u8 tk2,tu2]:=by rw[hw0];have h:=(CB.new w 33 #[.bool tn,ts0,.bool tm,ts1,.bool tn2,ts2,.bool tm2,ts3,.bool tx1,.int .u8 tl1,tt1,.bool tx2,.int .u8 tl2,tt2,.bool ty1,.int .u8 tk1,tu1,.bool ty2,.int .u8 tk2,tu2]).alloc (.cells #[.bool dz1,.int .u8 dzl,dzs,.bool dz2,.int .u8 dzk,dzt] 31);simpa using h
 have Lz:CB w0 (w.heap.size+1) 31 #[.bool dz1,.int .u8 dzl,dzs,.bool dz2,.int .u8 dzk,dzt]:=by rw[hw0];have h:=CB.new (w.alloc (.cells #[.bool tn,ts0,.bool tm,ts1,.bool tn2,ts2,.bool tm2,ts3,.bool tx1,.int .u8 tl1,tt1,.bool tx2,.int .u8 tl2,tt2,.bool ty1,.int .u8 tk1,tu1,.bool ty2,.int .u8 tk2,tu2] 33)) 31 #[.bool dz1,.int .u8 dzl,dzs,.bool dz2,.int .u8 dzk,dzt];simpa using h
 replace HA:=zz (QR.step HA.out B0.out)
 replace HB:=zz (QR.step HB.out B0.out)
 replace H1:=zz (RW.step H1.out B0.out)
 replace H2:=zz (RW.step H2.out B0.out)
 replace H3:=zz (RW.step H3.out B0.out)
 replace H4:=zz (RW.step H4.out B0.out)
 replace HZS:=zz (RW.step HZS.out B0.out)
 replace HZT:=zz (RW.step HZT.out B0.out)
 go_enter Tryz.func6,Tryz.ntmps6
 go_upto_region 1 with (fail)
 rw[← hw0];clear hw0
 go_wp2_with fail
 refine(worksQ_any _ (G.step B0.out) (M.step B0.out)).mono ?_
 rintro e w1 ⟨E8,rfl⟩
 have B2:=zz E8
 have z2:=B2.out.size
 have F8:=zz (B0.out.trans (B2.out.mono B0.out.size))
 clear E8
 have t3:=CB.step Lt B2.out
 go_wp2_with (refine wpList_load_row rfl _ _ rfl _ rfl _ _ (0,0) _ t3 rfl rfl rfl ?_)
 have W6:=zz (QR.step HA.out B2.out)
 have X6:=zz (QR.step HB.out B2.out)
 have Y6:=zz (RW.step H1.out B2.out)
 have Z6:=zz (RW.step H2.out B2.out)
 have u3:=zz (RW.step H3.out B2.out)
 have v3:=zz (RW.step H4.out B2.out)
 refine(pairsQ_any _ tn tm tn2 tm2 ts0 ts1 ts2 ts3 ta tb ta2 tb2 W6.out X6.out tx1 tx2 ty1 ty2 tl1 tl2 tk1 tk2 tt1 tt2 tu1 tu2 tc1 tc2 td1 td2 HK.out.1 HK.out.2.1 HK.out.2.2.1 HK.out.2.2.2 Y6.out Z6.out u3.out v3.out).mono ?_
 rintro e w5 ⟨G8,g,rfl,hpq⟩
 have B12:=zz G8
 have z12:=B12.out.size
 have N1:=zz (F8.out.trans (B12.out.mono F8.out.size))
 clear G8
 have HPQ:=zz hpq;clear hpq
 go_wp2
 have GXk:=zz (G.step N1.out);have MXk:=zz (M.step N1.out)
 go_loopw [27] (fun iv wr=>∃ k:Nat,k≤2∧iv=.int .i64 k∧Hid (Below w5.heap.size w5 wr)) (fun iv _=>2-(intOf iv).toNat)
 case atStart=>exact⟨0,Nat.zero_le _,rfl,zz (Below.refl _ _)⟩
 case round=>
  obtain⟨k,hkn,rfl,HRk⟩:=hrel
  obtain⟨wk,hwk⟩:∃ x:World,x=wr:=⟨_,rfl⟩;subst hwk
  have zrk:=HRk.out.size
  by_cases hltk:k<2
  ·have hltki:(k:Int)<2:=by omega
   have hgeki:(0:Int)≤(k:Int):=by omega
   have w3:=zz (PairsQ.step HPQ.out HRk.out)
   obtain⟨pn,pm,pn2,pm2,pA,pA',pB,pB',pl,pc,pl',pc',pk,pd,pk',pd',e0,e1,e2,e3,e4,e5,e6,e7,q,r,hq1,hr1,hq,hr⟩:=PairsQ.drawn w3.out k hltk
   have HLQ:=zz hq1;have HLR:=zz hr1;have HQ:=zz hq;have HRR:=zz hr;clear hq1 hr1 hq hr
   go_upto_region 6 with (fail)
   clear e0 e1 e2 e3 e4 e5 e6 e7
   obtain⟨w15,G1⟩:∃ w15:World,w15=(wk.alloc (.cells #[.bool pn,.slice pA pl pc,.bool pm,.slice pA' pl' pc',.bool pn2,.slice pB pk pd,.bool pm2,.slice pB' pk' pd'] 37)):=⟨_,rfl⟩;rw[← G1]
   have y3:Below wk.heap.size wk w15:=by rw[G1];(repeat' (first | exact Below.refl _ _ | refine Below.drew ?_ | refine Below.alloc ?_ (by first | exact Nat.le_refl _ | (simp;done) | (simp;omega)) _))
   have O1:CB w15 (wk.heap.size) 37 #[.bool pn,.slice pA pl pc,.bool pm,.slice pA' pl' pc',.bool pn2,.slice pB pk pd,.bool pm2,.slice pB' pk' pd']:=by rw[G1];have h:=CB.new wk 37 #[.bool pn,.slice pA pl pc,.bool pm,.slice pA' pl' pc',.bool pn2,.slice pB pk pd,.bool pm2,.slice pB' pk' pd'];simpa using h
   have za15:wk.heap.size+1≤w15.heap.size:=by rw[G1];simp
   have B16:=zz y3
   have z16:=B16.out.size
   have z3:=zz (HRk.out.trans (B16.out.mono HRk.out.size))
   clear y3 G1
   refine Flow.runS [⟨0,31,fun fv fw=>fv=.pointer (some ⟨wk.heap.size,0,none⟩)⟩,⟨1,32,fun fv fw=>fv=.agg #[.bool pn,.slice pA pl pc,.bool pm,.slice pA' pl' pc']⟩,⟨4,35,fun fv fw=>fv=.agg #[.bool dz1,.int .u8 dzl,dzs,.bool dz2,.int .u8 dzk,dzt]⟩,⟨5,36,fun fv fw=>∃ c,QL 47 47 c∧QV fw fw.heap.size fv c⟩,⟨6,7,fun fv fw=>∃ b,fv=.pointer (some ⟨b,0,none⟩)∧CB fw b 26 #[.bool false,.slice none 0 0,.bool false,.slice none 0 0]⟩,⟨7,8,fun fv fw=>∃ b,fv=.pointer (some ⟨b,0,none⟩)∧CB fw b 26 #[.bool false,.slice none 0 0,.bool false,.slice none 0 0]⟩,⟨8,9,fun fv fw=>∃ b,fv=.pointer (some ⟨b,0,none⟩)∧CB fw b 26 #[.bool false,.slice none 0 0,.bool false,.slice none 0 0]⟩] [⟨2,33,fun fv fw=>fv=.pointer (some ⟨wk.heap.size,4,none⟩)⟩,⟨3,34,fun fv fw=>fv=.agg #[.bool pn2,.slice pB pk pd,.bool pm2,.slice pB' pk' pd']⟩] [6,7,8] 3 10 (by kernel_rfl) (by kernel_rfl) (by kernel_rfl) (fun _ _ _ _ _ h=>h) ?_ ?_ ?_ ?_ (by kernel_rfl)
   ·refine(a0 (a0 (a0 (all_cons (fun v w1 w2 h hb=>let ⟨q,l,h⟩:=h;⟨q,l,h.step hb⟩) (all_cons (fun v w1 w2 h hb=>let ⟨b,e,h⟩:=h;⟨b,e,h.step hb⟩) (all_cons (fun v w1 w2 h hb=>let ⟨b,e,h⟩:=h;⟨b,e,h.step hb⟩) (all_cons (fun v w1 w2 h hb=>let ⟨b,e,h⟩:=h;⟨b,e,h.step hb⟩) (a0 (a0 all_nil)))))))))
   ·refine(all_cons ?_ (all_cons ?_ (all_cons ?_ (all_cons ?_ (all_cons ?_ (all_cons ?_ (all_cons ?_ all_nil)))))))
    ·intro xs W9 b0 g0
     have q9:=zz b0;have X9:=b0.size;clear b0
     clear g0
     refine wpOp_step (o:=_) rfl (fun K hK=>?_)
     simp only[FL]
     go_simp
     refine hK _ _ ⟨.pointer (some ⟨wk.heap.size,0,none⟩),by kernel_rfl,Below.refl _ _,rfl,nF⟩
    ·intro xs Y9 b0 g0
     have a7:=zz b0;have Z9:=b0.size;clear b0
     have f0:(xs 0)=.pointer (some ⟨wk.heap.size,0,none⟩):=g0 _ (m_ 0 rfl) (by kernel_rfl)
     clear g0
     refine wpOp_step (o:=_) rfl (fun K hK=>?_)
     simp only[FL]
     have u1:=CB.step O1 a7.out
     have r9:=u1.cell 0 rfl
     have s9:=u1.cell 1 rfl
     have t9:=u1.cell 2 rfl
     have u9:=u1.cell 3 rfl
     go_simp
     refine hK _ _ ⟨.agg #[.bool pn,.slice pA pl pc,.bool pm,.slice pA' pl' pc'],by simp only[FL,f0] <;> kernel_rfl,Below.refl _ _,rfl,nF⟩
    ·intro xs a10 b0 g0
     have b7:=zz b0;have b10:=b0.size;clear b0
     clear g0
     refine wpOp_step (o:=_) rfl (fun K hK=>?_)
     simp only[FL]
     have P1_3_24:=zz (B2.out.trans (B12.out.mono B2.out.size))
     have P1_4_25:=zz (P1_3_24.out.trans (HRk.out.mono P1_3_24.out.size))
     have P1_5_26:=zz (P1_4_25.out.trans (B16.out.mono P1_4_25.out.size))
     have P1_6_27:=zz (P1_5_26.out.trans (b7.out.mono P1_5_26.out.size))
     have Z0:=CB.step Lz P1_6_27.out
     have v9:=Z0.cell 0 rfl
     have w9:=Z0.cell 1 rfl
     have x9:=Z0.cell 2 rfl
     have y9:=Z0.cell 3 rfl
     have z9:=Z0.cell 4 rfl
     have A9:=Z0.cell 5 rfl
     go_simp
     refine hK _ _ ⟨.agg #[.bool dz1,.int .u8 dzl,dzs,.bool dz2,.int .u8 dzk,dzt],by kernel_rfl,Below.refl _ _,rfl,nF⟩
    ·intro xs c10 b0 g0
     have c7:=zz b0;have d10:=b0.size;clear b0
     have f4:(xs 4)=.agg #[.bool dz1,.int .u8 dzl,dzs,.bool dz2,.int .u8 dzk,dzt]:=g0 _ (m_ 2 rfl) (by kernel_rfl)
     clear g0
     refine wpOp_step (o:=_) rfl (fun K hK=>?_)
     simp only[FL]
     go_simp
     have P1_3_30:=zz (B2.out.trans (B12.out.mono B2.out.size))
     have P1_4_31:=zz (P1_3_30.out.trans (HRk.out.mono P1_3_30.out.size))
     have P1_5_32:=zz (P1_4_31.out.trans (B16.out.mono P1_4_31.out.size))
     have P1_6_33:=zz (P1_5_32.out.trans (c7.out.mono P1_5_32.out.size))
     have r3:=zz (RW.step HZS.out P1_6_33.out)
     have s3:=zz (RW.step HZT.out P1_6_33.out)
     (with_reducible refine(DShortQ_any _ dz1 dz2 dzl dzk dzs dzt de1 de2 HZK.out.1.1 HZK.out.1.2 r3.out HZK.out.2.1 HZK.out.2.2 s3.out).mono ?_)
     rintro e wc36 ⟨H8,c36,l36,v36,rfl,I8⟩
     refine hK _ _ ⟨v36,by simp only[FL,f4] <;> kernel_rfl,H8,⟨c36,l36,I8⟩,nF⟩
    ·intro xs J8 b0 g0
     have B9:=zz b0;have e10:=b0.size;clear b0
     clear g0
     refine wpOp_step (o:=_) rfl (fun K hK=>?_)
     simp only[FL]
     go_simp
     refine hK _ _ ⟨.pointer (some ⟨J8.heap.size,0,none⟩),by kernel_rfl,(Below.refl _ _).alloc (Nat.le_refl _) _,⟨_,rfl,CB.new _ _ _⟩,fun _=>⟨_,rfl,Nat.le_refl _,by simp⟩⟩
    ·intro xs K8 b0 g0
     have C9:=zz b0;have f10:=b0.size;clear b0
     clear g0
     refine wpOp_step (o:=_) rfl (fun K hK=>?_)
     simp only[FL]
     go_simp
     refine hK _ _ ⟨.pointer (some ⟨K8.heap.size,0,none⟩),by kernel_rfl,(Below.refl _ _).alloc (Nat.le_refl _) _,⟨_,rfl,CB.new _ _ _⟩,fun _=>⟨_,rfl,Nat.le_refl _,by simp⟩⟩
    ·intro xs L8 b0 g0
     have D9:=zz b0;have g10:=b0.size;clear b0
     clear g0
     refine wpOp_step (o:=_) rfl (fun K hK=>?_)
     simp only[FL]
     go_simp
     refine hK _ _ ⟨.pointer (some ⟨L8.heap.size,0,none⟩),by kernel_rfl,(Below.refl _ _).alloc (Nat.le_refl _) _,⟨_,rfl,CB.new _ _ _⟩,fun _=>⟨_,rfl,Nat.le_refl _,by simp⟩⟩
   ·refine(all_cons ?_ (all_cons ?_ all_nil))
    ·intro xs h10 b0 g0
     have E9:=zz b0;have i10:=b0.size;clear b0
     clear g0
     refine⟨_,.pointer (some ⟨wk.heap.size,4,none⟩),rfl,Or.inl ⟨by rfl,fun j10 hS=>?_⟩,rfl⟩
     have F9:=zz hS;have k10:=hS.size;clear hS
     simp only[FL]
     go_simp
    ·intro xs l10 b0 g0
     have G9:=zz b0;have m10:=b0.size;clear b0
     have f2:(xs 2)=.pointer (some ⟨wk.heap.size,4,none⟩):=g0 _ (m_ 7 rfl) (by kernel_rfl)
     clear g0
     refine⟨_,.agg #[.bool pn2,.slice pB pk pd,.bool pm2,.slice pB' pk' pd'],rfl,Or.inl ⟨by rfl,fun n10 hS=>?_⟩,rfl⟩
     have d7:=zz hS;have o10:=hS.size;clear hS
     have v1:=CB.step O1 d7.out
     have H9:=v1.cell 4 rfl
     have I9:=v1.cell 5 rfl
     have J9:=v1.cell 6 rfl
     have K9:=v1.cell 7 rfl
     simp only[FL]
     go_simp
   ·intro xs wf46 hbf hf hn hd
    have f0:(xs 0)=.pointer (some ⟨wk.heap.size,0,none⟩):=hf _ (m_ 0 rfl)
    have f1:(xs 1)=.agg #[.bool pn,.slice pA pl pc,.bool pm,.slice pA' pl' pc']:=hf _ (m_ 1 rfl)
    have f4:(xs 4)=.agg #[.bool dz1,.int .u8 dzl,dzs,.bool dz2,.int .u8 dzk,dzt]:=hf _ (m_ 2 rfl)
    have f5:∃ c,QL 47 47 c∧QV wf46 wf46.heap.size (xs 5) c:=hf _ (m_ 3 rfl)
    have f6:∃ b,(xs 6)=.pointer (some ⟨b,0,none⟩)∧CB wf46 b 26 #[.bool false,.slice none 0 0,.bool false,.slice none 0 0]:=hf _ (m_ 4 rfl)
    have f7:∃ b,(xs 7)=.pointer (some ⟨b,0,none⟩)∧CB wf46 b 26 #[.bool false,.slice none 0 0,.bool false,.slice none 0 0]:=hf _ (m_ 5 rfl)
    have f8:∃ b,(xs 8)=.pointer (some ⟨b,0,none⟩)∧CB wf46 b 26 #[.bool false,.slice none 0 0,.bool false,.slice none 0 0]:=hf _ (m_ 6 rfl)
    have f2:(xs 2)=.pointer (some ⟨wk.heap.size,4,none⟩):=hf _ (m_ 7 rfl)
    have f3:(xs 3)=.agg #[.bool pn2,.slice pB pk pd,.bool pm2,.slice pB' pk' pd']:=hf _ (m_ 8 rfl)
    have n6:=hn 6 (by decide)
    have n7:=hn 7 (by decide)
    have n8:=hn 8 (by decide)
    have l2:=hd 6 (by decide) 7 (by decide) (by decide)
    have m2:=hd 6 (by decide) 8 (by decide) (by decide)
    have n2:=hd 7 (by decide) 6 (by decide) (by decide)
    have o2:=hd 7 (by decide) 8 (by decide) (by decide)
    have p2:=hd 8 (by decide) 6 (by decide) (by decide)
    have q2:=hd 8 (by decide) 7 (by decide) (by decide)
    clear hf hn hd
    simp only[FL]
    have B47:=zz hbf
    have z47:=B47.out.size
    have M8:=zz (z3.out.trans (B47.out.mono z3.out.size))
    clear hbf
    generalize xs 0=x0,xs 1=x1,xs 4=x4,xs 5=x5,xs 6=x6,xs 7=x7,xs 8=x8,xs 2=x2,xs 3=x3 at *
    obtain rfl:=f0
    obtain rfl:=f1
    obtain rfl:=f4
    obtain⟨c,hcl,hcv⟩:=f5;have HLC:=zz hcl;clear hcl
    obtain⟨on49,oA49,ol49,oc49,oB49,F0,od49,rfl,ha49,A3,hc49⟩:=hcv
    have g7:=zz (show QV wf46 wf46.heap.size (.agg #[.bool on49,.slice oA49 ol49 oc49,.bool false,.slice oB49 F0 od49]) c from⟨_,_,_,_,_,_,_,rfl,ha49,A3,hc49⟩)
    clear ha49 A3 hc49
    obtain⟨bn50_a,rfl,Ln51_a⟩:=f6
    have hge_bn50_a:=zz (show w15.heap.size≤bn50_a by obtain⟨b',e,h,-⟩:=n6;injection e with e;injection e with e;injection e with e _ _;omega)
    clear n6
    have hgb_bn50_a:=Ln51_a.lt;have hgc_bn50_a:=hge_bn50_a.out
    obtain⟨bn52_b,rfl,Ln53_b⟩:=f7
    have hge_bn52_b:=zz (show w15.heap.size≤bn52_b by obtain⟨b',e,h,-⟩:=n7;injection e with e;injection e with e;injection e with e _ _;omega)
    clear n7
    have hgb_bn52_b:=Ln53_b.lt;have hgc_bn52_b:=hge_bn52_b.out
    obtain⟨bn54_c,rfl,Ln55_c⟩:=f8
    have hge_bn54_c:=zz (show w15.heap.size≤bn54_c by obtain⟨b',e,h,-⟩:=n8;injection e with e;injection e with e;injection e with e _ _;omega)
    clear n8
    have hgb_bn54_c:=Ln55_c.lt;have hgc_bn54_c:=hge_bn54_c.out
    obtain rfl:=f2
    obtain rfl:=f3
    have j1:=zz (show bn50_a≠bn52_b from fun e=>l2 (by rw[e]))
    have k1:=zz (show bn50_a≠bn54_c from fun e=>m2 (by rw[e]))
    have l1:=zz (show bn52_b≠bn50_a from fun e=>n2 (by rw[e]))
    have m1:=zz (show bn52_b≠bn54_c from fun e=>o2 (by rw[e]))
    have n1:=zz (show bn54_c≠bn50_a from fun e=>p2 (by rw[e]))
    have o1:=zz (show bn54_c≠bn52_b from fun e=>q2 (by rw[e]))
    clear l2
    clear m2
    clear n2
    clear o2
    clear p2
    clear q2
    have h7:=Ln51_a.cell 0 rfl
    have i7:=Ln51_a.cell 1 rfl
    have j7:=Ln51_a.cell 2 rfl
    have k7:=Ln51_a.cell 3 rfl
    have q56_lt:=Ln51_a.lt
    have l7:=Ln51_a.frozen 0
    have m7:=Ln51_a.frozen 1
    have o7:=Ln51_a.frozen 2
    have p7:=Ln51_a.frozen 3
    have q57_lt:=Ln51_a.lt
    refine Early.next (i:=9) (by kernel_rfl) rfl (fun K hK=>?_)
    go_simp
    refine hK _ _ (fun _=>below_set1 (below_set1 (below_set1 (below_set1 (B47.out) hge_bn50_a.out _ _) hge_bn50_a.out _ _) hge_bn50_a.out _ _) hge_bn50_a.out _ _) ?_
    clear hK K
    (try simp only[Act.put,List.setIfInBounds_toArray,List.set_cons_zero,List.set_cons_succ])
    clear h7 i7 j7 k7 q56_lt l7 m7 o7 p7 q57_lt
    have P2_4_59:=zz (B12.out.trans (HRk.out.mono B12.out.size))
    have P2_5_60:=zz (P2_4_59.out.trans (B16.out.mono P2_4_59.out.size))
    have P2_6_61:=zz (P2_5_60.out.trans (B47.out.mono P2_5_60.out.size))
    have q7:=CB.step t3 P2_6_61.out
    have P1_3_63:=zz (B2.out.trans (B12.out.mono B2.out.size))
    have P1_4_64:=zz (P1_3_63.out.trans (HRk.out.mono P1_3_63.out.size))
    have P1_5_65:=zz (P1_4_64.out.trans (B16.out.mono P1_4_64.out.size))
    have P1_6_66:=zz (P1_5_65.out.trans (B47.out.mono P1_5_65.out.size))
    have r7:=CB.step Lz P1_6_66.out
    have s7:=CB.step O1 B47.out
    obtain⟨w68,q0⟩:∃ w68:World,w68=((((wf46.setCell ⟨bn50_a,0,none⟩ (.bool pn)).setCell ⟨bn50_a,1,none⟩ (.slice pA pl pc)).setCell ⟨bn50_a,2,none⟩ (.bool pm)).setCell ⟨bn50_a,3,none⟩ (.slice pA' pl' pc')):=⟨_,rfl⟩
    rw[← q0]
    have S68:=zz (show Soft wf46 w68 by rw[q0];exact(((CB.soft1 (Ln51_a) (by simp[noInt_b,noInt_s]) 0 (.bool pn)).trans (CB.soft1 ((show CB _ (bn50_a) 26 #[.bool pn,.slice none 0 0,.bool false,.slice none 0 0] from CB.set (Ln51_a) 0 (.bool pn))) (by simp[noInt_b,noInt_s]) 1 (.slice pA pl pc))).trans (CB.soft1 ((show CB _ (bn50_a) 26 #[.bool pn,.slice pA pl pc,.bool false,.slice none 0 0] from CB.set ((show CB _ (bn50_a) 26 #[.bool pn,.slice none 0 0,.bool false,.slice none 0 0] from CB.set (Ln51_a) 0 (.bool pn))) 1 (.slice pA pl pc))) (by simp[noInt_b,noInt_s]) 2 (.bool pm))).trans (CB.soft1 ((show CB _ (bn50_a) 26 #[.bool pn,.slice pA pl pc,.bool pm,.slice none 0 0] from CB.set ((show CB _ (bn50_a) 26 #[.bool pn,.slice pA pl pc,.bool false,.slice none 0 0] from CB.set ((show CB _ (bn50_a) 26 #[.bool pn,.slice none 0 0,.bool false,.slice none 0 0] from CB.set (Ln51_a) 0 (.bool pn))) 1 (.slice pA pl pc))) 2 (.bool pm))) (by simp[noInt_b,noInt_s]) 3 (.slice pA' pl' pc')))
    have t7:CB w68 (w.heap.size) 33 #[.bool tn,ts0,.bool tm,ts1,.bool tn2,ts2,.bool tm2,ts3,.bool tx1,.int .u8 tl1,tt1,.bool tx2,.int .u8 tl2,tt2,.bool ty1,.int .u8 tk1,tu1,.bool ty2,.int .u8 tk2,tu2]:=by rw[q0];exact CB.far (p:=⟨bn50_a,3,none⟩) (CB.far (p:=⟨bn50_a,2,none⟩) (CB.far (p:=⟨bn50_a,1,none⟩) (CB.far (p:=⟨bn50_a,0,none⟩) (q7) (show w.heap.size≠bn50_a from by omega) _) (show w.heap.size≠bn50_a from by omega) _) (show w.heap.size≠bn50_a from by omega) _) (show w.heap.size≠bn50_a from by omega) _
    have u7:CB w68 (w.heap.size+1) 31 #[.bool dz1,.int .u8 dzl,dzs,.bool dz2,.int .u8 dzk,dzt]:=by rw[q0];exact CB.far (p:=⟨bn50_a,3,none⟩) (CB.far (p:=⟨bn50_a,2,none⟩) (CB.far (p:=⟨bn50_a,1,none⟩) (CB.far (p:=⟨bn50_a,0,none⟩) (r7) (show w.heap.size+1≠bn50_a from by omega) _) (show w.heap.size+1≠bn50_a from by omega) _) (show w.heap.size+1≠bn50_a from by omega) _) (show w.heap.size+1≠bn50_a from by omega) _
    have v7:CB w68 (wk.heap.size) 37 #[.bool pn,.slice pA pl pc,.bool pm,.slice pA' pl' pc',.bool pn2,.slice pB pk pd,.bool pm2,.slice pB' pk' pd']:=by rw[q0];exact CB.far (p:=⟨bn50_a,3,none⟩) (CB.far (p:=⟨bn50_a,2,none⟩) (CB.far (p:=⟨bn50_a,1,none⟩) (CB.far (p:=⟨bn50_a,0,none⟩) (s7) (show wk.heap.size≠bn50_a from by omega) _) (show wk.heap.size≠bn50_a from by omega) _) (show wk.heap.size≠bn50_a from by omega) _) (show wk.heap.size≠bn50_a from by omega) _
    have k0:CB w68 (bn52_b) 26 #[.bool false,.slice none 0 0,.bool false,.slice none 0 0]:=by rw[q0];exact CB.far (p:=⟨bn50_a,3,none⟩) (CB.far (p:=⟨bn50_a,2,none⟩) (CB.far (p:=⟨bn50_a,1,none⟩) (CB.far (p:=⟨bn50_a,0,none⟩) (Ln53_b) (show bn52_b≠bn50_a from(by have h:=l1.out;exact h)) _) (show bn52_b≠bn50_a from(by have h:=l1.out;exact h)) _) (show bn52_b≠bn50_a from(by have h:=l1.out;exact h)) _) (show bn52_b≠bn50_a from(by have h:=l1.out;exact h)) _
    have w7:CB w68 (bn54_c) 26 #[.bool false,.slice none 0 0,.bool false,.slice none 0 0]:=by rw[q0];exact CB.far (p:=⟨bn50_a,3,none⟩) (CB.far (p:=⟨bn50_a,2,none⟩) (CB.far (p:=⟨bn50_a,1,none⟩) (CB.far (p:=⟨bn50_a,0,none⟩) (Ln55_c) (show bn54_c≠bn50_a from(by have h:=n1.out;exact h)) _) (show bn54_c≠bn50_a from(by have h:=n1.out;exact h)) _) (show bn54_c≠bn50_a from(by have h:=n1.out;exact h)) _) (show bn54_c≠bn50_a from(by have h:=n1.out;exact h)) _
    have y7:CB w68 (bn50_a) 26 #[.bool pn,.slice pA pl pc,.bool pm,.slice pA' pl' pc']:=by rw[q0];exact(show CB _ (bn50_a) 26 #[.bool pn,.slice pA pl pc,.bool pm,.slice pA' pl' pc'] from CB.set ((show CB _ (bn50_a) 26 #[.bool pn,.slice pA pl pc,.bool pm,.slice none 0 0] from CB.set ((show CB _ (bn50_a) 26 #[.bool pn,.slice pA pl pc,.bool false,.slice none 0 0] from CB.set ((show CB _ (bn50_a) 26 #[.bool pn,.slice none 0 0,.bool false,.slice none 0 0] from CB.set (Ln51_a) 0 (.bool pn))) 1 (.slice pA pl pc))) 2 (.bool pm))) 3 (.slice pA' pl' pc'))
    have z7:=zz (show Below w5.heap.size w5 w68 by rw[q0];exact below_set1 (below_set1 (below_set1 (below_set1 (M8.out) (by omega) _ _) (by omega) _ _) (by omega) _ _) (by omega) _ _)
    have p10:w68.heap.size=wf46.heap.size:=by rw[q0];simp[World.setCell]
    clear q0
    have A7:=k0.cell 0 rfl
    have B7:=k0.cell 1 rfl
    have C7:=k0.cell 2 rfl
    have D7:=k0.cell 3 rfl
    have q69_lt:=k0.lt
    have E7:=k0.frozen 0
    have F7:=k0.frozen 1
    have G7:=k0.frozen 2
    have H7:=k0.frozen 3
    have q70_lt:=k0.lt
    refine Early.next (i:=10) (by kernel_rfl) rfl (fun K hK=>?_)
    go_simp
    refine hK _ _ (fun h=>absurd h (by decide)) ?_
    clear hK K
    (try simp only[Act.put,List.setIfInBounds_toArray,List.set_cons_zero,List.set_cons_succ])
    clear A7 B7 C7 D7 q69_lt E7 F7 G7 H7 q70_lt
    obtain⟨w71,r0⟩:∃ w71:World,w71=((((w68.setCell ⟨bn52_b,0,none⟩ (.bool pn2)).setCell ⟨bn52_b,1,none⟩ (.slice pB pk pd)).setCell ⟨bn52_b,2,none⟩ (.bool pm2)).setCell ⟨bn52_b,3,none⟩ (.slice pB' pk' pd')):=⟨_,rfl⟩
    rw[← r0]
    have S71:=zz (show Soft w68 w71 by rw[r0];exact(((CB.soft1 (k0) (by simp[noInt_b,noInt_s]) 0 (.bool pn2)).trans (CB.soft1 ((show CB _ (bn52_b) 26 #[.bool pn2,.slice none 0 0,.bool false,.slice none 0 0] from CB.set (k0) 0 (.bool pn2))) (by simp[noInt_b,noInt_s]) 1 (.slice pB pk pd))).trans (CB.soft1 ((show CB _ (bn52_b) 26 #[.bool pn2,.slice pB pk pd,.bool false,.slice none 0 0] from CB.set ((show CB _ (bn52_b) 26 #[.bool pn2,.slice none 0 0,.bool false,.slice none 0 0] from CB.set (k0) 0 (.bool pn2))) 1 (.slice pB pk pd))) (by simp[noInt_b,noInt_s]) 2 (.bool pm2))).trans (CB.soft1 ((show CB _ (bn52_b) 26 #[.bool pn2,.slice pB pk pd,.bool pm2,.slice none 0 0] from CB.set ((show CB _ (bn52_b) 26 #[.bool pn2,.slice pB pk pd,.bool false,.slice none 0 0] from CB.set ((show CB _ (bn52_b) 26 #[.bool pn2,.slice none 0 0,.bool false,.slice none 0 0] from CB.set (k0) 0 (.bool pn2))) 1 (.slice pB pk pd))) 2 (.bool pm2))) (by simp[noInt_b,noInt_s]) 3 (.slice pB' pk' pd')))
    have I7:CB w71 (w.heap.size) 33 #[.bool tn,ts0,.bool tm,ts1,.bool tn2,ts2,.bool tm2,ts3,.bool tx1,.int .u8 tl1,tt1,.bool tx2,.int .u8 tl2,tt2,.bool ty1,.int .u8 tk1,tu1,.bool ty2,.int .u8 tk2,tu2]:=by rw[r0];exact CB.far (p:=⟨bn52_b,3,none⟩) (CB.far (p:=⟨bn52_b,2,none⟩) (CB.far (p:=⟨bn52_b,1,none⟩) (CB.far (p:=⟨bn52_b,0,none⟩) (t7) (show w.heap.size≠bn52_b from by omega) _) (show w.heap.size≠bn52_b from by omega) _) (show w.heap.size≠bn52_b from by omega) _) (show w.heap.size≠bn52_b from by omega) _
    have J7:CB w71 (w.heap.size+1) 31 #[.bool dz1,.int .u8 dzl,dzs,.bool dz2,.int .u8 dzk,dzt]:=by rw[r0];exact CB.far (p:=⟨bn52_b,3,none⟩) (CB.far (p:=⟨bn52_b,2,none⟩) (CB.far (p:=⟨bn52_b,1,none⟩) (CB.far (p:=⟨bn52_b,0,none⟩) (u7) (show w.heap.size+1≠bn52_b from by omega) _) (show w.heap.size+1≠bn52_b from by omega) _) (show w.heap.size+1≠bn52_b from by omega) _) (show w.heap.size+1≠bn52_b from by omega) _
    have K7:CB w71 (wk.heap.size) 37 #[.bool pn,.slice pA pl pc,.bool pm,.slice pA' pl' pc',.bool pn2,.slice pB pk pd,.bool pm2,.slice pB' pk' pd']:=by rw[r0];exact CB.far (p:=⟨bn52_b,3,none⟩) (CB.far (p:=⟨bn52_b,2,none⟩) (CB.far (p:=⟨bn52_b,1,none⟩) (CB.far (p:=⟨bn52_b,0,none⟩) (v7) (show wk.heap.size≠bn52_b from by omega) _) (show wk.heap.size≠bn52_b from by omega) _) (show wk.heap.size≠bn52_b from by omega) _) (show wk.heap.size≠bn52_b from by omega) _
    have L7:CB w71 (bn50_a) 26 #[.bool pn,.slice pA pl pc,.bool pm,.slice pA' pl' pc']:=by rw[r0];exact CB.far (p:=⟨bn52_b,3,none⟩) (CB.far (p:=⟨bn52_b,2,none⟩) (CB.far (p:=⟨bn52_b,1,none⟩) (CB.far (p:=⟨bn52_b,0,none⟩) (y7) (show bn50_a≠bn52_b from(by have h:=j1.out;exact h)) _) (show bn50_a≠bn52_b from(by have h:=j1.out;exact h)) _) (show bn50_a≠bn52_b from(by have h:=j1.out;exact h)) _) (show bn50_a≠bn52_b from(by have h:=j1.out;exact h)) _
    have l0:CB w71 (bn54_c) 26 #[.bool false,.slice none 0 0,.bool false,.slice none 0 0]:=by rw[r0];exact CB.far (p:=⟨bn52_b,3,none⟩) (CB.far (p:=⟨bn52_b,2,none⟩) (CB.far (p:=⟨bn52_b,1,none⟩) (CB.far (p:=⟨bn52_b,0,none⟩) (w7) (show bn54_c≠bn52_b from(by have h:=o1.out;exact h)) _) (show bn54_c≠bn52_b from(by have h:=o1.out;exact h)) _) (show bn54_c≠bn52_b from(by have h:=o1.out;exact h)) _) (show bn54_c≠bn52_b from(by have h:=o1.out;exact h)) _
    have M7:CB w71 (bn52_b) 26 #[.bool pn2,.slice pB pk pd,.bool pm2,.slice pB' pk' pd']:=by rw[r0];exact(show CB _ (bn52_b) 26 #[.bool pn2,.slice pB pk pd,.bool pm2,.slice pB' pk' pd'] from CB.set ((show CB _ (bn52_b) 26 #[.bool pn2,.slice pB pk pd,.bool pm2,.slice none 0 0] from CB.set ((show CB _ (bn52_b) 26 #[.bool pn2,.slice pB pk pd,.bool false,.slice none 0 0] from CB.set ((show CB _ (bn52_b) 26 #[.bool pn2,.slice none 0 0,.bool false,.slice none 0 0] from CB.set (k0) 0 (.bool pn2))) 1 (.slice pB pk pd))) 2 (.bool pm2))) 3 (.slice pB' pk' pd'))
    have N7:=zz (show Below w5.heap.size w5 w71 by rw[r0];exact below_set1 (below_set1 (below_set1 (below_set1 (z7.out) (by omega) _ _) (by omega) _ _) (by omega) _ _) (by omega) _ _)
    have q10:w71.heap.size=w68.heap.size:=by rw[r0];simp[World.setCell]
    clear r0
    have O7:=l0.cell 0 rfl
    have P7:=l0.cell 1 rfl
    have Q7:=l0.cell 2 rfl
    have R7:=l0.cell 3 rfl
    have q72_lt:=l0.lt
    have S7:=l0.frozen 0
    have T7:=l0.frozen 1
    have U7:=l0.frozen 2
    have V7:=l0.frozen 3
    have q73_lt:=l0.lt
    refine Early.next (i:=11) (by kernel_rfl) rfl (fun K hK=>?_)
    go_simp
    refine hK _ _ (fun h=>absurd h (by decide)) ?_
    clear hK K
    (try simp only[Act.put,List.setIfInBounds_toArray,List.set_cons_zero,List.set_cons_succ])
    clear O7 P7 Q7 R7 q72_lt S7 T7 U7 V7 q73_lt
    obtain⟨w74,s0⟩:∃ w74:World,w74=((((w71.setCell ⟨bn54_c,0,none⟩ (.bool on49)).setCell ⟨bn54_c,1,none⟩ (.slice oA49 ol49 oc49)).setCell ⟨bn54_c,2,none⟩ (.bool false)).setCell ⟨bn54_c,3,none⟩ (.slice oB49 F0 od49)):=⟨_,rfl⟩
    rw[← s0]
    have S74:=zz (show Soft w71 w74 by rw[s0];exact(((CB.soft1 (l0) (by simp[noInt_b,noInt_s]) 0 (.bool on49)).trans (CB.soft1 ((show CB _ (bn54_c) 26 #[.bool on49,.slice none 0 0,.bool false,.slice none 0 0] from CB.set (l0) 0 (.bool on49))) (by simp[noInt_b,noInt_s]) 1 (.slice oA49 ol49 oc49))).trans (CB.soft1 ((show CB _ (bn54_c) 26 #[.bool on49,.slice oA49 ol49 oc49,.bool false,.slice none 0 0] from CB.set ((show CB _ (bn54_c) 26 #[.bool on49,.slice none 0 0,.bool false,.slice none 0 0] from CB.set (l0) 0 (.bool on49))) 1 (.slice oA49 ol49 oc49))) (by simp[noInt_b,noInt_s]) 2 (.bool false))).trans (CB.soft1 ((show CB _ (bn54_c) 26 #[.bool on49,.slice oA49 ol49 oc49,.bool false,.slice none 0 0] from CB.set ((show CB _ (bn54_c) 26 #[.bool on49,.slice oA49 ol49 oc49,.bool false,.slice none 0 0] from CB.set ((show CB _ (bn54_c) 26 #[.bool on49,.slice none 0 0,.bool false,.slice none 0 0] from CB.set (l0) 0 (.bool on49))) 1 (.slice oA49 ol49 oc49))) 2 (.bool false))) (by simp[noInt_b,noInt_s]) 3 (.slice oB49 F0 od49)))
    have r2:CB w74 (w.heap.size) 33 #[.bool tn,ts0,.bool tm,ts1,.bool tn2,ts2,.bool tm2,ts3,.bool tx1,.int .u8 tl1,tt1,.bool tx2,.int .u8 tl2,tt2,.bool ty1,.int .u8 tk1,tu1,.bool ty2,.int .u8 tk2,tu2]:=by rw[s0];exact CB.far (p:=⟨bn54_c,3,none⟩) (CB.far (p:=⟨bn54_c,2,none⟩) (CB.far (p:=⟨bn54_c,1,none⟩) (CB.far (p:=⟨bn54_c,0,none⟩) (I7) (show w.heap.size≠bn54_c from by omega) _) (show w.heap.size≠bn54_c from by omega) _) (show w.heap.size≠bn54_c from by omega) _) (show w.heap.size≠bn54_c from by omega) _
    have s2:CB w74 (w.heap.size+1) 31 #[.bool dz1,.int .u8 dzl,dzs,.bool dz2,.int .u8 dzk,dzt]:=by rw[s0];exact CB.far (p:=⟨bn54_c,3,none⟩) (CB.far (p:=⟨bn54_c,2,none⟩) (CB.far (p:=⟨bn54_c,1,none⟩) (CB.far (p:=⟨bn54_c,0,none⟩) (J7) (show w.heap.size+1≠bn54_c from by omega) _) (show w.heap.size+1≠bn54_c from by omega) _) (show w.heap.size+1≠bn54_c from by omega) _) (show w.heap.size+1≠bn54_c from by omega) _
    have t2:CB w74 (wk.heap.size) 37 #[.bool pn,.slice pA pl pc,.bool pm,.slice pA' pl' pc',.bool pn2,.slice pB pk pd,.bool pm2,.slice pB' pk' pd']:=by rw[s0];exact CB.far (p:=⟨bn54_c,3,none⟩) (CB.far (p:=⟨bn54_c,2,none⟩) (CB.far (p:=⟨bn54_c,1,none⟩) (CB.far (p:=⟨bn54_c,0,none⟩) (K7) (show wk.heap.size≠bn54_c from by omega) _) (show wk.heap.size≠bn54_c from by omega) _) (show wk.heap.size≠bn54_c from by omega) _) (show wk.heap.size≠bn54_c from by omega) _
    have a1:CB w74 (bn50_a) 26 #[.bool pn,.slice pA pl pc,.bool pm,.slice pA' pl' pc']:=by rw[s0];exact CB.far (p:=⟨bn54_c,3,none⟩) (CB.far (p:=⟨bn54_c,2,none⟩) (CB.far (p:=⟨bn54_c,1,none⟩) (CB.far (p:=⟨bn54_c,0,none⟩) (L7) (show bn50_a≠bn54_c from(by have h:=k1.out;exact h)) _) (show bn50_a≠bn54_c from(by have h:=k1.out;exact h)) _) (show bn50_a≠bn54_c from(by have h:=k1.out;exact h)) _) (show bn50_a≠bn54_c from(by have h:=k1.out;exact h)) _
    have b1:CB w74 (bn52_b) 26 #[.bool pn2,.slice pB pk pd,.bool pm2,.slice pB' pk' pd']:=by rw[s0];exact CB.far (p:=⟨bn54_c,3,none⟩) (CB.far (p:=⟨bn54_c,2,none⟩) (CB.far (p:=⟨bn54_c,1,none⟩) (CB.far (p:=⟨bn54_c,0,none⟩) (M7) (show bn52_b≠bn54_c from(by have h:=m1.out;exact h)) _) (show bn52_b≠bn54_c from(by have h:=m1.out;exact h)) _) (show bn52_b≠bn54_c from(by have h:=m1.out;exact h)) _) (show bn52_b≠bn54_c from(by have h:=m1.out;exact h)) _
    have W7:CB w74 (bn54_c) 26 #[.bool on49,.slice oA49 ol49 oc49,.bool false,.slice oB49 F0 od49]:=by rw[s0];exact(show CB _ (bn54_c) 26 #[.bool on49,.slice oA49 ol49 oc49,.bool false,.slice oB49 F0 od49] from CB.set ((show CB _ (bn54_c) 26 #[.bool on49,.slice oA49 ol49 oc49,.bool false,.slice none 0 0] from CB.set ((show CB _ (bn54_c) 26 #[.bool on49,.slice oA49 ol49 oc49,.bool false,.slice none 0 0] from CB.set ((show CB _ (bn54_c) 26 #[.bool on49,.slice none 0 0,.bool false,.slice none 0 0] from CB.set (l0) 0 (.bool on49))) 1 (.slice oA49 ol49 oc49))) 2 (.bool false))) 3 (.slice oB49 F0 od49))
    have u2:=zz (show Below w5.heap.size w5 w74 by rw[s0];exact below_set1 (below_set1 (below_set1 (below_set1 (N7.out) (by omega) _ _) (by omega) _ _) (by omega) _ _) (by omega) _ _)
    have r10:w74.heap.size=w71.heap.size:=by rw[s0];simp[World.setCell]
    clear s0
    refine Early.done (by kernel_rfl) ?_ _
    (try simp only[Exit.then])
    have L1:=zz (show QL 600 600 q from HLQ.out.mono (by decide) (by decide))
    have L2:=zz (show QL 600 600 r from HLR.out.mono (by decide) (by decide))
    have L3:=zz (show QL 600 600 c from HLC.out.mono (by decide) (by decide))
    have LS:=zz (show QL 600 600 (q+r) from(QL.add HLQ.out HLR.out).mono (by decide) (by decide))
    have LS2:=zz (show QL 600 600 (r+q) from(QL.add HLR.out HLQ.out).mono (by decide) (by decide))
    have HLS:=zz (show QL 189 94 (q+r) from(QL.add HLQ.out HLR.out).mono (by decide) (by decide))
    have EB:=zz (show q+r-r=q from Rat.add_sub_cancel);have EC:=zz (show q+r=r+q from Rat.add_comm q r)
    have HX1:=zz (show QL 94 94 (q*c) from(QL.mul HLQ.out HLC.out).mono (by decide) (by decide));have HY1:=zz (show QL 94 94 (r*c) from(QL.mul HLR.out HLC.out).mono (by decide) (by decide))
    have LX:=zz (show QL 600 600 (q*c) from HX1.out.mono (by decide) (by decide))
    have LY:=zz (show QL 600 600 (r*c) from HY1.out.mono (by decide) (by decide))
    have LM:=zz (show QL 600 600 (c*(q+r)) from(QL.mul HLC.out HLS.out).mono (by decide) (by decide))
    have LT:=zz (show QL 600 600 (q*c+r*c) from(QL.add HX1.out HY1.out).mono (by decide) (by decide))
    have ED:=zz (show q*c+r*c=c*(q+r) by rw[Rat.mul_add,Rat.mul_comm c q,Rat.mul_comm c r])
    have X7:=a1.cell 0 rfl
    have Y7:=a1.cell 1 rfl
    have Z7:=a1.cell 2 rfl
    have a8:=a1.cell 3 rfl
    have q77_lt:=a1.lt
    have b8:=b1.cell 0 rfl
    have c8:=b1.cell 1 rfl
    have d8:=b1.cell 2 rfl
    have e8:=b1.cell 3 rfl
    have q78_lt:=b1.lt
    go_wp2_with fail
    have v2:=zz (QV.soft HQ.out (((((Soft.of B16.out).trans (Soft.of B47.out)).trans (S68.out)).trans (S71.out)).trans (S74.out)))
    have y2:=zz (QV.soft HRR.out (((((Soft.of B16.out).trans (Soft.of B47.out)).trans (S68.out)).trans (S71.out)).trans (S74.out)))
    refine(QAdd_good _ _ _ q r v2.out y2.out L1.out L2.out).mono ?_
    rintro e w76 ⟨B3,v75,rfl,P1⟩
    have B81:=zz B3
    have z81:=B81.out.size
    have C3:=zz (u2.out.trans (B81.out.mono u2.out.size))
    clear B3
    clear X7 Y7 Z7 a8 q77_lt b8 c8 d8 e8 q78_lt
    have heq75:toldQ (q+r)=(some (q+r),0):=if_pos LS.out;rw[heq75] at P1;rw[heq75];clear heq75
    replace P1:QV w76 w76.heap.size v75 (q+r):=P1
    obtain⟨on83,oA83,ol83,oc83,oB83,c1,od83,rfl,ha83,D3,hc83⟩:=P1
    have g8:=zz (show QV w76 w76.heap.size (.agg #[.bool on83,.slice oA83 ol83 oc83,.bool false,.slice oB83 c1 od83]) (q+r) from⟨_,_,_,_,_,_,_,rfl,ha83,D3,hc83⟩)
    clear ha83 D3 hc83
    go_upto_region 8 with (fail)
    obtain⟨w84,I1⟩:∃ w84:World,w84=(w76.alloc (.cells #[.bool on83,.slice oA83 ol83 oc83,.bool false,.slice oB83 c1 od83] 26)):=⟨_,rfl⟩;rw[← I1]
    have E3:Below w76.heap.size w76 w84:=by rw[I1];(repeat' (first | exact Below.refl _ _ | refine Below.drew ?_ | refine Below.alloc ?_ (by first | exact Nat.le_refl _ | (simp;done) | (simp;omega)) _))
    have h8:CB w84 (w76.heap.size) 26 #[.bool on83,.slice oA83 ol83 oc83,.bool false,.slice oB83 c1 od83]:=by rw[I1];have h:=CB.new w76 26 #[.bool on83,.slice oA83 ol83 oc83,.bool false,.slice oB83 c1 od83];simpa using h
    have za84:w76.heap.size+1≤w84.heap.size:=by rw[I1];simp
    have B85:=zz E3
    have z85:=B85.out.size
    have F3:=zz (C3.out.trans (B85.out.mono C3.out.size))
    clear E3 I1
    have P9_11_90:=zz (B81.out.trans (B85.out.mono B81.out.size))
    have d1:=CB.step a1 P9_11_90.out
    have i8:=d1.cell 0 rfl
    have j8:=d1.cell 1 rfl
    have k8:=d1.cell 2 rfl
    have l8:=d1.cell 3 rfl
    have q91_lt:=d1.lt
    have g1:=CB.step b1 P9_11_90.out
    have m8:=g1.cell 0 rfl
    have o8:=g1.cell 1 rfl
    have p8:=g1.cell 2 rfl
    have q8:=g1.cell 3 rfl
    have q93_lt:=g1.lt
    go_wp2_with fail
    have A2:=zz (QV.step y2.out P9_11_90.out)
    have C2:=zz (QV.step v2.out P9_11_90.out)
    refine(QAdd_good _ _ _ r q A2.out C2.out L2.out L1.out).mono ?_
    rintro e w88 ⟨G3,v87,rfl,Q1⟩
    have B96:=zz G3
    have z96:=B96.out.size
    have I3:=zz (F3.out.trans (B96.out.mono F3.out.size))
    clear G3
    clear i8 j8 k8 l8 q91_lt m8 o8 p8 q8 q93_lt
    have heq87:toldQ (r+q)=(some (r+q),0):=if_pos LS2.out;rw[heq87] at Q1;rw[heq87];clear heq87
    replace Q1:QV w88 w88.heap.size v87 (r+q):=Q1
    obtain⟨on98,oA98,ol98,oc98,oB98,i1,od98,rfl,ha98,J3,hc98⟩:=Q1
    have r8:=zz (show QV w88 w88.heap.size (.agg #[.bool on98,.slice oA98 ol98 oc98,.bool false,.slice oB98 i1 od98]) (r+q) from⟨_,_,_,_,_,_,_,rfl,ha98,J3,hc98⟩)
    clear ha98 J3 hc98
    go_upto_region 9 with (fail)
    obtain⟨w99,J1⟩:∃ w99:World,w99=(w88.alloc (.cells #[.bool on98,.slice oA98 ol98 oc98,.bool false,.slice oB98 i1 od98] 26)):=⟨_,rfl⟩;rw[← J1]
    have K3:Below w88.heap.size w88 w99:=by rw[J1];(repeat' (first | exact Below.refl _ _ | refine Below.drew ?_ | refine Below.alloc ?_ (by first | exact Nat.le_refl _ | (simp;done) | (simp;omega)) _))
    have s8:CB w99 (w88.heap.size) 26 #[.bool on98,.slice oA98 ol98 oc98,.bool false,.slice oB98 i1 od98]:=by rw[J1];have h:=CB.new w88 26 #[.bool on98,.slice oA98 ol98 oc98,.bool false,.slice oB98 i1 od98];simpa using h
    have za99:w88.heap.size+1≤w99.heap.size:=by rw[J1];simp
    have B100:=zz K3
    have z100:=B100.out.size
    have D2:=zz (I3.out.trans (B100.out.mono I3.out.size))
    clear K3 J1
    have P11_13_105:=zz (B96.out.trans (B100.out.mono B96.out.size))
    have H0:=CB.step h8 P11_13_105.out
    have M3:=H0.cell 0 rfl
    have N3:=H0.cell 1 rfl
    have O3:=H0.cell 2 rfl
    have P3:=H0.cell 3 rfl
    have q106_lt:=H0.lt
    have I0:=CB.step g1 P11_13_105.out
    have Q3:=I0.cell 0 rfl
    have R3:=I0.cell 1 rfl
    have S3:=I0.cell 2 rfl
    have T3:=I0.cell 3 rfl
    have q108_lt:=I0.lt
    go_wp2_with fail
    have P10_12_109:=zz (B85.out.trans (B96.out.mono B85.out.size))
    have P10_13_110:=zz (P10_12_109.out.trans (B100.out.mono P10_12_109.out.size))
    have R1:=zz (QV.step g8.out P10_13_110.out)
    have S1:=zz (QV.step A2.out P11_13_105.out)
    refine(QSub_good _ _ _ (q+r) r R1.out S1.out LS.out L2.out).mono ?_
    rintro e w103 ⟨E2,v102,rfl,y1⟩
    have B113:=zz E2
    have z113:=B113.out.size
    have F2:=zz (D2.out.trans (B113.out.mono D2.out.size))
    clear E2
    clear M3 N3 O3 P3 q106_lt Q3 R3 S3 T3 q108_lt
    have heq102:toldQ (q+r-r)=(some q,0):=(congrArg toldQ EB.out).trans (if_pos L1.out);rw[heq102] at y1;rw[heq102];clear heq102
    replace y1:QV w103 w103.heap.size v102 q:=y1
    obtain⟨on115,oA115,ol115,oc115,oB115,h0,od115,rfl,ha115,G2,hc115⟩:=y1
    have T1:=zz (show QV w103 w103.heap.size (.agg #[.bool on115,.slice oA115 ol115 oc115,.bool false,.slice oB115 h0 od115]) q from⟨_,_,_,_,_,_,_,rfl,ha115,G2,hc115⟩)
    clear ha115 G2 hc115
    go_upto_region 10 with (fail)
    obtain⟨w116,p1⟩:∃ w116:World,w116=(w103.alloc (.cells #[.bool on115,.slice oA115 ol115 oc115,.bool false,.slice oB115 h0 od115] 26)):=⟨_,rfl⟩;rw[← p1]
    have I2:Below w103.heap.size w103 w116:=by rw[p1];(repeat' (first | exact Below.refl _ _ | refine Below.drew ?_ | refine Below.alloc ?_ (by first | exact Nat.le_refl _ | (simp;done) | (simp;omega)) _))
    have U1:CB w116 (w103.heap.size) 26 #[.bool on115,.slice oA115 ol115 oc115,.bool false,.slice oB115 h0 od115]:=by rw[p1];have h:=CB.new w103 26 #[.bool on115,.slice oA115 ol115 oc115,.bool false,.slice oB115 h0 od115];simpa using h
    have za116:w103.heap.size+1≤w116.heap.size:=by rw[p1];simp
    have B117:=zz I2
    have z117:=B117.out.size
    have J2:=zz (F2.out.trans (B117.out.mono F2.out.size))
    clear I2 p1
    have P13_15_121:=zz (B113.out.trans (B117.out.mono B113.out.size))
    have J0:=CB.step H0 P13_15_121.out
    have U3:=J0.cell 0 rfl
    have V3:=J0.cell 1 rfl
    have W3:=J0.cell 2 rfl
    have X3:=J0.cell 3 rfl
    have q122_lt:=J0.lt
    have t0:=CB.step s8 P13_15_121.out
    have Y3:=t0.cell 0 rfl
    have Z3:=t0.cell 1 rfl
    have a4:=t0.cell 2 rfl
    have b4:=t0.cell 3 rfl
    have q124_lt:=t0.lt
    go_wp2_with fail
    have V1:=zz (QV.step R1.out P13_15_121.out)
    have P12_14_126:=zz (B100.out.trans (B113.out.mono B100.out.size))
    have P12_15_127:=zz (P12_14_126.out.trans (B117.out.mono P12_14_126.out.size))
    have c4:=zz (QV.step r8.out P12_15_127.out)
    refine(QSameV_yes V1.out c4.out EC.out).mono ?_
    rintro e w119 ⟨K2,rfl⟩
    have B129:=zz K2
    have z129:=B129.out.size
    have M2:=zz (J2.out.trans (B129.out.mono J2.out.size))
    clear K2
    clear U3 V3 W3 X3 q122_lt Y3 Z3 a4 b4 q124_lt
    have m0:=CB.step U1 B129.out
    have d4:=m0.cell 0 rfl
    have g4:=m0.cell 1 rfl
    have h4:=m0.cell 2 rfl
    have i4:=m0.cell 3 rfl
    have q133_lt:=m0.lt
    have P11_14_135:=zz (P11_13_105.out.trans (B113.out.mono P11_13_105.out.size))
    have P11_15_136:=zz (P11_14_135.out.trans (B117.out.mono P11_14_135.out.size))
    have P11_16_137:=zz (P11_15_136.out.trans (B129.out.mono P11_15_136.out.size))
    have K0:=CB.step d1 P11_16_137.out
    have j4:=K0.cell 0 rfl
    have k4:=K0.cell 1 rfl
    have l4:=K0.cell 2 rfl
    have m4:=K0.cell 3 rfl
    have q138_lt:=K0.lt
    go_wp2_with fail
    have P14_16_139:=zz (B117.out.trans (B129.out.mono B117.out.size))
    have W1:=zz (QV.step T1.out P14_16_139.out)
    have X1:=zz (QV.step C2.out P11_16_137.out)
    refine(QSameV_yes W1.out X1.out rfl).mono ?_
    rintro e w131 ⟨N2,rfl⟩
    have B142:=zz N2
    have z142:=B142.out.size
    have O2:=zz (M2.out.trans (B142.out.mono M2.out.size))
    clear N2
    clear d4 g4 h4 i4 q133_lt j4 k4 l4 m4 q138_lt
    have u0:=CB.step K0 B142.out
    have n4:=u0.cell 0 rfl
    have o4:=u0.cell 1 rfl
    have p4:=u0.cell 2 rfl
    have q4:=u0.cell 3 rfl
    have q147_lt:=u0.lt
    have P9_12_149:=zz (P9_11_90.out.trans (B96.out.mono P9_11_90.out.size))
    have P9_13_150:=zz (P9_12_149.out.trans (B100.out.mono P9_12_149.out.size))
    have P9_14_151:=zz (P9_13_150.out.trans (B113.out.mono P9_13_150.out.size))
    have P9_15_152:=zz (P9_14_151.out.trans (B117.out.mono P9_14_151.out.size))
    have P9_16_153:=zz (P9_15_152.out.trans (B129.out.mono P9_15_152.out.size))
    have P9_17_154:=zz (P9_16_153.out.trans (B142.out.mono P9_16_153.out.size))
    have L0:=CB.step W7 P9_17_154.out
    have r4:=L0.cell 0 rfl
    have s4:=L0.cell 1 rfl
    have t4:=L0.cell 2 rfl
    have u4:=L0.cell 3 rfl
    have q155_lt:=L0.lt
    go_wp2_with fail
    have Y1:=zz (QV.step X1.out B142.out)
    have Z1:=zz (QV.soft g7.out (((((((((((S68.out).trans (S71.out)).trans (S74.out)).trans (Soft.of B81.out)).trans (Soft.of B85.out)).trans (Soft.of B96.out)).trans (Soft.of B100.out)).trans (Soft.of B113.out)).trans (Soft.of B117.out)).trans (Soft.of B129.out)).trans (Soft.of B142.out)))
    refine(QMul_good _ _ _ q c Y1.out Z1.out L1.out L3.out).mono ?_
    rintro e w145 ⟨P2,v144,rfl,z1⟩
    have B158:=zz P2
    have z158:=B158.out.size
    have Q2:=zz (O2.out.trans (B158.out.mono O2.out.size))
    clear P2
    clear n4 o4 p4 q4 q147_lt r4 s4 t4 u4 q155_lt
    have heq144:toldQ (q*c)=(some (q*c),0):=if_pos LX.out;rw[heq144] at z1;rw[heq144];clear heq144
    replace z1:QV w145 w145.heap.size v144 (q*c):=z1
    obtain⟨on160,oA160,ol160,oc160,oB160,M0,od160,rfl,ha160,R2,hc160⟩:=z1
    have v4:=zz (show QV w145 w145.heap.size (.agg #[.bool on160,.slice oA160 ol160 oc160,.bool false,.slice oB160 M0 od160]) (q*c) from⟨_,_,_,_,_,_,_,rfl,ha160,R2,hc160⟩)
    clear ha160 R2 hc160
    go_upto_region 13 with (fail)
    obtain⟨w161,q1⟩:∃ w161:World,w161=(w145.alloc (.cells #[.bool on160,.slice oA160 ol160 oc160,.bool false,.slice oB160 M0 od160] 26)):=⟨_,rfl⟩;rw[← q1]
    have S2:Below w145.heap.size w145 w161:=by rw[q1];(repeat' (first | exact Below.refl _ _ | refine Below.drew ?_ | refine Below.alloc ?_ (by first | exact Nat.le_refl _ | (simp;done) | (simp;omega)) _))
    have w4:CB w161 (w145.heap.size) 26 #[.bool on160,.slice oA160 ol160 oc160,.bool false,.slice oB160 M0 od160]:=by rw[q1];have h:=CB.new w145 26 #[.bool on160,.slice oA160 ol160 oc160,.bool false,.slice oB160 M0 od160];simpa using h
    have za161:w145.heap.size+1≤w161.heap.size:=by rw[q1];simp
    have B162:=zz S2
    have z162:=B162.out.size
    have T2:=zz (Q2.out.trans (B162.out.mono Q2.out.size))
    clear S2 q1
    have P13_16_167:=zz (P13_15_121.out.trans (B129.out.mono P13_15_121.out.size))
    have P13_17_168:=zz (P13_16_167.out.trans (B142.out.mono P13_16_167.out.size))
    have P13_18_169:=zz (P13_17_168.out.trans (B158.out.mono P13_17_168.out.size))
    have P13_19_170:=zz (P13_18_169.out.trans (B162.out.mono P13_18_169.out.size))
    have v0:=CB.step I0 P13_19_170.out
    have y4:=v0.cell 0 rfl
    have z4:=v0.cell 1 rfl
    have A4:=v0.cell 2 rfl
    have B4:=v0.cell 3 rfl
    have q171_lt:=v0.lt
    have P17_19_173:=zz (B158.out.trans (B162.out.mono B158.out.size))
    have N0:=CB.step L0 P17_19_173.out
    have C4:=N0.cell 0 rfl
    have D4:=N0.cell 1 rfl
    have E4:=N0.cell 2 rfl
    have F4:=N0.cell 3 rfl
    have q174_lt:=N0.lt
    go_wp2_with fail
    have G4:=zz (QV.step S1.out P13_19_170.out)
    have a2:=zz (QV.step Z1.out P17_19_173.out)
    refine(QMul_good _ _ _ r c G4.out a2.out L2.out L3.out).mono ?_
    rintro e w165 ⟨U2,v164,rfl,A1⟩
    have B177:=zz U2
    have z177:=B177.out.size
    have V2:=zz (T2.out.trans (B177.out.mono T2.out.size))
    clear U2
    clear y4 z4 A4 B4 q171_lt C4 D4 E4 F4 q174_lt
    have heq164:toldQ (r*c)=(some (r*c),0):=if_pos LY.out;rw[heq164] at A1;rw[heq164];clear heq164
    replace A1:QV w165 w165.heap.size v164 (r*c):=A1
    obtain⟨on179,oA179,ol179,oc179,oB179,O0,od179,rfl,ha179,W2,hc179⟩:=A1
    have I4:=zz (show QV w165 w165.heap.size (.agg #[.bool on179,.slice oA179 ol179 oc179,.bool false,.slice oB179 O0 od179]) (r*c) from⟨_,_,_,_,_,_,_,rfl,ha179,W2,hc179⟩)
    clear ha179 W2 hc179
    go_upto_region 14 with (fail)
    obtain⟨w180,r1⟩:∃ w180:World,w180=(w165.alloc (.cells #[.bool on179,.slice oA179 ol179 oc179,.bool false,.slice oB179 O0 od179] 26)):=⟨_,rfl⟩;rw[← r1]
    have X2:Below w165.heap.size w165 w180:=by rw[r1];(repeat' (first | exact Below.refl _ _ | refine Below.drew ?_ | refine Below.alloc ?_ (by first | exact Nat.le_refl _ | (simp;done) | (simp;omega)) _))
    have J4:CB w180 (w165.heap.size) 26 #[.bool on179,.slice oA179 ol179 oc179,.bool false,.slice oB179 O0 od179]:=by rw[r1];have h:=CB.new w165 26 #[.bool on179,.slice oA179 ol179 oc179,.bool false,.slice oB179 O0 od179];simpa using h
    have za180:w165.heap.size+1≤w180.heap.size:=by rw[r1];simp
    have B181:=zz X2
    have z181:=B181.out.size
    have Y2:=zz (V2.out.trans (B181.out.mono V2.out.size))
    clear X2 r1
    have P19_21_186:=zz (B177.out.trans (B181.out.mono B177.out.size))
    have y0:=CB.step N0 P19_21_186.out
    have K4:=y0.cell 0 rfl
    have L4:=y0.cell 1 rfl
    have M4:=y0.cell 2 rfl
    have N4:=y0.cell 3 rfl
    have q187_lt:=y0.lt
    have P15_17_189:=zz (B129.out.trans (B142.out.mono B129.out.size))
    have P15_18_190:=zz (P15_17_189.out.trans (B158.out.mono P15_17_189.out.size))
    have P15_19_191:=zz (P15_18_190.out.trans (B162.out.mono P15_18_190.out.size))
    have P15_20_192:=zz (P15_19_191.out.trans (B177.out.mono P15_19_191.out.size))
    have P15_21_193:=zz (P15_20_192.out.trans (B181.out.mono P15_20_192.out.size))
    have A0:=CB.step J0 P15_21_193.out
    have O4:=A0.cell 0 rfl
    have P4:=A0.cell 1 rfl
    have Q4:=A0.cell 2 rfl
    have R4:=A0.cell 3 rfl
    have q194_lt:=A0.lt
    go_wp2_with fail
    have b2:=zz (QV.step a2.out P19_21_186.out)
    have S4:=zz (QV.step V1.out P15_21_193.out)
    refine(QMul_good _ _ _ c (q+r) b2.out S4.out L3.out LS.out).mono ?_
    rintro e w184 ⟨Z2,v183,rfl,B1⟩
    have B197:=zz Z2
    have z197:=B197.out.size
    have a3:=zz (Y2.out.trans (B197.out.mono Y2.out.size))
    clear Z2
    clear K4 L4 M4 N4 q187_lt O4 P4 Q4 R4 q194_lt
    have heq183:toldQ (c*(q+r))=(some (c*(q+r)),0):=if_pos LM.out;rw[heq183] at B1;rw[heq183];clear heq183
    replace B1:QV w184 w184.heap.size v183 (c*(q+r)):=B1
    obtain⟨on199,oA199,ol199,oc199,oB199,P0,od199,rfl,ha199,b3,hc199⟩:=B1
    have T4:=zz (show QV w184 w184.heap.size (.agg #[.bool on199,.slice oA199 ol199 oc199,.bool false,.slice oB199 P0 od199]) (c*(q+r)) from⟨_,_,_,_,_,_,_,rfl,ha199,b3,hc199⟩)
    clear ha199 b3 hc199
    go_upto_region 15 with (fail)
    obtain⟨w200,s1⟩:∃ w200:World,w200=(w184.alloc (.cells #[.bool on199,.slice oA199 ol199 oc199,.bool false,.slice oB199 P0 od199] 26)):=⟨_,rfl⟩;rw[← s1]
    have c3:Below w184.heap.size w184 w200:=by rw[s1];(repeat' (first | exact Below.refl _ _ | refine Below.drew ?_ | refine Below.alloc ?_ (by first | exact Nat.le_refl _ | (simp;done) | (simp;omega)) _))
    have U4:CB w200 (w184.heap.size) 26 #[.bool on199,.slice oA199 ol199 oc199,.bool false,.slice oB199 P0 od199]:=by rw[s1];have h:=CB.new w184 26 #[.bool on199,.slice oA199 ol199 oc199,.bool false,.slice oB199 P0 od199];simpa using h
    have za200:w184.heap.size+1≤w200.heap.size:=by rw[s1];simp
    have B201:=zz c3
    have z201:=B201.out.size
    have d3:=zz (a3.out.trans (B201.out.mono a3.out.size))
    clear c3 s1
    have P19_22_206:=zz (P19_21_186.out.trans (B197.out.mono P19_21_186.out.size))
    have P19_23_207:=zz (P19_22_206.out.trans (B201.out.mono P19_22_206.out.size))
    have C0:=CB.step w4 P19_23_207.out
    have V4:=C0.cell 0 rfl
    have W4:=C0.cell 1 rfl
    have X4:=C0.cell 2 rfl
    have Y4:=C0.cell 3 rfl
    have q208_lt:=C0.lt
    have P21_23_210:=zz (B197.out.trans (B201.out.mono B197.out.size))
    have D0:=CB.step J4 P21_23_210.out
    have Z4:=D0.cell 0 rfl
    have a5:=D0.cell 1 rfl
    have b5:=D0.cell 2 rfl
    have c5:=D0.cell 3 rfl
    have q211_lt:=D0.lt
    go_wp2_with fail
    have P18_20_212:=zz (B162.out.trans (B177.out.mono B162.out.size))
    have P18_21_213:=zz (P18_20_212.out.trans (B181.out.mono P18_20_212.out.size))
    have P18_22_214:=zz (P18_21_213.out.trans (B197.out.mono P18_21_213.out.size))
    have P18_23_215:=zz (P18_22_214.out.trans (B201.out.mono P18_22_214.out.size))
    have K1:=zz (QV.step v4.out P18_23_215.out)
    have P20_22_217:=zz (B181.out.trans (B197.out.mono B181.out.size))
    have P20_23_218:=zz (P20_22_217.out.trans (B201.out.mono P20_22_217.out.size))
    have d5:=zz (QV.step I4.out P20_23_218.out)
    refine(QAdd_good _ _ _ (q*c) (r*c) K1.out d5.out LX.out LY.out).mono ?_
    rintro e w204 ⟨g3,v203,rfl,C1⟩
    have B220:=zz g3
    have z220:=B220.out.size
    have h3:=zz (d3.out.trans (B220.out.mono d3.out.size))
    clear g3
    clear V4 W4 X4 Y4 q208_lt Z4 a5 b5 c5 q211_lt
    have heq203:toldQ (q*c+r*c)=(some (q*c+r*c),0):=if_pos LT.out;rw[heq203] at C1;rw[heq203];clear heq203
    replace C1:QV w204 w204.heap.size v203 (q*c+r*c):=C1
    obtain⟨on222,oA222,ol222,oc222,oB222,Q0,od222,rfl,ha222,i3,hc222⟩:=C1
    have h2:=zz (show QV w204 w204.heap.size (.agg #[.bool on222,.slice oA222 ol222 oc222,.bool false,.slice oB222 Q0 od222]) (q*c+r*c) from⟨_,_,_,_,_,_,_,rfl,ha222,i3,hc222⟩)
    clear ha222 i3 hc222
    go_upto_region 16 with (fail)
    obtain⟨w223,t1⟩:∃ w223:World,w223=(w204.alloc (.cells #[.bool on222,.slice oA222 ol222 oc222,.bool false,.slice oB222 Q0 od222] 26)):=⟨_,rfl⟩;rw[← t1]
    have j3:Below w204.heap.size w204 w223:=by rw[t1];(repeat' (first | exact Below.refl _ _ | refine Below.drew ?_ | refine Below.alloc ?_ (by first | exact Nat.le_refl _ | (simp;done) | (simp;omega)) _))
    have n0:CB w223 (w204.heap.size) 26 #[.bool on222,.slice oA222 ol222 oc222,.bool false,.slice oB222 Q0 od222]:=by rw[t1];have h:=CB.new w204 26 #[.bool on222,.slice oA222 ol222 oc222,.bool false,.slice oB222 Q0 od222];simpa using h
    have za223:w204.heap.size+1≤w223.heap.size:=by rw[t1];simp
    have B224:=zz j3
    have z224:=B224.out.size
    have k3:=zz (h3.out.trans (B224.out.mono h3.out.size))
    clear j3 t1
    have g5:=n0.cell 0 rfl
    have h5:=n0.cell 1 rfl
    have i5:=n0.cell 2 rfl
    have j5:=n0.cell 3 rfl
    have q227_lt:=n0.lt
    have P23_25_229:=zz (B220.out.trans (B224.out.mono B220.out.size))
    have E0:=CB.step U4 P23_25_229.out
    have k5:=E0.cell 0 rfl
    have l5:=E0.cell 1 rfl
    have m5:=E0.cell 2 rfl
    have n5:=E0.cell 3 rfl
    have q230_lt:=E0.lt
    go_wp2_with fail
    have i2:=zz (QV.step h2.out B224.out)
    have P22_24_232:=zz (B201.out.trans (B220.out.mono B201.out.size))
    have P22_25_233:=zz (P22_24_232.out.trans (B224.out.mono P22_24_232.out.size))
    have o5:=zz (QV.step T4.out P22_25_233.out)
    refine(QSameV_yes i2.out o5.out ED.out).mono ?_
    rintro e w226 ⟨l3,rfl⟩
    have B235:=zz l3
    have z235:=B235.out.size
    have D1:=zz (k3.out.trans (B235.out.mono k3.out.size))
    clear l3
    clear g5 h5 i5 j5 q227_lt k5 l5 m5 n5 q230_lt
    have P21_24_237:=zz (P21_23_210.out.trans (B220.out.mono P21_23_210.out.size))
    have P21_25_238:=zz (P21_24_237.out.trans (B224.out.mono P21_24_237.out.size))
    have P21_26_239:=zz (P21_25_238.out.trans (B235.out.mono P21_25_238.out.size))
    have M1:=zz (QV.step b2.out P21_26_239.out)
    have hcl:=RN.len (QV.is M1.out).1
    by_cases hc0:c=0
    ·have P8:((ol49:Int)==0)=true:=by rw[beq_iff_eq,hcl,hc0,show(0:Rat).num.natAbs=0 from rfl,dig_zero];rfl
     have HC0:=zz hc0;clear hcl hc0
     have P23_26_244:=zz (P23_25_229.out.trans (B235.out.mono P23_25_229.out.size))
     have R0:=CB.step C0 P23_26_244.out
     have p5:=R0.cell 0 rfl
     have q5:=R0.cell 1 rfl
     have r5:=R0.cell 2 rfl
     have s5:=R0.cell 3 rfl
     have q245_lt:=R0.lt
     have S0:=CB.step y0 P21_26_239.out
     have t5:=S0.cell 0 rfl
     have u5:=S0.cell 1 rfl
     have v5:=S0.cell 2 rfl
     have y5:=S0.cell 3 rfl
     have q247_lt:=S0.lt
     go_wp2_with fail
     have z5:=zz (QV.step K1.out P23_26_244.out)
     refine(QDiv_good _ _ _ (q*c) c z5.out M1.out LX.out L3.out).mono ?_
     rintro e w242 ⟨m3,v241,rfl,E1⟩
     have B249:=zz m3
     have z249:=B249.out.size
     have t8:=zz (D1.out.trans (B249.out.mono D1.out.size))
     clear m3
     clear p5 q5 r5 s5 q245_lt t5 u5 v5 y5 q247_lt
     have heq:divQ (q*c) c=(none,7):=if_pos HC0.out;rw[heq] at E1;rw[heq];clear heq
     replace E1:QR w242 w242.heap.size v241 false [] false []:=E1
     obtain⟨oA251,ol251,oc251,oB251,o0,od251,rfl,ha251,n3⟩:=E1
     have A5:=zz (QR.mk (n:=false) (m:=false) ha251 n3)
     clear ha251 n3
     have P16_18_253:=zz (B142.out.trans (B158.out.mono B142.out.size))
     have P16_19_254:=zz (P16_18_253.out.trans (B162.out.mono P16_18_253.out.size))
     have P16_20_255:=zz (P16_19_254.out.trans (B177.out.mono P16_19_254.out.size))
     have P16_21_256:=zz (P16_20_255.out.trans (B181.out.mono P16_20_255.out.size))
     have P16_22_257:=zz (P16_21_256.out.trans (B197.out.mono P16_21_256.out.size))
     have P16_23_258:=zz (P16_22_257.out.trans (B201.out.mono P16_22_257.out.size))
     have P16_24_259:=zz (P16_23_258.out.trans (B220.out.mono P16_23_258.out.size))
     have P16_25_260:=zz (P16_24_259.out.trans (B224.out.mono P16_24_259.out.size))
     have P16_26_261:=zz (P16_25_260.out.trans (B235.out.mono P16_25_260.out.size))
     have P16_27_262:=zz (P16_26_261.out.trans (B249.out.mono P16_26_261.out.size))
     have c0:=CB.step m0 P16_27_262.out
     have B5:=c0.cell 0 rfl
     have C5:=c0.cell 1 rfl
     have D5:=c0.cell 2 rfl
     have E5:=c0.cell 3 rfl
     have q263_lt:=c0.lt
     have F5:=c0.frozen 0
     have G5:=c0.frozen 1
     have H5:=c0.frozen 2
     have I5:=c0.frozen 3
     have q264_lt:=c0.lt
     go_upto_region 19 with (fail)
     clear B5 C5 D5 E5 q263_lt F5 G5 H5 I5 q264_lt
     have P9_18_266:=zz (P9_17_154.out.trans (B158.out.mono P9_17_154.out.size))
     have P9_19_267:=zz (P9_18_266.out.trans (B162.out.mono P9_18_266.out.size))
     have P9_20_268:=zz (P9_19_267.out.trans (B177.out.mono P9_19_267.out.size))
     have P9_21_269:=zz (P9_20_268.out.trans (B181.out.mono P9_20_268.out.size))
     have P9_22_270:=zz (P9_21_269.out.trans (B197.out.mono P9_21_269.out.size))
     have P9_23_271:=zz (P9_22_270.out.trans (B201.out.mono P9_22_270.out.size))
     have P9_24_272:=zz (P9_23_271.out.trans (B220.out.mono P9_23_271.out.size))
     have P9_25_273:=zz (P9_24_272.out.trans (B224.out.mono P9_24_272.out.size))
     have P9_26_274:=zz (P9_25_273.out.trans (B235.out.mono P9_25_273.out.size))
     have P9_27_275:=zz (P9_26_274.out.trans (B249.out.mono P9_26_274.out.size))
     have J5:=CB.step r2 P9_27_275.out
     have K5:=CB.step s2 P9_27_275.out
     have L5:=CB.step t2 P9_27_275.out
     have P17_20_279:=zz (P17_19_173.out.trans (B177.out.mono P17_19_173.out.size))
     have P17_21_280:=zz (P17_20_279.out.trans (B181.out.mono P17_20_279.out.size))
     have P17_22_281:=zz (P17_21_280.out.trans (B197.out.mono P17_21_280.out.size))
     have P17_23_282:=zz (P17_22_281.out.trans (B201.out.mono P17_22_281.out.size))
     have P17_24_283:=zz (P17_23_282.out.trans (B220.out.mono P17_23_282.out.size))
     have P17_25_284:=zz (P17_24_283.out.trans (B224.out.mono P17_24_283.out.size))
     have P17_26_285:=zz (P17_25_284.out.trans (B235.out.mono P17_25_284.out.size))
     have P17_27_286:=zz (P17_26_285.out.trans (B249.out.mono P17_26_285.out.size))
     have M5:=CB.step u0 P17_27_286.out
     have P19_24_288:=zz (P19_23_207.out.trans (B220.out.mono P19_23_207.out.size))
     have P19_25_289:=zz (P19_24_288.out.trans (B224.out.mono P19_24_288.out.size))
     have P19_26_290:=zz (P19_25_289.out.trans (B235.out.mono P19_25_289.out.size))
     have P19_27_291:=zz (P19_26_290.out.trans (B249.out.mono P19_26_290.out.size))
     have N5:=CB.step v0 P19_27_291.out
     have O5:=CB.step S0 B249.out
     have P21_27_294:=zz (P21_26_239.out.trans (B249.out.mono P21_26_239.out.size))
     have P5:=CB.step A0 P21_27_294.out
     have P15_22_296:=zz (P15_21_193.out.trans (B197.out.mono P15_21_193.out.size))
     have P15_23_297:=zz (P15_22_296.out.trans (B201.out.mono P15_22_296.out.size))
     have P15_24_298:=zz (P15_23_297.out.trans (B220.out.mono P15_23_297.out.size))
     have P15_25_299:=zz (P15_24_298.out.trans (B224.out.mono P15_24_298.out.size))
     have P15_26_300:=zz (P15_25_299.out.trans (B235.out.mono P15_25_299.out.size))
     have P15_27_301:=zz (P15_26_300.out.trans (B249.out.mono P15_26_300.out.size))
     have Q5:=CB.step t0 P15_27_301.out
     have R5:=CB.step R0 B249.out
     have P23_27_304:=zz (P23_26_244.out.trans (B249.out.mono P23_26_244.out.size))
     have S5:=CB.step D0 P23_27_304.out
     have P25_27_306:=zz (B235.out.trans (B249.out.mono B235.out.size))
     have T5:=CB.step E0 P25_27_306.out
     have j2:=CB.step n0 P25_27_306.out
     obtain⟨w308,i0⟩:∃ w308:World,w308=((((w242.setCell ⟨w103.heap.size,0,none⟩ (.bool false)).setCell ⟨w103.heap.size,1,none⟩ (.slice oA251 ol251 oc251)).setCell ⟨w103.heap.size,2,none⟩ (.bool false)).setCell ⟨w103.heap.size,3,none⟩ (.slice oB251 o0 od251)):=⟨_,rfl⟩
     rw[← i0]
     have S308:=zz (show Soft w242 w308 by rw[i0];exact(((CB.soft1 (c0) (by simp[noInt_b,noInt_s]) 0 (.bool false)).trans (CB.soft1 ((show CB _ (w103.heap.size) 26 #[.bool false,.slice oA115 ol115 oc115,.bool false,.slice oB115 h0 od115] from CB.set (c0) 0 (.bool false))) (by simp[noInt_b,noInt_s]) 1 (.slice oA251 ol251 oc251))).trans (CB.soft1 ((show CB _ (w103.heap.size) 26 #[.bool false,.slice oA251 ol251 oc251,.bool false,.slice oB115 h0 od115] from CB.set ((show CB _ (w103.heap.size) 26 #[.bool false,.slice oA115 ol115 oc115,.bool false,.slice oB115 h0 od115] from CB.set (c0) 0 (.bool false))) 1 (.slice oA251 ol251 oc251))) (by simp[noInt_b,noInt_s]) 2 (.bool false))).trans (CB.soft1 ((show CB _ (w103.heap.size) 26 #[.bool false,.slice oA251 ol251 oc251,.bool false,.slice oB115 h0 od115] from CB.set ((show CB _ (w103.heap.size) 26 #[.bool false,.slice oA251 ol251 oc251,.bool false,.slice oB115 h0 od115] from CB.set ((show CB _ (w103.heap.size) 26 #[.bool false,.slice oA115 ol115 oc115,.bool false,.slice oB115 h0 od115] from CB.set (c0) 0 (.bool false))) 1 (.slice oA251 ol251 oc251))) 2 (.bool false))) (by simp[noInt_b,noInt_s]) 3 (.slice oB251 o0 od251)))
     have Q8:CB w308 (w.heap.size) 33 #[.bool tn,ts0,.bool tm,ts1,.bool tn2,ts2,.bool tm2,ts3,.bool tx1,.int .u8 tl1,tt1,.bool tx2,.int .u8 tl2,tt2,.bool ty1,.int .u8 tk1,tu1,.bool ty2,.int .u8 tk2,tu2]:=by rw[i0];exact CB.far (p:=⟨w103.heap.size,3,none⟩) (CB.far (p:=⟨w103.heap.size,2,none⟩) (CB.far (p:=⟨w103.heap.size,1,none⟩) (CB.far (p:=⟨w103.heap.size,0,none⟩) (J5) (show w.heap.size≠w103.heap.size from by omega) _) (show w.heap.size≠w103.heap.size from by omega) _) (show w.heap.size≠w103.heap.size from by omega) _) (show w.heap.size≠w103.heap.size from by omega) _
     have R8:CB w308 (w.heap.size+1) 31 #[.bool dz1,.int .u8 dzl,dzs,.bool dz2,.int .u8 dzk,dzt]:=by rw[i0];exact CB.far (p:=⟨w103.heap.size,3,none⟩) (CB.far (p:=⟨w103.heap.size,2,none⟩) (CB.far (p:=⟨w103.heap.size,1,none⟩) (CB.far (p:=⟨w103.heap.size,0,none⟩) (K5) (show w.heap.size+1≠w103.heap.size from by omega) _) (show w.heap.size+1≠w103.heap.size from by omega) _) (show w.heap.size+1≠w103.heap.size from by omega) _) (show w.heap.size+1≠w103.heap.size from by omega) _
     have S8:CB w308 (wk.heap.size) 37 #[.bool pn,.slice pA pl pc,.bool pm,.slice pA' pl' pc',.bool pn2,.slice pB pk pd,.bool pm2,.slice pB' pk' pd']:=by rw[i0];exact CB.far (p:=⟨w103.heap.size,3,none⟩) (CB.far (p:=⟨w103.heap.size,2,none⟩) (CB.far (p:=⟨w103.heap.size,1,none⟩) (CB.far (p:=⟨w103.heap.size,0,none⟩) (L5) (show wk.heap.size≠w103.heap.size from by omega) _) (show wk.heap.size≠w103.heap.size from by omega) _) (show wk.heap.size≠w103.heap.size from by omega) _) (show wk.heap.size≠w103.heap.size from by omega) _
     have T8:CB w308 (bn50_a) 26 #[.bool pn,.slice pA pl pc,.bool pm,.slice pA' pl' pc']:=by rw[i0];exact CB.far (p:=⟨w103.heap.size,3,none⟩) (CB.far (p:=⟨w103.heap.size,2,none⟩) (CB.far (p:=⟨w103.heap.size,1,none⟩) (CB.far (p:=⟨w103.heap.size,0,none⟩) (M5) (show bn50_a≠w103.heap.size from by omega) _) (show bn50_a≠w103.heap.size from by omega) _) (show bn50_a≠w103.heap.size from by omega) _) (show bn50_a≠w103.heap.size from by omega) _
     have U8:CB w308 (bn52_b) 26 #[.bool pn2,.slice pB pk pd,.bool pm2,.slice pB' pk' pd']:=by rw[i0];exact CB.far (p:=⟨w103.heap.size,3,none⟩) (CB.far (p:=⟨w103.heap.size,2,none⟩) (CB.far (p:=⟨w103.heap.size,1,none⟩) (CB.far (p:=⟨w103.heap.size,0,none⟩) (N5) (show bn52_b≠w103.heap.size from by omega) _) (show bn52_b≠w103.heap.size from by omega) _) (show bn52_b≠w103.heap.size from by omega) _) (show bn52_b≠w103.heap.size from by omega) _
     have W0:CB w308 (bn54_c) 26 #[.bool on49,.slice oA49 ol49 oc49,.bool false,.slice oB49 F0 od49]:=by rw[i0];exact CB.far (p:=⟨w103.heap.size,3,none⟩) (CB.far (p:=⟨w103.heap.size,2,none⟩) (CB.far (p:=⟨w103.heap.size,1,none⟩) (CB.far (p:=⟨w103.heap.size,0,none⟩) (O5) (show bn54_c≠w103.heap.size from by omega) _) (show bn54_c≠w103.heap.size from by omega) _) (show bn54_c≠w103.heap.size from by omega) _) (show bn54_c≠w103.heap.size from by omega) _
     have V8:CB w308 (w76.heap.size) 26 #[.bool on83,.slice oA83 ol83 oc83,.bool false,.slice oB83 c1 od83]:=by rw[i0];exact CB.far (p:=⟨w103.heap.size,3,none⟩) (CB.far (p:=⟨w103.heap.size,2,none⟩) (CB.far (p:=⟨w103.heap.size,1,none⟩) (CB.far (p:=⟨w103.heap.size,0,none⟩) (P5) (show w76.heap.size≠w103.heap.size from by omega) _) (show w76.heap.size≠w103.heap.size from by omega) _) (show w76.heap.size≠w103.heap.size from by omega) _) (show w76.heap.size≠w103.heap.size from by omega) _
     have W8:CB w308 (w88.heap.size) 26 #[.bool on98,.slice oA98 ol98 oc98,.bool false,.slice oB98 i1 od98]:=by rw[i0];exact CB.far (p:=⟨w103.heap.size,3,none⟩) (CB.far (p:=⟨w103.heap.size,2,none⟩) (CB.far (p:=⟨w103.heap.size,1,none⟩) (CB.far (p:=⟨w103.heap.size,0,none⟩) (Q5) (show w88.heap.size≠w103.heap.size from by omega) _) (show w88.heap.size≠w103.heap.size from by omega) _) (show w88.heap.size≠w103.heap.size from by omega) _) (show w88.heap.size≠w103.heap.size from by omega) _
     have X8:CB w308 (w145.heap.size) 26 #[.bool on160,.slice oA160 ol160 oc160,.bool false,.slice oB160 M0 od160]:=by rw[i0];exact CB.far (p:=⟨w103.heap.size,3,none⟩) (CB.far (p:=⟨w103.heap.size,2,none⟩) (CB.far (p:=⟨w103.heap.size,1,none⟩) (CB.far (p:=⟨w103.heap.size,0,none⟩) (R5) (show w145.heap.size≠w103.heap.size from by omega) _) (show w145.heap.size≠w103.heap.size from by omega) _) (show w145.heap.size≠w103.heap.size from by omega) _) (show w145.heap.size≠w103.heap.size from by omega) _
     have Y8:CB w308 (w165.heap.size) 26 #[.bool on179,.slice oA179 ol179 oc179,.bool false,.slice oB179 O0 od179]:=by rw[i0];exact CB.far (p:=⟨w103.heap.size,3,none⟩) (CB.far (p:=⟨w103.heap.size,2,none⟩) (CB.far (p:=⟨w103.heap.size,1,none⟩) (CB.far (p:=⟨w103.heap.size,0,none⟩) (S5) (show w165.heap.size≠w103.heap.size from by omega) _) (show w165.heap.size≠w103.heap.size from by omega) _) (show w165.heap.size≠w103.heap.size from by omega) _) (show w165.heap.size≠w103.heap.size from by omega) _
     have Z8:CB w308 (w184.heap.size) 26 #[.bool on199,.slice oA199 ol199 oc199,.bool false,.slice oB199 P0 od199]:=by rw[i0];exact CB.far (p:=⟨w103.heap.size,3,none⟩) (CB.far (p:=⟨w103.heap.size,2,none⟩) (CB.far (p:=⟨w103.heap.size,1,none⟩) (CB.far (p:=⟨w103.heap.size,0,none⟩) (T5) (show w184.heap.size≠w103.heap.size from by omega) _) (show w184.heap.size≠w103.heap.size from by omega) _) (show w184.heap.size≠w103.heap.size from by omega) _) (show w184.heap.size≠w103.heap.size from by omega) _
     have N8:CB w308 (w204.heap.size) 26 #[.bool on222,.slice oA222 ol222 oc222,.bool false,.slice oB222 Q0 od222]:=by rw[i0];exact CB.far (p:=⟨w103.heap.size,3,none⟩) (CB.far (p:=⟨w103.heap.size,2,none⟩) (CB.far (p:=⟨w103.heap.size,1,none⟩) (CB.far (p:=⟨w103.heap.size,0,none⟩) (j2) (show w204.heap.size≠w103.heap.size from by omega) _) (show w204.heap.size≠w103.heap.size from by omega) _) (show w204.heap.size≠w103.heap.size from by omega) _) (show w204.heap.size≠w103.heap.size from by omega) _
     have c2:CB w308 (w103.heap.size) 26 #[.bool false,.slice oA251 ol251 oc251,.bool false,.slice oB251 o0 od251]:=by rw[i0];exact(show CB _ (w103.heap.size) 26 #[.bool false,.slice oA251 ol251 oc251,.bool false,.slice oB251 o0 od251] from CB.set ((show CB _ (w103.heap.size) 26 #[.bool false,.slice oA251 ol251 oc251,.bool false,.slice oB115 h0 od115] from CB.set ((show CB _ (w103.heap.size) 26 #[.bool false,.slice oA251 ol251 oc251,.bool false,.slice oB115 h0 od115] from CB.set ((show CB _ (w103.heap.size) 26 #[.bool false,.slice oA115 ol115 oc115,.bool false,.slice oB115 h0 od115] from CB.set (c0) 0 (.bool false))) 1 (.slice oA251 ol251 oc251))) 2 (.bool false))) 3 (.slice oB251 o0 od251))
     have d2:=zz (show Below w5.heap.size w5 w308 by rw[i0];exact below_set1 (below_set1 (below_set1 (below_set1 (t8.out) (by omega) _ _) (by omega) _ _) (by omega) _ _) (by omega) _ _)
     have L9:w308.heap.size=w242.heap.size:=by rw[i0];simp[World.setCell]
     clear i0
     have U5:=W0.cell 0 rfl
     have V5:=W0.cell 1 rfl
     have W5:=W0.cell 2 rfl
     have X5:=W0.cell 3 rfl
     have q309_lt:=W0.lt
     go_upto_region 20 with (fail)
     clear U5 V5 W5 X5 q309_lt
     refine Flow.run [⟨0,132,fun fv fw=>∃ N,fv=.func (.func 96) #[] #[.pointer (some ⟨N,0,none⟩)]∧One fw N 38 (.int .i64 7)⟩,⟨1,133,fun fv fw=>fv=.agg #[.bool false,.slice oA251 ol251 oc251,.bool false,.slice oB251 o0 od251]⟩,⟨2,134,fun fv fw=>fv=.int .i64 7⟩,⟨3,135,fun fv fw=>fv=.bool true⟩,⟨4,136,fun fv fw=>fv=.bool false⟩] [] [] 0 (by kernel_rfl) (by kernel_rfl) (by kernel_rfl) (fun _ _ _ _ _ h=>h) ?_ ?_ ?_ ?_
     ·refine(all_cons (fun v w1 w2 h hb=>let ⟨N,e,h⟩:=h;⟨N,e,One.step h hb⟩) (a0 (a0 (a0 (a0 all_nil)))))
     ·refine(all_cons ?_ (all_cons ?_ (all_cons ?_ (all_cons ?_ (all_cons ?_ all_nil)))))
      ·intro xs M9 b0 g0
       have a9:=zz b0;have N9:=b0.size;clear b0
       clear g0
       refine wpOp_step (o:=_) rfl (fun K hK=>?_)
       simp only[FL]
       go_simp
       (with_reducible refine(failsQ_new _ 7).mono ?_)
       rintro e wc311 ⟨v8,N311,rfl,hN311⟩
       refine hK _ _ ⟨.func (.func 96) #[] #[.pointer (some ⟨N311,0,none⟩)],by kernel_rfl,v8,⟨N311,rfl,hN311⟩,nF⟩
      ·intro xs O9 b0 g0
       have Y5:=zz b0;have P9:=b0.size;clear b0
       clear g0
       refine wpOp_step (o:=_) rfl (fun K hK=>?_)
       simp only[FL]
       have G0:=CB.step c2 Y5.out
       have b9:=G0.cell 0 rfl
       have c9:=G0.cell 1 rfl
       have d9:=G0.cell 2 rfl
       have e9:=G0.cell 3 rfl
       go_simp
       refine hK _ _ ⟨.agg #[.bool false,.slice oA251 ol251 oc251,.bool false,.slice oB251 o0 od251],by kernel_rfl,Below.refl _ _,rfl,nF⟩
      ·intro xs Q9 b0 g0
       have f9:=zz b0;have R9:=b0.size;clear b0
       clear g0
       refine wpOp_step (o:=_) rfl (fun K hK=>?_)
       simp only[FL]
       go_simp
       refine hK _ _ ⟨.int .i64 7,by kernel_rfl,Below.refl _ _,rfl,nF⟩
      ·intro xs w8 b0 g0
       have Z5:=zz b0;have S9:=b0.size;clear b0
       have f0:∃ N,(xs 0)=.func (.func 96) #[] #[.pointer (some ⟨N,0,none⟩)]∧One w8 N 38 (.int .i64 7):=g0 _ (m_ 0 rfl) (by kernel_rfl)
       have f1:(xs 1)=.agg #[.bool false,.slice oA251 ol251 oc251,.bool false,.slice oB251 o0 od251]:=g0 _ (m_ 1 rfl) (by kernel_rfl)
       have f2:(xs 2)=.int .i64 7:=g0 _ (m_ 2 rfl) (by kernel_rfl)
       clear g0
       refine wpOp_step (o:=_) rfl (fun K hK=>?_)
       simp only[FL]
       obtain⟨N,hN,hO⟩:=f0;rw[hN]
       have a6:=zz (QR.soft A5.out ((S308.out).trans (Soft.of Z5.out)))
       have HO:=zz hO;clear hO
       go_simp
       (with_reducible refine(failsQ_yes HO.out a6.out).mono ?_)
       rintro e wc318 ⟨y8,rfl⟩
       refine hK _ _ ⟨.bool true,by simp only[FL,f1,f2,hN] <;> kernel_rfl,y8,rfl,nF⟩
      ·intro xs T9 b0 g0
       have g9:=zz b0;have U9:=b0.size;clear b0
       have f3:(xs 3)=.bool true:=g0 _ (m_ 3 rfl) (by kernel_rfl)
       clear g0
       refine wpOp_step (o:=_) rfl (fun K hK=>?_)
       simp only[FL]
       go_simp
       refine hK _ _ ⟨.bool false,by simp only[FL,f3] <;> kernel_rfl,Below.refl _ _,rfl,nF⟩
     ·exact all_nil
     ·intro xs wf320 hbf hf hn hd
      have f0:∃ N,(xs 0)=.func (.func 96) #[] #[.pointer (some ⟨N,0,none⟩)]∧One wf320 N 38 (.int .i64 7):=hf _ (m_ 0 rfl)
      have f1:(xs 1)=.agg #[.bool false,.slice oA251 ol251 oc251,.bool false,.slice oB251 o0 od251]:=hf _ (m_ 1 rfl)
      have f2:(xs 2)=.int .i64 7:=hf _ (m_ 2 rfl)
      have f3:(xs 3)=.bool true:=hf _ (m_ 3 rfl)
      have f4:(xs 4)=.bool false:=hf _ (m_ 4 rfl)
      clear hf hn hd
      simp only[FL]
      have B321:=zz hbf
      have z321:=B321.out.size
      have z8:=zz (d2.out.trans (B321.out.mono d2.out.size))
      clear hbf
      generalize xs 0=x0,xs 1=x1,xs 2=x2,xs 3=x3,xs 4=x4 at *
      clear f0
      obtain rfl:=f1
      obtain rfl:=f2
      obtain rfl:=f3
      obtain rfl:=f4
      refine Early.done (by kernel_rfl) ?_ _
      (try simp only[Exit.then])
      go_wp2
      go_roundw
      case rel=>exact⟨k+1,by omega,by go_num,zz z8.out⟩
      case measure=>simp[intOf];omega
    ·have P8:((ol49:Int)==0)=false:=by rw[beq_eq_false_iff_ne,hcl];have h1:c.num≠0:=fun e=>hc0 (Rat.num_eq_zero.1 e);have:=dig_len_pos (n:=c.num.natAbs) (by omega);omega
     have HC0:=zz hc0;clear hcl hc0
     have P23_26_326:=zz (P23_25_229.out.trans (B235.out.mono P23_25_229.out.size))
     have T0:=CB.step C0 P23_26_326.out
     have b6:=T0.cell 0 rfl
     have c6:=T0.cell 1 rfl
     have d6:=T0.cell 2 rfl
     have g6:=T0.cell 3 rfl
     have q327_lt:=T0.lt
     have U0:=CB.step y0 P21_26_239.out
     have h6:=U0.cell 0 rfl
     have i6:=U0.cell 1 rfl
     have j6:=U0.cell 2 rfl
     have k6:=U0.cell 3 rfl
     have q329_lt:=U0.lt
     go_wp2_with fail
     have l6:=zz (QV.step K1.out P23_26_326.out)
     refine(QDiv_good _ _ _ (q*c) c l6.out M1.out LX.out L3.out).mono ?_
     rintro e w324 ⟨o3,v323,rfl,F1⟩
     have B331:=zz o3
     have z331:=B331.out.size
     have A8:=zz (D1.out.trans (B331.out.mono D1.out.size))
     clear o3
     clear b6 c6 d6 g6 q327_lt h6 i6 j6 k6 q329_lt
     have heq323:divQ (q*c) c=(some q,0):=(show divQ (q*c) c=_ from if_neg HC0.out).trans (by rw[Rat.mul_div_cancel HC0.out];exact if_pos L1.out);rw[heq323] at F1;rw[heq323];clear heq323
     replace F1:QV w324 w324.heap.size v323 q:=F1
     obtain⟨on333,oA333,ol333,oc333,oB333,V0,od333,rfl,ha333,p3,hc333⟩:=F1
     have m6:=zz (show QV w324 w324.heap.size (.agg #[.bool on333,.slice oA333 ol333 oc333,.bool false,.slice oB333 V0 od333]) q from⟨_,_,_,_,_,_,_,rfl,ha333,p3,hc333⟩)
     clear ha333 p3 hc333
     have P16_18_335:=zz (B142.out.trans (B158.out.mono B142.out.size))
     have P16_19_336:=zz (P16_18_335.out.trans (B162.out.mono P16_18_335.out.size))
     have P16_20_337:=zz (P16_19_336.out.trans (B177.out.mono P16_19_336.out.size))
     have P16_21_338:=zz (P16_20_337.out.trans (B181.out.mono P16_20_337.out.size))
     have P16_22_339:=zz (P16_21_338.out.trans (B197.out.mono P16_21_338.out.size))
     have P16_23_340:=zz (P16_22_339.out.trans (B201.out.mono P16_22_339.out.size))
     have P16_24_341:=zz (P16_23_340.out.trans (B220.out.mono P16_23_340.out.size))
     have P16_25_342:=zz (P16_24_341.out.trans (B224.out.mono P16_24_341.out.size))
     have P16_26_343:=zz (P16_25_342.out.trans (B235.out.mono P16_25_342.out.size))
     have P16_27_344:=zz (P16_26_343.out.trans (B331.out.mono P16_26_343.out.size))
     have d0:=CB.step m0 P16_27_344.out
     have o6:=d0.cell 0 rfl
     have p6:=d0.cell 1 rfl
     have q6:=d0.cell 2 rfl
     have r6:=d0.cell 3 rfl
     have q345_lt:=d0.lt
     have s6:=d0.frozen 0
     have t6:=d0.frozen 1
     have u6:=d0.frozen 2
     have v6:=d0.frozen 3
     have q346_lt:=d0.lt
     go_upto_region 19 with (fail)
     clear o6 p6 q6 r6 q345_lt s6 t6 u6 v6 q346_lt
     have P9_18_348:=zz (P9_17_154.out.trans (B158.out.mono P9_17_154.out.size))
     have P9_19_349:=zz (P9_18_348.out.trans (B162.out.mono P9_18_348.out.size))
     have P9_20_350:=zz (P9_19_349.out.trans (B177.out.mono P9_19_349.out.size))
     have P9_21_351:=zz (P9_20_350.out.trans (B181.out.mono P9_20_350.out.size))
     have P9_22_352:=zz (P9_21_351.out.trans (B197.out.mono P9_21_351.out.size))
     have P9_23_353:=zz (P9_22_352.out.trans (B201.out.mono P9_22_352.out.size))
     have P9_24_354:=zz (P9_23_353.out.trans (B220.out.mono P9_23_353.out.size))
     have P9_25_355:=zz (P9_24_354.out.trans (B224.out.mono P9_24_354.out.size))
     have P9_26_356:=zz (P9_25_355.out.trans (B235.out.mono P9_25_355.out.size))
     have P9_27_357:=zz (P9_26_356.out.trans (B331.out.mono P9_26_356.out.size))
     have w6:=CB.step r2 P9_27_357.out
     have y6:=CB.step s2 P9_27_357.out
     have z6:=CB.step t2 P9_27_357.out
     have P17_20_361:=zz (P17_19_173.out.trans (B177.out.mono P17_19_173.out.size))
     have P17_21_362:=zz (P17_20_361.out.trans (B181.out.mono P17_20_361.out.size))
     have P17_22_363:=zz (P17_21_362.out.trans (B197.out.mono P17_21_362.out.size))
     have P17_23_364:=zz (P17_22_363.out.trans (B201.out.mono P17_22_363.out.size))
     have P17_24_365:=zz (P17_23_364.out.trans (B220.out.mono P17_23_364.out.size))
     have P17_25_366:=zz (P17_24_365.out.trans (B224.out.mono P17_24_365.out.size))
     have P17_26_367:=zz (P17_25_366.out.trans (B235.out.mono P17_25_366.out.size))
     have P17_27_368:=zz (P17_26_367.out.trans (B331.out.mono P17_26_367.out.size))
     have A6:=CB.step u0 P17_27_368.out
     have P19_24_370:=zz (P19_23_207.out.trans (B220.out.mono P19_23_207.out.size))
     have P19_25_371:=zz (P19_24_370.out.trans (B224.out.mono P19_24_370.out.size))
     have P19_26_372:=zz (P19_25_371.out.trans (B235.out.mono P19_25_371.out.size))
     have P19_27_373:=zz (P19_26_372.out.trans (B331.out.mono P19_26_372.out.size))
     have B6:=CB.step v0 P19_27_373.out
     have C6:=CB.step U0 B331.out
     have P21_27_376:=zz (P21_26_239.out.trans (B331.out.mono P21_26_239.out.size))
     have D6:=CB.step A0 P21_27_376.out
     have P15_22_378:=zz (P15_21_193.out.trans (B197.out.mono P15_21_193.out.size))
     have P15_23_379:=zz (P15_22_378.out.trans (B201.out.mono P15_22_378.out.size))
     have P15_24_380:=zz (P15_23_379.out.trans (B220.out.mono P15_23_379.out.size))
     have P15_25_381:=zz (P15_24_380.out.trans (B224.out.mono P15_24_380.out.size))
     have P15_26_382:=zz (P15_25_381.out.trans (B235.out.mono P15_25_381.out.size))
     have P15_27_383:=zz (P15_26_382.out.trans (B331.out.mono P15_26_382.out.size))
     have E6:=CB.step t0 P15_27_383.out
     have F6:=CB.step T0 B331.out
     have P23_27_386:=zz (P23_26_326.out.trans (B331.out.mono P23_26_326.out.size))
     have G6:=CB.step D0 P23_27_386.out
     have P25_27_388:=zz (B235.out.trans (B331.out.mono B235.out.size))
     have H6:=CB.step E0 P25_27_388.out
     have k2:=CB.step n0 P25_27_388.out
     obtain⟨w390,j0⟩:∃ w390:World,w390=((((w324.setCell ⟨w103.heap.size,0,none⟩ (.bool on333)).setCell ⟨w103.heap.size,1,none⟩ (.slice oA333 ol333 oc333)).setCell ⟨w103.heap.size,2,none⟩ (.bool false)).setCell ⟨w103.heap.size,3,none⟩ (.slice oB333 V0 od333)):=⟨_,rfl⟩
     rw[← j0]
     have S390:=zz (show Soft w324 w390 by rw[j0];exact(((CB.soft1 (d0) (by simp[noInt_b,noInt_s]) 0 (.bool on333)).trans (CB.soft1 ((show CB _ (w103.heap.size) 26 #[.bool on333,.slice oA115 ol115 oc115,.bool false,.slice oB115 h0 od115] from CB.set (d0) 0 (.bool on333))) (by simp[noInt_b,noInt_s]) 1 (.slice oA333 ol333 oc333))).trans (CB.soft1 ((show CB _ (w103.heap.size) 26 #[.bool on333,.slice oA333 ol333 oc333,.bool false,.slice oB115 h0 od115] from CB.set ((show CB _ (w103.heap.size) 26 #[.bool on333,.slice oA115 ol115 oc115,.bool false,.slice oB115 h0 od115] from CB.set (d0) 0 (.bool on333))) 1 (.slice oA333 ol333 oc333))) (by simp[noInt_b,noInt_s]) 2 (.bool false))).trans (CB.soft1 ((show CB _ (w103.heap.size) 26 #[.bool on333,.slice oA333 ol333 oc333,.bool false,.slice oB115 h0 od115] from CB.set ((show CB _ (w103.heap.size) 26 #[.bool on333,.slice oA333 ol333 oc333,.bool false,.slice oB115 h0 od115] from CB.set ((show CB _ (w103.heap.size) 26 #[.bool on333,.slice oA115 ol115 oc115,.bool false,.slice oB115 h0 od115] from CB.set (d0) 0 (.bool on333))) 1 (.slice oA333 ol333 oc333))) 2 (.bool false))) (by simp[noInt_b,noInt_s]) 3 (.slice oB333 V0 od333)))
     have h9:CB w390 (w.heap.size) 33 #[.bool tn,ts0,.bool tm,ts1,.bool tn2,ts2,.bool tm2,ts3,.bool tx1,.int .u8 tl1,tt1,.bool tx2,.int .u8 tl2,tt2,.bool ty1,.int .u8 tk1,tu1,.bool ty2,.int .u8 tk2,tu2]:=by rw[j0];exact CB.far (p:=⟨w103.heap.size,3,none⟩) (CB.far (p:=⟨w103.heap.size,2,none⟩) (CB.far (p:=⟨w103.heap.size,1,none⟩) (CB.far (p:=⟨w103.heap.size,0,none⟩) (w6) (show w.heap.size≠w103.heap.size from by omega) _) (show w.heap.size≠w103.heap.size from by omega) _) (show w.heap.size≠w103.heap.size from by omega) _) (show w.heap.size≠w103.heap.size from by omega) _
     have i9:CB w390 (w.heap.size+1) 31 #[.bool dz1,.int .u8 dzl,dzs,.bool dz2,.int .u8 dzk,dzt]:=by rw[j0];exact CB.far (p:=⟨w103.heap.size,3,none⟩) (CB.far (p:=⟨w103.heap.size,2,none⟩) (CB.far (p:=⟨w103.heap.size,1,none⟩) (CB.far (p:=⟨w103.heap.size,0,none⟩) (y6) (show w.heap.size+1≠w103.heap.size from by omega) _) (show w.heap.size+1≠w103.heap.size from by omega) _) (show w.heap.size+1≠w103.heap.size from by omega) _) (show w.heap.size+1≠w103.heap.size from by omega) _
     have j9:CB w390 (wk.heap.size) 37 #[.bool pn,.slice pA pl pc,.bool pm,.slice pA' pl' pc',.bool pn2,.slice pB pk pd,.bool pm2,.slice pB' pk' pd']:=by rw[j0];exact CB.far (p:=⟨w103.heap.size,3,none⟩) (CB.far (p:=⟨w103.heap.size,2,none⟩) (CB.far (p:=⟨w103.heap.size,1,none⟩) (CB.far (p:=⟨w103.heap.size,0,none⟩) (z6) (show wk.heap.size≠w103.heap.size from by omega) _) (show wk.heap.size≠w103.heap.size from by omega) _) (show wk.heap.size≠w103.heap.size from by omega) _) (show wk.heap.size≠w103.heap.size from by omega) _
     have X0:CB w390 (bn50_a) 26 #[.bool pn,.slice pA pl pc,.bool pm,.slice pA' pl' pc']:=by rw[j0];exact CB.far (p:=⟨w103.heap.size,3,none⟩) (CB.far (p:=⟨w103.heap.size,2,none⟩) (CB.far (p:=⟨w103.heap.size,1,none⟩) (CB.far (p:=⟨w103.heap.size,0,none⟩) (A6) (show bn50_a≠w103.heap.size from by omega) _) (show bn50_a≠w103.heap.size from by omega) _) (show bn50_a≠w103.heap.size from by omega) _) (show bn50_a≠w103.heap.size from by omega) _
     have k9:CB w390 (bn52_b) 26 #[.bool pn2,.slice pB pk pd,.bool pm2,.slice pB' pk' pd']:=by rw[j0];exact CB.far (p:=⟨w103.heap.size,3,none⟩) (CB.far (p:=⟨w103.heap.size,2,none⟩) (CB.far (p:=⟨w103.heap.size,1,none⟩) (CB.far (p:=⟨w103.heap.size,0,none⟩) (B6) (show bn52_b≠w103.heap.size from by omega) _) (show bn52_b≠w103.heap.size from by omega) _) (show bn52_b≠w103.heap.size from by omega) _) (show bn52_b≠w103.heap.size from by omega) _
     have Y0:CB w390 (bn54_c) 26 #[.bool on49,.slice oA49 ol49 oc49,.bool false,.slice oB49 F0 od49]:=by rw[j0];exact CB.far (p:=⟨w103.heap.size,3,none⟩) (CB.far (p:=⟨w103.heap.size,2,none⟩) (CB.far (p:=⟨w103.heap.size,1,none⟩) (CB.far (p:=⟨w103.heap.size,0,none⟩) (C6) (show bn54_c≠w103.heap.size from by omega) _) (show bn54_c≠w103.heap.size from by omega) _) (show bn54_c≠w103.heap.size from by omega) _) (show bn54_c≠w103.heap.size from by omega) _
     have l9:CB w390 (w76.heap.size) 26 #[.bool on83,.slice oA83 ol83 oc83,.bool false,.slice oB83 c1 od83]:=by rw[j0];exact CB.far (p:=⟨w103.heap.size,3,none⟩) (CB.far (p:=⟨w103.heap.size,2,none⟩) (CB.far (p:=⟨w103.heap.size,1,none⟩) (CB.far (p:=⟨w103.heap.size,0,none⟩) (D6) (show w76.heap.size≠w103.heap.size from by omega) _) (show w76.heap.size≠w103.heap.size from by omega) _) (show w76.heap.size≠w103.heap.size from by omega) _) (show w76.heap.size≠w103.heap.size from by omega) _
     have m9:CB w390 (w88.heap.size) 26 #[.bool on98,.slice oA98 ol98 oc98,.bool false,.slice oB98 i1 od98]:=by rw[j0];exact CB.far (p:=⟨w103.heap.size,3,none⟩) (CB.far (p:=⟨w103.heap.size,2,none⟩) (CB.far (p:=⟨w103.heap.size,1,none⟩) (CB.far (p:=⟨w103.heap.size,0,none⟩) (E6) (show w88.heap.size≠w103.heap.size from by omega) _) (show w88.heap.size≠w103.heap.size from by omega) _) (show w88.heap.size≠w103.heap.size from by omega) _) (show w88.heap.size≠w103.heap.size from by omega) _
     have n9:CB w390 (w145.heap.size) 26 #[.bool on160,.slice oA160 ol160 oc160,.bool false,.slice oB160 M0 od160]:=by rw[j0];exact CB.far (p:=⟨w103.heap.size,3,none⟩) (CB.far (p:=⟨w103.heap.size,2,none⟩) (CB.far (p:=⟨w103.heap.size,1,none⟩) (CB.far (p:=⟨w103.heap.size,0,none⟩) (F6) (show w145.heap.size≠w103.heap.size from by omega) _) (show w145.heap.size≠w103.heap.size from by omega) _) (show w145.heap.size≠w103.heap.size from by omega) _) (show w145.heap.size≠w103.heap.size from by omega) _
     have o9:CB w390 (w165.heap.size) 26 #[.bool on179,.slice oA179 ol179 oc179,.bool false,.slice oB179 O0 od179]:=by rw[j0];exact CB.far (p:=⟨w103.heap.size,3,none⟩) (CB.far (p:=⟨w103.heap.size,2,none⟩) (CB.far (p:=⟨w103.heap.size,1,none⟩) (CB.far (p:=⟨w103.heap.size,0,none⟩) (G6) (show w165.heap.size≠w103.heap.size from by omega) _) (show w165.heap.size≠w103.heap.size from by omega) _) (show w165.heap.size≠w103.heap.size from by omega) _) (show w165.heap.size≠w103.heap.size from by omega) _
     have p9:CB w390 (w184.heap.size) 26 #[.bool on199,.slice oA199 ol199 oc199,.bool false,.slice oB199 P0 od199]:=by rw[j0];exact CB.far (p:=⟨w103.heap.size,3,none⟩) (CB.far (p:=⟨w103.heap.size,2,none⟩) (CB.far (p:=⟨w103.heap.size,1,none⟩) (CB.far (p:=⟨w103.heap.size,0,none⟩) (H6) (show w184.heap.size≠w103.heap.size from by omega) _) (show w184.heap.size≠w103.heap.size from by omega) _) (show w184.heap.size≠w103.heap.size from by omega) _) (show w184.heap.size≠w103.heap.size from by omega) _
     have O8:CB w390 (w204.heap.size) 26 #[.bool on222,.slice oA222 ol222 oc222,.bool false,.slice oB222 Q0 od222]:=by rw[j0];exact CB.far (p:=⟨w103.heap.size,3,none⟩) (CB.far (p:=⟨w103.heap.size,2,none⟩) (CB.far (p:=⟨w103.heap.size,1,none⟩) (CB.far (p:=⟨w103.heap.size,0,none⟩) (k2) (show w204.heap.size≠w103.heap.size from by omega) _) (show w204.heap.size≠w103.heap.size from by omega) _) (show w204.heap.size≠w103.heap.size from by omega) _) (show w204.heap.size≠w103.heap.size from by omega) _
     have p0:CB w390 (w103.heap.size) 26 #[.bool on333,.slice oA333 ol333 oc333,.bool false,.slice oB333 V0 od333]:=by rw[j0];exact(show CB _ (w103.heap.size) 26 #[.bool on333,.slice oA333 ol333 oc333,.bool false,.slice oB333 V0 od333] from CB.set ((show CB _ (w103.heap.size) 26 #[.bool on333,.slice oA333 ol333 oc333,.bool false,.slice oB115 h0 od115] from CB.set ((show CB _ (w103.heap.size) 26 #[.bool on333,.slice oA333 ol333 oc333,.bool false,.slice oB115 h0 od115] from CB.set ((show CB _ (w103.heap.size) 26 #[.bool on333,.slice oA115 ol115 oc115,.bool false,.slice oB115 h0 od115] from CB.set (d0) 0 (.bool on333))) 1 (.slice oA333 ol333 oc333))) 2 (.bool false))) 3 (.slice oB333 V0 od333))
     have g2:=zz (show Below w5.heap.size w5 w390 by rw[j0];exact below_set1 (below_set1 (below_set1 (below_set1 (A8.out) (by omega) _ _) (by omega) _ _) (by omega) _ _) (by omega) _ _)
     have V9:w390.heap.size=w324.heap.size:=by rw[j0];simp[World.setCell]
     clear j0
     have I6:=Y0.cell 0 rfl
     have J6:=Y0.cell 1 rfl
     have K6:=Y0.cell 2 rfl
     have L6:=Y0.cell 3 rfl
     have q391_lt:=Y0.lt
     go_upto_region 22 with (fail)
     clear I6 J6 K6 L6 q391_lt
     have M6:=p0.cell 0 rfl
     have N6:=p0.cell 1 rfl
     have O6:=p0.cell 2 rfl
     have P6:=p0.cell 3 rfl
     have q393_lt:=p0.lt
     have Q6:=X0.cell 0 rfl
     have R6:=X0.cell 1 rfl
     have S6:=X0.cell 2 rfl
     have T6:=X0.cell 3 rfl
     have q394_lt:=X0.lt
     go_wp2_with fail
     have U6:=zz (QV.soft m6.out (S390.out))
     have V6:=zz (QV.soft Y1.out (((((((((((Soft.of B158.out).trans (Soft.of B162.out)).trans (Soft.of B177.out)).trans (Soft.of B181.out)).trans (Soft.of B197.out)).trans (Soft.of B201.out)).trans (Soft.of B220.out)).trans (Soft.of B224.out)).trans (Soft.of B235.out)).trans (Soft.of B331.out)).trans (S390.out)))
     refine(QSameV_yes U6.out V6.out rfl).mono ?_
     rintro e w392 ⟨q3,rfl⟩
     have B397:=zz q3
     have z397:=B397.out.size
     have B8:=zz (g2.out.trans (B397.out.mono g2.out.size))
     clear q3
     clear M6 N6 O6 P6 q393_lt Q6 R6 S6 T6 q394_lt
     go_wp2
     go_roundw
     case rel=>exact⟨k+1,by omega,by go_num,zz B8.out⟩
     case measure=>simp[intOf];omega
  ·obtain rfl:k=2:=by omega
   rw[show((2:Nat):Int)=2 from rfl]
   go_wp2
   go_ret
   exact⟨(N1.out.trans ((HRk.out).mono N1.out.size)),rfl⟩
end Go.Proofs.YtioclokmbgmamaaGreatDoor
