/- The law QuotTexts (written by its generator). -/
import Derived.Test.YtioclokmbgmamaaGreatDoorU
import Derived.Test.YtioclokmbgmamaaGreatDoorQS
import Derived.Test.YtioclokmbgmamaaGreatDoorQW
import Derived.Test.YtioclokmbgmamaaGreatDoorQTx
namespace Go.Proofs.YtioclokmbgmamaaGreatDoor
open Go Go.RowKit Dig
theorem SameR_yes {w:World} {va vb:Value} {n:Bool} {l:List Int} (ha:LR w w.heap.size va n l) (hb:LR w w.heap.size vb n l) :
  Calls Tryz.prog 20 #[va,vb] w fun e w'=>Below w.heap.size w w'∧e=.returned (.bool true):=by
 have h:=SameR_any w va vb n n l l ha hb;rw[decide_eq_true (show n=n∧l=l from⟨rfl,rfl⟩)] at h;exact h
set_option maxRecDepth 100000 in
set_option maxHeartbeats 4000000 in
theorem RSameQ_yes {w:World} {va vb:Value} {n m:Bool} {a b:List Int} (ha:QR w w.heap.size va n a m b) (hb:QR w w.heap.size vb n a m b) :
  Calls Tryz.prog 90 #[va,vb] w fun e w'=>Below w.heap.size w w'∧e=.returned (.bool true):=by
 obtain⟨A,l,c,A',l',c',rfl,ha⟩:=RI.of ha;obtain⟨B,k,d,B',k',d',rfl,hb⟩:=RI.of hb;have HA:=zz ha;have HB:=zz hb;clear ha hb;obtain⟨w0,hw0⟩:∃ w0:World,w0=((w.alloc (.cells #[.bool n,.slice A l c,.bool m,.slice A' l' c'] 26)).alloc (.cells #[.bool n,.slice B k d,.bool m,.slice B' k' d'] 26)):=⟨_,rfl⟩;have B0:=zz (n2_b hw0);have z0:=n2_z hw0;have La:=n2_0 hw0;have Lb:=n2_1 hw0;replace HA:=zz (QR.step HA.out B0.out);replace HB:=zz (QR.step HB.out B0.out);go_enter Tryz.func90,Tryz.ntmps90
 go_upto_region 1 with (fail)
 rw[← hw0];clear hw0;have l0:=La.cell 0 rfl;have m0:=La.cell 1 rfl;have n0:=La.cell 2 rfl;have o0:=La.cell 3 rfl;have E0:=La.lt;have p0:=Lb.cell 0 rfl;have q0:=Lb.cell 1 rfl;have r0:=Lb.cell 2 rfl;have s0:=Lb.cell 3 rfl;have F0:=Lb.lt;go_wp2_with fail
 refine(SameR_yes (QR.fst HA.out) (QR.fst HB.out)).mono ?_;rintro e w1 ⟨i0,rfl⟩;have B4:=zz i0;have z4:=B4.out.size;have j0:=zz (B0.out.trans (B4.out.mono B0.out.size));clear i0;clear l0 m0 n0 o0 E0 p0 q0 r0 s0 F0;have a0:=CB.step La B4.out;have t0:=a0.cell 0 rfl;have u0:=a0.cell 1 rfl;have v0:=a0.cell 2 rfl;have x0:=a0.cell 3 rfl;have G0:=a0.lt;have b0:=CB.step Lb B4.out;have c0:=b0.cell 0 rfl;have d0:=b0.cell 1 rfl;have e0:=b0.cell 2 rfl;have f0:=b0.cell 3 rfl;have A0:=b0.lt;go_wp2_with fail
 have g0:=zz (QR.step HA.out B4.out);have h0:=zz (QR.step HB.out B4.out);refine(SameR_yes (QR.snd g0.out) (QR.snd h0.out)).mono ?_;rintro e w6 ⟨k0,rfl⟩;have B13:=zz k0;have z13:=B13.out.size;have y0:=zz (j0.out.trans (B13.out.mono j0.out.size));clear k0;clear t0 u0 v0 x0 G0 c0 d0 e0 f0 A0;go_wp2;go_ret;exact⟨y0.out,rfl⟩
theorem QO.parts {w:World} {u v:Value} {o:Option Rat} (h:QO w w.heap.size u o) (k:QO w w.heap.size v o):∃ n a m b,QR w w.heap.size u n a m b∧QR w w.heap.size v n a m b:=by
 cases o with
 | none=>exact⟨_,_,_,_,h,k⟩
 | some q=>exact⟨_,_,_,_,QV.qr h,QV.qr k⟩
set_option maxRecDepth 100000 in
set_option maxHeartbeats 4000000 in
theorem alikeQ_yes {w:World} {va vb:Value} {o:Option Rat} {e:Int} (ha:QO w w.heap.size va o) (hb:QO w w.heap.size vb o) :
  Calls Tryz.prog 33 #[va,.int .i64 e,vb,.int .i64 e] w fun e w'=>Below w.heap.size w w'∧e=.returned (.bool true):=by
 obtain⟨n,a,m,b,ha,hb⟩:=QO.parts ha hb;obtain⟨A,l,c,A',l',c',rfl,ha⟩:=RI.of ha;obtain⟨B,k,d,B',k',d',rfl,hb⟩:=RI.of hb;have HA:=zz ha;have HB:=zz hb;clear ha hb;obtain⟨w0,hw0⟩:∃ w0:World,w0=((w.alloc (.cells #[.bool n,.slice A l c,.bool m,.slice A' l' c'] 26)).alloc (.cells #[.bool n,.slice B k d,.bool m,.slice B' k' d'] 26)):=⟨_,rfl⟩;have B0:=zz (n2_b hw0);have z0:=n2_z hw0;have La:=n2_0 hw0;have Lb:=n2_1 hw0;replace HA:=zz (QR.step HA.out B0.out);replace HB:=zz (QR.step HB.out B0.out);go_enter Tryz.func33,Tryz.ntmps33
 go_upto_region 1 with (fail)
 rw[← hw0];clear hw0;have b0:=La.cell 0 rfl;have c0:=La.cell 1 rfl;have d0:=La.cell 2 rfl;have e0:=La.cell 3 rfl;have k0:=La.lt;have f0:=Lb.cell 0 rfl;have g0:=Lb.cell 1 rfl;have h0:=Lb.cell 2 rfl;have i0:=Lb.cell 3 rfl;have l0:=Lb.lt;go_wp2_with fail
 refine(RSameQ_yes HA.out HB.out).mono ?_;rintro e w1 ⟨a0,rfl⟩;have B4:=zz a0;have z4:=B4.out.size;have j0:=zz (B0.out.trans (B4.out.mono B0.out.size));clear a0;clear b0 c0 d0 e0 k0 f0 g0 h0 i0 l0;go_wp2;go_ret;exact⟨j0.out,rfl⟩
noncomputable def txtA:Option Rat→ByteArray
 | some q=>⟨(textQ q).toArray⟩
 | none=>⟨#[]⟩
def txtE:Option Rat→Int
 | some _=>0
 | none=>40
theorem RetT.one {o:Option Rat} {e:Ending} (h:RetT o e):e=.returned (.tuple #[.string (txtA o),.int .i64 (txtE o)]):=by
 cases o with
 | none=>exact h
 | some q=>
  obtain⟨s,rfl,hs⟩:=h;have h1:s=⟨(textQ q).toArray⟩:=by
   obtain⟨⟨l⟩⟩:=s;have h2:l=textQ q:=hs;rw[h2]
  rw[h1];rfl
theorem textQ_len' {q:Rat} (h:QL 600 600 q):(textQ q).length≤10803:=by
 unfold textQ;have h1:=itoa_len h.1;have h2:=itoa_len (z:=(q.den:Int)) (by rw[Int.natAbs_natCast];exact h.2)
 split
 ·omega
 ·simp;omega
def anyQ2 (w:World) (u v:Value):Prop:=(∃ n a m b,QR w w.heap.size u n a m b)∧∃ n a m b,QR w w.heap.size v n a m b
theorem anyQ2.step {w w':World} {u v:Value} (h:anyQ2 w u v) (hb:Below w.heap.size w w'):anyQ2 w' u v:=
 let ⟨⟨n,a,m,b,h⟩,n2,a2,m2,b2,k⟩:=h;⟨⟨n,a,m,b,h.step hb⟩,n2,a2,m2,b2,k.step hb⟩
theorem QR.cells {w:World} {B:Nat} {v:Value} {n m:Bool} {a b:List Int} (h:QR w B v n a m b):∃ (A A':Option Addr) (l c l' c':Nat),v=.agg #[.bool n,.slice A l c,.bool m,.slice A' l' c']:=by
 obtain⟨A,l,c,A',l',c',e,-⟩:=h;exact⟨A,A',l,c,l',c',e⟩
theorem idxS5 (a b c d e:ByteArray) {k:Nat} (ha:a.size≤k) (hb:b.size≤k) (hc:c.size≤k) (hd:d.size≤k) (he:e.size≤k) (j:Nat) (h:j<5) :
  ∃ m:ByteArray,m.size≤k∧∀ w,(Instr.index 63 (.agg #[.string a,.string b,.string c,.string d,.string e]) (.int .i64 (j:Int))).run Tryz.prog w=.ok (.string m) w:=by
 match j,h with
 | 0,_=>exact⟨a,ha,fun _=>by kernel_rfl⟩
 | 1,_=>exact⟨b,hb,fun _=>by kernel_rfl⟩
 | 2,_=>exact⟨c,hc,fun _=>by kernel_rfl⟩
 | 3,_=>exact⟨d,hd,fun _=>by kernel_rfl⟩
 | 4,_=>exact⟨e,he,fun _=>by kernel_rfl⟩
set_option linter.unusedVariables false in
set_option maxRecDepth 100000 in
set_option maxHeartbeats 16000000 in
theorem QuotTexts_any (w:World) (G:Glob w) (M:MaxL w) (tn tm tn2 tm2:Bool) (ts0 ts1 ts2 ts3:Value) (ta tb ta2 tb2:List Int) (tx1 tx2 ty1 ty2:Bool) (tl1 tl2 tk1 tk2:Int) (tt1 tt2 tu1 tu2:Value) (tc1 tc2 td1 td2:List Nat)
  (ha:QR w w.heap.size (.agg #[.bool tn,ts0,.bool tm,ts1]) tn ta tm tb) (hb:QR w w.heap.size (.agg #[.bool tn2,ts2,.bool tm2,ts3]) tn2 ta2 tm2 tb2) (hl1:0≤tl1∧tl1≤255) (hl2:0≤tl2∧tl2≤255) (d2:0≤tk1∧tk1≤255) (i2:0≤tk2∧tk2≤255) (ht1:RW w w.heap.size tt1 tc1) (ht2:RW w w.heap.size tt2 tc2) (hu1:RW w w.heap.size tu1 td1) (hu2:RW w w.heap.size tu2 td2)
  (s:ByteArray) (hs:s.size≤maxLen) (at_:Int) (hat0:0≤at_) (hat1:at_≤65535) (c_:Int) (hc0:0≤c_) (hc1:c_≤255) :
  Calls Tryz.prog 5 #[.agg #[.bool tn,ts0,.bool tm,ts1,.bool tn2,ts2,.bool tm2,ts3,.bool tx1,.int .u8 tl1,tt1,.bool tx2,.int .u8 tl2,tt2,.bool ty1,.int .u8 tk1,tu1,.bool ty2,.int .u8 tk2,tu2],.string s,.int .u16 at_,.int .u8 c_] w fun e w'=>Below w.heap.size w w'∧e=.returned (.bool true):=by
 obtain⟨cc,rfl⟩:∃ cc:UInt8,c_=(cc.toNat:Int):=⟨UInt8.ofNat c_.toNat,by rw[UInt8.toNat_ofNat'];omega⟩;have HK:=zz (And.intro hl1 (And.intro hl2 (And.intro d2 i2)));have HA:=zz ha;have HB:=zz hb;have H1:=zz ht1;have H2:=zz ht2;have H3:=zz hu1;have H4:=zz hu2;clear hl1 hl2 d2 i2 ha hb ht1 ht2 hu1 hu2;have HS:=zz hs;have T4:=zz (And.intro hat0 hat1);clear hs hat0 hat1 hc0 hc1;obtain⟨w0,hw0⟩:∃ w0:World,w0=(w.alloc (.cells #[.bool tn,ts0,.bool tm,ts1,.bool tn2,ts2,.bool tm2,ts3,.bool tx1,.int .u8 tl1,tt1,.bool tx2,.int .u8 tl2,tt2,.bool ty1,.int .u8 tk1,tu1,.bool ty2,.int .u8 tk2,tu2] 33)):=⟨_,rfl⟩;have B0:=zz (n1_b hw0);have z0:=n1_z hw0;have Lt:=n1_0 hw0;replace HA:=zz (QR.step HA.out B0.out);replace HB:=zz (QR.step HB.out B0.out);replace H1:=zz (RW.step H1.out B0.out);replace H2:=zz (RW.step H2.out B0.out);replace H3:=zz (RW.step H3.out B0.out);replace H4:=zz (RW.step H4.out B0.out);go_enter Tryz.func5,Tryz.ntmps5
 go_upto_region 1 with (fail)
 rw[← hw0];clear hw0;go_wp2_with fail
 refine(worksQ_any _ (G.step B0.out) (M.step B0.out)).mono ?_;rintro e w1 ⟨j2,rfl⟩;have B2:=zz j2;have z2:=B2.out.size;have k2:=zz (B0.out.trans (B2.out.mono B0.out.size));clear j2;go_upto_region 3 with (fail)
 refine Flow.run [⟨0,26,fun fv fw=>fv=.pointer (some ⟨w.heap.size,0,none⟩)⟩,⟨1,27,fun fv fw=>fv=.agg #[.bool tn,ts0,.bool tm,ts1]⟩,⟨2,28,fun fv fw=>∃ n a m b,QR fw fw.heap.size fv n a m b⟩,⟨3,29,fun fv fw=>fv=.pointer (some ⟨w.heap.size,8,none⟩)⟩,⟨4,30,fun fv fw=>fv=.agg #[.bool tx1,.int .u8 tl1,tt1,.bool tx2,.int .u8 tl2,tt2]⟩,⟨5,31,fun fv fw=>∃ n a m b,QR fw fw.heap.size fv n a m b⟩,⟨6,32,fun fv fw=>PairVal fv (anyQ2 fw)⟩,⟨7,33,fun fv fw=>fv=.int .i64 0⟩] [] [] 0 (by kernel_rfl) (by kernel_rfl) (by kernel_rfl) (fun _ _ _ _ _ h=>h) ?_ ?_ ?_ ?_
 ·refine(a0 (a0 (all_cons (fun v w1 w2 h hb=>let ⟨n,a,m,b,h⟩:=h;⟨n,a,m,b,h.step hb⟩) (a0 (a0 (all_cons (fun v w1 w2 h hb=>let ⟨n,a,m,b,h⟩:=h;⟨n,a,m,b,h.step hb⟩) (all_cons (fun v w1 w2 h hb=>PairVal.mono h fun _ _ k=>k.step hb) (a0 all_nil))))))))
 ·refine(all_cons ?_ (all_cons ?_ (all_cons ?_ (all_cons ?_ (all_cons ?_ (all_cons ?_ (all_cons ?_ (all_cons ?_ all_nil))))))))
  ·intro xs C4 b0 c0;clear b0;clear c0;refine wpOp_step (o:=_) rfl (fun K hK=>?_);simp only[FL]
   go_simp;refine hK _ _ ⟨.pointer (some ⟨w.heap.size,0,none⟩),by kernel_rfl,Below.refl _ _,rfl,nF⟩
  ·intro xs E4 b0 c0;have o2:=zz b0;have F4:=b0.size;clear b0;have f0:(xs 0)=.pointer (some ⟨w.heap.size,0,none⟩):=c0 _ (m_ 0 rfl) (by kernel_rfl);clear c0;refine wpOp_step (o:=_) rfl (fun K hK=>?_);simp only[FL]
   have P1_3_7:=zz (B2.out.trans (o2.out.mono B2.out.size));have n0:=CB.step Lt P1_3_7.out;have p3:=n0.cell 0 rfl;have q3:=n0.cell 1 rfl;have r3:=n0.cell 2 rfl;have s3:=n0.cell 3 rfl;go_simp;refine hK _ _ ⟨.agg #[.bool tn,ts0,.bool tm,ts1],by simp only[FL,f0] <;> kernel_rfl,Below.refl _ _,rfl,nF⟩
  ·intro xs G4 b0 c0;have p2:=zz b0;have I4:=b0.size;clear b0;have f1:(xs 1)=.agg #[.bool tn,ts0,.bool tm,ts1]:=c0 _ (m_ 1 rfl) (by kernel_rfl);clear c0;refine wpOp_step (o:=_) rfl (fun K hK=>?_);simp only[FL]
   go_simp;have P1_3_10:=zz (B2.out.trans (p2.out.mono B2.out.size));have y0:=zz (QR.step HA.out P1_3_10.out);(with_reducible refine(ownQ_any _ _ tn tm ta tb y0.out).mono ?_)
   rintro e wc12 ⟨q2,v12,rfl,r2⟩;refine hK _ _ ⟨v12,by simp only[FL,f1] <;> kernel_rfl,q2,⟨_,_,_,_,r2⟩,nF⟩
  ·intro xs t3 b0 c0;clear b0;clear c0;refine wpOp_step (o:=_) rfl (fun K hK=>?_);simp only[FL]
   go_simp;refine hK _ _ ⟨.pointer (some ⟨w.heap.size,8,none⟩),by kernel_rfl,Below.refl _ _,rfl,nF⟩
  ·intro xs v3 b0 c0;have y1:=zz b0;have w3:=b0.size;clear b0;have f3:(xs 3)=.pointer (some ⟨w.heap.size,8,none⟩):=c0 _ (m_ 3 rfl) (by kernel_rfl);clear c0;refine wpOp_step (o:=_) rfl (fun K hK=>?_);simp only[FL]
   have P1_3_16:=zz (B2.out.trans (y1.out.mono B2.out.size));have g0:=CB.step Lt P1_3_16.out;have I2:=g0.cell 8 rfl;have J2:=g0.cell 9 rfl;have C2:=g0.cell 10 rfl;have D2:=g0.cell 11 rfl;have E2:=g0.cell 12 rfl;have F2:=g0.cell 13 rfl;go_simp;refine hK _ _ ⟨.agg #[.bool tx1,.int .u8 tl1,tt1,.bool tx2,.int .u8 tl2,tt2],by simp only[FL,f3] <;> kernel_rfl,Below.refl _ _,rfl,nF⟩
  ·intro xs y3 b0 c0;have z1:=zz b0;have z3:=b0.size;clear b0;have f4:(xs 4)=.agg #[.bool tx1,.int .u8 tl1,tt1,.bool tx2,.int .u8 tl2,tt2]:=c0 _ (m_ 4 rfl) (by kernel_rfl);clear c0;refine wpOp_step (o:=_) rfl (fun K hK=>?_);simp only[FL]
   go_simp;have P1_3_19:=zz (B2.out.trans (z1.out.mono B2.out.size));have A0:=zz (RW.step H1.out P1_3_19.out);have C0:=zz (RW.step H2.out P1_3_19.out);(with_reducible refine(DQuotQ_any _ tx1 tx2 tl1 tl2 tt1 tt2 tc1 tc2 HK.out.1.1 HK.out.1.2 A0.out HK.out.2.1.1 HK.out.2.1.2 C0.out).mono ?_)
   rintro e wc22 ⟨s2,q22,l22,v22,rfl,t2⟩;refine hK _ _ ⟨v22,by simp only[FL,f4] <;> kernel_rfl,s2,⟨_,_,_,_,t2.qr⟩,nF⟩
  ·intro xs o0 b0 c0;clear b0;have f2:∃ n a m b,QR o0 o0.heap.size (xs 2) n a m b:=c0 _ (m_ 2 rfl) (by kernel_rfl);have f5:∃ n a m b,QR o0 o0.heap.size (xs 5) n a m b:=c0 _ (m_ 5 rfl) (by kernel_rfl);clear c0;refine wpOp_step (o:=_) rfl (fun K hK=>?_);simp only[FL]
   obtain⟨n2,a2,m2,b2,hq2⟩:=f2;obtain⟨A2,A2',l2,c2,l2',c2',hx2⟩:=QR.cells hq2;rw[hx2] at hq2 ⊢;have D5:=zz hq2;clear hq2;obtain⟨n5,a5,m5,b5,hq5⟩:=f5;obtain⟨A5,A5',l5,c5,l5',c5',hx5⟩:=QR.cells hq5;rw[hx5] at hq5 ⊢;have E5:=zz hq5;clear hq5;go_simp;refine hK _ _ ⟨.agg #[.bool n2,.slice A2 l2 c2,.bool m2,.slice A2' l2' c2',.bool n5,.slice A5 l5 c5,.bool m5,.slice A5' l5' c5'],by simp only[FL,hx2,hx5] <;> kernel_rfl,Below.refl _ _,⟨_,_,_,_,_,_,_,_,_,_,_,_,_,_,_,_,rfl,⟨_,_,_,_,D5.out⟩,_,_,_,_,E5.out⟩,nF⟩
  ·intro xs B3 b0 c0;clear b0;clear c0;refine wpOp_step (o:=_) rfl (fun K hK=>?_);simp only[FL]
   go_simp;refine hK _ _ ⟨.int .i64 0,by kernel_rfl,Below.refl _ _,rfl,nF⟩
 ·exact all_nil
 ·intro xs J4 hbf hf hn hd;have f0:(xs 0)=.pointer (some ⟨w.heap.size,0,none⟩):=hf _ (m_ 0 rfl);have f1:(xs 1)=.agg #[.bool tn,ts0,.bool tm,ts1]:=hf _ (m_ 1 rfl);have f2:∃ n a m b,QR J4 J4.heap.size (xs 2) n a m b:=hf _ (m_ 2 rfl);have f3:(xs 3)=.pointer (some ⟨w.heap.size,8,none⟩):=hf _ (m_ 3 rfl);have f4:(xs 4)=.agg #[.bool tx1,.int .u8 tl1,tt1,.bool tx2,.int .u8 tl2,tt2]:=hf _ (m_ 4 rfl);have f5:∃ n a m b,QR J4 J4.heap.size (xs 5) n a m b:=hf _ (m_ 5 rfl);have f6:PairVal (xs 6) (anyQ2 J4):=hf _ (m_ 6 rfl);have f7:(xs 7)=.int .i64 0:=hf _ (m_ 7 rfl);clear hf hn hd;simp only[FL]
  have B26:=zz hbf;have z26:=B26.out.size;have p0:=zz (k2.out.trans (B26.out.mono k2.out.size));clear hbf;generalize xs 0=x0,xs 1=x1,xs 2=x2,xs 3=x3,xs 4=x4,xs 5=x5,xs 6=x6,xs 7=x7 at *
  obtain rfl:=f0;obtain rfl:=f1;clear f2;obtain rfl:=f3;obtain rfl:=f4;clear f5;obtain⟨pn,pm,pn2,pm2,pA,pA',pB,pB',pl,pc,pl',pc',pk,pd,pk',pd',rfl,hp⟩:=f6;have HP:=zz hp;clear hp;obtain rfl:=f7;refine Early.done (by kernel_rfl) ?_ _;(try simp only[Exit.then])
  go_wp2;have GXk:=zz (G.step p0.out);have MXk:=zz (M.step p0.out);go_loopw [33] (fun iv wr=>∃ k:Nat,k≤2∧iv=.int .i64 k∧Hid (Below J4.heap.size J4 wr)) (fun iv _=>2-(intOf iv).toNat)
  case atStart=>exact⟨0,Nat.zero_le _,rfl,zz (Below.refl _ _)⟩
  case round=>
   obtain⟨k,hkn,rfl,HRk⟩:=hrel;obtain⟨wk,hwk⟩:∃ x:World,x=wr:=⟨_,rfl⟩;subst hwk;have zrk:=HRk.out.size;by_cases hltk:k<2
   ·have hltki:(k:Int)<2:=by omega
    have hgeki:(0:Int)≤(k:Int):=by omega
    have A1:=zz (anyQ2.step HP.out HRk.out);obtain⟨qn,qm,qA,qA',ql,qc,ql',qc',qa,qb,hidx,hq⟩:∃ (qn qm:Bool) (qA qA':Option Addr) (ql qc ql' qc':Nat) (qa qb:List Int),(∀ w:World,(Instr.index 37 (.agg #[.bool pn,.slice pA pl pc,.bool pm,.slice pA' pl' pc',.bool pn2,.slice pB pk pd,.bool pm2,.slice pB' pk' pd']) (.int .i64 (k:Int))).run Tryz.prog w=.ok (.agg #[.bool qn,.slice qA ql qc,.bool qm,.slice qA' ql' qc']) w)∧QR wk wk.heap.size (.agg #[.bool qn,.slice qA ql qc,.bool qm,.slice qA' ql' qc']) qn qa qm qb:=by
     have hp:=A1.out;obtain⟨⟨n1,a1,m1,b1,h1⟩,n2,a2,m2,b2,h2⟩:=hp;have e1:n1=pn∧m1=pm:=by obtain⟨_,_,_,_,_,_,e,-⟩:=h1;injection e with e;injection e with e;injection e with g1 e;injection e with _ e;injection e with g2 _;injection g1 with g1;injection g2 with g2;exact⟨g1.symm,g2.symm⟩
     have e2:n2=pn2∧m2=pm2:=by obtain⟨_,_,_,_,_,_,e,-⟩:=h2;injection e with e;injection e with e;injection e with g1 e;injection e with _ e;injection e with g2 _;injection g1 with g1;injection g2 with g2;exact⟨g1.symm,g2.symm⟩
     obtain⟨rfl,rfl⟩:=e1;obtain⟨rfl,rfl⟩:=e2;obtain rfl | rfl:k=0∨k=1:=by omega
     ·exact⟨n1,m1,pA,pA',pl,pc,pl',pc',a1,b1,fun _=>by kernel_rfl,h1⟩
     ·exact⟨n2,m2,pB,pB',pk,pd,pk',pd',a2,b2,fun _=>by kernel_rfl,h2⟩
    have HQ:=zz hq;clear hq;go_upto_region 6 with (fail)
    clear hidx;obtain⟨w29,k0⟩:∃ w29:World,w29=(wk.alloc (.cells #[.bool qn,.slice qA ql qc,.bool qm,.slice qA' ql' qc'] 26)):=⟨_,rfl⟩;rw[← k0];have i0:=n1_0 k0;have za29:=n1_z k0;have B30:=zz (n1_b k0);have z30:=B30.out.size;have r0:=zz (HRk.out.trans (B30.out.mono HRk.out.size));clear k0;obtain⟨u,hu⟩:∃ u,u=txtA (qOf qn qa qm qb):=⟨_,rfl⟩;obtain⟨ue,hue⟩:∃ u,u=txtE (qOf qn qa qm qb):=⟨_,rfl⟩;have HU:=zz hu;have U4:=zz hue;clear hu hue;have B1:=i0.cell 0 rfl;have C1:=i0.cell 1 rfl;have D1:=i0.cell 2 rfl;have E1:=i0.cell 3 rfl;have O4:=i0.lt;go_wp2_with fail
    have s0:=zz (QR.step HQ.out B30.out);refine(((QText_any _ _ qn qm qa qb s0.out (GXk.out.step r0.out)).mono fun e w' h=>And.intro h.1 (show e=.returned (.tuple #[.string u,.int .i64 ue]) by rw[HU.out,U4.out];exact RetT.one h.2))).mono ?_;rintro e w32 ⟨D0,rfl⟩;have B35:=zz D0;have z35:=B35.out.size;have E0:=zz (r0.out.trans (B35.out.mono r0.out.size));clear D0;clear B1 C1 D1 E1 O4;have j0:=CB.step i0 B35.out;have F1:=j0.cell 0 rfl;have G1:=j0.cell 1 rfl;have I1:=j0.cell 2 rfl;have J1:=j0.cell 3 rfl;have P4:=j0.lt;go_wp2_with fail
    have K1:=zz (QR.step s0.out B35.out);refine(((RTextQ_any _ _ qn qm qa qb K1.out).mono fun e w' h=>And.intro h.1 (show e=.returned (.tuple #[.string u,.int .i64 ue]) by rw[HU.out,U4.out];exact RetT.one h.2))).mono ?_;rintro e w37 ⟨F0,rfl⟩;have B41:=zz F0;have z41:=B41.out.size;have u2:=zz (E0.out.trans (B41.out.mono E0.out.size));clear F0;clear F1 G1 I1 J1 P4;go_wp2;go_roundw
    case rel=>exact⟨k+1,by omega,by go_num,zz u2.out⟩
    case measure=>simp[intOf];omega
   ·obtain rfl:k=2:=by omega
    rw[show((2:Nat):Int)=2 from rfl];have P1_3_46:=zz (B2.out.trans (B26.out.mono B2.out.size));have P1_4_47:=zz (P1_3_46.out.trans (HRk.out.mono P1_3_46.out.size));have d0:=CB.step Lt P1_4_47.out;have L1:=d0.cell 0 rfl;have M1:=d0.cell 1 rfl;have N1:=d0.cell 2 rfl;have O1:=d0.cell 3 rfl;have P1:=d0.cell 4 rfl;have Q1:=d0.cell 5 rfl;have R1:=d0.cell 6 rfl;have S1:=d0.cell 7 rfl;have T1:=d0.cell 8 rfl;have U1:=d0.cell 9 rfl;have G0:=d0.cell 10 rfl;have H0:=d0.cell 11 rfl;have I0:=d0.cell 12 rfl;have J0:=d0.cell 13 rfl;have K0:=d0.cell 14 rfl;have L0:=d0.cell 15 rfl;have M0:=d0.cell 16 rfl;have N0:=d0.cell 17 rfl;have O0:=d0.cell 18 rfl;have P0:=d0.cell 19 rfl;have Q4:=d0.lt;go_wp2_with fail
    have Q0:=zz (RW.step H1.out P1_4_47.out);have R0:=zz (RW.step H2.out P1_4_47.out);refine(DShortQ_any _ tx1 tx2 tl1 tl2 tt1 tt2 tc1 tc2 HK.out.1.1 HK.out.1.2 Q0.out HK.out.2.1.1 HK.out.2.1.2 R0.out).mono ?_;rintro e w44 ⟨S0,q,hq,v,rfl,hv⟩;have B51:=zz S0;have z51:=B51.out.size;have T0:=zz (HRk.out.trans (B51.out.mono HRk.out.size));clear S0;clear L1 M1 N1 O1 P1 Q1 R1 S1 T1 U1 G0 H0 I0 J0 K0 L0 M0 N0 O0 P0 Q4;have R4:=zz (hq.mono (show 47≤600 by decide) (show 47≤600 by decide));clear hq;obtain⟨Z4,d5,e5,g5,h5,V1,i5,rfl,ha53,U0,hc53⟩:=hv;have V0:=zz (show QV w44 w44.heap.size (.agg #[.bool Z4,.slice d5 e5 g5,.bool false,.slice h5 V1 i5]) q from⟨_,_,_,_,_,_,_,rfl,ha53,U0,hc53⟩);clear ha53 U0 hc53;obtain⟨told,htold⟩:∃ u,u=txtA (some q):=⟨_,rfl⟩;have hts:told.size≤10803:=by rw[htold,Lib.size_eq];exact textQ_len' R4.out
    have G5:=zz htold;have V4:=zz hts;clear htold hts;go_wp2_with fail
    refine(((show Calls Tryz.prog _ _ _ _ from(qOf_rat q R4.out.1 R4.out.2)▸RTextQ_any _ _ _ _ _ _ (QV.qr V0.out)).mono fun e w' h=>And.intro h.1 (show e=.returned (.tuple #[.string told,.int .i64 0]) by rw[G5.out];exact RetT.one h.2))).mono ?_;rintro e w54 ⟨W0,rfl⟩;have B55:=zz W0;have z55:=B55.out.size;have X0:=zz (T0.out.trans (B55.out.mono T0.out.size));clear W0;have hts:=V4.out;have hat0:=T4.out.1;have hat1:=T4.out.2;obtain⟨Kt,hKt,hKl⟩:∃ Kt:Nat,at_ % ((told.size:Int)+1)=(Kt:Int)∧Kt≤told.size:=⟨(at_ % ((told.size:Int)+1)).toNat,by have:=Int.emod_nonneg at_ (show(told.size:Int)+1≠0 by omega);omega,by have:=Int.emod_nonneg at_ (show(told.size:Int)+1≠0 by omega);have:=Int.emod_lt_of_pos at_ (show(0:Int)<(told.size:Int)+1 by omega);omega⟩;go_upto_region 13 with (fail)
    rw[hKt];clear hKt hat0 hat1;have hK0:(0:Int)≤(Kt:Int):=by omega
    have hK1:(Kt:Int)≤(told.size:Int):=by omega
    have h0:(0:Int)≤(s.size:Int):=by omega
    have hm0:0≤min (↑s.size) (400:Int):=by omega
    have hm1:min (↑s.size) (400:Int)≤↑s.size:=by omega
    refine Flow.run [⟨0,68,fun fv fw=>fv=.string s⟩,⟨1,69,fun fv fw=>fv=.string s⟩,⟨2,70,fun fv fw=>fv=.int .i64 (s.size:Int)⟩,⟨3,71,fun fv fw=>fv=.int .i64 (min (s.size:Int) 400)⟩,⟨4,72,fun fv fw=>fv=.string (s.extract 0 (min (↑s.size) 400:Int).toNat)⟩,⟨5,73,fun fv fw=>fv=.string told⟩,⟨6,74,fun fv fw=>fv=.string told⟩,⟨7,75,fun fv fw=>fv=.int .i64 (Kt:Int)⟩,⟨8,76,fun fv fw=>fv=.string (told.extract 0 Kt)⟩,⟨9,77,fun fv fw=>fv=.int .u8 (cc.toNat:Int)⟩,⟨10,78,fun fv fw=>∃ b,fv=.slice (some ⟨b,0,none⟩) 1 1∧OwnB fw b [cc]⟩,⟨11,79,fun fv fw=>fv=.string ⟨#[cc]⟩⟩,⟨12,80,fun fv fw=>fv=.string (told.extract 0 Kt++⟨#[cc]⟩)⟩,⟨13,81,fun fv fw=>fv=.string told⟩,⟨14,82,fun fv fw=>fv=.int .i64 (Kt:Int)⟩,⟨15,83,fun fv fw=>fv=.string (told.extract Kt told.size)⟩,⟨16,84,fun fv fw=>fv=.string (told.extract 0 Kt++⟨#[cc]⟩++told.extract Kt told.size)⟩,⟨17,85,fun fv fw=>fv=.string told⟩,⟨18,86,fun fv fw=>fv=.int .i64 (Kt:Int)⟩,⟨19,87,fun fv fw=>fv=.string (told.extract Kt told.size)⟩,⟨20,88,fun fv fw=>fv=.string told⟩,⟨21,89,fun fv fw=>fv=.int .i64 (Kt:Int)⟩,⟨22,90,fun fv fw=>fv=.string (told.extract 0 Kt)⟩,⟨23,91,fun fv fw=>fv=.agg #[.string (s.extract 0 (min (↑s.size) 400:Int).toNat),.string told,.string (told.extract 0 Kt++⟨#[cc]⟩++told.extract Kt told.size),.string (told.extract Kt told.size),.string (told.extract 0 Kt)]⟩,⟨24,92,fun fv fw=>fv=.int .i64 0⟩] [] [] 0 (by kernel_rfl) (by kernel_rfl) (by kernel_rfl) (fun _ _ _ _ _ h=>h) ?_ ?_ ?_ ?_
    ·refine(a0 (a0 (a0 (a0 (a0 (a0 (a0 (a0 (a0 (a0 (all_cons (fun v w1 w2 h hb=>let ⟨b,e,h⟩:=h;⟨b,e,h.step hb⟩) (a0 (a0 (a0 (a0 (a0 (a0 (a0 (a0 (a0 (a0 (a0 (a0 (a0 (a0 all_nil)))))))))))))))))))))))))
    ·refine(all_cons ?_ (all_cons ?_ (all_cons ?_ (all_cons ?_ (all_cons ?_ (all_cons ?_ (all_cons ?_ (all_cons ?_ (all_cons ?_ (all_cons ?_ (all_cons ?_ (all_cons ?_ (all_cons ?_ (all_cons ?_ (all_cons ?_ (all_cons ?_ (all_cons ?_ (all_cons ?_ (all_cons ?_ (all_cons ?_ (all_cons ?_ (all_cons ?_ (all_cons ?_ (all_cons ?_ (all_cons ?_ all_nil)))))))))))))))))))))))))
     ·intro xs D3 b0 c0;have M2:=zz b0;have E3:=b0.size;clear b0;clear c0;refine wpOp_step (o:=_) rfl (fun K hK=>?_);simp only[FL]
      go_simp;refine hK _ _ ⟨.string s,by kernel_rfl,Below.refl _ _,rfl,nF⟩
     ·intro xs F3 b0 c0;have N2:=zz b0;have G3:=b0.size;clear b0;clear c0;refine wpOp_step (o:=_) rfl (fun K hK=>?_);simp only[FL]
      go_simp;refine hK _ _ ⟨.string s,by kernel_rfl,Below.refl _ _,rfl,nF⟩
     ·intro xs I3 b0 c0;have O2:=zz b0;have J3:=b0.size;clear b0;have f1:(xs 1)=.string s:=c0 _ (m_ 1 rfl) (by kernel_rfl);clear c0;refine wpOp_step (o:=_) rfl (fun K hK=>?_);simp only[FL]
      go_simp;refine hK _ _ ⟨.int .i64 (s.size:Int),by simp only[FL,f1] <;> kernel_rfl,Below.refl _ _,rfl,nF⟩
     ·intro xs K3 b0 c0;have P2:=zz b0;have L3:=b0.size;clear b0;have f2:(xs 2)=.int .i64 (s.size:Int):=c0 _ (m_ 2 rfl) (by kernel_rfl);clear c0;refine wpOp_step (o:=_) rfl (fun K hK=>?_);simp only[FL]
      go_simp;refine hK _ _ ⟨.int .i64 (min (s.size:Int) 400),by simp only[FL,f2] <;> kernel_rfl,Below.refl _ _,rfl,nF⟩
     ·intro xs M3 b0 c0;have Q2:=zz b0;have N3:=b0.size;clear b0;have f0:(xs 0)=.string s:=c0 _ (m_ 0 rfl) (by kernel_rfl);have f3:(xs 3)=.int .i64 (min (s.size:Int) 400):=c0 _ (m_ 3 rfl) (by kernel_rfl);clear c0;refine wpOp_step (o:=_) rfl (fun K hK=>?_);simp only[FL]
      go_simp;refine hK _ _ ⟨.string (s.extract 0 (min (↑s.size) 400:Int).toNat),by simp only[FL,f0,f3] <;> kernel_rfl,Below.refl _ _,rfl,nF⟩
     ·intro xs O3 b0 c0;have R2:=zz b0;have P3:=b0.size;clear b0;clear c0;refine wpOp_step (o:=_) rfl (fun K hK=>?_);simp only[FL]
      go_simp;refine hK _ _ ⟨.string told,by kernel_rfl,Below.refl _ _,rfl,nF⟩
     ·intro xs Q3 b0 c0;have S2:=zz b0;have R3:=b0.size;clear b0;clear c0;refine wpOp_step (o:=_) rfl (fun K hK=>?_);simp only[FL]
      go_simp;refine hK _ _ ⟨.string told,by kernel_rfl,Below.refl _ _,rfl,nF⟩
     ·intro xs S3 b0 c0;have T2:=zz b0;have T3:=b0.size;clear b0;clear c0;refine wpOp_step (o:=_) rfl (fun K hK=>?_);simp only[FL]
      go_simp;refine hK _ _ ⟨.int .i64 (Kt:Int),by kernel_rfl,Below.refl _ _,rfl,nF⟩
     ·intro xs U3 b0 c0;have U2:=zz b0;have V3:=b0.size;clear b0;have f6:(xs 6)=.string told:=c0 _ (m_ 6 rfl) (by kernel_rfl);have f7:(xs 7)=.int .i64 (Kt:Int):=c0 _ (m_ 7 rfl) (by kernel_rfl);clear c0;refine wpOp_step (o:=_) rfl (fun K hK=>?_);simp only[FL]
      go_simp;refine hK _ _ ⟨.string (told.extract 0 Kt),by simp only[FL,f6,f7] <;> kernel_rfl,Below.refl _ _,rfl,nF⟩
     ·intro xs W3 b0 c0;have V2:=zz b0;have X3:=b0.size;clear b0;clear c0;refine wpOp_step (o:=_) rfl (fun K hK=>?_);simp only[FL]
      go_simp;refine hK _ _ ⟨.int .u8 (cc.toNat:Int),by kernel_rfl,Below.refl _ _,rfl,nF⟩
     ·intro xs v2 b0 c0;have W2:=zz b0;have Y3:=b0.size;clear b0;have f9:(xs 9)=.int .u8 (cc.toNat:Int):=c0 _ (m_ 9 rfl) (by kernel_rfl);clear c0;refine wpOp_step (o:=_) rfl (fun K hK=>?_);simp only[FL]
      go_simp;refine hK _ _ ⟨.slice (some ⟨v2.heap.size,0,none⟩) 1 1,by simp only[FL,f9] <;> kernel_rfl,(Below.refl _ _).alloc (Nat.le_refl _) _,⟨_,rfl,⟨[],heap_alloc_new _ _⟩⟩,nF⟩
     ·intro xs y2 b0 c0;have X2:=zz b0;have Z3:=b0.size;clear b0;have f10:∃ b,(xs 10)=.slice (some ⟨b,0,none⟩) 1 1∧OwnB y2 b [cc]:=c0 _ (m_ 10 rfl) (by kernel_rfl);clear c0;refine wpOp_step (o:=_) rfl (fun K hK=>?_);simp only[FL]
      obtain⟨b,hu,ho⟩:=f10;rw[hu];have hcv:=conv_bytes (cap:=1) ho (show 1=[cc].length from rfl);go_simp;refine hK _ _ ⟨.string ⟨#[cc]⟩,by simp only[FL,hu] <;> kernel_rfl,Below.refl _ _,rfl,nF⟩
     ·intro xs a4 b0 c0;have Y2:=zz b0;have b4:=b0.size;clear b0;have f8:(xs 8)=.string (told.extract 0 Kt):=c0 _ (m_ 8 rfl) (by kernel_rfl);have f11:(xs 11)=.string ⟨#[cc]⟩:=c0 _ (m_ 11 rfl) (by kernel_rfl);clear c0;refine wpOp_step (o:=_) rfl (fun K hK=>?_);simp only[FL]
      have hcat4:¬ 9223372036854775807<Kt+1:=by omega
      have hcat5:¬ 9223372036854775807<Kt+1+(told.size-Kt):=by omega
      have hcat:¬ 9223372036854775807<min Kt told.size+1:=by omega
      have hcat2:¬ 9223372036854775807<min Kt told.size+1+(told.size-Kt):=by omega
      go_simp;refine hK _ _ ⟨.string (told.extract 0 Kt++⟨#[cc]⟩),by simp only[FL,f8,f11] <;> kernel_rfl,Below.refl _ _,rfl,nF⟩
     ·intro xs c4 b0 c0;have Z2:=zz b0;have d4:=b0.size;clear b0;clear c0;refine wpOp_step (o:=_) rfl (fun K hK=>?_);simp only[FL]
      go_simp;refine hK _ _ ⟨.string told,by kernel_rfl,Below.refl _ _,rfl,nF⟩
     ·intro xs e4 b0 c0;have b3:=zz b0;have g4:=b0.size;clear b0;clear c0;refine wpOp_step (o:=_) rfl (fun K hK=>?_);simp only[FL]
      go_simp;refine hK _ _ ⟨.int .i64 (Kt:Int),by kernel_rfl,Below.refl _ _,rfl,nF⟩
     ·intro xs h4 b0 c0;have c3:=zz b0;have i4:=b0.size;clear b0;have f13:(xs 13)=.string told:=c0 _ (m_ 13 rfl) (by kernel_rfl);have f14:(xs 14)=.int .i64 (Kt:Int):=c0 _ (m_ 14 rfl) (by kernel_rfl);clear c0;refine wpOp_step (o:=_) rfl (fun K hK=>?_);simp only[FL]
      go_simp;refine hK _ _ ⟨.string (told.extract Kt told.size),by simp only[FL,f13,f14] <;> kernel_rfl,Below.refl _ _,rfl,nF⟩
     ·intro xs j4 b0 c0;have d3:=zz b0;have k4:=b0.size;clear b0;have f12:(xs 12)=.string (told.extract 0 Kt++⟨#[cc]⟩):=c0 _ (m_ 12 rfl) (by kernel_rfl);have f15:(xs 15)=.string (told.extract Kt told.size):=c0 _ (m_ 15 rfl) (by kernel_rfl);clear c0;refine wpOp_step (o:=_) rfl (fun K hK=>?_);simp only[FL]
      have hcat4:¬ 9223372036854775807<Kt+1:=by omega
      have hcat5:¬ 9223372036854775807<Kt+1+(told.size-Kt):=by omega
      have hcat:¬ 9223372036854775807<min Kt told.size+1:=by omega
      have hcat2:¬ 9223372036854775807<min Kt told.size+1+(told.size-Kt):=by omega
      go_simp;refine hK _ _ ⟨.string (told.extract 0 Kt++⟨#[cc]⟩++told.extract Kt told.size),by simp only[FL,f12,f15] <;> kernel_rfl,Below.refl _ _,rfl,nF⟩
     ·intro xs l4 b0 c0;have e3:=zz b0;have m4:=b0.size;clear b0;clear c0;refine wpOp_step (o:=_) rfl (fun K hK=>?_);simp only[FL]
      go_simp;refine hK _ _ ⟨.string told,by kernel_rfl,Below.refl _ _,rfl,nF⟩
     ·intro xs n4 b0 c0;have g3:=zz b0;have o4:=b0.size;clear b0;clear c0;refine wpOp_step (o:=_) rfl (fun K hK=>?_);simp only[FL]
      go_simp;refine hK _ _ ⟨.int .i64 (Kt:Int),by kernel_rfl,Below.refl _ _,rfl,nF⟩
     ·intro xs p4 b0 c0;have i3:=zz b0;have q4:=b0.size;clear b0;have f17:(xs 17)=.string told:=c0 _ (m_ 17 rfl) (by kernel_rfl);have f18:(xs 18)=.int .i64 (Kt:Int):=c0 _ (m_ 18 rfl) (by kernel_rfl);clear c0;refine wpOp_step (o:=_) rfl (fun K hK=>?_);simp only[FL]
      go_simp;refine hK _ _ ⟨.string (told.extract Kt told.size),by simp only[FL,f17,f18] <;> kernel_rfl,Below.refl _ _,rfl,nF⟩
     ·intro xs r4 b0 c0;have j3:=zz b0;have s4:=b0.size;clear b0;clear c0;refine wpOp_step (o:=_) rfl (fun K hK=>?_);simp only[FL]
      go_simp;refine hK _ _ ⟨.string told,by kernel_rfl,Below.refl _ _,rfl,nF⟩
     ·intro xs t4 b0 c0;have k3:=zz b0;have u4:=b0.size;clear b0;clear c0;refine wpOp_step (o:=_) rfl (fun K hK=>?_);simp only[FL]
      go_simp;refine hK _ _ ⟨.int .i64 (Kt:Int),by kernel_rfl,Below.refl _ _,rfl,nF⟩
     ·intro xs v4 b0 c0;have l3:=zz b0;have w4:=b0.size;clear b0;have f20:(xs 20)=.string told:=c0 _ (m_ 20 rfl) (by kernel_rfl);have f21:(xs 21)=.int .i64 (Kt:Int):=c0 _ (m_ 21 rfl) (by kernel_rfl);clear c0;refine wpOp_step (o:=_) rfl (fun K hK=>?_);simp only[FL]
      go_simp;refine hK _ _ ⟨.string (told.extract 0 Kt),by simp only[FL,f20,f21] <;> kernel_rfl,Below.refl _ _,rfl,nF⟩
     ·intro xs y4 b0 c0;have m3:=zz b0;have z4:=b0.size;clear b0;have f4:(xs 4)=.string (s.extract 0 (min (↑s.size) 400:Int).toNat):=c0 _ (m_ 4 rfl) (by kernel_rfl);have f5:(xs 5)=.string told:=c0 _ (m_ 5 rfl) (by kernel_rfl);have f16:(xs 16)=.string (told.extract 0 Kt++⟨#[cc]⟩++told.extract Kt told.size):=c0 _ (m_ 16 rfl) (by kernel_rfl);have f19:(xs 19)=.string (told.extract Kt told.size):=c0 _ (m_ 19 rfl) (by kernel_rfl);have f22:(xs 22)=.string (told.extract 0 Kt):=c0 _ (m_ 22 rfl) (by kernel_rfl);clear c0;refine wpOp_step (o:=_) rfl (fun K hK=>?_);simp only[FL]
      go_simp;refine hK _ _ ⟨.agg #[.string (s.extract 0 (min (↑s.size) 400:Int).toNat),.string told,.string (told.extract 0 Kt++⟨#[cc]⟩++told.extract Kt told.size),.string (told.extract Kt told.size),.string (told.extract 0 Kt)],by simp only[FL,f4,f5,f16,f19,f22] <;> kernel_rfl,Below.refl _ _,rfl,nF⟩
     ·intro xs A4 b0 c0;have n3:=zz b0;have B4:=b0.size;clear b0;clear c0;refine wpOp_step (o:=_) rfl (fun K hK=>?_);simp only[FL]
      go_simp;refine hK _ _ ⟨.int .i64 0,by kernel_rfl,Below.refl _ _,rfl,nF⟩
    ·exact all_nil
    ·intro xs L4 hbf hf hn hd;have f0:(xs 0)=.string s:=hf _ (m_ 0 rfl);have f1:(xs 1)=.string s:=hf _ (m_ 1 rfl);have f2:(xs 2)=.int .i64 (s.size:Int):=hf _ (m_ 2 rfl);have f3:(xs 3)=.int .i64 (min (s.size:Int) 400):=hf _ (m_ 3 rfl);have f4:(xs 4)=.string (s.extract 0 (min (↑s.size) 400:Int).toNat):=hf _ (m_ 4 rfl);have f5:(xs 5)=.string told:=hf _ (m_ 5 rfl);have f6:(xs 6)=.string told:=hf _ (m_ 6 rfl);have f7:(xs 7)=.int .i64 (Kt:Int):=hf _ (m_ 7 rfl);have f8:(xs 8)=.string (told.extract 0 Kt):=hf _ (m_ 8 rfl);have f9:(xs 9)=.int .u8 (cc.toNat:Int):=hf _ (m_ 9 rfl);have f10:∃ b,(xs 10)=.slice (some ⟨b,0,none⟩) 1 1∧OwnB L4 b [cc]:=hf _ (m_ 10 rfl);have f11:(xs 11)=.string ⟨#[cc]⟩:=hf _ (m_ 11 rfl);have f12:(xs 12)=.string (told.extract 0 Kt++⟨#[cc]⟩):=hf _ (m_ 12 rfl);have f13:(xs 13)=.string told:=hf _ (m_ 13 rfl);have f14:(xs 14)=.int .i64 (Kt:Int):=hf _ (m_ 14 rfl);have f15:(xs 15)=.string (told.extract Kt told.size):=hf _ (m_ 15 rfl);have f16:(xs 16)=.string (told.extract 0 Kt++⟨#[cc]⟩++told.extract Kt told.size):=hf _ (m_ 16 rfl);have f17:(xs 17)=.string told:=hf _ (m_ 17 rfl);have f18:(xs 18)=.int .i64 (Kt:Int):=hf _ (m_ 18 rfl);have f19:(xs 19)=.string (told.extract Kt told.size):=hf _ (m_ 19 rfl);have f20:(xs 20)=.string told:=hf _ (m_ 20 rfl);have f21:(xs 21)=.int .i64 (Kt:Int):=hf _ (m_ 21 rfl);have f22:(xs 22)=.string (told.extract 0 Kt):=hf _ (m_ 22 rfl)
     have f23:(xs 23)=.agg #[.string (s.extract 0 (min (↑s.size) 400:Int).toNat),.string told,.string (told.extract 0 Kt++⟨#[cc]⟩++told.extract Kt told.size),.string (told.extract Kt told.size),.string (told.extract 0 Kt)]:=hf _ (m_ 23 rfl);have f24:(xs 24)=.int .i64 0:=hf _ (m_ 24 rfl);clear hf hn hd;simp only[FL]
     have B83:=zz hbf;have z83:=B83.out.size;have q0:=zz (X0.out.trans (B83.out.mono X0.out.size));clear hbf;generalize xs 0=x0,xs 1=x1,xs 2=x2,xs 3=x3,xs 4=x4,xs 5=x5,xs 6=x6,xs 7=x7,xs 8=x8,xs 9=x9,xs 10=x10,xs 11=x11,xs 12=x12,xs 13=x13,xs 14=x14,xs 15=x15,xs 16=x16,xs 17=x17,xs 18=x18,xs 19=x19,xs 20=x20,xs 21=x21,xs 22=x22,xs 23=x23,xs 24=x24 at *
     obtain rfl:=f0;obtain rfl:=f1;obtain rfl:=f2;obtain rfl:=f3;obtain rfl:=f4;obtain rfl:=f5;obtain rfl:=f6;obtain rfl:=f7;obtain rfl:=f8;obtain rfl:=f9;clear f10;obtain rfl:=f11;obtain rfl:=f12;obtain rfl:=f13;obtain rfl:=f14;obtain rfl:=f15;obtain rfl:=f16;obtain rfl:=f17;obtain rfl:=f18;obtain rfl:=f19;obtain rfl:=f20;obtain rfl:=f21;obtain rfl:=f22;obtain rfl:=f23;obtain rfl:=f24;refine Early.done (by kernel_rfl) ?_ _;(try simp only[Exit.then])
     have hx1:(s.extract 0 (min (↑s.size) 400:Int).toNat).size≤100000:=by rw[ByteArray.size_extract];omega
     have hz1:(told.extract 0 Kt).size≤100000:=by rw[ByteArray.size_extract];omega
     have hz2:(told.extract Kt told.size).size≤100000:=by rw[ByteArray.size_extract];omega
     have hx3:(told.extract 0 Kt++⟨#[cc]⟩++told.extract Kt told.size:ByteArray).size≤100000:=by rw[ByteArray.size_append,ByteArray.size_append,show(ByteArray.mk #[cc]).size=1 from rfl,ByteArray.size_extract,ByteArray.size_extract];omega
     obtain⟨a0,h0⟩:∃ a,a=s.extract 0 (min (↑s.size) 400:Int).toNat:=⟨_,rfl⟩;rw[← h0] at hx1 ⊢;clear h0;obtain⟨a1,h1⟩:∃ a,a=(told.extract 0 Kt++⟨#[cc]⟩++told.extract Kt told.size:ByteArray):=⟨_,rfl⟩;rw[← h1] at hx3 ⊢;clear h1;obtain⟨a2,h2⟩:∃ a,a=told.extract Kt told.size:=⟨_,rfl⟩;rw[← h2] at hz2 ⊢;clear h2;obtain⟨a3,h3⟩:∃ a,a=told.extract 0 Kt:=⟨_,rfl⟩;rw[← h3] at hz1 ⊢;clear h3;have HZ:=zz (And.intro hx1 (And.intro hx3 (And.intro hz2 hz1)));clear hx1 hx3 hz1 hz2 hK0 hK1 h0 hm0 hm1 hKl hts;go_wp2;have GXj:=zz (GXk.out.step q0.out);have MXj:=zz (MXk.out.step q0.out);go_loopw [92] (fun iv wr=>∃ j:Nat,j≤5∧iv=.int .i64 j∧Hid (Below L4.heap.size L4 wr)) (fun iv _=>5-(intOf iv).toNat)
     case atStart=>exact⟨0,Nat.zero_le _,rfl,zz (Below.refl _ _)⟩
     case round=>
      obtain⟨j,hjn,rfl,HRj⟩:=hrel;obtain⟨wj,hwj⟩:∃ x:World,x=wr:=⟨_,rfl⟩;subst hwj;have zrj:=HRj.out.size;by_cases hltj:j<5
      ·have hltji:(j:Int)<5:=by omega
       have hgeji:(0:Int)≤(j:Int):=by omega
       obtain⟨u,hu,hidx⟩:=idxS5 a0 told a1 a2 a3 (k:=100000) HZ.out.1 (Nat.le_trans V4.out (by decide)) HZ.out.2.1 HZ.out.2.2.1 HZ.out.2.2.2 j hltj;have W4:=zz (Nat.le_trans hu (show 100000≤1000000 by decide));clear hu;obtain⟨p,hp⟩:∃ p,p=parseQ u.data.toList:=⟨_,rfl⟩;have X4:=zz hp;clear hp;obtain⟨o,e⟩:=p;go_wp2_with fail
       refine((show Calls Tryz.prog _ _ _ _ from X4.out▸QParse_any _ u W4.out (MXj.out.step HRj.out))).mono ?_;rintro e w86 ⟨Y0,v,rfl,hv⟩;have B87:=zz Y0;have z87:=B87.out.size;have Z0:=zz (HRj.out.trans (B87.out.mono HRj.out.size));clear Y0;replace hv:QO w86 w86.heap.size v o:=hv;clear hidx;dsimp only
       have hg89:=hv;obtain⟨j5,k5,o5,p5,q5,r5,W1,s5,rfl⟩:=QO.cells hg89;have X1:=zz hg89;clear hg89;go_upto_region 17 with (fail)
       obtain⟨w90,l0⟩:∃ w90:World,w90=(w86.alloc (.cells #[.bool j5,.slice k5 o5 p5,.bool q5,.slice r5 W1 s5] 26)):=⟨_,rfl⟩;rw[← l0];have c1:=n1_0 l0;have za90:=n1_z l0;have B91:=zz (n1_b l0);have z91:=B91.out.size;have d1:=zz (Z0.out.trans (B91.out.mono Z0.out.size));clear l0;go_wp2_with fail
       refine((show Calls Tryz.prog _ _ _ _ from X4.out▸RParseQ_any _ u W4.out)).mono ?_;rintro e w94 ⟨i1,v,rfl,hv⟩;have B95:=zz i1;have z95:=B95.out.size;have j1:=zz (d1.out.trans (B95.out.mono d1.out.size));clear i1;replace hv:QO w94 w94.heap.size v o:=hv;dsimp only
       have hg97:=hv;obtain⟨t5,u5,v5,w5,y5,z5,Y1,B5,rfl⟩:=QO.cells hg97;have k1:=zz hg97;clear hg97;go_upto_region 18 with (fail)
       obtain⟨w98,m0⟩:∃ w98:World,w98=(w94.alloc (.cells #[.bool t5,.slice u5 v5 w5,.bool y5,.slice z5 Y1 B5] 26)):=⟨_,rfl⟩;rw[← m0];have Lq2v_98:=n1_0 m0;have za98:=n1_z m0;have B99:=zz (n1_b m0);have z99:=B99.out.size;have t0:=zz (j1.out.trans (B99.out.mono j1.out.size));clear m0;have P10_12_103:=zz (B95.out.trans (B99.out.mono B95.out.size));have e0:=CB.step c1 P10_12_103.out;have l1:=e0.cell 0 rfl;have o1:=e0.cell 1 rfl;have p1:=e0.cell 2 rfl;have q1:=e0.cell 3 rfl;have M4:=e0.lt;have r1:=Lq2v_98.cell 0 rfl;have s1:=Lq2v_98.cell 1 rfl;have t1:=Lq2v_98.cell 2 rfl;have u1:=Lq2v_98.cell 3 rfl;have N4:=Lq2v_98.lt;go_wp2_with fail
       have P9_11_106:=zz (B91.out.trans (B95.out.mono B91.out.size));have P9_12_107:=zz (P9_11_106.out.trans (B99.out.mono P9_11_106.out.size));have v1:=zz (QO.step X1.out P9_12_107.out);have v0:=zz (QO.step k1.out B99.out);refine(alikeQ_yes v1.out v0.out).mono ?_;rintro e w101 ⟨u0,rfl⟩;have B110:=zz u0;have z110:=B110.out.size;have Z1:=zz (t0.out.trans (B110.out.mono t0.out.size));clear u0;clear l1 o1 p1 q1 M4 r1 s1 t1 u1 N4;go_wp2;go_roundw
       case rel=>exact⟨j+1,by omega,by go_num,zz Z1.out⟩
       case measure=>simp[intOf];omega
      ·obtain rfl:j=5:=by omega
       rw[show((5:Nat):Int)=5 from rfl];go_wp2;go_ret;exact⟨(p0.out.trans (((q0.out.trans ((HRj.out).mono q0.out.size))).mono p0.out.size)),rfl⟩
end Go.Proofs.YtioclokmbgmamaaGreatDoor
