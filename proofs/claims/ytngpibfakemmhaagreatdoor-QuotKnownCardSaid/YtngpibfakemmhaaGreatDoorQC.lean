/- Layer 04: Told (written by gen_qb.py). -/
import Derived.Test.YtngpibfakemmhaaGreatDoorQB
namespace Go.Proofs.YtngpibfakemmhaaGreatDoor
open Go Go.RowKit Dig
theorem cloneN_any (w:World) (v:Value) (l:List Nat) (h:RN w w.heap.size v l) (hl:l.length≤100000) :
  Calls Tryz.prog 78 #[v] w fun e w'=>Below w.heap.size w w'∧∃ v',e=.returned v'∧RN w' w'.heap.size v' l:=
 (clone_size w v (ni l) h (by rw[ni_length];omega)).mono fun _ _ ⟨hb,v',he,hv⟩=>⟨hb,v',he,hv.ri⟩
theorem mkRat_nd {z:Int} {d:Nat} (hd:d≠0) (hc:Nat.gcd z.natAbs d=1):(mkRat z d).num=z∧(mkRat z d).den=d:=mkRat_low (by omega) hc
set_option maxRecDepth 100000 in
set_option maxHeartbeats 16000000 in
theorem Told_any (w:World) (v:Value) (z:Int) (d:Nat) (h:TV w w.heap.size v z d) (hd:d≠0) (hc:Nat.gcd z.natAbs d=1) (hl:(dig z.natAbs).length≤100000) (hl':(dig d).length≤100000) :
  Calls Tryz.prog 52 #[v] w fun e w'=>Below w.heap.size w w'∧RetQ w' (toldQ (mkRat z d)) e:=by
 obtain⟨n,A,l,c,A',l',c',rfl,Ha,Hd,hn⟩:=h;have el:=RN.len Ha;have el':=RN.len Hd;have EL:=zz el;have EL':=zz el';clear el el';obtain⟨hnum,hden⟩:=mkRat_nd hd hc;obtain⟨q,hq⟩:∃ q,q=mkRat z d:=⟨_,rfl⟩;rw[← hq] at hnum hden ⊢;clear hq hc;obtain⟨r,hr⟩:∃ r,r=toldQ q:=⟨_,rfl⟩;rw[← hr];have HL:=zz hl;have HL':=zz hl';clear hl hl';obtain⟨w0,hw0⟩:∃ w0:World,w0=((w.alloc (.cells #[.bool n,.slice A l c,.slice A' l' c'] 80)).alloc (.cells #[.bool false,.slice none 0 0,.bool false,.slice none 0 0] 28)):=⟨_,rfl⟩;have B0:=zz (n2_b hw0);have z0:=n2_z hw0;have La:=n2_0 hw0;have Lo:=n2_1 hw0;replace Ha:=zz (RN.stepN Ha B0.out);replace Hd:=zz (RN.stepN Hd B0.out);by_cases hov:l≤600∧l'≤600
 ·have HR:=zz (show r=(some q,0) by rw[hr];unfold toldQ;rw[if_pos (show fitQ q from⟨by rw[hnum,← EL.out];omega,by rw[hden,← EL'.out];omega⟩)]);clear hr;have hmx:¬ (600:Int)<max (l:Int) (l':Int):=by omega
  cases n with
  | false=>
   have hz:0≤z:=by rcases wsgn_cases hn with h | ⟨h,-⟩ | ⟨-,h⟩ <;> first | omega | cases h
   have HS:=zz (show decide (z<0)=false by rw[decide_eq_false];omega);clear hn;go_enter Tryz.func52,Tryz.ntmps52
   go_upto_region 2 with (fail)
   rw[← hw0];clear hw0;have A4:=La.cell 0 rfl;have B4:=La.cell 1 rfl;have C4:=La.cell 2 rfl;have m12:=La.lt;go_upto_region 4 with (fail)
   clear A4 B4 C4 m12;refine Flow.run [⟨0,15,fun fv fw=>fv=.pointer (some ⟨w.heap.size,0,none⟩)⟩,⟨1,16,fun fv fw=>fv=.pointer (some ⟨w.heap.size,0,none⟩)⟩,⟨2,17,fun fv fw=>fv=.bool false⟩,⟨3,18,fun fv fw=>fv=.bool false⟩,⟨4,19,fun fv fw=>True⟩,⟨5,20,fun fv fw=>True⟩,⟨6,21,fun fv fw=>True⟩,⟨7,22,fun fv fw=>True⟩,⟨8,23,fun fv fw=>True⟩,⟨9,24,fun fv fw=>fv=.bool false⟩,⟨10,25,fun fv fw=>fv=.pointer (some ⟨w.heap.size,0,none⟩)⟩,⟨11,26,fun fv fw=>fv=.pointer (some ⟨w.heap.size,1,none⟩)⟩,⟨12,27,fun fv fw=>fv=.slice A l c⟩,⟨13,28,fun fv fw=>RN fw fw.heap.size fv (dig z.natAbs)⟩,⟨14,29,fun fv fw=>LV fw fw.heap.size fv z⟩,⟨15,5,fun fv fw=>∃ b,fv=.pointer (some ⟨b,0,none⟩)∧CB fw b 26 #[.bool false,.slice none 0 0]⟩] [] [15] 1 (by kernel_rfl) (by kernel_rfl) (by kernel_rfl) (fun _ _ _ _ _ h=>h) ?_ ?_ ?_ ?_
   ·refine(a0 (a0 (a0 (a0 (a0 (a0 (a0 (a0 (a0 (a0 (a0 (a0 (a0 (all_cons (fun v w1 w2 h hb=>h.step hb) (all_cons (fun v w1 w2 h hb=>h.step hb) (all_cons (fun v w1 w2 h hb=>let ⟨b,e,h⟩:=h;⟨b,e,h.step hb⟩) all_nil))))))))))))))))
   ·refine(all_cons ?_ (all_cons ?_ (all_cons ?_ (all_cons ?_ (all_cons ?_ (all_cons ?_ (all_cons ?_ (all_cons ?_ (all_cons ?_ (all_cons ?_ (all_cons ?_ (all_cons ?_ (all_cons ?_ (all_cons ?_ (all_cons ?_ (all_cons ?_ all_nil))))))))))))))))
    ·intro xs wk2 b0 c0;clear b0;clear c0;refine wpOp_step (o:=_) rfl (fun K hK=>?_);simp only[FL]
     go_simp;refine hK _ _ ⟨.pointer (some ⟨w.heap.size,0,none⟩),by kernel_rfl,Below.refl _ _,rfl,nF⟩
    ·intro xs wk3 b0 c0;clear b0;have f0:(xs 0)=.pointer (some ⟨w.heap.size,0,none⟩):=c0 _ (m_ 0 rfl) (by kernel_rfl);clear c0;refine wpOp_step (o:=_) rfl (fun K hK=>?_);simp only[FL]
     go_simp;refine hK _ _ ⟨.pointer (some ⟨w.heap.size,0,none⟩),by simp only[FL,f0],Below.refl _ _,rfl,nF⟩
    ·intro xs wk4 b0 c0;have D4:=zz b0;have zk4:=b0.size;clear b0;have f1:(xs 1)=.pointer (some ⟨w.heap.size,0,none⟩):=c0 _ (m_ 1 rfl) (by kernel_rfl);clear c0;refine wpOp_step (o:=_) rfl (fun K hK=>?_);simp only[FL]
     have F0:=CB.step La D4.out;have J9:=F0.cell 0 rfl;have K9:=F0.cell 1 rfl;have L9:=F0.cell 2 rfl;have V12:=F0.lt;go_simp;refine hK _ _ ⟨.bool false,by simp only[FL,f1],Below.refl _ _,rfl,nF⟩
    ·intro xs wk7 b0 c0;clear b0;have f2:(xs 2)=.bool false:=c0 _ (m_ 2 rfl) (by kernel_rfl);clear c0;refine wpOp_step (o:=_) rfl (fun K hK=>?_);simp only[FL]
     go_simp;refine hK _ _ ⟨.bool false,by simp only[FL,f2],Below.refl _ _,rfl,nF⟩
    ·intro xs wk8 b0 c0;clear b0;have f3:(xs 3)=.bool false:=c0 _ (m_ 3 rfl) (by kernel_rfl);clear c0;refine wpOp_step (o:=?_) ?O9 ?_
     case O9=>exact rfl
     intro K hK;simp only[FL]
     go_simp;refine hK _ _ ⟨undef,by simp only[FL,f3],Below.refl _ _,trivial,nF⟩
    ·intro xs wk9 b0 c0;clear b0;have f3:(xs 3)=.bool false:=c0 _ (m_ 3 rfl) (by kernel_rfl);clear c0;refine wpOp_step (o:=?_) ?Q9 ?_
     case Q9=>exact rfl
     intro K hK;simp only[FL]
     go_simp;refine hK _ _ ⟨undef,by simp only[FL,f3],Below.refl _ _,trivial,nF⟩
    ·intro xs R9 b0 c0;clear b0;have f3:(xs 3)=.bool false:=c0 _ (m_ 3 rfl) (by kernel_rfl);clear c0;refine wpOp_step (o:=?_) ?B6 ?_
     case B6=>exact rfl
     intro K hK;simp only[FL]
     go_simp;refine hK _ _ ⟨undef,by simp only[FL,f3],Below.refl _ _,trivial,nF⟩
    ·intro xs T9 b0 c0;clear b0;have f3:(xs 3)=.bool false:=c0 _ (m_ 3 rfl) (by kernel_rfl);clear c0;refine wpOp_step (o:=?_) ?D6 ?_
     case D6=>exact rfl
     intro K hK;simp only[FL]
     go_simp;refine hK _ _ ⟨undef,by simp only[FL,f3],Below.refl _ _,trivial,nF⟩
    ·intro xs V9 b0 c0;clear b0;have f3:(xs 3)=.bool false:=c0 _ (m_ 3 rfl) (by kernel_rfl);clear c0;refine wpOp_step (o:=?_) ?F6 ?_
     case F6=>exact rfl
     intro K hK;simp only[FL]
     go_simp;refine hK _ _ ⟨undef,by simp only[FL,f3],Below.refl _ _,trivial,nF⟩
    ·intro xs X9 b0 c0;clear b0;have f3:(xs 3)=.bool false:=c0 _ (m_ 3 rfl) (by kernel_rfl);clear c0;refine wpOp_step (o:=_) rfl (fun K hK=>?_);simp only[FL]
     go_simp;refine hK _ _ ⟨.bool false,by simp only[FL,f3],Below.refl _ _,rfl,nF⟩
    ·intro xs Z9 b0 c0;clear b0;clear c0;refine wpOp_step (o:=_) rfl (fun K hK=>?_);simp only[FL]
     go_simp;refine hK _ _ ⟨.pointer (some ⟨w.heap.size,0,none⟩),by kernel_rfl,Below.refl _ _,rfl,nF⟩
    ·intro xs b10 b0 c0;clear b0;have f10:(xs 10)=.pointer (some ⟨w.heap.size,0,none⟩):=c0 _ (m_ 10 rfl) (by kernel_rfl);clear c0;refine wpOp_step (o:=_) rfl (fun K hK=>?_);simp only[FL]
     go_simp;refine hK _ _ ⟨.pointer (some ⟨w.heap.size,1,none⟩),by simp only[FL,f10],Below.refl _ _,rfl,nF⟩
    ·intro xs d10 b0 c0;have h3:=zz b0;have e10:=b0.size;clear b0;have f11:(xs 11)=.pointer (some ⟨w.heap.size,1,none⟩):=c0 _ (m_ 11 rfl) (by kernel_rfl);clear c0;refine wpOp_step (o:=_) rfl (fun K hK=>?_);simp only[FL]
     have u0:=CB.step La h3.out;have J6:=u0.cell 0 rfl;have K6:=u0.cell 1 rfl;have L6:=u0.cell 2 rfl;have P12:=u0.lt;go_simp;refine hK _ _ ⟨.slice A l c,by simp only[FL,f11],Below.refl _ _,rfl,nF⟩
    ·intro xs g10 b0 c0;have i3:=zz b0;have h10:=b0.size;clear b0;have f12:(xs 12)=.slice A l c:=c0 _ (m_ 12 rfl) (by kernel_rfl);clear c0;refine wpOp_step (o:=_) rfl (fun K hK=>?_);simp only[FL]
     go_simp;have j3:=zz (RN.step Ha.out i3.out);(with_reducible refine(cloneN_any _ _ _ j3.out (by have:=HL.out;omega)).mono ?_)
     rintro e wc21 ⟨E4,v21,rfl,F4⟩;refine hK _ _ ⟨v21,by simp only[FL,f12],E4,F4,nF⟩
    ·intro xs p1 b0 c0;clear b0;have f13:RN p1 p1.heap.size (xs 13) (dig z.natAbs):=c0 _ (m_ 13 rfl) (by kernel_rfl);have f9:(xs 9)=.bool false:=c0 _ (m_ 9 rfl) (by kernel_rfl);clear c0;refine wpOp_step (o:=_) rfl (fun K hK=>?_);simp only[FL]
     obtain⟨A13,c13,hx13,-⟩:=RN.cell f13;have r13:=f13;rw[hx13] at r13 ⊢;go_simp;refine hK _ _ ⟨.agg #[.bool false,.slice A13 (dig (z).natAbs).length c13],by simp only[FL,f9,hx13],Below.refl _ _,⟨_,by rw[HS.out],r13⟩,nF⟩
    ·intro xs G4 b0 c0;clear b0;clear c0;refine wpOp_step (o:=_) rfl (fun K hK=>?_);simp only[FL]
     go_simp;refine hK _ _ ⟨.pointer (some ⟨G4.heap.size,0,none⟩),by kernel_rfl,(Below.refl _ _).alloc (Nat.le_refl _) _,⟨_,rfl,CB.new _ _ _⟩,fun _=>⟨_,rfl,Nat.le_refl _,by simp⟩⟩
   ·exact all_nil
   ·intro xs z11 hbf hf hn hd;have f0:(xs 0)=.pointer (some ⟨w.heap.size,0,none⟩):=hf _ (m_ 0 rfl);have f1:(xs 1)=.pointer (some ⟨w.heap.size,0,none⟩):=hf _ (m_ 1 rfl);have f2:(xs 2)=.bool false:=hf _ (m_ 2 rfl);have f3:(xs 3)=.bool false:=hf _ (m_ 3 rfl);have f4:True:=hf _ (m_ 4 rfl);have f5:True:=hf _ (m_ 5 rfl);have f6:True:=hf _ (m_ 6 rfl);have f7:True:=hf _ (m_ 7 rfl);have f8:True:=hf _ (m_ 8 rfl);have f9:(xs 9)=.bool false:=hf _ (m_ 9 rfl);have f10:(xs 10)=.pointer (some ⟨w.heap.size,0,none⟩):=hf _ (m_ 10 rfl);have f11:(xs 11)=.pointer (some ⟨w.heap.size,1,none⟩):=hf _ (m_ 11 rfl);have f12:(xs 12)=.slice A l c:=hf _ (m_ 12 rfl);have f13:RN z11 z11.heap.size (xs 13) (dig z.natAbs):=hf _ (m_ 13 rfl);have f14:LV z11 z11.heap.size (xs 14) z:=hf _ (m_ 14 rfl);have f15:∃ b,(xs 15)=.pointer (some ⟨b,0,none⟩)∧CB z11 b 26 #[.bool false,.slice none 0 0]:=hf _ (m_ 15 rfl);have n15:=hn 15 (by decide);clear hf hn hd;simp only[FL]
    have B25:=zz hbf;have z25:=B25.out.size;have H4:=zz (B0.out.trans (B25.out.mono B0.out.size));clear hbf;generalize xs 0=x0,xs 1=x1,xs 2=x2,xs 3=x3,xs 4=x4,xs 5=x5,xs 6=x6,xs 7=x7,xs 8=x8,xs 9=x9,xs 10=x10,xs 11=x11,xs 12=x12,xs 13=x13,xs 14=x14,xs 15=x15 at *
    obtain rfl:=f0;obtain rfl:=f1;obtain rfl:=f2;obtain rfl:=f3;clear f4;clear f5;clear f6;clear f7;clear f8;obtain rfl:=f9;obtain rfl:=f10;obtain rfl:=f11;obtain rfl:=f12;clear f13;obtain⟨n27,w11,l27,c27,rfl,q1⟩:=f14.opened;have k3:=zz q1;clear f14 q1;obtain⟨D11,rfl,o11⟩:=f15;have I11:=zz (show w0.heap.size≤D11 by obtain⟨b',e,h,-⟩:=n15;injection e with e;injection e with e;injection e with e _ _;omega);clear n15;have n12:=o11.lt;have o12:=I11.out;have l3:=o11.cell 0 rfl;have m3:=o11.cell 1 rfl;have Y11:=o11.lt;have n3:=o11.frozen 0;have o3:=o11.frozen 1;have Z11:=o11.lt;refine Early.next (i:=16) (by kernel_rfl) rfl (fun K hK=>?_);go_simp;refine hK _ _ (fun _=>trivial) ?_;clear hK K;(try simp only[Act.put,List.setIfInBounds_toArray,List.set_cons_zero,List.set_cons_succ])
    clear l3 m3 Y11 n3 o3 Z11;refine Early.done (by kernel_rfl) ?_ _;(try simp only[Exit.then])
    have p3:=CB.step La B25.out;have q3:=CB.step Lo B25.out;obtain⟨w34,k0⟩:∃ w34:World,w34=((z11.setCell ⟨D11,0,none⟩ (.bool n27)).setCell ⟨D11,1,none⟩ (.slice w11 l27 c27)):=⟨_,rfl⟩;rw[← k0];have S34:=zz (p2_s k0 o11 (by simp[noInt_b,noInt_s]));have s3:=p2_f k0 p3 (by omega);have t3:=p2_f k0 q3 (by omega);have u3:=p2_p k0 o11;have M0:=zz (p2_b k0 H4.out (by omega));have k10:=p2_z k0;clear k0;go_upto_region 5 with (fail)
    have N0:=zz (LV.soft k3.out (S34.out));have HN5:=zz (show RN w34 w34.heap.size (.slice w11 l27 c27) (dig z.natAbs)∧n27=decide (z<0) from⟨(LV.is N0.out).2.2,(LV.is N0.out).1⟩);refine Flow.run [⟨0,30,fun fv fw=>fv=.agg #[.bool n27,.slice w11 l27 c27]⟩,⟨1,31,fun fv fw=>fv=.pointer (some ⟨w.heap.size,2,none⟩)⟩,⟨2,32,fun fv fw=>fv=.slice A' l' c'⟩,⟨3,33,fun fv fw=>RN fw fw.heap.size fv (dig d)⟩,⟨4,34,fun fv fw=>∃ A l c,fv=.agg #[.bool false,.slice A l c]∧RN fw fw.heap.size (.slice A l c) (dig d)⟩,⟨5,35,fun fv fw=>QV fw fw.heap.size fv q⟩,⟨6,36,fun fv fw=>fv=.int .i64 0⟩,⟨7,37,fun fv fw=>∃ u,fv=.tuple #[u,.int .i64 0]∧QO fw fw.heap.size u (some q)⟩,⟨8,38,fun fv fw=>QO fw fw.heap.size fv (some q)⟩,⟨9,39,fun fv fw=>fv=.int .i64 0⟩] [] [] 2 (by kernel_rfl) (by kernel_rfl) (by kernel_rfl) (fun _ _ _ _ _ h=>h) ?_ ?_ ?_ ?_
    ·refine(a0 (a0 (a0 (all_cons (fun v w1 w2 h hb=>h.step hb) (all_cons (fun v w1 w2 h hb=>let ⟨A,l,c,e,h⟩:=h;⟨A,l,c,e,h.stepN hb⟩) (all_cons (fun v w1 w2 h hb=>h.step hb) (a0 (all_cons (fun v w1 w2 h hb=>let ⟨u,e,h⟩:=h;⟨u,e,QO.step h hb⟩) (all_cons (fun v w1 w2 h hb=>(show QO w2 w2.heap.size v (some q) from QO.step (o:=(some q)) h hb)) (a0 all_nil))))))))))
    ·refine(all_cons ?_ (all_cons ?_ (all_cons ?_ (all_cons ?_ (all_cons ?_ (all_cons ?_ (all_cons ?_ (all_cons ?_ (all_cons ?_ (all_cons ?_ all_nil))))))))))
     ·intro xs l10 b0 c0;have v3:=zz b0;have m10:=b0.size;clear b0;clear c0;refine wpOp_step (o:=_) rfl (fun K hK=>?_);simp only[FL]
      have G0:=CB.step u3 v3.out;have O6:=G0.cell 0 rfl;have P6:=G0.cell 1 rfl;have Q12:=G0.lt;go_simp;refine hK _ _ ⟨.agg #[.bool n27,.slice w11 l27 c27],by kernel_rfl,Below.refl _ _,rfl,nF⟩
     ·intro xs n10 b0 c0;have Q6:=zz b0;have o10:=b0.size;clear b0;clear c0;refine wpOp_step (o:=_) rfl (fun K hK=>?_);simp only[FL]
      go_simp;refine hK _ _ ⟨.pointer (some ⟨w.heap.size,2,none⟩),by kernel_rfl,Below.refl _ _,rfl,nF⟩
     ·intro xs p10 b0 c0;have w3:=zz b0;have q10:=b0.size;clear b0;have f1:(xs 1)=.pointer (some ⟨w.heap.size,2,none⟩):=c0 _ (m_ 1 rfl) (by kernel_rfl);clear c0;refine wpOp_step (o:=_) rfl (fun K hK=>?_);simp only[FL]
      have v0:=CB.step s3 w3.out;have R6:=v0.cell 0 rfl;have S6:=v0.cell 1 rfl;have T6:=v0.cell 2 rfl;have R12:=v0.lt;go_simp;refine hK _ _ ⟨.slice A' l' c',by simp only[FL,f1],Below.refl _ _,rfl,nF⟩
     ·intro xs r10 b0 c0;have y3:=zz b0;have s10:=b0.size;clear b0;have f2:(xs 2)=.slice A' l' c':=c0 _ (m_ 2 rfl) (by kernel_rfl);clear c0;refine wpOp_step (o:=_) rfl (fun K hK=>?_);simp only[FL]
      go_simp;have z3:=zz (RN.soft Hd.out (((Soft.of B25.out).trans (S34.out)).trans (Soft.of y3.out)));(with_reducible refine(cloneN_any _ _ _ z3.out (by have:=HL'.out;omega)).mono ?_)
      rintro e wc45 ⟨I4,v45,rfl,J4⟩;refine hK _ _ ⟨v45,by simp only[FL,f2],I4,J4,nF⟩
     ·intro xs r1 b0 c0;have U6:=zz b0;have t10:=b0.size;clear b0;have f3:RN r1 r1.heap.size (xs 3) (dig d):=c0 _ (m_ 3 rfl) (by kernel_rfl);clear c0;refine wpOp_step (o:=_) rfl (fun K hK=>?_);simp only[FL]
      obtain⟨A3,c3,hx3,-⟩:=RN.cell f3;have r3:=f3;rw[hx3] at r3 ⊢;go_simp;refine hK _ _ ⟨.agg #[.bool false,.slice A3 (dig d).length c3],by simp only[FL,hx3],Below.refl _ _,⟨_,_,_,rfl,r3⟩,nF⟩
     ·intro xs s1 b0 c0;have B3:=zz b0;have u10:=b0.size;clear b0;have f0:(xs 0)=.agg #[.bool n27,.slice w11 l27 c27]:=c0 _ (m_ 0 rfl) (by kernel_rfl);have f4:∃ A l c,(xs 4)=.agg #[.bool false,.slice A l c]∧RN s1 s1.heap.size (.slice A l c) (dig d):=c0 _ (m_ 4 rfl) (by kernel_rfl);clear c0;refine wpOp_step (o:=_) rfl (fun K hK=>?_);simp only[FL]
      obtain⟨Bd,ud,cd,hu,rd⟩:=f4;rw[hu];have rn48:=RN.stepN HN5.out.1 B3.out;go_simp;refine hK _ _ ⟨.agg #[.bool n27,.slice w11 l27 c27,.bool false,.slice Bd ud cd],by simp only[FL,f0,hu],Below.refl _ _,⟨_,_,_,_,_,_,_,rfl,by rw[hnum];exact rn48,by rw[hden];exact rd,by rw[hnum];exact HN5.out.2⟩,nF⟩
     ·intro xs v10 b0 c0;have V6:=zz b0;have w10:=b0.size;clear b0;clear c0;refine wpOp_step (o:=_) rfl (fun K hK=>?_);simp only[FL]
      go_simp;refine hK _ _ ⟨.int .i64 0,by kernel_rfl,Below.refl _ _,rfl,nF⟩
     ·intro xs t1 b0 c0;have W6:=zz b0;have y10:=b0.size;clear b0;have f5:QV t1 t1.heap.size (xs 5) q:=c0 _ (m_ 5 rfl) (by kernel_rfl);have f6:(xs 6)=.int .i64 0:=c0 _ (m_ 6 rfl) (by kernel_rfl);clear c0;refine wpOp_step (o:=_) rfl (fun K hK=>?_);simp only[FL]
      obtain⟨qn,qA,ql,qc,qB,qm,qd,hu,ra,rb,rc⟩:=f5;rw[hu];have RC:=zz rc;clear rc;go_simp;(with_reducible refine(madeQ_yes _ qn false qA qB ql qc qm qd).mono ?_)
      rintro e wc51 ⟨u1,rfl⟩;refine hK _ _ ⟨.tuple #[.agg #[.bool qn,.slice qA ql qc,.bool false,.slice qB qm qd],.int .i64 0],by simp only[FL,f6,hu],u1,⟨_,rfl,QV.step ⟨_,_,_,_,_,_,_,rfl,ra,rb,RC.out⟩ u1⟩,nF⟩
     ·intro xs v1 b0 c0;have X6:=zz b0;have z10:=b0.size;clear b0;have f7:∃ u,(xs 7)=.tuple #[u,.int .i64 0]∧QO v1 v1.heap.size u (some q):=c0 _ (m_ 7 rfl) (by kernel_rfl);clear c0;refine wpOp_step (o:=_) rfl (fun K hK=>?_);simp only[FL]
      obtain⟨u,hu,hl⟩:=f7;rw[hu];go_simp;refine hK _ _ ⟨u,by simp only[FL,hu],Below.refl _ _,hl,nF⟩
     ·intro xs y1 b0 c0;have Y6:=zz b0;have A10:=b0.size;clear b0;have f7:∃ u,(xs 7)=.tuple #[u,.int .i64 0]∧QO y1 y1.heap.size u (some q):=c0 _ (m_ 7 rfl) (by kernel_rfl);clear c0;refine wpOp_step (o:=_) rfl (fun K hK=>?_);simp only[FL]
      obtain⟨u,hu,-⟩:=f7;rw[hu];go_simp;refine hK _ _ ⟨.int .i64 0,by simp only[FL,hu],Below.refl _ _,rfl,nF⟩
    ·exact all_nil
    ·intro xs p11 hbf hf hn hd;have f0:(xs 0)=.agg #[.bool n27,.slice w11 l27 c27]:=hf _ (m_ 0 rfl);have f1:(xs 1)=.pointer (some ⟨w.heap.size,2,none⟩):=hf _ (m_ 1 rfl);have f2:(xs 2)=.slice A' l' c':=hf _ (m_ 2 rfl);have f3:RN p11 p11.heap.size (xs 3) (dig d):=hf _ (m_ 3 rfl);have f4:∃ A l c,(xs 4)=.agg #[.bool false,.slice A l c]∧RN p11 p11.heap.size (.slice A l c) (dig d):=hf _ (m_ 4 rfl);have f5:QV p11 p11.heap.size (xs 5) q:=hf _ (m_ 5 rfl);have f6:(xs 6)=.int .i64 0:=hf _ (m_ 6 rfl);have f7:∃ u,(xs 7)=.tuple #[u,.int .i64 0]∧QO p11 p11.heap.size u (some q):=hf _ (m_ 7 rfl);have f8:QO p11 p11.heap.size (xs 8) (some q):=hf _ (m_ 8 rfl);have f9:(xs 9)=.int .i64 0:=hf _ (m_ 9 rfl);clear hf hn hd;simp only[FL]
     have B55:=zz hbf;have z55:=B55.out.size;have K4:=zz (M0.out.trans (B55.out.mono M0.out.size));clear hbf;generalize xs 0=x0,xs 1=x1,xs 2=x2,xs 3=x3,xs 4=x4,xs 5=x5,xs 6=x6,xs 7=x7,xs 8=x8,xs 9=x9 at *
     obtain rfl:=f0;obtain rfl:=f1;obtain rfl:=f2;clear f3;clear f4;clear f5;obtain rfl:=f6;clear f7;obtain⟨y12,z12,A12,B12,C12,C3,D12,rfl,ha57,z1,hc57⟩:=(show QV p11 p11.heap.size x8 q from f8);have D3:=zz (show QV p11 p11.heap.size (.agg #[.bool y12,.slice z12 A12 B12,.bool false,.slice C12 C3 D12]) q from⟨_,_,_,_,_,_,_,rfl,ha57,z1,hc57⟩);clear ha57 z1 hc57;obtain rfl:=f9;have h0:=CB.step t3 B55.out;have E3:=h0.cell 0 rfl;have F3:=h0.cell 1 rfl;have G3:=h0.cell 2 rfl;have H3:=h0.cell 3 rfl;have b12:=h0.lt;have I3:=h0.frozen 0;have J3:=h0.frozen 1;have K3:=h0.frozen 2;have L3:=h0.frozen 3;have c12:=h0.lt;refine Early.next (i:=10) (by kernel_rfl) rfl (fun K hK=>?_);go_simp;refine hK _ _ (fun _=>trivial) ?_;clear hK K;(try simp only[Act.put,List.setIfInBounds_toArray,List.set_cons_zero,List.set_cons_succ])
     clear E3 F3 G3 H3 b12 I3 J3 K3 L3 c12;refine Early.next (i:=11) (by kernel_rfl) rfl (fun K hK=>?_);go_simp;refine hK _ _ (fun _=>trivial) ?_;clear hK K;(try simp only[Act.put,List.setIfInBounds_toArray,List.set_cons_zero,List.set_cons_succ])
     refine Early.done (by kernel_rfl) ?_ _;(try simp only[Exit.then])
     go_wp2;exact QB.fin rfl h0 (by simp[noInt_b,noInt_s]) K4.out (by omega) (by rw[HR.out];exact D3.out) rfl (by rw[HR.out];rfl)
  | true=>
   have hzl:z<0↔0<l:=by
    constructor
    ·intro h;rw[EL.out];have:=dig_len_pos (n:=z.natAbs) (by omega);omega
    ·intro h;rcases wsgn_cases hn with h1 | ⟨-,h1⟩ | ⟨h1,-⟩
     ·rw[EL.out,h1,show(0:Int).natAbs=0 from rfl,dig_zero] at h;simp at h
     ·exact h1
     ·cases h1
   have HS:=zz (show decide (z<0)=(decide (0<l)) by exact decide_eq_decide.2 hzl);clear hn hzl;go_enter Tryz.func52,Tryz.ntmps52
   go_upto_region 2 with (fail)
   rw[← hw0];clear hw0;have M3:=La.cell 0 rfl;have N3:=La.cell 1 rfl;have O3:=La.cell 2 rfl;have d12:=La.lt;go_upto_region 4 with (fail)
   clear M3 N3 O3 d12;refine Flow.run [⟨0,15,fun fv fw=>fv=.pointer (some ⟨w.heap.size,0,none⟩)⟩,⟨1,16,fun fv fw=>fv=.pointer (some ⟨w.heap.size,0,none⟩)⟩,⟨2,17,fun fv fw=>fv=.bool true⟩,⟨3,18,fun fv fw=>fv=.bool true⟩,⟨4,19,fun fv fw=>fv=.pointer (some ⟨w.heap.size,0,none⟩)⟩,⟨5,20,fun fv fw=>fv=.pointer (some ⟨w.heap.size,1,none⟩)⟩,⟨6,21,fun fv fw=>fv=.slice A l c⟩,⟨7,22,fun fv fw=>fv=.int .i64 (l:Int)⟩,⟨8,23,fun fv fw=>fv=.bool (decide (0<l))⟩,⟨9,24,fun fv fw=>fv=.bool (decide (0<l))⟩,⟨10,25,fun fv fw=>fv=.pointer (some ⟨w.heap.size,0,none⟩)⟩,⟨11,26,fun fv fw=>fv=.pointer (some ⟨w.heap.size,1,none⟩)⟩,⟨12,27,fun fv fw=>fv=.slice A l c⟩,⟨13,28,fun fv fw=>RN fw fw.heap.size fv (dig z.natAbs)⟩,⟨14,29,fun fv fw=>LV fw fw.heap.size fv z⟩,⟨15,5,fun fv fw=>∃ b,fv=.pointer (some ⟨b,0,none⟩)∧CB fw b 26 #[.bool false,.slice none 0 0]⟩] [] [15] 1 (by kernel_rfl) (by kernel_rfl) (by kernel_rfl) (fun _ _ _ _ _ h=>h) ?_ ?_ ?_ ?_
   ·refine(a0 (a0 (a0 (a0 (a0 (a0 (a0 (a0 (a0 (a0 (a0 (a0 (a0 (all_cons (fun v w1 w2 h hb=>h.step hb) (all_cons (fun v w1 w2 h hb=>h.step hb) (all_cons (fun v w1 w2 h hb=>let ⟨b,e,h⟩:=h;⟨b,e,h.step hb⟩) all_nil))))))))))))))))
   ·refine(all_cons ?_ (all_cons ?_ (all_cons ?_ (all_cons ?_ (all_cons ?_ (all_cons ?_ (all_cons ?_ (all_cons ?_ (all_cons ?_ (all_cons ?_ (all_cons ?_ (all_cons ?_ (all_cons ?_ (all_cons ?_ (all_cons ?_ (all_cons ?_ all_nil))))))))))))))))
    ·intro xs B10 b0 c0;clear b0;clear c0;refine wpOp_step (o:=_) rfl (fun K hK=>?_);simp only[FL]
     go_simp;refine hK _ _ ⟨.pointer (some ⟨w.heap.size,0,none⟩),by kernel_rfl,Below.refl _ _,rfl,nF⟩
    ·intro xs D10 b0 c0;clear b0;have f0:(xs 0)=.pointer (some ⟨w.heap.size,0,none⟩):=c0 _ (m_ 0 rfl) (by kernel_rfl);clear c0;refine wpOp_step (o:=_) rfl (fun K hK=>?_);simp only[FL]
     go_simp;refine hK _ _ ⟨.pointer (some ⟨w.heap.size,0,none⟩),by simp only[FL,f0],Below.refl _ _,rfl,nF⟩
    ·intro xs F10 b0 c0;have P3:=zz b0;have G10:=b0.size;clear b0;have f1:(xs 1)=.pointer (some ⟨w.heap.size,0,none⟩):=c0 _ (m_ 1 rfl) (by kernel_rfl);clear c0;refine wpOp_step (o:=_) rfl (fun K hK=>?_);simp only[FL]
     have y0:=CB.step La P3.out;have b7:=y0.cell 0 rfl;have c7:=y0.cell 1 rfl;have d7:=y0.cell 2 rfl;have S12:=y0.lt;go_simp;refine hK _ _ ⟨.bool true,by simp only[FL,f1],Below.refl _ _,rfl,nF⟩
    ·intro xs H10 b0 c0;clear b0;have f2:(xs 2)=.bool true:=c0 _ (m_ 2 rfl) (by kernel_rfl);clear c0;refine wpOp_step (o:=_) rfl (fun K hK=>?_);simp only[FL]
     go_simp;refine hK _ _ ⟨.bool true,by simp only[FL,f2],Below.refl _ _,rfl,nF⟩
    ·intro xs J10 b0 c0;clear b0;have f3:(xs 3)=.bool true:=c0 _ (m_ 3 rfl) (by kernel_rfl);clear c0;refine wpOp_step (o:=?_) ?h7 ?_
     case h7=>exact rfl
     intro K hK;simp only[FL]
     go_simp;refine hK _ _ ⟨.pointer (some ⟨w.heap.size,0,none⟩),by simp only[FL,f3],Below.refl _ _,rfl,nF⟩
    ·intro xs L10 b0 c0;clear b0;have f3:(xs 3)=.bool true:=c0 _ (m_ 3 rfl) (by kernel_rfl);have f4:(xs 4)=.pointer (some ⟨w.heap.size,0,none⟩):=c0 _ (m_ 4 rfl) (by kernel_rfl);clear c0;refine wpOp_step (o:=?_) ?j7 ?_
     case j7=>exact rfl
     intro K hK;simp only[FL]
     go_simp;refine hK _ _ ⟨.pointer (some ⟨w.heap.size,1,none⟩),by simp only[FL,f3,f4],Below.refl _ _,rfl,nF⟩
    ·intro xs N10 b0 c0;have Q3:=zz b0;have O10:=b0.size;clear b0;have f3:(xs 3)=.bool true:=c0 _ (m_ 3 rfl) (by kernel_rfl);have f5:(xs 5)=.pointer (some ⟨w.heap.size,1,none⟩):=c0 _ (m_ 5 rfl) (by kernel_rfl);clear c0;refine wpOp_step (o:=?_) ?k7 ?_
     case k7=>exact rfl
     intro K hK;simp only[FL]
     have A0:=CB.step La Q3.out;have l7:=A0.cell 0 rfl;have m7:=A0.cell 1 rfl;have n7:=A0.cell 2 rfl;have T12:=A0.lt;go_simp;refine hK _ _ ⟨.slice A l c,by simp only[FL,f3,f5],Below.refl _ _,rfl,nF⟩
    ·intro xs P10 b0 c0;clear b0;have f3:(xs 3)=.bool true:=c0 _ (m_ 3 rfl) (by kernel_rfl);have f6:(xs 6)=.slice A l c:=c0 _ (m_ 6 rfl) (by kernel_rfl);clear c0;refine wpOp_step (o:=?_) ?p7 ?_
     case p7=>exact rfl
     intro K hK;simp only[FL]
     go_simp;refine hK _ _ ⟨.int .i64 (l:Int),by simp only[FL,f3,f6],Below.refl _ _,rfl,nF⟩
    ·intro xs R10 b0 c0;clear b0;have f3:(xs 3)=.bool true:=c0 _ (m_ 3 rfl) (by kernel_rfl);have f7:(xs 7)=.int .i64 (l:Int):=c0 _ (m_ 7 rfl) (by kernel_rfl);clear c0;refine wpOp_step (o:=?_) ?r7 ?_
     case r7=>exact rfl
     intro K hK;simp only[FL]
     go_simp;refine hK _ _ ⟨.bool (decide (0<l)),by simp only[FL,f3,f7],Below.refl _ _,rfl,nF⟩
    ·intro xs T10 b0 c0;clear b0;have f3:(xs 3)=.bool true:=c0 _ (m_ 3 rfl) (by kernel_rfl);have f8:(xs 8)=.bool (decide (0<l)):=c0 _ (m_ 8 rfl) (by kernel_rfl);clear c0;refine wpOp_step (o:=_) rfl (fun K hK=>?_);simp only[FL]
     go_simp;refine hK _ _ ⟨.bool (decide (0<l)),by simp only[FL,f3,f8],Below.refl _ _,rfl,nF⟩
    ·intro xs V10 b0 c0;clear b0;clear c0;refine wpOp_step (o:=_) rfl (fun K hK=>?_);simp only[FL]
     go_simp;refine hK _ _ ⟨.pointer (some ⟨w.heap.size,0,none⟩),by kernel_rfl,Below.refl _ _,rfl,nF⟩
    ·intro xs X10 b0 c0;clear b0;have f10:(xs 10)=.pointer (some ⟨w.heap.size,0,none⟩):=c0 _ (m_ 10 rfl) (by kernel_rfl);clear c0;refine wpOp_step (o:=_) rfl (fun K hK=>?_);simp only[FL]
     go_simp;refine hK _ _ ⟨.pointer (some ⟨w.heap.size,1,none⟩),by simp only[FL,f10],Below.refl _ _,rfl,nF⟩
    ·intro xs Z10 b0 c0;have R3:=zz b0;have a11:=b0.size;clear b0;have f11:(xs 11)=.pointer (some ⟨w.heap.size,1,none⟩):=c0 _ (m_ 11 rfl) (by kernel_rfl);clear c0;refine wpOp_step (o:=_) rfl (fun K hK=>?_);simp only[FL]
     have C0:=CB.step La R3.out;have v7:=C0.cell 0 rfl;have w7:=C0.cell 1 rfl;have y7:=C0.cell 2 rfl;have U12:=C0.lt;go_simp;refine hK _ _ ⟨.slice A l c,by simp only[FL,f11],Below.refl _ _,rfl,nF⟩
    ·intro xs b11 b0 c0;have S3:=zz b0;have c11:=b0.size;clear b0;have f12:(xs 12)=.slice A l c:=c0 _ (m_ 12 rfl) (by kernel_rfl);clear c0;refine wpOp_step (o:=_) rfl (fun K hK=>?_);simp only[FL]
     go_simp;have T3:=zz (RN.step Ha.out S3.out);(with_reducible refine(cloneN_any _ _ _ T3.out (by have:=HL.out;omega)).mono ?_)
     rintro e wc83 ⟨L4,v83,rfl,M4⟩;refine hK _ _ ⟨v83,by simp only[FL,f12],L4,M4,nF⟩
    ·intro xs A1 b0 c0;clear b0;have f13:RN A1 A1.heap.size (xs 13) (dig z.natAbs):=c0 _ (m_ 13 rfl) (by kernel_rfl);have f9:(xs 9)=.bool (decide (0<l)):=c0 _ (m_ 9 rfl) (by kernel_rfl);clear c0;refine wpOp_step (o:=_) rfl (fun K hK=>?_);simp only[FL]
     obtain⟨A13,c13,hx13,-⟩:=RN.cell f13;have r13:=f13;rw[hx13] at r13 ⊢;go_simp;refine hK _ _ ⟨.agg #[.bool (decide (0<l)),.slice A13 (dig (z).natAbs).length c13],by simp only[FL,f9,hx13],Below.refl _ _,⟨_,by rw[HS.out],r13⟩,nF⟩
    ·intro xs N4 b0 c0;clear b0;clear c0;refine wpOp_step (o:=_) rfl (fun K hK=>?_);simp only[FL]
     go_simp;refine hK _ _ ⟨.pointer (some ⟨N4.heap.size,0,none⟩),by kernel_rfl,(Below.refl _ _).alloc (Nat.le_refl _) _,⟨_,rfl,CB.new _ _ _⟩,fun _=>⟨_,rfl,Nat.le_refl _,by simp⟩⟩
   ·exact all_nil
   ·intro xs A11 hbf hf hn hd;have f0:(xs 0)=.pointer (some ⟨w.heap.size,0,none⟩):=hf _ (m_ 0 rfl);have f1:(xs 1)=.pointer (some ⟨w.heap.size,0,none⟩):=hf _ (m_ 1 rfl);have f2:(xs 2)=.bool true:=hf _ (m_ 2 rfl);have f3:(xs 3)=.bool true:=hf _ (m_ 3 rfl);have f4:(xs 4)=.pointer (some ⟨w.heap.size,0,none⟩):=hf _ (m_ 4 rfl);have f5:(xs 5)=.pointer (some ⟨w.heap.size,1,none⟩):=hf _ (m_ 5 rfl);have f6:(xs 6)=.slice A l c:=hf _ (m_ 6 rfl);have f7:(xs 7)=.int .i64 (l:Int):=hf _ (m_ 7 rfl);have f8:(xs 8)=.bool (decide (0<l)):=hf _ (m_ 8 rfl);have f9:(xs 9)=.bool (decide (0<l)):=hf _ (m_ 9 rfl);have f10:(xs 10)=.pointer (some ⟨w.heap.size,0,none⟩):=hf _ (m_ 10 rfl);have f11:(xs 11)=.pointer (some ⟨w.heap.size,1,none⟩):=hf _ (m_ 11 rfl);have f12:(xs 12)=.slice A l c:=hf _ (m_ 12 rfl);have f13:RN A11 A11.heap.size (xs 13) (dig z.natAbs):=hf _ (m_ 13 rfl);have f14:LV A11 A11.heap.size (xs 14) z:=hf _ (m_ 14 rfl);have f15:∃ b,(xs 15)=.pointer (some ⟨b,0,none⟩)∧CB A11 b 26 #[.bool false,.slice none 0 0]:=hf _ (m_ 15 rfl);have n15:=hn 15 (by decide);clear hf hn hd;simp only[FL]
    have B87:=zz hbf;have z87:=B87.out.size;have O4:=zz (B0.out.trans (B87.out.mono B0.out.size));clear hbf;generalize xs 0=x0,xs 1=x1,xs 2=x2,xs 3=x3,xs 4=x4,xs 5=x5,xs 6=x6,xs 7=x7,xs 8=x8,xs 9=x9,xs 10=x10,xs 11=x11,xs 12=x12,xs 13=x13,xs 14=x14,xs 15=x15 at *
    obtain rfl:=f0;obtain rfl:=f1;obtain rfl:=f2;obtain rfl:=f3;obtain rfl:=f4;obtain rfl:=f5;obtain rfl:=f6;obtain rfl:=f7;obtain rfl:=f8;obtain rfl:=f9;obtain rfl:=f10;obtain rfl:=f11;obtain rfl:=f12;clear f13;obtain⟨n89,y11,l89,c89,rfl,B1⟩:=f14.opened;have U3:=zz B1;clear f14 B1;obtain⟨E11,rfl,q11⟩:=f15;have J11:=zz (show w0.heap.size≤E11 by obtain⟨b',e,h,-⟩:=n15;injection e with e;injection e with e;injection e with e _ _;omega);clear n15;have p12:=q11.lt;have q12:=J11.out;have V3:=q11.cell 0 rfl;have W3:=q11.cell 1 rfl;have e12:=q11.lt;have X3:=q11.frozen 0;have Y3:=q11.frozen 1;have g12:=q11.lt;refine Early.next (i:=16) (by kernel_rfl) rfl (fun K hK=>?_);go_simp;refine hK _ _ (fun _=>trivial) ?_;clear hK K;(try simp only[Act.put,List.setIfInBounds_toArray,List.set_cons_zero,List.set_cons_succ])
    clear V3 W3 e12 X3 Y3 g12;refine Early.done (by kernel_rfl) ?_ _;(try simp only[Exit.then])
    have Z3:=CB.step La B87.out;have a4:=CB.step Lo B87.out;obtain⟨w96,l0⟩:∃ w96:World,w96=((A11.setCell ⟨E11,0,none⟩ (.bool n89)).setCell ⟨E11,1,none⟩ (.slice y11 l89 c89)):=⟨_,rfl⟩;rw[← l0];have S96:=zz (p2_s l0 q11 (by simp[noInt_b,noInt_s]));have b4:=p2_f l0 Z3 (by omega);have c4:=p2_f l0 a4 (by omega);have d4:=p2_p l0 q11;have O0:=zz (p2_b l0 O4.out (by omega));have g11:=p2_z l0;clear l0;go_upto_region 5 with (fail)
    have P0:=zz (LV.soft U3.out (S96.out));have HN5:=zz (show RN w96 w96.heap.size (.slice y11 l89 c89) (dig z.natAbs)∧n89=decide (z<0) from⟨(LV.is P0.out).2.2,(LV.is P0.out).1⟩);refine Flow.run [⟨0,30,fun fv fw=>fv=.agg #[.bool n89,.slice y11 l89 c89]⟩,⟨1,31,fun fv fw=>fv=.pointer (some ⟨w.heap.size,2,none⟩)⟩,⟨2,32,fun fv fw=>fv=.slice A' l' c'⟩,⟨3,33,fun fv fw=>RN fw fw.heap.size fv (dig d)⟩,⟨4,34,fun fv fw=>∃ A l c,fv=.agg #[.bool false,.slice A l c]∧RN fw fw.heap.size (.slice A l c) (dig d)⟩,⟨5,35,fun fv fw=>QV fw fw.heap.size fv q⟩,⟨6,36,fun fv fw=>fv=.int .i64 0⟩,⟨7,37,fun fv fw=>∃ u,fv=.tuple #[u,.int .i64 0]∧QO fw fw.heap.size u (some q)⟩,⟨8,38,fun fv fw=>QO fw fw.heap.size fv (some q)⟩,⟨9,39,fun fv fw=>fv=.int .i64 0⟩] [] [] 2 (by kernel_rfl) (by kernel_rfl) (by kernel_rfl) (fun _ _ _ _ _ h=>h) ?_ ?_ ?_ ?_
    ·refine(a0 (a0 (a0 (all_cons (fun v w1 w2 h hb=>h.step hb) (all_cons (fun v w1 w2 h hb=>let ⟨A,l,c,e,h⟩:=h;⟨A,l,c,e,h.stepN hb⟩) (all_cons (fun v w1 w2 h hb=>h.step hb) (a0 (all_cons (fun v w1 w2 h hb=>let ⟨u,e,h⟩:=h;⟨u,e,QO.step h hb⟩) (all_cons (fun v w1 w2 h hb=>(show QO w2 w2.heap.size v (some q) from QO.step (o:=(some q)) h hb)) (a0 all_nil))))))))))
    ·refine(all_cons ?_ (all_cons ?_ (all_cons ?_ (all_cons ?_ (all_cons ?_ (all_cons ?_ (all_cons ?_ (all_cons ?_ (all_cons ?_ (all_cons ?_ all_nil))))))))))
     ·intro xs h11 b0 c0;have e4:=zz b0;have i11:=b0.size;clear b0;clear c0;refine wpOp_step (o:=_) rfl (fun K hK=>?_);simp only[FL]
      have H0:=CB.step d4 e4.out;have P4:=H0.cell 0 rfl;have Q4:=H0.cell 1 rfl;have E12:=H0.lt;go_simp;refine hK _ _ ⟨.agg #[.bool n89,.slice y11 l89 c89],by kernel_rfl,Below.refl _ _,rfl,nF⟩
     ·intro xs B7 b0 c0;have R4:=zz b0;have C7:=b0.size;clear b0;clear c0;refine wpOp_step (o:=_) rfl (fun K hK=>?_);simp only[FL]
      go_simp;refine hK _ _ ⟨.pointer (some ⟨w.heap.size,2,none⟩),by kernel_rfl,Below.refl _ _,rfl,nF⟩
     ·intro xs D7 b0 c0;have C1:=zz b0;have E7:=b0.size;clear b0;have f1:(xs 1)=.pointer (some ⟨w.heap.size,2,none⟩):=c0 _ (m_ 1 rfl) (by kernel_rfl);clear c0;refine wpOp_step (o:=_) rfl (fun K hK=>?_);simp only[FL]
      have m0:=CB.step b4 C1.out;have S4:=m0.cell 0 rfl;have T4:=m0.cell 1 rfl;have U4:=m0.cell 2 rfl;have F12:=m0.lt;go_simp;refine hK _ _ ⟨.slice A' l' c',by simp only[FL,f1],Below.refl _ _,rfl,nF⟩
     ·intro xs F7 b0 c0;have D1:=zz b0;have G7:=b0.size;clear b0;have f2:(xs 2)=.slice A' l' c':=c0 _ (m_ 2 rfl) (by kernel_rfl);clear c0;refine wpOp_step (o:=_) rfl (fun K hK=>?_);simp only[FL]
      go_simp;have E1:=zz (RN.soft Hd.out (((Soft.of B87.out).trans (S96.out)).trans (Soft.of D1.out)));(with_reducible refine(cloneN_any _ _ _ E1.out (by have:=HL'.out;omega)).mono ?_)
      rintro e wc107 ⟨g4,v107,rfl,h4⟩;refine hK _ _ ⟨v107,by simp only[FL,f2],g4,h4,nF⟩
     ·intro xs Q0 b0 c0;have V4:=zz b0;have H7:=b0.size;clear b0;have f3:RN Q0 Q0.heap.size (xs 3) (dig d):=c0 _ (m_ 3 rfl) (by kernel_rfl);clear c0;refine wpOp_step (o:=_) rfl (fun K hK=>?_);simp only[FL]
      obtain⟨A3,c3,hx3,-⟩:=RN.cell f3;have r3:=f3;rw[hx3] at r3 ⊢;go_simp;refine hK _ _ ⟨.agg #[.bool false,.slice A3 (dig d).length c3],by simp only[FL,hx3],Below.refl _ _,⟨_,_,_,rfl,r3⟩,nF⟩
     ·intro xs R0 b0 c0;have F1:=zz b0;have I7:=b0.size;clear b0;have f0:(xs 0)=.agg #[.bool n89,.slice y11 l89 c89]:=c0 _ (m_ 0 rfl) (by kernel_rfl);have f4:∃ A l c,(xs 4)=.agg #[.bool false,.slice A l c]∧RN R0 R0.heap.size (.slice A l c) (dig d):=c0 _ (m_ 4 rfl) (by kernel_rfl);clear c0;refine wpOp_step (o:=_) rfl (fun K hK=>?_);simp only[FL]
      obtain⟨Bd,ud,cd,hu,rd⟩:=f4;rw[hu];have rn110:=RN.stepN HN5.out.1 F1.out;go_simp;refine hK _ _ ⟨.agg #[.bool n89,.slice y11 l89 c89,.bool false,.slice Bd ud cd],by simp only[FL,f0,hu],Below.refl _ _,⟨_,_,_,_,_,_,_,rfl,by rw[hnum];exact rn110,by rw[hden];exact rd,by rw[hnum];exact HN5.out.2⟩,nF⟩
     ·intro xs J7 b0 c0;have W4:=zz b0;have K7:=b0.size;clear b0;clear c0;refine wpOp_step (o:=_) rfl (fun K hK=>?_);simp only[FL]
      go_simp;refine hK _ _ ⟨.int .i64 0,by kernel_rfl,Below.refl _ _,rfl,nF⟩
     ·intro xs S0 b0 c0;have X4:=zz b0;have L7:=b0.size;clear b0;have f5:QV S0 S0.heap.size (xs 5) q:=c0 _ (m_ 5 rfl) (by kernel_rfl);have f6:(xs 6)=.int .i64 0:=c0 _ (m_ 6 rfl) (by kernel_rfl);clear c0;refine wpOp_step (o:=_) rfl (fun K hK=>?_);simp only[FL]
      obtain⟨qn,qA,ql,qc,qB,qm,qd,hu,ra,rb,rc⟩:=f5;rw[hu];have RC:=zz rc;clear rc;go_simp;(with_reducible refine(madeQ_yes _ qn false qA qB ql qc qm qd).mono ?_)
      rintro e wc113 ⟨T0,rfl⟩;refine hK _ _ ⟨.tuple #[.agg #[.bool qn,.slice qA ql qc,.bool false,.slice qB qm qd],.int .i64 0],by simp only[FL,f6,hu],T0,⟨_,rfl,QV.step ⟨_,_,_,_,_,_,_,rfl,ra,rb,RC.out⟩ T0⟩,nF⟩
     ·intro xs U0 b0 c0;have Y4:=zz b0;have M7:=b0.size;clear b0;have f7:∃ u,(xs 7)=.tuple #[u,.int .i64 0]∧QO U0 U0.heap.size u (some q):=c0 _ (m_ 7 rfl) (by kernel_rfl);clear c0;refine wpOp_step (o:=_) rfl (fun K hK=>?_);simp only[FL]
      obtain⟨u,hu,hl⟩:=f7;rw[hu];go_simp;refine hK _ _ ⟨u,by simp only[FL,hu],Below.refl _ _,hl,nF⟩
     ·intro xs V0 b0 c0;have Z4:=zz b0;have N7:=b0.size;clear b0;have f7:∃ u,(xs 7)=.tuple #[u,.int .i64 0]∧QO V0 V0.heap.size u (some q):=c0 _ (m_ 7 rfl) (by kernel_rfl);clear c0;refine wpOp_step (o:=_) rfl (fun K hK=>?_);simp only[FL]
      obtain⟨u,hu,-⟩:=f7;rw[hu];go_simp;refine hK _ _ ⟨.int .i64 0,by simp only[FL,hu],Below.refl _ _,rfl,nF⟩
    ·exact all_nil
    ·intro xs j11 hbf hf hn hd;have f0:(xs 0)=.agg #[.bool n89,.slice y11 l89 c89]:=hf _ (m_ 0 rfl);have f1:(xs 1)=.pointer (some ⟨w.heap.size,2,none⟩):=hf _ (m_ 1 rfl);have f2:(xs 2)=.slice A' l' c':=hf _ (m_ 2 rfl);have f3:RN j11 j11.heap.size (xs 3) (dig d):=hf _ (m_ 3 rfl);have f4:∃ A l c,(xs 4)=.agg #[.bool false,.slice A l c]∧RN j11 j11.heap.size (.slice A l c) (dig d):=hf _ (m_ 4 rfl);have f5:QV j11 j11.heap.size (xs 5) q:=hf _ (m_ 5 rfl);have f6:(xs 6)=.int .i64 0:=hf _ (m_ 6 rfl);have f7:∃ u,(xs 7)=.tuple #[u,.int .i64 0]∧QO j11 j11.heap.size u (some q):=hf _ (m_ 7 rfl);have f8:QO j11 j11.heap.size (xs 8) (some q):=hf _ (m_ 8 rfl);have f9:(xs 9)=.int .i64 0:=hf _ (m_ 9 rfl);clear hf hn hd;simp only[FL]
     have B117:=zz hbf;have z117:=B117.out.size;have i4:=zz (O0.out.trans (B117.out.mono O0.out.size));clear hbf;generalize xs 0=x0,xs 1=x1,xs 2=x2,xs 3=x3,xs 4=x4,xs 5=x5,xs 6=x6,xs 7=x7,xs 8=x8,xs 9=x9 at *
     obtain rfl:=f0;obtain rfl:=f1;obtain rfl:=f2;clear f3;clear f4;clear f5;obtain rfl:=f6;clear f7;obtain⟨r12,s12,t12,u12,v12,G1,w12,rfl,ha119,W0,hc119⟩:=(show QV j11 j11.heap.size x8 q from f8);have H1:=zz (show QV j11 j11.heap.size (.agg #[.bool r12,.slice s12 t12 u12,.bool false,.slice v12 G1 w12]) q from⟨_,_,_,_,_,_,_,rfl,ha119,W0,hc119⟩);clear ha119 W0 hc119;obtain rfl:=f9;have d0:=CB.step c4 B117.out;have I1:=d0.cell 0 rfl;have J1:=d0.cell 1 rfl;have K1:=d0.cell 2 rfl;have L1:=d0.cell 3 rfl;have M11:=d0.lt;have M1:=d0.frozen 0;have N1:=d0.frozen 1;have O1:=d0.frozen 2;have P1:=d0.frozen 3;have N11:=d0.lt;refine Early.next (i:=10) (by kernel_rfl) rfl (fun K hK=>?_);go_simp;refine hK _ _ (fun _=>trivial) ?_;clear hK K;(try simp only[Act.put,List.setIfInBounds_toArray,List.set_cons_zero,List.set_cons_succ])
     clear I1 J1 K1 L1 M11 M1 N1 O1 P1 N11;refine Early.next (i:=11) (by kernel_rfl) rfl (fun K hK=>?_);go_simp;refine hK _ _ (fun _=>trivial) ?_;clear hK K;(try simp only[Act.put,List.setIfInBounds_toArray,List.set_cons_zero,List.set_cons_succ])
     refine Early.done (by kernel_rfl) ?_ _;(try simp only[Exit.then])
     go_wp2;exact QB.fin rfl d0 (by simp[noInt_b,noInt_s]) i4.out (by omega) (by rw[HR.out];exact H1.out) rfl (by rw[HR.out];rfl)
 ·have HR:=zz (show r=(none,6) by rw[hr];unfold toldQ;rw[if_neg (fun h:fitQ q=>by have h1:=h.1;have h2:=h.2;rw[hnum,← EL.out] at h1;rw[hden,← EL'.out] at h2;omega)]);clear hr;have hmx:(600:Int)<max (l:Int) (l':Int):=by omega
  cases n with
  | false=>
   have hz:0≤z:=by rcases wsgn_cases hn with h | ⟨h,-⟩ | ⟨-,h⟩ <;> first | omega | cases h
   have HS:=zz (show decide (z<0)=false by rw[decide_eq_false];omega);clear hn;go_enter Tryz.func52,Tryz.ntmps52
   go_upto_region 2 with (fail)
   rw[← hw0];clear hw0;have Q1:=La.cell 0 rfl;have R1:=La.cell 1 rfl;have S1:=La.cell 2 rfl;have O11:=La.lt;go_upto_region 4 with (fail)
   clear Q1 R1 S1 O11;refine Flow.run [⟨0,15,fun fv fw=>fv=.pointer (some ⟨w.heap.size,0,none⟩)⟩,⟨1,16,fun fv fw=>fv=.pointer (some ⟨w.heap.size,0,none⟩)⟩,⟨2,17,fun fv fw=>fv=.bool false⟩,⟨3,18,fun fv fw=>fv=.bool false⟩,⟨4,19,fun fv fw=>True⟩,⟨5,20,fun fv fw=>True⟩,⟨6,21,fun fv fw=>True⟩,⟨7,22,fun fv fw=>True⟩,⟨8,23,fun fv fw=>True⟩,⟨9,24,fun fv fw=>fv=.bool false⟩,⟨10,25,fun fv fw=>fv=.pointer (some ⟨w.heap.size,0,none⟩)⟩,⟨11,26,fun fv fw=>fv=.pointer (some ⟨w.heap.size,1,none⟩)⟩,⟨12,27,fun fv fw=>fv=.slice A l c⟩,⟨13,28,fun fv fw=>RN fw fw.heap.size fv (dig z.natAbs)⟩,⟨14,29,fun fv fw=>LV fw fw.heap.size fv z⟩,⟨15,5,fun fv fw=>∃ b,fv=.pointer (some ⟨b,0,none⟩)∧CB fw b 26 #[.bool false,.slice none 0 0]⟩] [] [15] 1 (by kernel_rfl) (by kernel_rfl) (by kernel_rfl) (fun _ _ _ _ _ h=>h) ?_ ?_ ?_ ?_
   ·refine(a0 (a0 (a0 (a0 (a0 (a0 (a0 (a0 (a0 (a0 (a0 (a0 (a0 (all_cons (fun v w1 w2 h hb=>h.step hb) (all_cons (fun v w1 w2 h hb=>h.step hb) (all_cons (fun v w1 w2 h hb=>let ⟨b,e,h⟩:=h;⟨b,e,h.step hb⟩) all_nil))))))))))))))))
   ·refine(all_cons ?_ (all_cons ?_ (all_cons ?_ (all_cons ?_ (all_cons ?_ (all_cons ?_ (all_cons ?_ (all_cons ?_ (all_cons ?_ (all_cons ?_ (all_cons ?_ (all_cons ?_ (all_cons ?_ (all_cons ?_ (all_cons ?_ (all_cons ?_ all_nil))))))))))))))))
    ·intro xs O7 b0 c0;clear b0;clear c0;refine wpOp_step (o:=_) rfl (fun K hK=>?_);simp only[FL]
     go_simp;refine hK _ _ ⟨.pointer (some ⟨w.heap.size,0,none⟩),by kernel_rfl,Below.refl _ _,rfl,nF⟩
    ·intro xs Q7 b0 c0;clear b0;have f0:(xs 0)=.pointer (some ⟨w.heap.size,0,none⟩):=c0 _ (m_ 0 rfl) (by kernel_rfl);clear c0;refine wpOp_step (o:=_) rfl (fun K hK=>?_);simp only[FL]
     go_simp;refine hK _ _ ⟨.pointer (some ⟨w.heap.size,0,none⟩),by simp only[FL,f0],Below.refl _ _,rfl,nF⟩
    ·intro xs S7 b0 c0;have T1:=zz b0;have T7:=b0.size;clear b0;have f1:(xs 1)=.pointer (some ⟨w.heap.size,0,none⟩):=c0 _ (m_ 1 rfl) (by kernel_rfl);clear c0;refine wpOp_step (o:=_) rfl (fun K hK=>?_);simp only[FL]
     have n0:=CB.step La T1.out;have c5:=n0.cell 0 rfl;have d5:=n0.cell 1 rfl;have e5:=n0.cell 2 rfl;have G12:=n0.lt;go_simp;refine hK _ _ ⟨.bool false,by simp only[FL,f1],Below.refl _ _,rfl,nF⟩
    ·intro xs U7 b0 c0;clear b0;have f2:(xs 2)=.bool false:=c0 _ (m_ 2 rfl) (by kernel_rfl);clear c0;refine wpOp_step (o:=_) rfl (fun K hK=>?_);simp only[FL]
     go_simp;refine hK _ _ ⟨.bool false,by simp only[FL,f2],Below.refl _ _,rfl,nF⟩
    ·intro xs W7 b0 c0;clear b0;have f3:(xs 3)=.bool false:=c0 _ (m_ 3 rfl) (by kernel_rfl);clear c0;refine wpOp_step (o:=?_) ?i5 ?_
     case i5=>exact rfl
     intro K hK;simp only[FL]
     go_simp;refine hK _ _ ⟨undef,by simp only[FL,f3],Below.refl _ _,trivial,nF⟩
    ·intro xs Y7 b0 c0;clear b0;have f3:(xs 3)=.bool false:=c0 _ (m_ 3 rfl) (by kernel_rfl);clear c0;refine wpOp_step (o:=?_) ?k5 ?_
     case k5=>exact rfl
     intro K hK;simp only[FL]
     go_simp;refine hK _ _ ⟨undef,by simp only[FL,f3],Below.refl _ _,trivial,nF⟩
    ·intro xs a8 b0 c0;clear b0;have f3:(xs 3)=.bool false:=c0 _ (m_ 3 rfl) (by kernel_rfl);clear c0;refine wpOp_step (o:=?_) ?m5 ?_
     case m5=>exact rfl
     intro K hK;simp only[FL]
     go_simp;refine hK _ _ ⟨undef,by simp only[FL,f3],Below.refl _ _,trivial,nF⟩
    ·intro xs c8 b0 c0;clear b0;have f3:(xs 3)=.bool false:=c0 _ (m_ 3 rfl) (by kernel_rfl);clear c0;refine wpOp_step (o:=?_) ?o5 ?_
     case o5=>exact rfl
     intro K hK;simp only[FL]
     go_simp;refine hK _ _ ⟨undef,by simp only[FL,f3],Below.refl _ _,trivial,nF⟩
    ·intro xs e8 b0 c0;clear b0;have f3:(xs 3)=.bool false:=c0 _ (m_ 3 rfl) (by kernel_rfl);clear c0;refine wpOp_step (o:=?_) ?q5 ?_
     case q5=>exact rfl
     intro K hK;simp only[FL]
     go_simp;refine hK _ _ ⟨undef,by simp only[FL,f3],Below.refl _ _,trivial,nF⟩
    ·intro xs i8 b0 c0;clear b0;have f3:(xs 3)=.bool false:=c0 _ (m_ 3 rfl) (by kernel_rfl);clear c0;refine wpOp_step (o:=_) rfl (fun K hK=>?_);simp only[FL]
     go_simp;refine hK _ _ ⟨.bool false,by simp only[FL,f3],Below.refl _ _,rfl,nF⟩
    ·intro xs k8 b0 c0;clear b0;clear c0;refine wpOp_step (o:=_) rfl (fun K hK=>?_);simp only[FL]
     go_simp;refine hK _ _ ⟨.pointer (some ⟨w.heap.size,0,none⟩),by kernel_rfl,Below.refl _ _,rfl,nF⟩
    ·intro xs m8 b0 c0;clear b0;have f10:(xs 10)=.pointer (some ⟨w.heap.size,0,none⟩):=c0 _ (m_ 10 rfl) (by kernel_rfl);clear c0;refine wpOp_step (o:=_) rfl (fun K hK=>?_);simp only[FL]
     go_simp;refine hK _ _ ⟨.pointer (some ⟨w.heap.size,1,none⟩),by simp only[FL,f10],Below.refl _ _,rfl,nF⟩
    ·intro xs o8 b0 c0;have U1:=zz b0;have p8:=b0.size;clear b0;have f11:(xs 11)=.pointer (some ⟨w.heap.size,1,none⟩):=c0 _ (m_ 11 rfl) (by kernel_rfl);clear c0;refine wpOp_step (o:=_) rfl (fun K hK=>?_);simp only[FL]
     have o0:=CB.step La U1.out;have u5:=o0.cell 0 rfl;have v5:=o0.cell 1 rfl;have w5:=o0.cell 2 rfl;have H12:=o0.lt;go_simp;refine hK _ _ ⟨.slice A l c,by simp only[FL,f11],Below.refl _ _,rfl,nF⟩
    ·intro xs q8 b0 c0;have V1:=zz b0;have r8:=b0.size;clear b0;have f12:(xs 12)=.slice A l c:=c0 _ (m_ 12 rfl) (by kernel_rfl);clear c0;refine wpOp_step (o:=_) rfl (fun K hK=>?_);simp only[FL]
     go_simp;have W1:=zz (RN.step Ha.out V1.out);(with_reducible refine(cloneN_any _ _ _ W1.out (by have:=HL.out;omega)).mono ?_)
     rintro e wc143 ⟨j4,v143,rfl,k4⟩;refine hK _ _ ⟨v143,by simp only[FL,f12],j4,k4,nF⟩
    ·intro xs X0 b0 c0;clear b0;have f13:RN X0 X0.heap.size (xs 13) (dig z.natAbs):=c0 _ (m_ 13 rfl) (by kernel_rfl);have f9:(xs 9)=.bool false:=c0 _ (m_ 9 rfl) (by kernel_rfl);clear c0;refine wpOp_step (o:=_) rfl (fun K hK=>?_);simp only[FL]
     obtain⟨A13,c13,hx13,-⟩:=RN.cell f13;have r13:=f13;rw[hx13] at r13 ⊢;go_simp;refine hK _ _ ⟨.agg #[.bool false,.slice A13 (dig (z).natAbs).length c13],by simp only[FL,f9,hx13],Below.refl _ _,⟨_,by rw[HS.out],r13⟩,nF⟩
    ·intro xs l4 b0 c0;clear b0;clear c0;refine wpOp_step (o:=_) rfl (fun K hK=>?_);simp only[FL]
     go_simp;refine hK _ _ ⟨.pointer (some ⟨l4.heap.size,0,none⟩),by kernel_rfl,(Below.refl _ _).alloc (Nat.le_refl _) _,⟨_,rfl,CB.new _ _ _⟩,fun _=>⟨_,rfl,Nat.le_refl _,by simp⟩⟩
   ·exact all_nil
   ·intro xs u11 hbf hf hn hd;have f0:(xs 0)=.pointer (some ⟨w.heap.size,0,none⟩):=hf _ (m_ 0 rfl);have f1:(xs 1)=.pointer (some ⟨w.heap.size,0,none⟩):=hf _ (m_ 1 rfl);have f2:(xs 2)=.bool false:=hf _ (m_ 2 rfl);have f3:(xs 3)=.bool false:=hf _ (m_ 3 rfl);have f4:True:=hf _ (m_ 4 rfl);have f5:True:=hf _ (m_ 5 rfl);have f6:True:=hf _ (m_ 6 rfl);have f7:True:=hf _ (m_ 7 rfl);have f8:True:=hf _ (m_ 8 rfl);have f9:(xs 9)=.bool false:=hf _ (m_ 9 rfl);have f10:(xs 10)=.pointer (some ⟨w.heap.size,0,none⟩):=hf _ (m_ 10 rfl);have f11:(xs 11)=.pointer (some ⟨w.heap.size,1,none⟩):=hf _ (m_ 11 rfl);have f12:(xs 12)=.slice A l c:=hf _ (m_ 12 rfl);have f13:RN u11 u11.heap.size (xs 13) (dig z.natAbs):=hf _ (m_ 13 rfl);have f14:LV u11 u11.heap.size (xs 14) z:=hf _ (m_ 14 rfl);have f15:∃ b,(xs 15)=.pointer (some ⟨b,0,none⟩)∧CB u11 b 26 #[.bool false,.slice none 0 0]:=hf _ (m_ 15 rfl);have n15:=hn 15 (by decide);clear hf hn hd;simp only[FL]
    have B147:=zz hbf;have z147:=B147.out.size;have m4:=zz (B0.out.trans (B147.out.mono B0.out.size));clear hbf;generalize xs 0=x0,xs 1=x1,xs 2=x2,xs 3=x3,xs 4=x4,xs 5=x5,xs 6=x6,xs 7=x7,xs 8=x8,xs 9=x9,xs 10=x10,xs 11=x11,xs 12=x12,xs 13=x13,xs 14=x14,xs 15=x15 at *
    obtain rfl:=f0;obtain rfl:=f1;obtain rfl:=f2;obtain rfl:=f3;clear f4;clear f5;clear f6;clear f7;clear f8;obtain rfl:=f9;obtain rfl:=f10;obtain rfl:=f11;obtain rfl:=f12;clear f13;obtain⟨n149,r11,l149,c149,rfl,Y0⟩:=f14.opened;have X1:=zz Y0;clear f14 Y0;obtain⟨B11,rfl,k11⟩:=f15;have F11:=zz (show w0.heap.size≤B11 by obtain⟨b',e,h,-⟩:=n15;injection e with e;injection e with e;injection e with e _ _;omega);clear n15;have h12:=k11.lt;have i12:=F11.out;have Y1:=k11.cell 0 rfl;have Z1:=k11.cell 1 rfl;have P11:=k11.lt;have a2:=k11.frozen 0;have b2:=k11.frozen 1;have Q11:=k11.lt;refine Early.next (i:=16) (by kernel_rfl) rfl (fun K hK=>?_);go_simp;refine hK _ _ (fun _=>trivial) ?_;clear hK K;(try simp only[Act.put,List.setIfInBounds_toArray,List.set_cons_zero,List.set_cons_succ])
    clear Y1 Z1 P11 a2 b2 Q11;refine Early.done (by kernel_rfl) ?_ _;(try simp only[Exit.then])
    have c2:=CB.step La B147.out;have d2:=CB.step Lo B147.out;obtain⟨w156,i0⟩:∃ w156:World,w156=((u11.setCell ⟨B11,0,none⟩ (.bool n149)).setCell ⟨B11,1,none⟩ (.slice r11 l149 c149)):=⟨_,rfl⟩;rw[← i0];have S156:=zz (p2_s i0 k11 (by simp[noInt_b,noInt_s]));have e2:=p2_f i0 c2 (by omega);have g2:=p2_f i0 d2 (by omega);have i2:=p2_p i0 k11;have I0:=zz (p2_b i0 m4.out (by omega));have u8:=p2_z i0;clear i0;go_upto_region 5 with (fail)
    have J0:=zz (LV.soft X1.out (S156.out));have HN5:=zz (show RN w156 w156.heap.size (.slice r11 l149 c149) (dig z.natAbs)∧n149=decide (z<0) from⟨(LV.is J0.out).2.2,(LV.is J0.out).1⟩);refine Flow.run [⟨0,30,fun fv fw=>fv=.agg #[.bool n149,.slice r11 l149 c149]⟩,⟨1,31,fun fv fw=>fv=.pointer (some ⟨w.heap.size,2,none⟩)⟩,⟨2,32,fun fv fw=>fv=.slice A' l' c'⟩,⟨3,33,fun fv fw=>RN fw fw.heap.size fv (dig d)⟩,⟨4,34,fun fv fw=>∃ A l c,fv=.agg #[.bool false,.slice A l c]∧RN fw fw.heap.size (.slice A l c) (dig d)⟩,⟨5,35,fun fv fw=>QV fw fw.heap.size fv q⟩,⟨6,36,fun fv fw=>fv=.int .i64 6⟩,⟨7,37,fun fv fw=>∃ u,fv=.tuple #[u,.int .i64 6]∧QO fw fw.heap.size u none⟩,⟨8,38,fun fv fw=>QO fw fw.heap.size fv none⟩,⟨9,39,fun fv fw=>fv=.int .i64 6⟩] [] [] 2 (by kernel_rfl) (by kernel_rfl) (by kernel_rfl) (fun _ _ _ _ _ h=>h) ?_ ?_ ?_ ?_
    ·refine(a0 (a0 (a0 (all_cons (fun v w1 w2 h hb=>h.step hb) (all_cons (fun v w1 w2 h hb=>let ⟨A,l,c,e,h⟩:=h;⟨A,l,c,e,h.stepN hb⟩) (all_cons (fun v w1 w2 h hb=>h.step hb) (a0 (all_cons (fun v w1 w2 h hb=>let ⟨u,e,h⟩:=h;⟨u,e,QO.step h hb⟩) (all_cons (fun v w1 w2 h hb=>(show QO w2 w2.heap.size v none from QO.step (o:=none) h hb)) (a0 all_nil))))))))))
    ·refine(all_cons ?_ (all_cons ?_ (all_cons ?_ (all_cons ?_ (all_cons ?_ (all_cons ?_ (all_cons ?_ (all_cons ?_ (all_cons ?_ (all_cons ?_ all_nil))))))))))
     ·intro xs v8 b0 c0;have j2:=zz b0;have w8:=b0.size;clear b0;clear c0;refine wpOp_step (o:=_) rfl (fun K hK=>?_);simp only[FL]
      have D0:=CB.step i2 j2.out;have A5:=D0.cell 0 rfl;have B5:=D0.cell 1 rfl;have I12:=D0.lt;go_simp;refine hK _ _ ⟨.agg #[.bool n149,.slice r11 l149 c149],by kernel_rfl,Below.refl _ _,rfl,nF⟩
     ·intro xs y8 b0 c0;have C5:=zz b0;have z8:=b0.size;clear b0;clear c0;refine wpOp_step (o:=_) rfl (fun K hK=>?_);simp only[FL]
      go_simp;refine hK _ _ ⟨.pointer (some ⟨w.heap.size,2,none⟩),by kernel_rfl,Below.refl _ _,rfl,nF⟩
     ·intro xs A8 b0 c0;have k2:=zz b0;have B8:=b0.size;clear b0;have f1:(xs 1)=.pointer (some ⟨w.heap.size,2,none⟩):=c0 _ (m_ 1 rfl) (by kernel_rfl);clear c0;refine wpOp_step (o:=_) rfl (fun K hK=>?_);simp only[FL]
      have p0:=CB.step e2 k2.out;have D5:=p0.cell 0 rfl;have E5:=p0.cell 1 rfl;have F5:=p0.cell 2 rfl;have J12:=p0.lt;go_simp;refine hK _ _ ⟨.slice A' l' c',by simp only[FL,f1],Below.refl _ _,rfl,nF⟩
     ·intro xs C8 b0 c0;have l2:=zz b0;have D8:=b0.size;clear b0;have f2:(xs 2)=.slice A' l' c':=c0 _ (m_ 2 rfl) (by kernel_rfl);clear c0;refine wpOp_step (o:=_) rfl (fun K hK=>?_);simp only[FL]
      go_simp;have m2:=zz (RN.soft Hd.out (((Soft.of B147.out).trans (S156.out)).trans (Soft.of l2.out)));(with_reducible refine(cloneN_any _ _ _ m2.out (by have:=HL'.out;omega)).mono ?_)
      rintro e wc167 ⟨n4,v167,rfl,o4⟩;refine hK _ _ ⟨v167,by simp only[FL,f2],n4,o4,nF⟩
     ·intro xs Z0 b0 c0;have G5:=zz b0;have E8:=b0.size;clear b0;have f3:RN Z0 Z0.heap.size (xs 3) (dig d):=c0 _ (m_ 3 rfl) (by kernel_rfl);clear c0;refine wpOp_step (o:=_) rfl (fun K hK=>?_);simp only[FL]
      obtain⟨A3,c3,hx3,-⟩:=RN.cell f3;have r3:=f3;rw[hx3] at r3 ⊢;go_simp;refine hK _ _ ⟨.agg #[.bool false,.slice A3 (dig d).length c3],by simp only[FL,hx3],Below.refl _ _,⟨_,_,_,rfl,r3⟩,nF⟩
     ·intro xs a1 b0 c0;have n2:=zz b0;have F8:=b0.size;clear b0;have f0:(xs 0)=.agg #[.bool n149,.slice r11 l149 c149]:=c0 _ (m_ 0 rfl) (by kernel_rfl);have f4:∃ A l c,(xs 4)=.agg #[.bool false,.slice A l c]∧RN a1 a1.heap.size (.slice A l c) (dig d):=c0 _ (m_ 4 rfl) (by kernel_rfl);clear c0;refine wpOp_step (o:=_) rfl (fun K hK=>?_);simp only[FL]
      obtain⟨Bd,ud,cd,hu,rd⟩:=f4;rw[hu];have rn170:=RN.stepN HN5.out.1 n2.out;go_simp;refine hK _ _ ⟨.agg #[.bool n149,.slice r11 l149 c149,.bool false,.slice Bd ud cd],by simp only[FL,f0,hu],Below.refl _ _,⟨_,_,_,_,_,_,_,rfl,by rw[hnum];exact rn170,by rw[hden];exact rd,by rw[hnum];exact HN5.out.2⟩,nF⟩
     ·intro xs G8 b0 c0;have H5:=zz b0;have H8:=b0.size;clear b0;clear c0;refine wpOp_step (o:=_) rfl (fun K hK=>?_);simp only[FL]
      go_simp;refine hK _ _ ⟨.int .i64 6,by kernel_rfl,Below.refl _ _,rfl,nF⟩
     ·intro xs b1 b0 c0;have I5:=zz b0;have I8:=b0.size;clear b0;have f5:QV b1 b1.heap.size (xs 5) q:=c0 _ (m_ 5 rfl) (by kernel_rfl);have f6:(xs 6)=.int .i64 6:=c0 _ (m_ 6 rfl) (by kernel_rfl);clear c0;refine wpOp_step (o:=_) rfl (fun K hK=>?_);simp only[FL]
      obtain⟨qn,qA,ql,qc,qB,qm,qd,hu,ra,rb,rc⟩:=f5;rw[hu];have RC:=zz rc;clear rc;go_simp;(with_reducible refine(madeQ_no _ qn false qA qB ql qc qm qd 6 (by decide)).mono ?_)
      rintro e wc173 ⟨p4,rfl⟩;refine hK _ _ ⟨.tuple #[.agg #[.bool false,.slice none 0 0,.bool false,.slice none 0 0],.int .i64 6],by simp only[FL,f6,hu],p4,⟨_,rfl,zeroQ _ _⟩,nF⟩
     ·intro xs c1 b0 c0;have J5:=zz b0;have J8:=b0.size;clear b0;have f7:∃ u,(xs 7)=.tuple #[u,.int .i64 6]∧QO c1 c1.heap.size u none:=c0 _ (m_ 7 rfl) (by kernel_rfl);clear c0;refine wpOp_step (o:=_) rfl (fun K hK=>?_);simp only[FL]
      obtain⟨u,hu,hl⟩:=f7;rw[hu];go_simp;refine hK _ _ ⟨u,by simp only[FL,hu],Below.refl _ _,hl,nF⟩
     ·intro xs d1 b0 c0;have K5:=zz b0;have K8:=b0.size;clear b0;have f7:∃ u,(xs 7)=.tuple #[u,.int .i64 6]∧QO d1 d1.heap.size u none:=c0 _ (m_ 7 rfl) (by kernel_rfl);clear c0;refine wpOp_step (o:=_) rfl (fun K hK=>?_);simp only[FL]
      obtain⟨u,hu,-⟩:=f7;rw[hu];go_simp;refine hK _ _ ⟨.int .i64 6,by simp only[FL,hu],Below.refl _ _,rfl,nF⟩
    ·exact all_nil
    ·intro xs m11 hbf hf hn hd;have f0:(xs 0)=.agg #[.bool n149,.slice r11 l149 c149]:=hf _ (m_ 0 rfl);have f1:(xs 1)=.pointer (some ⟨w.heap.size,2,none⟩):=hf _ (m_ 1 rfl);have f2:(xs 2)=.slice A' l' c':=hf _ (m_ 2 rfl);have f3:RN m11 m11.heap.size (xs 3) (dig d):=hf _ (m_ 3 rfl);have f4:∃ A l c,(xs 4)=.agg #[.bool false,.slice A l c]∧RN m11 m11.heap.size (.slice A l c) (dig d):=hf _ (m_ 4 rfl);have f5:QV m11 m11.heap.size (xs 5) q:=hf _ (m_ 5 rfl);have f6:(xs 6)=.int .i64 6:=hf _ (m_ 6 rfl);have f7:∃ u,(xs 7)=.tuple #[u,.int .i64 6]∧QO m11 m11.heap.size u none:=hf _ (m_ 7 rfl);have f8:QO m11 m11.heap.size (xs 8) none:=hf _ (m_ 8 rfl);have f9:(xs 9)=.int .i64 6:=hf _ (m_ 9 rfl);clear hf hn hd;simp only[FL]
     have B177:=zz hbf;have z177:=B177.out.size;have q4:=zz (I0.out.trans (B177.out.mono I0.out.size));clear hbf;generalize xs 0=x0,xs 1=x1,xs 2=x2,xs 3=x3,xs 4=x4,xs 5=x5,xs 6=x6,xs 7=x7,xs 8=x8,xs 9=x9 at *
     obtain rfl:=f0;obtain rfl:=f1;obtain rfl:=f2;clear f3;clear f4;clear f5;obtain rfl:=f6;clear f7;have g8:QR m11 m11.heap.size x8 false [] false []:=f8;clear f8;obtain⟨W12,X12,Y12,Z12,L5,a13,rfl,ha179,e1⟩:=g8;have o2:=zz (QR.mk (n:=false) (m:=false) ha179 e1);clear ha179 e1;obtain rfl:=f9;have e0:=CB.step g2 B177.out;have p2:=e0.cell 0 rfl;have q2:=e0.cell 1 rfl;have r2:=e0.cell 2 rfl;have s2:=e0.cell 3 rfl;have R11:=e0.lt;have t2:=e0.frozen 0;have u2:=e0.frozen 1;have v2:=e0.frozen 2;have y2:=e0.frozen 3;have S11:=e0.lt;refine Early.next (i:=10) (by kernel_rfl) rfl (fun K hK=>?_);go_simp;refine hK _ _ (fun _=>trivial) ?_;clear hK K;(try simp only[Act.put,List.setIfInBounds_toArray,List.set_cons_zero,List.set_cons_succ])
     clear p2 q2 r2 s2 R11 t2 u2 v2 y2 S11;refine Early.next (i:=11) (by kernel_rfl) rfl (fun K hK=>?_);go_simp;refine hK _ _ (fun _=>trivial) ?_;clear hK K;(try simp only[Act.put,List.setIfInBounds_toArray,List.set_cons_zero,List.set_cons_succ])
     refine Early.done (by kernel_rfl) ?_ _;(try simp only[Exit.then])
     go_wp2;exact QB.fin rfl e0 (by simp[noInt_b,noInt_s]) q4.out (by omega) (by rw[HR.out];exact o2.out) rfl (by rw[HR.out];rfl)
  | true=>
   have hzl:z<0↔0<l:=by
    constructor
    ·intro h;rw[EL.out];have:=dig_len_pos (n:=z.natAbs) (by omega);omega
    ·intro h;rcases wsgn_cases hn with h1 | ⟨-,h1⟩ | ⟨h1,-⟩
     ·rw[EL.out,h1,show(0:Int).natAbs=0 from rfl,dig_zero] at h;simp at h
     ·exact h1
     ·cases h1
   have HS:=zz (show decide (z<0)=(decide (0<l)) by exact decide_eq_decide.2 hzl);clear hn hzl;go_enter Tryz.func52,Tryz.ntmps52
   go_upto_region 2 with (fail)
   rw[← hw0];clear hw0;have z2:=La.cell 0 rfl;have A2:=La.cell 1 rfl;have B2:=La.cell 2 rfl;have T11:=La.lt;go_upto_region 4 with (fail)
   clear z2 A2 B2 T11;refine Flow.run [⟨0,15,fun fv fw=>fv=.pointer (some ⟨w.heap.size,0,none⟩)⟩,⟨1,16,fun fv fw=>fv=.pointer (some ⟨w.heap.size,0,none⟩)⟩,⟨2,17,fun fv fw=>fv=.bool true⟩,⟨3,18,fun fv fw=>fv=.bool true⟩,⟨4,19,fun fv fw=>fv=.pointer (some ⟨w.heap.size,0,none⟩)⟩,⟨5,20,fun fv fw=>fv=.pointer (some ⟨w.heap.size,1,none⟩)⟩,⟨6,21,fun fv fw=>fv=.slice A l c⟩,⟨7,22,fun fv fw=>fv=.int .i64 (l:Int)⟩,⟨8,23,fun fv fw=>fv=.bool (decide (0<l))⟩,⟨9,24,fun fv fw=>fv=.bool (decide (0<l))⟩,⟨10,25,fun fv fw=>fv=.pointer (some ⟨w.heap.size,0,none⟩)⟩,⟨11,26,fun fv fw=>fv=.pointer (some ⟨w.heap.size,1,none⟩)⟩,⟨12,27,fun fv fw=>fv=.slice A l c⟩,⟨13,28,fun fv fw=>RN fw fw.heap.size fv (dig z.natAbs)⟩,⟨14,29,fun fv fw=>LV fw fw.heap.size fv z⟩,⟨15,5,fun fv fw=>∃ b,fv=.pointer (some ⟨b,0,none⟩)∧CB fw b 26 #[.bool false,.slice none 0 0]⟩] [] [15] 1 (by kernel_rfl) (by kernel_rfl) (by kernel_rfl) (fun _ _ _ _ _ h=>h) ?_ ?_ ?_ ?_
   ·refine(a0 (a0 (a0 (a0 (a0 (a0 (a0 (a0 (a0 (a0 (a0 (a0 (a0 (all_cons (fun v w1 w2 h hb=>h.step hb) (all_cons (fun v w1 w2 h hb=>h.step hb) (all_cons (fun v w1 w2 h hb=>let ⟨b,e,h⟩:=h;⟨b,e,h.step hb⟩) all_nil))))))))))))))))
   ·refine(all_cons ?_ (all_cons ?_ (all_cons ?_ (all_cons ?_ (all_cons ?_ (all_cons ?_ (all_cons ?_ (all_cons ?_ (all_cons ?_ (all_cons ?_ (all_cons ?_ (all_cons ?_ (all_cons ?_ (all_cons ?_ (all_cons ?_ (all_cons ?_ all_nil))))))))))))))))
    ·intro xs L8 b0 c0;clear b0;clear c0;refine wpOp_step (o:=_) rfl (fun K hK=>?_);simp only[FL]
     go_simp;refine hK _ _ ⟨.pointer (some ⟨w.heap.size,0,none⟩),by kernel_rfl,Below.refl _ _,rfl,nF⟩
    ·intro xs N8 b0 c0;clear b0;have f0:(xs 0)=.pointer (some ⟨w.heap.size,0,none⟩):=c0 _ (m_ 0 rfl) (by kernel_rfl);clear c0;refine wpOp_step (o:=_) rfl (fun K hK=>?_);simp only[FL]
     go_simp;refine hK _ _ ⟨.pointer (some ⟨w.heap.size,0,none⟩),by simp only[FL,f0],Below.refl _ _,rfl,nF⟩
    ·intro xs P8 b0 c0;have C2:=zz b0;have Q8:=b0.size;clear b0;have f1:(xs 1)=.pointer (some ⟨w.heap.size,0,none⟩):=c0 _ (m_ 1 rfl) (by kernel_rfl);clear c0;refine wpOp_step (o:=_) rfl (fun K hK=>?_);simp only[FL]
     have q0:=CB.step La C2.out;have O5:=q0.cell 0 rfl;have P5:=q0.cell 1 rfl;have Q5:=q0.cell 2 rfl;have K12:=q0.lt;go_simp;refine hK _ _ ⟨.bool true,by simp only[FL,f1],Below.refl _ _,rfl,nF⟩
    ·intro xs R8 b0 c0;clear b0;have f2:(xs 2)=.bool true:=c0 _ (m_ 2 rfl) (by kernel_rfl);clear c0;refine wpOp_step (o:=_) rfl (fun K hK=>?_);simp only[FL]
     go_simp;refine hK _ _ ⟨.bool true,by simp only[FL,f2],Below.refl _ _,rfl,nF⟩
    ·intro xs T8 b0 c0;clear b0;have f3:(xs 3)=.bool true:=c0 _ (m_ 3 rfl) (by kernel_rfl);clear c0;refine wpOp_step (o:=?_) ?T5 ?_
     case T5=>exact rfl
     intro K hK;simp only[FL]
     go_simp;refine hK _ _ ⟨.pointer (some ⟨w.heap.size,0,none⟩),by simp only[FL,f3],Below.refl _ _,rfl,nF⟩
    ·intro xs V8 b0 c0;clear b0;have f3:(xs 3)=.bool true:=c0 _ (m_ 3 rfl) (by kernel_rfl);have f4:(xs 4)=.pointer (some ⟨w.heap.size,0,none⟩):=c0 _ (m_ 4 rfl) (by kernel_rfl);clear c0;refine wpOp_step (o:=?_) ?V5 ?_
     case V5=>exact rfl
     intro K hK;simp only[FL]
     go_simp;refine hK _ _ ⟨.pointer (some ⟨w.heap.size,1,none⟩),by simp only[FL,f3,f4],Below.refl _ _,rfl,nF⟩
    ·intro xs X8 b0 c0;have D2:=zz b0;have Y8:=b0.size;clear b0;have f3:(xs 3)=.bool true:=c0 _ (m_ 3 rfl) (by kernel_rfl);have f5:(xs 5)=.pointer (some ⟨w.heap.size,1,none⟩):=c0 _ (m_ 5 rfl) (by kernel_rfl);clear c0;refine wpOp_step (o:=?_) ?W5 ?_
     case W5=>exact rfl
     intro K hK;simp only[FL]
     have r0:=CB.step La D2.out;have X5:=r0.cell 0 rfl;have Y5:=r0.cell 1 rfl;have Z5:=r0.cell 2 rfl;have L12:=r0.lt;go_simp;refine hK _ _ ⟨.slice A l c,by simp only[FL,f3,f5],Below.refl _ _,rfl,nF⟩
    ·intro xs Z8 b0 c0;clear b0;have f3:(xs 3)=.bool true:=c0 _ (m_ 3 rfl) (by kernel_rfl);have f6:(xs 6)=.slice A l c:=c0 _ (m_ 6 rfl) (by kernel_rfl);clear c0;refine wpOp_step (o:=?_) ?b6 ?_
     case b6=>exact rfl
     intro K hK;simp only[FL]
     go_simp;refine hK _ _ ⟨.int .i64 (l:Int),by simp only[FL,f3,f6],Below.refl _ _,rfl,nF⟩
    ·intro xs b9 b0 c0;clear b0;have f3:(xs 3)=.bool true:=c0 _ (m_ 3 rfl) (by kernel_rfl);have f7:(xs 7)=.int .i64 (l:Int):=c0 _ (m_ 7 rfl) (by kernel_rfl);clear c0;refine wpOp_step (o:=?_) ?d6 ?_
     case d6=>exact rfl
     intro K hK;simp only[FL]
     go_simp;refine hK _ _ ⟨.bool (decide (0<l)),by simp only[FL,f3,f7],Below.refl _ _,rfl,nF⟩
    ·intro xs d9 b0 c0;clear b0;have f3:(xs 3)=.bool true:=c0 _ (m_ 3 rfl) (by kernel_rfl);have f8:(xs 8)=.bool (decide (0<l)):=c0 _ (m_ 8 rfl) (by kernel_rfl);clear c0;refine wpOp_step (o:=_) rfl (fun K hK=>?_);simp only[FL]
     go_simp;refine hK _ _ ⟨.bool (decide (0<l)),by simp only[FL,f3,f8],Below.refl _ _,rfl,nF⟩
    ·intro xs g9 b0 c0;clear b0;clear c0;refine wpOp_step (o:=_) rfl (fun K hK=>?_);simp only[FL]
     go_simp;refine hK _ _ ⟨.pointer (some ⟨w.heap.size,0,none⟩),by kernel_rfl,Below.refl _ _,rfl,nF⟩
    ·intro xs i9 b0 c0;clear b0;have f10:(xs 10)=.pointer (some ⟨w.heap.size,0,none⟩):=c0 _ (m_ 10 rfl) (by kernel_rfl);clear c0;refine wpOp_step (o:=_) rfl (fun K hK=>?_);simp only[FL]
     go_simp;refine hK _ _ ⟨.pointer (some ⟨w.heap.size,1,none⟩),by simp only[FL,f10],Below.refl _ _,rfl,nF⟩
    ·intro xs k9 b0 c0;have E2:=zz b0;have l9:=b0.size;clear b0;have f11:(xs 11)=.pointer (some ⟨w.heap.size,1,none⟩):=c0 _ (m_ 11 rfl) (by kernel_rfl);clear c0;refine wpOp_step (o:=_) rfl (fun K hK=>?_);simp only[FL]
     have s0:=CB.step La E2.out;have i6:=s0.cell 0 rfl;have j6:=s0.cell 1 rfl;have k6:=s0.cell 2 rfl;have M12:=s0.lt;go_simp;refine hK _ _ ⟨.slice A l c,by simp only[FL,f11],Below.refl _ _,rfl,nF⟩
    ·intro xs m9 b0 c0;have F2:=zz b0;have n9:=b0.size;clear b0;have f12:(xs 12)=.slice A l c:=c0 _ (m_ 12 rfl) (by kernel_rfl);clear c0;refine wpOp_step (o:=_) rfl (fun K hK=>?_);simp only[FL]
     go_simp;have G2:=zz (RN.step Ha.out F2.out);(with_reducible refine(cloneN_any _ _ _ G2.out (by have:=HL.out;omega)).mono ?_)
     rintro e wc205 ⟨r4,v205,rfl,s4⟩;refine hK _ _ ⟨v205,by simp only[FL,f12],r4,s4,nF⟩
    ·intro xs g1 b0 c0;clear b0;have f13:RN g1 g1.heap.size (xs 13) (dig z.natAbs):=c0 _ (m_ 13 rfl) (by kernel_rfl);have f9:(xs 9)=.bool (decide (0<l)):=c0 _ (m_ 9 rfl) (by kernel_rfl);clear c0;refine wpOp_step (o:=_) rfl (fun K hK=>?_);simp only[FL]
     obtain⟨A13,c13,hx13,-⟩:=RN.cell f13;have r13:=f13;rw[hx13] at r13 ⊢;go_simp;refine hK _ _ ⟨.agg #[.bool (decide (0<l)),.slice A13 (dig (z).natAbs).length c13],by simp only[FL,f9,hx13],Below.refl _ _,⟨_,by rw[HS.out],r13⟩,nF⟩
    ·intro xs t4 b0 c0;clear b0;clear c0;refine wpOp_step (o:=_) rfl (fun K hK=>?_);simp only[FL]
     go_simp;refine hK _ _ ⟨.pointer (some ⟨t4.heap.size,0,none⟩),by kernel_rfl,(Below.refl _ _).alloc (Nat.le_refl _) _,⟨_,rfl,CB.new _ _ _⟩,fun _=>⟨_,rfl,Nat.le_refl _,by simp⟩⟩
   ·exact all_nil
   ·intro xs v11 hbf hf hn hd;have f0:(xs 0)=.pointer (some ⟨w.heap.size,0,none⟩):=hf _ (m_ 0 rfl);have f1:(xs 1)=.pointer (some ⟨w.heap.size,0,none⟩):=hf _ (m_ 1 rfl);have f2:(xs 2)=.bool true:=hf _ (m_ 2 rfl);have f3:(xs 3)=.bool true:=hf _ (m_ 3 rfl);have f4:(xs 4)=.pointer (some ⟨w.heap.size,0,none⟩):=hf _ (m_ 4 rfl);have f5:(xs 5)=.pointer (some ⟨w.heap.size,1,none⟩):=hf _ (m_ 5 rfl);have f6:(xs 6)=.slice A l c:=hf _ (m_ 6 rfl);have f7:(xs 7)=.int .i64 (l:Int):=hf _ (m_ 7 rfl);have f8:(xs 8)=.bool (decide (0<l)):=hf _ (m_ 8 rfl);have f9:(xs 9)=.bool (decide (0<l)):=hf _ (m_ 9 rfl);have f10:(xs 10)=.pointer (some ⟨w.heap.size,0,none⟩):=hf _ (m_ 10 rfl);have f11:(xs 11)=.pointer (some ⟨w.heap.size,1,none⟩):=hf _ (m_ 11 rfl);have f12:(xs 12)=.slice A l c:=hf _ (m_ 12 rfl);have f13:RN v11 v11.heap.size (xs 13) (dig z.natAbs):=hf _ (m_ 13 rfl);have f14:LV v11 v11.heap.size (xs 14) z:=hf _ (m_ 14 rfl);have f15:∃ b,(xs 15)=.pointer (some ⟨b,0,none⟩)∧CB v11 b 26 #[.bool false,.slice none 0 0]:=hf _ (m_ 15 rfl);have n15:=hn 15 (by decide);clear hf hn hd;simp only[FL]
    have B209:=zz hbf;have z209:=B209.out.size;have u4:=zz (B0.out.trans (B209.out.mono B0.out.size));clear hbf;generalize xs 0=x0,xs 1=x1,xs 2=x2,xs 3=x3,xs 4=x4,xs 5=x5,xs 6=x6,xs 7=x7,xs 8=x8,xs 9=x9,xs 10=x10,xs 11=x11,xs 12=x12,xs 13=x13,xs 14=x14,xs 15=x15 at *
    obtain rfl:=f0;obtain rfl:=f1;obtain rfl:=f2;obtain rfl:=f3;obtain rfl:=f4;obtain rfl:=f5;obtain rfl:=f6;obtain rfl:=f7;obtain rfl:=f8;obtain rfl:=f9;obtain rfl:=f10;obtain rfl:=f11;obtain rfl:=f12;clear f13;obtain⟨n211,s11,l211,c211,rfl,i1⟩:=f14.opened;have H2:=zz i1;clear f14 i1;obtain⟨C11,rfl,l11⟩:=f15;have G11:=zz (show w0.heap.size≤C11 by obtain⟨b',e,h,-⟩:=n15;injection e with e;injection e with e;injection e with e _ _;omega);clear n15;have j12:=l11.lt;have k12:=G11.out;have I2:=l11.cell 0 rfl;have J2:=l11.cell 1 rfl;have U11:=l11.lt;have K2:=l11.frozen 0;have L2:=l11.frozen 1;have V11:=l11.lt;refine Early.next (i:=16) (by kernel_rfl) rfl (fun K hK=>?_);go_simp;refine hK _ _ (fun _=>trivial) ?_;clear hK K;(try simp only[Act.put,List.setIfInBounds_toArray,List.set_cons_zero,List.set_cons_succ])
    clear I2 J2 U11 K2 L2 V11;refine Early.done (by kernel_rfl) ?_ _;(try simp only[Exit.then])
    have M2:=CB.step La B209.out;have N2:=CB.step Lo B209.out;obtain⟨w218,j0⟩:∃ w218:World,w218=((v11.setCell ⟨C11,0,none⟩ (.bool n211)).setCell ⟨C11,1,none⟩ (.slice s11 l211 c211)):=⟨_,rfl⟩;rw[← j0];have S218:=zz (p2_s j0 l11 (by simp[noInt_b,noInt_s]));have O2:=p2_f j0 M2 (by omega);have P2:=p2_f j0 N2 (by omega);have Q2:=p2_p j0 l11;have K0:=zz (p2_b j0 u4.out (by omega));have q9:=p2_z j0;clear j0;go_upto_region 5 with (fail)
    have L0:=zz (LV.soft H2.out (S218.out));have HN5:=zz (show RN w218 w218.heap.size (.slice s11 l211 c211) (dig z.natAbs)∧n211=decide (z<0) from⟨(LV.is L0.out).2.2,(LV.is L0.out).1⟩);refine Flow.run [⟨0,30,fun fv fw=>fv=.agg #[.bool n211,.slice s11 l211 c211]⟩,⟨1,31,fun fv fw=>fv=.pointer (some ⟨w.heap.size,2,none⟩)⟩,⟨2,32,fun fv fw=>fv=.slice A' l' c'⟩,⟨3,33,fun fv fw=>RN fw fw.heap.size fv (dig d)⟩,⟨4,34,fun fv fw=>∃ A l c,fv=.agg #[.bool false,.slice A l c]∧RN fw fw.heap.size (.slice A l c) (dig d)⟩,⟨5,35,fun fv fw=>QV fw fw.heap.size fv q⟩,⟨6,36,fun fv fw=>fv=.int .i64 6⟩,⟨7,37,fun fv fw=>∃ u,fv=.tuple #[u,.int .i64 6]∧QO fw fw.heap.size u none⟩,⟨8,38,fun fv fw=>QO fw fw.heap.size fv none⟩,⟨9,39,fun fv fw=>fv=.int .i64 6⟩] [] [] 2 (by kernel_rfl) (by kernel_rfl) (by kernel_rfl) (fun _ _ _ _ _ h=>h) ?_ ?_ ?_ ?_
    ·refine(a0 (a0 (a0 (all_cons (fun v w1 w2 h hb=>h.step hb) (all_cons (fun v w1 w2 h hb=>let ⟨A,l,c,e,h⟩:=h;⟨A,l,c,e,h.stepN hb⟩) (all_cons (fun v w1 w2 h hb=>h.step hb) (a0 (all_cons (fun v w1 w2 h hb=>let ⟨u,e,h⟩:=h;⟨u,e,QO.step h hb⟩) (all_cons (fun v w1 w2 h hb=>(show QO w2 w2.heap.size v none from QO.step (o:=none) h hb)) (a0 all_nil))))))))))
    ·refine(all_cons ?_ (all_cons ?_ (all_cons ?_ (all_cons ?_ (all_cons ?_ (all_cons ?_ (all_cons ?_ (all_cons ?_ (all_cons ?_ (all_cons ?_ all_nil))))))))))
     ·intro xs r9 b0 c0;have R2:=zz b0;have s9:=b0.size;clear b0;clear c0;refine wpOp_step (o:=_) rfl (fun K hK=>?_);simp only[FL]
      have E0:=CB.step Q2 R2.out;have n6:=E0.cell 0 rfl;have o6:=E0.cell 1 rfl;have N12:=E0.lt;go_simp;refine hK _ _ ⟨.agg #[.bool n211,.slice s11 l211 c211],by kernel_rfl,Below.refl _ _,rfl,nF⟩
     ·intro xs t9 b0 c0;have p6:=zz b0;have u9:=b0.size;clear b0;clear c0;refine wpOp_step (o:=_) rfl (fun K hK=>?_);simp only[FL]
      go_simp;refine hK _ _ ⟨.pointer (some ⟨w.heap.size,2,none⟩),by kernel_rfl,Below.refl _ _,rfl,nF⟩
     ·intro xs v9 b0 c0;have S2:=zz b0;have w9:=b0.size;clear b0;have f1:(xs 1)=.pointer (some ⟨w.heap.size,2,none⟩):=c0 _ (m_ 1 rfl) (by kernel_rfl);clear c0;refine wpOp_step (o:=_) rfl (fun K hK=>?_);simp only[FL]
      have t0:=CB.step O2 S2.out;have q6:=t0.cell 0 rfl;have r6:=t0.cell 1 rfl;have s6:=t0.cell 2 rfl;have O12:=t0.lt;go_simp;refine hK _ _ ⟨.slice A' l' c',by simp only[FL,f1],Below.refl _ _,rfl,nF⟩
     ·intro xs y9 b0 c0;have T2:=zz b0;have z9:=b0.size;clear b0;have f2:(xs 2)=.slice A' l' c':=c0 _ (m_ 2 rfl) (by kernel_rfl);clear c0;refine wpOp_step (o:=_) rfl (fun K hK=>?_);simp only[FL]
      go_simp;have U2:=zz (RN.soft Hd.out (((Soft.of B209.out).trans (S218.out)).trans (Soft.of T2.out)));(with_reducible refine(cloneN_any _ _ _ U2.out (by have:=HL'.out;omega)).mono ?_)
      rintro e wc229 ⟨v4,v229,rfl,w4⟩;refine hK _ _ ⟨v229,by simp only[FL,f2],v4,w4,nF⟩
     ·intro xs j1 b0 c0;have t6:=zz b0;have A9:=b0.size;clear b0;have f3:RN j1 j1.heap.size (xs 3) (dig d):=c0 _ (m_ 3 rfl) (by kernel_rfl);clear c0;refine wpOp_step (o:=_) rfl (fun K hK=>?_);simp only[FL]
      obtain⟨A3,c3,hx3,-⟩:=RN.cell f3;have r3:=f3;rw[hx3] at r3 ⊢;go_simp;refine hK _ _ ⟨.agg #[.bool false,.slice A3 (dig d).length c3],by simp only[FL,hx3],Below.refl _ _,⟨_,_,_,rfl,r3⟩,nF⟩
     ·intro xs k1 b0 c0;have V2:=zz b0;have B9:=b0.size;clear b0;have f0:(xs 0)=.agg #[.bool n211,.slice s11 l211 c211]:=c0 _ (m_ 0 rfl) (by kernel_rfl);have f4:∃ A l c,(xs 4)=.agg #[.bool false,.slice A l c]∧RN k1 k1.heap.size (.slice A l c) (dig d):=c0 _ (m_ 4 rfl) (by kernel_rfl);clear c0;refine wpOp_step (o:=_) rfl (fun K hK=>?_);simp only[FL]
      obtain⟨Bd,ud,cd,hu,rd⟩:=f4;rw[hu];have rn232:=RN.stepN HN5.out.1 V2.out;go_simp;refine hK _ _ ⟨.agg #[.bool n211,.slice s11 l211 c211,.bool false,.slice Bd ud cd],by simp only[FL,f0,hu],Below.refl _ _,⟨_,_,_,_,_,_,_,rfl,by rw[hnum];exact rn232,by rw[hden];exact rd,by rw[hnum];exact HN5.out.2⟩,nF⟩
     ·intro xs C9 b0 c0;have u6:=zz b0;have D9:=b0.size;clear b0;clear c0;refine wpOp_step (o:=_) rfl (fun K hK=>?_);simp only[FL]
      go_simp;refine hK _ _ ⟨.int .i64 6,by kernel_rfl,Below.refl _ _,rfl,nF⟩
     ·intro xs l1 b0 c0;have v6:=zz b0;have E9:=b0.size;clear b0;have f5:QV l1 l1.heap.size (xs 5) q:=c0 _ (m_ 5 rfl) (by kernel_rfl);have f6:(xs 6)=.int .i64 6:=c0 _ (m_ 6 rfl) (by kernel_rfl);clear c0;refine wpOp_step (o:=_) rfl (fun K hK=>?_);simp only[FL]
      obtain⟨qn,qA,ql,qc,qB,qm,qd,hu,ra,rb,rc⟩:=f5;rw[hu];have RC:=zz rc;clear rc;go_simp;(with_reducible refine(madeQ_no _ qn false qA qB ql qc qm qd 6 (by decide)).mono ?_)
      rintro e wc235 ⟨y4,rfl⟩;refine hK _ _ ⟨.tuple #[.agg #[.bool false,.slice none 0 0,.bool false,.slice none 0 0],.int .i64 6],by simp only[FL,f6,hu],y4,⟨_,rfl,zeroQ _ _⟩,nF⟩
     ·intro xs m1 b0 c0;have w6:=zz b0;have F9:=b0.size;clear b0;have f7:∃ u,(xs 7)=.tuple #[u,.int .i64 6]∧QO m1 m1.heap.size u none:=c0 _ (m_ 7 rfl) (by kernel_rfl);clear c0;refine wpOp_step (o:=_) rfl (fun K hK=>?_);simp only[FL]
      obtain⟨u,hu,hl⟩:=f7;rw[hu];go_simp;refine hK _ _ ⟨u,by simp only[FL,hu],Below.refl _ _,hl,nF⟩
     ·intro xs n1 b0 c0;have y6:=zz b0;have G9:=b0.size;clear b0;have f7:∃ u,(xs 7)=.tuple #[u,.int .i64 6]∧QO n1 n1.heap.size u none:=c0 _ (m_ 7 rfl) (by kernel_rfl);clear c0;refine wpOp_step (o:=_) rfl (fun K hK=>?_);simp only[FL]
      obtain⟨u,hu,-⟩:=f7;rw[hu];go_simp;refine hK _ _ ⟨.int .i64 6,by simp only[FL,hu],Below.refl _ _,rfl,nF⟩
    ·exact all_nil
    ·intro xs n11 hbf hf hn hd;have f0:(xs 0)=.agg #[.bool n211,.slice s11 l211 c211]:=hf _ (m_ 0 rfl);have f1:(xs 1)=.pointer (some ⟨w.heap.size,2,none⟩):=hf _ (m_ 1 rfl);have f2:(xs 2)=.slice A' l' c':=hf _ (m_ 2 rfl);have f3:RN n11 n11.heap.size (xs 3) (dig d):=hf _ (m_ 3 rfl);have f4:∃ A l c,(xs 4)=.agg #[.bool false,.slice A l c]∧RN n11 n11.heap.size (.slice A l c) (dig d):=hf _ (m_ 4 rfl);have f5:QV n11 n11.heap.size (xs 5) q:=hf _ (m_ 5 rfl);have f6:(xs 6)=.int .i64 6:=hf _ (m_ 6 rfl);have f7:∃ u,(xs 7)=.tuple #[u,.int .i64 6]∧QO n11 n11.heap.size u none:=hf _ (m_ 7 rfl);have f8:QO n11 n11.heap.size (xs 8) none:=hf _ (m_ 8 rfl);have f9:(xs 9)=.int .i64 6:=hf _ (m_ 9 rfl);clear hf hn hd;simp only[FL]
     have B239:=zz hbf;have z239:=B239.out.size;have z4:=zz (K0.out.trans (B239.out.mono K0.out.size));clear hbf;generalize xs 0=x0,xs 1=x1,xs 2=x2,xs 3=x3,xs 4=x4,xs 5=x5,xs 6=x6,xs 7=x7,xs 8=x8,xs 9=x9 at *
     obtain rfl:=f0;obtain rfl:=f1;obtain rfl:=f2;clear f3;clear f4;clear f5;obtain rfl:=f6;clear f7;have g8:QR n11 n11.heap.size x8 false [] false []:=f8;clear f8;obtain⟨b13,d13,e13,g13,z6,h13,rfl,ha241,o1⟩:=g8;have W2:=zz (QR.mk (n:=false) (m:=false) ha241 o1);clear ha241 o1;obtain rfl:=f9;have g0:=CB.step P2 B239.out;have X2:=g0.cell 0 rfl;have Y2:=g0.cell 1 rfl;have Z2:=g0.cell 2 rfl;have a3:=g0.cell 3 rfl;have W11:=g0.lt;have b3:=g0.frozen 0;have d3:=g0.frozen 1;have e3:=g0.frozen 2;have g3:=g0.frozen 3;have X11:=g0.lt;refine Early.next (i:=10) (by kernel_rfl) rfl (fun K hK=>?_);go_simp;refine hK _ _ (fun _=>trivial) ?_;clear hK K;(try simp only[Act.put,List.setIfInBounds_toArray,List.set_cons_zero,List.set_cons_succ])
     clear X2 Y2 Z2 a3 W11 b3 d3 e3 g3 X11;refine Early.next (i:=11) (by kernel_rfl) rfl (fun K hK=>?_);go_simp;refine hK _ _ (fun _=>trivial) ?_;clear hK K;(try simp only[Act.put,List.setIfInBounds_toArray,List.set_cons_zero,List.set_cons_succ])
     refine Early.done (by kernel_rfl) ?_ _;(try simp only[Exit.then])
     go_wp2;exact QB.fin rfl g0 (by simp[noInt_b,noInt_s]) z4.out (by omega) (by rw[HR.out];exact W2.out) rfl (by rw[HR.out];rfl)
end Go.Proofs.YtngpibfakemmhaaGreatDoor
