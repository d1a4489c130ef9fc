/- Layer 35, the reference's drafts: number (written by gen_wd.py). -/
import Derived.Test.YtdigbofiebfkeaaGreatDoorQR
import Derived.Test.YtdigbofiebfkeaaGreatDoorLa1
namespace Go.Proofs.YtdigbofiebfkeaaGreatDoor
open Go Go.RowKit Dig
set_option maxRecDepth 100000
set_option maxHeartbeats 4000000
set_option linter.unusedSimpArgs false
def EI16:Elem Int:=fun _ _ cs x=>cs=[.int .i16 x]∧-32768≤x∧x≤32767
def EU:Elem Int:=fun _ _ cs x=>cs=[.int .u8 x]∧0≤x∧x≤255
theorem EI16.stable:Elem.Stable EI16:=⟨fun h _=>h,fun h _=>h⟩
theorem EU.stable:Elem.Stable EU:=⟨fun h _=>h,fun h _=>h⟩
theorem SL.one {w:World} {B:Nat} {A:Option Addr} {n c j:Nat} {l:List Int} {E:Elem Int} {f:Int→Value} {Pr:Int→Prop} (h:SL 1 E w B (.slice A n c) l) (hE:∀ w B cs x,E w B cs x→cs=[f x]∧Pr x) (hj:j<l.length):∃ g off,A=some ⟨g,off,none⟩∧g<B∧w.cell? ⟨g,off+j,none⟩=some (f l[j])∧Pr l[j]:=by
 obtain⟨A',c',he,h1,h2,h3⟩:=h;injection he with e1 e2 e3
 subst e1;subst e2;subst e3;obtain⟨g,off,rfl,hg,hx⟩:=h3 (by omega);obtain⟨cs,e1,e2,e3⟩:=hx j hj;obtain⟨rfl,e4⟩:=hE _ _ _ _ e3;have:=e2 0 _ rfl;rw[Nat.add_zero,Nat.mul_one] at this;exact⟨g,off,rfl,hg,this,e4⟩
def DV (w:World) (B:Nat) (v:Value) (r c:Int) (N D:List Int):Prop:=∃ A ca A' cd,v=.agg #[.int .u8 r,.int .u8 c,.slice A N.length ca,.slice A' D.length cd]∧(0≤r∧r≤255∧0≤c∧c≤255)∧SL 1 EI16 w B (.slice A N.length ca) N∧SL 1 EU w B (.slice A' D.length cd) D
theorem DV.step {w w':World} {v:Value} {r c:Int} {N D:List Int} (h:DV w w.heap.size v r c N D) (hb:Below w.heap.size w w'):DV w' w'.heap.size v r c N D:=by
 obtain⟨A,ca,A',cd,e,h0,h1,h2⟩:=h;exact⟨A,ca,A',cd,e,h0,h1.step EI16.stable hb,h2.step EU.stable hb⟩
def topD (N:List Int) (k:Nat):Int:=if N=[] then 0 else Int.tmod (N.getD (k % min N.length 60) 0) 50
def lowD (D:List Int) (k:Nat):Int:=if D=[] then 1 else 1+(D.getD (k % min D.length 60) 0) % 6
def numD (N D:List Int) (k:Nat):Rat:=Rat.divInt (topD N k) (lowD D k)
theorem wrap64_eq {x:Int} (h1:-9223372036854775808≤x) (h2:x≤9223372036854775807):wrap64 x=x:=by unfold wrap64;omega
theorem topD_le (N:List Int) (k:Nat):(topD N k).natAbs≤49:=by
 unfold topD
 split
 ·decide
 ·have h:=Int.natAbs_tmod (N.getD (k % min N.length 60) 0) 50;have h2:(N.getD (k % min N.length 60) 0).natAbs % (50:Int).natAbs<50:=Nat.mod_lt _ (by decide)
  omega
theorem lowD_le (D:List Int) (k:Nat):1≤lowD D k∧lowD D k≤6:=by
 unfold lowD
 split
 ·decide
 ·omega
theorem topD_eq {N:List Int} {k t:Nat} (h:t<N.length) (ht:k % min N.length 60=t):topD N k=Int.tmod N[t] 50:=by
 unfold topD;rw[if_neg (fun e=>by subst e;simp at h),ht,List.getD_eq_getElem?_getD,List.getElem?_eq_getElem h,Option.getD_some]
theorem lowD_eq {D:List Int} {k t:Nat} (h:t<D.length) (ht:k % min D.length 60=t):lowD D k=1+D[t] % 6:=by
 unfold lowD;rw[if_neg (fun e=>by subst e;simp at h),ht,List.getD_eq_getElem?_getD,List.getElem?_eq_getElem h,Option.getD_some]
theorem rnumber_any (w:World) (v:Value) (r c:Int) (N D:List Int) (k:Nat) (h:DV w w.heap.size v r c N D) (hk:k≤3000000000) :
  Calls Tryz.prog 63 #[v,.int .i64 (k:Int)] w fun e w'=>Below w.heap.size w w'∧∃ v,e=.returned v∧QV w' w'.heap.size v (numD N D k):=by
 obtain⟨A,ca,A',cd,rfl,h0,hN,hD⟩:=h;have HN:=zz hN;have HD:=zz hD;clear hN hD;have Z2:=zz (topD_le N k);have a3:=zz (lowD_le D k);have hkk:(k:Int)≤3000000000:=by omega
 obtain⟨kz,hkz⟩:∃ z:Int,z=(k:Int):=⟨_,rfl⟩;rw[← hkz];rw[← hkz] at hkk;have d3:=zz hkz;clear hkz;obtain⟨w0,hw0⟩:∃ w0:World,w0=((w.alloc (.cells #[.int .u8 r,.int .u8 c,.slice A N.length ca,.slice A' D.length cd] 25)).alloc (.cells #[.bool false,.slice none 0 0,.bool false,.slice none 0 0] 33)):=⟨_,rfl⟩;have B0:=zz (n2_b hw0);have z0:=n2_z hw0;have Ld:=n2_0 hw0;have Lr4:=n2_1 hw0;go_enter Tryz.func63,Tryz.ntmps63
 go_upto_region 2 with (fail)
 rw[← hw0];clear hw0;by_cases hn:N=[]
 case pos=>
  have S2:=zz (show topD N k=0 from if_pos hn);have hnl:N.length=0:=by rw[hn];rfl
  have hnc:¬ (0:Int)<(N.length:Int):=by omega
  have q2:=Ld.cell 0 rfl;have r2:=Ld.cell 1 rfl;have s2:=Ld.cell 2 rfl;have t2:=Ld.cell 3 rfl;have N3:=Ld.lt;go_upto_region 4 with (fail)
  clear q2 r2 s2 t2 N3;clear hnl hnc hn;by_cases hd:D=[]
  case pos=>
   have R2:=zz (show lowD D k=1 from if_pos hd);have hdl:D.length=0:=by rw[hd];rfl
   have hdc:¬ (0:Int)<(D.length:Int):=by omega
   have u2:=Ld.cell 0 rfl;have v2:=Ld.cell 1 rfl;have w2:=Ld.cell 2 rfl;have x2:=Ld.cell 3 rfl;have O3:=Ld.lt;go_upto_region 6 with (fail)
   clear u2 v2 w2 x2 O3;clear hdl hdc hd;have htl9:(0:Int).natAbs≤49:=by have:=Z2.out;rwa [S2.out] at this
   have hll9:1≤(1:Int)∧(1:Int)≤6:=by have:=a3.out;rwa [R2.out] at this
   have V2:=zz (show Rat.divInt 0 1=numD N D k by unfold numD;rw[S2.out,R2.out]);have T2:=zz (show -9223372036854775808≤(0:Int)∧(0:Int)≤9223372036854775807 by omega);have U2:=zz (show -9223372036854775808≤(1:Int)∧(1:Int)≤9223372036854775807 by omega);have W2:=zz (show(dig (0:Int).natAbs).length≤240000 from Nat.le_trans (dig_len_le.2 (show(0:Int).natAbs<bp 1 by show _<1000000000;omega)) (by decide));have X2:=zz (show(dig (1:Int).natAbs).length≤240000 from Nat.le_trans (dig_len_le.2 (show(1:Int).natAbs<bp 1 by show _<1000000000;omega)) (by decide));have Y2:=zz (show(1:Int)≠0 by omega);clear htl9 hll9;go_wp2_with fail
   refine(ROf_any _ 0 T2.out.1 T2.out.2).mono ?_;rintro e w3 ⟨n2,v,rfl,hv⟩;have B4:=zz n2;have z4:=B4.out.size;have L2:=tr B0 B4;clear n2;obtain⟨n6,d4,l6,c6,rfl,o2⟩:=hv.opened;have y2:=zz o2;clear hv o2;go_wp2_with fail
   refine(ROf_any _ 1 U2.out.1 U2.out.2).mono ?_;rintro e w7 ⟨p2,v,rfl,hv⟩;have B8:=zz p2;have z8:=B8.out.size;have M2:=tr L2 B8;clear p2;obtain⟨n10,R3,l10,c10,rfl,q0⟩:=hv.opened;have e1:=zz q0;clear hv q0;go_wp2_with fail
   have f1:=zz (LV.step y2.out B8.out);refine(RLowest_any _ _ _ 0 1 f1.out e1.out Y2.out (Nat.le_trans W2.out (by decide)) (Nat.le_trans X2.out (by decide))).mono ?_;rintro e w11 ⟨s0,v,rfl,hv⟩;have B13:=zz s0;have z13:=B13.out.size;have z2:=tr M2 B13;clear s0;rw[V2.out] at hv;obtain⟨e3,f3,g3,h3,i3,l0,j3,rfl,ha15,t0,hc15⟩:=hv;have g1:=zz (show QV w11 w11.heap.size (.agg #[.bool e3,.slice f3 g3 h3,.bool false,.slice i3 l0 j3]) (numD N D k) from⟨_,_,_,_,_,_,_,rfl,ha15,t0,hc15⟩);clear ha15 t0 hc15;have P1_3_17:=tr B4 B8;have P1_4_18:=tr P1_3_17 B13;have a0:=CB.step Lr4 P1_4_18.out;have h1:=a0.cell 0 rfl;have i1:=a0.cell 1 rfl;have j1:=a0.cell 2 rfl;have k1:=a0.cell 3 rfl;have k3:=a0.lt;have l1:=a0.frozen 0;have m1:=a0.frozen 1;have n1:=a0.frozen 2;have o1:=a0.frozen 3;have l3:=a0.lt;go_wp2;clear h1 i1 j1 k1 k3 l1 m1 n1 o1 l3;obtain⟨w21,i0⟩:∃ w21:World,w21=((((w11.setCell ⟨w.heap.size+1,0,none⟩ (.bool e3)).setCell ⟨w.heap.size+1,1,none⟩ (.slice f3 g3 h3)).setCell ⟨w.heap.size+1,2,none⟩ (.bool false)).setCell ⟨w.heap.size+1,3,none⟩ (.slice i3 l0 j3)):=⟨_,rfl⟩;rw[← i0];have S21:=zz (p4_s i0 a0 (by simp[noInt_b,noInt_s]));have u0:=p4_p i0 a0;have p1:=zz (p4_b i0 z2.out (by omega));have O2:=p4_z i0;clear i0;have q1:=zz (QV.soft g1.out (S21.out));exact bodyPost_ret (QB.ret1 rfl _ u0 rfl) rfl ⟨p1.out,_,rfl,q1.out⟩
  case neg=>
   have hdl:0<D.length:=List.length_pos_iff.2 hd;clear hd;have hdc:(0:Int)<(D.length:Int):=by omega
   have r1:=Ld.cell 0 rfl;have s1:=Ld.cell 1 rfl;have t1:=Ld.cell 2 rfl;have u1:=Ld.cell 3 rfl;have m3:=Ld.lt;go_upto_region 5 with (fail)
   clear r1 s1 t1 u1 m3;obtain⟨u',hu'⟩:∃ u,min D.length 60=u:=⟨_,rfl⟩;have hu0:0<u'∧u'≤60∧u'≤D.length:=by omega
   obtain⟨t',ht'⟩:∃ t,k % u'=t:=⟨_,rfl⟩;have htu:t'<u':=by rw[← ht'];exact Nat.mod_lt _ hu0.1
   have htl:t'<D.length:=by omega
   obtain⟨g',off',hA,hg,hc,hx'⟩:=SL.one (f:=fun x=>.int .u8 x) (Pr:=fun x=>0≤x∧x≤255) HD.out (fun _ _ _ _ h=>h) htl;subst hA;try simp only at hc hx'
   have R2:=zz (lowD_eq htl (by rw[hu'];exact ht'));generalize D[t']=x' at hc hx' R2;have HC':=zz hc;have HG':=zz hg;clear hc hg;obtain⟨uz,huz⟩:∃ z:Int,z=(u':Int):=⟨_,rfl⟩;have hmu:min (D.length:Int) 60=uz:=by omega
   have htt:Int.tmod kz uz=(t':Int):=by rw[huz,d3.out,← ht'];rfl
   have htw:IntKind.i64.wrap (t':Int)=(t':Int):=by unfold IntKind.wrap;simp only[IntKind.bits,IntKind.signed];simp;omega
   have htb:(0:Int)≤(t':Int)∧(t':Int)<(D.length:Int):=by omega
   have hun:(uz=0)=False:=by simp;omega
   clear huz;obtain⟨y',hy'⟩:∃ y,x' % 6=y:=⟨_,rfl⟩;have hyt:Int.tmod x' 6=y':=by rw[← hy'];exact Int.tmod_eq_emod_of_nonneg hx'.1
   rw[hy'] at R2;have hy6:0≤y'∧y'<6:=by omega
   have hwu82:IntKind.u8.wrap y'=y':=by unfold IntKind.wrap;simp only[IntKind.bits,IntKind.signed];simp;omega
   have hwi642:IntKind.i64.wrap y'=y':=by unfold IntKind.wrap;simp only[IntKind.bits,IntKind.signed];simp;omega
   have hwi648:IntKind.i64.wrap (1+y')=(1+y'):=by unfold IntKind.wrap;simp only[IntKind.bits,IntKind.signed];simp;omega
   refine Sweep.r0 [se 0 27 [] (.pointer (some ⟨w.heap.size,3,none⟩)),se 1 28 [0] (.slice (some ⟨g',off',none⟩) D.length cd),se 2 29 [] (.int .i64 kz),se 3 30 [] (.pointer (some ⟨w.heap.size,3,none⟩)),se 4 31 [3] (.slice (some ⟨g',off',none⟩) D.length cd),se 5 32 [4] (.int .i64 (D.length:Int)),se 6 33 [5] (.int .i64 uz),se 7 34 [2,6] (.int .i64 (t':Int)),se 8 35 [1,7] (.pointer (some ⟨g',off'+t',none⟩)),se 9 36 [8] (.int .u8 x'),se 10 37 [9] (.int .u8 y'),se 11 38 [10] (.int .i64 y'),se 12 39 [11] (.int .i64 (1+y'))] 1 (SC (fun _ h=>(CB.step Ld h).cell 3 rfl) S0) trivial ?_ ?_
   ·intro xs a_ hA;simp only[SX] at hA
    iterate 13 (refine ac ?_ ?_;rotate_left)
    exact all_nil
    all_goals (intro wk hb;simp only[SX,↓reduceIte,Nat.reduceEqDiff,Nat.reduceAdd];have b_:=zz hb;have z_:=hb.size;clear hb;subst hA)
    any_goals (intro f8;intros;(refine wpOp_step (i:=9) (o:=_) rfl (fun K hK=>?_));have P0_2_24:=tr B0 b_;have qv0:=(Below.cell P0_2_24.out (p:=⟨g',off'+t',none⟩) HG'.out).trans HC'.out;go_simp;(refine hK _ _ ⟨.int .u8 x',by simp only[FL,f8] <;> kernel_rfl,Below.refl _ _,rfl⟩))
    any_goals (intros;refine wpOp_step rfl ?_;intro K hK;go_simp;refine hK _ _ ⟨_,?_,Below.refl _ _,rfl⟩;simp only[*,FL] <;> kernel_rfl)
   ·intro xs S3 hbf;simp only[SY];have B26:=zz hbf;have z26:=B26.out.size;have A2:=tr B0 B26;clear hbf;refine EN 13 rfl fun K hK=>?_
    go_simp;refine hK _ _ ?_;clear hK K;(try simp only[PT])
    refine ED ?_;(try simp only[Exit.then])
    clear hmu htt htw htb hun hwu82 hwi642 hwi648;have htl9:(0:Int).natAbs≤49:=by have:=Z2.out;rwa [S2.out] at this
    have hll9:1≤((1+y'):Int)∧((1+y'):Int)≤6:=by have:=a3.out;rwa [R2.out] at this
    have V2:=zz (show Rat.divInt 0 (1+y')=numD N D k by unfold numD;rw[S2.out,R2.out]);have T2:=zz (show -9223372036854775808≤(0:Int)∧(0:Int)≤9223372036854775807 by omega);have U2:=zz (show -9223372036854775808≤((1+y'):Int)∧((1+y'):Int)≤9223372036854775807 by omega);have W2:=zz (show(dig (0:Int).natAbs).length≤240000 from Nat.le_trans (dig_len_le.2 (show(0:Int).natAbs<bp 1 by show _<1000000000;omega)) (by decide));have X2:=zz (show(dig ((1+y'):Int).natAbs).length≤240000 from Nat.le_trans (dig_len_le.2 (show((1+y'):Int).natAbs<bp 1 by show _<1000000000;omega)) (by decide));have Y2:=zz (show((1+y'):Int)≠0 by omega);clear htl9 hll9;go_wp2_with fail
    refine(ROf_any _ 0 T2.out.1 T2.out.2).mono ?_;rintro e w28 ⟨v0,v,rfl,hv⟩;have B29:=zz v0;have z29:=B29.out.size;have B2:=tr A2 B29;clear v0;obtain⟨n31,T3,l31,c31,rfl,x0⟩:=hv.opened;have v1:=zz x0;clear hv x0;go_wp2_with fail
    refine(ROf_any _ (1+y') U2.out.1 U2.out.2).mono ?_;rintro e w32 ⟨y0,v,rfl,hv⟩;have B33:=zz y0;have z33:=B33.out.size;have C2:=tr B2 B33;clear y0;obtain⟨n35,U3,l35,c35,rfl,A0⟩:=hv.opened;have w1:=zz A0;clear hv A0;go_wp2_with fail
    have x1:=zz (LV.step v1.out B33.out);refine(RLowest_any _ _ _ 0 (1+y') x1.out w1.out Y2.out (Nat.le_trans W2.out (by decide)) (Nat.le_trans X2.out (by decide))).mono ?_;rintro e w36 ⟨C0,v,rfl,hv⟩;have B38:=zz C0;have z38:=B38.out.size;have D2:=tr C2 B38;clear C0;rw[V2.out] at hv;obtain⟨n3,o3,p3,q3,r3,m0,s3,rfl,ha40,D0,hc40⟩:=hv;have y1:=zz (show QV w36 w36.heap.size (.agg #[.bool n3,.slice o3 p3 q3,.bool false,.slice r3 m0 s3]) (numD N D k) from⟨_,_,_,_,_,_,_,rfl,ha40,D0,hc40⟩);clear ha40 D0 hc40;have P1_3_42:=tr B26 B29;have P1_4_43:=tr P1_3_42 B33;have P1_5_44:=tr P1_4_43 B38;have b0:=CB.step Lr4 P1_5_44.out;have z1:=b0.cell 0 rfl;have A1:=b0.cell 1 rfl;have B1:=b0.cell 2 rfl;have C1:=b0.cell 3 rfl;have t3:=b0.lt;have D1:=b0.frozen 0;have E1:=b0.frozen 1;have F1:=b0.frozen 2;have G1:=b0.frozen 3;have u3:=b0.lt;go_wp2;clear z1 A1 B1 C1 t3 D1 E1 F1 G1 u3;obtain⟨w47,j0⟩:∃ w47:World,w47=((((w36.setCell ⟨w.heap.size+1,0,none⟩ (.bool n3)).setCell ⟨w.heap.size+1,1,none⟩ (.slice o3 p3 q3)).setCell ⟨w.heap.size+1,2,none⟩ (.bool false)).setCell ⟨w.heap.size+1,3,none⟩ (.slice r3 m0 s3)):=⟨_,rfl⟩;rw[← j0];have S47:=zz (p4_s j0 b0 (by simp[noInt_b,noInt_s]));have E0:=p4_p j0 b0;have H1:=zz (p4_b j0 D2.out (by omega));have P2:=p4_z j0;clear j0;have I1:=zz (QV.soft y1.out (S47.out));exact bodyPost_ret (QB.ret1 rfl _ E0 rfl) rfl ⟨H1.out,_,rfl,I1.out⟩
 case neg=>
  have hnl:0<N.length:=List.length_pos_iff.2 hn;clear hn;have hnc:(0:Int)<(N.length:Int):=by omega
  have J1:=Ld.cell 0 rfl;have K1:=Ld.cell 1 rfl;have L1:=Ld.cell 2 rfl;have M1:=Ld.cell 3 rfl;have v3:=Ld.lt;go_upto_region 3 with (fail)
  clear J1 K1 L1 M1 v3;obtain⟨u,hu⟩:∃ u,min N.length 60=u:=⟨_,rfl⟩;have hu0:0<u∧u≤60∧u≤N.length:=by omega
  obtain⟨t,ht⟩:∃ t,k % u=t:=⟨_,rfl⟩;have htu:t<u:=by rw[← ht];exact Nat.mod_lt _ hu0.1
  have htl:t<N.length:=by omega
  obtain⟨g,off,hA,hg,hc,hx⟩:=SL.one (f:=fun x=>.int .i16 x) (Pr:=fun x=>-32768≤x∧x≤32767) HN.out (fun _ _ _ _ h=>h) htl;subst hA;try simp only at hc hx
  have S2:=zz (topD_eq htl (by rw[hu];exact ht));generalize N[t]=x at hc hx S2;have HC:=zz hc;have HG:=zz hg;clear hc hg;obtain⟨uz,huz⟩:∃ z:Int,z=(u:Int):=⟨_,rfl⟩;have hmu:min (N.length:Int) 60=uz:=by omega
  have htt:Int.tmod kz uz=(t:Int):=by rw[huz,d3.out,← ht];rfl
  have htw:IntKind.i64.wrap (t:Int)=(t:Int):=by unfold IntKind.wrap;simp only[IntKind.bits,IntKind.signed];simp;omega
  have htb:(0:Int)≤(t:Int)∧(t:Int)<(N.length:Int):=by omega
  have hun:(uz=0)=False:=by simp;omega
  clear huz;have h50:=Int.natAbs_tmod x 50;have h51:x.natAbs % (50:Int).natAbs<50:=Nat.mod_lt _ (by decide);obtain⟨y,hy⟩:∃ y,Int.tmod x 50=y:=⟨_,rfl⟩;rw[hy] at S2 h50;have hwi16:IntKind.i16.wrap y=y:=by unfold IntKind.wrap;simp only[IntKind.bits,IntKind.signed];simp;omega
  have hwi64:IntKind.i64.wrap y=y:=by unfold IntKind.wrap;simp only[IntKind.bits,IntKind.signed];simp;omega
  refine Sweep.r0 [se 0 11 [] (.pointer (some ⟨w.heap.size,2,none⟩)),se 1 12 [0] (.slice (some ⟨g,off,none⟩) N.length ca),se 2 13 [] (.int .i64 kz),se 3 14 [] (.pointer (some ⟨w.heap.size,2,none⟩)),se 4 15 [3] (.slice (some ⟨g,off,none⟩) N.length ca),se 5 16 [4] (.int .i64 (N.length:Int)),se 6 17 [5] (.int .i64 uz),se 7 18 [2,6] (.int .i64 (t:Int)),se 8 19 [1,7] (.pointer (some ⟨g,off+t,none⟩)),se 9 20 [8] (.int .i16 x),se 10 21 [9] (.int .i16 y),se 11 22 [10] (.int .i64 y)] 1 (SC (fun _ h=>(CB.step Ld h).cell 2 rfl) S0) trivial ?_ ?_
  ·intro xs a_ hA;simp only[SX] at hA
   iterate 12 (refine ac ?_ ?_;rotate_left)
   exact all_nil
   all_goals (intro wk hb;simp only[SX,↓reduceIte,Nat.reduceEqDiff,Nat.reduceAdd];have b_:=zz hb;have z_:=hb.size;clear hb;subst hA)
   any_goals (intro f8;intros;(refine wpOp_step (i:=9) (o:=_) rfl (fun K hK=>?_));have P0_2_50:=tr B0 b_;have qv0:=(Below.cell P0_2_50.out (p:=⟨g,off+t,none⟩) HG.out).trans HC.out;go_simp;(refine hK _ _ ⟨.int .i16 x,by simp only[FL,f8] <;> kernel_rfl,Below.refl _ _,rfl⟩))
   any_goals (intros;refine wpOp_step rfl ?_;intro K hK;go_simp;refine hK _ _ ⟨_,?_,Below.refl _ _,rfl⟩;simp only[*,FL] <;> kernel_rfl)
  ·intro xs X3 hbf;simp only[SY];have B52:=zz hbf;have z52:=B52.out.size;have F0:=tr B0 B52;clear hbf;refine EN 12 rfl fun K hK=>?_
   go_simp;refine hK _ _ ?_;clear hK K;(try simp only[PT])
   refine ED ?_;(try simp only[Exit.then])
   clear hmu htt htw htb hun hwi16 hwi64;by_cases hd:D=[]
   case pos=>
    have R2:=zz (show lowD D k=1 from if_pos hd);have hdl:D.length=0:=by rw[hd];rfl
    have hdc:¬ (0:Int)<(D.length:Int):=by omega
    have g0:=CB.step Ld B52.out;have N1:=g0.cell 0 rfl;have O1:=g0.cell 1 rfl;have P1:=g0.cell 2 rfl;have Q1:=g0.cell 3 rfl;have x3:=g0.lt;go_upto_region 6 with (fail)
    clear N1 O1 P1 Q1 x3;clear hdl hdc hd;have htl9:(y:Int).natAbs≤49:=by have:=Z2.out;rwa [S2.out] at this
    have hll9:1≤(1:Int)∧(1:Int)≤6:=by have:=a3.out;rwa [R2.out] at this
    have V2:=zz (show Rat.divInt y 1=numD N D k by unfold numD;rw[S2.out,R2.out]);have T2:=zz (show -9223372036854775808≤(y:Int)∧(y:Int)≤9223372036854775807 by omega);have U2:=zz (show -9223372036854775808≤(1:Int)∧(1:Int)≤9223372036854775807 by omega);have W2:=zz (show(dig (y:Int).natAbs).length≤240000 from Nat.le_trans (dig_len_le.2 (show(y:Int).natAbs<bp 1 by show _<1000000000;omega)) (by decide));have X2:=zz (show(dig (1:Int).natAbs).length≤240000 from Nat.le_trans (dig_len_le.2 (show(1:Int).natAbs<bp 1 by show _<1000000000;omega)) (by decide));have Y2:=zz (show(1:Int)≠0 by omega);clear htl9 hll9;go_wp2_with fail
    refine(ROf_any _ y T2.out.1 T2.out.2).mono ?_;rintro e w56 ⟨G0,v,rfl,hv⟩;have B57:=zz G0;have z57:=B57.out.size;have E2:=tr F0 B57;clear G0;obtain⟨n59,Y3,l59,c59,rfl,H0⟩:=hv.opened;have R1:=zz H0;clear hv H0;go_wp2_with fail
    refine(ROf_any _ 1 U2.out.1 U2.out.2).mono ?_;rintro e w60 ⟨I0,v,rfl,hv⟩;have B61:=zz I0;have z61:=B61.out.size;have F2:=tr E2 B61;clear I0;obtain⟨n63,Z3,l63,c63,rfl,J0⟩:=hv.opened;have S1:=zz J0;clear hv J0;go_wp2_with fail
    have T1:=zz (LV.step R1.out B61.out);refine(RLowest_any _ _ _ y 1 T1.out S1.out Y2.out (Nat.le_trans W2.out (by decide)) (Nat.le_trans X2.out (by decide))).mono ?_;rintro e w64 ⟨K0,v,rfl,hv⟩;have B66:=zz K0;have z66:=B66.out.size;have G2:=tr F2 B66;clear K0;rw[V2.out] at hv;obtain⟨y3,z3,A3,B3,C3,n0,D3,rfl,ha68,L0,hc68⟩:=hv;have U1:=zz (show QV w64 w64.heap.size (.agg #[.bool y3,.slice z3 A3 B3,.bool false,.slice C3 n0 D3]) (numD N D k) from⟨_,_,_,_,_,_,_,rfl,ha68,L0,hc68⟩);clear ha68 L0 hc68;have P1_3_70:=tr B52 B57;have P1_4_71:=tr P1_3_70 B61;have P1_5_72:=tr P1_4_71 B66;have c0:=CB.step Lr4 P1_5_72.out;have V1:=c0.cell 0 rfl;have W1:=c0.cell 1 rfl;have X1:=c0.cell 2 rfl;have Y1:=c0.cell 3 rfl;have E3:=c0.lt;have Z1:=c0.frozen 0;have a2:=c0.frozen 1;have b2:=c0.frozen 2;have c2:=c0.frozen 3;have F3:=c0.lt;go_wp2;clear V1 W1 X1 Y1 E3 Z1 a2 b2 c2 F3;obtain⟨w75,k0⟩:∃ w75:World,w75=((((w64.setCell ⟨w.heap.size+1,0,none⟩ (.bool y3)).setCell ⟨w.heap.size+1,1,none⟩ (.slice z3 A3 B3)).setCell ⟨w.heap.size+1,2,none⟩ (.bool false)).setCell ⟨w.heap.size+1,3,none⟩ (.slice C3 n0 D3)):=⟨_,rfl⟩;rw[← k0];have S75:=zz (p4_s k0 c0 (by simp[noInt_b,noInt_s]));have M0:=p4_p k0 c0;have d2:=zz (p4_b k0 G2.out (by omega));have Q2:=p4_z k0;clear k0;have e2:=zz (QV.soft U1.out (S75.out));exact bodyPost_ret (QB.ret1 rfl _ M0 rfl) rfl ⟨d2.out,_,rfl,e2.out⟩
   case neg=>
    have hdl:0<D.length:=List.length_pos_iff.2 hd;clear hd;have hdc:(0:Int)<(D.length:Int):=by omega
    have e0:=CB.step Ld B52.out;have f2:=e0.cell 0 rfl;have g2:=e0.cell 1 rfl;have h2:=e0.cell 2 rfl;have i2:=e0.cell 3 rfl;have G3:=e0.lt;go_upto_region 5 with (fail)
    clear f2 g2 h2 i2 G3;obtain⟨u',hu'⟩:∃ u,min D.length 60=u:=⟨_,rfl⟩;have hu0:0<u'∧u'≤60∧u'≤D.length:=by omega
    obtain⟨t',ht'⟩:∃ t,k % u'=t:=⟨_,rfl⟩;have htu:t'<u':=by rw[← ht'];exact Nat.mod_lt _ hu0.1
    have htl:t'<D.length:=by omega
    obtain⟨g',off',hA,hg,hc,hx'⟩:=SL.one (f:=fun x=>.int .u8 x) (Pr:=fun x=>0≤x∧x≤255) HD.out (fun _ _ _ _ h=>h) htl;subst hA;try simp only at hc hx'
    have R2:=zz (lowD_eq htl (by rw[hu'];exact ht'));generalize D[t']=x' at hc hx' R2;have HC':=zz hc;have HG':=zz hg;clear hc hg;obtain⟨uz,huz⟩:∃ z:Int,z=(u':Int):=⟨_,rfl⟩;have hmu:min (D.length:Int) 60=uz:=by omega
    have htt:Int.tmod kz uz=(t':Int):=by rw[huz,d3.out,← ht'];rfl
    have htw:IntKind.i64.wrap (t':Int)=(t':Int):=by unfold IntKind.wrap;simp only[IntKind.bits,IntKind.signed];simp;omega
    have htb:(0:Int)≤(t':Int)∧(t':Int)<(D.length:Int):=by omega
    have hun:(uz=0)=False:=by simp;omega
    clear huz;obtain⟨y',hy'⟩:∃ y,x' % 6=y:=⟨_,rfl⟩;have hyt:Int.tmod x' 6=y':=by rw[← hy'];exact Int.tmod_eq_emod_of_nonneg hx'.1
    rw[hy'] at R2;have hy6:0≤y'∧y'<6:=by omega
    have hwu82:IntKind.u8.wrap y'=y':=by unfold IntKind.wrap;simp only[IntKind.bits,IntKind.signed];simp;omega
    have hwi642:IntKind.i64.wrap y'=y':=by unfold IntKind.wrap;simp only[IntKind.bits,IntKind.signed];simp;omega
    have hwi648:IntKind.i64.wrap (1+y')=(1+y'):=by unfold IntKind.wrap;simp only[IntKind.bits,IntKind.signed];simp;omega
    refine Sweep.r0 [se 0 27 [] (.pointer (some ⟨w.heap.size,3,none⟩)),se 1 28 [0] (.slice (some ⟨g',off',none⟩) D.length cd),se 2 29 [] (.int .i64 kz),se 3 30 [] (.pointer (some ⟨w.heap.size,3,none⟩)),se 4 31 [3] (.slice (some ⟨g',off',none⟩) D.length cd),se 5 32 [4] (.int .i64 (D.length:Int)),se 6 33 [5] (.int .i64 uz),se 7 34 [2,6] (.int .i64 (t':Int)),se 8 35 [1,7] (.pointer (some ⟨g',off'+t',none⟩)),se 9 36 [8] (.int .u8 x'),se 10 37 [9] (.int .u8 y'),se 11 38 [10] (.int .i64 y'),se 12 39 [11] (.int .i64 (1+y'))] 1 (SC (fun _ h=>(CB.step e0 h).cell 3 rfl) S0) trivial ?_ ?_
    ·intro xs a_ hA;simp only[SX] at hA
     iterate 13 (refine ac ?_ ?_;rotate_left)
     exact all_nil
     all_goals (intro wk hb;simp only[SX,↓reduceIte,Nat.reduceEqDiff,Nat.reduceAdd];have b_:=zz hb;have z_:=hb.size;clear hb;subst hA)
     any_goals (intro f8;intros;(refine wpOp_step (i:=9) (o:=_) rfl (fun K hK=>?_));have P0_2_79:=tr B0 B52;have P0_3_80:=tr P0_2_79 b_;have qv0:=(Below.cell P0_3_80.out (p:=⟨g',off'+t',none⟩) HG'.out).trans HC'.out;go_simp;(refine hK _ _ ⟨.int .u8 x',by simp only[FL,f8] <;> kernel_rfl,Below.refl _ _,rfl⟩))
     any_goals (intros;refine wpOp_step rfl ?_;intro K hK;go_simp;refine hK _ _ ⟨_,?_,Below.refl _ _,rfl⟩;simp only[*,FL] <;> kernel_rfl)
    ·intro xs a4 hbf;simp only[SY];have B82:=zz hbf;have z82:=B82.out.size;have H2:=tr F0 B82;clear hbf;refine EN 13 rfl fun K hK=>?_
     go_simp;refine hK _ _ ?_;clear hK K;(try simp only[PT])
     refine ED ?_;(try simp only[Exit.then])
     clear hmu htt htw htb hun hwu82 hwi642 hwi648;have htl9:(y:Int).natAbs≤49:=by have:=Z2.out;rwa [S2.out] at this
     have hll9:1≤((1+y'):Int)∧((1+y'):Int)≤6:=by have:=a3.out;rwa [R2.out] at this
     have V2:=zz (show Rat.divInt y (1+y')=numD N D k by unfold numD;rw[S2.out,R2.out]);have T2:=zz (show -9223372036854775808≤(y:Int)∧(y:Int)≤9223372036854775807 by omega);have U2:=zz (show -9223372036854775808≤((1+y'):Int)∧((1+y'):Int)≤9223372036854775807 by omega);have W2:=zz (show(dig (y:Int).natAbs).length≤240000 from Nat.le_trans (dig_len_le.2 (show(y:Int).natAbs<bp 1 by show _<1000000000;omega)) (by decide));have X2:=zz (show(dig ((1+y'):Int).natAbs).length≤240000 from Nat.le_trans (dig_len_le.2 (show((1+y'):Int).natAbs<bp 1 by show _<1000000000;omega)) (by decide));have Y2:=zz (show((1+y'):Int)≠0 by omega);clear htl9 hll9;go_wp2_with fail
     refine(ROf_any _ y T2.out.1 T2.out.2).mono ?_;rintro e w84 ⟨N0,v,rfl,hv⟩;have B85:=zz N0;have z85:=B85.out.size;have I2:=tr H2 B85;clear N0;obtain⟨n87,b4,l87,c87,rfl,O0⟩:=hv.opened;have j2:=zz O0;clear hv O0;go_wp2_with fail
     refine(ROf_any _ (1+y') U2.out.1 U2.out.2).mono ?_;rintro e w88 ⟨P0,v,rfl,hv⟩;have B89:=zz P0;have z89:=B89.out.size;have J2:=tr I2 B89;clear P0;obtain⟨n91,c4,l91,c91,rfl,Q0⟩:=hv.opened;have k2:=zz Q0;clear hv Q0;go_wp2_with fail
     have l2:=zz (LV.step j2.out B89.out);refine(RLowest_any _ _ _ y (1+y') l2.out k2.out Y2.out (Nat.le_trans W2.out (by decide)) (Nat.le_trans X2.out (by decide))).mono ?_;rintro e w92 ⟨R0,v,rfl,hv⟩;have B94:=zz R0;have z94:=B94.out.size;have K2:=tr J2 B94;clear R0;rw[V2.out] at hv;obtain⟨H3,I3,J3,K3,L3,o0,M3,rfl,ha96,T0,hc96⟩:=hv;have m2:=zz (show QV w92 w92.heap.size (.agg #[.bool H3,.slice I3 J3 K3,.bool false,.slice L3 o0 M3]) (numD N D k) from⟨_,_,_,_,_,_,_,rfl,ha96,T0,hc96⟩);clear ha96 T0 hc96;have P1_3_98:=tr B52 B82;have P1_4_99:=tr P1_3_98 B85;have P1_5_100:=tr P1_4_99 B89;have P1_6_101:=tr P1_5_100 B94;have d0:=CB.step Lr4 P1_6_101.out;have U0:=d0.cell 0 rfl;have V0:=d0.cell 1 rfl;have W0:=d0.cell 2 rfl;have X0:=d0.cell 3 rfl;have b3:=d0.lt;have Y0:=d0.frozen 0;have Z0:=d0.frozen 1;have a1:=d0.frozen 2;have b1:=d0.frozen 3;have c3:=d0.lt;go_wp2;clear U0 V0 W0 X0 b3 Y0 Z0 a1 b1 c3;obtain⟨w104,f0⟩:∃ w104:World,w104=((((w92.setCell ⟨w.heap.size+1,0,none⟩ (.bool H3)).setCell ⟨w.heap.size+1,1,none⟩ (.slice I3 J3 K3)).setCell ⟨w.heap.size+1,2,none⟩ (.bool false)).setCell ⟨w.heap.size+1,3,none⟩ (.slice L3 o0 M3)):=⟨_,rfl⟩;rw[← f0];have S104:=zz (p4_s f0 d0 (by simp[noInt_b,noInt_s]));have p0:=p4_p f0 d0;have c1:=zz (p4_b f0 K2.out (by omega));have N2:=p4_z f0;clear f0;have d1:=zz (QV.soft m2.out (S104.out));exact bodyPost_ret (QB.ret1 rfl _ p0 rfl) rfl ⟨c1.out,_,rfl,d1.out⟩
end Go.Proofs.YtdigbofiebfkeaaGreatDoor
