/- Layer 35, the reference's drafts. -/
import Derived.Test.YtencnahjgbdeoaaGreatDoorQR
import Derived.Test.YtencnahjgbdeoaaGreatDoorLa1
namespace Go.Proofs.YtencnahjgbdeoaaGreatDoor
open Go Go.RowKit Dig
set_option maxRecDepth 100000
set_option maxHeartbeats 4000000
set_option linter.unusedSimpArgs false
def EI16:Elem Int:=fun _ _ cs x=>cs=[.int .i16 x]∧-32768≤x∧x≤32767
def EU:Elem Int:=fun _ _ cs x=>cs=[.int .u8 x]∧0≤x∧x≤255
theorem EI16.stable:Elem.Stable EI16:=⟨fun h _=>h,fun h _=>h⟩
theorem EU.stable:Elem.Stable EU:=⟨fun h _=>h,fun h _=>h⟩
theorem SL.one {w:World} {B:Nat} {A:Option Addr} {n c j:Nat} {l:List Int} {E:Elem Int} {f:Int→Value} {Pr:Int→Prop} (h:SL 1 E w B (.slice A n c) l) (hE:∀ w B cs x,E w B cs x→cs=[f x]∧Pr x) (hj:j<l.length):∃ g off,A=some ⟨g,off,none⟩∧g<B∧w.cell? ⟨g,off+j,none⟩=some (f l[j])∧Pr l[j]:=by
 obtain⟨A',c',he,h1,h2,h3⟩:=h;injection he with e1 e2 e3
 subst e1;subst e2;subst e3;obtain⟨g,off,rfl,hg,hx⟩:=h3 (by omega);obtain⟨cs,e1,e2,e3⟩:=hx j hj;obtain⟨rfl,e4⟩:=hE _ _ _ _ e3;have:=e2 0 _ rfl;rw[aGd,aJi] at this;exact⟨g,off,rfl,hg,this,e4⟩
def DV (w:World) (B:Nat) (v:Value) (r c:Int) (N D:List Int):Prop:=∃ A ca A' cd,v=.agg #[.int .u8 r,.int .u8 c,.slice A N.length ca,.slice A' D.length cd]∧(0≤r∧r≤255∧0≤c∧c≤255)∧SL 1 EI16 w B (.slice A N.length ca) N∧SL 1 EU w B (.slice A' D.length cd) D
theorem DV.step {w w':World} {v:Value} {r c:Int} {N D:List Int} (h:DV w w.heap.size v r c N D) (hb:Below w.heap.size w w'):DV w' w'.heap.size v r c N D:=by
 obtain⟨A,ca,A',cd,e,h0,h1,h2⟩:=h;exact⟨A,ca,A',cd,e,h0,h1.step EI16.stable hb,h2.step EU.stable hb⟩
def PH (N:List Int) (k:Nat):Int:=if N=[] then 0 else Int.tmod (N.getD (k % min N.length 60) 0) 50
def xR (D:List Int) (k:Nat):Int:=if D=[] then 1 else 1+(D.getD (k % min D.length 60) 0) % 6
def cQ (N D:List Int) (k:Nat):Rat:=Rat.divInt (PH N k) (xR D k)
theorem lE {x:Int} (h1:-9223372036854775808≤x) (h2:x≤9223372036854775807):wrap64 x=x:=by unfold wrap64;omega
theorem NI (N:List Int) (k:Nat):(PH N k).natAbs≤49:=by
 unfold PH
 split
 ·decide
 ·have h:=aKj (N.getD (k % min N.length 60) 0) 50;have h2:(N.getD (k % min N.length 60) 0).natAbs % (50:Int).natAbs<50:=aGp _ (by decide)
  omega
theorem OE (D:List Int) (k:Nat):1≤xR D k∧xR D k≤6:=by
 unfold xR
 split
 ·decide
 ·omega
theorem YM {N:List Int} {k t:Nat} (h:t<N.length) (ht:k % min N.length 60=t):PH N k=Int.tmod N[t] 50:=by
 unfold PH;rw[aEu (fun e=>by subst e;simp at h),ht,aEi,aEh h,aIw]
theorem OF {D:List Int} {k t:Nat} (h:t<D.length) (ht:k % min D.length 60=t):xR D k=1+D[t] % 6:=by
 unfold xR;rw[aEu (fun e=>by subst e;simp at h),ht,aEi,aEh h,aIw]
theorem tQ (w:World) (v:Value) (r c:Int) (N D:List Int) (k:Nat) (h:DV w w.heap.size v r c N D) (hk:k≤3000000000) :
  CV 128 #[v,.int .i64 (k:Int)] w fun e w'=>∃ v,e=.returned v∧QV w' w'.heap.size v (cQ N D k):=by
 obtain⟨A,ca,A',cd,rfl,h0,hN,hD⟩:=h;have HN:=zz hN;have HD:=zz hD;clear hN hD;have Z2:=zz (NI N k);have a3:=zz (OE D k);have hkk:(k:Int)≤3000000000:=by omega
 obtain⟨kz,hkz⟩:∃ z:Int,z=(k:Int):=⟨_,rfl⟩;rw[← hkz];rw[← hkz] at hkk;have d3:=zz hkz;clear hkz;obtain⟨w0,hw0⟩:=ex ((w.alloc (.cells #[.int .u8 r,.int .u8 c,.slice A N.length ca,.slice A' D.length cd] 34)).alloc (.cells #[.bool false,.slice none 0 0,.bool false,.slice none 0 0] 28));have B0:=zz (pK hw0);have z0:=pJ hw0;have Ld:=pM hw0;have Lr4:=pL hw0;go_enter Tryz.func128,Tryz.ntmps128
 go_upto_region 2 with (fail)
 rw[← hw0];clear hw0;by_cases hn:N=[]
 case pos=>
  have S2:=zz (show PH N k=0 from aEv hn);have hnl:N.length=0:=by rw[hn];rfl
  have hnc:¬ (0:Int)<(N.length:Int):=by omega
  have q2:=cz4 Ld;go_upto_region 4 with (fail)
  clear q2;clear hnl hnc hn;by_cases hd:D=[]
  case pos=>
   have R2:=zz (show xR D k=1 from aEv hd);have hdl:D.length=0:=by rw[hd];rfl
   have hdc:¬ (0:Int)<(D.length:Int):=by omega
   have u2:=cz4 Ld;go_upto_region 6 with (fail)
   clear u2;clear hdl hdc hd;have htl9:(0:Int).natAbs≤49:=by have:=Z2.o;rwa [S2.o] at this
   have hll9:1≤(1:Int)∧(1:Int)≤6:=by have:=a3.o;rwa [R2.o] at this
   have V2:=zz (show Rat.divInt 0 1=cQ N D k by unfold cQ;rw[S2.o,R2.o]);have T2:=zz (show -9223372036854775808≤(0:Int)∧(0:Int)≤9223372036854775807 by omega);have U2:=zz (show -9223372036854775808≤(1:Int)∧(1:Int)≤9223372036854775807 by omega);have W2:=zz (show(dig (0:Int).natAbs).length≤240000 from aEg (aU.2 (show(0:Int).natAbs<bp 1 by show _<1000000000;omega)) (by decide));have X2:=zz (show(dig (1:Int).natAbs).length≤240000 from aEg (aU.2 (show(1:Int).natAbs<bp 1 by show _<1000000000;omega)) (by decide));have Y2:=zz (show(1:Int)≠0 by omega);clear htl9 hll9;go_wp2_with fail
   refine(nx B0 (gL _ 0 T2.o.1 T2.o.2)).mono ?_;rintro e w3 ⟨⟨B4,z4,L2⟩,v,rfl,hv⟩;obtain⟨n6,d4,l6,c6,rfl,o2⟩:=hv.opened;have y2:=zz o2;clear hv o2;go_wp2_with fail
   refine(nx L2 (gL _ 1 U2.o.1 U2.o.2)).mono ?_;rintro e w7 ⟨⟨B8,z8,M2⟩,v,rfl,hv⟩;obtain⟨n10,R3,l10,c10,rfl,q0⟩:=hv.opened;have e1:=zz q0;clear hv q0;go_wp2_with fail
   have f1:=st aFu y2 B8;refine(nx M2 (fD _ _ _ 0 1 f1.o e1.o Y2.o (aEg W2.o (by decide)) (aEg X2.o (by decide)))).mono ?_;rintro e w11 ⟨⟨B13,z13,z2⟩,v,rfl,hv⟩;rw[V2.o] at hv;obtain⟨e3,f3,g3,h3,i3,l0,j3,rfl,ha15,t0,hc15⟩:=hv;have g1:=zz (show QV w11 w11.heap.size (.agg #[.bool e3,.slice f3 g3 h3,.bool false,.slice i3 l0 j3]) (cQ N D k) from⟨_,_,_,_,_,_,_,rfl,ha15,t0,hc15⟩);clear ha15 t0 hc15;have P3:=tr B4 B8;have W3:=tr P3 B13;have a0:=aEd Lr4 W3.o;have h1:=cz4 a0;have l1:=fz4 a0;go_wp2;clear h1 l1;obtain⟨w21,i0⟩:=ex ((((w11.setCell ⟨w.heap.size+1,0,none⟩ (.bool e3)).setCell ⟨w.heap.size+1,1,none⟩ (.slice f3 g3 h3)).setCell ⟨w.heap.size+1,2,none⟩ (.bool false)).setCell ⟨w.heap.size+1,3,none⟩ (.slice i3 l0 j3));rw[← i0];have S21:=zz (oU i0 a0 (by simp[aF,aE]));have u0:=oV i0 a0;have p1:=zz (oW i0 z2.o (by omega));have O2:=oT i0;clear i0;have q1:=zz (aKv g1.o (S21.o));exact aFv (aMw rfl _ u0 rfl) rfl ⟨p1.o,_,rfl,q1.o⟩
  case neg=>
   have hdl:0<D.length:=aHh.2 hd;clear hd;have hdc:(0:Int)<(D.length:Int):=by omega
   have r1:=cz4 Ld;go_upto_region 5 with (fail)
   clear r1;obtain⟨u',hu'⟩:∃ u,min D.length 60=u:=⟨_,rfl⟩;have hu0:0<u'∧u'≤60∧u'≤D.length:=by omega
   obtain⟨t',ht'⟩:∃ t,k % u'=t:=⟨_,rfl⟩;have htu:t'<u':=by rw[← ht'];exact aGp _ hu0.1
   have htl:t'<D.length:=by omega
   obtain⟨g',off',hA,hg,hc,hx'⟩:=SL.one (f:=fun x=>.int .u8 x) (Pr:=fun x=>0≤x∧x≤255) HD.o (fun _ _ _ _ h=>h) htl;subst hA;try simp only at hc hx'
   have R2:=zz (OF htl (by rw[hu'];exact ht'));generalize D[t']=x' at hc hx' R2;have HC':=zz hc;have HG':=zz hg;clear hc hg;obtain⟨uz,huz⟩:∃ z:Int,z=(u':Int):=⟨_,rfl⟩;have hmu:min (D.length:Int) 60=uz:=by omega
   have htt:Int.tmod kz uz=(t':Int):=by rw[huz,d3.o,← ht'];rfl
   have htw:IntKind.i64.wrap (t':Int)=(t':Int):=by unfold IntKind.wrap;simp only[IntKind.bits,IntKind.signed];simp;omega
   have htb:(0:Int)≤(t':Int)∧(t':Int)<(D.length:Int):=by omega
   have hun:(uz=0)=False:=by simp;omega
   clear huz;obtain⟨y',hy'⟩:∃ y,x' % 6=y:=⟨_,rfl⟩;have hyt:Int.tmod x' 6=y':=by rw[← hy'];exact aJb hx'.1
   rw[hy'] at R2;have hy6:0≤y'∧y'<6:=by omega
   have hwu82:IntKind.u8.wrap y'=y':=by unfold IntKind.wrap;simp only[IntKind.bits,IntKind.signed];simp;omega
   have hwi642:IntKind.i64.wrap y'=y':=by unfold IntKind.wrap;simp only[IntKind.bits,IntKind.signed];simp;omega
   have hwi648:IntKind.i64.wrap (1+y')=(1+y'):=by unfold IntKind.wrap;simp only[IntKind.bits,IntKind.signed];simp;omega
   refine aFq [se 0 27 [] (.pointer (some ⟨w.heap.size,3,none⟩)),se 1 28 [0] (.slice (some ⟨g',off',none⟩) D.length cd),se 2 29 [] (.int .i64 kz),se 3 30 [] (.pointer (some ⟨w.heap.size,3,none⟩)),se 4 31 [3] (.slice (some ⟨g',off',none⟩) D.length cd),se 5 32 [4] (.int .i64 (D.length:Int)),se 6 33 [5] (.int .i64 uz),se 7 34 [2,6] (.int .i64 (t':Int)),se 8 35 [1,7] (.pointer (some ⟨g',off'+t',none⟩)),se 9 36 [8] (.int .u8 x'),se 10 37 [9] (.int .u8 y'),se 11 38 [10] (.int .i64 y'),se 12 39 [11] (.int .i64 (1+y'))] 1 (SC (v:=.slice (some ⟨g',off',none⟩) D.length cd) (fun _ h=>(aEd Ld h).cell 3 rfl) S0) aFi ?_ ?_
   ·intro xs a_ hA;simp only[SX,↓reduceIte,Nat.reduceEqDiff,Nat.reduceAdd] at hA⊢;subst hA;and_intros
    all_goals intro wk b_ z_
    any_goals (intro f8;intros;(refine aDz (i:=9) (o:=_) rfl (fun K hK=>?_));have Q3:=tr B0 b_;have qv0:=(aGn Q3.o (p:=⟨g',off'+t',none⟩) HG'.o).trans HC'.o;go_simp;(refine hK _ _ ⟨_,by simp only[FL,f8] <;> kernel_rfl,aDy _ _,rfl⟩))
    all_goals try exact pl
   ·intro xs S3 B26 z26;simp only[SY];have A2:=tr B0 B26;refine EN 13 rfl fun K hK=>?_
    go_simp;refine hK _ _ ?_;clear hK K;(try simp only[PT])
    refine ED ?_;(try simp only[Exit.then])
    clear hmu htt htw htb hun hwu82 hwi642 hwi648;have htl9:(0:Int).natAbs≤49:=by have:=Z2.o;rwa [S2.o] at this
    have hll9:1≤((1+y'):Int)∧((1+y'):Int)≤6:=by have:=a3.o;rwa [R2.o] at this
    have V2:=zz (show Rat.divInt 0 (1+y')=cQ N D k by unfold cQ;rw[S2.o,R2.o]);have T2:=zz (show -9223372036854775808≤(0:Int)∧(0:Int)≤9223372036854775807 by omega);have U2:=zz (show -9223372036854775808≤((1+y'):Int)∧((1+y'):Int)≤9223372036854775807 by omega);have W2:=zz (show(dig (0:Int).natAbs).length≤240000 from aEg (aU.2 (show(0:Int).natAbs<bp 1 by show _<1000000000;omega)) (by decide));have X2:=zz (show(dig ((1+y'):Int).natAbs).length≤240000 from aEg (aU.2 (show((1+y'):Int).natAbs<bp 1 by show _<1000000000;omega)) (by decide));have Y2:=zz (show((1+y'):Int)≠0 by omega);clear htl9 hll9;go_wp2_with fail
    refine(nx A2 (gL _ 0 T2.o.1 T2.o.2)).mono ?_;rintro e w28 ⟨⟨B29,z29,B2⟩,v,rfl,hv⟩;obtain⟨n31,T3,l31,c31,rfl,x0⟩:=hv.opened;have v1:=zz x0;clear hv x0;go_wp2_with fail
    refine(nx B2 (gL _ (1+y') U2.o.1 U2.o.2)).mono ?_;rintro e w32 ⟨⟨B33,z33,C2⟩,v,rfl,hv⟩;obtain⟨n35,U3,l35,c35,rfl,A0⟩:=hv.opened;have w1:=zz A0;clear hv A0;go_wp2_with fail
    have x1:=st aFu v1 B33;refine(nx C2 (fD _ _ _ 0 (1+y') x1.o w1.o Y2.o (aEg W2.o (by decide)) (aEg X2.o (by decide)))).mono ?_;rintro e w36 ⟨⟨B38,z38,D2⟩,v,rfl,hv⟩;rw[V2.o] at hv;obtain⟨n3,o3,p3,q3,r3,m0,s3,rfl,ha40,D0,hc40⟩:=hv;have y1:=zz (show QV w36 w36.heap.size (.agg #[.bool n3,.slice o3 p3 q3,.bool false,.slice r3 m0 s3]) (cQ N D k) from⟨_,_,_,_,_,_,_,rfl,ha40,D0,hc40⟩);clear ha40 D0 hc40;have P4:=tr B26 B29;have W4:=tr P4 B33;have Y4:=tr W4 B38;have b0:=aEd Lr4 Y4.o;have z1:=cz4 b0;have D1:=fz4 b0;go_wp2;clear z1 D1;obtain⟨w47,j0⟩:=ex ((((w36.setCell ⟨w.heap.size+1,0,none⟩ (.bool n3)).setCell ⟨w.heap.size+1,1,none⟩ (.slice o3 p3 q3)).setCell ⟨w.heap.size+1,2,none⟩ (.bool false)).setCell ⟨w.heap.size+1,3,none⟩ (.slice r3 m0 s3));rw[← j0];have S47:=zz (oU j0 b0 (by simp[aF,aE]));have E0:=oV j0 b0;have H1:=zz (oW j0 D2.o (by omega));have P2:=oT j0;clear j0;have I1:=zz (aKv y1.o (S47.o));exact aFv (aMw rfl _ E0 rfl) rfl ⟨H1.o,_,rfl,I1.o⟩
 case neg=>
  have hnl:0<N.length:=aHh.2 hn;clear hn;have hnc:(0:Int)<(N.length:Int):=by omega
  have J1:=cz4 Ld;go_upto_region 3 with (fail)
  clear J1;obtain⟨u,hu⟩:∃ u,min N.length 60=u:=⟨_,rfl⟩;have hu0:0<u∧u≤60∧u≤N.length:=by omega
  obtain⟨t,ht⟩:∃ t,k % u=t:=⟨_,rfl⟩;have htu:t<u:=by rw[← ht];exact aGp _ hu0.1
  have htl:t<N.length:=by omega
  obtain⟨g,off,hA,hg,hc,hx⟩:=SL.one (f:=fun x=>.int .i16 x) (Pr:=fun x=>-32768≤x∧x≤32767) HN.o (fun _ _ _ _ h=>h) htl;subst hA;try simp only at hc hx
  have S2:=zz (YM htl (by rw[hu];exact ht));generalize N[t]=x at hc hx S2;have HC:=zz hc;have HG:=zz hg;clear hc hg;obtain⟨uz,huz⟩:∃ z:Int,z=(u:Int):=⟨_,rfl⟩;have hmu:min (N.length:Int) 60=uz:=by omega
  have htt:Int.tmod kz uz=(t:Int):=by rw[huz,d3.o,← ht];rfl
  have htw:IntKind.i64.wrap (t:Int)=(t:Int):=by unfold IntKind.wrap;simp only[IntKind.bits,IntKind.signed];simp;omega
  have htb:(0:Int)≤(t:Int)∧(t:Int)<(N.length:Int):=by omega
  have hun:(uz=0)=False:=by simp;omega
  clear huz;have h50:=aKj x 50;have h51:x.natAbs % (50:Int).natAbs<50:=aGp _ (by decide);obtain⟨y,hy⟩:∃ y,Int.tmod x 50=y:=⟨_,rfl⟩;rw[hy] at S2 h50;have hwi16:IntKind.i16.wrap y=y:=by unfold IntKind.wrap;simp only[IntKind.bits,IntKind.signed];simp;omega
  have hwi64:IntKind.i64.wrap y=y:=by unfold IntKind.wrap;simp only[IntKind.bits,IntKind.signed];simp;omega
  refine aFq [se 0 11 [] (.pointer (some ⟨w.heap.size,2,none⟩)),se 1 12 [0] (.slice (some ⟨g,off,none⟩) N.length ca),se 2 13 [] (.int .i64 kz),se 3 14 [] (.pointer (some ⟨w.heap.size,2,none⟩)),se 4 15 [3] (.slice (some ⟨g,off,none⟩) N.length ca),se 5 16 [4] (.int .i64 (N.length:Int)),se 6 17 [5] (.int .i64 uz),se 7 18 [2,6] (.int .i64 (t:Int)),se 8 19 [1,7] (.pointer (some ⟨g,off+t,none⟩)),se 9 20 [8] (.int .i16 x),se 10 21 [9] (.int .i16 y),se 11 22 [10] (.int .i64 y)] 1 (SC (v:=.slice (some ⟨g,off,none⟩) N.length ca) (fun _ h=>(aEd Ld h).cell 2 rfl) S0) aFi ?_ ?_
  ·intro xs a_ hA;simp only[SX,↓reduceIte,Nat.reduceEqDiff,Nat.reduceAdd] at hA⊢;subst hA;and_intros
   all_goals intro wk b_ z_
   any_goals (intro f8;intros;(refine aDz (i:=9) (o:=_) rfl (fun K hK=>?_));have X4:=tr B0 b_;have qv0:=(aGn X4.o (p:=⟨g,off+t,none⟩) HG.o).trans HC.o;go_simp;(refine hK _ _ ⟨_,by simp only[FL,f8] <;> kernel_rfl,aDy _ _,rfl⟩))
   all_goals try exact pl
  ·intro xs X3 B52 z52;simp only[SY];have F0:=tr B0 B52;refine EN 12 rfl fun K hK=>?_
   go_simp;refine hK _ _ ?_;clear hK K;(try simp only[PT])
   refine ED ?_;(try simp only[Exit.then])
   clear hmu htt htw htb hun hwi16 hwi64;by_cases hd:D=[]
   case pos=>
    have R2:=zz (show xR D k=1 from aEv hd);have hdl:D.length=0:=by rw[hd];rfl
    have hdc:¬ (0:Int)<(D.length:Int):=by omega
    have g0:=aEd Ld B52.o;have N1:=cz4 g0;go_upto_region 6 with (fail)
    clear N1;clear hdl hdc hd;have htl9:(y:Int).natAbs≤49:=by have:=Z2.o;rwa [S2.o] at this
    have hll9:1≤(1:Int)∧(1:Int)≤6:=by have:=a3.o;rwa [R2.o] at this
    have V2:=zz (show Rat.divInt y 1=cQ N D k by unfold cQ;rw[S2.o,R2.o]);have T2:=zz (show -9223372036854775808≤(y:Int)∧(y:Int)≤9223372036854775807 by omega);have U2:=zz (show -9223372036854775808≤(1:Int)∧(1:Int)≤9223372036854775807 by omega);have W2:=zz (show(dig (y:Int).natAbs).length≤240000 from aEg (aU.2 (show(y:Int).natAbs<bp 1 by show _<1000000000;omega)) (by decide));have X2:=zz (show(dig (1:Int).natAbs).length≤240000 from aEg (aU.2 (show(1:Int).natAbs<bp 1 by show _<1000000000;omega)) (by decide));have Y2:=zz (show(1:Int)≠0 by omega);clear htl9 hll9;go_wp2_with fail
    refine(nx F0 (gL _ y T2.o.1 T2.o.2)).mono ?_;rintro e w56 ⟨⟨B57,z57,E2⟩,v,rfl,hv⟩;obtain⟨n59,Y3,l59,c59,rfl,H0⟩:=hv.opened;have R1:=zz H0;clear hv H0;go_wp2_with fail
    refine(nx E2 (gL _ 1 U2.o.1 U2.o.2)).mono ?_;rintro e w60 ⟨⟨B61,z61,F2⟩,v,rfl,hv⟩;obtain⟨n63,Z3,l63,c63,rfl,J0⟩:=hv.opened;have S1:=zz J0;clear hv J0;go_wp2_with fail
    have T1:=st aFu R1 B61;refine(nx F2 (fD _ _ _ y 1 T1.o S1.o Y2.o (aEg W2.o (by decide)) (aEg X2.o (by decide)))).mono ?_;rintro e w64 ⟨⟨B66,z66,G2⟩,v,rfl,hv⟩;rw[V2.o] at hv;obtain⟨y3,z3,A3,B3,C3,n0,D3,rfl,ha68,L0,hc68⟩:=hv;have U1:=zz (show QV w64 w64.heap.size (.agg #[.bool y3,.slice z3 A3 B3,.bool false,.slice C3 n0 D3]) (cQ N D k) from⟨_,_,_,_,_,_,_,rfl,ha68,L0,hc68⟩);clear ha68 L0 hc68;have Z4:=tr B52 B57;have M4:=tr Z4 B61;have N4:=tr M4 B66;have c0:=aEd Lr4 N4.o;have V1:=cz4 c0;have Z1:=fz4 c0;go_wp2;clear V1 Z1;obtain⟨w75,k0⟩:=ex ((((w64.setCell ⟨w.heap.size+1,0,none⟩ (.bool y3)).setCell ⟨w.heap.size+1,1,none⟩ (.slice z3 A3 B3)).setCell ⟨w.heap.size+1,2,none⟩ (.bool false)).setCell ⟨w.heap.size+1,3,none⟩ (.slice C3 n0 D3));rw[← k0];have S75:=zz (oU k0 c0 (by simp[aF,aE]));have M0:=oV k0 c0;have d2:=zz (oW k0 G2.o (by omega));have Q2:=oT k0;clear k0;have e2:=zz (aKv U1.o (S75.o));exact aFv (aMw rfl _ M0 rfl) rfl ⟨d2.o,_,rfl,e2.o⟩
   case neg=>
    have hdl:0<D.length:=aHh.2 hd;clear hd;have hdc:(0:Int)<(D.length:Int):=by omega
    have e0:=aEd Ld B52.o;have f2:=cz4 e0;go_upto_region 5 with (fail)
    clear f2;obtain⟨u',hu'⟩:∃ u,min D.length 60=u:=⟨_,rfl⟩;have hu0:0<u'∧u'≤60∧u'≤D.length:=by omega
    obtain⟨t',ht'⟩:∃ t,k % u'=t:=⟨_,rfl⟩;have htu:t'<u':=by rw[← ht'];exact aGp _ hu0.1
    have htl:t'<D.length:=by omega
    obtain⟨g',off',hA,hg,hc,hx'⟩:=SL.one (f:=fun x=>.int .u8 x) (Pr:=fun x=>0≤x∧x≤255) HD.o (fun _ _ _ _ h=>h) htl;subst hA;try simp only at hc hx'
    have R2:=zz (OF htl (by rw[hu'];exact ht'));generalize D[t']=x' at hc hx' R2;have HC':=zz hc;have HG':=zz hg;clear hc hg;obtain⟨uz,huz⟩:∃ z:Int,z=(u':Int):=⟨_,rfl⟩;have hmu:min (D.length:Int) 60=uz:=by omega
    have htt:Int.tmod kz uz=(t':Int):=by rw[huz,d3.o,← ht'];rfl
    have htw:IntKind.i64.wrap (t':Int)=(t':Int):=by unfold IntKind.wrap;simp only[IntKind.bits,IntKind.signed];simp;omega
    have htb:(0:Int)≤(t':Int)∧(t':Int)<(D.length:Int):=by omega
    have hun:(uz=0)=False:=by simp;omega
    clear huz;obtain⟨y',hy'⟩:∃ y,x' % 6=y:=⟨_,rfl⟩;have hyt:Int.tmod x' 6=y':=by rw[← hy'];exact aJb hx'.1
    rw[hy'] at R2;have hy6:0≤y'∧y'<6:=by omega
    have hwu82:IntKind.u8.wrap y'=y':=by unfold IntKind.wrap;simp only[IntKind.bits,IntKind.signed];simp;omega
    have hwi642:IntKind.i64.wrap y'=y':=by unfold IntKind.wrap;simp only[IntKind.bits,IntKind.signed];simp;omega
    have hwi648:IntKind.i64.wrap (1+y')=(1+y'):=by unfold IntKind.wrap;simp only[IntKind.bits,IntKind.signed];simp;omega
    refine aFq [se 0 27 [] (.pointer (some ⟨w.heap.size,3,none⟩)),se 1 28 [0] (.slice (some ⟨g',off',none⟩) D.length cd),se 2 29 [] (.int .i64 kz),se 3 30 [] (.pointer (some ⟨w.heap.size,3,none⟩)),se 4 31 [3] (.slice (some ⟨g',off',none⟩) D.length cd),se 5 32 [4] (.int .i64 (D.length:Int)),se 6 33 [5] (.int .i64 uz),se 7 34 [2,6] (.int .i64 (t':Int)),se 8 35 [1,7] (.pointer (some ⟨g',off'+t',none⟩)),se 9 36 [8] (.int .u8 x'),se 10 37 [9] (.int .u8 y'),se 11 38 [10] (.int .i64 y'),se 12 39 [11] (.int .i64 (1+y'))] 1 (SC (v:=.slice (some ⟨g',off',none⟩) D.length cd) (fun _ h=>(aEd e0 h).cell 3 rfl) S0) aFi ?_ ?_
    ·intro xs a_ hA;simp only[SX,↓reduceIte,Nat.reduceEqDiff,Nat.reduceAdd] at hA⊢;subst hA;and_intros
     all_goals intro wk b_ z_
     any_goals (intro f8;intros;(refine aDz (i:=9) (o:=_) rfl (fun K hK=>?_));have Q4:=tr B0 B52;have P5:=tr Q4 b_;have qv0:=(aGn P5.o (p:=⟨g',off'+t',none⟩) HG'.o).trans HC'.o;go_simp;(refine hK _ _ ⟨_,by simp only[FL,f8] <;> kernel_rfl,aDy _ _,rfl⟩))
     all_goals try exact pl
    ·intro xs a4 B82 z82;simp only[SY];have H2:=tr F0 B82;refine EN 13 rfl fun K hK=>?_
     go_simp;refine hK _ _ ?_;clear hK K;(try simp only[PT])
     refine ED ?_;(try simp only[Exit.then])
     clear hmu htt htw htb hun hwu82 hwi642 hwi648;have htl9:(y:Int).natAbs≤49:=by have:=Z2.o;rwa [S2.o] at this
     have hll9:1≤((1+y'):Int)∧((1+y'):Int)≤6:=by have:=a3.o;rwa [R2.o] at this
     have V2:=zz (show Rat.divInt y (1+y')=cQ N D k by unfold cQ;rw[S2.o,R2.o]);have T2:=zz (show -9223372036854775808≤(y:Int)∧(y:Int)≤9223372036854775807 by omega);have U2:=zz (show -9223372036854775808≤((1+y'):Int)∧((1+y'):Int)≤9223372036854775807 by omega);have W2:=zz (show(dig (y:Int).natAbs).length≤240000 from aEg (aU.2 (show(y:Int).natAbs<bp 1 by show _<1000000000;omega)) (by decide));have X2:=zz (show(dig ((1+y'):Int).natAbs).length≤240000 from aEg (aU.2 (show((1+y'):Int).natAbs<bp 1 by show _<1000000000;omega)) (by decide));have Y2:=zz (show((1+y'):Int)≠0 by omega);clear htl9 hll9;go_wp2_with fail
     refine(nx H2 (gL _ y T2.o.1 T2.o.2)).mono ?_;rintro e w84 ⟨⟨B85,z85,I2⟩,v,rfl,hv⟩;obtain⟨n87,b4,l87,c87,rfl,O0⟩:=hv.opened;have j2:=zz O0;clear hv O0;go_wp2_with fail
     refine(nx I2 (gL _ (1+y') U2.o.1 U2.o.2)).mono ?_;rintro e w88 ⟨⟨B89,z89,J2⟩,v,rfl,hv⟩;obtain⟨n91,c4,l91,c91,rfl,Q0⟩:=hv.opened;have k2:=zz Q0;clear hv Q0;go_wp2_with fail
     have l2:=st aFu j2 B89;refine(nx J2 (fD _ _ _ y (1+y') l2.o k2.o Y2.o (aEg W2.o (by decide)) (aEg X2.o (by decide)))).mono ?_;rintro e w92 ⟨⟨B94,z94,K2⟩,v,rfl,hv⟩;rw[V2.o] at hv;obtain⟨H3,I3,J3,K3,L3,o0,M3,rfl,ha96,T0,hc96⟩:=hv;have m2:=zz (show QV w92 w92.heap.size (.agg #[.bool H3,.slice I3 J3 K3,.bool false,.slice L3 o0 M3]) (cQ N D k) from⟨_,_,_,_,_,_,_,rfl,ha96,T0,hc96⟩);clear ha96 T0 hc96;have W5:=tr B52 B82;have Y5:=tr W5 B85;have X5:=tr Y5 B89;have Z5:=tr X5 B94;have d0:=aEd Lr4 Z5.o;have U0:=cz4 d0;have Y0:=fz4 d0;go_wp2;clear U0 Y0;obtain⟨w104,f0⟩:=ex ((((w92.setCell ⟨w.heap.size+1,0,none⟩ (.bool H3)).setCell ⟨w.heap.size+1,1,none⟩ (.slice I3 J3 K3)).setCell ⟨w.heap.size+1,2,none⟩ (.bool false)).setCell ⟨w.heap.size+1,3,none⟩ (.slice L3 o0 M3));rw[← f0];have S104:=zz (oU f0 d0 (by simp[aF,aE]));have p0:=oV f0 d0;have c1:=zz (oW f0 K2.o (by omega));have N2:=oT f0;clear f0;have d1:=zz (aKv m2.o (S104.o));exact aFv (aMw rfl _ p0 rfl) rfl ⟨c1.o,_,rfl,d1.o⟩
end Go.Proofs.YtencnahjgbdeoaaGreatDoor
