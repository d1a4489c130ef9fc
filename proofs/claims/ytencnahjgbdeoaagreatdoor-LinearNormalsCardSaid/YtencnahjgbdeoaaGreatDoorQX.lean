/- Texts put together. -/
import Derived.Test.YtencnahjgbdeoaaGreatDoorRefb
import Derived.Test.YtencnahjgbdeoaaGreatDoorLow
import Derived.Test.YtencnahjgbdeoaaGreatDoorOps
import Derived.Lib.IndexBytes
import Derived.Test.YtencnahjgbdeoaaGreatDoorDec
import Derived.Test.YtencnahjgbdeoaaGreatDoorQR
import Derived.Test.YtencnahjgbdeoaaGreatDoorRef
import Derived.Test.YtencnahjgbdeoaaGreatDoorQL
import Derived.Test.YtencnahjgbdeoaaGreatDoorQM
import Derived.Test.YtencnahjgbdeoaaGreatDoorRefc
namespace Go.Proofs.YtencnahjgbdeoaaGreatDoor
open Go Go.RowKit Dig
set_option maxRecDepth 100000
set_option maxHeartbeats 4000000
set_option linter.unusedSimpArgs false
section
variable {s:List UInt8} {r:Bool} (h:r=true↔(s=[48]∨∃ c r,eB s=c :: r∧AllDig (eB s)∧c≠48)) (h0:s≠[48])
include h h0
end
theorem kO (w:World) (v:Value) (n:Bool) (a:List Int) (m:Bool) (b:List Int) (h:QR w w.heap.size v n a m b) :
  CV 56 #[v] w fun e _=>e=.returned (.bool (nS n a m b).isSome):=by
 obtain⟨r,hr⟩:=ex ((nS n a m b).isSome);rw[← hr];have HR:=zz hr;clear hr;obtain⟨A,l,c,B,k,d,rfl,h⟩:=RI.of h;have eb:=RI.len (QR.is h).2;have k2:=zz eb;clear eb;obtain⟨w0,hw0⟩:=ex (w.alloc (.cells #[.bool n,.slice A l c,.bool m,.slice B k d] 28));have B0:=zz (cK hw0);have z0:=cJ hw0;have La:=cL hw0;have HA:=zz (aKr (QR.fst h) B0.o);have HB:=zz (aKr (QR.snd h) B0.o);clear h;by_cases hva:Valid n a
 ·have S1:=zz hva;clear hva;by_cases hvb:Valid m b
  ·have T1:=zz hvb;clear hvb;obtain⟨x,hx,nx,ax,lx⟩:=fC S1.o;obtain⟨y,hy,ny,by',ly⟩:=fC T1.o;have HX:=zz hx;have HY:=zz hy;have NX:=zz nx;have NY:=zz ny;have AX:=zz ax;have BY:=zz by';have HL:=zz (aEn lx ly);clear hx hy nx ny ax by' lx ly
   cases m with
   | true=>
    have U1:=zz (show nS n a true b=none by rw[gP HX.o HY.o,aEu (fun h=>by have h1:=NY.o;rw[aEe (by omega)] at h1;cases h1)]);go_enter Tryz.func56,Tryz.ntmps56
    go_upto_region 1 with (fail)
    rw[← hw0];clear hw0;have o1:=cz4 La;go_wp2_with fail
    refine(nx B0 (fZ HA.o S1.o)).mono ?_;rintro e w1 ⟨⟨B3,z3,I1⟩,rfl⟩;clear o1;have g0:=aEd La B3.o;have s1:=cz4 g0;go_wp2_with fail
    have x1:=st aKr HB B3;refine(nx I1 (fZ x1.o T1.o)).mono ?_;rintro e w5 ⟨⟨B9,z9,y1⟩,rfl⟩;clear s1;have c0:=aEd g0 B9.o;have K1:=cz4 c0;go_wp2;go_ret;exact⟨y1.o,by rw[HR.o,U1.o];rfl⟩
   | false=>
    by_cases hk:k=0
    ·have J1:decide (0<k)=false:=by rw[aEe];omega
     have U1:=zz (show nS n a false b=none by rw[gP HX.o HY.o,aEu (fun h=>by have h1:=k2.o;rw[BY.o,aC,hk] at h1;have:=OO.1 h1.symm;omega)]);clear hk;go_enter Tryz.func56,Tryz.ntmps56
     go_upto_region 1 with (fail)
     rw[← hw0];clear hw0;have v0:=cz4 La;go_wp2_with fail
     refine(nx B0 (fZ HA.o S1.o)).mono ?_;rintro e w13 ⟨⟨B15,z15,z1⟩,rfl⟩;clear v0;have a0:=aEd La B15.o;have C0:=cz4 a0;go_wp2_with fail
     have G0:=st aKr HB B15;refine(nx z1 (fZ G0.o T1.o)).mono ?_;rintro e w17 ⟨⟨B21,z21,A1⟩,rfl⟩;clear C0;have d0:=aEd a0 B21.o;have O1:=cz4 d0;go_wp2;go_ret;exact⟨A1.o,by rw[HR.o,U1.o];rfl⟩
    ·have J1:decide (0<k)=true:=by rw[aHc];omega
     have hy1:y.natAbs≠0:=fun h=>hk (by have h1:=k2.o;rw[BY.o,aC,h,bF] at h1;exact h1)
     have hy0:0<y:=by
      have h3:=NY.o;rcases Int.lt_or_le y 0 with h4 | h4
      ·rw[aEj h4] at h3;cases h3
      ·omega
     have s2:=zz hy0;clear hy0 hy1 hk;have t2:=zz (show LV w0 w0.heap.size (.agg #[.bool n,.slice A l c]) x from by unfold LV;rw[← NX.o,← AX.o];exact HA.o);have u2:=zz (show LV w0 w0.heap.size (.agg #[.bool false,.slice B k d]) y from by unfold LV;rw[← NY.o,← BY.o];exact HB.o);obtain⟨g,hg⟩:=ex (α:=Int) (Int.gcd x y:Int);have HG:=zz hg;clear hg;go_enter Tryz.func56,Tryz.ntmps56
     go_upto_region 1 with (fail)
     rw[← hw0];clear hw0;have H0:=cz4 La;go_wp2_with fail
     refine(nx B0 (fZ HA.o S1.o)).mono ?_;rintro e w25 ⟨⟨B27,z27,B1⟩,rfl⟩;clear H0;have b0:=aEd La B27.o;have L0:=cz4 b0;go_wp2_with fail
     have P0:=st aKr HB B27;refine(nx B1 (fZ P0.o T1.o)).mono ?_;rintro e w29 ⟨⟨B33,z33,C1⟩,rfl⟩;clear L0;have e0:=aEd b0 B33.o;have Q0:=cz4 e0;go_wp2_with fail
     have W1:=tr B27 B33;have U0:=st aFu t2 W1;have V0:=st aFu u2 W1;refine(nx C1 (nP _ _ _ x y U0.o V0.o (by have:=HL.o.1;omega) (by have:=HL.o.2;omega))).mono ?_;rintro e w35 ⟨⟨B41,z41,D1⟩,v,rfl,hv⟩;clear Q0;rw[← HG.o] at hv;obtain⟨n43,x2,l43,c43,rfl,n0⟩:=hv.opened;have W0:=zz n0;clear hv n0;go_wp2_with fail
     refine(nx D1 (gL _ 1 (by decide) (by decide))).mono ?_;rintro e w44 ⟨⟨B45,z45,E1⟩,v,rfl,hv⟩;obtain⟨n47,y2,l47,c47,rfl,p0⟩:=hv.opened;have h0:=zz p0;clear hv p0;go_wp2_with fail
     have X0:=st aFu W0 B45;refine(nx E1 (TT X0.o h0.o)).mono ?_;rintro e w48 ⟨⟨B50,z50,r0⟩,rfl⟩;by_cases hg1:g=1
     ·rw[aEj hg1];have o2:=zz (show nS n a false b=some (mkRat x y.natAbs) by rw[gP HX.o HY.o,aEv ⟨s2.o,by have h1:=HG.o;rw[hg1] at h1;unfold Int.gcd at h1;omega⟩]);clear hg1;go_wp2;go_ret;exact⟨r0.o,by rw[HR.o,o2.o];rfl⟩
     ·rw[aEe hg1];have U1:=zz (show nS n a false b=none by rw[gP HX.o HY.o,aEu (fun h=>hg1 (by have h1:=HG.o;unfold Int.gcd at h1;omega))]);clear hg1;go_wp2;go_ret;exact⟨r0.o,by rw[HR.o,U1.o];rfl⟩
  ·have T1:=zz hvb;clear hvb;go_enter Tryz.func56,Tryz.ntmps56
   go_upto_region 1 with (fail)
   rw[← hw0];clear hw0;have Y0:=cz4 La;go_wp2_with fail
   refine(nx B0 (fZ HA.o S1.o)).mono ?_;rintro e w52 ⟨⟨B54,z54,F1⟩,rfl⟩;clear Y0;have f0:=aEd La B54.o;have c1:=cz4 f0;go_wp2_with fail
   have g1:=st aKr HB B54;refine(nx F1 (zW g1.o T1.o)).mono ?_;rintro e w56 ⟨⟨B60,z60,G1⟩,rfl⟩;clear c1;go_wp2;go_ret;exact⟨G1.o,by rw[HR.o,yU T1.o];rfl⟩
 ·have S1:=zz hva;clear hva;go_enter Tryz.func56,Tryz.ntmps56
  go_upto_region 1 with (fail)
  rw[← hw0];clear hw0;have i1:=cz4 La;go_wp2_with fail
  refine(nx B0 (zW HA.o S1.o)).mono ?_;rintro e w62 ⟨⟨B64,z64,H1⟩,rfl⟩;clear i1;go_wp2;go_ret;exact⟨H1.o,by rw[HR.o,yV S1.o];rfl⟩
theorem KH (q r:Rat):Rat.divInt (q.num*(r.den:Int)+r.num*(q.den:Int)) ((q.den:Int)*(r.den:Int))=q+r:=by
 have h:=Rat.divInt_add_divInt q.num r.num (d₁:=q.den) (d₂:=r.den) (aJz.2 q.den_nz) (aJz.2 r.den_nz);rw[aMg,aMg] at h;exact h.symm
theorem IH (q r:Rat):Rat.divInt (q.num*r.num) ((q.den:Int)*(r.den:Int))=q*r:=by
 rw[← Rat.divInt_mul_divInt,aMg,aMg]
theorem lW {a b:Int} {j k:Nat} (h:(dig a.natAbs).length≤j) (h':(dig b.natAbs).length≤k):(dig (a*b).natAbs).length≤j+k:=by
 rw[aGi];exact aEg (dB _ _) (Nat.add_le_add h h')
theorem xH (w:World) (va vb:Value) (q r:Rat) (ha:QV w w.heap.size va q) (hb:QV w w.heap.size vb r) (lq:QL 60000000 60000000 q) (lr:QL 60000000 60000000 r) :
  CV 68 #[va,vb] w fun e w'=>∃ v,e=.returned v∧QV w' w'.heap.size v (q*r):=by
 obtain⟨n,A,l,c,m,A',l',c',rfl⟩:=aMh (show QO w w.heap.size va (some q) from ha);obtain⟨n2,B,k,d,m2,B',k',d',rfl⟩:=aMh (show QO w w.heap.size vb (some r) from hb);obtain⟨p,hp⟩:=ex (q*r);rw[← hp];have HE:=zz hp;clear hp;have HD:=zz (show(q.den:Int)*(r.den:Int)≠0 from Int.mul_ne_zero (aJz.2 q.den_nz) (aJz.2 r.den_nz));have hd1:(dig (q.den:Int).natAbs).length≤60000000:=lq.2;have hd2:(dig (r.den:Int).natAbs).length≤60000000:=lr.2;have HL:=zz (aEn lq.1 (aEn lq.2 (aEn lr.1 lr.2)));have W0:=zz (lW hd1 hd2);have V0:=zz (lW lq.1 lr.1);clear lq lr hd1 hd2;have H1:=zz (QV.fst ha);have H2:=zz (QV.snd ha);have H3:=zz (QV.fst hb);have H4:=zz (QV.snd hb);clear ha hb;obtain⟨w0,hw0⟩:=ex (((w.alloc (.cells #[.bool n,.slice A l c,.bool m,.slice A' l' c'] 28)).alloc (.cells #[.bool n2,.slice B k d,.bool m2,.slice B' k' d'] 28)).alloc (.cells #[.bool false,.slice none 0 0,.bool false,.slice none 0 0] 28));have B0:=zz (rS hw0);have z0:=rR hw0;have La:=rX hw0;have Lb:=rW hw0;have Lr4:=rT hw0;replace H1:=st aFu H1 B0;replace H2:=st aFu H2 B0;replace H3:=st aFu H3 B0;replace H4:=st aFu H4 B0;go_enter Tryz.func68,Tryz.ntmps68
 go_upto_region 1 with (fail)
 rw[← hw0];clear hw0;have HV:=zz (show Rat.divInt (q.num*r.num) ((q.den:Int)*(r.den:Int))=p from(IH q r).trans HE.o.symm);refine aFq [se 0 5 [] (.pointer (some ⟨w.heap.size,0,none⟩)),se 1 6 [0] (.agg #[.bool n,.slice A l c]),se 2 7 [] (.pointer (some ⟨w.heap.size+1,0,none⟩)),se 3 8 [2] (.agg #[.bool n2,.slice B k d]),sf 4 9 [1,3] (fun fv fw=>LV fw fw.heap.size fv (q.num*r.num)),se 5 10 [] (.pointer (some ⟨w.heap.size,2,none⟩)),se 6 11 [5] (.agg #[.bool m,.slice A' l' c']),se 7 12 [] (.pointer (some ⟨w.heap.size+1,2,none⟩)),se 8 13 [7] (.agg #[.bool m2,.slice B' k' d']),sf 9 14 [6,8] (fun fv fw=>LV fw fw.heap.size fv ((q.den:Int)*(r.den:Int))),sf 10 15 [4,9] (fun fv fw=>QV fw fw.heap.size fv p)] 1 (SB La (SB Lb S0)) (MA (fun _ _ _ h hb=>h.step hb) (MA (fun _ _ _ h hb=>h.step hb) (MA (fun _ _ _ h hb=>h.step hb) aFi))) ?_ ?_
 ·intro xs a_ hA;simp only[SX,↓reduceIte,Nat.reduceEqDiff,Nat.reduceAdd] at hA⊢;subst hA;and_intros
  all_goals intro wk b_ z_
  all_goals try exact pl
  ·intro f1 f3;intros;refine wo fun K hK=>?_;go_simp;have h0:=st aFu H1 b_;have i0:=st aFu H3 b_;(with_reducible refine(iJ _ _ _ q.num r.num h0.o i0.o (by have:=HL.o;omega) (by have:=HL.o;omega)).mono ?_)
   rintro e wc3 ⟨A0,v3,rfl,C0⟩;refine hK _ _ ⟨v3,by simp only[FL,f1,f3] <;> kernel_rfl,A0,C0⟩
  ·intro f6 f8;intros;refine wo fun K hK=>?_;go_simp;have j0:=st aFu H2 b_;have k0:=st aFu H4 b_;(with_reducible refine(iJ _ _ _ (q.den:Int) (r.den:Int) j0.o k0.o (by rw[aEr];have:=HL.o;omega) (by rw[aEr];have:=HL.o;omega)).mono ?_)
   rintro e wc6 ⟨D0,v6,rfl,E0⟩;refine hK _ _ ⟨v6,by simp only[FL,f6,f8] <;> kernel_rfl,D0,E0⟩
  ·intro f4 f9;intros;refine wo fun K hK=>?_;go_simp;(with_reducible refine((show Calls Tryz.prog _ _ _ _ from HV.o▸fD _ _ _ (q.num*r.num) ((q.den:Int)*(r.den:Int)) f4 f9 HD.o (by have:=V0.o;omega) (by have:=W0.o;omega))).mono ?_)
   rintro e wc7 ⟨F0,v7,rfl,G0⟩;refine hK _ _ ⟨v7,by kernel_rfl,F0,G0⟩
 ·intro xs K0 B9 z9;simp only[SY];have y0:=tr B0 B9;generalize xs 4=x4,xs 9=x9,xs 10=x10;rintro f4 f9 f10;clear f4;clear f9;obtain⟨L0,M0,N0,O0,P0,c0,Q0,rfl,ha11,f0,hc11⟩:=f10;have d0:=zz (show QV K0 K0.heap.size (.agg #[.bool L0,.slice M0 N0 O0,.bool false,.slice P0 c0 Q0]) p from⟨_,_,_,_,_,_,_,rfl,ha11,f0,hc11⟩);clear ha11 f0 hc11;have a0:=aEd Lr4 B9.o;have l0:=cz4 a0;have p0:=fz4 a0;refine EN 11 rfl fun K hK=>?_;go_simp;refine hK _ _ ?_;clear hK K;(try simp only[PT])
  clear l0 p0;have u0:=aEd La B9.o;have v0:=aEd Lb B9.o;obtain⟨w17,b0⟩:=ex ((((K0.setCell ⟨w.heap.size+2,0,none⟩ (.bool L0)).setCell ⟨w.heap.size+2,1,none⟩ (.slice M0 N0 O0)).setCell ⟨w.heap.size+2,2,none⟩ (.bool false)).setCell ⟨w.heap.size+2,3,none⟩ (.slice P0 c0 Q0));rw[← b0];have S17:=zz (oU b0 a0 (by simp[aF,aE]));have H0:=rQ b0 u0 (by omega);have I0:=rQ b0 v0 (by omega);have g0:=oV b0 a0;have x0:=zz (oW b0 y0.o (by omega));have J0:=oT b0;clear b0;refine ED ?_;(try simp only[Exit.then])
  go_wp2;have e0:=zz (aKv d0.o (S17.o));exact aFv (aMw rfl _ g0 rfl) rfl ⟨x0.o,_,rfl,e0.o⟩
theorem tH (w:World) (va vb:Value) (q r:Rat) (ha:QV w w.heap.size va q) (hb:QV w w.heap.size vb r) (lq:QL 60000000 60000000 q) (lr:QL 60000000 60000000 r) :
  CV 67 #[va,vb] w fun e w'=>∃ v,e=.returned v∧QV w' w'.heap.size v (q+r):=by
 obtain⟨n,A,l,c,m,A',l',c',rfl⟩:=aMh (show QO w w.heap.size va (some q) from ha);obtain⟨n2,B,k,d,m2,B',k',d',rfl⟩:=aMh (show QO w w.heap.size vb (some r) from hb);obtain⟨p,hp⟩:=ex (q+r);rw[← hp];have HE:=zz hp;clear hp;have HD:=zz (show(q.den:Int)*(r.den:Int)≠0 from Int.mul_ne_zero (aJz.2 q.den_nz) (aJz.2 r.den_nz));have hd1:(dig (q.den:Int).natAbs).length≤60000000:=lq.2;have hd2:(dig (r.den:Int).natAbs).length≤60000000:=lr.2;have HL:=zz (aEn lq.1 (aEn lq.2 (aEn lr.1 lr.2)));have d1:=zz (lW hd1 hd2);have T0:=zz (lW lq.1 hd2);have U0:=zz (lW lr.1 hd1);clear lq lr hd1 hd2;have H1:=zz (QV.fst ha);have H2:=zz (QV.snd ha);have H3:=zz (QV.fst hb);have H4:=zz (QV.snd hb);clear ha hb;obtain⟨w0,hw0⟩:=ex (((w.alloc (.cells #[.bool n,.slice A l c,.bool m,.slice A' l' c'] 28)).alloc (.cells #[.bool n2,.slice B k d,.bool m2,.slice B' k' d'] 28)).alloc (.cells #[.bool false,.slice none 0 0,.bool false,.slice none 0 0] 28));have B0:=zz (rS hw0);have z0:=rR hw0;have La:=rX hw0;have Lb:=rW hw0;have Lr4:=rT hw0;replace H1:=st aFu H1 B0;replace H2:=st aFu H2 B0;replace H3:=st aFu H3 B0;replace H4:=st aFu H4 B0;go_enter Tryz.func67,Tryz.ntmps67
 go_upto_region 1 with (fail)
 rw[← hw0];clear hw0;have HV:=zz (show Rat.divInt ((q.num*(r.den:Int))+(r.num*(q.den:Int))) ((q.den:Int)*(r.den:Int))=p from(KH q r).trans HE.o.symm);have e1:=zz (show(dig ((q.num*(r.den:Int))+(r.num*(q.den:Int))).natAbs).length≤120000001 from Len.add (k:=120000000) T0.o U0.o)
 refine aFq [se 0 5 [] (.pointer (some ⟨w.heap.size,0,none⟩)),se 1 6 [0] (.agg #[.bool n,.slice A l c]),se 2 7 [] (.pointer (some ⟨w.heap.size+1,2,none⟩)),se 3 8 [2] (.agg #[.bool m2,.slice B' k' d']),sf 4 9 [1,3] (fun fv fw=>LV fw fw.heap.size fv (q.num*(r.den:Int))),se 5 10 [] (.pointer (some ⟨w.heap.size+1,0,none⟩)),se 6 11 [5] (.agg #[.bool n2,.slice B k d]),se 7 12 [] (.pointer (some ⟨w.heap.size,2,none⟩)),se 8 13 [7] (.agg #[.bool m,.slice A' l' c']),sf 9 14 [6,8] (fun fv fw=>LV fw fw.heap.size fv (r.num*(q.den:Int))),sf 10 15 [4,9] (fun fv fw=>LV fw fw.heap.size fv ((q.num*(r.den:Int))+(r.num*(q.den:Int)))),se 11 16 [] (.pointer (some ⟨w.heap.size,2,none⟩)),se 12 17 [11] (.agg #[.bool m,.slice A' l' c']),se 13 18 [] (.pointer (some ⟨w.heap.size+1,2,none⟩)),se 14 19 [13] (.agg #[.bool m2,.slice B' k' d']),sf 15 20 [12,14] (fun fv fw=>LV fw fw.heap.size fv ((q.den:Int)*(r.den:Int))),sf 16 21 [10,15] (fun fv fw=>QV fw fw.heap.size fv p)] 1 (SB La (SC (v:=.bool m2) (fun _ h=>(aEd Lb h).cell 2 rfl) (SC (v:=.slice B' k' d') (fun _ h=>(aEd Lb h).cell 3 rfl) (SB Lb S0)))) (MA (fun _ _ _ h hb=>h.step hb) (MA (fun _ _ _ h hb=>h.step hb) (MA (fun _ _ _ h hb=>h.step hb) (MA (fun _ _ _ h hb=>h.step hb) (MA (fun _ _ _ h hb=>h.step hb) aFi))))) ?_ ?_
 ·intro xs a_ hA;simp only[SX,↓reduceIte,Nat.reduceEqDiff,Nat.reduceAdd] at hA⊢;subst hA;and_intros
  all_goals intro wk b_ z_
  all_goals try exact pl
  ·intro f1 f3;intros;refine wo fun K hK=>?_;go_simp;have h0:=st aFu H1 b_;have i0:=st aFu H4 b_;(with_reducible refine(iJ _ _ _ q.num (r.den:Int) h0.o i0.o (by have:=HL.o;omega) (by rw[aEr];have:=HL.o;omega)).mono ?_)
   rintro e wc3 ⟨H0,v3,rfl,I0⟩;refine hK _ _ ⟨v3,by simp only[FL,f1,f3] <;> kernel_rfl,H0,I0⟩
  ·intro f6 f8;intros;refine wo fun K hK=>?_;go_simp;have j0:=st aFu H3 b_;have k0:=st aFu H2 b_;(with_reducible refine(iJ _ _ _ r.num (q.den:Int) j0.o k0.o (by have:=HL.o;omega) (by rw[aEr];have:=HL.o;omega)).mono ?_)
   rintro e wc6 ⟨J0,v6,rfl,K0⟩;refine hK _ _ ⟨v6,by simp only[FL,f6,f8] <;> kernel_rfl,J0,K0⟩
  ·intro f4 f9;intros;refine wo fun K hK=>?_;go_simp;(with_reducible refine(XR _ _ _ (q.num*(r.den:Int)) (r.num*(q.den:Int)) f4 f9 (by have:=T0.o;omega) (by have:=U0.o;omega)).mono ?_)
   rintro e wc7 ⟨L0,v7,rfl,M0⟩;refine hK _ _ ⟨v7,by kernel_rfl,L0,M0⟩
  ·intro f12 f14;intros;refine wo fun K hK=>?_;go_simp;have l0:=st aFu H2 b_;have m0:=st aFu H4 b_;(with_reducible refine(iJ _ _ _ (q.den:Int) (r.den:Int) l0.o m0.o (by rw[aEr];have:=HL.o;omega) (by rw[aEr];have:=HL.o;omega)).mono ?_)
   rintro e wc10 ⟨C0,v10,rfl,D0⟩;refine hK _ _ ⟨v10,by simp only[FL,f12,f14] <;> kernel_rfl,C0,D0⟩
  ·intro f10 f15;intros;refine wo fun K hK=>?_;go_simp;(with_reducible refine((show Calls Tryz.prog _ _ _ _ from HV.o▸fD _ _ _ ((q.num*(r.den:Int))+(r.num*(q.den:Int))) ((q.den:Int)*(r.den:Int)) f10 f15 HD.o (by have:=e1.o;omega) (by have:=d1.o;omega))).mono ?_)
   rintro e wc11 ⟨E0,v11,rfl,F0⟩;refine hK _ _ ⟨v11,by kernel_rfl,E0,F0⟩
 ·intro xs Q0 B13 z13;simp only[SY];have G0:=tr B0 B13;generalize xs 4=x4,xs 9=x9,xs 10=x10,xs 15=x15,xs 16=x16;rintro f4 f9 f10 f15 f16;clear f4;clear f9;clear f10;clear f15;obtain⟨V0,W0,X0,Y0,Z0,c0,a1,rfl,ha15,f0,hc15⟩:=f16;have d0:=zz (show QV Q0 Q0.heap.size (.agg #[.bool V0,.slice W0 X0 Y0,.bool false,.slice Z0 c0 a1]) p from⟨_,_,_,_,_,_,_,rfl,ha15,f0,hc15⟩);clear ha15 f0 hc15;have a0:=aEd Lr4 B13.o;have n0:=cz4 a0;have s0:=fz4 a0;refine EN 17 rfl fun K hK=>?_;go_simp;refine hK _ _ ?_;clear hK K;(try simp only[PT])
  clear n0 s0;have x0:=aEd La B13.o;have y0:=aEd Lb B13.o;obtain⟨w21,b0⟩:=ex ((((Q0.setCell ⟨w.heap.size+2,0,none⟩ (.bool V0)).setCell ⟨w.heap.size+2,1,none⟩ (.slice W0 X0 Y0)).setCell ⟨w.heap.size+2,2,none⟩ (.bool false)).setCell ⟨w.heap.size+2,3,none⟩ (.slice Z0 c0 a1));rw[← b0];have S21:=zz (oU b0 a0 (by simp[aF,aE]));have N0:=rQ b0 x0 (by omega);have O0:=rQ b0 y0 (by omega);have g0:=oV b0 a0;have A0:=zz (oW b0 G0.o (by omega));have P0:=oT b0;clear b0;refine ED ?_;(try simp only[Exit.then])
  go_wp2;have e0:=zz (aKv d0.o (S21.o));exact aFv (aMw rfl _ g0 rfl) rfl ⟨A0.o,_,rfl,e0.o⟩
end Go.Proofs.YtencnahjgbdeoaaGreatDoor
