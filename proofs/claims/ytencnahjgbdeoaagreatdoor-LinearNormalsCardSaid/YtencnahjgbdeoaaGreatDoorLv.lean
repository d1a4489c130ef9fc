/- Layer 35: Damped (written by gen_lv.py). -/
import Derived.Test.YtencnahjgbdeoaaGreatDoorLu
import Derived.Test.YtencnahjgbdeoaaGreatDoorLns
import Derived.Test.YtencnahjgbdeoaaGreatDoorLj
namespace Go.Proofs.YtencnahjgbdeoaaGreatDoor
open Go Go.RowKit Dig
set_option maxRecDepth 100000
set_option maxHeartbeats 4000000
set_option linter.unusedSimpArgs false
variable {D:List Rat} {N:List (List Rat)} {lam:Rat}
theorem XP (w:World) (va vb:Value) (q r:Rat) (ha:RV w w.heap.size va q) (hb:RV w w.heap.size vb r) (l1:QL 60000000 60000000 q) (l2:QL 60000000 60000000 r) :
  CV 64 #[va,vb] w fun e w'=>∃ v,e=.returned v∧RVn w.heap.size w' w'.heap.size v (q+r):=by
 unfold QL at l1 l2;exact BQ w va vb q r ha hb l1.1 l1.2 l2.1 l2.2
theorem KJ {w:World} {t:TypeId} {f:FuncId}:(store ⟨w.heap.size,0,none⟩ (.func (.func f) #[] #[])).run Tryz.prog (w.alloc (.cells #[.nilFunc] t))=.ok () ((w.alloc (.cells #[.nilFunc] t)).setCell ⟨w.heap.size,0,none⟩ (.func (.func f) #[] #[])):=by
 have h:=aHl w t #[.nilFunc];rw[run_store _ _ _ _ _ rfl,h.cell 0 rfl,h.frozen 0];rfl
theorem ZA {l:QX}:dC [l]=eC l:=by unfold dC;simp
theorem wV {M:List (List QX)} {b d:List QX} {n:Bool}:mD M b d n=true↔(b.length=M.length∧d.length=(M.getD 0 []).length∧n=false∧d.all (fun q=>!q.1.1)=true):=by
 unfold mD;simp only[aFs,aHc,aLm,List.any_eq_false,aEx,Bool.not_eq_true]
theorem TD {M:List (List QX)} {b d:List QX} {l:QX} {E:Int} {fit:Bool} (hE:E=eF [bD (eA M),bD (dC b),bD (dC d),bD (dC [l])] fit) (hf:fit=mD M b d l.1.1) :
  (E≠0→eG M b d l=(none,E))∧(E=0→eG M b d l=mM (aZ (eP (bB (aK M)) ((qv l).getD 0) (aW d)) (bG (aK M) (aW b)))∧eA M=true∧dC b=true∧dC d=true∧eC l=true∧b.length=M.length∧d.length=(M.getD 0 []).length):=by
 rw[ZA] at hE;by_cases hv:eA M=true∧dC b=true∧dC d=true∧eC l=true
 ·obtain⟨h1,h2,h3,h4⟩:=hv;rw[h1,h2,h3,h4] at hE;cases h5:fit with
  | false=>
   rw[h5] at hE hf;have hn:¬ (b.length=M.length∧d.length=(M.getD 0 []).length∧l.1.1=false∧d.all (fun q=>!q.1.1)=true):=fun h=>by rw[wV.2 h] at hf;cases hf
   refine⟨fun _=>?_,fun h=>?_⟩
   ·unfold eG;rw[h1,h2,h3,h4,aEv ⟨rfl,rfl,rfl,rfl⟩,aEu hn,hE];rfl
   ·rw[h] at hE;cases hE
  | true=>
   rw[h5] at hE hf;have hp:=wV.1 hf.symm;refine⟨fun h=>absurd hE h,fun _=>⟨?_,h1,h2,h3,h4,hp.1,hp.2.1⟩⟩;unfold eG;rw[aEv ⟨h1,h2,h3,h4⟩,aEv hp]
 ·have hE':E=350:=by
   rw[hE];cases h1:eA M <;> cases h2:dC b <;> cases h3:dC d <;> cases h4:eC l <;> first | rfl | exact absurd ⟨h1,h2,h3,h4⟩ hv
  refine⟨fun _=>?_,fun h=>?_⟩
  ·unfold eG;rw[aEu hv,hE']
  ·rw[h] at hE';cases hE'
theorem aBc {w:World} {b:Nat} {A A':Option Addr} {u c u' c':Nat} {n m:Bool} {x y:List Int} (h:CB w b 28 #[.bool n,.slice A u c,.bool m,.slice A' u' c']) (hq:QR w w.heap.size (.agg #[.bool n,.slice A u c,.bool m,.slice A' u' c']) n x m y):QS w w.heap.size (.slice (some ⟨b,0,none⟩) 1 1) [((n,x),(m,y))]:=
 ⟨_,_,rfl,aEa _,by omega,fun _=>⟨b,0,rfl,h.lt,fun j hj=>by
  obtain rfl:j=0:=by simp at hj;omega
  exact⟨[.bool n,.slice A u c,.bool m,.slice A' u' c'],rfl,fun i v hv=>by rw[show 0+0*4+i=i by omega];exact h.cell i (by simpa using hv),_,_,_,_,rfl,hq⟩⟩⟩
def pC (lam:Rat) (D:List Rat) (i:Nat) (r:List Rat):List Rat:=r.set i (r.getD i 0+lam*D.getD i 0)
theorem ZP {i:Nat} (hi:i<N.length):bP (mapTo (pC lam D) i N) i i=(N.getD i []).getD i 0:=by
 unfold bP;rw[mH hi (Or.inl (aJt i))]
theorem XC {i:Nat} (hi:i<N.length):PI (mapTo (pC lam D) i N) i i ((N.getD i []).getD i 0+lam*D.getD i 0)=mapTo (pC lam D) (i+1) N:=by
 unfold PI;rw[mH hi (Or.inl (aJt i)),← oK hi,aG hi];rfl
theorem MD (hN:Short 117 N) (hl:QL 4 4 lam) (hD:∀ q∈D,QL 4 4 q):Short 130 (eP N lam D):=by
 intro r hr q hq;obtain⟨i,hi,rfl⟩:=aLg.1 hr;rcases aLr hq with h | h
 ·exact(hN _ (aEc hi) q h).mono (by decide) (by decide)
 ·rw[h];exact((aT (hN _ (aEc hi)) (by decide) i).add2 (hl.mul (aT hD (by decide) i)) (m:=125) (by decide) (by decide)).mono (by decide) (by decide)
theorem nQ (w:World) (A B D L0 L1:Option Addr) (na ca nb cb nd cd u c u' c':Nat) (M:List (List QX)) (b d:List QX) (n m:Bool) (x y:List Int) (ha:QM w w.heap.size (.slice A na ca) M) (hb:QS w w.heap.size (.slice B nb cb) b) (hd:QS w w.heap.size (.slice D nd cd) d) (hl:QR w w.heap.size (.agg #[.bool n,.slice L0 u c,.bool m,.slice L1 u' c']) n x m y) :
  CV 24 #[.slice A na ca,.slice B nb cb,.slice D nd cd,.agg #[.bool n,.slice L0 u c,.bool m,.slice L1 u' c']] w fun e w'=>mS w' (eG M b d ((n,x),(m,y))) e:=by
 obtain⟨rfl,hn1,hn2⟩:=aHb ha;obtain⟨rfl,hm1,hm2⟩:=aHb hb;obtain⟨rfl,x1,y1⟩:=aHb hd;have HQ:=zz ha;have HS:=zz hb;have t2:=zz hd;have u2:=zz hl;clear ha hb hd hl;obtain⟨w0,hw0⟩:=ex ((((w.alloc (.cells #[.slice A M.length ca] 22)).alloc (.cells #[.slice B b.length cb] 23)).alloc (.cells #[.slice D d.length cd] 23)).alloc (.cells #[.bool n,.slice L0 u c,.bool m,.slice L1 u' c'] 28));have B0:=zz (aAu hw0);have z0:=aAt hw0;have La:=aAy hw0;have Lb:=aAx hw0;have Ld:=aAw hw0;have Ll:=aAv hw0;have O1:=zz (HQ.o.step (aFl aEf) B0.o);have a2:=zz (HS.o.step aEf B0.o);have J1:=zz (t2.o.step aEf B0.o);have K1:=st aHz u2 B0;have HA:=zz La;have HB:=zz Lb;have HD:=zz Ld;have HL:=zz Ll;obtain⟨fit,hfit⟩:=ex (α:=Bool) (mD M b d n);have P1:=zz hfit;clear hfit;obtain⟨E,hE⟩:=ex (eF [bD (eA M),bD (dC b),bD (dC d),bD (dC [((n,x),(m,y))])] fit);have b2:=zz hE;clear hE;go_enter Tryz.func24,Tryz.ntmps24
 go_upto_region 1 with (fail)
 rw[← hw0];clear hw0;have hst:=KJ (w:=w0) (t:=93) (f:=61);go_upto_region 2 with (fail)
 clear hst;obtain⟨w1,h0⟩:=ex (w0.alloc (.cells #[.func (.func 61) #[] #[]] 93));rw[← h0];have i0:=cL h0;have za1:=cJ h0;have B2:=zz (cK h0);have z2:=B2.o.size;have p1:=tr B0 B2;clear h0;have HF:=zz i0;go_upto_region 3 with (fail)
 have m0:=aEd HA.o B2.o;have n0:=aEd HB.o B2.o;have o0:=aEd HD.o B2.o;have p0:=aEd HL.o B2.o;refine aFq [se 0 20 [] (.func (.func 62) #[] #[.pointer (some ⟨w.heap.size+1,0,none⟩),.pointer (some ⟨w.heap.size,0,none⟩),.pointer (some ⟨w.heap.size+2,0,none⟩),.pointer (some ⟨w0.heap.size,0,none⟩),.pointer (some ⟨w.heap.size+3,0,none⟩)]),se 1 21 [] (.slice A M.length ca),se 2 22 [1] (.int .i64 (bD (eA M))),se 3 23 [] (.slice B b.length cb),se 4 24 [3] (.int .i64 (bD (dC b))),se 5 25 [] (.slice D d.length cd),se 6 26 [5] (.int .i64 (bD (dC d))),se 7 27 [] (.agg #[.bool n,.slice L0 u c,.bool m,.slice L1 u' c']),sf 8 28 [7] (fun fv fw=>∃ zb,fv=.slice (some ⟨zb,0,none⟩) 1 1∧CB fw zb 28 #[.bool n,.slice L0 u c,.bool m,.slice L1 u' c']),se 9 29 [8] (.int .i64 (bD (dC [((n,x),(m,y))]))),sf 10 30 [2,4,6,9] (fun fv fw=>∃ zb,fv=.slice (some ⟨zb,0,none⟩) 4 4∧CB fw zb 40 #[.int .i64 (bD (eA M)),.int .i64 (bD (dC b)),.int .i64 (bD (dC d)),.int .i64 (bD (dC [((n,x),(m,y))]))]),se 11 31 [0,10] (.int .i64 E)] 1 (SB m0 (SB n0 (SB o0 (SB p0 S0)))) (MA (fun _ _ _ h hb=>let ⟨b,e,h⟩:=h;⟨b,e,h.step hb⟩) (MA (fun _ _ _ h hb=>let ⟨b,e,h⟩:=h;⟨b,e,h.step hb⟩) aFi)) ?_ ?_
 ·intro xs a_ hA;simp only[SX,↓reduceIte,Nat.reduceEqDiff,Nat.reduceAdd] at hA⊢;subst hA;and_intros
  all_goals intro wk b_ z_
  all_goals try exact pl
  ·intro f1;intros;refine wo fun K hK=>?_;go_simp;have Z1:=tr B2 b_;(with_reducible refine(gA _ A _ ca M (O1.o.step (aFl aEf) Z1.o)).mono ?_)
   rintro e wc9 ⟨a0,rfl⟩;refine hK _ _ ⟨_,by simp only[FL,f1] <;> kernel_rfl,a0,rfl⟩
  ·intro f3;intros;refine wo fun K hK=>?_;go_simp;have P3:=tr B2 b_;(with_reducible refine(fS _ B _ cb b (a2.o.step aEf P3.o)).mono ?_)
   rintro e wc11 ⟨W0,rfl⟩;refine hK _ _ ⟨_,by simp only[FL,f3] <;> kernel_rfl,W0,rfl⟩
  ·intro f5;intros;refine wo fun K hK=>?_;go_simp;have W3:=tr B2 b_;(with_reducible refine(fS _ D _ cd d (J1.o.step aEf W3.o)).mono ?_)
   rintro e wc13 ⟨X0,rfl⟩;refine hK _ _ ⟨_,by simp only[FL,f5] <;> kernel_rfl,X0,rfl⟩
  ·intro f7;intros;refine wo fun K hK=>?_;go_simp;refine hK _ _ ⟨.slice (some ⟨wk.heap.size,0,none⟩) 1 1,by simp only[FL,f7] <;> kernel_rfl,(aDy _ _).alloc (aEa _) _,⟨_,rfl,aHl _ _ _⟩⟩
  ·intro f8;intros;refine wo fun K hK=>?_;obtain⟨b8,e8,h8⟩:=f8;rw[e8];go_simp;have Y3:=tr B2 b_;(with_reducible refine(fS _ _ _ 1 [((n,x),(m,y))] (aBc h8 (aHz K1.o Y3.o))).mono ?_)
   rintro e wc15 ⟨Y0,rfl⟩;refine hK _ _ ⟨_,by simp only[FL,e8] <;> kernel_rfl,Y0,rfl⟩
  ·intro f2 f4 f6 f9;intros;refine wo fun K hK=>?_;go_simp;refine hK _ _ ⟨.slice (some ⟨wk.heap.size,0,none⟩) 4 4,by simp only[FL,f2,f4,f6,f9] <;> kernel_rfl,(aDy _ _).alloc (aEa _) _,⟨_,rfl,aHl _ _ _⟩⟩
  ·intro f0 f10;intros;refine wo fun K hK=>?_;obtain⟨b10,e10,h10⟩:=f10;rw[e10];go_simp;have X3:=tr B2 b_;(with_reducible refine((show Calls Tryz.prog _ _ _ _ from b2.o▸jF _ 62 #[.pointer (some ⟨w.heap.size+1,0,none⟩),.pointer (some ⟨w.heap.size,0,none⟩),.pointer (some ⟨w.heap.size+2,0,none⟩),.pointer (some ⟨w0.heap.size,0,none⟩),.pointer (some ⟨w.heap.size+3,0,none⟩)] fit _ 4 4 [bD (eA M),bD (dC b),bD (dC d),bD (dC [((n,x),(m,y))])] (kX h10 [_,_,_,_] rfl (by simp)) (by simp) JA (fun hz w9 a0=>P1.o▸JB w9 _ _ _ _ _ A B D L0 L1 ca cb cd u c u' c' M b d n m x y (aEd HA.o (X3.o.trans (a0.mono X3.o.size))) (O1.o.step (aFl aEf) (X3.o.trans (a0.mono X3.o.size))) (oC (qP (hz _ (by simp)))) (aEd HB.o (X3.o.trans (a0.mono X3.o.size))) (aEd HD.o (X3.o.trans (a0.mono X3.o.size))) (J1.o.step aEf (X3.o.trans (a0.mono X3.o.size))) (aEd HF.o (b_.o.trans (a0.mono b_.o.size))) (aEd HL.o (X3.o.trans (a0.mono X3.o.size))) (aHz K1.o (X3.o.trans (a0.mono X3.o.size)))))).mono ?_)
   rintro e wc17 ⟨Z0,rfl⟩;refine hK _ _ ⟨_,by simp only[FL,f0,e10] <;> kernel_rfl,Z0,rfl⟩
 ·intro xs z1 B19 z19;simp only[SY];have j0:=tr p1 B19;generalize xs 8=x8,xs 10=x10;rintro f8 f10;obtain⟨bs21,rfl,Lb21⟩:=f8;obtain⟨bs22,rfl,Lb22⟩:=f10;refine EN 12 rfl fun K hK=>?_
  go_simp;refine hK _ _ ?_;clear hK K;(try simp only[PT])
  refine ED ?_;(try simp only[Exit.then])
  have hsa:=TD b2.o P1.o;by_cases hE0:E=0
  case neg=>
   have hx:(E != 0)=true:=by rw[aJg];exact hE0
   have HR:=zz (hsa.1 hE0);clear hE0 hsa;go_wp2;go_ret2;exact⟨j0.o,by rw[HR.o];exact⟨_,rfl,rfl⟩⟩
  case pos=>
   obtain⟨hr,h1,h2,h2',hsl,h3,h4⟩:=hsa.2 hE0;subst hE0;obtain⟨-,hs4,hw4,hm1,hm2,hw1,hw2⟩:=jM h1;obtain⟨-,q0,-,-⟩:=fM h2;obtain⟨hde,hd4,-,-⟩:=fM h2';obtain⟨hle,hl4⟩:=qY hsl;obtain⟨k,hk⟩:=ex (aM (aK M));have hdk:d.length=k:=by rw[h4,hk,mU]
   rw[← hk] at hw4 hw1 hw2;obtain⟨lam,hlam⟩:=ex ((qv ((n,x),(m,y))).getD 0);rw[← hlam] at hr hle hl4;obtain⟨Dq,hDq⟩:=ex (aW d);rw[← hDq] at hr hde hd4;have hdl:Dq.length=k:=by rw[hDq,aW,aEb,hdk]
   obtain⟨N,hN⟩:=ex (bB (aK M));obtain⟨V,hV⟩:=ex (bG (aK M) (aW b));have hnl:N.length=k:=by rw[hN,mZ,hk]
   have hvl:V.length=k:=by rw[hV,mY,hk]
   have hnw:Wide N k:=by rw[hN,hk];exact rD
   have hml:(aK M).length=M.length:=by rw[aK,aEb]
   have hns:Short 117 N:=by rw[hN];exact(kM hs4 (by decide)).mono (by rw[hml];omega)
   have hvs:∀ q∈V,QL 130 130 q:=by rw[hV];exact fun q hq=>((kL hs4 q0 (by decide) (by decide)) q hq).mono (by rw[hml];omega) (by rw[hml];omega)
   have hts:Short 130 (eP N lam Dq):=MD hns hl4 hd4;have htw:Wide (eP N lam Dq) k:=qF hnw;have htl:(eP N lam Dq).length=k:=by rw[lM,hnl]
   obtain⟨T,hT⟩:=ex (eP N lam Dq);rw[← hN,← hV,← hT] at hr;rw[← hT] at hts htw htl;have hlr:RV w0 w0.heap.size (.agg #[.bool n,.slice L0 u c,.slice L1 u' c']) lam:=by have h:=K1.o;rw[show n=(qx lam).1.1 from aIl (fun q=>q.1.1) hle,show x=(qx lam).1.2 from aIl (fun q=>q.1.2) hle,show m=(qx lam).2.1 from aIl (fun q=>q.2.1) hle,show y=(qx lam).2.2 from aIl (fun q=>q.2.2) hle] at h;rw[show n=(qx lam).1.1 from aIl (fun q=>q.1.1) hle];exact uX (QR.qv h)
   have hgk:dE 130 k≤20000*1000:=aEg (cE hw2) (by decide);have HR:=zz hr;have H1:=zz h1;have H2:=zz h2;have H3:=zz h3;have A2:=zz hs4;have D2:=zz hw4;have q1:=zz q0;have E2:=zz hd4;have F2:=zz hde;have I2:=zz hdl;have d2:=zz hl4;have C1:=zz (aEn hm1 (aEn hm2 (aEn hw1 hw2)));have HN:=zz hN;have HV:=zz hV;have Q1:=zz hnl;have F1:=zz hvl;have J2:=zz hnw;have K2:=zz hns;have R1:=zz hvs;have S1:=zz hts;have T1:=zz htw;have B1:=zz htl;have HT:=zz hT;have L2:=zz hlr;have M1:=zz hgk;have e2:=zz hdk;clear hr h1 h2 h2' hsl h3 h4 hs4 hw4 q0 hd4 hde hdl hl4 hle hlam hDq hm1 hm2 hw1 hw2 hsa hk hN hV hnl hvl hnw hml hns hvs hts htw htl hT hlr hgk hdk;go_upto_region 6 with (fail)
   have Z3:=tr B2 B19;have D0:=aEd m0 B19.o;have E0:=aEd n0 B19.o;have F0:=aEd o0 B19.o;have G0:=aEd p0 B19.o;have M2:=zz D0;have HB4':=zz E0;have HD4':=zz F0;have HL4':=zz G0;have N2:=zz (O1.o.step (aFl aEf) Z3.o);have HS4':=zz (a2.o.step aEf Z3.o);have HDv:=zz (show QS z1 z1.heap.size (.slice D d.length cd) (Dq.map qx) from by rw[← F2.o];exact J1.o.step aEf Z3.o);have HLv:=st aHm L2 Z3;have O2:=zz (j0.o);have hkk:(k:Int)≤6∧(1:Int)≤(k:Int):=by have:=C1.o;omega
   have A1:∀ w':World,Below z1.heap.size z1 w'→(Below z1.heap.size z1 w'∧w'.cell? ⟨w.heap.size,0,none⟩=some (.slice A M.length ca)∧w'.cell? ⟨w.heap.size+1,0,none⟩=some (.slice B b.length cb)):=fun w' h=>⟨h,(aEd M2.o h).cell 0 rfl,(aEd HB4'.o h).cell 0 rfl⟩
   refine aIr 9 (fun w'=>Below z1.heap.size z1 w'∧w'.cell? ⟨w.heap.size,0,none⟩=some (.slice A M.length ca)∧w'.cell? ⟨w.heap.size+1,0,none⟩=some (.slice B b.length cb)) (by kernel_rfl) ?_;refine ET 0 (.slice A M.length ca) rfl (Or.inl ⟨by rfl,?_⟩) ?_ ?_
   ·intro w' hSw;obtain⟨-,t0,t1⟩:=hSw;go_simp
   ·exact A1 _ (aA (aDy _ _))
   (try simp only[PT])
   refine ET 2 (.slice B b.length cb) rfl (Or.inl ⟨by rfl,?_⟩) ?_ ?_
   ·intro w' hSw;obtain⟨-,t0,t1⟩:=hSw;go_simp
   ·exact A1 _ (aA (aDy _ _))
   (try simp only[PT])
   refine en 1 rfl fun K hK=>?_;go_simp;(with_reducible refine(fF _ A _ ca M (aNe N2.o (aFl aEf)) H1.o).mono ?_)
   rintro e w29 ⟨g0,g,G,C,rfl,hom⟩;replace g0:Below z1.heap.size z1 w29:=aR g0;have B30:=zz g0;have z30:=B30.o.size;have a1:=tr j0 B30;clear g0;refine hK _ _ (fun _=>A1 _ B30.o) ?_;clear hK K;(try simp only[PT])
   have P2:=zz hom;clear hom;refine en 3 rfl fun K hK=>?_;go_simp;(with_reducible refine(iH _ B _ cb b (HS4'.o.step aEf B30.o) H2.o).mono ?_)
   rintro e w32 ⟨s0,g',rfl,hgl,hol⟩;have B33:=zz s0;have z33:=B33.o.size;have b1:=tr a1 B33;clear s0;have M3:=tr B30 B33;refine hK _ _ (fun _=>A1 _ M3.o) ?_;clear hK K;(try simp only[PT])
   have Q2:=zz hol;have t3:=zz hgl;clear hol hgl;refine en 4 rfl fun K hK=>?_;go_simp;(with_reducible refine(iK _ _ _ _ _ _ _ (aK M) (aW b) k 4 4 (slM (P2.o.step aEw B33.o) (by have:=C1.o;omega)) (slR Q2.o (by have:=C1.o;have:=H3.o;omega)) (by rw[aK,aEb];have:=C1.o;omega) (by rw[aK,aW,aEb,aEb,H3.o]) D2.o ⟨by rw[aK,aEb];have:=C1.o;omega,by have:=C1.o;omega⟩ A2.o q1.o (by decide) (by rw[aK,aEb];have:=C1.o;omega)).mono ?_)
   rintro e w36 ⟨u0,g2,G2,C2,g3,rfl,hom2,hgl2,hol2,hap2⟩;have B37:=zz u0;have z37:=B37.o.size;have u1:=tr b1 B37;clear u0;have N3:=tr M3 B37;refine hK _ _ (fun _=>A1 _ N3.o) ?_;clear hK K;(try simp only[PT])
   rw[← HN.o] at hom2;rw[← HV.o] at hol2;have p2:=zz hom2;have q2:=zz hol2;have r2:=zz hap2;clear hom2 hgl2 hol2 hap2;refine en 5 rfl fun K hK=>?_;go_simp;refine hK _ _ (fun _=>A1 _ (N3.o)) ?_;clear hK K;(try simp only[PT])
   refine ET 7 (.slice (some ⟨g3,0,none⟩) k k) rfl (Or.inl ⟨by rfl,?_⟩) ?_ ?_
   ·intro w' hSw;obtain⟨-,t0,t1⟩:=hSw;go_simp
   ·exact A1 _ (N3.o)
   (try simp only[PT])
   refine en 6 rfl fun K hK=>?_;go_simp;refine hK _ _ (fun _=>A1 _ (N3.o)) ?_;clear hK K;(try simp only[PT])
   refine en 8 rfl fun K hK=>?_;go_simp;refine hK _ _ (fun _=>A1 _ (N3.o)) ?_;clear hK K;(try simp only[PT])
   refine en 9 rfl fun K hK=>?_;go_simp;refine hK _ _ (fun h=>absurd h (by decide)) ?_;clear hK K;(try simp only[PT])
   refine aIj (by kernel_rfl) ?_ _;(try simp only[Exit.then])
   clear A1;have R2:Hi (OM 3 (ERo Option.none) 88 65 w36 z1.heap.size g2 k G2 C2 (mapTo (pC lam Dq) 0 N)):=zz (by rw[jT];exact(p2.o.weak (show z1.heap.size≤_ by omega)).mapE (fun _ _ h=>ERo.ofNone h));have r1:=zz (N3.o);have hz2:z1.heap.size≤w36.heap.size:=by omega
   have k0:=aEd HD4'.o N3.o;have H0:=k0.cell 0 rfl;have U1:=k0.lt;go_wp2;clear H0 U1;go_loopw [45] (fun iv wr=>∃ i:Nat,i≤k∧iv=.int .i64 i∧Hi (OM 3 (ERo Option.none) 88 65 wr z1.heap.size g2 k G2 C2 (mapTo (pC lam Dq) i N))∧Hi (OB 3 ER 88 wr g3 k V)∧Hi (Turns w36 wr (fun b:Nat=>z1.heap.size≤b))) (fun iv _=>k-(intOf iv).toNat)
   case atStart=>exact⟨0,aEy _,rfl,R2,q2,zz (Turns.refl _ _)⟩
   case round=>
    obtain⟨i,hi,rfl,HO,V1,HW⟩:=hrel;have zr:=HW.o.size;have HWb:=zz (r1.o.trans (HW.o.below hz2 (fun b h=>h)));by_cases hlt:i<k
    ·have hin:i<N.length:=by rw[Q1.o];exact hlt
     have hid':i<Dq.length:=by rw[I2.o];exact hlt
     have G1:=zz (wM (g:=pC lam Dq) (n:=i) J2.o (fun i r h=>by unfold pC;rw[aEz];exact h));have i2:=zz (show(mapTo (pC lam Dq) i N).length=k by rw[eK,Q1.o]);have W1:=zz (ZP (lam:=lam) (D:=Dq) hin);have N1:=zz (XC (lam:=lam) (D:=Dq) hin);generalize mapTo (pC lam Dq) i N=MK at HO G1 i2 W1 N1;have hik:i<MK.length:=by rw[i2.o];exact hlt
     obtain⟨x0,hx0⟩:∃ x,x=(N.getD i []).getD i 0:=⟨_,rfl⟩;rw[← hx0] at W1 N1;have S2:=zz hx0;clear hx0;have hrow:G2 i≠g2∧z1.heap.size≤G2 i:=HO.o.apart i hik;have T2:=zz hrow;clear hrow;obtain⟨xn,xA,xl,xc,xB,xu,xd,hEx,hv⟩:=OM.elem HO.o G1.o hik hlt;rw[W1.o] at hv;have U2:=zz hv;clear hv;obtain⟨gd,offd,yA,yl,yc,yB,yu,yd,rfl,hgd,hEd,hvd⟩:=aKm HDv.o (j:=i) (by rw[aEb];exact hid');replace hEd:=hEd.step HWb.o;simp only[aGm] at hEd hvd;have j2:=zz (aHf (QR.qv hvd) HWb.o);clear hvd hgd;obtain⟨z,hz⟩:=ex (Dq[i]);have hzd:Dq.getD i 0=z:=by rw[hz,aG hid']
     have hqz:QL 4 4 z:=by rw[hz];exact E2.o _ (aEc hid')
     rw[← hz] at hEd j2;rw[hzd] at N1;have k2:=zz hqz;clear hqz hzd hz;have V2:Hi (QL 117 117 x0):=zz (by rw[S2.o];exact aT (K2.o.row i) (by decide) i);have hji:(0:Int)≤(i:Int)∧(i:Int)<(k:Int):=by omega
     have hjd:(i:Int)<(d.length:Int):=by have:=e2.o;omega
     have HDr:=st aEd HD4' HWb;have HLr:=st aEd HL4' HWb;have HLvr:=st aHm HLv HWb;have I0:=ez4 hEd;go_upto_region 10 with (fail)
     clear I0;obtain⟨w43,e0⟩:=ex (wr.alloc (.cells #[.bool (qx z).1.1,.slice yA yl yc,.bool (qx z).2.1,.slice yB yu yd] 28));rw[← e0];have N0:=cL e0;have za43:=cJ e0;have B44:=zz (cK e0);have z44:=B44.o.size;have d1:=tr HWb B44;clear e0;have l2:=zz (aMn HO.o G1.o hik);have HCA':=zz (aMi HO.o G1.o hik);have b0:=aIb hEx B44.o;have O0:=aEd HLr.o B44.o
     refine aFq [se 0 50 [] (.slice (some ⟨g2,0,none⟩) k k),se 1 51 [] (.int .i64 (i:Int)),se 2 52 [0,1] (.pointer (some ⟨g2,i,none⟩)),se 3 53 [2] (.slice (some ⟨G2 i,0,none⟩) k (C2 i)),se 4 54 [] (.int .i64 (i:Int)),se 5 55 [] (.slice (some ⟨g2,0,none⟩) k k),se 6 56 [] (.int .i64 (i:Int)),se 7 57 [5,6] (.pointer (some ⟨g2,i,none⟩)),se 8 58 [7] (.slice (some ⟨G2 i,0,none⟩) k (C2 i)),se 9 59 [] (.int .i64 (i:Int)),se 10 60 [8,9] (.pointer (some ⟨G2 i,i*3,none⟩)),se 11 61 [10] (.agg #[.bool xn,.slice xA xl xc,.slice xB xu xd]),se 12 62 [] (.agg #[.bool n,.slice L0 u c,.bool m,.slice L1 u' c']),se 13 63 [12] (.agg #[.bool n,.slice L0 u c,.slice L1 u' c']),se 14 64 [] (.agg #[.bool (qx z).1.1,.slice yA yl yc,.bool (qx z).2.1,.slice yB yu yd]),se 15 65 [14] (.agg #[.bool (qx z).1.1,.slice yA yl yc,.slice yB yu yd]),sf 16 66 [13,15] (fun fv fw=>RV fw fw.heap.size fv (lam*z)),sf 17 67 [11,16] (fun fv fw=>(RVn wr.heap.size) fw fw.heap.size fv (x0+lam*z)),se 18 68 [3,4] (.pointer (some ⟨G2 i,i*3,none⟩))] 1 (SC (fun _ h=>(aIb b0 h).c0) (SC (fun _ h=>(aIb b0 h).c1) (SC (fun _ h=>(aIb b0 h).c2) (SB O0 (SB N0 S0))))) (MA (fun _ _ _ h hb=>h.step hb) (MA (fun _ _ _ h hb=>RVn.step h hb) aFi)) ?_ ?_
     ·intro xs a_ hA;simp only[SX,↓reduceIte,Nat.reduceEqDiff,Nat.reduceAdd] at hA⊢;subst hA;and_intros
      all_goals intro wk b_ z_
      any_goals (intro f2;intros;(refine aDz (i:=3) (o:=_) rfl (fun K hK=>?_));have Q3:=tr B44 b_;have qv0:=(aGn Q3.o (p:=⟨g2,i,none⟩) HO.o.lt).trans l2.o;go_simp;(refine hK _ _ ⟨_,by simp only[FL,f2] <;> kernel_rfl,aDy _ _,rfl⟩))
      any_goals (intro f7;intros;(refine aDz (i:=8) (o:=_) rfl (fun K hK=>?_));have P4:=tr B44 b_;have qv0:=(aGn P4.o (p:=⟨g2,i,none⟩) HO.o.lt).trans l2.o;go_simp;(refine hK _ _ ⟨_,by simp only[FL,f7] <;> kernel_rfl,aDy _ _,rfl⟩))
      any_goals (intro f8 f9;intros;(refine aDz (i:=10) (o:=_) rfl (fun K hK=>?_));have W4:=tr B44 b_;have qv0:=HCA'.o;go_simp;(refine hK _ _ ⟨_,by simp only[FL,f8,f9] <;> kernel_rfl,aDy _ _,rfl⟩))
      any_goals (intro f3 f4;intros;(refine aDz (i:=18) (o:=_) rfl (fun K hK=>?_));have Y4:=tr B44 b_;have qv0:=HCA'.o;go_simp;(refine hK _ _ ⟨_,by simp only[FL,f3,f4] <;> kernel_rfl,aDy _ _,rfl⟩))
      all_goals try exact pl
      ·intro f12;intros;refine wo fun K hK=>?_;go_simp;(with_reducible refine(gU _ _ _ _ _ _ _ _ _).mono ?_)
       rintro e wc52 ⟨e1,rfl⟩;refine hK _ _ ⟨_,by simp only[FL,f12] <;> kernel_rfl,e1,rfl⟩
      ·intro f14;intros;refine wo fun K hK=>?_;go_simp;(with_reducible refine(gU _ _ _ _ _ _ _ _ _).mono ?_)
       rintro e wc53 ⟨g1,rfl⟩;refine hK _ _ ⟨_,by simp only[FL,f14] <;> kernel_rfl,g1,rfl⟩
      ·intro f13 f15;intros;refine wo fun K hK=>?_;go_simp;have X4:=tr B44 b_;have l0:=st aHm HLvr X4;have P0:=st aHf j2 X4;(with_reducible refine(rM _ _ _ lam z l0.o (uX P0.o) (d2.o.mono (by decide) (by decide)) (k2.o.mono (by decide) (by decide))).mono ?_)
       rintro e wc57 ⟨i1,v57,rfl,j1⟩;refine hK _ _ ⟨v57,by simp only[FL,f13,f15] <;> kernel_rfl,i1,j1⟩
      ·intro f11 f16;intros;refine wo fun K hK=>?_;go_simp;have Z4:=tr B44 b_;have Q0:=st aHm U2 Z4;(with_reducible refine(XP _ _ _ _ _ Q0.o f16 (V2.o.mono (by decide) (by decide)) ((d2.o.mul k2.o).mono (by decide) (by decide))).mono ?_)
       rintro e wc60 ⟨k1,v60,rfl,l1⟩;refine hK _ _ ⟨v60,by simp only[FL,f11] <;> kernel_rfl,k1,RVn.weak l1 (by omega)⟩
     ·intro xs m3 B62 z62;simp only[SY];have v1:=tr d1 B62;generalize xs 16=x16,xs 17=x17;rintro f16 f17;clear f16;obtain⟨n3,o3,p3,q3,r3,s1,s3,rfl,v0,hf64⟩:=RVn.opened f17;have R0:=zz v0;have HNs:=zz hf64;clear v0 hf64;have M4:=tr B44 B62;have I1:=zz (aJx HO.o aIk M4.o);obtain⟨hpu,htu⟩:=OM.put (S:=(fun b:Nat=>z1.heap.size≤b)) I1.o G1.o hik hlt T2.o.2 R0.o HNs.o (fun X hX=>by cases hX);have hvb:=OB.far (V1.o.step aEw M4.o) aKb (show g3≠G2 i by have:=r2.o.2 i hlt;omega) htu.soft;rw[N1.o] at hpu;have W2:=zz hpu;have X2:=zz hvb;have Y2:=zz ((HW.o.trans (aLk M4.o)).trans htu);clear hpu htu hvb;have d0:=aIb b0 B62.o;have T0:=ez3 d0;have fz0:=OM.rowfz I1.o hik (i*3);have fz1:=OM.rowfz I1.o hik (i*3+1);have fz2:=OM.rowfz I1.o hik (i*3+2);have flt:=OM.rowlt I1.o hik;refine EN 19 rfl fun K hK=>?_;go_simp;refine hK _ _ ?_;clear hK K fz0 fz1 fz2 flt;(try simp only[PT])
      clear T0;refine ED ?_;(try simp only[Exit.then])
      go_wp2;go_roundw
      case rel=>exact⟨i+1,hlt,by go_num,W2,X2,Y2⟩
      case measure=>exact ms
    ·obtain rfl:i=k:=by omega
     have hend:(i:Int)=(d.length:Int):=by have:=e2.o;omega
     have m2:=zz ((OM.ofEq HO.o (show mapTo (pC lam Dq) i N=T by rw[jU (aGo Q1.o),HT.o];rfl)).mapE (fun _ _ h=>ERo.er h));clear HO;have HBz:=tr O2 HWb;cases hso:aZ T V
     case none=>
      have D1:=zz hso;clear hso;go_wp2_with fail
      refine(nx HBz ((gC _ _ _ _ _ _ _ T V i 130 (B1.o▸m2.o.sl (c:=i) (by rw[B1.o];exact aEa _) (by omega)) (F1.o▸V1.o.sl (c:=i) (by rw[F1.o];exact aEa _) (by omega)) (by rw[B1.o];omega) (by omega) (by rw[B1.o,F1.o];exact aEa _) T1.o ⟨by rw[B1.o];omega,by omega⟩ S1.o R1.o (by decide) (by have:=M1.o;omega)).mono (fun _ _ h=>aEn h.1 (YE D1.o h.2)))).mono ?_;rintro e w68 ⟨⟨B69,z69,m1⟩,rfl⟩;go_wp2;go_ret2;exact⟨m1.o,by rw[HR.o,D1.o];exact⟨_,rfl,rfl⟩⟩
     case some r=>
      have D1:=zz hso;clear hso;go_wp2_with fail
      refine(nx HBz ((gC _ _ _ _ _ _ _ T V i 130 (B1.o▸m2.o.sl (c:=i) (by rw[B1.o];exact aEa _) (by omega)) (F1.o▸V1.o.sl (c:=i) (by rw[F1.o];exact aEa _) (by omega)) (by rw[B1.o];omega) (by omega) (by rw[B1.o,F1.o];exact aEa _) T1.o ⟨by rw[B1.o];omega,by omega⟩ S1.o R1.o (by decide) (by have:=M1.o;omega)).mono (fun _ _ h=>aEn h.1 (YD D1.o h.2)))).mono ?_;rintro e w71 ⟨⟨B72,z72,n1⟩,gx,rfl,hgx,hox⟩;have Z2:=zz hox;clear hox hgx;have hwq:aM T=i:=by rw[aM,T1.o.getD (by rw[B1.o];omega)]
      have hxl:r.length=i:=by rw[jS D1.o,hwq]
      have n2:=zz hxl;have o2:=zz hwq;clear hxl hwq;go_wp2_with fail
      refine(nx n1 (lI _ _ _ _ r (Z2.o.sl (aEa _) (by rw[n2.o];omega)) (fun q hq=>(iY D1.o S1.o R1.o (by decide) q hq).mono (by rw[o2.o];have:=M1.o;omega) (by rw[o2.o];have:=M1.o;omega)) (by rw[n2.o];omega))).mono ?_;rintro e w74 ⟨⟨B75,z75,o1⟩,v,rfl,hv⟩;have a3:=zz hv;clear hv;go_wp2;go_ret2;exact⟨o1.o,by rw[HR.o,D1.o];exact⟨_,rfl,a3.o⟩⟩
end Go.Proofs.YtencnahjgbdeoaaGreatDoor
