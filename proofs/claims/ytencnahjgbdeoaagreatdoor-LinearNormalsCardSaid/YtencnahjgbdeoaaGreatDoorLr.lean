/- Layer 35: Normal (written by gen_lr.py). -/
import Derived.Test.YtencnahjgbdeoaaGreatDoorLopq
namespace Go.Proofs.YtencnahjgbdeoaaGreatDoor
open Go Go.RowKit Dig
set_option maxRecDepth 100000
set_option maxHeartbeats 4000000
set_option linter.unusedSimpArgs false
theorem RK {M:List (List QX)} {b:List QX} {E:Int} {fit:Bool} (hE:E=eF [bD (eA M),bD (dC b)] fit) (hf:fit=decide (b.length=M.length)) :
  (E≠0→dZ M b=(none,E))∧(E=0→dZ M b=(if (∀ r∈bB (aK M),∀ q∈r,eS q)∧∀ q∈bG (aK M) (aW b),eS q then (some (bB (aK M),bG (aK M) (aW b)),0) else (none,6))∧eA M=true∧dC b=true∧b.length=M.length):=by
 cases h1:eA M with
 | false=>rw[h1] at hE;refine⟨fun _=>?_,fun h=>?_⟩;unfold dZ;rw[h1,aEu (by simp),hE];rfl;rw[h] at hE;cases hE
 | true=>
  cases h2:dC b with
  | false=>rw[h1,h2] at hE;refine⟨fun _=>?_,fun h=>?_⟩;unfold dZ;rw[h1,h2,aEu (by simp),hE];rfl;rw[h] at hE;cases hE
  | true=>
   rw[h1,h2] at hE;cases h3:fit with
   | false=>
    rw[h3] at hE hf;have hn:¬ (b.length=M.length):=of_decide_eq_false hf.symm;refine⟨fun _=>?_,fun h=>?_⟩
    ·unfold dZ;rw[h1,h2,aEv ⟨rfl,rfl⟩,aEu hn,hE];rfl
    ·rw[h] at hE;cases hE
   | true=>
    rw[h3] at hE hf;have hp:=aGw hf.symm;refine⟨fun h=>absurd hE h,fun _=>⟨?_,rfl,rfl,hp⟩⟩;unfold dZ;rw[h1,h2,aEv ⟨rfl,rfl⟩,aEv hp]
theorem sX:(Tryz.prog.info? 23).map (fun i=>(i.zero,i.size,i.bytes))=some (some (.slice none 0 0),1,24):=by kernel_rfl
def NO (w:World) (B:Nat) (v1 v2:Value):Option (List (List Rat) × List Rat)→Prop
 | some (m,v)=>QM w B v1 (m.map (List.map qx))∧QS w B v2 (v.map qx)
 | none=>v1=.slice none 0 0∧v2=.slice none 0 0
def aBb (w:World) (r:Option (List (List Rat) × List Rat) × Int) (e:Ending):Prop:=∃ v1 v2,e=.returned (.tuple #[v1,v2,.int .i64 r.2])∧NO w w.heap.size v1 v2 r.1
theorem OM.omv {α:Type} {k:Nat} {E:Elem α} {T TH:TypeId} {w:World} {B tb R:Nat} {G C:Nat→Nat} {M:List (List α)} (h:OM k E T TH w B tb R G C M) (_hl:M.length≤R) (hR:R≤9223372036854775807):OMV k E T TH w B (.slice (some ⟨tb,0,none⟩) M.length R) G C M:=
 ⟨.inr ⟨tb,R,by rw[aV],h.low,hR,h.hdr⟩,h.cap,h.inj,fun i hi=>⟨fun e=>(h.apart i hi).1 (by simp[Value.ownBlock] at e;exact e.symm),(h.apart i hi).2⟩,h.rows⟩
theorem SL.drewNs {α:Type} {k:Nat} {E:Elem α} {w:World} {v:Value} {l:List α} (h:SL k E w w.heap.size v l) (hE:E.Stable) (n:Nat):SL k E (w.drewN n) (w.drewN n).heap.size v l:=h.step hE (aS (aDy _ _) n)
theorem JG (w:World) (A B:Option Addr) (n c m d:Nat) (M:List (List QX)) (b:List QX) (ha:QM w w.heap.size (.slice A n c) M) (hb:QS w w.heap.size (.slice B m d) b) :
  CV 17 #[.slice A n c,.slice B m d] w fun e w'=>aBb w' (dZ M b) e:=by
 obtain⟨rfl,hn1,hn2⟩:=aHb ha;obtain⟨rfl,hm1,hm2⟩:=aHb hb;have HQ:=zz ha;have HS:=zz hb;clear ha hb;obtain⟨w0,hw0⟩:=ex ((w.alloc (.cells #[.slice A M.length c] 22)).alloc (.cells #[.slice B b.length d] 23));have B0:=zz (pK hw0);have z0:=pJ hw0;have La:=pM hw0;have Lb:=pL hw0;have g1:=zz (HQ.o.step (aFl aEf) B0.o);have i1:=zz (HS.o.step aEf B0.o);have HA:=zz La;have HB:=zz Lb;obtain⟨fit,hfit⟩:=ex (α:=Bool) (decide (b.length=M.length));have V0:=zz hfit;clear hfit;obtain⟨E,hE⟩:=ex (eF [bD (eA M),bD (dC b)] fit);have j1:=zz hE;clear hE;go_enter Tryz.func17,Tryz.ntmps17
 go_upto_region 1 with (fail)
 rw[← hw0];clear hw0;have J0:∀ w':World,Below w0.heap.size w0 w'→(Below w0.heap.size w0 w'∧w'.cell? ⟨w.heap.size,0,none⟩=some (.slice A M.length c)∧w'.cell? ⟨w.heap.size+1,0,none⟩=some (.slice B b.length d)):=fun w' h=>⟨h,(aEd La h).cell 0 rfl,(aEd Lb h).cell 0 rfl⟩
 refine aIr 6 (fun w'=>Below w0.heap.size w0 w'∧w'.cell? ⟨w.heap.size,0,none⟩=some (.slice A M.length c)∧w'.cell? ⟨w.heap.size+1,0,none⟩=some (.slice B b.length d)) (by kernel_rfl) ?_;refine ET 0 (.func (.func 47) #[] #[.pointer (some ⟨w.heap.size+1,0,none⟩),.pointer (some ⟨w.heap.size,0,none⟩)]) rfl (Or.inl ⟨by rfl,?_⟩) ?_ ?_
 ·intro w' hSw;obtain⟨-,t0,t1⟩:=hSw;go_simp
 ·exact J0 _ (aA (aDy _ _))
 (try simp only[PT])
 refine ET 1 (.slice A M.length c) rfl (Or.inl ⟨by rfl,?_⟩) ?_ ?_
 ·intro w' hSw;obtain⟨-,t0,t1⟩:=hSw;go_simp
 ·exact J0 _ (aA (aDy _ _))
 (try simp only[PT])
 refine ET 3 (.slice B b.length d) rfl (Or.inl ⟨by rfl,?_⟩) ?_ ?_
 ·intro w' hSw;obtain⟨-,t0,t1⟩:=hSw;go_simp
 ·exact J0 _ (aA (aDy _ _))
 (try simp only[PT])
 refine en 2 rfl fun K hK=>?_;go_simp;(with_reducible refine(gA _ A _ c M (aNe g1.o (aFl aEf))).mono ?_)
 rintro e w2 ⟨c0,rfl⟩;replace c0:Below w0.heap.size w0 w2:=aR c0;have B3:=zz c0;have z3:=B3.o.size;have h0:=tr B0 B3;clear c0;refine hK _ _ (fun _=>J0 _ B3.o) ?_;clear hK K;(try simp only[PT])
 refine en 4 rfl fun K hK=>?_;go_simp;(with_reducible refine(fS _ B _ d b (i1.o.step aEf B3.o)).mono ?_)
 rintro e w5 ⟨u0,rfl⟩;have B6:=zz u0;have z6:=B6.o.size;have d0:=tr h0 B6;clear u0;have P1:=tr B3 B6;refine hK _ _ (fun _=>J0 _ P1.o) ?_;clear hK K;(try simp only[PT])
 refine en 5 rfl fun K hK=>?_;go_simp;refine hK _ _ (fun _=>J0 _ (aB (P1.o) _)) ?_;clear hK K;(try simp only[PT])
 obtain⟨w9,b0⟩:=ex (w5.alloc (.cells #[.int .i64 (bD (eA M)),.int .i64 (bD (dC b))] 40));rw[← b0];have q0:=cL b0;have za9:=cJ b0;have B10:=zz (cK b0);have z10:=B10.o.size;have y0:=tr d0 B10;clear b0;refine en 6 rfl fun K hK=>?_;go_simp;have W1:=tr P1 B10;(with_reducible refine((show Calls Tryz.prog _ _ _ _ from j1.o▸jF _ 47 #[.pointer (some ⟨w.heap.size+1,0,none⟩),.pointer (some ⟨w.heap.size,0,none⟩)] fit _ 2 2 [bD (eA M),bD (dC b)] (kX q0 [_,_] rfl (by simp)) (by simp) xY (fun hz w9 v0=>V0.o▸xZ w9 _ _ A B M.length b.length c d (aEd HA.o (W1.o.trans (v0.mono W1.o.size))) (aEd HB.o (W1.o.trans (v0.mono W1.o.size)))))).mono ?_)
 rintro e w13 ⟨i0,rfl⟩;have B14:=zz i0;have z14:=B14.o.size;have j0:=tr y0 B14;clear i0;have Y1:=tr W1 B14;refine hK _ _ (fun _=>J0 _ Y1.o) ?_;clear hK K;(try simp only[PT])
 refine en 7 rfl fun K hK=>?_;go_simp;refine hK _ _ (fun h=>absurd h (by decide)) ?_;clear hK K;(try simp only[PT])
 refine aIj (by kernel_rfl) ?_ _;(try simp only[Exit.then])
 clear J0;have hsa:=RK j1.o V0.o;by_cases hE0:E=0
 case neg=>
  have hx:(E != 0)=true:=by rw[aJg];exact hE0
  have HR:=zz (hsa.1 hE0);clear hE0 hsa;go_wp2;go_ret3;exact⟨j0.o,by rw[HR.o];exact⟨_,_,rfl,rfl,rfl⟩⟩
 case pos=>
  obtain⟨hr,h1,h2,h3⟩:=hsa.2 hE0;subst hE0;obtain⟨-,hs4,hw4,hm1,hm2,hw1,hw2⟩:=jM h1;obtain⟨-,k0,-,-⟩:=fM h2;obtain⟨k,hk⟩:=ex (aM (aK M));rw[← hk] at hw4 hw1 hw2;obtain⟨N,hN⟩:=ex (bB (aK M));obtain⟨V,hV⟩:=ex (bG (aK M) (aW b));have hnl:N.length=k:=by rw[hN,mZ,hk]
  have hvl:V.length=k:=by rw[hV,mY,hk]
  have hnw:Wide N k:=by rw[hN,hk];exact rD
  have hml:(aK M).length=M.length:=by rw[aK,aEb]
  have hns:Short 117 N:=by rw[hN];exact(kM hs4 (by decide)).mono (by rw[hml];omega)
  have hvs:∀ q∈V,QL 117 117 q:=by rw[hV];exact fun q hq=>((kL hs4 k0 (by decide) (by decide)) q hq).mono (by rw[hml];omega) (by rw[hml];omega)
  rw[← hN,← hV] at hr;have HR:=zz hr;have H1:=zz h1;have H2:=zz h2;have H3:=zz h3;have m1:=zz hs4;have n1:=zz hw4;have h0:=zz k0;have K0:=zz (aEn hm1 (aEn hm2 (aEn hw1 hw2)));have HK:=zz hk;have HN:=zz hN;have HV:=zz hV;have I0:=zz hnl;have L0:=zz hvl;have o1:=zz hnw;have p1:=zz hns;have q1:=zz hvs;clear hr h1 h2 h3 hs4 hw4 k0 hm1 hm2 hw1 hw2 hsa hk hN hV hnl hvl hnw hml hns hvs;go_upto_region 4 with (fail)
  have r0:=aEd La Y1.o;have s0:=aEd Lb Y1.o;have r1:=zz r0;have HB4':=zz s0;have s1:=zz (g1.o.step (aFl aEf) Y1.o);have HS4':=zz (i1.o.step aEf Y1.o);have H0:∀ w':World,Below w13.heap.size w13 w'→(Below w13.heap.size w13 w'∧w'.cell? ⟨w.heap.size,0,none⟩=some (.slice A M.length c)∧w'.cell? ⟨w.heap.size+1,0,none⟩=some (.slice B b.length d)):=fun w' h=>⟨h,(aEd r1.o h).cell 0 rfl,(aEd HB4'.o h).cell 0 rfl⟩
  refine aIr 9 (fun w'=>Below w13.heap.size w13 w'∧w'.cell? ⟨w.heap.size,0,none⟩=some (.slice A M.length c)∧w'.cell? ⟨w.heap.size+1,0,none⟩=some (.slice B b.length d)) (by kernel_rfl) ?_;refine ET 0 (.slice A M.length c) rfl (Or.inl ⟨by rfl,?_⟩) ?_ ?_
  ·intro w' hSw;obtain⟨-,t0,t1⟩:=hSw;go_simp
  ·exact H0 _ (aA (aDy _ _))
  (try simp only[PT])
  refine ET 2 (.slice B b.length d) rfl (Or.inl ⟨by rfl,?_⟩) ?_ ?_
  ·intro w' hSw;obtain⟨-,t0,t1⟩:=hSw;go_simp
  ·exact H0 _ (aA (aDy _ _))
  (try simp only[PT])
  refine en 1 rfl fun K hK=>?_;go_simp;(with_reducible refine(fF _ A _ c M (aNe s1.o (aFl aEf)) H1.o).mono ?_)
  rintro e w20 ⟨a0,g,G,C,rfl,hom⟩;replace a0:Below w13.heap.size w13 w20:=aR a0;have B21:=zz a0;have z21:=B21.o.size;have A0:=tr j0 B21;clear a0;refine hK _ _ (fun _=>H0 _ B21.o) ?_;clear hK K;(try simp only[PT])
  have u1:=zz hom;clear hom;refine en 3 rfl fun K hK=>?_;go_simp;(with_reducible refine(iH _ B _ d b (HS4'.o.step aEf B21.o) H2.o).mono ?_)
  rintro e w23 ⟨l0,g',rfl,hgl,hol⟩;have B24:=zz l0;have z24:=B24.o.size;have C0:=tr A0 B24;clear l0;have X1:=tr B21 B24;refine hK _ _ (fun _=>H0 _ X1.o) ?_;clear hK K;(try simp only[PT])
  have v1:=zz hol;have K1:=zz hgl;clear hol hgl;refine en 4 rfl fun K hK=>?_;go_simp;(with_reducible refine(iK _ _ _ _ _ _ _ (aK M) (aW b) k 4 4 (slM (u1.o.step aEw B24.o) (by have:=K0.o;omega)) (slR v1.o (by have:=K0.o;have:=H3.o;omega)) (by rw[aK,aEb];have:=K0.o;omega) (by rw[aK,aW,aEb,aEb,H3.o]) n1.o ⟨by rw[aK,aEb];have:=K0.o;omega,by have:=K0.o;omega⟩ m1.o h0.o (by decide) (by rw[aK,aEb];have:=K0.o;omega)).mono ?_)
  rintro e w27 ⟨m0,g2,G2,C2,g3,rfl,hom2,hgl2,hol2,hap2⟩;have B28:=zz m0;have z28:=B28.o.size;have n0:=tr C0 B28;clear m0;have Z1:=tr X1 B28;refine hK _ _ (fun _=>H0 _ Z1.o) ?_;clear hK K;(try simp only[PT])
  rw[← HN.o] at hom2;rw[← HV.o] at hol2;have W0:=zz hom2;have X0:=zz hol2;have Q0:=zz hap2;have Y0:=zz hgl2;clear hom2 hgl2 hol2 hap2;refine en 5 rfl fun K hK=>?_;go_simp;refine hK _ _ (fun _=>H0 _ (Z1.o)) ?_;clear hK K;(try simp only[PT])
  refine ET 7 (.slice (some ⟨g3,0,none⟩) k k) rfl (Or.inl ⟨by rfl,?_⟩) ?_ ?_
  ·intro w' hSw;obtain⟨-,t0,t1⟩:=hSw;go_simp
  ·exact H0 _ (Z1.o)
  (try simp only[PT])
  refine en 6 rfl fun K hK=>?_;go_simp;refine hK _ _ (fun _=>H0 _ (Z1.o)) ?_;clear hK K;(try simp only[PT])
  refine en 8 rfl fun K hK=>?_;go_simp;refine hK _ _ (fun _=>H0 _ (Z1.o)) ?_;clear hK K;(try simp only[PT])
  refine en 9 rfl fun K hK=>?_;go_simp;refine hK _ _ (fun h=>absurd h (by decide)) ?_;clear hK K;(try simp only[PT])
  refine aIj (by kernel_rfl) ?_ _;(try simp only[Exit.then])
  clear H0;obtain⟨ir,hir,hzr,hsr,hbr⟩:=aGf nB;obtain⟨il,hil,hzl,hsl,hbl⟩:=aGf sX;have e0:Below w27.heap.size w27 (w27.alloc (.cells #[.slice (some ⟨g3,0,none⟩) k k] 65)):=aB (aDy _ _) _;have hkk:(k:Int)≤6∧(1:Int)≤(k:Int):=by have:=K0.o;omega
  have homv:=OM.omv (W0.o.weak (show w.heap.size≤_ by omega)) (by rw[I0.o];exact aEa _) (by omega);rw[I0.o] at homv;have R0:=zz (homv.step aEw e0);have Z0:=zz (X0.o.step aEw e0);have x0:=zz (n0.o.trans (e0.mono n0.o.size));clear homv e0;go_wp2_with (at_builtin;go_loud (refine aO rfl _ _ _ rfl w.heap.size 65 ir _ 24 Tryz.underlying78 hir hzr hsr hbr rfl (by decide) (by decide) aLi aLj R0.o.hdr rfl ⟨w27.heap.size,0,none⟩ 1 [.slice (some ⟨g3,0,none⟩) k k] rfl Nat.one_pos [.slice (some ⟨g3,0,none⟩) k k] (aLt rfl ⟨rfl,rfl⟩) (cell_one_new _ _ _) (by intro u hu;simp at hu;subst hu;rfl) (by simp only[aV,I0.o,aEl,aEm,maxLen];omega) (by simp only[aV,I0.o,aEl,aEm];omega) (by have:=x0.o.size;simpa using this) ?_))
  intro v5 w5 hoa hb hs' hg' hat;have happ:=R0.o.app aKb (g:=g3) (c:=k) (l:=V) ⟨by have:=Y0.o;omega,fun e=>by have h1:=Q0.o.1;simp[Value.ownBlock] at e;omega⟩ (fun i hi=>by have:=Q0.o.2 i (by rw[← I0.o];exact hi);omega) ⟨by rw[L0.o];exact aEa _,by omega⟩ Z0.o (by rw[L0.o];exact hoa) hs' hg' (by simpa using hat);obtain⟨Q,hQ⟩:=ex (N++[V]);rw[← hQ] at happ;have hql:Q.length=k+1:=by rw[hQ,aEp,I0.o];rfl
  have hqw:∀ r∈Q,r.length=k∧∀ q∈r,QL 117 117 q:=fun r hr=>by
   rw[hQ] at hr;rcases aGb.1 hr with h | h
   ·exact⟨o1.o r h,p1.o r h⟩
   ·rw[aHt.1 h];exact⟨L0.o,q1.o⟩
  obtain⟨A5,c5,rfl,hc5,hc5'⟩:=aHi happ.sl;have hsl5:=happ.sl;rw[hql] at hsl5 hc5 ⊢;have w1:=zz hsl5;have f0:=zz (x0.o.trans hb);have S0:=zz hql;have x1:=zz hqw;have N0:=zz hQ;clear happ hsl5 hoa hb hs' hg' hat hql hqw hQ R0 Z0 W0 X0 Q0 Y0;have D0:=zz (aDy w5.heap.size w5);have G0:(k:Int)+1≤7:=by omega
  go_wp2;go_loopw [4,37] (fun mv iv wr=>∃ (j:Nat) (G C:Nat→Nat),j≤k+1∧iv=.int .i64 j∧Hi (OMV 4 EQ 28 23 wr w5.heap.size mv G C ((Q.take j).map (List.map qx)))∧Hi (∀ r∈Q.take j,∀ q∈r,eS q)∧Hi (Below w5.heap.size w5 wr)) (fun _ iv _=>k+1-(intOf iv).toNat)
  case atStart=>exact⟨0,fun _=>0,fun _=>0,aEy _,rfl,zz OMV.nil,zz (fun r h=>by simp at h),D0⟩
  case round=>
   obtain⟨j,G,C,hj,rfl,HO,HF,HW⟩:=hrel;have zr:=HW.o.size;by_cases hlt:j<k+1
   ·have hjq:j<Q.length:=by rw[S0.o];exact hlt
    obtain⟨g,off,A6,c6,rfl,hg,hcell,hrow⟩:=aKy (show RM w5 w5.heap.size (.slice A5 Q.length c5) Q from by rw[S0.o];exact w1.o) hjq;replace hcell:=(HW.o.cell (p:=⟨g,off+j,none⟩) hg).trans hcell;have T0:=zz (hrow.step aEw HW.o);clear hrow hg;have hji:(0:Int)≤(j:Int)∧(j:Int)<(k:Int)+1:=by omega
    have hnj:(j:Int)<((k+1:Nat):Int):=by omega
    have htk:Q.take (j+1)=Q.take j++[Q[j]]:=by rw[aFj,aEh hjq];rfl
    have a1:=zz htk;have HM:=zz (aEc hjq);have M0:=zz (x1.o _ (aEc hjq));clear htk;generalize Q[j]=r at hcell T0 a1 HM M0;have hrl:r.length=k:=M0.o.1;rw[hrl] at hcell T0;by_cases hfit:∀ q∈r,eS q
    case neg=>
     have b1:=zz (show fO r=(none,6) from aEu hfit);have c1:=zz (HR.o.trans (aEu (fun h=>hfit (fun q hq=>by have hm:=HM.o;rw[N0.o] at hm;rcases aGb.1 hm with h1 | h1;exact h.1 r h1 q hq;rw[aHt.1 h1] at hq;exact h.2 q hq))));clear hfit;go_wp2_with fail
     refine(sV _ A6 k c6 r T0.o (fun q hq=>(M0.o.2 q hq).mono (by decide) (by decide)) (by rw[M0.o.1];omega)).mono ?_;rintro e w31 ⟨o0,v,rfl,hv⟩;have B32:=zz o0;have z32:=B32.o.size;clear o0;rw[b1.o] at hv ⊢;obtain rfl:=hv;go_wp2;go_ret3;exact⟨f0.o.trans ((HW.o.trans (B32.o.mono HW.o.size)).mono f0.o.size),by rw[c1.o];exact⟨_,_,rfl,rfl,rfl⟩⟩
    case pos=>
     have b1:=zz (show fO r=(some r,0) from aEv hfit);have z1:=zz (show ∀ r∈Q.take (j+1),∀ q∈r,eS q from fun r' h=>by rw[a1.o] at h;rcases aGb.1 h with h | h;exact HF.o r' h;rw[aHt.1 h];exact hfit);clear hfit;go_wp2_with fail
     refine(sV _ A6 k c6 r T0.o (fun q hq=>(M0.o.2 q hq).mono (by decide) (by decide)) (by rw[M0.o.1];omega)).mono ?_;rintro e w33 ⟨p0,v,rfl,hv⟩;have B34:=zz p0;have z34:=B34.o.size;clear p0;rw[b1.o] at hv ⊢;obtain⟨g6,c7,E0,hg7,hc7,ho7⟩:∃ g c,v=.slice (some ⟨g,0,none⟩) k c∧wr.heap.size≤g∧c≤9223372036854775807∧OB 4 EQ 28 w33 g c (r.map qx):=by
      rcases hv with ⟨-,e⟩ | ⟨g,c,e1,e2,e3,e4⟩
      ·have:=aIl List.length e;rw[aEb,hrl] at this;simp at this;omega
      ·rw[aEb,hrl] at e1;exact⟨g,c,e1,e2,e3,e4⟩
     subst E0;have g0:Below w33.heap.size w33 (w33.alloc (.cells #[.slice (some ⟨g6,0,none⟩) k c7] 23)):=aB (aDy _ _) _;have A1:=zz (aKi ho7 aEf g0);have k1:=zz ((HO.o.step aEf B34.o).step aEf g0);have d0:=zz ((HW.o.trans (B34.o.mono HW.o.size)).trans (g0.mono (by omega)));have P0:=zz (aEn hg7 (aEn hc7 ho7.len));clear hv g0 ho7 hg7 hc7;go_wp2_with (at_builtin;go_loud (refine aO rfl _ _ _ rfl w5.heap.size 23 il _ 24 Tryz.underlying22 hil hzl hsl hbl rfl (by decide) (by decide) aLi aLj k1.o.hdr rfl ⟨w33.heap.size,0,none⟩ 1 [.slice (some ⟨g6,0,none⟩) k c7] rfl Nat.one_pos [.slice (some ⟨g6,0,none⟩) k c7] (aLt rfl ⟨rfl,rfl⟩) (cell_one_new _ _ _) (by intro u hu;simp at hu;subst hu;rfl) (by simp only[aV,aEb,aEk,aEl,aEm,maxLen];omega) (by simp only[aV,aEb,aEk,aEl,aEm];omega) (by have:=d0.o.size;simpa using this) ?_))
     intro v8 w8 hoa hb hs' hg' hat;have hl8:(r.map qx).length=k:=by rw[aEb,hrl]
     have happ:=k1.o.app aIz (g:=g6) (c:=c7) (l:=r.map qx) ⟨by have:=P0.o.1;omega,fun e=>by have:=(HO.o.hdr.blk e).1;have:=P0.o.1;omega⟩ (fun i hi=>by have:=(HO.o.rows i hi).lt;have:=P0.o.1;omega) ⟨P0.o.2.2,P0.o.2.1⟩ A1.o (by rw[hl8];simpa[aV] using hoa) hs' hg' (by simpa using hat);have l1:Hi (OMV 4 EQ 28 23 w8 w5.heap.size v8 _ _ ((Q.take (j+1)).map (List.map qx))):=zz (by rw[a1.o,aGc];exact happ);have F0:=zz (d0.o.trans hb);clear happ hoa hb hs' hg' hat;go_wp2;go_roundw
     case rel=>exact⟨j+1,_,_,hlt,by go_num,l1,z1,F0⟩
     case measure=>exact ms
   ·obtain rfl:j=k+1:=by omega
    rw[aFa (aGo S0.o)] at HO HF;have hml:(Q.map (List.map qx)).length=k+1:=by rw[aEb,S0.o]
    obtain⟨tb,R,hv,hR,hom⟩:=HO.o.om (by rw[hml];omega);have hhd:=hom.cell k (by rw[hml];omega);have hro:=hom.rows k (by rw[hml];omega);have hca:=hom.cap k (by rw[hml];omega);have hqk:(Q.map (List.map qx))[k]'(by rw[hml];omega)=V.map qx:=by
     rw[aGm];congr 1;simp only[N0.o];rw[aHr (by rw[I0.o];exact aEa _)];simp[I0.o]
    rw[hqk] at hhd hro hca;rw[aEb,L0.o] at hhd hca;have c1:=zz (HR.o.trans (aEv ⟨fun r hr q hq=>HF.o r (by rw[N0.o];exact aKg _ hr) q hq,fun q hq=>HF.o V (by rw[N0.o];exact aLh _ (aHt.2 rfl)) q hq⟩));have hslm:=(hom.sl (c:=R) (by have:=hom.hdr.len;rwa [aV] at this) hR).take (n:=k) (by rw[hml];omega);have htk:(Q.map (List.map qx)).take k=N.map (List.map qx):=by rw[← List.map_take,N0.o,List.take_left' I0.o]
    rw[htk] at hslm;rw[hml] at hv;subst hv;have hRk:(k:Int)+1≤(R:Int):=by have:=hom.hdr.len;rw[aV,hml] at this;omega
    have hslv:=hro.sl (c:=C k) (by rw[aEb,L0.o];exact hca.1) hca.2;rw[aEb,L0.o] at hslv;have B1:=zz hslm;have C1:=zz hslv;have htl:=hom.lt;clear hslm hslv hro hom hqk htk HO;go_upto_region 13 with (fail);go_quiet (fail);go_wp2;go_ret3
    exact⟨aS (f0.o.trans (HW.o.mono f0.o.size)) _,by rw[c1.o];exact⟨_,_,rfl,SL.drewNs B1.o (aFl aEf) _,SL.drewNs C1.o aEf _⟩⟩
end Go.Proofs.YtencnahjgbdeoaaGreatDoor
