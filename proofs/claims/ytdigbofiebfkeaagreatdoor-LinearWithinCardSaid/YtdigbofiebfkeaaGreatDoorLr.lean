/- Layer 35: Normal (written by gen_lr.py). -/
import Derived.Test.YtdigbofiebfkeaaGreatDoorLopq
namespace Go.Proofs.YtdigbofiebfkeaaGreatDoor
open Go Go.RowKit Dig
set_option maxRecDepth 100000
set_option maxHeartbeats 4000000
set_option linter.unusedSimpArgs false
theorem normal_of {M:List (List QX)} {b:List QX} {E:Int} {fit:Bool} (hE:E=firstE [sysE (okM M),sysE (okL b)] fit) (hf:fit=decide (b.length=M.length)) :
  (E≠0→normalA M b=(none,E))∧(E=0→normalA M b=(if (∀ r∈normM (ratM M),∀ q∈r,fitQ q)∧∀ q∈normV (ratM M) (rats b),fitQ q then (some (normM (ratM M),normV (ratM M) (rats b)),0) else (none,6))∧okM M=true∧okL b=true∧b.length=M.length):=by
 cases h1:okM M with
 | false=>rw[h1] at hE;refine⟨fun _=>?_,fun h=>?_⟩;unfold normalA;rw[h1,if_neg (by simp),hE];rfl;rw[h] at hE;cases hE
 | true=>
  cases h2:okL b with
  | false=>rw[h1,h2] at hE;refine⟨fun _=>?_,fun h=>?_⟩;unfold normalA;rw[h1,h2,if_neg (by simp),hE];rfl;rw[h] at hE;cases hE
  | true=>
   rw[h1,h2] at hE;cases h3:fit with
   | false=>
    rw[h3] at hE hf;have hn:¬ (b.length=M.length):=of_decide_eq_false hf.symm;refine⟨fun _=>?_,fun h=>?_⟩
    ·unfold normalA;rw[h1,h2,if_pos ⟨rfl,rfl⟩,if_neg hn,hE];rfl
    ·rw[h] at hE;cases hE
   | true=>
    rw[h3] at hE hf;have hp:=of_decide_eq_true hf.symm;refine⟨fun h=>absurd hE h,fun _=>⟨?_,rfl,rfl,hp⟩⟩;unfold normalA;rw[h1,h2,if_pos ⟨rfl,rfl⟩,if_pos hp]
theorem info_list:(Tryz.prog.info? 28).map (fun i=>(i.zero,i.size,i.bytes))=some (some (.slice none 0 0),1,24):=by kernel_rfl
def NO (w:World) (B:Nat) (v1 v2:Value):Option (List (List Rat) × List Rat)→Prop
 | some (m,v)=>QM w B v1 (m.map (List.map qx))∧QS w B v2 (v.map qx)
 | none=>v1=.slice none 0 0∧v2=.slice none 0 0
def RetN (w:World) (r:Option (List (List Rat) × List Rat) × Int) (e:Ending):Prop:=∃ v1 v2,e=.returned (.tuple #[v1,v2,.int .i64 r.2])∧NO w w.heap.size v1 v2 r.1
theorem OM.omv {α:Type} {k:Nat} {E:Elem α} {T TH:TypeId} {w:World} {B tb R:Nat} {G C:Nat→Nat} {M:List (List α)} (h:OM k E T TH w B tb R G C M) (_hl:M.length≤R) (hR:R≤9223372036854775807):OMV k E T TH w B (.slice (some ⟨tb,0,none⟩) M.length R) G C M:=
 ⟨.inr ⟨tb,R,by rw[hdL_len],h.low,hR,h.hdr⟩,h.cap,h.inj,fun i hi=>⟨fun e=>(h.apart i hi).1 (by simp[Value.ownBlock] at e;exact e.symm),(h.apart i hi).2⟩,h.rows⟩
theorem SL.drewNs {α:Type} {k:Nat} {E:Elem α} {w:World} {v:Value} {l:List α} (h:SL k E w w.heap.size v l) (hE:E.Stable) (n:Nat):SL k E (w.drewN n) (w.drewN n).heap.size v l:=h.step hE (below_drewN (Below.refl _ _) n)
theorem LNormal_any (w:World) (A B:Option Addr) (n c m d:Nat) (M:List (List QX)) (b:List QX) (ha:QM w w.heap.size (.slice A n c) M) (hb:QS w w.heap.size (.slice B m d) b) :
  Calls Tryz.prog 27 #[.slice A n c,.slice B m d] w fun e w'=>Below w.heap.size w w'∧RetN w' (normalA M b) e:=by
 obtain⟨rfl,hn1,hn2⟩:=SL.len ha;obtain⟨rfl,hm1,hm2⟩:=SL.len hb;have HQ:=zz ha;have HS:=zz hb;clear ha hb;obtain⟨w0,hw0⟩:∃ w0:World,w0=((w.alloc (.cells #[.slice A M.length c] 27)).alloc (.cells #[.slice B b.length d] 28)):=⟨_,rfl⟩;have B0:=zz (n2_b hw0);have z0:=n2_z hw0;have La:=n2_0 hw0;have Lb:=n2_1 hw0;have g1:=zz (HQ.out.step (SE.stable EQ.stable) B0.out);have i1:=zz (HS.out.step EQ.stable B0.out);have HA:=zz La;have HB:=zz Lb;obtain⟨fit,hfit⟩:∃ fit:Bool,fit=decide (b.length=M.length):=⟨_,rfl⟩;have V0:=zz hfit;clear hfit;obtain⟨E,hE⟩:∃ E,E=firstE [sysE (okM M),sysE (okL b)] fit:=⟨_,rfl⟩;have j1:=zz hE;clear hE;go_enter Tryz.func27,Tryz.ntmps27
 go_upto_region 1 with (fail)
 rw[← hw0];clear hw0;have J0:∀ w':World,Below w0.heap.size w0 w'→(Below w0.heap.size w0 w'∧w'.cell? ⟨w.heap.size,0,none⟩=some (.slice A M.length c)∧w'.cell? ⟨w.heap.size+1,0,none⟩=some (.slice B b.length d)):=fun w' h=>⟨h,(CB.step La h).cell 0 rfl,(CB.step Lb h).cell 0 rfl⟩
 refine Early.start 6 (fun w'=>Below w0.heap.size w0 w'∧w'.cell? ⟨w.heap.size,0,none⟩=some (.slice A M.length c)∧w'.cell? ⟨w.heap.size+1,0,none⟩=some (.slice B b.length d)) (by kernel_rfl) ?_;refine Early.take (i:=0) (.func (.func 69) #[] #[.pointer (some ⟨w.heap.size+1,0,none⟩),.pointer (some ⟨w.heap.size,0,none⟩)]) rfl (by kernel_rfl) (by kernel_rfl) (by kernel_rfl) (by kernel_rfl) (by kernel_rfl) (fun _ _ _ h=>h) (Or.inl ⟨by rfl,?_⟩) ?_ ?_
 ·intro w' hSw;obtain⟨-,t0,t1⟩:=hSw;go_simp
 ·exact J0 _ (below_drew1 (Below.refl _ _))
 (try simp only[PT])
 refine Early.take (i:=1) (.slice A M.length c) rfl (by kernel_rfl) (by kernel_rfl) (by kernel_rfl) (by kernel_rfl) (by kernel_rfl) (fun _ _ _ h=>h) (Or.inl ⟨by rfl,?_⟩) ?_ ?_
 ·intro w' hSw;obtain⟨-,t0,t1⟩:=hSw;go_simp
 ·exact J0 _ (below_drew1 (Below.refl _ _))
 (try simp only[PT])
 refine Early.take (i:=3) (.slice B b.length d) rfl (by kernel_rfl) (by kernel_rfl) (by kernel_rfl) (by kernel_rfl) (by kernel_rfl) (fun _ _ _ h=>h) (Or.inl ⟨by rfl,?_⟩) ?_ ?_
 ·intro w' hSw;obtain⟨-,t0,t1⟩:=hSw;go_simp
 ·exact J0 _ (below_drew1 (Below.refl _ _))
 (try simp only[PT])
 refine Early.next (i:=2) (by kernel_rfl) rfl (fun K hK=>?_);go_simp;(with_reducible refine(LCheck_any _ A _ c M (SL.drew1 g1.out (SE.stable EQ.stable))).mono ?_)
 rintro e w2 ⟨c0,rfl⟩;replace c0:Below w0.heap.size w0 w2:=below_undrew c0;have B3:=zz c0;have z3:=B3.out.size;have h0:=tr B0 B3;clear c0;refine hK _ _ (fun _=>J0 _ B3.out) ?_;clear hK K;(try simp only[PT])
 refine Early.next (i:=4) (by kernel_rfl) rfl (fun K hK=>?_);go_simp;(with_reducible refine(list_any _ B _ d b (i1.out.step EQ.stable B3.out)).mono ?_)
 rintro e w5 ⟨u0,rfl⟩;have B6:=zz u0;have z6:=B6.out.size;have d0:=tr h0 B6;clear u0;have P1_3_8:=tr B3 B6;refine hK _ _ (fun _=>J0 _ P1_3_8.out) ?_;clear hK K;(try simp only[PT])
 refine Early.next (i:=5) (by kernel_rfl) rfl (fun K hK=>?_);go_simp;refine hK _ _ (fun _=>J0 _ (below_alloc1 (P1_3_8.out) _)) ?_;clear hK K;(try simp only[PT])
 obtain⟨w9,b0⟩:∃ w9:World,w9=(w5.alloc (.cells #[.int .i64 (sysE (okM M)),.int .i64 (sysE (okL b))] 37)):=⟨_,rfl⟩;rw[← b0];have q0:=n1_0 b0;have za9:=n1_z b0;have B10:=zz (n1_b b0);have z10:=B10.out.size;have y0:=tr d0 B10;clear b0;refine Early.next (i:=6) (by kernel_rfl) rfl (fun K hK=>?_);go_simp;have P1_4_12:=tr P1_3_8 B10;(with_reducible refine((show Calls Tryz.prog _ _ _ _ from j1.out▸first_any _ 69 #[.pointer (some ⟨w.heap.size+1,0,none⟩),.pointer (some ⟨w.heap.size,0,none⟩)] fit _ 2 2 [sysE (okM M),sysE (okL b)] (ri_cells q0 [_,_] rfl (by simp)) (by simp) normalFit_run (fun hz w9 v0=>V0.out▸normalFit_any w9 _ _ A B M.length b.length c d (CB.step HA.out (P1_4_12.out.trans (v0.mono P1_4_12.out.size))) (CB.step HB.out (P1_4_12.out.trans (v0.mono P1_4_12.out.size)))))).mono ?_)
 rintro e w13 ⟨i0,rfl⟩;have B14:=zz i0;have z14:=B14.out.size;have j0:=tr y0 B14;clear i0;have P1_5_16:=tr P1_4_12 B14;refine hK _ _ (fun _=>J0 _ P1_5_16.out) ?_;clear hK K;(try simp only[PT])
 refine Early.next (i:=7) (by kernel_rfl) rfl (fun K hK=>?_);go_simp;refine hK _ _ (fun h=>absurd h (by decide)) ?_;clear hK K;(try simp only[PT])
 refine Early.done (by kernel_rfl) ?_ _;(try simp only[Exit.then])
 clear J0;have hsa:=normal_of j1.out V0.out;by_cases hE0:E=0
 case neg=>
  have hx:(E != 0)=true:=by rw[bne_iff_ne];exact hE0
  have HR:=zz (hsa.1 hE0);clear hE0 hsa;go_wp2;go_ret3;exact⟨j0.out,by rw[HR.out];exact⟨_,_,rfl,rfl,rfl⟩⟩
 case pos=>
  obtain⟨hr,h1,h2,h3⟩:=hsa.2 hE0;subst hE0;obtain⟨-,hs4,hw4,hm1,hm2,hw1,hw2⟩:=okM_is h1;obtain⟨-,k0,-,-⟩:=okL_is h2;obtain⟨k,hk⟩:∃ k,k=wideQ (ratM M):=⟨_,rfl⟩;rw[← hk] at hw4 hw1 hw2;obtain⟨N,hN⟩:∃ N,N=normM (ratM M):=⟨_,rfl⟩;obtain⟨V,hV⟩:∃ V,V=normV (ratM M) (rats b):=⟨_,rfl⟩;have hnl:N.length=k:=by rw[hN,normM_ln,hk]
  have hvl:V.length=k:=by rw[hV,normV_ln,hk]
  have hnw:Wide N k:=by rw[hN,hk];exact normM_wd
  have hml:(ratM M).length=M.length:=by rw[ratM,List.length_map]
  have hns:Short 117 N:=by rw[hN];exact(normM_short hs4 (by decide)).mono (by rw[hml];omega)
  have hvs:∀ q∈V,QL 117 117 q:=by rw[hV];exact fun q hq=>((normV_short hs4 k0 (by decide) (by decide)) q hq).mono (by rw[hml];omega) (by rw[hml];omega)
  rw[← hN,← hV] at hr;have HR:=zz hr;have H1:=zz h1;have H2:=zz h2;have H3:=zz h3;have m1:=zz hs4;have n1:=zz hw4;have h0:=zz k0;have K0:=zz (And.intro hm1 (And.intro hm2 (And.intro hw1 hw2)));have HK:=zz hk;have HN:=zz hN;have HV:=zz hV;have I0:=zz hnl;have L0:=zz hvl;have o1:=zz hnw;have p1:=zz hns;have q1:=zz hvs;clear hr h1 h2 h3 hs4 hw4 k0 hm1 hm2 hw1 hw2 hsa hk hN hV hnl hvl hnw hml hns hvs;go_upto_region 4 with (fail)
  have r0:=CB.step La P1_5_16.out;have s0:=CB.step Lb P1_5_16.out;have r1:=zz r0;have HB4':=zz s0;have s1:=zz (g1.out.step (SE.stable EQ.stable) P1_5_16.out);have HS4':=zz (i1.out.step EQ.stable P1_5_16.out);have H0:∀ w':World,Below w13.heap.size w13 w'→(Below w13.heap.size w13 w'∧w'.cell? ⟨w.heap.size,0,none⟩=some (.slice A M.length c)∧w'.cell? ⟨w.heap.size+1,0,none⟩=some (.slice B b.length d)):=fun w' h=>⟨h,(CB.step r1.out h).cell 0 rfl,(CB.step HB4'.out h).cell 0 rfl⟩
  refine Early.start 9 (fun w'=>Below w13.heap.size w13 w'∧w'.cell? ⟨w.heap.size,0,none⟩=some (.slice A M.length c)∧w'.cell? ⟨w.heap.size+1,0,none⟩=some (.slice B b.length d)) (by kernel_rfl) ?_;refine Early.take (i:=0) (.slice A M.length c) rfl (by kernel_rfl) (by kernel_rfl) (by kernel_rfl) (by kernel_rfl) (by kernel_rfl) (fun _ _ _ h=>h) (Or.inl ⟨by rfl,?_⟩) ?_ ?_
  ·intro w' hSw;obtain⟨-,t0,t1⟩:=hSw;go_simp
  ·exact H0 _ (below_drew1 (Below.refl _ _))
  (try simp only[PT])
  refine Early.take (i:=2) (.slice B b.length d) rfl (by kernel_rfl) (by kernel_rfl) (by kernel_rfl) (by kernel_rfl) (by kernel_rfl) (fun _ _ _ h=>h) (Or.inl ⟨by rfl,?_⟩) ?_ ?_
  ·intro w' hSw;obtain⟨-,t0,t1⟩:=hSw;go_simp
  ·exact H0 _ (below_drew1 (Below.refl _ _))
  (try simp only[PT])
  refine Early.next (i:=1) (by kernel_rfl) rfl (fun K hK=>?_);go_simp;(with_reducible refine(readM_any _ A _ c M (SL.drew1 s1.out (SE.stable EQ.stable)) H1.out).mono ?_)
  rintro e w20 ⟨a0,g,G,C,rfl,hom⟩;replace a0:Below w13.heap.size w13 w20:=below_undrew a0;have B21:=zz a0;have z21:=B21.out.size;have A0:=tr j0 B21;clear a0;refine hK _ _ (fun _=>H0 _ B21.out) ?_;clear hK K;(try simp only[PT])
  have u1:=zz hom;clear hom;refine Early.next (i:=3) (by kernel_rfl) rfl (fun K hK=>?_);go_simp;(with_reducible refine(readL_any _ B _ d b (HS4'.out.step EQ.stable B21.out) H2.out).mono ?_)
  rintro e w23 ⟨l0,g',rfl,hgl,hol⟩;have B24:=zz l0;have z24:=B24.out.size;have C0:=tr A0 B24;clear l0;have P5_7_26:=tr B21 B24;refine hK _ _ (fun _=>H0 _ P5_7_26.out) ?_;clear hK K;(try simp only[PT])
  have v1:=zz hol;have K1:=zz hgl;clear hol hgl;refine Early.next (i:=4) (by kernel_rfl) rfl (fun K hK=>?_);go_simp;(with_reducible refine(normal_any _ _ _ _ _ _ _ (ratM M) (rats b) k 4 4 (slM (u1.out.step ER.stable B24.out) (by have:=K0.out;omega)) (slR v1.out (by have:=K0.out;have:=H3.out;omega)) (by rw[ratM,List.length_map];have:=K0.out;omega) (by rw[ratM,rats,List.length_map,List.length_map,H3.out]) n1.out ⟨by rw[ratM,List.length_map];have:=K0.out;omega,by have:=K0.out;omega⟩ m1.out h0.out (by decide) (by rw[ratM,List.length_map];have:=K0.out;omega)).mono ?_)
  rintro e w27 ⟨m0,g2,G2,C2,g3,rfl,hom2,hgl2,hol2,hap2⟩;have B28:=zz m0;have z28:=B28.out.size;have n0:=tr C0 B28;clear m0;have P5_8_30:=tr P5_7_26 B28;refine hK _ _ (fun _=>H0 _ P5_8_30.out) ?_;clear hK K;(try simp only[PT])
  rw[← HN.out] at hom2;rw[← HV.out] at hol2;have W0:=zz hom2;have X0:=zz hol2;have Q0:=zz hap2;have Y0:=zz hgl2;clear hom2 hgl2 hol2 hap2;refine Early.next (i:=5) (by kernel_rfl) rfl (fun K hK=>?_);go_simp;refine hK _ _ (fun _=>H0 _ (P5_8_30.out)) ?_;clear hK K;(try simp only[PT])
  refine Early.take (i:=7) (.slice (some ⟨g3,0,none⟩) k k) rfl (by kernel_rfl) (by kernel_rfl) (by kernel_rfl) (by kernel_rfl) (by kernel_rfl) (fun _ _ _ h=>h) (Or.inl ⟨by rfl,?_⟩) ?_ ?_
  ·intro w' hSw;obtain⟨-,t0,t1⟩:=hSw;go_simp
  ·exact H0 _ (P5_8_30.out)
  (try simp only[PT])
  refine Early.next (i:=6) (by kernel_rfl) rfl (fun K hK=>?_);go_simp;refine hK _ _ (fun _=>H0 _ (P5_8_30.out)) ?_;clear hK K;(try simp only[PT])
  refine Early.next (i:=8) (by kernel_rfl) rfl (fun K hK=>?_);go_simp;refine hK _ _ (fun _=>H0 _ (P5_8_30.out)) ?_;clear hK K;(try simp only[PT])
  refine Early.next (i:=9) (by kernel_rfl) rfl (fun K hK=>?_);go_simp;refine hK _ _ (fun h=>absurd h (by decide)) ?_;clear hK K;(try simp only[PT])
  refine Early.done (by kernel_rfl) ?_ _;(try simp only[Exit.then])
  clear H0;obtain⟨ir,hir,hzr,hsr,hbr⟩:=info_parts info_row;obtain⟨il,hil,hzl,hsl,hbl⟩:=info_parts info_list;have e0:Below w27.heap.size w27 (w27.alloc (.cells #[.slice (some ⟨g3,0,none⟩) k k] 75)):=below_alloc1 (Below.refl _ _) _;have hkk:(k:Int)≤6∧(1:Int)≤(k:Int):=by have:=K0.out;omega
  have homv:=OM.omv (W0.out.weak (show w.heap.size≤_ by omega)) (by rw[I0.out];exact Nat.le_refl _) (by omega);rw[I0.out] at homv;have R0:=zz (homv.step ER.stable e0);have Z0:=zz (X0.out.step ER.stable e0);have x0:=zz (n0.out.trans (e0.mono n0.out.size));clear homv e0;go_wp2_with (at_builtin;go_loud (refine wpList_append_oa rfl _ _ _ rfl w.heap.size 75 ir _ 24 Tryz.underlying69 hir hzr hsr hbr rfl (by decide) (by decide) EV.stable EV.soft R0.out.hdr rfl ⟨w27.heap.size,0,none⟩ 1 [.slice (some ⟨g3,0,none⟩) k k] rfl Nat.one_pos [.slice (some ⟨g3,0,none⟩) k k] (EL.one rfl ⟨rfl,rfl⟩) (cell_one_new _ _ _) (by intro u hu;simp at hu;subst hu;rfl) (by simp only[hdL_len,I0.out,List.length_cons,List.length_nil,maxLen];omega) (by simp only[hdL_len,I0.out,List.length_cons,List.length_nil];omega) (by have:=x0.out.size;simpa using this) ?_))
  intro v5 w5 hoa hb hs' hg' hat;have happ:=R0.out.app ER.soft (g:=g3) (c:=k) (l:=V) ⟨by have:=Y0.out;omega,fun e=>by have h1:=Q0.out.1;simp[Value.ownBlock] at e;omega⟩ (fun i hi=>by have:=Q0.out.2 i (by rw[← I0.out];exact hi);omega) ⟨by rw[L0.out];exact Nat.le_refl _,by omega⟩ Z0.out (by rw[L0.out];exact hoa) hs' hg' (by simpa using hat);obtain⟨Q,hQ⟩:∃ Q,Q=N++[V]:=⟨_,rfl⟩;rw[← hQ] at happ;have hql:Q.length=k+1:=by rw[hQ,List.length_append,I0.out];rfl
  have hqw:∀ r∈Q,r.length=k∧∀ q∈r,QL 117 117 q:=fun r hr=>by
   rw[hQ] at hr;rcases List.mem_append.1 hr with h | h
   ·exact⟨o1.out r h,p1.out r h⟩
   ·rw[List.mem_singleton.1 h];exact⟨L0.out,q1.out⟩
  obtain⟨A5,c5,rfl,hc5,hc5'⟩:=SL.slice happ.sl;have hsl5:=happ.sl;rw[hql] at hsl5 hc5 ⊢;have w1:=zz hsl5;have f0:=zz (x0.out.trans hb);have S0:=zz hql;have x1:=zz hqw;have N0:=zz hQ;clear happ hsl5 hoa hb hs' hg' hat hql hqw hQ R0 Z0 W0 X0 Q0 Y0;have D0:=zz (Below.refl w5.heap.size w5);have G0:(k:Int)+1≤7:=by omega
  go_wp2;go_loopw [4,37] (fun mv iv wr=>∃ (j:Nat) (G C:Nat→Nat),j≤k+1∧iv=.int .i64 j∧Hid (OMV 4 EQ 33 28 wr w5.heap.size mv G C ((Q.take j).map (List.map qx)))∧Hid (∀ r∈Q.take j,∀ q∈r,fitQ q)∧Hid (Below w5.heap.size w5 wr)) (fun _ iv _=>k+1-(intOf iv).toNat)
  case atStart=>exact⟨0,fun _=>0,fun _=>0,Nat.zero_le _,rfl,zz OMV.nil,zz (fun r h=>by simp at h),D0⟩
  case round=>
   obtain⟨j,G,C,hj,rfl,HO,HF,HW⟩:=hrel;have zr:=HW.out.size;by_cases hlt:j<k+1
   ·have hjq:j<Q.length:=by rw[S0.out];exact hlt
    obtain⟨g,off,A6,c6,rfl,hg,hcell,hrow⟩:=SL.row (show RM w5 w5.heap.size (.slice A5 Q.length c5) Q from by rw[S0.out];exact w1.out) hjq;replace hcell:=(HW.out.cell (p:=⟨g,off+j,none⟩) hg).trans hcell;have T0:=zz (hrow.step ER.stable HW.out);clear hrow hg;have hji:(0:Int)≤(j:Int)∧(j:Int)<(k:Int)+1:=by omega
    have hnj:(j:Int)<((k+1:Nat):Int):=by omega
    have htk:Q.take (j+1)=Q.take j++[Q[j]]:=by rw[List.take_add_one,List.getElem?_eq_getElem hjq];rfl
    have a1:=zz htk;have HM:=zz (List.getElem_mem hjq);have M0:=zz (x1.out _ (List.getElem_mem hjq));clear htk;generalize Q[j]=r at hcell T0 a1 HM M0;have hrl:r.length=k:=M0.out.1;rw[hrl] at hcell T0;by_cases hfit:∀ q∈r,fitQ q
    case neg=>
     have b1:=zz (show toldL r=(none,6) from if_neg hfit);have c1:=zz (HR.out.trans (if_neg (fun h=>hfit (fun q hq=>by have hm:=HM.out;rw[N0.out] at hm;rcases List.mem_append.1 hm with h1 | h1;exact h.1 r h1 q hq;rw[List.mem_singleton.1 h1] at hq;exact h.2 q hq))));clear hfit;go_wp2_with fail
     refine(ltold_own _ A6 k c6 r T0.out (fun q hq=>(M0.out.2 q hq).mono (by decide) (by decide)) (by rw[M0.out.1];omega)).mono ?_;rintro e w31 ⟨o0,v,rfl,hv⟩;have B32:=zz o0;have z32:=B32.out.size;clear o0;rw[b1.out] at hv ⊢;obtain rfl:=hv;go_wp2;go_ret3;exact⟨f0.out.trans ((HW.out.trans (B32.out.mono HW.out.size)).mono f0.out.size),by rw[c1.out];exact⟨_,_,rfl,rfl,rfl⟩⟩
    case pos=>
     have b1:=zz (show toldL r=(some r,0) from if_pos hfit);have z1:=zz (show ∀ r∈Q.take (j+1),∀ q∈r,fitQ q from fun r' h=>by rw[a1.out] at h;rcases List.mem_append.1 h with h | h;exact HF.out r' h;rw[List.mem_singleton.1 h];exact hfit);clear hfit;go_wp2_with fail
     refine(ltold_own _ A6 k c6 r T0.out (fun q hq=>(M0.out.2 q hq).mono (by decide) (by decide)) (by rw[M0.out.1];omega)).mono ?_;rintro e w33 ⟨p0,v,rfl,hv⟩;have B34:=zz p0;have z34:=B34.out.size;clear p0;rw[b1.out] at hv ⊢;obtain⟨g6,c7,E0,hg7,hc7,ho7⟩:∃ g c,v=.slice (some ⟨g,0,none⟩) k c∧wr.heap.size≤g∧c≤9223372036854775807∧OB 4 EQ 33 w33 g c (r.map qx):=by
      rcases hv with ⟨-,e⟩ | ⟨g,c,e1,e2,e3,e4⟩
      ·have:=congrArg List.length e;rw[List.length_map,hrl] at this;simp at this;omega
      ·rw[List.length_map,hrl] at e1;exact⟨g,c,e1,e2,e3,e4⟩
     subst E0;have g0:Below w33.heap.size w33 (w33.alloc (.cells #[.slice (some ⟨g6,0,none⟩) k c7] 28)):=below_alloc1 (Below.refl _ _) _;have A1:=zz (OB.step ho7 EQ.stable g0);have k1:=zz ((HO.out.step EQ.stable B34.out).step EQ.stable g0);have d0:=zz ((HW.out.trans (B34.out.mono HW.out.size)).trans (g0.mono (by omega)));have P0:=zz (And.intro hg7 (And.intro hc7 ho7.len));clear hv g0 ho7 hg7 hc7;go_wp2_with (at_builtin;go_loud (refine wpList_append_oa rfl _ _ _ rfl w5.heap.size 28 il _ 24 Tryz.underlying27 hil hzl hsl hbl rfl (by decide) (by decide) EV.stable EV.soft k1.out.hdr rfl ⟨w33.heap.size,0,none⟩ 1 [.slice (some ⟨g6,0,none⟩) k c7] rfl Nat.one_pos [.slice (some ⟨g6,0,none⟩) k c7] (EL.one rfl ⟨rfl,rfl⟩) (cell_one_new _ _ _) (by intro u hu;simp at hu;subst hu;rfl) (by simp only[hdL_len,List.length_map,List.length_take,List.length_cons,List.length_nil,maxLen];omega) (by simp only[hdL_len,List.length_map,List.length_take,List.length_cons,List.length_nil];omega) (by have:=d0.out.size;simpa using this) ?_))
     intro v8 w8 hoa hb hs' hg' hat;have hl8:(r.map qx).length=k:=by rw[List.length_map,hrl]
     have happ:=k1.out.app EQ.soft (g:=g6) (c:=c7) (l:=r.map qx) ⟨by have:=P0.out.1;omega,fun e=>by have:=(HO.out.hdr.blk e).1;have:=P0.out.1;omega⟩ (fun i hi=>by have:=(HO.out.rows i hi).lt;have:=P0.out.1;omega) ⟨P0.out.2.2,P0.out.2.1⟩ A1.out (by rw[hl8];simpa[hdL_len] using hoa) hs' hg' (by simpa using hat);have l1:Hid (OMV 4 EQ 33 28 w8 w5.heap.size v8 _ _ ((Q.take (j+1)).map (List.map qx))):=zz (by rw[a1.out,List.map_append];exact happ);have F0:=zz (d0.out.trans hb);clear happ hoa hb hs' hg' hat;go_wp2;go_roundw
     case rel=>exact⟨j+1,_,_,hlt,by go_num,l1,z1,F0⟩
     case measure=>simp[intOf];omega
   ·obtain rfl:j=k+1:=by omega
    rw[List.take_of_length_le (Nat.le_of_eq S0.out)] at HO HF;have hml:(Q.map (List.map qx)).length=k+1:=by rw[List.length_map,S0.out]
    obtain⟨tb,R,hv,hR,hom⟩:=HO.out.om (by rw[hml];omega);have hhd:=hom.cell k (by rw[hml];omega);have hro:=hom.rows k (by rw[hml];omega);have hca:=hom.cap k (by rw[hml];omega);have hqk:(Q.map (List.map qx))[k]'(by rw[hml];omega)=V.map qx:=by
     rw[List.getElem_map];congr 1;simp only[N0.out];rw[List.getElem_append_right (by rw[I0.out];exact Nat.le_refl _)];simp[I0.out]
    rw[hqk] at hhd hro hca;rw[List.length_map,L0.out] at hhd hca;have c1:=zz (HR.out.trans (if_pos ⟨fun r hr q hq=>HF.out r (by rw[N0.out];exact List.mem_append_left _ hr) q hq,fun q hq=>HF.out V (by rw[N0.out];exact List.mem_append_right _ (List.mem_singleton.2 rfl)) q hq⟩));have hslm:=(hom.sl (c:=R) (by have:=hom.hdr.len;rwa [hdL_len] at this) hR).take (n:=k) (by rw[hml];omega);have htk:(Q.map (List.map qx)).take k=N.map (List.map qx):=by rw[← List.map_take,N0.out,List.take_left' I0.out]
    rw[htk] at hslm;rw[hml] at hv;subst hv;have hRk:(k:Int)+1≤(R:Int):=by have:=hom.hdr.len;rw[hdL_len,hml] at this;omega
    have hslv:=hro.sl (c:=C k) (by rw[List.length_map,L0.out];exact hca.1) hca.2;rw[List.length_map,L0.out] at hslv;have B1:=zz hslm;have C1:=zz hslv;have htl:=hom.lt;clear hslm hslv hro hom hqk htk HO;go_upto_region 13 with (fail);go_quiet (fail);go_wp2;go_ret3
    exact⟨below_drewN (f0.out.trans (HW.out.mono f0.out.size)) _,by rw[c1.out];exact⟨_,_,rfl,SL.drewNs B1.out (SE.stable EQ.stable) _,SL.drewNs C1.out EQ.stable _⟩⟩
end Go.Proofs.YtdigbofiebfkeaaGreatDoor
