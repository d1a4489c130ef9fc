/- Layer 35: reduce (written by gen_lk.py). -/
import Derived.Test.YtdigbofiebfkeaaGreatDoorLj
namespace Go.Proofs.YtdigbofiebfkeaaGreatDoor
open Go Go.RowKit Dig
set_option maxRecDepth 100000
set_option maxHeartbeats 4000000
set_option linter.unusedSimpArgs false
theorem RN.grown {w w':World} {V:Option Nat} {A:Option Addr} {l c:Nat} {d:List Nat} (h:RN w w.heap.size (.slice A l c) d) (hn:∀ X,V=some X→NotIn X (.slice A l c)) (hg:w.grownBy w' V):RN w' w'.heap.size (.slice A l c) d:=by
 obtain⟨A1,c1,e,h1,h2,h3⟩:=h;refine⟨A1,c1,e,h1,h2,fun h0=>?_⟩;injection e with e1 e2 e3
 subst e1;subst e3;obtain⟨g,off,hA,hlt,hx⟩:=h3 h0;refine⟨g,off,hA,Nat.lt_of_lt_of_le hlt hg.size,fun j hj=>?_⟩;rw[← hx j hj];refine World.cell?_of_block (hg.block g hlt (fun e=>?_));exact hn g e.symm _ _ _ (by rw[hA]) (by omega) rfl
theorem ERo.grown {w w':World} {V V':Option Nat} {cs:List Value} {q:Rat} (h:ERo V w w.heap.size cs q) (hg:w.grownBy w' V) (hv:V'=V∨V'=some w.heap.size):ERo V' w' w'.heap.size cs q:=by
 have hs:∃ c0 c1 c2,cs=[c0,c1,c2]∧RV w w.heap.size (.agg #[c0,c1,c2]) q∧∀ X,V'=some X→NotIn X c1∧NotIn X c2:=by
  rcases hv with rfl | rfl
  ·exact h
  ·exact ERo.ofSome h.er (Nat.le_refl _)
 obtain⟨c0,c1,c2,rfl,⟨n,A,l,c,A',l',c',e,h1,h2,h3⟩,hn⟩:=h;injection e with e
 simp at e
 obtain⟨rfl,rfl,rfl⟩:=e;obtain⟨d0,d1,d2,e,-,hn'⟩:=hs;simp at e
 obtain⟨rfl,rfl,rfl⟩:=e;exact⟨_,_,_,rfl,⟨_,_,_,_,_,_,_,rfl,h1.grown (fun X hX=>(hn X hX).1) hg,h2.grown (fun X hX=>(hn X hX).2) hg,h3⟩,hn'⟩
theorem OB.grownE {α:Type} {k:Nat} {E E':Elem α} {T:TypeId} {w w':World} {g n:Nat} {l:List α} {row:Option Nat} (h:OB k E T w g n l) (hg:w.grownBy w' row) (hr:row≠some g) (hE:∀ cs a,E w w.heap.size cs a→E' w' w'.heap.size cs a):OB k E' T w' g n l:=by
 have hlt:=h.lt;obtain⟨arr,h1,h2,h3,h4⟩:=h;refine⟨arr,(hg.block g hlt (fun e=>hr e.symm)).trans h1,h2,h3,fun j hj=>?_⟩;obtain⟨cs,e1,e2,e3⟩:=h4 j hj;exact⟨cs,e1,e2,hE _ _ e3⟩
section
variable {T TH:TypeId} {w w':World} {B tb R:Nat} {G C:Nat→Nat} {M:List (List Rat)} {m a i:Nat}
theorem OM.lead {V V':Option Nat} (h:OM 3 (ERo V) T TH w B tb R G C M) (hg:w.grownBy w' V) (hV:∀ X,V=some X→tb≠X∧∀ i,i<M.length→G i≠X) (hv:V'=V∨V'=some w.heap.size):OM 3 (ERo V') T TH w' B tb R G C M:=
 ⟨h.hdr.grownE hg (fun e=>(hV _ e).1 rfl) (fun _ _ h=>h),h.cap,h.inj,h.apart,h.low,fun i hi=>(h.rows i hi).grownE hg (fun e=>(hV _ e).2 i hi rfl) (fun _ _ h=>h.grown hg hv)⟩
theorem CB.grown1 {b:Nat} {t:TypeId} {cs:Array Value} {row:Option Nat} (h:CB w b t cs) (hg:w.grownBy w' row) (hr:row=some b→False):CB w' b t cs:=(hg.block b h.lt (fun e=>hr e.symm)).trans h
theorem Turns.grown {w'':World} {S:Nat→Prop} {row:Option Nat} (h:Turns w w' S) (hg:w'.grownBy w'' row) (hr:∀ X,row=some X→w.heap.size≤X):Turns w w'' S:=
 ⟨hg.os.trans h.os,hg.tape.trans h.tape,hg.output.trans h.output,Nat.le_trans h.size hg.size,fun b hb hs=>(hg.block b (Nat.lt_of_lt_of_le hb h.size) (fun e=>by have:=hr b e.symm;omega)).trans (h.block b hb hs),
  Nat.le_trans h.size hg.size,fun p k x e=>by
  have hl:=cell_lt e;exact(World.cell?_of_block (hg.block p.block (Nat.lt_of_lt_of_le hl h.size) (fun e=>by have:=hr _ e.symm;omega))).trans (h.soft.2 p k x e)⟩
theorem OwnV.turns {S:Nat→Prop} {base:Nat} {v:Value} {l:List Int} (h:OwnV w base v l) (ht:Turns w w' S) (hS:∀ b,S b→b<base):OwnV w' base v l:=by
 obtain⟨h0,h | ⟨g,cap,cur,hv,hb,hh,h1⟩⟩:=h
 ·exact⟨h0,.inl h⟩
 ·exact⟨h0,.inr ⟨g,cap,cur,hv,hb,(ht.block g (Array.getElem?_eq_some_iff.1 hh).1 (fun hs=>by have:=hS g hs;omega)).trans hh,h1⟩⟩
theorem OM.swapT {V:Option Nat} {S:Nat→Prop} (h:OM 3 (ERo V) T TH w B tb R G C M) (hW:Wide M m) (ha:a<M.length) (hi:i<M.length) (hS:S tb) :
  OM 3 (ERo V) T TH ((w.setCell ⟨tb,a,none⟩ (.slice (some ⟨G i,0,none⟩) m (C i))).setCell ⟨tb,i,none⟩ (.slice (some ⟨G a,0,none⟩) m (C a))).drew B tb R
   (fun n=>if n=i then G a else if n=a then G i else G n) (fun n=>if n=i then C a else if n=a then C i else C n) (swapQ M a i) ∧
  Turns w ((w.setCell ⟨tb,a,none⟩ (.slice (some ⟨G i,0,none⟩) m (C i))).setCell ⟨tb,i,none⟩ (.slice (some ⟨G a,0,none⟩) m (C a))).drew S:=by
 have h1:=h.swap ERo.soft a i ha hi;rw[hW _ (List.getElem_mem hi),hW _ (List.getElem_mem ha)] at h1;refine⟨OM.step (OM.ofEq h1.1 (by unfold swapQ;rw[getD_is hi,getD_is ha])) ERo.stable (below_drew1 (Below.refl _ _)),rfl,rfl,rfl,h1.2.1,fun b hb hn=>?_,h1.2.1,h1.2.2⟩;have hne:b≠tb:=fun e=>hn (by rw[e];exact hS)
 exact(Below.heap_setCell _ ⟨tb,i,none⟩ _ b hne).trans (Below.heap_setCell _ ⟨tb,a,none⟩ _ b hne)
end
theorem set_head {w:World} {tb i q:Nat} {v u:Value} (h:w.cell? ⟨tb,i,none⟩=some v) (hq:w.cell? ⟨tb,q,none⟩=some u):(w.drew.setCell ⟨tb,q,none⟩ v).cell? ⟨tb,i,none⟩=some v:=by
 by_cases e:q=i
 ·subst e;exact World.cell?_setCell_same _ _ _ hq
 ·rw[World.cell?_setCell_other _ _ _ _ (fun h=>by injection h with h1 h2;exact e h2)];exact h
theorem zero_more {T:List (List Rat)} {q i j:Nat} (hz:∀ k,q≤k→k<i→atQ T k j=0) (h0:atQ T i j=0) (k:Nat) (h1:q≤k) (h2:k<i+1):atQ T k j=0:=by
 rcases Nat.lt_or_ge k i with h | h
 ·exact hz k h1 h
 ·obtain rfl:k=i:=by omega
  exact h0
theorem lastE_any (w:World) (tb R B Rh:Nat) (G C:Nat→Nat) (M:List (List Rat)) (n:Nat) {T TH:TypeId} (hO:OM 3 ER T TH w B tb Rh G C M) (hW:Wide M (n+1)) (hM:0<M.length) (hR:M.length≤R∧R≤9223372036854775807) :
  Calls Tryz.prog 37 #[.slice (some ⟨tb,0,none⟩) M.length R] w fun e w'=>Below w.heap.size w w'∧e=.returned (.int .i64 (n:Int)):=
 (last_any w _ _ _ M (hO.sl hR.1 hR.2) hM).mono fun e w' ⟨hb,he⟩=>⟨hb,by rw[he,hW _ (List.getElem_mem hM),show((n+1:Nat):Int)-1=(n:Int) by omega]⟩
theorem lastO_any (w:World) (tb R B Rh:Nat) (G C:Nat→Nat) (M:List (List Rat)) (n:Nat) {V:Option Nat} {T TH:TypeId} (hO:OM 3 (ERo V) T TH w B tb Rh G C M) (hW:Wide M (n+1)) (hM:0<M.length) (hR:M.length≤R∧R≤9223372036854775807) :
  Calls Tryz.prog 37 #[.slice (some ⟨tb,0,none⟩) M.length R] w fun e w'=>Below w.heap.size w w'∧e=.returned (.int .i64 (n:Int)):=
 lastE_any w tb R B Rh G C M n (OM.mapE hO fun _ _ h=>h.er) hW hM hR
theorem reduce_any (w:World) (tb R B Rh:Nat) (G C:Nat→Nat) (M:List (List Rat)) (n l:Nat) (S:Nat→Prop) (hR:M.length≤R∧R≤9223372036854775807) (hO:OM 3 ER 84 75 w B tb Rh G C M) (hW:Wide M (n+1)) (hM:0<M.length)
  (hS:S tb∧∀ i,i<M.length→S (G i)) (hS2:∀ b,S b→b<w.heap.size) (hL:Short l M) (hl1:1≤l) (hl2:3*growQ l n≤60000000) (hn:M.length≤1000000∧n≤999999) :
  Calls Tryz.prog 36 #[.agg #[.slice (some ⟨tb,0,none⟩) M.length R]] w fun e w'=>∃ v G' C',e=.returned (.tuple #[v,.bool (solvQ (elimQ M n) n)])∧RI w' w'.heap.size v (ni (elimQ M n).2)∧Turns w w' S∧OM 3 ER 84 75 w' B tb Rh G' C' (elimQ M n).1∧∀ i,i<M.length→S (G' i):=by
 obtain⟨hn1,hn2⟩:=hn;have hnn:(M.length:Int)≤1000000:=by omega
 have hmm:(n:Int)≤999999:=by omega
 have hmi:(0:Int)<(M.length:Int):=by omega
 have Q0:=zz hO;have R0:=zz hW;have HS:=zz hS;have n0:=zz hS2;have HL:=zz hL;have S0:=zz hl1;have p1:=zz hl2;have HR:=zz hR;clear hO hW hS hS2 hL hl1 hl2 hn1 hn2;obtain⟨hR1,hR2⟩:=hR;obtain⟨w0,hw0⟩:∃ w0:World,w0=(w.alloc (.cells #[.slice (some ⟨tb,0,none⟩) M.length R] 71)):=⟨_,rfl⟩;have B0:=zz (n1_b hw0);have z0:=n1_z hw0;have Lt:=n1_0 hw0;go_enter Tryz.func36,Tryz.ntmps36
 have T0:=zz (show OwnV w0 (w.heap.size+1) (.slice none 0 0) [] from OwnV.nil _ _);go_wp2;go_step3;go_wp2;go_step3;rw[← hw0];clear hw0;have v0:=zz Lt;have D0:=zz (OM.step Q0.out ER.stable B0.out);have g0:=zz (Turns.of (S:=S) B0.out);have x0:=zz (show ¬ S w.heap.size from fun h=>Nat.lt_irrefl _ (n0.out _ h));clear Q0;have q0:=v0.out.cell 0 rfl;have ql:=v0.out.lt;go_wp2_with fail
 refine(lastE_any _ _ _ _ _ _ _ _ n D0.out R0.out hM HR.out).mono ?_;rintro e w1 ⟨d0,rfl⟩;have B2:=zz d0;have z2:=B2.out.size;have a0:=tr B0 B2;clear d0;clear q0 ql;have U0:=zz (CB.step v0.out B2.out);have V0:=zz (OM.step D0.out ER.stable B2.out);have E0:=zz (g0.out.trans (Turns.of B2.out));have F0:=zz (OwnV.step T0.out B2.out);clear v0 D0 g0 T0;have W0:Hid (OM 3 (ERo (Value.ownBlock (.slice none 0 0))) 84 75 w1 B tb Rh G C (elimQ M 0).1):=zz (OM.mapE V0.out fun _ _ h=>ERo.ofNone h);have hnw:IntKind.i64.wrap ((n:Int)+1)=(n:Int)+1:=IntWalk.i64_in _ (by omega);go_wp2;go_loopw [2,13] (fun ov iv wr=>∃ (j:Nat) (T:List (List Rat)) (p:List Nat) (G C:Nat→Nat),iv=.int .i64 j∧((j≤n∧elimQ M j=(T,p))∨(j=n+1∧elimQ M n=(T,p)∧solvQ (elimQ M n) n=true))∧Hid (OM 3 (ERo ov.ownBlock) 84 75 wr B tb Rh G C T)∧Hid (∀ i,i<M.length→S (G i))∧Hid (OwnV wr (w.heap.size+1) ov (ni p))∧Hid (Turns w wr S)∧Hid (CB wr w.heap.size 71 #[.slice (some ⟨tb,0,none⟩) M.length R])) (fun _ iv _=>n+1-(intOf iv).toNat)
 case atStart=>exact⟨0,_,_,G,C,rfl,.inl ⟨Nat.zero_le _,rfl⟩,W0,zz HS.out.2,F0,E0,U0⟩
 case round=>
  rename World=>wB
  clear W0 F0 E0 U0 V0 hnw;obtain⟨j,T,p,G,C,rfl,hst,HO,l0,HV,HW,HT⟩:=hrel;have zr:=HW.out.size;rcases hst with ⟨hj,hst⟩ | ⟨rfl,hst,hsol⟩
  ·have hTl:T.length=M.length:=by have:=elimQ_len M j;rwa [hst] at this
   have hTw:Wide T (n+1):=by have:=R0.out.elim j;rwa [hst] at this
   have hTs:Short (growQ l p.length) T:=by have:=HL.out.elim S0.out j;rwa [hst] at this
   have hp:=elimQ_piv M j;rw[hst] at hp;simp only at hp;obtain⟨hp1,hp2⟩:=hp;have h0:=zz hTl;have j0:=zz hTw;have q1:=zz hTs;have g0:=zz hst;have X0:=zz (And.intro hp1 hp2);clear hTl hTw hTs hst hp1 hp2;obtain⟨q,hq⟩:∃ q,q=p.length:=⟨_,rfl⟩;have HQ:=zz hq;clear hq;obtain⟨oA,oc,rfl⟩:=RI.slice HV.out.ri;rw[show(ni p).length=q by rw[ni_length,HQ.out]] at HO HV ⊢;have hqm:q≤M.length:=by rw[HQ.out];exact X0.out.1
   have hji:(0:Int)≤(j:Int)∧(j:Int)<(n:Int)+1:=by omega
   have q0:=HT.out.cell 0 rfl;have ql:=HT.out.lt;have e0:=zz (Below.refl wB.heap.size wB);go_wp2;clear q0 ql;go_loopw [2,7] (fun ov iv wr=>∃ i:Nat,ov=.slice oA q oc∧q≤i∧i≤M.length∧iv=.int .i64 i∧Hid (∀ k,q≤k→k<i→atQ T k j=0)∧Hid (Below wB.heap.size wB wr)) (fun _ iv _=>M.length-(intOf iv).toNat)
   case atStart=>exact⟨q,rfl,Nat.le_refl _,hqm,by go_num,zz (fun k h1 h2=>by omega),e0⟩
   case round=>
    obtain⟨i,rfl,hi1,hi2,rfl,HZ,HB⟩:=hrel;have zb:=HB.out.size;have HTr:=zz (CB.step HT.out HB.out);have q0:=HTr.out.cell 0 rfl;have ql:=HTr.out.lt;by_cases hin:i<M.length
    ·have hit:i<T.length:=by rw[h0.out];exact hin
     have hii:(0:Int)≤(i:Int)∧(i:Int)<(M.length:Int):=by omega
     have HOr:=zz (OM.step HO.out ERo.stable HB.out);obtain⟨x,hx⟩:∃ x,x=atQ T i j:=⟨_,rfl⟩;obtain⟨xn,xA,xl,xc,xB,xu,xd,hE,hv⟩:=OM.elem HOr.out j0.out hit (show j<n+1 by omega);rw[← hx] at hv;have H0:=zz hv;have HX:=zz hx;clear hv hx;have qh:=OM.head HOr.out j0.out hit;have qc:=OM.caps HOr.out j0.out hit;have qe0:=hE.c0;have qe1:=hE.c1;have qe2:=hE.lt;clear hE;have hnj:(j:Int)<((n+1:Nat):Int):=by omega
     by_cases hx0:x=0
     ·have hs0:x.num.sign=0:=by rw[hx0];rfl
      have r1:=zz (show ∀ k,q≤k→k<i+1→atQ T k j=0 from zero_more HZ.out (HX.out.symm.trans hx0));have s1:=zz hs0;clear hx0 hs0;go_wp2_with fail
      refine(wSign_any _ _ _ (RV.whole H0.out)).mono ?_;rintro e w3 ⟨hb,rfl⟩;have a0:=zz (HB.out.trans (hb.mono HB.out.size));clear hb q0 ql qh qc qe0 qe1 qe2;rw[s1.out];go_wp2;go_roundw
      case rel=>exact⟨i+1,rfl,by omega,hin,by go_num,r1,a0⟩
      case measure=>simp[intOf];omega
     obtain⟨s,hs⟩:∃ s,s=x.num.sign:=⟨_,rfl⟩;have hs0:(s==0)=false:=by rw[beq_eq_false_iff_ne,hs];intro h;exact hx0 (by have:=Int.sign_eq_zero_iff_zero.1 h;exact Rat.num_eq_zero.1 this)
     have p0:=zz (show pivQ T j q=i from pivQ_eq hi1 (Nat.le_of_lt hit) HZ.out (fun _=>by rw[← HX.out];exact hx0));have u1:=zz hx0;have v1:=zz hs;clear hs hx0;go_wp2_with fail
     refine(wSign_any _ _ _ (RV.whole H0.out)).mono ?_;rintro e w3 ⟨hb,rfl⟩;have a0:=zz (HB.out.trans (hb.mono HB.out.size));clear hb q0 ql qh qc qe0 qe1 qe2;rw[← v1.out];have I0:=zz (CB.step HT.out a0.out);have Y0:=zz (OM.step HO.out ERo.stable a0.out);clear HTr HOr H0;have q0:=I0.out.cell 0 rfl;have ql:=I0.out.lt;go_wp2_with fail
     rw[show M.length=T.length from h0.out.symm];refine(lastO_any _ _ _ _ _ _ _ _ n Y0.out j0.out (by omega) (by rw[h0.out];exact HR.out)).mono ?_;rintro e w4 ⟨hb,rfl⟩;have b0:=zz (a0.out.trans (hb.mono a0.out.size));clear hb q0 ql;rw[show T.length=M.length from h0.out];have y0:=zz (CB.step HT.out b0.out);have i0:=zz (OM.step HO.out ERo.stable b0.out);clear I0 Y0;by_cases hjn:j=n
     ·subst hjn;have o1:=zz (show solvQ (elimQ M j) j=false by rw[g0.out,solvQ];simp only;rw[← HQ.out,p0.out,beq_eq_false_iff_ne];omega);have J0:=zz (OwnV.step HV.out b0.out);have K0:=zz (HW.out.trans (Turns.of b0.out));go_wp2;rw[Exit.noGoto_ret];go_ret2;refine⟨_,G,C,by rw[o1.out];rfl,?_,K0.out,?_,l0.out⟩
      ·rw[g0.out];exact J0.out.ri
      ·rw[g0.out];exact OM.mapE i0.out fun _ _ h=>h.er
     have hjn':j<n:=by omega
     have hjne:((j:Int)==(n:Int))=false:=by rw[beq_eq_false_iff_ne];omega
     have hqi:q≤i:=hi1;have hqt:q<T.length:=by omega
     have hqq:(0:Int)≤(q:Int)∧(q:Int)<(M.length:Int):=by omega
     go_upto_region 12 with (fail)
     have Z0:=zz (OM.head i0.out j0.out hit);have a1:=zz (OM.head i0.out j0.out hqt);have f0:∀ w':World,Below w4.heap.size w4 w'→(w'.cell? ⟨w.heap.size,0,none⟩=some (.slice (some ⟨tb,0,none⟩) M.length R)∧w'.cell? ⟨tb,i,none⟩=some (.slice (some ⟨G i,0,none⟩) (n+1) (C i))):=fun w' h=>⟨(CB.step y0.out h).cell 0 rfl,(h.cell (p:=⟨tb,i,none⟩) i0.out.lt).trans Z0.out⟩
     refine Early.start 18 (fun w'=>w'.cell? ⟨w.heap.size,0,none⟩=some (.slice (some ⟨tb,0,none⟩) M.length R)∧w'.cell? ⟨tb,i,none⟩=some (.slice (some ⟨G i,0,none⟩) (n+1) (C i))) (by kernel_rfl) ?_;refine Early.take (i:=0) (.pointer (some ⟨w.heap.size,0,none⟩)) rfl (by kernel_rfl) (by kernel_rfl) (by kernel_rfl) (by kernel_rfl) (by kernel_rfl) (fun _ _ _ h=>h) (Or.inl ⟨by rfl,?_⟩) ?_ ?_
     ·intro w' hSw;obtain⟨t0,t1⟩:=hSw;go_simp
     ·exact f0 _ (below_drew1 (Below.refl _ _))
     (try simp only[PT])
     refine Early.take (i:=1) (.slice (some ⟨tb,0,none⟩) M.length R) rfl (by kernel_rfl) (by kernel_rfl) (by kernel_rfl) (by kernel_rfl) (by kernel_rfl) (fun _ _ _ h=>h) (Or.inl ⟨by rfl,?_⟩) ?_ ?_
     ·intro w' hSw;obtain⟨t0,t1⟩:=hSw;go_simp
     ·exact f0 _ (below_drew1 (Below.refl _ _))
     (try simp only[PT])
     refine Early.take (i:=2) (.int .i64 (q:Int)) rfl (by kernel_rfl) (by kernel_rfl) (by kernel_rfl) (by kernel_rfl) (by kernel_rfl) (fun _ _ _ h=>h) (Or.inl ⟨by rfl,?_⟩) ?_ ?_
     ·intro w' hSw;obtain⟨t0,t1⟩:=hSw;go_simp
     ·exact f0 _ (below_drew1 (Below.refl _ _))
     (try simp only[PT])
     refine Early.take (i:=3) (.pointer (some ⟨w.heap.size,0,none⟩)) rfl (by kernel_rfl) (by kernel_rfl) (by kernel_rfl) (by kernel_rfl) (by kernel_rfl) (fun _ _ _ h=>h) (Or.inl ⟨by rfl,?_⟩) ?_ ?_
     ·intro w' hSw;obtain⟨t0,t1⟩:=hSw;go_simp
     ·exact f0 _ (below_drew1 (Below.refl _ _))
     (try simp only[PT])
     refine Early.take (i:=4) (.slice (some ⟨tb,0,none⟩) M.length R) rfl (by kernel_rfl) (by kernel_rfl) (by kernel_rfl) (by kernel_rfl) (by kernel_rfl) (fun _ _ _ h=>h) (Or.inl ⟨by rfl,?_⟩) ?_ ?_
     ·intro w' hSw;obtain⟨t0,t1⟩:=hSw;go_simp
     ·exact f0 _ (below_drew1 (Below.refl _ _))
     (try simp only[PT])
     refine Early.take (i:=5) (.int .i64 (i:Int)) rfl (by kernel_rfl) (by kernel_rfl) (by kernel_rfl) (by kernel_rfl) (by kernel_rfl) (fun _ _ _ h=>h) (Or.inl ⟨by rfl,?_⟩) ?_ ?_
     ·intro w' hSw;obtain⟨t0,t1⟩:=hSw;go_simp
     ·exact f0 _ (below_drew1 (Below.refl _ _))
     (try simp only[PT])
     refine Early.take (i:=6) (.pointer (some ⟨w.heap.size,0,none⟩)) rfl (by kernel_rfl) (by kernel_rfl) (by kernel_rfl) (by kernel_rfl) (by kernel_rfl) (fun _ _ _ h=>h) (Or.inl ⟨by rfl,?_⟩) ?_ ?_
     ·intro w' hSw;obtain⟨t0,t1⟩:=hSw;go_simp
     ·exact f0 _ (below_drew1 (Below.refl _ _))
     (try simp only[PT])
     refine Early.take (i:=7) (.slice (some ⟨tb,0,none⟩) M.length R) rfl (by kernel_rfl) (by kernel_rfl) (by kernel_rfl) (by kernel_rfl) (by kernel_rfl) (fun _ _ _ h=>h) (Or.inl ⟨by rfl,?_⟩) ?_ ?_
     ·intro w' hSw;obtain⟨t0,t1⟩:=hSw;go_simp
     ·exact f0 _ (below_drew1 (Below.refl _ _))
     (try simp only[PT])
     refine Early.take (i:=8) (.int .i64 (i:Int)) rfl (by kernel_rfl) (by kernel_rfl) (by kernel_rfl) (by kernel_rfl) (by kernel_rfl) (fun _ _ _ h=>h) (Or.inl ⟨by rfl,?_⟩) ?_ ?_
     ·intro w' hSw;obtain⟨t0,t1⟩:=hSw;go_simp
     ·exact f0 _ (below_drew1 (Below.refl _ _))
     (try simp only[PT])
     refine Early.take (i:=9) (.pointer (some ⟨tb,i,none⟩)) rfl (by kernel_rfl) (by kernel_rfl) (by kernel_rfl) (by kernel_rfl) (by kernel_rfl) (fun _ _ _ h=>h) (Or.inl ⟨by rfl,?_⟩) ?_ ?_
     ·intro w' hSw;obtain⟨t0,t1⟩:=hSw;go_simp
     ·exact f0 _ (below_drew1 (Below.refl _ _))
     (try simp only[PT])
     refine Early.take (i:=10) (.slice (some ⟨G i,0,none⟩) (n+1) (C i)) rfl (by kernel_rfl) (by kernel_rfl) (by kernel_rfl) (by kernel_rfl) (by kernel_rfl) (fun _ _ _ h=>h) (Or.inl ⟨by rfl,?_⟩) ?_ ?_
     ·intro w' hSw;obtain⟨t0,t1⟩:=hSw;go_simp
     ·exact f0 _ (below_drew1 (Below.refl _ _))
     (try simp only[PT])
     refine Early.take (i:=11) (.pointer (some ⟨w.heap.size,0,none⟩)) rfl (by kernel_rfl) (by kernel_rfl) (by kernel_rfl) (by kernel_rfl) (by kernel_rfl) (fun _ _ _ h=>h) (Or.inl ⟨by rfl,?_⟩) ?_ ?_
     ·intro w' hSw;obtain⟨t0,t1⟩:=hSw;go_simp
     ·exact f0 _ (below_drew1 (Below.refl _ _))
     (try simp only[PT])
     refine Early.take (i:=12) (.slice (some ⟨tb,0,none⟩) M.length R) rfl (by kernel_rfl) (by kernel_rfl) (by kernel_rfl) (by kernel_rfl) (by kernel_rfl) (fun _ _ _ h=>h) (Or.inl ⟨by rfl,?_⟩) ?_ ?_
     ·intro w' hSw;obtain⟨t0,t1⟩:=hSw;go_simp
     ·exact f0 _ (below_drew1 (Below.refl _ _))
     (try simp only[PT])
     refine Early.take (i:=13) (.int .i64 (q:Int)) rfl (by kernel_rfl) (by kernel_rfl) (by kernel_rfl) (by kernel_rfl) (by kernel_rfl) (fun _ _ _ h=>h) (Or.inl ⟨by rfl,?_⟩) ?_ ?_
     ·intro w' hSw;obtain⟨t0,t1⟩:=hSw;go_simp
     ·exact f0 _ (below_drew1 (Below.refl _ _))
     (try simp only[PT])
     refine Early.take (i:=14) (.pointer (some ⟨tb,q,none⟩)) rfl (by kernel_rfl) (by kernel_rfl) (by kernel_rfl) (by kernel_rfl) (by kernel_rfl) (fun _ _ _ h=>h) (Or.inl ⟨by rfl,?_⟩) ?_ ?_
     ·intro w' hSw;obtain⟨t0,t1⟩:=hSw;go_simp
     ·exact f0 _ (below_drew1 (Below.refl _ _))
     (try simp only[PT])
     have HOd:=zz (OM.step i0.out ERo.stable (below_drew1 (Below.refl w4.heap.size w4)));have HTd:=zz (CB.drew y0.out);have qq:w4.drew.cell? ⟨tb,q,none⟩=some (.slice (some ⟨G q,0,none⟩) (n+1) (C q)):=a1.out;have ql:=HOd.out.lt;refine Early.next (i:=15) (by kernel_rfl) rfl (fun K hK=>?_);go_simp;refine hK _ _ (fun _=>f0 _ (below_drew1 (Below.refl _ _))) ?_;clear hK K;(try simp only[PT])
     refine Early.next (i:=16) (by kernel_rfl) rfl (fun K hK=>?_);go_simp;refine hK _ _ (fun _=>f0 _ (below_drew1 (Below.refl _ _))) ?_;clear hK K;(try simp only[PT])
     have fz:=OM.frozen HOd.out q;have hc5:(w4.drew.setCell ⟨tb,q,none⟩ (.slice (some ⟨G i,0,none⟩) (n+1) (C i))).cell? ⟨w.heap.size,0,none⟩=some (.slice (some ⟨tb,0,none⟩) M.length R)∧(w4.drew.setCell ⟨tb,q,none⟩ (.slice (some ⟨G i,0,none⟩) (n+1) (C i))).cell? ⟨tb,i,none⟩=some (.slice (some ⟨G i,0,none⟩) (n+1) (C i)):=⟨CB.cell (CB.far HTd.out (p:=⟨tb,q,none⟩) (show w.heap.size≠tb from fun e=>x0.out (by rw[e];exact HS.out.1)) _) 0 rfl,set_head Z0.out a1.out⟩;refine Early.next (i:=17) (by kernel_rfl) rfl (fun K hK=>?_);go_simp;refine hK _ _ (fun _=>hc5) ?_;clear hK K;(try simp only[PT])
     refine Early.next (i:=18) (by kernel_rfl) rfl (fun K hK=>?_);go_simp;refine hK _ _ (fun h=>absurd h (by decide)) ?_;clear hK K;(try simp only[PT])
     have q2:(w4.setCell ⟨tb,q,none⟩ (.slice (some ⟨G i,0,none⟩) (n+1) (C i))).cell? ⟨tb,i,none⟩=some (.slice (some ⟨G i,0,none⟩) (n+1) (C i)):=hc5.2;have fz2:(w4.setCell ⟨tb,q,none⟩ (.slice (some ⟨G i,0,none⟩) (n+1) (C i))).frozen? ⟨tb,i,none⟩=false:=by rw[World.frozen?_setCell];exact OM.frozen HOd.out i
     refine Early.next (i:=19) (by kernel_rfl) rfl (fun K hK=>?_);go_simp;refine hK _ _ (fun h=>absurd h (by decide)) ?_;clear hK K;(try simp only[PT])
     clear qq ql fz hc5 q2 fz2;refine Early.done (by kernel_rfl) ?_ _;(try simp only[Exit.then])
     clear f0;have hswap:=OM.swapT i0.out j0.out hqt hit HS.out.1;obtain⟨w5,hw5⟩:∃ w5:World,w5=((w4.setCell ⟨tb,q,none⟩ (.slice (some ⟨G i,0,none⟩) (n+1) (C i))).setCell ⟨tb,i,none⟩ (.slice (some ⟨G q,0,none⟩) (n+1) (C q))).drew:=⟨_,rfl⟩;rw[← hw5] at hswap ⊢;clear hw5;obtain⟨ho5,ht5⟩:=hswap;have z5:=ht5.size;have A0:=zz ho5;have x1:=zz ((Turns.of (S:=S) b0.out).trans ht5);have L0:=zz (y0.out.turns ht5 x0.out);clear ho5 ht5 i0 y0;have hg':∀ k,k<M.length→S ((fun n=>if n=i then G q else if n=q then G i else G n) k):=fun k hk=>by
      by_cases e1:k=i
      ·simp only[e1,if_true];exact l0.out q (by omega)
      ·by_cases e2:k=q
       ·simp only[e2,if_true];split;exact l0.out q (by omega);exact l0.out i hin
       ·simp only[e1,e2,if_false];exact l0.out k hk
     generalize (fun n=>if n=i then G q else if n=q then G i else G n)=G5 at A0 hg';generalize (fun n=>if n=i then C q else if n=q then C i else C n)=C5 at A0;have M0:=zz hg';clear hg';have hsl:(swapQ T q i).length=M.length:=by rw[swapQ_len,h0.out]
     have k0:=zz hsl;clear hsl;have hgq:growQ l p.length≤growQ l n:=growQ_mono (by have:=X0.out.2;omega);have y1:=zz hgq;clear hgq;have hvx:∀ X,(Value.slice oA q oc).ownBlock=some X→w.heap.size+1≤X∧X<wB.heap.size:=fun X hX=>World.ownsRow.lt HV.out X hX
     have r0:=zz hvx;clear hvx;have hj1:(j:Int)≤999999:=by omega
     go_wp2_with fail
     rw[show M.length=(swapQ T q i).length from k0.out.symm];refine(clear_any w5 w.heap.size tb R B Rh G5 C5 (swapQ T q i) q j (n+1) (growQ l p.length) S (Value.ownBlock (.slice oA q oc)) (fun X hX=>by have:=(r0.out X hX).2;have:=b0.out.size;omega) (by rw[k0.out];exact L0.out) (by rw[k0.out];exact HR.out) A0.out (j0.out.swap hqt hit) (by rw[k0.out];omega) (by omega) (by rw[swapQ_at hqt hit,← HX.out];exact u1.out) (fun k hk=>M0.out k (by rw[← k0.out];exact hk)) (fun b hb=>by have:=n0.out b hb;have:=HW.out.size;have:=b0.out.size;omega) x0.out q1.out.swap (growQ_pos S0.out _) (by have:=p1.out;have:=y1.out;omega) ⟨by rw[k0.out];omega,by omega⟩).mono ?_;rintro e w6 ⟨rfl,ht6,ho6⟩;rw[show(swapQ T q i).length=M.length from k0.out];have N0:=zz (x1.out.trans ht6);have O0:=zz ho6;have b1:=zz (L0.out.turns ht6 x0.out);have z6:=ht6.size;clear ht6 ho6 A0 L0;have d1:=zz (OwnV.turns HV.out N0.out (fun b hb=>by have:=n0.out b hb;omega));have hT2l:(clearQ (swapQ T q i) q j).length=M.length:=by rw[clearQ_len,k0.out]
     have f1:=zz hT2l;clear hT2l;have hstep:elimQ M (j+1)=(clearQ (swapQ T q i) q j,p++[j]):=by
      show stepQ (elimQ M j).1 (elimQ M j).2 j=_
      rw[g0.out];unfold stepQ;simp only;rw[← HQ.out,p0.out,if_pos hit]
     have HSTEP:=zz hstep;clear hstep;generalize clearQ (swapQ T q i) q j=T2 at O0 f1 HSTEP;have hal:=below_alloc1 (Below.refl w6.heap.size w6) (.cells #[.int .i64 (j:Int)] 3);have g1:=zz (OM.step O0.out ERo.stable hal);have i1:=zz (CB.step b1.out hal);have j1:=zz (OwnV.alloc d1.out (.cells #[.int .i64 (j:Int)] 3));have k1:=zz ((HW.out.trans N0.out).trans (Turns.of hal));clear hal O0 b1 d1;obtain⟨ii,hii,hz0,hz1,hz2⟩:=info_parts info_int;go_wp2_with (at_builtin;go_loud (refine wpList_append_own_at _ rfl _ _ 29 rfl (w.heap.size+1) 3 ii (.int .i64 0) 1 8 Tryz.underlying29 hii hz0 hz1 hz2 rfl (by decide) (.slice oA q oc) q ((ni p).map (Value.int .i64)) rfl (by have:=j1.out;unfold OwnV at this;rwa [ni_length,← HQ.out] at this) ⟨w6.heap.size,0,none⟩ 1 1 [.int .i64 (j:Int)] rfl rfl (cell_one_new _ _ _) (by intro u hu;simp at hu;subst hu;rfl) (by simp only[maxLen];omega) (by omega) (by have:=HW.out.size;have:=N0.out.size;simp;omega) ?_))
     intro v7 w7 hown' hgrow hne hblk;have hov:OwnV w7 (w.heap.size+1) v7 (ni (p++[j])):=by unfold OwnV;rw[ni_append,List.length_append,ni_length,← HQ.out,List.map_append];exact hown'
     have hlead:=OM.lead g1.out hgrow (fun X hX=>⟨fun e=>by have h1:=(r0.out X hX).1;have h2:=n0.out tb HS.out.1;omega,fun k hk e=>by have h1:=(r0.out X hX).1;have h2:=n0.out _ (M0.out k (by rw[← f1.out];exact hk));omega⟩) (by simpa using hblk);have z1:=zz hlead;have A1:=zz hov;have B1:=zz (k1.out.grown hgrow (fun X hX=>by have:=(r0.out X hX).1;omega));have C1:=zz (CB.grown1 i1.out hgrow (fun hX=>by have:=(r0.out _ hX).1;omega));clear hlead hov hown' hgrow hne hblk g1 j1 k1 i1;go_wp2;go_roundw
     case rel=>exact⟨j+1,T2,p++[j],G5,C5,by go_num,.inl ⟨hjn',HSTEP.out⟩,z1,M0,A1,B1,C1⟩
     case measure=>simp[intOf];omega
    ·obtain rfl:i=M.length:=by omega
     have p0:=zz (show pivQ T j q=M.length from pivQ_eq hqm (by rw[h0.out];exact Nat.le_refl _) HZ.out (fun h=>by rw[h0.out] at h;omega));have J0:=zz (OwnV.step HV.out HB.out);have i0:=zz (OM.step HO.out ERo.stable HB.out);have K0:=zz (HW.out.trans (Turns.of HB.out));have hnxt:(j+1≤n∧elimQ M (j+1)=(T,p))∨(j+1=n+1∧elimQ M n=(T,p)∧solvQ (elimQ M n) n=true):=by
      rcases Nat.lt_or_ge j n with h | h
      ·exact .inl ⟨h,by show stepQ (elimQ M j).1 (elimQ M j).2 j=_;rw[g0.out];unfold stepQ;simp only;rw[← HQ.out,p0.out,h0.out,if_neg (Nat.lt_irrefl _)]⟩
      ·have h2:j=n:=by omega
       subst h2;exact .inr ⟨rfl,g0.out,by rw[g0.out,solvQ];simp only;rw[← HQ.out,p0.out,h0.out,beq_self_eq_true]⟩
     go_wp2;go_roundw
     case rel=>exact⟨j+1,T,p,G,C,by go_num,hnxt,i0,l0,J0,K0,HTr⟩
     case measure=>simp[intOf];omega
  ·have hne:((n:Int)+1<(n:Int)+1)=False:=by simp
   go_wp2;rw[Exit.noGoto_ret];go_ret2;refine⟨_,G,C,by rw[hsol];rfl,?_,HW.out,?_,l0.out⟩
   ·rw[hst];exact HV.out.ri
   ·rw[hst];exact OM.mapE HO.out fun _ _ h=>h.er
end Go.Proofs.YtdigbofiebfkeaaGreatDoor
