/- Layer 35: reduce (written by gen_lk.py). -/
import Derived.Test.YtencnahjgbdeoaaGreatDoorLj
namespace Go.Proofs.YtencnahjgbdeoaaGreatDoor
open Go Go.RowKit Dig
set_option maxRecDepth 100000
set_option maxHeartbeats 4000000
set_option linter.unusedSimpArgs false
variable {V row:Option Nat} {w w':World}
theorem RN.grown {A:Option Addr} {l c:Nat} {d:List Nat} (h:RN w w.heap.size (.slice A l c) d) (hn:∀ X,V=some X→uY X (.slice A l c)) (hg:w.grownBy w' V):RN w' w'.heap.size (.slice A l c) d:=by
 obtain⟨A1,c1,e,h1,h2,h3⟩:=h;refine⟨A1,c1,e,h1,h2,fun h0=>?_⟩;injection e with e1 e2 e3
 subst e1;subst e3;obtain⟨g,off,hA,hlt,hx⟩:=h3 h0;refine⟨g,off,hA,aEt hlt hg.size,fun j hj=>?_⟩;rw[← hx j hj];refine aIt (hg.block g hlt (fun e=>?_));exact hn g e.symm _ _ _ (by rw[hA]) (by omega) rfl
theorem ERo.grown {V':Option Nat} {cs:List Value} {q:Rat} (h:ERo V w w.heap.size cs q) (hg:w.grownBy w' V) (hv:V'=V∨V'=some w.heap.size):ERo V' w' w'.heap.size cs q:=by
 have hs:∃ c0 c1 c2,cs=[c0,c1,c2]∧RV w w.heap.size (.agg #[c0,c1,c2]) q∧∀ X,V'=some X→uY X c1∧uY X c2:=by
  rcases hv with rfl | rfl
  ·exact h
  ·exact ERo.ofSome h.er (aEa _)
 obtain⟨c0,c1,c2,rfl,⟨n,A,l,c,A',l',c',e,h1,h2,h3⟩,hn⟩:=h;injection e with e
 simp at e
 obtain⟨rfl,rfl,rfl⟩:=e;obtain⟨d0,d1,d2,e,-,hn'⟩:=hs;simp at e
 obtain⟨rfl,rfl,rfl⟩:=e;exact⟨_,_,_,rfl,⟨_,_,_,_,_,_,_,rfl,h1.grown (fun X hX=>(hn X hX).1) hg,h2.grown (fun X hX=>(hn X hX).2) hg,h3⟩,hn'⟩
theorem OB.grownE {α:Type} {k:Nat} {E E':Elem α} {T:TypeId} {g n:Nat} {l:List α} (h:OB k E T w g n l) (hg:w.grownBy w' row) (hr:row≠some g) (hE:∀ cs a,E w w.heap.size cs a→E' w' w'.heap.size cs a):OB k E' T w' g n l:=by
 have hlt:=h.lt;obtain⟨arr,h1,h2,h3,h4⟩:=h;refine⟨arr,(hg.block g hlt (fun e=>hr e.symm)).trans h1,h2,h3,fun j hj=>?_⟩;obtain⟨cs,e1,e2,e3⟩:=h4 j hj;exact⟨cs,e1,e2,hE _ _ e3⟩
section
variable {T TH:TypeId} {w w':World} {B tb R:Nat} {G C:Nat→Nat} {M:List (List Rat)} {m a i:Nat}
theorem OM.lead {V':Option Nat} (h:OM 3 (ERo V) T TH w B tb R G C M) (hg:w.grownBy w' V) (hV:∀ X,V=some X→tb≠X∧∀ i,i<M.length→G i≠X) (hv:V'=V∨V'=some w.heap.size):OM 3 (ERo V') T TH w' B tb R G C M:=
 ⟨h.hdr.grownE hg (fun e=>(hV _ e).1 rfl) (fun _ _ h=>h),h.cap,h.inj,h.apart,h.low,fun i hi=>(h.rows i hi).grownE hg (fun e=>(hV _ e).2 i hi rfl) (fun _ _ h=>h.grown hg hv)⟩
theorem CB.grown1 {b:Nat} {t:TypeId} {cs:Array Value} (h:CB w b t cs) (hg:w.grownBy w' row) (hr:row=some b→False):CB w' b t cs:=(hg.block b h.lt (fun e=>hr e.symm)).trans h
theorem Turns.grown {w'':World} {S:Nat→Prop} (h:Turns w w' S) (hg:w'.grownBy w'' row) (hr:∀ X,row=some X→w.heap.size≤X):Turns w w'' S:=
 ⟨hg.os.trans h.os,hg.tape.trans h.tape,hg.output.trans h.output,aEg h.size hg.size,fun b hb hs=>(hg.block b (aEt hb h.size) (fun e=>by have:=hr b e.symm;omega)).trans (h.block b hb hs),
  aEg h.size hg.size,fun p k x e=>by
  have hl:=iX e;exact(aIt (hg.block p.block (aEt hl h.size) (fun e=>by have:=hr _ e.symm;omega))).trans (h.soft.2 p k x e)⟩
theorem OwnV.turns {S:Nat→Prop} {base:Nat} {v:Value} {l:List Int} (h:OwnV w base v l) (ht:Turns w w' S) (hS:∀ b,S b→b<base):OwnV w' base v l:=by
 obtain⟨h0,h | ⟨g,cap,cur,hv,hb,hh,h1⟩⟩:=h
 ·exact⟨h0,.inl h⟩
 ·exact⟨h0,.inr ⟨g,cap,cur,hv,hb,(ht.block g (aFx.1 hh).1 (fun hs=>by have:=hS g hs;omega)).trans hh,h1⟩⟩
theorem OM.swapT {S:Nat→Prop} (h:OM 3 (ERo V) T TH w B tb R G C M) (hW:Wide M m) (ha:a<M.length) (hi:i<M.length) (hS:S tb) :
  OM 3 (ERo V) T TH ((w.setCell ⟨tb,a,none⟩ (.slice (some ⟨G i,0,none⟩) m (C i))).setCell ⟨tb,i,none⟩ (.slice (some ⟨G a,0,none⟩) m (C a))).drew B tb R
   (fun n=>if n=i then G a else if n=a then G i else G n) (fun n=>if n=i then C a else if n=a then C i else C n) (dM M a i) ∧
  Turns w ((w.setCell ⟨tb,a,none⟩ (.slice (some ⟨G i,0,none⟩) m (C i))).setCell ⟨tb,i,none⟩ (.slice (some ⟨G a,0,none⟩) m (C a))).drew S:=by
 have h1:=h.swap ERo.soft a i ha hi;rw[hW _ (aEc hi),hW _ (aEc ha)] at h1;refine⟨aJx (OM.ofEq h1.1 (by unfold dM;rw[aG hi,aG ha])) aIk (aA (aDy _ _)),rfl,rfl,rfl,h1.2.1,fun b hb hn=>?_,h1.2.1,h1.2.2⟩;have hne:b≠tb:=fun e=>hn (by rw[e];exact hS)
 exact(aFr _ ⟨tb,i,none⟩ _ b hne).trans (aFr _ ⟨tb,a,none⟩ _ b hne)
end
theorem VF {tb i q:Nat} {v u:Value} (h:w.cell? ⟨tb,i,none⟩=some v) (hq:w.cell? ⟨tb,q,none⟩=some u):(w.drew.setCell ⟨tb,q,none⟩ v).cell? ⟨tb,i,none⟩=some v:=by
 by_cases e:q=i
 ·subst e;exact World.cell?_setCell_same _ _ _ hq
 ·rw[World.cell?_setCell_other _ _ _ _ (fun h=>by injection h with h1 h2;exact e h2)];exact h
theorem PK {T:List (List Rat)} {q i j:Nat} (hz:∀ k,q≤k→k<i→bP T k j=0) (h0:bP T i j=0) (k:Nat) (h1:q≤k) (h2:k<i+1):bP T k j=0:=by
 rcases aFk k i with h | h
 ·exact hz k h1 h
 ·obtain rfl:k=i:=by omega
  exact h0
theorem jE (w:World) (tb R B Rh:Nat) (G C:Nat→Nat) (M:List (List Rat)) (n:Nat) {T TH:TypeId} (hO:OM 3 ER T TH w B tb Rh G C M) (hW:Wide M (n+1)) (hM:0<M.length) (hR:M.length≤R∧R≤9223372036854775807) :
  CV 72 #[.slice (some ⟨tb,0,none⟩) M.length R] w fun e _=>e=.returned (.int .i64 (n:Int)):=
 (WL w _ _ _ M (hO.sl hR.1 hR.2) hM).mono fun e w' ⟨hb,he⟩=>⟨hb,by rw[he,hW _ (aEc hM),show((n+1:Nat):Int)-1=(n:Int) by omega]⟩
theorem zE (w:World) (tb R B Rh:Nat) (G C:Nat→Nat) (M:List (List Rat)) (n:Nat) {V:Option Nat} {T TH:TypeId} (hO:OM 3 (ERo V) T TH w B tb Rh G C M) (hW:Wide M (n+1)) (hM:0<M.length) (hR:M.length≤R∧R≤9223372036854775807) :
  CV 72 #[.slice (some ⟨tb,0,none⟩) M.length R] w fun e _=>e=.returned (.int .i64 (n:Int)):=
 jE w tb R B Rh G C M n (OM.mapE hO fun _ _ h=>h.er) hW hM hR
theorem wF (w:World) (tb R B Rh:Nat) (G C:Nat→Nat) (M:List (List Rat)) (n l:Nat) (S:Nat→Prop) (hR:M.length≤R∧R≤9223372036854775807) (hO:OM 3 ER 88 65 w B tb Rh G C M) (hW:Wide M (n+1)) (hM:0<M.length)
  (hS:S tb∧∀ i,i<M.length→S (G i)) (hS2:∀ b,S b→b<w.heap.size) (hL:Short l M) (hl1:1≤l) (hl2:3*dE l n≤60000000) (hn:M.length≤1000000∧n≤999999) :
  Calls Tryz.prog 71 #[.agg #[.slice (some ⟨tb,0,none⟩) M.length R]] w fun e w'=>∃ v G' C',e=.returned (.tuple #[v,.bool (solvQ (elimQ M n) n)])∧RI w' w'.heap.size v (ni (elimQ M n).2)∧Turns w w' S∧OM 3 ER 88 65 w' B tb Rh G' C' (elimQ M n).1∧∀ i,i<M.length→S (G' i):=by
 obtain⟨hn1,hn2⟩:=hn;have hnn:(M.length:Int)≤1000000:=by omega
 have hmm:(n:Int)≤999999:=by omega
 have hmi:(0:Int)<(M.length:Int):=by omega
 have Q0:=zz hO;have R0:=zz hW;have HS:=zz hS;have n0:=zz hS2;have HL:=zz hL;have S0:=zz hl1;have p1:=zz hl2;have HR:=zz hR;clear hO hW hS hS2 hL hl1 hl2 hn1 hn2;obtain⟨hR1,hR2⟩:=hR;obtain⟨w0,hw0⟩:=ex (w.alloc (.cells #[.slice (some ⟨tb,0,none⟩) M.length R] 100));have B0:=zz (cK hw0);have z0:=cJ hw0;have Lt:=cL hw0;go_enter Tryz.func71,Tryz.ntmps71
 have T0:=zz (show OwnV w0 (w.heap.size+1) (.slice none 0 0) [] from aLv _ _);go_wp2;go_step3;go_wp2;go_step3;rw[← hw0];clear hw0;have v0:=zz Lt;have D0:=zz (aJx Q0.o aEw B0.o);have g0:=zz (aLk (S:=S) B0.o);have x0:=zz (show ¬ S w.heap.size from fun h=>aJt _ (n0.o _ h));clear Q0;have q0:=v0.o.cell 0 rfl;have ql:=v0.o.lt;go_wp2_with fail
 refine(nx B0 (jE _ _ _ _ _ _ _ _ n D0.o R0.o hM HR.o)).mono ?_;rintro e w1 ⟨⟨B2,z2,a0⟩,rfl⟩;clear q0 ql;have U0:=st aEd v0 B2;have V0:=zz (aJx D0.o aEw B2.o);have E0:=zz (g0.o.trans (aLk B2.o));have F0:=st aLq T0 B2;clear v0 D0 g0 T0;have W0:Hi (OM 3 (ERo (Value.ownBlock (.slice none 0 0))) 88 65 w1 B tb Rh G C (elimQ M 0).1):=zz (OM.mapE V0.o fun _ _ h=>ERo.ofNone h);have hnw:IntKind.i64.wrap ((n:Int)+1)=(n:Int)+1:=aHa _ (by omega);go_wp2;go_loopw [2,13] (fun ov iv wr=>∃ (j:Nat) (T:List (List Rat)) (p:List Nat) (G C:Nat→Nat),iv=.int .i64 j∧((j≤n∧elimQ M j=(T,p))∨(j=n+1∧elimQ M n=(T,p)∧solvQ (elimQ M n) n=true))∧Hi (OM 3 (ERo ov.ownBlock) 88 65 wr B tb Rh G C T)∧Hi (∀ i,i<M.length→S (G i))∧Hi (OwnV wr (w.heap.size+1) ov (ni p))∧Hi (Turns w wr S)∧Hi (CB wr w.heap.size 100 #[.slice (some ⟨tb,0,none⟩) M.length R])) (fun _ iv _=>n+1-(intOf iv).toNat)
 case atStart=>exact⟨0,_,_,G,C,rfl,.inl ⟨aEy _,rfl⟩,W0,zz HS.o.2,F0,E0,U0⟩
 case round=>
  rename World=>wB
  clear W0 F0 E0 U0 V0 hnw;obtain⟨j,T,p,G,C,rfl,hst,HO,l0,HV,HW,HT⟩:=hrel;have zr:=HW.o.size;rcases hst with ⟨hj,hst⟩ | ⟨rfl,hst,hsol⟩
  ·have hTl:T.length=M.length:=by have:=eL M j;rwa [hst] at this
   have hTw:Wide T (n+1):=by have:=R0.o.elim j;rwa [hst] at this
   have hTs:Short (dE l p.length) T:=by have:=HL.o.elim S0.o j;rwa [hst] at this
   have hp:=jG M j;rw[hst] at hp;simp only at hp;obtain⟨hp1,hp2⟩:=hp;have h0:=zz hTl;have j0:=zz hTw;have q1:=zz hTs;have g0:=zz hst;have X0:=zz (aEn hp1 hp2);clear hTl hTw hTs hst hp1 hp2;obtain⟨q,hq⟩:=ex (p.length);have HQ:=zz hq;clear hq;obtain⟨oA,oc,rfl⟩:=RI.slice HV.o.ri;rw[show(ni p).length=q by rw[aC,HQ.o]] at HO HV ⊢;have hqm:q≤M.length:=by rw[HQ.o];exact X0.o.1
   have hji:(0:Int)≤(j:Int)∧(j:Int)<(n:Int)+1:=by omega
   have q0:=HT.o.cell 0 rfl;have ql:=HT.o.lt;have e0:=zz (aDy wB.heap.size wB);go_wp2;clear q0 ql;go_loopw [2,7] (fun ov iv wr=>∃ i:Nat,ov=.slice oA q oc∧q≤i∧i≤M.length∧iv=.int .i64 i∧Hi (∀ k,q≤k→k<i→bP T k j=0)∧Hi (Below wB.heap.size wB wr)) (fun _ iv _=>M.length-(intOf iv).toNat)
   case atStart=>exact⟨q,rfl,aEa _,hqm,by go_num,zz (fun k h1 h2=>by omega),e0⟩
   case round=>
    obtain⟨i,rfl,hi1,hi2,rfl,HZ,HB⟩:=hrel;have zb:=HB.o.size;have HTr:=st aEd HT HB;have q0:=HTr.o.cell 0 rfl;have ql:=HTr.o.lt;by_cases hin:i<M.length
    ·have hit:i<T.length:=by rw[h0.o];exact hin
     have hii:(0:Int)≤(i:Int)∧(i:Int)<(M.length:Int):=by omega
     have HOr:=zz (aJx HO.o aIk HB.o);obtain⟨x,hx⟩:=ex (bP T i j);obtain⟨xn,xA,xl,xc,xB,xu,xd,hE,hv⟩:=OM.elem HOr.o j0.o hit (show j<n+1 by omega);rw[← hx] at hv;have H0:=zz hv;have HX:=zz hx;clear hv hx;have qh:=aMn HOr.o j0.o hit;have qc:=aMi HOr.o j0.o hit;have qe0:=hE.c0;have qe1:=hE.c1;have qe2:=hE.lt;clear hE;have hnj:(j:Int)<((n+1:Nat):Int):=by omega
     by_cases hx0:x=0
     ·have hs0:x.num.sign=0:=by rw[hx0];rfl
      have r1:=zz (show ∀ k,q≤k→k<i+1→bP T k j=0 from PK HZ.o (HX.o.symm.trans hx0));have s1:=zz hs0;clear hx0 hs0;go_wp2_with fail
      refine(oH _ _ _ (RV.whole H0.o)).mono ?_;rintro e w3 ⟨hb,rfl⟩;have a0:=zz (HB.o.trans (hb.mono HB.o.size));clear hb q0 ql qh qc qe0 qe1 qe2;rw[s1.o];go_wp2;go_roundw
      case rel=>exact⟨i+1,rfl,by omega,hin,by go_num,r1,a0⟩
      case measure=>exact ms
     obtain⟨s,hs⟩:=ex (x.num.sign);have hs0:(s==0)=false:=by rw[aEo,hs];intro h;exact hx0 (by have:=Int.sign_eq_zero_iff_zero.1 h;exact aMf.1 this)
     have p0:=zz (show pivQ T j q=i from BG hi1 (aMr hit) HZ.o (fun _=>by rw[← HX.o];exact hx0));have u1:=zz hx0;have v1:=zz hs;clear hs hx0;go_wp2_with fail
     refine(oH _ _ _ (RV.whole H0.o)).mono ?_;rintro e w3 ⟨hb,rfl⟩;have a0:=zz (HB.o.trans (hb.mono HB.o.size));clear hb q0 ql qh qc qe0 qe1 qe2;rw[← v1.o];have I0:=st aEd HT a0;have Y0:=zz (aJx HO.o aIk a0.o);clear HTr HOr H0;have q0:=I0.o.cell 0 rfl;have ql:=I0.o.lt;go_wp2_with fail
     rw[show M.length=T.length from h0.o.symm];refine(zE _ _ _ _ _ _ _ _ n Y0.o j0.o (by omega) (by rw[h0.o];exact HR.o)).mono ?_;rintro e w4 ⟨hb,rfl⟩;have b0:=zz (a0.o.trans (hb.mono a0.o.size));clear hb q0 ql;rw[show T.length=M.length from h0.o];have y0:=st aEd HT b0;have i0:=zz (aJx HO.o aIk b0.o);clear I0 Y0;by_cases hjn:j=n
     ·subst hjn;have o1:=zz (show solvQ (elimQ M j) j=false by rw[g0.o,solvQ];simp only;rw[← HQ.o,p0.o,aEo];omega);have J0:=st aLq HV b0;have K0:=zz (HW.o.trans (aLk b0.o));go_wp2;rw[aIq];go_ret2;refine⟨_,G,C,by rw[o1.o];rfl,?_,K0.o,?_,l0.o⟩
      ·rw[g0.o];exact J0.o.ri
      ·rw[g0.o];exact OM.mapE i0.o fun _ _ h=>h.er
     have hjn':j<n:=by omega
     have hjne:((j:Int)==(n:Int))=false:=by rw[aEo];omega
     have hqi:q≤i:=hi1;have hqt:q<T.length:=by omega
     have hqq:(0:Int)≤(q:Int)∧(q:Int)<(M.length:Int):=by omega
     go_upto_region 12 with (fail)
     have Z0:=zz (aMn i0.o j0.o hit);have a1:=zz (aMn i0.o j0.o hqt);have f0:∀ w':World,Below w4.heap.size w4 w'→(w'.cell? ⟨w.heap.size,0,none⟩=some (.slice (some ⟨tb,0,none⟩) M.length R)∧w'.cell? ⟨tb,i,none⟩=some (.slice (some ⟨G i,0,none⟩) (n+1) (C i))):=fun w' h=>⟨(aEd y0.o h).cell 0 rfl,(h.cell (p:=⟨tb,i,none⟩) i0.o.lt).trans Z0.o⟩
     refine aIr 18 (fun w'=>w'.cell? ⟨w.heap.size,0,none⟩=some (.slice (some ⟨tb,0,none⟩) M.length R)∧w'.cell? ⟨tb,i,none⟩=some (.slice (some ⟨G i,0,none⟩) (n+1) (C i))) (by kernel_rfl) ?_;refine ET 0 (.pointer (some ⟨w.heap.size,0,none⟩)) rfl (Or.inl ⟨by rfl,?_⟩) ?_ ?_
     ·intro w' hSw;obtain⟨t0,t1⟩:=hSw;go_simp
     ·exact f0 _ (aA (aDy _ _))
     (try simp only[PT])
     refine ET 1 (.slice (some ⟨tb,0,none⟩) M.length R) rfl (Or.inl ⟨by rfl,?_⟩) ?_ ?_
     ·intro w' hSw;obtain⟨t0,t1⟩:=hSw;go_simp
     ·exact f0 _ (aA (aDy _ _))
     (try simp only[PT])
     refine ET 2 (.int .i64 (q:Int)) rfl (Or.inl ⟨by rfl,?_⟩) ?_ ?_
     ·intro w' hSw;obtain⟨t0,t1⟩:=hSw;go_simp
     ·exact f0 _ (aA (aDy _ _))
     (try simp only[PT])
     refine ET 3 (.pointer (some ⟨w.heap.size,0,none⟩)) rfl (Or.inl ⟨by rfl,?_⟩) ?_ ?_
     ·intro w' hSw;obtain⟨t0,t1⟩:=hSw;go_simp
     ·exact f0 _ (aA (aDy _ _))
     (try simp only[PT])
     refine ET 4 (.slice (some ⟨tb,0,none⟩) M.length R) rfl (Or.inl ⟨by rfl,?_⟩) ?_ ?_
     ·intro w' hSw;obtain⟨t0,t1⟩:=hSw;go_simp
     ·exact f0 _ (aA (aDy _ _))
     (try simp only[PT])
     refine ET 5 (.int .i64 (i:Int)) rfl (Or.inl ⟨by rfl,?_⟩) ?_ ?_
     ·intro w' hSw;obtain⟨t0,t1⟩:=hSw;go_simp
     ·exact f0 _ (aA (aDy _ _))
     (try simp only[PT])
     refine ET 6 (.pointer (some ⟨w.heap.size,0,none⟩)) rfl (Or.inl ⟨by rfl,?_⟩) ?_ ?_
     ·intro w' hSw;obtain⟨t0,t1⟩:=hSw;go_simp
     ·exact f0 _ (aA (aDy _ _))
     (try simp only[PT])
     refine ET 7 (.slice (some ⟨tb,0,none⟩) M.length R) rfl (Or.inl ⟨by rfl,?_⟩) ?_ ?_
     ·intro w' hSw;obtain⟨t0,t1⟩:=hSw;go_simp
     ·exact f0 _ (aA (aDy _ _))
     (try simp only[PT])
     refine ET 8 (.int .i64 (i:Int)) rfl (Or.inl ⟨by rfl,?_⟩) ?_ ?_
     ·intro w' hSw;obtain⟨t0,t1⟩:=hSw;go_simp
     ·exact f0 _ (aA (aDy _ _))
     (try simp only[PT])
     refine ET 9 (.pointer (some ⟨tb,i,none⟩)) rfl (Or.inl ⟨by rfl,?_⟩) ?_ ?_
     ·intro w' hSw;obtain⟨t0,t1⟩:=hSw;go_simp
     ·exact f0 _ (aA (aDy _ _))
     (try simp only[PT])
     refine ET 10 (.slice (some ⟨G i,0,none⟩) (n+1) (C i)) rfl (Or.inl ⟨by rfl,?_⟩) ?_ ?_
     ·intro w' hSw;obtain⟨t0,t1⟩:=hSw;go_simp
     ·exact f0 _ (aA (aDy _ _))
     (try simp only[PT])
     refine ET 11 (.pointer (some ⟨w.heap.size,0,none⟩)) rfl (Or.inl ⟨by rfl,?_⟩) ?_ ?_
     ·intro w' hSw;obtain⟨t0,t1⟩:=hSw;go_simp
     ·exact f0 _ (aA (aDy _ _))
     (try simp only[PT])
     refine ET 12 (.slice (some ⟨tb,0,none⟩) M.length R) rfl (Or.inl ⟨by rfl,?_⟩) ?_ ?_
     ·intro w' hSw;obtain⟨t0,t1⟩:=hSw;go_simp
     ·exact f0 _ (aA (aDy _ _))
     (try simp only[PT])
     refine ET 13 (.int .i64 (q:Int)) rfl (Or.inl ⟨by rfl,?_⟩) ?_ ?_
     ·intro w' hSw;obtain⟨t0,t1⟩:=hSw;go_simp
     ·exact f0 _ (aA (aDy _ _))
     (try simp only[PT])
     refine ET 14 (.pointer (some ⟨tb,q,none⟩)) rfl (Or.inl ⟨by rfl,?_⟩) ?_ ?_
     ·intro w' hSw;obtain⟨t0,t1⟩:=hSw;go_simp
     ·exact f0 _ (aA (aDy _ _))
     (try simp only[PT])
     have HOd:=zz (aJx i0.o aIk (aA (aDy w4.heap.size w4)));have HTd:=zz (aGz y0.o);have qq:w4.drew.cell? ⟨tb,q,none⟩=some (.slice (some ⟨G q,0,none⟩) (n+1) (C q)):=a1.o;have ql:=HOd.o.lt;refine en 15 rfl fun K hK=>?_;go_simp;refine hK _ _ (fun _=>f0 _ (aA (aDy _ _))) ?_;clear hK K;(try simp only[PT])
     refine en 16 rfl fun K hK=>?_;go_simp;refine hK _ _ (fun _=>f0 _ (aA (aDy _ _))) ?_;clear hK K;(try simp only[PT])
     have fz:=OM.frozen HOd.o q;have hc5:(w4.drew.setCell ⟨tb,q,none⟩ (.slice (some ⟨G i,0,none⟩) (n+1) (C i))).cell? ⟨w.heap.size,0,none⟩=some (.slice (some ⟨tb,0,none⟩) M.length R)∧(w4.drew.setCell ⟨tb,q,none⟩ (.slice (some ⟨G i,0,none⟩) (n+1) (C i))).cell? ⟨tb,i,none⟩=some (.slice (some ⟨G i,0,none⟩) (n+1) (C i)):=⟨CB.cell (aMl HTd.o (p:=⟨tb,q,none⟩) (show w.heap.size≠tb from fun e=>x0.o (by rw[e];exact HS.o.1)) _) 0 rfl,VF Z0.o a1.o⟩;refine en 17 rfl fun K hK=>?_;go_simp;refine hK _ _ (fun _=>hc5) ?_;clear hK K;(try simp only[PT])
     refine en 18 rfl fun K hK=>?_;go_simp;refine hK _ _ (fun h=>absurd h (by decide)) ?_;clear hK K;(try simp only[PT])
     have q2:(w4.setCell ⟨tb,q,none⟩ (.slice (some ⟨G i,0,none⟩) (n+1) (C i))).cell? ⟨tb,i,none⟩=some (.slice (some ⟨G i,0,none⟩) (n+1) (C i)):=hc5.2;have fz2:(w4.setCell ⟨tb,q,none⟩ (.slice (some ⟨G i,0,none⟩) (n+1) (C i))).frozen? ⟨tb,i,none⟩=false:=by rw[World.frozen?_setCell];exact OM.frozen HOd.o i
     refine en 19 rfl fun K hK=>?_;go_simp;refine hK _ _ (fun h=>absurd h (by decide)) ?_;clear hK K;(try simp only[PT])
     clear qq ql fz hc5 q2 fz2;refine aIj (by kernel_rfl) ?_ _;(try simp only[Exit.then])
     clear f0;have hswap:=OM.swapT i0.o j0.o hqt hit HS.o.1;obtain⟨w5,hw5⟩:=ex (((w4.setCell ⟨tb,q,none⟩ (.slice (some ⟨G i,0,none⟩) (n+1) (C i))).setCell ⟨tb,i,none⟩ (.slice (some ⟨G q,0,none⟩) (n+1) (C q))).drew);rw[← hw5] at hswap ⊢;clear hw5;obtain⟨ho5,ht5⟩:=hswap;have z5:=ht5.size;have A0:=zz ho5;have x1:=zz ((aLk (S:=S) b0.o).trans ht5);have L0:=zz (y0.o.turns ht5 x0.o);clear ho5 ht5 i0 y0;have hg':∀ k,k<M.length→S ((fun n=>if n=i then G q else if n=q then G i else G n) k):=fun k hk=>by
      by_cases e1:k=i
      ·simp only[e1,if_true];exact l0.o q (by omega)
      ·by_cases e2:k=q
       ·simp only[e2,if_true];split;exact l0.o q (by omega);exact l0.o i hin
       ·simp only[e1,e2,if_false];exact l0.o k hk
     generalize (fun n=>if n=i then G q else if n=q then G i else G n)=G5 at A0 hg';generalize (fun n=>if n=i then C q else if n=q then C i else C n)=C5 at A0;have M0:=zz hg';clear hg';have hsl:(dM T q i).length=M.length:=by rw[cO,h0.o]
     have k0:=zz hsl;clear hsl;have hgq:dE l p.length≤dE l n:=cE (by have:=X0.o.2;omega);have y1:=zz hgq;clear hgq;have hvx:∀ X,(Value.slice oA q oc).ownBlock=some X→w.heap.size+1≤X∧X<wB.heap.size:=fun X hX=>aFn HV.o X hX
     have r0:=zz hvx;clear hvx;have hj1:(j:Int)≤999999:=by omega
     go_wp2_with fail
     rw[show M.length=(dM T q i).length from k0.o.symm];refine(TL w5 w.heap.size tb R B Rh G5 C5 (dM T q i) q j (n+1) (dE l p.length) S (Value.ownBlock (.slice oA q oc)) (fun X hX=>by have:=(r0.o X hX).2;have:=b0.o.size;omega) (by rw[k0.o];exact L0.o) (by rw[k0.o];exact HR.o) A0.o (j0.o.swap hqt hit) (by rw[k0.o];omega) (by omega) (by rw[mV hqt hit,← HX.o];exact u1.o) (fun k hk=>M0.o k (by rw[← k0.o];exact hk)) (fun b hb=>by have:=n0.o b hb;have:=HW.o.size;have:=b0.o.size;omega) x0.o q1.o.swap (cG S0.o _) (by have:=p1.o;have:=y1.o;omega) ⟨by rw[k0.o];omega,by omega⟩).mono ?_;rintro e w6 ⟨rfl,ht6,ho6⟩;rw[show(dM T q i).length=M.length from k0.o];have N0:=zz (x1.o.trans ht6);have O0:=zz ho6;have b1:=zz (L0.o.turns ht6 x0.o);have z6:=ht6.size;clear ht6 ho6 A0 L0;have d1:=zz (OwnV.turns HV.o N0.o (fun b hb=>by have:=n0.o b hb;omega));have hT2l:(clearQ (dM T q i) q j).length=M.length:=by rw[dH,k0.o]
     have f1:=zz hT2l;clear hT2l;have hstep:elimQ M (j+1)=(clearQ (dM T q i) q j,p++[j]):=by
      show dX (elimQ M j).1 (elimQ M j).2 j=_
      rw[g0.o];unfold dX;simp only;rw[← HQ.o,p0.o,aEv hit]
     have HSTEP:=zz hstep;clear hstep;generalize clearQ (dM T q i) q j=T2 at O0 f1 HSTEP;have hal:=aB (aDy w6.heap.size w6) (.cells #[.int .i64 (j:Int)] 3);have g1:=zz (aJx O0.o aIk hal);have i1:=zz (aEd b1.o hal);have j1:=zz (OwnV.alloc d1.o (.cells #[.int .i64 (j:Int)] 3));have k1:=zz ((HW.o.trans N0.o).trans (aLk hal));clear hal O0 b1 d1;obtain⟨ii,hii,hz0,hz1,hz2⟩:=aGf eI;go_wp2_with (at_builtin;go_loud (refine wpList_append_own_at _ rfl _ _ 24 rfl (w.heap.size+1) 3 ii (.int .i64 0) 1 8 Tryz.underlying24 hii hz0 hz1 hz2 rfl (by decide) (.slice oA q oc) q ((ni p).map (Value.int .i64)) rfl (by have:=j1.o;unfold OwnV at this;rwa [aC,← HQ.o] at this) ⟨w6.heap.size,0,none⟩ 1 1 [.int .i64 (j:Int)] rfl rfl (cell_one_new _ _ _) (by intro u hu;simp at hu;subst hu;rfl) (by simp only[maxLen];omega) (by omega) (by have:=HW.o.size;have:=N0.o.size;simp;omega) ?_))
     intro v7 w7 hown' hgrow hne hblk;have hov:OwnV w7 (w.heap.size+1) v7 (ni (p++[j])):=by unfold OwnV;rw[bH,aEp,aC,← HQ.o,aGc];exact hown'
     have hlead:=OM.lead g1.o hgrow (fun X hX=>⟨fun e=>by have h1:=(r0.o X hX).1;have h2:=n0.o tb HS.o.1;omega,fun k hk e=>by have h1:=(r0.o X hX).1;have h2:=n0.o _ (M0.o k (by rw[← f1.o];exact hk));omega⟩) (by simpa using hblk);have z1:=zz hlead;have A1:=zz hov;have B1:=zz (k1.o.grown hgrow (fun X hX=>by have:=(r0.o X hX).1;omega));have C1:=zz (CB.grown1 i1.o hgrow (fun hX=>by have:=(r0.o _ hX).1;omega));clear hlead hov hown' hgrow hne hblk g1 j1 k1 i1;go_wp2;go_roundw
     case rel=>exact⟨j+1,T2,p++[j],G5,C5,by go_num,.inl ⟨hjn',HSTEP.o⟩,z1,M0,A1,B1,C1⟩
     case measure=>exact ms
    ·obtain rfl:i=M.length:=by omega
     have p0:=zz (show pivQ T j q=M.length from BG hqm (by rw[h0.o];exact aEa _) HZ.o (fun h=>by rw[h0.o] at h;omega));have J0:=st aLq HV HB;have i0:=zz (aJx HO.o aIk HB.o);have K0:=zz (HW.o.trans (aLk HB.o));have hnxt:(j+1≤n∧elimQ M (j+1)=(T,p))∨(j+1=n+1∧elimQ M n=(T,p)∧solvQ (elimQ M n) n=true):=by
      rcases aFk j n with h | h
      ·exact .inl ⟨h,by show dX (elimQ M j).1 (elimQ M j).2 j=_;rw[g0.o];unfold dX;simp only;rw[← HQ.o,p0.o,h0.o,aEu (aJt _)]⟩
      ·have h2:j=n:=by omega
       subst h2;exact .inr ⟨rfl,g0.o,by rw[g0.o,solvQ];simp only;rw[← HQ.o,p0.o,h0.o,beq_self_eq_true]⟩
     go_wp2;go_roundw
     case rel=>exact⟨j+1,T,p,G,C,by go_num,hnxt,i0,l0,J0,K0,HTr⟩
     case measure=>exact ms
  ·have hne:((n:Int)+1<(n:Int)+1)=False:=by simp
   go_wp2;rw[aIq];go_ret2;refine⟨_,G,C,by rw[hsol];rfl,?_,HW.o,?_,l0.o⟩
   ·rw[hst];exact HV.o.ri
   ·rw[hst];exact OM.mapE HO.o fun _ _ h=>h.er
end Go.Proofs.YtencnahjgbdeoaaGreatDoor
