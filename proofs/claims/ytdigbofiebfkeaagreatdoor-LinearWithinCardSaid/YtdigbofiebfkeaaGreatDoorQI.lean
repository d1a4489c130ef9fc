/- Layer 04: all, Told, closures (written by gen_qi.py). -/
import Derived.Test.YtdigbofiebfkeaaGreatDoorQC
import Derived.Test.YtdigbofiebfkeaaGreatDoorQH
namespace Go.Proofs.YtdigbofiebfkeaaGreatDoor
open Go Go.RowKit Dig
set_option maxRecDepth 100000
set_option maxHeartbeats 4000000
theorem numOf_is {n:Bool} {a:List Int} {x:Int} (h:numOf n a=some x):Valid n a∧n=decide (x<0)∧a=ni (dig x.natAbs)∧(dig x.natAbs).length≤600:=by
 by_cases hv:Valid n a
 ·obtain⟨z,h1,h2⟩:=numOf_valid hv;rw[h] at h1;injection h1 with h1;subst h1
  exact⟨hv,h2⟩
 ·rw[numOf_bad hv] at h;cases h
theorem QV.read {w:World} {B:Nat} {n m:Bool} {A A':Option Addr} {l c l' c':Nat} {q:Rat} (h:QV w B (.agg #[.bool n,.slice A l c,.bool m,.slice A' l' c']) q):RV w B (.agg #[.bool n,.slice A l c,.slice A' l' c']) q:=
 TV.mk h.is.1 h.is.2.1 (fun _=>h.is.2.2.1)
theorem ToldR_any (w:World) (v:Value) (q:Rat) (h:RV w w.heap.size v q) (l:QL 300000000 300000000 q) :
  Calls Tryz.prog 54 #[v] w fun e w'=>Below w.heap.size w w'∧RetQ w' (toldQ q) e:=by
 have h1:=Told_any w v q.num q.den h q.den_nz q.reduced l.1 l.2;rw[Rat.mkRat_self] at h1;exact h1
def allQ (o p:Option Rat):Int:=if o.isSome∧p.isSome then 0 else 40
theorem allQ_yes {o p:Option Rat} {q r:Rat} (h:o=some q) (k:p=some r):allQ o p=0:=by rw[h,k];rfl
theorem allQ_no {o p:Option Rat} (h:o=none∨p=none):allQ o p=40:=by rcases h with h | h <;> rw[h] <;> cases o <;> cases p <;> rfl
theorem RI.of {w:World} {B:Nat} {v:Value} {n:Bool} {a:List Int} {m:Bool} {b:List Int} (h:QR w B v n a m b):∃ A l c A' l' c',v=.agg #[.bool n,.slice A l c,.bool m,.slice A' l' c']∧QR w B (.agg #[.bool n,.slice A l c,.bool m,.slice A' l' c']) n a m b:=by
 have h1:=h;obtain⟨A,l,c,A',l',c',e,-⟩:=h;exact⟨A,l,c,A',l',c',e,e▸h1⟩
theorem qall_any (w:World) (g:Nat) (n m n2 m2:Bool) (A A' B B':Option Addr) (l l' k k' c c' d d':Nat) (a b a2 b2:List Int) (cap:Nat) (h0:w.cell? ⟨g,0,none⟩=some (.bool n)) (h1:w.cell? ⟨g,1,none⟩=some (.slice A l c)) (h2:w.cell? ⟨g,2,none⟩=some (.bool m)) (h3:w.cell? ⟨g,3,none⟩=some (.slice A' l' c')) (h4:w.cell? ⟨g,4,none⟩=some (.bool n2)) (h5:w.cell? ⟨g,5,none⟩=some (.slice B k d)) (h6:w.cell? ⟨g,6,none⟩=some (.bool m2)) (h7:w.cell? ⟨g,7,none⟩=some (.slice B' k' d'))
  (hg:g<w.heap.size) (hq:QR w w.heap.size (.agg #[.bool n,.slice A l c,.bool m,.slice A' l' c']) n a m b) (hr:QR w w.heap.size (.agg #[.bool n2,.slice B k d,.bool m2,.slice B' k' d']) n2 a2 m2 b2) :
  Calls Tryz.prog 88 #[.slice (some ⟨g,0,none⟩) 2 cap] w fun e w'=>Below w.heap.size w w'∧e=.returned (.int .i64 (allQ (qOf n a m b) (qOf n2 a2 m2 b2))):=by
 replace hq:=zz hq;replace hr:=zz hr;go_enter Tryz.func88,Tryz.ntmps88
 go_wp2;go_loopw [8] (fun i wr=>∃ j:Nat,j≤2∧i=.int .i64 j∧Hid (1≤j→∃ q,qOf n a m b=some q)∧Hid (2≤j→∃ q,qOf n2 a2 m2 b2=some q)∧Below w.heap.size w wr) (fun i _=>2-(intOf i).toNat)
 case atStart=>exact⟨0,by omega,rfl,zz (fun h=>absurd h (by omega)),zz (fun h=>absurd h (by omega)),Below.refl _ _⟩
 case round=>
  obtain⟨j,hj,rfl,H1,H2,hbw⟩:=hrel;have cc0:=(hbw.cell (p:=⟨g,0,none⟩) hg).trans h0;have cc1:=(hbw.cell (p:=⟨g,1,none⟩) hg).trans h1;have cc2:=(hbw.cell (p:=⟨g,2,none⟩) hg).trans h2;have cc3:=(hbw.cell (p:=⟨g,3,none⟩) hg).trans h3;have cc4:=(hbw.cell (p:=⟨g,4,none⟩) hg).trans h4;have cc5:=(hbw.cell (p:=⟨g,5,none⟩) hg).trans h5;have cc6:=(hbw.cell (p:=⟨g,6,none⟩) hg).trans h6;have cc7:=(hbw.cell (p:=⟨g,7,none⟩) hg).trans h7;clear h0 h1 h2 h3 h4 h5 h6 h7;obtain rfl | rfl | rfl:j=0∨j=1∨j=2:=by omega
  ·have HQ:=zz (QR.step hq.out hbw);clear cc4 cc5 cc6 cc7;have a0:=zz hbw;have hcc:=a0.out.size;clear hbw;go_wp2_with fail
   refine(QCheck_any _ _ n a m b (QR.step HQ.out ((Below.refl _ _).alloc (Nat.le_refl _) (.cells #[.bool n,.slice A l c,.bool m,.slice A' l' c'] 33)))).mono ?_;rintro e w2 ⟨b0,rfl⟩;have HB:=zz (a0.out.trans (((Below.refl wr.heap.size wr).alloc (Nat.le_refl _) (.cells #[.bool n,.slice A l c,.bool m,.slice A' l' c'] 33)).trans (b0.mono (by simp)) |>.mono a0.out.size));clear b0 hcc;rcases hq0:qOf n a m b with _ | q
   ·rw[chkQ_none hq0];have HN:=zz hq0;clear hq0;go_wp2;go_ret;exact⟨HB.out,by rw[allQ_no (.inl HN.out)];rfl⟩
   ·rw[chkQ_some hq0];have HN:=zz hq0;clear hq0;go_wp2;go_roundw
    case rel=>exact⟨1,by omega,by go_num,zz (fun _=>⟨_,HN.out⟩),zz (fun h=>absurd h (by omega)),HB.out⟩
    case measure=>simp[intOf]
  ·have HQ:=zz (QR.step hr.out hbw);clear cc0 cc1 cc2 cc3;have a0:=zz hbw;have hcc:=a0.out.size;clear hbw;go_wp2_with fail
   refine(QCheck_any _ _ n2 a2 m2 b2 (QR.step HQ.out ((Below.refl _ _).alloc (Nat.le_refl _) (.cells #[.bool n2,.slice B k d,.bool m2,.slice B' k' d'] 33)))).mono ?_;rintro e w2 ⟨b0,rfl⟩;have HB:=zz (a0.out.trans (((Below.refl wr.heap.size wr).alloc (Nat.le_refl _) (.cells #[.bool n2,.slice B k d,.bool m2,.slice B' k' d'] 33)).trans (b0.mono (by simp)) |>.mono a0.out.size));clear b0 hcc;rcases hq1:qOf n2 a2 m2 b2 with _ | q
   ·rw[chkQ_none hq1];have HN:=zz hq1;clear hq1;go_wp2;go_ret;exact⟨HB.out,by rw[allQ_no (.inr HN.out)];rfl⟩
   ·rw[chkQ_some hq1];have HN:=zz hq1;clear hq1;go_wp2;go_roundw
    case rel=>exact⟨2,by omega,by go_num,zz (fun _=>H1.out (by omega)),zz (fun _=>⟨_,HN.out⟩),HB.out⟩
    case measure=>simp[intOf]
  ·replace hbw:=zz hbw;go_wp2;go_ret;obtain⟨q,e1⟩:=H1.out (by omega);obtain⟨r,e2⟩:=H2.out (by omega);exact⟨hbw.out,by rw[allQ_yes e1 e2];rfl⟩
theorem qall_new (v:World) (g:Nat) (n m n2 m2:Bool) (A A' B B':Option Addr) (l l' k k' c c' d d':Nat) (a b a2 b2:List Int) (cap:Nat) (hg:g=v.heap.size) (hq:QR v v.heap.size (.agg #[.bool n,.slice A l c,.bool m,.slice A' l' c']) n a m b) (hr:QR v v.heap.size (.agg #[.bool n2,.slice B k d,.bool m2,.slice B' k' d']) n2 a2 m2 b2) :
  Calls Tryz.prog 88 #[.slice (some ⟨g,0,none⟩) 2 cap] (v.alloc (.cells #[.bool n,.slice A l c,.bool m,.slice A' l' c',.bool n2,.slice B k d,.bool m2,.slice B' k' d'] 33)) fun e w'=>Below v.heap.size v w'∧e=.returned (.int .i64 (allQ (qOf n a m b) (qOf n2 a2 m2 b2))):=by
 subst hg;have hh:=heap_alloc_new v (.cells #[.bool n,.slice A l c,.bool m,.slice A' l' c',.bool n2,.slice B k d,.bool m2,.slice B' k' d'] 33);have hbl:Below v.heap.size v (v.alloc (.cells #[.bool n,.slice A l c,.bool m,.slice A' l' c',.bool n2,.slice B k d,.bool m2,.slice B' k' d'] 33)):=(Below.refl _ _).alloc (Nat.le_refl _) _;have h:=qall_any (v.alloc (.cells #[.bool n,.slice A l c,.bool m,.slice A' l' c',.bool n2,.slice B k d,.bool m2,.slice B' k' d'] 33)) v.heap.size n m n2 m2 A A' B B' l l' k k' c c' d d' a b a2 b2 cap (by simp only[World.cell?,hh];rfl) (by simp only[World.cell?,hh];rfl) (by simp only[World.cell?,hh];rfl) (by simp only[World.cell?,hh];rfl) (by simp only[World.cell?,hh];rfl) (by simp only[World.cell?,hh];rfl) (by simp only[World.cell?,hh];rfl) (by simp only[World.cell?,hh];rfl) (by simp) (hq.step hbl) (hr.step hbl);exact h.mono fun e w' ⟨hb,he⟩=>⟨hbl.trans (hb.mono (by simp)),he⟩
end Go.Proofs.YtdigbofiebfkeaaGreatDoor
