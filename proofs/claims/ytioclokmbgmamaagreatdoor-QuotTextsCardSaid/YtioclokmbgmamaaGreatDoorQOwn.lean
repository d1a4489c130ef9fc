/- The law package's own: a row of at most 60 places, of its own. -/
import Derived.Test.YtioclokmbgmamaaGreatDoorDec
namespace Go.Proofs.YtioclokmbgmamaaGreatDoor
open Go Go.RowKit Dig
set_option maxRecDepth 100000 in
set_option maxHeartbeats 2000000 in
theorem ownLong_any (w:World) (v:Value) (na:Bool) (l:List Int) (h:LR w w.heap.size v na l) :
    Calls Tryz.prog 71 #[v] w fun e w'=>Below w.heap.size w w'∧∃ v',e=.returned v'∧LR w' w'.heap.size v' na (l.take 60):=by
  obtain⟨m,hm0⟩:∃ m,m=l.take 60:=⟨_,rfl⟩;rw[← hm0];replace hm0:=zz hm0;obtain⟨s,rfl,hs⟩:=h;obtain⟨A,c,rfl,hc,hm,-⟩:=(show RI _ _ _ _ from hs);replace hs:=zz hs;have L1:=LB.new w (.bool na) (.slice A l.length c);have L2:=LB.new (w.alloc (.cells #[.bool na,.slice A l.length c] 24)) (.bool false) (.slice none 0 0);have qa0:=(L1.alloc (.cells #[.bool false,.slice none 0 0] 24)).cell1;go_enter Tryz.func71,Tryz.ntmps71
  go_wp2_with fail
  rw[show(min (l.length:Int) 60).toNat=(l.take 60).length by rw[List.length_take];omega];have hs1:RI w w.heap.size (.slice A (l.take 60).length c) (l.take 60):=hs.out.first' 60
  have hl6:(l.take 60).length≤60:=by rw[List.length_take];omega
  rw[← hm0.out] at hs1 hl6 ⊢;have hB2:Below w.heap.size w ((w.alloc (.cells #[.bool na,.slice A l.length c] 24)).alloc (.cells #[.bool false,.slice none 0 0] 24)):=by(repeat' (first | exact Below.refl _ _ | refine Below.drew ?_ | refine Below.alloc ?_ (by first | exact Nat.le_refl _ | (simp;done) | (simp;omega)) _))
  refine(clone_ints _ _ m (hs1.step hB2) (by omega)).mono ?_;rintro e w1 ⟨a0,v1,rfl,ho⟩;obtain⟨A1,c1,rfl,-⟩:=(show RI _ _ _ _ from ho.ri);have M1:=(L1.alloc (.cells #[.bool false,.slice none 0 0] 24)).step a0;have M2:=L2.step a0;have b0:=zz (hB2.trans (a0.mono hB2.size));have hr:=zz ho.ri;clear hs1 a0 ho qa0 L1 L2 hB2 hs;have qa0:=M1.cell0;have qa1:=M1.cell1;have qa2:=M1.frozen 0;have qa3:=M1.frozen 1;have qb0:=M2.cell0;have qb1:=M2.cell1;have qb2:=M2.frozen 0;have qb3:=M2.frozen 1;have hz:(w.alloc (.cells #[.bool na,.slice A l.length c] 24)).heap.size=w.heap.size+1:=by simp
  rw[hz] at M2 qb0 qb1 qb2 qb3;go_wp2_with fail
  have M3:=M1.set1 (.slice A1 m.length c1);have r1:=hr.out.setLB M1 1 (.slice A1 m.length c1);have M4:=M2.far (p:=⟨w.heap.size,1,none⟩) (by simp) (.slice A1 m.length c1);obtain⟨h1,h2⟩:=M4.put (q:=na) (show RI _ (w1.setCell ⟨w.heap.size,1,none⟩ (.slice A1 m.length c1)).heap.size _ _ from(by simpa[World.setCell] using r1));refine bodyPost_ret (LB.ret1 rfl _ h1 rfl) rfl ⟨?_,_,rfl,_,rfl,h2⟩;exact((b0.out.setCell (p:=⟨w.heap.size,1,none⟩) (Nat.le_refl _) _).setCell (p:=⟨w.heap.size+1,0,none⟩) (Nat.le_succ _) _).setCell (p:=⟨w.heap.size+1,1,none⟩) (Nat.le_succ _) _
end Go.Proofs.YtioclokmbgmamaaGreatDoor
