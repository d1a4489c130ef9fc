/- Short lemmas for variables and stores (written by gen_putn.py). -/
import Derived.Test.YtngpibfakemmhaaGreatDoorQCells
namespace Go.Proofs.YtngpibfakemmhaaGreatDoor
open Go Go.RowKit Dig
section
variable {w w':World} {t s u r p q:TypeId} {a b c d f g:Array Value}
theorem n1_0 (e:w'=(w.alloc (.cells a t))):CB w' (w.heap.size) t a:=by rw[e];have h:=CB.new w t a;simpa using h
theorem n1_b (e:w'=(w.alloc (.cells a t))):Below w.heap.size w w':=by rw[e];(repeat' (first | exact Below.refl _ _ | refine Below.drew ?_ | refine Below.alloc ?_ (by first | exact Nat.le_refl _ | (simp;done) | (simp;omega)) _))
theorem n1_z (e:w'=(w.alloc (.cells a t))):w.heap.size+1≤w'.heap.size:=by rw[e];simp
theorem n2_0 (e:w'=((w.alloc (.cells a t)).alloc (.cells b s))):CB w' (w.heap.size) t a:=by rw[e];have h:=(CB.new w t a).alloc (.cells b s);simpa using h
theorem n2_1 (e:w'=((w.alloc (.cells a t)).alloc (.cells b s))):CB w' (w.heap.size+1) s b:=by rw[e];have h:=CB.new (w.alloc (.cells a t)) s b;simpa using h
theorem n2_b (e:w'=((w.alloc (.cells a t)).alloc (.cells b s))):Below w.heap.size w w':=by rw[e];(repeat' (first | exact Below.refl _ _ | refine Below.drew ?_ | refine Below.alloc ?_ (by first | exact Nat.le_refl _ | (simp;done) | (simp;omega)) _))
theorem n2_z (e:w'=((w.alloc (.cells a t)).alloc (.cells b s))):w.heap.size+2≤w'.heap.size:=by rw[e];simp
theorem n3_0 (e:w'=(((w.alloc (.cells a t)).alloc (.cells b s)).alloc (.cells c u))):CB w' (w.heap.size) t a:=by rw[e];have h:=((CB.new w t a).alloc (.cells b s)).alloc (.cells c u);simpa using h
theorem n3_1 (e:w'=(((w.alloc (.cells a t)).alloc (.cells b s)).alloc (.cells c u))):CB w' (w.heap.size+1) s b:=by rw[e];have h:=(CB.new (w.alloc (.cells a t)) s b).alloc (.cells c u);simpa using h
theorem n3_2 (e:w'=(((w.alloc (.cells a t)).alloc (.cells b s)).alloc (.cells c u))):CB w' (w.heap.size+2) u c:=by rw[e];have h:=CB.new ((w.alloc (.cells a t)).alloc (.cells b s)) u c;simpa using h
theorem n3_b (e:w'=(((w.alloc (.cells a t)).alloc (.cells b s)).alloc (.cells c u))):Below w.heap.size w w':=by rw[e];(repeat' (first | exact Below.refl _ _ | refine Below.drew ?_ | refine Below.alloc ?_ (by first | exact Nat.le_refl _ | (simp;done) | (simp;omega)) _))
theorem n3_z (e:w'=(((w.alloc (.cells a t)).alloc (.cells b s)).alloc (.cells c u))):w.heap.size+3≤w'.heap.size:=by rw[e];simp
end
section
variable {W w w':World} {b c i0 i1 i2 i3:Nat} {t:TypeId} {cs:Array Value} {v x x0 x1 x2 x3 y0 y1 y2 y3:Value}
theorem p1_f (e:w'=(w.setCell ⟨b,i0,none⟩ y0)) (h:CB w c t cs) (hne:c≠b):CB w' c t cs:=by rw[e];exact CB.far (p:=⟨b,i0,none⟩) (h) hne _
theorem p1_b (e:w'=(w.setCell ⟨b,i0,none⟩ y0)) (h:Below W.heap.size W w) (hb:W.heap.size≤b):Below W.heap.size W w':=by rw[e];exact below_set1 (h) hb _ _
theorem p1_z (e:w'=(w.setCell ⟨b,i0,none⟩ y0)):w'.heap.size=w.heap.size:=by rw[e];simp[World.setCell]
theorem p2_f (e:w'=((w.setCell ⟨b,i0,none⟩ y0).setCell ⟨b,i1,none⟩ y1)) (h:CB w c t cs) (hne:c≠b):CB w' c t cs:=by rw[e];exact CB.far (p:=⟨b,i1,none⟩) (CB.far (p:=⟨b,i0,none⟩) (h) hne _) hne _
theorem p2_b (e:w'=((w.setCell ⟨b,i0,none⟩ y0).setCell ⟨b,i1,none⟩ y1)) (h:Below W.heap.size W w) (hb:W.heap.size≤b):Below W.heap.size W w':=by rw[e];exact below_set1 (below_set1 (h) hb _ _) hb _ _
theorem p2_z (e:w'=((w.setCell ⟨b,i0,none⟩ y0).setCell ⟨b,i1,none⟩ y1)):w'.heap.size=w.heap.size:=by rw[e];simp[World.setCell]
theorem p2_p (e:w'=((w.setCell ⟨b,0,none⟩ y0).setCell ⟨b,1,none⟩ y1)) (h:CB w b t #[x0,x1]):CB w' b t #[y0,y1]:=by rw[e];exact(show CB _ b t #[y0,y1] from CB.set (show CB _ b t #[y0,x1] from CB.set h 0 y0) 1 y1)
theorem p2_s (e:w'=((w.setCell ⟨b,0,none⟩ y0).setCell ⟨b,1,none⟩ y1)) (h:CB w b t #[x0,x1]) (hx:(#[x0,x1,y0,y1]:Array Value).all noInt=true):Soft w w':=by
  have hx:noInt x0=true∧noInt x1=true∧noInt y0=true∧noInt y1=true:=by simpa using hx
  rw[e];exact(CB.soft1 h (by simp[hx]) 0 y0).trans (CB.soft1 (show CB _ b t #[y0,x1] from CB.set h 0 y0) (by simp[hx]) 1 y1)
theorem p3_f (e:w'=(((w.setCell ⟨b,i0,none⟩ y0).setCell ⟨b,i1,none⟩ y1).setCell ⟨b,i2,none⟩ y2)) (h:CB w c t cs) (hne:c≠b):CB w' c t cs:=by rw[e];exact CB.far (p:=⟨b,i2,none⟩) (CB.far (p:=⟨b,i1,none⟩) (CB.far (p:=⟨b,i0,none⟩) (h) hne _) hne _) hne _
theorem p3_b (e:w'=(((w.setCell ⟨b,i0,none⟩ y0).setCell ⟨b,i1,none⟩ y1).setCell ⟨b,i2,none⟩ y2)) (h:Below W.heap.size W w) (hb:W.heap.size≤b):Below W.heap.size W w':=by rw[e];exact below_set1 (below_set1 (below_set1 (h) hb _ _) hb _ _) hb _ _
theorem p3_z (e:w'=(((w.setCell ⟨b,i0,none⟩ y0).setCell ⟨b,i1,none⟩ y1).setCell ⟨b,i2,none⟩ y2)):w'.heap.size=w.heap.size:=by rw[e];simp[World.setCell]
theorem p3_p (e:w'=(((w.setCell ⟨b,0,none⟩ y0).setCell ⟨b,1,none⟩ y1).setCell ⟨b,2,none⟩ y2)) (h:CB w b t #[x0,x1,x2]):CB w' b t #[y0,y1,y2]:=by rw[e];exact(show CB _ b t #[y0,y1,y2] from CB.set (show CB _ b t #[y0,y1,x2] from CB.set (show CB _ b t #[y0,x1,x2] from CB.set h 0 y0) 1 y1) 2 y2)
theorem p3_s (e:w'=(((w.setCell ⟨b,0,none⟩ y0).setCell ⟨b,1,none⟩ y1).setCell ⟨b,2,none⟩ y2)) (h:CB w b t #[x0,x1,x2]) (hx:(#[x0,x1,x2,y0,y1,y2]:Array Value).all noInt=true):Soft w w':=by
  have hx:noInt x0=true∧noInt x1=true∧noInt x2=true∧noInt y0=true∧noInt y1=true∧noInt y2=true:=by simpa using hx
  rw[e];exact((CB.soft1 h (by simp[hx]) 0 y0).trans (CB.soft1 (show CB _ b t #[y0,x1,x2] from CB.set h 0 y0) (by simp[hx]) 1 y1)).trans (CB.soft1 (show CB _ b t #[y0,y1,x2] from CB.set (show CB _ b t #[y0,x1,x2] from CB.set h 0 y0) 1 y1) (by simp[hx]) 2 y2)
theorem p4_f (e:w'=((((w.setCell ⟨b,i0,none⟩ y0).setCell ⟨b,i1,none⟩ y1).setCell ⟨b,i2,none⟩ y2).setCell ⟨b,i3,none⟩ y3)) (h:CB w c t cs) (hne:c≠b):CB w' c t cs:=by rw[e];exact CB.far (p:=⟨b,i3,none⟩) (CB.far (p:=⟨b,i2,none⟩) (CB.far (p:=⟨b,i1,none⟩) (CB.far (p:=⟨b,i0,none⟩) (h) hne _) hne _) hne _) hne _
theorem p4_b (e:w'=((((w.setCell ⟨b,i0,none⟩ y0).setCell ⟨b,i1,none⟩ y1).setCell ⟨b,i2,none⟩ y2).setCell ⟨b,i3,none⟩ y3)) (h:Below W.heap.size W w) (hb:W.heap.size≤b):Below W.heap.size W w':=by rw[e];exact below_set1 (below_set1 (below_set1 (below_set1 (h) hb _ _) hb _ _) hb _ _) hb _ _
theorem p4_z (e:w'=((((w.setCell ⟨b,i0,none⟩ y0).setCell ⟨b,i1,none⟩ y1).setCell ⟨b,i2,none⟩ y2).setCell ⟨b,i3,none⟩ y3)):w'.heap.size=w.heap.size:=by rw[e];simp[World.setCell]
theorem p4_p (e:w'=((((w.setCell ⟨b,0,none⟩ y0).setCell ⟨b,1,none⟩ y1).setCell ⟨b,2,none⟩ y2).setCell ⟨b,3,none⟩ y3)) (h:CB w b t #[x0,x1,x2,x3]):CB w' b t #[y0,y1,y2,y3]:=by rw[e];exact(show CB _ b t #[y0,y1,y2,y3] from CB.set (show CB _ b t #[y0,y1,y2,x3] from CB.set (show CB _ b t #[y0,y1,x2,x3] from CB.set (show CB _ b t #[y0,x1,x2,x3] from CB.set h 0 y0) 1 y1) 2 y2) 3 y3)
theorem p4_s (e:w'=((((w.setCell ⟨b,0,none⟩ y0).setCell ⟨b,1,none⟩ y1).setCell ⟨b,2,none⟩ y2).setCell ⟨b,3,none⟩ y3)) (h:CB w b t #[x0,x1,x2,x3]) (hx:(#[x0,x1,x2,x3,y0,y1,y2,y3]:Array Value).all noInt=true):Soft w w':=by
  have hx:noInt x0=true∧noInt x1=true∧noInt x2=true∧noInt x3=true∧noInt y0=true∧noInt y1=true∧noInt y2=true∧noInt y3=true:=by simpa using hx
  rw[e];exact(((CB.soft1 h (by simp[hx]) 0 y0).trans (CB.soft1 (show CB _ b t #[y0,x1,x2,x3] from CB.set h 0 y0) (by simp[hx]) 1 y1)).trans (CB.soft1 (show CB _ b t #[y0,y1,x2,x3] from CB.set (show CB _ b t #[y0,x1,x2,x3] from CB.set h 0 y0) 1 y1) (by simp[hx]) 2 y2)).trans (CB.soft1 (show CB _ b t #[y0,y1,y2,x3] from CB.set (show CB _ b t #[y0,y1,x2,x3] from CB.set (show CB _ b t #[y0,x1,x2,x3] from CB.set h 0 y0) 1 y1) 2 y2) (by simp[hx]) 3 y3)
end
end Go.Proofs.YtngpibfakemmhaaGreatDoor
