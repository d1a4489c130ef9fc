/- Short words for the walks of regions that draw. -/
import Derived.Test.YtngpibfakemmhaaGreatDoorFlow
import Derived.Lib.Hide
namespace Go.Proofs.YtngpibfakemmhaaGreatDoor
open Go Go.RowKit
theorem FL:(∀ L:List FOp,fpairs L=L.map fun o=>(o.i,o.d))∧(∀ (a:FOp) (l m:List FOp),(a :: l)++m=a :: (l++m))∧(∀ l:List FOp,[]++l=l)∧(∀ (f:FOp→Nat × Tmp) (a:FOp) (l:List FOp),(a :: l).map f=f a :: l.map f)∧(∀ f:FOp→Nat × Tmp,([]:List FOp).map f=[]) ∧
    (∀ (a:Act) (xs:Nat→Value),putAll a xs []=a)∧(∀ (a:Act) (xs:Nat→Value) (p:Nat × Tmp) (D:List (Nat × Tmp)),putAll a xs (p :: D)=(putAll a xs D).put (some p.2) (xs p.1)) ∧
    (∀ (t:Array Value) (ds:List Deferred) (d:Tmp) (v:Value),Act.put ⟨t,ds⟩ (some d) v=⟨t.setIfInBounds d v,ds⟩)∧(∀ (l:List Value) (i:Nat) (v:Value),l.toArray.setIfInBounds i v=(l.set i v).toArray) ∧
    (∀ (a b:Value) (l:List Value),(a :: l).set 0 b=b :: l)∧(∀ (a b:Value) (l:List Value) (n:Nat),(a :: l).set (n+1) b=a :: l.set n b):=
  ⟨fun _=>rfl,fun _ _ _=>rfl,fun _=>rfl,fun _ _ _=>rfl,fun _=>rfl,fun _ _=>rfl,fun _ _ _ _=>rfl,fun _ _ _ _=>rfl,fun _ _ _=>List.setIfInBounds_toArray ..,fun _ _ _=>rfl,fun _ _ _ _=>rfl⟩
theorem a0 {i:Nat} {d:Tmp} {f:Value→Prop} {l:List FOp} (h:∀ o∈l,∀ v w w',o.F v w→Below w.heap.size w w'→o.F v w'):∀ o∈(⟨i,d,fun v _=>f v⟩ :: l:List FOp),∀ v w w',o.F v w→Below w.heap.size w w'→o.F v w':=all_cons (fun _ _ _ h _=>h) h
theorem bk {B:Nat} {w w':World} (h:Below B w w'):Hid (Below B w w')∧w.heap.size≤w'.heap.size:=⟨@Lib.hid _ h,h.size⟩
theorem nF {P:Prop} (h:false=true):P:=absurd h Bool.false_ne_true
theorem m_ {α:Type} {l:List α} (i:Nat) {a:α} (h:l[i]?=some a):a∈l:=List.mem_of_getElem? h
end Go.Proofs.YtngpibfakemmhaaGreatDoor
