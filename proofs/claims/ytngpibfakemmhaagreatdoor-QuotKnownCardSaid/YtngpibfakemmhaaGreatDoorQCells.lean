/- Variables of layer 04, and how its functions end. -/
import Derived.Test.YtngpibfakemmhaaGreatDoorQVal
import Derived.Test.YtngpibfakemmhaaGreatDoorFlow
import Derived.Test.YtngpibfakemmhaaGreatDoorDec
namespace Go.Proofs.YtngpibfakemmhaaGreatDoor
open Go Go.RowKit Dig
theorem CB.set {w:World} {b:Nat} {t:TypeId} {cs:Array Value} (h:CB w b t cs) (j:Nat) (u:Value):CB (w.setCell ⟨b,j,none⟩ u) b t (cs.setIfInBounds j u):=by
  unfold CB at h ⊢;simp[World.setCell,Array.getElem?_modify,h]
def noInt:Value→Bool
  | .int _ _=>false
  | _=>true
theorem CB.soft1 {w:World} {b:Nat} {t:TypeId} {cs:Array Value} (h:CB w b t cs) (hc:cs.all noInt=true) (j:Nat) (u:Value):Soft w (w.setCell ⟨b,j,none⟩ u):=
  Soft.set (fun q hq k x e=>by
    unfold CB at h;subst hq;have h1:∃ i:Nat,cs[i]?=some (Value.int k x):=by
      simp only[World.cell?,h] at e
      first
        | exact⟨_,e⟩
        | (split at e <;> first | exact⟨_,e⟩ | cases e)
    obtain⟨i,hi⟩:=h1;have h2:=Array.all_eq_true_iff_forall_mem.1 hc _ (Array.mem_of_getElem? hi);cases h2)
def QO (w:World) (B:Nat) (v:Value):Option Rat→Prop
  | some q=>QV w B v q
  | none=>QR w B v false [] false []
theorem QO.step {w w':World} {v:Value}:∀ {o:Option Rat},QO w w.heap.size v o→Below w.heap.size w w'→QO w' w'.heap.size v o
  | some _,h,hb=>QV.step h hb
  | none,h,hb=>QR.step h hb
def RetQ (w:World) (r:Option Rat × Int) (e:Ending):Prop:=∃ v,e=.returned (.tuple #[v,.int .i64 r.2])∧QO w w.heap.size v r.1
def fitQ (q:Rat):Prop:=(dig q.num.natAbs).length≤600∧(dig q.den).length≤600
instance (q:Rat):Decidable (fitQ q):=by unfold fitQ;infer_instance
def toldQ (q:Rat):Option Rat × Int:=if fitQ q then (some q,0) else (none,6)
def B2 (f:Rat→Rat→Option Rat × Int):Option Rat→Option Rat→Option Rat × Int
  | some q,some r=>f q r
  | _,_=>(none,40)
theorem zeroQ (w:World) (B:Nat):QR w B (.agg #[.bool false,.slice none 0 0,.bool false,.slice none 0 0]) false [] false []:=QR.mk (RI.nil _ _) (RI.nil _ _)
theorem QB.ret {w:World} {b:Nat} {fn:Func} {p k:Tmp} {c0 c1 c2 c3:Value} (hf:fn.results=#[.cell p 28,.tmp k]) (tmps:Array Value) (h:CB w b 28 #[c0,c1,c2,c3]) (hp:tmps.getD p undef=.pointer (some ⟨b,0,none⟩)) :
    (results fn tmps).run Tryz.prog w=.ok (.tuple #[.agg #[c0,c1,c2,c3],tmps.getD k undef]) w:=by
  rw[results_cell_tmp hf,hp];simp[asAddr,run_loadVar_row w b _ 28 #[c0,c1,c2,c3] (0,0) _ h Tryz.underlying28 rfl (by kernel_rfl)]
theorem QB.ret1 {w:World} {b:Nat} {fn:Func} {p:Tmp} {c0 c1 c2 c3:Value} (hf:fn.results=#[.cell p 28]) (tmps:Array Value) (h:CB w b 28 #[c0,c1,c2,c3]) (hp:tmps.getD p undef=.pointer (some ⟨b,0,none⟩)) :
    (results fn tmps).run Tryz.prog w=.ok (.agg #[c0,c1,c2,c3]) w:=
  results_cell_row hf tmps w b _ #[c0,c1,c2,c3] (0,0) _ hp h Tryz.underlying28 rfl (by kernel_rfl)
theorem TB.ret1 {w:World} {b:Nat} {fn:Func} {p:Tmp} {c0 c1 c2:Value} (hf:fn.results=#[.cell p 80]) (tmps:Array Value) (h:CB w b 80 #[c0,c1,c2]) (hp:tmps.getD p undef=.pointer (some ⟨b,0,none⟩)) :
    (results fn tmps).run Tryz.prog w=.ok (.agg #[c0,c1,c2]) w:=
  results_cell_row hf tmps w b _ #[c0,c1,c2] (0,0) _ hp h Tryz.underlying80 rfl (by kernel_rfl)
theorem WB.ret1 {w:World} {b:Nat} {fn:Func} {p:Tmp} {c0 c1:Value} (hf:fn.results=#[.cell p 78]) (tmps:Array Value) (h:CB w b 78 #[c0,c1]) (hp:tmps.getD p undef=.pointer (some ⟨b,0,none⟩)) :
    (results fn tmps).run Tryz.prog w=.ok (.agg #[c0,c1]) w:=
  results_cell_row hf tmps w b _ #[c0,c1] (0,0) _ hp h Tryz.underlying78 rfl (by kernel_rfl)
end Go.Proofs.YtngpibfakemmhaaGreatDoor
