/- Layer 04: floor, made (written by gen_qf.py). -/
import Derived.Test.YtencnahjgbdeoaaGreatDoorQde
namespace Go.Proofs.YtencnahjgbdeoaaGreatDoor
open Go Go.RowKit Dig
theorem QO.cells {w:World} {B:Nat} {v:Value} {o:Option Rat} (h:QO w B v o):∃ n A l c m A' l' c',v=.agg #[.bool n,.slice A l c,.bool m,.slice A' l' c']:=by
 cases o with
 | some q=>obtain⟨n,A,l,c,A',l',c',e,-⟩:=h;exact⟨_,_,_,_,_,_,_,_,e⟩
 | none=>obtain⟨A,l,c,A',l',c',e,-⟩:=h;exact⟨_,_,_,_,_,_,_,_,e⟩
abbrev aMh:=@QO.cells
end Go.Proofs.YtencnahjgbdeoaaGreatDoor
