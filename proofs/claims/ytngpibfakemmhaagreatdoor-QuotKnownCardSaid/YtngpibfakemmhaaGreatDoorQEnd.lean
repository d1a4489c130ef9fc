/- How functions of layer 04 end that have stored their result. -/
import Derived.Test.YtngpibfakemmhaaGreatDoorQCells
import Derived.Test.YtngpibfakemmhaaGreatDoorPutN
namespace Go.Proofs.YtngpibfakemmhaaGreatDoor
open Go Go.RowKit Dig
theorem noInt_b (n:Bool):noInt (.bool n)=true:=rfl
theorem noInt_s (A:Option Addr) (l c:Nat):noInt (.slice A l c)=true:=rfl
section
variable {fn:Func} {p k:Tmp} {W w:World} {B b:Nat} {x0 x1 x2 x3:Value} {n m:Bool} {A A':Option Addr} {l c l' c':Nat} {tmps:Array Value}
set_option linter.unusedSimpArgs false in
theorem WB.fin (hf:fn.results=#[.cell p 78]) (hC:CB w b 78 #[x0,x1]) (hx:(#[x0,x1]:Array Value).all noInt=true) (hb:Below B W w) (hB:B≤b) {z:Int}
    (hv:WV w w.heap.size (.agg #[.bool n,.slice A l c]) z) (hp:tmps.getD p undef=.pointer (some ⟨b,0,none⟩)) :
    bodyPost Tryz.prog fn (fun e w'=>Below B W w'∧∃ v,e=.returned v∧WV w' w'.heap.size v z) .ret ⟨tmps,[]⟩ ((w.setCell ⟨b,0,none⟩ (.bool n)).setCell ⟨b,1,none⟩ (.slice A l c)):=by
  have h1:CB _ b _ #[.bool n,x1]:=CB.set hC 0 (.bool n);have h2:CB _ b _ #[.bool n,.slice A l c]:=CB.set h1 1 (.slice A l c);have hx1:noInt x1=true:=by simp at hx;exact hx.2
  exact bodyPost_ret (WB.ret1 hf _ h2 hp) rfl ⟨((hb.setCell hB _).setCell hB _),_,rfl,hv.soft ((CB.soft1 hC hx _ _).trans (CB.soft1 h1 (by simp[noInt_b,noInt_s,hx1]) _ _))⟩
set_option linter.unusedSimpArgs false in
theorem TB.fin (hf:fn.results=#[.cell p 80]) (hC:CB w b 80 #[x0,x1,x2]) (hx:(#[x0,x1,x2]:Array Value).all noInt=true) (hb:Below B W w) (hB:B≤b) {z:Int} {d:Nat}
    (hv:TV w w.heap.size (.agg #[.bool n,.slice A l c,.slice A' l' c']) z d) (hp:tmps.getD p undef=.pointer (some ⟨b,0,none⟩)) :
    bodyPost Tryz.prog fn (fun e w'=>Below B W w'∧∃ v,e=.returned v∧TV w' w'.heap.size v z d) .ret ⟨tmps,[]⟩ (((w.setCell ⟨b,0,none⟩ (.bool n)).setCell ⟨b,1,none⟩ (.slice A l c)).setCell ⟨b,2,none⟩ (.slice A' l' c')):=by
  have h1:CB _ b _ #[.bool n,x1,x2]:=CB.set hC 0 (.bool n);have h2:CB _ b _ #[.bool n,.slice A l c,x2]:=CB.set h1 1 (.slice A l c);have h3:CB _ b _ #[.bool n,.slice A l c,.slice A' l' c']:=CB.set h2 2 (.slice A' l' c');have hx1:noInt x1=true:=by simp at hx;exact hx.2.1
  have hx2:noInt x2=true:=by simp at hx;exact hx.2.2
  exact bodyPost_ret (TB.ret1 hf _ h3 hp) rfl ⟨(((hb.setCell hB _).setCell hB _).setCell hB _),_,rfl,hv.soft (((CB.soft1 hC hx _ _).trans (CB.soft1 h1 (by simp[noInt_b,noInt_s,hx1,hx2]) _ _)).trans (CB.soft1 h2 (by simp[noInt_b,noInt_s,hx2]) _ _))⟩
set_option linter.unusedSimpArgs false in
theorem QB.fin (hf:fn.results=#[.cell p 28,.tmp k]) (hC:CB w b 28 #[x0,x1,x2,x3]) (hx:(#[x0,x1,x2,x3]:Array Value).all noInt=true) (hb:Below B W w) (hB:B≤b) {r:Option Rat × Int}
    (hv:QO w w.heap.size (.agg #[.bool n,.slice A l c,.bool m,.slice A' l' c']) r.1) (hp:tmps.getD p undef=.pointer (some ⟨b,0,none⟩)) (hk:tmps.getD k undef=.int .i64 r.2) :
    bodyPost Tryz.prog fn (fun e w'=>Below B W w'∧RetQ w' r e) .ret ⟨tmps,[]⟩ ((((w.setCell ⟨b,0,none⟩ (.bool n)).setCell ⟨b,1,none⟩ (.slice A l c)).setCell ⟨b,2,none⟩ (.bool m)).setCell ⟨b,3,none⟩ (.slice A' l' c')):=by
  have h1:CB _ b _ #[.bool n,x1,x2,x3]:=CB.set hC 0 (.bool n);have h2:CB _ b _ #[.bool n,.slice A l c,x2,x3]:=CB.set h1 1 (.slice A l c);have h3:CB _ b _ #[.bool n,.slice A l c,.bool m,x3]:=CB.set h2 2 (.bool m);have h4:CB _ b _ #[.bool n,.slice A l c,.bool m,.slice A' l' c']:=CB.set h3 3 (.slice A' l' c');have hx1:noInt x1=true:=by simp at hx;exact hx.2.1
  have hx2:noInt x2=true:=by simp at hx;exact hx.2.2.1
  have hx3:noInt x3=true:=by simp at hx;exact hx.2.2.2
  have hs:=(((CB.soft1 hC hx 0 (.bool n)).trans (CB.soft1 h1 (by simp[noInt_b,noInt_s,hx1,hx2,hx3]) 1 (.slice A l c))).trans (CB.soft1 h2 (by simp[noInt_b,noInt_s,hx2,hx3]) 2 (.bool m))).trans (CB.soft1 h3 (by simp[noInt_b,noInt_s,hx3]) 3 (.slice A' l' c'));refine bodyPost_ret (QB.ret hf _ h4 hp) rfl ⟨((((hb.setCell hB _).setCell hB _).setCell hB _).setCell hB _),.agg #[.bool n,.slice A l c,.bool m,.slice A' l' c'],by rw[hk],?_⟩
  match r.1,hv with
  | some q,h=>exact QV.soft h hs
  | none,h=>exact QR.soft h hs
end
end Go.Proofs.YtngpibfakemmhaaGreatDoor
