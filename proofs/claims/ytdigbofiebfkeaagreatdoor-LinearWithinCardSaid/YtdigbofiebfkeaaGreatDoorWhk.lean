/- Texts put together: Layer 35, the law package: parts of slices, Clone (written by gen_wh.py). Plain: drafts of layer 35 and their solutions: sizes. -/
import Derived.Test.YtdigbofiebfkeaaGreatDoorWgh
import Derived.Test.YtdigbofiebfkeaaGreatDoorLnz
namespace Go.Proofs.YtdigbofiebfkeaaGreatDoor
open Go Go.RowKit Dig
set_option maxRecDepth 100000
set_option maxHeartbeats 4000000
set_option linter.unusedSimpArgs false
section
variable {α:Type} {k:Nat} {E:Elem α} {w w':World} {B g off n c:Nat} {l:List α}
theorem SL.addr {A:Option Addr} (h:SL k E w B (.slice A n c) l) (h0:0<l.length):∃ g off,A=some ⟨g,off,none⟩∧g<B:=by
 obtain⟨A',c',he,h1,h2,h3⟩:=h;injection he with e1 e2 e3
 subst e1;subst e2;subst e3;obtain⟨g,off,e,hg,-⟩:=h3 h0;exact⟨g,off,e,hg⟩
end
theorem EQ.ones:∀ (w:World) (B:Nat) (cs:List Value) (a:QX),EQ w B cs a→∀ u∈cs,u.oneCell'=true:=by
 rintro w B cs a ⟨c0,c1,c2,c3,rfl,A,l,c,A',l',c',e,-,-⟩ u hu;injection e with e
 simp at e
 obtain⟨rfl,rfl,rfl,rfl⟩:=e;simp at hu
 rcases hu with rfl | rfl | rfl | rfl <;> rfl
theorem EV.ones:∀ (w:World) (B:Nat) (cs:List Value) (a:Value),EV w B cs a→∀ u∈cs,(∃ A n c,a=.slice A n c)→u.oneCell'=true:=by
 rintro w B cs a ⟨rfl,-⟩ u hu ⟨A,n,c,rfl⟩;simp at hu;subst hu;rfl
def EH:Elem Value:=fun _ _ cs v=>cs=[v]∧∃ A n c,v=.slice A n c
theorem EH.stable:Elem.Stable EH:=⟨fun h _=>h,fun h _=>h⟩
theorem EH.soft:Elem.Soft EH:=fun h _=>h
theorem EH.ones:∀ (w:World) (B:Nat) (cs:List Value) (a:Value),EH w B cs a→∀ u∈cs,u.oneCell'=true:=by
 rintro w B cs a ⟨rfl,A,n,c,rfl⟩ u hu;simp at hu;subst hu;rfl
theorem QM.of {w:World} {B':Nat} {T:TypeId} {B:Nat} {v:Value} {hs:List Value} {M:List (List QX)} (h:OA 1 EH T w B v hs) (hl:hs.length=M.length) (hr:∀ i (h1:i<hs.length) (h2:i<M.length),QS w B' hs[i] M[i]) (hB:B'≤w.heap.size):QM w w.heap.size v M:=by
 obtain⟨A,c,e,h1,h2,h3⟩:=h.sl;refine⟨A,c,by rw[← hl];exact e,by omega,h2,fun h0=>?_⟩;obtain⟨g,off,e1,hg,hx⟩:=h3 (by omega);refine⟨g,off,e1,hg,fun j hj=>?_⟩;obtain⟨cs,e2,e3,e4,-⟩:=hx j (by omega);exact⟨cs,e2,e3,_,e4,(hr j (by omega) hj).more EQ.stable hB⟩
theorem cloneQ_any (w:World) (A:Option Addr) (n c:Nat) (l:List QX) (h:SL 4 EQ w w.heap.size (.slice A n c) l) (h1:0<l.length) (hl:l.length≤3000000000) :
  Calls Tryz.prog 9 #[.slice A n c] w fun e w'=>Below w.heap.size w w'∧∃ v,e=.returned v∧OA 4 EQ 33 w' w.heap.size v l:=by
 obtain⟨rfl,hn1,hn2⟩:=SL.len h;obtain⟨g,off,rfl,hg⟩:=SL.addr h h1;have a0:Below w.heap.size w (w.alloc (.cells #[] 33)):=below_alloc1 (Below.refl _ _) _;have HS:=zz (SL.cells (h.step EQ.stable a0) h1 EQ.ones);have HO:Hid (OA 4 EQ 33 (w.alloc (.cells #[] 33)) w.heap.size (.slice (some ⟨w.heap.size,0,none⟩) 0 0) ([]:List QX)):=zz (.inr ⟨w.heap.size,0,rfl,Nat.le_refl _,by omega,#[],CB.new _ _ _,fun i v _ _ hv=>by simp at hv,⟨Nat.le_refl _,by simp⟩,fun j hj=>absurd hj (by simp)⟩);have HL:=zz hl;have b0:=zz a0;clear h a0 hl;obtain⟨i,hi,hz,hs,hby⟩:=info_parts info_quot;have q22:∀ (w:World) (a:Option Addr) (n c n' c':Nat),(binOp .eql 28 (.slice a n c) (.slice none n' c')).run Tryz.prog w=.ok (.bool a.isNone) w:=fun w a n c n' c'=>Lib.run_eql_slice_nil w _ _ a n c n' c' Tryz.underlying28
 go_enter Tryz.func9,Tryz.ntmps9
 go_wp2_with (at_builtin;refine wpList_append_oa rfl _ _ _ rfl w.heap.size 33 i _ 64 Tryz.underlying28 hi hz hs hby rfl (by decide) (by decide) EQ.stable EQ.soft HO.out rfl ⟨g,off,none⟩ c l rfl h1 HS.out.choose HS.out.choose_spec.1 HS.out.choose_spec.2.1 HS.out.choose_spec.2.2 (by have:=HL.out;simp only[maxLen,List.length_nil];omega) (by have:=HL.out;simp only[List.length_nil];omega) (by simp) ?_)
 intro v' w' hoa hb hs' hg' hat;have e0:=zz hoa;have f0:=zz (b0.out.trans hb);clear hoa hb hs' hg' hat;go_wp2;go_ret;exact⟨f0.out,_,rfl,e0.out⟩
section
variable {N D:List Int}
theorem numD_frac (k:Nat):FR 60 2940 (numD N D k):=by
 obtain⟨h1,h2⟩:=lowD_le D k;have e:lowD D k=((lowD D k).toNat:Int):=by omega
 unfold numD;rw[e,Rat.divInt_ofNat];exact draft_frac (topD_le N k) (by omega) (by omega)
theorem numD_ql (k:Nat):QL 1 1 (numD N D k):=FR.ql (by decide) (numD_frac k) (by decide) (by decide)
theorem zero_frac {D Z:Nat}:FR D Z 0:=⟨0,by rw[Rat.zero_mul];rfl,by simp⟩
theorem listD_at {f n i:Nat} (h:i<n):(listD N D f n).getD i 0=numD N D (f+i):=by
 unfold listD;rw[List.getD_eq_getElem?_getD,List.getElem?_eq_getElem (by simpa using h)];simp
theorem listD_frac (f n i:Nat):FR 60 2940 ((listD N D f n).getD i 0):=by
 by_cases h:i<n
 ·rw[listD_at h];exact numD_frac _
 ·rw[List.getD_eq_getElem?_getD,List.getElem?_eq_none (by rw[listD_len];omega)];exact zero_frac
theorem listD_ql {f n:Nat} {q:Rat} (h:q∈listD N D f n):QL 1 1 q:=by
 unfold listD at h;obtain⟨i,-,rfl⟩:=List.mem_map.1 h;exact numD_ql _
theorem okV_listD {f n:Nat} (h1:1≤n) (h2:n≤12):okV (listD N D f n):=⟨fun _ h=>(listD_ql h).up (by decide),by rw[listD_len];exact h1,by rw[listD_len];exact h2⟩
theorem rowsD_wide (k n:Nat):Wide (rowsD N D k n) k:=fun r hr=>by
 unfold rowsD at hr;obtain⟨i,-,rfl⟩:=List.mem_map.1 hr;exact listD_len _ _ _ _
theorem rowsD_wq {k n:Nat} (h:1≤n):wideQ (rowsD N D k n)=k:=(rowsD_wide k n).getD (i:=0) (by rw[rowsD_len];exact h)
theorem rowsD_at {k n i:Nat} (h:i<n):(rowsD N D k n).getD i []=listD N D (4*i) k:=by
 unfold rowsD;rw[List.getD_eq_getElem?_getD,List.getElem?_eq_getElem (by simpa using h)];simp[rowD]
theorem rowsD_frac (k n i j:Nat):FR 60 2940 (atQ (rowsD N D k n) i j):=by
 unfold atQ;by_cases h:i<n
 ·rw[rowsD_at h];exact listD_frac _ _ _
 ·have e:(rowsD N D k n).getD i []=[]:=by rw[List.getD_eq_getElem?_getD,List.getElem?_eq_none (by rw[rowsD_len];omega)];rfl
  rw[e];exact zero_frac
theorem okW_rowsD {k n:Nat} (h1:1≤k) (h2:k≤6) (h3:1≤n) (h4:n≤12):okW (rowsD N D k n):=by
 refine⟨fun r hr q hq=>?_,?_,by rw[rowsD_len];exact h3,by rw[rowsD_len];exact h4,by rw[rowsD_wq h3];exact h1,by rw[rowsD_wq h3];exact h2⟩
 ·unfold rowsD at hr;obtain⟨i,-,rfl⟩:=List.mem_map.1 hr;exact(listD_ql hq).up (by decide)
 ·rw[rowsD_wq h3];exact rowsD_wide k n
end
section
variable {N D:List Int} {f n:Nat} {x:List Rat}
end
end Go.Proofs.YtdigbofiebfkeaaGreatDoor
