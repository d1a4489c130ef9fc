/- Layer 35, the law package: atMost, drafts (written by gen_best.py). -/
import Derived.Test.YtdigbofiebfkeaaGreatDoorWm
import Derived.Test.YtdigbofiebfkeaaGreatDoorWhk
namespace Go.Proofs.YtdigbofiebfkeaaGreatDoor
open Go Go.RowKit Dig
set_option maxRecDepth 100000
set_option maxHeartbeats 4000000
set_option linter.unusedSimpArgs false
theorem QCmp_ok {w:World} {va vb:Value} {q r:Rat} (ha:QV w w.heap.size va q) (hb:QV w w.heap.size vb r) (lq:QL 600 600 q) (lr:QL 600 600 r) :
  Calls Tryz.prog 55 #[va,vb] w fun e w'=>Below w.heap.size w w'∧e=.returned (.tuple #[.int .i64 (cmpR q r),.int .i64 0]):=QCmp_good w va vb q r ha hb lq lr
theorem dlist_ok {w:World} {v:Value} {r c:Int} {N D:List Int} {n f:Nat} (h:DV w w.heap.size v r c N D) (hn:n≤1000) (hf:f≤1000) :
  Calls Tryz.prog 18 #[v,.int .i64 (n:Int),.int .i64 (f:Int)] w fun e w'=>Below w.heap.size w w'∧∃ A c,e=.returned (.slice A n c)∧VL w' w'.heap.size (.slice A n c) (listD N D f n):=by
 refine(rdlist_any w v r c N D n f h hn hf).mono ?_;rintro e w' ⟨hb,v,rfl,hv⟩;obtain⟨A,c,rfl,h⟩:=VL.open (n:=n) hv (listD_len _ _ _ _);exact⟨hb,A,c,rfl,h⟩
theorem dlist_lit {w:World} {v:Value} {r c:Int} {N D:List Int} {n f:Nat} {F:Int} (h:DV w w.heap.size v r c N D) (hF:F=(f:Int)) (hn:n≤1000) (hf:f≤1000) :
  Calls Tryz.prog 18 #[v,.int .i64 (n:Int),.int .i64 F] w fun e w'=>Below w.heap.size w w'∧∃ A c,e=.returned (.slice A n c)∧VL w' w'.heap.size (.slice A n c) (listD N D f n):=by subst hF;exact dlist_ok h hn hf
theorem matrix_ok {w:World} {v:Value} {r c:Int} {N D:List Int} {n k:Nat} (h:DV w w.heap.size v r c N D) (hm:matD r c N D=rowsD N D k n) (hn:0<n) :
  Calls Tryz.prog 28 #[v] w fun e w'=>Below w.heap.size w w'∧∃ g o c,e=.returned (.slice (some ⟨g,o,none⟩) n c)∧VM w' w'.heap.size (.slice (some ⟨g,o,none⟩) n c) (rowsD N D k n):=by
 refine(rmatrix_any w v r c N D h).mono ?_;rintro e w' ⟨hb,v,rfl,hv⟩;rw[hm] at hv;obtain⟨A,c,rfl,h1⟩:=VM.open (n:=n) (show VM _ _ v (rowsD N D k n) from hv) (rowsD_len _ _ _ _);obtain⟨g,o,rfl,-⟩:=SL.addr h1.rat (by rw[List.length_map,rowsD_len];exact hn);exact⟨hb,g,o,c,rfl,h1⟩
theorem VM.head0 {w:World} {B n c k g o:Nat} {M:List (List Rat)} (h:VM w B (.slice (some ⟨g,o,none⟩) n c) M) (hw:Wide M k) (h0:0<M.length):∃ A' c',g<B∧w.cell? ⟨g,o,none⟩=some (.slice A' k c')∧VL w B (.slice A' k c') (M.getD 0 []):=by
 obtain⟨g',o',A',c',e,hg,h1,h2⟩:=SL.row h.rat (j:=0) (by simpa using h0);injection e with e;injection e with e1 e2;subst e1;subst e2
 simp only[List.getElem_map,List.length_map,Nat.add_zero] at h1 h2
 have hl:M[0].length=k:=hw _ (List.getElem_mem h0);rw[hl] at h1 h2;exact⟨A',c',hg,h1,by rw[getD_is h0];exact h2⟩
theorem DV.parts {w:World} {B:Nat} {v:Value} {r c:Int} {N D:List Int} (h:DV w B v r c N D):∃ A ca A' cd,v=.agg #[.int .u8 r,.int .u8 c,.slice A N.length ca,.slice A' D.length cd]∧0≤r∧r≤255∧0≤c∧c≤255:=by
 obtain⟨A,ca,A',cd,e,h0,-,-⟩:=h;exact⟨A,ca,A',cd,e,h0⟩
theorem atMost_yes {w:World} {va vb:Value} {q r:Rat} (ha:QV w w.heap.size va q) (hb:QV w w.heap.size vb r) (lq:QL 600 600 q) (lr:QL 600 600 r) (hle:q≤r) :
  Calls Tryz.prog 13 #[va,vb] w fun e w'=>Below w.heap.size w w'∧e=.returned (.bool true):=by
 obtain⟨n,A,l,c,m,A',l',c',rfl⟩:=QO.cells (show QO w w.heap.size va (some q) from ha);obtain⟨n2,B,k,d,m2,B',k',d',rfl⟩:=QO.cells (show QO w w.heap.size vb (some r) from hb);obtain⟨s,hs⟩:∃ s,cmpR q r=s:=⟨_,rfl⟩;have hs0:s≤0:=by rw[← hs];exact cmpR_le.2 hle
 have HS:=zz hs;have HA:=zz ha;have HB:=zz hb;have HL:=zz (And.intro lq lr);clear hs ha hb lq lr hle;obtain⟨w0,hw0⟩:∃ w0:World,w0=((w.alloc (.cells #[.bool n,.slice A l c,.bool m,.slice A' l' c'] 33)).alloc (.cells #[.bool n2,.slice B k d,.bool m2,.slice B' k' d'] 33)):=⟨_,rfl⟩;have B0:=zz (n2_b hw0);have z0:=n2_z hw0;have La:=n2_0 hw0;have Lb:=n2_1 hw0;go_enter Tryz.func13,Tryz.ntmps13
 go_upto_region 1 with (fail)
 rw[← hw0];clear hw0;have b0:=La.cell 0 rfl;have c0:=La.cell 1 rfl;have d0:=La.cell 2 rfl;have e0:=La.cell 3 rfl;have k0:=La.lt;have f0:=Lb.cell 0 rfl;have g0:=Lb.cell 1 rfl;have h0:=Lb.cell 2 rfl;have i0:=Lb.cell 3 rfl;have l0:=Lb.lt;go_wp2_with fail
 refine((show Calls Tryz.prog _ _ _ _ from HS.out▸QCmp_ok (HA.out.step B0.out) (HB.out.step B0.out) HL.out.1 HL.out.2)).mono ?_;rintro e w1 ⟨a0,rfl⟩;have B4:=zz a0;have z4:=B4.out.size;have j0:=tr B0 B4;clear a0;clear b0 c0 d0 e0 k0 f0 g0 h0 i0 l0;go_wp2;go_ret;exact⟨j0.out,rfl⟩
end Go.Proofs.YtdigbofiebfkeaaGreatDoor
