/- Texts put together: Layer 35, the law package: parts of slices, Clone (written by gen_wh.py). Plain: drafts of layer 35 and their solutions: sizes. -/
import Derived.Test.YtbpigdhidopiiaaGreatDoorWgh
import Derived.Test.YtbpigdhidopiiaaGreatDoorLnz
namespace Go.Proofs.YtbpigdhidopiiaaGreatDoor
open Go Go.RowKit Dig
set_option maxRecDepth 100000
set_option maxHeartbeats 4000000
set_option linter.unusedSimpArgs false
section
variable {α:Type} {k:Nat} {E:Elem α} {w w':World} {B g off n c:Nat} {l:List α}
theorem SL.drop (h:SL k E w B (.slice (some ⟨g,off,none⟩) n c) l) {j:Nat} (hj:j≤l.length):SL k E w B (.slice (some ⟨g,off+j*k,none⟩) (n-j) (c-j)) (l.drop j):=by
 obtain⟨A,c',he,h1,h2,h3⟩:=h;injection he with e1 e2 e3
 subst e1;subst e2;subst e3;refine⟨_,_,by rw[List.length_drop],by rw[List.length_drop];omega,by omega,fun hn=>?_⟩;rw[List.length_drop] at hn;obtain⟨g',off',e,hg,hx⟩:=h3 (by omega);injection e with e;injection e with e1 e2;subst e1;subst e2
 refine⟨_,_,rfl,hg,fun i hi=>?_⟩;rw[List.length_drop] at hi;obtain⟨cs,h4,h5,h6⟩:=hx (j+i) (by omega);refine⟨cs,h4,?_,by rw[List.getElem_drop];exact h6⟩;rw[Nat.add_mul] at h5;rw[Nat.add_assoc];exact h5
theorem SL.addr {A:Option Addr} (h:SL k E w B (.slice A n c) l) (h0:0<l.length):∃ g off,A=some ⟨g,off,none⟩∧g<B:=by
 obtain⟨A',c',he,h1,h2,h3⟩:=h;injection he with e1 e2 e3
 subst e1;subst e2;subst e3;obtain⟨g,off,e,hg,-⟩:=h3 h0;exact⟨g,off,e,hg⟩
end
theorem EQ.ones:∀ (w:World) (B:Nat) (cs:List Value) (a:QX),EQ w B cs a→∀ u∈cs,u.oneCell'=true:=by
 rintro w B cs a ⟨c0,c1,c2,c3,rfl,A,l,c,A',l',c',e,-,-⟩ u hu;injection e with e
 simp at e
 obtain⟨rfl,rfl,rfl,rfl⟩:=e;simp at hu
 rcases hu with rfl | rfl | rfl | rfl <;> rfl
def EH:Elem Value:=fun _ _ cs v=>cs=[v]∧∃ A n c,v=.slice A n c
theorem EH.stable:Elem.Stable EH:=⟨fun h _=>h,fun h _=>h⟩
theorem EH.soft:Elem.Soft EH:=fun h _=>h
theorem EH.ones:∀ (w:World) (B:Nat) (cs:List Value) (a:Value),EH w B cs a→∀ u∈cs,u.oneCell'=true:=by
 rintro w B cs a ⟨rfl,A,n,c,rfl⟩ u hu;simp at hu;subst hu;rfl
theorem QM.heads {w:World} {B n c:Nat} {A:Option Addr} {M:List (List QX)} (h:QM w B (.slice A n c) M):∃ hs:List Value,hs.length=M.length∧SL 1 EH w B (.slice A n c) hs∧∀ i (h1:i<hs.length) (h2:i<M.length),QS w B hs[i] M[i]:=by
 obtain⟨A',c',he,h1,h2,h3⟩:=h;injection he with e1 e2 e3
 subst e1;subst e2;subst e3;by_cases h0:0<M.length
 ·obtain⟨g,off,rfl,hg,hx⟩:=h3 h0;have hc:∀ j:Nat,∃ v:Value,∀ h:j<M.length,w.cell? ⟨g,off+j,none⟩=some v∧QS w B v M[j]:=fun j=>by
   by_cases hj:j<M.length
   ·obtain⟨cs,e1,e2,v,rfl,e3⟩:=hx j hj;have:=e2 0 _ rfl;rw[Nat.add_zero,Nat.mul_one] at this;exact⟨v,fun _=>⟨this,e3⟩⟩
   ·exact⟨undef,fun h=>absurd h hj⟩
  refine⟨(List.range M.length).map fun j=>(hc j).choose,by simp,⟨some ⟨g,off,none⟩,c,by simp,by simpa using h1,h2,fun _=>⟨g,off,rfl,hg,fun j hj=>?_⟩⟩,fun i hi1 hi2=>?_⟩
  ·have hj':j<M.length:=by simpa using hj
   obtain⟨e1,e2⟩:=(hc j).choose_spec hj';refine⟨[(hc j).choose],rfl,fun i v hv=>?_,by simp only[List.getElem_map,List.getElem_range];obtain⟨A,c,e,-,-⟩:=e2.slice;exact⟨rfl,A,_,c,e⟩⟩;obtain⟨rfl,rfl⟩:i=0∧v=(hc j).choose:=by
    rcases i with _ | i
    ·exact⟨rfl,by injection hv with hv;exact hv.symm⟩
    ·cases hv
   rw[Nat.mul_one,Nat.add_zero];exact e1
  ·simp only[List.getElem_map,List.getElem_range]
   exact((hc i).choose_spec hi2).2
 ·have e:M=[]:=List.eq_nil_of_length_eq_zero (by omega);subst e;exact⟨[],rfl,⟨A,c,rfl,h1,h2,fun h=>absurd h (by simp)⟩,fun i h=>absurd h (by simp)⟩
theorem QM.of {w:World} {B':Nat} {T:TypeId} {B:Nat} {v:Value} {hs:List Value} {M:List (List QX)} (h:OA 1 EH T w B v hs) (hl:hs.length=M.length) (hr:∀ i (h1:i<hs.length) (h2:i<M.length),QS w B' hs[i] M[i]) (hB:B'≤w.heap.size):QM w w.heap.size v M:=by
 obtain⟨A,c,e,h1,h2,h3⟩:=h.sl;refine⟨A,c,by rw[← hl];exact e,by omega,h2,fun h0=>?_⟩;obtain⟨g,off,e1,hg,hx⟩:=h3 (by omega);refine⟨g,off,e1,hg,fun j hj=>?_⟩;obtain⟨cs,e2,e3,e4,-⟩:=hx j (by omega);exact⟨cs,e2,e3,_,e4,(hr j (by omega) hj).more EQ.stable hB⟩
theorem rotQ_map {α β:Type} (f:α→β) (k:Nat) (l:List α):(rotQ k l).map f=rotQ k (l.map f):=by unfold rotQ;rw[List.map_append,List.map_drop,List.map_take]
theorem rot_rows {w:World} {B k:Nat} {hs:List Value} {M:List (List QX)} (hl:hs.length=M.length) (hr:∀ i (h1:i<hs.length) (h2:i<M.length),QS w B hs[i] M[i]):∀ i (h1:i<(rotQ k hs).length) (h2:i<(rotQ k M).length),QS w B (rotQ k hs)[i] (rotQ k M)[i]:=fun i h1 h2=>by
 unfold rotQ at h1 h2 ⊢;rw[List.getElem_append,List.getElem_append];simp only[List.length_drop,hl]
 split
 ·simp only[List.getElem_drop];exact hr _ _ _
 ·simp only[List.getElem_take];exact hr _ _ _
theorem wp_append_zero {P:Program} {o:Oper} {a:Act} {w:World} {K:Act→World→Prop} {Q:Exit→Act→World→Prop} (s x:Operand) (t:TypeId)
  (ho:o.op=.call { callee:=.builtin .append,args:=#[s,x],argTypes:=#[t,t] }) (e:TypeId) (i:TypeInfo) (ht:P.underlying t=some (.slice e)) (hi:P.info? e=some i)
  {g off n c:Nat} (hnc:n≤c) (hs:a.eval s=.slice (some ⟨g,off,none⟩) n c) (ad:Addr) (c':Nat) (hx':a.eval x=.slice (some ad) 0 c')
  (hgo:K (a.put o.dst (.slice (some ⟨g,off,none⟩) n c)) w):o.wp P a w K Q:=by
 have hr:(Builtin.append_ #[t,t] o.type #[.slice (some ⟨g,off,none⟩) n c,.slice (some ad) 0 c']).run P w=.ok (.slice (some ⟨g,off,none⟩) n c) w:=by
  simp[Builtin.append_,run_underlying ht,sizeOf,typeInfo,hi,Builtin.lenOf,Builtin.firstCells,loadCells,loadCellsFrom,hnc,storeCells,Result.andThen]
 unfold Oper.wp execOp;simp only[ho,resolve,invoke,builtin,Sem.run_bind,Sem.run_pure,Result.andThen_ok,List.map_toArray,List.map_cons,List.map_nil,hs,hx',hr]
 exact hgo
theorem wp_append_sl {α:Type} {k:Nat} {E:Elem α} {P:Program} {o:Oper} {a:Act} {w:World} {K:Act→World→Prop} {Q:Exit→Act→World→Prop} (s x:Operand) (t:TypeId)
  (ho:o.op=.call { callee:=.builtin .append,args:=#[s,x],argTypes:=#[t,t] }) (base:Nat) (e:TypeId) (i:TypeInfo) (z:Value) (bytes:Nat) (ht:P.underlying t=some (.slice e)) (hi:P.info? e=some i) (hz:i.zero=some z)
  (hsize:i.size=k) (hby:i.bytes=bytes) (hzs:z.cells.size=k) (hk:0<k) (hzf:∀ v∈z.cells.toList,noInt v=true) (hS:E.Stable) (hE:E.Soft) (hone:∀ w B cs a,E w B cs a→∀ u∈cs,u.oneCell'=true)
  {v:Value} {l ys:List α} (h:OA k E e w base v l) (h0:0<l.length) (hs:a.eval s=v) {g off n c:Nat} (hy:SL k E w w.heap.size (.slice (some ⟨g,off,none⟩) n c) ys) (hx:a.eval x=.slice (some ⟨g,off,none⟩) n c)
  (h63:l.length+ys.length≤3000000000) (a0:bytes≤64) (hbase:base≤w.heap.size) (hgo:∀ v' w',OA k E e w' base v' (l++ys)→Below base w w'→K (a.put o.dst v') w'):o.wp P a w K Q:=by
 obtain⟨rfl,-,-⟩:=SL.len hy;by_cases hp:0<ys.length
 ·obtain⟨cs,h1,h2,h3⟩:=SL.cells hy hp hone;exact wp_append_oa s x t ho base e i z bytes ht hi hz hsize hby hzs hk hzf hS hE h hs ⟨g,off,none⟩ c ys hx hp cs h1 h2 h3 (by simp only[maxLen];omega) (Nat.le_trans (Nat.mul_le_mul h63 a0) (by decide)) hbase fun v' w' h1 h2 _ _ _=>hgo v' w' h1 h2
 ·have e0:ys=[]:=List.eq_nil_of_length_eq_zero (by omega);subst e0;rcases h with ⟨-,rfl⟩ | ⟨g',cap,rfl,h2,h3,h4⟩
  ·simp at h0
  ·exact wp_append_zero s x t ho e i ht hi h4.len hs _ c hx (hgo _ _ (by rw[List.append_nil];exact .inr ⟨g',cap,rfl,h2,h3,h4⟩) (Below.refl _ _))
theorem cloneQ_any (w:World) (A:Option Addr) (n c:Nat) (l:List QX) (h:SL 4 EQ w w.heap.size (.slice A n c) l) (h1:0<l.length) (hl:l.length≤3000000000) :
  Calls Tryz.prog 36 #[.slice A n c] w fun e w'=>Below w.heap.size w w'∧∃ v,e=.returned v∧OA 4 EQ 28 w' w.heap.size v l:=by
 obtain⟨rfl,hn1,hn2⟩:=SL.len h;obtain⟨g,off,rfl,hg⟩:=SL.addr h h1;have a0:Below w.heap.size w (w.alloc (.cells #[] 28)):=below_alloc1 (Below.refl _ _) _;have HS:=zz (SL.cells (h.step EQ.stable a0) h1 EQ.ones);have HO:Hid (OA 4 EQ 28 (w.alloc (.cells #[] 28)) w.heap.size (.slice (some ⟨w.heap.size,0,none⟩) 0 0) ([]:List QX)):=zz (.inr ⟨w.heap.size,0,rfl,Nat.le_refl _,by omega,#[],CB.new _ _ _,fun i v _ _ hv=>by simp at hv,⟨Nat.le_refl _,by simp⟩,fun j hj=>absurd hj (by simp)⟩);have HL:=zz hl;have b0:=zz a0;clear h a0 hl;obtain⟨i,hi,hz,hs,hby⟩:=info_parts info_quot;have q22:∀ (w:World) (a:Option Addr) (n c n' c':Nat),(binOp .eql 23 (.slice a n c) (.slice none n' c')).run Tryz.prog w=.ok (.bool a.isNone) w:=fun w a n c n' c'=>Lib.run_eql_slice_nil w _ _ a n c n' c' Tryz.underlying23
 go_enter Tryz.func36,Tryz.ntmps36
 go_wp2_with (at_builtin;refine wpList_append_oa rfl _ _ _ rfl w.heap.size 28 i _ 64 Tryz.underlying23 hi hz hs hby rfl (by decide) (by decide) EQ.stable EQ.soft HO.out rfl ⟨g,off,none⟩ c l rfl h1 HS.out.choose HS.out.choose_spec.1 HS.out.choose_spec.2.1 HS.out.choose_spec.2.2 (by have:=HL.out;simp only[maxLen,List.length_nil];omega) (by have:=HL.out;simp only[List.length_nil];omega) (by simp) ?_)
 intro v' w' hoa hb hs' hg' hat;have e0:=zz hoa;have f0:=zz (b0.out.trans hb);clear hoa hb hs' hg' hat;go_wp2;go_ret;exact⟨f0.out,_,rfl,e0.out⟩
theorem cloneH_any (w:World) (A:Option Addr) (n c:Nat) (l:List Value) (h:SL 1 EH w w.heap.size (.slice A n c) l) (h1:0<l.length) (hl:l.length≤3000000000) :
  Calls Tryz.prog 35 #[.slice A n c] w fun e w'=>Below w.heap.size w w'∧∃ v,e=.returned v∧OA 1 EH 23 w' w.heap.size v l:=by
 obtain⟨rfl,hn1,hn2⟩:=SL.len h;obtain⟨g,off,rfl,hg⟩:=SL.addr h h1;have a0:Below w.heap.size w (w.alloc (.cells #[] 23)):=below_alloc1 (Below.refl _ _) _;have HS:=zz (SL.cells (h.step EH.stable a0) h1 EH.ones);have HO:Hid (OA 1 EH 23 (w.alloc (.cells #[] 23)) w.heap.size (.slice (some ⟨w.heap.size,0,none⟩) 0 0) ([]:List Value)):=zz (.inr ⟨w.heap.size,0,rfl,Nat.le_refl _,by omega,#[],CB.new _ _ _,fun i v _ _ hv=>by simp at hv,⟨Nat.le_refl _,by simp⟩,fun j hj=>absurd hj (by simp)⟩);have HL:=zz hl;have b0:=zz a0;clear h a0 hl;obtain⟨i,hi,hz,hs,hby⟩:=info_parts info_qlist;have q22:∀ (w:World) (a:Option Addr) (n c n' c':Nat),(binOp .eql 22 (.slice a n c) (.slice none n' c')).run Tryz.prog w=.ok (.bool a.isNone) w:=fun w a n c n' c'=>Lib.run_eql_slice_nil w _ _ a n c n' c' Tryz.underlying22
 go_enter Tryz.func35,Tryz.ntmps35
 go_wp2_with (at_builtin;refine wpList_append_oa rfl _ _ _ rfl w.heap.size 23 i _ 24 Tryz.underlying22 hi hz hs hby rfl (by decide) (by decide) EH.stable EH.soft HO.out rfl ⟨g,off,none⟩ c l rfl h1 HS.out.choose HS.out.choose_spec.1 HS.out.choose_spec.2.1 HS.out.choose_spec.2.2 (by have:=HL.out;simp only[maxLen,List.length_nil];omega) (by have:=HL.out;simp only[List.length_nil];omega) (by simp) ?_)
 intro v' w' hoa hb hs' hg' hat;have e0:=zz hoa;have f0:=zz (b0.out.trans hb);clear hoa hb hs' hg' hat;go_wp2;go_ret;exact⟨f0.out,_,rfl,e0.out⟩
section
variable {N D:List Int}
theorem numD_frac (k:Nat):FR 60 2940 (numD N D k):=by
 obtain⟨h1,h2⟩:=lowD_le D k;have e:lowD D k=((lowD D k).toNat:Int):=by omega
 unfold numD;rw[e,Rat.divInt_ofNat];exact draft_frac (topD_le N k) (by omega) (by omega)
theorem numD_ql (k:Nat):QL 1 1 (numD N D k):=FR.ql (by decide) (numD_frac k) (by decide) (by decide)
theorem zero_frac {D Z:Nat}:FR D Z 0:=⟨0,by rw[Rat.zero_mul];rfl,by simp⟩
theorem listD_at {f n i:Nat} (h:i<n):(listD N D f n).getD i 0=numD N D (f+i):=by
 unfold listD;rw[List.getD_eq_getElem?_getD,List.getElem?_eq_getElem (by simpa using h)];simp
theorem listD_frac (f n i:Nat):FR 60 2940 ((listD N D f n).getD i 0):=by
 by_cases h:i<n
 ·rw[listD_at h];exact numD_frac _
 ·rw[List.getD_eq_getElem?_getD,List.getElem?_eq_none (by rw[listD_len];omega)];exact zero_frac
theorem listD_ql {f n:Nat} {q:Rat} (h:q∈listD N D f n):QL 1 1 q:=by
 unfold listD at h;obtain⟨i,-,rfl⟩:=List.mem_map.1 h;exact numD_ql _
theorem okV_listD {f n:Nat} (h1:1≤n) (h2:n≤12):okV (listD N D f n):=⟨fun _ h=>(listD_ql h).up (by decide),by rw[listD_len];exact h1,by rw[listD_len];exact h2⟩
theorem rowsD_wide (k n:Nat):Wide (rowsD N D k n) k:=fun r hr=>by
 unfold rowsD at hr;obtain⟨i,-,rfl⟩:=List.mem_map.1 hr;exact listD_len _ _ _ _
theorem rowsD_wq {k n:Nat} (h:1≤n):wideQ (rowsD N D k n)=k:=(rowsD_wide k n).getD (i:=0) (by rw[rowsD_len];exact h)
theorem rowsD_at {k n i:Nat} (h:i<n):(rowsD N D k n).getD i []=listD N D (4*i) k:=by
 unfold rowsD;rw[List.getD_eq_getElem?_getD,List.getElem?_eq_getElem (by simpa using h)];simp[rowD]
theorem rowsD_frac (k n i j:Nat):FR 60 2940 (atQ (rowsD N D k n) i j):=by
 unfold atQ;by_cases h:i<n
 ·rw[rowsD_at h];exact listD_frac _ _ _
 ·have e:(rowsD N D k n).getD i []=[]:=by rw[List.getD_eq_getElem?_getD,List.getElem?_eq_none (by rw[rowsD_len];omega)];rfl
  rw[e];exact zero_frac
theorem okW_rowsD {k n:Nat} (h1:1≤k) (h2:k≤6) (h3:1≤n) (h4:n≤12):okW (rowsD N D k n):=by
 refine⟨fun r hr q hq=>?_,?_,by rw[rowsD_len];exact h3,by rw[rowsD_len];exact h4,by rw[rowsD_wq h3];exact h1,by rw[rowsD_wq h3];exact h2⟩
 ·unfold rowsD at hr;obtain⟨i,-,rfl⟩:=List.mem_map.1 hr;exact(listD_ql hq).up (by decide)
 ·rw[rowsD_wq h3];exact rowsD_wide k n
end
theorem times_frac {r x:List Rat} {n D':Nat} (hr:r.length=n) (hx:x.length=n) (hn:n≤6) (h1:∀ j,FR 60 2940 (r.getD j 0)) (hD:0<D') (a0:D'≤1793083703040000) (h2:∀ j,j<n→FR D' 1793083703040000 (x.getD j 0)):TimesOK r x:=by
 have hb:bp 3=1000000000000000000000000000:=by decide +kernel
 intro k hk;have hkn:k<n:=by omega
 have hp:0<60*D':=by omega
 refine⟨(FR.ql (k:=3) (by decide) (h1 k) (by rw[hb];decide) (by rw[hb];decide)).up (by decide),(FR.ql (k:=3) hD (h2 k hkn) (by rw[hb];decide) (by rw[hb];omega)).up (by decide),
  (FR.ql (k:=3) hp ((h1 k).mul (h2 k hkn)) (by rw[hb];decide) (by rw[hb];omega)).up (by decide),
  (FR.ql (k:=3) hp (dot_frac (n:=k) (fun j _=>h1 j) (fun j hj=>h2 j (by omega))) (by rw[hb];omega) (by rw[hb];omega)).up (by decide),
  (FR.ql (k:=3) hp (dot_frac (n:=k+1) (fun j _=>h1 j) (fun j hj=>h2 j (by omega))) (by rw[hb];omega) (by rw[hb];omega)).up (by decide)⟩
section
variable {N D:List Int} {f n:Nat} {x:List Rat}
theorem exact_none (h1:1≤n) (h4:n≤4) (h:solveQ (rowsD N D n n) (listD N D f n)=none):solveA ((rowsD N D n n).map (List.map qx)) ((listD N D f n).map qx)=(none,7):=by
 rw[solveA_q (okW_rowsD h1 (by omega) h1 (by omega)) (okV_listD h1 (by omega)),if_pos ⟨by rw[listD_len,rowsD_len],by rw[rowsD_len,rowsD_wq h1]⟩,h];rfl
theorem exact_fit (h1:1≤n) (h4:n≤4) (h:solveQ (rowsD N D n n) (listD N D f n)=some x):x.length=n∧∀ q∈x,QL 2 2 q:=by
 have hb:bp 2=1000000000000000000:=by decide +kernel
 have hl:=(solveQ_is (rowsD_wide n n) (rowsD_wq h1) h).1;refine⟨hl,fun q hq=>?_⟩;obtain⟨i,hi,rfl⟩:=List.mem_iff_getElem.1 hq;have:=solveQ_size (D:=60) (Z:=2940) (k:=2) h4 (rowsD_wide n n) (rowsD_wq h1) (rowsD_len _ _ _ _) (by decide) (by decide) (rowsD_frac n n) (listD_frac f n) h (by rw[hb];decide) i (by omega)
 rwa [getD_is hi] at this
theorem exact_some (h1:1≤n) (h4:n≤4) (h:solveQ (rowsD N D n n) (listD N D f n)=some x):solveA ((rowsD N D n n).map (List.map qx)) ((listD N D f n).map qx)=(some x,0):=by
 rw[solveA_q (okW_rowsD h1 (by omega) h1 (by omega)) (okV_listD h1 (by omega)),if_pos ⟨by rw[listD_len,rowsD_len],by rw[rowsD_len,rowsD_wq h1]⟩,h];exact if_pos fun q hq=>by have h2:=((exact_fit h1 h4 h).2 q hq).up (show 2≤600 by decide);unfold QL at h2;exact h2
theorem exact_holds (h1:1≤n) (h4:n≤4) (h:solveQ (rowsD N D n n) (listD N D f n)=some x):HoldsOK (rowsD N D n n) x (listD N D f n):=by
 obtain⟨hl,hs⟩:=solveQ_is (rowsD_wide n n) (rowsD_wq h1) h;obtain⟨D',hD,a0,hx⟩:=solveQ_frac (D:=60) (Z:=2940) h4 (rowsD_wide n n) (rowsD_wq h1) (rowsD_len _ _ _ _) (by decide) (by decide) (rowsD_frac n n) h;have hz:24*(2940*(2940*(2940*2940)))=1793083703040000:=by decide
 rw[hz] at a0 hx;refine⟨by rw[rowsD_len,listD_len];exact Nat.le_refl _,fun i hi=>?_⟩;rw[rowsD_len] at hi;have hrl:((rowsD N D n n).getD i []).length=n:=(rowsD_wide n n).getD (by rw[rowsD_len];exact hi);refine⟨by rw[hrl,hl],times_frac hrl hl (by omega) (fun j=>rowsD_frac n n i j) hD a0 (hx _ _ h (listD_frac f n)),?_⟩;rw[hl];exact(hs x).2 (fun _ _=>rfl) i (by rw[rowsD_len];exact hi)
theorem rot_mem {α:Type} {k:Nat} {l:List α} {y:α} (h:y∈rotQ k l):y∈l:=by
 unfold rotQ at h;rcases List.mem_append.1 h with h | h
 ·exact List.mem_of_mem_drop h
 ·exact List.mem_of_mem_take h
theorem exact_rot {k:Nat} (h1:1≤n) (h4:n≤4) (hk:k<n):solveA ((rotQ k (rowsD N D n n)).map (List.map qx)) ((rotQ k (listD N D f n)).map qx)=solveA ((rowsD N D n n).map (List.map qx)) ((listD N D f n).map qx):=by
 have ha:=okW_rowsD (N:=N) (D:=D) (k:=n) (n:=n) h1 (by omega) h1 (by omega);have hb:=okV_listD (N:=N) (D:=D) (f:=f) (n:=n) h1 (by omega);have hla:(rotQ k (rowsD N D n n)).length=n:=by rw[rotQ_len (by rw[rowsD_len];omega),rowsD_len]
 have hlb:(rotQ k (listD N D f n)).length=n:=by rw[rotQ_len (by rw[listD_len];omega),listD_len]
 have hw:Wide (rotQ k (rowsD N D n n)) n:=rot_wide (rowsD_wide n n);have hwq:wideQ (rotQ k (rowsD N D n n))=n:=hw.getD (i:=0) (by rw[hla];exact h1);have ha2:okW (rotQ k (rowsD N D n n)):=⟨fun r hr=>ha.1 r (rot_mem hr),by rw[hwq];exact hw,by rw[hla];exact h1,by rw[hla];omega,by rw[hwq];exact h1,by rw[hwq];omega⟩;have a0:okV (rotQ k (listD N D f n)):=⟨fun q hq=>hb.1 q (rot_mem hq),by rw[hlb];exact h1,by rw[hlb];omega⟩;rw[solveA_q ha hb,solveA_q ha2 a0,hla,hlb,hwq,rowsD_len,listD_len,rowsD_wq h1,solveQ_rot (n:=n) (by rw[rowsD_len];omega) (by rw[rowsD_len];exact h1) (by rw[rowsD_len,listD_len]) (rowsD_wide n n) (rowsD_wq h1)]
end
end Go.Proofs.YtbpigdhidopiiaaGreatDoor
