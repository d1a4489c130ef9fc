/- Texts put together. -/
import Derived.WalkKit
import Derived.Deep.Draws
import Derived.Lib.Hide
import Derived.Laws.Rows
import Derived.RegionTactic
import Derived.OrdersHeld
import Derived.StillTail
import Derived.Test.YtencnahjgbdeoaaGreatDoorProg
import Derived.Laws.CopyOwn
import Derived.BigQuiet
import Derived.Deep.QuietTactic
import Derived.Laws.ResultCell
import Derived.Lib.Walk
import Derived.Lib.SliceRun
import Derived.WalkSpells
import Derived.BigRegion
import Derived.Lib.ItoaNum
import Derived.Lib.AtoiAll
import Derived.Lib.Strings
namespace Go.Proofs.YtencnahjgbdeoaaGreatDoor
open Go Go.RowKit
set_option maxRecDepth 100000
set_option maxHeartbeats 4000000
variable {p:Prop} {w:World} {x y:Int}
abbrev aEn:=@And.intro
abbrev aMm:=@Array.all_eq_true_iff_forall_mem
abbrev aHj:=@Array.getElem?_eq_none
abbrev aFx:=@Array.getElem?_eq_some_iff
abbrev aKd:=@Array.getElem?_modify
abbrev aMu:=@Array.mem_of_getElem?
abbrev aIs:=@Below.alloc
abbrev aGn:=@Below.cell
abbrev aJo:=@Below.drew
abbrev aLy:=@Below.heap_alloc
abbrev aFr:=@Below.heap_setCell
abbrev aDy:=@Below.refl
abbrev aFs:=@Bool.and_eq_true
abbrev aFg:=@Bool.and_eq_true_iff
abbrev aMo:=@Bool.and_false
abbrev aLm:=@Bool.not_eq_true'
abbrev aGr:=@Bool.or_eq_true_iff
abbrev aLe:=@Exit.noGoto_normal
abbrev aIq:=@Exit.noGoto_ret
abbrev aIp:=@Int.eq_ofNat_of_zero_le
abbrev aLd:=@Int.lt_or_gt_of_ne
abbrev aJk:=@Int.mul_add
abbrev aJl:=@Int.mul_assoc
abbrev aNd:=@Int.mul_ediv_cancel'
abbrev aJs:=@Int.mul_le_mul_of_nonneg_left
abbrev aGi:=@Int.natAbs_mul
abbrev aEr:=@Int.natAbs_natCast
abbrev aKu:=@Int.natAbs_neg
abbrev aNc:=@Int.natAbs_of_nonneg
abbrev aJd:=@Int.natAbs_sign_of_ne_zero
abbrev aKj:=@Int.natAbs_tmod
abbrev aIe:=@Int.natCast_add
abbrev aFp:=@Int.natCast_mul
abbrev aJz:=@Int.natCast_ne_zero
abbrev aNq:=@Int.natCast_one
abbrev aLn:=@Int.ofNat_natAbs_of_nonpos
abbrev aJc:=@Int.sign_eq_neg_one_of_neg
abbrev aKa:=@Int.sign_eq_one_of_pos
abbrev aJb:=@Int.tmod_eq_emod_of_nonneg
abbrev aHa:=@IntWalk.i64_in
abbrev aEx:=@List.all_eq_true
abbrev aJr:=@List.any_eq_true
abbrev aId:=@List.append_nil
abbrev aKs:=@List.cons_append
abbrev aNp:=@List.countP_eq_zero
abbrev aNo:=@List.countP_pos_iff
abbrev aFd:=@List.drop_eq_getElem_cons
abbrev aGa:=@List.drop_eq_nil_of_le
abbrev aKf:=@List.drop_zero
abbrev aGh:=@List.eq_nil_of_length_eq_zero
abbrev aGx:=@List.ext_getElem
abbrev aEi:=@List.getD_eq_getElem?_getD
abbrev aGv:=@List.getElem?_append_left
abbrev aIc:=@List.getElem?_append_right
abbrev aEh:=@List.getElem?_eq_getElem
abbrev aFm:=@List.getElem?_eq_none
abbrev aGu:=@List.getElem?_eq_some_iff
abbrev aLc:=@List.getElem?_take
abbrev aGq:=@List.getElem_append_left
abbrev aHr:=@List.getElem_append_right
abbrev aKx:=@List.getElem_cons_zero
abbrev aGm:=@List.getElem_map
abbrev aGy:=@List.getElem_mapIdx
abbrev aEc:=@List.getElem_mem
abbrev aKq:=@List.getElem_of_mem
abbrev aIf:=@List.getElem_set
abbrev aLs:=@List.getLast?_eq_getElem?
abbrev aEp:=@List.length_append
abbrev aEl:=@List.length_cons
abbrev aJq:=@List.length_drop
abbrev aEb:=@List.length_map
abbrev aLb:=@List.length_mapIdx
abbrev aEm:=@List.length_nil
abbrev aHh:=@List.length_pos_iff
abbrev aEz:=@List.length_set
abbrev aEk:=@List.length_take
abbrev aGc:=@List.map_append
abbrev aKp:=@List.map_congr_left
abbrev aMk:=@List.map_cons
abbrev aGb:=@List.mem_append
abbrev aKg:=@List.mem_append_left
abbrev aLh:=@List.mem_append_right
abbrev aHp:=@List.mem_cons
abbrev aFo:=@List.mem_cons_of_mem
abbrev aFh:=@List.mem_cons_self
abbrev aFc:=@List.mem_map
abbrev aLg:=@List.mem_mapIdx
abbrev aHx:=@List.mem_map_of_mem
abbrev aLr:=@List.mem_or_eq_of_mem_set
abbrev aKt:=@List.mem_range
abbrev aHt:=@List.mem_singleton
abbrev aNn:=@List.nil_append
abbrev aNm:=@List.range_succ
abbrev aJa:=@List.setIfInBounds_toArray
abbrev aMt:=@List.set_append_right
abbrev aMs:=@List.set_getElem_self
abbrev aFj:=@List.take_add_one
abbrev aHw:=@List.take_append_drop
abbrev aFe:=@List.take_length
abbrev aFa:=@List.take_of_length_le
abbrev aFt:=@List.take_succ_eq_append_getElem
abbrev aGl:=@Nat.add_mul
abbrev aLa:=@Nat.add_sub_cancel
abbrev aGd:=@Nat.add_zero
abbrev aJy:=@Nat.coprime_div_gcd_div_gcd
abbrev aHv:=@Nat.div_add_mod
abbrev aNa:=@Nat.div_eq_of_lt
abbrev aIo:=@Nat.div_le_self
abbrev aGg:=@Nat.eq_zero_or_pos
abbrev aLx:=@Nat.gcd_dvd_left
abbrev aLl:=@Nat.gcd_dvd_right
abbrev aLz:=@Nat.gcd_eq_zero_iff
abbrev aKo:=@Nat.le_mul_of_pos_right
abbrev aGo:=@Nat.le_of_eq
abbrev aMr:=@Nat.le_of_lt
abbrev aEa:=@Nat.le_refl
abbrev aEg:=@Nat.le_trans
abbrev aJt:=@Nat.lt_irrefl
abbrev aKz:=@Nat.lt_of_le_of_lt
abbrev aEt:=@Nat.lt_of_lt_of_le
abbrev aJp:=@Nat.lt_of_not_le
abbrev aFk:=@Nat.lt_or_ge
abbrev aMz:=@Nat.lt_succ_self
abbrev aMq:=@Nat.lt_trans
abbrev aFw:=@Nat.min_eq_left
abbrev aLw:=@Nat.mod_eq_of_lt
abbrev aGp:=@Nat.mod_lt
abbrev aGk:=@Nat.mul_add
abbrev aGe:=@Nat.mul_assoc
abbrev aGt:=@Nat.mul_comm
abbrev aKn:=@Nat.mul_div_cancel'
abbrev aGs:=@Nat.mul_le_mul
abbrev aFf:=@Nat.mul_le_mul_left
abbrev aEs:=@Nat.mul_le_mul_right
abbrev aJv:=@Nat.mul_left_comm
abbrev aJi:=@Nat.mul_one
abbrev aKe:=@Nat.mul_pos
abbrev aNl:=@Nat.not_lt_zero
abbrev aIn:=@Nat.one_mul
abbrev aFy:=@Nat.pos_of_ne_zero
abbrev aLo:=@Nat.pow_le_pow_right
abbrev aMa:=@Nat.pow_succ
abbrev aMy:=@Nat.succ_le_succ
abbrev aIx:=@Nat.zero_add
abbrev aEy:=@Nat.zero_le
abbrev aLf:=@Nat.zero_mul
abbrev aMj:=@Ne.symm
abbrev aHg:=@Option.bind_eq_some_iff
abbrev aMx:=@Option.getD_none
abbrev aIw:=@Option.getD_some
abbrev aKw:=@Option.map_eq_some_iff
abbrev aKh:=@Option.some.inj
abbrev aIv:=@Rat.add_zero
abbrev aMv:=@Rat.divInt_ofNat
abbrev aKk:=@Rat.div_def
abbrev aNh:=@Rat.intCast_natCast
abbrev aMp:=@Rat.mul_zero
abbrev aMg:=@Rat.num_divInt_den
abbrev aMf:=@Rat.num_eq_zero
abbrev aHe:=@Rat.sub_eq_add_neg
abbrev aJm:=@Rat.zero_mul
abbrev aNb:=@Region.noSelect_spec
abbrev aHs:=@Region.waitsFor_spec
abbrev aIt:=@World.cell?_of_block
abbrev aFn:=@World.ownsRow.lt
abbrev aEo:=@beq_eq_false_iff_ne
abbrev aIh:=@beq_iff_eq
abbrev aJh:=@bne_eq_false_iff_eq
abbrev aJg:=@bne_iff_ne
abbrev aFv:=@bodyPost_ret
abbrev aIl:=@congrArg
abbrev aIu:=@decide_eq_decide
abbrev aEe:=@decide_eq_false
abbrev aMc:=@decide_eq_false_iff_not
abbrev aEj:=@decide_eq_true
abbrev aHc:=@decide_eq_true_eq
abbrev aJu:=@heap_alloc_new
abbrev aEu:=@if_neg
abbrev aEv:=@if_pos
abbrev aGf:=@info_parts
abbrev aJe:=@mem_ready
abbrev aGw:=@of_decide_eq_true
abbrev aKc:=@results_cell_row
abbrev aFi:=@trivial
abbrev aMb:=@wpOp_mono
abbrev aDz:=@wpOp_step
def Hi (p:Prop):Prop:=p
theorem Hi.o (h:Hi p):p:=h
theorem zz (h:p):Hi p:=@Lib.hid p h
theorem tr {w' w'':World} (h:Hi (Below w.heap.size w w')) (k:Hi (Below w'.heap.size w' w'')):Hi (Below w.heap.size w w''):=@Lib.hid _ (h.o.trans (k.o.mono h.o.size))
theorem PT:(∀ (t:Array Value) (ds:List Deferred) (d:Tmp) (v:Value),Act.put ⟨t,ds⟩ (some d) v=⟨t.setIfInBounds d v,ds⟩)∧(∀ (a:Act) (v:Value),Act.put a none v=a)∧(∀ (l:List Value) (i:Nat) (v:Value),l.toArray.setIfInBounds i v=(l.set i v).toArray) ∧
  (∀ (a b:Value) (l:List Value),(a :: l).set 0 b=b :: l)∧(∀ (a b:Value) (l:List Value) (n:Nat),(a :: l).set (n+1) b=a :: l.set n b):=
 ⟨fun _ _ _ _=>rfl,fun _ _=>rfl,fun _ _ _=>aJa ..,fun _ _ _=>rfl,fun _ _ _ _=>rfl⟩
abbrev CV (n:FuncId) (args:Array Value) (w:World) (p:Ending→World→Prop):Prop:=Calls Tryz.prog n args w fun e w'=>Below w.heap.size w w'∧p e w'
theorem nx {n:FuncId} {args:Array Value} {w1:World} {p:Ending→World→Prop} (B:Hi (Below w.heap.size w w1)) (h:CV n args w1 p) :
  Calls Tryz.prog n args w1 fun e w'=>(Hi (Below w1.heap.size w1 w')∧w1.heap.size≤w'.heap.size∧Hi (Below w.heap.size w w'))∧p e w':=h.mono fun _ _ h=>⟨⟨zz h.1,h.1.size,tr B (zz h.1)⟩,h.2⟩
theorem ex {α:Sort _} (a:α):∃ x,x=a:=⟨a,rfl⟩
theorem ms (h:p:=by(simp[intOf];omega)):p:=h
theorem st {q:Prop} {w':World} (f:p→Below w.heap.size w w'→q) (h:Hi p) (k:Hi (Below w.heap.size w w')):Hi q:=zz (f h.o k.o)
def RI (w:World) (B:Nat) (v:Value) (l:List Int):Prop:=
 ∃ A c,v=.slice A l.length c∧l.length≤c∧c≤9223372036854775807∧(0<l.length→∃ g off,A=some ⟨g,off,none⟩∧g<B∧∀ j (h:j<l.length),w.cell? ⟨g,off+j,none⟩=some (.int .i64 l[j]))
def ni (l:List Nat):List Int:=l.map fun d:Nat=>(d:Int)
def RN (w:World) (B:Nat) (v:Value) (l:List Nat):Prop:=RI w B v (ni l)
theorem aC (l:List Nat):(ni l).length=l.length:=by simp[ni]
theorem JP (l:List Nat) (j:Nat) (h:j<(ni l).length):(ni l)[j]=((l[j]'(by simpa[ni] using h):Nat):Int):=by simp[ni]
section
variable {w w':World} {B B':Nat} {v:Value} {l:List Int}
theorem RI.keep (h:RI w B v l) (hk:∀ p:Addr,p.block<B→w'.cell? p=w.cell? p):RI w' B v l:=by
 obtain⟨A,c,hv,hc,hm,h0⟩:=h;refine⟨A,c,hv,hc,hm,fun hn=>?_⟩;obtain⟨g,off,hA,hg,hx⟩:=h0 hn;exact⟨g,off,hA,hg,fun j hj=>(hk _ hg).trans (hx j hj)⟩
theorem RI.below (h:RI w B v l) (hb:Below B w w'):RI w' B v l:=h.keep fun _ hp=>hb.cell hp
theorem RI.more (h:RI w B v l) (hB:B≤B'):RI w B' v l:=by
 obtain⟨A,c,hv,hc,hm,h0⟩:=h;refine⟨A,c,hv,hc,hm,fun hn=>?_⟩;obtain⟨g,off,hA,hg,hx⟩:=h0 hn;exact⟨g,off,hA,by omega,hx⟩
theorem RI.drewN (h:RI w B v l) (n:Nat):RI (w.drewN n) B v l:=h
theorem RI.nil (w:World) (B:Nat):RI w B (.slice none 0 0) []:=⟨none,0,rfl,aEa _,by omega,fun h=>absurd h (by simp)⟩
theorem RI.step (h:RI w w.heap.size v l) (hb:Below w.heap.size w w'):RI w' w'.heap.size v l:=(h.below hb).more hb.size
theorem RN.step {l:List Nat} (h:RN w w.heap.size v l) (hb:Below w.heap.size w w'):RN w' w'.heap.size v l:=RI.step h hb
abbrev aHu:=@RN.step
theorem RN.cell {l:List Nat} (h:RN w B v l):∃ A c,v=.slice A l.length c∧l.length≤c∧c≤9223372036854775807 ∧
  (0<l.length→∃ g off,A=some ⟨g,off,none⟩∧g<B∧∀ j (h:j<l.length),w.cell? ⟨g,off+j,none⟩=some (.int .i64 (l[j]:Nat))):=by
 obtain⟨A,c,hv,hc,hm,h0⟩:=h;simp only[aC] at hv hc h0
 refine⟨A,c,hv,hc,hm,fun hn=>?_⟩;obtain⟨g,off,hA,hg,hx⟩:=h0 hn;exact⟨g,off,hA,hg,fun j hj=>by rw[hx j hj,JP]⟩
abbrev aKl:=@RN.cell
end
def aAj:Value→Nat | .slice _ n _=>n | _=>0
theorem UF {x y:Nat} (h:((x:Int) != (y:Int))=true):x≠y:=by intro e;rw[e] at h;simp at h
theorem UG {x y:Nat} (h:((x:Int) != (y:Int))=false):x=y:=by
 have:(x:Int)=y:=by simpa using h
 omega
theorem ZU (h:(x==y)=true):x=y:=eq_of_beq h
theorem aBn (h:(x==y)=false):x≠y:=by intro e;rw[e] at h;simp at h
theorem ZT (h:(x != y)=true):x≠y:=by intro e;rw[e] at h;simp at h
theorem aBm (h:(x != y)=false):x=y:=by simpa using h
theorem aS {B:Nat} {a:World} (h:Below B a w) (n:Nat):Below B a (w.drewN n):=⟨h.os,h.tape,h.output,h.size,h.block⟩
def Own (w:World) (g:Nat) (l:List Int):Prop:=∃ tail:List Value,w.heap[g]?=some (.cells (l.map (Value.int .i64)++tail).toArray 3 (0,0))
section
variable {w w':World} {g:Nat} {l:List Int}
theorem Own.lt (h:Own w g l):g<w.heap.size:=by
 obtain⟨tail,h⟩:=h;rcases aFk g w.heap.size with hlt | hge
 ·exact hlt
 ·rw[aHj hge] at h;cases h
theorem Own.cell (h:Own w g l) (j:Nat) (hj:j<l.length):w.cell? ⟨g,j,none⟩=some (.int .i64 l[j]):=by
 obtain⟨tail,h⟩:=h;have h2:(l.map (Value.int .i64)++tail)[j]?=some (.int .i64 l[j]):=by
  rw[aGv (by simpa using hj)];simp[hj]
 simp only[World.cell?,h]
 simpa using h2
theorem Own.frozen (h:Own w g l) (j:Nat):w.frozen? ⟨g,j,none⟩=false:=by
 obtain⟨tail,h⟩:=h;simp[World.frozen?,h]
theorem Own.drew (h:Own w g l):Own w.drew g l:=h
theorem Own.drewN (h:Own w g l) (n:Nat):Own (w.drewN n) g l:=h
theorem Own.of_block (h:Own w g l) (hb:w'.heap[g]?=w.heap[g]?):Own w' g l:=by
 obtain⟨tail,h⟩:=h;exact⟨tail,hb.trans h⟩
theorem Own.alloc (h:Own w g l) (o:Obj):Own (w.alloc o) g l:=h.of_block (aLy w o g h.lt)
theorem Own.below {B:Nat} (h:Own w g l) (hb:Below B w w') (hg:g<B):Own w' g l:=h.of_block (hb.block g hg)
theorem Own.step (h:Own w g l) (hb:Below w.heap.size w w'):Own w' g l:=h.below hb h.lt
theorem Own.far (h:Own w g l) {p:Addr} (hp:g≠p.block) (u:Value):Own (w.setCell p u) g l:=h.of_block (aFr w p u g hp)
theorem Own.set (h:Own w g l) (j:Nat) (x:Int) (hj:j<l.length):Own (w.setCell ⟨g,j,none⟩ (.int .i64 x)) g (l.set j x):=by
 obtain⟨tail,h⟩:=h;refine⟨tail,?_⟩;have h2:(l.map (Value.int .i64)++tail).set j (.int .i64 x)=(l.set j x).map (Value.int .i64)++tail:=by
  rw[List.set_append_left _ _ (by simpa using hj),List.map_set]
 simp only[World.setCell,aKd,h,if_true,Option.map_some,aJa,h2]
 rfl
theorem Own.first (h:Own w g l) (n:Nat):Own w g (l.take n):=by
 obtain⟨tail,h⟩:=h;refine⟨(l.drop n).map (Value.int .i64)++tail,?_⟩;rw[h,← List.append_assoc,← aGc,aHw]
theorem Own.ri (h:Own w g l) (off n c:Nat) (hn:off+n≤l.length) (hc:n≤c) (hm:c≤9223372036854775807):RI w w.heap.size (.slice (some ⟨g,off,none⟩) n c) ((l.drop off).take n):=by
 have hl:((l.drop off).take n).length=n:=by simp;omega
 refine⟨some ⟨g,off,none⟩,c,by rw[hl],by omega,hm,fun _=>⟨g,off,rfl,h.lt,fun j hj=>?_⟩⟩;rw[h.cell (off+j) (by omega)];simp
theorem Own.ri0 (h:Own w g l) (n c:Nat) (hn:n=l.length) (hc:n≤c) (hm:c≤9223372036854775807):RI w w.heap.size (.slice (some ⟨g,0,none⟩) n c) l:=by
 subst hn;have:=h.ri 0 l.length c (by omega) hc hm
 rwa [aKf,aFe] at this
end
def Only (g:Nat) (w w':World):Prop:=w.grownBy w' (some g)
section
variable {g:Nat} {w w' w'':World}
theorem Only.refl (g:Nat) (w:World):Only g w w:=⟨rfl,rfl,rfl,aEa _,fun _ _ _=>rfl⟩
theorem Only.trans (h:Only g w w') (k:Only g w' w''):Only g w w'':=
 ⟨k.os.trans h.os,k.tape.trans h.tape,k.output.trans h.output,aEg h.size k.size,fun i hi hne=>(k.block i (aEt hi h.size) hne).trans (h.block i hi hne)⟩
theorem Only.drewN (h:Only g w w') (n:Nat):Only g w (w'.drewN n):=⟨h.os,h.tape,h.output,h.size,h.block⟩
theorem Only.drew (h:Only g w w'):Only g w w'.drew:=⟨h.os,h.tape,h.output,h.size,h.block⟩
theorem Only.set (h:Only g w w') (j:Nat) (u:Value):Only g w (w'.setCell ⟨g,j,none⟩ u):=
 h.trans ⟨rfl,rfl,rfl,by simp[World.setCell],fun i _ hne=>aFr _ _ _ _ (fun e=>hne (by rw[e]))⟩
theorem Only.cell (h:Only g w w') {p:Addr} (hp:p.block<w.heap.size) (hne:p.block≠g):w'.cell? p=w.cell? p:=
 aIt (h.block _ hp (fun e=>hne (aKh e)))
theorem Only.below (h:Only g w w') {B:Nat} (hB:B≤g) (hs:B≤w.heap.size):Below B w w':=
 ⟨h.os,h.tape,h.output,h.size,fun k hk=>h.block k (by omega) (fun e=>by have:=aKh e;omega)⟩
end
def bI (l:List Int) (j:Nat):Int:=l.getD j 0
def YA (w:World) (B g:Nat) (v:Value) (l:List Int):Prop:=
 ∃ A c,v=.slice A l.length c∧l.length≤c∧c≤9223372036854775807∧(0<l.length→∃ b off,A=some ⟨b,off,none⟩∧b<B∧b≠g∧∀ j,j<l.length→w.cell? ⟨b,off+j,none⟩=some (.int .i64 (bI l j)))
def OwnV (w:World) (base:Nat) (v:Value) (l:List Int):Prop:=w.ownsRow base 3 1 v l.length (l.map (Value.int .i64))
section
variable {w w':World} {base:Nat} {v:Value} {l:List Int}
theorem OwnV.form (h:OwnV w base v l):(v=.slice none 0 0∧l=[])∨∃ g cap,v=.slice (some ⟨g,0,none⟩) l.length cap∧l.length≤cap∧cap≤9223372036854775807∧base≤g∧Own w g l:=by
 obtain⟨_,h | ⟨g,cap,cur,hv,hb,hh,hn,hc,hs,ht⟩⟩:=h
 ·exact .inl ⟨h.1,aGh h.2⟩
 ·refine .inr ⟨g,cap,hv,hn,hc,hb,cur.toList.drop l.length,?_⟩;rw[hh,← ht,aJi,aHw,Array.toArray_toList]
theorem OwnV.ri (h:OwnV w base v l):RI w w.heap.size v l:=by
 rcases h.form with ⟨rfl,rfl⟩ | ⟨g,cap,rfl,hn,hc,_,ho⟩
 ·exact RI.nil _ _
 ·exact ho.ri0 _ _ rfl hn hc
theorem OwnV.nil (w:World) (base:Nat):OwnV w base (.slice none 0 0) []:=World.ownsRow_nil _ _ _ _
abbrev aLv:=@OwnV.nil
theorem OwnV.alloc (h:OwnV w base v l) (o:Obj):OwnV (w.alloc o) base v l:=World.ownsRow.alloc h o
theorem OwnV.drewN (h:OwnV w base v l) (n:Nat):OwnV (w.drewN n) base v l:=h
theorem OwnV.drew (h:OwnV w base v l):OwnV w.drew base v l:=h
abbrev aNj:=@OwnV.drew
theorem OwnV.step (h:OwnV w base v l) (hb:Below w.heap.size w w'):OwnV w' base v l:=by
 obtain⟨h1,h | ⟨g,cap,cur,hv,hg,hh,r⟩⟩:=h
 ·exact⟨h1,.inl h⟩
 ·refine⟨h1,.inr ⟨g,cap,cur,hv,hg,?_,r⟩⟩;rw[hb.block g (by
   rcases aFk g w.heap.size with hlt | hge
   ·exact hlt
   ·rw[aHj hge] at hh;cases hh)]
  exact hh
abbrev aLq:=@OwnV.step
end
def bC (n:Nat):Obj:=.cells ((List.replicate n (0:Int)).map (Value.int .i64)).toArray 3 (0,0)
theorem nW (w:World) (n:Nat):Own (w.alloc (bC n)) w.heap.size (List.replicate n 0):=⟨[],by rw[aId];exact aJu w _⟩
theorem VE {α:Type} (done:List α) (z x:α) (m:Nat):(done++List.replicate (m+1) z).set done.length x=done++[x]++List.replicate m z:=by
 rw[aMt _ _ (aEa _),Nat.sub_self,List.replicate_succ,List.set_cons_zero];simp
theorem bH (l m:List Nat):ni (l++m)=ni l++ni m:=by simp[ni]
theorem NT {g k m x:Nat} {d:List Nat} (ho:Own w g (ni d++List.replicate (m+1) 0)) (hd:d.length=k) (hy:y=(x:Int)) :
  Own (w.setCell ⟨g,k,none⟩ (.int .i64 y)) g (ni (d++[x])++List.replicate m 0):=by
 have h:=ho.set k y (by simp[ni];omega);rw[← hd,← aC d,VE,aC,hd] at h;rw[bH];rw[hy] at h ⊢;exact h
theorem DP {g k m:Nat} {d:List Nat} (ho:Own w g (ni d++List.replicate (m+1) 0)) (hd:d.length=k):w.cell? ⟨g,k,none⟩=some (.int .i64 0):=by
 rw[ho.cell k (by simp[ni];omega)];simp[ni,hd]
end Go.Proofs.YtencnahjgbdeoaaGreatDoor
namespace Go.Proofs.YtencnahjgbdeoaaGreatDoor.Dig
variable {d m n:Nat} {l:List Nat}
def val:List Nat→Nat
 | []=>0
 | d :: l=>d+1000000000*val l
def Small (l:List Nat):Prop:=∀ d∈l,d<1000000000
def Norm (l:List Nat):Prop:=Small l∧l.getLast?≠some 0
def bp (n:Nat):Nat:=1000000000 ^ n
theorem ZS:bp 0=1:=rfl
theorem eQ (n:Nat):bp (n+1)=1000000000*bp n:=by unfold bp;rw[aMa,aGt]
theorem AP (n:Nat):0<bp n:=Nat.pow_pos (by omega)
theorem vD (m n:Nat):bp (m+n)=bp m*bp n:=Nat.pow_add _ _ _
theorem ND (h:m≤n):bp m≤bp n:=aLo (by omega) h
theorem NC (h:m<n):bp m<bp n:=Nat.pow_lt_pow_right (by omega) h
theorem Small.nil:Small []:=fun _ h=>by cases h
abbrev aIi:=@Small.nil
theorem Small.cons (h:d<1000000000) (hl:Small l):Small (d :: l):=fun x hx=>by
 cases hx with
 | head=>exact h
 | tail _ hx=>exact hl x hx
abbrev aJn:=@Small.cons
theorem Small.head (h:Small (d :: l)):d<1000000000:=h d (aFh ..)
theorem Small.tail (h:Small (d :: l)):Small l:=fun x hx=>h x (aFo _ hx)
theorem Small.append {m:List Nat} (h:Small l) (k:Small m):Small (l++m):=fun x hx=>by
 rcases aGb.1 hx with hx | hx
 ·exact h x hx
 ·exact k x hx
theorem Small.take (h:Small l) (n:Nat):Small (l.take n):=fun x hx=>h x (List.mem_of_mem_take hx)
theorem Small.drop (h:Small l) (n:Nat):Small (l.drop n):=fun x hx=>h x (List.mem_of_mem_drop hx)
theorem bJ {i:Nat} (h:i<l.length):l.getD i 0=l[i]:=by simp[List.getD,h]
theorem Small.getD (h:Small l) (i:Nat):l.getD i 0<1000000000:=by
 by_cases hi:i<l.length
 ·rw[bJ hi];exact h _ (aEc hi)
 ·rw[aEi,aFm (by omega)];decide
theorem Small.replicate (n:Nat):Small (List.replicate n 0):=fun x hx=>by rw[(List.mem_replicate.1 hx).2];omega
theorem AS:val []=0:=rfl
theorem dK (d:Nat) (l:List Nat):val (d :: l)=d+1000000000*val l:=rfl
theorem fV (l m:List Nat):val (l++m)=val l+bp l.length*val m:=by
 induction l with
 | nil=>simp[val,bp]
 | cons d l ih=>
  rw[aKs,dK,ih,dK,aEl,eQ,aGk,Nat.add_assoc,aGe]
theorem eU (h:Small l):val l<bp l.length:=by
 induction l with
 | nil=>simp[val,bp]
 | cons d l ih=>
  have h1:=ih h.tail;have h2:=h.head;rw[dK,aEl,eQ]
  omega
theorem YL {m:List Nat} (hl:Small l) (hm:Small m) (hn:l.length=m.length) (h:val l=val m):l=m:=by
 induction l generalizing m with
 | nil=>cases m with
  | nil=>rfl
  | cons d m=>simp at hn
 | cons d l ih=>cases m with
  | nil=>simp at hn
  | cons e m=>
   rw[dK,dK] at h;have h1:=hl.head;have h2:=hm.head;have h3:d=e:=by omega
   have h4:val l=val m:=by omega
   rw[h3,ih hl.tail hm.tail (by simpa using hn) h4]
theorem dF (l:List Nat) (k:Nat) (hk:k≤l.length):val l=val (l.take k)+bp k*val (l.drop k):=by
 have h:=fV (l.take k) (l.drop k);rw[aHw,aEk,aFw hk] at h;exact h
theorem dJ (l:List Nat) (d:Nat):val (l++[d])=val l+bp l.length*d:=by
 rw[fV];simp[val]
theorem Norm.nil:Norm []:=⟨aIi,by simp⟩
theorem RT (h:Norm (l++[d])):Small l∧0<d∧d<1000000000:=by
 obtain⟨h1,h2⟩:=h;simp at h2
 exact⟨fun x hx=>h1 x (aKg _ hx),by omega,h1 d (by simp)⟩
theorem mX (h:Norm l) (hn:l≠[]):bp (l.length-1)≤val l:=by
 obtain⟨m,d,rfl⟩:∃ m d,l=m++[d]:=⟨l.dropLast,l.getLast hn,(List.dropLast_concat_getLast hn).symm⟩;obtain⟨_,hd,_⟩:=RT h;rw[dJ,aEp];simp only[aEl,aEm,aIx,aLa]
 have:=aKo (bp m.length) hd
 omega
theorem VU (h:Norm l) (hn:l≠[]):0<val l:=aEt (AP _) (mX h hn)
theorem RP (h:Norm l):val l=0↔l=[]:=
 ⟨fun h0=>by
  by_cases hn:l=[]
  ·exact hn
  ·have:=VU h hn;omega,fun h0=>by rw[h0];rfl⟩
theorem nM {m:List Nat} (hl:Norm l) (hm:Norm m) (h:l.length<m.length):val l<val m:=by
 have h1:=eU hl.1;have h2:=mX hm (fun e=>by subst e;simp at h);have h3:bp l.length≤bp (m.length-1):=ND (by omega)
 omega
theorem VV {m:List Nat} (hl:Norm l) (hm:Norm m) (h:val l=val m):l=m:=by
 rcases Nat.lt_trichotomy l.length m.length with h1 | h1 | h1
 ·have:=nM hl hm h1;omega
 ·exact YL hl.1 hm.1 h1 h
 ·have:=nM hm hl h1;omega
def dig (n:Nat):List Nat:=if h:n=0 then [] else n % 1000000000 :: dig (n / 1000000000)
termination_by n
decreasing_by omega
theorem bF:dig 0=[]:=by rw[dig];rfl
theorem mC (h:n≠0):dig n=n % 1000000000 :: dig (n / 1000000000):=by rw[dig,dif_neg h]
theorem aQ (n:Nat):val (dig n)=n:=by
 induction n using Nat.strongRecOn with
 | ind n ih=>
  by_cases h:n=0
  ·rw[h,bF];rfl
  ·rw[mC h,dK,ih _ (by omega)];omega
theorem cU:dig n=[]↔n=0:=
 ⟨fun h=>by have:=aQ n;rw[h] at this;exact this.symm,fun h=>by rw[h,bF]⟩
theorem gS (n:Nat):Norm (dig n):=by
 induction n using Nat.strongRecOn with
 | ind n ih=>
  by_cases h:n=0
  ·rw[h,bF];exact Norm.nil
  ·have h1:=ih (n / 1000000000) (by omega);rw[mC h];refine⟨aJn (aGp _ (by omega)) h1.1,?_⟩;by_cases h2:n / 1000000000=0
   ·rw[h2,bF];simp;omega
   ·have h3:dig (n / 1000000000)≠[]:=fun e=>h2 (cU.1 e)
    rw[List.getLast?_cons];have h4:=h1.2;rw[List.getLast?_eq_some_getLast h3] at h4 ⊢
    simpa using h4
theorem BO (h:Norm l):dig (val l)=l:=VV (gS _) h (aQ _)
theorem aBj (h:Norm l) (hv:val l=n):dig n=l:=by rw[← hv,BO h]
theorem aH (n:Nat):Small (dig n):=(gS n).1
theorem OP (h:dig m=dig n):m=n:=by rw[← aQ m,h,aQ]
theorem aU {k:Nat}:(dig n).length≤k↔n<bp k:=by
 constructor
 ·intro h;have h1:=eU (aH n);rw[aQ] at h1;exact aEt h1 (ND h)
 ·intro h;by_cases hn:dig n=[]
  ·rw[hn];simp
  ·have h1:=mX (gS n) hn;rw[aQ] at h1
   apply Nat.le_of_not_lt
   intro hk;have:bp k≤bp ((dig n).length-1):=ND (by omega)
   omega
theorem vC (n:Nat):n<bp (dig n).length:=aU.1 (aEa _)
theorem aL (h:m≤n):(dig m).length≤(dig n).length:=aU.2 (aKz h (vC n))
theorem bX (h:n≠0):0<(dig n).length:=by
 rw[mC h];simp
theorem ON (h:d<1000000000) (h0:d≠0):dig d=[d]:=aBj ⟨aJn h aIi,by simpa using h0⟩ (by simp[val])
theorem ZQ (h:(dig m).length<(dig n).length):m<n:=by
 have:=nM (gS m) (gS n) h
 rwa [aQ,aQ] at this
theorem UO {m:List Nat} (hl:Small l) (hn:l.length=m.length) {k:Nat} (hk:k<l.length)
  (hd:l.drop (k+1)=m.drop (k+1)) (hlt:l.getD k 0<m.getD k 0):val l<val m:=by
 rw[dF l k (by omega),dF m k (by omega),aFd hk,aFd (show k<m.length by omega),hd,dK,dK];rw[bJ hk,bJ (show k<m.length by omega)] at hlt;have h1:=eU (hl.take k);rw[aEk,aFw (by omega)] at h1;generalize val (m.drop (k+1))=z at *
 have h2:bp k*(l[k]+1000000000*z)+bp k≤bp k*(m[k]+1000000000*z):=by
  rw[← Nat.mul_succ];exact aFf _ (by omega)
 omega
end Go.Proofs.YtencnahjgbdeoaaGreatDoor.Dig
namespace Go.Proofs.YtencnahjgbdeoaaGreatDoor
open Go Go.RowKit
variable {A:Option Addr} {L U post qs r vs x y:List Nat} {T V Z a b c d f g i j k la m n rest u2 v1 v2 z:Nat} {dn l out:List Int}
theorem eI:(Tryz.prog.info? 3).map (fun i=>(i.zero,i.size,i.bytes))=some (some (.int .i64 0),1,8):=by kernel_rfl
theorem pE (n:Nat):madeCells #[Value.int .i64 0] n=((List.replicate n (0:Int)).map (Value.int .i64)).toArray:=by
 have h:=toList_madeCells_one (.int .i64 0) n;rw[← Array.toArray_toList (xs:=madeCells #[Value.int .i64 0] n),h];simp
theorem oD (n:Nat) (hn:n≤17592186044416) (w:World):(Instr.makeSlice 84 (.int .i64 (n:Int)) (.int .i64 (n:Int))).run Tryz.prog w =
  .ok (.slice (some ⟨w.heap.size,0,none⟩) n n) (w.alloc (bC n)):=by
 obtain⟨i,hi,hz,hs,hb⟩:=aGf eI;have h:=run_make (P:=Tryz.prog) w 84 3 i (.int .i64 0) Tryz.underlying84 hi hz .i64 .i64 n n (by omega) (by omega) (by rw[hb];omega) (by omega);rw[h,hs]
 show _=Result.ok _ (w.alloc (.cells _ _ _))
 rw[← pE];simp[Value.cells]
theorem OC (n:Nat) (hn:n≤17592186044416) (w:World):(Instr.makeSlice 24 (.int .i64 (n:Int)) (.int .i64 (n:Int))).run Tryz.prog w =
  .ok (.slice (some ⟨w.heap.size,0,none⟩) n n) (w.alloc (bC n)):=by
 obtain⟨i,hi,hz,hs,hb⟩:=aGf eI;have h:=run_make (P:=Tryz.prog) w 24 3 i (.int .i64 0) Tryz.underlying24 hi hz .i64 .i64 n n (by omega) (by omega) (by rw[hb];omega) (by omega);rw[h,hs]
 show _=Result.ok _ (w.alloc (.cells _ _ _))
 rw[← pE];simp[Value.cells]
open Dig
def dP:List Int→Int
 | []=>0
 | d :: l=>d+1000000000*dP l
theorem gT (n:Nat):(bp (n+1):Int)=1000000000*(bp n:Int):=by rw[eQ];omega
theorem iF (d:Int) (l:List Int):dP (d :: l)=d+1000000000*dP l:=rfl
theorem NF (l:List Nat):dP (ni l)=(val l:Int):=by
 induction l with
 | nil=>rfl
 | cons d l ih=>
  show(d:Int)+1000000000*dP (ni l)=_
  rw[ih,dK];omega
theorem kH (l m:List Int):dP (l++m)=dP l+(bp l.length:Int)*dP m:=by
 induction l with
 | nil=>simp[dP,bp]
 | cons d l ih=>
  rw[aKs,iF,ih,iF,aEl,gT,aJk,aJl];omega
theorem vX (n:Nat):dP (List.replicate n 0)=0:=by
 induction n with
 | zero=>rfl
 | succ n ih=>rw[List.replicate_succ,iF,ih];rfl
theorem fT (h:j<l.length):bI l j=l[j]:=by simp[bI,List.getD,h]
theorem US (h:l.length≤j):bI l j=0:=by simp[bI,List.getD,h]
theorem gK (l:List Nat) (j:Nat):bI (ni l) j=(l.getD j 0:Nat):=by
 by_cases h:j<l.length
 ·rw[fT (by simpa[ni] using h),JP,bJ h]
 ·rw[US (by simp[ni];omega)];simp[List.getD,aFm (show l.length≤j by omega)]
theorem kF (l:List Int) (i j:Nat) (x:Int):bI (l.set i x) j=if i=j∧j<l.length then x else bI l j:=by
 unfold bI;rw[aEi,aEi,List.getElem?_set];by_cases h:i=j
 ·subst h;by_cases h2:i<l.length
  ·simp[h2]
  ·simp[h2]
 ·simp[h]
theorem dU {x:Int} (h:i<l.length):bI (l.set i x) i=x:=by rw[kF,aEv ⟨rfl,h⟩]
theorem cN {x:Int} (h:i≠j):bI (l.set i x) j=bI l j:=by rw[kF,aEu (fun e=>h e.1)]
theorem dI {m:List Int} (h:j<l.length):bI (l++m) j=bI l j:=by
 rw[fT (by simp;omega),fT h,aGq h]
theorem fK {m:List Int} (h:l.length≤j):bI (l++m) j=bI m (j-l.length):=by
 unfold bI;rw[aEi,aEi,aIc h]
theorem eN (n j:Nat):bI (List.replicate n 0) j=0:=by
 by_cases h:j<n
 ·rw[fT (by simpa using h)];simp
 ·exact US (by simpa using h)
theorem gM (x:Int) (h:j<l.length):dP (l.set j x)=dP l+(bp j:Int)*(x-bI l j):=by
 induction l generalizing j with
 | nil=>simp at h
 | cons d l ih=>
  cases j with
  | zero=>simp[iF,bI,bp];omega
  | succ j=>
   have h2:bI (d :: l) (j+1)=bI l j:=by simp[bI]
   rw[List.set_cons_succ,iF,ih (by simpa using h),iF,h2,gT,aJk,aJl];omega
theorem dW {l:List Nat} (h:k<l.length):(val (l.take (k+1)):Int)=(val (l.take k):Int)+(bp k:Int)*(l[k]:Int):=by
 rw[aFt h,dJ,aEk,aFw (by omega),aIe,aFp]
theorem gF (h:∀ j,j<l.length→0≤bI l j∧bI l j<1000000000):∃ r:List Nat,l=ni r∧r.length=l.length∧Small r∧(val r:Int)=dP l:=by
 induction l with
 | nil=>exact⟨[],rfl,rfl,aIi,rfl⟩
 | cons d l ih=>
  obtain⟨r,hr,hl,hs,hv⟩:=ih fun j hj=>by have:=h (j+1) (by simpa using hj);simpa[bI] using this
  have h0:=h 0 (by simp);simp[bI] at h0
  refine⟨d.toNat :: r,?_,by simp[hl],aJn (by omega) hs,?_⟩
  ·simp[ni] at hr ⊢
   exact⟨by omega,hr⟩
  ·rw[dK,iF,← hv];omega
theorem OX {l:List Nat} (h:j<l.length):bI (ni l) j=(l[j]:Int):=by rw[gK,bJ h]
theorem jJ {l:List Nat} (h:Small l) (j:Nat):0≤bI (ni l) j∧bI (ni l) j<1000000000:=by
 rw[gK];have:=h.getD j;omega
theorem bT {w:Go.World} (h:Own w g l) (j:Nat) (hj:j<l.length):w.cell? ⟨g,j,none⟩=some (.int .i64 (bI l j)):=by
 rw[h.cell j hj,fT hj]
theorem iC {w:Go.World} (h:Own w g (ni r)) (n c:Nat) (hn:n=r.length) (hc:n≤c) (hm:c≤9223372036854775807):RN w w.heap.size (.slice (some ⟨g,0,none⟩) n c) r:=
 h.ri0 n c (by simp[ni,hn]) hc hm
theorem Own.only {w w':Go.World} {g':Nat} (h:Own w g' l) (ho:Only g w w') (hne:g'≠g):Own w' g' l:=h.of_block (ho.block g' h.lt (fun e=>hne (aKh e)))
theorem nV {w:Go.World} {g':Nat} (h:Own w g' (ni r)) (hne:g'≠g) (hn:n≤r.length) (hc:n≤c) (hm:c≤9223372036854775807):YA w w.heap.size g (.slice (some ⟨g',0,none⟩) n c) (ni (r.take n)):=by
 have hl:(ni (r.take n)).length=n:=by simp[ni];omega
 refine⟨some ⟨g',0,none⟩,c,by rw[hl],by rw[hl];exact hc,hm,fun _=>⟨g',0,rfl,h.lt,hne,fun j hj=>?_⟩⟩;rw[hl] at hj;rw[aIx,bT h j (by simp[ni];omega),gK,gK]
 congr 2
 simp[List.getD,hj]
theorem IM {w:Go.World} (h:Own w g (ni r)) (hn:n≤r.length) (hc:n≤c) (hm:c≤9223372036854775807):RN w w.heap.size (.slice (some ⟨g,0,none⟩) n c) (r.take n):=by
 have:=h.first n
 have e:(ni r).take n=ni (r.take n):=by simp[ni]
 rw[e] at this;exact iC this n c (by simp;omega) hc hm
def One (w:Go.World) (b:Nat) (t:Go.TypeId) (v:Go.Value):Prop:=w.heap[b]?=some (.cells #[v] t (0,0))
section
open Go
variable {w w':World} {b:Nat} {t:TypeId} {v u:Value}
theorem One.lt (h:One w b t v):b<w.heap.size:=by
 rcases aFk b w.heap.size with hlt | hge
 ·exact hlt
 ·unfold One at h;rw[aHj hge] at h;cases h
theorem One.cell (h:One w b t v):w.cell? ⟨b,0,none⟩=some v:=by
 unfold One at h;simp[World.cell?,h]
theorem One.frozen (h:One w b t v):w.frozen? ⟨b,0,none⟩=false:=by
 unfold One at h;simp[World.frozen?,h]
theorem One.new (w:World) (t:TypeId) (v:Value):One (w.alloc (.cells #[v] t)) w.heap.size t v:=aJu w _
theorem One.of_block (h:One w b t v) (hb:w'.heap[b]?=w.heap[b]?):One w' b t v:=hb.trans h
theorem One.step (h:One w b t v) (hb:Go.RowKit.Below w.heap.size w w'):One w' b t v:=h.of_block (hb.block b h.lt)
abbrev aNf:=@One.step
theorem One.alloc (h:One w b t v) (o:Obj):One (w.alloc o) b t v:=h.of_block (Go.RowKit.Below.heap_alloc w o b h.lt)
theorem One.far (h:One w b t v) {p:Addr} (hp:b≠p.block) (x:Value):One (w.setCell p x) b t v:=h.of_block (Go.RowKit.Below.heap_setCell w p x b hp)
theorem One.set (h:One w b t v) (x:Value):One (w.setCell ⟨b,0,none⟩ x) b t x:=by
 unfold One at h ⊢;simp[World.setCell,aKd,h]
end
def LR (w:World) (B:Nat) (v:Value) (neg:Bool) (ds:List Int):Prop:=∃ s,v=.agg #[.bool neg,s]∧RI w B s ds
def LV (w:World) (B:Nat) (v:Value) (z:Int):Prop:=LR w B v (decide (z<0)) (ni (dig z.natAbs))
structure Valid (neg:Bool) (ds:List Int):Prop where
 len:ds.length≤600
 small:∀ j,j<ds.length→0≤bI ds j∧bI ds j<1000000000
 top:0<ds.length→bI ds (ds.length-1)≠0
 zero:ds.length=0→neg=false
section
variable {w w':World} {B:Nat} {v:Value} {neg:Bool} {ds:List Int} {z:Int}
theorem LR.step (h:LR w w.heap.size v neg ds) (hb:Below w.heap.size w w'):LR w' w'.heap.size v neg ds:=by
 obtain⟨s,hv,hs⟩:=h;exact⟨s,hv,hs.step hb⟩
abbrev aKr:=@LR.step
theorem LV.step (h:LV w w.heap.size v z) (hb:Below w.heap.size w w'):LV w' w'.heap.size v z:=aKr h hb
abbrev aFu:=@LV.step
theorem Valid.num (h:Valid neg ds):∃ z:Int,neg=decide (z<0)∧ds=ni (dig z.natAbs)∧(dig z.natAbs).length≤600:=by
 obtain⟨r,hr,hrl,hrs,hrv⟩:=gF h.small;have hn:Norm r:=⟨hrs,fun he=>by
  have hp:0<r.length:=by
   apply aFy;intro h0
   rw[aGh h0] at he;simp at he
  have h1:=h.top (by omega);rw[hr,gK] at h1;rw[aLs] at he;rw[aC,aEi,he] at h1;exact h1 rfl⟩
 have hd:=BO hn;have hl:=h.len;cases neg with
 | false=>exact⟨(val r:Int),by simp,by rw[aEr,hd];exact hr,by rw[aEr,hd];omega⟩
 | true=>
  have hp:val r≠0:=by
   intro h0;have h1:=(RP hn).1 h0;have:=h.zero (by rw[← hrl,h1];rfl);cases this
  exact⟨-(val r:Int),by simp;omega,by rw[aKu,aEr,hd];exact hr,by rw[aKu,aEr,hd];omega⟩
theorem sG (h:(dig z.natAbs).length≤600):Valid (decide (z<0)) (ni (dig z.natAbs)):=by
 refine⟨by rw[aC];exact h,fun j _=>jJ (aH _) j,fun hp=>?_,fun h0=>?_⟩
 ·rw[aC] at hp ⊢;rw[gK];have h1:=(gS z.natAbs).2;rw[aLs] at h1;rw[aEi,aEh (by omega)] ;rw[aEh (by omega)] at h1;simp at h1 ⊢
  omega
 ·rw[aC] at h0;have:=cU.1 (aGh h0);simp;omega
end
def ZZ (neg:Bool) (ds:List Int) (c:Int):Prop:=(Valid neg ds∧c=0)∨(¬ Valid neg ds∧c=30)
theorem RI.at {w:World} {B:Nat} {v:Value} (h:RI w B v l):∃ A c,v=.slice A l.length c∧l.length≤c∧c≤9223372036854775807 ∧
  (0<l.length→∃ g off,A=some ⟨g,off,none⟩∧g<B∧∀ j,j<l.length→w.cell? ⟨g,off+j,none⟩=some (.int .i64 (bI l j))):=by
 obtain⟨A,c,hv,hc,hm,h0⟩:=h;refine⟨A,c,hv,hc,hm,fun hp=>?_⟩;obtain⟨g,off,hA,hg,hx⟩:=h0 hp;exact⟨g,off,hA,hg,fun j hj=>by rw[hx j hj,fT hj]⟩
theorem AE (w:World) (v:Value) (neg:Bool) (ds:List Int) (h:LR w w.heap.size v neg ds) :
  CV 97 #[v] w fun e _=>∃ c,e=.returned (.int .i64 c)∧ZZ neg ds c:=by
 obtain⟨s,rfl,hs⟩:=h;obtain⟨A,c,rfl,hc,hc',hA⟩:=hs.at;have hlen:ds.length≤9223372036854775807:=by omega
 replace hA:=zz hA;clear hs;have a0:Below w.heap.size w (w.alloc (.cells #[.bool neg,.slice A ds.length c] 26)):=(aDy _ _).alloc (aEa _) _;by_cases h6:600<ds.length
 ·go_enter Tryz.func97,Tryz.ntmps97
  go_wp2;go_ret;exact⟨a0,30,rfl,.inr ⟨fun hv=>by have:=hv.len;omega,rfl⟩⟩
 ·by_cases hz:ds.length=0
  ·have HZ:=zz hz;rw[hz];rw[hz] at a0;have HB:=zz a0;clear hz a0 h6 hc hlen;cases neg with
   | true=>
    go_enter Tryz.func97,Tryz.ntmps97
    go_wp2;go_ret;exact⟨HB.o,30,rfl,.inr ⟨fun hv=>absurd (hv.zero HZ.o) (by decide),rfl⟩⟩
   | false=>
    go_enter Tryz.func97,Tryz.ntmps97
    go_wp2;go_loopw [35] (fun i wr=>i=.int .i64 0∧Below w.heap.size w wr) (fun _ _=>0)
    case atStart=>exact⟨rfl,HB.o⟩
    case round=>
     obtain⟨rfl,hbw⟩:=hrel;go_wp2;go_ret;exact⟨hbw,0,rfl,.inl ⟨⟨by have:=HZ.o;omega,fun j hj=>by have:=HZ.o;omega,fun hp=>by have:=HZ.o;omega,fun _=>rfl⟩,rfl⟩⟩
  ·have hp:0<ds.length:=by omega
   have h6':(ds.length:Int)≤600:=by omega
   have hp':(0:Int)<(ds.length:Int):=by omega
   obtain⟨g,off,rfl,hg,hx⟩:=hA.o hp;have hx1:=hx (ds.length-1) (by omega);have hx1:=(a0.cell (p:=⟨g,off+(ds.length-1),none⟩) hg).trans hx1;obtain⟨t,ht⟩:=ex (bI ds (ds.length-1));rw[← ht] at hx1;have HT:=zz ht;replace hx:=zz hx;have hnz:((ds.length:Int)==0)=false:=by rw[aEo];omega
   clear ht hz h6;by_cases hlast:t=0
   ·subst hlast;go_enter Tryz.func97,Tryz.ntmps97
    go_wp2;go_ret;exact⟨a0,30,rfl,.inr ⟨fun hv=>hv.top hp HT.o.symm,rfl⟩⟩
   ·have hlast':(t==0)=false:=by rw[aEo];exact hlast
    have HL:=zz hlast;clear hlast;go_enter Tryz.func97,Tryz.ntmps97
    go_wp2;clear hx1 hlast' hnz;go_loopw [35] (fun i wr=>∃ k:Nat,k≤ds.length∧i=.int .i64 k∧Hi (∀ j,j<k→0≤bI ds j∧bI ds j<1000000000)∧Below w.heap.size w wr) (fun i _=>ds.length-(intOf i).toNat)
    case atStart=>exact⟨0,by omega,rfl,zz (fun j hj=>absurd hj (by omega)),a0⟩
    case round=>
     clear a0;obtain⟨k,hk,rfl,hd,hbw⟩:=hrel;by_cases hlk:k<ds.length
     ·have h1:=(hbw.cell (p:=⟨g,off+k,none⟩) hg).trans (hx.o k hlk);obtain⟨x,hx0⟩:=ex (bI ds k);rw[← hx0] at h1;have b0:=zz hx0;clear hx0;by_cases hneg:x<0
      ·go_wp2;go_ret;exact⟨hbw,30,rfl,.inr ⟨fun hv=>by have:=hv.small k hlk;rw[← b0.o] at this;omega,rfl⟩⟩
      ·by_cases hbig:1000000000≤x
       ·go_wp2;go_ret;exact⟨hbw,30,rfl,.inr ⟨fun hv=>by have:=hv.small k hlk;rw[← b0.o] at this;omega,rfl⟩⟩
       ·have hneg':0≤x:=by omega
        have hbig':x<1000000000:=by omega
        clear hneg hbig;go_wp2;go_roundw
        case rel=>
         refine⟨k+1,by omega,by go_num,zz (fun j hj=>?_),hbw⟩;rcases aFk j k with h | h
         ·exact hd.o j h
         ·obtain rfl:j=k:=by omega
          rw[← b0.o];exact⟨hneg',hbig'⟩
        case measure=>exact ms
     ·obtain rfl:k=ds.length:=by omega
      go_wp2;go_ret;exact⟨hbw,0,rfl,.inl ⟨⟨by omega,hd.o,fun _=>by rw[← HT.o];exact HL.o,fun h0=>by omega⟩,rfl⟩⟩
def aDk (P:Bool→Prop) (e:Ending):Prop:=∃ b,e=.returned (.bool b)∧P b
def ZW (neg:Bool) (ds:List Int) (b:Bool):Prop:=(Valid neg ds∧b=true)∨(¬ Valid neg ds∧b=false)
theorem zX (w:World) (v:Value) (neg:Bool) (ds:List Int) (h:LR w w.heap.size v neg ds) :
  CV 103 #[v] w fun e _=>aDk (ZW neg ds) e:=by
 obtain⟨s,rfl,hs⟩:=h;obtain⟨A,c,rfl,hc,hc',hA⟩:=hs.at;have hlen:ds.length≤9223372036854775807:=by omega
 replace hA:=zz hA;clear hs;have a0:Below w.heap.size w (w.alloc (.cells #[.bool neg,.slice A ds.length c] 26)):=(aDy _ _).alloc (aEa _) _;by_cases hz:ds.length=0
 ·have HZ:=zz hz;rw[hz];rw[hz] at a0;have HB:=zz a0;clear hz a0 hc hlen;go_enter Tryz.func103,Tryz.ntmps103
  go_wp2;go_ret;refine⟨HB.o,!neg,rfl,?_⟩;cases neg with
  | true=>exact .inr ⟨fun hv=>absurd (hv.zero HZ.o) (by decide),rfl⟩
  | false=>exact .inl ⟨⟨by have:=HZ.o;omega,fun j hj=>by have:=HZ.o;omega,fun hp=>by have:=HZ.o;omega,fun _=>rfl⟩,rfl⟩
 ·have hp:0<ds.length:=by omega
  have hnz:((ds.length:Int)==0)=false:=by rw[aEo];omega
  obtain⟨g,off,rfl,hg,hx⟩:=hA.o hp;replace hx:=zz hx;have HB:=zz a0;clear hz a0;go_enter Tryz.func103,Tryz.ntmps103
  go_wp2;go_loop [3] (fun i=>∃ k:Nat,k≤ds.length∧i=.int .i64 k∧Hi (∀ j,j<k→0≤bI ds j∧bI ds j<1000000000)) (fun i=>ds.length-(intOf i).toNat)
  case atStart=>exact⟨0,by omega,rfl,zz (fun j hj=>absurd hj (by omega))⟩
  case round=>
   obtain⟨k,hk,rfl,hd⟩:=hrel;by_cases hlk:k<ds.length
   ·have h1:=(HB.o.cell (p:=⟨g,off+k,none⟩) hg).trans (hx.o k hlk);obtain⟨x,hx0⟩:=ex (bI ds k);rw[← hx0] at h1;have c0:=zz hx0;clear hx0;by_cases hneg:x<0
    ·go_wp2;go_ret;exact⟨HB.o,false,rfl,.inr ⟨fun hv=>by have:=hv.small k hlk;rw[← c0.o] at this;omega,rfl⟩⟩
    ·by_cases hbig:1000000000≤x
     ·go_wp2;go_ret;exact⟨HB.o,false,rfl,.inr ⟨fun hv=>by have:=hv.small k hlk;rw[← c0.o] at this;omega,rfl⟩⟩
     ·have hneg':0≤x:=by omega
      have hbig':x<1000000000:=by omega
      clear hneg hbig;go_wp2;go_round
      case rel=>
       refine⟨k+1,by omega,by go_num,zz (fun j hj=>?_)⟩;rcases aFk j k with h | h
       ·exact hd.o j h
       ·obtain rfl:j=k:=by omega
        rw[← c0.o];exact⟨hneg',hbig'⟩
      case measure=>exact ms
   ·obtain rfl:k=ds.length:=by omega
    have h1:=(HB.o.cell (p:=⟨g,off+(ds.length-1),none⟩) hg).trans (hx.o (ds.length-1) (by omega));obtain⟨t,ht⟩:=ex (bI ds (ds.length-1));rw[← ht] at h1;have HT:=zz ht;clear ht;by_cases h6:ds.length≤600
    ·by_cases ht0:t=0
     ·subst ht0;go_wp2;go_ret;exact⟨HB.o,false,rfl,.inr ⟨fun hv=>hv.top hp HT.o.symm,rfl⟩⟩
     ·have ht1:(t != 0)=true:=by rw[aJg];exact ht0
      have f0:=zz ht0;clear ht0;go_wp2;go_ret;exact⟨HB.o,true,rfl,.inl ⟨⟨h6,hd.o,fun _=>by rw[← HT.o];exact f0.o,fun h0=>by omega⟩,rfl⟩⟩
    ·have h6':decide ((ds.length:Int)≤600)=false:=by simp;omega
     go_wp2;go_ret;exact⟨HB.o,false,rfl,.inr ⟨fun hv=>h6 hv.len,rfl⟩⟩
theorem YN {m:List Int} (hne:bI l k≠bI m k):l≠m:=by
 rintro rfl;exact hne rfl
theorem WS {m:List Int} (hl:l.length=m.length) (h:∀ j,j<l.length→bI l j=bI m j):l=m:=by
 refine aGx hl fun j h1 h2=>?_
 have:=h j h1
 rwa [fT h1,fT h2] at this
theorem tF (w:World) (va vb:Value) (na nb:Bool) (l m:List Int) (ha:LR w w.heap.size va na l) (hb:LR w w.heap.size vb nb m) :
  CV 92 #[va,vb] w fun e _=>e=.returned (.bool (decide (na=nb∧l=m))):=by
 obtain⟨s,rfl,hs⟩:=ha;obtain⟨t,rfl,ht⟩:=hb;obtain⟨A,ca,rfl,hca,hca',hA⟩:=hs.at;obtain⟨Bb,cb,rfl,hcb,hcb',hB⟩:=ht.at;have hla:l.length≤9223372036854775807:=by omega
 have hlb:m.length≤9223372036854775807:=by omega
 replace hA:=zz hA;replace hB:=zz hB;clear hs ht;have b0:Below w.heap.size w ((w.alloc (.cells #[.bool na,.slice A l.length ca] 26)).alloc (.cells #[.bool nb,.slice Bb m.length cb] 26)):=((aDy _ _).alloc (aEa _) _).alloc (by simp) _;have a0:=zz b0;clear b0;by_cases hn:na=nb
 ·subst hn;have hq:(na != na)=false:=by simp
  by_cases hne:l.length=m.length
  ·have HL:=zz hne;have hle:(l.length:Int)≤m.length:=by omega
   have hge:(m.length:Int)≤l.length:=by omega
   have hbq:((l.length:Int) != (m.length:Int))=false:=by simp;omega
   clear hne;go_enter Tryz.func92,Tryz.ntmps92
   go_wp2;go_loopw [5] (fun i wr=>∃ k nn:Nat,k≤l.length∧i=.int .i64 k∧Hi (∀ j,j<k→bI l j=bI m j)∧wr=((w.alloc (.cells #[.bool na,.slice A l.length ca] 26)).alloc (.cells #[.bool na,.slice Bb m.length cb] 26)).drewN nn) (fun i _=>l.length-(intOf i).toNat)
   case atStart=>exact⟨0,0,by omega,rfl,zz (fun j hj=>absurd hj (by omega)),rfl⟩
   case round=>
    obtain⟨k,nn,hk,rfl,hd,rfl⟩:=hrel;have c0:=zz (aS a0.o nn);by_cases hlk:k<l.length
    ·obtain⟨g,off,rfl,hg,hx⟩:=hA.o (by omega);obtain⟨g',off',rfl,hg',hx'⟩:=hB.o (by omega);have h1:=(c0.o.cell (p:=⟨g,off+k,none⟩) hg).trans (hx k hlk);have h2:=(c0.o.cell (p:=⟨g',off'+k,none⟩) hg').trans (hx' k (by omega));rw[World.cell?_drewN] at h1 h2;obtain⟨x,hx0⟩:=ex (bI l k);obtain⟨y,hy0⟩:=ex (bI m k);rw[← hx0] at h1;rw[← hy0] at h2;have d0:=zz hx0;have e0:=zz hy0;clear hx0 hy0 hx hx';go_wp2;go_quiet (fail)
     go_wp2
     ·have hxy:x≠y:=ZT (by assumption);go_ret;refine⟨by first | exact aS a0.o _ | exact aS (aS a0.o _) _,?_⟩;have hne:l≠m:=YN (by rw[← d0.o,← e0.o];exact hxy)
      first | (rw[aEe hne];rfl) | (rw[aEe (fun e=>hne e.2)];rfl)
     ·have hxy:x=y:=aBm (by assumption);have f0:=zz hxy;clear hxy;go_roundw
      case rel=>
       refine⟨k+1,_,by omega,by go_num,zz (fun j hj=>?_),rfl⟩;rcases aFk j k with h | h
       ·exact hd.o j h
       ·obtain rfl:j=k:=by omega
        rw[← d0.o,← e0.o,f0.o]
      case measure=>exact ms
    ·obtain rfl:k=l.length:=by omega
     go_wp2;go_ret;refine⟨c0.o,?_⟩;have heq:l=m:=WS HL.o hd.o
     first | (rw[aEj heq];rfl) | (rw[aEj (show True∧l=m from⟨aFi,heq⟩)];rfl)
  ·have hbq:((l.length:Int) != (m.length:Int))=true:=by simp;omega
   have g0:=zz hne;clear hne;go_enter Tryz.func92,Tryz.ntmps92
   go_wp2;go_ret;refine⟨a0.o,?_⟩;have hne:l≠m:=fun e=>g0.o (by rw[e])
   first | (rw[aEe hne];rfl) | (rw[aEe (fun e=>hne e.2)];rfl)
 ·have hq:(na != nb)=true:=by simpa using hn
  have HN:=zz hn;clear hn;go_enter Tryz.func92,Tryz.ntmps92
  go_wp2;go_ret;refine⟨a0.o,?_⟩;rw[aEe (fun e=>HN.o e.1)]
  rfl
def LB (w:World) (b:Nat) (x y:Value):Prop:=w.heap[b]?=some (.cells #[x,y] 26 (0,0))
section
variable {w w':World} {b:Nat} {x y u:Value}
theorem LB.lt (h:LB w b x y):b<w.heap.size:=by
 rcases aFk b w.heap.size with hlt | hge
 ·exact hlt
 ·unfold LB at h;rw[aHj hge] at h;cases h
theorem LB.cell0 (h:LB w b x y):w.cell? ⟨b,0,none⟩=some x:=by
 unfold LB at h;simp[World.cell?,h]
theorem LB.cell1 (h:LB w b x y):w.cell? ⟨b,1,none⟩=some y:=by
 unfold LB at h;simp[World.cell?,h]
theorem LB.frozen (h:LB w b x y) (j:Nat):w.frozen? ⟨b,j,none⟩=false:=by
 unfold LB at h;simp[World.frozen?,h]
theorem LB.new (w:World) (x y:Value):LB (w.alloc (.cells #[x,y] 26)) w.heap.size x y:=aJu w _
theorem LB.of_block (h:LB w b x y) (hb:w'.heap[b]?=w.heap[b]?):LB w' b x y:=hb.trans h
theorem LB.step (h:LB w b x y) (hb:Below w.heap.size w w'):LB w' b x y:=h.of_block (hb.block b h.lt)
abbrev aIa:=@LB.step
theorem LB.alloc (h:LB w b x y) (o:Obj):LB (w.alloc o) b x y:=h.of_block (aLy w o b h.lt)
abbrev aHq:=@LB.alloc
theorem LB.far (h:LB w b x y) {p:Addr} (hp:b≠p.block) (u:Value):LB (w.setCell p u) b x y:=h.of_block (aFr w p u b hp)
theorem LB.set0 (h:LB w b x y) (u:Value):LB (w.setCell ⟨b,0,none⟩ u) b u y:=by
 unfold LB at h ⊢;simp[World.setCell,aKd,h]
theorem LB.set1 (h:LB w b x y) (u:Value):LB (w.setCell ⟨b,1,none⟩ u) b x u:=by
 unfold LB at h ⊢;simp[World.setCell,aKd,h]
theorem LB.drew (h:LB w b x y):LB w.drew b x y:=h
abbrev aFz:=@LB.drew
theorem LB.drewN (h:LB w b x y) (n:Nat):LB (w.drewN n) b x y:=h
theorem LB.ret {fn:Func} {p k:Tmp} (hf:fn.results=#[.cell p 26,.tmp k]) (tmps:Array Value) (h:LB w b x y) (hp:tmps.getD p undef=.pointer (some ⟨b,0,none⟩)) :
  (results fn tmps).run Tryz.prog w=.ok (.tuple #[.agg #[x,y],tmps.getD k undef]) w:=by
 rw[results_cell_tmp hf,hp];simp[asAddr,run_loadVar_row w b _ 26 #[x,y] (0,0) _ h Tryz.underlying26 rfl (by kernel_rfl)]
theorem LB.ret1 {fn:Func} {p:Tmp} (hf:fn.results=#[.cell p 26]) (tmps:Array Value) (h:LB w b x y) (hp:tmps.getD p undef=.pointer (some ⟨b,0,none⟩)) :
  (results fn tmps).run Tryz.prog w=.ok (.agg #[x,y]) w:=
 aKc hf tmps w b _ #[x,y] (0,0) _ hp h Tryz.underlying26 rfl (by kernel_rfl)
theorem RI.setLB {B:Nat} {s:Value} {p:Bool} (h:RI w B s l) (hv:LB w b (.bool p) (.slice A n c)) (k:Nat) (u:Value):RI (w.setCell ⟨b,k,none⟩ u) B s l:=by
 obtain⟨A',c',hs,hc,hm,h0⟩:=h;refine⟨A',c',hs,hc,hm,fun hp=>?_⟩;obtain⟨g,off,hA,hg,hx⟩:=h0 hp;have hne:g≠b:=by
  rintro rfl;have h1:=hx 0 hp;unfold LB at hv;simp only[World.cell?,hv] at h1
  match off with
  | 0=>simp at h1
  | 1=>simp at h1
  | k+2=>simp at h1
 exact⟨g,off,hA,hg,fun j hj=>(aIt (aFr _ _ _ _ hne)).trans (hx j hj)⟩
theorem LB.put {p q:Bool} {s:Value} (h:LB w b (.bool p) (.slice A n c)) (hs:RI w w.heap.size s l) :
  LB ((w.setCell ⟨b,0,none⟩ (.bool q)).setCell ⟨b,1,none⟩ s) b (.bool q) s∧RI ((w.setCell ⟨b,0,none⟩ (.bool q)).setCell ⟨b,1,none⟩ s) ((w.setCell ⟨b,0,none⟩ (.bool q)).setCell ⟨b,1,none⟩ s).heap.size s l:=by
 refine⟨(h.set0 _).set1 _,?_⟩;have h1:=(hs.setLB h 0 (.bool q)).setLB (h.set0 _) 1 s;have e:((w.setCell ⟨b,0,none⟩ (.bool q)).setCell ⟨b,1,none⟩ s).heap.size=w.heap.size:=by simp[World.setCell]
 rw[e];exact h1
end
def YJ (w':World) (r:Int × Int) (e:Ending):Prop:=∃ v,e=.returned (.tuple #[v,.int .i64 r.2])∧LV w' w'.heap.size v r.1
theorem LV.zero (w:World) (B:Nat):LV w B (.agg #[.bool false,.slice none 0 0]) 0:=⟨_,rfl,by rw[show(0:Int).natAbs=0 from rfl,Dig.bF];exact RI.nil _ _⟩
theorem OJ {fn:Func} {p k:Tmp} (hf:fn.results=#[.cell p 26,.tmp k]) {W w:World} {B b:Nat} {q0:Bool} {A:Option Addr} {n c:Nat} (hL:LB w b (.bool q0) (.slice A n c)) (hb:Below B W w) (hB:B≤b)
  {q:Bool} {s:Value} {z e:Int} {r:Int × Int} {tmps:Array Value} (hs:RI w w.heap.size s (ni (Dig.dig z.natAbs))) (hq:q=decide (z<0)) (hr:r=(z,e)) (hp:tmps.getD p undef=.pointer (some ⟨b,0,none⟩)) (hk:tmps.getD k undef=.int .i64 e) :
  bodyPost Tryz.prog fn (fun e w'=>Below B W w'∧YJ w' r e) .ret ⟨tmps,[]⟩ ((w.setCell ⟨b,0,none⟩ (.bool q)).setCell ⟨b,1,none⟩ s):=by
 obtain⟨h1,h2⟩:=hL.put (q:=q) hs;refine aFv (LB.ret hf tmps h1 hp) rfl ⟨(hb.setCell (by simpa using hB) _).setCell (by simpa using hB) _,.agg #[.bool q,s],?_,?_⟩
 ·rw[hk,hr]
 ·rw[hr,← show z=(z,e).1 from rfl];exact⟨s,by rw[hq],h2⟩
theorem rG {fn:Func} {p k:Tmp} (hf:fn.results=#[.cell p 26,.tmp k]) {W w:World} {B b:Nat} {q0:Bool} {A:Option Addr} {n c:Nat} (hL:LB w b (.bool q0) (.slice A n c)) (hb:Below B W w) (hB:B≤b)
  {e:Int} {r:Int × Int} {tmps:Array Value} (hr:r=(0,e)) (hp:tmps.getD p undef=.pointer (some ⟨b,0,none⟩)) (hk:tmps.getD k undef=.int .i64 e) :
  bodyPost Tryz.prog fn (fun e w'=>Below B W w'∧YJ w' r e) .ret ⟨tmps,[]⟩ ((w.setCell ⟨b,0,none⟩ (.bool false)).setCell ⟨b,1,none⟩ (.slice none 0 0)):=
 OJ hf hL hb hB (z:=0) (by rw[show(0:Int).natAbs=0 from rfl,Dig.bF];exact RI.nil _ _) (by decide) hr hp hk
theorem WU {fn:Func} {p k:Tmp} (hf:fn.results=#[.cell p 26,.tmp k]) {W w:World} {B b:Nat} (hL:LB w b (.bool false) (.slice none 0 0)) (hb:Below B W w)
  {e:Int} {r:Int × Int} {tmps:Array Value} (hr:r=(0,e)) (hp:tmps.getD p undef=.pointer (some ⟨b,0,none⟩)) (hk:tmps.getD k undef=.int .i64 e) :
  bodyPost Tryz.prog fn (fun e w'=>Below B W w'∧YJ w' r e) .ret ⟨tmps,[]⟩ w:=by
 refine aFv (LB.ret hf tmps hL hp) rfl ⟨hb,.agg #[.bool false,.slice none 0 0],?_,?_⟩
 ·rw[hk,hr]
 ·rw[hr];exact LV.zero _ _
theorem MH (w:World) (v:Value) (l:List Int) (h:RI w w.heap.size v l) (hl:l.length≤10000000000) :
  CV 87 #[v] w fun e w'=>∃ v',e=.returned v'∧OwnV w' w.heap.size v' l:=by
 obtain⟨A,c,rfl,hc,hc',hA⟩:=h;obtain⟨i0,hi,hz0,hz1,hz2⟩:=aGf eI;have q22:∀ (w:World) (a:Option Addr) (n c n' c':Nat),(binOp .eql 24 (.slice a n c) (.slice none n' c')).run Tryz.prog w=.ok (.bool a.isNone) w:=fun w a n c n' c'=>Lib.run_eql_slice_nil w _ _ a n c n' c' Tryz.underlying24
 cases A with
 | none=>
  have h0:l=[]:=by
   rcases aGg l.length with h | h
   ·exact aGh h
   ·obtain⟨g,off,h,_⟩:=hA h;cases h
  subst h0;go_enter Tryz.func87,Tryz.ntmps87
  go_wp2;go_ret;exact⟨aDy _ _,_,rfl,aLv _ _⟩
 | some ad=>
  have HA:∀ j u,(l.map (Value.int .i64))[j]?=some u→w.cell? (ad.add j)=some u:=by
   intro j u hj;have hjl:j<l.length:=by have:=(aGu.1 hj).1;simpa using this
   obtain⟨g,off,he,_,hx⟩:=hA (by omega);obtain rfl:=aKh he;rw[List.getElem?_map,aEh hjl] at hj;rw[Addr.add_lit,hx j hjl];exact hj
  have HA:=zz HA;clear hA;go_enter Tryz.func87,Tryz.ntmps87
  go_wp2_with (at_builtin;refine wpList_append_own _ rfl _ _ 24 rfl w.heap.size 3 i0 (.int .i64 0) 1 8 Tryz.underlying24 hi hz0 hz1 hz2 rfl (by decide) _ _ _ rfl (World.ownsRow_made w #[] 0 (aEa _) (aEy _) rfl) ad l.length c (l.map (Value.int .i64)) rfl ?qc1 ?qc2 ?qc3 ?qc4 ?qc5 ?qc6 ?_)
  case qc1=>simp
  case qc2=>intro j u hj;exact Lib.cell?_alloc_some _ (HA.o j u hj)
  case qc3=>intro u hu;obtain⟨x,_,rfl⟩:=aFc.1 hu;rfl
  case qc4=>unfold maxLen;omega
  case qc5=>omega
  case qc6=>simp
  intro v' w1 hown hgrow hnil;go_wp2;go_ret;exact⟨((aDy _ w).alloc (aEa _) _).grown hgrow (by simp) (by intro k hk;simp[Value.ownBlock] at hk;omega),v',rfl,by simpa[OwnV] using hown⟩
theorem wZ (w:World) (v:Value) (l:List Int) (h:RI w w.heap.size v l) (hl:l.length≤10000000000) :
  CV 101 #[v] w fun e w'=>∃ v',e=.returned v'∧OwnV w' w.heap.size v' l:=by
 obtain⟨A,c,rfl,hc,hc',hA⟩:=h;obtain⟨i0,hi,hz0,hz1,hz2⟩:=aGf eI;have q22:∀ (w:World) (a:Option Addr) (n c n' c':Nat),(binOp .eql 84 (.slice a n c) (.slice none n' c')).run Tryz.prog w=.ok (.bool a.isNone) w:=fun w a n c n' c'=>Lib.run_eql_slice_nil w _ _ a n c n' c' Tryz.underlying84
 cases A with
 | none=>
  have h0:l=[]:=by
   rcases aGg l.length with h | h
   ·exact aGh h
   ·obtain⟨g,off,h,_⟩:=hA h;cases h
  subst h0;go_enter Tryz.func101,Tryz.ntmps101
  go_wp2;go_ret;exact⟨aDy _ _,_,rfl,aLv _ _⟩
 | some ad=>
  have HA:∀ j u,(l.map (Value.int .i64))[j]?=some u→w.cell? (ad.add j)=some u:=by
   intro j u hj;have hjl:j<l.length:=by have:=(aGu.1 hj).1;simpa using this
   obtain⟨g,off,he,_,hx⟩:=hA (by omega);obtain rfl:=aKh he;rw[List.getElem?_map,aEh hjl] at hj;rw[Addr.add_lit,hx j hjl];exact hj
  have HA:=zz HA;clear hA;go_enter Tryz.func101,Tryz.ntmps101
  go_wp2_with (at_builtin;refine wpList_append_own _ rfl _ _ 84 rfl w.heap.size 3 i0 (.int .i64 0) 1 8 Tryz.underlying84 hi hz0 hz1 hz2 rfl (by decide) _ _ _ rfl (World.ownsRow_made w #[] 0 (aEa _) (aEy _) rfl) ad l.length c (l.map (Value.int .i64)) rfl ?qc1 ?qc2 ?qc3 ?qc4 ?qc5 ?qc6 ?_)
  case qc1=>simp
  case qc2=>intro j u hj;exact Lib.cell?_alloc_some _ (HA.o j u hj)
  case qc3=>intro u hu;obtain⟨x,_,rfl⟩:=aFc.1 hu;rfl
  case qc4=>unfold maxLen;omega
  case qc5=>omega
  case qc6=>simp
  intro v' w1 hown hgrow hnil;go_wp2;go_ret;exact⟨((aDy _ w).alloc (aEa _) _).grown hgrow (by simp) (by intro k hk;simp[Value.ownBlock] at hk;omega),v',rfl,by simpa[OwnV] using hown⟩
noncomputable def kB (neg:Bool) (ds:List Int):Option Int:=open Classical in if h:Valid neg ds then some h.num.choose else none
theorem fC {neg:Bool} {ds:List Int} (h:Valid neg ds):∃ z,kB neg ds=some z∧neg=decide (z<0)∧ds=ni (dig z.natAbs)∧(dig z.natAbs).length≤600:=by
 refine⟨h.num.choose,?_,h.num.choose_spec⟩;unfold kB;rw[dif_pos h]
theorem sR {neg:Bool} {ds:List Int} (h:¬ Valid neg ds):kB neg ds=none:=by
 unfold kB;rw[dif_neg h]
theorem aBf {a b:List Nat} (h:ni a=ni b):a=b:=by
 have h1:=aIl (List.map Int.toNat) h
 simpa[ni,Function.comp_def] using h1
theorem UI {z y:Int} (h1:decide (z<0)=decide (y<0)) (h2:ni (dig z.natAbs)=ni (dig y.natAbs)):z=y:=by
 have h3:=aBf h2;have h4:z.natAbs=y.natAbs:=by rw[← aQ z.natAbs,h3,aQ]
 have h5:z<0↔y<0:=by simpa using h1
 omega
theorem oI {z:Int} (h:(dig z.natAbs).length≤600):kB (decide (z<0)) (ni (dig z.natAbs))=some z:=by
 obtain⟨y,h1,h2,h3,_⟩:=fC (sG h);rw[h1,UI h2 h3]
def A1 (f:Int→Int × Int):Option Int→Int × Int
 | some a=>f a
 | none=>(0,30)
def A2 (f:Int→Int→Int × Int):Option Int→Option Int→Int × Int
 | some a,some b=>f a b
 | _,_=>(0,30)
structure PlusA (x y:List Nat) (k:Nat) (out:List Int):Prop where
 len:out.length=x.length+1
 sum:dP out=(val x:Int)+(val (y.take k):Int)
 lo:∀ j,0≤bI out j
 hi:∀ j,bI out j≤1999999998
 rest:∀ j,k≤j→bI out j<1000000000
 last:bI out x.length=0
theorem PlusA.start (hx:Small x):PlusA x y 0 (ni x++[0]):=by
 have ha:∀ j,0≤bI (ni x++[0]) j∧bI (ni x++[0]) j<1000000000:=fun j=>by
  by_cases h:j<(ni x).length
  ·rw[dI h];exact jJ hx j
  ·rw[fK (by omega)];have:bI [0] (j-(ni x).length)=0:=eN 1 _
   omega
 refine⟨by simp[ni],?_,fun j=>(ha j).1,fun j=>by have:=(ha j).2;omega,fun j _=>(ha j).2,?_⟩
 ·rw[kH,NF];simp[dP,val]
 ·rw[fK (by simp[ni])];simp[ni,bI]
theorem PlusA.step (h:PlusA x y k out) (hy:Small y) (hk:k<y.length) (hxy:y.length≤x.length) :
  PlusA x y (k+1) (out.set k (bI out k+(y[k]:Int))):=by
 have hyk:y[k]<1000000000:=hy _ (aEc hk);have hko:k<out.length:=by rw[h.len];omega
 have h0:=h.lo k;have h1:=h.rest k (aEa _);refine⟨by rw[aEz];exact h.len,?_,fun j=>?_,fun j=>?_,fun j hj=>?_,?_⟩
 ·rw[gM _ hko,h.sum,dW hk,show bI out k+(y[k]:Int)-bI out k=(y[k]:Int) by omega];omega
 ·rw[kF];split <;> have:=h.lo j <;> omega
 ·rw[kF];split <;> have:=h.hi j <;> omega
 ·rw[cN (by omega)];exact h.rest j (by omega)
 ·rw[cN (by omega)];exact h.last
structure PlusB (x y:List Nat) (k:Nat) (out:List Int):Prop where
 len:out.length=x.length+1
 sum:dP out=(val x:Int)+(val y:Int)
 lo:∀ j,0≤bI out j
 done:∀ j,j<k→bI out j<1000000000
 here:bI out k≤1999999999
 hi:∀ j,k<j→bI out j≤1999999998
 last:bI out x.length≤1
 last0:k<x.length→bI out x.length=0
theorem PlusB.start (h:PlusA x y y.length out):PlusB x y 0 out:=by
 refine⟨h.len,?_,h.lo,fun j hj=>absurd hj (by omega),?_,fun j _=>h.hi j,?_,fun _=>h.last⟩
 ·have:=h.sum;rwa [aFe] at this
 ·have:=h.hi 0;omega
 ·have:=h.last;omega
theorem PlusB.keep (h:PlusB x y k out) (hk:k<x.length) (hlt:bI out k<1000000000):PlusB x y (k+1) out:=
 ⟨h.len,h.sum,h.lo,fun j hj=>by
  rcases aFk j k with h1 | h1
  ·exact h.done j h1
  ·obtain rfl:j=k:=by omega
   exact hlt,by have:=h.hi (k+1) (by omega);omega,fun j hj=>h.hi j (by omega),h.last,fun _=>h.last0 hk⟩
theorem PlusB.carry (h:PlusB x y k out) (hk:k<x.length) (hge:1000000000≤bI out k) :
  PlusB x y (k+1) ((out.set k (bI out k-1000000000)).set (k+1) (bI out (k+1)+1)):=by
 have hko:k<out.length:=by rw[h.len];omega
 have a0:k+1<out.length:=by rw[h.len];omega
 have h0:=h.here;have h1:=h.hi (k+1) (by omega);have h2:=h.lo (k+1);have e1:bI (out.set k (bI out k-1000000000)) (k+1)=bI out (k+1):=cN (by omega);have hat:∀ j,bI ((out.set k (bI out k-1000000000)).set (k+1) (bI out (k+1)+1)) j=if j=k+1 then bI out (k+1)+1 else if j=k then bI out k-1000000000 else bI out j:=fun j=>by
  by_cases ha:j=k+1
  ·subst ha;rw[aEv rfl,dU (by simpa using a0)]
  ·rw[aEu ha,cN (by omega)];by_cases hb:j=k
   ·subst hb;rw[aEv rfl,dU hko]
   ·rw[aEu hb,cN (by omega)]
 refine⟨by rw[aEz,aEz];exact h.len,?_,fun j=>?_,fun j hj=>?_,?_,fun j hj=>?_,?_,fun hlt=>?_⟩
 ·rw[gM _ (by simpa using a0),gM _ hko,e1,h.sum,gT];rw[show bI out (k+1)+1-bI out (k+1)=1 by omega,show bI out k-1000000000-bI out k=-1000000000 by omega]
  omega
 ·rw[hat];split
  ·omega
  ·split
   ·omega
   ·exact h.lo j
 ·rw[hat,aEu (by omega)];split
  ·omega
  ·exact h.done j (by omega)
 ·rw[hat,aEv rfl];omega
 ·rw[hat,aEu (by omega),aEu (by omega)];exact h.hi j (by omega)
 ·have hz:=h.last0 hk;rw[hat];split
  ·rename_i he;rw[← he,hz];omega
  ·split
   ·omega
   ·exact h.last
 ·rw[hat,aEu (by omega),aEu (by omega)];exact h.last0 hk
theorem PlusB.fin (h:PlusB x y x.length out):∃ r:List Nat,out=ni r∧r.length=x.length+1∧Small r∧val r=val x+val y:=by
 obtain⟨r,h1,h2,h3,h4⟩:=gF (l:=out) fun j hj=>⟨h.lo j,by
  rcases aFk j x.length with hl | hl
  ·exact h.done j hl
  ·obtain rfl:j=x.length:=by have:=h.len;omega
   have:=h.last;omega⟩
 exact⟨r,h1,by rw[h2,h.len],h3,by have:=h.sum;omega⟩
structure MinusA (x y:List Nat) (k:Nat) (out:List Int):Prop where
 len:out.length=x.length
 sum:dP out=(val x:Int)-(val (y.take k):Int)
 lo:∀ j,-999999999≤bI out j
 hi:∀ j,bI out j<1000000000
 rest:∀ j,k≤j→0≤bI out j
theorem MinusA.start (hx:Small x):MinusA x y 0 (ni x):=
 ⟨by simp[ni],by rw[NF];simp[val],fun j=>by have:=jJ hx j;omega,fun j=>(jJ hx j).2,fun j _=>(jJ hx j).1⟩
theorem MinusA.step (h:MinusA x y k out) (hy:Small y) (hk:k<y.length) (hxy:y.length≤x.length) :
  MinusA x y (k+1) (out.set k (bI out k-(y[k]:Int))):=by
 have hyk:y[k]<1000000000:=hy _ (aEc hk);have hko:k<out.length:=by rw[h.len];omega
 have h0:=h.rest k (aEa _);have h1:=h.hi k;refine⟨by rw[aEz];exact h.len,?_,fun j=>?_,fun j=>?_,fun j hj=>?_⟩
 ·rw[gM _ hko,h.sum,dW hk,show bI out k-(y[k]:Int)-bI out k=-(y[k]:Int) by omega,Int.mul_neg];omega
 ·rw[kF];split <;> have:=h.lo j <;> omega
 ·rw[kF];split <;> have:=h.hi j <;> omega
 ·rw[cN (by omega)];exact h.rest j (by omega)
structure MinusB (z:Nat) (n k:Nat) (out:List Int):Prop where
 len:out.length=n
 sum:dP out=(z:Int)
 done:∀ j,j<k→0≤bI out j
 lo:∀ j,-1000000000≤bI out j
 lo':∀ j,k<j→-999999999≤bI out j
 hi:∀ j,bI out j<1000000000
theorem MinusB.start (h:MinusA x y y.length out) (hxy:val y≤val x):MinusB (val x-val y) x.length 0 out:=
 ⟨h.len,by have:=h.sum;rw[aFe] at this;omega,fun j hj=>absurd hj (by omega),fun j=>by have:=h.lo j;omega,fun j _=>h.lo j,h.hi⟩
theorem MinusB.keep (h:MinusB z n k out) (h0:0≤bI out k):MinusB z n (k+1) out:=
 ⟨h.len,h.sum,fun j hj=>by
  rcases aFk j k with h1 | h1
  ·exact h.done j h1
  ·obtain rfl:j=k:=by omega
   exact h0,h.lo,fun j hj=>h.lo' j (by omega),h.hi⟩
theorem KC (l:List Int) (k:Nat) (hk:k≤l.length):dP l=dP (l.take k)+(bp k:Int)*dP (l.drop k):=by
 have h:=kH (l.take k) (l.drop k);rw[aHw,aEk,aFw hk] at h;exact h
theorem XK (h:j<k):bI (l.take k) j=bI l j:=by
 unfold bI;rw[aEi,aEi,aLc,aEv h]
theorem AU (h:∀ j,j<l.length→0≤bI l j∧bI l j<1000000000):0≤dP l∧dP l<(bp l.length:Int):=by
 obtain⟨r,_,h2,h3,h4⟩:=gF h;have:=eU h3;rw[h2] at this
 omega
theorem MinusB.room (h:MinusB z n k out) (hk:k<n) (h0:bI out k<0):k+1<n:=by
 apply aJp
 intro hn;have hl:=h.len;have h1:=KC out k (by omega);have h2:out.drop k=[bI out k]:=by
  rw[aFd (by omega),aGa (by omega),fT (by omega)]
 have h3:=AU (l:=out.take k) fun j hj=>by
  have hjk:j<k:=by simp at hj;omega
  rw[XK hjk];exact⟨h.done j hjk,h.hi j⟩
 rw[aEk,aFw (by omega)] at h3;rw[h2,h.sum] at h1;simp only[dP,Int.mul_zero,Int.add_zero] at h1
 have h4:(bp k:Int)*bI out k≤(bp k:Int)*(-1):=aJs (by omega) (by omega)
 omega
theorem MinusB.borrow (h:MinusB z n k out) (hk:k+1<n) (h0:bI out k<0) :
  MinusB z n (k+1) ((out.set k (bI out k+1000000000)).set (k+1) (bI out (k+1)-1)):=by
 have hko:k<out.length:=by rw[h.len];omega
 have a0:k+1<out.length:=by rw[h.len];omega
 have h1:=h.lo k;have h2:=h.lo' (k+1) (by omega);have h3:=h.hi (k+1);have e1:bI (out.set k (bI out k+1000000000)) (k+1)=bI out (k+1):=cN (by omega);have hat:∀ j,bI ((out.set k (bI out k+1000000000)).set (k+1) (bI out (k+1)-1)) j=if j=k+1 then bI out (k+1)-1 else if j=k then bI out k+1000000000 else bI out j:=fun j=>by
  by_cases ha:j=k+1
  ·subst ha;rw[aEv rfl,dU (by simpa using a0)]
  ·rw[aEu ha,cN (by omega)];by_cases hb:j=k
   ·subst hb;rw[aEv rfl,dU hko]
   ·rw[aEu hb,cN (by omega)]
 refine⟨by rw[aEz,aEz];exact h.len,?_,fun j hj=>?_,fun j=>?_,fun j hj=>?_,fun j=>?_⟩
 ·rw[gM _ (by simpa using a0),gM _ hko,e1,h.sum,gT];rw[show bI out (k+1)-1-bI out (k+1)=-1 by omega,show bI out k+1000000000-bI out k=1000000000 by omega]
  omega
 ·rw[hat,aEu (by omega)];split
  ·omega
  ·exact h.done j (by omega)
 ·rw[hat];split
  ·omega
  ·split
   ·omega
   ·exact h.lo j
 ·rw[hat,aEu (by omega),aEu (by omega)];exact h.lo' j (by omega)
 ·rw[hat];split
  ·omega
  ·split
   ·omega
   ·exact h.hi j
theorem MinusB.fin (h:MinusB z n n out):∃ r:List Nat,out=ni r∧r.length=n∧Small r∧val r=z:=by
 obtain⟨r,h1,h2,h3,h4⟩:=gF (l:=out) fun j hj=>⟨h.done j (by have:=h.len;omega),h.hi j⟩
 exact⟨r,h1,by rw[h2,h.len],h3,by have:=h.sum;omega⟩
structure TimesA (x y:List Nat) (i k:Nat) (c:Nat) (out:List Int):Prop where
 len:out.length=x.length+y.length
 sum:dP out+(bp (i+k):Int)*(c:Int)=(val (x.take i):Int)*(val y:Int)+(bp i:Int)*((x.getD i 0:Nat):Int)*(val (y.take k):Int)
 dig:∀ j,0≤bI out j∧bI out j<1000000000
 zero:∀ j,i+y.length≤j→bI out j=0
theorem TimesA.start (x y:List Nat):TimesA x y 0 0 0 (List.replicate (x.length+y.length) 0):=
 ⟨by simp,by rw[vX];simp[val],fun j=>by rw[eN];omega,fun j _=>eN _ _⟩
theorem TimesA.step (h:TimesA x y i k c out) (hi:i<x.length) (hk:k<y.length) (o:Nat) (ho:bI out (i+k)=(o:Int)) :
  TimesA x y i (k+1) ((o+x[i]*y[k]+c) / 1000000000) (out.set (i+k) (((o+x[i]*y[k]+c) % 1000000000:Nat):Int)):=by
 have hko:i+k<out.length:=by rw[h.len];omega
 refine⟨by rw[aEz];exact h.len,?_,fun j=>?_,fun j hj=>?_⟩
 ·rw[gM _ hko,ho,dW hk,← Nat.add_assoc,gT];have hs:=h.sum;have hm:=aHv (o+x[i]*y[k]+c) 1000000000;have hx:x.getD i 0=x[i]:=bJ hi;rw[hx] at hs ⊢;generalize (o+x[i]*y[k]+c) / 1000000000=q at *
  generalize (o+x[i]*y[k]+c) % 1000000000=r at *
  have hm':1000000000*(q:Int)+(r:Int)=(o:Int)+(x[i]:Int)*(y[k]:Int)+(c:Int):=by
   rw[← aFp (x[i]) (y[k])];omega
  have hb:(bp (i+k):Int)=(bp i:Int)*(bp k:Int):=by rw[vD,aFp]
  have h3:(bp (i+k):Int)*(1000000000*(q:Int)+(r:Int))=(bp (i+k):Int)*((o:Int)+(x[i]:Int)*(y[k]:Int)+(c:Int)):=by rw[hm']
  have h4:(bp i:Int)*(x[i]:Int)*((bp k:Int)*(y[k]:Int))=(bp (i+k):Int)*((x[i]:Int)*(y[k]:Int)):=by rw[hb];ac_rfl
  rw[aJk _ (val (y.take k):Int),h4];rw[aJk,aJk,aJk] at h3;rw[Int.mul_sub];have h5:(1000000000:Int)*(bp (i+k):Int)*(q:Int)=(bp (i+k):Int)*(1000000000*(q:Int)):=by ac_rfl
  rw[h5]
  omega
 ·rw[kF];split
  ·have:=aGp (o+x[i]*y[k]+c) (show 0<1000000000 by omega);omega
  ·exact h.dig j
 ·rw[cN (by omega)];exact h.zero j hj
theorem TimesA.next (h:TimesA x y i y.length c out) (hi:i<x.length) (hc:c<1000000000) :
  TimesA x y (i+1) 0 0 (out.set (i+y.length) (c:Int)):=by
 have hko:i+y.length<out.length:=by rw[h.len];omega
 refine⟨by rw[aEz];exact h.len,?_,fun j=>?_,fun j hj=>?_⟩
 ·have hs:=h.sum;rw[gM _ hko,h.zero _ (aEa _),dW hi];rw[aFe,bJ hi] at hs;rw[Int.add_mul];simp only[List.take_zero,AS,Int.natCast_zero,Int.mul_zero,Int.sub_zero,Int.add_zero]
  omega
 ·rw[kF];split
  ·omega
  ·exact h.dig j
 ·rw[cN (by omega)];exact h.zero j (by omega)
theorem TimesA.fin (h:TimesA x y x.length 0 0 out):∃ r:List Nat,out=ni r∧r.length=x.length+y.length∧Small r∧val r=val x*val y:=by
 obtain⟨r,h1,h2,h3,h4⟩:=gF (l:=out) fun j _=>h.dig j
 refine⟨r,h1,by rw[h2,h.len],h3,?_⟩;have hs:=h.sum;rw[aFe] at hs;simp only[List.take_zero,AS,Int.natCast_zero,Int.mul_zero,Int.add_zero] at hs
 have:((val r:Nat):Int)=((val x*val y:Nat):Int):=by rw[aFp];omega
 omega
theorem kC (k d:Nat) (q:List Nat):(List.replicate (k+1) (0:Int)++ni q).set k (d:Int)=List.replicate k 0++ni (d :: q):=by
 rw[List.set_append_left _ _ (by simp),List.replicate_succ',aMt _ _ (by simp)];simp[ni]
theorem yW {l q:List Nat} (hi:i<l.length) (hn:0<n) (hl:Small l) (hv:val (l.drop (i+1))=val q*n+rest) (hr:rest<n) (hs:Small q) :
  val (l.drop i)=val ((rest*1000000000+l[i]) / n :: q)*n+(rest*1000000000+l[i]) % n∧Small ((rest*1000000000+l[i]) / n :: q):=by
 have hli:l[i]<1000000000:=hl _ (aEc hi)
 constructor
 ·rw[aFd hi,dK,hv,dK];have h:=aHv (rest*1000000000+l[i]) n;generalize (rest*1000000000+l[i]) / n=a at *
  generalize (rest*1000000000+l[i]) % n=b at *
  rw[aGl,aGt a n,aGe 1000000000];generalize n*a=z at *
  generalize val q*n=y at *
  omega
 ·refine aJn ?_ hs;rw[Nat.div_lt_iff_lt_mul hn];have:(rest+1)*1000000000≤n*1000000000:=aEs _ hr
  omega
def SmallI (l:List Int):Prop:=∀ x∈l,0≤x∧x<1000000000
theorem SmallI.nil:SmallI []:=fun _ h=>by cases h
theorem SmallI.snoc {x:Int} (h:SmallI l) (h0:0≤x) (h1:x<1000000000):SmallI (l++[x]):=fun y hy=>by
 rcases aGb.1 hy with hy | hy
 ·exact h y hy
 ·rw[aHt.1 hy];exact⟨h0,h1⟩
theorem SmallI.toNi (h:SmallI l):∃ r:List Nat,l=ni r∧r.length=l.length∧Small r∧(val r:Int)=dP l:=
 gF fun j hj=>by rw[fT hj];exact h _ (aEc hj)
theorem sH (l:List Int) (x:Int):dP (l++[x])=dP l+(bp l.length:Int)*x:=by rw[kH];simp[dP]
theorem qQ {pre t post:List Int} {x y:Int} (hk:dn.length=k):(pre++((dn++y :: t)++post)).set (pre.length+k) x=pre++((dn++[x]++t)++post):=by
 rw[aMt _ _ (by omega),List.append_assoc dn,aMt _ _ (by omega)];rw[show pre.length+k-pre.length-dn.length=0 by omega,aKs,List.set_cons_zero];simp
theorem uI {pre t post:List Int} {y:Int} (hk:dn.length=k):bI (pre++((dn++y :: t)++post)) (pre.length+k)=y:=by
 rw[fK (by omega),List.append_assoc,fK (by omega),show pre.length+k-pre.length-dn.length=0 by omega]
 rfl
theorem oN (h:k<U.length):ni (U.drop k)=(U[k]:Int) :: ni (U.drop (k+1)):=by
 rw[aFd h];rfl
theorem SI {V:List Nat} {br n t:Int} (hU:k<U.length) (hV:k<V.length) (hd:dn.length=k) (hs:SmallI dn)
  (hv:dP dn-(bp k:Int)*br=(val (U.take k):Int)-(d:Int)*(val (V.take k):Int))
  (hn:n=(U[k]:Int)-((V[k]:Int)*(d:Int)) % 1000000000-br+t*1000000000) (h0:0≤n) (h1:n<1000000000) :
  (dn++[n]).length=k+1∧SmallI (dn++[n])∧dP (dn++[n])-(bp (k+1):Int)*(((V[k]:Int)*(d:Int)) / 1000000000+t)=(val (U.take (k+1)):Int)-(d:Int)*(val (V.take (k+1)):Int):=by
 refine⟨by simp[hd],hs.snoc h0 h1,?_⟩;rw[sH,hd,dW hU,dW hV,gT];have hm:=Int.mul_ediv_add_emod ((V[k]:Int)*(d:Int)) 1000000000;generalize ((V[k]:Int)*(d:Int)) / 1000000000=q at *
 generalize ((V[k]:Int)*(d:Int)) % 1000000000=r at *
 have e1:(d:Int)*((val (V.take k):Int)+(bp k:Int)*(V[k]:Int))=(d:Int)*(val (V.take k):Int)+(bp k:Int)*(1000000000*q+r):=by
  rw[aJk,hm];congr 1;ac_rfl
 rw[e1,hn];have e2:(bp k:Int)*((U[k]:Int)-r-br+t*1000000000)=(bp k:Int)*(U[k]:Int)-(bp k:Int)*r-(bp k:Int)*br+(bp k:Int)*t*1000000000:=by
  rw[aJk,Int.mul_sub,Int.mul_sub,aJl]
 have e3:1000000000*(bp k:Int)*(q+t)=(bp k:Int)*q*1000000000+(bp k:Int)*t*1000000000:=by
  rw[aJk];congr 1 <;> ac_rfl
 have e4:(bp k:Int)*(1000000000*q+r)=(bp k:Int)*q*1000000000+(bp k:Int)*r:=by
  rw[aJk];congr 1;ac_rfl
 rw[e2,e3,e4]
 omega
theorem SJ {V:List Nat} {br:Int} (hU:U.length=n+1) (hV:V.length=n) (hd:dn.length=n) (hs:SmallI dn)
  (hv:dP dn-(bp n:Int)*br=(val (U.take n):Int)-(d:Int)*(val (V.take n):Int)) (hlow:(d:Int)*(val V:Int)≤(val U:Int)+(bp n:Int)) :
  dP dn+(bp n:Int)*((U[n]:Int)-br)=(val U:Int)-(d:Int)*(val V:Int)∧-1≤(U[n]:Int)-br∧((U[n]:Int)-br<0↔(val U:Int)<(d:Int)*(val V:Int)):=by
 have e:(val U:Int)=(val (U.take n):Int)+(bp n:Int)*(U[n]:Int):=by
  have:=dW (l:=U) (k:=n) (by omega)
  rwa [← hU,aFe] at this
 have e2:V.take n=V:=by rw[← hV,aFe]
 rw[e2] at hv;have h1:dP dn+(bp n:Int)*((U[n]:Int)-br)=(val U:Int)-(d:Int)*(val V:Int):=by rw[e,Int.mul_sub];omega
 have h2:=AU (l:=dn) fun j hj=>by rw[fT hj];exact hs _ (aEc hj)
 rw[hd] at h2;refine⟨h1,?_,?_⟩
 ·apply Int.le_of_not_gt
  intro hlt;have h3:(bp n:Int)*((U[n]:Int)-br)≤(bp n:Int)*(-2):=aJs (by omega) (by omega)
  omega
 ·constructor
  ·intro hlt;have h3:(bp n:Int)*((U[n]:Int)-br)≤(bp n:Int)*(-1):=aJs (by omega) (by omega)
   omega
  ·intro hlt
   apply Int.lt_of_not_ge
   intro hge;have h3:0≤(bp n:Int)*((U[n]:Int)-br):=Int.mul_nonneg (by omega) hge
   omega
theorem RZ {V dn:List Nat} (hU:k<U.length) (hV:k<V.length) (hd:dn.length=k) (hs:Small dn) (hv:val dn+bp k*c=val (U.take k)+val (V.take k)) :
  (dn++[(U[k]+V[k]+c) % 1000000000]).length=k+1∧Small (dn++[(U[k]+V[k]+c) % 1000000000]) ∧
  val (dn++[(U[k]+V[k]+c) % 1000000000])+bp (k+1)*((U[k]+V[k]+c) / 1000000000)=val (U.take (k+1))+val (V.take (k+1)):=by
 refine⟨by simp[hd],hs.append (aJn (aGp _ (by omega)) aIi),?_⟩;rw[aFt hU,aFt hV,dJ,dJ,dJ,hd,aEk,aEk,aFw (by omega),aFw (by omega),eQ];have h:=aHv (U[k]+V[k]+c) 1000000000;have h2:bp k*(U[k]+V[k]+c)=bp k*(1000000000*((U[k]+V[k]+c) / 1000000000)+(U[k]+V[k]+c) % 1000000000):=by rw[h]
 generalize (U[k]+V[k]+c) / 1000000000=q at *
 generalize (U[k]+V[k]+c) % 1000000000=r at *
 simp only[aGk,aGe,aJv (1000000000:Nat)] at h2 ⊢
 omega
theorem SA {V dn:List Nat} (hU:U.length=n+1) (hV:V.length=n) (hd:dn.length=n) (hs:Small dn) (hv:val dn+bp n*c=val (U.take n)+val (V.take n)) :
  Small (dn++[(U[n]+c) % 1000000000])∧(dn++[(U[n]+c) % 1000000000]).length=n+1∧∃ e,val (dn++[(U[n]+c) % 1000000000])+bp (n+1)*e=val U+val V:=by
 refine⟨hs.append (aJn (aGp _ (by omega)) aIi),by simp[hd],(U[n]+c) / 1000000000,?_⟩;have e:val U=val (U.take n)+bp n*U[n]:=by
  have:=aFt (show n<U.length by omega);rw[← hU,aFe] at this;have h2:=aIl val this;rw[dJ,aEk,aFw (by omega)] at h2;exact h2
 have e2:V.take n=V:=by rw[← hV,aFe]
 rw[e2] at hv;rw[dJ,hd,eQ,e];have h:=aHv (U[n]+c) 1000000000;have h2:bp n*(U[n]+c)=bp n*(1000000000*((U[n]+c) / 1000000000)+(U[n]+c) % 1000000000):=by rw[h]
 generalize (U[n]+c) / 1000000000=q at *
 generalize (U[n]+c) % 1000000000=r at *
 simp only[aGk,aGe,aJv (1000000000:Nat)] at h2 ⊢
 omega
structure Guess (u2 v1 v2:Nat) (T q d rest:Nat):Prop where
 top:d*v1+rest=T
 le:q≤d
structure Parts (U V m T u2 v1 v2:Nat):Prop where
 u:∃ ur,ur<m∧U=(T*1000000000+u2)*m+ur
 v:∃ vr,vr<m∧V=(v1*1000000000+v2)*m+vr
 u2:u2<1000000000
 v2:v2<1000000000
 v1:0<v1
 m:0<m
 lt:U<V*1000000000
theorem Parts.q_lt {U:Nat} (h:Parts U V m T u2 v1 v2):U / V<1000000000:=by
 have:=h.lt;exact Nat.div_lt_of_lt_mul this
theorem Parts.v_pos {U:Nat} (h:Parts U V m T u2 v1 v2):1000000000*m≤V:=by
 obtain⟨vr,_,hv⟩:=h.v;have h1:1000000000*m≤(v1*1000000000+v2)*m:=aEs m (by have:=h.v1;omega)
 omega
theorem Guess.start {U:Nat} (h:Parts U V m T u2 v1 v2):Guess u2 v1 v2 T (U / V) (T / v1) (T % v1):=by
 refine⟨by rw[aGt];exact aHv T v1,?_⟩;rw[Nat.le_div_iff_mul_le h.v1];obtain⟨ur,hur,hu⟩:=h.u;obtain⟨vr,hvr,hv⟩:=h.v;have h1:U / V*V≤U:=Nat.div_mul_le_self U V;have hM:0<m:=h.m;have h3:U<(T+1)*(1000000000*m):=by
  have:(T*1000000000+u2)*m+m≤(T+1)*1000000000*m:=by
   rw[← Nat.succ_mul];exact aEs m (by have:=h.u2;omega)
  rw[aGe] at this
  omega
 have h4:v1*(1000000000*m)≤V:=by
  have:v1*1000000000*m≤(v1*1000000000+v2)*m:=aEs m (by omega);rw[aGe] at this
  omega
 have h5:U / V*v1*(1000000000*m)<(T+1)*(1000000000*m):=by
  have:U / V*(v1*(1000000000*m))≤U / V*V:=aFf _ h4;rw[aGe]
  omega
 have:=Nat.lt_of_mul_lt_mul_right h5
 omega
theorem Guess.down {U:Nat} (h:Parts U V m T u2 v1 v2) (g:Guess u2 v1 v2 T (U / V) d rest) (ht:1000000000≤d∨rest*1000000000+u2<d*v2) :
  Guess u2 v1 v2 T (U / V) (d-1) (rest+v1)∧0<d:=by
 have hq:=h.q_lt;have hlt:U / V<d:=by
  rcases ht with ht | ht
  ·omega
  ·apply aJp
   intro hge;obtain⟨ur,hur,hu⟩:=h.u;obtain⟨vr,hvr,hv⟩:=h.v;have h1:d*V≤U:=aEg (aEs V hge) (Nat.div_mul_le_self U V);have h2:d*((v1*1000000000+v2)*m)≤d*V:=aFf d (by omega);have h3:T*1000000000+u2+1≤d*(v1*1000000000+v2):=by
    have:=g.top;rw[aGk,← aGe,← this,aGl]
    omega
   have h4:(T*1000000000+u2+1)*m≤d*(v1*1000000000+v2)*m:=aEs m h3;rw[aGe d] at h4;rw[Nat.succ_mul] at h4
   omega
 have hd0:0<d:=aKz (aEy _) hlt;refine⟨⟨?_,Nat.le_sub_one_of_lt hlt⟩,hd0⟩;obtain⟨e,rfl⟩:∃ e,d=e+1:=⟨d-1,by omega⟩;have:=g.top;rw[aLa];rw[Nat.succ_mul] at this
 omega
theorem Guess.stop {U:Nat} (h:Parts U V m T u2 v1 v2) (g:Guess u2 v1 v2 T (U / V) d rest) (hd:d<1000000000) (ht:d*v2≤rest*1000000000+u2):d*V≤U+V:=by
 obtain⟨ur,hur,hu⟩:=h.u;obtain⟨vr,hvr,hv⟩:=h.v;have h1:d*(v1*1000000000+v2)≤T*1000000000+u2:=by
  have:=g.top;rw[aGk,← aGe,← this,aGl]
  omega
 have h2:d*(v1*1000000000+v2)*m≤(T*1000000000+u2)*m:=aEs m h1;have h3:d*vr≤1000000000*m:=aGs (by omega) (by omega);have h4:=h.v_pos;have h5:d*V=d*(v1*1000000000+v2)*m+d*vr:=by rw[hv,aGk,aGe]
 omega
theorem Parts.top {U:Nat} (h:Parts U V m T u2 v1 v2):T<v1*1000000000+1000000000:=by
 obtain⟨ur,hur,hu⟩:=h.u;obtain⟨vr,hvr,hv⟩:=h.v;have hlt:=h.lt
 apply aJp
 intro hge;have h0:(v1*1000000000+1000000000)*1000000000≤T*1000000000+u2:=aEg (aEs 1000000000 hge) (Nat.le_add_right _ _);have h1:=aEs m h0;have h2:V<(v1*1000000000+1000000000)*m:=by
  have:(v1*1000000000+v2)*m+m≤(v1*1000000000+1000000000)*m:=by
   rw[← Nat.succ_mul];exact aEs m (by have:=h.v2;omega)
  omega
 have h3:V*1000000000<(v1*1000000000+1000000000)*m*1000000000:=by omega
 have h4:(v1*1000000000+1000000000)*m*1000000000=(v1*1000000000+1000000000)*1000000000*m:=by ac_rfl
 omega
theorem Guess.bound {U:Nat} (h:Parts U V m T u2 v1 v2) (g:Guess u2 v1 v2 T (U / V) d rest):d<2000000000:=by
 have h1:=h.top;have h2:=g.top;have h3:=h.v1
 apply aJp
 intro hge;have h4:2000000000*v1≤d*v1:=aEs v1 hge
 omega
theorem Guess.broke {U:Nat} (h:Parts U V m T u2 v1 v2) (g:Guess u2 v1 v2 T (U / V) d rest) (hr:1000000000≤rest):d<1000000000∧d*v2≤rest*1000000000+u2:=by
 have h1:=h.top;have h2:=g.top;have hd:d<1000000000:=by
  apply aJp
  intro hge;have h4:1000000000*v1≤d*v1:=aEs v1 hge
  omega
 refine⟨hd,?_⟩;have h5:d*v2≤1000000000*1000000000:=aGs (by omega) (by have:=h.v2;omega)
 omega
theorem vN (w:World) (g off c d n:Nat) (pre post:List Int) (U V:List Nat) (vv:Value) (hoff:pre.length=off) (ho:Own w g (pre++(ni U++post))) (hU:U.length=n+1) (hV:V.length=n) (hsU:Small U) (hsV:Small V)
  (hv:YA w w.heap.size g vv (ni V)) (hd:d<1000000000) (hc:n+1≤c) (hlow:(d:Int)*(val V:Int)≤(val U:Int)+(bp n:Int)) :
  Calls Tryz.prog 147 #[.slice (some ⟨g,off,none⟩) (n+1) c,vv,.int .i64 d] w fun e w'=>Only g w w'∧∃ R:List Nat,R.length=n+1∧Small R∧Own w' g (pre++(ni R++post)) ∧
   ((e=.returned (.bool false)∧d*val V≤val U∧val R=val U-d*val V)∨(e=.returned (.bool true)∧val U<d*val V∧val R+d*val V=val U+bp (n+1))):=by
 subst hoff;obtain⟨A,cv,rfl,hcv,hcv',hA⟩:=hv;simp only[aC,hV] at hcv hA
 rw[aC,hV];replace hA:=zz hA;have HU:=zz hU;have HV:=zz hV;have j0:=zz hsU;have m0:=zz hsV;have k0:=zz hlow;have hgw0:=ho.lt;clear hU hV hsU hsV hlow;have hI0:Hi (([]:List Int).length=0∧SmallI []∧dP []-(bp 0:Int)*0=(val (U.take 0):Int)-(d:Int)*(val (V.take 0):Int)):=zz ⟨rfl,SmallI.nil,by simp[val,dP]⟩;go_enter Tryz.func147,Tryz.ntmps147
 go_wp2;go_loopw [7,14] (fun bv i wr=>∃ (k:Nat) (br:Int) (dn:List Int),k≤n∧i=.int .i64 k∧bv=.int .i64 br∧0≤br∧br≤1000000000 ∧
   Hi (dn.length=k∧SmallI dn∧dP dn-(bp k:Int)*br=(val (U.take k):Int)-(d:Int)*(val (V.take k):Int))∧Only g w wr∧Own wr g (pre++((dn++ni (U.drop k))++post))) (fun _ i _=>n-(intOf i).toNat)
 case atStart=>exact⟨0,0,[],by omega,rfl,rfl,by omega,by omega,hI0,Only.refl _ _,by simpa using ho⟩
 case round=>
  clear ho hI0;obtain⟨k,br,dn,hk,rfl,rfl,hbr,hbr',hI,hbw,ho⟩:=hrel;have hgw:g<wr.heap.size:=ho.lt;by_cases hlk:k<n
  ·obtain⟨bk,off,rfl,hbk,hne,hx⟩:=hA.o (by omega);have hkU:k<U.length:=by have:=HU.o;omega
   have hkV:k<V.length:=by have:=HV.o;omega
   have h1:=(hbw.cell (p:=⟨bk,off+k,none⟩) hbk hne).trans (hx k hlk);rw[OX hkV] at h1;replace hx:=zz hx;obtain⟨hi1,hi2,hi3⟩:=hI.o;rw[oN hkU] at ho;have h2:=bT ho (pre.length+k) (by simp;omega);rw[uI hi1] at h2;have hf:=ho.frozen (pre.length+k);have d0:=zz (fun(m t:Int)=>SI (n:=m) (t:=t) hkU hkV hi1 hi2 hi3);have b0:=zz (fun(m:Int)=>(qQ (pre:=pre) (t:=ni (U.drop (k+1))) (post:=post) (x:=m) (y:=(U[k]:Int)) hi1));have hVk:V[k]<1000000000:=m0.o _ (aEc hkV);have hUk:U[k]<1000000000:=j0.o _ (aEc hkU);have hlen:pre.length+k<(pre++((dn++(U[k]:Int) :: ni (U.drop (k+1)))++post)).length:=by simp;omega
   have a0:=zz hlen;have HO:=zz ho;clear hi1 hi2 hi3 hI ho hlen;obtain⟨x,hx1⟩:=ex (V[k]);obtain⟨u,hu1⟩:=ex (U[k]);rw[← hx1] at h1 hVk d0;rw[← hu1] at h2 hUk d0 b0 a0 HO;clear hx1 hu1;have hxy:x*d≤999999999*999999999:=aGs (by omega) (by omega);have hxy1:(x:Int)*(d:Int)≤999999999*999999999:=by rw[← aFp];omega
   have hxy0:0≤(x:Int)*(d:Int):=by rw[← aFp];omega
   by_cases hn1:(u:Int)-((x:Int)*(d:Int)) % 1000000000-br<0
   ·by_cases hn2:(u:Int)-((x:Int)*(d:Int)) % 1000000000-br+1000000000<0
    ·go_wp2;go_roundw
     case rel=>
      have hls:=d0.o ((u:Int)-((x:Int)*(d:Int)) % 1000000000-br+1000000000+1000000000) 2 (by omega) (by omega) (by omega);have h4:=HO.o.set (pre.length+k) ((u:Int)-((x:Int)*(d:Int)) % 1000000000-br+1000000000+1000000000) a0.o;rw[b0.o] at h4;exact⟨k+1,(x:Int)*(d:Int) / 1000000000+2,_,by omega,by go_num,by go_num,by omega,by omega,zz hls,hbw.set _ _,h4⟩
     case measure=>exact ms
    ·go_wp2;go_roundw
     case rel=>
      have hls:=d0.o ((u:Int)-((x:Int)*(d:Int)) % 1000000000-br+1000000000) 1 (by omega) (by omega) (by omega);have h4:=HO.o.set (pre.length+k) ((u:Int)-((x:Int)*(d:Int)) % 1000000000-br+1000000000) a0.o;rw[b0.o] at h4;exact⟨k+1,(x:Int)*(d:Int) / 1000000000+1,_,by omega,by go_num,by go_num,by omega,by omega,zz hls,hbw.set _ _,h4⟩
     case measure=>exact ms
   ·go_wp2;go_roundw
    case rel=>
     have hls:=d0.o ((u:Int)-((x:Int)*(d:Int)) % 1000000000-br) 0 (by omega) (by omega) (by omega);have h4:=HO.o.set (pre.length+k) ((u:Int)-((x:Int)*(d:Int)) % 1000000000-br) a0.o;rw[b0.o] at h4;exact⟨k+1,(x:Int)*(d:Int) / 1000000000+0,_,by omega,by go_num,by go_num,by omega,by omega,zz hls,hbw.set _ _,h4⟩
    case measure=>exact ms
  ·obtain rfl:k=n:=by omega
   have hkU:k<U.length:=by have:=HU.o;omega
   obtain⟨hi1,hi2,hi3⟩:=hI.o;have HL:=zz (SJ HU.o HV.o hi1 hi2 hi3 k0.o);have hlast:=HL.o.2.1;rw[oN hkU,aGa (by have:=HU.o;omega)] at ho;have h2:=bT ho (pre.length+k) (by simp;omega);rw[uI hi1] at h2;have hf:=ho.frozen (pre.length+k);have b0:=zz (fun(m:Int)=>(qQ (pre:=pre) (t:=ni []) (post:=post) (x:=m) (y:=(U[k]:Int)) hi1));have i0:=zz (fun(m y:Int)=>(qQ (pre:=pre) (t:=[]) (post:=post) (x:=m) (y:=y) hi1));have hUk:U[k]<1000000000:=j0.o _ (aEc hkU);have hlen:pre.length+k<(pre++((dn++(U[k]:Int) :: ni [])++post)).length:=by simp;omega
   have a0:=zz hlen;have HO:=zz ho;have HI:=zz hi2;have e0:=zz hi1;clear hi1 hi2 hi3 hI ho hlen;obtain⟨u,hu1⟩:=ex (U[k]);rw[← hu1] at h2 hUk b0 a0 HO HL hlast;clear hu1;have HE:=zz (fun(m:Int) (h0:0≤m) (h1:m<1000000000)=>(HI.o.snoc h0 h1).toNi);by_cases hneg:(u:Int)-br<0
   ·have hf2:wr.frozen? ⟨g,pre.length+k,none⟩=false:=hf;have h3:=bT (HO.o.set (pre.length+k) ((u:Int)-br) a0.o) (pre.length+k) (by rw[aEz];exact a0.o);rw[dU a0.o] at h3;have hf3:=(HO.o.set (pre.length+k) ((u:Int)-br) a0.o).frozen (pre.length+k);go_wp2;go_ret;have h4:=(HO.o.set (pre.length+k) ((u:Int)-br) a0.o).set (pre.length+k) ((u:Int)-br+1000000000) (by rw[aEz];exact a0.o);rw[b0.o,show ni []=[] from rfl,aId,i0.o,aId] at h4;obtain⟨r,hr1,hr2,hr3,hr4⟩:=HE.o ((u:Int)-br+1000000000) (by omega) (by omega);rw[hr1] at h4;obtain⟨e1,e2,e3⟩:=HL.o;refine⟨(hbw.set _ _).set _ _,r,by rw[hr2];simp[e0.o],hr3,h4,.inr ⟨rfl,?_,?_⟩⟩
    ·have:=e3.1 hneg;rw[← aFp] at this;omega
    ·rw[sH,e0.o,aJk] at hr4;have hb:=gT k;rw[← aFp] at e1
     omega
   ·go_wp2;go_ret;have h4:=HO.o.set (pre.length+k) ((u:Int)-br) a0.o;rw[b0.o,show ni []=[] from rfl,aId] at h4;obtain⟨r,hr1,hr2,hr3,hr4⟩:=HE.o ((u:Int)-br) (by omega) (by omega);rw[hr1] at h4;obtain⟨e1,e2,e3⟩:=HL.o;rw[sH,e0.o] at hr4;rw[← aFp] at e1 e3;refine⟨hbw.set _ _,r,by rw[hr2];simp[e0.o],hr3,h4,.inl ⟨rfl,?_,?_⟩⟩
    ·apply Nat.le_of_not_lt
     intro hlt;have:=e3.2 (by omega)
     omega
    ·omega
theorem vK (w:World) (g off c n:Nat) (pre post:List Int) (U V:List Nat) (vv:Value) (hoff:pre.length=off) (ho:Own w g (pre++(ni U++post))) (hU:U.length=n+1) (hV:V.length=n) (hsU:Small U) (hsV:Small V)
  (hv:YA w w.heap.size g vv (ni V)) (hc:n+1≤c) :
  Calls Tryz.prog 148 #[.slice (some ⟨g,off,none⟩) (n+1) c,vv] w fun e w'=>e=.returned (.tuple #[])∧Only g w w'∧∃ R:List Nat,R.length=n+1∧Small R∧Own w' g (pre++(ni R++post)) ∧
   ∃ q,val R+bp (n+1)*q=val U+val V:=by
 subst hoff;obtain⟨A,cv,rfl,hcv,hcv',hA⟩:=hv;simp only[aC,hV] at hcv hA
 rw[aC,hV];replace hA:=zz hA;have HU:=zz hU;have HV:=zz hV;have f0:=zz hsU;have h0:=zz hsV;have hgw0:=ho.lt;clear hU hV hsU hsV;have hI0:Hi (([]:List Nat).length=0∧Small []∧val []+bp 0*0=val (U.take 0)+val (V.take 0)):=zz ⟨rfl,aIi,by simp[val]⟩;go_enter Tryz.func148,Tryz.ntmps148
 go_wp2;go_loopw [4,10] (fun bv i wr=>∃ (k cr:Nat) (dn:List Nat),k≤n∧i=.int .i64 k∧bv=.int .i64 cr∧cr≤2 ∧
   Hi (dn.length=k∧Small dn∧val dn+bp k*cr=val (U.take k)+val (V.take k))∧Only g w wr∧Own wr g (pre++((ni dn++ni (U.drop k))++post))) (fun _ i _=>n-(intOf i).toNat)
 case atStart=>exact⟨0,0,[],by omega,rfl,rfl,by omega,hI0,Only.refl _ _,by simpa[ni] using ho⟩
 case round=>
  clear ho hI0;obtain⟨k,cr,dn,hk,rfl,rfl,hcr,hI,hbw,ho⟩:=hrel;have hgw:g<wr.heap.size:=ho.lt;by_cases hlk:k<n
  ·obtain⟨bk,off,rfl,hbk,hne,hx⟩:=hA.o (by omega);have hkU:k<U.length:=by have:=HU.o;omega
   have hkV:k<V.length:=by have:=HV.o;omega
   have h1:=(hbw.cell (p:=⟨bk,off+k,none⟩) hbk hne).trans (hx k hlk);rw[OX hkV] at h1;replace hx:=zz hx;obtain⟨hi1,hi2,hi3⟩:=hI.o;have hi1':(ni dn).length=k:=by rw[aC];exact hi1
   rw[oN hkU] at ho;have h2:=bT ho (pre.length+k) (by simp[ni];omega);rw[uI hi1'] at h2;have hf:=ho.frozen (pre.length+k);have c0:=zz (RZ hkU hkV hi1 hi2 hi3);have a0:=zz (fun(m:Int)=>(qQ (pre:=pre) (t:=ni (U.drop (k+1))) (post:=post) (x:=m) (y:=(U[k]:Int)) hi1'));have hVk:V[k]<1000000000:=h0.o _ (aEc hkV);have hUk:U[k]<1000000000:=f0.o _ (aEc hkU);have hlen:pre.length+k<(pre++((ni dn++(U[k]:Int) :: ni (U.drop (k+1)))++post)).length:=by simp[ni];omega
   have b0:=zz hlen;have HO:=zz ho;clear hi1 hi2 hi3 hI ho hlen hi1';obtain⟨x,hx1⟩:=ex (V[k]);obtain⟨u,hu1⟩:=ex (U[k]);rw[← hx1] at h1 hVk c0;rw[← hu1] at h2 hUk c0 a0 b0 HO;clear hx1 hu1;go_wp2;go_roundw
   case rel=>
    have h4:=HO.o.set (pre.length+k) (((u+x+cr) % 1000000000:Nat):Int) b0.o;rw[a0.o] at h4;have e:(((u+x+cr) % 1000000000:Nat):Int)=((u:Int)+(x:Int)+(cr:Int)) % 1000000000:=by omega
    have e2:ni dn++[(((u+x+cr) % 1000000000:Nat):Int)]=ni (dn++[(u+x+cr) % 1000000000]):=by simp[ni]
    rw[e2,e] at h4;exact⟨k+1,(u+x+cr) / 1000000000,_,by omega,by go_num,by go_num,by omega,c0,hbw.set _ _,h4⟩
   case measure=>exact ms
  ·obtain rfl:k=n:=by omega
   have hkU:k<U.length:=by have:=HU.o;omega
   obtain⟨hi1,hi2,hi3⟩:=hI.o;have hi1':(ni dn).length=k:=by rw[aC];exact hi1
   have HL:=zz (SA HU.o HV.o hi1 hi2 hi3);rw[oN hkU,aGa (by have:=HU.o;omega)] at ho;have h2:=bT ho (pre.length+k) (by simp[ni];omega);rw[uI hi1'] at h2;have hf:=ho.frozen (pre.length+k);have a0:=zz (fun(m:Int)=>(qQ (pre:=pre) (t:=ni []) (post:=post) (x:=m) (y:=(U[k]:Int)) hi1'));have hUk:U[k]<1000000000:=f0.o _ (aEc hkU);have hlen:pre.length+k<(pre++((ni dn++(U[k]:Int) :: ni [])++post)).length:=by simp[ni];omega
   have b0:=zz hlen;have HO:=zz ho;clear hi1 hi2 hi3 hI ho hlen hi1';obtain⟨u,hu1⟩:=ex (U[k]);rw[← hu1] at h2 hUk a0 b0 HO HL;clear hu1;go_wp2;go_end0
   obtain⟨e1,e2,e3⟩:=HL.o;have h4:=HO.o.set (pre.length+k) (((u+cr) % 1000000000:Nat):Int) b0.o;rw[a0.o,show ni []=[] from rfl,aId] at h4;have e:(((u+cr) % 1000000000:Nat):Int)=((u:Int)+(cr:Int)) % 1000000000:=by omega
   have e4:ni dn++[(((u+cr) % 1000000000:Nat):Int)]=ni (dn++[(u+cr) % 1000000000]):=by simp[ni]
   rw[e4,e] at h4;exact⟨rfl,hbw.set _ _,_,e2,e1,h4,e3⟩
structure DivInv (A V la n k:Nat) (L qs:List Nat):Prop where
 len:L.length=la+1
 small:Small L
 qsmall:Small qs
 qlen:qs.length+k=la+1-n
 sum:A=val qs*bp k*V+val L
 high:val (L.drop k)<V
theorem tO (l:List Nat) (k:Nat):val (l.take k)≤val l:=by
 by_cases h:k≤l.length
 ·have:=dF l k h;omega
 ·rw[aFa (by omega)];exact aEa _
structure Place (V n j:Nat) (L U post:List Nat):Prop where
 eq:L=L.take j++(U++post)
 len:U.length=n+1
 small:Small U
 pre:(L.take j).length=j
 zero:val post=0
 lt:val U<V*1000000000
theorem DivInv.place {A:Nat} (h:DivInv A V la n (j+1) L qs) (hn:n≤la) (hV:V<bp n):Place V n j L ((L.drop j).take (n+1)) (L.drop (j+n+1)):=by
 have hq:=h.qlen;have hl:=h.len;have hj:j+n+1≤L.length:=by omega
 have e1:L.drop j=(L.drop j).take (n+1)++L.drop (j+n+1):=by
  have:=(aHw (n+1) (L.drop j)).symm
  rwa [List.drop_drop,← Nat.add_assoc] at this
 have hlen:((L.drop j).take (n+1)).length=n+1:=by simp;omega
 have hz:val (L.drop (j+n+1))=0:=by
  have h1:=h.high;have h2:=dF (L.drop (j+1)) n (by simp;omega);rw[List.drop_drop,show j+1+n=j+n+1 by omega] at h2;rcases aGg (val (L.drop (j+n+1))) with h0 | h0
  ·exact h0
  ·have:=aKo (bp n) h0
   omega
 refine⟨?_,hlen,(h.small.drop j).take _,by simp;omega,hz,?_⟩
 ·rw[← e1,aHw]
 ·have h1:val (L.drop j)=L[j]'(by omega)+1000000000*val (L.drop (j+1)):=by
   rw[aFd (show j<L.length by omega),dK]
  have h2:=tO (L.drop j) (n+1);have h3:L[j]'(by omega)<1000000000:=h.small _ (aEc _);have h4:=h.high
  omega
theorem Place.val_drop (h:Place V n j L U post):val L=val (L.take j)+bp j*val U:=by
 have h1:=aIl val h.eq;rw[fV,fV,h.zero,h.pre] at h1
 simpa using h1
theorem Place.at (p:Place V n j L U post) (hi:i<U.length):bI (ni L) (j+i)=(U[i]:Int):=by
 have h2:L[j+i]?=some U[i]:=by
  rw[p.eq,aIc (by rw[p.pre];omega),p.pre,show j+i-j=i by omega,aGv hi,aEh hi]
 rw[gK,aEi,h2]
 rfl
theorem DivInv.next {A:Nat} {R:List Nat} (h:DivInv A V la n (j+1) L qs) (p:Place V n j L U post) (hR:R.length=n+1) (hs:Small R) (hV:0<V) (hv:val R=val U % V) (hps:Small post) :
  DivInv A V la n j (L.take j++(R++post)) (val U / V :: qs):=by
 have hl:(L.take j++(R++post)).length=L.length:=by
  have:=aIl List.length p.eq;rw[aEp,aEp] at this ⊢;rw[hR];rw[p.len] at this;omega
 have hq:val U / V<1000000000:=Nat.div_lt_of_lt_mul p.lt;have hqs:Small (val U / V :: qs):=aJn hq h.qsmall;refine⟨by rw[hl];exact h.len,(h.small.take j).append (hs.append hps),hqs,by have:=h.qlen;simp;omega,?_,?_⟩
 ·rw[h.sum,p.val_drop,fV,fV,p.zero,p.pre,dK,eQ,hv];have hd:=aHv (val U) V;generalize val U / V=q at *
  generalize val U % V=r at *
  have e1:bp j*val U=bp j*(V*q+r):=by rw[hd]
  rw[e1];simp only[Nat.mul_zero,aGd,aGk,aGl]
  have e2:val qs*(1000000000*bp j)*V=1000000000*val qs*bp j*V:=by ac_rfl
  have e3:bp j*(V*q)=q*bp j*V:=by ac_rfl
  rw[e2,e3]
  omega
 ·have e:(L.take j++(R++post)).drop j=R++post:=by
   rw[List.drop_append_of_le_length (by rw[p.pre];exact aEa _),aGa (by rw[p.pre];exact aEa _),aNn]
  rw[e,fV,p.zero,hv,Nat.mul_zero,aGd];exact aGp _ hV
theorem Place.parts (p:Place V n j L U post) (hn:2≤n) (hv:vs.length=n) (hvs:Small vs) (hV:val vs=V) (h1:0<vs[n-1]'(by omega)) :
  Parts (val U) V (bp (n-2)) ((U[n]'(by rw[p.len];omega))*1000000000+U[n-1]'(by rw[p.len];omega)) (U[n-2]'(by rw[p.len];omega)) (vs[n-1]'(by omega)) (vs[n-2]'(by omega)):=by
 have hU:=p.len;obtain⟨m,rfl⟩:∃ m,n=m+2:=⟨n-2,by omega⟩;simp only[show m+2-2=m by omega,show m+2-1=m+1 by omega] at h1 ⊢
 refine⟨⟨val (U.take m),?_,?_⟩,⟨val (vs.take m),?_,?_⟩,p.small _ (aEc _),hvs _ (aEc _),h1,AP _,p.lt⟩
 ·have:=eU (p.small.take m);rwa [aEk,aFw (by omega)] at this
 ·have e:=dF U m (by omega);have e2:val (U.drop m)=U[m]+1000000000*(U[m+1]+1000000000*U[m+2]):=by
   rw[aFd (show m<U.length by omega),aFd (show m+1<U.length by omega),aFd (show m+1+1<U.length by omega),aGa (by omega)];simp[val]
  rw[e,e2,Nat.add_comm,aGt]
  congr 2;omega
 ·have:=eU (hvs.take m);rwa [aEk,aFw (by omega)] at this
 ·have e:=dF vs m (by omega);have e2:val (vs.drop m)=vs[m]+1000000000*vs[m+1]:=by
   rw[aFd (show m<vs.length by omega),aFd (show m+1<vs.length by omega),aGa (by omega)];simp[val]
  rw[← hV,e,e2,Nat.add_comm,aGt]
  congr 2;omega
theorem pX {U r:Nat} (hV:0<V) (hq:U / V≤d) (hle:d*V≤U) (hr:r=U-d*V):d=U / V∧r=U % V:=by
 have h1:d≤U / V:=(Nat.le_div_iff_mul_le hV).2 hle;have h2:d=U / V:=by omega
 refine⟨h2,?_⟩;have:=aHv U V;rw[aGt,← h2] at this
 omega
theorem pW {U r r' e M:Nat} (hV:0<V) (hstop:d*V≤U+V) (hlt:U<d*V) (hr:r+d*V=U+M) (hr':r'+M*e=r+V) (hVM:V<M) (hrM:r'<M):d-1=U / V∧r'=U % V:=by
 have h1:U / V<d:=(Nat.div_lt_iff_lt_mul hV).2 hlt;have hd0:0<d:=aKz (aEy _) h1;obtain⟨c,rfl⟩:∃ c,d=c+1:=⟨d-1,by omega⟩;rw[Nat.succ_mul] at hstop hr;have h2:c≤U / V:=(Nat.le_div_iff_mul_le hV).2 (by omega);have h3:c=U / V:=by omega
 rw[aLa];refine⟨h3,?_⟩;have h4:=aHv U V;rw[aGt,← h3] at h4;have h5:=aGp U hV;have h6:r'+M*e=U % V+M:=by omega
 rcases Nat.lt_trichotomy e 1 with he | he | he
 ·have:e=0:=by omega
  subst this;omega
 ·subst he;omega
 ·have:=aFf M (show 2≤e by omega)
  omega
theorem DivInv.start {ru:List Nat} (hla:la=(dig a).length) (hn:n=(dig b).length) (hge:b≤a) (hb:b≠0) (hf:0<f) (hl:ru.length=la+1) (hs:Small ru) (hv:val ru=a*f) :
  DivInv (a*f) (b*f) la n (la+1-n) ru []:=by
 have hnl:n≤la:=by rw[hla,hn];exact aL hge
 refine⟨hl,hs,aIi,by simp,by rw[hv];simp[val],?_⟩;have h1:=dF ru (la+1-n) (by omega)
 apply Nat.lt_of_mul_lt_mul_left (a:=bp (la+1-n))
 have h2:a<bp la:=by rw[hla];exact vC a
 have hnp:0<n:=by rw[hn];exact bX hb
 have h3:bp (n-1)≤b:=by
  have:=mX (gS b) (fun e=>hb (cU.1 e))
  rwa [aQ,← hn] at this
 have h4:bp la=bp (la+1-n)*bp (n-1):=by rw[← vD];congr 1;omega
 have h5:bp (la+1-n)*bp (n-1)≤bp (la+1-n)*b:=aFf _ h3;have h6:a*f<bp (la+1-n)*b*f:=Nat.mul_lt_mul_of_pos_right (by omega) hf;rw[aGe] at h6
 omega
theorem DivInv.fin (h:DivInv (a*f) (b*f) la n 0 L qs) (hf:0<f):val qs=a / b∧val L=a % b*f:=by
 have h1:=h.sum;have h2:=h.high;rw[aKf] at h2;rw[ZS,aJi] at h1;have hbf:0<b*f:=by omega
 have h3:a*f / (b*f)=a / b:=Nat.mul_div_mul_right a b hf;have h4:a*f % (b*f)=a % b*f:=Nat.mul_mod_mul_right f a b
 constructor
 ·rw[← h3,h1,aGt,Nat.mul_add_div hbf,aNa h2,aGd]
 ·rw[← h4,h1,aGt (val qs),Nat.mul_add_mod,aLw h2]
theorem ST {bt:Nat} (hn:n=(dig b).length) (hb:b≠0) (hbt:bt=(dig b).getD (n-1) 0) (hf:f=1000000000 / (bt+1)):b*f<bp n∧0<f∧0<bt:=by
 have hnp:0<n:=by rw[hn];exact bX hb
 have hlt:n-1<(dig b).length:=by omega
 rw[bJ hlt] at hbt;have hbs:bt<1000000000:=by rw[hbt];exact aH b _ (aEc _)
 have e:=dF (dig b) (n-1) (by omega);have e2:(dig b).drop (n-1)=[bt]:=by rw[aFd hlt,aGa (by omega),hbt]
 rw[e2,aQ] at e;have e3:=eU ((aH b).take (n-1));rw[aEk,aFw (by omega)] at e3;simp only[val,Nat.mul_zero,aGd] at e
 have h1:b<bp (n-1)*(bt+1):=by rw[aGk];omega
 have hfp:0<f:=by rw[hf];exact Nat.div_pos (by omega) (by omega)
 have h2:(bt+1)*f≤1000000000:=by rw[hf];exact Nat.mul_div_le _ _
 refine⟨?_,hfp,?_⟩
 ·have h3:b*f<bp (n-1)*(bt+1)*f:=Nat.mul_lt_mul_of_pos_right h1 hfp;rw[aGe] at h3;have h4:bp (n-1)*((bt+1)*f)≤bp (n-1)*1000000000:=aFf _ h2;have h5:bp n=1000000000*bp (n-1):=by rw[← eQ];congr 1;omega
  omega
 ·have h6:=(gS b).2;rw[aLs,← hn,aEh hlt,← hbt] at h6;simp at h6;omega
theorem IY {rv:List Nat} (hl:rv.length=n+1) (hv:val rv=V) (hV:V<bp n):val (rv.take n)=V:=by
 have e:=dF rv n (by omega);rcases aGg (val (rv.drop n)) with h0 | h0
 ·rw[h0] at e;omega
 ·have:=aKo (bp n) h0;omega
theorem LU (hn:n=(dig b).length) (h2:2≤n) (hb:b≠0) (hf:0<f) (hl:vs.length=n) (hs:Small vs) (hv:val vs=b*f):0<vs[n-1]'(by omega):=by
 apply aFy
 intro h0;have e:=dF vs (n-1) (by omega);have e2:vs.drop (n-1)=[vs[n-1]'(by omega)]:=by rw[aFd (by omega),aGa (by omega)]
 rw[e2,h0] at e;have e3:=eU (hs.take (n-1));rw[aEk,aFw (by omega)] at e3;simp only[val,Nat.mul_zero,aGd] at e
 have h3:=mX (gS b) (fun e=>hb (cU.1 e));rw[aQ,← hn] at h3;have:=aKo b hf
 omega
theorem UV {l:List Nat} (h:n≤l.length) (hlt:val l<bp n):val (l.take n)=val l:=by
 have e:=dF l n h;rcases aGg (val (l.drop n)) with h0 | h0
 ·rw[h0] at e;omega
 ·have:=aKo (bp n) h0;omega
theorem WW {v:Nat} (hd:d<2000000000) (hv:v<1000000000):0≤(d:Int)*(v:Int)∧(d:Int)*(v:Int)≤2000000000000000000:=by
 have h:d*v≤2000000000*v:=aEs v (by omega);have e:(d:Int)*(v:Int)=((d*v:Nat):Int):=(aFp d v).symm;rw[e];generalize d*v=z at *
 omega
theorem Place.at' (p:Place V n j L U post) (hi:i<n+1):bI (ni L) (j+i)=(U.getD i 0:Nat):=by
 rw[p.at (by rw[p.len];exact hi),bJ]
theorem Place.parts' (p:Place V n j L U post) (hn:2≤n) (hv:vs.length=n) (hvs:Small vs) (hV:val vs=V) (h1:0<vs.getD (n-1) 0) :
  Parts (val U) V (bp (n-2)) (U.getD n 0*1000000000+U.getD (n-1) 0) (U.getD (n-2) 0) (vs.getD (n-1) 0) (vs.getD (n-2) 0):=by
 have hU:=p.len;rw[bJ (show n-1<vs.length by omega)] at h1;have:=p.parts hn hv hvs hV h1;rw[← bJ,← bJ,← bJ,← bJ,← bJ] at this;exact this
theorem IX (hn:n=(dig b).length) (h2:2≤n) (hb:b≠0) (hf:0<f) (hl:vs.length=n) (hs:Small vs) (hv:val vs=b*f):0<vs.getD (n-1) 0:=by
 rw[bJ (by omega)];exact LU hn h2 hb hf hl hs hv
theorem oM {l:List Nat} (h:i<n):(l.take n).getD i 0=l.getD i 0:=by
 rw[aEi,aEi,aLc,aEv h]
def NewC (Z:Nat) (v:Value):Prop:=∀ a n c,v=.slice (some a) n c→0<n→Z≤a.block
theorem NewC.weak {Z':Nat} {v:Value} (h:NewC Z v) (hZ:Z'≤Z):NewC Z' v:=fun a n c e h0=>aEg hZ (h a n c e h0)
theorem NewC.nil (Z n c:Nat):NewC Z (.slice none n c):=fun _ _ _ e=>by cases e
theorem NewC.at {off:Nat} (h:Z≤g):NewC Z (.slice (some ⟨g,off,none⟩) n c):=fun a n' c' e _=>by
 injection e with e;injection e with e;subst e;exact h
theorem NewC.less {n' c':Nat} (h:NewC Z (.slice A n c)) (hn:n'≤n):NewC Z (.slice A n' c'):=fun a m d e h0=>by
 injection e with e1 e2 e3;subst e1;subst e2;exact h a n c rfl (by omega)
theorem yI {l:List Nat} (hs:Small l) (hn:n≤l.length) (hv:val (l.take n)=val l) (hz:n=0∨∃ h:n-1<l.length,l[n-1]≠0):l.take n=dig (val l):=by
 rw[← hv];refine(BO ⟨hs.take n,?_⟩).symm;rcases hz with rfl | ⟨h,hne⟩
 ·simp
 ·rcases aGg n with rfl | hp
  ·simp
  ·rw[aLs,aEk,aFw hn,aLc,aEv (by omega),aEh h]
   simpa using hne
theorem NG {l:List Nat} (hn:n+1≤l.length) (hv:val (l.take (n+1))=val l) (hz:l[n]'hn=0):val (l.take n)=val l:=by
 rw[← hv,aFt hn,dJ,hz];simp
theorem rL (w:World) (v:Value) (l:List Nat) (h:RN w w.heap.size v l) (hs:Small l) :
  CV 136 #[v] w fun e w'=>∃ v',e=.returned v'∧RN w' w'.heap.size v' (dig (val l))∧∀ Z,NewC Z v→NewC Z v':=by
 obtain⟨A,c,rfl,hc,hc',hA⟩:=h.cell;have hl:l.length≤9223372036854775807:=by omega
 have HR:=zz h;have HS:=zz hs;replace hA:=zz hA;clear h hs;go_enter Tryz.func136,Tryz.ntmps136
 go_wp2;go_loopw [0] (fun v wr=>∃ n:Nat,n≤l.length∧v=.slice A n c∧Hi (val (l.take n)=val l)∧Below w.heap.size w wr) (fun v _=>aAj v)
 case atStart=>exact⟨_,aEa _,rfl,zz (by rw[aFe]),aDy _ _⟩
 case round=>
  obtain⟨n,hn,rfl,hv,hbw⟩:=hrel;rcases aGg n with rfl | hp
  ·go_wp2;go_ret;refine⟨hbw,_,rfl,?_,fun Z hZ=>hZ.less (aEy _)⟩;have a0:val l=0:=by have:=hv.o;simpa[val] using this.symm
   rw[a0,bF];exact⟨A,c,rfl,by simp[ni],by omega,fun h=>absurd h (by simp[ni])⟩
  ·obtain⟨k,rfl⟩:∃ k,n=k+1:=⟨n-1,by omega⟩;obtain⟨g,off,rfl,hg,hx⟩:=hA.o (by omega);have h1:=(hbw.cell (p:=⟨g,off+k,none⟩) hg).trans (hx k (by omega));replace hx:=zz hx;go_wp2
   ·have hz:((l[k]:Nat):Int)=0:=ZU (by assumption);go_roundw
    case rel=>exact⟨k,by omega,rfl,zz (NG (by omega) hv.o (by omega)),hbw⟩
    case measure=>simp[aAj]
   ·have hz:((l[k]:Nat):Int)≠0:=aBn (by assumption);go_ret;refine⟨hbw,.slice (some ⟨g,off,none⟩) (k+1) c,rfl,?_,fun Z hZ=>hZ.less (by omega)⟩;rw[← yI HS.o hn hv.o (.inr ⟨by omega,by simp only[aLa];omega⟩)];have hl':(l.take (k+1)).length=k+1:=by simp;omega
    refine⟨_,c,by rw[aC,hl'],by rw[aC];omega,by omega,fun _=>⟨g,off,rfl,by have:=hbw.size;omega,fun j hj=>?_⟩⟩;rw[aC] at hj;rw[JP,hbw.cell (p:=⟨g,off+j,none⟩) hg,hx.o j (by omega)];simp
theorem lC (w:World) (v:Value) (l:List Nat) (h:RN w w.heap.size v l) (hs:Small l) :
  CV 136 #[v] w fun e w'=>∃ v',e=.returned v'∧RN w' w'.heap.size v' (dig (val l)):=
 (rL w v l h hs).mono fun _ _ ⟨hb,v',he,hv,_⟩=>⟨hb,v',he,hv⟩
theorem ZR {d:List Nat} {l:List Nat} (hk:k<l.length) (hd:d.length=k) (hs:Small d) (hv:val d+bp k*c=val (l.take k)*n) :
  (d++[(l[k]*n+c) % 1000000000]).length=k+1∧Small (d++[(l[k]*n+c) % 1000000000]) ∧
  val (d++[(l[k]*n+c) % 1000000000])+bp (k+1)*((l[k]*n+c) / 1000000000)=val (l.take (k+1))*n:=by
 refine⟨by simp[hd],hs.append (aJn (aGp _ (by omega)) aIi),?_⟩;rw[aFt hk,dJ,dJ,hd,aEk,aFw (by omega),aGl,← hv,eQ];have h:=aHv (l[k]*n+c) 1000000000;generalize (l[k]*n+c) / 1000000000=q at *
 generalize (l[k]*n+c) % 1000000000=r at *
 have h2:bp k*(l[k]*n+c)=bp k*(1000000000*q+r):=by rw[h]
 simp only[aGk,aGe,aJv (1000000000:Nat)] at h2 ⊢
 omega
theorem UP (w:World) (v:Value) (l:List Nat) (n:Nat) (h:RN w w.heap.size v l) (hs:Small l) (hn:n≤1000000000) (hl0:l.length≤3000000000) :
  CV 146 #[v,.int .i64 n] w fun e w'=>∃ g r,e=.returned (.slice (some ⟨g,0,none⟩) (l.length+1) (l.length+1))∧w.heap.size≤g ∧
   r.length=l.length+1∧Small r∧val r=val l*n∧Own w' g (ni r):=by
 obtain⟨A,c,rfl,hc,hc',hA⟩:=h.cell;have HR:=zz h;have HS:=zz hs;replace hA:=zz hA;clear h hs;have hmk:=oD (l.length+1) (by omega);simp only[aIe,aNq] at hmk
 go_enter Tryz.func146,Tryz.ntmps146
 go_wp2;have hown:=nW w (l.length+1);have a0:Below w.heap.size w (w.alloc (bC (l.length+1))):=(aDy _ _).alloc (aEa _) _;generalize hg:w.heap.size=g at *
 generalize w.alloc (bC (l.length+1))=w1 at *
 go_loopw [6,16] (fun cv i wr=>∃ (k cr:Nat) (d:List Nat),k≤l.length∧i=.int .i64 k∧cv=.int .i64 cr∧cr<1000000000∧Hi (d.length=k∧Small d∧val d+bp k*cr=val (l.take k)*n) ∧
   Below g w wr∧Own wr g (ni d++List.replicate (l.length-k+1) 0)) (fun _ i _=>l.length-(intOf i).toNat)
 case atStart=>exact⟨0,0,[],by omega,rfl,rfl,by omega,zz ⟨rfl,aIi,by simp[val]⟩,a0,by simpa[ni] using hown⟩
 case round=>
  obtain⟨k,cr,d,hk,rfl,rfl,hcr,hd,hbw,ho⟩:=hrel;obtain⟨hd1,hd2,hd3⟩:=hd.o;have HD:=zz (show d.length=k from hd1);have H3:=zz hd3;have H2:=zz hd2;clear hd1 hd2 hd3 hd;have hgw:g<wr.heap.size:=ho.lt;by_cases hlt:k<l.length
  ·obtain⟨b,off,rfl,hb,hx⟩:=hA.o (by omega);have h1:=(hbw.cell (p:=⟨b,off+k,none⟩) hb).trans (hx k (by omega));replace hx:=zz hx;obtain⟨m,hm⟩:∃ m,l.length-k+1=m+1:=⟨l.length-k,rfl⟩;rw[hm] at ho;have hc2:=DP ho HD.o;have hf2:=ho.frozen k;have HM:=zz hm;have HO:=zz ho;clear hm ho;have hxb:l[k]<1000000000:=HS.o _ (aEc hlt);have hxn0:(0:Int)≤(l[k]:Int)*(n:Int):=by exact Int.mul_nonneg (by omega) (by omega)
   have hxn:(l[k]:Int)*(n:Int)≤1000000000*1000000000:=Int.mul_le_mul (by omega) (by omega) (by omega) (by omega);go_wp2;obtain⟨s1,s2,s3⟩:=ZR hlt HD.o H2.o H3.o;go_roundw
   case rel=>
    have hq:l[k]*n≤999999999*1000000000:=aGs (by omega) hn;exact⟨k+1,(l[k]*n+cr) / 1000000000,_,by omega,by go_num,by go_num,by omega,zz ⟨s1,s2,s3⟩,hbw.setCell (aEa _) _,by
     rw[show l.length-(k+1)+1=m by have:=HM.o;omega];exact NT HO.o HD.o (by omega)⟩
   case measure=>exact ms
  ·obtain rfl:k=l.length:=by omega
   rw[Nat.sub_self] at ho;have hc2:=DP ho HD.o;have hf2:=ho.frozen l.length;have HO:=zz ho;clear ho;go_wp2;go_ret;refine⟨by rw[hg];exact hbw.setCell (aEa _) _,g,d++[cr],rfl,by omega,by simp[HD.o],H2.o.append (aJn hcr aIi),?_,by simpa using NT HO.o HD.o rfl⟩;have:=H3.o;rw[aFe] at this;rw[dJ,HD.o,this]
def fU (c:Int) (a b:Nat):Prop:=(c<0↔a<b)∧(c=0↔a=b)
theorem DH (h:(dig a).length≠(dig b).length):fU (((dig a).length:Int)-((dig b).length:Int)) a b:=by
 unfold fU;rcases Nat.lt_or_gt_of_ne h with h | h <;> have:=ZQ h <;> omega
theorem NL (hl:(dig a).length=(dig b).length) (hk:k<(dig a).length) (hk':k<(dig b).length) (hd:(dig a).drop (k+1)=(dig b).drop (k+1))
  (hne:(dig a)[k]≠(dig b)[k]):fU (((dig a)[k]:Int)-((dig b)[k]:Int)) a b:=by
 have h1:=UO (aH a) hl hk hd;have h2:=UO (aH b) hl.symm hk' hd.symm;rw[aQ,aQ,bJ hk,bJ hk'] at h1 h2;unfold fU;rcases Nat.lt_or_gt_of_ne hne with h | h
 ·have:=h1 h;omega
 ·have:=h2 h;omega
theorem YP (h:dig a=dig b):fU 0 a b:=by
 have:=OP h;unfold fU;omega
theorem zI {l m:List Nat} (hl:k<l.length) (hm:k<m.length) (h:l[k]=m[k]) (hd:l.drop (k+1)=m.drop (k+1)):l.drop k=m.drop k:=by
 rw[aFd hl,aFd hm,h,hd]
theorem oF (w:World) (va vb:Value) (a b:Nat) (ha:RN w w.heap.size va (dig a)) (hb:RN w w.heap.size vb (dig b)) :
  CV 99 #[va,vb] w fun e _=>∃ c:Int,e=.returned (.int .i64 c)∧fU c a b:=by
 obtain⟨A,ca,rfl,hca,hca',hA⟩:=ha.cell;obtain⟨Bb,cb,rfl,hcb,hcb',hB⟩:=hb.cell;have hla:(dig a).length≤9223372036854775807:=by omega
 have hlb:(dig b).length≤9223372036854775807:=by omega
 have hsa:=zz (aH a);have hsb:=zz (aH b);clear ha hb;by_cases hne:(dig a).length=(dig b).length
 ·have HL:=zz hne;have hA:=zz hA;have hB:=zz hB;have hle:((dig a).length:Int)≤(dig b).length:=by omega
  have hge:((dig b).length:Int)≤(dig a).length:=by omega
  clear hne;go_enter Tryz.func99,Tryz.ntmps99
  go_wp2;go_loopw [5] (fun i wr=>∃ n:Int,i=.int .i64 n∧-1≤n∧n<(dig a).length∧Hi ((dig a).drop (n+1).toNat=(dig b).drop (n+1).toNat)∧Below w.heap.size w wr) (fun i _=>(intOf i+1).toNat)
  case atStart=>exact⟨_,rfl,by omega,by omega,by rw[aGa (by omega),aGa (by omega)];rfl,aDy _ _⟩
  case round=>
   obtain⟨n,rfl,hn1,hn2,hd,hbw⟩:=hrel;by_cases hn:0≤n
   ·obtain⟨k,rfl⟩:=aIp hn;obtain⟨g,off,rfl,hg,hx⟩:=hA.o (by omega);obtain⟨g',off',rfl,hg',hx'⟩:=hB.o (by omega);have h1:=(hbw.cell (p:=⟨g,off+k,none⟩) hg).trans (hx k (by omega));have h2:=(hbw.cell (p:=⟨g',off'+k,none⟩) hg').trans (hx' k (by omega));clear hx hx';have hka:k<(dig a).length:=by omega
    have hkb:k<(dig b).length:=by omega
    have hba:(dig a)[k]<1000000000:=hsa.o _ (aEc hka);have hbb:(dig b)[k]<1000000000:=hsb.o _ (aEc hkb);go_wp2;go_quiet (fail)
    go_wp2
    ·go_quiet (fail)
     go_wp2;have hne:(dig a)[k]≠(dig b)[k]:=UF (by assumption);go_ret;exact⟨aS (aS hbw _) _,_,rfl,NL HL.o hka hkb (by simpa using hd.o) hne⟩
    ·have he:(dig a)[k]=(dig b)[k]:=UG (by assumption);go_roundw
     case rel=>exact⟨_,rfl,by omega,by omega,zz (by simpa using zI hka hkb he (by simpa using hd.o)),aS hbw _⟩
     case measure=>simp[intOf]
   ·obtain rfl:n=-1:=by omega
    have he:=hd.o;simp only[Int.reduceNeg,Int.reduceAdd,Int.toNat_zero,aKf] at he
    have HE:=zz he;clear he hd;go_wp2;go_ret;exact⟨hbw,_,rfl,YP HE.o⟩
 ·go_enter Tryz.func99,Tryz.ntmps99
  go_wp2;go_ret;exact⟨aDy _ _,_,rfl,DH hne⟩
theorem FZ (w:World) (va:Value) (a n:Nat) (ha:RN w w.heap.size va (dig a)) (hl:(dig a).length≤3000000000) (hn:0<n) (hn':n≤1000000000) :
  CV 145 #[va,.int .i64 n] w fun e w'=>∃ v,e=.returned (.tuple #[v,.int .i64 ((a % n:Nat):Int)])∧RN w' w'.heap.size v (dig (a / n))∧NewC w.heap.size v:=by
 obtain⟨A,ca,rfl,hca,hca',hA⟩:=ha.cell;replace hA:=zz hA;clear ha;have hmk:=oD (dig a).length (by omega);go_enter Tryz.func145,Tryz.ntmps145
 go_wp2;have ho1:=nW w (dig a).length;have b0:Below w.heap.size w (w.alloc (bC (dig a).length)):=(aDy _ _).alloc (aEa _) _;generalize hg:w.heap.size=g at *
 generalize w.alloc (bC (dig a).length)=w1 at *
 go_loopw [7,8] (fun rv i wr=>∃ (m:Int) (rest:Nat) (q:List Nat),-1≤m∧m<(dig a).length∧i=.int .i64 m∧rv=.int .i64 rest∧rest<n ∧
   Hi (q.length+(m+1).toNat=(dig a).length∧Small q∧val ((dig a).drop (m+1).toNat)=val q*n+rest)∧Below g w wr∧Own wr g (List.replicate (m+1).toNat 0++ni q)) (fun _ i _=>(intOf i+1).toNat)
 case atStart=>exact⟨_,0,[],by omega,by omega,rfl,rfl,hn,zz ⟨by simp,aIi,by rw[aGa (by omega)];simp[val]⟩,b0,by
  rw[show((((dig a).length:Int)-1+1).toNat)=(dig a).length by omega];simpa[ni] using ho1⟩
 case round=>
  clear b0 ho1;obtain⟨m,rest,q,hm1,hm2,rfl,rfl,hr,hP,hbw,ho⟩:=hrel;have hgw:g<wr.heap.size:=ho.lt;by_cases hm:0≤m
  ·obtain⟨k,rfl⟩:=aIp hm;obtain⟨bk,off,rfl,hbk,hx⟩:=hA.o (by omega);have hka:k<(dig a).length:=by omega
   have h1:=(hbw.cell (p:=⟨bk,off+k,none⟩) hbk).trans (hx k (by omega));replace hx:=zz hx;rw[show((k:Int)+1).toNat=k+1 by omega] at ho;obtain⟨hp1,hp2,hp3⟩:=hP.o;rw[show((k:Int)+1).toNat=k+1 by omega] at hp1 hp3;have d0:=zz (yW hka hn (aH a) hp3 hr hp2);have e0:=zz hp1;clear hp1 hp2 hp3 hP;have hxk:(dig a)[k]<1000000000:=aH a _ (aEc hka);obtain⟨x,hxx⟩:=ex ((dig a)[k]);rw[← hxx] at h1 hxk d0;clear hxx;have h2:wr.cell? ⟨g,k,none⟩=some (.int .i64 0):=by
    rw[ho.cell k (by simp;omega)];simp
   have hf:=ho.frozen k;have HO:=zz ho;clear ho;go_wp2;go_region
   go_wp2;have hd:rest*1000000000+x<n*1000000000:=by
    have:(rest+1)*1000000000≤n*1000000000:=aEs _ hr
    omega
   go_roundw
   case rel=>
    have h4:=HO.o.set k (((rest*1000000000+x) / n:Nat):Int) (by simp;omega);rw[kC] at h4;have e:(((rest*1000000000+x) / n:Nat):Int)=((rest:Int)*1000000000+(x:Int)) / (n:Int):=by rw[Int.natCast_ediv];rfl
    have e':(((rest*1000000000+x) % n:Nat):Int)=((rest:Int)*1000000000+(x:Int)) % (n:Int):=by rw[Int.natCast_emod];rfl
    rw[e] at h4;have hs:=d0.o;have a0:((k:Int)-1+1).toNat=k:=by omega
    exact⟨_,(rest*1000000000+x) % n,(rest*1000000000+x) / n :: q,by omega,by omega,rfl,by rw[e'],aGp _ hn,zz ⟨by rw[a0];have:=e0.o;simp;omega,hs.2,by rw[a0];exact hs.1⟩,((hbw.drew).setCell (aEa _) _),by rw[a0];exact h4⟩
   case measure=>simp[intOf]
  ·obtain rfl:m=-1:=by omega
   obtain⟨hp1,hp2,hp3⟩:=hP.o;simp only[Int.reduceNeg,Int.reduceAdd,Int.toNat_zero,aKf,List.replicate_zero,aNn,aGd] at hp1 hp3 ho
   have hrn:=iC ho (dig a).length (dig a).length hp1.symm (by omega) (by omega);have HV:=zz hp3;have HQ:=zz hp2;clear hp1 hp2 hp3 hP;go_wp2_with (go_at_call 136;refine(rL _ _ q hrn HQ.o).mono ?_;rintro e w2 ⟨c0,v',rfl,hv',hnw⟩)
   go_ret2;have h:=HV.o;rw[aQ] at h;have h1:a / n=val q:=by
    rw[h];exact Nat.div_eq_of_lt_le (by omega) (by rw[Nat.succ_mul];omega)
   have h2:a % n=rest:=by
    rw[h,aGt,Nat.mul_add_mod];exact aLw hr
   rw[h1,h2];exact⟨by rw[hg];exact hbw.trans (c0.mono (by omega)),_,rfl,hv',by rw[hg];exact hnw _ (NewC.at (aEa _))⟩
theorem XT (w:World) (va:Value) (a n:Nat) (ha:RN w w.heap.size va (dig a)) (hl:(dig a).length≤3000000000) (hn:0<n) (hn':n≤1000000000) :
  CV 145 #[va,.int .i64 n] w fun e w'=>∃ v,e=.returned (.tuple #[v,.int .i64 ((a % n:Nat):Int)])∧RN w' w'.heap.size v (dig (a / n)):=
 (FZ w va a n ha hl hn hn').mono fun _ _ ⟨hb,v,he,hv,_⟩=>⟨hb,v,he,hv⟩
end Go.Proofs.YtencnahjgbdeoaaGreatDoor
namespace Go.Proofs.YtencnahjgbdeoaaGreatDoor.Dig
open Go.Lib
variable {u:Nat} {z:Int}
def NE (c:UInt8):Prop:=48≤c.toNat∧c.toNat≤57
def AllDig (l:List UInt8):Prop:=∀ c∈l,NE c
def num (l:List UInt8):Nat:=l.foldl (fun a c=>a*10+(c.toNat-48)) 0
theorem AllDig.nil:AllDig []:=fun _ h=>by cases h
theorem AllDig.cons {c:UInt8} {l:List UInt8} (h:NE c) (hl:AllDig l):AllDig (c :: l):=fun x hx=>by
 cases hx with
 | head=>exact h
 | tail _ hx=>exact hl x hx
theorem AllDig.append {l m:List UInt8} (h:AllDig l) (k:AllDig m):AllDig (l++m):=fun x hx=>by
 rcases aGb.1 hx with hx | hx
 ·exact h x hx
 ·exact k x hx
theorem AllDig.take {l:List UInt8} (h:AllDig l) (n:Nat):AllDig (l.take n):=fun x hx=>h x (List.mem_of_mem_take hx)
theorem AllDig.drop {l:List UInt8} (h:AllDig l) (n:Nat):AllDig (l.drop n):=fun x hx=>h x (List.mem_of_mem_drop hx)
theorem ZD:num []=0:=rfl
theorem ZE (l:List UInt8):∀ a,l.foldl (fun a c=>a*10+(c.toNat-48)) a=a*10 ^ l.length+num l:=by
 induction l with
 | nil=>intro a;simp[num]
 | cons c l ih=>
  intro a;unfold num;rw[List.foldl_cons,List.foldl_cons,ih,ih,aEl,aMa];simp only[aGl,aLf,aIx]
  rw[aGe,aGt 10]
  omega
theorem pY (l m:List UInt8):num (l++m)=num l*10 ^ m.length+num m:=by
 show List.foldl _ 0 (l++m)=_
 rw[List.foldl_append,ZE];rfl
theorem mW (c:UInt8) (l:List UInt8):num (c :: l)=(c.toNat-48)*10 ^ l.length+num l:=by
 have h:=pY [c] l
 simpa[num] using h
theorem DQ (l:List UInt8) (c:UInt8):num (l++[c])=num l*10+(c.toNat-48):=by
 rw[pY];simp[num]
theorem JO {l:List UInt8} (h:AllDig l):num l<10 ^ l.length:=by
 induction l with
 | nil=>simp[num]
 | cons c l ih=>
  have h1:=ih (fun x hx=>h x (aFo _ hx));have h2:=(h c (aFh ..)).2;have h3:c.toNat-48≤9:=by omega
  have h4:=aEs (10 ^ l.length) h3;rw[mW,aEl,aMa]
  omega
theorem uG {c:UInt8} {l:List UInt8} (h:NE c) (h0:c≠48):0<num (c :: l):=by
 have h1:c.toNat≠48:=fun e=>h0 (UInt8.toNat_inj.1 e)
 have h2:1≤c.toNat-48:=by have:=h.1;omega
 have h3:=aEs (10 ^ l.length) h2;have h4:0<10 ^ l.length:=Nat.pow_pos (by omega);rw[mW]
 omega
theorem eJ {d:Nat} (h:d<10):(UInt8.ofNat (48+d)).toNat=48+d:=by
 rw[UInt8.toNat_ofNat'];omega
theorem sC (h:u<10):decDigits u=[UInt8.ofNat (48+u)]:=by rw[decDigits,dif_pos h]
theorem uM (h:¬ u<10):decDigits u=decDigits (u / 10)++[UInt8.ofNat (48+u % 10)]:=by rw[decDigits,dif_neg h]
theorem JT (u:Nat):AllDig (decDigits u):=by
 induction u using Nat.strongRecOn with
 | _ u ih=>
  by_cases h:u<10
  ·rw[sC h];exact AllDig.cons ⟨by rw[eJ h];omega,by rw[eJ h];omega⟩ AllDig.nil
  ·rw[uM h];have hm:u % 10<10:=aGp _ (by omega);exact(ih (u / 10) (by omega)).append (AllDig.cons ⟨by rw[eJ hm];omega,by rw[eJ hm];omega⟩ AllDig.nil)
theorem UD (u:Nat):num (decDigits u)=u:=by
 induction u using Nat.strongRecOn with
 | _ u ih=>
  by_cases h:u<10
  ·rw[sC h];show 0*10+_=_;rw[eJ h];omega
  ·rw[uM h,DQ,ih (u / 10) (by omega),eJ (aGp _ (by omega))];omega
theorem UN {a b:Nat} (h:decDigits a=decDigits b):a=b:=by rw[← UD a,h,UD]
theorem ZN (h:u≠0):∃ c r,decDigits u=c :: r∧c≠48:=by
 induction u using Nat.strongRecOn with
 | _ u ih=>
  by_cases h1:u<10
  ·refine⟨_,[],sC h1,fun e=>?_⟩;have:=aIl UInt8.toNat e;rw[eJ h1] at this;have h48:(48:UInt8).toNat=48:=by decide
   omega
  ·obtain⟨c,r,e,hc⟩:=ih (u / 10) (by omega) (by omega);exact⟨c,r++[UInt8.ofNat (48+u % 10)],by rw[uM h1,e];rfl,hc⟩
theorem aAl (u:Nat):decDigits u≠[]:=by
 intro h;have:=aIl List.length h;rw[decDigits_length] at this;have:=nDigits_pos u;simp at *
 omega
theorem OR:decDigits 0=[48]:=by rw[sC (by omega)];rfl
theorem UM:∀ (n:Nat) (c:UInt8) (l:List UInt8),l.length=n→AllDig (c :: l)→c≠48→decDigits (num (c :: l))=c :: l
 | 0,c,l,hn,ha,h0=>by
  obtain rfl:=aGh hn;have hc:=ha c (aFh ..);have e:num [c]=c.toNat-48:=by simp[num]
  have hlt:c.toNat-48<10:=by have:=hc.2;omega
  rw[e,sC hlt]
  congr 1
  apply UInt8.toNat_inj.1
  rw[eJ hlt];have:=hc.1;omega
 | n+1,c,l,hn,ha,h0=>by
  obtain⟨m,x,rfl⟩:∃ m x,l=m++[x]:=⟨l.dropLast,l.getLast (by intro e;rw[e] at hn;simp at hn),(List.dropLast_concat_getLast _).symm⟩;have hm:AllDig (c :: m):=fun y hy=>ha y (by rw[← aKs];exact aKg _ hy)
  have hx:=ha x (by rw[← aKs];exact aLh _ (aHt.2 rfl));have hp:=uG (l:=m) (hm c (aFh ..)) h0;have ih:=UM n c m (by simpa using hn) hm h0;have hlt:x.toNat-48<10:=by have:=hx.2;omega
  rw[← aKs,DQ,uM (by omega)];have h1:(num (c :: m)*10+(x.toNat-48)) / 10=num (c :: m):=by omega
  have h2:(num (c :: m)*10+(x.toNat-48)) % 10=x.toNat-48:=by omega
  rw[h1,h2,ih]
  congr 2
  apply UInt8.toNat_inj.1
  rw[eJ hlt];have:=hx.1;omega
theorem aAk {l:List UInt8} {c:UInt8} {r:List UInt8} (hl:l=c :: r) (ha:AllDig l) (h0:c≠48) {u:Nat} (hu:num l=u):decDigits u=l:=by
 subst hl;rw[← hu];exact UM _ c r rfl ha h0
theorem aCk {k:Nat} (hk:1≤k):nDigits u≤k↔u<10 ^ k:=by
 constructor
 ·intro h;exact aEt (lt_pow_nDigits u) (aLo (by omega) h)
 ·intro h
  induction k generalizing u with
  | zero=>omega
  | succ k ih=>
   by_cases h1:u<10
   ·rw[nDigits_small h1];omega
   ·rw[nDigits_big h1];rcases aGg k with rfl | a0
    ·simp at h;omega
    ·have:=ih (u:=u / 10) (by omega) (by rw[aMa] at h;omega)
     omega
theorem UQ (n:Nat):bp n=10 ^ (9*n):=by
 unfold bp;rw[Nat.pow_mul]
theorem wT (n k:Nat) (hk:1≤k):(decDigits n).length≤9*k↔(dig n).length≤k:=by
 rw[decDigits_length,aCk (by omega),aU,UQ]
theorem TC {t:List UInt8} (ha:AllDig t) {e:Nat} (he:e≤t.length) (hp:num (t.take e)≠0):dig (num (t.take e))=num ((t.take e).drop (e-9)) :: dig (num (t.take (e-9))):=by
 have hs:num (t.take e)=num (t.take (e-9))*10 ^ (e-(e-9))+num ((t.take e).drop (e-9)):=by
  have h:=pY ((t.take e).take (e-9)) ((t.take e).drop (e-9));rw[aHw,List.take_take,aFw (by omega),aJq,aEk,aFw he] at h;exact h
 have hlt:=JO ((ha.take e).drop (e-9));rw[aJq,aEk,aFw he] at hlt;rw[mC hp];by_cases h9:9≤e
 ·have e9:e-(e-9)=9:=by omega
  rw[e9] at hs hlt;have hlt':num ((t.take e).drop (e-9))<1000000000:=hlt;have hs':num (t.take e)=num (t.take (e-9))*1000000000+num ((t.take e).drop (e-9)):=hs;have h1:num (t.take e) % 1000000000=num ((t.take e).drop (e-9)):=by omega
  have h2:num (t.take e) / 1000000000=num (t.take (e-9)):=by omega
  rw[h1,h2]
 ·have e0:e-9=0:=by omega
  rw[e0] at hs hlt ⊢;simp only[List.take_zero,ZD,aLf,aIx,aKf,Nat.sub_zero] at hs hlt ⊢
  have hlt':num (t.take e)<1000000000:=aEt hlt (by
   have:=aLo (show 0<10 by omega) (show e≤9 by omega);exact this)
  rw[aLw hlt',aNa hlt',bF]
noncomputable def iA (s:List UInt8):Option Int:=open Classical in if h:∃ z,itoa z=s then some h.choose else none
theorem gQ (h:0≤z):itoa z=decDigits z.natAbs:=by unfold itoa;rw[aEu (by omega),show z.toNat=z.natAbs by omega]
theorem jO (h:z<0):itoa z=45 :: decDigits z.natAbs:=by unfold itoa;rw[aEv h]
theorem vJ (u:Nat) (r:List UInt8):decDigits u≠45 :: r:=fun e=>by
 have h:=JT u 45 (by rw[e];exact aFh ..);have:=h.1
 revert this;decide
theorem EF {a b:Int} (h:itoa a=itoa b):a=b:=by
 by_cases ha:a<0 <;> by_cases hb:b<0
 ·rw[jO ha,jO hb] at h;have:=UN (List.cons.inj h).2
  omega
 ·rw[jO ha,gQ (by omega)] at h;exact absurd h.symm (vJ _ _)
 ·rw[gQ (by omega),jO hb] at h;exact absurd h (vJ _ _)
 ·rw[gQ (by omega),gQ (by omega)] at h;have:=UN h
  omega
theorem xE (z:Int):iA (itoa z)=some z:=by
 have h:∃ y,itoa y=itoa z:=⟨z,rfl⟩;unfold iA;rw[dif_pos h,EF h.choose_spec]
theorem FO {s:List UInt8} (h:itoa z=s):iA s=some z:=by rw[← h,xE]
theorem qH {s:List UInt8} (h:iA s=some z):itoa z=s:=by
 unfold iA at h
 split at h
 ·rename_i hx
  have:=hx.choose_spec;rw[aKh h] at this;exact this
 ·cases h
theorem qI {s:List UInt8} (h:∀ z,itoa z≠s):iA s=none:=by
 unfold iA;rw[dif_neg (fun⟨z,e⟩=>h z e)]
def eB (s:List UInt8):List UInt8:=match s with | 45 :: r=>r | s=>s
theorem zT (r:List UInt8):eB (45 :: r)=r:=rfl
theorem qJ {c:UInt8} (r:List UInt8) (h:c≠45):eB (c :: r)=c :: r:=by
 unfold eB;split
 ·rename_i e;exact absurd (List.cons.inj e).1 h
 ·rfl
theorem tE (z:Int):eB (itoa z)=decDigits z.natAbs:=by
 by_cases h:z<0
 ·rw[jO h];rfl
 ·rw[gQ (by omega)];obtain⟨c,r,e⟩:∃ c r,decDigits z.natAbs=c :: r:=by
   cases hx:decDigits z.natAbs with
   | nil=>exact absurd hx (aAl _)
   | cons c r=>exact⟨c,r,rfl⟩
  rw[e];exact qJ r (fun ec=>vJ z.natAbs r (by rw[e,ec]))
theorem JC {s:List UInt8} (h:eB s=[]):iA s=none:=qI fun z e=>by
 rw[← e,tE] at h;exact aAl _ h
theorem CG {s:List UInt8} (h:¬ AllDig (eB s)):iA s=none:=qI fun z e=>by
 rw[← e,tE] at h;exact h (JT _)
theorem ML {s r:List UInt8} (h:eB s=48 :: r) (h0:s≠[48]):iA s=none:=qI fun z e=>by
 rw[← e,tE] at h;by_cases hz:z.natAbs=0
 ·apply h0
  rw[← e,show z=0 by omega];exact OR
 ·obtain⟨c,r',e',hc⟩:=ZN hz;rw[e'] at h;exact hc (List.cons.inj h).1
theorem xD:iA [48]=some 0:=FO (by rw[gQ (by omega)];exact OR)
def jZ (neg:Bool) (n:Nat):Int:=if neg then -(n:Int) else n
theorem zR {s r:List UInt8} {c:UInt8} (h:eB s=c :: r) (ha:AllDig (eB s)) (h0:c≠48):iA s=some (jZ (decide (eB s≠s)) (num (eB s))):=by
 have hd:=aAk h ha h0 rfl;have hp:0<num (eB s):=by rw[h];exact uG (ha c (by rw[h];exact aFh ..)) h0
 refine FO ?_;by_cases hs:eB s=s
 ·have:jZ (decide (eB s≠s)) (num (eB s))=(num (eB s):Int):=by simp[jZ,hs]
  rw[this,gQ (by omega),aEr,hd,hs]
 ·have:jZ (decide (eB s≠s)) (num (eB s))=-(num (eB s):Int):=by simp[jZ,hs]
  rw[this,jO (by omega),aKu,aEr,hd];unfold eB at hs ⊢
  split
  ·rfl
  ·rename_i h';split at hs
   ·rename_i r';exact absurd rfl (h' r')
   ·exact absurd rfl hs
noncomputable def bA (s:List UInt8):Int × Int:=match iA s with
 | none=>(0,5)
 | some z=>if (dig z.natAbs).length≤600 then (z,0) else (0,6)
theorem kK {s:List UInt8} (h:iA s=none):bA s=(0,5):=by unfold bA;rw[h]
theorem kJ {s:List UInt8} (h:iA s=some z) (hl:(dig z.natAbs).length≤600):bA s=(z,0):=by unfold bA;rw[h];exact aEv hl
theorem tT {s:List UInt8} (h:iA s=some z) (hl:¬ (dig z.natAbs).length≤600):bA s=(0,6):=by unfold bA;rw[h];exact aEu hl
theorem yX:∀ (l:List UInt8) (acc:Nat),AllDig l→acc<18446744073709551616→parseUint10 acc l=if acc*10 ^ l.length+num l<18446744073709551616 then .ok (acc*10 ^ l.length+num l) else .range
 | [],acc,_,hacc=>by simp[parseUint10,num,hacc]
 | c :: r,acc,ha,hacc=>by
  have hc:=ha c (aFh ..);have hr:AllDig r:=fun x hx=>ha x (aFo _ hx)
  have e:acc*10 ^ (c :: r).length+num (c :: r)=(acc*10+(c.toNat-48))*10 ^ r.length+num r:=by
   rw[mW,aEl,aMa,aGl,aGe acc 10,aGt 10];omega
  have hp:0<10 ^ r.length:=Nat.pow_pos (by omega);rw[e,parseUint10,aEv ⟨hc.1,hc.2⟩];by_cases h1:18446744073709551616≤acc*10+(c.toNat-48)
  ·have h2:18446744073709551616*1≤(acc*10+(c.toNat-48))*10 ^ r.length:=aGs h1 hp;have h3:¬ ((acc*10+(c.toNat-48))*10 ^ r.length+num r<18446744073709551616):=by omega
   rw[aEu h3]
   split
   ·rfl
   ·rfl
  ·rw[aEu (show ¬ 1844674407370955162≤acc by omega),aEu h1];exact yX r _ hr (by omega)
theorem ZI {l:List UInt8} (h:l≠[]) (ha:AllDig l):parseMag l=if num l<18446744073709551616 then .ok (num l) else .range:=by
 unfold parseMag;rw[aEu h,yX l 0 ha (by omega)];simp
theorem XJ {l:List UInt8} (h:l≠[]) (ha:AllDig l):atoiAll l=if num l<9223372036854775808 then .ok (num l:Int) else .range:=by
 cases l with
 | nil=>exact absurd rfl h
 | cons c r=>
  have hc:=ha c (aFh ..);have h1:¬ (c.toNat=43∨c.toNat=45):=by have:=hc.1;omega
  have h2:¬ c.toNat=45:=by omega
  unfold atoiAll;simp only[aEu h1,ZI h ha]
  by_cases h3:num (c :: r)<18446744073709551616
  ·rw[aEv h3];simp only[h2,not_false_eq_true,true_and,false_and,if_false]
   by_cases h4:num (c :: r)<9223372036854775808
   ·rw[aEv h4,aEu (by omega)]
   ·rw[aEu h4,aEv (by omega)]
  ·rw[aEu h3,aEu (by omega)]
end Go.Proofs.YtencnahjgbdeoaaGreatDoor.Dig
namespace Go.Proofs.YtencnahjgbdeoaaGreatDoor.Dig
variable {c k:Nat} {ds x y:List Nat}
theorem eO (x:List Nat) (k:Nat):val (x.take (k+1))=val (x.take k)+bp k*x.getD k 0:=by
 by_cases h:k<x.length
 ·rw[aFt h,dJ,aEk,aFw (by omega),bJ h]
 ·rw[aFa (by omega),aFa (by omega),aEi,aFm (by omega)];simp
structure SumA (x y:List Nat) (k c:Nat) (ds:List Nat):Prop where
 len:ds.length=k
 small:Small ds
 sum:val ds+bp k*c=val (x.take k)+val (y.take k)
 carry:c≤1
theorem SumA.start (x y:List Nat):SumA x y 0 0 []:=⟨rfl,aIi,by simp[val],by omega⟩
theorem SumA.step (h:SumA x y k c ds) (hx:Small x) (hy:Small y) :
  SumA x y (k+1) ((x.getD k 0+y.getD k 0+c) / 1000000000) (ds++[(x.getD k 0+y.getD k 0+c) % 1000000000]):=by
 have h1:=hx.getD k;have h2:=hy.getD k;have h3:=h.carry;refine⟨by rw[aEp,h.len];rfl,h.small.append (aJn (aGp _ (by omega)) aIi),?_,by omega⟩;rw[dJ,eO,eO,h.len,eQ];have hs:=h.sum;have hm:=aHv (x.getD k 0+y.getD k 0+c) 1000000000;generalize (x.getD k 0+y.getD k 0+c) / 1000000000=q at *
 generalize (x.getD k 0+y.getD k 0+c) % 1000000000=r at *
 generalize x.getD k 0=a at *
 generalize y.getD k 0=b at *
 generalize bp k=p at *
 have e:1000000000*p*q+p*r=p*a+p*b+p*c:=by
  rw[← aGk,← aGk,← hm,aGk,← aGe,aGt 1000000000 p]
 omega
theorem SumA.stop (h:SumA x y k 0 ds) (hx:x.length≤k) (hy:y.length≤k):val ds=val x+val y:=by
 have hs:=h.sum;rw[aFa hx,aFa hy] at hs
 omega
theorem SumA.past (hx:x.length≤k) (hy:y.length≤k) (hc:c≤1):(x.getD k 0+y.getD k 0+c) / 1000000000=0:=by
 have e:∀ l:List Nat,l.length≤k→l.getD k 0=0:=fun l hl=>by rw[aEi,aFm hl];rfl
 rw[e x hx,e y hy];omega
structure DiffA (x y:List Nat) (k c:Nat) (ds:List Nat):Prop where
 len:ds.length=k
 small:Small ds
 sum:val ds+val (y.take k)=val (x.take k)+bp k*c
 carry:c≤1
theorem DiffA.start (x y:List Nat):DiffA x y 0 0 []:=⟨rfl,aIi,by simp[val],by omega⟩
theorem DiffA.step_up {d:Nat} (h:DiffA x y k c ds) (hx:Small x) (hd:d+(y.getD k 0+c)=x.getD k 0) :
  DiffA x y (k+1) 0 (ds++[d]):=by
 have h1:=hx.getD k;refine⟨by rw[aEp,h.len];rfl,h.small.append (aJn (by omega) aIi),?_,by omega⟩;rw[dJ,eO,eO,h.len,eQ];have hs:=h.sum;rw[← hd];generalize y.getD k 0=b at *
 generalize bp k=p at *
 have e:p*(d+(b+c))=p*d+p*b+p*c:=by rw[aGk,aGk];omega
 rw[e]
 omega
theorem DiffA.step_down {d:Nat} (h:DiffA x y k c ds) (hd:d+(y.getD k 0+c)=x.getD k 0+1000000000) (hd1:d<1000000000) :
  DiffA x y (k+1) 1 (ds++[d]):=by
 refine⟨by rw[aEp,h.len];rfl,h.small.append (aJn hd1 aIi),?_,by omega⟩;rw[dJ,eO,eO,h.len,eQ];have hs:=h.sum;generalize y.getD k 0=b at *
 generalize x.getD k 0=a at *
 generalize bp k=p at *
 have e:p*(d+(b+c))=p*d+p*b+p*c:=by rw[aGk,aGk];omega
 have e':p*(a+1000000000)=p*a+1000000000*p:=by rw[aGk,aGt p 1000000000]
 have e2:p*d+p*b+p*c=p*a+1000000000*p:=by rw[← e,hd,e']
 omega
theorem DiffA.stop (h:DiffA x y x.length c ds) (hy:y.length≤x.length) (hle:val y≤val x):val ds+val y=val x:=by
 have hs:=h.sum;rw[aFa hy,aFa (aEa _)] at hs;have hlt:=eU h.small;rw[h.len] at hlt;have hc:=h.carry;have:c=0:=by
  rcases aGg c with h0 | h0
  ·exact h0
  ·have h1:c=1:=by omega
   subst h1
   omega
 subst this
 omega
end Go.Proofs.YtencnahjgbdeoaaGreatDoor.Dig
namespace Go.Proofs.YtencnahjgbdeoaaGreatDoor
open Go Go.RowKit Dig
variable {L T i j k:Nat} {c:Int} {d:List Int} {x y:List Nat}
theorem WI {a b:Nat} (h:(dig a).length≠(dig b).length):decide ((dig a).length<(dig b).length)=decide (a<b):=by
 rw[aIu];have:=DH h;unfold fU at this;omega
theorem ZJ {a b:Nat} (hl:(dig a).length=(dig b).length) (hk:k<(dig a).length) (hk':k<(dig b).length) (hd:(dig a).drop (k+1)=(dig b).drop (k+1))
  (hne:(dig a)[k]≠(dig b)[k]):decide ((dig a)[k]<(dig b)[k])=decide (a<b):=by
 rw[aIu];have:=NL hl hk hk' hd hne;unfold fU at this;omega
theorem oR (w:World) (va vb:Value) (a b:Nat) (ha:RN w w.heap.size va (dig a)) (hb:RN w w.heap.size vb (dig b)) :
  CV 150 #[va,vb] w fun e _=>e=.returned (.bool (decide (a<b))):=by
 obtain⟨A,ca,rfl,hca,hca',hA⟩:=ha.cell;obtain⟨Bb,cb,rfl,hcb,hcb',hB⟩:=hb.cell;have hla:(dig a).length≤9223372036854775807:=by omega
 have hlb:(dig b).length≤9223372036854775807:=by omega
 have hsa:=zz (aH a);have hsb:=zz (aH b);clear ha hb;by_cases hne:(dig a).length=(dig b).length
 ·have HL:=zz hne;have hA:=zz hA;have hB:=zz hB;have hle:((dig a).length:Int)≤(dig b).length:=by omega
  have hge:((dig b).length:Int)≤(dig a).length:=by omega
  clear hne;go_enter Tryz.func150,Tryz.ntmps150
  go_wp2;go_loopw [5] (fun i wr=>∃ n:Int,i=.int .i64 n∧-1≤n∧n<(dig a).length∧Hi ((dig a).drop (n+1).toNat=(dig b).drop (n+1).toNat)∧Below w.heap.size w wr) (fun i _=>(intOf i+1).toNat)
  case atStart=>exact⟨_,rfl,by omega,by omega,by rw[aGa (by omega),aGa (by omega)];rfl,aDy _ _⟩
  case round=>
   obtain⟨n,rfl,hn1,hn2,hd,hbw⟩:=hrel;by_cases hn:0≤n
   ·obtain⟨k,rfl⟩:=aIp hn;obtain⟨g,off,rfl,hg,hx⟩:=hA.o (by omega);obtain⟨g',off',rfl,hg',hx'⟩:=hB.o (by omega);have h1:=(hbw.cell (p:=⟨g,off+k,none⟩) hg).trans (hx k (by omega));have h2:=(hbw.cell (p:=⟨g',off'+k,none⟩) hg').trans (hx' k (by omega));clear hx hx';have hka:k<(dig a).length:=by omega
    have hkb:k<(dig b).length:=by omega
    have hba:(dig a)[k]<1000000000:=hsa.o _ (aEc hka);have hbb:(dig b)[k]<1000000000:=hsb.o _ (aEc hkb);go_wp2;go_quiet (fail)
    go_wp2
    ·go_quiet (fail)
     go_wp2;have hne:(dig a)[k]≠(dig b)[k]:=UF (by assumption);go_ret;exact⟨aS (aS hbw _) _,aIl (fun c=>Ending.returned (Value.bool c)) (ZJ HL.o hka hkb (by simpa using hd.o) hne)⟩
    ·have he:(dig a)[k]=(dig b)[k]:=UG (by assumption);go_roundw
     case rel=>exact⟨_,rfl,by omega,by omega,zz (by simpa using zI hka hkb he (by simpa using hd.o)),aS hbw _⟩
     case measure=>simp[intOf]
   ·obtain rfl:n=-1:=by omega
    have he:=hd.o;simp only[Int.reduceNeg,Int.reduceAdd,Int.toNat_zero,aKf] at he
    have HE:=zz (show decide (a<b)=false from aEe (by have:=OP he;omega));clear he hd;go_wp2;go_ret;exact⟨hbw,aIl (fun c=>Ending.returned (Value.bool c)) HE.o.symm⟩
 ·have HE:=zz (WI hne);go_enter Tryz.func150,Tryz.ntmps150
  go_wp2;go_ret;exact⟨aDy _ _,aIl (fun c=>Ending.returned (Value.bool c)) HE.o⟩
theorem XL {l:List Int} (h:l.length≤i):bI l i=0:=by
 unfold bI;rw[aEi,aFm h];rfl
theorem aBs (w:World) (v:Value) (l:List Int) (k:Nat) (h:RI w w.heap.size v l) :
  CV 139 #[v,.int .i64 k] w fun e _=>e=.returned (.int .i64 (bI l k)):=by
 obtain⟨A,c,rfl,hc,hc',hx⟩:=h.at;have hl:l.length≤9223372036854775807:=by omega
 by_cases hk:k<l.length
 ·obtain⟨g,off,rfl,hg,hx⟩:=hx (by omega);have h1:=hx k hk;clear hx;have hki:(k:Int)<(l.length:Int):=by omega
  go_enter Tryz.func139,Tryz.ntmps139
  go_wp2;go_ret;exact⟨aDy _ _,rfl⟩
 ·have HE:=zz (XL (l:=l) (i:=k) (by omega));have hki:(l.length:Int)≤(k:Int):=by omega
  clear hx;go_enter Tryz.func139,Tryz.ntmps139
  go_wp2;go_ret;exact⟨aDy _ _,aIl (fun c=>Ending.returned (Value.int .i64 c)) HE.o.symm⟩
structure ProdI (T L j n:Nat) (d:List Int):Prop where
 len:d.length=L
 small:∀ m,m<L→0≤bI d m∧bI d m<1000000000
 sum:dP d+(bp j:Int)*(n:Int)=(T:Int)
theorem ProdI.room {n:Nat} (h:ProdI T L j n d) (hT:T<bp L) (hn:0<n):j<L:=by
 have h1:=AU (l:=d) (by rw[h.len];exact h.small);have h2:=h.sum;have h3:(bp j:Int)*1≤(bp j:Int)*(n:Int):=aJs (by omega) (by have:=AP j;omega);have h4:bp j<bp L:=by omega
 exact aJp fun h5=>by have:=ND h5;omega
theorem ProdI.step {n:Nat} (h:ProdI T L j n d) (hj:j<L) (o:Nat) (ho:bI d j=(o:Int)) :
  ProdI T L (j+1) ((n+o) / 1000000000) (d.set j (((n+o) % 1000000000:Nat):Int)):=by
 refine⟨by rw[aEz,h.len],fun m hm=>?_,?_⟩
 ·by_cases hjm:j=m
  ·subst hjm;rw[dU (by rw[h.len];exact hm)]
   omega
  ·rw[cN hjm];exact h.small m hm
 ·rw[gM _ (by rw[h.len];exact hj),ho,gT];have h1:=h.sum;have h2:=aHv (n+o) 1000000000;generalize (n+o) / 1000000000=q at *
  generalize (n+o) % 1000000000=r at *
  generalize (bp j:Int)=p at *
  have e:(r:Int)-(o:Int)=(n:Int)-1000000000*(q:Int):=by omega
  rw[e,Int.mul_sub,show(1000000000*p*(q:Int))=p*(1000000000*(q:Int)) by rw[Int.mul_comm 1000000000 p,aJl]]
  omega
def gB (x y:List Nat) (i k:Nat):Nat:=val (x.take i)*val y+bp i*(x.getD i 0*val (y.take k))
theorem iO (h:i<x.length):val (x.take (i+1))=val (x.take i)+bp i*x.getD i 0:=by
 rw[aFt h,dJ,aEk,aFw (by omega),bJ h]
theorem wI (x y:List Nat) (i:Nat):gB x y i 0=val (x.take i)*val y:=by simp[gB,val]
theorem II (x y:List Nat):gB x y 0 0=0:=by simp[gB,val]
theorem KX (i:Nat) {k:Nat} (h:k<y.length):gB x y i (k+1)=gB x y i k+bp (i+k)*(x.getD i 0*y.getD k 0):=by
 unfold gB;rw[iO h,vD,aGk,aGk,← Nat.add_assoc]
 congr 1
 generalize x.getD i 0=a;generalize y.getD k 0=b;rw[aGe,aJv (bp k) a b]
theorem KY (h:i<x.length):gB x y i y.length=gB x y (i+1) 0:=by
 rw[wI,iO h];unfold gB;rw[aFe,aGl,aGe]
theorem RH (x y:List Nat):gB x y x.length 0=val x*val y:=by rw[wI,aFe]
theorem sO (x:List Nat) (i:Nat):val (x.take i)≤val x:=by
 by_cases h:i≤x.length
 ·rw[dF x i h];omega
 ·rw[aFa (by omega)];exact aEa _
theorem VR (hx:Small x) (hy:Small y) {i k:Nat} (hi:i<x.length):gB x y i k<bp (x.length+y.length):=by
 have h1:gB x y i k≤val (x.take (i+1))*val y:=by
  rw[iO hi,aGl,gB,aGe];exact Nat.add_le_add_left (aFf _ (aFf _ (sO y k))) _
 have h2:val (x.take (i+1))*val y≤val x*val y:=aEs _ (sO x _);have h3:val x*val y<bp x.length*bp y.length:=Nat.mul_lt_mul'' (eU hx) (eU hy);rw[vD];omega
theorem ProdI.start (x y:List Nat) (j:Nat):ProdI (gB x y 0 0) (x.length+y.length) j 0 (List.replicate (x.length+y.length) 0):=
 ⟨by simp,fun m _=>by rw[eN];omega,by rw[vX,II];simp⟩
theorem ProdI.begin (h:ProdI (gB x y i k) L j 0 d) (hk:k<y.length):ProdI (gB x y i (k+1)) L (i+k) (x.getD i 0*y.getD k 0) d:=by
 refine⟨h.len,h.small,?_⟩;have h1:=h.sum;rw[KX i hk];simp at h1
 rw[h1];simp
theorem ProdI.any (h:ProdI T L j 0 d) (j':Nat):ProdI T L j' 0 d:=⟨h.len,h.small,by have:=h.sum;simp at this ⊢;exact this⟩
theorem ProdI.fin (h:ProdI T L j 0 d):∃ r:List Nat,d=ni r∧r.length=L∧Small r∧val r=T:=by
 obtain⟨r,h1,h2,h3,h4⟩:=gF (l:=d) (by rw[h.len];exact h.small);have h5:=h.sum;simp at h5
 exact⟨r,h1,by rw[h2,h.len],h3,by omega⟩
theorem KG (x:Int):(Int.tmod x 1000000000<0→Int.tmod x 1000000000+1000000000=x % 1000000000∧Int.tdiv x 1000000000-1=x / 1000000000) ∧
  (0≤Int.tmod x 1000000000→Int.tmod x 1000000000=x % 1000000000∧Int.tdiv x 1000000000=x / 1000000000):=by
 rcases Int.le_total 0 x with h | h
 ·obtain⟨n,rfl⟩:=aIp h;have h1:Int.tdiv (n:Int) 1000000000=((n / 1000000000:Nat):Int):=(Int.ofNat_tdiv n 1000000000).symm;have h2:Int.tmod (n:Int) 1000000000=((n % 1000000000:Nat):Int):=(Int.ofNat_tmod n 1000000000).symm;rw[h1,h2];omega
 ·obtain⟨n,hn⟩:=aIp (show 0≤-x by omega);obtain rfl:x=-(n:Int):=by omega
  have h1:Int.tdiv (-(n:Int)) 1000000000=-((n / 1000000000:Nat):Int):=by rw[Int.neg_tdiv];exact aIl Neg.neg (Int.ofNat_tdiv n 1000000000).symm
  have h2:Int.tmod (-(n:Int)) 1000000000=-((n % 1000000000:Nat):Int):=by rw[Int.neg_tmod];exact aIl Neg.neg (Int.ofNat_tmod n 1000000000).symm
  rw[h1,h2];omega
structure TakeI (x y:List Nat) (k i:Nat) (c:Int) (d:List Int):Prop where
 len:d.length=x.length
 low:∀ m,m<i→0≤bI d m∧bI d m<1000000000
 high:∀ m,i≤m→bI d m=bI (ni x) m
 sum:dP (d.take i)+(bp i:Int)*c=(val (x.take i):Int)-(k:Int)*(val (y.take i):Int)
 c0:c≤0
 ck:-(k:Int)≤c
theorem TakeI.start (x y:List Nat) (k:Nat):TakeI x y k 0 0 (ni x):=
 ⟨aC x,fun m hm=>absurd hm (by omega),fun _ _=>rfl,by simp[dP,val],by omega,by omega⟩
theorem gW (x:List Nat) (k:Nat):val (x.take (k+1))=val (x.take k)+bp k*x.getD k 0:=by
 by_cases h:k<x.length
 ·exact iO h
 ·rw[aFa (by omega),aFa (by omega),aEi,aFm (by omega)];simp
theorem xJ (h:i<d.length):dP (d.take (i+1))=dP (d.take i)+(bp i:Int)*bI d i:=by
 rw[aFt h,kH,aEk,aFw (by omega),fT h];simp[dP]
theorem TakeI.range (h:TakeI x y k i c d) (hx:Small x) (hy:Small y) :
  -1000000000*(k:Int)≤bI d i-(y.getD i 0:Int)*(k:Int)+c∧bI d i-(y.getD i 0:Int)*(k:Int)+c<1000000000:=by
 have h1:=jJ hx i;rw[← h.high i (aEa _)] at h1;have h2:=hy.getD i;have h3:=h.c0;have h4:=h.ck;have h5:(y.getD i 0:Int)*(k:Int)≤999999999*(k:Int):=Int.mul_le_mul_of_nonneg_right (by omega) (by omega);have h6:0≤(y.getD i 0:Int)*(k:Int):=Int.mul_nonneg (by omega) (by omega)
 omega
theorem TakeI.step (h:TakeI x y k i c d) (hx:Small x) (hy:Small y) (hi:i<x.length) (t:Int) (ht:t=bI d i-(y.getD i 0:Int)*(k:Int)+c) :
  TakeI x y k (i+1) (t / 1000000000) (d.set i (t % 1000000000)):=by
 have hr:=h.range hx hy;rw[← ht] at hr;have hid:i<d.length:=by rw[h.len];exact hi
 refine⟨by rw[aEz,h.len],fun m hm=>?_,fun m hm=>?_,?_,by omega,by omega⟩
 ·by_cases hjm:i=m
  ·subst hjm;rw[dU hid];omega
  ·rw[cN hjm];exact h.low m (by omega)
 ·rw[cN (by omega)];exact h.high m (by omega)
 ·rw[xJ (by rw[aEz];exact hid),dU hid,gW x,gW y,gT];have e:(d.set i (t % 1000000000)).take i=d.take i:=by rw[List.take_set_of_le (aEa _)]
  rw[e];have h1:=h.sum;have h2:bI d i=(x.getD i 0:Int):=by rw[h.high i (aEa _),gK]
  have h3:=Int.mul_ediv_add_emod t 1000000000;rw[h2] at ht;rw[aIe,aIe,aFp,aFp];generalize t / 1000000000=q at *
  generalize t % 1000000000=r at *
  generalize (bp i:Int)=p at *
  generalize (x.getD i 0:Int)=a at *
  generalize (y.getD i 0:Int)=b at *
  have e1:p*r+1000000000*p*q=p*t:=by rw[← h3,aJk,Int.mul_comm 1000000000 p,aJl];omega
  have e2:p*t=p*a-p*(b*(k:Int))+p*c:=by rw[ht,aJk,Int.mul_sub]
  have e3:(k:Int)*(p*b)=p*(b*(k:Int)):=by rw[Int.mul_left_comm,Int.mul_comm (k:Int) b]
  rw[aJk,e3]
  omega
theorem TakeI.fin (h:TakeI x y k x.length c d) (hl:y.length≤x.length) (hx:Small x) (hk:k*val y≤val x) :
  ∃ r:List Nat,d=ni r∧r.length=x.length∧Small r∧val r=val x-k*val y:=by
 obtain⟨r,h1,h2,h3,h4⟩:=gF (l:=d) (by rw[h.len];exact h.low);have h5:=h.sum;have h6:dP d=dP (d.take x.length):=by rw[aFa (by rw[h.len];exact aEa _)]
 rw[← h6,← h4,aFe,aFa hl] at h5;have h7:=eU h3;rw[h2,h.len] at h7;have h8:=eU hx;have h9:(k:Int)*(val y:Int)=((k*val y:Nat):Int):=by simp
 rw[h9] at h5;refine⟨r,h1,by rw[h2,h.len],h3,?_⟩;have h10:=AP x.length;have hc:c=0:=by
  rcases Int.lt_or_le c 0 with hc | hc
  ·have:(bp x.length:Int)*c≤(bp x.length:Int)*(-1):=aJs (by omega) (by omega)
   omega
  ·have:=h.c0;omega
 subst hc;simp at h5
 omega
theorem WN (hy:Small y) {top:Nat} (hyl:y.length=top+1) :
  (x.getD (top+1) 0*1000000000+x.getD top 0) / (y.getD top 0+1)*val y≤val x:=by
 have h1:val (x.take (top+2))≤val x:=sO x _;rw[show top+2=(top+1)+1 from rfl,gW,gW,eQ] at h1;have h2:val y=val (y.take top)+bp top*y.getD top 0:=by rw[← gW,← hyl,aFe]
 have h3:=eU (hy.take top);rw[aEk,aFw (by omega)] at h3;generalize x.getD (top+1) 0=a at *
 generalize x.getD top 0=b at *
 generalize y.getD top 0=c at *
 have h4:=Nat.div_mul_le_self (a*1000000000+b) (c+1);generalize (a*1000000000+b) / (c+1)=k at *
 have h5:val y≤bp top*(c+1):=by rw[h2,aGk];omega
 have h6:k*val y≤bp top*(a*1000000000+b):=by
  refine aEg (aFf k h5) ?_;rw[aJv];exact aFf _ h4
 have h7:bp top*(a*1000000000+b)=1000000000*bp top*a+bp top*b:=by
  rw[aGk,aGt a,← aGe,aGt (bp top) 1000000000]
 omega
theorem EY {d R:Nat} (hd:d<1000000000):Small (d :: dig R)∧val (d :: dig R)=d+1000000000*R:=⟨aJn hd (aH R),by rw[dK,aQ]⟩
theorem SQ (hy:Small y) {top:Nat} (hyl:y.length=top+1) (hr:val x<1000000000*val y) {k:Nat} (hk:k=(x.getD (top+1) 0*1000000000+x.getD top 0) / (y.getD top 0+1)) :
  k*val y≤val x∧k<1000000000:=by
 have h1:=WN (x:=x) hy hyl;rw[← hk] at h1;refine⟨h1,aJp fun h=>?_⟩;have:=aEs (val y) h
 omega
end Go.Proofs.YtencnahjgbdeoaaGreatDoor
namespace Go.Proofs.YtencnahjgbdeoaaGreatDoor.Dig
open Go.Lib
variable {i:Nat}
def YG (l:List UInt8):Nat:=num l.reverse
theorem RJ (l:List UInt8) (c:UInt8):YG (l++[c])=(c.toNat-48)*10 ^ l.length+YG l:=by
 unfold YG;rw[List.reverse_append,List.reverse_singleton,List.singleton_append,mW,List.length_reverse]
theorem AllDig.reverse {l:List UInt8} (h:AllDig l):AllDig l.reverse:=fun x hx=>h x (List.mem_reverse.1 hx)
structure DecI (ds:List Nat) (i k d:Nat) (out:List UInt8):Prop where
 len:out.length=9*i+k
 all:AllDig out
 sum:YG out+10 ^ (9*i+k)*d=val (ds.take i)+bp i*ds.getD i 0
 low:d<10 ^ (9-k)
theorem DecI.step {ds:List Nat} {k d:Nat} {out:List UInt8} (h:DecI ds i k d out) (hk:k<9):DecI ds i (k+1) (d / 10) (out++[UInt8.ofNat (48+d % 10)]):=by
 have h10:d % 10<10:=aGp _ (by omega);have hc:=eJ h10;refine⟨by rw[aEp,h.len];simp <;> omega,h.all.append (AllDig.cons ⟨by rw[hc];omega,by rw[hc];omega⟩ AllDig.nil),?_,?_⟩
 ·rw[RJ,hc,h.len,← h.sum,show 9*i+(k+1)=(9*i+k)+1 from rfl,aMa];generalize 10 ^ (9*i+k)=p;have h1:=aHv d 10;generalize d / 10=q at *
  generalize d % 10=r at *
  rw[← h1,aGk,aGe,show 48+r-48=r by omega,aGt r p]
  omega
 ·have h1:=h.low;rw[show 9-k=(9-(k+1))+1 by omega,aMa] at h1
  omega
structure ParI (t:List UInt8) (i:Nat) (d:List Nat):Prop where
 len:9*d.length<i+9
 room:i≤9*d.length
 small:Small d
 top:val d<10 ^ i
 sum:val d=num (t.drop (t.length-i))
def dgt (t:List UInt8) (i:Nat):Nat:=(t.getD (t.length-1-i) 48).toNat-48
theorem xX {t:List UInt8} (hi:i<t.length):num (t.drop (t.length-(i+1)))=dgt t i*10 ^ i+num (t.drop (t.length-i)):=by
 have h1:t.length-(i+1)<t.length:=by omega
 have h2:t.drop (t.length-(i+1))=t[t.length-(i+1)] :: t.drop (t.length-i):=by
  rw[aFd h1,show t.length-(i+1)+1=t.length-i by omega]
 rw[h2,mW,aJq,dgt,show t.length-1-i=t.length-(i+1) by omega,aEi,aEh h1,show t.length-(t.length-i)=i by omega]
 rfl
theorem aBk {t:List UInt8} (ha:AllDig t) {i:Nat} (hi:i<t.length):dgt t i<10:=by
 have h1:t.length-1-i<t.length:=by omega
 have h2:=(ha _ (aEc h1)).2;unfold dgt;rw[aEi,aEh h1]
 show(t[t.length-1-i]).toNat-48<10
 omega
theorem yK (i:Nat):10 ^ i=bp (i / 9)*10 ^ (i % 9):=by
 rw[UQ,← Nat.pow_add,aHv]
theorem ParI.add {t:List UInt8} {d:List Nat} (h:ParI t i d) (h9:i % 9≠0) (hi:i<t.length) (ha:AllDig t) :
  ∃ hk:i / 9<d.length,d[i / 9]+dgt t i*10 ^ (i % 9)<1000000000∧ParI t (i+1) (d.set (i / 9) (d[i / 9]+dgt t i*10 ^ (i % 9))):=by
 have h1:=h.len;have h2:=h.room;have hd:d.length=i / 9+1:=by omega
 have hk:i / 9<d.length:=by omega
 have hg:=aBk ha hi;have hsplit:=dF d (i / 9) (by omega);rw[aFd hk,aGa (by omega)] at hsplit;have hv:val d=val (d.take (i / 9))+bp (i / 9)*d[i / 9]:=by rw[hsplit];simp[val]
 have htop:=h.top;rw[yK i,hv] at htop;have hlow:d[i / 9]<10 ^ (i % 9):=by
  apply aJp;intro hc
  have:=aFf (bp (i / 9)) hc
  omega
 have hp:10 ^ (i % 9)*10≤1000000000:=by
  have h3:(10:Nat) ^ (i % 9+1)≤10 ^ 9:=aLo (by omega) (by omega);rw[aMa] at h3;omega
 have hn:d[i / 9]+dgt t i*10 ^ (i % 9)<1000000000:=by
  have h4:dgt t i*10 ^ (i % 9)≤9*10 ^ (i % 9):=aEs _ (by omega)
  omega
 refine⟨hk,hn,by rw[aEz];omega,by rw[aEz];omega,?_,?_,?_⟩
 ·intro x hx;rcases aLr hx with hx | hx
  ·exact h.small x hx
  ·rw[hx];exact hn
 all_goals
  have e:val (d.set (i / 9) (d[i / 9]+dgt t i*10 ^ (i % 9)))=num (t.drop (t.length-(i+1))):=by
   rw[xX hi,← h.sum,hv];have h5:=dF (d.set (i / 9) (d[i / 9]+dgt t i*10 ^ (i % 9))) (i / 9) (by rw[aEz];omega);rw[h5,List.take_set_of_le (aEa _),aFd (by rw[aEz];exact hk),aGa (by rw[aEz];omega),List.getElem_set_self];simp only[dK,AS]
   rw[yK i];generalize bp (i / 9)=p;generalize d[i / 9]=x;generalize dgt t i=y;generalize 10 ^ (i % 9)=z;have:p*(x+y*z+1000000000*0)=p*x+y*(p*z):=by
    rw[Nat.mul_zero,aGd,aGk,aJv p y z]
   omega
 ·rw[e];have h3:=JO (ha.drop (t.length-(i+1)));rw[aJq,show t.length-(t.length-(i+1))=i+1 by omega] at h3;exact h3
 ·exact e
theorem ParI.fin {t:List UInt8} {d:List Nat} (h:ParI t t.length d):val d=num t:=by
 have:=h.sum;rw[Nat.sub_self,aKf] at this;exact this
end Go.Proofs.YtencnahjgbdeoaaGreatDoor.Dig
