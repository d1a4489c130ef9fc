/- Texts put together: Words for memory: slices of ints that read as lists; what a call that only makes memory of its own leaves. Plain mathematics of digits to the base 1000000000: values, canonical digits, comparison, sums, differences, products, division by one digit. No program in sight. Facts of this program's tables, and the laws on make and copy in the words of Mem. Plain mathematics: values of lists of ints that are changed place by place. Variables of their own block. Long integers as values; long.Check. The reference's Right; slices.Equal; Same of the program and of the reference. Long variables: blocks of two cells. slices.Clone at []int and at Size. long.told, long.all; what calls answer. Plain mathematics: what the loops of Plus, Minus, Times and Part keep. Plain mathematics of the long division: less, more, the estimate, one place of the quotient. Size.less, Size.more: the walks. Plain mathematics of the long division, place by place. Size.Trim, Size.Part, Size.by.  Size.Part: the walk. Plain mathematics of decimal texts: numerals, their values, their pieces of nine digits; what Text, Parse and Int answer. No program in sight. Plain: the invariants of the reference's Sum and Diff. No program in sight. The reference's less and at. Plain mathematics of the reference's Prod, taken and Parts. No program in sight. Plain mathematics of the reference's Decimal and Parse. No program in sight. -/
import Derived.WalkKit
import Derived.Deep.Draws
import Derived.Lib.Hide
import Derived.Laws.Rows
import Derived.Test.YtdigbofiebfkeaaGreatDoorProg
import Derived.Laws.CopyOwn
import Derived.BigQuiet
import Derived.Deep.QuietTactic
import Derived.Laws.ResultCell
import Derived.Lib.Walk
import Derived.Lib.SliceRun
import Derived.WalkSpells
import Derived.RegionTactic
import Derived.BigRegion
import Derived.Lib.ItoaNum
import Derived.Lib.AtoiAll
import Derived.Lib.Strings
namespace Go.Proofs.YtdigbofiebfkeaaGreatDoor
open Go Go.RowKit
set_option maxRecDepth 100000
set_option maxHeartbeats 4000000
theorem zz {p:Prop} (h:p):Hid p:=@Lib.hid p h
theorem tr {w w' w'':World} (h:Hid (Below w.heap.size w w')) (k:Hid (Below w'.heap.size w' w'')):Hid (Below w.heap.size w w''):=@Lib.hid _ (h.out.trans (k.out.mono h.out.size))
theorem PT:(∀ (t:Array Value) (ds:List Deferred) (d:Tmp) (v:Value),Act.put ⟨t,ds⟩ (some d) v=⟨t.setIfInBounds d v,ds⟩)∧(∀ (a:Act) (v:Value),Act.put a none v=a)∧(∀ (l:List Value) (i:Nat) (v:Value),l.toArray.setIfInBounds i v=(l.set i v).toArray) ∧
  (∀ (a b:Value) (l:List Value),(a :: l).set 0 b=b :: l)∧(∀ (a b:Value) (l:List Value) (n:Nat),(a :: l).set (n+1) b=a :: l.set n b):=
 ⟨fun _ _ _ _=>rfl,fun _ _=>rfl,fun _ _ _=>List.setIfInBounds_toArray ..,fun _ _ _=>rfl,fun _ _ _ _=>rfl⟩
def RI (w:World) (B:Nat) (v:Value) (l:List Int):Prop:=
 ∃ A c,v=.slice A l.length c∧l.length≤c∧c≤9223372036854775807∧(0<l.length→∃ g off,A=some ⟨g,off,none⟩∧g<B∧∀ j (h:j<l.length),w.cell? ⟨g,off+j,none⟩=some (.int .i64 l[j]))
def ni (l:List Nat):List Int:=l.map fun d:Nat=>(d:Int)
def RN (w:World) (B:Nat) (v:Value) (l:List Nat):Prop:=RI w B v (ni l)
theorem ni_length (l:List Nat):(ni l).length=l.length:=by simp[ni]
theorem ni_get (l:List Nat) (j:Nat) (h:j<(ni l).length):(ni l)[j]=((l[j]'(by simpa[ni] using h):Nat):Int):=by simp[ni]
section
variable {w w':World} {B B':Nat} {v:Value} {l:List Int}
theorem RI.keep (h:RI w B v l) (hk:∀ p:Addr,p.block<B→w'.cell? p=w.cell? p):RI w' B v l:=by
 obtain⟨A,c,hv,hc,hm,h0⟩:=h;refine⟨A,c,hv,hc,hm,fun hn=>?_⟩;obtain⟨g,off,hA,hg,hx⟩:=h0 hn;exact⟨g,off,hA,hg,fun j hj=>(hk _ hg).trans (hx j hj)⟩
theorem RI.below (h:RI w B v l) (hb:Below B w w'):RI w' B v l:=h.keep fun _ hp=>hb.cell hp
theorem RI.more (h:RI w B v l) (hB:B≤B'):RI w B' v l:=by
 obtain⟨A,c,hv,hc,hm,h0⟩:=h;refine⟨A,c,hv,hc,hm,fun hn=>?_⟩;obtain⟨g,off,hA,hg,hx⟩:=h0 hn;exact⟨g,off,hA,by omega,hx⟩
theorem RI.nil (w:World) (B:Nat):RI w B (.slice none 0 0) []:=⟨none,0,rfl,Nat.le_refl _,by omega,fun h=>absurd h (by simp)⟩
theorem RI.step (h:RI w w.heap.size v l) (hb:Below w.heap.size w w'):RI w' w'.heap.size v l:=(h.below hb).more hb.size
theorem RN.step {l:List Nat} (h:RN w w.heap.size v l) (hb:Below w.heap.size w w'):RN w' w'.heap.size v l:=RI.step h hb
theorem RN.cell {l:List Nat} (h:RN w B v l):∃ A c,v=.slice A l.length c∧l.length≤c∧c≤9223372036854775807 ∧
  (0<l.length→∃ g off,A=some ⟨g,off,none⟩∧g<B∧∀ j (h:j<l.length),w.cell? ⟨g,off+j,none⟩=some (.int .i64 (l[j]:Nat))):=by
 obtain⟨A,c,hv,hc,hm,h0⟩:=h;simp only[ni_length] at hv hc h0
 refine⟨A,c,hv,hc,hm,fun hn=>?_⟩;obtain⟨g,off,hA,hg,hx⟩:=h0 hn;exact⟨g,off,hA,hg,fun j hj=>by rw[hx j hj,ni_get]⟩
end
def lenOf:Value→Nat | .slice _ n _=>n | _=>0
theorem nat_ne {x y:Nat} (h:((x:Int) != (y:Int))=true):x≠y:=by intro e;rw[e] at h;simp at h
theorem nat_eq {x y:Nat} (h:((x:Int) != (y:Int))=false):x=y:=by
 have:(x:Int)=y:=by simpa using h
 omega
theorem beq_yes {x y:Int} (h:(x==y)=true):x=y:=eq_of_beq h
theorem beq_no {x y:Int} (h:(x==y)=false):x≠y:=by intro e;rw[e] at h;simp at h
theorem bne_yes {x y:Int} (h:(x != y)=true):x≠y:=by intro e;rw[e] at h;simp at h
theorem bne_no {x y:Int} (h:(x != y)=false):x=y:=by simpa using h
theorem below_drewN {B:Nat} {a w:World} (h:Below B a w) (n:Nat):Below B a (w.drewN n):=⟨h.os,h.tape,h.output,h.size,h.block⟩
def Own (w:World) (g:Nat) (l:List Int):Prop:=∃ tail:List Value,w.heap[g]?=some (.cells (l.map (Value.int .i64)++tail).toArray 3 (0,0))
section
variable {w w':World} {g:Nat} {l:List Int}
theorem Own.lt (h:Own w g l):g<w.heap.size:=by
 obtain⟨tail,h⟩:=h;rcases Nat.lt_or_ge g w.heap.size with hlt | hge
 ·exact hlt
 ·rw[Array.getElem?_eq_none hge] at h;cases h
theorem Own.cell (h:Own w g l) (j:Nat) (hj:j<l.length):w.cell? ⟨g,j,none⟩=some (.int .i64 l[j]):=by
 obtain⟨tail,h⟩:=h;have h2:(l.map (Value.int .i64)++tail)[j]?=some (.int .i64 l[j]):=by
  rw[List.getElem?_append_left (by simpa using hj)];simp[hj]
 simp only[World.cell?,h]
 simpa using h2
theorem Own.frozen (h:Own w g l) (j:Nat):w.frozen? ⟨g,j,none⟩=false:=by
 obtain⟨tail,h⟩:=h;simp[World.frozen?,h]
theorem Own.of_block (h:Own w g l) (hb:w'.heap[g]?=w.heap[g]?):Own w' g l:=by
 obtain⟨tail,h⟩:=h;exact⟨tail,hb.trans h⟩
theorem Own.alloc (h:Own w g l) (o:Obj):Own (w.alloc o) g l:=h.of_block (Below.heap_alloc w o g h.lt)
theorem Own.below {B:Nat} (h:Own w g l) (hb:Below B w w') (hg:g<B):Own w' g l:=h.of_block (hb.block g hg)
theorem Own.step (h:Own w g l) (hb:Below w.heap.size w w'):Own w' g l:=h.below hb h.lt
theorem Own.far (h:Own w g l) {p:Addr} (hp:g≠p.block) (u:Value):Own (w.setCell p u) g l:=h.of_block (Below.heap_setCell w p u g hp)
theorem Own.set (h:Own w g l) (j:Nat) (x:Int) (hj:j<l.length):Own (w.setCell ⟨g,j,none⟩ (.int .i64 x)) g (l.set j x):=by
 obtain⟨tail,h⟩:=h;refine⟨tail,?_⟩;have h2:(l.map (Value.int .i64)++tail).set j (.int .i64 x)=(l.set j x).map (Value.int .i64)++tail:=by
  rw[List.set_append_left _ _ (by simpa using hj),List.map_set]
 simp only[World.setCell,Array.getElem?_modify,h,if_true,Option.map_some,List.setIfInBounds_toArray,h2]
 rfl
theorem Own.first (h:Own w g l) (n:Nat):Own w g (l.take n):=by
 obtain⟨tail,h⟩:=h;refine⟨(l.drop n).map (Value.int .i64)++tail,?_⟩;rw[h,← List.append_assoc,← List.map_append,List.take_append_drop]
theorem Own.ri (h:Own w g l) (off n c:Nat) (hn:off+n≤l.length) (hc:n≤c) (hm:c≤9223372036854775807):RI w w.heap.size (.slice (some ⟨g,off,none⟩) n c) ((l.drop off).take n):=by
 have hl:((l.drop off).take n).length=n:=by simp;omega
 refine⟨some ⟨g,off,none⟩,c,by rw[hl],by omega,hm,fun _=>⟨g,off,rfl,h.lt,fun j hj=>?_⟩⟩;rw[h.cell (off+j) (by omega)];simp
theorem Own.ri0 (h:Own w g l) (n c:Nat) (hn:n=l.length) (hc:n≤c) (hm:c≤9223372036854775807):RI w w.heap.size (.slice (some ⟨g,0,none⟩) n c) l:=by
 subst hn;have:=h.ri 0 l.length c (by omega) hc hm
 rwa [List.drop_zero,List.take_length] at this
end
def Only (g:Nat) (w w':World):Prop:=w.grownBy w' (some g)
section
variable {g:Nat} {w w' w'':World}
theorem Only.refl (g:Nat) (w:World):Only g w w:=⟨rfl,rfl,rfl,Nat.le_refl _,fun _ _ _=>rfl⟩
theorem Only.trans (h:Only g w w') (k:Only g w' w''):Only g w w'':=
 ⟨k.os.trans h.os,k.tape.trans h.tape,k.output.trans h.output,Nat.le_trans h.size k.size,fun i hi hne=>(k.block i (Nat.lt_of_lt_of_le hi h.size) hne).trans (h.block i hi hne)⟩
theorem Only.set (h:Only g w w') (j:Nat) (u:Value):Only g w (w'.setCell ⟨g,j,none⟩ u):=
 h.trans ⟨rfl,rfl,rfl,by simp[World.setCell],fun i _ hne=>Below.heap_setCell _ _ _ _ (fun e=>hne (by rw[e]))⟩
theorem Only.cell (h:Only g w w') {p:Addr} (hp:p.block<w.heap.size) (hne:p.block≠g):w'.cell? p=w.cell? p:=
 World.cell?_of_block (h.block _ hp (fun e=>hne (Option.some.inj e)))
theorem Only.below (h:Only g w w') {B:Nat} (hB:B≤g) (hs:B≤w.heap.size):Below B w w':=
 ⟨h.os,h.tape,h.output,h.size,fun k hk=>h.block k (by omega) (fun e=>by have:=Option.some.inj e;omega)⟩
end
def at0 (l:List Int) (j:Nat):Int:=l.getD j 0
def RIx (w:World) (B g:Nat) (v:Value) (l:List Int):Prop:=
 ∃ A c,v=.slice A l.length c∧l.length≤c∧c≤9223372036854775807∧(0<l.length→∃ b off,A=some ⟨b,off,none⟩∧b<B∧b≠g∧∀ j,j<l.length→w.cell? ⟨b,off+j,none⟩=some (.int .i64 (at0 l j)))
def OwnV (w:World) (base:Nat) (v:Value) (l:List Int):Prop:=w.ownsRow base 3 1 v l.length (l.map (Value.int .i64))
section
variable {w w':World} {base:Nat} {v:Value} {l:List Int}
theorem OwnV.form (h:OwnV w base v l):(v=.slice none 0 0∧l=[])∨∃ g cap,v=.slice (some ⟨g,0,none⟩) l.length cap∧l.length≤cap∧cap≤9223372036854775807∧base≤g∧Own w g l:=by
 obtain⟨_,h | ⟨g,cap,cur,hv,hb,hh,hn,hc,hs,ht⟩⟩:=h
 ·exact .inl ⟨h.1,List.eq_nil_of_length_eq_zero h.2⟩
 ·refine .inr ⟨g,cap,hv,hn,hc,hb,cur.toList.drop l.length,?_⟩;rw[hh,← ht,Nat.mul_one,List.take_append_drop,Array.toArray_toList]
theorem OwnV.ri (h:OwnV w base v l):RI w w.heap.size v l:=by
 rcases h.form with ⟨rfl,rfl⟩ | ⟨g,cap,rfl,hn,hc,_,ho⟩
 ·exact RI.nil _ _
 ·exact ho.ri0 _ _ rfl hn hc
theorem OwnV.nil (w:World) (base:Nat):OwnV w base (.slice none 0 0) []:=World.ownsRow_nil _ _ _ _
theorem OwnV.alloc (h:OwnV w base v l) (o:Obj):OwnV (w.alloc o) base v l:=World.ownsRow.alloc h o
theorem OwnV.drew (h:OwnV w base v l):OwnV w.drew base v l:=h
theorem OwnV.step (h:OwnV w base v l) (hb:Below w.heap.size w w'):OwnV w' base v l:=by
 obtain⟨h1,h | ⟨g,cap,cur,hv,hg,hh,r⟩⟩:=h
 ·exact⟨h1,.inl h⟩
 ·refine⟨h1,.inr ⟨g,cap,cur,hv,hg,?_,r⟩⟩;rw[hb.block g (by
   rcases Nat.lt_or_ge g w.heap.size with hlt | hge
   ·exact hlt
   ·rw[Array.getElem?_eq_none hge] at hh;cases hh)]
  exact hh
end
def zerosObj (n:Nat):Obj:=.cells ((List.replicate n (0:Int)).map (Value.int .i64)).toArray 3 (0,0)
theorem own_new (w:World) (n:Nat):Own (w.alloc (zerosObj n)) w.heap.size (List.replicate n 0):=⟨[],by rw[List.append_nil];exact heap_alloc_new w _⟩
theorem set_next {α:Type} (done:List α) (z x:α) (m:Nat):(done++List.replicate (m+1) z).set done.length x=done++[x]++List.replicate m z:=by
 rw[List.set_append_right _ _ (Nat.le_refl _),Nat.sub_self,List.replicate_succ,List.set_cons_zero];simp
theorem ni_append (l m:List Nat):ni (l++m)=ni l++ni m:=by simp[ni]
theorem own_put {w:World} {g k m x:Nat} {d:List Nat} {y:Int} (ho:Own w g (ni d++List.replicate (m+1) 0)) (hd:d.length=k) (hy:y=(x:Int)) :
  Own (w.setCell ⟨g,k,none⟩ (.int .i64 y)) g (ni (d++[x])++List.replicate m 0):=by
 have h:=ho.set k y (by simp[ni];omega);rw[← hd,← ni_length d,set_next,ni_length,hd] at h;rw[ni_append];rw[hy] at h ⊢;exact h
theorem own_next {w:World} {g k m:Nat} {d:List Nat} (ho:Own w g (ni d++List.replicate (m+1) 0)) (hd:d.length=k):w.cell? ⟨g,k,none⟩=some (.int .i64 0):=by
 rw[ho.cell k (by simp[ni];omega)];simp[ni,hd]
end Go.Proofs.YtdigbofiebfkeaaGreatDoor
namespace Go.Proofs.YtdigbofiebfkeaaGreatDoor.Dig
def val:List Nat→Nat
 | []=>0
 | d :: l=>d+1000000000*val l
def Small (l:List Nat):Prop:=∀ d∈l,d<1000000000
def Norm (l:List Nat):Prop:=Small l∧l.getLast?≠some 0
def bp (n:Nat):Nat:=1000000000 ^ n
theorem bp_zero:bp 0=1:=rfl
theorem bp_succ (n:Nat):bp (n+1)=1000000000*bp n:=by unfold bp;rw[Nat.pow_succ,Nat.mul_comm]
theorem bp_pos (n:Nat):0<bp n:=Nat.pow_pos (by omega)
theorem bp_add (m n:Nat):bp (m+n)=bp m*bp n:=Nat.pow_add _ _ _
theorem bp_le {m n:Nat} (h:m≤n):bp m≤bp n:=Nat.pow_le_pow_right (by omega) h
theorem bp_lt {m n:Nat} (h:m<n):bp m<bp n:=Nat.pow_lt_pow_right (by omega) h
theorem Small.nil:Small []:=fun _ h=>by cases h
theorem Small.cons {d:Nat} {l:List Nat} (h:d<1000000000) (hl:Small l):Small (d :: l):=fun x hx=>by
 cases hx with
 | head=>exact h
 | tail _ hx=>exact hl x hx
theorem Small.head {d:Nat} {l:List Nat} (h:Small (d :: l)):d<1000000000:=h d (List.mem_cons_self ..)
theorem Small.tail {d:Nat} {l:List Nat} (h:Small (d :: l)):Small l:=fun x hx=>h x (List.mem_cons_of_mem _ hx)
theorem Small.append {l m:List Nat} (h:Small l) (k:Small m):Small (l++m):=fun x hx=>by
 rcases List.mem_append.1 hx with hx | hx
 ·exact h x hx
 ·exact k x hx
theorem Small.take {l:List Nat} (h:Small l) (n:Nat):Small (l.take n):=fun x hx=>h x (List.mem_of_mem_take hx)
theorem Small.drop {l:List Nat} (h:Small l) (n:Nat):Small (l.drop n):=fun x hx=>h x (List.mem_of_mem_drop hx)
theorem getD_get {l:List Nat} {i:Nat} (h:i<l.length):l.getD i 0=l[i]:=by simp[List.getD,h]
theorem Small.getD {l:List Nat} (h:Small l) (i:Nat):l.getD i 0<1000000000:=by
 by_cases hi:i<l.length
 ·rw[getD_get hi];exact h _ (List.getElem_mem hi)
 ·rw[List.getD_eq_getElem?_getD,List.getElem?_eq_none (by omega)];decide
theorem val_nil:val []=0:=rfl
theorem val_cons (d:Nat) (l:List Nat):val (d :: l)=d+1000000000*val l:=rfl
theorem val_append (l m:List Nat):val (l++m)=val l+bp l.length*val m:=by
 induction l with
 | nil=>simp[val,bp]
 | cons d l ih=>
  rw[List.cons_append,val_cons,ih,val_cons,List.length_cons,bp_succ,Nat.mul_add,Nat.add_assoc,Nat.mul_assoc]
theorem val_lt {l:List Nat} (h:Small l):val l<bp l.length:=by
 induction l with
 | nil=>simp[val,bp]
 | cons d l ih=>
  have h1:=ih h.tail;have h2:=h.head;rw[val_cons,List.length_cons,bp_succ]
  omega
theorem val_inj {l m:List Nat} (hl:Small l) (hm:Small m) (hn:l.length=m.length) (h:val l=val m):l=m:=by
 induction l generalizing m with
 | nil=>cases m with
  | nil=>rfl
  | cons d m=>simp at hn
 | cons d l ih=>cases m with
  | nil=>simp at hn
  | cons e m=>
   rw[val_cons,val_cons] at h;have h1:=hl.head;have h2:=hm.head;have h3:d=e:=by omega
   have h4:val l=val m:=by omega
   rw[h3,ih hl.tail hm.tail (by simpa using hn) h4]
theorem val_split (l:List Nat) (k:Nat) (hk:k≤l.length):val l=val (l.take k)+bp k*val (l.drop k):=by
 have h:=val_append (l.take k) (l.drop k);rw[List.take_append_drop,List.length_take,Nat.min_eq_left hk] at h;exact h
theorem val_snoc (l:List Nat) (d:Nat):val (l++[d])=val l+bp l.length*d:=by
 rw[val_append];simp[val]
theorem Norm.nil:Norm []:=⟨Small.nil,by simp⟩
theorem norm_snoc {l:List Nat} {d:Nat} (h:Norm (l++[d])):Small l∧0<d∧d<1000000000:=by
 obtain⟨h1,h2⟩:=h;simp at h2
 exact⟨fun x hx=>h1 x (List.mem_append_left _ hx),by omega,h1 d (by simp)⟩
theorem norm_low {l:List Nat} (h:Norm l) (hn:l≠[]):bp (l.length-1)≤val l:=by
 obtain⟨m,d,rfl⟩:∃ m d,l=m++[d]:=⟨l.dropLast,l.getLast hn,(List.dropLast_concat_getLast hn).symm⟩;obtain⟨_,hd,_⟩:=norm_snoc h;rw[val_snoc,List.length_append];simp only[List.length_cons,List.length_nil,Nat.zero_add,Nat.add_sub_cancel]
 have:=Nat.le_mul_of_pos_right (bp m.length) hd
 omega
theorem norm_pos {l:List Nat} (h:Norm l) (hn:l≠[]):0<val l:=Nat.lt_of_lt_of_le (bp_pos _) (norm_low h hn)
theorem norm_zero {l:List Nat} (h:Norm l):val l=0↔l=[]:=
 ⟨fun h0=>by
  by_cases hn:l=[]
  ·exact hn
  ·have:=norm_pos h hn;omega,fun h0=>by rw[h0];rfl⟩
theorem norm_len_lt {l m:List Nat} (hl:Norm l) (hm:Norm m) (h:l.length<m.length):val l<val m:=by
 have h1:=val_lt hl.1;have h2:=norm_low hm (fun e=>by subst e;simp at h);have h3:bp l.length≤bp (m.length-1):=bp_le (by omega)
 omega
theorem norm_inj {l m:List Nat} (hl:Norm l) (hm:Norm m) (h:val l=val m):l=m:=by
 rcases Nat.lt_trichotomy l.length m.length with h1 | h1 | h1
 ·have:=norm_len_lt hl hm h1;omega
 ·exact val_inj hl.1 hm.1 h1 h
 ·have:=norm_len_lt hm hl h1;omega
def dig (n:Nat):List Nat:=if h:n=0 then [] else n % 1000000000 :: dig (n / 1000000000)
termination_by n
decreasing_by omega
theorem dig_zero:dig 0=[]:=by rw[dig];rfl
theorem dig_pos {n:Nat} (h:n≠0):dig n=n % 1000000000 :: dig (n / 1000000000):=by rw[dig,dif_neg h]
theorem val_dig (n:Nat):val (dig n)=n:=by
 induction n using Nat.strongRecOn with
 | ind n ih=>
  by_cases h:n=0
  ·rw[h,dig_zero];rfl
  ·rw[dig_pos h,val_cons,ih _ (by omega)];omega
theorem dig_eq_nil {n:Nat}:dig n=[]↔n=0:=
 ⟨fun h=>by have:=val_dig n;rw[h] at this;exact this.symm,fun h=>by rw[h,dig_zero]⟩
theorem dig_norm (n:Nat):Norm (dig n):=by
 induction n using Nat.strongRecOn with
 | ind n ih=>
  by_cases h:n=0
  ·rw[h,dig_zero];exact Norm.nil
  ·have h1:=ih (n / 1000000000) (by omega);rw[dig_pos h];refine⟨Small.cons (Nat.mod_lt _ (by omega)) h1.1,?_⟩;by_cases h2:n / 1000000000=0
   ·rw[h2,dig_zero];simp;omega
   ·have h3:dig (n / 1000000000)≠[]:=fun e=>h2 (dig_eq_nil.1 e)
    rw[List.getLast?_cons];have h4:=h1.2;rw[List.getLast?_eq_some_getLast h3] at h4 ⊢
    simpa using h4
theorem dig_val {l:List Nat} (h:Norm l):dig (val l)=l:=norm_inj (dig_norm _) h (val_dig _)
theorem dig_of {l:List Nat} {n:Nat} (h:Norm l) (hv:val l=n):dig n=l:=by rw[← hv,dig_val h]
theorem dig_small (n:Nat):Small (dig n):=(dig_norm n).1
theorem dig_inj {m n:Nat} (h:dig m=dig n):m=n:=by rw[← val_dig m,h,val_dig]
theorem dig_len_le {n k:Nat}:(dig n).length≤k↔n<bp k:=by
 constructor
 ·intro h;have h1:=val_lt (dig_small n);rw[val_dig] at h1;exact Nat.lt_of_lt_of_le h1 (bp_le h)
 ·intro h;by_cases hn:dig n=[]
  ·rw[hn];simp
  ·have h1:=norm_low (dig_norm n) hn;rw[val_dig] at h1
   apply Nat.le_of_not_lt
   intro hk;have:bp k≤bp ((dig n).length-1):=bp_le (by omega)
   omega
theorem dig_lt (n:Nat):n<bp (dig n).length:=dig_len_le.1 (Nat.le_refl _)
theorem dig_len_mono {m n:Nat} (h:m≤n):(dig m).length≤(dig n).length:=dig_len_le.2 (Nat.lt_of_le_of_lt h (dig_lt n))
theorem dig_len_pos {n:Nat} (h:n≠0):0<(dig n).length:=by
 rw[dig_pos h];simp
theorem dig_one {d:Nat} (h:d<1000000000) (h0:d≠0):dig d=[d]:=dig_of ⟨Small.cons h Small.nil,by simpa using h0⟩ (by simp[val])
theorem cmp_len {m n:Nat} (h:(dig m).length<(dig n).length):m<n:=by
 have:=norm_len_lt (dig_norm m) (dig_norm n) h
 rwa [val_dig,val_dig] at this
theorem cmp_at {l m:List Nat} (hl:Small l) (hn:l.length=m.length) {k:Nat} (hk:k<l.length)
  (hd:l.drop (k+1)=m.drop (k+1)) (hlt:l.getD k 0<m.getD k 0):val l<val m:=by
 rw[val_split l k (by omega),val_split m k (by omega),List.drop_eq_getElem_cons hk,List.drop_eq_getElem_cons (show k<m.length by omega),hd,val_cons,val_cons];rw[getD_get hk,getD_get (show k<m.length by omega)] at hlt;have h1:=val_lt (hl.take k);rw[List.length_take,Nat.min_eq_left (by omega)] at h1;generalize val (m.drop (k+1))=z at *
 have h2:bp k*(l[k]+1000000000*z)+bp k≤bp k*(m[k]+1000000000*z):=by
  rw[← Nat.mul_succ];exact Nat.mul_le_mul_left _ (by omega)
 omega
end Go.Proofs.YtdigbofiebfkeaaGreatDoor.Dig
namespace Go.Proofs.YtdigbofiebfkeaaGreatDoor
open Go Go.RowKit
theorem info_int:(Tryz.prog.info? 3).map (fun i=>(i.zero,i.size,i.bytes))=some (some (.int .i64 0),1,8):=by kernel_rfl
theorem cells_madeInt (n:Nat):madeCells #[Value.int .i64 0] n=((List.replicate n (0:Int)).map (Value.int .i64)).toArray:=by
 have h:=toList_madeCells_one (.int .i64 0) n;rw[← Array.toArray_toList (xs:=madeCells #[Value.int .i64 0] n),h];simp
theorem mk_size (n:Nat) (hn:n≤17592186044416) (w:World):(Instr.makeSlice 80 (.int .i64 (n:Int)) (.int .i64 (n:Int))).run Tryz.prog w =
  .ok (.slice (some ⟨w.heap.size,0,none⟩) n n) (w.alloc (zerosObj n)):=by
 obtain⟨i,hi,hz,hs,hb⟩:=info_parts info_int;have h:=run_make (P:=Tryz.prog) w 80 3 i (.int .i64 0) Tryz.underlying80 hi hz .i64 .i64 n n (by omega) (by omega) (by rw[hb];omega) (by omega);rw[h,hs]
 show _=Result.ok _ (w.alloc (.cells _ _ _))
 rw[← cells_madeInt];simp[Value.cells]
theorem mk_ints (n:Nat) (hn:n≤17592186044416) (w:World):(Instr.makeSlice 29 (.int .i64 (n:Int)) (.int .i64 (n:Int))).run Tryz.prog w =
  .ok (.slice (some ⟨w.heap.size,0,none⟩) n n) (w.alloc (zerosObj n)):=by
 obtain⟨i,hi,hz,hs,hb⟩:=info_parts info_int;have h:=run_make (P:=Tryz.prog) w 29 3 i (.int .i64 0) Tryz.underlying29 hi hz .i64 .i64 n n (by omega) (by omega) (by rw[hb];omega) (by omega);rw[h,hs]
 show _=Result.ok _ (w.alloc (.cells _ _ _))
 rw[← cells_madeInt];simp[Value.cells]
open Dig
def valI:List Int→Int
 | []=>0
 | d :: l=>d+1000000000*valI l
theorem bpI_succ (n:Nat):(bp (n+1):Int)=1000000000*(bp n:Int):=by rw[bp_succ];omega
theorem valI_cons (d:Int) (l:List Int):valI (d :: l)=d+1000000000*valI l:=rfl
theorem valI_ni (l:List Nat):valI (ni l)=(val l:Int):=by
 induction l with
 | nil=>rfl
 | cons d l ih=>
  show(d:Int)+1000000000*valI (ni l)=_
  rw[ih,val_cons];omega
theorem valI_append (l m:List Int):valI (l++m)=valI l+(bp l.length:Int)*valI m:=by
 induction l with
 | nil=>simp[valI,bp]
 | cons d l ih=>
  rw[List.cons_append,valI_cons,ih,valI_cons,List.length_cons,bpI_succ,Int.mul_add,Int.mul_assoc];omega
theorem valI_zeros (n:Nat):valI (List.replicate n 0)=0:=by
 induction n with
 | zero=>rfl
 | succ n ih=>rw[List.replicate_succ,valI_cons,ih];rfl
theorem at0_get {l:List Int} {j:Nat} (h:j<l.length):at0 l j=l[j]:=by simp[at0,List.getD,h]
theorem at0_ge {l:List Int} {j:Nat} (h:l.length≤j):at0 l j=0:=by simp[at0,List.getD,h]
theorem at0_ni (l:List Nat) (j:Nat):at0 (ni l) j=(l.getD j 0:Nat):=by
 by_cases h:j<l.length
 ·rw[at0_get (by simpa[ni] using h),ni_get,getD_get h]
 ·rw[at0_ge (by simp[ni];omega)];simp[List.getD,List.getElem?_eq_none (show l.length≤j by omega)]
theorem at0_set (l:List Int) (i j:Nat) (x:Int):at0 (l.set i x) j=if i=j∧j<l.length then x else at0 l j:=by
 unfold at0;rw[List.getD_eq_getElem?_getD,List.getD_eq_getElem?_getD,List.getElem?_set];by_cases h:i=j
 ·subst h;by_cases h2:i<l.length
  ·simp[h2]
  ·simp[h2]
 ·simp[h]
theorem at0_set_same {l:List Int} {i:Nat} {x:Int} (h:i<l.length):at0 (l.set i x) i=x:=by rw[at0_set,if_pos ⟨rfl,h⟩]
theorem at0_set_ne {l:List Int} {i j:Nat} {x:Int} (h:i≠j):at0 (l.set i x) j=at0 l j:=by rw[at0_set,if_neg (fun e=>h e.1)]
theorem at0_append_left {l m:List Int} {j:Nat} (h:j<l.length):at0 (l++m) j=at0 l j:=by
 rw[at0_get (by simp;omega),at0_get h,List.getElem_append_left h]
theorem at0_append_right {l m:List Int} {j:Nat} (h:l.length≤j):at0 (l++m) j=at0 m (j-l.length):=by
 unfold at0;rw[List.getD_eq_getElem?_getD,List.getD_eq_getElem?_getD,List.getElem?_append_right h]
theorem at0_zeros (n j:Nat):at0 (List.replicate n 0) j=0:=by
 by_cases h:j<n
 ·rw[at0_get (by simpa using h)];simp
 ·exact at0_ge (by simpa using h)
theorem valI_set {l:List Int} {j:Nat} (x:Int) (h:j<l.length):valI (l.set j x)=valI l+(bp j:Int)*(x-at0 l j):=by
 induction l generalizing j with
 | nil=>simp at h
 | cons d l ih=>
  cases j with
  | zero=>simp[valI_cons,at0,bp];omega
  | succ j=>
   have h2:at0 (d :: l) (j+1)=at0 l j:=by simp[at0]
   rw[List.set_cons_succ,valI_cons,ih (by simpa using h),valI_cons,h2,bpI_succ,Int.mul_add,Int.mul_assoc];omega
theorem val_take_succ {l:List Nat} {k:Nat} (h:k<l.length):(val (l.take (k+1)):Int)=(val (l.take k):Int)+(bp k:Int)*(l[k]:Int):=by
 rw[List.take_succ_eq_append_getElem h,val_snoc,List.length_take,Nat.min_eq_left (by omega),Int.natCast_add,Int.natCast_mul]
theorem digits_of {l:List Int} (h:∀ j,j<l.length→0≤at0 l j∧at0 l j<1000000000):∃ r:List Nat,l=ni r∧r.length=l.length∧Small r∧(val r:Int)=valI l:=by
 induction l with
 | nil=>exact⟨[],rfl,rfl,Small.nil,rfl⟩
 | cons d l ih=>
  obtain⟨r,hr,hl,hs,hv⟩:=ih fun j hj=>by have:=h (j+1) (by simpa using hj);simpa[at0] using this
  have h0:=h 0 (by simp);simp[at0] at h0
  refine⟨d.toNat :: r,?_,by simp[hl],Small.cons (by omega) hs,?_⟩
  ·simp[ni] at hr ⊢
   exact⟨by omega,hr⟩
  ·rw[val_cons,valI_cons,← hv];omega
theorem at0_nat {l:List Nat} {j:Nat} (h:j<l.length):at0 (ni l) j=(l[j]:Int):=by rw[at0_ni,getD_get h]
theorem at0_small {l:List Nat} (h:Small l) (j:Nat):0≤at0 (ni l) j∧at0 (ni l) j<1000000000:=by
 rw[at0_ni];have:=h.getD j;omega
theorem own_at {w:Go.World} {g:Nat} {l:List Int} (h:Own w g l) (j:Nat) (hj:j<l.length):w.cell? ⟨g,j,none⟩=some (.int .i64 (at0 l j)):=by
 rw[h.cell j hj,at0_get hj]
theorem own_rn {w:Go.World} {g:Nat} {r:List Nat} (h:Own w g (ni r)) (n c:Nat) (hn:n=r.length) (hc:n≤c) (hm:c≤9223372036854775807):RN w w.heap.size (.slice (some ⟨g,0,none⟩) n c) r:=
 h.ri0 n c (by simp[ni,hn]) hc hm
theorem Own.only {w w':Go.World} {g g':Nat} {l:List Int} (h:Own w g' l) (ho:Only g w w') (hne:g'≠g):Own w' g' l:=h.of_block (ho.block g' h.lt (fun e=>hne (Option.some.inj e)))
theorem own_rix {w:Go.World} {g g' n c:Nat} {r:List Nat} (h:Own w g' (ni r)) (hne:g'≠g) (hn:n≤r.length) (hc:n≤c) (hm:c≤9223372036854775807):RIx w w.heap.size g (.slice (some ⟨g',0,none⟩) n c) (ni (r.take n)):=by
 have hl:(ni (r.take n)).length=n:=by simp[ni];omega
 refine⟨some ⟨g',0,none⟩,c,by rw[hl],by rw[hl];exact hc,hm,fun _=>⟨g',0,rfl,h.lt,hne,fun j hj=>?_⟩⟩;rw[hl] at hj;rw[Nat.zero_add,own_at h j (by simp[ni];omega),at0_ni,at0_ni]
 congr 2
 simp[List.getD,hj]
theorem own_rn_take {w:Go.World} {g n c:Nat} {r:List Nat} (h:Own w g (ni r)) (hn:n≤r.length) (hc:n≤c) (hm:c≤9223372036854775807):RN w w.heap.size (.slice (some ⟨g,0,none⟩) n c) (r.take n):=by
 have:=h.first n
 have e:(ni r).take n=ni (r.take n):=by simp[ni]
 rw[e] at this;exact own_rn this n c (by simp;omega) hc hm
def One (w:Go.World) (b:Nat) (t:Go.TypeId) (v:Go.Value):Prop:=w.heap[b]?=some (.cells #[v] t (0,0))
section
open Go
variable {w w':World} {b:Nat} {t:TypeId} {v u:Value}
theorem One.lt (h:One w b t v):b<w.heap.size:=by
 rcases Nat.lt_or_ge b w.heap.size with hlt | hge
 ·exact hlt
 ·unfold One at h;rw[Array.getElem?_eq_none hge] at h;cases h
theorem One.cell (h:One w b t v):w.cell? ⟨b,0,none⟩=some v:=by
 unfold One at h;simp[World.cell?,h]
theorem One.frozen (h:One w b t v):w.frozen? ⟨b,0,none⟩=false:=by
 unfold One at h;simp[World.frozen?,h]
theorem One.new (w:World) (t:TypeId) (v:Value):One (w.alloc (.cells #[v] t)) w.heap.size t v:=heap_alloc_new w _
theorem One.of_block (h:One w b t v) (hb:w'.heap[b]?=w.heap[b]?):One w' b t v:=hb.trans h
theorem One.step (h:One w b t v) (hb:Go.RowKit.Below w.heap.size w w'):One w' b t v:=h.of_block (hb.block b h.lt)
end
def LR (w:World) (B:Nat) (v:Value) (neg:Bool) (ds:List Int):Prop:=∃ s,v=.agg #[.bool neg,s]∧RI w B s ds
def LV (w:World) (B:Nat) (v:Value) (z:Int):Prop:=LR w B v (decide (z<0)) (ni (dig z.natAbs))
structure Valid (neg:Bool) (ds:List Int):Prop where
 len:ds.length≤600
 small:∀ j,j<ds.length→0≤at0 ds j∧at0 ds j<1000000000
 top:0<ds.length→at0 ds (ds.length-1)≠0
 zero:ds.length=0→neg=false
section
variable {w w':World} {B:Nat} {v:Value} {neg:Bool} {ds:List Int} {z:Int}
theorem LR.step (h:LR w w.heap.size v neg ds) (hb:Below w.heap.size w w'):LR w' w'.heap.size v neg ds:=by
 obtain⟨s,hv,hs⟩:=h;exact⟨s,hv,hs.step hb⟩
theorem LV.step (h:LV w w.heap.size v z) (hb:Below w.heap.size w w'):LV w' w'.heap.size v z:=LR.step h hb
theorem Valid.num (h:Valid neg ds):∃ z:Int,neg=decide (z<0)∧ds=ni (dig z.natAbs)∧(dig z.natAbs).length≤600:=by
 obtain⟨r,hr,hrl,hrs,hrv⟩:=digits_of h.small;have hn:Norm r:=⟨hrs,fun he=>by
  have hp:0<r.length:=by
   apply Nat.pos_of_ne_zero;intro h0
   rw[List.eq_nil_of_length_eq_zero h0] at he;simp at he
  have h1:=h.top (by omega);rw[hr,at0_ni] at h1;rw[List.getLast?_eq_getElem?] at he;rw[ni_length,List.getD_eq_getElem?_getD,he] at h1;exact h1 rfl⟩
 have hd:=dig_val hn;have hl:=h.len;cases neg with
 | false=>exact⟨(val r:Int),by simp,by rw[Int.natAbs_natCast,hd];exact hr,by rw[Int.natAbs_natCast,hd];omega⟩
 | true=>
  have hp:val r≠0:=by
   intro h0;have h1:=(norm_zero hn).1 h0;have:=h.zero (by rw[← hrl,h1];rfl);cases this
  exact⟨-(val r:Int),by simp;omega,by rw[Int.natAbs_neg,Int.natAbs_natCast,hd];exact hr,by rw[Int.natAbs_neg,Int.natAbs_natCast,hd];omega⟩
theorem valid_num (h:(dig z.natAbs).length≤600):Valid (decide (z<0)) (ni (dig z.natAbs)):=by
 refine⟨by rw[ni_length];exact h,fun j _=>at0_small (dig_small _) j,fun hp=>?_,fun h0=>?_⟩
 ·rw[ni_length] at hp ⊢;rw[at0_ni];have h1:=(dig_norm z.natAbs).2;rw[List.getLast?_eq_getElem?] at h1;rw[List.getD_eq_getElem?_getD,List.getElem?_eq_getElem (by omega)] ;rw[List.getElem?_eq_getElem (by omega)] at h1;simp at h1 ⊢
  omega
 ·rw[ni_length] at h0;have:=dig_eq_nil.1 (List.eq_nil_of_length_eq_zero h0);simp;omega
end
def CheckOf (neg:Bool) (ds:List Int) (c:Int):Prop:=(Valid neg ds∧c=0)∨(¬ Valid neg ds∧c=30)
theorem RI.at {w:World} {B:Nat} {v:Value} {l:List Int} (h:RI w B v l):∃ A c,v=.slice A l.length c∧l.length≤c∧c≤9223372036854775807 ∧
  (0<l.length→∃ g off,A=some ⟨g,off,none⟩∧g<B∧∀ j,j<l.length→w.cell? ⟨g,off+j,none⟩=some (.int .i64 (at0 l j))):=by
 obtain⟨A,c,hv,hc,hm,h0⟩:=h;refine⟨A,c,hv,hc,hm,fun hp=>?_⟩;obtain⟨g,off,hA,hg,hx⟩:=h0 hp;exact⟨g,off,hA,hg,fun j hj=>by rw[hx j hj,at0_get hj]⟩
theorem Check_any (w:World) (v:Value) (neg:Bool) (ds:List Int) (h:LR w w.heap.size v neg ds) :
  Calls Tryz.prog 89 #[v] w fun e w'=>Below w.heap.size w w'∧∃ c,e=.returned (.int .i64 c)∧CheckOf neg ds c:=by
 obtain⟨s,rfl,hs⟩:=h;obtain⟨A,c,rfl,hc,hc',hA⟩:=hs.at;have hlen:ds.length≤9223372036854775807:=by omega
 replace hA:=zz hA;clear hs;have a0:Below w.heap.size w (w.alloc (.cells #[.bool neg,.slice A ds.length c] 31)):=(Below.refl _ _).alloc (Nat.le_refl _) _;by_cases h6:600<ds.length
 ·go_enter Tryz.func89,Tryz.ntmps89
  go_wp2;go_ret;exact⟨a0,30,rfl,.inr ⟨fun hv=>by have:=hv.len;omega,rfl⟩⟩
 ·by_cases hz:ds.length=0
  ·have HZ:=zz hz;rw[hz];rw[hz] at a0;have HB:=zz a0;clear hz a0 h6 hc hlen;cases neg with
   | true=>
    go_enter Tryz.func89,Tryz.ntmps89
    go_wp2;go_ret;exact⟨HB.out,30,rfl,.inr ⟨fun hv=>absurd (hv.zero HZ.out) (by decide),rfl⟩⟩
   | false=>
    go_enter Tryz.func89,Tryz.ntmps89
    go_wp2;go_loopw [35] (fun i wr=>i=.int .i64 0∧Below w.heap.size w wr) (fun _ _=>0)
    case atStart=>exact⟨rfl,HB.out⟩
    case round=>
     obtain⟨rfl,hbw⟩:=hrel;go_wp2;go_ret;exact⟨hbw,0,rfl,.inl ⟨⟨by have:=HZ.out;omega,fun j hj=>by have:=HZ.out;omega,fun hp=>by have:=HZ.out;omega,fun _=>rfl⟩,rfl⟩⟩
  ·have hp:0<ds.length:=by omega
   have h6':(ds.length:Int)≤600:=by omega
   have hp':(0:Int)<(ds.length:Int):=by omega
   obtain⟨g,off,rfl,hg,hx⟩:=hA.out hp;have hx1:=hx (ds.length-1) (by omega);have hx1:=(a0.cell (p:=⟨g,off+(ds.length-1),none⟩) hg).trans hx1;obtain⟨t,ht⟩:∃ t,t=at0 ds (ds.length-1):=⟨_,rfl⟩;rw[← ht] at hx1;have HT:=zz ht;replace hx:=zz hx;have hnz:((ds.length:Int)==0)=false:=by rw[beq_eq_false_iff_ne];omega
   clear ht hz h6;by_cases hlast:t=0
   ·subst hlast;go_enter Tryz.func89,Tryz.ntmps89
    go_wp2;go_ret;exact⟨a0,30,rfl,.inr ⟨fun hv=>hv.top hp HT.out.symm,rfl⟩⟩
   ·have hlast':(t==0)=false:=by rw[beq_eq_false_iff_ne];exact hlast
    have HL:=zz hlast;clear hlast;go_enter Tryz.func89,Tryz.ntmps89
    go_wp2;clear hx1 hlast' hnz;go_loopw [35] (fun i wr=>∃ k:Nat,k≤ds.length∧i=.int .i64 k∧Hid (∀ j,j<k→0≤at0 ds j∧at0 ds j<1000000000)∧Below w.heap.size w wr) (fun i _=>ds.length-(intOf i).toNat)
    case atStart=>exact⟨0,by omega,rfl,zz (fun j hj=>absurd hj (by omega)),a0⟩
    case round=>
     clear a0;obtain⟨k,hk,rfl,hd,hbw⟩:=hrel;by_cases hlk:k<ds.length
     ·have h1:=(hbw.cell (p:=⟨g,off+k,none⟩) hg).trans (hx.out k hlk);obtain⟨x,hx0⟩:∃ x,x=at0 ds k:=⟨_,rfl⟩;rw[← hx0] at h1;have b0:=zz hx0;clear hx0;by_cases hneg:x<0
      ·go_wp2;go_ret;exact⟨hbw,30,rfl,.inr ⟨fun hv=>by have:=hv.small k hlk;rw[← b0.out] at this;omega,rfl⟩⟩
      ·by_cases hbig:1000000000≤x
       ·go_wp2;go_ret;exact⟨hbw,30,rfl,.inr ⟨fun hv=>by have:=hv.small k hlk;rw[← b0.out] at this;omega,rfl⟩⟩
       ·have hneg':0≤x:=by omega
        have hbig':x<1000000000:=by omega
        clear hneg hbig;go_wp2;go_roundw
        case rel=>
         refine⟨k+1,by omega,by go_num,zz (fun j hj=>?_),hbw⟩;rcases Nat.lt_or_ge j k with h | h
         ·exact hd.out j h
         ·obtain rfl:j=k:=by omega
          rw[← b0.out];exact⟨hneg',hbig'⟩
        case measure=>simp[intOf];omega
     ·obtain rfl:k=ds.length:=by omega
      go_wp2;go_ret;exact⟨hbw,0,rfl,.inl ⟨⟨by omega,hd.out,fun _=>by rw[← HT.out];exact HL.out,fun h0=>by omega⟩,rfl⟩⟩
theorem take_ne {l m:List Int} {k:Nat} (hne:at0 l k≠at0 m k):l≠m:=by
 rintro rfl;exact hne rfl
theorem eq_of_at {l m:List Int} (hl:l.length=m.length) (h:∀ j,j<l.length→at0 l j=at0 m j):l=m:=by
 refine List.ext_getElem hl fun j h1 h2=>?_
 have:=h j h1
 rwa [at0_get h1,at0_get h2] at this
theorem Equal_any (w:World) (va vb:Value) (l m:List Int) (ha:RI w w.heap.size va l) (hb:RI w w.heap.size vb m) :
  Calls Tryz.prog 109 #[va,vb] w fun e w'=>Below w.heap.size w w'∧e=.returned (.bool (decide (l=m))):=by
 obtain⟨A,ca,rfl,hca,hca',hA⟩:=ha.at;obtain⟨Bb,cb,rfl,hcb,hcb',hB⟩:=hb.at;have hla:l.length≤9223372036854775807:=by omega
 have hlb:m.length≤9223372036854775807:=by omega
 replace hA:=zz hA;replace hB:=zz hB;clear ha hb;by_cases hne:l.length=m.length
 ·have HL:=zz hne;have hle:(l.length:Int)≤m.length:=by omega
  have hge:(m.length:Int)≤l.length:=by omega
  have hbq:((l.length:Int) != (m.length:Int))=false:=by simp;omega
  clear hne;go_enter Tryz.func109,Tryz.ntmps109
  go_wp2;go_loopw [13] (fun i wr=>∃ k:Nat,k≤l.length∧i=.int .i64 k∧Hid (∀ j,j<k→at0 l j=at0 m j)∧Below w.heap.size w wr) (fun i _=>l.length-(intOf i).toNat)
  case atStart=>exact⟨0,by omega,rfl,zz (fun j hj=>absurd hj (by omega)),Below.refl _ _⟩
  case round=>
   obtain⟨k,hk,rfl,hd,hbw⟩:=hrel;by_cases hlk:k<l.length
   ·obtain⟨g,off,rfl,hg,hx⟩:=hA.out (by omega);obtain⟨g',off',rfl,hg',hx'⟩:=hB.out (by omega);have h1:=(hbw.cell (p:=⟨g,off+k,none⟩) hg).trans (hx k hlk);have h2:=(hbw.cell (p:=⟨g',off'+k,none⟩) hg').trans (hx' k (by omega));obtain⟨x,hx0⟩:∃ x,x=at0 l k:=⟨_,rfl⟩;obtain⟨y,hy0⟩:∃ y,y=at0 m k:=⟨_,rfl⟩;rw[← hx0] at h1;rw[← hy0] at h2;have a0:=zz hx0;have b0:=zz hy0;clear hx0 hy0 hx hx';go_wp2;go_quiet (fail)
    go_wp2
    ·have hxy:x≠y:=bne_yes (by assumption);go_ret;refine⟨below_drewN hbw _,?_⟩;rw[decide_eq_false (take_ne (by rw[← a0.out,← b0.out];exact hxy))]
     rfl
    ·have hxy:x=y:=bne_no (by assumption);have c0:=zz hxy;clear hxy;go_roundw
     case rel=>
      refine⟨k+1,by omega,by go_num,zz (fun j hj=>?_),below_drewN hbw _⟩;rcases Nat.lt_or_ge j k with h | h
      ·exact hd.out j h
      ·obtain rfl:j=k:=by omega
       rw[← a0.out,← b0.out,c0.out]
     case measure=>simp[intOf];omega
   ·obtain rfl:k=l.length:=by omega
    go_wp2;go_ret;refine⟨hbw,?_⟩;rw[decide_eq_true (eq_of_at HL.out hd.out)]
    rfl
 ·have hbq:((l.length:Int) != (m.length:Int))=true:=by simp;omega
  have d0:=zz hne;clear hne;go_enter Tryz.func109,Tryz.ntmps109
  go_wp2;go_ret;refine⟨Below.refl _ _,?_⟩;rw[decide_eq_false (fun e=>d0.out (by rw[e]))]
  rfl
theorem Same_any (w:World) (va vb:Value) (na nb:Bool) (l m:List Int) (ha:LR w w.heap.size va na l) (hb:LR w w.heap.size vb nb m) :
  Calls Tryz.prog 87 #[va,vb] w fun e w'=>Below w.heap.size w w'∧e=.returned (.bool (decide (na=nb∧l=m))):=by
 obtain⟨s,rfl,hs⟩:=ha;obtain⟨t,rfl,ht⟩:=hb;have HS:=zz hs;have HT:=zz ht;obtain⟨A,ca,rfl,_⟩:=hs;obtain⟨Bb,cb,rfl,_⟩:=ht;have a0:Below w.heap.size w ((w.alloc (.cells #[.bool na,.slice A l.length ca] 31)).alloc (.cells #[.bool nb,.slice Bb m.length cb] 31)):=((Below.refl _ _).alloc (Nat.le_refl _) _).alloc (by simp) _;have HB:=zz a0;clear a0;by_cases hn:na=nb
 ·subst hn;have hq:(na==na)=true:=by simp
  go_enter Tryz.func87,Tryz.ntmps87
  go_wp2_with fail
  refine(Equal_any _ _ _ l m (HS.out.step HB.out) (HT.out.step HB.out)).mono ?_;rintro e w1 ⟨b0,rfl⟩;go_wp2;go_ret;refine⟨HB.out.trans (b0.mono HB.out.size),?_⟩;simp
 ·have hq:(na==nb)=false:=by simpa using hn
  go_enter Tryz.func87,Tryz.ntmps87
  go_wp2;go_ret;refine⟨HB.out,?_⟩;rw[decide_eq_false (fun e=>hn e.1)]
  rfl
theorem SameR_any (w:World) (va vb:Value) (na nb:Bool) (l m:List Int) (ha:LR w w.heap.size va na l) (hb:LR w w.heap.size vb nb m) :
  Calls Tryz.prog 110 #[va,vb] w fun e w'=>Below w.heap.size w w'∧e=.returned (.bool (decide (na=nb∧l=m))):=by
 obtain⟨s,rfl,hs⟩:=ha;obtain⟨t,rfl,ht⟩:=hb;obtain⟨A,ca,rfl,hca,hca',hA⟩:=hs.at;obtain⟨Bb,cb,rfl,hcb,hcb',hB⟩:=ht.at;have hla:l.length≤9223372036854775807:=by omega
 have hlb:m.length≤9223372036854775807:=by omega
 replace hA:=zz hA;replace hB:=zz hB;clear hs ht;have b0:Below w.heap.size w ((w.alloc (.cells #[.bool na,.slice A l.length ca] 31)).alloc (.cells #[.bool nb,.slice Bb m.length cb] 31)):=((Below.refl _ _).alloc (Nat.le_refl _) _).alloc (by simp) _;have a0:=zz b0;clear b0;by_cases hn:na=nb
 ·subst hn;have hq:(na != na)=false:=by simp
  by_cases hne:l.length=m.length
  ·have HL:=zz hne;have hle:(l.length:Int)≤m.length:=by omega
   have hge:(m.length:Int)≤l.length:=by omega
   have hbq:((l.length:Int) != (m.length:Int))=false:=by simp;omega
   clear hne;go_enter Tryz.func110,Tryz.ntmps110
   go_wp2;go_loopw [5] (fun i wr=>∃ k nn:Nat,k≤l.length∧i=.int .i64 k∧Hid (∀ j,j<k→at0 l j=at0 m j)∧wr=((w.alloc (.cells #[.bool na,.slice A l.length ca] 31)).alloc (.cells #[.bool na,.slice Bb m.length cb] 31)).drewN nn) (fun i _=>l.length-(intOf i).toNat)
   case atStart=>exact⟨0,0,by omega,rfl,zz (fun j hj=>absurd hj (by omega)),rfl⟩
   case round=>
    obtain⟨k,nn,hk,rfl,hd,rfl⟩:=hrel;have c0:=zz (below_drewN a0.out nn);by_cases hlk:k<l.length
    ·obtain⟨g,off,rfl,hg,hx⟩:=hA.out (by omega);obtain⟨g',off',rfl,hg',hx'⟩:=hB.out (by omega);have h1:=(c0.out.cell (p:=⟨g,off+k,none⟩) hg).trans (hx k hlk);have h2:=(c0.out.cell (p:=⟨g',off'+k,none⟩) hg').trans (hx' k (by omega));rw[World.cell?_drewN] at h1 h2;obtain⟨x,hx0⟩:∃ x,x=at0 l k:=⟨_,rfl⟩;obtain⟨y,hy0⟩:∃ y,y=at0 m k:=⟨_,rfl⟩;rw[← hx0] at h1;rw[← hy0] at h2;have d0:=zz hx0;have e0:=zz hy0;clear hx0 hy0 hx hx';go_wp2;go_quiet (fail)
     go_wp2
     ·have hxy:x≠y:=bne_yes (by assumption);go_ret;refine⟨by first | exact below_drewN a0.out _ | exact below_drewN (below_drewN a0.out _) _,?_⟩;have hne:l≠m:=take_ne (by rw[← d0.out,← e0.out];exact hxy)
      first | (rw[decide_eq_false hne];rfl) | (rw[decide_eq_false (fun e=>hne e.2)];rfl)
     ·have hxy:x=y:=bne_no (by assumption);have f0:=zz hxy;clear hxy;go_roundw
      case rel=>
       refine⟨k+1,_,by omega,by go_num,zz (fun j hj=>?_),rfl⟩;rcases Nat.lt_or_ge j k with h | h
       ·exact hd.out j h
       ·obtain rfl:j=k:=by omega
        rw[← d0.out,← e0.out,f0.out]
      case measure=>simp[intOf];omega
    ·obtain rfl:k=l.length:=by omega
     go_wp2;go_ret;refine⟨c0.out,?_⟩;have heq:l=m:=eq_of_at HL.out hd.out
     first | (rw[decide_eq_true heq];rfl) | (rw[decide_eq_true (show True∧l=m from⟨trivial,heq⟩)];rfl)
  ·have hbq:((l.length:Int) != (m.length:Int))=true:=by simp;omega
   have g0:=zz hne;clear hne;go_enter Tryz.func110,Tryz.ntmps110
   go_wp2;go_ret;refine⟨a0.out,?_⟩;have hne:l≠m:=fun e=>g0.out (by rw[e])
   first | (rw[decide_eq_false hne];rfl) | (rw[decide_eq_false (fun e=>hne e.2)];rfl)
 ·have hq:(na != nb)=true:=by simpa using hn
  have HN:=zz hn;clear hn;go_enter Tryz.func110,Tryz.ntmps110
  go_wp2;go_ret;refine⟨a0.out,?_⟩;rw[decide_eq_false (fun e=>HN.out e.1)]
  rfl
def LB (w:World) (b:Nat) (x y:Value):Prop:=w.heap[b]?=some (.cells #[x,y] 31 (0,0))
section
variable {w w':World} {b:Nat} {x y u:Value}
theorem LB.lt (h:LB w b x y):b<w.heap.size:=by
 rcases Nat.lt_or_ge b w.heap.size with hlt | hge
 ·exact hlt
 ·unfold LB at h;rw[Array.getElem?_eq_none hge] at h;cases h
theorem LB.cell0 (h:LB w b x y):w.cell? ⟨b,0,none⟩=some x:=by
 unfold LB at h;simp[World.cell?,h]
theorem LB.cell1 (h:LB w b x y):w.cell? ⟨b,1,none⟩=some y:=by
 unfold LB at h;simp[World.cell?,h]
theorem LB.frozen (h:LB w b x y) (j:Nat):w.frozen? ⟨b,j,none⟩=false:=by
 unfold LB at h;simp[World.frozen?,h]
theorem LB.new (w:World) (x y:Value):LB (w.alloc (.cells #[x,y] 31)) w.heap.size x y:=heap_alloc_new w _
theorem LB.of_block (h:LB w b x y) (hb:w'.heap[b]?=w.heap[b]?):LB w' b x y:=hb.trans h
theorem LB.step (h:LB w b x y) (hb:Below w.heap.size w w'):LB w' b x y:=h.of_block (hb.block b h.lt)
theorem LB.alloc (h:LB w b x y) (o:Obj):LB (w.alloc o) b x y:=h.of_block (Below.heap_alloc w o b h.lt)
theorem LB.far (h:LB w b x y) {p:Addr} (hp:b≠p.block) (u:Value):LB (w.setCell p u) b x y:=h.of_block (Below.heap_setCell w p u b hp)
theorem LB.set0 (h:LB w b x y) (u:Value):LB (w.setCell ⟨b,0,none⟩ u) b u y:=by
 unfold LB at h ⊢;simp[World.setCell,Array.getElem?_modify,h]
theorem LB.set1 (h:LB w b x y) (u:Value):LB (w.setCell ⟨b,1,none⟩ u) b x u:=by
 unfold LB at h ⊢;simp[World.setCell,Array.getElem?_modify,h]
theorem LB.drew (h:LB w b x y):LB w.drew b x y:=h
theorem LB.ret {fn:Func} {p k:Tmp} (hf:fn.results=#[.cell p 31,.tmp k]) (tmps:Array Value) (h:LB w b x y) (hp:tmps.getD p undef=.pointer (some ⟨b,0,none⟩)) :
  (results fn tmps).run Tryz.prog w=.ok (.tuple #[.agg #[x,y],tmps.getD k undef]) w:=by
 rw[results_cell_tmp hf,hp];simp[asAddr,run_loadVar_row w b _ 31 #[x,y] (0,0) _ h Tryz.underlying31 rfl (by kernel_rfl)]
theorem LB.ret1 {fn:Func} {p:Tmp} (hf:fn.results=#[.cell p 31]) (tmps:Array Value) (h:LB w b x y) (hp:tmps.getD p undef=.pointer (some ⟨b,0,none⟩)) :
  (results fn tmps).run Tryz.prog w=.ok (.agg #[x,y]) w:=
 results_cell_row hf tmps w b _ #[x,y] (0,0) _ hp h Tryz.underlying31 rfl (by kernel_rfl)
theorem RI.setLB {B:Nat} {s:Value} {l:List Int} {p:Bool} {A:Option Addr} {n c:Nat} (h:RI w B s l) (hv:LB w b (.bool p) (.slice A n c)) (k:Nat) (u:Value):RI (w.setCell ⟨b,k,none⟩ u) B s l:=by
 obtain⟨A',c',hs,hc,hm,h0⟩:=h;refine⟨A',c',hs,hc,hm,fun hp=>?_⟩;obtain⟨g,off,hA,hg,hx⟩:=h0 hp;have hne:g≠b:=by
  rintro rfl;have h1:=hx 0 hp;unfold LB at hv;simp only[World.cell?,hv] at h1
  match off with
  | 0=>simp at h1
  | 1=>simp at h1
  | k+2=>simp at h1
 exact⟨g,off,hA,hg,fun j hj=>(World.cell?_of_block (Below.heap_setCell _ _ _ _ hne)).trans (hx j hj)⟩
theorem LB.put {p q:Bool} {A:Option Addr} {n c:Nat} {s:Value} {l:List Int} (h:LB w b (.bool p) (.slice A n c)) (hs:RI w w.heap.size s l) :
  LB ((w.setCell ⟨b,0,none⟩ (.bool q)).setCell ⟨b,1,none⟩ s) b (.bool q) s∧RI ((w.setCell ⟨b,0,none⟩ (.bool q)).setCell ⟨b,1,none⟩ s) ((w.setCell ⟨b,0,none⟩ (.bool q)).setCell ⟨b,1,none⟩ s).heap.size s l:=by
 refine⟨(h.set0 _).set1 _,?_⟩;have h1:=(hs.setLB h 0 (.bool q)).setLB (h.set0 _) 1 s;have e:((w.setCell ⟨b,0,none⟩ (.bool q)).setCell ⟨b,1,none⟩ s).heap.size=w.heap.size:=by simp[World.setCell]
 rw[e];exact h1
end
def RetL (w':World) (r:Int × Int) (e:Ending):Prop:=∃ v,e=.returned (.tuple #[v,.int .i64 r.2])∧LV w' w'.heap.size v r.1
theorem LV.zero (w:World) (B:Nat):LV w B (.agg #[.bool false,.slice none 0 0]) 0:=⟨_,rfl,by rw[show(0:Int).natAbs=0 from rfl,Dig.dig_zero];exact RI.nil _ _⟩
theorem end_put {fn:Func} {p k:Tmp} (hf:fn.results=#[.cell p 31,.tmp k]) {W w:World} {B b:Nat} {q0:Bool} {A:Option Addr} {n c:Nat} (hL:LB w b (.bool q0) (.slice A n c)) (hb:Below B W w) (hB:B≤b)
  {q:Bool} {s:Value} {z e:Int} {r:Int × Int} {tmps:Array Value} (hs:RI w w.heap.size s (ni (Dig.dig z.natAbs))) (hq:q=decide (z<0)) (hr:r=(z,e)) (hp:tmps.getD p undef=.pointer (some ⟨b,0,none⟩)) (hk:tmps.getD k undef=.int .i64 e) :
  bodyPost Tryz.prog fn (fun e w'=>Below B W w'∧RetL w' r e) .ret ⟨tmps,[]⟩ ((w.setCell ⟨b,0,none⟩ (.bool q)).setCell ⟨b,1,none⟩ s):=by
 obtain⟨h1,h2⟩:=hL.put (q:=q) hs;refine bodyPost_ret (LB.ret hf tmps h1 hp) rfl ⟨(hb.setCell (by simpa using hB) _).setCell (by simpa using hB) _,.agg #[.bool q,s],?_,?_⟩
 ·rw[hk,hr]
 ·rw[hr,← show z=(z,e).1 from rfl];exact⟨s,by rw[hq],h2⟩
theorem end_zero {fn:Func} {p k:Tmp} (hf:fn.results=#[.cell p 31,.tmp k]) {W w:World} {B b:Nat} {q0:Bool} {A:Option Addr} {n c:Nat} (hL:LB w b (.bool q0) (.slice A n c)) (hb:Below B W w) (hB:B≤b)
  {e:Int} {r:Int × Int} {tmps:Array Value} (hr:r=(0,e)) (hp:tmps.getD p undef=.pointer (some ⟨b,0,none⟩)) (hk:tmps.getD k undef=.int .i64 e) :
  bodyPost Tryz.prog fn (fun e w'=>Below B W w'∧RetL w' r e) .ret ⟨tmps,[]⟩ ((w.setCell ⟨b,0,none⟩ (.bool false)).setCell ⟨b,1,none⟩ (.slice none 0 0)):=
 end_put hf hL hb hB (z:=0) (by rw[show(0:Int).natAbs=0 from rfl,Dig.dig_zero];exact RI.nil _ _) (by decide) hr hp hk
theorem end_none {fn:Func} {p k:Tmp} (hf:fn.results=#[.cell p 31,.tmp k]) {W w:World} {B b:Nat} (hL:LB w b (.bool false) (.slice none 0 0)) (hb:Below B W w)
  {e:Int} {r:Int × Int} {tmps:Array Value} (hr:r=(0,e)) (hp:tmps.getD p undef=.pointer (some ⟨b,0,none⟩)) (hk:tmps.getD k undef=.int .i64 e) :
  bodyPost Tryz.prog fn (fun e w'=>Below B W w'∧RetL w' r e) .ret ⟨tmps,[]⟩ w:=by
 refine bodyPost_ret (LB.ret hf tmps hL hp) rfl ⟨hb,.agg #[.bool false,.slice none 0 0],?_,?_⟩
 ·rw[hk,hr]
 ·rw[hr];exact LV.zero _ _
theorem clone_size (w:World) (v:Value) (l:List Int) (h:RI w w.heap.size v l) (hl:l.length≤10000000000) :
  Calls Tryz.prog 92 #[v] w fun e w'=>Below w.heap.size w w'∧∃ v',e=.returned v'∧OwnV w' w.heap.size v' l:=by
 obtain⟨A,c,rfl,hc,hc',hA⟩:=h;obtain⟨i0,hi,hz0,hz1,hz2⟩:=info_parts info_int;have q22:∀ (w:World) (a:Option Addr) (n c n' c':Nat),(binOp .eql 80 (.slice a n c) (.slice none n' c')).run Tryz.prog w=.ok (.bool a.isNone) w:=fun w a n c n' c'=>Lib.run_eql_slice_nil w _ _ a n c n' c' Tryz.underlying80
 cases A with
 | none=>
  have h0:l=[]:=by
   rcases Nat.eq_zero_or_pos l.length with h | h
   ·exact List.eq_nil_of_length_eq_zero h
   ·obtain⟨g,off,h,_⟩:=hA h;cases h
  subst h0;go_enter Tryz.func92,Tryz.ntmps92
  go_wp2;go_ret;exact⟨Below.refl _ _,_,rfl,OwnV.nil _ _⟩
 | some ad=>
  have HA:∀ j u,(l.map (Value.int .i64))[j]?=some u→w.cell? (ad.add j)=some u:=by
   intro j u hj;have hjl:j<l.length:=by have:=(List.getElem?_eq_some_iff.1 hj).1;simpa using this
   obtain⟨g,off,he,_,hx⟩:=hA (by omega);obtain rfl:=Option.some.inj he;rw[List.getElem?_map,List.getElem?_eq_getElem hjl] at hj;rw[Addr.add_lit,hx j hjl];exact hj
  have HA:=zz HA;clear hA;go_enter Tryz.func92,Tryz.ntmps92
  go_wp2_with (at_builtin;refine wpList_append_own _ rfl _ _ 80 rfl w.heap.size 3 i0 (.int .i64 0) 1 8 Tryz.underlying80 hi hz0 hz1 hz2 rfl (by decide) _ _ _ rfl (World.ownsRow_made w #[] 0 (Nat.le_refl _) (Nat.zero_le _) rfl) ad l.length c (l.map (Value.int .i64)) rfl ?qc1 ?qc2 ?qc3 ?qc4 ?qc5 ?qc6 ?_)
  case qc1=>simp
  case qc2=>intro j u hj;exact Lib.cell?_alloc_some _ (HA.out j u hj)
  case qc3=>intro u hu;obtain⟨x,_,rfl⟩:=List.mem_map.1 hu;rfl
  case qc4=>unfold maxLen;omega
  case qc5=>omega
  case qc6=>simp
  intro v' w1 hown hgrow hnil;go_wp2;go_ret;exact⟨((Below.refl _ w).alloc (Nat.le_refl _) _).grown hgrow (by simp) (by intro k hk;simp[Value.ownBlock] at hk;omega),v',rfl,by simpa[OwnV] using hown⟩
noncomputable def numOf (neg:Bool) (ds:List Int):Option Int:=open Classical in if h:Valid neg ds then some h.num.choose else none
theorem numOf_valid {neg:Bool} {ds:List Int} (h:Valid neg ds):∃ z,numOf neg ds=some z∧neg=decide (z<0)∧ds=ni (dig z.natAbs)∧(dig z.natAbs).length≤600:=by
 refine⟨h.num.choose,?_,h.num.choose_spec⟩;unfold numOf;rw[dif_pos h]
theorem numOf_bad {neg:Bool} {ds:List Int} (h:¬ Valid neg ds):numOf neg ds=none:=by
 unfold numOf;rw[dif_neg h]
theorem ni_inj {a b:List Nat} (h:ni a=ni b):a=b:=by
 have h1:=congrArg (List.map Int.toNat) h
 simpa[ni,Function.comp_def] using h1
theorem lv_inj {z y:Int} (h1:decide (z<0)=decide (y<0)) (h2:ni (dig z.natAbs)=ni (dig y.natAbs)):z=y:=by
 have h3:=ni_inj h2;have h4:z.natAbs=y.natAbs:=by rw[← val_dig z.natAbs,h3,val_dig]
 have h5:z<0↔y<0:=by simpa using h1
 omega
theorem numOf_dig {z:Int} (h:(dig z.natAbs).length≤600):numOf (decide (z<0)) (ni (dig z.natAbs))=some z:=by
 obtain⟨y,h1,h2,h3,_⟩:=numOf_valid (valid_num h);rw[h1,lv_inj h2 h3]
def A1 (f:Int→Int × Int):Option Int→Int × Int
 | some a=>f a
 | none=>(0,30)
def A2 (f:Int→Int→Int × Int):Option Int→Option Int→Int × Int
 | some a,some b=>f a b
 | _,_=>(0,30)
structure PlusA (x y:List Nat) (k:Nat) (out:List Int):Prop where
 len:out.length=x.length+1
 sum:valI out=(val x:Int)+(val (y.take k):Int)
 lo:∀ j,0≤at0 out j
 hi:∀ j,at0 out j≤1999999998
 rest:∀ j,k≤j→at0 out j<1000000000
 last:at0 out x.length=0
theorem PlusA.start {x y:List Nat} (hx:Small x):PlusA x y 0 (ni x++[0]):=by
 have ha:∀ j,0≤at0 (ni x++[0]) j∧at0 (ni x++[0]) j<1000000000:=fun j=>by
  by_cases h:j<(ni x).length
  ·rw[at0_append_left h];exact at0_small hx j
  ·rw[at0_append_right (by omega)];have:at0 [0] (j-(ni x).length)=0:=at0_zeros 1 _
   omega
 refine⟨by simp[ni],?_,fun j=>(ha j).1,fun j=>by have:=(ha j).2;omega,fun j _=>(ha j).2,?_⟩
 ·rw[valI_append,valI_ni];simp[valI,val]
 ·rw[at0_append_right (by simp[ni])];simp[ni,at0]
theorem PlusA.step {x y:List Nat} {k:Nat} {out:List Int} (h:PlusA x y k out) (hy:Small y) (hk:k<y.length) (hxy:y.length≤x.length) :
  PlusA x y (k+1) (out.set k (at0 out k+(y[k]:Int))):=by
 have hyk:y[k]<1000000000:=hy _ (List.getElem_mem hk);have hko:k<out.length:=by rw[h.len];omega
 have h0:=h.lo k;have h1:=h.rest k (Nat.le_refl _);refine⟨by rw[List.length_set];exact h.len,?_,fun j=>?_,fun j=>?_,fun j hj=>?_,?_⟩
 ·rw[valI_set _ hko,h.sum,val_take_succ hk,show at0 out k+(y[k]:Int)-at0 out k=(y[k]:Int) by omega];omega
 ·rw[at0_set];split <;> have:=h.lo j <;> omega
 ·rw[at0_set];split <;> have:=h.hi j <;> omega
 ·rw[at0_set_ne (by omega)];exact h.rest j (by omega)
 ·rw[at0_set_ne (by omega)];exact h.last
structure PlusB (x y:List Nat) (k:Nat) (out:List Int):Prop where
 len:out.length=x.length+1
 sum:valI out=(val x:Int)+(val y:Int)
 lo:∀ j,0≤at0 out j
 done:∀ j,j<k→at0 out j<1000000000
 here:at0 out k≤1999999999
 hi:∀ j,k<j→at0 out j≤1999999998
 last:at0 out x.length≤1
 last0:k<x.length→at0 out x.length=0
theorem PlusB.start {x y:List Nat} {out:List Int} (h:PlusA x y y.length out):PlusB x y 0 out:=by
 refine⟨h.len,?_,h.lo,fun j hj=>absurd hj (by omega),?_,fun j _=>h.hi j,?_,fun _=>h.last⟩
 ·have:=h.sum;rwa [List.take_length] at this
 ·have:=h.hi 0;omega
 ·have:=h.last;omega
theorem PlusB.keep {x y:List Nat} {k:Nat} {out:List Int} (h:PlusB x y k out) (hk:k<x.length) (hlt:at0 out k<1000000000):PlusB x y (k+1) out:=
 ⟨h.len,h.sum,h.lo,fun j hj=>by
  rcases Nat.lt_or_ge j k with h1 | h1
  ·exact h.done j h1
  ·obtain rfl:j=k:=by omega
   exact hlt,by have:=h.hi (k+1) (by omega);omega,fun j hj=>h.hi j (by omega),h.last,fun _=>h.last0 hk⟩
theorem PlusB.carry {x y:List Nat} {k:Nat} {out:List Int} (h:PlusB x y k out) (hk:k<x.length) (hge:1000000000≤at0 out k) :
  PlusB x y (k+1) ((out.set k (at0 out k-1000000000)).set (k+1) (at0 out (k+1)+1)):=by
 have hko:k<out.length:=by rw[h.len];omega
 have a0:k+1<out.length:=by rw[h.len];omega
 have h0:=h.here;have h1:=h.hi (k+1) (by omega);have h2:=h.lo (k+1);have e1:at0 (out.set k (at0 out k-1000000000)) (k+1)=at0 out (k+1):=at0_set_ne (by omega);have hat:∀ j,at0 ((out.set k (at0 out k-1000000000)).set (k+1) (at0 out (k+1)+1)) j=if j=k+1 then at0 out (k+1)+1 else if j=k then at0 out k-1000000000 else at0 out j:=fun j=>by
  by_cases ha:j=k+1
  ·subst ha;rw[if_pos rfl,at0_set_same (by simpa using a0)]
  ·rw[if_neg ha,at0_set_ne (by omega)];by_cases hb:j=k
   ·subst hb;rw[if_pos rfl,at0_set_same hko]
   ·rw[if_neg hb,at0_set_ne (by omega)]
 refine⟨by rw[List.length_set,List.length_set];exact h.len,?_,fun j=>?_,fun j hj=>?_,?_,fun j hj=>?_,?_,fun hlt=>?_⟩
 ·rw[valI_set _ (by simpa using a0),valI_set _ hko,e1,h.sum,bpI_succ];rw[show at0 out (k+1)+1-at0 out (k+1)=1 by omega,show at0 out k-1000000000-at0 out k=-1000000000 by omega]
  omega
 ·rw[hat];split
  ·omega
  ·split
   ·omega
   ·exact h.lo j
 ·rw[hat,if_neg (by omega)];split
  ·omega
  ·exact h.done j (by omega)
 ·rw[hat,if_pos rfl];omega
 ·rw[hat,if_neg (by omega),if_neg (by omega)];exact h.hi j (by omega)
 ·have hz:=h.last0 hk;rw[hat];split
  ·rename_i he;rw[← he,hz];omega
  ·split
   ·omega
   ·exact h.last
 ·rw[hat,if_neg (by omega),if_neg (by omega)];exact h.last0 hk
theorem PlusB.fin {x y:List Nat} {out:List Int} (h:PlusB x y x.length out):∃ r:List Nat,out=ni r∧r.length=x.length+1∧Small r∧val r=val x+val y:=by
 obtain⟨r,h1,h2,h3,h4⟩:=digits_of (l:=out) fun j hj=>⟨h.lo j,by
  rcases Nat.lt_or_ge j x.length with hl | hl
  ·exact h.done j hl
  ·obtain rfl:j=x.length:=by have:=h.len;omega
   have:=h.last;omega⟩
 exact⟨r,h1,by rw[h2,h.len],h3,by have:=h.sum;omega⟩
structure MinusA (x y:List Nat) (k:Nat) (out:List Int):Prop where
 len:out.length=x.length
 sum:valI out=(val x:Int)-(val (y.take k):Int)
 lo:∀ j,-999999999≤at0 out j
 hi:∀ j,at0 out j<1000000000
 rest:∀ j,k≤j→0≤at0 out j
theorem MinusA.start {x y:List Nat} (hx:Small x):MinusA x y 0 (ni x):=
 ⟨by simp[ni],by rw[valI_ni];simp[val],fun j=>by have:=at0_small hx j;omega,fun j=>(at0_small hx j).2,fun j _=>(at0_small hx j).1⟩
theorem MinusA.step {x y:List Nat} {k:Nat} {out:List Int} (h:MinusA x y k out) (hy:Small y) (hk:k<y.length) (hxy:y.length≤x.length) :
  MinusA x y (k+1) (out.set k (at0 out k-(y[k]:Int))):=by
 have hyk:y[k]<1000000000:=hy _ (List.getElem_mem hk);have hko:k<out.length:=by rw[h.len];omega
 have h0:=h.rest k (Nat.le_refl _);have h1:=h.hi k;refine⟨by rw[List.length_set];exact h.len,?_,fun j=>?_,fun j=>?_,fun j hj=>?_⟩
 ·rw[valI_set _ hko,h.sum,val_take_succ hk,show at0 out k-(y[k]:Int)-at0 out k=-(y[k]:Int) by omega,Int.mul_neg];omega
 ·rw[at0_set];split <;> have:=h.lo j <;> omega
 ·rw[at0_set];split <;> have:=h.hi j <;> omega
 ·rw[at0_set_ne (by omega)];exact h.rest j (by omega)
structure MinusB (z:Nat) (n k:Nat) (out:List Int):Prop where
 len:out.length=n
 sum:valI out=(z:Int)
 done:∀ j,j<k→0≤at0 out j
 lo:∀ j,-1000000000≤at0 out j
 lo':∀ j,k<j→-999999999≤at0 out j
 hi:∀ j,at0 out j<1000000000
theorem MinusB.start {x y:List Nat} {out:List Int} (h:MinusA x y y.length out) (hxy:val y≤val x):MinusB (val x-val y) x.length 0 out:=
 ⟨h.len,by have:=h.sum;rw[List.take_length] at this;omega,fun j hj=>absurd hj (by omega),fun j=>by have:=h.lo j;omega,fun j _=>h.lo j,h.hi⟩
theorem MinusB.keep {z n k:Nat} {out:List Int} (h:MinusB z n k out) (h0:0≤at0 out k):MinusB z n (k+1) out:=
 ⟨h.len,h.sum,fun j hj=>by
  rcases Nat.lt_or_ge j k with h1 | h1
  ·exact h.done j h1
  ·obtain rfl:j=k:=by omega
   exact h0,h.lo,fun j hj=>h.lo' j (by omega),h.hi⟩
theorem valI_split (l:List Int) (k:Nat) (hk:k≤l.length):valI l=valI (l.take k)+(bp k:Int)*valI (l.drop k):=by
 have h:=valI_append (l.take k) (l.drop k);rw[List.take_append_drop,List.length_take,Nat.min_eq_left hk] at h;exact h
theorem at0_take {l:List Int} {j k:Nat} (h:j<k):at0 (l.take k) j=at0 l j:=by
 unfold at0;rw[List.getD_eq_getElem?_getD,List.getD_eq_getElem?_getD,List.getElem?_take,if_pos h]
theorem valI_lt {l:List Int} (h:∀ j,j<l.length→0≤at0 l j∧at0 l j<1000000000):0≤valI l∧valI l<(bp l.length:Int):=by
 obtain⟨r,_,h2,h3,h4⟩:=digits_of h;have:=val_lt h3;rw[h2] at this
 omega
theorem MinusB.room {z n k:Nat} {out:List Int} (h:MinusB z n k out) (hk:k<n) (h0:at0 out k<0):k+1<n:=by
 apply Nat.lt_of_not_le
 intro hn;have hl:=h.len;have h1:=valI_split out k (by omega);have h2:out.drop k=[at0 out k]:=by
  rw[List.drop_eq_getElem_cons (by omega),List.drop_eq_nil_of_le (by omega),at0_get (by omega)]
 have h3:=valI_lt (l:=out.take k) fun j hj=>by
  have hjk:j<k:=by simp at hj;omega
  rw[at0_take hjk];exact⟨h.done j hjk,h.hi j⟩
 rw[List.length_take,Nat.min_eq_left (by omega)] at h3;rw[h2,h.sum] at h1;simp only[valI,Int.mul_zero,Int.add_zero] at h1
 have h4:(bp k:Int)*at0 out k≤(bp k:Int)*(-1):=Int.mul_le_mul_of_nonneg_left (by omega) (by omega)
 omega
theorem MinusB.borrow {z n k:Nat} {out:List Int} (h:MinusB z n k out) (hk:k+1<n) (h0:at0 out k<0) :
  MinusB z n (k+1) ((out.set k (at0 out k+1000000000)).set (k+1) (at0 out (k+1)-1)):=by
 have hko:k<out.length:=by rw[h.len];omega
 have a0:k+1<out.length:=by rw[h.len];omega
 have h1:=h.lo k;have h2:=h.lo' (k+1) (by omega);have h3:=h.hi (k+1);have e1:at0 (out.set k (at0 out k+1000000000)) (k+1)=at0 out (k+1):=at0_set_ne (by omega);have hat:∀ j,at0 ((out.set k (at0 out k+1000000000)).set (k+1) (at0 out (k+1)-1)) j=if j=k+1 then at0 out (k+1)-1 else if j=k then at0 out k+1000000000 else at0 out j:=fun j=>by
  by_cases ha:j=k+1
  ·subst ha;rw[if_pos rfl,at0_set_same (by simpa using a0)]
  ·rw[if_neg ha,at0_set_ne (by omega)];by_cases hb:j=k
   ·subst hb;rw[if_pos rfl,at0_set_same hko]
   ·rw[if_neg hb,at0_set_ne (by omega)]
 refine⟨by rw[List.length_set,List.length_set];exact h.len,?_,fun j hj=>?_,fun j=>?_,fun j hj=>?_,fun j=>?_⟩
 ·rw[valI_set _ (by simpa using a0),valI_set _ hko,e1,h.sum,bpI_succ];rw[show at0 out (k+1)-1-at0 out (k+1)=-1 by omega,show at0 out k+1000000000-at0 out k=1000000000 by omega]
  omega
 ·rw[hat,if_neg (by omega)];split
  ·omega
  ·exact h.done j (by omega)
 ·rw[hat];split
  ·omega
  ·split
   ·omega
   ·exact h.lo j
 ·rw[hat,if_neg (by omega),if_neg (by omega)];exact h.lo' j (by omega)
 ·rw[hat];split
  ·omega
  ·split
   ·omega
   ·exact h.hi j
theorem MinusB.fin {z n:Nat} {out:List Int} (h:MinusB z n n out):∃ r:List Nat,out=ni r∧r.length=n∧Small r∧val r=z:=by
 obtain⟨r,h1,h2,h3,h4⟩:=digits_of (l:=out) fun j hj=>⟨h.done j (by have:=h.len;omega),h.hi j⟩
 exact⟨r,h1,by rw[h2,h.len],h3,by have:=h.sum;omega⟩
structure TimesA (x y:List Nat) (i k:Nat) (c:Nat) (out:List Int):Prop where
 len:out.length=x.length+y.length
 sum:valI out+(bp (i+k):Int)*(c:Int)=(val (x.take i):Int)*(val y:Int)+(bp i:Int)*((x.getD i 0:Nat):Int)*(val (y.take k):Int)
 dig:∀ j,0≤at0 out j∧at0 out j<1000000000
 zero:∀ j,i+y.length≤j→at0 out j=0
theorem TimesA.start (x y:List Nat):TimesA x y 0 0 0 (List.replicate (x.length+y.length) 0):=
 ⟨by simp,by rw[valI_zeros];simp[val],fun j=>by rw[at0_zeros];omega,fun j _=>at0_zeros _ _⟩
theorem TimesA.step {x y:List Nat} {i k c:Nat} {out:List Int} (h:TimesA x y i k c out) (hi:i<x.length) (hk:k<y.length) (o:Nat) (ho:at0 out (i+k)=(o:Int)) :
  TimesA x y i (k+1) ((o+x[i]*y[k]+c) / 1000000000) (out.set (i+k) (((o+x[i]*y[k]+c) % 1000000000:Nat):Int)):=by
 have hko:i+k<out.length:=by rw[h.len];omega
 refine⟨by rw[List.length_set];exact h.len,?_,fun j=>?_,fun j hj=>?_⟩
 ·rw[valI_set _ hko,ho,val_take_succ hk,← Nat.add_assoc,bpI_succ];have hs:=h.sum;have hm:=Nat.div_add_mod (o+x[i]*y[k]+c) 1000000000;have hx:x.getD i 0=x[i]:=getD_get hi;rw[hx] at hs ⊢;generalize (o+x[i]*y[k]+c) / 1000000000=q at *
  generalize (o+x[i]*y[k]+c) % 1000000000=r at *
  have hm':1000000000*(q:Int)+(r:Int)=(o:Int)+(x[i]:Int)*(y[k]:Int)+(c:Int):=by
   rw[← Int.natCast_mul (x[i]) (y[k])];omega
  have hb:(bp (i+k):Int)=(bp i:Int)*(bp k:Int):=by rw[bp_add,Int.natCast_mul]
  have h3:(bp (i+k):Int)*(1000000000*(q:Int)+(r:Int))=(bp (i+k):Int)*((o:Int)+(x[i]:Int)*(y[k]:Int)+(c:Int)):=by rw[hm']
  have h4:(bp i:Int)*(x[i]:Int)*((bp k:Int)*(y[k]:Int))=(bp (i+k):Int)*((x[i]:Int)*(y[k]:Int)):=by rw[hb];ac_rfl
  rw[Int.mul_add _ (val (y.take k):Int),h4];rw[Int.mul_add,Int.mul_add,Int.mul_add] at h3;rw[Int.mul_sub];have h5:(1000000000:Int)*(bp (i+k):Int)*(q:Int)=(bp (i+k):Int)*(1000000000*(q:Int)):=by ac_rfl
  rw[h5]
  omega
 ·rw[at0_set];split
  ·have:=Nat.mod_lt (o+x[i]*y[k]+c) (show 0<1000000000 by omega);omega
  ·exact h.dig j
 ·rw[at0_set_ne (by omega)];exact h.zero j hj
theorem TimesA.next {x y:List Nat} {i c:Nat} {out:List Int} (h:TimesA x y i y.length c out) (hi:i<x.length) (hc:c<1000000000) :
  TimesA x y (i+1) 0 0 (out.set (i+y.length) (c:Int)):=by
 have hko:i+y.length<out.length:=by rw[h.len];omega
 refine⟨by rw[List.length_set];exact h.len,?_,fun j=>?_,fun j hj=>?_⟩
 ·have hs:=h.sum;rw[valI_set _ hko,h.zero _ (Nat.le_refl _),val_take_succ hi];rw[List.take_length,getD_get hi] at hs;rw[Int.add_mul];simp only[List.take_zero,val_nil,Int.natCast_zero,Int.mul_zero,Int.sub_zero,Int.add_zero]
  omega
 ·rw[at0_set];split
  ·omega
  ·exact h.dig j
 ·rw[at0_set_ne (by omega)];exact h.zero j (by omega)
theorem TimesA.fin {x y:List Nat} {out:List Int} (h:TimesA x y x.length 0 0 out):∃ r:List Nat,out=ni r∧r.length=x.length+y.length∧Small r∧val r=val x*val y:=by
 obtain⟨r,h1,h2,h3,h4⟩:=digits_of (l:=out) fun j _=>h.dig j
 refine⟨r,h1,by rw[h2,h.len],h3,?_⟩;have hs:=h.sum;rw[List.take_length] at hs;simp only[List.take_zero,val_nil,Int.natCast_zero,Int.mul_zero,Int.add_zero] at hs
 have:((val r:Nat):Int)=((val x*val y:Nat):Int):=by rw[Int.natCast_mul];omega
 omega
theorem set_top (k d:Nat) (q:List Nat):(List.replicate (k+1) (0:Int)++ni q).set k (d:Int)=List.replicate k 0++ni (d :: q):=by
 rw[List.set_append_left _ _ (by simp),List.replicate_succ',List.set_append_right _ _ (by simp)];simp[ni]
theorem part_step {l q:List Nat} {i n rest:Nat} (hi:i<l.length) (hn:0<n) (hl:Small l) (hv:val (l.drop (i+1))=val q*n+rest) (hr:rest<n) (hs:Small q) :
  val (l.drop i)=val ((rest*1000000000+l[i]) / n :: q)*n+(rest*1000000000+l[i]) % n∧Small ((rest*1000000000+l[i]) / n :: q):=by
 have hli:l[i]<1000000000:=hl _ (List.getElem_mem hi)
 constructor
 ·rw[List.drop_eq_getElem_cons hi,val_cons,hv,val_cons];have h:=Nat.div_add_mod (rest*1000000000+l[i]) n;generalize (rest*1000000000+l[i]) / n=a at *
  generalize (rest*1000000000+l[i]) % n=b at *
  rw[Nat.add_mul,Nat.mul_comm a n,Nat.mul_assoc 1000000000];generalize n*a=z at *
  generalize val q*n=y at *
  omega
 ·refine Small.cons ?_ hs;rw[Nat.div_lt_iff_lt_mul hn];have:(rest+1)*1000000000≤n*1000000000:=Nat.mul_le_mul_right _ hr
  omega
def SmallI (l:List Int):Prop:=∀ x∈l,0≤x∧x<1000000000
theorem SmallI.nil:SmallI []:=fun _ h=>by cases h
theorem SmallI.snoc {l:List Int} {x:Int} (h:SmallI l) (h0:0≤x) (h1:x<1000000000):SmallI (l++[x]):=fun y hy=>by
 rcases List.mem_append.1 hy with hy | hy
 ·exact h y hy
 ·rw[List.mem_singleton.1 hy];exact⟨h0,h1⟩
theorem SmallI.toNi {l:List Int} (h:SmallI l):∃ r:List Nat,l=ni r∧r.length=l.length∧Small r∧(val r:Int)=valI l:=
 digits_of fun j hj=>by rw[at0_get hj];exact h _ (List.getElem_mem hj)
theorem valI_snoc (l:List Int) (x:Int):valI (l++[x])=valI l+(bp l.length:Int)*x:=by rw[valI_append];simp[valI]
theorem set_mid {pre dn t post:List Int} {x y:Int} {k:Nat} (hk:dn.length=k):(pre++((dn++y :: t)++post)).set (pre.length+k) x=pre++((dn++[x]++t)++post):=by
 rw[List.set_append_right _ _ (by omega),List.append_assoc dn,List.set_append_right _ _ (by omega)];rw[show pre.length+k-pre.length-dn.length=0 by omega,List.cons_append,List.set_cons_zero];simp
theorem get_mid {pre dn t post:List Int} {y:Int} {k:Nat} (hk:dn.length=k):at0 (pre++((dn++y :: t)++post)) (pre.length+k)=y:=by
 rw[at0_append_right (by omega),List.append_assoc,at0_append_right (by omega),show pre.length+k-pre.length-dn.length=0 by omega]
 rfl
theorem drop_cons {U:List Nat} {k:Nat} (h:k<U.length):ni (U.drop k)=(U[k]:Int) :: ni (U.drop (k+1)):=by
 rw[List.drop_eq_getElem_cons h];rfl
theorem less_step {U V:List Nat} {k d:Nat} {dn:List Int} {br n t:Int} (hU:k<U.length) (hV:k<V.length) (hd:dn.length=k) (hs:SmallI dn)
  (hv:valI dn-(bp k:Int)*br=(val (U.take k):Int)-(d:Int)*(val (V.take k):Int))
  (hn:n=(U[k]:Int)-((V[k]:Int)*(d:Int)) % 1000000000-br+t*1000000000) (h0:0≤n) (h1:n<1000000000) :
  (dn++[n]).length=k+1∧SmallI (dn++[n])∧valI (dn++[n])-(bp (k+1):Int)*(((V[k]:Int)*(d:Int)) / 1000000000+t)=(val (U.take (k+1)):Int)-(d:Int)*(val (V.take (k+1)):Int):=by
 refine⟨by simp[hd],hs.snoc h0 h1,?_⟩;rw[valI_snoc,hd,val_take_succ hU,val_take_succ hV,bpI_succ];have hm:=Int.mul_ediv_add_emod ((V[k]:Int)*(d:Int)) 1000000000;generalize ((V[k]:Int)*(d:Int)) / 1000000000=q at *
 generalize ((V[k]:Int)*(d:Int)) % 1000000000=r at *
 have e1:(d:Int)*((val (V.take k):Int)+(bp k:Int)*(V[k]:Int))=(d:Int)*(val (V.take k):Int)+(bp k:Int)*(1000000000*q+r):=by
  rw[Int.mul_add,hm];congr 1;ac_rfl
 rw[e1,hn];have e2:(bp k:Int)*((U[k]:Int)-r-br+t*1000000000)=(bp k:Int)*(U[k]:Int)-(bp k:Int)*r-(bp k:Int)*br+(bp k:Int)*t*1000000000:=by
  rw[Int.mul_add,Int.mul_sub,Int.mul_sub,Int.mul_assoc]
 have e3:1000000000*(bp k:Int)*(q+t)=(bp k:Int)*q*1000000000+(bp k:Int)*t*1000000000:=by
  rw[Int.mul_add];congr 1 <;> ac_rfl
 have e4:(bp k:Int)*(1000000000*q+r)=(bp k:Int)*q*1000000000+(bp k:Int)*r:=by
  rw[Int.mul_add];congr 1;ac_rfl
 rw[e2,e3,e4]
 omega
theorem less_last {U V:List Nat} {n d:Nat} {dn:List Int} {br:Int} (hU:U.length=n+1) (hV:V.length=n) (hd:dn.length=n) (hs:SmallI dn)
  (hv:valI dn-(bp n:Int)*br=(val (U.take n):Int)-(d:Int)*(val (V.take n):Int)) (hlow:(d:Int)*(val V:Int)≤(val U:Int)+(bp n:Int)) :
  valI dn+(bp n:Int)*((U[n]:Int)-br)=(val U:Int)-(d:Int)*(val V:Int)∧-1≤(U[n]:Int)-br∧((U[n]:Int)-br<0↔(val U:Int)<(d:Int)*(val V:Int)):=by
 have e:(val U:Int)=(val (U.take n):Int)+(bp n:Int)*(U[n]:Int):=by
  have:=val_take_succ (l:=U) (k:=n) (by omega)
  rwa [← hU,List.take_length] at this
 have e2:V.take n=V:=by rw[← hV,List.take_length]
 rw[e2] at hv;have h1:valI dn+(bp n:Int)*((U[n]:Int)-br)=(val U:Int)-(d:Int)*(val V:Int):=by rw[e,Int.mul_sub];omega
 have h2:=valI_lt (l:=dn) fun j hj=>by rw[at0_get hj];exact hs _ (List.getElem_mem hj)
 rw[hd] at h2;refine⟨h1,?_,?_⟩
 ·apply Int.le_of_not_gt
  intro hlt;have h3:(bp n:Int)*((U[n]:Int)-br)≤(bp n:Int)*(-2):=Int.mul_le_mul_of_nonneg_left (by omega) (by omega)
  omega
 ·constructor
  ·intro hlt;have h3:(bp n:Int)*((U[n]:Int)-br)≤(bp n:Int)*(-1):=Int.mul_le_mul_of_nonneg_left (by omega) (by omega)
   omega
  ·intro hlt
   apply Int.lt_of_not_ge
   intro hge;have h3:0≤(bp n:Int)*((U[n]:Int)-br):=Int.mul_nonneg (by omega) hge
   omega
theorem more_step {U V dn:List Nat} {k c:Nat} (hU:k<U.length) (hV:k<V.length) (hd:dn.length=k) (hs:Small dn) (hv:val dn+bp k*c=val (U.take k)+val (V.take k)) :
  (dn++[(U[k]+V[k]+c) % 1000000000]).length=k+1∧Small (dn++[(U[k]+V[k]+c) % 1000000000]) ∧
  val (dn++[(U[k]+V[k]+c) % 1000000000])+bp (k+1)*((U[k]+V[k]+c) / 1000000000)=val (U.take (k+1))+val (V.take (k+1)):=by
 refine⟨by simp[hd],hs.append (Small.cons (Nat.mod_lt _ (by omega)) Small.nil),?_⟩;rw[List.take_succ_eq_append_getElem hU,List.take_succ_eq_append_getElem hV,val_snoc,val_snoc,val_snoc,hd,List.length_take,List.length_take,Nat.min_eq_left (by omega),Nat.min_eq_left (by omega),bp_succ];have h:=Nat.div_add_mod (U[k]+V[k]+c) 1000000000;have h2:bp k*(U[k]+V[k]+c)=bp k*(1000000000*((U[k]+V[k]+c) / 1000000000)+(U[k]+V[k]+c) % 1000000000):=by rw[h]
 generalize (U[k]+V[k]+c) / 1000000000=q at *
 generalize (U[k]+V[k]+c) % 1000000000=r at *
 simp only[Nat.mul_add,Nat.mul_assoc,Nat.mul_left_comm (1000000000:Nat)] at h2 ⊢
 omega
theorem more_last {U V dn:List Nat} {n c:Nat} (hU:U.length=n+1) (hV:V.length=n) (hd:dn.length=n) (hs:Small dn) (hv:val dn+bp n*c=val (U.take n)+val (V.take n)) :
  Small (dn++[(U[n]+c) % 1000000000])∧(dn++[(U[n]+c) % 1000000000]).length=n+1∧∃ e,val (dn++[(U[n]+c) % 1000000000])+bp (n+1)*e=val U+val V:=by
 refine⟨hs.append (Small.cons (Nat.mod_lt _ (by omega)) Small.nil),by simp[hd],(U[n]+c) / 1000000000,?_⟩;have e:val U=val (U.take n)+bp n*U[n]:=by
  have:=List.take_succ_eq_append_getElem (show n<U.length by omega);rw[← hU,List.take_length] at this;have h2:=congrArg val this;rw[val_snoc,List.length_take,Nat.min_eq_left (by omega)] at h2;exact h2
 have e2:V.take n=V:=by rw[← hV,List.take_length]
 rw[e2] at hv;rw[val_snoc,hd,bp_succ,e];have h:=Nat.div_add_mod (U[n]+c) 1000000000;have h2:bp n*(U[n]+c)=bp n*(1000000000*((U[n]+c) / 1000000000)+(U[n]+c) % 1000000000):=by rw[h]
 generalize (U[n]+c) / 1000000000=q at *
 generalize (U[n]+c) % 1000000000=r at *
 simp only[Nat.mul_add,Nat.mul_assoc,Nat.mul_left_comm (1000000000:Nat)] at h2 ⊢
 omega
structure Guess (u2 v1 v2:Nat) (T q d rest:Nat):Prop where
 top:d*v1+rest=T
 le:q≤d
structure Parts (U V m T u2 v1 v2:Nat):Prop where
 u:∃ ur,ur<m∧U=(T*1000000000+u2)*m+ur
 v:∃ vr,vr<m∧V=(v1*1000000000+v2)*m+vr
 u2:u2<1000000000
 v2:v2<1000000000
 v1:0<v1
 m:0<m
 lt:U<V*1000000000
theorem Parts.q_lt {U V m T u2 v1 v2:Nat} (h:Parts U V m T u2 v1 v2):U / V<1000000000:=by
 have:=h.lt;exact Nat.div_lt_of_lt_mul this
theorem Parts.v_pos {U V m T u2 v1 v2:Nat} (h:Parts U V m T u2 v1 v2):1000000000*m≤V:=by
 obtain⟨vr,_,hv⟩:=h.v;have h1:1000000000*m≤(v1*1000000000+v2)*m:=Nat.mul_le_mul_right m (by have:=h.v1;omega)
 omega
theorem Guess.start {U V m T u2 v1 v2:Nat} (h:Parts U V m T u2 v1 v2):Guess u2 v1 v2 T (U / V) (T / v1) (T % v1):=by
 refine⟨by rw[Nat.mul_comm];exact Nat.div_add_mod T v1,?_⟩;rw[Nat.le_div_iff_mul_le h.v1];obtain⟨ur,hur,hu⟩:=h.u;obtain⟨vr,hvr,hv⟩:=h.v;have h1:U / V*V≤U:=Nat.div_mul_le_self U V;have hM:0<m:=h.m;have h3:U<(T+1)*(1000000000*m):=by
  have:(T*1000000000+u2)*m+m≤(T+1)*1000000000*m:=by
   rw[← Nat.succ_mul];exact Nat.mul_le_mul_right m (by have:=h.u2;omega)
  rw[Nat.mul_assoc] at this
  omega
 have h4:v1*(1000000000*m)≤V:=by
  have:v1*1000000000*m≤(v1*1000000000+v2)*m:=Nat.mul_le_mul_right m (by omega);rw[Nat.mul_assoc] at this
  omega
 have h5:U / V*v1*(1000000000*m)<(T+1)*(1000000000*m):=by
  have:U / V*(v1*(1000000000*m))≤U / V*V:=Nat.mul_le_mul_left _ h4;rw[Nat.mul_assoc]
  omega
 have:=Nat.lt_of_mul_lt_mul_right h5
 omega
theorem Guess.down {U V m T u2 v1 v2 d rest:Nat} (h:Parts U V m T u2 v1 v2) (g:Guess u2 v1 v2 T (U / V) d rest) (ht:1000000000≤d∨rest*1000000000+u2<d*v2) :
  Guess u2 v1 v2 T (U / V) (d-1) (rest+v1)∧0<d:=by
 have hq:=h.q_lt;have hlt:U / V<d:=by
  rcases ht with ht | ht
  ·omega
  ·apply Nat.lt_of_not_le
   intro hge;obtain⟨ur,hur,hu⟩:=h.u;obtain⟨vr,hvr,hv⟩:=h.v;have h1:d*V≤U:=Nat.le_trans (Nat.mul_le_mul_right V hge) (Nat.div_mul_le_self U V);have h2:d*((v1*1000000000+v2)*m)≤d*V:=Nat.mul_le_mul_left d (by omega);have h3:T*1000000000+u2+1≤d*(v1*1000000000+v2):=by
    have:=g.top;rw[Nat.mul_add,← Nat.mul_assoc,← this,Nat.add_mul]
    omega
   have h4:(T*1000000000+u2+1)*m≤d*(v1*1000000000+v2)*m:=Nat.mul_le_mul_right m h3;rw[Nat.mul_assoc d] at h4;rw[Nat.succ_mul] at h4
   omega
 have hd0:0<d:=Nat.lt_of_le_of_lt (Nat.zero_le _) hlt;refine⟨⟨?_,Nat.le_sub_one_of_lt hlt⟩,hd0⟩;obtain⟨e,rfl⟩:∃ e,d=e+1:=⟨d-1,by omega⟩;have:=g.top;rw[Nat.add_sub_cancel];rw[Nat.succ_mul] at this
 omega
theorem Guess.stop {U V m T u2 v1 v2 d rest:Nat} (h:Parts U V m T u2 v1 v2) (g:Guess u2 v1 v2 T (U / V) d rest) (hd:d<1000000000) (ht:d*v2≤rest*1000000000+u2):d*V≤U+V:=by
 obtain⟨ur,hur,hu⟩:=h.u;obtain⟨vr,hvr,hv⟩:=h.v;have h1:d*(v1*1000000000+v2)≤T*1000000000+u2:=by
  have:=g.top;rw[Nat.mul_add,← Nat.mul_assoc,← this,Nat.add_mul]
  omega
 have h2:d*(v1*1000000000+v2)*m≤(T*1000000000+u2)*m:=Nat.mul_le_mul_right m h1;have h3:d*vr≤1000000000*m:=Nat.mul_le_mul (by omega) (by omega);have h4:=h.v_pos;have h5:d*V=d*(v1*1000000000+v2)*m+d*vr:=by rw[hv,Nat.mul_add,Nat.mul_assoc]
 omega
theorem Parts.top {U V m T u2 v1 v2:Nat} (h:Parts U V m T u2 v1 v2):T<v1*1000000000+1000000000:=by
 obtain⟨ur,hur,hu⟩:=h.u;obtain⟨vr,hvr,hv⟩:=h.v;have hlt:=h.lt
 apply Nat.lt_of_not_le
 intro hge;have h0:(v1*1000000000+1000000000)*1000000000≤T*1000000000+u2:=Nat.le_trans (Nat.mul_le_mul_right 1000000000 hge) (Nat.le_add_right _ _);have h1:=Nat.mul_le_mul_right m h0;have h2:V<(v1*1000000000+1000000000)*m:=by
  have:(v1*1000000000+v2)*m+m≤(v1*1000000000+1000000000)*m:=by
   rw[← Nat.succ_mul];exact Nat.mul_le_mul_right m (by have:=h.v2;omega)
  omega
 have h3:V*1000000000<(v1*1000000000+1000000000)*m*1000000000:=by omega
 have h4:(v1*1000000000+1000000000)*m*1000000000=(v1*1000000000+1000000000)*1000000000*m:=by ac_rfl
 omega
theorem Guess.bound {U V m T u2 v1 v2 d rest:Nat} (h:Parts U V m T u2 v1 v2) (g:Guess u2 v1 v2 T (U / V) d rest):d<2000000000:=by
 have h1:=h.top;have h2:=g.top;have h3:=h.v1
 apply Nat.lt_of_not_le
 intro hge;have h4:2000000000*v1≤d*v1:=Nat.mul_le_mul_right v1 hge
 omega
theorem Guess.broke {U V m T u2 v1 v2 d rest:Nat} (h:Parts U V m T u2 v1 v2) (g:Guess u2 v1 v2 T (U / V) d rest) (hr:1000000000≤rest):d<1000000000∧d*v2≤rest*1000000000+u2:=by
 have h1:=h.top;have h2:=g.top;have hd:d<1000000000:=by
  apply Nat.lt_of_not_le
  intro hge;have h4:1000000000*v1≤d*v1:=Nat.mul_le_mul_right v1 hge
  omega
 refine⟨hd,?_⟩;have h5:d*v2≤1000000000*1000000000:=Nat.mul_le_mul (by omega) (by have:=h.v2;omega)
 omega
theorem less_any (w:World) (g off c d n:Nat) (pre post:List Int) (U V:List Nat) (vv:Value) (hoff:pre.length=off) (ho:Own w g (pre++(ni U++post))) (hU:U.length=n+1) (hV:V.length=n) (hsU:Small U) (hsV:Small V)
  (hv:RIx w w.heap.size g vv (ni V)) (hd:d<1000000000) (hc:n+1≤c) (hlow:(d:Int)*(val V:Int)≤(val U:Int)+(bp n:Int)) :
  Calls Tryz.prog 121 #[.slice (some ⟨g,off,none⟩) (n+1) c,vv,.int .i64 d] w fun e w'=>Only g w w'∧∃ R:List Nat,R.length=n+1∧Small R∧Own w' g (pre++(ni R++post)) ∧
   ((e=.returned (.bool false)∧d*val V≤val U∧val R=val U-d*val V)∨(e=.returned (.bool true)∧val U<d*val V∧val R+d*val V=val U+bp (n+1))):=by
 subst hoff;obtain⟨A,cv,rfl,hcv,hcv',hA⟩:=hv;simp only[ni_length,hV] at hcv hA
 rw[ni_length,hV];replace hA:=zz hA;have HU:=zz hU;have HV:=zz hV;have j0:=zz hsU;have m0:=zz hsV;have k0:=zz hlow;have hgw0:=ho.lt;clear hU hV hsU hsV hlow;have hI0:Hid (([]:List Int).length=0∧SmallI []∧valI []-(bp 0:Int)*0=(val (U.take 0):Int)-(d:Int)*(val (V.take 0):Int)):=zz ⟨rfl,SmallI.nil,by simp[val,valI]⟩;go_enter Tryz.func121,Tryz.ntmps121
 go_wp2;go_loopw [7,14] (fun bv i wr=>∃ (k:Nat) (br:Int) (dn:List Int),k≤n∧i=.int .i64 k∧bv=.int .i64 br∧0≤br∧br≤1000000000 ∧
   Hid (dn.length=k∧SmallI dn∧valI dn-(bp k:Int)*br=(val (U.take k):Int)-(d:Int)*(val (V.take k):Int))∧Only g w wr∧Own wr g (pre++((dn++ni (U.drop k))++post))) (fun _ i _=>n-(intOf i).toNat)
 case atStart=>exact⟨0,0,[],by omega,rfl,rfl,by omega,by omega,hI0,Only.refl _ _,by simpa using ho⟩
 case round=>
  clear ho hI0;obtain⟨k,br,dn,hk,rfl,rfl,hbr,hbr',hI,hbw,ho⟩:=hrel;have hgw:g<wr.heap.size:=ho.lt;by_cases hlk:k<n
  ·obtain⟨bk,off,rfl,hbk,hne,hx⟩:=hA.out (by omega);have hkU:k<U.length:=by have:=HU.out;omega
   have hkV:k<V.length:=by have:=HV.out;omega
   have h1:=(hbw.cell (p:=⟨bk,off+k,none⟩) hbk hne).trans (hx k hlk);rw[at0_nat hkV] at h1;replace hx:=zz hx;obtain⟨hi1,hi2,hi3⟩:=hI.out;rw[drop_cons hkU] at ho;have h2:=own_at ho (pre.length+k) (by simp;omega);rw[get_mid hi1] at h2;have hf:=ho.frozen (pre.length+k);have d0:=zz (fun(m t:Int)=>less_step (n:=m) (t:=t) hkU hkV hi1 hi2 hi3);have b0:=zz (fun(m:Int)=>(set_mid (pre:=pre) (t:=ni (U.drop (k+1))) (post:=post) (x:=m) (y:=(U[k]:Int)) hi1));have hVk:V[k]<1000000000:=m0.out _ (List.getElem_mem hkV);have hUk:U[k]<1000000000:=j0.out _ (List.getElem_mem hkU);have hlen:pre.length+k<(pre++((dn++(U[k]:Int) :: ni (U.drop (k+1)))++post)).length:=by simp;omega
   have a0:=zz hlen;have HO:=zz ho;clear hi1 hi2 hi3 hI ho hlen;obtain⟨x,hx1⟩:∃ x,x=V[k]:=⟨_,rfl⟩;obtain⟨u,hu1⟩:∃ u,u=U[k]:=⟨_,rfl⟩;rw[← hx1] at h1 hVk d0;rw[← hu1] at h2 hUk d0 b0 a0 HO;clear hx1 hu1;have hxy:x*d≤999999999*999999999:=Nat.mul_le_mul (by omega) (by omega);have hxy1:(x:Int)*(d:Int)≤999999999*999999999:=by rw[← Int.natCast_mul];omega
   have hxy0:0≤(x:Int)*(d:Int):=by rw[← Int.natCast_mul];omega
   by_cases hn1:(u:Int)-((x:Int)*(d:Int)) % 1000000000-br<0
   ·by_cases hn2:(u:Int)-((x:Int)*(d:Int)) % 1000000000-br+1000000000<0
    ·go_wp2;go_roundw
     case rel=>
      have hls:=d0.out ((u:Int)-((x:Int)*(d:Int)) % 1000000000-br+1000000000+1000000000) 2 (by omega) (by omega) (by omega);have h4:=HO.out.set (pre.length+k) ((u:Int)-((x:Int)*(d:Int)) % 1000000000-br+1000000000+1000000000) a0.out;rw[b0.out] at h4;exact⟨k+1,(x:Int)*(d:Int) / 1000000000+2,_,by omega,by go_num,by go_num,by omega,by omega,zz hls,hbw.set _ _,h4⟩
     case measure=>simp[intOf];omega
    ·go_wp2;go_roundw
     case rel=>
      have hls:=d0.out ((u:Int)-((x:Int)*(d:Int)) % 1000000000-br+1000000000) 1 (by omega) (by omega) (by omega);have h4:=HO.out.set (pre.length+k) ((u:Int)-((x:Int)*(d:Int)) % 1000000000-br+1000000000) a0.out;rw[b0.out] at h4;exact⟨k+1,(x:Int)*(d:Int) / 1000000000+1,_,by omega,by go_num,by go_num,by omega,by omega,zz hls,hbw.set _ _,h4⟩
     case measure=>simp[intOf];omega
   ·go_wp2;go_roundw
    case rel=>
     have hls:=d0.out ((u:Int)-((x:Int)*(d:Int)) % 1000000000-br) 0 (by omega) (by omega) (by omega);have h4:=HO.out.set (pre.length+k) ((u:Int)-((x:Int)*(d:Int)) % 1000000000-br) a0.out;rw[b0.out] at h4;exact⟨k+1,(x:Int)*(d:Int) / 1000000000+0,_,by omega,by go_num,by go_num,by omega,by omega,zz hls,hbw.set _ _,h4⟩
    case measure=>simp[intOf];omega
  ·obtain rfl:k=n:=by omega
   have hkU:k<U.length:=by have:=HU.out;omega
   obtain⟨hi1,hi2,hi3⟩:=hI.out;have HL:=zz (less_last HU.out HV.out hi1 hi2 hi3 k0.out);have hlast:=HL.out.2.1;rw[drop_cons hkU,List.drop_eq_nil_of_le (by have:=HU.out;omega)] at ho;have h2:=own_at ho (pre.length+k) (by simp;omega);rw[get_mid hi1] at h2;have hf:=ho.frozen (pre.length+k);have b0:=zz (fun(m:Int)=>(set_mid (pre:=pre) (t:=ni []) (post:=post) (x:=m) (y:=(U[k]:Int)) hi1));have i0:=zz (fun(m y:Int)=>(set_mid (pre:=pre) (t:=[]) (post:=post) (x:=m) (y:=y) hi1));have hUk:U[k]<1000000000:=j0.out _ (List.getElem_mem hkU);have hlen:pre.length+k<(pre++((dn++(U[k]:Int) :: ni [])++post)).length:=by simp;omega
   have a0:=zz hlen;have HO:=zz ho;have HI:=zz hi2;have e0:=zz hi1;clear hi1 hi2 hi3 hI ho hlen;obtain⟨u,hu1⟩:∃ u,u=U[k]:=⟨_,rfl⟩;rw[← hu1] at h2 hUk b0 a0 HO HL hlast;clear hu1;have HE:=zz (fun(m:Int) (h0:0≤m) (h1:m<1000000000)=>(HI.out.snoc h0 h1).toNi);by_cases hneg:(u:Int)-br<0
   ·have hf2:wr.frozen? ⟨g,pre.length+k,none⟩=false:=hf;have h3:=own_at (HO.out.set (pre.length+k) ((u:Int)-br) a0.out) (pre.length+k) (by rw[List.length_set];exact a0.out);rw[at0_set_same a0.out] at h3;have hf3:=(HO.out.set (pre.length+k) ((u:Int)-br) a0.out).frozen (pre.length+k);go_wp2;go_ret;have h4:=(HO.out.set (pre.length+k) ((u:Int)-br) a0.out).set (pre.length+k) ((u:Int)-br+1000000000) (by rw[List.length_set];exact a0.out);rw[b0.out,show ni []=[] from rfl,List.append_nil,i0.out,List.append_nil] at h4;obtain⟨r,hr1,hr2,hr3,hr4⟩:=HE.out ((u:Int)-br+1000000000) (by omega) (by omega);rw[hr1] at h4;obtain⟨e1,e2,e3⟩:=HL.out;refine⟨(hbw.set _ _).set _ _,r,by rw[hr2];simp[e0.out],hr3,h4,.inr ⟨rfl,?_,?_⟩⟩
    ·have:=e3.1 hneg;rw[← Int.natCast_mul] at this;omega
    ·rw[valI_snoc,e0.out,Int.mul_add] at hr4;have hb:=bpI_succ k;rw[← Int.natCast_mul] at e1
     omega
   ·go_wp2;go_ret;have h4:=HO.out.set (pre.length+k) ((u:Int)-br) a0.out;rw[b0.out,show ni []=[] from rfl,List.append_nil] at h4;obtain⟨r,hr1,hr2,hr3,hr4⟩:=HE.out ((u:Int)-br) (by omega) (by omega);rw[hr1] at h4;obtain⟨e1,e2,e3⟩:=HL.out;rw[valI_snoc,e0.out] at hr4;rw[← Int.natCast_mul] at e1 e3;refine⟨hbw.set _ _,r,by rw[hr2];simp[e0.out],hr3,h4,.inl ⟨rfl,?_,?_⟩⟩
    ·apply Nat.le_of_not_lt
     intro hlt;have:=e3.2 (by omega)
     omega
    ·omega
theorem more_any (w:World) (g off c n:Nat) (pre post:List Int) (U V:List Nat) (vv:Value) (hoff:pre.length=off) (ho:Own w g (pre++(ni U++post))) (hU:U.length=n+1) (hV:V.length=n) (hsU:Small U) (hsV:Small V)
  (hv:RIx w w.heap.size g vv (ni V)) (hc:n+1≤c) :
  Calls Tryz.prog 122 #[.slice (some ⟨g,off,none⟩) (n+1) c,vv] w fun e w'=>e=.returned (.tuple #[])∧Only g w w'∧∃ R:List Nat,R.length=n+1∧Small R∧Own w' g (pre++(ni R++post)) ∧
   ∃ q,val R+bp (n+1)*q=val U+val V:=by
 subst hoff;obtain⟨A,cv,rfl,hcv,hcv',hA⟩:=hv;simp only[ni_length,hV] at hcv hA
 rw[ni_length,hV];replace hA:=zz hA;have HU:=zz hU;have HV:=zz hV;have f0:=zz hsU;have h0:=zz hsV;have hgw0:=ho.lt;clear hU hV hsU hsV;have hI0:Hid (([]:List Nat).length=0∧Small []∧val []+bp 0*0=val (U.take 0)+val (V.take 0)):=zz ⟨rfl,Small.nil,by simp[val]⟩;go_enter Tryz.func122,Tryz.ntmps122
 go_wp2;go_loopw [4,10] (fun bv i wr=>∃ (k cr:Nat) (dn:List Nat),k≤n∧i=.int .i64 k∧bv=.int .i64 cr∧cr≤2 ∧
   Hid (dn.length=k∧Small dn∧val dn+bp k*cr=val (U.take k)+val (V.take k))∧Only g w wr∧Own wr g (pre++((ni dn++ni (U.drop k))++post))) (fun _ i _=>n-(intOf i).toNat)
 case atStart=>exact⟨0,0,[],by omega,rfl,rfl,by omega,hI0,Only.refl _ _,by simpa[ni] using ho⟩
 case round=>
  clear ho hI0;obtain⟨k,cr,dn,hk,rfl,rfl,hcr,hI,hbw,ho⟩:=hrel;have hgw:g<wr.heap.size:=ho.lt;by_cases hlk:k<n
  ·obtain⟨bk,off,rfl,hbk,hne,hx⟩:=hA.out (by omega);have hkU:k<U.length:=by have:=HU.out;omega
   have hkV:k<V.length:=by have:=HV.out;omega
   have h1:=(hbw.cell (p:=⟨bk,off+k,none⟩) hbk hne).trans (hx k hlk);rw[at0_nat hkV] at h1;replace hx:=zz hx;obtain⟨hi1,hi2,hi3⟩:=hI.out;have hi1':(ni dn).length=k:=by rw[ni_length];exact hi1
   rw[drop_cons hkU] at ho;have h2:=own_at ho (pre.length+k) (by simp[ni];omega);rw[get_mid hi1'] at h2;have hf:=ho.frozen (pre.length+k);have c0:=zz (more_step hkU hkV hi1 hi2 hi3);have a0:=zz (fun(m:Int)=>(set_mid (pre:=pre) (t:=ni (U.drop (k+1))) (post:=post) (x:=m) (y:=(U[k]:Int)) hi1'));have hVk:V[k]<1000000000:=h0.out _ (List.getElem_mem hkV);have hUk:U[k]<1000000000:=f0.out _ (List.getElem_mem hkU);have hlen:pre.length+k<(pre++((ni dn++(U[k]:Int) :: ni (U.drop (k+1)))++post)).length:=by simp[ni];omega
   have b0:=zz hlen;have HO:=zz ho;clear hi1 hi2 hi3 hI ho hlen hi1';obtain⟨x,hx1⟩:∃ x,x=V[k]:=⟨_,rfl⟩;obtain⟨u,hu1⟩:∃ u,u=U[k]:=⟨_,rfl⟩;rw[← hx1] at h1 hVk c0;rw[← hu1] at h2 hUk c0 a0 b0 HO;clear hx1 hu1;go_wp2;go_roundw
   case rel=>
    have h4:=HO.out.set (pre.length+k) (((u+x+cr) % 1000000000:Nat):Int) b0.out;rw[a0.out] at h4;have e:(((u+x+cr) % 1000000000:Nat):Int)=((u:Int)+(x:Int)+(cr:Int)) % 1000000000:=by omega
    have e2:ni dn++[(((u+x+cr) % 1000000000:Nat):Int)]=ni (dn++[(u+x+cr) % 1000000000]):=by simp[ni]
    rw[e2,e] at h4;exact⟨k+1,(u+x+cr) / 1000000000,_,by omega,by go_num,by go_num,by omega,c0,hbw.set _ _,h4⟩
   case measure=>simp[intOf];omega
  ·obtain rfl:k=n:=by omega
   have hkU:k<U.length:=by have:=HU.out;omega
   obtain⟨hi1,hi2,hi3⟩:=hI.out;have hi1':(ni dn).length=k:=by rw[ni_length];exact hi1
   have HL:=zz (more_last HU.out HV.out hi1 hi2 hi3);rw[drop_cons hkU,List.drop_eq_nil_of_le (by have:=HU.out;omega)] at ho;have h2:=own_at ho (pre.length+k) (by simp[ni];omega);rw[get_mid hi1'] at h2;have hf:=ho.frozen (pre.length+k);have a0:=zz (fun(m:Int)=>(set_mid (pre:=pre) (t:=ni []) (post:=post) (x:=m) (y:=(U[k]:Int)) hi1'));have hUk:U[k]<1000000000:=f0.out _ (List.getElem_mem hkU);have hlen:pre.length+k<(pre++((ni dn++(U[k]:Int) :: ni [])++post)).length:=by simp[ni];omega
   have b0:=zz hlen;have HO:=zz ho;clear hi1 hi2 hi3 hI ho hlen hi1';obtain⟨u,hu1⟩:∃ u,u=U[k]:=⟨_,rfl⟩;rw[← hu1] at h2 hUk a0 b0 HO HL;clear hu1;go_wp2;go_end0
   obtain⟨e1,e2,e3⟩:=HL.out;have h4:=HO.out.set (pre.length+k) (((u+cr) % 1000000000:Nat):Int) b0.out;rw[a0.out,show ni []=[] from rfl,List.append_nil] at h4;have e:(((u+cr) % 1000000000:Nat):Int)=((u:Int)+(cr:Int)) % 1000000000:=by omega
   have e4:ni dn++[(((u+cr) % 1000000000:Nat):Int)]=ni (dn++[(u+cr) % 1000000000]):=by simp[ni]
   rw[e4,e] at h4;exact⟨rfl,hbw.set _ _,_,e2,e1,h4,e3⟩
structure DivInv (A V la n k:Nat) (L qs:List Nat):Prop where
 len:L.length=la+1
 small:Small L
 qsmall:Small qs
 qlen:qs.length+k=la+1-n
 sum:A=val qs*bp k*V+val L
 high:val (L.drop k)<V
theorem val_take_le (l:List Nat) (k:Nat):val (l.take k)≤val l:=by
 by_cases h:k≤l.length
 ·have:=val_split l k h;omega
 ·rw[List.take_of_length_le (by omega)];exact Nat.le_refl _
structure Place (V n j:Nat) (L U post:List Nat):Prop where
 eq:L=L.take j++(U++post)
 len:U.length=n+1
 small:Small U
 pre:(L.take j).length=j
 zero:val post=0
 lt:val U<V*1000000000
theorem DivInv.place {A V la n j:Nat} {L qs:List Nat} (h:DivInv A V la n (j+1) L qs) (hn:n≤la) (hV:V<bp n):Place V n j L ((L.drop j).take (n+1)) (L.drop (j+n+1)):=by
 have hq:=h.qlen;have hl:=h.len;have hj:j+n+1≤L.length:=by omega
 have e1:L.drop j=(L.drop j).take (n+1)++L.drop (j+n+1):=by
  have:=(List.take_append_drop (n+1) (L.drop j)).symm
  rwa [List.drop_drop,← Nat.add_assoc] at this
 have hlen:((L.drop j).take (n+1)).length=n+1:=by simp;omega
 have hz:val (L.drop (j+n+1))=0:=by
  have h1:=h.high;have h2:=val_split (L.drop (j+1)) n (by simp;omega);rw[List.drop_drop,show j+1+n=j+n+1 by omega] at h2;rcases Nat.eq_zero_or_pos (val (L.drop (j+n+1))) with h0 | h0
  ·exact h0
  ·have:=Nat.le_mul_of_pos_right (bp n) h0
   omega
 refine⟨?_,hlen,(h.small.drop j).take _,by simp;omega,hz,?_⟩
 ·rw[← e1,List.take_append_drop]
 ·have h1:val (L.drop j)=L[j]'(by omega)+1000000000*val (L.drop (j+1)):=by
   rw[List.drop_eq_getElem_cons (show j<L.length by omega),val_cons]
  have h2:=val_take_le (L.drop j) (n+1);have h3:L[j]'(by omega)<1000000000:=h.small _ (List.getElem_mem _);have h4:=h.high
  omega
theorem Place.val_drop {V n j:Nat} {L U post:List Nat} (h:Place V n j L U post):val L=val (L.take j)+bp j*val U:=by
 have h1:=congrArg val h.eq;rw[val_append,val_append,h.zero,h.pre] at h1
 simpa using h1
theorem Place.at {V n j i:Nat} {L U post:List Nat} (p:Place V n j L U post) (hi:i<U.length):at0 (ni L) (j+i)=(U[i]:Int):=by
 have h2:L[j+i]?=some U[i]:=by
  rw[p.eq,List.getElem?_append_right (by rw[p.pre];omega),p.pre,show j+i-j=i by omega,List.getElem?_append_left hi,List.getElem?_eq_getElem hi]
 rw[at0_ni,List.getD_eq_getElem?_getD,h2]
 rfl
theorem DivInv.next {A V la n j:Nat} {L qs U post R:List Nat} (h:DivInv A V la n (j+1) L qs) (p:Place V n j L U post) (hR:R.length=n+1) (hs:Small R) (hV:0<V) (hv:val R=val U % V) (hps:Small post) :
  DivInv A V la n j (L.take j++(R++post)) (val U / V :: qs):=by
 have hl:(L.take j++(R++post)).length=L.length:=by
  have:=congrArg List.length p.eq;rw[List.length_append,List.length_append] at this ⊢;rw[hR];rw[p.len] at this;omega
 have hq:val U / V<1000000000:=Nat.div_lt_of_lt_mul p.lt;have hqs:Small (val U / V :: qs):=Small.cons hq h.qsmall;refine⟨by rw[hl];exact h.len,(h.small.take j).append (hs.append hps),hqs,by have:=h.qlen;simp;omega,?_,?_⟩
 ·rw[h.sum,p.val_drop,val_append,val_append,p.zero,p.pre,val_cons,bp_succ,hv];have hd:=Nat.div_add_mod (val U) V;generalize val U / V=q at *
  generalize val U % V=r at *
  have e1:bp j*val U=bp j*(V*q+r):=by rw[hd]
  rw[e1];simp only[Nat.mul_zero,Nat.add_zero,Nat.mul_add,Nat.add_mul]
  have e2:val qs*(1000000000*bp j)*V=1000000000*val qs*bp j*V:=by ac_rfl
  have e3:bp j*(V*q)=q*bp j*V:=by ac_rfl
  rw[e2,e3]
  omega
 ·have e:(L.take j++(R++post)).drop j=R++post:=by
   rw[List.drop_append_of_le_length (by rw[p.pre];exact Nat.le_refl _),List.drop_eq_nil_of_le (by rw[p.pre];exact Nat.le_refl _),List.nil_append]
  rw[e,val_append,p.zero,hv,Nat.mul_zero,Nat.add_zero];exact Nat.mod_lt _ hV
theorem Place.parts {V n j:Nat} {L U post vs:List Nat} (p:Place V n j L U post) (hn:2≤n) (hv:vs.length=n) (hvs:Small vs) (hV:val vs=V) (h1:0<vs[n-1]'(by omega)) :
  Parts (val U) V (bp (n-2)) ((U[n]'(by rw[p.len];omega))*1000000000+U[n-1]'(by rw[p.len];omega)) (U[n-2]'(by rw[p.len];omega)) (vs[n-1]'(by omega)) (vs[n-2]'(by omega)):=by
 have hU:=p.len;obtain⟨m,rfl⟩:∃ m,n=m+2:=⟨n-2,by omega⟩;simp only[show m+2-2=m by omega,show m+2-1=m+1 by omega] at h1 ⊢
 refine⟨⟨val (U.take m),?_,?_⟩,⟨val (vs.take m),?_,?_⟩,p.small _ (List.getElem_mem _),hvs _ (List.getElem_mem _),h1,bp_pos _,p.lt⟩
 ·have:=val_lt (p.small.take m);rwa [List.length_take,Nat.min_eq_left (by omega)] at this
 ·have e:=val_split U m (by omega);have e2:val (U.drop m)=U[m]+1000000000*(U[m+1]+1000000000*U[m+2]):=by
   rw[List.drop_eq_getElem_cons (show m<U.length by omega),List.drop_eq_getElem_cons (show m+1<U.length by omega),List.drop_eq_getElem_cons (show m+1+1<U.length by omega),List.drop_eq_nil_of_le (by omega)];simp[val]
  rw[e,e2,Nat.add_comm,Nat.mul_comm]
  congr 2;omega
 ·have:=val_lt (hvs.take m);rwa [List.length_take,Nat.min_eq_left (by omega)] at this
 ·have e:=val_split vs m (by omega);have e2:val (vs.drop m)=vs[m]+1000000000*vs[m+1]:=by
   rw[List.drop_eq_getElem_cons (show m<vs.length by omega),List.drop_eq_getElem_cons (show m+1<vs.length by omega),List.drop_eq_nil_of_le (by omega)];simp[val]
  rw[← hV,e,e2,Nat.add_comm,Nat.mul_comm]
  congr 2;omega
theorem place_less {U V d r:Nat} (hV:0<V) (hq:U / V≤d) (hle:d*V≤U) (hr:r=U-d*V):d=U / V∧r=U % V:=by
 have h1:d≤U / V:=(Nat.le_div_iff_mul_le hV).2 hle;have h2:d=U / V:=by omega
 refine⟨h2,?_⟩;have:=Nat.div_add_mod U V;rw[Nat.mul_comm,← h2] at this
 omega
theorem place_more {U V d r r' e M:Nat} (hV:0<V) (hstop:d*V≤U+V) (hlt:U<d*V) (hr:r+d*V=U+M) (hr':r'+M*e=r+V) (hVM:V<M) (hrM:r'<M):d-1=U / V∧r'=U % V:=by
 have h1:U / V<d:=(Nat.div_lt_iff_lt_mul hV).2 hlt;have hd0:0<d:=Nat.lt_of_le_of_lt (Nat.zero_le _) h1;obtain⟨c,rfl⟩:∃ c,d=c+1:=⟨d-1,by omega⟩;rw[Nat.succ_mul] at hstop hr;have h2:c≤U / V:=(Nat.le_div_iff_mul_le hV).2 (by omega);have h3:c=U / V:=by omega
 rw[Nat.add_sub_cancel];refine⟨h3,?_⟩;have h4:=Nat.div_add_mod U V;rw[Nat.mul_comm,← h3] at h4;have h5:=Nat.mod_lt U hV;have h6:r'+M*e=U % V+M:=by omega
 rcases Nat.lt_trichotomy e 1 with he | he | he
 ·have:e=0:=by omega
  subst this;omega
 ·subst he;omega
 ·have:=Nat.mul_le_mul_left M (show 2≤e by omega)
  omega
theorem DivInv.start {a b f la n:Nat} {ru:List Nat} (hla:la=(dig a).length) (hn:n=(dig b).length) (hge:b≤a) (hb:b≠0) (hf:0<f) (hl:ru.length=la+1) (hs:Small ru) (hv:val ru=a*f) :
  DivInv (a*f) (b*f) la n (la+1-n) ru []:=by
 have hnl:n≤la:=by rw[hla,hn];exact dig_len_mono hge
 refine⟨hl,hs,Small.nil,by simp,by rw[hv];simp[val],?_⟩;have h1:=val_split ru (la+1-n) (by omega)
 apply Nat.lt_of_mul_lt_mul_left (a:=bp (la+1-n))
 have h2:a<bp la:=by rw[hla];exact dig_lt a
 have hnp:0<n:=by rw[hn];exact dig_len_pos hb
 have h3:bp (n-1)≤b:=by
  have:=norm_low (dig_norm b) (fun e=>hb (dig_eq_nil.1 e))
  rwa [val_dig,← hn] at this
 have h4:bp la=bp (la+1-n)*bp (n-1):=by rw[← bp_add];congr 1;omega
 have h5:bp (la+1-n)*bp (n-1)≤bp (la+1-n)*b:=Nat.mul_le_mul_left _ h3;have h6:a*f<bp (la+1-n)*b*f:=Nat.mul_lt_mul_of_pos_right (by omega) hf;rw[Nat.mul_assoc] at h6
 omega
theorem DivInv.fin {a b f la n:Nat} {L qs:List Nat} (h:DivInv (a*f) (b*f) la n 0 L qs) (hf:0<f):val qs=a / b∧val L=a % b*f:=by
 have h1:=h.sum;have h2:=h.high;rw[List.drop_zero] at h2;rw[bp_zero,Nat.mul_one] at h1;have hbf:0<b*f:=by omega
 have h3:a*f / (b*f)=a / b:=Nat.mul_div_mul_right a b hf;have h4:a*f % (b*f)=a % b*f:=Nat.mul_mod_mul_right f a b
 constructor
 ·rw[← h3,h1,Nat.mul_comm,Nat.mul_add_div hbf,Nat.div_eq_of_lt h2,Nat.add_zero]
 ·rw[← h4,h1,Nat.mul_comm (val qs),Nat.mul_add_mod,Nat.mod_eq_of_lt h2]
theorem factor_lt {b f n bt:Nat} (hn:n=(dig b).length) (hb:b≠0) (hbt:bt=(dig b).getD (n-1) 0) (hf:f=1000000000 / (bt+1)):b*f<bp n∧0<f∧0<bt:=by
 have hnp:0<n:=by rw[hn];exact dig_len_pos hb
 have hlt:n-1<(dig b).length:=by omega
 rw[getD_get hlt] at hbt;have hbs:bt<1000000000:=by rw[hbt];exact dig_small b _ (List.getElem_mem _)
 have e:=val_split (dig b) (n-1) (by omega);have e2:(dig b).drop (n-1)=[bt]:=by rw[List.drop_eq_getElem_cons hlt,List.drop_eq_nil_of_le (by omega),hbt]
 rw[e2,val_dig] at e;have e3:=val_lt ((dig_small b).take (n-1));rw[List.length_take,Nat.min_eq_left (by omega)] at e3;simp only[val,Nat.mul_zero,Nat.add_zero] at e
 have h1:b<bp (n-1)*(bt+1):=by rw[Nat.mul_add];omega
 have hfp:0<f:=by rw[hf];exact Nat.div_pos (by omega) (by omega)
 have h2:(bt+1)*f≤1000000000:=by rw[hf];exact Nat.mul_div_le _ _
 refine⟨?_,hfp,?_⟩
 ·have h3:b*f<bp (n-1)*(bt+1)*f:=Nat.mul_lt_mul_of_pos_right h1 hfp;rw[Nat.mul_assoc] at h3;have h4:bp (n-1)*((bt+1)*f)≤bp (n-1)*1000000000:=Nat.mul_le_mul_left _ h2;have h5:bp n=1000000000*bp (n-1):=by rw[← bp_succ];congr 1;omega
  omega
 ·have h6:=(dig_norm b).2;rw[List.getLast?_eq_getElem?,← hn,List.getElem?_eq_getElem hlt,← hbt] at h6;simp at h6;omega
theorem factor_take {rv:List Nat} {n V:Nat} (hl:rv.length=n+1) (hv:val rv=V) (hV:V<bp n):val (rv.take n)=V:=by
 have e:=val_split rv n (by omega);rcases Nat.eq_zero_or_pos (val (rv.drop n)) with h0 | h0
 ·rw[h0] at e;omega
 ·have:=Nat.le_mul_of_pos_right (bp n) h0;omega
theorem factor_top {vs:List Nat} {n b f:Nat} (hn:n=(dig b).length) (h2:2≤n) (hb:b≠0) (hf:0<f) (hl:vs.length=n) (hs:Small vs) (hv:val vs=b*f):0<vs[n-1]'(by omega):=by
 apply Nat.pos_of_ne_zero
 intro h0;have e:=val_split vs (n-1) (by omega);have e2:vs.drop (n-1)=[vs[n-1]'(by omega)]:=by rw[List.drop_eq_getElem_cons (by omega),List.drop_eq_nil_of_le (by omega)]
 rw[e2,h0] at e;have e3:=val_lt (hs.take (n-1));rw[List.length_take,Nat.min_eq_left (by omega)] at e3;simp only[val,Nat.mul_zero,Nat.add_zero] at e
 have h3:=norm_low (dig_norm b) (fun e=>hb (dig_eq_nil.1 e));rw[val_dig,← hn] at h3;have:=Nat.le_mul_of_pos_right b hf
 omega
theorem take_val {l:List Nat} {n:Nat} (h:n≤l.length) (hlt:val l<bp n):val (l.take n)=val l:=by
 have e:=val_split l n h;rcases Nat.eq_zero_or_pos (val (l.drop n)) with h0 | h0
 ·rw[h0] at e;omega
 ·have:=Nat.le_mul_of_pos_right (bp n) h0;omega
theorem dv_bound {d v:Nat} (hd:d<2000000000) (hv:v<1000000000):0≤(d:Int)*(v:Int)∧(d:Int)*(v:Int)≤2000000000000000000:=by
 have h:d*v≤2000000000*v:=Nat.mul_le_mul_right v (by omega);have e:(d:Int)*(v:Int)=((d*v:Nat):Int):=(Int.natCast_mul d v).symm;rw[e];generalize d*v=z at *
 omega
theorem Place.at' {V n j i:Nat} {L U post:List Nat} (p:Place V n j L U post) (hi:i<n+1):at0 (ni L) (j+i)=(U.getD i 0:Nat):=by
 rw[p.at (by rw[p.len];exact hi),getD_get]
theorem Place.parts' {V n j:Nat} {L U post vs:List Nat} (p:Place V n j L U post) (hn:2≤n) (hv:vs.length=n) (hvs:Small vs) (hV:val vs=V) (h1:0<vs.getD (n-1) 0) :
  Parts (val U) V (bp (n-2)) (U.getD n 0*1000000000+U.getD (n-1) 0) (U.getD (n-2) 0) (vs.getD (n-1) 0) (vs.getD (n-2) 0):=by
 have hU:=p.len;rw[getD_get (show n-1<vs.length by omega)] at h1;have:=p.parts hn hv hvs hV h1;rw[← getD_get,← getD_get,← getD_get,← getD_get,← getD_get] at this;exact this
theorem factor_top' {vs:List Nat} {n b f:Nat} (hn:n=(dig b).length) (h2:2≤n) (hb:b≠0) (hf:0<f) (hl:vs.length=n) (hs:Small vs) (hv:val vs=b*f):0<vs.getD (n-1) 0:=by
 rw[getD_get (by omega)];exact factor_top hn h2 hb hf hl hs hv
theorem getD_take {l:List Nat} {n i:Nat} (h:i<n):(l.take n).getD i 0=l.getD i 0:=by
 rw[List.getD_eq_getElem?_getD,List.getD_eq_getElem?_getD,List.getElem?_take,if_pos h]
def NewC (Z:Nat) (v:Value):Prop:=∀ a n c,v=.slice (some a) n c→0<n→Z≤a.block
theorem NewC.weak {Z Z':Nat} {v:Value} (h:NewC Z v) (hZ:Z'≤Z):NewC Z' v:=fun a n c e h0=>Nat.le_trans hZ (h a n c e h0)
theorem NewC.nil (Z n c:Nat):NewC Z (.slice none n c):=fun _ _ _ e=>by cases e
theorem NewC.at {Z g off n c:Nat} (h:Z≤g):NewC Z (.slice (some ⟨g,off,none⟩) n c):=fun a n' c' e _=>by
 injection e with e;injection e with e;subst e;exact h
theorem NewC.less {Z n n' c c':Nat} {A:Option Addr} (h:NewC Z (.slice A n c)) (hn:n'≤n):NewC Z (.slice A n' c'):=fun a m d e h0=>by
 injection e with e1 e2 e3;subst e1;subst e2;exact h a n c rfl (by omega)
theorem trim_stop {l:List Nat} {n:Nat} (hs:Small l) (hn:n≤l.length) (hv:val (l.take n)=val l) (hz:n=0∨∃ h:n-1<l.length,l[n-1]≠0):l.take n=dig (val l):=by
 rw[← hv];refine(dig_val ⟨hs.take n,?_⟩).symm;rcases hz with rfl | ⟨h,hne⟩
 ·simp
 ·rcases Nat.eq_zero_or_pos n with rfl | hp
  ·simp
  ·rw[List.getLast?_eq_getElem?,List.length_take,Nat.min_eq_left hn,List.getElem?_take,if_pos (by omega),List.getElem?_eq_getElem h]
   simpa using hne
theorem trim_go {l:List Nat} {n:Nat} (hn:n+1≤l.length) (hv:val (l.take (n+1))=val l) (hz:l[n]'hn=0):val (l.take n)=val l:=by
 rw[← hv,List.take_succ_eq_append_getElem hn,val_snoc,hz];simp
theorem Trim_blk (w:World) (v:Value) (l:List Nat) (h:RN w w.heap.size v l) (hs:Small l) :
  Calls Tryz.prog 107 #[v] w fun e w'=>Below w.heap.size w w'∧∃ v',e=.returned v'∧RN w' w'.heap.size v' (dig (val l))∧∀ Z,NewC Z v→NewC Z v':=by
 obtain⟨A,c,rfl,hc,hc',hA⟩:=h.cell;have hl:l.length≤9223372036854775807:=by omega
 have HR:=zz h;have HS:=zz hs;replace hA:=zz hA;clear h hs;go_enter Tryz.func107,Tryz.ntmps107
 go_wp2;go_loopw [0] (fun v wr=>∃ n:Nat,n≤l.length∧v=.slice A n c∧Hid (val (l.take n)=val l)∧Below w.heap.size w wr) (fun v _=>lenOf v)
 case atStart=>exact⟨_,Nat.le_refl _,rfl,zz (by rw[List.take_length]),Below.refl _ _⟩
 case round=>
  obtain⟨n,hn,rfl,hv,hbw⟩:=hrel;rcases Nat.eq_zero_or_pos n with rfl | hp
  ·go_wp2;go_ret;refine⟨hbw,_,rfl,?_,fun Z hZ=>hZ.less (Nat.zero_le _)⟩;have a0:val l=0:=by have:=hv.out;simpa[val] using this.symm
   rw[a0,dig_zero];exact⟨A,c,rfl,by simp[ni],by omega,fun h=>absurd h (by simp[ni])⟩
  ·obtain⟨k,rfl⟩:∃ k,n=k+1:=⟨n-1,by omega⟩;obtain⟨g,off,rfl,hg,hx⟩:=hA.out (by omega);have h1:=(hbw.cell (p:=⟨g,off+k,none⟩) hg).trans (hx k (by omega));replace hx:=zz hx;go_wp2
   ·have hz:((l[k]:Nat):Int)=0:=beq_yes (by assumption);go_roundw
    case rel=>exact⟨k,by omega,rfl,zz (trim_go (by omega) hv.out (by omega)),hbw⟩
    case measure=>simp[lenOf]
   ·have hz:((l[k]:Nat):Int)≠0:=beq_no (by assumption);go_ret;refine⟨hbw,.slice (some ⟨g,off,none⟩) (k+1) c,rfl,?_,fun Z hZ=>hZ.less (by omega)⟩;rw[← trim_stop HS.out hn hv.out (.inr ⟨by omega,by simp only[Nat.add_sub_cancel];omega⟩)];have hl':(l.take (k+1)).length=k+1:=by simp;omega
    refine⟨_,c,by rw[ni_length,hl'],by rw[ni_length];omega,by omega,fun _=>⟨g,off,rfl,by have:=hbw.size;omega,fun j hj=>?_⟩⟩;rw[ni_length] at hj;rw[ni_get,hbw.cell (p:=⟨g,off+j,none⟩) hg,hx.out j (by omega)];simp
theorem Trim_any (w:World) (v:Value) (l:List Nat) (h:RN w w.heap.size v l) (hs:Small l) :
  Calls Tryz.prog 107 #[v] w fun e w'=>Below w.heap.size w w'∧∃ v',e=.returned v'∧RN w' w'.heap.size v' (dig (val l)):=
 (Trim_blk w v l h hs).mono fun _ _ ⟨hb,v',he,hv,_⟩=>⟨hb,v',he,hv⟩
theorem by_step {d:List Nat} {l:List Nat} {k n c:Nat} (hk:k<l.length) (hd:d.length=k) (hs:Small d) (hv:val d+bp k*c=val (l.take k)*n) :
  (d++[(l[k]*n+c) % 1000000000]).length=k+1∧Small (d++[(l[k]*n+c) % 1000000000]) ∧
  val (d++[(l[k]*n+c) % 1000000000])+bp (k+1)*((l[k]*n+c) / 1000000000)=val (l.take (k+1))*n:=by
 refine⟨by simp[hd],hs.append (Small.cons (Nat.mod_lt _ (by omega)) Small.nil),?_⟩;rw[List.take_succ_eq_append_getElem hk,val_snoc,val_snoc,hd,List.length_take,Nat.min_eq_left (by omega),Nat.add_mul,← hv,bp_succ];have h:=Nat.div_add_mod (l[k]*n+c) 1000000000;generalize (l[k]*n+c) / 1000000000=q at *
 generalize (l[k]*n+c) % 1000000000=r at *
 have h2:bp k*(l[k]*n+c)=bp k*(1000000000*q+r):=by rw[h]
 simp only[Nat.mul_add,Nat.mul_assoc,Nat.mul_left_comm (1000000000:Nat)] at h2 ⊢
 omega
theorem by_any (w:World) (v:Value) (l:List Nat) (n:Nat) (h:RN w w.heap.size v l) (hs:Small l) (hn:n≤1000000000) (hl0:l.length≤3000000000) :
  Calls Tryz.prog 120 #[v,.int .i64 n] w fun e w'=>Below w.heap.size w w'∧∃ g r,e=.returned (.slice (some ⟨g,0,none⟩) (l.length+1) (l.length+1))∧w.heap.size≤g ∧
   r.length=l.length+1∧Small r∧val r=val l*n∧Own w' g (ni r):=by
 obtain⟨A,c,rfl,hc,hc',hA⟩:=h.cell;have HR:=zz h;have HS:=zz hs;replace hA:=zz hA;clear h hs;have hmk:=mk_size (l.length+1) (by omega);simp only[Int.natCast_add,Int.natCast_one] at hmk
 go_enter Tryz.func120,Tryz.ntmps120
 go_wp2;have hown:=own_new w (l.length+1);have a0:Below w.heap.size w (w.alloc (zerosObj (l.length+1))):=(Below.refl _ _).alloc (Nat.le_refl _) _;generalize hg:w.heap.size=g at *
 generalize w.alloc (zerosObj (l.length+1))=w1 at *
 go_loopw [6,16] (fun cv i wr=>∃ (k cr:Nat) (d:List Nat),k≤l.length∧i=.int .i64 k∧cv=.int .i64 cr∧cr<1000000000∧Hid (d.length=k∧Small d∧val d+bp k*cr=val (l.take k)*n) ∧
   Below g w wr∧Own wr g (ni d++List.replicate (l.length-k+1) 0)) (fun _ i _=>l.length-(intOf i).toNat)
 case atStart=>exact⟨0,0,[],by omega,rfl,rfl,by omega,zz ⟨rfl,Small.nil,by simp[val]⟩,a0,by simpa[ni] using hown⟩
 case round=>
  obtain⟨k,cr,d,hk,rfl,rfl,hcr,hd,hbw,ho⟩:=hrel;obtain⟨hd1,hd2,hd3⟩:=hd.out;have HD:=zz (show d.length=k from hd1);have H3:=zz hd3;have H2:=zz hd2;clear hd1 hd2 hd3 hd;have hgw:g<wr.heap.size:=ho.lt;by_cases hlt:k<l.length
  ·obtain⟨b,off,rfl,hb,hx⟩:=hA.out (by omega);have h1:=(hbw.cell (p:=⟨b,off+k,none⟩) hb).trans (hx k (by omega));replace hx:=zz hx;obtain⟨m,hm⟩:∃ m,l.length-k+1=m+1:=⟨l.length-k,rfl⟩;rw[hm] at ho;have hc2:=own_next ho HD.out;have hf2:=ho.frozen k;have HM:=zz hm;have HO:=zz ho;clear hm ho;have hxb:l[k]<1000000000:=HS.out _ (List.getElem_mem hlt);have hxn0:(0:Int)≤(l[k]:Int)*(n:Int):=by exact Int.mul_nonneg (by omega) (by omega)
   have hxn:(l[k]:Int)*(n:Int)≤1000000000*1000000000:=Int.mul_le_mul (by omega) (by omega) (by omega) (by omega);go_wp2;obtain⟨s1,s2,s3⟩:=by_step hlt HD.out H2.out H3.out;go_roundw
   case rel=>
    have hq:l[k]*n≤999999999*1000000000:=Nat.mul_le_mul (by omega) hn;exact⟨k+1,(l[k]*n+cr) / 1000000000,_,by omega,by go_num,by go_num,by omega,zz ⟨s1,s2,s3⟩,hbw.setCell (Nat.le_refl _) _,by
     rw[show l.length-(k+1)+1=m by have:=HM.out;omega];exact own_put HO.out HD.out (by omega)⟩
   case measure=>simp[intOf];omega
  ·obtain rfl:k=l.length:=by omega
   rw[Nat.sub_self] at ho;have hc2:=own_next ho HD.out;have hf2:=ho.frozen l.length;have HO:=zz ho;clear ho;go_wp2;go_ret;refine⟨by rw[hg];exact hbw.setCell (Nat.le_refl _) _,g,d++[cr],rfl,by omega,by simp[HD.out],H2.out.append (Small.cons hcr Small.nil),?_,by simpa using own_put HO.out HD.out rfl⟩;have:=H3.out;rw[List.take_length] at this;rw[val_snoc,HD.out,this]
def SignOf (c:Int) (a b:Nat):Prop:=(c<0↔a<b)∧(c=0↔a=b)
theorem sign_len {a b:Nat} (h:(dig a).length≠(dig b).length):SignOf (((dig a).length:Int)-((dig b).length:Int)) a b:=by
 unfold SignOf;rcases Nat.lt_or_gt_of_ne h with h | h <;> have:=cmp_len h <;> omega
theorem sign_at {a b k:Nat} (hl:(dig a).length=(dig b).length) (hk:k<(dig a).length) (hk':k<(dig b).length) (hd:(dig a).drop (k+1)=(dig b).drop (k+1))
  (hne:(dig a)[k]≠(dig b)[k]):SignOf (((dig a)[k]:Int)-((dig b)[k]:Int)) a b:=by
 have h1:=cmp_at (dig_small a) hl hk hd;have h2:=cmp_at (dig_small b) hl.symm hk' hd.symm;rw[val_dig,val_dig,getD_get hk,getD_get hk'] at h1 h2;unfold SignOf;rcases Nat.lt_or_gt_of_ne hne with h | h
 ·have:=h1 h;omega
 ·have:=h2 h;omega
theorem sign_eq {a b:Nat} (h:dig a=dig b):SignOf 0 a b:=by
 have:=dig_inj h;unfold SignOf;omega
theorem drop_same {l m:List Nat} {k:Nat} (hl:k<l.length) (hm:k<m.length) (h:l[k]=m[k]) (hd:l.drop (k+1)=m.drop (k+1)):l.drop k=m.drop k:=by
 rw[List.drop_eq_getElem_cons hl,List.drop_eq_getElem_cons hm,h,hd]
theorem Cmp_any (w:World) (va vb:Value) (a b:Nat) (ha:RN w w.heap.size va (dig a)) (hb:RN w w.heap.size vb (dig b)) :
  Calls Tryz.prog 90 #[va,vb] w fun e w'=>Below w.heap.size w w'∧∃ c:Int,e=.returned (.int .i64 c)∧SignOf c a b:=by
 obtain⟨A,ca,rfl,hca,hca',hA⟩:=ha.cell;obtain⟨Bb,cb,rfl,hcb,hcb',hB⟩:=hb.cell;have hla:(dig a).length≤9223372036854775807:=by omega
 have hlb:(dig b).length≤9223372036854775807:=by omega
 have hsa:=zz (dig_small a);have hsb:=zz (dig_small b);clear ha hb;by_cases hne:(dig a).length=(dig b).length
 ·have HL:=zz hne;have hA:=zz hA;have hB:=zz hB;have hle:((dig a).length:Int)≤(dig b).length:=by omega
  have hge:((dig b).length:Int)≤(dig a).length:=by omega
  clear hne;go_enter Tryz.func90,Tryz.ntmps90
  go_wp2;go_loopw [5] (fun i wr=>∃ n:Int,i=.int .i64 n∧-1≤n∧n<(dig a).length∧Hid ((dig a).drop (n+1).toNat=(dig b).drop (n+1).toNat)∧Below w.heap.size w wr) (fun i _=>(intOf i+1).toNat)
  case atStart=>exact⟨_,rfl,by omega,by omega,by rw[List.drop_eq_nil_of_le (by omega),List.drop_eq_nil_of_le (by omega)];rfl,Below.refl _ _⟩
  case round=>
   obtain⟨n,rfl,hn1,hn2,hd,hbw⟩:=hrel;by_cases hn:0≤n
   ·obtain⟨k,rfl⟩:=Int.eq_ofNat_of_zero_le hn;obtain⟨g,off,rfl,hg,hx⟩:=hA.out (by omega);obtain⟨g',off',rfl,hg',hx'⟩:=hB.out (by omega);have h1:=(hbw.cell (p:=⟨g,off+k,none⟩) hg).trans (hx k (by omega));have h2:=(hbw.cell (p:=⟨g',off'+k,none⟩) hg').trans (hx' k (by omega));clear hx hx';have hka:k<(dig a).length:=by omega
    have hkb:k<(dig b).length:=by omega
    have hba:(dig a)[k]<1000000000:=hsa.out _ (List.getElem_mem hka);have hbb:(dig b)[k]<1000000000:=hsb.out _ (List.getElem_mem hkb);go_wp2;go_quiet (fail)
    go_wp2
    ·go_quiet (fail)
     go_wp2;have hne:(dig a)[k]≠(dig b)[k]:=nat_ne (by assumption);go_ret;exact⟨below_drewN (below_drewN hbw _) _,_,rfl,sign_at HL.out hka hkb (by simpa using hd.out) hne⟩
    ·have he:(dig a)[k]=(dig b)[k]:=nat_eq (by assumption);go_roundw
     case rel=>exact⟨_,rfl,by omega,by omega,zz (by simpa using drop_same hka hkb he (by simpa using hd.out)),below_drewN hbw _⟩
     case measure=>simp[intOf]
   ·obtain rfl:n=-1:=by omega
    have he:=hd.out;simp only[Int.reduceNeg,Int.reduceAdd,Int.toNat_zero,List.drop_zero] at he
    have HE:=zz he;clear he hd;go_wp2;go_ret;exact⟨hbw,_,rfl,sign_eq HE.out⟩
 ·go_enter Tryz.func90,Tryz.ntmps90
  go_wp2;go_ret;exact⟨Below.refl _ _,_,rfl,sign_len hne⟩
theorem Part_new (w:World) (va:Value) (a n:Nat) (ha:RN w w.heap.size va (dig a)) (hl:(dig a).length≤3000000000) (hn:0<n) (hn':n≤1000000000) :
  Calls Tryz.prog 119 #[va,.int .i64 n] w fun e w'=>Below w.heap.size w w'∧∃ v,e=.returned (.tuple #[v,.int .i64 ((a % n:Nat):Int)])∧RN w' w'.heap.size v (dig (a / n))∧NewC w.heap.size v:=by
 obtain⟨A,ca,rfl,hca,hca',hA⟩:=ha.cell;replace hA:=zz hA;clear ha;have hmk:=mk_size (dig a).length (by omega);go_enter Tryz.func119,Tryz.ntmps119
 go_wp2;have ho1:=own_new w (dig a).length;have b0:Below w.heap.size w (w.alloc (zerosObj (dig a).length)):=(Below.refl _ _).alloc (Nat.le_refl _) _;generalize hg:w.heap.size=g at *
 generalize w.alloc (zerosObj (dig a).length)=w1 at *
 go_loopw [7,8] (fun rv i wr=>∃ (m:Int) (rest:Nat) (q:List Nat),-1≤m∧m<(dig a).length∧i=.int .i64 m∧rv=.int .i64 rest∧rest<n ∧
   Hid (q.length+(m+1).toNat=(dig a).length∧Small q∧val ((dig a).drop (m+1).toNat)=val q*n+rest)∧Below g w wr∧Own wr g (List.replicate (m+1).toNat 0++ni q)) (fun _ i _=>(intOf i+1).toNat)
 case atStart=>exact⟨_,0,[],by omega,by omega,rfl,rfl,hn,zz ⟨by simp,Small.nil,by rw[List.drop_eq_nil_of_le (by omega)];simp[val]⟩,b0,by
  rw[show((((dig a).length:Int)-1+1).toNat)=(dig a).length by omega];simpa[ni] using ho1⟩
 case round=>
  clear b0 ho1;obtain⟨m,rest,q,hm1,hm2,rfl,rfl,hr,hP,hbw,ho⟩:=hrel;have hgw:g<wr.heap.size:=ho.lt;by_cases hm:0≤m
  ·obtain⟨k,rfl⟩:=Int.eq_ofNat_of_zero_le hm;obtain⟨bk,off,rfl,hbk,hx⟩:=hA.out (by omega);have hka:k<(dig a).length:=by omega
   have h1:=(hbw.cell (p:=⟨bk,off+k,none⟩) hbk).trans (hx k (by omega));replace hx:=zz hx;rw[show((k:Int)+1).toNat=k+1 by omega] at ho;obtain⟨hp1,hp2,hp3⟩:=hP.out;rw[show((k:Int)+1).toNat=k+1 by omega] at hp1 hp3;have d0:=zz (part_step hka hn (dig_small a) hp3 hr hp2);have e0:=zz hp1;clear hp1 hp2 hp3 hP;have hxk:(dig a)[k]<1000000000:=dig_small a _ (List.getElem_mem hka);obtain⟨x,hxx⟩:∃ x,x=(dig a)[k]:=⟨_,rfl⟩;rw[← hxx] at h1 hxk d0;clear hxx;have h2:wr.cell? ⟨g,k,none⟩=some (.int .i64 0):=by
    rw[ho.cell k (by simp;omega)];simp
   have hf:=ho.frozen k;have HO:=zz ho;clear ho;go_wp2;go_region
   go_wp2;have hd:rest*1000000000+x<n*1000000000:=by
    have:(rest+1)*1000000000≤n*1000000000:=Nat.mul_le_mul_right _ hr
    omega
   go_roundw
   case rel=>
    have h4:=HO.out.set k (((rest*1000000000+x) / n:Nat):Int) (by simp;omega);rw[set_top] at h4;have e:(((rest*1000000000+x) / n:Nat):Int)=((rest:Int)*1000000000+(x:Int)) / (n:Int):=by rw[Int.natCast_ediv];rfl
    have e':(((rest*1000000000+x) % n:Nat):Int)=((rest:Int)*1000000000+(x:Int)) % (n:Int):=by rw[Int.natCast_emod];rfl
    rw[e] at h4;have hs:=d0.out;have a0:((k:Int)-1+1).toNat=k:=by omega
    exact⟨_,(rest*1000000000+x) % n,(rest*1000000000+x) / n :: q,by omega,by omega,rfl,by rw[e'],Nat.mod_lt _ hn,zz ⟨by rw[a0];have:=e0.out;simp;omega,hs.2,by rw[a0];exact hs.1⟩,((hbw.drew).setCell (Nat.le_refl _) _),by rw[a0];exact h4⟩
   case measure=>simp[intOf]
  ·obtain rfl:m=-1:=by omega
   obtain⟨hp1,hp2,hp3⟩:=hP.out;simp only[Int.reduceNeg,Int.reduceAdd,Int.toNat_zero,List.drop_zero,List.replicate_zero,List.nil_append,Nat.add_zero] at hp1 hp3 ho
   have hrn:=own_rn ho (dig a).length (dig a).length hp1.symm (by omega) (by omega);have HV:=zz hp3;have HQ:=zz hp2;clear hp1 hp2 hp3 hP;go_wp2_with (go_at_call 107;refine(Trim_blk _ _ q hrn HQ.out).mono ?_;rintro e w2 ⟨c0,v',rfl,hv',hnw⟩)
   go_ret2;have h:=HV.out;rw[val_dig] at h;have h1:a / n=val q:=by
    rw[h];exact Nat.div_eq_of_lt_le (by omega) (by rw[Nat.succ_mul];omega)
   have h2:a % n=rest:=by
    rw[h,Nat.mul_comm,Nat.mul_add_mod];exact Nat.mod_eq_of_lt hr
   rw[h1,h2];exact⟨by rw[hg];exact hbw.trans (c0.mono (by omega)),_,rfl,hv',by rw[hg];exact hnw _ (NewC.at (Nat.le_refl _))⟩
theorem Part_any (w:World) (va:Value) (a n:Nat) (ha:RN w w.heap.size va (dig a)) (hl:(dig a).length≤3000000000) (hn:0<n) (hn':n≤1000000000) :
  Calls Tryz.prog 119 #[va,.int .i64 n] w fun e w'=>Below w.heap.size w w'∧∃ v,e=.returned (.tuple #[v,.int .i64 ((a % n:Nat):Int)])∧RN w' w'.heap.size v (dig (a / n)):=
 (Part_new w va a n ha hl hn hn').mono fun _ _ ⟨hb,v,he,hv,_⟩=>⟨hb,v,he,hv⟩
end Go.Proofs.YtdigbofiebfkeaaGreatDoor
namespace Go.Proofs.YtdigbofiebfkeaaGreatDoor.Dig
open Go.Lib
def IsDig (c:UInt8):Prop:=48≤c.toNat∧c.toNat≤57
def AllDig (l:List UInt8):Prop:=∀ c∈l,IsDig c
def num (l:List UInt8):Nat:=l.foldl (fun a c=>a*10+(c.toNat-48)) 0
theorem AllDig.nil:AllDig []:=fun _ h=>by cases h
theorem AllDig.cons {c:UInt8} {l:List UInt8} (h:IsDig c) (hl:AllDig l):AllDig (c :: l):=fun x hx=>by
 cases hx with
 | head=>exact h
 | tail _ hx=>exact hl x hx
theorem AllDig.append {l m:List UInt8} (h:AllDig l) (k:AllDig m):AllDig (l++m):=fun x hx=>by
 rcases List.mem_append.1 hx with hx | hx
 ·exact h x hx
 ·exact k x hx
theorem AllDig.take {l:List UInt8} (h:AllDig l) (n:Nat):AllDig (l.take n):=fun x hx=>h x (List.mem_of_mem_take hx)
theorem AllDig.drop {l:List UInt8} (h:AllDig l) (n:Nat):AllDig (l.drop n):=fun x hx=>h x (List.mem_of_mem_drop hx)
theorem num_nil:num []=0:=rfl
theorem num_acc (l:List UInt8):∀ a,l.foldl (fun a c=>a*10+(c.toNat-48)) a=a*10 ^ l.length+num l:=by
 induction l with
 | nil=>intro a;simp[num]
 | cons c l ih=>
  intro a;unfold num;rw[List.foldl_cons,List.foldl_cons,ih,ih,List.length_cons,Nat.pow_succ];simp only[Nat.add_mul,Nat.zero_mul,Nat.zero_add]
  rw[Nat.mul_assoc,Nat.mul_comm 10]
  omega
theorem num_append (l m:List UInt8):num (l++m)=num l*10 ^ m.length+num m:=by
 show List.foldl _ 0 (l++m)=_
 rw[List.foldl_append,num_acc];rfl
theorem num_cons (c:UInt8) (l:List UInt8):num (c :: l)=(c.toNat-48)*10 ^ l.length+num l:=by
 have h:=num_append [c] l
 simpa[num] using h
theorem num_snoc (l:List UInt8) (c:UInt8):num (l++[c])=num l*10+(c.toNat-48):=by
 rw[num_append];simp[num]
theorem num_lt {l:List UInt8} (h:AllDig l):num l<10 ^ l.length:=by
 induction l with
 | nil=>simp[num]
 | cons c l ih=>
  have h1:=ih (fun x hx=>h x (List.mem_cons_of_mem _ hx));have h2:=(h c (List.mem_cons_self ..)).2;have h3:c.toNat-48≤9:=by omega
  have h4:=Nat.mul_le_mul_right (10 ^ l.length) h3;rw[num_cons,List.length_cons,Nat.pow_succ]
  omega
theorem num_pos {c:UInt8} {l:List UInt8} (h:IsDig c) (h0:c≠48):0<num (c :: l):=by
 have h1:c.toNat≠48:=fun e=>h0 (UInt8.toNat_inj.1 e)
 have h2:1≤c.toNat-48:=by have:=h.1;omega
 have h3:=Nat.mul_le_mul_right (10 ^ l.length) h2;have h4:0<10 ^ l.length:=Nat.pow_pos (by omega);rw[num_cons]
 omega
theorem ofNat_dig {d:Nat} (h:d<10):(UInt8.ofNat (48+d)).toNat=48+d:=by
 rw[UInt8.toNat_ofNat'];omega
theorem dd_one {u:Nat} (h:u<10):decDigits u=[UInt8.ofNat (48+u)]:=by rw[decDigits,dif_pos h]
theorem dd_more {u:Nat} (h:¬ u<10):decDigits u=decDigits (u / 10)++[UInt8.ofNat (48+u % 10)]:=by rw[decDigits,dif_neg h]
theorem dd_all (u:Nat):AllDig (decDigits u):=by
 induction u using Nat.strongRecOn with
 | _ u ih=>
  by_cases h:u<10
  ·rw[dd_one h];exact AllDig.cons ⟨by rw[ofNat_dig h];omega,by rw[ofNat_dig h];omega⟩ AllDig.nil
  ·rw[dd_more h];have hm:u % 10<10:=Nat.mod_lt _ (by omega);exact(ih (u / 10) (by omega)).append (AllDig.cons ⟨by rw[ofNat_dig hm];omega,by rw[ofNat_dig hm];omega⟩ AllDig.nil)
theorem num_dd (u:Nat):num (decDigits u)=u:=by
 induction u using Nat.strongRecOn with
 | _ u ih=>
  by_cases h:u<10
  ·rw[dd_one h];show 0*10+_=_;rw[ofNat_dig h];omega
  ·rw[dd_more h,num_snoc,ih (u / 10) (by omega),ofNat_dig (Nat.mod_lt _ (by omega))];omega
theorem dd_inj {a b:Nat} (h:decDigits a=decDigits b):a=b:=by rw[← num_dd a,h,num_dd]
theorem dd_head {u:Nat} (h:u≠0):∃ c r,decDigits u=c :: r∧c≠48:=by
 induction u using Nat.strongRecOn with
 | _ u ih=>
  by_cases h1:u<10
  ·refine⟨_,[],dd_one h1,fun e=>?_⟩;have:=congrArg UInt8.toNat e;rw[ofNat_dig h1] at this;have h48:(48:UInt8).toNat=48:=by decide
   omega
  ·obtain⟨c,r,e,hc⟩:=ih (u / 10) (by omega) (by omega);exact⟨c,r++[UInt8.ofNat (48+u % 10)],by rw[dd_more h1,e];rfl,hc⟩
theorem dd_ne (u:Nat):decDigits u≠[]:=by
 intro h;have:=congrArg List.length h;rw[decDigits_length] at this;have:=nDigits_pos u;simp at *
 omega
theorem dd_zero:decDigits 0=[48]:=by rw[dd_one (by omega)];rfl
theorem dd_num:∀ (n:Nat) (c:UInt8) (l:List UInt8),l.length=n→AllDig (c :: l)→c≠48→decDigits (num (c :: l))=c :: l
 | 0,c,l,hn,ha,h0=>by
  obtain rfl:=List.eq_nil_of_length_eq_zero hn;have hc:=ha c (List.mem_cons_self ..);have e:num [c]=c.toNat-48:=by simp[num]
  have hlt:c.toNat-48<10:=by have:=hc.2;omega
  rw[e,dd_one hlt]
  congr 1
  apply UInt8.toNat_inj.1
  rw[ofNat_dig hlt];have:=hc.1;omega
 | n+1,c,l,hn,ha,h0=>by
  obtain⟨m,x,rfl⟩:∃ m x,l=m++[x]:=⟨l.dropLast,l.getLast (by intro e;rw[e] at hn;simp at hn),(List.dropLast_concat_getLast _).symm⟩;have hm:AllDig (c :: m):=fun y hy=>ha y (by rw[← List.cons_append];exact List.mem_append_left _ hy)
  have hx:=ha x (by rw[← List.cons_append];exact List.mem_append_right _ (List.mem_singleton.2 rfl));have hp:=num_pos (l:=m) (hm c (List.mem_cons_self ..)) h0;have ih:=dd_num n c m (by simpa using hn) hm h0;have hlt:x.toNat-48<10:=by have:=hx.2;omega
  rw[← List.cons_append,num_snoc,dd_more (by omega)];have h1:(num (c :: m)*10+(x.toNat-48)) / 10=num (c :: m):=by omega
  have h2:(num (c :: m)*10+(x.toNat-48)) % 10=x.toNat-48:=by omega
  rw[h1,h2,ih]
  congr 2
  apply UInt8.toNat_inj.1
  rw[ofNat_dig hlt];have:=hx.1;omega
theorem dd_of {l:List UInt8} {c:UInt8} {r:List UInt8} (hl:l=c :: r) (ha:AllDig l) (h0:c≠48) {u:Nat} (hu:num l=u):decDigits u=l:=by
 subst hl;rw[← hu];exact dd_num _ c r rfl ha h0
theorem nd_le {u k:Nat} (hk:1≤k):nDigits u≤k↔u<10 ^ k:=by
 constructor
 ·intro h;exact Nat.lt_of_lt_of_le (lt_pow_nDigits u) (Nat.pow_le_pow_right (by omega) h)
 ·intro h
  induction k generalizing u with
  | zero=>omega
  | succ k ih=>
   by_cases h1:u<10
   ·rw[nDigits_small h1];omega
   ·rw[nDigits_big h1];rcases Nat.eq_zero_or_pos k with rfl | a0
    ·simp at h;omega
    ·have:=ih (u:=u / 10) (by omega) (by rw[Nat.pow_succ] at h;omega)
     omega
theorem bp_ten (n:Nat):bp n=10 ^ (9*n):=by
 unfold bp;rw[Nat.pow_mul]
theorem dd_len_dig (n k:Nat) (hk:1≤k):(decDigits n).length≤9*k↔(dig n).length≤k:=by
 rw[decDigits_length,nd_le (by omega),dig_len_le,bp_ten]
theorem dig_piece {t:List UInt8} (ha:AllDig t) {e:Nat} (he:e≤t.length) (hp:num (t.take e)≠0):dig (num (t.take e))=num ((t.take e).drop (e-9)) :: dig (num (t.take (e-9))):=by
 have hs:num (t.take e)=num (t.take (e-9))*10 ^ (e-(e-9))+num ((t.take e).drop (e-9)):=by
  have h:=num_append ((t.take e).take (e-9)) ((t.take e).drop (e-9));rw[List.take_append_drop,List.take_take,Nat.min_eq_left (by omega),List.length_drop,List.length_take,Nat.min_eq_left he] at h;exact h
 have hlt:=num_lt ((ha.take e).drop (e-9));rw[List.length_drop,List.length_take,Nat.min_eq_left he] at hlt;rw[dig_pos hp];by_cases h9:9≤e
 ·have e9:e-(e-9)=9:=by omega
  rw[e9] at hs hlt;have hlt':num ((t.take e).drop (e-9))<1000000000:=hlt;have hs':num (t.take e)=num (t.take (e-9))*1000000000+num ((t.take e).drop (e-9)):=hs;have h1:num (t.take e) % 1000000000=num ((t.take e).drop (e-9)):=by omega
  have h2:num (t.take e) / 1000000000=num (t.take (e-9)):=by omega
  rw[h1,h2]
 ·have e0:e-9=0:=by omega
  rw[e0] at hs hlt ⊢;simp only[List.take_zero,num_nil,Nat.zero_mul,Nat.zero_add,List.drop_zero,Nat.sub_zero] at hs hlt ⊢
  have hlt':num (t.take e)<1000000000:=Nat.lt_of_lt_of_le hlt (by
   have:=Nat.pow_le_pow_right (show 0<10 by omega) (show e≤9 by omega);exact this)
  rw[Nat.mod_eq_of_lt hlt',Nat.div_eq_of_lt hlt',dig_zero]
noncomputable def canon (s:List UInt8):Option Int:=open Classical in if h:∃ z,itoa z=s then some h.choose else none
theorem itoa_pos {z:Int} (h:0≤z):itoa z=decDigits z.natAbs:=by unfold itoa;rw[if_neg (by omega),show z.toNat=z.natAbs by omega]
theorem itoa_min {z:Int} (h:z<0):itoa z=45 :: decDigits z.natAbs:=by unfold itoa;rw[if_pos h]
theorem not_dash (u:Nat) (r:List UInt8):decDigits u≠45 :: r:=fun e=>by
 have h:=dd_all u 45 (by rw[e];exact List.mem_cons_self ..);have:=h.1
 revert this;decide
theorem itoa_inj {a b:Int} (h:itoa a=itoa b):a=b:=by
 by_cases ha:a<0 <;> by_cases hb:b<0
 ·rw[itoa_min ha,itoa_min hb] at h;have:=dd_inj (List.cons.inj h).2
  omega
 ·rw[itoa_min ha,itoa_pos (by omega)] at h;exact absurd h.symm (not_dash _ _)
 ·rw[itoa_pos (by omega),itoa_min hb] at h;exact absurd h (not_dash _ _)
 ·rw[itoa_pos (by omega),itoa_pos (by omega)] at h;have:=dd_inj h
  omega
theorem canon_itoa (z:Int):canon (itoa z)=some z:=by
 have h:∃ y,itoa y=itoa z:=⟨z,rfl⟩;unfold canon;rw[dif_pos h,itoa_inj h.choose_spec]
theorem canon_of {s:List UInt8} {z:Int} (h:itoa z=s):canon s=some z:=by rw[← h,canon_itoa]
theorem canon_some {s:List UInt8} {z:Int} (h:canon s=some z):itoa z=s:=by
 unfold canon at h
 split at h
 ·rename_i hx
  have:=hx.choose_spec;rw[Option.some.inj h] at this;exact this
 ·cases h
theorem canon_none {s:List UInt8} (h:∀ z,itoa z≠s):canon s=none:=by
 unfold canon;rw[dif_neg (fun⟨z,e⟩=>h z e)]
def bare (s:List UInt8):List UInt8:=match s with | 45 :: r=>r | s=>s
theorem bare_dash (r:List UInt8):bare (45 :: r)=r:=rfl
theorem bare_other {c:UInt8} (r:List UInt8) (h:c≠45):bare (c :: r)=c :: r:=by
 unfold bare;split
 ·rename_i e;exact absurd (List.cons.inj e).1 h
 ·rfl
theorem bare_itoa (z:Int):bare (itoa z)=decDigits z.natAbs:=by
 by_cases h:z<0
 ·rw[itoa_min h];rfl
 ·rw[itoa_pos (by omega)];obtain⟨c,r,e⟩:∃ c r,decDigits z.natAbs=c :: r:=by
   cases hx:decDigits z.natAbs with
   | nil=>exact absurd hx (dd_ne _)
   | cons c r=>exact⟨c,r,rfl⟩
  rw[e];exact bare_other r (fun ec=>not_dash z.natAbs r (by rw[e,ec]))
theorem canon_empty {s:List UInt8} (h:bare s=[]):canon s=none:=canon_none fun z e=>by
 rw[← e,bare_itoa] at h;exact dd_ne _ h
theorem canon_letter {s:List UInt8} (h:¬ AllDig (bare s)):canon s=none:=canon_none fun z e=>by
 rw[← e,bare_itoa] at h;exact h (dd_all _)
theorem canon_lead {s r:List UInt8} (h:bare s=48 :: r) (h0:s≠[48]):canon s=none:=canon_none fun z e=>by
 rw[← e,bare_itoa] at h;by_cases hz:z.natAbs=0
 ·apply h0
  rw[← e,show z=0 by omega];exact dd_zero
 ·obtain⟨c,r',e',hc⟩:=dd_head hz;rw[e'] at h;exact hc (List.cons.inj h).1
theorem canon_zero:canon [48]=some 0:=canon_of (by rw[itoa_pos (by omega)];exact dd_zero)
def sgn (neg:Bool) (n:Nat):Int:=if neg then -(n:Int) else n
theorem canon_num {s r:List UInt8} {c:UInt8} (h:bare s=c :: r) (ha:AllDig (bare s)) (h0:c≠48):canon s=some (sgn (decide (bare s≠s)) (num (bare s))):=by
 have hd:=dd_of h ha h0 rfl;have hp:0<num (bare s):=by rw[h];exact num_pos (ha c (by rw[h];exact List.mem_cons_self ..)) h0
 refine canon_of ?_;by_cases hs:bare s=s
 ·have:sgn (decide (bare s≠s)) (num (bare s))=(num (bare s):Int):=by simp[sgn,hs]
  rw[this,itoa_pos (by omega),Int.natAbs_natCast,hd,hs]
 ·have:sgn (decide (bare s≠s)) (num (bare s))=-(num (bare s):Int):=by simp[sgn,hs]
  rw[this,itoa_min (by omega),Int.natAbs_neg,Int.natAbs_natCast,hd];unfold bare at hs ⊢
  split
  ·rfl
  ·rename_i h';split at hs
   ·rename_i r';exact absurd rfl (h' r')
   ·exact absurd rfl hs
noncomputable def parseZ (s:List UInt8):Int × Int:=match canon s with
 | none=>(0,5)
 | some z=>if (dig z.natAbs).length≤600 then (z,0) else (0,6)
theorem parseZ_none {s:List UInt8} (h:canon s=none):parseZ s=(0,5):=by unfold parseZ;rw[h]
theorem parseZ_some {s:List UInt8} {z:Int} (h:canon s=some z) (hl:(dig z.natAbs).length≤600):parseZ s=(z,0):=by unfold parseZ;rw[h];exact if_pos hl
theorem parseZ_long {s:List UInt8} {z:Int} (h:canon s=some z) (hl:¬ (dig z.natAbs).length≤600):parseZ s=(0,6):=by unfold parseZ;rw[h];exact if_neg hl
theorem parse_all:∀ (l:List UInt8) (acc:Nat),AllDig l→acc<18446744073709551616→parseUint10 acc l=if acc*10 ^ l.length+num l<18446744073709551616 then .ok (acc*10 ^ l.length+num l) else .range
 | [],acc,_,hacc=>by simp[parseUint10,num,hacc]
 | c :: r,acc,ha,hacc=>by
  have hc:=ha c (List.mem_cons_self ..);have hr:AllDig r:=fun x hx=>ha x (List.mem_cons_of_mem _ hx)
  have e:acc*10 ^ (c :: r).length+num (c :: r)=(acc*10+(c.toNat-48))*10 ^ r.length+num r:=by
   rw[num_cons,List.length_cons,Nat.pow_succ,Nat.add_mul,Nat.mul_assoc acc 10,Nat.mul_comm 10];omega
  have hp:0<10 ^ r.length:=Nat.pow_pos (by omega);rw[e,parseUint10,if_pos ⟨hc.1,hc.2⟩];by_cases h1:18446744073709551616≤acc*10+(c.toNat-48)
  ·have h2:18446744073709551616*1≤(acc*10+(c.toNat-48))*10 ^ r.length:=Nat.mul_le_mul h1 hp;have h3:¬ ((acc*10+(c.toNat-48))*10 ^ r.length+num r<18446744073709551616):=by omega
   rw[if_neg h3]
   split
   ·rfl
   ·rfl
  ·rw[if_neg (show ¬ 1844674407370955162≤acc by omega),if_neg h1];exact parse_all r _ hr (by omega)
theorem mag_all {l:List UInt8} (h:l≠[]) (ha:AllDig l):parseMag l=if num l<18446744073709551616 then .ok (num l) else .range:=by
 unfold parseMag;rw[if_neg h,parse_all l 0 ha (by omega)];simp
theorem atoi_dig {l:List UInt8} (h:l≠[]) (ha:AllDig l):atoiAll l=if num l<9223372036854775808 then .ok (num l:Int) else .range:=by
 cases l with
 | nil=>exact absurd rfl h
 | cons c r=>
  have hc:=ha c (List.mem_cons_self ..);have h1:¬ (c.toNat=43∨c.toNat=45):=by have:=hc.1;omega
  have h2:¬ c.toNat=45:=by omega
  unfold atoiAll;simp only[if_neg h1,mag_all h ha]
  by_cases h3:num (c :: r)<18446744073709551616
  ·rw[if_pos h3];simp only[h2,not_false_eq_true,true_and,false_and,if_false]
   by_cases h4:num (c :: r)<9223372036854775808
   ·rw[if_pos h4,if_neg (by omega)]
   ·rw[if_neg h4,if_pos (by omega)]
  ·rw[if_neg h3,if_neg (by omega)]
end Go.Proofs.YtdigbofiebfkeaaGreatDoor.Dig
namespace Go.Proofs.YtdigbofiebfkeaaGreatDoor.Dig
theorem val_take_getD (x:List Nat) (k:Nat):val (x.take (k+1))=val (x.take k)+bp k*x.getD k 0:=by
 by_cases h:k<x.length
 ·rw[List.take_succ_eq_append_getElem h,val_snoc,List.length_take,Nat.min_eq_left (by omega),getD_get h]
 ·rw[List.take_of_length_le (by omega),List.take_of_length_le (by omega),List.getD_eq_getElem?_getD,List.getElem?_eq_none (by omega)];simp
end Go.Proofs.YtdigbofiebfkeaaGreatDoor.Dig
namespace Go.Proofs.YtdigbofiebfkeaaGreatDoor
open Go Go.RowKit Dig
theorem less_len {a b:Nat} (h:(dig a).length≠(dig b).length):decide ((dig a).length<(dig b).length)=decide (a<b):=by
 rw[decide_eq_decide];have:=sign_len h;unfold SignOf at this;omega
theorem less_at {a b k:Nat} (hl:(dig a).length=(dig b).length) (hk:k<(dig a).length) (hk':k<(dig b).length) (hd:(dig a).drop (k+1)=(dig b).drop (k+1))
  (hne:(dig a)[k]≠(dig b)[k]):decide ((dig a)[k]<(dig b)[k])=decide (a<b):=by
 rw[decide_eq_decide];have:=sign_at hl hk hk' hd hne;unfold SignOf at this;omega
theorem RLess_any (w:World) (va vb:Value) (a b:Nat) (ha:RN w w.heap.size va (dig a)) (hb:RN w w.heap.size vb (dig b)) :
  Calls Tryz.prog 135 #[va,vb] w fun e w'=>Below w.heap.size w w'∧e=.returned (.bool (decide (a<b))):=by
 obtain⟨A,ca,rfl,hca,hca',hA⟩:=ha.cell;obtain⟨Bb,cb,rfl,hcb,hcb',hB⟩:=hb.cell;have hla:(dig a).length≤9223372036854775807:=by omega
 have hlb:(dig b).length≤9223372036854775807:=by omega
 have hsa:=zz (dig_small a);have hsb:=zz (dig_small b);clear ha hb;by_cases hne:(dig a).length=(dig b).length
 ·have HL:=zz hne;have hA:=zz hA;have hB:=zz hB;have hle:((dig a).length:Int)≤(dig b).length:=by omega
  have hge:((dig b).length:Int)≤(dig a).length:=by omega
  clear hne;go_enter Tryz.func135,Tryz.ntmps135
  go_wp2;go_loopw [5] (fun i wr=>∃ n:Int,i=.int .i64 n∧-1≤n∧n<(dig a).length∧Hid ((dig a).drop (n+1).toNat=(dig b).drop (n+1).toNat)∧Below w.heap.size w wr) (fun i _=>(intOf i+1).toNat)
  case atStart=>exact⟨_,rfl,by omega,by omega,by rw[List.drop_eq_nil_of_le (by omega),List.drop_eq_nil_of_le (by omega)];rfl,Below.refl _ _⟩
  case round=>
   obtain⟨n,rfl,hn1,hn2,hd,hbw⟩:=hrel;by_cases hn:0≤n
   ·obtain⟨k,rfl⟩:=Int.eq_ofNat_of_zero_le hn;obtain⟨g,off,rfl,hg,hx⟩:=hA.out (by omega);obtain⟨g',off',rfl,hg',hx'⟩:=hB.out (by omega);have h1:=(hbw.cell (p:=⟨g,off+k,none⟩) hg).trans (hx k (by omega));have h2:=(hbw.cell (p:=⟨g',off'+k,none⟩) hg').trans (hx' k (by omega));clear hx hx';have hka:k<(dig a).length:=by omega
    have hkb:k<(dig b).length:=by omega
    have hba:(dig a)[k]<1000000000:=hsa.out _ (List.getElem_mem hka);have hbb:(dig b)[k]<1000000000:=hsb.out _ (List.getElem_mem hkb);go_wp2;go_quiet (fail)
    go_wp2
    ·go_quiet (fail)
     go_wp2;have hne:(dig a)[k]≠(dig b)[k]:=nat_ne (by assumption);go_ret;exact⟨below_drewN (below_drewN hbw _) _,congrArg (fun c=>Ending.returned (Value.bool c)) (less_at HL.out hka hkb (by simpa using hd.out) hne)⟩
    ·have he:(dig a)[k]=(dig b)[k]:=nat_eq (by assumption);go_roundw
     case rel=>exact⟨_,rfl,by omega,by omega,zz (by simpa using drop_same hka hkb he (by simpa using hd.out)),below_drewN hbw _⟩
     case measure=>simp[intOf]
   ·obtain rfl:n=-1:=by omega
    have he:=hd.out;simp only[Int.reduceNeg,Int.reduceAdd,Int.toNat_zero,List.drop_zero] at he
    have HE:=zz (show decide (a<b)=false from decide_eq_false (by have:=dig_inj he;omega));clear he hd;go_wp2;go_ret;exact⟨hbw,congrArg (fun c=>Ending.returned (Value.bool c)) HE.out.symm⟩
 ·have HE:=zz (less_len hne);go_enter Tryz.func135,Tryz.ntmps135
  go_wp2;go_ret;exact⟨Below.refl _ _,congrArg (fun c=>Ending.returned (Value.bool c)) HE.out⟩
theorem at0_past {l:List Int} {i:Nat} (h:l.length≤i):at0 l i=0:=by
 unfold at0;rw[List.getD_eq_getElem?_getD,List.getElem?_eq_none h];rfl
theorem At_any (w:World) (v:Value) (l:List Int) (k:Nat) (h:RI w w.heap.size v l) :
  Calls Tryz.prog 136 #[v,.int .i64 k] w fun e w'=>Below w.heap.size w w'∧e=.returned (.int .i64 (at0 l k)):=by
 obtain⟨A,c,rfl,hc,hc',hx⟩:=h.at;have hl:l.length≤9223372036854775807:=by omega
 by_cases hk:k<l.length
 ·obtain⟨g,off,rfl,hg,hx⟩:=hx (by omega);have h1:=hx k hk;clear hx;have hki:(k:Int)<(l.length:Int):=by omega
  go_enter Tryz.func136,Tryz.ntmps136
  go_wp2;go_ret;exact⟨Below.refl _ _,rfl⟩
 ·have HE:=zz (at0_past (l:=l) (i:=k) (by omega));have hki:(l.length:Int)≤(k:Int):=by omega
  clear hx;go_enter Tryz.func136,Tryz.ntmps136
  go_wp2;go_ret;exact⟨Below.refl _ _,congrArg (fun c=>Ending.returned (Value.int .i64 c)) HE.out.symm⟩
theorem val_take_next {x:List Nat} {i:Nat} (h:i<x.length):val (x.take (i+1))=val (x.take i)+bp i*x.getD i 0:=by
 rw[List.take_succ_eq_append_getElem h,val_snoc,List.length_take,Nat.min_eq_left (by omega),getD_get h]
theorem r_take_le (x:List Nat) (i:Nat):val (x.take i)≤val x:=by
 by_cases h:i≤x.length
 ·rw[val_split x i h];omega
 ·rw[List.take_of_length_le (by omega)];exact Nat.le_refl _
theorem tdiv_floor (x:Int):(Int.tmod x 1000000000<0→Int.tmod x 1000000000+1000000000=x % 1000000000∧Int.tdiv x 1000000000-1=x / 1000000000) ∧
  (0≤Int.tmod x 1000000000→Int.tmod x 1000000000=x % 1000000000∧Int.tdiv x 1000000000=x / 1000000000):=by
 rcases Int.le_total 0 x with h | h
 ·obtain⟨n,rfl⟩:=Int.eq_ofNat_of_zero_le h;have h1:Int.tdiv (n:Int) 1000000000=((n / 1000000000:Nat):Int):=(Int.ofNat_tdiv n 1000000000).symm;have h2:Int.tmod (n:Int) 1000000000=((n % 1000000000:Nat):Int):=(Int.ofNat_tmod n 1000000000).symm;rw[h1,h2];omega
 ·obtain⟨n,hn⟩:=Int.eq_ofNat_of_zero_le (show 0≤-x by omega);obtain rfl:x=-(n:Int):=by omega
  have h1:Int.tdiv (-(n:Int)) 1000000000=-((n / 1000000000:Nat):Int):=by rw[Int.neg_tdiv];exact congrArg Neg.neg (Int.ofNat_tdiv n 1000000000).symm
  have h2:Int.tmod (-(n:Int)) 1000000000=-((n % 1000000000:Nat):Int):=by rw[Int.neg_tmod];exact congrArg Neg.neg (Int.ofNat_tmod n 1000000000).symm
  rw[h1,h2];omega
structure TakeI (x y:List Nat) (k i:Nat) (c:Int) (d:List Int):Prop where
 len:d.length=x.length
 low:∀ m,m<i→0≤at0 d m∧at0 d m<1000000000
 high:∀ m,i≤m→at0 d m=at0 (ni x) m
 sum:valI (d.take i)+(bp i:Int)*c=(val (x.take i):Int)-(k:Int)*(val (y.take i):Int)
 c0:c≤0
 ck:-(k:Int)≤c
theorem TakeI.start (x y:List Nat) (k:Nat):TakeI x y k 0 0 (ni x):=
 ⟨ni_length x,fun m hm=>absurd hm (by omega),fun _ _=>rfl,by simp[valI,val],by omega,by omega⟩
theorem val_take_any (x:List Nat) (k:Nat):val (x.take (k+1))=val (x.take k)+bp k*x.getD k 0:=by
 by_cases h:k<x.length
 ·exact val_take_next h
 ·rw[List.take_of_length_le (by omega),List.take_of_length_le (by omega),List.getD_eq_getElem?_getD,List.getElem?_eq_none (by omega)];simp
theorem valI_take_next {d:List Int} {i:Nat} (h:i<d.length):valI (d.take (i+1))=valI (d.take i)+(bp i:Int)*at0 d i:=by
 rw[List.take_succ_eq_append_getElem h,valI_append,List.length_take,Nat.min_eq_left (by omega),at0_get h];simp[valI]
theorem TakeI.range {x y:List Nat} {k i:Nat} {c:Int} {d:List Int} (h:TakeI x y k i c d) (hx:Small x) (hy:Small y) :
  -1000000000*(k:Int)≤at0 d i-(y.getD i 0:Int)*(k:Int)+c∧at0 d i-(y.getD i 0:Int)*(k:Int)+c<1000000000:=by
 have h1:=at0_small hx i;rw[← h.high i (Nat.le_refl _)] at h1;have h2:=hy.getD i;have h3:=h.c0;have h4:=h.ck;have h5:(y.getD i 0:Int)*(k:Int)≤999999999*(k:Int):=Int.mul_le_mul_of_nonneg_right (by omega) (by omega);have h6:0≤(y.getD i 0:Int)*(k:Int):=Int.mul_nonneg (by omega) (by omega)
 omega
theorem TakeI.step {x y:List Nat} {k i:Nat} {c:Int} {d:List Int} (h:TakeI x y k i c d) (hx:Small x) (hy:Small y) (hi:i<x.length) (t:Int) (ht:t=at0 d i-(y.getD i 0:Int)*(k:Int)+c) :
  TakeI x y k (i+1) (t / 1000000000) (d.set i (t % 1000000000)):=by
 have hr:=h.range hx hy;rw[← ht] at hr;have hid:i<d.length:=by rw[h.len];exact hi
 refine⟨by rw[List.length_set,h.len],fun m hm=>?_,fun m hm=>?_,?_,by omega,by omega⟩
 ·by_cases hjm:i=m
  ·subst hjm;rw[at0_set_same hid];omega
  ·rw[at0_set_ne hjm];exact h.low m (by omega)
 ·rw[at0_set_ne (by omega)];exact h.high m (by omega)
 ·rw[valI_take_next (by rw[List.length_set];exact hid),at0_set_same hid,val_take_any x,val_take_any y,bpI_succ];have e:(d.set i (t % 1000000000)).take i=d.take i:=by rw[List.take_set_of_le (Nat.le_refl _)]
  rw[e];have h1:=h.sum;have h2:at0 d i=(x.getD i 0:Int):=by rw[h.high i (Nat.le_refl _),at0_ni]
  have h3:=Int.mul_ediv_add_emod t 1000000000;rw[h2] at ht;rw[Int.natCast_add,Int.natCast_add,Int.natCast_mul,Int.natCast_mul];generalize t / 1000000000=q at *
  generalize t % 1000000000=r at *
  generalize (bp i:Int)=p at *
  generalize (x.getD i 0:Int)=a at *
  generalize (y.getD i 0:Int)=b at *
  have e1:p*r+1000000000*p*q=p*t:=by rw[← h3,Int.mul_add,Int.mul_comm 1000000000 p,Int.mul_assoc];omega
  have e2:p*t=p*a-p*(b*(k:Int))+p*c:=by rw[ht,Int.mul_add,Int.mul_sub]
  have e3:(k:Int)*(p*b)=p*(b*(k:Int)):=by rw[Int.mul_left_comm,Int.mul_comm (k:Int) b]
  rw[Int.mul_add,e3]
  omega
theorem TakeI.fin {x y:List Nat} {k:Nat} {c:Int} {d:List Int} (h:TakeI x y k x.length c d) (hl:y.length≤x.length) (hx:Small x) (hk:k*val y≤val x) :
  ∃ r:List Nat,d=ni r∧r.length=x.length∧Small r∧val r=val x-k*val y:=by
 obtain⟨r,h1,h2,h3,h4⟩:=digits_of (l:=d) (by rw[h.len];exact h.low);have h5:=h.sum;have h6:valI d=valI (d.take x.length):=by rw[List.take_of_length_le (by rw[h.len];exact Nat.le_refl _)]
 rw[← h6,← h4,List.take_length,List.take_of_length_le hl] at h5;have h7:=val_lt h3;rw[h2,h.len] at h7;have h8:=val_lt hx;have h9:(k:Int)*(val y:Int)=((k*val y:Nat):Int):=by simp
 rw[h9] at h5;refine⟨r,h1,by rw[h2,h.len],h3,?_⟩;have h10:=bp_pos x.length;have hc:c=0:=by
  rcases Int.lt_or_le c 0 with hc | hc
  ·have:(bp x.length:Int)*c≤(bp x.length:Int)*(-1):=Int.mul_le_mul_of_nonneg_left (by omega) (by omega)
   omega
  ·have:=h.c0;omega
 subst hc;simp at h5
 omega
theorem guess_le {x y:List Nat} (hy:Small y) {top:Nat} (hyl:y.length=top+1) :
  (x.getD (top+1) 0*1000000000+x.getD top 0) / (y.getD top 0+1)*val y≤val x:=by
 have h1:val (x.take (top+2))≤val x:=r_take_le x _;rw[show top+2=(top+1)+1 from rfl,val_take_any,val_take_any,bp_succ] at h1;have h2:val y=val (y.take top)+bp top*y.getD top 0:=by rw[← val_take_any,← hyl,List.take_length]
 have h3:=val_lt (hy.take top);rw[List.length_take,Nat.min_eq_left (by omega)] at h3;generalize x.getD (top+1) 0=a at *
 generalize x.getD top 0=b at *
 generalize y.getD top 0=c at *
 have h4:=Nat.div_mul_le_self (a*1000000000+b) (c+1);generalize (a*1000000000+b) / (c+1)=k at *
 have h5:val y≤bp top*(c+1):=by rw[h2,Nat.mul_add];omega
 have h6:k*val y≤bp top*(a*1000000000+b):=by
  refine Nat.le_trans (Nat.mul_le_mul_left k h5) ?_;rw[Nat.mul_left_comm];exact Nat.mul_le_mul_left _ h4
 have h7:bp top*(a*1000000000+b)=1000000000*bp top*a+bp top*b:=by
  rw[Nat.mul_add,Nat.mul_comm a,← Nat.mul_assoc,Nat.mul_comm (bp top) 1000000000]
 omega
theorem dig_next {d R:Nat} (hd:d<1000000000):Small (d :: dig R)∧val (d :: dig R)=d+1000000000*R:=⟨Small.cons hd (dig_small R),by rw[val_cons,val_dig]⟩
theorem guess_one {x y:List Nat} (hy:Small y) {top:Nat} (hyl:y.length=top+1) (hr:val x<1000000000*val y) {k:Nat} (hk:k=(x.getD (top+1) 0*1000000000+x.getD top 0) / (y.getD top 0+1)) :
  k*val y≤val x∧k<1000000000:=by
 have h1:=guess_le (x:=x) hy hyl;rw[← hk] at h1;refine⟨h1,Nat.lt_of_not_le fun h=>?_⟩;have:=Nat.mul_le_mul_right (val y) h
 omega
end Go.Proofs.YtdigbofiebfkeaaGreatDoor
namespace Go.Proofs.YtdigbofiebfkeaaGreatDoor.Dig
open Go.Lib
end Go.Proofs.YtdigbofiebfkeaaGreatDoor.Dig
