/- An order that Go leaves open, where a condition on the world is wanted only of the operations below a number: loads ahead of stores into the same variables. -/
import Derived.OrdersHeld
import Derived.StillTail
import Derived.WalkKit
namespace Go.Proofs.YtngpibfakemmhaaGreatDoor
open Go Go.RowKit
section
variable {P:Program} {ops:Array Oper} {Q:Exit→Act→World→Prop} {md:Region.Mode} {S:World→Prop} {t:Nat}
def Early (P:Program) (md:Region.Mode) (ops:Array Oper) (Q:Exit→Act→World→Prop) (S:World→Prop) (t:Nat):Nat→Array Bool→Act→World→Prop
  | 0,listed,a,w=>Region.ready md ops listed=[]∧Q .normal a w
  | f+1,listed,a,w=>(Region.ready md ops listed=[]→Q .normal a w) ∧
    ∀ i∈Region.ready md ops listed,wpOp P ops Q i (fun a' w'=>(i<t→S w')∧Early P md ops Q S t f (listed.setIfInBounds i true) a' w') a w
theorem Early.any:∀ (f:Nat) (listed:Array Bool) (a:Act) (w:World),Early P md ops Q S t f listed a w→wpAny P md ops Q f listed a w
  | 0,_,_,_,h=>h
  | f+1,_,_,_,h=>⟨h.1,fun i hi=>wpOp_mono (fun a' w' k=>Early.any f _ a' w' k.2) (h.2 i hi)⟩
def reachB (md:Region.Mode) (ops:Array Oper):Nat→Nat→Nat→Bool
  | 0,_,_=>false
  | f+1,j,i=>Region.waitsFor md ops j i||(List.range ops.size).any fun r=>Region.waitsFor md ops j r&&reachB md ops f r i
def lateB (md:Region.Mode) (ops:Array Oper) (t i:Nat):Bool:=(List.range ops.size).all fun j=>decide (j<t)||reachB md ops 4 j i
def Closed (md:Region.Mode) (ops:Array Oper) (listed:Array Bool):Prop:=
  ∀ (j:Nat) (oj:Oper),ops[j]?=some oj→listed.getD j false=true→∀ e∈oj.after,Region.binds md e=true→listed.getD e.on false=true
def closedB (md:Region.Mode) (ops:Array Oper) (listed:Array Bool):Bool:=
  (List.range ops.size).all fun j=>match ops[j]? with
    | some oj=>!listed.getD j false||oj.after.all fun e=>!Region.binds md e||listed.getD e.on false
    | none=>true
theorem closed_of {listed:Array Bool} (h:closedB md ops listed=true):Closed md ops listed:=by
  intro j oj hj hl e he hb;obtain⟨hs,-⟩:=Array.getElem?_eq_some_iff.1 hj;have h1:=List.all_eq_true.1 h j (List.mem_range.2 hs);simp only[hj,hl,Bool.not_true,Bool.false_or] at h1
  have h2:=(Array.all_eq_true'.1 h1) e he
  simpa[hb] using h2
theorem Closed.reach {listed:Array Bool} (hc:Closed md ops listed) {i:Nat}:∀ (f j:Nat),reachB md ops f j i=true→(∀ oj,ops[j]?=some oj→∀ e∈oj.after,Region.binds md e=true→listed.getD e.on false=true)→listed.getD i false=true
  | 0,_,h,_=>by cases h
  | f+1,j,h,hj=>by
    unfold reachB at h;rcases Bool.or_eq_true_iff.1 h with h | h
    · obtain⟨oj,ho,e,he,hb,hon⟩:=Region.waitsFor_spec h
      rw[← hon];exact hj oj ho e he hb
    · obtain⟨r,-,hr⟩:=List.any_eq_true.1 h
      obtain⟨h1,h2⟩:=Bool.and_eq_true_iff.1 hr;obtain⟨oj,ho,e,he,hb,hon⟩:=Region.waitsFor_spec h1;have hl:=hj oj ho e he hb;rw[hon] at hl;exact Closed.reach hc f r h2 fun orr hor=>hc r orr hor hl
theorem getD_two {listed:Array Bool} {i:Nat} (h:listed.getD i true=false):listed.getD i false=false:=by
  by_cases hs:i<listed.size
  · simpa[hs] using h
  · simp[hs]
theorem getD_up {listed:Array Bool} {i j:Nat} (h:listed.getD i false=true):(listed.setIfInBounds j true).getD i false=true:=by
  by_cases hij:j=i
  · subst hij
    by_cases hs:j<listed.size
    · simp[hs]
    · simp[hs] at h
  · rwa [getD_set_ne false hij]
theorem Closed.set {listed:Array Bool} (hc:Closed md ops listed) {j:Nat} (hj:j∈Region.ready md ops listed):Closed md ops (listed.setIfInBounds j true):=by
  intro k ok hk hl e he hb;by_cases hjk:j=k
  · subst hjk
    obtain⟨-,oj,hoj,hall⟩:=mem_ready.1 hj;rw[hoj] at hk;injection hk with hk
    subst hk;exact getD_up (hall e he hb)
  · rw[getD_set_ne false hjk] at hl
    exact getD_up (hc k ok hk hl e he hb)
theorem Early.first {i:Nat} {oi:Oper} {v:Value} (hi:ops[i]?=some oi) (hsel:∀ (j:Nat) (o:Oper) cs b,ops[j]?=some o→o.op≠.select cs b)
    (hl:lateB md ops t i=true) (hQ:∀ c a w,Q (.panic c) (a.put oi.dst v) w→Q (.panic c) a w) :
    ∀ (f:Nat) (listed:Array Bool) (a:Act) (w:World),
      (∀ j oj,ops[j]?=some oj→j≠i→listed.getD j true=false→(∀ e∈oj.after,Region.binds md e=true→e.on≠i)→oi.apart ops oj=true) →
      Closed md ops listed→i∈Region.ready md ops listed→YieldsIf P ops S oi v a→S w →
      Early P md ops Q S t f (listed.setIfInBounds i true) (a.put oi.dst v) w→Early P md ops Q S t (f+1) listed a w:=by
  intro f
  induction f with
  | zero=>
    intro listed a w _ _ hr hy hS H;refine⟨fun h=>absurd hr (by rw[h];simp),fun j hj=>?_⟩;by_cases hji:j=i
    · subst hji;exact hy.wpOp hi hS ⟨fun _=>hS,H⟩
    · exact absurd (ready_mono hj hji) (by rw[H.1];simp)
  | succ f ih=>
    intro listed a w hfree hcl hr hy hS H;refine⟨fun h=>absurd hr (by rw[h];simp),fun j hj=>?_⟩;by_cases hji:j=i
    · subst hji;exact hy.wpOp hi hS ⟨fun _=>hS,H⟩
    · obtain⟨hjun,oj,hoj,hall⟩:=mem_ready.1 hj
      have hnot:∀ e∈oj.after,Region.binds md e=true→e.on≠i:=by
        intro e he hb heq;have h1:=hall e he hb;have h0:=(mem_ready.1 hr).1;rw[heq] at h1;by_cases hs:i<listed.size
        · simp[hs] at h0 h1;rw[h0] at h1;cases h1
        · simp[Array.getElem?_eq_none (Nat.le_of_not_lt hs)] at h1
      obtain⟨hjs,-⟩:=Array.getElem?_eq_some_iff.1 hoj;have hjt:j<t:=by
        rcases Bool.or_eq_true_iff.1 (List.all_eq_true.1 hl j (List.mem_range.2 hjs)) with h2 | h2
        · simpa using h2
        · have h3:=hcl.reach 4 j h2 fun oj' ho' e he hb=>by
            rw[hoj] at ho';injection ho' with ho'
            subst ho';exact hall e he hb
          rw[getD_two (mem_ready.1 hr).1] at h3;cases h3
      have h2:=wpOp_putIf hoj (hfree j oj hoj hji hjun hnot) (fun cs b=>hsel i oi cs b hi) (fun cs b=>hsel j oj cs b hoj) hQ hy (H.2 j (ready_mono hj hji));refine wpOp_mono (fun a' w' k=>?_) h2;have hSw:=k.2.1 hjt;refine⟨fun _=>hSw,ih (listed.setIfInBounds j true) a' w' ?_ (hcl.set hj) (ready_mono hr (Ne.symm hji)) k.1 hSw ?_⟩
      · intro m om hom hmi hun hno
        refine hfree m om hom hmi ?_ hno;by_cases hjm:j=m
        · subst hjm;exact hjun
        · rwa [getD_set_ne true hjm] at hun
      · rw[Array.setIfInBounds_comm _ _ hji]
        exact k.2.2
theorem Early.take {i:Nat} {oi:Oper} (v:Value) {f:Nat} {listed:Array Bool} {a:Act} {w:World} (hi:ops[i]?=some oi)
    (hs:Region.noSelect ops=true) (hl:lateB md ops t i=true) (hcl:closedB md ops listed=true) (hf:Region.free md ops listed i=true) (hr:(Region.ready md ops listed).contains i=true)
    (hQ:∀ c a w,Q (.panic c) (a.put oi.dst v) w→Q (.panic c) a w) (hy:YieldsIf P ops S oi v a) (hS:S w)
    (h:Early P md ops Q S t f (listed.setIfInBounds i true) (a.put oi.dst v) w):Early P md ops Q S t (f+1) listed a w:=
  Early.first hi (Region.noSelect_spec hs) hl hQ f listed a w (Region.free_spec hi hf) (closed_of hcl) (by simpa using hr) hy hS h
theorem Early.next {i:Nat} {o:Oper} {f:Nat} {listed:Array Bool} {a:Act} {w:World} (hr:Region.ready md ops listed=[i]) (ho:ops[i]?=some o)
    (h:∀ K:Act→World→Prop,(∀ a w,(i<t→S w)→Early P md ops Q S t f (listed.setIfInBounds i true) a w→K a w)→if Region.wanted o (yielded ops a.tmps)=true then Oper.wp P o a w K Q else K (a.put o.dst undef) w) :
    Early P md ops Q S t (f+1) listed a w:=by
  refine⟨fun h0=>absurd (hr▸h0) (by simp),fun j hj=>?_⟩;rw[hr] at hj;obtain rfl:j=i:=by simpa using hj
  exact wpOp_step ho (fun K hK=>h K (fun a w h1 h2=>hK a w ⟨h1,h2⟩))
theorem Early.done {listed:Array Bool} {a:Act} {w:World} (hr:Region.ready md ops listed=[]) (h:Q .normal a w):∀ f,Early P md ops Q S t f listed a w
  | 0=>⟨hr,h⟩
  | _+1=>⟨fun _=>h,by rw[hr];simp⟩
theorem Early.start {id:Nat} {a:Act} {w:World} (t:Nat) (S:World→Prop) (hm:P.follows .mixedOrders=true)
    (h:Early P .any ops Q S t ops.size (Array.replicate ops.size false) a w.drew):(Code.region id ops true).wp P Q a w:=wp_region_any hm (Early.any _ _ _ _ h)
end
end Go.Proofs.YtngpibfakemmhaaGreatDoor
