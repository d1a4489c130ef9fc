/- Texts put together. -/
import Derived.Test.YtencnahjgbdeoaaGreatDoorOps
import Derived.Test.YtencnahjgbdeoaaGreatDoorLow
import Derived.Test.YtencnahjgbdeoaaGreatDoorDec
import Derived.Deep.RegionHeld3
namespace Go.Proofs.YtencnahjgbdeoaaGreatDoor
open Go Go.RowKit Dig
variable {v:Value} {w:World}
def RW (w:World) (B:Nat) (v:Value) (l:List Nat):Prop:=
 ∃ A c,v=.slice A l.length c∧l.length≤c∧c≤9223372036854775807∧(∀ d∈l,d<4294967296)∧(0<l.length→∃ g off,A=some ⟨g,off,none⟩∧g<B∧∀ j (h:j<l.length),w.cell? ⟨g,off+j,none⟩=some (.int .u32 (l[j]:Nat)))
theorem RW.step {w':World} {l:List Nat} (h:RW w w.heap.size v l) (hb:Below w.heap.size w w'):RW w' w'.heap.size v l:=by
 obtain⟨A,c,hv,hc,hm,hs,h0⟩:=h;refine⟨A,c,hv,hc,hm,hs,fun hn=>?_⟩;obtain⟨g,off,hA,hg,hx⟩:=h0 hn;exact⟨g,off,hA,aEt hg hb.size,fun j hj=>(hb.cell (p:=⟨g,off+j,none⟩) hg).trans (hx j hj)⟩
structure Pairs (w:World) (g:Nat) (na nb:Bool) (la lb:List Int) (X Y V U:Int) (s0 s1 s2 s3 s4 s5 s6 s7:Value):Prop where
 block:CB w g 152 #[.bool na,s0,.bool nb,s1,.bool (decide (X<0)),s2,.bool (decide (Y<0)),s3,.bool (decide (X<0)),s4,.bool (decide (V<0)),s5,.bool (decide (U<0)),s6,.bool nb,s7]
 r0:RI w w.heap.size (s0) (la.take 60)
 r1:RI w w.heap.size (s1) (lb.take 60)
 r2:RI w w.heap.size (s2) (ni (dig X.natAbs))
 r3:RI w w.heap.size (s3) (ni (dig Y.natAbs))
 r4:RI w w.heap.size (s4) (ni (dig X.natAbs))
 r5:RI w w.heap.size (s5) (ni (dig V.natAbs))
 r6:RI w w.heap.size (s6) (ni (dig U.natAbs))
 r7:RI w w.heap.size (s7) (lb.take 60)
theorem Pairs.step {w':World} {g:Nat} {na nb:Bool} {la lb:List Int} {X Y V U:Int} {s0 s1 s2 s3 s4 s5 s6 s7:Value} (h:Pairs w g na nb la lb X Y V U s0 s1 s2 s3 s4 s5 s6 s7) (hb:Below w.heap.size w w'):Pairs w' g na nb la lb X Y V U s0 s1 s2 s3 s4 s5 s6 s7:=
 ⟨h.block.step hb,h.r0.step hb,h.r1.step hb,h.r2.step hb,h.r3.step hb,h.r4.step hb,h.r5.step hb,h.r6.step hb,h.r7.step hb⟩
theorem Pairs.any {g:Nat} {na nb:Bool} {la lb:List Int} {X Y V U:Int} {s0 s1 s2 s3 s4 s5 s6 s7:Value} (h:Pairs w g na nb la lb X Y V U s0 s1 s2 s3 s4 s5 s6 s7) (k:Nat) (hk:k<4) :
  ∃ n1 l1 A1 c1 n2 l2 A2 c2,w.cell? ⟨g,k*4,none⟩=some (.bool n1)∧w.cell? ⟨g,k*4+1,none⟩=some (.slice A1 (List.length l1) c1)∧w.cell? ⟨g,k*4+2,none⟩=some (.bool n2)∧w.cell? ⟨g,k*4+3,none⟩=some (.slice A2 (List.length l2) c2) ∧
   LR w w.heap.size (.agg #[.bool n1,.slice A1 l1.length c1]) n1 l1∧LR w w.heap.size (.agg #[.bool n2,.slice A2 l2.length c2]) n2 l2:=by
 have key:∀ {s t:Value} {n m:Bool} {l l':List Int} {i:Nat},RI w w.heap.size s l→RI w w.heap.size t l'→w.cell? ⟨g,i,none⟩=some (.bool n)→w.cell? ⟨g,i+1,none⟩=some s→w.cell? ⟨g,i+2,none⟩=some (.bool m)→w.cell? ⟨g,i+3,none⟩=some t →
   ∃ n1 l1 A1 c1 n2 l2 A2 c2,w.cell? ⟨g,i,none⟩=some (.bool n1)∧w.cell? ⟨g,i+1,none⟩=some (.slice A1 (List.length l1) c1)∧w.cell? ⟨g,i+2,none⟩=some (.bool n2)∧w.cell? ⟨g,i+3,none⟩=some (.slice A2 (List.length l2) c2) ∧
   LR w w.heap.size (.agg #[.bool n1,.slice A1 l1.length c1]) n1 l1∧LR w w.heap.size (.agg #[.bool n2,.slice A2 l2.length c2]) n2 l2:=by
  intro s t n m l l' i hs ht e0 e1 e2 e3;obtain⟨A,c,rfl,-⟩:=hs.at;obtain⟨A',c',rfl,-⟩:=ht.at;exact⟨n,l,A,c,m,l',A',c',e0,e1,e2,e3,⟨_,rfl,hs⟩,⟨_,rfl,ht⟩⟩
 have hk':k=0∨k=1∨k=2∨k=3:=by omega
 rcases hk' with rfl | rfl | rfl | rfl
 ·exact key h.r0 h.r1 (h.block.cell 0 rfl) (h.block.cell 1 rfl) (h.block.cell 2 rfl) (h.block.cell 3 rfl)
 ·exact key h.r2 h.r3 (h.block.cell 4 rfl) (h.block.cell 5 rfl) (h.block.cell 6 rfl) (h.block.cell 7 rfl)
 ·exact key h.r4 h.r5 (h.block.cell 8 rfl) (h.block.cell 9 rfl) (h.block.cell 10 rfl) (h.block.cell 11 rfl)
 ·exact key h.r6 h.r7 (h.block.cell 12 rfl) (h.block.cell 13 rfl) (h.block.cell 14 rfl) (h.block.cell 15 rfl)
theorem dO {n:Bool} {l:List Int} (h:LR w w.heap.size v n l) (hv:Valid n l) :
  CV 97 #[v] w fun e _=>e=.returned (.int .i64 0):=by
 refine(AE w v _ _ h).mono fun e w' ⟨hw,c,he,hc⟩=>⟨hw,?_⟩
 rcases hc with ⟨_,hc⟩ | ⟨hn,_⟩
 ·rw[he,hc]
 ·exact absurd hv hn
theorem AC {n:Bool} {l:List Int} (h:LR w w.heap.size v n l) (hv:¬ Valid n l) :
  CV 97 #[v] w fun e _=>e=.returned (.int .i64 30):=by
 refine(AE w v _ _ h).mono fun e w' ⟨hw,c,he,hc⟩=>⟨hw,?_⟩
 rcases hc with ⟨hn,_⟩ | ⟨_,hc⟩
 ·exact absurd hn hv
 ·rw[he,hc]
end Go.Proofs.YtencnahjgbdeoaaGreatDoor
