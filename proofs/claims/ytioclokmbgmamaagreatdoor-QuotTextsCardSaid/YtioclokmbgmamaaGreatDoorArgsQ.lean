/- The arguments of layer 04's laws, opened: fractions, drafts of them, Two. -/
import Derived.Test.YtioclokmbgmamaaGreatDoorLay
import Derived.Test.YtioclokmbgmamaaGreatDoorQN
namespace Go.Proofs.YtioclokmbgmamaaGreatDoor
open Go Go.RowKit Go.WideShapes Go.ChangeShapes
theorem maxL_of {W:World} (h:W.ShapedOpen Tryz.prog):MaxL W:=
  Go.Proofs.cell_of_shapedOpen_int (zero:=#[.int .i64 0]) (t:=3) h (of_decide_eq_true (by kernel_rfl)) (by kernel_rfl) rfl (by kernel_rfl) (by kernel_rfl) Tryz.underlying3
section
variable {H:Type} {enc:TypeId × Value→H} {W:World} {fuel:Nat} {x:DataW H × List MemPlace}
set_option maxRecDepth 100000 in
theorem quot_of {c0 c1 c2 c3:Value} (h:DataW.trod enc Tryz.prog W 0 (fun _=>true) true fuel 26 [c0,c1,c2,c3]=some x):∃ n m a b,c0=.bool n∧c2=.bool m∧QR W W.heap.size (.agg #[c0,c1,c2,c3]) n a m b:=by
  obtain⟨y0,y1,k,_,_,h0,h1⟩:=trod_struct2 Tryz.underlying26 h;have e0:([c0,c1,c2,c3].drop 0).take (Tryz.prog.cellsOf 24)=[c0,c1]:=by rw[show Tryz.prog.cellsOf 24=2 by kernel_rfl];rfl
  have e1:([c0,c1,c2,c3].drop 2).take (Tryz.prog.cellsOf 24)=[c2,c3]:=by rw[show Tryz.prog.cellsOf 24=2 by kernel_rfl];rfl
  replace h0:=(show DataW.trod enc Tryz.prog W 0 (fun _=>true) true k 24 [c0,c1]=some _ from by rw[← e0];exact h0);replace h1:=(show DataW.trod enc Tryz.prog W 0 (fun _=>true) true k 24 [c2,c3]=some _ from by rw[← e1];exact h1);obtain⟨n,a,rfl,ha⟩:=long_of h0;obtain⟨m,b,rfl,hb⟩:=long_of h1;obtain⟨A,c,rfl⟩:=RI.slice ha;obtain⟨A',c',rfl⟩:=RI.slice hb;exact⟨n,m,a,b,rfl,rfl,QR.mk ha hb⟩
set_option maxRecDepth 100000 in
theorem draftq_of {c0 c1 c2 c3 c4 c5:Value} (h:DataW.trod enc Tryz.prog W 0 (fun _=>true) true fuel 31 [c0,c1,c2,c3,c4,c5]=some x) :
    ∃ n m l k s t,c0=.bool n∧c1=.int .u8 l∧(0≤l∧l≤255)∧RW W W.heap.size c2 s∧c3=.bool m∧c4=.int .u8 k∧(0≤k∧k≤255)∧RW W W.heap.size c5 t:=by
  obtain⟨y0,y1,j,_,_,h0,h1⟩:=trod_struct2 Tryz.underlying31 h;have e0:([c0,c1,c2,c3,c4,c5].drop 0).take (Tryz.prog.cellsOf 29)=[c0,c1,c2]:=by rw[show Tryz.prog.cellsOf 29=3 by kernel_rfl];rfl
  have e1:([c0,c1,c2,c3,c4,c5].drop 3).take (Tryz.prog.cellsOf 29)=[c3,c4,c5]:=by rw[show Tryz.prog.cellsOf 29=3 by kernel_rfl];rfl
  replace h0:=(show DataW.trod enc Tryz.prog W 0 (fun _=>true) true j 29 [c0,c1,c2]=some _ from by rw[← e0];exact h0);replace h1:=(show DataW.trod enc Tryz.prog W 0 (fun _=>true) true j 29 [c3,c4,c5]=some _ from by rw[← e1];exact h1);obtain⟨n,l,s,rfl,rfl,a1,a2,hs⟩:=draft_of h0;obtain⟨m,k,t,rfl,rfl,b1,b2,ht⟩:=draft_of h1;exact⟨n,m,l,k,s,t,rfl,rfl,⟨a1,a2⟩,hs,rfl,rfl,⟨b1,b2⟩,ht⟩
end
section
variable {H:Type} {enc:TypeId × Value→H} {W:World} {r:Reach} {b0:Nat} {v:Value} {d:DataW H} {p:List MemPlace}
theorem array6 {α:Type} {cs:Array α} (h:cs.size=6):∃ c0 c1 c2 c3 c4 c5,cs=#[c0,c1,c2,c3,c4,c5]:=by
  obtain⟨l⟩:=cs
  match l,h with
  | [c0,c1,c2,c3,c4,c5],_=>exact⟨c0,c1,c2,c3,c4,c5,rfl⟩
theorem array20 {α:Type} {cs:Array α} (h:cs.size=20):∃ c0 c1 c2 c3 c4 c5 c6 c7 c8 c9 c10 c11 c12 c13 c14 c15 c16 c17 c18 c19,cs=#[c0,c1,c2,c3,c4,c5,c6,c7,c8,c9,c10,c11,c12,c13,c14,c15,c16,c17,c18,c19]:=by
  obtain⟨l⟩:=cs
  match l,h with
  | [c0,c1,c2,c3,c4,c5,c6,c7,c8,c9,c10,c11,c12,c13,c14,c15,c16,c17,c18,c19],_=>exact⟨c0,c1,c2,c3,c4,c5,c6,c7,c8,c9,c10,c11,c12,c13,c14,c15,c16,c17,c18,c19,rfl⟩
set_option maxRecDepth 100000 in
theorem open_draftq (hv:Value.okWide Tryz.prog W r b0 31 v) (h:DataW.Trod enc Tryz.prog W 0 (fun _=>true) true 31 v d p) :
    ∃ n m l k s t u u',v=.agg #[.bool n,.int .u8 l,s,.bool m,.int .u8 k,t]∧(0≤l∧l≤255)∧RW W W.heap.size s u∧(0≤k∧k≤255)∧RW W W.heap.size t u':=by
  obtain⟨cs,rfl,hsz⟩:=okWide_struct Tryz.underlying31 hv;obtain⟨c0,c1,c2,c3,c4,c5,rfl⟩:=array6 (hsz.trans (show Tryz.prog.cellsOf 31=6 by kernel_rfl));obtain⟨fuel,hf⟩:=h;obtain⟨n,m,l,k,s,t,rfl,rfl,h1,h2,rfl,rfl,h3,h4⟩:=draftq_of (fuel:=fuel) hf;exact⟨n,m,l,k,c2,c5,s,t,rfl,h1,h2,h3,h4⟩
set_option maxRecDepth 100000 in
theorem open_twoq (hv:Value.okWide Tryz.prog W r b0 33 v) (h:DataW.Trod enc Tryz.prog W 0 (fun _=>true) true 33 v d p) :
    ∃ n m n2 m2 s0 s1 s2 s3 a b a2 b2 x1 x2 y1 y2 l1 l2 k1 k2 t1 t2 u1 u2 e1 e2 f1 f2,v=.agg #[.bool n,s0,.bool m,s1,.bool n2,s2,.bool m2,s3,.bool x1,.int .u8 l1,t1,.bool x2,.int .u8 l2,t2,.bool y1,.int .u8 k1,u1,.bool y2,.int .u8 k2,u2] ∧
      QR W W.heap.size (.agg #[.bool n,s0,.bool m,s1]) n a m b∧QR W W.heap.size (.agg #[.bool n2,s2,.bool m2,s3]) n2 a2 m2 b2∧(0≤l1∧l1≤255)∧(0≤l2∧l2≤255)∧(0≤k1∧k1≤255)∧(0≤k2∧k2≤255) ∧
      RW W W.heap.size t1 e1∧RW W W.heap.size t2 e2∧RW W W.heap.size u1 f1∧RW W W.heap.size u2 f2:=by
  obtain⟨cs,rfl,hsz⟩:=okWide_struct Tryz.underlying33 hv;obtain⟨c0,c1,c2,c3,c4,c5,c6,c7,c8,c9,c10,c11,c12,c13,c14,c15,c16,c17,c18,c19,rfl⟩:=array20 (hsz.trans (show Tryz.prog.cellsOf 33=20 by kernel_rfl));obtain⟨fuel,hf⟩:=h;obtain⟨y0,y1,y2,y3,k,_,_,h0,h1,h2,h3⟩:=Joins.trod_struct4 Tryz.underlying33 hf;have e0:([c0,c1,c2,c3,c4,c5,c6,c7,c8,c9,c10,c11,c12,c13,c14,c15,c16,c17,c18,c19].drop 0).take (Tryz.prog.cellsOf 26)=[c0,c1,c2,c3]:=by rw[show Tryz.prog.cellsOf 26=4 by kernel_rfl];rfl
  have e1:([c0,c1,c2,c3,c4,c5,c6,c7,c8,c9,c10,c11,c12,c13,c14,c15,c16,c17,c18,c19].drop 4).take (Tryz.prog.cellsOf 26)=[c4,c5,c6,c7]:=by rw[show Tryz.prog.cellsOf 26=4 by kernel_rfl];rfl
  have e2:([c0,c1,c2,c3,c4,c5,c6,c7,c8,c9,c10,c11,c12,c13,c14,c15,c16,c17,c18,c19].drop 8).take (Tryz.prog.cellsOf 31)=[c8,c9,c10,c11,c12,c13]:=by rw[show Tryz.prog.cellsOf 31=6 by kernel_rfl];rfl
  have e3:([c0,c1,c2,c3,c4,c5,c6,c7,c8,c9,c10,c11,c12,c13,c14,c15,c16,c17,c18,c19].drop 14).take (Tryz.prog.cellsOf 31)=[c14,c15,c16,c17,c18,c19]:=by rw[show Tryz.prog.cellsOf 31=6 by kernel_rfl];rfl
  replace h0:=(show DataW.trod enc Tryz.prog W 0 (fun _=>true) true k 26 [c0,c1,c2,c3]=some _ from by rw[← e0];exact h0);replace h1:=(show DataW.trod enc Tryz.prog W 0 (fun _=>true) true k 26 [c4,c5,c6,c7]=some _ from by rw[← e1];exact h1);replace h2:=(show DataW.trod enc Tryz.prog W 0 (fun _=>true) true k 31 [c8,c9,c10,c11,c12,c13]=some _ from by rw[← e2];exact h2);replace h3:=(show DataW.trod enc Tryz.prog W 0 (fun _=>true) true k 31 [c14,c15,c16,c17,c18,c19]=some _ from by rw[← e3];exact h3);obtain⟨n,m,a,b,rfl,rfl,ha⟩:=quot_of h0;obtain⟨n2,m2,a2,b2,rfl,rfl,hb⟩:=quot_of h1;obtain⟨x1,x2,l1,l2,s1,s2,rfl,rfl,g1,g2,rfl,rfl,g3,g4⟩:=draftq_of h2;obtain⟨z1,z2,k1,k2,v1,v2,rfl,rfl,j1,j2,rfl,rfl,j3,j4⟩:=draftq_of h3;exact⟨n,m,n2,m2,c1,c3,c5,c7,a,b,a2,b2,x1,x2,z1,z2,l1,l2,k1,k2,c10,c13,c16,c19,s1,s2,v1,v2,rfl,ha,hb,g1,g3,j1,j3,g2,g4,j2,j4⟩
end
end Go.Proofs.YtioclokmbgmamaaGreatDoor
