/- Texts put together: long.both, Mul, Gcd. long.Add, Sub, Neg. long.Sub, Neg. long.Sqrt. long.Div. long.signed, Cmp. long.Of. The reference's made: a Long of digits, without the highest zeros. Words that many walks use: Longs of numbers, how many digits they have; what calls, draws, stores leave of what is known. The reference's Minus. -/
import Derived.Test.YtngpibfakemmhaaGreatDoorLow
import Derived.Test.YtngpibfakemmhaaGreatDoorSize
import Derived.Maps.AppendAt
import Derived.Deep.RegionHeld3
import Derived.Deep.RegionLaw
import Derived.Deep.AppendLies
import Derived.Deep.DeepCutAuto
import Derived.Deep.CutBlock
import Derived.Deep.LoopGhost
import Derived.Deep.QuietTactic
import Derived.BigQuiet
import Derived.IntWalk
namespace Go.Proofs.YtngpibfakemmhaaGreatDoor
open Go Go.RowKit Dig
theorem LB.new' {w:World} {b:Nat} {x y:Value} (h:b=w.heap.size):LB (w.alloc (.cells #[x,y] 26)) b x y:=by subst h;exact LB.new w x y
theorem dig_len_mul (a b:Nat):(dig (a*b)).length≤(dig a).length+(dig b).length:=by
 rw[dig_len_le,bp_add];exact Nat.mul_lt_mul'' (dig_lt a) (dig_lt b)
theorem dig_len_gcd (a b:Nat) {n:Nat} (ha:(dig a).length≤n) (hb:(dig b).length≤n):(dig (Nat.gcd a b)).length≤n:=by
 rcases Nat.eq_zero_or_pos a with h | h
 ·subst h;rwa [Nat.gcd_zero_left]
 ·exact Nat.le_trans (dig_len_mono (Nat.gcd_le_left b h)) ha
end Go.Proofs.YtngpibfakemmhaaGreatDoor
namespace Go.Proofs.YtngpibfakemmhaaGreatDoor
open Go Go.RowKit Dig
theorem dig_len_add (a b:Nat) {n:Nat} (ha:(dig a).length≤n) (hb:(dig b).length≤n):(dig (a+b)).length≤n+1:=by
 rw[dig_len_le,bp_succ];have:=dig_len_le.1 ha;have:=dig_len_le.1 hb;generalize bp n=z at *
 omega
end Go.Proofs.YtngpibfakemmhaaGreatDoor
namespace Go.Proofs.YtngpibfakemmhaaGreatDoor
open Go Go.RowKit Dig
theorem A1_bad {f:Int→Int × Int} {na:Bool} {la:List Int} (h:¬ Valid na la):A1 f (numOf na la)=(0,30):=by rw[numOf_bad h];rfl
end Go.Proofs.YtngpibfakemmhaaGreatDoor
namespace Go.Proofs.YtngpibfakemmhaaGreatDoor
open Go Go.RowKit Dig
theorem root_unique {a s t:Nat} (h1:s*s≤a) (h2:a<(s+1)*(s+1)) (h3:t*t≤a) (h4:a<(t+1)*(t+1)):s=t:=by
 have h5:=root_lt h1 h4;have h6:=root_lt h3 h2
 omega
noncomputable def rootN (a:Nat):Nat:=(root_exists a).choose
theorem rootN_spec (a:Nat):rootN a*rootN a≤a∧a<(rootN a+1)*(rootN a+1):=(root_exists a).choose_spec
theorem rootN_eq {a s:Nat} (h1:s*s≤a) (h2:a<(s+1)*(s+1)):s=rootN a:=root_unique h1 h2 (rootN_spec a).1 (rootN_spec a).2
end Go.Proofs.YtngpibfakemmhaaGreatDoor
namespace Go.Proofs.YtngpibfakemmhaaGreatDoor
open Go Go.RowKit Dig
end Go.Proofs.YtngpibfakemmhaaGreatDoor
namespace Go.Proofs.YtngpibfakemmhaaGreatDoor
open Go Go.RowKit Dig
def RetI (r:Int × Int) (e:Ending):Prop:=e=.returned (.tuple #[.int .i64 r.1,.int .i64 r.2])
end Go.Proofs.YtngpibfakemmhaaGreatDoor
namespace Go.Proofs.YtngpibfakemmhaaGreatDoor
open Go Go.RowKit Dig
theorem LB.grown {w w':World} {b:Nat} {x y:Value} {row:Option Nat} (h:LB w b x y) (hg:w.grownBy w' row) (hr:row≠some b):LB w' b x y:=h.of_block (hg.block b h.lt (fun e=>hr e.symm))
theorem OwnV.setBelow {w:World} {base:Nat} {v:Value} {l:List Int} (h:OwnV w base v l) {p:Addr} (hp:p.block<base) (u:Value):OwnV (w.setCell p u) base v l:=by
 have hg:w.grownBy (w.setCell p u) (some p.block):=⟨rfl,rfl,rfl,by simp[World.setCell],fun i _ hne=>Below.heap_setCell _ _ _ _ (fun e=>hne (by rw[e]))⟩;refine World.ownsRow.kept h hg ?_;cases hv:v.ownBlock with
 | none=>exact .inl rfl
 | some g=>
  refine .inr fun e=>?_
  have h1:=(World.ownsRow.lt h g hv).1;have h2:=Option.some.inj e
  omega
def RetV (w':World) (z:Int) (e:Ending):Prop:=∃ v,e=.returned v∧LV w' w'.heap.size v z
theorem end_one {fn:Func} {p:Tmp} (hf:fn.results=#[.cell p 26]) {W w:World} {B b:Nat} {q0:Bool} {A:Option Addr} {n c:Nat} (hL:LB w b (.bool q0) (.slice A n c)) (hb:Below B W w) (hB:B≤b)
  {q:Bool} {s:Value} {z:Int} {tmps:Array Value} (hs:RI w w.heap.size s (ni (Dig.dig z.natAbs))) (hq:q=decide (z<0)) (hp:tmps.getD p undef=.pointer (some ⟨b,0,none⟩)) :
  bodyPost Tryz.prog fn (fun e w'=>Below B W w'∧RetV w' z e) .ret ⟨tmps,[]⟩ ((w.setCell ⟨b,0,none⟩ (.bool q)).setCell ⟨b,1,none⟩ s):=by
 obtain⟨h1,h2⟩:=hL.put (q:=q) hs;exact bodyPost_ret (LB.ret1 hf tmps h1 hp) rfl ⟨(hb.setCell (by simpa using hB) _).setCell (by simpa using hB) _,.agg #[.bool q,s],rfl,s,by rw[hq],h2⟩
set_option maxRecDepth 100000 in
set_option maxHeartbeats 1000000 in
theorem Of_any (w:World) (n:Int) (h0:-9223372036854775808≤n) (h1:n≤9223372036854775807) :
  Calls Tryz.prog 7 #[.int .i64 n] w fun e w'=>Below w.heap.size w w'∧RetV w' n e:=by
 obtain⟨i0,hi,hz0,hz1,hz2⟩:=info_parts info_int;have H3:=zz (show(dig n.natAbs).length≤3 by rw[dig_len_le];show n.natAbs<1000000000000000000000000000;omega);go_enter Tryz.func7,Tryz.ntmps7
 go_wp2;have L0:LB ((w.alloc (.cells #[.bool false,.slice none 0 0] 26)).alloc (.cells #[.bool (decide (n<0)),.slice none 0 0] 26)) w.heap.size (.bool false) (.slice none 0 0):=by(repeat (first | (refine LB.new' ?_;simp;done) | refine LB.alloc ?_ _))
 have L1:LB ((w.alloc (.cells #[.bool false,.slice none 0 0] 26)).alloc (.cells #[.bool (decide (n<0)),.slice none 0 0] 26)) (w.heap.size+1) (.bool (decide (n<0))) (.slice none 0 0):=by(repeat (first | (refine LB.new' ?_;simp;done) | refine LB.alloc ?_ _))
 go_loopw [0] (fun nv wr=>∃ (k:Int) (ds:List Nat) (v:Value),nv=.int .i64 k∧-9223372036854775808≤k∧k≤9223372036854775807∧Hid (dig n.natAbs=ds++dig k.natAbs)∧Hid (ds.length≤20)∧LB wr w.heap.size (.bool false) (.slice none 0 0)∧LB wr (w.heap.size+1) (.bool (decide (n<0))) v∧Hid (OwnV wr (w.heap.size+2) v (ni ds))∧Hid (w.heap.size+2≤wr.heap.size)∧Below w.heap.size w wr) (fun nv _=>(intOf nv).natAbs)
 case atStart=>exact⟨n,[],_,rfl,h0,h1,zz (by simp),zz (by simp),L0,L1,zz (OwnV.nil _ _),zz (by simp),by(repeat' (first | exact Below.refl _ _ | refine Below.drew ?_ | refine Below.alloc ?_ (by first | exact Nat.le_refl _ | (simp;done) | (simp;omega)) _))⟩
 case round=>
  clear L0 L1;obtain⟨k,ds,v,rfl,a0,b0,hd,hlen,L0,L1,ho,hsz,hbw⟩:=hrel;by_cases hk:k=0
  ·have hds:ni (dig n.natAbs)=ni ds:=by rw[hd.out,hk,show(0:Int).natAbs=0 from rfl,dig_zero,List.append_nil]
   have k0:=zz hds;have HB:=zz hbw;have l0:=zz ho.out.ri;have hri:=ho.out.ri;obtain⟨A,c,rfl,_⟩:=hri;subst hk;have qa0:=L1.cell0;have qa1:=L1.cell1;have qb0:=L0.cell0;have qb1:=L0.cell1;have qb2:=L0.frozen 0;have qb3:=L0.frozen 1;clear hds hbw a0 b0;go_wp2;(try simp only[Exit.inBlock,Exit.then])
   exact end_one rfl L0 HB.out (Nat.le_refl _) (by rw[k0.out];exact l0.out) rfl rfl
  ·have HB:=zz hbw;have hkb:(k != 0)=true:=by simpa using hk
   have hna:(k.tmod 1000000000).natAbs=k.natAbs % 1000000000:=Int.natAbs_tmod k 1000000000;have hnd:(k.tdiv 1000000000).natAbs=k.natAbs / 1000000000:=Int.natAbs_tdiv k 1000000000;have hm0:-1000000000<k.tmod 1000000000:=by have:=Nat.mod_lt k.natAbs (show 1000000000>0 by decide);omega
   have hm1:k.tmod 1000000000<1000000000:=by have:=Nat.mod_lt k.natAbs (show 1000000000>0 by decide);omega
   have hmm:max (k.tmod 1000000000) (-k.tmod 1000000000)=((k.natAbs % 1000000000:Nat):Int):=by omega
   have HM:=zz hmm;have HD:=zz hnd;clear hmm hna hnd;have qa0:=L1.cell0;have qa1:=L1.cell1;have qa2:=L1.frozen 1;have hown:=ho.out.alloc (.cells #[.int .i64 (max (k.tmod 1000000000) (-k.tmod 1000000000))] 3);clear hbw;have hl20:=hlen.out;go_wp2_with (at_builtin;refine wpList_append_own_at _ rfl _ _ 24 rfl (w.heap.size+2) 3 i0 (.int .i64 0) 1 8 Tryz.underlying24 hi hz0 hz1 hz2 rfl (by decide) v (ni ds).length ((ni ds).map (Value.int .i64)) rfl hown ⟨wr.heap.size,0,none⟩ 1 1 [.int .i64 (max (k.tmod 1000000000) (-k.tmod 1000000000))] rfl rfl (cell_one_new _ _ _) (by intro u hu;simp at hu;subst hu;rfl) (by rw[ni_length];unfold maxLen;omega) (by rw[ni_length];omega) (by have:=hsz.out;simp;omega) ?_)
   intro v' w' hown' hgrow hne hblk;have hv':OwnV w' (w.heap.size+2) v' (ni (ds++[k.natAbs % 1000000000])):=by
    have h:=hown';rw[HM.out] at h;rw[OwnV,ni_length,List.length_append];rw[ni_length] at h;have e:(ni (ds++[k.natAbs % 1000000000])).map (Value.int .i64)=(ni ds).map (Value.int .i64)++[.int .i64 ((k.natAbs % 1000000000:Nat):Int)]:=by simp[ni]
    rw[e];exact h
   have hrow:∀ b,b<w.heap.size+2→v.ownBlock≠some b:=fun b hb he=>by
    have:=(World.ownsRow.lt ho.out b he).1
    omega
   have M0:=(L0.alloc (.cells #[.int .i64 (max (k.tmod 1000000000) (-k.tmod 1000000000))] 3)).grown hgrow (hrow _ (by omega));have M1:=(L1.alloc (.cells #[.int .i64 (max (k.tmod 1000000000) (-k.tmod 1000000000))] 3)).grown hgrow (hrow _ (by omega));have c0:=zz ((HB.out.alloc (by have:=HB.out.size;exact this) (.cells #[.int .i64 (max (k.tmod 1000000000) (-k.tmod 1000000000))] 3)).grown hgrow (by have:=HB.out.size;simp;omega) (fun g he=>by have:=(World.ownsRow.lt ho.out g he).1;omega));have m0:=zz (show w.heap.size+2≤w'.heap.size by have h1:=hgrow.size;have h2:=hsz.out;simp at h1;omega);have HV:=zz (hv'.setBelow (p:=⟨w.heap.size+1,1,none⟩) (by simp) v');have N0:=M0.far (p:=⟨w.heap.size+1,1,none⟩) (by simp) v';have N1:=M1.set1 v';have d0:=zz (c0.out.setCell (p:=⟨w.heap.size+1,1,none⟩) (by simp) v');clear hown' hgrow hne hblk hown qa0 qa1 qa2;have qa2:=M1.frozen 1;have qa1:=M1.cell1;rcases hv'.form with ⟨_,he⟩ | ⟨g,cap,rfl,_⟩
   ·simp[ni] at he
   ·have e0:-9223372036854775808≤k.tdiv 1000000000:=by have:=HD.out;omega
    have f0:k.tdiv 1000000000≤9223372036854775807:=by have:=HD.out;omega
    clear hv' hrow;go_wp2;go_roundw
    case rel=>
     exact⟨k.tdiv 1000000000,ds++[k.natAbs % 1000000000],_,rfl,e0,f0,zz (by rw[hd.out,HD.out,dig_pos (by omega:k.natAbs≠0)];simp),zz (by have h:=H3.out;rw[hd.out,dig_pos (by omega:k.natAbs≠0)] at h;simp at h ⊢;omega),N0,N1,HV,zz (by have:=m0.out;simpa[World.setCell] using this),d0.out⟩
    case measure=>have:=HD.out;simp only[intOf];omega
end Go.Proofs.YtngpibfakemmhaaGreatDoor
namespace Go.Proofs.YtngpibfakemmhaaGreatDoor
open Go Go.RowKit Dig
end Go.Proofs.YtngpibfakemmhaaGreatDoor
namespace Go.Proofs.YtngpibfakemmhaaGreatDoor
open Go Go.RowKit Dig
def Fit (z:Int):Prop:=(dig z.natAbs).length≤600
theorem below_undrew {B:Nat} {a w:World} (h:Below B a.drew w):Below B a w:=⟨h.os,h.tape,h.output,h.size,h.block⟩
theorem LV.parts {w:World} {B:Nat} {v:Value} {z:Int} (h:LV w B v z):∃ A c,v=.agg #[.bool (decide (z<0)),.slice A (dig z.natAbs).length c]∧RI w B (.slice A (dig z.natAbs).length c) (ni (dig z.natAbs)):=by
 obtain⟨s,rfl,hs⟩:=h;obtain⟨A,c,hv,hr⟩:=hs;rw[ni_length] at hv;subst hv;exact⟨A,c,rfl,A,c,by rw[ni_length],hr⟩
section
variable {w:World} {v:Value} {z:Int}
end
section
variable {w w':World} {b:Nat} {t:TypeId} {cs:Array Value}
def CB (w:World) (b:Nat) (t:TypeId) (cs:Array Value):Prop:=w.heap[b]?=some (.cells cs t (0,0))
theorem CB.lt (h:CB w b t cs):b<w.heap.size:=by
 unfold CB at h;exact(Array.getElem?_eq_some_iff.1 h).1
theorem CB.step (h:CB w b t cs) (hb:Below w.heap.size w w'):CB w' b t cs:=(hb.block b h.lt).trans h
theorem CB.alloc (h:CB w b t cs) (o:Obj):CB (w.alloc o) b t cs:=(Below.heap_alloc w o b h.lt).trans h
theorem CB.far (h:CB w b t cs) {p:Addr} (hp:b≠p.block) (u:Value):CB (w.setCell p u) b t cs:=(Below.heap_setCell w p u b hp).trans h
theorem CB.new (w:World) (t:TypeId) (cs:Array Value):CB (w.alloc (.cells cs t)) w.heap.size t cs:=heap_alloc_new w _
theorem CB.cell (h:CB w b t cs) (j:Nat) {v:Value} (hv:cs[j]?=some v):w.cell? ⟨b,j,none⟩=some v:=by
 unfold CB at h;simp[World.cell?,h,hv]
theorem CB.frozen (h:CB w b t cs) (j:Nat):w.frozen? ⟨b,j,none⟩=false:=by
 unfold CB at h;simp[World.frozen?,h]
end
theorem below_alloc1 {W w:World} (h:Below W.heap.size W w) (o:Obj):Below W.heap.size W (w.alloc o):=h.alloc h.size o
theorem below_drew1 {B:Nat} {W w:World} (h:Below B W w):Below B W w.drew:=⟨h.os,h.tape,h.output,h.size,h.block⟩
theorem below_set1 {W w:World} {b:Nat} (h:Below W.heap.size W w) (hb:W.heap.size≤b) (k:Nat) (v:Value):Below W.heap.size W (w.setCell ⟨b,k,none⟩ v):=h.setCell (p:=⟨b,k,none⟩) hb v
theorem LR.zero (w:World) (B:Nat):LR w B (.agg #[.bool false,.slice none 0 0]) false []:=⟨_,rfl,RI.nil _ _⟩
theorem RN.stepN {w w':World} {v:Value} {l:List Nat} (h:RN w w.heap.size v l) (hb:Below w.heap.size w w'):RN w' w'.heap.size v l:=RI.step (show RI _ _ _ _ from h) hb
def Soft (w w':World):Prop:=w.heap.size≤w'.heap.size∧∀ p k x,w.cell? p=some (.int k x)→w'.cell? p=some (.int k x)
theorem Soft.trans {w w' w'':World} (h:Soft w w') (k:Soft w' w''):Soft w w'':=⟨Nat.le_trans h.1 k.1,fun p a x e=>k.2 p a x (h.2 p a x e)⟩
theorem cell_lt {w:World} {p:Addr} {v:Value} (h:w.cell? p=some v):p.block<w.heap.size:=by
 rcases Nat.lt_or_ge p.block w.heap.size with hlt | hge
 ·exact hlt
 ·simp only[World.cell?,Array.getElem?_eq_none hge] at h;cases h
theorem Soft.of {w w':World} (h:Below w.heap.size w w'):Soft w w':=⟨h.size,fun _ _ _ e=>(h.cell (cell_lt e)).trans e⟩
theorem Soft.set {w:World} {p:Addr} {u:Value} (hb:∀ q:Addr,q.block=p.block→∀ k x,w.cell? q≠some (.int k x)):Soft w (w.setCell p u):=by
 refine⟨by simp[World.setCell],fun q k x e=>?_⟩;by_cases hq:q.block=p.block
 ·exact absurd e (hb q hq k x)
 ·exact(World.cell?_of_block (Below.heap_setCell _ _ _ _ hq)).trans e
theorem RI.soft {w w':World} {v:Value} {l:List Int} (h:RI w w.heap.size v l) (hs:Soft w w'):RI w' w'.heap.size v l:=by
 obtain⟨A,c,hv,hc,hm,h0⟩:=h;refine⟨A,c,hv,hc,hm,fun hn=>?_⟩;obtain⟨g,off,hA,hg,hx⟩:=h0 hn;exact⟨g,off,hA,Nat.lt_of_lt_of_le hg hs.1,fun j hj=>hs.2 _ _ _ (hx j hj)⟩
theorem LR.soft {w w':World} {v:Value} {n:Bool} {l:List Int} (h:LR w w.heap.size v n l) (hs:Soft w w'):LR w' w'.heap.size v n l:=by
 obtain⟨s,hv,hr⟩:=h;exact⟨s,hv,hr.soft hs⟩
theorem LV.soft {w w':World} {v:Value} {z:Int} (h:LV w w.heap.size v z) (hs:Soft w w'):LV w' w'.heap.size v z:=LR.soft h hs
theorem LV.opened {w:World} {B:Nat} {v:Value} {z:Int} (h:LV w B v z):∃ n A l c,v=.agg #[.bool n,.slice A l c]∧LV w B (.agg #[.bool n,.slice A l c]) z:=by
 obtain⟨A,c,rfl,-⟩:=h.parts;exact⟨_,_,_,_,rfl,h⟩
theorem LR.opened {w:World} {B:Nat} {v:Value} {n:Bool} {l:List Int} (h:LR w B v n l):∃ A k c,v=.agg #[.bool n,.slice A k c]∧LR w B (.agg #[.bool n,.slice A k c]) n l:=by
 obtain⟨s,rfl,hs⟩:=h;obtain⟨A,c,rfl,-⟩:=hs.at;exact⟨_,_,_,rfl,_,rfl,hs⟩
theorem LV.is {w:World} {B:Nat} {n:Bool} {A:Option Addr} {l c:Nat} {z:Int} (h:LV w B (.agg #[.bool n,.slice A l c]) z):n=decide (z<0)∧l=(dig z.natAbs).length∧RN w B (.slice A l c) (dig z.natAbs):=by
 obtain⟨A',c',e,hr⟩:=h.parts;injection e with e
 simp at e
 obtain⟨e1,rfl,e2,rfl⟩:=e;exact⟨e1,e2,by rw[e2];exact hr⟩
end Go.Proofs.YtngpibfakemmhaaGreatDoor
namespace Go.Proofs.YtngpibfakemmhaaGreatDoor
open Go Go.RowKit Dig
end Go.Proofs.YtngpibfakemmhaaGreatDoor
