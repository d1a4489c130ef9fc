/- Texts put together: The reference's Sum at two numbers of one sign, neither 0. The reference's Diff at two numbers of one sign, neither 0, the first not less without its sign. The reference's Diff at two numbers of one sign, neither 0. The reference's Sum and Diff at any two numbers (written by gen_rsd.py). The reference's told. The reference's Add and Sub at any two Longs, valid or not (written by gen_radd.py). The reference's Check. The reference's Order and Cmp. The reference's Neg at any Long. -/
import Derived.Test.YtkhljkiehohckaaGreatDoorLow
import Derived.Test.YtkhljkiehohckaaGreatDoorOps
import Derived.Maps.AppendAt
import Derived.Deep.RegionHeld3
import Derived.IntWalk
namespace Go.Proofs.YtkhljkiehohckaaGreatDoor
open Go Go.RowKit Dig
theorem at_num (w:World) (v:Value) (l:List Nat) (k:Nat) (h:RN w w.heap.size v l) :
  Calls Tryz.prog 136 #[v,.int .i64 k] w fun e w'=>Below w.heap.size w w'∧e=.returned (.int .i64 ((l.getD k 0:Nat):Int)):=
 (At_any w v _ k h).mono fun e w' ⟨hw,he⟩=>⟨hw,by rw[he,at0_ni]⟩
set_option maxRecDepth 100000 in
set_option maxHeartbeats 2000000 in
theorem Sum_core (w:World) (n:Bool) (sa sb:Value) (X Y:List Nat) (ha:RN w w.heap.size sa X) (hb:RN w w.heap.size sb Y) (hsX:Small X) (hsY:Small Y) (hX0:0<X.length) (hY0:0<Y.length) (hlX:X.length≤100000) (hlY:Y.length≤100000) :
  Calls Tryz.prog 105 #[.agg #[.bool n,sa],.agg #[.bool n,sb]] w fun e w'=>Below w.heap.size w w'∧RetV w' (sgn n (val X+val Y)) e:=by
 obtain⟨i0,hi,hz0,hz1,hz2⟩:=info_parts info_int;obtain⟨A1,c1,rfl,-⟩:=ha.cell;obtain⟨A2,c2,rfl,-⟩:=hb.cell;obtain⟨w0,hw0⟩:∃ w0:World,w0=((w.alloc (.cells #[.bool n,.slice A1 X.length c1] 41)).alloc (.cells #[.bool n,.slice A2 Y.length c2] 41)).alloc (.cells #[.bool false,.slice none 0 0] 41):=⟨_,rfl⟩;have d0:=zz (show Below w.heap.size w w0 from by rw[hw0];(repeat' (first | exact Below.refl _ _ | refine Below.drew ?_ | refine Below.alloc ?_ (by first | exact Nat.le_refl _ | (simp;done) | (simp;omega)) _)));have L0:LB w0 w.heap.size (.bool n) (.slice A1 X.length c1):=by rw[hw0];(repeat (first | (refine LB.new' ?_;simp;done) | refine LB.alloc ?_ _))
 have L1:LB w0 (w.heap.size+1) (.bool n) (.slice A2 Y.length c2):=by rw[hw0];(repeat (first | (refine LB.new' ?_;simp;done) | refine LB.alloc ?_ _))
 have L2:LB w0 (w.heap.size+2) (.bool false) (.slice none 0 0):=by rw[hw0];(repeat (first | (refine LB.new' ?_;simp;done) | refine LB.alloc ?_ _))
 have HA:=zz ha;have G0:=zz hb;have n0:=zz hsX;have o0:=zz hsY;subst hw0;clear ha hb hsX hsY;have hXb:((X.length:Int)==0)=false:=by rw[beq_eq_false_iff_ne];omega
 have hYb:((Y.length:Int)==0)=false:=by rw[beq_eq_false_iff_ne];omega
 go_enter Tryz.func105,Tryz.ntmps105
 go_wp2;go_loopw [5,6,7] (fun dv cv iv wr=>∃ (k c:Nat) (ds:List Nat) (A:Option Addr) (m cap:Nat),dv=.slice A m cap∧cv=.int .i64 c∧iv=.int .i64 k∧c≤1∧k≤100001∧Hid (SumA X Y k c ds)∧Hid (c=0∨k≤X.length∨k≤Y.length)∧LB wr w.heap.size (.bool n) (.slice A1 X.length c1)∧LB wr (w.heap.size+1) (.bool n) (.slice A2 Y.length c2)∧LB wr (w.heap.size+2) (.bool false) (.slice none 0 0)∧Hid (OwnV wr (w.heap.size+3) dv (ni ds))∧Hid (w.heap.size+3≤wr.heap.size)∧Hid (Below w.heap.size w wr)) (fun _ _ iv _=>100001-(intOf iv).toNat)
 case atStart=>exact⟨0,0,[],_,_,_,rfl,rfl,rfl,by omega,by omega,zz (SumA.start _ _),zz (.inl rfl),L0,L1,L2,zz (OwnV.nil _ _),zz (by simp),d0⟩
 case round=>
  clear L0 L1 L2 d0;obtain⟨k,c,ds,A,m,cap,rfl,rfl,rfl,hc1,h0,hS,hC,C0,C1,C2,CO,CS,CB⟩:=hrel;have RA:=zz (show RN wr wr.heap.size (.slice A1 X.length c1) X from RI.step HA.out CB.out);have RB:=zz (show RN wr wr.heap.size (.slice A2 Y.length c2) Y from RI.step G0.out CB.out);by_cases h1:k<X.length
  ·have hkI:(k:Int)<(X.length:Int):=by omega
   have e0:k≤100000:=by omega
   obtain⟨x,hx⟩:∃ x:Nat,x=X.getD k 0:=⟨_,rfl⟩;obtain⟨y,hy⟩:∃ y:Nat,y=Y.getD k 0:=⟨_,rfl⟩;have hx9:x<1000000000:=by rw[hx];exact n0.out.getD k
   have hy9:y<1000000000:=by rw[hy];exact o0.out.getD k
   obtain⟨s,hs⟩:∃ s:Nat,s=x+y+c:=⟨_,rfl⟩;have hsI:(x:Int)+(y:Int)+(c:Int)=(s:Int):=by omega
   have hq:Int.tdiv (s:Int) 1000000000=((s / 1000000000:Nat):Int):=(Int.ofNat_tdiv s 1000000000).symm;have hm:Int.tmod (s:Int) 1000000000=((s % 1000000000:Nat):Int):=(Int.ofNat_tmod s 1000000000).symm;have p0:Hid (SumA X Y (k+1) (s / 1000000000) (ds++[s % 1000000000])):=zz (by have h:=hS.out.step n0.out o0.out;rw[← hx,← hy,← hs] at h;exact h);have q0:Hid (s / 1000000000=0∨k+1≤X.length∨k+1≤Y.length):=zz (by rcases Nat.lt_or_ge k X.length with h1 | h1;(exact .inr (.inl h1));rcases Nat.lt_or_ge k Y.length with h2 | h2;(exact .inr (.inr h2));have h:=SumA.past h1 h2 hS.out.carry;rw[← hx,← hy,← hs] at h;exact .inl h);have HHx:=zz hx;have HHy:=zz hy;have HHs:=zz hsI;have HHq:=zz hq;have HHm:=zz hm;have hs2:s≤1999999999:=by omega
   clear hx hy hs hsI hq hm;have q00:=C0.cell0;have q01:=C0.cell1;have q10:=C1.cell0;have q11:=C1.cell1;have q20:=C2.cell0;have q21:=C2.cell1;have tok1:True:=trivial;have tok2:True:=trivial;go_wp2_with fail
   go_region_held3 (fun w'=>w'.cell? ⟨w.heap.size,1,none⟩=some (.slice A1 X.length c1)∧w'.cell? ⟨w.heap.size+1,1,none⟩=some (.slice A2 Y.length c2)) (first
    | (exact⟨C0.cell1,C1.cell1⟩)
    | (exact⟨(LB.drew C0).cell1,(LB.drew C1).cell1⟩)
    | (exact⟨D0.cell1,D1.cell1⟩)
    | (exact⟨(LB.drew D0).cell1,(LB.drew D1).cell1⟩)
    | (exact⟨E0.cell1,E1.cell1⟩)
    | (exact⟨(LB.drew E0).cell1,(LB.drew E1).cell1⟩)
    | go_keep) (first
    | (go_at_call 136;clear tok1;((with_reducible refine(at_num _ _ X k (by first | exact RA.out | exact RN.drew1 RA.out)).mono ?_);rintro e u1 ⟨a0,rfl⟩;rw[← HHx.out];have D0:=LB.step (b:=w.heap.size) (x:=(.bool n)) (y:=(.slice A1 X.length c1)) (by first | exact C0 | exact LB.drew C0) a0;have D1:=LB.step (b:=(w.heap.size+1)) (x:=(.bool n)) (y:=(.slice A2 Y.length c2)) (by first | exact C1 | exact LB.drew C1) a0;have D2:=LB.step (b:=(w.heap.size+2)) (x:=(.bool false)) (y:=(.slice none 0 0)) (by first | exact C2 | exact LB.drew C2) a0;have DO:=zz (OwnV.step (base:=w.heap.size+3) (v:=.slice A m cap) (l:=ni ds) (by first | exact CO.out | exact OwnV.drew CO.out) a0);have DB:=zz (show Below w.heap.size w u1 from by first | exact below_call0 CB.out a0 | exact below_call_drew0 CB.out a0);have DS:=zz (show w.heap.size+3≤u1.heap.size from Nat.le_trans CS.out (by first | exact a0.size | exact(below_undrew a0).size));have k0:=zz (RN.stepN (v:=.slice A2 Y.length c2) (l:=Y) (by first | exact RB.out | exact RN.drew1 RB.out) a0);clear a0;have p00:=D0.cell0;have p01:=D0.cell1;have p10:=D1.cell0;have p11:=D1.cell1;have p20:=D2.cell0;have p21:=D2.cell1))
    | (go_at_call 136;clear tok2;((with_reducible refine(at_num _ _ Y k (by first | exact k0.out | exact RN.drew1 k0.out)).mono ?_);rintro e u2 ⟨b0,rfl⟩;rw[← HHy.out];have E0:=LB.step (b:=w.heap.size) (x:=(.bool n)) (y:=(.slice A1 X.length c1)) (by first | exact D0 | exact LB.drew D0) b0;have E1:=LB.step (b:=(w.heap.size+1)) (x:=(.bool n)) (y:=(.slice A2 Y.length c2)) (by first | exact D1 | exact LB.drew D1) b0;have E2:=LB.step (b:=(w.heap.size+2)) (x:=(.bool false)) (y:=(.slice none 0 0)) (by first | exact D2 | exact LB.drew D2) b0;have EO:=zz (OwnV.step (base:=w.heap.size+3) (v:=.slice A m cap) (l:=ni ds) (by first | exact DO.out | exact OwnV.drew DO.out) b0);have EB:=zz (show Below w.heap.size w u2 from by first | exact below_call0 DB.out b0 | exact below_call_drew0 DB.out b0);have ES:=zz (show w.heap.size+3≤u2.heap.size from Nat.le_trans DS.out (by first | exact b0.size | exact(below_undrew b0).size));clear b0;have r00:=E0.cell0;have r01:=E0.cell1;have r10:=E1.cell0;have r11:=E1.cell1;have r20:=E2.cell0;have r21:=E2.cell1)))
   rename_i hheld;clear hheld
   rw[show IntKind.i64.wrap (IntKind.i64.wrap ((x:Int)+(y:Int))+(c:Int))=(s:Int) by rw[IntWalk.i64_in ((x:Int)+(y:Int)) (by omega),IntWalk.i64_in ((x:Int)+(y:Int)+(c:Int)) (by omega),HHs.out]];have hown:=EO.out.alloc (.cells #[.int .i64 (Int.tmod (s:Int) 1000000000)] 3);have hlen:(ni ds).length=k:=by rw[ni_length];exact hS.out.len
   go_wp2_with (at_builtin;refine wpList_append_own_at _ rfl _ _ 38 rfl (w.heap.size+3) 3 i0 (.int .i64 0) 1 8 Tryz.underlying38 hi hz0 hz1 hz2 rfl (by decide) (.slice A m cap) (ni ds).length ((ni ds).map (Value.int .i64)) rfl hown ⟨u2.heap.size,0,none⟩ 1 1 [.int .i64 (Int.tmod (s:Int) 1000000000)] rfl rfl (cell_one_new _ _ _) (by intro u hu;simp at hu;subst hu;rfl) (by rw[hlen];unfold maxLen;omega) (by rw[hlen];omega) (by have:=ES.out;simp;omega) ?_)
   intro v' w' hown' hgrow hne hblk;have hv':OwnV w' (w.heap.size+3) v' (ni (ds++[s % 1000000000])):=by
    have h:=hown';rw[HHm.out] at h;rw[OwnV,ni_length,List.length_append,hS.out.len];have e:(ni (ds++[s % 1000000000])).map (Value.int .i64)=(ni ds).map (Value.int .i64)++[.int .i64 ((s % 1000000000:Nat):Int)]:=by simp[ni]
    rw[e];exact h
   have hrow:∀ b,b<w.heap.size+3→(Value.slice A m cap).ownBlock≠some b:=fun b hb he=>by
    have:=(World.ownsRow.lt EO.out b he).1
    omega
   have M0:=(E0.alloc (.cells #[.int .i64 (Int.tmod (s:Int) 1000000000)] 3)).grown hgrow (hrow _ (by omega));have M1:=(E1.alloc (.cells #[.int .i64 (Int.tmod (s:Int) 1000000000)] 3)).grown hgrow (hrow _ (by omega));have M2:=(E2.alloc (.cells #[.int .i64 (Int.tmod (s:Int) 1000000000)] 3)).grown hgrow (hrow _ (by omega));have MB:=zz ((EB.out.alloc EB.out.size (.cells #[.int .i64 (Int.tmod (s:Int) 1000000000)] 3)).grown hgrow (by have:=EB.out.size;simp;omega) (fun g he=>by have:=(World.ownsRow.lt EO.out g he).1;omega));have MS:=zz (show w.heap.size+3≤w'.heap.size by have h1:=hgrow.size;have h2:=ES.out;simp at h1;omega);have MO:=zz hv';clear hown' hgrow hne hblk hown;have z00:=M0.cell0;have z01:=M0.cell1;have z10:=M1.cell0;have z11:=M1.cell1;have z20:=M2.cell0;have z21:=M2.cell1;rcases hv'.form with ⟨_,he⟩ | ⟨g,cap',rfl,_⟩
   ·simp[ni] at he
   ·have hlen2:(ni (ds++[s % 1000000000])).length=k+1:=by rw[ni_length,List.length_append,hS.out.len];rfl
    have hq1:s / 1000000000≤1:=by omega
    clear hv' hrow;go_wp2;go_roundw
    case rel=>exact⟨k+1,s / 1000000000,ds++[s % 1000000000],_,_,_,rfl,congrArg (Value.int .i64) (by omega),by rw[show((k+1:Nat):Int)=(k:Int)+1 by omega],hq1,by omega,p0,q0,M0,M1,M2,MO,MS,MB⟩
    case measure=>simp[intOf] <;> omega
  ·have hkI:(X.length:Int)≤(k:Int):=by omega
   by_cases h2:k<Y.length
   ·have hkJ:(k:Int)<(Y.length:Int):=by omega
    have e0:k≤100000:=by omega
    obtain⟨x,hx⟩:∃ x:Nat,x=X.getD k 0:=⟨_,rfl⟩;obtain⟨y,hy⟩:∃ y:Nat,y=Y.getD k 0:=⟨_,rfl⟩;have hx9:x<1000000000:=by rw[hx];exact n0.out.getD k
    have hy9:y<1000000000:=by rw[hy];exact o0.out.getD k
    obtain⟨s,hs⟩:∃ s:Nat,s=x+y+c:=⟨_,rfl⟩;have hsI:(x:Int)+(y:Int)+(c:Int)=(s:Int):=by omega
    have hq:Int.tdiv (s:Int) 1000000000=((s / 1000000000:Nat):Int):=(Int.ofNat_tdiv s 1000000000).symm;have hm:Int.tmod (s:Int) 1000000000=((s % 1000000000:Nat):Int):=(Int.ofNat_tmod s 1000000000).symm;have p0:Hid (SumA X Y (k+1) (s / 1000000000) (ds++[s % 1000000000])):=zz (by have h:=hS.out.step n0.out o0.out;rw[← hx,← hy,← hs] at h;exact h);have q0:Hid (s / 1000000000=0∨k+1≤X.length∨k+1≤Y.length):=zz (by rcases Nat.lt_or_ge k X.length with h1 | h1;(exact .inr (.inl h1));rcases Nat.lt_or_ge k Y.length with h2 | h2;(exact .inr (.inr h2));have h:=SumA.past h1 h2 hS.out.carry;rw[← hx,← hy,← hs] at h;exact .inl h);have HHx:=zz hx;have HHy:=zz hy;have HHs:=zz hsI;have HHq:=zz hq;have HHm:=zz hm;have hs2:s≤1999999999:=by omega
    clear hx hy hs hsI hq hm;have q00:=C0.cell0;have q01:=C0.cell1;have q10:=C1.cell0;have q11:=C1.cell1;have q20:=C2.cell0;have q21:=C2.cell1;have tok1:True:=trivial;have tok2:True:=trivial;go_wp2_with fail
    go_region_held3 (fun w'=>w'.cell? ⟨w.heap.size,1,none⟩=some (.slice A1 X.length c1)∧w'.cell? ⟨w.heap.size+1,1,none⟩=some (.slice A2 Y.length c2)) (first
     | (exact⟨C0.cell1,C1.cell1⟩)
     | (exact⟨(LB.drew C0).cell1,(LB.drew C1).cell1⟩)
     | (exact⟨D0.cell1,D1.cell1⟩)
     | (exact⟨(LB.drew D0).cell1,(LB.drew D1).cell1⟩)
     | (exact⟨E0.cell1,E1.cell1⟩)
     | (exact⟨(LB.drew E0).cell1,(LB.drew E1).cell1⟩)
     | go_keep) (first
     | (go_at_call 136;clear tok1;((with_reducible refine(at_num _ _ X k (by first | exact RA.out | exact RN.drew1 RA.out)).mono ?_);rintro e u1 ⟨a0,rfl⟩;rw[← HHx.out];have D0:=LB.step (b:=w.heap.size) (x:=(.bool n)) (y:=(.slice A1 X.length c1)) (by first | exact C0 | exact LB.drew C0) a0;have D1:=LB.step (b:=(w.heap.size+1)) (x:=(.bool n)) (y:=(.slice A2 Y.length c2)) (by first | exact C1 | exact LB.drew C1) a0;have D2:=LB.step (b:=(w.heap.size+2)) (x:=(.bool false)) (y:=(.slice none 0 0)) (by first | exact C2 | exact LB.drew C2) a0;have DO:=zz (OwnV.step (base:=w.heap.size+3) (v:=.slice A m cap) (l:=ni ds) (by first | exact CO.out | exact OwnV.drew CO.out) a0);have DB:=zz (show Below w.heap.size w u1 from by first | exact below_call0 CB.out a0 | exact below_call_drew0 CB.out a0);have DS:=zz (show w.heap.size+3≤u1.heap.size from Nat.le_trans CS.out (by first | exact a0.size | exact(below_undrew a0).size));have k0:=zz (RN.stepN (v:=.slice A2 Y.length c2) (l:=Y) (by first | exact RB.out | exact RN.drew1 RB.out) a0);clear a0;have p00:=D0.cell0;have p01:=D0.cell1;have p10:=D1.cell0;have p11:=D1.cell1;have p20:=D2.cell0;have p21:=D2.cell1))
     | (go_at_call 136;clear tok2;((with_reducible refine(at_num _ _ Y k (by first | exact k0.out | exact RN.drew1 k0.out)).mono ?_);rintro e u2 ⟨b0,rfl⟩;rw[← HHy.out];have E0:=LB.step (b:=w.heap.size) (x:=(.bool n)) (y:=(.slice A1 X.length c1)) (by first | exact D0 | exact LB.drew D0) b0;have E1:=LB.step (b:=(w.heap.size+1)) (x:=(.bool n)) (y:=(.slice A2 Y.length c2)) (by first | exact D1 | exact LB.drew D1) b0;have E2:=LB.step (b:=(w.heap.size+2)) (x:=(.bool false)) (y:=(.slice none 0 0)) (by first | exact D2 | exact LB.drew D2) b0;have EO:=zz (OwnV.step (base:=w.heap.size+3) (v:=.slice A m cap) (l:=ni ds) (by first | exact DO.out | exact OwnV.drew DO.out) b0);have EB:=zz (show Below w.heap.size w u2 from by first | exact below_call0 DB.out b0 | exact below_call_drew0 DB.out b0);have ES:=zz (show w.heap.size+3≤u2.heap.size from Nat.le_trans DS.out (by first | exact b0.size | exact(below_undrew b0).size));clear b0;have r00:=E0.cell0;have r01:=E0.cell1;have r10:=E1.cell0;have r11:=E1.cell1;have r20:=E2.cell0;have r21:=E2.cell1)))
    rename_i hheld;clear hheld
    rw[show IntKind.i64.wrap (IntKind.i64.wrap ((x:Int)+(y:Int))+(c:Int))=(s:Int) by rw[IntWalk.i64_in ((x:Int)+(y:Int)) (by omega),IntWalk.i64_in ((x:Int)+(y:Int)+(c:Int)) (by omega),HHs.out]];have hown:=EO.out.alloc (.cells #[.int .i64 (Int.tmod (s:Int) 1000000000)] 3);have hlen:(ni ds).length=k:=by rw[ni_length];exact hS.out.len
    go_wp2_with (at_builtin;refine wpList_append_own_at _ rfl _ _ 38 rfl (w.heap.size+3) 3 i0 (.int .i64 0) 1 8 Tryz.underlying38 hi hz0 hz1 hz2 rfl (by decide) (.slice A m cap) (ni ds).length ((ni ds).map (Value.int .i64)) rfl hown ⟨u2.heap.size,0,none⟩ 1 1 [.int .i64 (Int.tmod (s:Int) 1000000000)] rfl rfl (cell_one_new _ _ _) (by intro u hu;simp at hu;subst hu;rfl) (by rw[hlen];unfold maxLen;omega) (by rw[hlen];omega) (by have:=ES.out;simp;omega) ?_)
    intro v' w' hown' hgrow hne hblk;have hv':OwnV w' (w.heap.size+3) v' (ni (ds++[s % 1000000000])):=by
     have h:=hown';rw[HHm.out] at h;rw[OwnV,ni_length,List.length_append,hS.out.len];have e:(ni (ds++[s % 1000000000])).map (Value.int .i64)=(ni ds).map (Value.int .i64)++[.int .i64 ((s % 1000000000:Nat):Int)]:=by simp[ni]
     rw[e];exact h
    have hrow:∀ b,b<w.heap.size+3→(Value.slice A m cap).ownBlock≠some b:=fun b hb he=>by
     have:=(World.ownsRow.lt EO.out b he).1
     omega
    have M0:=(E0.alloc (.cells #[.int .i64 (Int.tmod (s:Int) 1000000000)] 3)).grown hgrow (hrow _ (by omega));have M1:=(E1.alloc (.cells #[.int .i64 (Int.tmod (s:Int) 1000000000)] 3)).grown hgrow (hrow _ (by omega));have M2:=(E2.alloc (.cells #[.int .i64 (Int.tmod (s:Int) 1000000000)] 3)).grown hgrow (hrow _ (by omega));have MB:=zz ((EB.out.alloc EB.out.size (.cells #[.int .i64 (Int.tmod (s:Int) 1000000000)] 3)).grown hgrow (by have:=EB.out.size;simp;omega) (fun g he=>by have:=(World.ownsRow.lt EO.out g he).1;omega));have MS:=zz (show w.heap.size+3≤w'.heap.size by have h1:=hgrow.size;have h2:=ES.out;simp at h1;omega);have MO:=zz hv';clear hown' hgrow hne hblk hown;have z00:=M0.cell0;have z01:=M0.cell1;have z10:=M1.cell0;have z11:=M1.cell1;have z20:=M2.cell0;have z21:=M2.cell1;rcases hv'.form with ⟨_,he⟩ | ⟨g,cap',rfl,_⟩
    ·simp[ni] at he
    ·have hlen2:(ni (ds++[s % 1000000000])).length=k+1:=by rw[ni_length,List.length_append,hS.out.len];rfl
     have hq1:s / 1000000000≤1:=by omega
     clear hv' hrow;go_wp2;go_roundw
     case rel=>exact⟨k+1,s / 1000000000,ds++[s % 1000000000],_,_,_,rfl,congrArg (Value.int .i64) (by omega),by rw[show((k+1:Nat):Int)=(k:Int)+1 by omega],hq1,by omega,p0,q0,M0,M1,M2,MO,MS,MB⟩
     case measure=>simp[intOf] <;> omega
   ·have hkJ:(Y.length:Int)≤(k:Int):=by omega
    by_cases h3:0<c
    ·have hc3:(0:Int)<(c:Int):=by omega
     have j0:k≤100000:=by rcases hC.out with h | h | h <;> omega
     have e0:k≤100000:=by omega
     obtain⟨x,hx⟩:∃ x:Nat,x=X.getD k 0:=⟨_,rfl⟩;obtain⟨y,hy⟩:∃ y:Nat,y=Y.getD k 0:=⟨_,rfl⟩;have hx9:x<1000000000:=by rw[hx];exact n0.out.getD k
     have hy9:y<1000000000:=by rw[hy];exact o0.out.getD k
     obtain⟨s,hs⟩:∃ s:Nat,s=x+y+c:=⟨_,rfl⟩;have hsI:(x:Int)+(y:Int)+(c:Int)=(s:Int):=by omega
     have hq:Int.tdiv (s:Int) 1000000000=((s / 1000000000:Nat):Int):=(Int.ofNat_tdiv s 1000000000).symm;have hm:Int.tmod (s:Int) 1000000000=((s % 1000000000:Nat):Int):=(Int.ofNat_tmod s 1000000000).symm;have p0:Hid (SumA X Y (k+1) (s / 1000000000) (ds++[s % 1000000000])):=zz (by have h:=hS.out.step n0.out o0.out;rw[← hx,← hy,← hs] at h;exact h);have q0:Hid (s / 1000000000=0∨k+1≤X.length∨k+1≤Y.length):=zz (by rcases Nat.lt_or_ge k X.length with h1 | h1;(exact .inr (.inl h1));rcases Nat.lt_or_ge k Y.length with h2 | h2;(exact .inr (.inr h2));have h:=SumA.past h1 h2 hS.out.carry;rw[← hx,← hy,← hs] at h;exact .inl h);have HHx:=zz hx;have HHy:=zz hy;have HHs:=zz hsI;have HHq:=zz hq;have HHm:=zz hm;have hs2:s≤1999999999:=by omega
     clear hx hy hs hsI hq hm;have q00:=C0.cell0;have q01:=C0.cell1;have q10:=C1.cell0;have q11:=C1.cell1;have q20:=C2.cell0;have q21:=C2.cell1;have tok1:True:=trivial;have tok2:True:=trivial;go_wp2_with fail
     go_region_held3 (fun w'=>w'.cell? ⟨w.heap.size,1,none⟩=some (.slice A1 X.length c1)∧w'.cell? ⟨w.heap.size+1,1,none⟩=some (.slice A2 Y.length c2)) (first
      | (exact⟨C0.cell1,C1.cell1⟩)
      | (exact⟨(LB.drew C0).cell1,(LB.drew C1).cell1⟩)
      | (exact⟨D0.cell1,D1.cell1⟩)
      | (exact⟨(LB.drew D0).cell1,(LB.drew D1).cell1⟩)
      | (exact⟨E0.cell1,E1.cell1⟩)
      | (exact⟨(LB.drew E0).cell1,(LB.drew E1).cell1⟩)
      | go_keep) (first
      | (go_at_call 136;clear tok1;((with_reducible refine(at_num _ _ X k (by first | exact RA.out | exact RN.drew1 RA.out)).mono ?_);rintro e u1 ⟨a0,rfl⟩;rw[← HHx.out];have D0:=LB.step (b:=w.heap.size) (x:=(.bool n)) (y:=(.slice A1 X.length c1)) (by first | exact C0 | exact LB.drew C0) a0;have D1:=LB.step (b:=(w.heap.size+1)) (x:=(.bool n)) (y:=(.slice A2 Y.length c2)) (by first | exact C1 | exact LB.drew C1) a0;have D2:=LB.step (b:=(w.heap.size+2)) (x:=(.bool false)) (y:=(.slice none 0 0)) (by first | exact C2 | exact LB.drew C2) a0;have DO:=zz (OwnV.step (base:=w.heap.size+3) (v:=.slice A m cap) (l:=ni ds) (by first | exact CO.out | exact OwnV.drew CO.out) a0);have DB:=zz (show Below w.heap.size w u1 from by first | exact below_call0 CB.out a0 | exact below_call_drew0 CB.out a0);have DS:=zz (show w.heap.size+3≤u1.heap.size from Nat.le_trans CS.out (by first | exact a0.size | exact(below_undrew a0).size));have k0:=zz (RN.stepN (v:=.slice A2 Y.length c2) (l:=Y) (by first | exact RB.out | exact RN.drew1 RB.out) a0);clear a0;have p00:=D0.cell0;have p01:=D0.cell1;have p10:=D1.cell0;have p11:=D1.cell1;have p20:=D2.cell0;have p21:=D2.cell1))
      | (go_at_call 136;clear tok2;((with_reducible refine(at_num _ _ Y k (by first | exact k0.out | exact RN.drew1 k0.out)).mono ?_);rintro e u2 ⟨b0,rfl⟩;rw[← HHy.out];have E0:=LB.step (b:=w.heap.size) (x:=(.bool n)) (y:=(.slice A1 X.length c1)) (by first | exact D0 | exact LB.drew D0) b0;have E1:=LB.step (b:=(w.heap.size+1)) (x:=(.bool n)) (y:=(.slice A2 Y.length c2)) (by first | exact D1 | exact LB.drew D1) b0;have E2:=LB.step (b:=(w.heap.size+2)) (x:=(.bool false)) (y:=(.slice none 0 0)) (by first | exact D2 | exact LB.drew D2) b0;have EO:=zz (OwnV.step (base:=w.heap.size+3) (v:=.slice A m cap) (l:=ni ds) (by first | exact DO.out | exact OwnV.drew DO.out) b0);have EB:=zz (show Below w.heap.size w u2 from by first | exact below_call0 DB.out b0 | exact below_call_drew0 DB.out b0);have ES:=zz (show w.heap.size+3≤u2.heap.size from Nat.le_trans DS.out (by first | exact b0.size | exact(below_undrew b0).size));clear b0;have r00:=E0.cell0;have r01:=E0.cell1;have r10:=E1.cell0;have r11:=E1.cell1;have r20:=E2.cell0;have r21:=E2.cell1)))
     rename_i hheld;clear hheld
     rw[show IntKind.i64.wrap (IntKind.i64.wrap ((x:Int)+(y:Int))+(c:Int))=(s:Int) by rw[IntWalk.i64_in ((x:Int)+(y:Int)) (by omega),IntWalk.i64_in ((x:Int)+(y:Int)+(c:Int)) (by omega),HHs.out]];have hown:=EO.out.alloc (.cells #[.int .i64 (Int.tmod (s:Int) 1000000000)] 3);have hlen:(ni ds).length=k:=by rw[ni_length];exact hS.out.len
     go_wp2_with (at_builtin;refine wpList_append_own_at _ rfl _ _ 38 rfl (w.heap.size+3) 3 i0 (.int .i64 0) 1 8 Tryz.underlying38 hi hz0 hz1 hz2 rfl (by decide) (.slice A m cap) (ni ds).length ((ni ds).map (Value.int .i64)) rfl hown ⟨u2.heap.size,0,none⟩ 1 1 [.int .i64 (Int.tmod (s:Int) 1000000000)] rfl rfl (cell_one_new _ _ _) (by intro u hu;simp at hu;subst hu;rfl) (by rw[hlen];unfold maxLen;omega) (by rw[hlen];omega) (by have:=ES.out;simp;omega) ?_)
     intro v' w' hown' hgrow hne hblk;have hv':OwnV w' (w.heap.size+3) v' (ni (ds++[s % 1000000000])):=by
      have h:=hown';rw[HHm.out] at h;rw[OwnV,ni_length,List.length_append,hS.out.len];have e:(ni (ds++[s % 1000000000])).map (Value.int .i64)=(ni ds).map (Value.int .i64)++[.int .i64 ((s % 1000000000:Nat):Int)]:=by simp[ni]
      rw[e];exact h
     have hrow:∀ b,b<w.heap.size+3→(Value.slice A m cap).ownBlock≠some b:=fun b hb he=>by
      have:=(World.ownsRow.lt EO.out b he).1
      omega
     have M0:=(E0.alloc (.cells #[.int .i64 (Int.tmod (s:Int) 1000000000)] 3)).grown hgrow (hrow _ (by omega));have M1:=(E1.alloc (.cells #[.int .i64 (Int.tmod (s:Int) 1000000000)] 3)).grown hgrow (hrow _ (by omega));have M2:=(E2.alloc (.cells #[.int .i64 (Int.tmod (s:Int) 1000000000)] 3)).grown hgrow (hrow _ (by omega));have MB:=zz ((EB.out.alloc EB.out.size (.cells #[.int .i64 (Int.tmod (s:Int) 1000000000)] 3)).grown hgrow (by have:=EB.out.size;simp;omega) (fun g he=>by have:=(World.ownsRow.lt EO.out g he).1;omega));have MS:=zz (show w.heap.size+3≤w'.heap.size by have h1:=hgrow.size;have h2:=ES.out;simp at h1;omega);have MO:=zz hv';clear hown' hgrow hne hblk hown;have z00:=M0.cell0;have z01:=M0.cell1;have z10:=M1.cell0;have z11:=M1.cell1;have z20:=M2.cell0;have z21:=M2.cell1;rcases hv'.form with ⟨_,he⟩ | ⟨g,cap',rfl,_⟩
     ·simp[ni] at he
     ·have hlen2:(ni (ds++[s % 1000000000])).length=k+1:=by rw[ni_length,List.length_append,hS.out.len];rfl
      have hq1:s / 1000000000≤1:=by omega
      clear hv' hrow;go_wp2;go_roundw
      case rel=>exact⟨k+1,s / 1000000000,ds++[s % 1000000000],_,_,_,rfl,congrArg (Value.int .i64) (by omega),by rw[show((k+1:Nat):Int)=(k:Int)+1 by omega],hq1,by omega,p0,q0,M0,M1,M2,MO,MS,MB⟩
      case measure=>simp[intOf] <;> omega
    ·obtain rfl:c=0:=by omega
     have HV:=zz (hS.out.stop (by omega) (by omega));have hSm:=zz hS.out.small;have hln:ds.length≤1000000:=by rw[hS.out.len];omega
     have RO:=zz (show RN wr wr.heap.size (.slice A m cap) ds from CO.out.ri);have q00:=C0.cell0;have q01:=C0.cell1;have q10:=C1.cell0;have q11:=C1.cell1;have q20:=C2.cell0;have q21:=C2.cell1;go_wp2_with fail
     refine(made_any _ _ _ ds RO.out hSm.out hln).mono ?_;rintro e w2 ⟨hb,v2,rfl,c0⟩;rw[HV.out] at c0;obtain⟨y,hy⟩:∃ y:Int,y=sgn n (val X+val Y):=⟨_,rfl⟩;have HY:=zz hy;rw[← hy] at c0;obtain⟨A3,c3,rfl,hs2⟩:=c0.parts;have g0:=zz (CB.out.trans (hb.mono CB.out.size));have F2:=C2.step hb;have H0:=zz hs2;clear hs2 hb c0 hy;have f0:=F2.cell0;have f1:=F2.cell1;have f2:=F2.frozen 0;have f3:=F2.frozen 1;go_wp2;(try simp only[Exit.inBlock,Exit.then])
     rw[← HY.out];exact end_one rfl F2 g0.out (by omega) H0.out rfl rfl
end Go.Proofs.YtkhljkiehohckaaGreatDoor
namespace Go.Proofs.YtkhljkiehohckaaGreatDoor
open Go Go.RowKit Dig
set_option maxRecDepth 100000 in
set_option maxHeartbeats 2000000 in
theorem Diff_core (w:World) (n:Bool) (sa sb:Value) (p q:Nat) (ha:RN w w.heap.size sa (dig p)) (hb:RN w w.heap.size sb (dig q)) (hp0:p≠0) (hq0:q≠0) (hqp:q≤p) (hlp:(dig p).length≤100000) :
  Calls Tryz.prog 133 #[.agg #[.bool n,sa],.agg #[.bool n,sb]] w fun e w'=>Below w.heap.size w w'∧RetV w' (sgn n (p-q)) e:=by
 obtain⟨i0,hi,hz0,hz1,hz2⟩:=info_parts info_int;have hless:=decide_eq_false (show ¬ p<q by omega);have hlq:(dig q).length≤(dig p).length:=dig_len_mono hqp;obtain⟨X,hXd⟩:∃ X,X=dig p:=⟨_,rfl⟩;obtain⟨Y,hYd⟩:∃ Y,Y=dig q:=⟨_,rfl⟩;have m0:Hid (∀ (w:World) (va vb:Value),RN w w.heap.size va X→RN w w.heap.size vb Y→Calls Tryz.prog 134 #[va,vb] w fun e w'=>Below w.heap.size w w'∧e=.returned (.bool false)):=
  zz (fun w va vb h h'=>by rw[hXd] at h;rw[hYd] at h';rw[← hless];exact RLess_any w va vb p q h h')
 have n0:=zz (show Small X by rw[hXd];exact dig_small _);have v0:=zz (show Small Y by rw[hYd];exact dig_small _);have o0:=zz (show val X=p by rw[hXd,val_dig]);have p0:=zz (show val Y=q by rw[hYd,val_dig]);have x0:=zz hqp;have hX0:0<X.length:=by rw[hXd];exact List.length_pos_iff.2 (fun e=>hp0 (dig_eq_nil.1 e))
 have hY0:0<Y.length:=by rw[hYd];exact List.length_pos_iff.2 (fun e=>hq0 (dig_eq_nil.1 e))
 rw[← hXd] at ha hlp hlq;rw[← hYd] at hb hlq;clear hXd hYd hless hp0 hq0 hqp;obtain⟨A1,c1,rfl,-,-,hcell⟩:=ha.cell;obtain⟨g,off,rfl,hg,hcx⟩:=hcell hX0;replace hcx:=zz hcx;clear hcell;obtain⟨A2,c2,rfl,-⟩:=hb.cell;obtain⟨w0,hw0⟩:∃ w0:World,w0=((w.alloc (.cells #[.bool n,.slice (some ⟨g,off,none⟩) X.length c1] 41)).alloc (.cells #[.bool n,.slice A2 Y.length c2] 41)).alloc (.cells #[.bool false,.slice none 0 0] 41):=⟨_,rfl⟩;have b0:=zz (show Below w.heap.size w w0 from by rw[hw0];(repeat' (first | exact Below.refl _ _ | refine Below.drew ?_ | refine Below.alloc ?_ (by first | exact Nat.le_refl _ | (simp;done) | (simp;omega)) _)));have L0:LB w0 w.heap.size (.bool n) (.slice (some ⟨g,off,none⟩) X.length c1):=by rw[hw0];(repeat (first | (refine LB.new' ?_;simp;done) | refine LB.alloc ?_ _))
 have L1:LB w0 (w.heap.size+1) (.bool n) (.slice A2 Y.length c2):=by rw[hw0];(repeat (first | (refine LB.new' ?_;simp;done) | refine LB.alloc ?_ _))
 have L2:LB w0 (w.heap.size+2) (.bool false) (.slice none 0 0):=by rw[hw0];(repeat (first | (refine LB.new' ?_;simp;done) | refine LB.alloc ?_ _))
 have hsz0:w.heap.size+3≤w0.heap.size:=by rw[hw0];simp
 have HA:=zz ha;have q0:=zz hb;subst hw0;clear ha hb;have hXb:((X.length:Int)==0)=false:=by rw[beq_eq_false_iff_ne];omega
 have hYb:((Y.length:Int)==0)=false:=by rw[beq_eq_false_iff_ne];omega
 go_enter Tryz.func133,Tryz.ntmps133
 go_wp2_with fail
 refine(m0.out _ _ _ (RN.stepN HA.out b0.out) (RN.stepN q0.out b0.out)).mono ?_;rintro e w1 ⟨a0,rfl⟩;have N0:=L0.step a0;have N1:=L1.step a0;have N2:=L2.step a0;have NB:=zz (b0.out.trans (a0.mono b0.out.size));have NS:=zz (Nat.le_trans hsz0 a0.size);clear a0 b0 L0 L1 L2 hsz0 m0;go_wp2;go_loopw [5,6,7] (fun dv cv iv wr=>∃ (k c:Nat) (ds:List Nat) (A:Option Addr) (m cap:Nat),dv=.slice A m cap∧cv=.int .i64 c∧iv=.int .i64 k∧c≤1∧k≤X.length∧Hid (DiffA X Y k c ds)∧LB wr w.heap.size (.bool n) (.slice (some ⟨g,off,none⟩) X.length c1)∧LB wr (w.heap.size+1) (.bool n) (.slice A2 Y.length c2)∧LB wr (w.heap.size+2) (.bool false) (.slice none 0 0)∧Hid (OwnV wr (w.heap.size+3) dv (ni ds))∧Hid (w.heap.size+3≤wr.heap.size)∧Hid (Below w.heap.size w wr)) (fun _ _ iv _=>X.length-(intOf iv).toNat)
 case atStart=>exact⟨0,0,[],_,_,_,rfl,rfl,rfl,by omega,by omega,zz (DiffA.start _ _),N0,N1,N2,zz (OwnV.nil _ _),NS,NB⟩
 case round=>
  clear N0 N1 N2 NB NS;obtain⟨k,c,ds,A,m,cap,rfl,rfl,rfl,hc1,e0,hS,C0,C1,C2,CO,CS,CB⟩:=hrel;have RA:=zz (RN.stepN HA.out CB.out);have RB:=zz (RN.stepN q0.out CB.out);by_cases h1:k<X.length
  ·have hkI:(k:Int)<(X.length:Int):=by omega
   have g0:k≤100000:=by omega
   have hgr:g<wr.heap.size:=Nat.lt_of_lt_of_le hg CB.out.size;have hc:=(CB.out.cell (p:=⟨g,off+k,none⟩) hg).trans (hcx.out k h1);obtain⟨x,hx⟩:∃ x:Nat,x=X[k]:=⟨_,rfl⟩;rw[← hx] at hc;have hxg:X.getD k 0=x:=by rw[hx];exact getD_get h1
   obtain⟨y,hy⟩:∃ y:Nat,y=Y.getD k 0:=⟨_,rfl⟩;have hx9:x<1000000000:=by rw[← hxg];exact n0.out.getD k
   have hy9:y<1000000000:=by rw[hy];exact v0.out.getD k
   have HHx:=zz hxg;have HHy:=zz hy;clear hx hxg hy;have q00:=C0.cell0;have q01:=C0.cell1;have q10:=C1.cell0;have q11:=C1.cell1;have q20:=C2.cell0;have q21:=C2.cell1;have tok1:True:=trivial;go_wp2_with fail
   go_region_held3 (fun w'=>w'.cell? ⟨w.heap.size,1,none⟩=some (.slice (some ⟨g,off,none⟩) X.length c1)∧w'.cell? ⟨w.heap.size+1,1,none⟩=some (.slice A2 Y.length c2)∧w'.cell? ⟨g,off+k,none⟩=some (.int .i64 (x:Int))) (first
    | (exact⟨C0.cell1,C1.cell1,hc⟩)
    | (exact⟨(LB.drew C0).cell1,(LB.drew C1).cell1,hc⟩)
    | (exact⟨D0.cell1,D1.cell1,hd⟩)
    | (exact⟨(LB.drew D0).cell1,(LB.drew D1).cell1,hd⟩)
    | go_keep) (first
    | (go_at_call 136;clear tok1;((with_reducible refine(at_num _ _ Y k (by first | exact RB.out | exact RN.drew1 RB.out)).mono ?_);rintro e u1 ⟨a0,rfl⟩;rw[← HHy.out];have D0:=LB.step (b:=w.heap.size) (x:=(.bool n)) (y:=(.slice (some ⟨g,off,none⟩) X.length c1)) (by first | exact C0 | exact LB.drew C0) a0;have D1:=LB.step (b:=(w.heap.size+1)) (x:=(.bool n)) (y:=(.slice A2 Y.length c2)) (by first | exact C1 | exact LB.drew C1) a0;have D2:=LB.step (b:=(w.heap.size+2)) (x:=(.bool false)) (y:=(.slice none 0 0)) (by first | exact C2 | exact LB.drew C2) a0;have DO:=zz (OwnV.step (base:=w.heap.size+3) (v:=.slice A m cap) (l:=ni ds) (by first | exact CO.out | exact OwnV.drew CO.out) a0);have DB:=zz (show Below w.heap.size w u1 from by first | exact below_call0 CB.out a0 | exact below_call_drew0 CB.out a0);have DS:=zz (show w.heap.size+3≤u1.heap.size from Nat.le_trans CS.out (by first | exact a0.size | exact(below_undrew a0).size));have hd:u1.cell? ⟨g,off+k,none⟩=some (.int .i64 (x:Int)):=(a0.cell (p:=⟨g,off+k,none⟩) hgr).trans hc;clear a0;have p00:=D0.cell0;have p01:=D0.cell1;have p10:=D1.cell0;have p11:=D1.cell1;have p20:=D2.cell0;have p21:=D2.cell1)))
   rename_i hheld;clear hheld
   rw[show IntKind.i64.wrap (IntKind.i64.wrap ((x:Int)-(y:Int))-(c:Int))=(x:Int)-(y:Int)-(c:Int) by rw[IntWalk.i64_in ((x:Int)-(y:Int)) (by omega),IntWalk.i64_in ((x:Int)-(y:Int)-(c:Int)) (by omega)]];obtain⟨t,ht⟩:∃ t:Int,t=(x:Int)-(y:Int)-(c:Int):=⟨_,rfl⟩;rw[← ht];by_cases hle:0≤t
   ·obtain⟨d,rfl⟩:=Int.eq_ofNat_of_zero_le hle;have k0:Hid (DiffA X Y (k+1) 0 (ds++[d])):=zz (hS.out.step_up n0.out (by rw[HHx.out,← HHy.out];omega));have hdn:(decide ((d:Int)<0))=false:=decide_eq_false (by omega);clear ht;have hown:=DO.out.alloc (.cells #[.int .i64 (d:Int)] 3);have hlen:(ni ds).length=k:=by rw[ni_length];exact hS.out.len
    go_wp2_with (at_builtin;refine wpList_append_own_at _ rfl _ _ 38 rfl (w.heap.size+3) 3 i0 (.int .i64 0) 1 8 Tryz.underlying38 hi hz0 hz1 hz2 rfl (by decide) (.slice A m cap) (ni ds).length ((ni ds).map (Value.int .i64)) rfl hown ⟨u1.heap.size,0,none⟩ 1 1 [.int .i64 (d:Int)] rfl rfl (cell_one_new _ _ _) (by intro u hu;simp at hu;subst hu;rfl) (by rw[hlen];unfold maxLen;omega) (by rw[hlen];omega) (by have:=DS.out;simp;omega) ?_)
    intro v' w' hown' hgrow hne hblk;have hv':OwnV w' (w.heap.size+3) v' (ni (ds++[d])):=by
     have h:=hown';rw[OwnV,ni_length,List.length_append,hS.out.len];have e:(ni (ds++[d])).map (Value.int .i64)=(ni ds).map (Value.int .i64)++[.int .i64 (d:Int)]:=by simp[ni]
     rw[e];exact h
    have hrow:∀ b,b<w.heap.size+3→(Value.slice A m cap).ownBlock≠some b:=fun b hb he=>by
     have:=(World.ownsRow.lt DO.out b he).1
     omega
    have M0:=(D0.alloc (.cells #[.int .i64 (d:Int)] 3)).grown hgrow (hrow _ (by omega));have M1:=(D1.alloc (.cells #[.int .i64 (d:Int)] 3)).grown hgrow (hrow _ (by omega));have M2:=(D2.alloc (.cells #[.int .i64 (d:Int)] 3)).grown hgrow (hrow _ (by omega));have MB:=zz ((DB.out.alloc DB.out.size (.cells #[.int .i64 (d:Int)] 3)).grown hgrow (by have:=DB.out.size;simp;omega) (fun g he=>by have:=(World.ownsRow.lt DO.out g he).1;omega));have MS:=zz (show w.heap.size+3≤w'.heap.size by have h1:=hgrow.size;have h2:=DS.out;simp at h1;omega);have MO:=zz hv';clear hown' hgrow hne hblk hown;have z00:=M0.cell0;have z01:=M0.cell1;have z10:=M1.cell0;have z11:=M1.cell1;have z20:=M2.cell0;have z21:=M2.cell1;rcases hv'.form with ⟨_,he⟩ | ⟨g',cap',rfl,_⟩
    ·simp[ni] at he
    ·have hlen2:(ni (ds++[d])).length=k+1:=by rw[ni_length,List.length_append,hS.out.len];rfl
     clear hv' hrow;go_wp2;go_roundw
     case rel=>exact⟨k+1,0,ds++[d],_,_,_,rfl,rfl,by rw[show((k+1:Nat):Int)=(k:Int)+1 by omega],by omega,by omega,k0,M0,M1,M2,MO,MS,MB⟩
     case measure=>simp[intOf] <;> omega
   ·obtain⟨d,hd2⟩:∃ d:Nat,(d:Int)=t+1000000000:=⟨(t+1000000000).toNat,by omega⟩;have k0:Hid (DiffA X Y (k+1) 1 (ds++[d])):=zz (hS.out.step_down (by rw[HHx.out,← HHy.out];omega) (by omega));have htn:t<0:=by omega
    have ht5:-2000000000≤t:=by omega
    have E0:=zz hd2;clear ht hle hd2;go_upto_region 18 with (fail)
    rw[show t+1000000000=(d:Int) from E0.out.symm];have hown:=DO.out.alloc (.cells #[.int .i64 (d:Int)] 3);have hlen:(ni ds).length=k:=by rw[ni_length];exact hS.out.len
    go_wp2_with (at_builtin;refine wpList_append_own_at _ rfl _ _ 38 rfl (w.heap.size+3) 3 i0 (.int .i64 0) 1 8 Tryz.underlying38 hi hz0 hz1 hz2 rfl (by decide) (.slice A m cap) (ni ds).length ((ni ds).map (Value.int .i64)) rfl hown ⟨u1.heap.size,0,none⟩ 1 1 [.int .i64 (d:Int)] rfl rfl (cell_one_new _ _ _) (by intro u hu;simp at hu;subst hu;rfl) (by rw[hlen];unfold maxLen;omega) (by rw[hlen];omega) (by have:=DS.out;simp;omega) ?_)
    intro v' w' hown' hgrow hne hblk;have hv':OwnV w' (w.heap.size+3) v' (ni (ds++[d])):=by
     have h:=hown';rw[OwnV,ni_length,List.length_append,hS.out.len];have e:(ni (ds++[d])).map (Value.int .i64)=(ni ds).map (Value.int .i64)++[.int .i64 (d:Int)]:=by simp[ni]
     rw[e];exact h
    have hrow:∀ b,b<w.heap.size+3→(Value.slice A m cap).ownBlock≠some b:=fun b hb he=>by
     have:=(World.ownsRow.lt DO.out b he).1
     omega
    have M0:=(D0.alloc (.cells #[.int .i64 (d:Int)] 3)).grown hgrow (hrow _ (by omega));have M1:=(D1.alloc (.cells #[.int .i64 (d:Int)] 3)).grown hgrow (hrow _ (by omega));have M2:=(D2.alloc (.cells #[.int .i64 (d:Int)] 3)).grown hgrow (hrow _ (by omega));have MB:=zz ((DB.out.alloc DB.out.size (.cells #[.int .i64 (d:Int)] 3)).grown hgrow (by have:=DB.out.size;simp;omega) (fun g he=>by have:=(World.ownsRow.lt DO.out g he).1;omega));have MS:=zz (show w.heap.size+3≤w'.heap.size by have h1:=hgrow.size;have h2:=DS.out;simp at h1;omega);have MO:=zz hv';clear hown' hgrow hne hblk hown;have z00:=M0.cell0;have z01:=M0.cell1;have z10:=M1.cell0;have z11:=M1.cell1;have z20:=M2.cell0;have z21:=M2.cell1;rcases hv'.form with ⟨_,he⟩ | ⟨g',cap',rfl,_⟩
    ·simp[ni] at he
    ·have hlen2:(ni (ds++[d])).length=k+1:=by rw[ni_length,List.length_append,hS.out.len];rfl
     clear hv' hrow;go_wp2;go_roundw
     case rel=>exact⟨k+1,1,ds++[d],_,_,_,rfl,rfl,by rw[show((k+1:Nat):Int)=(k:Int)+1 by omega],by omega,by omega,k0,M0,M1,M2,MO,MS,MB⟩
     case measure=>simp[intOf] <;> omega
  ·obtain rfl:k=X.length:=by omega
   have HV:=zz (show val ds=p-q by have h:=hS.out.stop hlq (by rw[o0.out,p0.out];exact x0.out);rw[o0.out,p0.out] at h;omega);have hSm:=zz hS.out.small;have hln:ds.length≤1000000:=by rw[hS.out.len];omega
   have RO:=zz (show RN wr wr.heap.size (.slice A m cap) ds from CO.out.ri);have q00:=C0.cell0;have q01:=C0.cell1;have q10:=C1.cell0;have q11:=C1.cell1;have q20:=C2.cell0;have q21:=C2.cell1;go_wp2_with fail
   refine(made_any _ _ _ ds RO.out hSm.out hln).mono ?_;rintro e w2 ⟨hb,v2,rfl,c0⟩;rw[HV.out] at c0;obtain⟨y,hy⟩:∃ y:Int,y=sgn n (p-q):=⟨_,rfl⟩;have HY:=zz hy;rw[← hy] at c0;obtain⟨A3,c3,rfl,hs2⟩:=c0.parts;have d0:=zz (CB.out.trans (hb.mono CB.out.size));have F2:=C2.step hb;have F0:=zz hs2;clear hs2 hb c0 hy;have f0:=F2.cell0;have f1:=F2.cell1;have f2:=F2.frozen 0;have f3:=F2.frozen 1;go_wp2;(try simp only[Exit.inBlock,Exit.then])
   rw[← HY.out];exact end_one rfl F2 d0.out (by omega) F0.out rfl rfl
end Go.Proofs.YtkhljkiehohckaaGreatDoor
namespace Go.Proofs.YtkhljkiehohckaaGreatDoor
open Go Go.RowKit Dig
set_option maxRecDepth 100000 in
set_option maxHeartbeats 2000000 in
theorem Diff_less (w:World) (n:Bool) (sa sb:Value) (p q:Nat) (ha:RN w w.heap.size sa (dig p)) (hb:RN w w.heap.size sb (dig q)) (hp0:p≠0) (hq0:q≠0) (hpq:p<q) (hlq:(dig q).length≤100000) :
  Calls Tryz.prog 133 #[.agg #[.bool n,sa],.agg #[.bool n,sb]] w fun e w'=>Below w.heap.size w w'∧RetV w' (-(sgn n (q-p))) e:=by
 have k0:Hid (∀ (w:World) (va vb:Value),RN w w.heap.size va (dig p)→RN w w.heap.size vb (dig q)→Calls Tryz.prog 134 #[va,vb] w fun e w'=>Below w.heap.size w w'∧e=.returned (.bool true)):=
  zz (fun w va vb h h'=>by rw[← decide_eq_true hpq];exact RLess_any w va vb p q h h')
 have i0:Hid (∀ (w:World) (sa sb:Value),RN w w.heap.size sa (dig q)→RN w w.heap.size sb (dig p)→Calls Tryz.prog 133 #[.agg #[.bool n,sa],.agg #[.bool n,sb]] w fun e w'=>Below w.heap.size w w'∧RetV w' (sgn n (q-p)) e):=
  zz (fun w sa sb h h'=>Diff_core w n sa sb q p h h' hq0 hp0 (Nat.le_of_lt hpq) hlq)
 have l0:=zz (show(dig (sgn n (q-p)).natAbs).length≤1000000 by
  have h1:(sgn n (q-p)).natAbs≤q:=by unfold sgn;split <;> omega
  exact Nat.le_trans (dig_len_mono h1) (by omega))
 have hX0:0<(dig p).length:=List.length_pos_iff.2 (fun e=>hp0 (dig_eq_nil.1 e));have hY0:0<(dig q).length:=List.length_pos_iff.2 (fun e=>hq0 (dig_eq_nil.1 e));obtain⟨z,hz⟩:∃ z,z=sgn n (q-p):=⟨_,rfl⟩;rw[← hz];rw[← hz] at i0 l0;generalize dig p=X at *
 generalize dig q=Y at *
 clear hp0 hq0 hpq hlq hz;obtain⟨A1,c1,rfl,-⟩:=ha.cell;obtain⟨A2,c2,rfl,-⟩:=hb.cell;obtain⟨w0,hw0⟩:∃ w0:World,w0=((w.alloc (.cells #[.bool n,.slice A1 X.length c1] 41)).alloc (.cells #[.bool n,.slice A2 Y.length c2] 41)).alloc (.cells #[.bool false,.slice none 0 0] 41):=⟨_,rfl⟩;have a0:=zz (show Below w.heap.size w w0 from by rw[hw0];(repeat' (first | exact Below.refl _ _ | refine Below.drew ?_ | refine Below.alloc ?_ (by first | exact Nat.le_refl _ | (simp;done) | (simp;omega)) _)));have L0:LB w0 w.heap.size (.bool n) (.slice A1 X.length c1):=by rw[hw0];(repeat (first | (refine LB.new' ?_;simp;done) | refine LB.alloc ?_ _))
 have L1:LB w0 (w.heap.size+1) (.bool n) (.slice A2 Y.length c2):=by rw[hw0];(repeat (first | (refine LB.new' ?_;simp;done) | refine LB.alloc ?_ _))
 have L2:LB w0 (w.heap.size+2) (.bool false) (.slice none 0 0):=by rw[hw0];(repeat (first | (refine LB.new' ?_;simp;done) | refine LB.alloc ?_ _))
 have HA:=zz ha;have m0:=zz hb;subst hw0;clear ha hb;have hXb:((X.length:Int)==0)=false:=by rw[beq_eq_false_iff_ne];omega
 have hYb:((Y.length:Int)==0)=false:=by rw[beq_eq_false_iff_ne];omega
 go_enter Tryz.func133,Tryz.ntmps133
 go_wp2_with fail
 refine(k0.out _ _ _ (RN.stepN HA.out a0.out) (RN.stepN m0.out a0.out)).mono ?_;rintro e w1 ⟨b0,rfl⟩;have N0:=L0.step b0;have N1:=L1.step b0;have N2:=L2.step b0;have NB:=zz (a0.out.trans (b0.mono a0.out.size));clear b0 a0 L0 L1 L2 k0;have q00:=N0.cell0;have q01:=N0.cell1;have q10:=N1.cell0;have q11:=N1.cell1;go_wp2_with fail
 refine(i0.out _ _ _ (RN.stepN m0.out NB.out) (RN.stepN HA.out NB.out)).mono ?_;rintro e w2 ⟨c0,v2,rfl,g0⟩;have P2:=N2.step c0;have PB:=zz (NB.out.trans (c0.mono NB.out.size));have n0:=zz g0;clear c0 g0 N0 N1 N2 NB i0 q00 q01 q10 q11;go_wp2_with fail
 refine(RMinus_any _ _ z n0.out l0.out).mono ?_;rintro e w3 ⟨d0,v3,rfl,e0⟩;obtain⟨y,hy⟩:∃ y:Int,y=-z:=⟨_,rfl⟩;have HY:=zz hy;rw[← hy] at e0;obtain⟨A3,c3,rfl,hs3⟩:=e0.parts;have F2:=P2.step d0;have h0:=zz (PB.out.trans (d0.mono PB.out.size));have q0:=zz hs3;clear d0 e0 hs3 hy P2 PB n0;have f0:=F2.cell0;have f1:=F2.cell1;have f2:=F2.frozen 0;have f3:=F2.frozen 1;go_wp2;(try simp only[Exit.inBlock,Exit.then])
 rw[← HY.out];exact end_one rfl F2 h0.out (by omega) q0.out rfl rfl
theorem same_sub {x y:Int} (h:decide (x<0)=decide (y<0)) :
  (y.natAbs≤x.natAbs→sgn (decide (x<0)) (x.natAbs-y.natAbs)=x-y)∧(x.natAbs<y.natAbs→-(sgn (decide (x<0)) (y.natAbs-x.natAbs))=x-y):=by
 by_cases hx0:x<0
 ·have hy0:y<0:=by rw[decide_eq_true hx0] at h;exact of_decide_eq_true h.symm
  rw[decide_eq_true hx0];exact⟨fun _=>by show -((x.natAbs-y.natAbs:Nat):Int)=_;omega,fun _=>by show -(-((y.natAbs-x.natAbs:Nat):Int))=_;omega⟩
 ·have hy0:¬ y<0:=by rw[decide_eq_false hx0] at h;exact of_decide_eq_false h.symm
  rw[decide_eq_false hx0];exact⟨fun _=>by show((x.natAbs-y.natAbs:Nat):Int)=_;omega,fun _=>by show -((y.natAbs-x.natAbs:Nat):Int)=_;omega⟩
theorem same_add {x y:Int} (h:decide (x<0)=decide (y<0)):sgn (decide (x<0)) (x.natAbs+y.natAbs)=x+y:=by
 by_cases hx0:x<0
 ·have hy0:y<0:=by rw[decide_eq_true hx0] at h;exact of_decide_eq_true h.symm
  rw[decide_eq_true hx0]
  show -((x.natAbs+y.natAbs:Nat):Int)=_;omega
 ·have hy0:¬ y<0:=by rw[decide_eq_false hx0] at h;exact of_decide_eq_false h.symm
  rw[decide_eq_false hx0]
  show((x.natAbs+y.natAbs:Nat):Int)=_;omega
theorem Diff_same (w:World) (va vb:Value) (x y:Int) (ha:LV w w.heap.size va x) (hb:LV w w.heap.size vb y) (h:decide (x<0)=decide (y<0)) (hx:x≠0) (hy:y≠0) (hlx:(dig x.natAbs).length≤100000) (hly:(dig y.natAbs).length≤100000) :
  Calls Tryz.prog 133 #[va,vb] w fun e w'=>Below w.heap.size w w'∧RetV w' (x-y) e:=by
 obtain⟨sa,rfl,hsa⟩:=ha;obtain⟨sb,rfl,hsb⟩:=hb;rw[← h];rcases Nat.lt_or_ge x.natAbs y.natAbs with h1 | h1
 ·rw[← (same_sub h).2 h1];exact Diff_less w _ sa sb _ _ hsa hsb (by omega) (by omega) h1 hly
 ·rw[← (same_sub h).1 h1];exact Diff_core w _ sa sb _ _ hsa hsb (by omega) (by omega) h1 hlx
theorem Sum_same (w:World) (va vb:Value) (x y:Int) (ha:LV w w.heap.size va x) (hb:LV w w.heap.size vb y) (h:decide (x<0)=decide (y<0)) (hx:x≠0) (hy:y≠0) (hlx:(dig x.natAbs).length≤100000) (hly:(dig y.natAbs).length≤100000) :
  Calls Tryz.prog 105 #[va,vb] w fun e w'=>Below w.heap.size w w'∧RetV w' (x+y) e:=by
 obtain⟨sa,rfl,hsa⟩:=ha;obtain⟨sb,rfl,hsb⟩:=hb;rw[← h,← same_add h];have h1:=Sum_core w (decide (x<0)) sa sb (dig x.natAbs) (dig y.natAbs) hsa hsb (dig_small _) (dig_small _) (List.length_pos_iff.2 (fun e=>hx (Int.natAbs_eq_zero.1 (dig_eq_nil.1 e)))) (List.length_pos_iff.2 (fun e=>hy (Int.natAbs_eq_zero.1 (dig_eq_nil.1 e)))) hlx hly;rw[val_dig,val_dig] at h1;exact h1
end Go.Proofs.YtkhljkiehohckaaGreatDoor
namespace Go.Proofs.YtkhljkiehohckaaGreatDoor
open Go Go.RowKit Dig
set_option maxRecDepth 100000 in
set_option maxHeartbeats 2000000 in
theorem RDiff_any (w:World) (va vb:Value) (x y:Int) (ha:LV w w.heap.size va x) (hb:LV w w.heap.size vb y) (hlx:(dig x.natAbs).length≤100000) (hly:(dig y.natAbs).length≤100000) :
  Calls Tryz.prog 133 #[va,vb] w fun e w'=>Below w.heap.size w w'∧RetV w' (x-y) e:=by
 by_cases hs:x≠0∧y≠0∧decide (x<0)=decide (y<0)
 ·exact Diff_same w va vb x y ha hb hs.2.2 hs.1 hs.2.1 hlx hly
 obtain⟨A1,c1,rfl,-⟩:=ha.parts;obtain⟨A2,c2,rfl,-⟩:=hb.parts;have hX1:(((dig x.natAbs).length:Int)==0)=decide (x=0):=by
  by_cases h:x=0
  ·subst h;rw[show(0:Int).natAbs=0 from rfl,dig_zero];rfl
  ·have h1:0<(dig x.natAbs).length:=List.length_pos_iff.2 (fun e=>h (Int.natAbs_eq_zero.1 (dig_eq_nil.1 e)));rw[decide_eq_false h,beq_eq_false_iff_ne];omega
 have hY1:(((dig y.natAbs).length:Int)==0)=decide (y=0):=by
  by_cases h:y=0
  ·subst h;rw[show(0:Int).natAbs=0 from rfl,dig_zero];rfl
  ·have h1:0<(dig y.natAbs).length:=List.length_pos_iff.2 (fun e=>h (Int.natAbs_eq_zero.1 (dig_eq_nil.1 e)));rw[decide_eq_false h,beq_eq_false_iff_ne];omega
 have x0:=zz (show(dig x.natAbs).length≤100000 from hlx);have N0:=zz (show(dig y.natAbs).length≤100000 from hly);have o0:=zz (show(dig (-y).natAbs).length≤100000 by rw[Int.natAbs_neg];exact hly);have i0:=zz (show(dig y.natAbs).length≤1000000 by omega);have p0:Hid (RI w w.heap.size (.slice A1 (dig x.natAbs).length c1) (ni (dig x.natAbs))):=zz (by obtain⟨s,h1,h2⟩:=ha;injection h1 with h1;simp at h1;subst h1;exact h2);have q0:Hid (RI w w.heap.size (.slice A2 (dig y.natAbs).length c2) (ni (dig y.natAbs))):=zz (by obtain⟨s,h1,h2⟩:=hb;injection h1 with h1;simp at h1;subst h1;exact h2);have y0:Hid (decide (x<0)=decide (x<0)):=zz rfl;have r0:Hid (x≠0→y≠0→decide (x<0)=decide ((-y)<0)):=zz (fun h1 h2=>by
  have h3:¬ decide (x<0)=decide (y<0):=fun h=>hs ⟨h1,h2,h⟩
  by_cases hx:x<0 <;> by_cases hy:y<0
  ·rw[decide_eq_true hx,decide_eq_true hy] at h3;exact absurd rfl h3
  ·rw[decide_eq_true hx,decide_eq_true (by omega)]
  ·rw[decide_eq_false hx,decide_eq_false (by omega)]
  ·rw[decide_eq_false hx,decide_eq_false hy] at h3;exact absurd rfl h3)
 have j0:Hid (x≠0→y≠0→(decide (x<0)==decide (y<0))=false):=zz (fun h1 h2=>by
  rw[beq_eq_false_iff_ne];exact fun h=>hs ⟨h1,h2,h⟩)
 obtain⟨na,hna⟩:∃ na,na=decide (x<0):=⟨_,rfl⟩;obtain⟨nb,hnb⟩:∃ nb,nb=decide (y<0):=⟨_,rfl⟩;obtain⟨lx,hlx'⟩:∃ l,l=(dig x.natAbs).length:=⟨_,rfl⟩;obtain⟨ly,hly'⟩:∃ l,l=(dig y.natAbs).length:=⟨_,rfl⟩;rw[← hna,← hlx'] at ha;rw[← hnb,← hly'] at hb;rw[← hna,← hnb,← hlx',← hly'];rw[← hna,← hnb] at j0;rw[← hlx'] at hX1 p0;rw[← hly'] at hY1 q0;have O0:=zz hna;have P0:=zz hnb;have s0:=zz ha;have z0:=zz hb;have k0:Hid (Below w.heap.size w (((w.alloc (.cells #[.bool na,.slice A1 lx c1] 41)).alloc (.cells #[.bool nb,.slice A2 ly c2] 41)).alloc (.cells #[.bool na,.slice A1 lx c1] 41))):=zz (by(repeat' (first | exact Below.refl _ _ | refine Below.drew ?_ | refine Below.alloc ?_ (by first | exact Nat.le_refl _ | (simp;done) | (simp;omega)) _)));have I0:Hid (Below w.heap.size w (((w.alloc (.cells #[.bool na,.slice A1 lx c1] 41)).alloc (.cells #[.bool nb,.slice A2 ly c2] 41)).alloc (.cells #[.bool nb,.slice A2 ly c2] 41))):=zz (by(repeat' (first | exact Below.refl _ _ | refine Below.drew ?_ | refine Below.alloc ?_ (by first | exact Nat.le_refl _ | (simp;done) | (simp;omega)) _)));have A0:LB (((w.alloc (.cells #[.bool na,.slice A1 lx c1] 41)).alloc (.cells #[.bool nb,.slice A2 ly c2] 41)).alloc (.cells #[.bool na,.slice A1 lx c1] 41)) (w.heap.size+2) (.bool na) (.slice A1 lx c1):=by(repeat (first | (refine LB.new' ?_;simp;done) | refine LB.alloc ?_ _))
 have Q0:LB (((w.alloc (.cells #[.bool na,.slice A1 lx c1] 41)).alloc (.cells #[.bool nb,.slice A2 ly c2] 41)).alloc (.cells #[.bool nb,.slice A2 ly c2] 41)) (w.heap.size+2) (.bool nb) (.slice A2 ly c2):=by(repeat (first | (refine LB.new' ?_;simp;done) | refine LB.alloc ?_ _))
 obtain⟨w0,hw0⟩:∃ w0:World,w0=((w.alloc (.cells #[.bool na,.slice A1 lx c1] 41)).alloc (.cells #[.bool nb,.slice A2 ly c2] 41)).alloc (.cells #[.bool false,.slice none 0 0] 41):=⟨_,rfl⟩;have a0:=zz (show Below w.heap.size w w0 from by rw[hw0];(repeat' (first | exact Below.refl _ _ | refine Below.drew ?_ | refine Below.alloc ?_ (by first | exact Nat.le_refl _ | (simp;done) | (simp;omega)) _)));have L0:LB w0 w.heap.size (.bool na) (.slice A1 lx c1):=by rw[hw0];(repeat (first | (refine LB.new' ?_;simp;done) | refine LB.alloc ?_ _))
 have L1:LB w0 (w.heap.size+1) (.bool nb) (.slice A2 ly c2):=by rw[hw0];(repeat (first | (refine LB.new' ?_;simp;done) | refine LB.alloc ?_ _))
 have L2:LB w0 (w.heap.size+2) (.bool false) (.slice none 0 0):=by rw[hw0];(repeat (first | (refine LB.new' ?_;simp;done) | refine LB.alloc ?_ _))
 have t0:=zz (LV.step s0.out a0.out);have l0:=zz (LV.step z0.out a0.out);have R0:=zz (RI.step p0.out a0.out);have S0:=zz (RI.step q0.out a0.out);subst hw0;clear ha hb hna hnb hlx' hly' hlx hly hs y0;by_cases hx:x=0
 ·rw[decide_eq_true hx] at hX1;have HR:=zz (show x-y=-y by omega);clear hx hY1;go_enter Tryz.func133,Tryz.ntmps133
  go_wp2_with fail
  refine(RMinus_any _ _ y l0.out i0.out).mono ?_;rintro e w3 ⟨d0,v3,rfl,e0⟩;obtain⟨r,hr⟩:∃ r:Int,r=-y:=⟨_,rfl⟩;have B0:=zz hr;rw[← hr] at e0;obtain⟨A3,c3,rfl,hs3⟩:=e0.parts;have F2:=L2.step d0;have FB:=zz (a0.out.trans (d0.mono a0.out.size));have n0:=zz hs3;clear d0 e0 hs3 hr;have f0:=F2.cell0;have f1:=F2.cell1;have f2:=F2.frozen 0;have f3:=F2.frozen 1;go_wp2;(try simp only[Exit.inBlock,Exit.then])
  rw[HR.out,← B0.out];exact end_one rfl F2 FB.out (by omega) n0.out rfl rfl
 rw[decide_eq_false hx] at hX1;by_cases hy:y=0
 ·rw[decide_eq_true hy] at hY1;have HR:=zz (show x-y=x by omega);clear hx hy;go_enter Tryz.func133,Tryz.ntmps133
  go_wp2;(try simp only[Exit.inBlock,Exit.then])
  rw[HR.out];exact bodyPost_ret (LB.ret1 rfl _ A0 rfl) rfl ⟨k0.out,_,rfl,LV.step s0.out k0.out⟩
 rw[decide_eq_false hy] at hY1;have hne:=j0.out hx hy;have HS:=zz (r0.out hx hy);have HX:=zz hx;have u0:=zz (show -y≠0 by omega);clear hx hy r0 j0;obtain⟨m,hm⟩:∃ m,m=-y:=⟨_,rfl⟩;have HM:=zz hm;rw[← hm] at HS u0 o0;clear hm;have q00:=L0.cell0;have q01:=L0.cell1;have q10:=L1.cell0;have q11:=L1.cell1;have tok1:True:=trivial;have tok2:True:=trivial;have nz0:w.heap.size≠w.heap.size+2:=by omega
 have nz1:w.heap.size+1≠w.heap.size+2:=by omega
 go_enter Tryz.func133,Tryz.ntmps133
 go_wp2_with fail
 go_region_held3 (fun w'=>w'.cell? ⟨w.heap.size,0,none⟩=some (.bool na)∧w'.cell? ⟨w.heap.size,1,none⟩=some (.slice A1 lx c1)∧w'.cell? ⟨w.heap.size+1,0,none⟩=some (.bool nb)∧w'.cell? ⟨w.heap.size+1,1,none⟩=some (.slice A2 ly c2)) (first
  | (exact⟨L0.cell0,L0.cell1,L1.cell0,L1.cell1⟩)
  | (exact⟨(LB.drew L0).cell0,(LB.drew L0).cell1,(LB.drew L1).cell0,(LB.drew L1).cell1⟩)
  | (exact⟨D0.cell0,D0.cell1,D1.cell0,D1.cell1⟩)
  | (exact⟨(LB.drew D0).cell0,(LB.drew D0).cell1,(LB.drew D1).cell0,(LB.drew D1).cell1⟩)
  | (exact⟨E0.cell0,E0.cell1,E1.cell0,E1.cell1⟩)
  | (exact⟨(LB.drew E0).cell0,(LB.drew E0).cell1,(LB.drew E1).cell0,(LB.drew E1).cell1⟩)
  | (exact⟨(LB.far (LB.far E0 (p:=⟨w.heap.size+2,0,none⟩) nz0 _) (p:=⟨w.heap.size+2,1,none⟩) nz0 _).cell0,(LB.far (LB.far E0 (p:=⟨w.heap.size+2,0,none⟩) nz0 _) (p:=⟨w.heap.size+2,1,none⟩) nz0 _).cell1,(LB.far (LB.far E1 (p:=⟨w.heap.size+2,0,none⟩) nz1 _) (p:=⟨w.heap.size+2,1,none⟩) nz1 _).cell0,(LB.far (LB.far E1 (p:=⟨w.heap.size+2,0,none⟩) nz1 _) (p:=⟨w.heap.size+2,1,none⟩) nz1 _).cell1⟩)
  | go_keep) (first
  | (go_at_call 135;clear tok1;((with_reducible refine(RMinus_any _ _ y (by first | exact l0.out | exact LV.drew1 l0.out) i0.out).mono ?_);rintro e u1 ⟨b0,v1,rfl,g0⟩;rw[← HM.out] at g0;have D0:=LB.step (b:=w.heap.size) (x:=(.bool na)) (y:=(.slice A1 lx c1)) (by first | exact L0 | exact LB.drew L0) b0;have D1:=LB.step (b:=(w.heap.size+1)) (x:=(.bool nb)) (y:=(.slice A2 ly c2)) (by first | exact L1 | exact LB.drew L1) b0;have D2:=LB.step (b:=(w.heap.size+2)) (x:=(.bool false)) (y:=(.slice none 0 0)) (by first | exact L2 | exact LB.drew L2) b0;have DB:=zz (show Below w.heap.size w u1 from by first | exact below_call0 a0.out b0 | exact below_call_drew0 a0.out b0);have v0:=zz (LV.step (v:=.agg #[.bool na,.slice A1 lx c1]) (z:=x) (by first | exact t0.out | exact LV.drew1 t0.out) b0);have VM:=zz g0;clear b0 g0))
  | (go_at_call 105;clear tok2;((with_reducible refine(Sum_same _ _ _ x m (by first | exact v0.out | exact LV.drew1 v0.out) (by first | exact VM.out | exact LV.drew1 VM.out) HS.out HX.out u0.out x0.out o0.out).mono ?_);rintro e u2 ⟨c0,v2,rfl,h0⟩;have E0:=LB.step (b:=w.heap.size) (x:=(.bool na)) (y:=(.slice A1 lx c1)) (by first | exact D0 | exact LB.drew D0) c0;have E1:=LB.step (b:=(w.heap.size+1)) (x:=(.bool nb)) (y:=(.slice A2 ly c2)) (by first | exact D1 | exact LB.drew D1) c0;have E2:=LB.step (b:=(w.heap.size+2)) (x:=(.bool false)) (y:=(.slice none 0 0)) (by first | exact D2 | exact LB.drew D2) c0;have EB:=zz (show Below w.heap.size w u2 from by first | exact below_call0 DB.out c0 | exact below_call_drew0 DB.out c0);obtain⟨r,hr⟩:∃ r:Int,r=x+m:=⟨_,rfl⟩;rw[← hr] at h0;obtain⟨A3,c3,rfl,hs3⟩:=h0.parts;have HR:=zz (show r=x-y by rw[hr,HM.out];omega);have n0:=zz hs3;clear c0 h0 hs3 hr;have f0:=E2.cell0;have f1:=E2.cell1;have f2:=E2.frozen 0;have f3:=E2.frozen 1;have f4:=E2.lt)))
 go_wp2;(try simp only[Exit.inBlock,Exit.then])
 rw[← HR.out];exact end_one rfl E2 EB.out (by omega) n0.out rfl rfl
set_option maxRecDepth 100000 in
set_option maxHeartbeats 2000000 in
theorem RSum_any (w:World) (va vb:Value) (x y:Int) (ha:LV w w.heap.size va x) (hb:LV w w.heap.size vb y) (hlx:(dig x.natAbs).length≤100000) (hly:(dig y.natAbs).length≤100000) :
  Calls Tryz.prog 105 #[va,vb] w fun e w'=>Below w.heap.size w w'∧RetV w' (x+y) e:=by
 by_cases hs:x≠0∧y≠0∧decide (x<0)=decide (y<0)
 ·exact Sum_same w va vb x y ha hb hs.2.2 hs.1 hs.2.1 hlx hly
 obtain⟨A1,c1,rfl,-⟩:=ha.parts;obtain⟨A2,c2,rfl,-⟩:=hb.parts;have hX1:(((dig x.natAbs).length:Int)==0)=decide (x=0):=by
  by_cases h:x=0
  ·subst h;rw[show(0:Int).natAbs=0 from rfl,dig_zero];rfl
  ·have h1:0<(dig x.natAbs).length:=List.length_pos_iff.2 (fun e=>h (Int.natAbs_eq_zero.1 (dig_eq_nil.1 e)));rw[decide_eq_false h,beq_eq_false_iff_ne];omega
 have hY1:(((dig y.natAbs).length:Int)==0)=decide (y=0):=by
  by_cases h:y=0
  ·subst h;rw[show(0:Int).natAbs=0 from rfl,dig_zero];rfl
  ·have h1:0<(dig y.natAbs).length:=List.length_pos_iff.2 (fun e=>h (Int.natAbs_eq_zero.1 (dig_eq_nil.1 e)));rw[decide_eq_false h,beq_eq_false_iff_ne];omega
 have v0:=zz (show(dig x.natAbs).length≤100000 from hlx);have J0:=zz (show(dig y.natAbs).length≤100000 from hly);have k0:=zz (show(dig (-y).natAbs).length≤100000 by rw[Int.natAbs_neg];exact hly);have u0:=zz (show(dig y.natAbs).length≤1000000 by omega);have l0:Hid (RI w w.heap.size (.slice A1 (dig x.natAbs).length c1) (ni (dig x.natAbs))):=zz (by obtain⟨s,h1,h2⟩:=ha;injection h1 with h1;simp at h1;subst h1;exact h2);have m0:Hid (RI w w.heap.size (.slice A2 (dig y.natAbs).length c2) (ni (dig y.natAbs))):=zz (by obtain⟨s,h1,h2⟩:=hb;injection h1 with h1;simp at h1;subst h1;exact h2);have x0:Hid (decide (x<0)=decide (x<0)):=zz rfl;have n0:Hid (x≠0→y≠0→decide (x<0)=decide ((-y)<0)):=zz (fun h1 h2=>by
  have h3:¬ decide (x<0)=decide (y<0):=fun h=>hs ⟨h1,h2,h⟩
  by_cases hx:x<0 <;> by_cases hy:y<0
  ·rw[decide_eq_true hx,decide_eq_true hy] at h3;exact absurd rfl h3
  ·rw[decide_eq_true hx,decide_eq_true (by omega)]
  ·rw[decide_eq_false hx,decide_eq_false (by omega)]
  ·rw[decide_eq_false hx,decide_eq_false hy] at h3;exact absurd rfl h3)
 have g0:Hid (x≠0→y≠0→(decide (x<0)==decide (y<0))=false):=zz (fun h1 h2=>by
  rw[beq_eq_false_iff_ne];exact fun h=>hs ⟨h1,h2,h⟩)
 obtain⟨na,hna⟩:∃ na,na=decide (x<0):=⟨_,rfl⟩;obtain⟨nb,hnb⟩:∃ nb,nb=decide (y<0):=⟨_,rfl⟩;obtain⟨lx,hlx'⟩:∃ l,l=(dig x.natAbs).length:=⟨_,rfl⟩;obtain⟨ly,hly'⟩:∃ l,l=(dig y.natAbs).length:=⟨_,rfl⟩;rw[← hna,← hlx'] at ha;rw[← hnb,← hly'] at hb;rw[← hna,← hnb,← hlx',← hly'];rw[← hna,← hnb] at g0;rw[← hlx'] at hX1 l0;rw[← hly'] at hY1 m0;have K0:=zz hna;have M0:=zz hnb;have o0:=zz ha;have p0:=zz hb;have h0:Hid (Below w.heap.size w (((w.alloc (.cells #[.bool na,.slice A1 lx c1] 41)).alloc (.cells #[.bool nb,.slice A2 ly c2] 41)).alloc (.cells #[.bool na,.slice A1 lx c1] 41))):=zz (by(repeat' (first | exact Below.refl _ _ | refine Below.drew ?_ | refine Below.alloc ?_ (by first | exact Nat.le_refl _ | (simp;done) | (simp;omega)) _)));have i0:Hid (Below w.heap.size w (((w.alloc (.cells #[.bool na,.slice A1 lx c1] 41)).alloc (.cells #[.bool nb,.slice A2 ly c2] 41)).alloc (.cells #[.bool nb,.slice A2 ly c2] 41))):=zz (by(repeat' (first | exact Below.refl _ _ | refine Below.drew ?_ | refine Below.alloc ?_ (by first | exact Nat.le_refl _ | (simp;done) | (simp;omega)) _)));have y0:LB (((w.alloc (.cells #[.bool na,.slice A1 lx c1] 41)).alloc (.cells #[.bool nb,.slice A2 ly c2] 41)).alloc (.cells #[.bool na,.slice A1 lx c1] 41)) (w.heap.size+2) (.bool na) (.slice A1 lx c1):=by(repeat (first | (refine LB.new' ?_;simp;done) | refine LB.alloc ?_ _))
 have z0:LB (((w.alloc (.cells #[.bool na,.slice A1 lx c1] 41)).alloc (.cells #[.bool nb,.slice A2 ly c2] 41)).alloc (.cells #[.bool nb,.slice A2 ly c2] 41)) (w.heap.size+2) (.bool nb) (.slice A2 ly c2):=by(repeat (first | (refine LB.new' ?_;simp;done) | refine LB.alloc ?_ _))
 obtain⟨w0,hw0⟩:∃ w0:World,w0=((w.alloc (.cells #[.bool na,.slice A1 lx c1] 41)).alloc (.cells #[.bool nb,.slice A2 ly c2] 41)).alloc (.cells #[.bool false,.slice none 0 0] 41):=⟨_,rfl⟩;have b0:=zz (show Below w.heap.size w w0 from by rw[hw0];(repeat' (first | exact Below.refl _ _ | refine Below.drew ?_ | refine Below.alloc ?_ (by first | exact Nat.le_refl _ | (simp;done) | (simp;omega)) _)));have L0:LB w0 w.heap.size (.bool na) (.slice A1 lx c1):=by rw[hw0];(repeat (first | (refine LB.new' ?_;simp;done) | refine LB.alloc ?_ _))
 have L1:LB w0 (w.heap.size+1) (.bool nb) (.slice A2 ly c2):=by rw[hw0];(repeat (first | (refine LB.new' ?_;simp;done) | refine LB.alloc ?_ _))
 have L2:LB w0 (w.heap.size+2) (.bool false) (.slice none 0 0):=by rw[hw0];(repeat (first | (refine LB.new' ?_;simp;done) | refine LB.alloc ?_ _))
 have q0:=zz (LV.step o0.out b0.out);have r0:=zz (LV.step p0.out b0.out);have N0:=zz (RI.step l0.out b0.out);have O0:=zz (RI.step m0.out b0.out);subst hw0;clear ha hb hna hnb hlx' hly' hlx hly hs x0;by_cases hx:x=0
 ·rw[decide_eq_true hx] at hX1;have HR:=zz (show x+y=y by omega);clear hx hY1;go_enter Tryz.func105,Tryz.ntmps105
  go_wp2;(try simp only[Exit.inBlock,Exit.then])
  rw[HR.out];exact bodyPost_ret (LB.ret1 rfl _ z0 rfl) rfl ⟨i0.out,_,rfl,LV.step p0.out i0.out⟩
 rw[decide_eq_false hx] at hX1;by_cases hy:y=0
 ·rw[decide_eq_true hy] at hY1;have HR:=zz (show x+y=x by omega);clear hx hy;go_enter Tryz.func105,Tryz.ntmps105
  go_wp2;(try simp only[Exit.inBlock,Exit.then])
  rw[HR.out];exact bodyPost_ret (LB.ret1 rfl _ y0 rfl) rfl ⟨h0.out,_,rfl,LV.step o0.out h0.out⟩
 rw[decide_eq_false hy] at hY1;have hne:=g0.out hx hy;have HS:=zz (n0.out hx hy);have HX:=zz hx;have s0:=zz (show -y≠0 by omega);clear hx hy n0 g0;obtain⟨m,hm⟩:∃ m,m=-y:=⟨_,rfl⟩;have HM:=zz hm;rw[← hm] at HS s0 k0;clear hm;have q00:=L0.cell0;have q01:=L0.cell1;have q10:=L1.cell0;have q11:=L1.cell1;have tok1:True:=trivial;have tok2:True:=trivial;have nz0:w.heap.size≠w.heap.size+2:=by omega
 have nz1:w.heap.size+1≠w.heap.size+2:=by omega
 go_enter Tryz.func105,Tryz.ntmps105
 go_wp2_with fail
 go_region_held3 (fun w'=>w'.cell? ⟨w.heap.size,0,none⟩=some (.bool na)∧w'.cell? ⟨w.heap.size,1,none⟩=some (.slice A1 lx c1)∧w'.cell? ⟨w.heap.size+1,0,none⟩=some (.bool nb)∧w'.cell? ⟨w.heap.size+1,1,none⟩=some (.slice A2 ly c2)) (first
  | (exact⟨L0.cell0,L0.cell1,L1.cell0,L1.cell1⟩)
  | (exact⟨(LB.drew L0).cell0,(LB.drew L0).cell1,(LB.drew L1).cell0,(LB.drew L1).cell1⟩)
  | (exact⟨D0.cell0,D0.cell1,D1.cell0,D1.cell1⟩)
  | (exact⟨(LB.drew D0).cell0,(LB.drew D0).cell1,(LB.drew D1).cell0,(LB.drew D1).cell1⟩)
  | (exact⟨E0.cell0,E0.cell1,E1.cell0,E1.cell1⟩)
  | (exact⟨(LB.drew E0).cell0,(LB.drew E0).cell1,(LB.drew E1).cell0,(LB.drew E1).cell1⟩)
  | (exact⟨(LB.far (LB.far E0 (p:=⟨w.heap.size+2,0,none⟩) nz0 _) (p:=⟨w.heap.size+2,1,none⟩) nz0 _).cell0,(LB.far (LB.far E0 (p:=⟨w.heap.size+2,0,none⟩) nz0 _) (p:=⟨w.heap.size+2,1,none⟩) nz0 _).cell1,(LB.far (LB.far E1 (p:=⟨w.heap.size+2,0,none⟩) nz1 _) (p:=⟨w.heap.size+2,1,none⟩) nz1 _).cell0,(LB.far (LB.far E1 (p:=⟨w.heap.size+2,0,none⟩) nz1 _) (p:=⟨w.heap.size+2,1,none⟩) nz1 _).cell1⟩)
  | go_keep) (first
  | (go_at_call 135;clear tok1;((with_reducible refine(RMinus_any _ _ y (by first | exact r0.out | exact LV.drew1 r0.out) u0.out).mono ?_);rintro e u1 ⟨a0,v1,rfl,d0⟩;rw[← HM.out] at d0;have D0:=LB.step (b:=w.heap.size) (x:=(.bool na)) (y:=(.slice A1 lx c1)) (by first | exact L0 | exact LB.drew L0) a0;have D1:=LB.step (b:=(w.heap.size+1)) (x:=(.bool nb)) (y:=(.slice A2 ly c2)) (by first | exact L1 | exact LB.drew L1) a0;have D2:=LB.step (b:=(w.heap.size+2)) (x:=(.bool false)) (y:=(.slice none 0 0)) (by first | exact L2 | exact LB.drew L2) a0;have DB:=zz (show Below w.heap.size w u1 from by first | exact below_call0 b0.out a0 | exact below_call_drew0 b0.out a0);have t0:=zz (LV.step (v:=.agg #[.bool na,.slice A1 lx c1]) (z:=x) (by first | exact q0.out | exact LV.drew1 q0.out) a0);have VM:=zz d0;clear a0 d0))
  | (go_at_call 133;clear tok2;((with_reducible refine(Diff_same _ _ _ x m (by first | exact t0.out | exact LV.drew1 t0.out) (by first | exact VM.out | exact LV.drew1 VM.out) HS.out HX.out s0.out v0.out k0.out).mono ?_);rintro e u2 ⟨c0,v2,rfl,e0⟩;have E0:=LB.step (b:=w.heap.size) (x:=(.bool na)) (y:=(.slice A1 lx c1)) (by first | exact D0 | exact LB.drew D0) c0;have E1:=LB.step (b:=(w.heap.size+1)) (x:=(.bool nb)) (y:=(.slice A2 ly c2)) (by first | exact D1 | exact LB.drew D1) c0;have E2:=LB.step (b:=(w.heap.size+2)) (x:=(.bool false)) (y:=(.slice none 0 0)) (by first | exact D2 | exact LB.drew D2) c0;have EB:=zz (show Below w.heap.size w u2 from by first | exact below_call0 DB.out c0 | exact below_call_drew0 DB.out c0);obtain⟨r,hr⟩:∃ r:Int,r=x-m:=⟨_,rfl⟩;rw[← hr] at e0;obtain⟨A3,c3,rfl,hs3⟩:=e0.parts;have HR:=zz (show r=x+y by rw[hr,HM.out];omega);have G0:=zz hs3;clear c0 e0 hs3 hr;have f0:=E2.cell0;have f1:=E2.cell1;have f2:=E2.frozen 0;have f3:=E2.frozen 1;have f4:=E2.lt)))
 go_wp2;(try simp only[Exit.inBlock,Exit.then])
 rw[← HR.out];exact end_one rfl E2 EB.out (by omega) G0.out rfl rfl
end Go.Proofs.YtkhljkiehohckaaGreatDoor
namespace Go.Proofs.YtkhljkiehohckaaGreatDoor
open Go Go.RowKit Dig
end Go.Proofs.YtkhljkiehohckaaGreatDoor
namespace Go.Proofs.YtkhljkiehohckaaGreatDoor
open Go Go.RowKit Dig
theorem Right_good {w:World} {v:Value} {n:Bool} {l:List Int} (h:LR w w.heap.size v n l) (hv:Valid n l) :
  Calls Tryz.prog 96 #[v] w fun e w'=>Below w.heap.size w w'∧e=.returned (.bool true):=by
 refine(Right_any w v _ _ h).mono ?_;rintro e w' ⟨hw,b,rfl,hc⟩;rcases hc with ⟨_,hc⟩ | ⟨hn,_⟩
 ·exact⟨hw,by rw[hc]⟩
 ·exact absurd hv hn
theorem Right_bad {w:World} {v:Value} {n:Bool} {l:List Int} (h:LR w w.heap.size v n l) (hv:¬ Valid n l) :
  Calls Tryz.prog 96 #[v] w fun e w'=>Below w.heap.size w w'∧e=.returned (.bool false):=by
 refine(Right_any w v _ _ h).mono ?_;rintro e w' ⟨hw,b,rfl,hc⟩;rcases hc with ⟨hn,_⟩ | ⟨_,hc⟩
 ·exact absurd hn hv
 ·exact⟨hw,by rw[hc]⟩
end Go.Proofs.YtkhljkiehohckaaGreatDoor
namespace Go.Proofs.YtkhljkiehohckaaGreatDoor
open Go Go.RowKit Dig
end Go.Proofs.YtkhljkiehohckaaGreatDoor
namespace Go.Proofs.YtkhljkiehohckaaGreatDoor
open Go Go.RowKit Dig
theorem ord_num (x y:Int):(cmpZ x y).1=if x=y then 0 else if x<y then -1 else 1:=by
 unfold cmpZ;dsimp only;by_cases h:x=y
 ·subst h;simp
 ·rw[if_neg h];split <;> rfl
theorem ord_below {x y:Int} (hn:decide (x<0)=decide (y<0)) (h:x≠y):(!(decide (x.natAbs<y.natAbs)==decide (x<0)))=decide (x<y):=by
 by_cases hx:x<0
 ·have hy:y<0:=by simpa[hx] using hn
  rw[decide_eq_true hx];by_cases h1:x<y
  ·rw[decide_eq_true h1,decide_eq_false (by omega)];rfl
  ·rw[decide_eq_false h1,decide_eq_true (by omega)];rfl
 ·have hy:¬ y<0:=by simpa[hx] using hn
  rw[decide_eq_false hx];by_cases h1:x<y
  ·rw[decide_eq_true h1,decide_eq_true (by omega)];rfl
  ·rw[decide_eq_false h1,decide_eq_false (by omega)];rfl
theorem ord_sign {x y:Int} (hn:decide (x<0)≠decide (y<0)):decide (x<0)=decide (x<y):=by
 by_cases hx:x<0 <;> by_cases hy:y<0
 ·rw[decide_eq_true hx,decide_eq_true hy] at hn;exact absurd rfl hn
 ·rw[decide_eq_true hx,decide_eq_true (by omega)]
 ·rw[decide_eq_false hx,decide_eq_false (by omega)]
 ·rw[decide_eq_false hx,decide_eq_false hy] at hn;exact absurd rfl hn
theorem SameR_num {w:World} {va vb:Value} {x y:Int} (ha:LV w w.heap.size va x) (hb:LV w w.heap.size vb y) :
  Calls Tryz.prog 41 #[va,vb] w fun e w'=>Below w.heap.size w w'∧e=.returned (.bool (decide (x=y))):=by
 refine(SameR_any w va vb _ _ _ _ ha hb).mono ?_;rintro e w' ⟨hw,he⟩;have:(decide (x<0)=decide (y<0)∧ni (dig x.natAbs)=ni (dig y.natAbs))↔x=y:=⟨fun h=>lv_inj h.1 h.2,fun h=>by rw[h];exact⟨rfl,rfl⟩⟩;exact⟨hw,by rw[he,show decide (decide (x<0)=decide (y<0)∧ni (dig x.natAbs)=ni (dig y.natAbs))=decide (x=y) from decide_eq_decide.2 this]⟩
set_option maxRecDepth 100000 in
set_option maxHeartbeats 4000000 in
theorem ROrder_any (w:World) (va vb:Value) (x y:Int) (ha:LV w w.heap.size va x) (hb:LV w w.heap.size vb y) :
  Calls Tryz.prog 98 #[va,vb] w fun e w'=>Below w.heap.size w w'∧e=.returned (.int .i64 (cmpZ x y).1):=by
 obtain⟨na,A1,l1,c1,rfl,HA⟩:=ha.opened;obtain⟨nb,A2,l2,c2,rfl,HB⟩:=hb.opened;clear ha hb;obtain⟨w0,hw0⟩:∃ w0:World,w0=(w.alloc (.cells #[.bool na,.slice A1 l1 c1] 41)).alloc (.cells #[.bool nb,.slice A2 l2 c2] 41):=⟨_,rfl⟩;have a0:=zz (show Below w.heap.size w w0 by rw[hw0];(repeat' (first | exact Below.refl _ _ | refine Below.drew ?_ | refine Below.alloc ?_ (by first | exact Nat.le_refl _ | (simp;done) | (simp;omega)) _)));have L0:LB w0 w.heap.size (.bool na) (.slice A1 l1 c1):=by rw[hw0];(repeat (first | (refine LB.new' ?_;simp;done) | refine LB.alloc ?_ _))
 have L1:LB w0 (w.heap.size+1) (.bool nb) (.slice A2 l2 c2):=by rw[hw0];(repeat (first | (refine LB.new' ?_;simp;done) | refine LB.alloc ?_ _))
 replace HA:=zz (HA.step a0.out);replace HB:=zz (HB.step a0.out);have hna:=HA.out.is.1;have hnb:=HB.out.is.1;have i0:=zz HA.out.is.2.2;have j0:=zz HB.out.is.2.2;obtain⟨r,hr⟩:∃ r,r=(cmpZ x y).1:=⟨_,rfl⟩;rw[← hr];rw[ord_num] at hr;subst hw0;by_cases hxy:x=y
 ·have HR:=zz (show r=0 by rw[hr,if_pos hxy]);have HD:=zz (decide_eq_true hxy);clear hna hnb hr hxy;go_enter Tryz.func98,Tryz.ntmps98
  go_wp2_with fail
  refine(SameR_num HA.out HB.out).mono ?_;rintro e w1 ⟨b0,rfl⟩;rw[HD.out];have c0:=zz (a0.out.trans (b0.mono a0.out.size));clear b0;go_wp2;go_ret;rw[HR.out];exact⟨c0.out,rfl⟩
 ·have HD:=zz (decide_eq_false hxy);have HR:=zz (show r=if x<y then -1 else 1 by rw[hr,if_neg hxy]);by_cases hn:na=nb
  ·subst hn;have o0:=zz (show(!(decide (x.natAbs<y.natAbs)==na))=decide (x<y) by rw[hna];exact ord_below (hna.symm.trans hnb) hxy);clear hna hnb hr hxy;obtain⟨ls,hls⟩:∃ ls,ls=decide (x.natAbs<y.natAbs):=⟨_,rfl⟩;rw[← hls] at o0;have s0:=zz hls;clear hls;go_enter Tryz.func98,Tryz.ntmps98
   go_wp2_with fail
   refine(SameR_num HA.out HB.out).mono ?_;rintro e w1 ⟨b0,rfl⟩;rw[HD.out];have HU:=zz b0;clear b0;have M0:=L0.step HU.out;have M1:=L1.step HU.out;have c0:=zz (a0.out.trans (HU.out.mono a0.out.size));have k0:=zz (RN.stepN i0.out HU.out);have l0:=zz (RN.stepN j0.out HU.out);clear L0 L1 a0 HA HB i0 j0 HU;have q00:=M0.cell0;have q01:=M0.cell1;have q10:=M1.cell0;have q11:=M1.cell1;go_wp2_with fail
   have KS:∀ w':World,Below w1.heap.size w1 w'→(Below w1.heap.size w1 w'∧w'.cell? ⟨w.heap.size,0,none⟩=some (.bool na)∧w'.cell? ⟨w.heap.size,1,none⟩=some (.slice A1 l1 c1)∧w'.cell? ⟨w.heap.size+1,1,none⟩=some (.slice A2 l2 c2)):=fun w' h=>⟨h,(M0.step h).cell0,(M0.step h).cell1,(M1.step h).cell1⟩
   have KB:∀ w':World,(Below w1.heap.size w1 w'∧w'.cell? ⟨w.heap.size,0,none⟩=some (.bool na)∧w'.cell? ⟨w.heap.size,1,none⟩=some (.slice A1 l1 c1)∧w'.cell? ⟨w.heap.size+1,1,none⟩=some (.slice A2 l2 c2))→Below w1.heap.size w1 w':=fun w' h=>h.1
   go_region_held3 (fun w'=>Below w1.heap.size w1 w'∧w'.cell? ⟨w.heap.size,0,none⟩=some (.bool na)∧w'.cell? ⟨w.heap.size,1,none⟩=some (.slice A1 l1 c1)∧w'.cell? ⟨w.heap.size+1,1,none⟩=some (.slice A2 l2 c2)) (first
    | (refine KS _ ?_;repeat (first | with_reducible exact KU.out | with_reducible exact Below.refl _ _ | with_reducible refine below_drew1 ?_))
    | go_keep) (first
    | (go_at_call 134;((with_reducible refine(RLess_any _ _ _ x.natAbs y.natAbs (by exact RN.stepN k0.out (KB _ (by assumption))) (by exact RN.stepN l0.out (KB _ (by assumption)))).mono ?_);rintro e u ⟨hbu,rfl⟩;rw[← s0.out];have KU:=zz (Below.trans (KB _ (by assumption)) (hbu.mono (KB _ (by assumption)).size));clear hbu)))
   rename_i hheld
   have p0:=zz (c0.out.trans (KU.out.mono c0.out.size));clear hheld KS KB KU M0 M1 k0 l0 c0 q00 q01 q10 q11;rw[o0.out];by_cases hlt:x<y
   ·rw[decide_eq_true hlt];have e0:=zz (show r=-1 by rw[HR.out,if_pos hlt]);clear hlt;simp only[Exit.then]
    go_wp2;go_ret;rw[e0.out];exact⟨p0.out,rfl⟩
   ·rw[decide_eq_false hlt];have e0:=zz (show r=1 by rw[HR.out,if_neg hlt]);clear hlt;simp only[Exit.then]
    go_wp2;go_ret;rw[e0.out];exact⟨p0.out,rfl⟩
  ·have hnn:(na==nb)=false:=by rw[beq_eq_false_iff_ne];exact hn
   have q0:=zz (show na=decide (x<y) by rw[hna];exact ord_sign (by rw[← hna,← hnb];exact hn));clear hna hnb hr hxy hn;go_enter Tryz.func98,Tryz.ntmps98
   go_wp2_with fail
   refine(SameR_num HA.out HB.out).mono ?_;rintro e w1 ⟨b0,rfl⟩;rw[HD.out];have HU:=zz b0;clear b0;have M0:=L0.step HU.out;have M1:=L1.step HU.out;have c0:=zz (a0.out.trans (HU.out.mono a0.out.size));clear L0 L1 a0 HA HB i0 j0 HU;have q00:=M0.cell0;have q01:=M0.cell1;have q10:=M1.cell0;have q11:=M1.cell1;cases na with
   | true=>
    have e0:=zz (show r=-1 by rw[HR.out,if_pos (of_decide_eq_true q0.out.symm)]);go_wp2;go_ret;rw[e0.out];exact⟨c0.out,rfl⟩
   | false=>
    have e0:=zz (show r=1 by rw[HR.out,if_neg (of_decide_eq_false q0.out.symm)]);go_wp2;go_ret;rw[e0.out];exact⟨c0.out,rfl⟩
end Go.Proofs.YtkhljkiehohckaaGreatDoor
namespace Go.Proofs.YtkhljkiehohckaaGreatDoor
open Go Go.RowKit Dig
end Go.Proofs.YtkhljkiehohckaaGreatDoor
