/- Texts put together. -/
import Derived.Test.YtencnahjgbdeoaaGreatDoorLow
import Derived.Test.YtencnahjgbdeoaaGreatDoorOps
import Derived.Maps.AppendAt
import Derived.Deep.RegionHeld3
import Derived.IntWalk
namespace Go.Proofs.YtencnahjgbdeoaaGreatDoor
open Go Go.RowKit Dig
set_option maxRecDepth 100000
set_option maxHeartbeats 4000000
variable {w:World} {x y:Int}
theorem mT (w:World) (v:Value) (l:List Nat) (k:Nat) (h:RN w w.heap.size v l) :
  CV 139 #[v,.int .i64 k] w fun e _=>e=.returned (.int .i64 ((l.getD k 0:Nat):Int)):=
 (aBs w v _ k h).mono fun e w' ⟨hw,he⟩=>⟨hw,by rw[he,gK]⟩
theorem XQ (w:World) (n:Bool) (sa sb:Value) (X Y:List Nat) (ha:RN w w.heap.size sa X) (hb:RN w w.heap.size sb Y) (hsX:Small X) (hsY:Small Y) (hX0:0<X.length) (hY0:0<Y.length) (hlX:X.length≤300000000) (hlY:Y.length≤300000000) :
  CV 116 #[.agg #[.bool n,sa],.agg #[.bool n,sb]] w fun e w'=>oX w' (jZ n (val X+val Y)) e:=by
 obtain⟨i0,hi,hz0,hz1,hz2⟩:=aGf eI;obtain⟨A1,c1,rfl,-⟩:=ha.cell;obtain⟨A2,c2,rfl,-⟩:=hb.cell;obtain⟨w0,hw0⟩:=ex (((w.alloc (.cells #[.bool n,.slice A1 X.length c1] 26)).alloc (.cells #[.bool n,.slice A2 Y.length c2] 26)).alloc (.cells #[.bool false,.slice none 0 0] 26));have d0:=zz (show Below w.heap.size w w0 from by rw[hw0];(repeat' (first | exact aDy _ _ | refine aJo ?_ | refine aIs ?_ (by first | exact aEa _ | (simp;done) | (simp;omega)) _)));have L0:LB w0 w.heap.size (.bool n) (.slice A1 X.length c1):=by rw[hw0];(repeat (first | (refine aJj ?_;simp;done) | refine aHq ?_ _))
 have L1:LB w0 (w.heap.size+1) (.bool n) (.slice A2 Y.length c2):=by rw[hw0];(repeat (first | (refine aJj ?_;simp;done) | refine aHq ?_ _))
 have L2:LB w0 (w.heap.size+2) (.bool false) (.slice none 0 0):=by rw[hw0];(repeat (first | (refine aJj ?_;simp;done) | refine aHq ?_ _))
 have HA:=zz ha;have F0:=zz hb;have n0:=zz hsX;have o0:=zz hsY;subst hw0;clear ha hb hsX hsY;have hXb:((X.length:Int)==0)=false:=by rw[aEo];omega
 have hYb:((Y.length:Int)==0)=false:=by rw[aEo];omega
 go_enter Tryz.func116,Tryz.ntmps116
 go_wp2;go_loopw [5,6,7] (fun dv cv iv wr=>∃ (k c:Nat) (ds:List Nat) (A:Option Addr) (m cap:Nat),dv=.slice A m cap∧cv=.int .i64 c∧iv=.int .i64 k∧c≤1∧k≤300000001∧Hi (SumA X Y k c ds)∧Hi (c=0∨k≤X.length∨k≤Y.length)∧LB wr w.heap.size (.bool n) (.slice A1 X.length c1)∧LB wr (w.heap.size+1) (.bool n) (.slice A2 Y.length c2)∧LB wr (w.heap.size+2) (.bool false) (.slice none 0 0)∧Hi (OwnV wr (w.heap.size+3) dv (ni ds))∧Hi (w.heap.size+3≤wr.heap.size)∧Hi (Below w.heap.size w wr)) (fun _ _ iv _=>300000001-(intOf iv).toNat)
 case atStart=>exact⟨0,0,[],_,_,_,rfl,rfl,rfl,by omega,by omega,zz (SumA.start _ _),zz (.inl rfl),L0,L1,L2,zz (aLv _ _),zz (by simp),d0⟩
 case round=>
  clear L0 L1 L2 d0;obtain⟨k,c,ds,A,m,cap,rfl,rfl,rfl,hc1,h0,hS,hC,C0,C1,C2,CO,CS,CB⟩:=hrel;have RA:=zz (show RN wr wr.heap.size (.slice A1 X.length c1) X from RI.step HA.o CB.o);have RB:=zz (show RN wr wr.heap.size (.slice A2 Y.length c2) Y from RI.step F0.o CB.o);by_cases h1:k<X.length
  ·have hkI:(k:Int)<(X.length:Int):=by omega
   have e0:k≤300000000:=by omega
   obtain⟨x,hx⟩:=ex (α:=Nat) (X.getD k 0);obtain⟨y,hy⟩:=ex (α:=Nat) (Y.getD k 0);have hx9:x<1000000000:=by rw[hx];exact n0.o.getD k
   have hy9:y<1000000000:=by rw[hy];exact o0.o.getD k
   obtain⟨s,hs⟩:=ex (α:=Nat) (x+y+c);have hsI:(x:Int)+(y:Int)+(c:Int)=(s:Int):=by omega
   have hq:Int.tdiv (s:Int) 1000000000=((s / 1000000000:Nat):Int):=(Int.ofNat_tdiv s 1000000000).symm;have hm:Int.tmod (s:Int) 1000000000=((s % 1000000000:Nat):Int):=(Int.ofNat_tmod s 1000000000).symm;have p0:Hi (SumA X Y (k+1) (s / 1000000000) (ds++[s % 1000000000])):=zz (by have h:=hS.o.step n0.o o0.o;rw[← hx,← hy,← hs] at h;exact h);have q0:Hi (s / 1000000000=0∨k+1≤X.length∨k+1≤Y.length):=zz (by rcases aFk k X.length with h1 | h1;(exact .inr (.inl h1));rcases aFk k Y.length with h2 | h2;(exact .inr (.inr h2));have h:=SumA.past h1 h2 hS.o.carry;rw[← hx,← hy,← hs] at h;exact .inl h);have HHx:=zz hx;have HHy:=zz hy;have HHs:=zz hsI;have HHq:=zz hq;have HHm:=zz hm;have hs2:s≤1999999999:=by omega
   clear hx hy hs hsI hq hm;have q00:=C0.cell0;have q01:=C0.cell1;have q10:=C1.cell0;have q11:=C1.cell1;have q20:=C2.cell0;have q21:=C2.cell1;have tok1:True:=aFi;have tok2:True:=aFi;go_wp2_with fail
   go_region_held3 (fun w'=>w'.cell? ⟨w.heap.size,1,none⟩=some (.slice A1 X.length c1)∧w'.cell? ⟨w.heap.size+1,1,none⟩=some (.slice A2 Y.length c2)) (first
    | (exact⟨C0.cell1,C1.cell1⟩)
    | (exact⟨(aFz C0).cell1,(aFz C1).cell1⟩)
    | (exact⟨D0.cell1,D1.cell1⟩)
    | (exact⟨(aFz D0).cell1,(aFz D1).cell1⟩)
    | (exact⟨E0.cell1,E1.cell1⟩)
    | (exact⟨(aFz E0).cell1,(aFz E1).cell1⟩)
    | go_keep) (first
    | (go_at_call 139;clear tok1;((with_reducible refine(mT _ _ X k (by first | exact RA.o | exact aLu RA.o)).mono ?_);rintro e u1 ⟨a0,rfl⟩;rw[← HHx.o];have D0:=aIa (b:=w.heap.size) (x:=(.bool n)) (y:=(.slice A1 X.length c1)) (by first | exact C0 | exact aFz C0) a0;have D1:=aIa (b:=(w.heap.size+1)) (x:=(.bool n)) (y:=(.slice A2 Y.length c2)) (by first | exact C1 | exact aFz C1) a0;have D2:=aIa (b:=(w.heap.size+2)) (x:=(.bool false)) (y:=(.slice none 0 0)) (by first | exact C2 | exact aFz C2) a0;have DO:=zz (aLq (base:=w.heap.size+3) (v:=.slice A m cap) (l:=ni ds) (by first | exact CO.o | exact aNj CO.o) a0);have DB:=zz (show Below w.heap.size w u1 from by first | exact dS CB.o a0 | exact bU CB.o a0);have DS:=zz (show w.heap.size+3≤u1.heap.size from aEg CS.o (by first | exact a0.size | exact(aR a0).size));have k0:=zz (aHy (v:=.slice A2 Y.length c2) (l:=Y) (by first | exact RB.o | exact aLu RB.o) a0);clear a0;have p00:=D0.cell0;have p01:=D0.cell1;have p10:=D1.cell0;have p11:=D1.cell1;have p20:=D2.cell0;have p21:=D2.cell1))
    | (go_at_call 139;clear tok2;((with_reducible refine(mT _ _ Y k (by first | exact k0.o | exact aLu k0.o)).mono ?_);rintro e u2 ⟨b0,rfl⟩;rw[← HHy.o];have E0:=aIa (b:=w.heap.size) (x:=(.bool n)) (y:=(.slice A1 X.length c1)) (by first | exact D0 | exact aFz D0) b0;have E1:=aIa (b:=(w.heap.size+1)) (x:=(.bool n)) (y:=(.slice A2 Y.length c2)) (by first | exact D1 | exact aFz D1) b0;have E2:=aIa (b:=(w.heap.size+2)) (x:=(.bool false)) (y:=(.slice none 0 0)) (by first | exact D2 | exact aFz D2) b0;have EO:=zz (aLq (base:=w.heap.size+3) (v:=.slice A m cap) (l:=ni ds) (by first | exact DO.o | exact aNj DO.o) b0);have EB:=zz (show Below w.heap.size w u2 from by first | exact dS DB.o b0 | exact bU DB.o b0);have ES:=zz (show w.heap.size+3≤u2.heap.size from aEg DS.o (by first | exact b0.size | exact(aR b0).size));clear b0;have r00:=E0.cell0;have r01:=E0.cell1;have r10:=E1.cell0;have r11:=E1.cell1;have r20:=E2.cell0;have r21:=E2.cell1)))
   rename_i hheld;clear hheld
   rw[show IntKind.i64.wrap (IntKind.i64.wrap ((x:Int)+(y:Int))+(c:Int))=(s:Int) by rw[aHa ((x:Int)+(y:Int)) (by omega),aHa ((x:Int)+(y:Int)+(c:Int)) (by omega),HHs.o]];have hown:=EO.o.alloc (.cells #[.int .i64 (Int.tmod (s:Int) 1000000000)] 3);have hlen:(ni ds).length=k:=by rw[aC];exact hS.o.len
   go_wp2_with (at_builtin;refine wpList_append_own_at _ rfl _ _ 24 rfl (w.heap.size+3) 3 i0 (.int .i64 0) 1 8 Tryz.underlying24 hi hz0 hz1 hz2 rfl (by decide) (.slice A m cap) (ni ds).length ((ni ds).map (Value.int .i64)) rfl hown ⟨u2.heap.size,0,none⟩ 1 1 [.int .i64 (Int.tmod (s:Int) 1000000000)] rfl rfl (cell_one_new _ _ _) (by intro u hu;simp at hu;subst hu;rfl) (by rw[hlen];unfold maxLen;omega) (by rw[hlen];omega) (by have:=ES.o;simp;omega) ?_)
   intro v' w' hown' hgrow hne hblk;have hv':OwnV w' (w.heap.size+3) v' (ni (ds++[s % 1000000000])):=by
    have h:=hown';rw[HHm.o] at h;rw[OwnV,aC,aEp,hS.o.len];have e:(ni (ds++[s % 1000000000])).map (Value.int .i64)=(ni ds).map (Value.int .i64)++[.int .i64 ((s % 1000000000:Nat):Int)]:=by simp[ni]
    rw[e];exact h
   have hrow:∀ b,b<w.heap.size+3→(Value.slice A m cap).ownBlock≠some b:=fun b hb he=>by
    have:=(aFn EO.o b he).1
    omega
   have M0:=(E0.alloc (.cells #[.int .i64 (Int.tmod (s:Int) 1000000000)] 3)).grown hgrow (hrow _ (by omega));have M1:=(E1.alloc (.cells #[.int .i64 (Int.tmod (s:Int) 1000000000)] 3)).grown hgrow (hrow _ (by omega));have M2:=(E2.alloc (.cells #[.int .i64 (Int.tmod (s:Int) 1000000000)] 3)).grown hgrow (hrow _ (by omega));have MB:=zz ((EB.o.alloc EB.o.size (.cells #[.int .i64 (Int.tmod (s:Int) 1000000000)] 3)).grown hgrow (by have:=EB.o.size;simp;omega) (fun g he=>by have:=(aFn EO.o g he).1;omega));have MS:=zz (show w.heap.size+3≤w'.heap.size by have h1:=hgrow.size;have h2:=ES.o;simp at h1;omega);have MO:=zz hv';clear hown' hgrow hne hblk hown;have z00:=M0.cell0;have z01:=M0.cell1;have z10:=M1.cell0;have z11:=M1.cell1;have z20:=M2.cell0;have z21:=M2.cell1;rcases hv'.form with ⟨_,he⟩ | ⟨g,cap',rfl,_⟩
   ·simp[ni] at he
   ·have hlen2:(ni (ds++[s % 1000000000])).length=k+1:=by rw[aC,aEp,hS.o.len];rfl
    have hq1:s / 1000000000≤1:=by omega
    clear hv' hrow;go_wp2;go_roundw
    case rel=>exact⟨k+1,s / 1000000000,ds++[s % 1000000000],_,_,_,rfl,aIl (Value.int .i64) (by omega),by rw[show((k+1:Nat):Int)=(k:Int)+1 by omega],hq1,by omega,p0,q0,M0,M1,M2,MO,MS,MB⟩
    case measure=>simp[intOf] <;> omega
  ·have hkI:(X.length:Int)≤(k:Int):=by omega
   by_cases h2:k<Y.length
   ·have hkJ:(k:Int)<(Y.length:Int):=by omega
    have e0:k≤300000000:=by omega
    obtain⟨x,hx⟩:=ex (α:=Nat) (X.getD k 0);obtain⟨y,hy⟩:=ex (α:=Nat) (Y.getD k 0);have hx9:x<1000000000:=by rw[hx];exact n0.o.getD k
    have hy9:y<1000000000:=by rw[hy];exact o0.o.getD k
    obtain⟨s,hs⟩:=ex (α:=Nat) (x+y+c);have hsI:(x:Int)+(y:Int)+(c:Int)=(s:Int):=by omega
    have hq:Int.tdiv (s:Int) 1000000000=((s / 1000000000:Nat):Int):=(Int.ofNat_tdiv s 1000000000).symm;have hm:Int.tmod (s:Int) 1000000000=((s % 1000000000:Nat):Int):=(Int.ofNat_tmod s 1000000000).symm;have p0:Hi (SumA X Y (k+1) (s / 1000000000) (ds++[s % 1000000000])):=zz (by have h:=hS.o.step n0.o o0.o;rw[← hx,← hy,← hs] at h;exact h);have q0:Hi (s / 1000000000=0∨k+1≤X.length∨k+1≤Y.length):=zz (by rcases aFk k X.length with h1 | h1;(exact .inr (.inl h1));rcases aFk k Y.length with h2 | h2;(exact .inr (.inr h2));have h:=SumA.past h1 h2 hS.o.carry;rw[← hx,← hy,← hs] at h;exact .inl h);have HHx:=zz hx;have HHy:=zz hy;have HHs:=zz hsI;have HHq:=zz hq;have HHm:=zz hm;have hs2:s≤1999999999:=by omega
    clear hx hy hs hsI hq hm;have q00:=C0.cell0;have q01:=C0.cell1;have q10:=C1.cell0;have q11:=C1.cell1;have q20:=C2.cell0;have q21:=C2.cell1;have tok1:True:=aFi;have tok2:True:=aFi;go_wp2_with fail
    go_region_held3 (fun w'=>w'.cell? ⟨w.heap.size,1,none⟩=some (.slice A1 X.length c1)∧w'.cell? ⟨w.heap.size+1,1,none⟩=some (.slice A2 Y.length c2)) (first
     | (exact⟨C0.cell1,C1.cell1⟩)
     | (exact⟨(aFz C0).cell1,(aFz C1).cell1⟩)
     | (exact⟨D0.cell1,D1.cell1⟩)
     | (exact⟨(aFz D0).cell1,(aFz D1).cell1⟩)
     | (exact⟨E0.cell1,E1.cell1⟩)
     | (exact⟨(aFz E0).cell1,(aFz E1).cell1⟩)
     | go_keep) (first
     | (go_at_call 139;clear tok1;((with_reducible refine(mT _ _ X k (by first | exact RA.o | exact aLu RA.o)).mono ?_);rintro e u1 ⟨a0,rfl⟩;rw[← HHx.o];have D0:=aIa (b:=w.heap.size) (x:=(.bool n)) (y:=(.slice A1 X.length c1)) (by first | exact C0 | exact aFz C0) a0;have D1:=aIa (b:=(w.heap.size+1)) (x:=(.bool n)) (y:=(.slice A2 Y.length c2)) (by first | exact C1 | exact aFz C1) a0;have D2:=aIa (b:=(w.heap.size+2)) (x:=(.bool false)) (y:=(.slice none 0 0)) (by first | exact C2 | exact aFz C2) a0;have DO:=zz (aLq (base:=w.heap.size+3) (v:=.slice A m cap) (l:=ni ds) (by first | exact CO.o | exact aNj CO.o) a0);have DB:=zz (show Below w.heap.size w u1 from by first | exact dS CB.o a0 | exact bU CB.o a0);have DS:=zz (show w.heap.size+3≤u1.heap.size from aEg CS.o (by first | exact a0.size | exact(aR a0).size));have k0:=zz (aHy (v:=.slice A2 Y.length c2) (l:=Y) (by first | exact RB.o | exact aLu RB.o) a0);clear a0;have p00:=D0.cell0;have p01:=D0.cell1;have p10:=D1.cell0;have p11:=D1.cell1;have p20:=D2.cell0;have p21:=D2.cell1))
     | (go_at_call 139;clear tok2;((with_reducible refine(mT _ _ Y k (by first | exact k0.o | exact aLu k0.o)).mono ?_);rintro e u2 ⟨b0,rfl⟩;rw[← HHy.o];have E0:=aIa (b:=w.heap.size) (x:=(.bool n)) (y:=(.slice A1 X.length c1)) (by first | exact D0 | exact aFz D0) b0;have E1:=aIa (b:=(w.heap.size+1)) (x:=(.bool n)) (y:=(.slice A2 Y.length c2)) (by first | exact D1 | exact aFz D1) b0;have E2:=aIa (b:=(w.heap.size+2)) (x:=(.bool false)) (y:=(.slice none 0 0)) (by first | exact D2 | exact aFz D2) b0;have EO:=zz (aLq (base:=w.heap.size+3) (v:=.slice A m cap) (l:=ni ds) (by first | exact DO.o | exact aNj DO.o) b0);have EB:=zz (show Below w.heap.size w u2 from by first | exact dS DB.o b0 | exact bU DB.o b0);have ES:=zz (show w.heap.size+3≤u2.heap.size from aEg DS.o (by first | exact b0.size | exact(aR b0).size));clear b0;have r00:=E0.cell0;have r01:=E0.cell1;have r10:=E1.cell0;have r11:=E1.cell1;have r20:=E2.cell0;have r21:=E2.cell1)))
    rename_i hheld;clear hheld
    rw[show IntKind.i64.wrap (IntKind.i64.wrap ((x:Int)+(y:Int))+(c:Int))=(s:Int) by rw[aHa ((x:Int)+(y:Int)) (by omega),aHa ((x:Int)+(y:Int)+(c:Int)) (by omega),HHs.o]];have hown:=EO.o.alloc (.cells #[.int .i64 (Int.tmod (s:Int) 1000000000)] 3);have hlen:(ni ds).length=k:=by rw[aC];exact hS.o.len
    go_wp2_with (at_builtin;refine wpList_append_own_at _ rfl _ _ 24 rfl (w.heap.size+3) 3 i0 (.int .i64 0) 1 8 Tryz.underlying24 hi hz0 hz1 hz2 rfl (by decide) (.slice A m cap) (ni ds).length ((ni ds).map (Value.int .i64)) rfl hown ⟨u2.heap.size,0,none⟩ 1 1 [.int .i64 (Int.tmod (s:Int) 1000000000)] rfl rfl (cell_one_new _ _ _) (by intro u hu;simp at hu;subst hu;rfl) (by rw[hlen];unfold maxLen;omega) (by rw[hlen];omega) (by have:=ES.o;simp;omega) ?_)
    intro v' w' hown' hgrow hne hblk;have hv':OwnV w' (w.heap.size+3) v' (ni (ds++[s % 1000000000])):=by
     have h:=hown';rw[HHm.o] at h;rw[OwnV,aC,aEp,hS.o.len];have e:(ni (ds++[s % 1000000000])).map (Value.int .i64)=(ni ds).map (Value.int .i64)++[.int .i64 ((s % 1000000000:Nat):Int)]:=by simp[ni]
     rw[e];exact h
    have hrow:∀ b,b<w.heap.size+3→(Value.slice A m cap).ownBlock≠some b:=fun b hb he=>by
     have:=(aFn EO.o b he).1
     omega
    have M0:=(E0.alloc (.cells #[.int .i64 (Int.tmod (s:Int) 1000000000)] 3)).grown hgrow (hrow _ (by omega));have M1:=(E1.alloc (.cells #[.int .i64 (Int.tmod (s:Int) 1000000000)] 3)).grown hgrow (hrow _ (by omega));have M2:=(E2.alloc (.cells #[.int .i64 (Int.tmod (s:Int) 1000000000)] 3)).grown hgrow (hrow _ (by omega));have MB:=zz ((EB.o.alloc EB.o.size (.cells #[.int .i64 (Int.tmod (s:Int) 1000000000)] 3)).grown hgrow (by have:=EB.o.size;simp;omega) (fun g he=>by have:=(aFn EO.o g he).1;omega));have MS:=zz (show w.heap.size+3≤w'.heap.size by have h1:=hgrow.size;have h2:=ES.o;simp at h1;omega);have MO:=zz hv';clear hown' hgrow hne hblk hown;have z00:=M0.cell0;have z01:=M0.cell1;have z10:=M1.cell0;have z11:=M1.cell1;have z20:=M2.cell0;have z21:=M2.cell1;rcases hv'.form with ⟨_,he⟩ | ⟨g,cap',rfl,_⟩
    ·simp[ni] at he
    ·have hlen2:(ni (ds++[s % 1000000000])).length=k+1:=by rw[aC,aEp,hS.o.len];rfl
     have hq1:s / 1000000000≤1:=by omega
     clear hv' hrow;go_wp2;go_roundw
     case rel=>exact⟨k+1,s / 1000000000,ds++[s % 1000000000],_,_,_,rfl,aIl (Value.int .i64) (by omega),by rw[show((k+1:Nat):Int)=(k:Int)+1 by omega],hq1,by omega,p0,q0,M0,M1,M2,MO,MS,MB⟩
     case measure=>simp[intOf] <;> omega
   ·have hkJ:(Y.length:Int)≤(k:Int):=by omega
    by_cases h3:0<c
    ·have hc3:(0:Int)<(c:Int):=by omega
     have j0:k≤300000000:=by rcases hC.o with h | h | h <;> omega
     have e0:k≤300000000:=by omega
     obtain⟨x,hx⟩:=ex (α:=Nat) (X.getD k 0);obtain⟨y,hy⟩:=ex (α:=Nat) (Y.getD k 0);have hx9:x<1000000000:=by rw[hx];exact n0.o.getD k
     have hy9:y<1000000000:=by rw[hy];exact o0.o.getD k
     obtain⟨s,hs⟩:=ex (α:=Nat) (x+y+c);have hsI:(x:Int)+(y:Int)+(c:Int)=(s:Int):=by omega
     have hq:Int.tdiv (s:Int) 1000000000=((s / 1000000000:Nat):Int):=(Int.ofNat_tdiv s 1000000000).symm;have hm:Int.tmod (s:Int) 1000000000=((s % 1000000000:Nat):Int):=(Int.ofNat_tmod s 1000000000).symm;have p0:Hi (SumA X Y (k+1) (s / 1000000000) (ds++[s % 1000000000])):=zz (by have h:=hS.o.step n0.o o0.o;rw[← hx,← hy,← hs] at h;exact h);have q0:Hi (s / 1000000000=0∨k+1≤X.length∨k+1≤Y.length):=zz (by rcases aFk k X.length with h1 | h1;(exact .inr (.inl h1));rcases aFk k Y.length with h2 | h2;(exact .inr (.inr h2));have h:=SumA.past h1 h2 hS.o.carry;rw[← hx,← hy,← hs] at h;exact .inl h);have HHx:=zz hx;have HHy:=zz hy;have HHs:=zz hsI;have HHq:=zz hq;have HHm:=zz hm;have hs2:s≤1999999999:=by omega
     clear hx hy hs hsI hq hm;have q00:=C0.cell0;have q01:=C0.cell1;have q10:=C1.cell0;have q11:=C1.cell1;have q20:=C2.cell0;have q21:=C2.cell1;have tok1:True:=aFi;have tok2:True:=aFi;go_wp2_with fail
     go_region_held3 (fun w'=>w'.cell? ⟨w.heap.size,1,none⟩=some (.slice A1 X.length c1)∧w'.cell? ⟨w.heap.size+1,1,none⟩=some (.slice A2 Y.length c2)) (first
      | (exact⟨C0.cell1,C1.cell1⟩)
      | (exact⟨(aFz C0).cell1,(aFz C1).cell1⟩)
      | (exact⟨D0.cell1,D1.cell1⟩)
      | (exact⟨(aFz D0).cell1,(aFz D1).cell1⟩)
      | (exact⟨E0.cell1,E1.cell1⟩)
      | (exact⟨(aFz E0).cell1,(aFz E1).cell1⟩)
      | go_keep) (first
      | (go_at_call 139;clear tok1;((with_reducible refine(mT _ _ X k (by first | exact RA.o | exact aLu RA.o)).mono ?_);rintro e u1 ⟨a0,rfl⟩;rw[← HHx.o];have D0:=aIa (b:=w.heap.size) (x:=(.bool n)) (y:=(.slice A1 X.length c1)) (by first | exact C0 | exact aFz C0) a0;have D1:=aIa (b:=(w.heap.size+1)) (x:=(.bool n)) (y:=(.slice A2 Y.length c2)) (by first | exact C1 | exact aFz C1) a0;have D2:=aIa (b:=(w.heap.size+2)) (x:=(.bool false)) (y:=(.slice none 0 0)) (by first | exact C2 | exact aFz C2) a0;have DO:=zz (aLq (base:=w.heap.size+3) (v:=.slice A m cap) (l:=ni ds) (by first | exact CO.o | exact aNj CO.o) a0);have DB:=zz (show Below w.heap.size w u1 from by first | exact dS CB.o a0 | exact bU CB.o a0);have DS:=zz (show w.heap.size+3≤u1.heap.size from aEg CS.o (by first | exact a0.size | exact(aR a0).size));have k0:=zz (aHy (v:=.slice A2 Y.length c2) (l:=Y) (by first | exact RB.o | exact aLu RB.o) a0);clear a0;have p00:=D0.cell0;have p01:=D0.cell1;have p10:=D1.cell0;have p11:=D1.cell1;have p20:=D2.cell0;have p21:=D2.cell1))
      | (go_at_call 139;clear tok2;((with_reducible refine(mT _ _ Y k (by first | exact k0.o | exact aLu k0.o)).mono ?_);rintro e u2 ⟨b0,rfl⟩;rw[← HHy.o];have E0:=aIa (b:=w.heap.size) (x:=(.bool n)) (y:=(.slice A1 X.length c1)) (by first | exact D0 | exact aFz D0) b0;have E1:=aIa (b:=(w.heap.size+1)) (x:=(.bool n)) (y:=(.slice A2 Y.length c2)) (by first | exact D1 | exact aFz D1) b0;have E2:=aIa (b:=(w.heap.size+2)) (x:=(.bool false)) (y:=(.slice none 0 0)) (by first | exact D2 | exact aFz D2) b0;have EO:=zz (aLq (base:=w.heap.size+3) (v:=.slice A m cap) (l:=ni ds) (by first | exact DO.o | exact aNj DO.o) b0);have EB:=zz (show Below w.heap.size w u2 from by first | exact dS DB.o b0 | exact bU DB.o b0);have ES:=zz (show w.heap.size+3≤u2.heap.size from aEg DS.o (by first | exact b0.size | exact(aR b0).size));clear b0;have r00:=E0.cell0;have r01:=E0.cell1;have r10:=E1.cell0;have r11:=E1.cell1;have r20:=E2.cell0;have r21:=E2.cell1)))
     rename_i hheld;clear hheld
     rw[show IntKind.i64.wrap (IntKind.i64.wrap ((x:Int)+(y:Int))+(c:Int))=(s:Int) by rw[aHa ((x:Int)+(y:Int)) (by omega),aHa ((x:Int)+(y:Int)+(c:Int)) (by omega),HHs.o]];have hown:=EO.o.alloc (.cells #[.int .i64 (Int.tmod (s:Int) 1000000000)] 3);have hlen:(ni ds).length=k:=by rw[aC];exact hS.o.len
     go_wp2_with (at_builtin;refine wpList_append_own_at _ rfl _ _ 24 rfl (w.heap.size+3) 3 i0 (.int .i64 0) 1 8 Tryz.underlying24 hi hz0 hz1 hz2 rfl (by decide) (.slice A m cap) (ni ds).length ((ni ds).map (Value.int .i64)) rfl hown ⟨u2.heap.size,0,none⟩ 1 1 [.int .i64 (Int.tmod (s:Int) 1000000000)] rfl rfl (cell_one_new _ _ _) (by intro u hu;simp at hu;subst hu;rfl) (by rw[hlen];unfold maxLen;omega) (by rw[hlen];omega) (by have:=ES.o;simp;omega) ?_)
     intro v' w' hown' hgrow hne hblk;have hv':OwnV w' (w.heap.size+3) v' (ni (ds++[s % 1000000000])):=by
      have h:=hown';rw[HHm.o] at h;rw[OwnV,aC,aEp,hS.o.len];have e:(ni (ds++[s % 1000000000])).map (Value.int .i64)=(ni ds).map (Value.int .i64)++[.int .i64 ((s % 1000000000:Nat):Int)]:=by simp[ni]
      rw[e];exact h
     have hrow:∀ b,b<w.heap.size+3→(Value.slice A m cap).ownBlock≠some b:=fun b hb he=>by
      have:=(aFn EO.o b he).1
      omega
     have M0:=(E0.alloc (.cells #[.int .i64 (Int.tmod (s:Int) 1000000000)] 3)).grown hgrow (hrow _ (by omega));have M1:=(E1.alloc (.cells #[.int .i64 (Int.tmod (s:Int) 1000000000)] 3)).grown hgrow (hrow _ (by omega));have M2:=(E2.alloc (.cells #[.int .i64 (Int.tmod (s:Int) 1000000000)] 3)).grown hgrow (hrow _ (by omega));have MB:=zz ((EB.o.alloc EB.o.size (.cells #[.int .i64 (Int.tmod (s:Int) 1000000000)] 3)).grown hgrow (by have:=EB.o.size;simp;omega) (fun g he=>by have:=(aFn EO.o g he).1;omega));have MS:=zz (show w.heap.size+3≤w'.heap.size by have h1:=hgrow.size;have h2:=ES.o;simp at h1;omega);have MO:=zz hv';clear hown' hgrow hne hblk hown;have z00:=M0.cell0;have z01:=M0.cell1;have z10:=M1.cell0;have z11:=M1.cell1;have z20:=M2.cell0;have z21:=M2.cell1;rcases hv'.form with ⟨_,he⟩ | ⟨g,cap',rfl,_⟩
     ·simp[ni] at he
     ·have hlen2:(ni (ds++[s % 1000000000])).length=k+1:=by rw[aC,aEp,hS.o.len];rfl
      have hq1:s / 1000000000≤1:=by omega
      clear hv' hrow;go_wp2;go_roundw
      case rel=>exact⟨k+1,s / 1000000000,ds++[s % 1000000000],_,_,_,rfl,aIl (Value.int .i64) (by omega),by rw[show((k+1:Nat):Int)=(k:Int)+1 by omega],hq1,by omega,p0,q0,M0,M1,M2,MO,MS,MB⟩
      case measure=>simp[intOf] <;> omega
    ·obtain rfl:c=0:=by omega
     have HV:=zz (hS.o.stop (by omega) (by omega));have hSm:=zz hS.o.small;have hln:ds.length≤3000000000:=by rw[hS.o.len];omega
     have RO:=zz (show RN wr wr.heap.size (.slice A m cap) ds from CO.o.ri);have q00:=C0.cell0;have q01:=C0.cell1;have q10:=C1.cell0;have q11:=C1.cell1;have q20:=C2.cell0;have q21:=C2.cell1;go_wp2_with fail
     refine(kZ _ _ _ ds RO.o hSm.o hln).mono ?_;rintro e w2 ⟨hb,v2,rfl,c0⟩;rw[HV.o] at c0;obtain⟨y,hy⟩:=ex (α:=Int) (jZ n (val X+val Y));have HY:=zz hy;rw[← hy] at c0;obtain⟨A3,c3,rfl,hs2⟩:=c0.parts;have g0:=zz (CB.o.trans (hb.mono CB.o.size));have F2:=C2.step hb;have G0:=zz hs2;clear hs2 hb c0 hy;have f0:=F2.cell0;have f1:=F2.cell1;have f2:=F2.frozen 0;have f3:=F2.frozen 1;go_wp2;(try simp only[Exit.inBlock,Exit.then])
     rw[← HY.o];exact mB rfl F2 g0.o (by omega) G0.o rfl rfl
theorem AA (w:World) (n:Bool) (sa sb:Value) (p q:Nat) (ha:RN w w.heap.size sa (dig p)) (hb:RN w w.heap.size sb (dig q)) (hp0:p≠0) (hq0:q≠0) (hqp:q≤p) (hlp:(dig p).length≤300000000) :
  CV 138 #[.agg #[.bool n,sa],.agg #[.bool n,sb]] w fun e w'=>oX w' (jZ n (p-q)) e:=by
 obtain⟨i0,hi,hz0,hz1,hz2⟩:=aGf eI;have hless:=aEe (show ¬ p<q by omega);have hlq:(dig q).length≤(dig p).length:=aL hqp;obtain⟨X,hXd⟩:=ex (dig p);obtain⟨Y,hYd⟩:=ex (dig q);have m0:Hi (∀ (w:World) (va vb:Value),RN w w.heap.size va X→RN w w.heap.size vb Y→CV 150 #[va,vb] w fun e _=>e=.returned (.bool false)):=
  zz (fun w va vb h h'=>by rw[hXd] at h;rw[hYd] at h';rw[← hless];exact oR w va vb p q h h')
 have n0:=zz (show Small X by rw[hXd];exact aH _);have v0:=zz (show Small Y by rw[hYd];exact aH _);have o0:=zz (show val X=p by rw[hXd,aQ]);have p0:=zz (show val Y=q by rw[hYd,aQ]);have x0:=zz hqp;have hX0:0<X.length:=by rw[hXd];exact aHh.2 (fun e=>hp0 (cU.1 e))
 have hY0:0<Y.length:=by rw[hYd];exact aHh.2 (fun e=>hq0 (cU.1 e))
 rw[← hXd] at ha hlp hlq;rw[← hYd] at hb hlq;clear hXd hYd hless hp0 hq0 hqp;obtain⟨A1,c1,rfl,-,-,hcell⟩:=ha.cell;obtain⟨g,off,rfl,hg,hcx⟩:=hcell hX0;replace hcx:=zz hcx;clear hcell;obtain⟨A2,c2,rfl,-⟩:=hb.cell;obtain⟨w0,hw0⟩:=ex (((w.alloc (.cells #[.bool n,.slice (some ⟨g,off,none⟩) X.length c1] 26)).alloc (.cells #[.bool n,.slice A2 Y.length c2] 26)).alloc (.cells #[.bool false,.slice none 0 0] 26));have b0:=zz (show Below w.heap.size w w0 from by rw[hw0];(repeat' (first | exact aDy _ _ | refine aJo ?_ | refine aIs ?_ (by first | exact aEa _ | (simp;done) | (simp;omega)) _)));have L0:LB w0 w.heap.size (.bool n) (.slice (some ⟨g,off,none⟩) X.length c1):=by rw[hw0];(repeat (first | (refine aJj ?_;simp;done) | refine aHq ?_ _))
 have L1:LB w0 (w.heap.size+1) (.bool n) (.slice A2 Y.length c2):=by rw[hw0];(repeat (first | (refine aJj ?_;simp;done) | refine aHq ?_ _))
 have L2:LB w0 (w.heap.size+2) (.bool false) (.slice none 0 0):=by rw[hw0];(repeat (first | (refine aJj ?_;simp;done) | refine aHq ?_ _))
 have hsz0:w.heap.size+3≤w0.heap.size:=by rw[hw0];simp
 have HA:=zz ha;have q0:=zz hb;subst hw0;clear ha hb;have hXb:((X.length:Int)==0)=false:=by rw[aEo];omega
 have hYb:((Y.length:Int)==0)=false:=by rw[aEo];omega
 go_enter Tryz.func138,Tryz.ntmps138
 go_wp2_with fail
 refine(m0.o _ _ _ (aHy HA.o b0.o) (aHy q0.o b0.o)).mono ?_;rintro e w1 ⟨a0,rfl⟩;have N0:=L0.step a0;have N1:=L1.step a0;have N2:=L2.step a0;have NB:=zz (b0.o.trans (a0.mono b0.o.size));have NS:=zz (aEg hsz0 a0.size);clear a0 b0 L0 L1 L2 hsz0 m0;go_wp2;go_loopw [5,6,7] (fun dv cv iv wr=>∃ (k c:Nat) (ds:List Nat) (A:Option Addr) (m cap:Nat),dv=.slice A m cap∧cv=.int .i64 c∧iv=.int .i64 k∧c≤1∧k≤X.length∧Hi (DiffA X Y k c ds)∧LB wr w.heap.size (.bool n) (.slice (some ⟨g,off,none⟩) X.length c1)∧LB wr (w.heap.size+1) (.bool n) (.slice A2 Y.length c2)∧LB wr (w.heap.size+2) (.bool false) (.slice none 0 0)∧Hi (OwnV wr (w.heap.size+3) dv (ni ds))∧Hi (w.heap.size+3≤wr.heap.size)∧Hi (Below w.heap.size w wr)) (fun _ _ iv _=>X.length-(intOf iv).toNat)
 case atStart=>exact⟨0,0,[],_,_,_,rfl,rfl,rfl,by omega,by omega,zz (DiffA.start _ _),N0,N1,N2,zz (aLv _ _),NS,NB⟩
 case round=>
  clear N0 N1 N2 NB NS;obtain⟨k,c,ds,A,m,cap,rfl,rfl,rfl,hc1,e0,hS,C0,C1,C2,CO,CS,CB⟩:=hrel;have RA:=zz (aHy HA.o CB.o);have RB:=zz (aHy q0.o CB.o);by_cases h1:k<X.length
  ·have hkI:(k:Int)<(X.length:Int):=by omega
   have g0:k≤300000000:=by omega
   have hgr:g<wr.heap.size:=aEt hg CB.o.size;have hc:=(CB.o.cell (p:=⟨g,off+k,none⟩) hg).trans (hcx.o k h1);obtain⟨x,hx⟩:=ex (α:=Nat) (X[k]);rw[← hx] at hc;have hxg:X.getD k 0=x:=by rw[hx];exact bJ h1
   obtain⟨y,hy⟩:=ex (α:=Nat) (Y.getD k 0);have hx9:x<1000000000:=by rw[← hxg];exact n0.o.getD k
   have hy9:y<1000000000:=by rw[hy];exact v0.o.getD k
   have HHx:=zz hxg;have HHy:=zz hy;clear hx hxg hy;have q00:=C0.cell0;have q01:=C0.cell1;have q10:=C1.cell0;have q11:=C1.cell1;have q20:=C2.cell0;have q21:=C2.cell1;have tok1:True:=aFi;go_wp2_with fail
   go_region_held3 (fun w'=>w'.cell? ⟨w.heap.size,1,none⟩=some (.slice (some ⟨g,off,none⟩) X.length c1)∧w'.cell? ⟨w.heap.size+1,1,none⟩=some (.slice A2 Y.length c2)∧w'.cell? ⟨g,off+k,none⟩=some (.int .i64 (x:Int))) (first
    | (exact⟨C0.cell1,C1.cell1,hc⟩)
    | (exact⟨(aFz C0).cell1,(aFz C1).cell1,hc⟩)
    | (exact⟨D0.cell1,D1.cell1,hd⟩)
    | (exact⟨(aFz D0).cell1,(aFz D1).cell1,hd⟩)
    | go_keep) (first
    | (go_at_call 139;clear tok1;((with_reducible refine(mT _ _ Y k (by first | exact RB.o | exact aLu RB.o)).mono ?_);rintro e u1 ⟨a0,rfl⟩;rw[← HHy.o];have D0:=aIa (b:=w.heap.size) (x:=(.bool n)) (y:=(.slice (some ⟨g,off,none⟩) X.length c1)) (by first | exact C0 | exact aFz C0) a0;have D1:=aIa (b:=(w.heap.size+1)) (x:=(.bool n)) (y:=(.slice A2 Y.length c2)) (by first | exact C1 | exact aFz C1) a0;have D2:=aIa (b:=(w.heap.size+2)) (x:=(.bool false)) (y:=(.slice none 0 0)) (by first | exact C2 | exact aFz C2) a0;have DO:=zz (aLq (base:=w.heap.size+3) (v:=.slice A m cap) (l:=ni ds) (by first | exact CO.o | exact aNj CO.o) a0);have DB:=zz (show Below w.heap.size w u1 from by first | exact dS CB.o a0 | exact bU CB.o a0);have DS:=zz (show w.heap.size+3≤u1.heap.size from aEg CS.o (by first | exact a0.size | exact(aR a0).size));have hd:u1.cell? ⟨g,off+k,none⟩=some (.int .i64 (x:Int)):=(a0.cell (p:=⟨g,off+k,none⟩) hgr).trans hc;clear a0;have p00:=D0.cell0;have p01:=D0.cell1;have p10:=D1.cell0;have p11:=D1.cell1;have p20:=D2.cell0;have p21:=D2.cell1)))
   rename_i hheld;clear hheld
   rw[show IntKind.i64.wrap (IntKind.i64.wrap ((x:Int)-(y:Int))-(c:Int))=(x:Int)-(y:Int)-(c:Int) by rw[aHa ((x:Int)-(y:Int)) (by omega),aHa ((x:Int)-(y:Int)-(c:Int)) (by omega)]];obtain⟨t,ht⟩:=ex (α:=Int) ((x:Int)-(y:Int)-(c:Int));rw[← ht];by_cases hle:0≤t
   ·obtain⟨d,rfl⟩:=aIp hle;have k0:Hi (DiffA X Y (k+1) 0 (ds++[d])):=zz (hS.o.step_up n0.o (by rw[HHx.o,← HHy.o];omega));have hdn:(decide ((d:Int)<0))=false:=aEe (by omega);clear ht;have hown:=DO.o.alloc (.cells #[.int .i64 (d:Int)] 3);have hlen:(ni ds).length=k:=by rw[aC];exact hS.o.len
    go_wp2_with (at_builtin;refine wpList_append_own_at _ rfl _ _ 24 rfl (w.heap.size+3) 3 i0 (.int .i64 0) 1 8 Tryz.underlying24 hi hz0 hz1 hz2 rfl (by decide) (.slice A m cap) (ni ds).length ((ni ds).map (Value.int .i64)) rfl hown ⟨u1.heap.size,0,none⟩ 1 1 [.int .i64 (d:Int)] rfl rfl (cell_one_new _ _ _) (by intro u hu;simp at hu;subst hu;rfl) (by rw[hlen];unfold maxLen;omega) (by rw[hlen];omega) (by have:=DS.o;simp;omega) ?_)
    intro v' w' hown' hgrow hne hblk;have hv':OwnV w' (w.heap.size+3) v' (ni (ds++[d])):=by
     have h:=hown';rw[OwnV,aC,aEp,hS.o.len];have e:(ni (ds++[d])).map (Value.int .i64)=(ni ds).map (Value.int .i64)++[.int .i64 (d:Int)]:=by simp[ni]
     rw[e];exact h
    have hrow:∀ b,b<w.heap.size+3→(Value.slice A m cap).ownBlock≠some b:=fun b hb he=>by
     have:=(aFn DO.o b he).1
     omega
    have M0:=(D0.alloc (.cells #[.int .i64 (d:Int)] 3)).grown hgrow (hrow _ (by omega));have M1:=(D1.alloc (.cells #[.int .i64 (d:Int)] 3)).grown hgrow (hrow _ (by omega));have M2:=(D2.alloc (.cells #[.int .i64 (d:Int)] 3)).grown hgrow (hrow _ (by omega));have MB:=zz ((DB.o.alloc DB.o.size (.cells #[.int .i64 (d:Int)] 3)).grown hgrow (by have:=DB.o.size;simp;omega) (fun g he=>by have:=(aFn DO.o g he).1;omega));have MS:=zz (show w.heap.size+3≤w'.heap.size by have h1:=hgrow.size;have h2:=DS.o;simp at h1;omega);have MO:=zz hv';clear hown' hgrow hne hblk hown;have z00:=M0.cell0;have z01:=M0.cell1;have z10:=M1.cell0;have z11:=M1.cell1;have z20:=M2.cell0;have z21:=M2.cell1;rcases hv'.form with ⟨_,he⟩ | ⟨g',cap',rfl,_⟩
    ·simp[ni] at he
    ·have hlen2:(ni (ds++[d])).length=k+1:=by rw[aC,aEp,hS.o.len];rfl
     clear hv' hrow;go_wp2;go_roundw
     case rel=>exact⟨k+1,0,ds++[d],_,_,_,rfl,rfl,by rw[show((k+1:Nat):Int)=(k:Int)+1 by omega],by omega,by omega,k0,M0,M1,M2,MO,MS,MB⟩
     case measure=>simp[intOf] <;> omega
   ·obtain⟨d,hd2⟩:∃ d:Nat,(d:Int)=t+1000000000:=⟨(t+1000000000).toNat,by omega⟩;have k0:Hi (DiffA X Y (k+1) 1 (ds++[d])):=zz (hS.o.step_down (by rw[HHx.o,← HHy.o];omega) (by omega));have htn:t<0:=by omega
    have ht5:-2000000000≤t:=by omega
    have E0:=zz hd2;clear ht hle hd2;go_upto_region 18 with (fail)
    rw[show t+1000000000=(d:Int) from E0.o.symm];have hown:=DO.o.alloc (.cells #[.int .i64 (d:Int)] 3);have hlen:(ni ds).length=k:=by rw[aC];exact hS.o.len
    go_wp2_with (at_builtin;refine wpList_append_own_at _ rfl _ _ 24 rfl (w.heap.size+3) 3 i0 (.int .i64 0) 1 8 Tryz.underlying24 hi hz0 hz1 hz2 rfl (by decide) (.slice A m cap) (ni ds).length ((ni ds).map (Value.int .i64)) rfl hown ⟨u1.heap.size,0,none⟩ 1 1 [.int .i64 (d:Int)] rfl rfl (cell_one_new _ _ _) (by intro u hu;simp at hu;subst hu;rfl) (by rw[hlen];unfold maxLen;omega) (by rw[hlen];omega) (by have:=DS.o;simp;omega) ?_)
    intro v' w' hown' hgrow hne hblk;have hv':OwnV w' (w.heap.size+3) v' (ni (ds++[d])):=by
     have h:=hown';rw[OwnV,aC,aEp,hS.o.len];have e:(ni (ds++[d])).map (Value.int .i64)=(ni ds).map (Value.int .i64)++[.int .i64 (d:Int)]:=by simp[ni]
     rw[e];exact h
    have hrow:∀ b,b<w.heap.size+3→(Value.slice A m cap).ownBlock≠some b:=fun b hb he=>by
     have:=(aFn DO.o b he).1
     omega
    have M0:=(D0.alloc (.cells #[.int .i64 (d:Int)] 3)).grown hgrow (hrow _ (by omega));have M1:=(D1.alloc (.cells #[.int .i64 (d:Int)] 3)).grown hgrow (hrow _ (by omega));have M2:=(D2.alloc (.cells #[.int .i64 (d:Int)] 3)).grown hgrow (hrow _ (by omega));have MB:=zz ((DB.o.alloc DB.o.size (.cells #[.int .i64 (d:Int)] 3)).grown hgrow (by have:=DB.o.size;simp;omega) (fun g he=>by have:=(aFn DO.o g he).1;omega));have MS:=zz (show w.heap.size+3≤w'.heap.size by have h1:=hgrow.size;have h2:=DS.o;simp at h1;omega);have MO:=zz hv';clear hown' hgrow hne hblk hown;have z00:=M0.cell0;have z01:=M0.cell1;have z10:=M1.cell0;have z11:=M1.cell1;have z20:=M2.cell0;have z21:=M2.cell1;rcases hv'.form with ⟨_,he⟩ | ⟨g',cap',rfl,_⟩
    ·simp[ni] at he
    ·have hlen2:(ni (ds++[d])).length=k+1:=by rw[aC,aEp,hS.o.len];rfl
     clear hv' hrow;go_wp2;go_roundw
     case rel=>exact⟨k+1,1,ds++[d],_,_,_,rfl,rfl,by rw[show((k+1:Nat):Int)=(k:Int)+1 by omega],by omega,by omega,k0,M0,M1,M2,MO,MS,MB⟩
     case measure=>simp[intOf] <;> omega
  ·obtain rfl:k=X.length:=by omega
   have HV:=zz (show val ds=p-q by have h:=hS.o.stop hlq (by rw[o0.o,p0.o];exact x0.o);rw[o0.o,p0.o] at h;omega);have hSm:=zz hS.o.small;have hln:ds.length≤3000000000:=by rw[hS.o.len];omega
   have RO:=zz (show RN wr wr.heap.size (.slice A m cap) ds from CO.o.ri);have q00:=C0.cell0;have q01:=C0.cell1;have q10:=C1.cell0;have q11:=C1.cell1;have q20:=C2.cell0;have q21:=C2.cell1;go_wp2_with fail
   refine(kZ _ _ _ ds RO.o hSm.o hln).mono ?_;rintro e w2 ⟨hb,v2,rfl,c0⟩;rw[HV.o] at c0;obtain⟨y,hy⟩:=ex (α:=Int) (jZ n (p-q));have HY:=zz hy;rw[← hy] at c0;obtain⟨A3,c3,rfl,hs2⟩:=c0.parts;have d0:=zz (CB.o.trans (hb.mono CB.o.size));have F2:=C2.step hb;have F0:=zz hs2;clear hs2 hb c0 hy;have f0:=F2.cell0;have f1:=F2.cell1;have f2:=F2.frozen 0;have f3:=F2.frozen 1;go_wp2;(try simp only[Exit.inBlock,Exit.then])
   rw[← HY.o];exact mB rfl F2 d0.o (by omega) F0.o rfl rfl
theorem TY (w:World) (n:Bool) (sa sb:Value) (p q:Nat) (ha:RN w w.heap.size sa (dig p)) (hb:RN w w.heap.size sb (dig q)) (hp0:p≠0) (hq0:q≠0) (hpq:p<q) (hlq:(dig q).length≤300000000) :
  CV 138 #[.agg #[.bool n,sa],.agg #[.bool n,sb]] w fun e w'=>oX w' (-(jZ n (q-p))) e:=by
 have k0:Hi (∀ (w:World) (va vb:Value),RN w w.heap.size va (dig p)→RN w w.heap.size vb (dig q)→CV 150 #[va,vb] w fun e _=>e=.returned (.bool true)):=
  zz (fun w va vb h h'=>by rw[← aEj hpq];exact oR w va vb p q h h')
 have i0:Hi (∀ (w:World) (sa sb:Value),RN w w.heap.size sa (dig q)→RN w w.heap.size sb (dig p)→CV 138 #[.agg #[.bool n,sa],.agg #[.bool n,sb]] w fun e w'=>oX w' (jZ n (q-p)) e):=
  zz (fun w sa sb h h'=>AA w n sa sb q p h h' hq0 hp0 (aMr hpq) hlq)
 have l0:=zz (show(dig (jZ n (q-p)).natAbs).length≤3000000000 by
  have h1:(jZ n (q-p)).natAbs≤q:=by unfold jZ;split <;> omega
  exact aEg (aL h1) (by omega))
 have hX0:0<(dig p).length:=aHh.2 (fun e=>hp0 (cU.1 e));have hY0:0<(dig q).length:=aHh.2 (fun e=>hq0 (cU.1 e));obtain⟨z,hz⟩:=ex (jZ n (q-p));rw[← hz];rw[← hz] at i0 l0;generalize dig p=X at *
 generalize dig q=Y at *
 clear hp0 hq0 hpq hlq hz;obtain⟨A1,c1,rfl,-⟩:=ha.cell;obtain⟨A2,c2,rfl,-⟩:=hb.cell;obtain⟨w0,hw0⟩:=ex (((w.alloc (.cells #[.bool n,.slice A1 X.length c1] 26)).alloc (.cells #[.bool n,.slice A2 Y.length c2] 26)).alloc (.cells #[.bool false,.slice none 0 0] 26));have a0:=zz (show Below w.heap.size w w0 from by rw[hw0];(repeat' (first | exact aDy _ _ | refine aJo ?_ | refine aIs ?_ (by first | exact aEa _ | (simp;done) | (simp;omega)) _)));have L0:LB w0 w.heap.size (.bool n) (.slice A1 X.length c1):=by rw[hw0];(repeat (first | (refine aJj ?_;simp;done) | refine aHq ?_ _))
 have L1:LB w0 (w.heap.size+1) (.bool n) (.slice A2 Y.length c2):=by rw[hw0];(repeat (first | (refine aJj ?_;simp;done) | refine aHq ?_ _))
 have L2:LB w0 (w.heap.size+2) (.bool false) (.slice none 0 0):=by rw[hw0];(repeat (first | (refine aJj ?_;simp;done) | refine aHq ?_ _))
 have HA:=zz ha;have m0:=zz hb;subst hw0;clear ha hb;have hXb:((X.length:Int)==0)=false:=by rw[aEo];omega
 have hYb:((Y.length:Int)==0)=false:=by rw[aEo];omega
 go_enter Tryz.func138,Tryz.ntmps138
 go_wp2_with fail
 refine(k0.o _ _ _ (aHy HA.o a0.o) (aHy m0.o a0.o)).mono ?_;rintro e w1 ⟨b0,rfl⟩;have N0:=L0.step b0;have N1:=L1.step b0;have N2:=L2.step b0;have NB:=zz (a0.o.trans (b0.mono a0.o.size));clear b0 a0 L0 L1 L2 k0;have q00:=N0.cell0;have q01:=N0.cell1;have q10:=N1.cell0;have q11:=N1.cell1;go_wp2_with fail
 refine(i0.o _ _ _ (aHy m0.o NB.o) (aHy HA.o NB.o)).mono ?_;rintro e w2 ⟨c0,v2,rfl,g0⟩;have P2:=N2.step c0;have PB:=zz (NB.o.trans (c0.mono NB.o.size));have n0:=zz g0;clear c0 g0 N0 N1 N2 NB i0 q00 q01 q10 q11;go_wp2_with fail
 refine(jW _ _ z n0.o l0.o).mono ?_;rintro e w3 ⟨d0,v3,rfl,e0⟩;obtain⟨y,hy⟩:=ex (α:=Int) (-z);have HY:=zz hy;rw[← hy] at e0;obtain⟨A3,c3,rfl,hs3⟩:=e0.parts;have F2:=P2.step d0;have h0:=zz (PB.o.trans (d0.mono PB.o.size));have q0:=zz hs3;clear d0 e0 hs3 hy P2 PB n0;have f0:=F2.cell0;have f1:=F2.cell1;have f2:=F2.frozen 0;have f3:=F2.frozen 1;go_wp2;(try simp only[Exit.inBlock,Exit.then])
 rw[← HY.o];exact mB rfl F2 h0.o (by omega) q0.o rfl rfl
theorem DJ (h:decide (x<0)=decide (y<0)) :
  (y.natAbs≤x.natAbs→jZ (decide (x<0)) (x.natAbs-y.natAbs)=x-y)∧(x.natAbs<y.natAbs→-(jZ (decide (x<0)) (y.natAbs-x.natAbs))=x-y):=by
 by_cases hx0:x<0
 ·have hy0:y<0:=by rw[aEj hx0] at h;exact aGw h.symm
  rw[aEj hx0];exact⟨fun _=>by show -((x.natAbs-y.natAbs:Nat):Int)=_;omega,fun _=>by show -(-((y.natAbs-x.natAbs:Nat):Int))=_;omega⟩
 ·have hy0:¬ y<0:=by rw[aEe hx0] at h;exact of_decide_eq_false h.symm
  rw[aEe hx0];exact⟨fun _=>by show((x.natAbs-y.natAbs:Nat):Int)=_;omega,fun _=>by show -((y.natAbs-x.natAbs:Nat):Int)=_;omega⟩
theorem VG (h:decide (x<0)=decide (y<0)):jZ (decide (x<0)) (x.natAbs+y.natAbs)=x+y:=by
 by_cases hx0:x<0
 ·have hy0:y<0:=by rw[aEj hx0] at h;exact aGw h.symm
  rw[aEj hx0]
  show -((x.natAbs+y.natAbs:Nat):Int)=_;omega
 ·have hy0:¬ y<0:=by rw[aEe hx0] at h;exact of_decide_eq_false h.symm
  rw[aEe hx0]
  show((x.natAbs+y.natAbs:Nat):Int)=_;omega
theorem TX (w:World) (va vb:Value) (x y:Int) (ha:LV w w.heap.size va x) (hb:LV w w.heap.size vb y) (h:decide (x<0)=decide (y<0)) (hx:x≠0) (hy:y≠0) (hlx:(dig x.natAbs).length≤300000000) (hly:(dig y.natAbs).length≤300000000) :
  CV 138 #[va,vb] w fun e w'=>oX w' (x-y) e:=by
 obtain⟨sa,rfl,hsa⟩:=ha;obtain⟨sb,rfl,hsb⟩:=hb;rw[← h];rcases aFk x.natAbs y.natAbs with h1 | h1
 ·rw[← (DJ h).2 h1];exact TY w _ sa sb _ _ hsa hsb (by omega) (by omega) h1 hly
 ·rw[← (DJ h).1 h1];exact AA w _ sa sb _ _ hsa hsb (by omega) (by omega) h1 hlx
theorem XO (w:World) (va vb:Value) (x y:Int) (ha:LV w w.heap.size va x) (hb:LV w w.heap.size vb y) (h:decide (x<0)=decide (y<0)) (hx:x≠0) (hy:y≠0) (hlx:(dig x.natAbs).length≤300000000) (hly:(dig y.natAbs).length≤300000000) :
  CV 116 #[va,vb] w fun e w'=>oX w' (x+y) e:=by
 obtain⟨sa,rfl,hsa⟩:=ha;obtain⟨sb,rfl,hsb⟩:=hb;rw[← h,← VG h];have h1:=XQ w (decide (x<0)) sa sb (dig x.natAbs) (dig y.natAbs) hsa hsb (aH _) (aH _) (aHh.2 (fun e=>hx (Int.natAbs_eq_zero.1 (cU.1 e)))) (aHh.2 (fun e=>hy (Int.natAbs_eq_zero.1 (cU.1 e)))) hlx hly;rw[aQ,aQ] at h1;exact h1
theorem XR (w:World) (va vb:Value) (x y:Int) (ha:LV w w.heap.size va x) (hb:LV w w.heap.size vb y) (hlx:(dig x.natAbs).length≤300000000) (hly:(dig y.natAbs).length≤300000000) :
  CV 116 #[va,vb] w fun e w'=>oX w' (x+y) e:=by
 by_cases hs:x≠0∧y≠0∧decide (x<0)=decide (y<0)
 ·exact XO w va vb x y ha hb hs.2.2 hs.1 hs.2.1 hlx hly
 obtain⟨A1,c1,rfl,-⟩:=ha.parts;obtain⟨A2,c2,rfl,-⟩:=hb.parts;have hX1:(((dig x.natAbs).length:Int)==0)=decide (x=0):=by
  by_cases h:x=0
  ·subst h;rw[show(0:Int).natAbs=0 from rfl,bF];rfl
  ·have h1:0<(dig x.natAbs).length:=aHh.2 (fun e=>h (Int.natAbs_eq_zero.1 (cU.1 e)));rw[aEe h,aEo];omega
 have hY1:(((dig y.natAbs).length:Int)==0)=decide (y=0):=by
  by_cases h:y=0
  ·subst h;rw[show(0:Int).natAbs=0 from rfl,bF];rfl
  ·have h1:0<(dig y.natAbs).length:=aHh.2 (fun e=>h (Int.natAbs_eq_zero.1 (cU.1 e)));rw[aEe h,aEo];omega
 have v0:=zz (show(dig x.natAbs).length≤300000000 from hlx);have I0:=zz (show(dig y.natAbs).length≤300000000 from hly);have k0:=zz (show(dig (-y).natAbs).length≤300000000 by rw[aKu];exact hly);have u0:=zz (show(dig y.natAbs).length≤3000000000 by omega);have l0:Hi (RI w w.heap.size (.slice A1 (dig x.natAbs).length c1) (ni (dig x.natAbs))):=zz (by obtain⟨s,h1,h2⟩:=ha;injection h1 with h1;simp at h1;subst h1;exact h2);have m0:Hi (RI w w.heap.size (.slice A2 (dig y.natAbs).length c2) (ni (dig y.natAbs))):=zz (by obtain⟨s,h1,h2⟩:=hb;injection h1 with h1;simp at h1;subst h1;exact h2);have x0:Hi (decide (x<0)=decide (x<0)):=zz rfl;have n0:Hi (x≠0→y≠0→decide (x<0)=decide ((-y)<0)):=zz (fun h1 h2=>by
  have h3:¬ decide (x<0)=decide (y<0):=fun h=>hs ⟨h1,h2,h⟩
  by_cases hx:x<0 <;> by_cases hy:y<0
  ·rw[aEj hx,aEj hy] at h3;exact absurd rfl h3
  ·rw[aEj hx,aEj (by omega)]
  ·rw[aEe hx,aEe (by omega)]
  ·rw[aEe hx,aEe hy] at h3;exact absurd rfl h3)
 have g0:Hi (x≠0→y≠0→(decide (x<0)==decide (y<0))=false):=zz (fun h1 h2=>by
  rw[aEo];exact fun h=>hs ⟨h1,h2,h⟩)
 obtain⟨na,hna⟩:=ex (decide (x<0));obtain⟨nb,hnb⟩:=ex (decide (y<0));obtain⟨lx,hlx'⟩:∃ l,l=(dig x.natAbs).length:=⟨_,rfl⟩;obtain⟨ly,hly'⟩:∃ l,l=(dig y.natAbs).length:=⟨_,rfl⟩;rw[← hna,← hlx'] at ha;rw[← hnb,← hly'] at hb;rw[← hna,← hnb,← hlx',← hly'];rw[← hna,← hnb] at g0;rw[← hlx'] at hX1 l0;rw[← hly'] at hY1 m0;have J0:=zz hna;have K0:=zz hnb;have o0:=zz ha;have p0:=zz hb;have h0:Hi (Below w.heap.size w (((w.alloc (.cells #[.bool na,.slice A1 lx c1] 26)).alloc (.cells #[.bool nb,.slice A2 ly c2] 26)).alloc (.cells #[.bool na,.slice A1 lx c1] 26))):=zz (by(repeat' (first | exact aDy _ _ | refine aJo ?_ | refine aIs ?_ (by first | exact aEa _ | (simp;done) | (simp;omega)) _)));have i0:Hi (Below w.heap.size w (((w.alloc (.cells #[.bool na,.slice A1 lx c1] 26)).alloc (.cells #[.bool nb,.slice A2 ly c2] 26)).alloc (.cells #[.bool nb,.slice A2 ly c2] 26))):=zz (by(repeat' (first | exact aDy _ _ | refine aJo ?_ | refine aIs ?_ (by first | exact aEa _ | (simp;done) | (simp;omega)) _)));have y0:LB (((w.alloc (.cells #[.bool na,.slice A1 lx c1] 26)).alloc (.cells #[.bool nb,.slice A2 ly c2] 26)).alloc (.cells #[.bool na,.slice A1 lx c1] 26)) (w.heap.size+2) (.bool na) (.slice A1 lx c1):=by(repeat (first | (refine aJj ?_;simp;done) | refine aHq ?_ _))
 have z0:LB (((w.alloc (.cells #[.bool na,.slice A1 lx c1] 26)).alloc (.cells #[.bool nb,.slice A2 ly c2] 26)).alloc (.cells #[.bool nb,.slice A2 ly c2] 26)) (w.heap.size+2) (.bool nb) (.slice A2 ly c2):=by(repeat (first | (refine aJj ?_;simp;done) | refine aHq ?_ _))
 obtain⟨w0,hw0⟩:=ex (((w.alloc (.cells #[.bool na,.slice A1 lx c1] 26)).alloc (.cells #[.bool nb,.slice A2 ly c2] 26)).alloc (.cells #[.bool false,.slice none 0 0] 26));have b0:=zz (show Below w.heap.size w w0 from by rw[hw0];(repeat' (first | exact aDy _ _ | refine aJo ?_ | refine aIs ?_ (by first | exact aEa _ | (simp;done) | (simp;omega)) _)));have L0:LB w0 w.heap.size (.bool na) (.slice A1 lx c1):=by rw[hw0];(repeat (first | (refine aJj ?_;simp;done) | refine aHq ?_ _))
 have L1:LB w0 (w.heap.size+1) (.bool nb) (.slice A2 ly c2):=by rw[hw0];(repeat (first | (refine aJj ?_;simp;done) | refine aHq ?_ _))
 have L2:LB w0 (w.heap.size+2) (.bool false) (.slice none 0 0):=by rw[hw0];(repeat (first | (refine aJj ?_;simp;done) | refine aHq ?_ _))
 have q0:=st aFu o0 b0;have r0:=st aFu p0 b0;have M0:=st RI.step l0 b0;have N0:=st RI.step m0 b0;subst hw0;clear ha hb hna hnb hlx' hly' hlx hly hs x0;by_cases hx:x=0
 ·rw[aEj hx] at hX1;have HR:=zz (show x+y=y by omega);clear hx hY1;go_enter Tryz.func116,Tryz.ntmps116
  go_wp2;(try simp only[Exit.inBlock,Exit.then])
  rw[HR.o];exact aFv (LB.ret1 rfl _ z0 rfl) rfl ⟨i0.o,_,rfl,aFu p0.o i0.o⟩
 rw[aEe hx] at hX1;by_cases hy:y=0
 ·rw[aEj hy] at hY1;have HR:=zz (show x+y=x by omega);clear hx hy;go_enter Tryz.func116,Tryz.ntmps116
  go_wp2;(try simp only[Exit.inBlock,Exit.then])
  rw[HR.o];exact aFv (LB.ret1 rfl _ y0 rfl) rfl ⟨h0.o,_,rfl,aFu o0.o h0.o⟩
 rw[aEe hy] at hY1;have hne:=g0.o hx hy;have HS:=zz (n0.o hx hy);have HX:=zz hx;have s0:=zz (show -y≠0 by omega);clear hx hy n0 g0;obtain⟨m,hm⟩:=ex (-y);have HM:=zz hm;rw[← hm] at HS s0 k0;clear hm;have q00:=L0.cell0;have q01:=L0.cell1;have q10:=L1.cell0;have q11:=L1.cell1;have tok1:True:=aFi;have tok2:True:=aFi;have nz0:w.heap.size≠w.heap.size+2:=by omega
 have nz1:w.heap.size+1≠w.heap.size+2:=by omega
 go_enter Tryz.func116,Tryz.ntmps116
 go_wp2_with fail
 go_region_held3 (fun w'=>w'.cell? ⟨w.heap.size,0,none⟩=some (.bool na)∧w'.cell? ⟨w.heap.size,1,none⟩=some (.slice A1 lx c1)∧w'.cell? ⟨w.heap.size+1,0,none⟩=some (.bool nb)∧w'.cell? ⟨w.heap.size+1,1,none⟩=some (.slice A2 ly c2)) (first
  | (exact⟨L0.cell0,L0.cell1,L1.cell0,L1.cell1⟩)
  | (exact⟨(aFz L0).cell0,(aFz L0).cell1,(aFz L1).cell0,(aFz L1).cell1⟩)
  | (exact⟨D0.cell0,D0.cell1,D1.cell0,D1.cell1⟩)
  | (exact⟨(aFz D0).cell0,(aFz D0).cell1,(aFz D1).cell0,(aFz D1).cell1⟩)
  | (exact⟨E0.cell0,E0.cell1,E1.cell0,E1.cell1⟩)
  | (exact⟨(aFz E0).cell0,(aFz E0).cell1,(aFz E1).cell0,(aFz E1).cell1⟩)
  | (exact⟨(LB.far (LB.far E0 (p:=⟨w.heap.size+2,0,none⟩) nz0 _) (p:=⟨w.heap.size+2,1,none⟩) nz0 _).cell0,(LB.far (LB.far E0 (p:=⟨w.heap.size+2,0,none⟩) nz0 _) (p:=⟨w.heap.size+2,1,none⟩) nz0 _).cell1,(LB.far (LB.far E1 (p:=⟨w.heap.size+2,0,none⟩) nz1 _) (p:=⟨w.heap.size+2,1,none⟩) nz1 _).cell0,(LB.far (LB.far E1 (p:=⟨w.heap.size+2,0,none⟩) nz1 _) (p:=⟨w.heap.size+2,1,none⟩) nz1 _).cell1⟩)
  | go_keep) (first
  | (go_at_call 125;clear tok1;((with_reducible refine(jW _ _ y (by first | exact r0.o | exact LV.drew1 r0.o) u0.o).mono ?_);rintro e u1 ⟨a0,v1,rfl,d0⟩;rw[← HM.o] at d0;have D0:=aIa (b:=w.heap.size) (x:=(.bool na)) (y:=(.slice A1 lx c1)) (by first | exact L0 | exact aFz L0) a0;have D1:=aIa (b:=(w.heap.size+1)) (x:=(.bool nb)) (y:=(.slice A2 ly c2)) (by first | exact L1 | exact aFz L1) a0;have D2:=aIa (b:=(w.heap.size+2)) (x:=(.bool false)) (y:=(.slice none 0 0)) (by first | exact L2 | exact aFz L2) a0;have DB:=zz (show Below w.heap.size w u1 from by first | exact dS b0.o a0 | exact bU b0.o a0);have t0:=zz (aFu (v:=.agg #[.bool na,.slice A1 lx c1]) (z:=x) (by first | exact q0.o | exact LV.drew1 q0.o) a0);have VM:=zz d0;clear a0 d0))
  | (go_at_call 138;clear tok2;((with_reducible refine(TX _ _ _ x m (by first | exact t0.o | exact LV.drew1 t0.o) (by first | exact VM.o | exact LV.drew1 VM.o) HS.o HX.o s0.o v0.o k0.o).mono ?_);rintro e u2 ⟨c0,v2,rfl,e0⟩;have E0:=aIa (b:=w.heap.size) (x:=(.bool na)) (y:=(.slice A1 lx c1)) (by first | exact D0 | exact aFz D0) c0;have E1:=aIa (b:=(w.heap.size+1)) (x:=(.bool nb)) (y:=(.slice A2 ly c2)) (by first | exact D1 | exact aFz D1) c0;have E2:=aIa (b:=(w.heap.size+2)) (x:=(.bool false)) (y:=(.slice none 0 0)) (by first | exact D2 | exact aFz D2) c0;have EB:=zz (show Below w.heap.size w u2 from by first | exact dS DB.o c0 | exact bU DB.o c0);obtain⟨r,hr⟩:=ex (α:=Int) (x-m);rw[← hr] at e0;obtain⟨A3,c3,rfl,hs3⟩:=e0.parts;have HR:=zz (show r=x+y by rw[hr,HM.o];omega);have F0:=zz hs3;clear c0 e0 hs3 hr;have f0:=E2.cell0;have f1:=E2.cell1;have f2:=fz2 E2)))
 go_wp2;(try simp only[Exit.inBlock,Exit.then])
 rw[← HR.o];exact mB rfl E2 EB.o (by omega) F0.o rfl rfl
theorem fZ {v:Value} {n:Bool} {l:List Int} (h:LR w w.heap.size v n l) (hv:Valid n l) :
  CV 103 #[v] w fun e _=>e=.returned (.bool true):=by
 refine(zX w v _ _ h).mono ?_;rintro e w' ⟨hw,b,rfl,hc⟩;rcases hc with ⟨_,hc⟩ | ⟨hn,_⟩
 ·exact⟨hw,by rw[hc]⟩
 ·exact absurd hv hn
theorem zW {v:Value} {n:Bool} {l:List Int} (h:LR w w.heap.size v n l) (hv:¬ Valid n l) :
  CV 103 #[v] w fun e _=>e=.returned (.bool false):=by
 refine(zX w v _ _ h).mono ?_;rintro e w' ⟨hw,b,rfl,hc⟩;rcases hc with ⟨hn,_⟩ | ⟨_,hc⟩
 ·exact absurd hn hv
 ·exact⟨hw,by rw[hc]⟩
theorem TT {va vb:Value} (ha:LV w w.heap.size va x) (hb:LV w w.heap.size vb y) :
  CV 92 #[va,vb] w fun e _=>e=.returned (.bool (decide (x=y))):=by
 refine(tF w va vb _ _ _ _ ha hb).mono ?_;rintro e w' ⟨hw,he⟩;have:(decide (x<0)=decide (y<0)∧ni (dig x.natAbs)=ni (dig y.natAbs))↔x=y:=⟨fun h=>UI h.1 h.2,fun h=>by rw[h];exact⟨rfl,rfl⟩⟩;exact⟨hw,by rw[he,show decide (decide (x<0)=decide (y<0)∧ni (dig x.natAbs)=ni (dig y.natAbs))=decide (x=y) from aIu.2 this]⟩
end Go.Proofs.YtencnahjgbdeoaaGreatDoor
