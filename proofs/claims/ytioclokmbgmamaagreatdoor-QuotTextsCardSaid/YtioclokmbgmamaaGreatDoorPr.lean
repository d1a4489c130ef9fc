/- Texts put together: Drafts of Longs: Draft.Long, Draft.Short of the reference; size of the law package (written by gen_draft.py). The law package's own: a row of at most 60 places, of its own. The law package's pairs of a Two (written by gen_pairs.py). All four pairs; divisions of Longs that are not valid; the sign of a rest. All four pairs, each list of at most 60 entries; own gives the same list back. -/
import Derived.Test.YtioclokmbgmamaaGreatDoorOps
import Derived.Test.YtioclokmbgmamaaGreatDoorLow
import Derived.Test.YtioclokmbgmamaaGreatDoorDec
import Derived.Deep.RegionHeld3
namespace Go.Proofs.YtioclokmbgmamaaGreatDoor
open Go Go.RowKit Dig
def RW (w:World) (B:Nat) (v:Value) (l:List Nat):Prop:=
 ∃ A c,v=.slice A l.length c∧l.length≤c∧c≤9223372036854775807∧(∀ d∈l,d<4294967296)∧(0<l.length→∃ g off,A=some ⟨g,off,none⟩∧g<B∧∀ j (h:j<l.length),w.cell? ⟨g,off+j,none⟩=some (.int .u32 (l[j]:Nat)))
theorem RW.step {w w':World} {v:Value} {l:List Nat} (h:RW w w.heap.size v l) (hb:Below w.heap.size w w'):RW w' w'.heap.size v l:=by
 obtain⟨A,c,hv,hc,hm,hs,h0⟩:=h;refine⟨A,c,hv,hc,hm,hs,fun hn=>?_⟩;obtain⟨g,off,hA,hg,hx⟩:=h0 hn;exact⟨g,off,hA,Nat.lt_of_lt_of_le hg hb.size,fun j hj=>(hb.cell (p:=⟨g,off+j,none⟩) hg).trans (hx j hj)⟩
def draftDs (n k:Nat) (ws:List Nat):List Nat:=List.replicate n 0++(ws.take k).map (· % 1000000000)
theorem draft_small (n k:Nat) (ws:List Nat):Small (draftDs n k ws):=(Small.replicate n).append fun d hd=>by
 obtain⟨x,_,rfl⟩:=List.mem_map.1 hd;exact Nat.mod_lt _ (by omega)
theorem draft_len (n k:Nat) (ws:List Nat):(draftDs n k ws).length≤n+k:=by unfold draftDs;simp;omega
theorem draft_next (n k:Nat) (ws:List Nat) (h:k<ws.length):draftDs n (k+1) ws=draftDs n k ws++[ws[k] % 1000000000]:=by
 unfold draftDs;rw[List.take_succ_eq_append_getElem h,List.map_append,List.append_assoc];rfl
theorem draft_fit {neg:Bool} {n k m:Nat} {ws:List Nat} (h:n+k≤m):(dig (sgn neg (val (draftDs n k ws))).natAbs).length≤m:=by
 rw[sgn_nat,dig_len_le];exact Nat.lt_of_lt_of_le (val_lt (draft_small n k ws)) (bp_le (Nat.le_trans (draft_len n k ws) h))
theorem OwnV.make (w:World) (base n:Nat) (hb:base≤w.heap.size) (hn:n≤1000000):OwnV (w.alloc (zerosObj n)) base (.slice (some ⟨w.heap.size,0,none⟩) n n) (ni (List.replicate n 0)):=by
 refine⟨by simp[ni],.inr ⟨w.heap.size,n,((List.replicate n (0:Int)).map (Value.int .i64)).toArray,?_,hb,heap_alloc_new w _,by simp[ni],by unfold maxLen;omega,by simp,?_⟩⟩
 ·simp[ni]
 ·simp[ni]
theorem mk_low (low:Int) (h0:0≤low) (w:World):(Instr.makeSlice 22 (.int .u8 (low % 8)) (.int .u8 (low % 8))).run Tryz.prog w =
  .ok (.slice (some ⟨w.heap.size,0,none⟩) (low.toNat % 8) (low.toNat % 8)) (w.alloc (zerosObj (low.toNat % 8))):=by
 obtain⟨n,hn⟩:∃ n:Nat,low.toNat % 8=n:=⟨_,rfl⟩;have e:low % 8=(n:Int):=by omega
 have hle:n<8:=by omega
 rw[hn,e];obtain⟨i,hi,hz,hs,hb⟩:=info_parts info_int;have h:=run_make (P:=Tryz.prog) w 22 3 i (.int .i64 0) Tryz.underlying22 hi hz .u8 .u8 n n (by omega) (by omega) (by rw[hb];omega) (by omega);rw[h,hs]
 show _=Result.ok _ (w.alloc (.cells _ _ _))
 rw[← cells_madeInt];simp[Value.cells]
set_option maxRecDepth 100000 in
set_option maxHeartbeats 2000000 in
theorem Short_any (w:World) (neg:Bool) (low:Int) (wv:Value) (ws:List Nat) (hlow0:0≤low) (_:low≤255) (h:RW w w.heap.size wv ws) :
  Calls Tryz.prog 74 #[.agg #[.bool neg,.int .u8 low,wv]] w fun e w'=>Below w.heap.size w w'∧RetV w' (sgn neg (val (draftDs 0 3 ws))) e:=by
 obtain⟨i0,hi,hz0,hz1,hz2⟩:=info_parts info_int;obtain⟨A,c,rfl,hc,hc',hsm,hA⟩:=h;have k0:=zz hsm;have HA:=zz hA;clear hsm hA;have hmk:=mk_low low hlow0;go_enter Tryz.func74,Tryz.ntmps74
 go_wp2;have HO:=zz (show OwnV ((w.alloc (.cells #[.bool neg,.int .u8 low,.slice A ws.length c] 29)).alloc (.cells #[.bool false,.slice none 0 0] 24)) (w.heap.size+2) (.slice none 0 0) (ni (draftDs 0 0 ws)) from OwnV.nil _ _);obtain⟨w0,hw0⟩:∃ w0,w0=(w.alloc (.cells #[.bool neg,.int .u8 low,.slice A ws.length c] 29)).alloc (.cells #[.bool false,.slice none 0 0] 24):=⟨_,rfl⟩;have hbk:(w.alloc (.cells #[.bool neg,.int .u8 low,.slice A ws.length c] 29)).heap[w.heap.size]?=some (.cells #[.bool neg,.int .u8 low,.slice A ws.length c] 29 (0,0)):=heap_alloc_new w _;have hbk2:w0.heap[w.heap.size]?=some (.cells #[.bool neg,.int .u8 low,.slice A ws.length c] 29 (0,0)):=by
  rw[hw0];exact(Below.heap_alloc _ _ _ (by simp)).trans hbk
 have q0:w0.cell? ⟨w.heap.size,0,none⟩=some (.bool neg):=by simp[World.cell?,hbk2]
 have q2:w0.cell? ⟨w.heap.size,2,none⟩=some (.slice A ws.length c):=by simp[World.cell?,hbk2]
 have L1:LB w0 (w.heap.size+1) (.bool false) (.slice none 0 0):=by rw[hw0];(repeat (first | (refine LB.new' ?_;simp;done) | refine LB.alloc ?_ _))
 have HS:=zz (show w.heap.size+2≤w0.heap.size by rw[hw0];simp);have hbw0:Below w.heap.size w w0:=by rw[hw0];(repeat' (first | exact Below.refl _ _ | refine Below.drew ?_ | refine Below.alloc ?_ (by first | exact Nat.le_refl _ | (simp;done) | (simp;omega)) _))
 rw[← hw0];rw[← hw0] at HO;clear hbk hbk2 hw0;clear hmk;go_loopw [3,4] (fun v iv wr=>∃ (i:Nat),i≤3∧i≤ws.length∧iv=.int .i64 i∧(∃ A' n' c',v=.slice A' n' c')∧Hid (OwnV wr (w.heap.size+2) v (ni (draftDs 0 i ws)))∧wr.cell? ⟨w.heap.size,0,none⟩=some (.bool neg)∧wr.cell? ⟨w.heap.size,2,none⟩=some (.slice A ws.length c)∧LB wr (w.heap.size+1) (.bool false) (.slice none 0 0)∧Hid (w.heap.size+2≤wr.heap.size)∧Below w.heap.size w wr) (fun _ iv _=>3-(intOf iv).toNat)
 case atStart=>exact⟨0,by omega,by omega,rfl,⟨_,_,_,rfl⟩,HO,q0,q2,L1,HS,hbw0⟩
 case round=>
  clear HO q0 q2 L1 HS hbw0;obtain⟨i,hiK,hin,rfl,⟨A',n',c',rfl⟩,ho,q0,q2,L1,hsz,hbw⟩:=hrel;have hlt1:=L1.lt;by_cases hgo:i<ws.length∧i<3
  ·obtain⟨hlt,hltK⟩:=hgo;obtain⟨g,off,rfl,hg,hx⟩:=HA.out (by omega);obtain⟨x,hx0⟩:∃ x,x=ws[i]:=⟨_,rfl⟩;have hx1:=(hbw.cell (p:=⟨g,off+i,none⟩) hg).trans (hx i hlt);have hxs:=k0.out ws[i] (List.getElem_mem hlt);rw[← hx0] at hx1 hxs;have hx2:(x:Int)<4294967296:=by omega
   have HN:=zz (show ni (draftDs 0 (i+1) ws)=ni (draftDs 0 i ws)++[((x % 1000000000:Nat):Int)] by rw[draft_next _ _ _ hlt,ni_append,hx0];rfl);have HL:=zz (show(ni (draftDs 0 i ws)).length≤60 by rw[ni_length];have:=draft_len 0 i ws;omega);have HB:=zz hbw;have hown:=ho.out.alloc (.cells #[.int .i64 ((x:Int) % 1000000000)] 3);have hini:(i:Int)<ws.length:=by omega
   have hini2:(i:Int)<3:=by omega
   have hi00:(0:Int)≤i:=by omega
   have hx00:(0:Int)≤x:=by omega
   clear hx0 hbw hx;go_wp2_with (at_builtin;refine wpList_append_own_at _ rfl _ _ 22 rfl (w.heap.size+2) 3 i0 (.int .i64 0) 1 8 Tryz.underlying22 hi hz0 hz1 hz2 rfl (by decide) (.slice A' n' c') (ni (draftDs 0 i ws)).length ((ni (draftDs 0 i ws)).map (Value.int .i64)) rfl hown ⟨wr.heap.size,0,none⟩ 1 1 [.int .i64 ((x:Int) % 1000000000)] rfl rfl (cell_one_new _ _ _) (by intro u hu;simp at hu;subst hu;rfl) (by have:=HL.out;unfold maxLen;omega) (by have:=HL.out;omega) (by have:=hsz.out;simp;omega) ?_)
   intro v' w' hown' hgrow hne hblk;have hv':OwnV w' (w.heap.size+2) v' (ni (draftDs 0 (i+1) ws)):=by
    rw[HN.out];unfold OwnV;rw[List.length_append,List.map_append];exact hown'
   have hrow:∀ b,b<w.heap.size+2→(Value.slice A' n' c').ownBlock≠some b:=fun b hb he=>by
    have:=(World.ownsRow.lt ho.out b he).1
    omega
   have M1:=(L1.alloc (.cells #[.int .i64 ((x:Int) % 1000000000)] 3)).grown hgrow (hrow _ (by omega));have d0:=zz ((HB.out.alloc HB.out.size (.cells #[.int .i64 ((x:Int) % 1000000000)] 3)).grown hgrow (by have:=HB.out.size;simp;omega) (fun g' he=>by have:=(World.ownsRow.lt ho.out g' he).1;omega));have o0:=zz (show w.heap.size+2≤w'.heap.size by have h1:=hgrow.size;have h2:=hsz.out;simp at h1;omega);have r0:w'.cell? ⟨w.heap.size,0,none⟩=some (.bool neg):=(hgrow.cell_far (a:=⟨w.heap.size,0,none⟩) (by simp;omega) (Ne.symm (hrow w.heap.size (by omega)))).trans ((World.cell?_of_block (Below.heap_alloc wr _ _ (by show w.heap.size<wr.heap.size;omega))).trans q0);have r2:w'.cell? ⟨w.heap.size,2,none⟩=some (.slice (some ⟨g,off,none⟩) ws.length c):=(hgrow.cell_far (a:=⟨w.heap.size,2,none⟩) (by simp;omega) (Ne.symm (hrow w.heap.size (by omega)))).trans ((World.cell?_of_block (Below.heap_alloc wr _ _ (by show w.heap.size<wr.heap.size;omega))).trans q2);have HV:=zz hv';rcases hv'.form with ⟨_,he⟩ | ⟨g',cap,rfl,_⟩
   ·rw[HN.out] at he;simp at he
   ·clear hown' hgrow hne hblk hown hv' hrow q0 q2 L1 HB ho;go_wp2;go_roundw
    case rel=>exact⟨i+1,by omega,by omega,by go_num,⟨_,_,_,rfl⟩,HV,r0,r2,M1,o0,d0.out⟩
    case measure=>simp[intOf];omega
  ·have HB:=zz hbw;have g0:=zz (show draftDs 0 i ws=draftDs 0 3 ws by
    unfold draftDs;by_cases hlt:i<ws.length
    ·rw[show i=3 by omega]
    ·rw[List.take_of_length_le (by omega),List.take_of_length_le (by omega)])
   have h0:=zz ho.out.ri;have hgo1:i<ws.length→¬ (i:Int)<3:=fun h h2=>hgo ⟨h,by omega⟩
   have s0:=zz hgo1;clear hbw hgo hgo1;by_cases hlt:i<ws.length
   ·have hlti:(i:Int)<ws.length:=by omega
    have hltk:decide ((i:Int)<3)=false:=by rw[decide_eq_false_iff_not];exact s0.out hlt
    go_wp2_with fail
    refine(made_any _ neg _ (draftDs 0 i ws) h0.out (draft_small _ _ _) (by have:=draft_len 0 i ws;omega)).mono ?_;rintro e w5 ⟨a0,v5,rfl,b0⟩;rw[g0.out] at b0;obtain⟨s5,rfl,hs5⟩:=b0;obtain⟨A5,c5,rfl,-⟩:=(show RI _ _ _ _ from hs5);have f0:=zz hs5;have L5:=L1.step a0;have c0:=zz (HB.out.trans (a0.mono HB.out.size));clear a0 hs5;have p0:=L5.cell0;have p1:=L5.cell1;have p2:=L5.frozen 0;have p3:=L5.frozen 1;go_wp2;(try simp only[Exit.inBlock,Exit.then])
    exact end_one rfl L5 c0.out (by omega) f0.out rfl rfl
   ·have hlti:¬ (i:Int)<ws.length:=by omega
    go_wp2_with fail
    refine(made_any _ neg _ (draftDs 0 i ws) h0.out (draft_small _ _ _) (by have:=draft_len 0 i ws;omega)).mono ?_;rintro e w5 ⟨a0,v5,rfl,b0⟩;rw[g0.out] at b0;obtain⟨s5,rfl,hs5⟩:=b0;obtain⟨A5,c5,rfl,-⟩:=(show RI _ _ _ _ from hs5);have f0:=zz hs5;have L5:=L1.step a0;have c0:=zz (HB.out.trans (a0.mono HB.out.size));clear a0 hs5;have p0:=L5.cell0;have p1:=L5.cell1;have p2:=L5.frozen 0;have p3:=L5.frozen 1;go_wp2;(try simp only[Exit.inBlock,Exit.then])
    exact end_one rfl L5 c0.out (by omega) f0.out rfl rfl
set_option maxRecDepth 100000 in
set_option maxHeartbeats 2000000 in
theorem Long_any (w:World) (neg:Bool) (low:Int) (wv:Value) (ws:List Nat) (hlow0:0≤low) (_:low≤255) (h:RW w w.heap.size wv ws) :
  Calls Tryz.prog 73 #[.agg #[.bool neg,.int .u8 low,wv]] w fun e w'=>Below w.heap.size w w'∧RetV w' (sgn neg (val (draftDs (low.toNat % 8) 40 ws))) e:=by
 obtain⟨i0,hi,hz0,hz1,hz2⟩:=info_parts info_int;obtain⟨A,c,rfl,hc,hc',hsm,hA⟩:=h;have k0:=zz hsm;have HA:=zz hA;clear hsm hA;have hmk:=mk_low low hlow0;go_enter Tryz.func73,Tryz.ntmps73
 go_wp2;have HO:=zz (show OwnV (((w.alloc (.cells #[.bool neg,.int .u8 low,.slice A ws.length c] 29)).alloc (.cells #[.bool false,.slice none 0 0] 24)).alloc (zerosObj (low.toNat % 8))) (w.heap.size+2) (.slice (some ⟨w.heap.size+1+1,0,none⟩) (low.toNat % 8) (low.toNat % 8)) (ni (draftDs (low.toNat % 8) 0 ws)) from by
  have h:=OwnV.make ((w.alloc (.cells #[.bool neg,.int .u8 low,.slice A ws.length c] 29)).alloc (.cells #[.bool false,.slice none 0 0] 24)) (w.heap.size+2) (low.toNat % 8) (by simp) (by omega);have e:draftDs (low.toNat % 8) 0 ws=List.replicate (low.toNat % 8) 0:=by simp[draftDs]
  rw[e]
  simpa using h)
 obtain⟨w0,hw0⟩:∃ w0,w0=((w.alloc (.cells #[.bool neg,.int .u8 low,.slice A ws.length c] 29)).alloc (.cells #[.bool false,.slice none 0 0] 24)).alloc (zerosObj (low.toNat % 8)):=⟨_,rfl⟩;have hbk:(w.alloc (.cells #[.bool neg,.int .u8 low,.slice A ws.length c] 29)).heap[w.heap.size]?=some (.cells #[.bool neg,.int .u8 low,.slice A ws.length c] 29 (0,0)):=heap_alloc_new w _;have hbk2:w0.heap[w.heap.size]?=some (.cells #[.bool neg,.int .u8 low,.slice A ws.length c] 29 (0,0)):=by
  rw[hw0];exact(Below.heap_alloc _ _ _ (by simp <;> omega)).trans ((Below.heap_alloc _ _ _ (by simp)).trans hbk)
 have q0:w0.cell? ⟨w.heap.size,0,none⟩=some (.bool neg):=by simp[World.cell?,hbk2]
 have q2:w0.cell? ⟨w.heap.size,2,none⟩=some (.slice A ws.length c):=by simp[World.cell?,hbk2]
 have L1:LB w0 (w.heap.size+1) (.bool false) (.slice none 0 0):=by rw[hw0];(repeat (first | (refine LB.new' ?_;simp;done) | refine LB.alloc ?_ _))
 have HS:=zz (show w.heap.size+2≤w0.heap.size by rw[hw0];simp);have hbw0:Below w.heap.size w w0:=by rw[hw0];(repeat' (first | exact Below.refl _ _ | refine Below.drew ?_ | refine Below.alloc ?_ (by first | exact Nat.le_refl _ | (simp;done) | (simp;omega)) _))
 rw[← hw0];rw[← hw0] at HO;clear hbk hbk2 hw0;clear hmk;go_loopw [3,4] (fun v iv wr=>∃ (i:Nat),i≤40∧i≤ws.length∧iv=.int .i64 i∧(∃ A' n' c',v=.slice A' n' c')∧Hid (OwnV wr (w.heap.size+2) v (ni (draftDs (low.toNat % 8) i ws)))∧wr.cell? ⟨w.heap.size,0,none⟩=some (.bool neg)∧wr.cell? ⟨w.heap.size,2,none⟩=some (.slice A ws.length c)∧LB wr (w.heap.size+1) (.bool false) (.slice none 0 0)∧Hid (w.heap.size+2≤wr.heap.size)∧Below w.heap.size w wr) (fun _ iv _=>40-(intOf iv).toNat)
 case atStart=>exact⟨0,by omega,by omega,rfl,⟨_,_,_,rfl⟩,HO,q0,q2,L1,HS,hbw0⟩
 case round=>
  clear HO q0 q2 L1 HS hbw0;obtain⟨i,hiK,hin,rfl,⟨A',n',c',rfl⟩,ho,q0,q2,L1,hsz,hbw⟩:=hrel;have hlt1:=L1.lt;by_cases hgo:i<ws.length∧i<40
  ·obtain⟨hlt,hltK⟩:=hgo;obtain⟨g,off,rfl,hg,hx⟩:=HA.out (by omega);obtain⟨x,hx0⟩:∃ x,x=ws[i]:=⟨_,rfl⟩;have hx1:=(hbw.cell (p:=⟨g,off+i,none⟩) hg).trans (hx i hlt);have hxs:=k0.out ws[i] (List.getElem_mem hlt);rw[← hx0] at hx1 hxs;have hx2:(x:Int)<4294967296:=by omega
   have HN:=zz (show ni (draftDs (low.toNat % 8) (i+1) ws)=ni (draftDs (low.toNat % 8) i ws)++[((x % 1000000000:Nat):Int)] by rw[draft_next _ _ _ hlt,ni_append,hx0];rfl);have HL:=zz (show(ni (draftDs (low.toNat % 8) i ws)).length≤60 by rw[ni_length];have:=draft_len (low.toNat % 8) i ws;omega);have HB:=zz hbw;have hown:=ho.out.alloc (.cells #[.int .i64 ((x:Int) % 1000000000)] 3);have hini:(i:Int)<ws.length:=by omega
   have hini2:(i:Int)<40:=by omega
   have hi00:(0:Int)≤i:=by omega
   have hx00:(0:Int)≤x:=by omega
   clear hx0 hbw hx;go_wp2_with (at_builtin;refine wpList_append_own_at _ rfl _ _ 22 rfl (w.heap.size+2) 3 i0 (.int .i64 0) 1 8 Tryz.underlying22 hi hz0 hz1 hz2 rfl (by decide) (.slice A' n' c') (ni (draftDs (low.toNat % 8) i ws)).length ((ni (draftDs (low.toNat % 8) i ws)).map (Value.int .i64)) rfl hown ⟨wr.heap.size,0,none⟩ 1 1 [.int .i64 ((x:Int) % 1000000000)] rfl rfl (cell_one_new _ _ _) (by intro u hu;simp at hu;subst hu;rfl) (by have:=HL.out;unfold maxLen;omega) (by have:=HL.out;omega) (by have:=hsz.out;simp;omega) ?_)
   intro v' w' hown' hgrow hne hblk;have hv':OwnV w' (w.heap.size+2) v' (ni (draftDs (low.toNat % 8) (i+1) ws)):=by
    rw[HN.out];unfold OwnV;rw[List.length_append,List.map_append];exact hown'
   have hrow:∀ b,b<w.heap.size+2→(Value.slice A' n' c').ownBlock≠some b:=fun b hb he=>by
    have:=(World.ownsRow.lt ho.out b he).1
    omega
   have M1:=(L1.alloc (.cells #[.int .i64 ((x:Int) % 1000000000)] 3)).grown hgrow (hrow _ (by omega));have d0:=zz ((HB.out.alloc HB.out.size (.cells #[.int .i64 ((x:Int) % 1000000000)] 3)).grown hgrow (by have:=HB.out.size;simp;omega) (fun g' he=>by have:=(World.ownsRow.lt ho.out g' he).1;omega));have o0:=zz (show w.heap.size+2≤w'.heap.size by have h1:=hgrow.size;have h2:=hsz.out;simp at h1;omega);have r0:w'.cell? ⟨w.heap.size,0,none⟩=some (.bool neg):=(hgrow.cell_far (a:=⟨w.heap.size,0,none⟩) (by simp;omega) (Ne.symm (hrow w.heap.size (by omega)))).trans ((World.cell?_of_block (Below.heap_alloc wr _ _ (by show w.heap.size<wr.heap.size;omega))).trans q0);have r2:w'.cell? ⟨w.heap.size,2,none⟩=some (.slice (some ⟨g,off,none⟩) ws.length c):=(hgrow.cell_far (a:=⟨w.heap.size,2,none⟩) (by simp;omega) (Ne.symm (hrow w.heap.size (by omega)))).trans ((World.cell?_of_block (Below.heap_alloc wr _ _ (by show w.heap.size<wr.heap.size;omega))).trans q2);have HV:=zz hv';rcases hv'.form with ⟨_,he⟩ | ⟨g',cap,rfl,_⟩
   ·rw[HN.out] at he;simp at he
   ·clear hown' hgrow hne hblk hown hv' hrow q0 q2 L1 HB ho;go_wp2;go_roundw
    case rel=>exact⟨i+1,by omega,by omega,by go_num,⟨_,_,_,rfl⟩,HV,r0,r2,M1,o0,d0.out⟩
    case measure=>simp[intOf];omega
  ·have HB:=zz hbw;have g0:=zz (show draftDs (low.toNat % 8) i ws=draftDs (low.toNat % 8) 40 ws by
    unfold draftDs;by_cases hlt:i<ws.length
    ·rw[show i=40 by omega]
    ·rw[List.take_of_length_le (by omega),List.take_of_length_le (by omega)])
   have h0:=zz ho.out.ri;have hgo1:i<ws.length→¬ (i:Int)<40:=fun h h2=>hgo ⟨h,by omega⟩
   have s0:=zz hgo1;clear hbw hgo hgo1;by_cases hlt:i<ws.length
   ·have hlti:(i:Int)<ws.length:=by omega
    have hltk:decide ((i:Int)<40)=false:=by rw[decide_eq_false_iff_not];exact s0.out hlt
    go_wp2_with fail
    refine(made_any _ neg _ (draftDs (low.toNat % 8) i ws) h0.out (draft_small _ _ _) (by have:=draft_len (low.toNat % 8) i ws;omega)).mono ?_;rintro e w5 ⟨a0,v5,rfl,b0⟩;rw[g0.out] at b0;obtain⟨s5,rfl,hs5⟩:=b0;obtain⟨A5,c5,rfl,-⟩:=(show RI _ _ _ _ from hs5);have f0:=zz hs5;have L5:=L1.step a0;have c0:=zz (HB.out.trans (a0.mono HB.out.size));clear a0 hs5;have p0:=L5.cell0;have p1:=L5.cell1;have p2:=L5.frozen 0;have p3:=L5.frozen 1;go_wp2;(try simp only[Exit.inBlock,Exit.then])
    exact end_one rfl L5 c0.out (by omega) f0.out rfl rfl
   ·have hlti:¬ (i:Int)<ws.length:=by omega
    go_wp2_with fail
    refine(made_any _ neg _ (draftDs (low.toNat % 8) i ws) h0.out (draft_small _ _ _) (by have:=draft_len (low.toNat % 8) i ws;omega)).mono ?_;rintro e w5 ⟨a0,v5,rfl,b0⟩;rw[g0.out] at b0;obtain⟨s5,rfl,hs5⟩:=b0;obtain⟨A5,c5,rfl,-⟩:=(show RI _ _ _ _ from hs5);have f0:=zz hs5;have L5:=L1.step a0;have c0:=zz (HB.out.trans (a0.mono HB.out.size));clear a0 hs5;have p0:=L5.cell0;have p1:=L5.cell1;have p2:=L5.frozen 0;have p3:=L5.frozen 1;go_wp2;(try simp only[Exit.inBlock,Exit.then])
    exact end_one rfl L5 c0.out (by omega) f0.out rfl rfl
end Go.Proofs.YtioclokmbgmamaaGreatDoor
namespace Go.Proofs.YtioclokmbgmamaaGreatDoor
open Go Go.RowKit Dig
end Go.Proofs.YtioclokmbgmamaaGreatDoor
namespace Go.Proofs.YtioclokmbgmamaaGreatDoor
open Go Go.RowKit Dig
end Go.Proofs.YtioclokmbgmamaaGreatDoor
namespace Go.Proofs.YtioclokmbgmamaaGreatDoor
open Go Go.RowKit Dig
theorem Check_good {w:World} {v:Value} {n:Bool} {l:List Int} (h:LR w w.heap.size v n l) (hv:Valid n l) :
  Calls Tryz.prog 105 #[v] w fun e w'=>Below w.heap.size w w'∧e=.returned (.int .i64 0):=by
 refine(Check_any w v _ _ h).mono fun e w' ⟨hw,c,he,hc⟩=>⟨hw,?_⟩
 rcases hc with ⟨_,hc⟩ | ⟨hn,_⟩
 ·rw[he,hc]
 ·exact absurd hv hn
theorem Check_bad {w:World} {v:Value} {n:Bool} {l:List Int} (h:LR w w.heap.size v n l) (hv:¬ Valid n l) :
  Calls Tryz.prog 105 #[v] w fun e w'=>Below w.heap.size w w'∧e=.returned (.int .i64 30):=by
 refine(Check_any w v _ _ h).mono fun e w' ⟨hw,c,he,hc⟩=>⟨hw,?_⟩
 rcases hc with ⟨hn,_⟩ | ⟨_,hc⟩
 ·exact absurd hn hv
 ·rw[he,hc]
end Go.Proofs.YtioclokmbgmamaaGreatDoor
namespace Go.Proofs.YtioclokmbgmamaaGreatDoor
open Go Go.RowKit Dig
end Go.Proofs.YtioclokmbgmamaaGreatDoor
