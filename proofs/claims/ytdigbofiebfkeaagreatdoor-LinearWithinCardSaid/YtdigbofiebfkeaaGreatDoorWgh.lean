/- Texts put together: Layer 35, the reference's drafts: List, Matrix (written by gen_wd.py). Layer 35, the law package: times, holds, alike (written by gen_we.py). -/
import Derived.Test.YtdigbofiebfkeaaGreatDoorWd
import Derived.Test.YtdigbofiebfkeaaGreatDoorLx
import Derived.Test.YtdigbofiebfkeaaGreatDoorWab
import Derived.Test.YtdigbofiebfkeaaGreatDoorQK
import Derived.Test.YtdigbofiebfkeaaGreatDoorQL
namespace Go.Proofs.YtdigbofiebfkeaaGreatDoor
open Go Go.RowKit Dig
set_option maxRecDepth 100000
set_option maxHeartbeats 4000000
set_option linter.unusedSimpArgs false
def listD (N D:List Int) (f n:Nat):List Rat:=(List.range n).map fun i=>numD N D (f+i)
theorem listD_succ (N D:List Int) (f n:Nat):listD N D f (n+1)=listD N D f n++[numD N D (f+n)]:=by unfold listD;rw[List.range_succ,List.map_append];rfl
theorem listD_len (N D:List Int) (f n:Nat):(listD N D f n).length=n:=by simp[listD]
theorem rdlist_new (w:World) (v:Value) (r c:Int) (N D:List Int) (n f:Nat) (h:DV w w.heap.size v r c N D) (hn:n≤1000) (hf:f≤1000) :
  Calls Tryz.prog 18 #[v,.int .i64 (n:Int),.int .i64 (f:Int)] w fun e w'=>Below w.heap.size w w'∧∃ v,e=.returned v∧OA 4 EQ 33 w' w.heap.size v ((listD N D f n).map qx):=by
 obtain⟨A,ca,A',cd,rfl,h0,hN,hD⟩:=h;have y0:=zz (show DV w w.heap.size (.agg #[.int .u8 r,.int .u8 c,.slice A N.length ca,.slice A' D.length cd]) r c N D from⟨A,ca,A',cd,rfl,h0,hN,hD⟩);clear hN hD;obtain⟨iq,hiq,hzq,hsq,hbq⟩:=info_parts info_quot;obtain⟨w0,hw0⟩:∃ w0:World,w0=(w.alloc (.cells #[.int .u8 r,.int .u8 c,.slice A N.length ca,.slice A' D.length cd] 25)):=⟨_,rfl⟩;have B0:=zz (n1_b hw0);have z0:=n1_z hw0;have Ld:=n1_0 hw0;go_enter Tryz.func18,Tryz.ntmps18
 go_upto_region 2 with (fail)
 rw[← hw0];clear hw0;have A0:=zz Ld;have hfn:(f:Int)≤1000∧(n:Int)≤1000:=by omega
 go_wp2;go_loopw [7,8] (fun ov iv wr=>∃ j:Nat,j≤n∧iv=.int .i64 j∧Hid (OA 4 EQ 33 wr w0.heap.size ov ((listD N D f j).map qx))∧Hid (Below w0.heap.size w0 wr)) (fun _ iv _=>n-(intOf iv).toNat)
 case atStart=>exact⟨0,Nat.zero_le _,rfl,zz OA.nil,zz (Below.refl _ _)⟩
 case round=>
  obtain⟨j,hj,rfl,HO,HW⟩:=hrel;have zr:=HW.out.size;by_cases hlt:j<n
  case pos=>
   have hlt':(j:Int)<(n:Int):=by omega
   have D0:=zz (show f+j≤3000000000 by omega);have hfj:wrap64 ((f:Int)+(j:Int))=((f+j:Nat):Int):=by rw[wrap64_eq (by omega) (by omega)];omega
   have v0:=tr B0 HW;have a0:=CB.step A0.out HW.out;have g0:=a0.cell 0 rfl;have i0:=a0.cell 1 rfl;have j0:=a0.cell 2 rfl;have k0:=a0.cell 3 rfl;have u0:=a0.lt;go_wp2_with fail
   refine(rnumber_any _ _ r c N D (f+j) (y0.out.step v0.out) D0.out).mono ?_;rintro e w3 ⟨e0,v,rfl,hv⟩;have B4:=zz e0;have z4:=B4.out.size;have d0:=tr v0 B4;clear e0;clear g0 i0 j0 k0 u0;obtain⟨o0,p0,q0,r0,s0,b0,t0,rfl,ha6,f0,hc6⟩:=hv;have l0:=zz (show QV w3 w3.heap.size (.agg #[.bool o0,.slice p0 q0 r0,.bool false,.slice s0 b0 t0]) (numD N D (f+j)) from⟨_,_,_,_,_,_,_,rfl,ha6,f0,hc6⟩);clear ha6 f0 hc6;have E0:=zz (HO.out.step EQ.stable B4.out);have x0:=zz (HW.out.trans ((B4.out).mono HW.out.size));have c0:Below w3.heap.size w3 (w3.alloc (.cells #[.bool o0,.slice p0 q0 r0,.bool false,.slice s0 b0 t0] 33)):=below_alloc1 (Below.refl _ _) _;have F0:=zz (E0.out.step EQ.stable c0);have G0:=zz ((QV.step l0.out c0).qr);have d0:=zz (x0.out.trans (c0.mono x0.out.size));clear c0;go_wp2_with (at_builtin;go_loud (refine wpList_append_oa rfl _ _ _ rfl w0.heap.size 33 iq _ 64 Tryz.underlying28 hiq hzq hsq hbq rfl (by decide) (by decide) EQ.stable EQ.soft F0.out rfl ⟨w3.heap.size,0,none⟩ 1 [qx (numD N D (f+j))] rfl Nat.one_pos [.bool o0,.slice p0 q0 r0,.bool false,.slice s0 b0 t0] (EL.one rfl ⟨_,_,_,_,rfl,G0.out⟩) (cells_new _ _ [_,_,_,_]) (by intro u hu;simp at hu;rcases hu with rfl | rfl | rfl | rfl <;> rfl) (by simp only[List.length_map,listD_len,List.length_cons,List.length_nil,maxLen];omega) (by simp only[List.length_map,listD_len,List.length_cons,List.length_nil];omega) (by have:=d0.out.size;simpa using this) ?_))
   intro v' w' hoa hb hs' hg' hat;have H0:Hid (OA 4 EQ 33 w' w0.heap.size v' ((listD N D f (j+1)).map qx)):=zz (by rw[listD_succ,List.map_append];exact hoa);have m0:=zz (d0.out.trans hb);clear hoa hb hs' hg' hat;go_wp2;go_roundw
   case rel=>exact⟨j+1,hlt,by go_num,H0,m0⟩
   case measure=>simp[intOf];omega
  case neg=>
   obtain rfl:j=n:=by omega
   have hlt':¬ (j:Int)<(j:Int):=by omega
   go_wp2;go_ret;exact⟨B0.out.trans (HW.out.mono B0.out.size),_,rfl,HO.out.weak B0.out.size⟩
theorem rdlist_any (w:World) (v:Value) (r c:Int) (N D:List Int) (n f:Nat) (h:DV w w.heap.size v r c N D) (hn:n≤1000) (hf:f≤1000) :
  Calls Tryz.prog 18 #[v,.int .i64 (n:Int),.int .i64 (f:Int)] w fun e w'=>Below w.heap.size w w'∧∃ v,e=.returned v∧QS w' w'.heap.size v ((listD N D f n).map qx):=
 (rdlist_new w v r c N D n f h hn hf).mono fun _ _ ⟨hb,v,e,ho⟩=>⟨hb,v,e,ho.sl⟩
theorem OA.block {α:Type} {k:Nat} {E:Elem α} {T:TypeId} {w:World} {B n:Nat} {v:Value} {l:List α} (h:OA k E T w B v l) (hn:l.length=n) (h0:0<n):∃ g cap,v=.slice (some ⟨g,0,none⟩) n cap∧B≤g∧(n≤cap∧cap≤9223372036854775807)∧OB k E T w g cap l:=by
 rcases h with ⟨-,rfl⟩ | ⟨g,cap,rfl,h2,h3,h4⟩
 ·simp at hn;omega
 ·exact⟨g,cap,by rw[hn],h2,⟨by rw[← hn];exact h4.len,h3⟩,h4⟩
theorem info_qlist:(Tryz.prog.info? 28).map (fun i=>(i.zero,i.size,i.bytes))=some (some (.slice none 0 0),1,24):=by kernel_rfl
def rowD (N D:List Int) (k i:Nat):List Rat:=listD N D (4*i) k
def rowsD (N D:List Int) (k n:Nat):List (List Rat):=(List.range n).map (rowD N D k)
theorem rowsD_succ (N D:List Int) (k n:Nat):rowsD N D k (n+1)=rowsD N D k n++[rowD N D k n]:=by unfold rowsD;rw[List.range_succ,List.map_append];rfl
theorem rowsD_len (N D:List Int) (k n:Nat):(rowsD N D k n).length=n:=by simp[rowsD]
def matD (r c:Int) (N D:List Int):List (List Rat):=rowsD N D (1+(c % 4).toNat) (1+(r % 6).toNat)
theorem rmatrix_any (w:World) (v:Value) (r c:Int) (N D:List Int) (h:DV w w.heap.size v r c N D) :
  Calls Tryz.prog 28 #[v] w fun e w'=>Below w.heap.size w w'∧∃ v,e=.returned v∧QM w' w'.heap.size v ((matD r c N D).map (List.map qx)):=by
 obtain⟨A,ca,A',cd,rfl,h0,hN,hD⟩:=h;have e1:=zz (show DV w w.heap.size (.agg #[.int .u8 r,.int .u8 c,.slice A N.length ca,.slice A' D.length cd]) r c N D from⟨A,ca,A',cd,rfl,h0,hN,hD⟩);clear hN hD;obtain⟨iq,hiq,hzq,hsq,hbq⟩:=info_parts info_quot;obtain⟨w0,hw0⟩:∃ w0:World,w0=(w.alloc (.cells #[.int .u8 r,.int .u8 c,.slice A N.length ca,.slice A' D.length cd] 25)):=⟨_,rfl⟩;have B0:=zz (n1_b hw0);have z0:=n1_z hw0;have Ld:=n1_0 hw0;go_enter Tryz.func28,Tryz.ntmps28
 go_upto_region 2 with (fail)
 rw[← hw0];clear hw0;obtain⟨n,hn⟩:∃ n:Nat,1+(r % 6).toNat=n:=⟨_,rfl⟩;have hn6:1≤n∧n≤6:=by omega
 obtain⟨k,hk⟩:∃ k:Nat,1+(c % 4).toNat=k:=⟨_,rfl⟩;have F0:1≤k∧k≤4:=by omega
 have f1:=zz (show matD r c N D=rowsD N D k n by unfold matD;rw[hn,hk]);obtain⟨y,hy⟩:∃ y,r % 6=y:=⟨_,rfl⟩;have hyt:Int.tmod r 6=y:=by rw[← hy];exact Int.tmod_eq_emod_of_nonneg h0.1
 obtain⟨z,hz⟩:∃ z,c % 4=z:=⟨_,rfl⟩;have hzt:Int.tmod c 4=z:=by rw[← hz];exact Int.tmod_eq_emod_of_nonneg h0.2.2.1
 have hy6:0≤y∧y<6:=by omega
 have hz4:0≤z∧z<4:=by omega
 have W0:=zz (show(n:Int)=1+y by omega);have X0:=zz (show(k:Int)=1+z by omega);have hwu8y:IntKind.u8.wrap y=y:=by unfold IntKind.wrap;simp only[IntKind.bits,IntKind.signed];simp;omega
 have hwu8z:IntKind.u8.wrap z=z:=by unfold IntKind.wrap;simp only[IntKind.bits,IntKind.signed];simp;omega
 have hwi64y:IntKind.i64.wrap y=y:=by unfold IntKind.wrap;simp only[IntKind.bits,IntKind.signed];simp;omega
 have hwi64z:IntKind.i64.wrap z=z:=by unfold IntKind.wrap;simp only[IntKind.bits,IntKind.signed];simp;omega
 have hy64:wrap64 y=y:=wrap64_eq (by omega) (by omega);have hz64:wrap64 z=z:=wrap64_eq (by omega) (by omega);clear hn hk hy hz;have g1:=zz Ld;obtain⟨il,hil,hzl,hsl,hbl⟩:=info_parts info_qlist;have d0:=Below.refl w0.heap.size w0;have j0:=zz d0;clear d0;have i1:Hid (OMV 4 EQ 33 28 w0 w0.heap.size (.slice none 0 0) (fun _=>0) (fun _=>0) ((rowsD N D k 0).map (List.map qx))):=zz OMV.nil;go_wp2;go_loopw [3,4] (fun ov iv wr=>∃ (i:Nat) (G C:Nat→Nat),i≤n∧iv=.int .i64 i∧Hid (OMV 4 EQ 33 28 wr w0.heap.size ov G C ((rowsD N D k i).map (List.map qx)))∧Hid (Below w0.heap.size w0 wr)) (fun _ iv _=>n-(intOf iv).toNat)
 case atStart=>exact⟨0,_,_,Nat.zero_le _,rfl,i1,j0⟩
 case round=>
  obtain⟨i,G,C,hi,rfl,HO,HW⟩:=hrel;have zr:=HW.out.size;have G0:=zz (CB.step g1.out HW.out);by_cases hlt:i<n
  case pos=>
   have hlt':(i:Int)<1+y:=by have:=W0.out;omega
   rename World=>wA
   have j1:=zz (Below.refl wA.heap.size wA);have k0:=G0.out.cell 0 rfl;have l0:=G0.out.cell 1 rfl;have m0:=G0.out.cell 2 rfl;have n0:=G0.out.cell 3 rfl;have S0:=G0.out.lt;go_upto_region 6 with (fail)
   clear k0 l0 m0 n0 S0;go_wp2;go_loopw [5,6] (fun rv jv wr=>∃ j:Nat,j≤k∧jv=.int .i64 j∧Hid (OA 4 EQ 33 wr wA.heap.size rv ((rowD N D j i).map qx))∧Hid (Below wA.heap.size wA wr)) (fun _ jv _=>k-(intOf jv).toNat)
   case atStart=>exact⟨0,Nat.zero_le _,rfl,zz OA.nil,j1⟩
   case round=>
    obtain⟨j,hj,rfl,HR,HV⟩:=hrel;have zv:=HV.out.size;have H0:=zz (CB.step G0.out HV.out);have Y0:=zz ((B0.out.trans (HW.out.mono B0.out.size)).trans (HV.out.mono (Nat.le_trans B0.out.size HW.out.size)));by_cases hjt:j<k
    case pos=>
     have hjt':(j:Int)<1+z:=by have:=X0.out;omega
     have k1:=zz (show 4*i+j≤3000000000 by omega);have l1:=zz (show((rowD N D j i).map qx).length+[qx (numD N D (4*i+j))].length≤maxLen by rw[List.length_map,show(rowD N D j i).length=j from listD_len _ _ _ _];simp only[List.length_cons,List.length_nil,maxLen];omega);have m1:=zz (show(((rowD N D j i).map qx).length+[qx (numD N D (4*i+j))].length)*64≤140737488355328 by rw[List.length_map,show(rowD N D j i).length=j from listD_len _ _ _ _];simp only[List.length_cons,List.length_nil];omega);have h4i:wrap64 (4*(i:Int))=4*(i:Int):=wrap64_eq (by omega) (by omega);have hij:wrap64 (4*(i:Int)+(j:Int))=((4*i+j:Nat):Int):=by rw[wrap64_eq (by omega) (by omega)];omega
     have o0:=H0.out.cell 0 rfl;have p0:=H0.out.cell 1 rfl;have q0:=H0.out.cell 2 rfl;have r0:=H0.out.cell 3 rfl;have T0:=H0.out.lt;go_wp2_with fail
     refine(rnumber_any _ _ r c N D (4*i+j) (e1.out.step Y0.out) k1.out).mono ?_;rintro e w2 ⟨f0,v,rfl,hv⟩;have B4:=zz f0;have z4:=B4.out.size;have e0:=tr Y0 B4;clear f0;clear o0 p0 q0 r0 T0;clear h4i hij;obtain⟨K0,L0,M0,N0,O0,a0,P0,rfl,ha6,g0,hc6⟩:=hv;have s0:=zz (show QV w2 w2.heap.size (.agg #[.bool K0,.slice L0 M0 N0,.bool false,.slice O0 a0 P0]) (numD N D (4*i+j)) from⟨_,_,_,_,_,_,_,rfl,ha6,g0,hc6⟩);clear ha6 g0 hc6;have n1:=zz (HR.out.step EQ.stable B4.out);have x1:=zz (show(rowD N D j i).length=j from listD_len _ _ _ _);have b0:Below w2.heap.size w2 (w2.alloc (.cells #[.bool K0,.slice L0 M0 N0,.bool false,.slice O0 a0 P0] 33)):=below_alloc1 (Below.refl _ _) _;have o1:=zz (n1.out.step EQ.stable b0);have p1:=zz ((QV.step s0.out b0).qr);have e0:=zz ((HV.out.trans ((B4.out).mono HV.out.size)).trans (b0.mono (Nat.le_trans HV.out.size B4.out.size)));clear b0;go_wp2_with (at_builtin;go_loud (refine wpList_append_oa rfl _ _ _ rfl wA.heap.size 33 iq _ 64 Tryz.underlying28 hiq hzq hsq hbq rfl (by decide) (by decide) EQ.stable EQ.soft o1.out rfl ⟨w2.heap.size,0,none⟩ 1 [qx (numD N D (4*i+j))] rfl Nat.one_pos [.bool K0,.slice L0 M0 N0,.bool false,.slice O0 a0 P0] (EL.one rfl ⟨_,_,_,_,rfl,p1.out⟩) (cells_new _ _ [_,_,_,_]) (by intro u hu;simp at hu;rcases hu with rfl | rfl | rfl | rfl <;> rfl) l1.out m1.out e0.out.size ?_))
     intro v' w' hoa hb hs' hg' hat;have q1:Hid (OA 4 EQ 33 w' wA.heap.size v' ((rowD N D (j+1) i).map qx)):=zz (by unfold rowD;rw[listD_succ,List.map_append];exact hoa);have E0:=zz (e0.out.trans hb);clear hoa hb hs' hg' hat;go_wp2;go_roundw
     case rel=>exact⟨j+1,hjt,by go_num,q1,E0⟩
     case measure=>simp[intOf];omega
    case neg=>
     obtain rfl:k=j:=by omega
     have hjt':¬ (k:Int)<1+z:=by have:=X0.out;omega
     have Z0:=zz (show(rowD N D k i).length=k from listD_len _ _ _ _);obtain⟨g,cap,rfl,hgA,hcap,hob⟩:∃ g cap,u5=.slice (some ⟨g,0,none⟩) k cap∧wA.heap.size≤g∧(k≤cap∧cap≤9223372036854775807)∧OB 4 EQ 33 wr g cap ((rowD N D k i).map qx):=OA.block HR.out (by rw[List.length_map];exact Z0.out) (by omega);have r1:=zz (HO.out.step EQ.stable HV.out);have HG:=zz hgA;have a1:=zz hcap;have s1:=zz hob;clear hgA hcap hob HR;have c0:Below wr.heap.size wr (wr.alloc (.cells #[.slice (some ⟨g,0,none⟩) k cap] 28)):=below_alloc1 (Below.refl _ _) _;have d1:=zz (OB.step s1.out EQ.stable c0);have Q0:=zz (r1.out.step EQ.stable c0);have i0:=zz ((HW.out.trans (HV.out.mono HW.out.size)).trans (c0.mono (Nat.le_trans HW.out.size HV.out.size)));clear c0;have t1:=zz (show(hdL G C ((rowsD N D k i).map (List.map qx))).length+[Value.slice (some ⟨g,0,none⟩) k cap].length≤maxLen by rw[hdL_len,List.length_map,rowsD_len];simp only[List.length_cons,List.length_nil,maxLen];omega);have u1:=zz (show((hdL G C ((rowsD N D k i).map (List.map qx))).length+[Value.slice (some ⟨g,0,none⟩) k cap].length)*24≤140737488355328 by rw[hdL_len,List.length_map,rowsD_len];simp only[List.length_cons,List.length_nil];omega);have t0:=H0.out.cell 0 rfl;have u0:=H0.out.cell 1 rfl;have v0:=H0.out.cell 2 rfl;have x0:=H0.out.cell 3 rfl;have U0:=H0.out.lt
     go_wp2_with (at_builtin;go_loud (refine wpList_append_oa rfl _ _ _ rfl w0.heap.size 28 il _ 24 Tryz.underlying27 hil hzl hsl hbl rfl (by decide) (by decide) EV.stable EV.soft Q0.out.hdr rfl ⟨wr.heap.size,0,none⟩ 1 [.slice (some ⟨g,0,none⟩) k cap] rfl Nat.one_pos [.slice (some ⟨g,0,none⟩) k cap] (EL.one rfl ⟨rfl,rfl⟩) (cell_one_new _ _ _) (by intro u hu;simp at hu;subst hu;rfl) t1.out u1.out i0.out.size ?_))
     clear t0 u0 v0 x0 U0;intro v' w' hoa hb hs' hg' hat;have hl1:((rowD N D k i).map qx).length=k:=by rw[List.length_map];exact Z0.out
     have ht:((rowsD N D k i).map (List.map qx))++[(rowD N D k i).map qx]=(rowsD N D k (i+1)).map (List.map qx):=by rw[rowsD_succ,List.map_append];rfl
     have happ:=Q0.out.app EQ.soft (g:=g) (c:=cap) (l:=(rowD N D k i).map qx) ⟨Nat.le_trans HW.out.size HG.out,fun e=>by have:=HO.out.blk e;have:=HG.out;omega⟩ (fun x hx=>by have:=(HO.out.rows x hx).lt;have:=HG.out;omega) ⟨by rw[hl1];exact a1.out.1,a1.out.2⟩ d1.out (by rw[hl1];exact hoa) hs' hg' (by simpa using hat);rw[ht] at happ;have v1:=zz happ;have w1:=zz (i0.out.trans hb);clear happ ht hl1 hoa hb hs' hg' hat;go_wp2;go_roundw
     case rel=>exact⟨i+1,_,_,hlt,by go_num,v1,w1⟩
     case measure=>simp[intOf];omega
  case neg=>
   obtain rfl:i=n:=by omega
   have hlt':¬ (i:Int)<1+y:=by have:=W0.out;omega
   have y0:=G0.out.cell 0 rfl;have A0:=G0.out.cell 1 rfl;have C0:=G0.out.cell 2 rfl;have D0:=G0.out.cell 3 rfl;have V0:=G0.out.lt;have h1:=HO.out.sl;rw[← f1.out] at h1;have H1:=zz h1;clear h1;go_wp2;clear y0 A0 C0 D0 V0;go_ret;exact⟨B0.out.trans (HW.out.mono B0.out.size),_,rfl,H1.out⟩
def TimesOK (r s:List Rat):Prop:=∀ k,k<min r.length s.length→QL 600 600 (r.getD k 0)∧QL 600 600 (s.getD k 0)∧QL 600 600 (r.getD k 0*s.getD k 0)∧QL 600 600 (dotTo r s k)∧QL 600 600 (dotTo r s (k+1))
theorem QMul_ok {w:World} {va vb:Value} {q r:Rat} (ha:QV w w.heap.size va q) (hb:QV w w.heap.size vb r) (lq:QL 600 600 q) (lr:QL 600 600 r) (l:QL 600 600 (q*r)) :
  Calls Tryz.prog 19 #[va,vb] w fun e w'=>Below w.heap.size w w'∧∃ v,e=.returned (.tuple #[v,.int .i64 0])∧QV w' w'.heap.size v (q*r):=by
 have h:=QMul_good w va vb q r ha hb lq lr;rw[toldQ_lit rfl l] at h;exact h
theorem QAdd_ok {w:World} {va vb:Value} {q r:Rat} (ha:QV w w.heap.size va q) (hb:QV w w.heap.size vb r) (lq:QL 600 600 q) (lr:QL 600 600 r) (l:QL 600 600 (q+r)) :
  Calls Tryz.prog 10 #[va,vb] w fun e w'=>Below w.heap.size w w'∧∃ v,e=.returned (.tuple #[v,.int .i64 0])∧QV w' w'.heap.size v (q+r):=by
 have h:=QAdd_good w va vb q r ha hb lq lr;rw[toldQ_lit rfl l] at h;exact h
theorem QOf_ok (w:World) (x y:Int) (c:Rat) (hx:-9223372036854775808≤x∧x≤9223372036854775807) (hy:-9223372036854775808≤y∧y≤9223372036854775807) (h0:y≠0) (hc:Rat.divInt x y=c) (l:QL 600 600 c) :
  Calls Tryz.prog 15 #[.int .i64 x,.int .i64 y] w fun e w'=>Below w.heap.size w w'∧∃ v,e=.returned (.tuple #[v,.int .i64 0])∧QV w' w'.heap.size v c:=by
 have h:=QOf_any w x y hx.1 hx.2 hy.1 hy.2;rw[mkQ_lit h0 hc l] at h;exact h
theorem QSame_eq {w:World} {va vb:Value} {q r:Rat} (ha:QV w w.heap.size va q) (hb:QV w w.heap.size vb r) (h:q=r) :
  Calls Tryz.prog 50 #[va,vb] w fun e w'=>Below w.heap.size w w'∧e=.returned (.bool true):=by
 subst h;have h1:=QSame_any w va vb _ _ _ _ _ _ _ _ ha.qr hb.qr;rw[decide_eq_true ⟨⟨rfl,rfl⟩,rfl,rfl⟩] at h1;exact h1
theorem zero_lit:Rat.divInt 0 1=(0:Rat)∧QL 600 600 (0:Rat):=⟨by decide +kernel,(tiny_ql (by decide +kernel)).up (by decide)⟩
theorem times_any (w:World) (A B:Option Addr) (n c m d:Nat) (r s:List Rat) (hr:VL w w.heap.size (.slice A n c) r) (hs:VL w w.heap.size (.slice B m d) s) (hok:TimesOK r s) :
  Calls Tryz.prog 20 #[.slice A n c,.slice B m d] w fun e w'=>Below w.heap.size w w'∧∃ v,e=.returned v∧QV w' w'.heap.size v (dotTo r s (min r.length s.length)):=by
 obtain⟨hn,hn1,hn2⟩:=SL.len hr;rw[List.length_map] at hn;subst hn;obtain⟨hm,hm1,hm2⟩:=SL.len hs;rw[List.length_map] at hm;subst hm;have D2:=zz hr.rat;have E2:=zz hs.rat;have HL:=zz hok;clear hr hs hok;obtain⟨u,hu⟩:∃ u,min r.length s.length=u:=⟨_,rfl⟩;have hur:u≤r.length:=by omega
 have hus:u≤s.length:=by omega
 unfold TimesOK at HL;rw[hu] at HL ⊢;have hmu:min (r.length:Int) (s.length:Int)=(u:Int):=by omega
 clear hu;obtain⟨w0,hw0⟩:∃ w0:World,w0=(w.alloc (.cells #[.bool false,.slice none 0 0,.bool false,.slice none 0 0] 33)):=⟨_,rfl⟩;have B0:=zz (n1_b hw0);have z0:=n1_z hw0;have Lr4:=n1_0 hw0;go_enter Tryz.func20,Tryz.ntmps20
 go_upto_region 1 with (fail)
 rw[← hw0];clear hw0;go_wp2_with fail
 refine(QOf_ok _ 0 1 0 (by decide) (by decide) (by decide) zero_lit.1 zero_lit.2).mono ?_;rintro e w1 ⟨A1,v,rfl,hv⟩;have B2:=zz A1;have z2:=B2.out.size;have I1:=tr B0 B2;clear A1;obtain⟨V1,W1,X1,Y1,Z1,i0,a2,rfl,ha4,B1,hc4⟩:=hv;have C1:=zz (show QV w1 w1.heap.size (.agg #[.bool V1,.slice W1 X1 Y1,.bool false,.slice Z1 i0 a2]) (0:Rat) from⟨_,_,_,_,_,_,_,rfl,ha4,B1,hc4⟩);clear ha4 B1 hc4;have H0:=zz (show QV w1 w1.heap.size (.agg #[.bool V1,.slice W1 X1 Y1,.bool false,.slice Z1 i0 a2]) (dotTo r s 0) from C1.out);go_upto_region 2 with (fail)
 obtain⟨w5,h0⟩:∃ w5:World,w5=(w1.alloc (.cells #[.bool V1,.slice W1 X1 Y1,.bool false,.slice Z1 i0 a2] 33)):=⟨_,rfl⟩;rw[← h0];have p0:=n1_0 h0;have za5:=n1_z h0;have B6:=zz (n1_b h0);have z6:=B6.out.size;have J1:=tr I1 B6;clear h0;have b2:=zz (show w.heap.size<w1.heap.size by omega);have A0:=zz (QV.step H0.out B6.out);have P1_3_10:=tr B2 B6;have C0:=CB.step Lr4 P1_3_10.out;go_wp2;go_loopw [19] (fun iv wr=>∃ (j:Nat) (on:Bool) (oA:Option Addr) (ol oc:Nat) (om_:Bool) (oB:Option Addr) (ou od:Nat),j≤u∧iv=.int .i64 j∧Hid (CB wr w1.heap.size 33 #[.bool on,.slice oA ol oc,.bool om_,.slice oB ou od])∧Hid (QV wr wr.heap.size (.agg #[.bool on,.slice oA ol oc,.bool om_,.slice oB ou od]) (dotTo r s j))∧Hid (CB wr w.heap.size 33 #[.bool false,.slice none 0 0,.bool false,.slice none 0 0])∧Hid (Below w.heap.size w wr)) (fun iv _=>u-(intOf iv).toNat)
 case atStart=>exact⟨0,_,_,_,_,_,_,_,_,Nat.zero_le _,rfl,zz p0,zz A0.out,zz C0,J1⟩
 case round=>
  obtain⟨j,on,oA,ol,oc,om_,oB,ou,od,hj,rfl,HC,HV,HR,HW⟩:=hrel;have zr:=HW.out.size;by_cases hlt:j<u
  case pos=>
   have hlt':(j:Int)<(u:Int):=by omega
   have hjr:=Nat.lt_of_lt_of_le hlt hur;have hjs2:=Nat.lt_of_lt_of_le hlt hus;obtain⟨g,off,xA,xl,xc,xB,xu,xd,rfl,hg,hE,hx⟩:=QS.elem D2.out (j:=j) (by simpa using hjr);obtain⟨g',off',yA,yl,yc,yB,yu,yd,rfl,hg',hE',hy⟩:=QS.elem E2.out (j:=j) (by simpa using hjs2);simp only[List.getElem_map] at hE hx hE' hy;rw[← getD_is (d:=0) hjr] at hE hx;rw[← getD_is (d:=0) hjs2] at hE' hy
   replace hE:=hE.step HW.out;replace hE':=hE'.step HW.out;have HX:=zz (QV.step (QR.qv hx) HW.out);have HY:=zz (QV.step (QR.qv hy) HW.out);clear hx hy hg hg';obtain⟨hq1,hq2,hq3,hq4,hq5⟩:=HL.out j hlt;have hdt:dotTo r s (j+1)=dotTo r s j+r.getD j 0*s.getD j 0:=rfl;rw[hdt] at hq5;obtain⟨x,hx⟩:∃ x,x=r.getD j 0:=⟨_,rfl⟩;obtain⟨y,hy⟩:∃ y,y=s.getD j 0:=⟨_,rfl⟩;rw[← hx,← hy] at hdt hq3 hq5;rw[← hx] at hq1 HX hE;rw[← hy] at hq2 HY hE';clear hx hy;have HQ:=zz (And.intro hq1 (And.intro hq2 (And.intro hq3 (And.intro hq4 hq5))));have I2:=zz hdt;clear hq1 hq2 hq3 hq4 hq5 hdt;have hji:(0:Int)≤(j:Int)∧(j:Int)<(r.length:Int):=(by omega);have hjs:(0:Int)≤(j:Int)∧(j:Int)<(s.length:Int):=(by omega);go_upto_region 5 with (fail)
   have zl1:=HC.out.lt;have zl2:=HR.out.lt;refine Sweep.run [se 0 23 [] (.slice (some ⟨g,off,none⟩) r.length c),se 1 24 [] (.int .i64 (j:Int)),se 2 25 [0,1] (.pointer (some ⟨g,off+j*4,none⟩)),se 3 26 [2] (.agg #[.bool (qx x).1.1,.slice xA xl xc,.bool (qx x).2.1,.slice xB xu xd]),se 4 27 [] (.slice (some ⟨g',off',none⟩) s.length d),se 5 28 [] (.int .i64 (j:Int)),se 6 29 [4,5] (.pointer (some ⟨g',off'+j*4,none⟩)),se 7 30 [6] (.agg #[.bool (qx y).1.1,.slice yA yl yc,.bool (qx y).2.1,.slice yB yu yd]),sf 8 31 [3,7] (fun fv fw=>∃ u,fv=.tuple #[u,.int .i64 0]∧QV fw fw.heap.size u (x*y)),sf 9 22 [8] (fun fv fw=>∃ u,fv=.tuple #[u,.int .i64 0]∧QV fw fw.heap.size u (x*y)),sf 10 32 [9] (fun fv fw=>QV fw fw.heap.size fv (x*y)),sf 12 8 [] (fun fv fw=>∃ b,fv=.pointer (some ⟨b,0,none⟩)∧CB fw b 33 #[.bool false,.slice none 0 0,.bool false,.slice none 0 0])] [se 11 33 [9] (.int .i64 0)] [12] 2 (SC (fun _ h=>(E4.step hE h).c0) (SC (fun _ h=>(E4.step hE h).c1) (SC (fun _ h=>(E4.step hE h).c2) (SC (fun _ h=>(E4.step hE h).c3) (SC (fun _ h=>(E4.step hE' h).c0) (SC (fun _ h=>(E4.step hE' h).c1) (SC (fun _ h=>(E4.step hE' h).c2) (SC (fun _ h=>(E4.step hE' h).c3) S0)))))))) (MA (fun _ _ _ h hb=>let ⟨u,e,h⟩:=h;⟨u,e,h.step hb⟩) (MA (fun _ _ _ h hb=>let ⟨u,e,h⟩:=h;⟨u,e,h.step hb⟩) (MA (fun _ _ _ h hb=>h.step hb) (MA (fun _ _ _ h hb=>let ⟨b,e,h⟩:=h;⟨b,e,h.step hb⟩) trivial)))) ?_ ?_ ?_
   ·intro xs a_ hA;simp only[SX] at hA
    iterate 12 (refine ac ?_ ?_;rotate_left)
    exact all_nil
    all_goals (intro wk hb;simp only[SX,↓reduceIte,Nat.reduceEqDiff,Nat.reduceAdd];have b_:=zz hb;have z_:=hb.size;clear hb;subst hA)
    any_goals (intros;refine wpOp_step rfl ?_;intro K hK;go_simp;refine hK _ _ ⟨_,?_,Below.refl _ _,rfl,nF⟩;simp only[*,FL] <;> kernel_rfl)
    ·intro f3 f7;intros;refine wpOp_step (o:=_) rfl (fun K hK=>?_);go_simp;have D0:=zz (QV.step HX.out b_.out);have E0:=zz (QV.step HY.out b_.out);(with_reducible refine(QMul_ok D0.out E0.out HQ.out.1 HQ.out.2.1 HQ.out.2.2.1).mono ?_)
     rintro e wc13 ⟨D1,v13,rfl,E1⟩;refine hK _ _ ⟨.tuple #[v13,.int .i64 0],by simp only[FL,f3,f7] <;> kernel_rfl,D1,⟨v13,rfl,E1⟩,nF⟩
    ·intro f8;intros;refine wpOp_step (o:=_) rfl (fun K hK=>?_);go_simp;refine hK _ _ ⟨xs 8,by kernel_rfl,Below.refl _ _,f8,nF⟩
    ·intro f9;intros;refine wpOp_step (o:=_) rfl (fun K hK=>?_);obtain⟨u,hu,hl⟩:=f9;rw[hu];go_simp;refine hK _ _ ⟨u,by simp only[FL,hu] <;> kernel_rfl,Below.refl _ _,hl,nF⟩
    ·intros
     refine wpOp_step (o:=_) rfl (fun K hK=>?_);go_simp;refine hK _ _ ⟨.pointer (some ⟨wk.heap.size,0,none⟩),by kernel_rfl,(Below.refl _ _).alloc (Nat.le_refl _) _,⟨_,rfl,CB.new _ _ _⟩,fun _=>⟨_,rfl,Nat.le_refl _,by simp⟩⟩
   ·intro xs a_ hA;simp only[SX] at hA;refine(ac ?_ all_nil)
    all_goals (intro wk hb;simp only[SX,↓reduceIte,Nat.reduceEqDiff,Nat.reduceAdd];have b_:=zz hb;have z_:=hb.size;clear hb;subst hA)
    ·intro f9;skip;obtain⟨u,hu,-⟩:=f9;refine⟨_,.int .i64 0,rfl,Or.inl ⟨by rfl,fun w=>?_⟩,rfl⟩
     try simp only[FL]
     rw[hu];go_simp
   ·intro xs T1 hbf hn hd;simp only[SY];have n12:=hn 12 (by decide);clear hn hd;have B15:=zz hbf;have z15:=B15.out.size;have F1:=tr HW B15;clear hbf;generalize xs 8=x8,xs 9=x9,xs 10=x10,xs 12=x12 at *
    rintro f8 f9 f10 f12;clear f8;clear f9;obtain⟨d2,e2,f2,g2,h2,j0,i2,rfl,ha17,q0,hc17⟩:=f10;have F0:=zz (show QV T1 T1.heap.size (.agg #[.bool d2,.slice e2 f2 g2,.bool false,.slice h2 j0 i2]) (x*y) from⟨_,_,_,_,_,_,_,rfl,ha17,q0,hc17⟩);clear ha17 q0 hc17;obtain⟨O1,rfl,N1⟩:=f12;have R1:=zz (show wr.heap.size≤O1 by obtain⟨b',e,h,-⟩:=n12;injection e with e;injection e with e;injection e with e _ _;omega);clear n12;have y2:=N1.lt;have A2:=R1.out;have G0:=N1.cell 0 rfl;have I0:=N1.cell 1 rfl;have J0:=N1.cell 2 rfl;have K0:=N1.cell 3 rfl;have j2:=N1.lt;have L0:=N1.frozen 0;have M0:=N1.frozen 1;have N0:=N1.frozen 2;have O0:=N1.frozen 3;have k2:=N1.lt;refine EN 13 rfl fun K hK=>?_;go_simp;refine hK _ _ ?_;clear hK K;(try simp only[PT])
    clear G0 I0 J0 K0 j2 L0 M0 N0 O0 k2;have l0:=CB.step HC.out B15.out;have r0:=CB.step HR.out B15.out;obtain⟨w24,d0⟩:∃ w24:World,w24=((((T1.setCell ⟨O1,0,none⟩ (.bool d2)).setCell ⟨O1,1,none⟩ (.slice e2 f2 g2)).setCell ⟨O1,2,none⟩ (.bool false)).setCell ⟨O1,3,none⟩ (.slice h2 j0 i2)):=⟨_,rfl⟩;rw[← d0];have S24:=zz (p4_s d0 N1 (by simp[noInt_b,noInt_s]));have b0:=p4_f d0 l0 (by omega);have s0:=p4_f d0 r0 (by omega);have g0:=p4_p d0 N1;have P0:=zz (p4_b d0 F1.out (by omega));have K1:=p4_z d0;clear d0;refine EN 14 rfl fun K hK=>?_
    go_simp;refine hK _ _ ?_;clear hK K;(try simp only[PT])
    refine ED ?_;(try simp only[Exit.then])
    have Q0:=b0.cell 0 rfl;have R0:=b0.cell 1 rfl;have T0:=b0.cell 2 rfl;have U0:=b0.cell 3 rfl;have l2:=b0.lt;have V0:=g0.cell 0 rfl;have W0:=g0.cell 1 rfl;have X0:=g0.cell 2 rfl;have Y0:=g0.cell 3 rfl;have m2:=g0.lt;go_wp2_with fail
    have m0:=zz (QV.soft HV.out ((Soft.of B15.out).trans (S24.out)));have Z0:=zz (QV.soft F0.out (S24.out));refine(QAdd_ok m0.out Z0.out HQ.out.2.2.2.1 HQ.out.2.2.1 HQ.out.2.2.2.2).mono ?_;rintro e w25 ⟨t0,v,rfl,hv⟩;have B30:=zz t0;have z30:=B30.out.size;have G1:=tr P0 B30;clear t0;clear Q0 R0 T0 U0 l2 V0 W0 X0 Y0 m2;obtain⟨n2,o2,p2,q2,r2,k0,s2,rfl,ha32,u0,hc32⟩:=hv;have a1:=zz (show QV w25 w25.heap.size (.agg #[.bool n2,.slice o2 p2 q2,.bool false,.slice r2 k0 s2]) (dotTo r s j+x*y) from⟨_,_,_,_,_,_,_,rfl,ha32,u0,hc32⟩);clear ha32 u0 hc32;have a0:=CB.step b0 B30.out;have b1:=a0.cell 0 rfl;have d1:=a0.cell 1 rfl;have e1:=a0.cell 2 rfl;have f1:=a0.cell 3 rfl;have t2:=a0.lt;have g1:=a0.frozen 0;have h1:=a0.frozen 1;have i1:=a0.frozen 2;have j1:=a0.frozen 3;have u2:=a0.lt;go_wp2;clear b1 d1 e1 f1 t2 g1 h1 i1 j1 u2;have v0:=CB.step s0 B30.out;obtain⟨w37,e0⟩:∃ w37:World,w37=((((w25.setCell ⟨w1.heap.size,0,none⟩ (.bool n2)).setCell ⟨w1.heap.size,1,none⟩ (.slice o2 p2 q2)).setCell ⟨w1.heap.size,2,none⟩ (.bool false)).setCell ⟨w1.heap.size,3,none⟩ (.slice r2 k0 s2)):=⟨_,rfl⟩;rw[← e0];have S37:=zz (p4_s e0 a0 (by simp[noInt_b,noInt_s]));have x0:=p4_f e0 v0 ((by have:=b2.out;omega));have n0:=p4_p e0 a0;have k1:=zz (p4_b e0 G1.out (by have:=b2.out;omega));have L1:=p4_z e0;clear e0;have l1:=zz (QV.soft a1.out (S37.out));go_roundw
    case rel=>exact⟨j+1,_,_,_,_,_,_,_,_,hlt,by go_num,zz n0,zz (by rw[I2.out];exact l1.out),zz x0,k1⟩
    case measure=>simp[intOf];omega
  case neg=>
   obtain rfl:j=u:=by omega
   have hlt':¬ (j:Int)<(j:Int):=(by omega);have hob:=b2.out;have zl1:=HC.out.lt;have m1:=HC.out.cell 0 rfl;have n1:=HC.out.cell 1 rfl;have o1:=HC.out.cell 2 rfl;have p1:=HC.out.cell 3 rfl;have v2:=HC.out.lt;have q1:=HR.out.cell 0 rfl;have r1:=HR.out.cell 1 rfl;have s1:=HR.out.cell 2 rfl;have t1:=HR.out.cell 3 rfl;have w2:=HR.out.lt;have u1:=HR.out.frozen 0;have v1:=HR.out.frozen 1;have x1:=HR.out.frozen 2;have y1:=HR.out.frozen 3;have x2:=HR.out.lt;go_wp2;clear m1 n1 o1 p1 v2 q1 r1 s1 t1 w2 u1 v1 x1 y1 x2;obtain⟨w42,f0⟩:∃ w42:World,w42=((((wr.setCell ⟨w.heap.size,0,none⟩ (.bool on)).setCell ⟨w.heap.size,1,none⟩ (.slice oA ol oc)).setCell ⟨w.heap.size,2,none⟩ (.bool om_)).setCell ⟨w.heap.size,3,none⟩ (.slice oB ou od)):=⟨_,rfl⟩;rw[← f0];have S42:=zz (p4_s f0 HR.out (by simp[noInt_b,noInt_s]));have H1:=p4_f f0 HC.out ((by omega));have y0:=p4_p f0 HR.out;have z1:=zz (p4_b f0 HW.out (by omega));have M1:=p4_z f0;clear f0;have o0:=zz (QV.soft HV.out (S42.out));exact bodyPost_ret (QB.ret1 rfl _ y0 rfl) rfl ⟨z1.out,_,rfl,o0.out⟩
def HoldsOK (a:List (List Rat)) (x b:List Rat):Prop:=a.length≤b.length∧∀ i,i<a.length→(a.getD i []).length=x.length∧TimesOK (a.getD i []) x∧dotTo (a.getD i []) x x.length=b.getD i 0
theorem holds_any (w:World) (A B D:Option Addr) (n c m d k e:Nat) (a:List (List Rat)) (x b:List Rat) (ha:VM w w.heap.size (.slice A n c) a) (hx:VL w w.heap.size (.slice B m d) x) (hb:VL w w.heap.size (.slice D k e) b) (hok:HoldsOK a x b) :
  Calls Tryz.prog 8 #[.slice A n c,.slice B m d,.slice D k e] w fun e w'=>Below w.heap.size w w'∧e=.returned (.bool true):=by
 obtain⟨hn,hn1,hn2⟩:=SL.len ha;rw[List.length_map] at hn;subst hn;obtain⟨hm,hm1,hm2⟩:=SL.len hx;rw[List.length_map] at hm;subst hm;obtain⟨hk,l0,m0⟩:=SL.len hb;rw[List.length_map] at hk;subst hk;have HA:=zz ha.rat;have HX:=zz hx;have HB:=zz hb.rat;have hle:=hok.1;have HL:=zz hok.2;clear ha hx hb hok;have f0:=zz (Below.refl w.heap.size w);go_enter Tryz.func8,Tryz.ntmps8
 go_wp2;go_loopw [11] (fun iv wr=>∃ j:Nat,j≤a.length∧iv=.int .i64 j∧Hid (Below w.heap.size w wr)) (fun iv _=>a.length-(intOf iv).toNat)
 case atStart=>exact⟨0,Nat.zero_le _,rfl,f0⟩
 case round=>
  obtain⟨j,hj,rfl,HW⟩:=hrel;have zr:=HW.out.size;by_cases hlt:j<a.length
  case pos=>
   have hlb:j<b.length:=Nat.lt_of_lt_of_le hlt hle;have hlt':(j:Int)<(a.length:Int):=by omega
   have hji:(0:Int)≤(j:Int)∧(j:Int)<(a.length:Int):=by omega
   have hjb:(0:Int)≤(j:Int)∧(j:Int)<(b.length:Int):=by omega
   obtain⟨g,off,A',c',rfl,hg,hcell,hrow⟩:=SL.row HA.out (j:=j) (by simpa using hlt);simp only[List.getElem_map,List.length_map] at hcell hrow;rw[← getD_is (d:=[]) hlt] at hcell hrow
   obtain⟨g',off',yA,yl,yc,yB,yu,yd,rfl,hg',hE',hy⟩:=QS.elem HB.out (j:=j) (by simpa using hlb);simp only[List.getElem_map] at hE' hy;rw[← getD_is (d:=0) hlb] at hE' hy
   obtain⟨h1,h2,h3⟩:=HL.out j hlt;have hmin:min (a.getD j []).length x.length=x.length:=by omega
   generalize a.getD j []=r at hcell hrow h1 h2 h3 hmin;generalize b.getD j 0=y at hE' hy h3;replace hcell:=(HW.out.cell (p:=⟨g,off+j,none⟩) hg).trans hcell;replace hE':=hE'.step HW.out;have HY:=zz (QV.step (QR.qv hy) HW.out);have o0:=zz (VL.step (show VL w w.heap.size _ r from hrow) HW.out);have p0:=zz h2;have q0:=zz (show dotTo r x (min r.length x.length)=y by rw[hmin];exact h3);rw[h1] at hcell o0;clear hy hg hg' hrow h2 h3 hmin;have hne:((x.length:Int) != (x.length:Int))=false:=by simp
   go_upto_region 4 with (fail)
   clear hcell;refine Sweep.r0 [se 0 16 [] (.slice A' x.length c'),se 1 17 [0] (.int .i64 (x.length:Int)),se 2 18 [] (.slice B x.length d),se 3 19 [2] (.int .i64 (x.length:Int)),se 4 20 [1,3] (.bool false),se 5 21 [4] (.bool false),se 6 22 [5] (.slice A' x.length c'),se 7 23 [5] (.slice B x.length d),sf 8 24 [5,6,7] (fun fv fw=>QV fw fw.heap.size fv (dotTo r x (min r.length x.length))),se 9 25 [5] (.slice (some ⟨g',off',none⟩) b.length e),se 10 26 [5] (.int .i64 (j:Int)),se 11 27 [5,9,10] (.pointer (some ⟨g',off'+j*4,none⟩)),se 12 28 [5,11] (.agg #[.bool (qx y).1.1,.slice yA yl yc,.bool (qx y).2.1,.slice yB yu yd]),se 13 29 [5,8,12] (.bool true),se 14 30 [5,13] (.bool false),se 15 31 [5,14] (.bool false)] 0 (SC (fun _ h=>(E4.step hE' h).c0) (SC (fun _ h=>(E4.step hE' h).c1) (SC (fun _ h=>(E4.step hE' h).c2) (SC (fun _ h=>(E4.step hE' h).c3) S0)))) (MA (fun _ _ _ h hb=>h.step hb) trivial) ?_ ?_
   ·intro xs a_ hA;simp only[SX] at hA
    iterate 16 (refine ac ?_ ?_;rotate_left)
    exact all_nil
    all_goals (intro wk hb;simp only[SX,↓reduceIte,Nat.reduceEqDiff,Nat.reduceAdd];have b_:=zz hb;have z_:=hb.size;clear hb;subst hA)
    any_goals (intros;refine wpOp_step rfl ?_;intro K hK;go_simp;refine hK _ _ ⟨_,?_,Below.refl _ _,rfl⟩;simp only[*,FL] <;> kernel_rfl)
    ·intro f5 f6 f7;intros;refine wpOp_step (o:=?_) ?j0 ?_
     case j0=>exact rfl
     intro K hK;go_simp;have b0:=zz (VL.step o0.out b_.out);have P0_2_3:=tr HW b_;have a0:=zz (VL.step HX.out P0_2_3.out);(with_reducible refine(times_any _ _ _ _ _ _ _ r x b0.out a0.out p0.out).mono ?_)
     rintro e wc5 ⟨g0,v5,rfl,h0⟩;refine hK _ _ ⟨v5,by simp only[FL,f5,f6,f7] <;> kernel_rfl,g0,h0⟩
    ·intro f5 f8 f12;intros;refine wpOp_step (o:=?_) ?k0 ?_
     case k0=>exact rfl
     intro K hK;go_simp;have d0:=zz (QV.step HY.out b_.out);(with_reducible refine(QSame_eq f8 d0.out q0.out).mono ?_)
     rintro e wc8 ⟨i0,rfl⟩;refine hK _ _ ⟨.bool true,by simp only[FL,f5,f12] <;> kernel_rfl,i0,rfl⟩
   ·intro xs x0 hbf;simp only[SY];have B10:=zz hbf;have z10:=B10.out.size;have e0:=tr HW B10;clear hbf;generalize xs 8=x8;rintro f8;clear f8;refine ED ?_;(try simp only[Exit.then])
    go_wp2;go_roundw
    case rel=>exact⟨j+1,hlt,by go_num,e0⟩
    case measure=>simp[intOf];omega
  case neg=>
   obtain rfl:j=a.length:=by omega
   have hlt':¬ (a.length:Int)<(a.length:Int):=by omega
   go_wp2;go_ret;exact⟨HW.out,rfl⟩
theorem alike_any (w:World) (A B:Option Addr) (n c m d:Nat) (l k:List QX) (e f:Int) (ha:QS w w.heap.size (.slice A n c) l) (hb:QS w w.heap.size (.slice B m d) k) :
  Calls Tryz.prog 17 #[.slice A n c,.int .i64 e,.slice B m d,.int .i64 f] w fun x w'=>Below w.heap.size w w'∧x=.returned (.bool (decide (l=k)&&decide (e=f))):=by
 have HA:=zz ha;have HB:=zz hb;clear ha hb;have hef:(e==f)=decide (e=f):=rfl;go_enter Tryz.func17,Tryz.ntmps17
 go_wp2_with fail
 refine(rsame_any _ _ _ _ _ _ _ l k HA.out HB.out).mono ?_;rintro x w1 ⟨hb,rfl⟩;have a0:=zz hb;clear hb;cases hlk:decide (l=k)
 case false=>go_wp2;go_ret;exact⟨a0.out,by rw[hlk];rfl⟩
 case true=>go_wp2;go_ret;exact⟨a0.out,by rw[hlk,Bool.true_and];rfl⟩
end Go.Proofs.YtdigbofiebfkeaaGreatDoor
