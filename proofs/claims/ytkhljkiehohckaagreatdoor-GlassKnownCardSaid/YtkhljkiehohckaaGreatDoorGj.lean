/- Texts put together: Layer 09, the program: the closure of indices, indices. Layer 09: ratio, Abbe, Partial (written by gen_gk.py). -/
import Derived.Test.YtkhljkiehohckaaGreatDoorGI
namespace Go.Proofs.YtkhljkiehohckaaGreatDoor
open Go Go.RowKit Dig
theorem CB.grown {w w':World} {b:Nat} {t:TypeId} {cs:Array Value} {row:Option Nat} (h:CB w b t cs) (hg:w.grownBy w' row) (hr:row≠some b):CB w' b t cs:=(hg.block b h.lt (fun e=>hr e.symm)).trans h
set_option maxRecDepth 100000 in
set_option maxHeartbeats 4000000 in
theorem idx1_G (w:World) (G:GF w) (g:GL) (hs:g.nm.size≤1000) (L:Int) (b:Nat) (hb:b+3≤w.heap.size) (v:Value) (ls:List Int) (x:Int) (hl:ls.length≤10)
  (Cg:CB w b 32 (GC g)) (Cl:CB w (b+1) 38 #[v]) (Ce:CB w (b+2) 36 #[.int .i64 x]) (O:OwnV w (b+3) v ls) :
  Calls Tryz.prog 104 #[.int .i64 L,.pointer (some ⟨b,0,none⟩),.pointer (some ⟨b+1,0,none⟩),.pointer (some ⟨b+2,0,none⟩)] w fun e w'=>
   (Below b w w'∧w.heap.size≤w'.heap.size)∧e=.returned (.bool ((inG g L).2==0))∧∃ v',CB w' b 32 (GC g)∧CB w' (b+1) 38 #[v']∧CB w' (b+2) 36 #[.int .i64 (inG g L).2]∧OwnV w' (b+3) v' (ls++[(inG g L).1]):=by
 obtain⟨⟨a,c⟩,hac⟩:∃ r,inG g L=r:=⟨_,rfl⟩;rw[hac];have d0:=zz hac;clear hac;obtain⟨i0,hi,hz0,hz1,hz2⟩:=info_parts info_int;have HO:=zz O;have HG:=zz G;clear O G;go_enter Tryz.func104,Tryz.ntmps104
 go_wp2_with (refine wpList_load_row rfl _ _ rfl _ rfl _ _ (0,0) _ Cg rfl rfl rfl ?_)
 refine(Index_G _ HG.out g L hs).mono ?_;rintro e w1 ⟨a0,he⟩;rw[d0.out] at he;obtain rfl:e=.returned (.tuple #[.int .i64 a,.int .i64 c]):=he;have HB:=zz a0;have z1:=a0.size;have Dg:=Cg.step a0;have Dl:=Cl.step a0;have De:=Ce.step a0;have c0:=zz (HO.out.step a0);clear Cg Cl Ce a0;have qa:w1.cell? ⟨b+1,0,none⟩=some v:=Dl.cell 0 rfl;have hown:=c0.out.alloc (.cells #[.int .i64 a] 3);go_wp2_with (at_builtin;refine wpList_append_own_at _ rfl _ _ 38 rfl (b+3) 3 i0 (.int .i64 0) 1 8 Tryz.underlying38 hi hz0 hz1 hz2 rfl (by decide) v ls.length (ls.map (Value.int .i64)) rfl hown ⟨w1.heap.size,0,none⟩ 1 1 [.int .i64 a] rfl rfl (cell_one_new _ _ _) (by intro u hu;simp at hu;subst hu;rfl) (by unfold maxLen;omega) (by omega) (by simp;omega) ?_)
 intro v' w' hown' hgrow hne hblk;have hv':OwnV w' (b+3) v' (ls++[a]):=by rw[OwnV,List.length_append,List.map_append];exact hown'
 have hrow:∀ k,k<b+3→v.ownBlock≠some k:=fun k hk he=>by have:=(World.ownsRow.lt c0.out k he).1;omega
 have Eg:=(Dg.alloc (.cells #[.int .i64 a] 3)).grown hgrow (hrow _ (by omega));have El:=(Dl.alloc (.cells #[.int .i64 a] 3)).grown hgrow (hrow _ (by omega));have Ee:=(De.alloc (.cells #[.int .i64 a] 3)).grown hgrow (hrow _ (by omega));have b0:=zz (((HB.out.mono (show b≤w.heap.size by omega)).alloc (by omega) (.cells #[.int .i64 a] 3)).grown hgrow (by simp;omega) (fun k he=>by have:=(World.ownsRow.lt c0.out k he).1;omega));have e0:=zz (show w.heap.size≤w'.heap.size by have h1:=hgrow.size;simp at h1;omega);have HV:=zz hv';clear hown' hgrow hne hblk hown qa hrow Dg Dl De;rcases hv'.form with ⟨-,he⟩ | ⟨g',cap,rfl,-⟩
 ·simp at he
 ·clear hv';rw[show(ls++[a]).length=ls.length+1 by simp] at HV;have q0:w'.cell? ⟨b+1,0,none⟩=some v:=El.cell 0 rfl;have q1:w'.cell? ⟨b+2,0,none⟩=some (.int .i64 x):=Ee.cell 0 rfl;have q2:=El.frozen 0;have q3:=Ee.frozen 0;go_wp2;go_ret;refine⟨⟨(b0.out.setCell (p:=⟨b+1,0,none⟩) (by simp) _).setCell (p:=⟨b+2,0,none⟩) (by simp) _,by simpa[World.setCell] using e0.out⟩,rfl,_,(Eg.far (p:=⟨b+1,0,none⟩) (by simp) _).far (p:=⟨b+2,0,none⟩) (by simp) _,?_,?_,(HV.out.setBelow (p:=⟨b+1,0,none⟩) (by simp) _).setBelow (p:=⟨b+2,0,none⟩) (by simp) _⟩
  ·exact(show CB _ (b+1) _ #[_] from CB.set El 0 _).far (p:=⟨b+2,0,none⟩) (by simp) _
  ·exact(show CB _ (b+2) _ #[_] from CB.set (Ee.far (p:=⟨b+1,0,none⟩) (by simp) _) 0 _)
theorem IS.res {fn:Func} {p k:Tmp} {w:World} {b c:Nat} {v:Value} {x:Int} {tmps:Array Value} (hf:fn.results=#[.cell p 38,.cell k 36]) (h:CB w b 38 #[v]) (h':CB w c 36 #[.int .i64 x])
  (hp:tmps.getD p undef=.pointer (some ⟨b,0,none⟩)) (hk:tmps.getD k undef=.pointer (some ⟨c,0,none⟩)):(results fn tmps).run Tryz.prog w=.ok (.tuple #[v,.int .i64 x]) w:=by
 have h0:w.cell? ⟨b,0,none⟩=some v:=h.cell 0 rfl;have h1:w.cell? ⟨c,0,none⟩=some (.int .i64 x):=h'.cell 0 rfl;have hp':tmps[p]?.getD undef=.pointer (some ⟨b,0,none⟩):=by simpa using hp
 have hk':tmps[k]?.getD undef=.pointer (some ⟨c,0,none⟩):=by simpa using hk
 simp[results,hf,hp',hk',asAddr]
 simp[go_sem,h0,h1]
set_option maxRecDepth 100000 in
set_option maxHeartbeats 4000000 in
theorem indices_G (w:World) (G:GF w) (g:GL) (hs:g.nm.size≤1000) (Ls:List Int) (c r:Nat) (hl:Ls.length≤10) (hr:r<w.heap.size) (hc:∀ i (h:i<Ls.length),w.cell? ⟨r,i,none⟩=some (.int .i64 Ls[i])) :
  Calls Tryz.prog 64 #[.agg (GC g),.slice (some ⟨r,0,none⟩) Ls.length c] w fun e w'=>Below w.heap.size w w'∧∃ v x,e=.returned (.tuple #[v,.int .i64 x]) ∧
   ((x=0∧RI w' w'.heap.size v (Ls.map fun L=>(inG g L).1)∧∀ i (h:i<Ls.length),(inG g Ls[i]).2=0)∨(x≠0∧(∃ A n c,v=.slice A n c)∧∃ k,∃ h:k<Ls.length,(∀ i (hi:i<k),(inG g Ls[i]).2=0)∧(inG g Ls[k]).2=x)):=by
 have HG:=zz G;have f0:=zz hc;have g0:=zz hl;clear G hc;obtain⟨w0,hw0⟩:∃ w0:World,w0=(((w.alloc (.cells (GC g) 32)).alloc (.cells #[.slice none 0 0] 38)).alloc (.cells #[.int .i64 0] 36)):=⟨_,rfl⟩;have B0:=zz (n3_b hw0);have z0:=n3_z hw0;have Lg:=n3_0 hw0;have Ll:=n3_1 hw0;have Le:=n3_2 hw0;go_enter Tryz.func64,Tryz.ntmps64
 go_upto_region 1 with (fail)
 rw[← hw0];clear hw0;go_step3
 go_wp2;go_step3
 go_wp2;go_loopw [12] (fun iv wr=>∃ (k:Nat) (v:Value),k≤Ls.length∧iv=.int .i64 k∧Hid (CB wr w.heap.size 32 (GC g))∧Hid (CB wr (w.heap.size+1) 38 #[v])∧Hid (CB wr (w.heap.size+2) 36 #[.int .i64 0])∧Hid (OwnV wr (w.heap.size+3) v ((Ls.take k).map fun L=>(inG g L).1)) ∧
  Hid (∀ i (h:i<Ls.length),i<k→(inG g Ls[i]).2=0)∧Hid (Below w.heap.size w wr)∧Hid (w.heap.size+3≤wr.heap.size)) (fun iv _=>Ls.length-(intOf iv).toNat)
 case atStart=>exact⟨0,_,Nat.zero_le _,rfl,zz Lg,zz Ll,zz Le,zz (by rw[List.take_zero];exact OwnV.nil _ _),zz (fun i h hi=>absurd hi (Nat.not_lt_zero _)),B0,zz z0⟩
 case round=>
  obtain⟨k,v,hk,rfl,Mg,Ml,Me,MO,HA,HW,HZ⟩:=hrel;by_cases hlt:k<Ls.length
  ·have hki:(0:Int)≤(k:Int)∧(k:Int)<(Ls.length:Int):=by omega
   have hll:=g0.out;have hcell:=(HW.out.cell (p:=⟨r,k,none⟩) hr).trans (f0.out k hlt);go_wp2_with fail
   refine(idx1_G _ (HG.out.step HW.out) g hs Ls[k] w.heap.size HZ.out v _ 0 (by rw[List.length_map,List.length_take];omega) Mg.out Ml.out Me.out MO.out).mono ?_;rintro e w1 ⟨⟨hb,hz⟩,rfl,v',Ng,Nl,Ne,NO⟩;obtain⟨y,hy⟩:∃ y,(inG g Ls[k]).2=y:=⟨_,rfl⟩;rw[hy] at Ne ⊢;have HY:=zz hy;have c0:=zz (HW.out.trans hb);have k0:=zz (show w.heap.size+3≤w1.heap.size by have:=HZ.out;omega);have d0:=zz NO;clear hb hz hcell hy NO;by_cases hy0:y=0
   ·subst hy0;go_wp2;go_roundw
    case rel=>exact⟨k+1,v',by omega,by go_num,zz Ng,zz Nl,zz Ne,zz (by rw[← List.take_append_getElem hlt,List.map_append];exact d0.out),zz (fun i h hi=>by rcases Nat.lt_succ_iff_lt_or_eq.1 hi with h1 | rfl;exact HA.out i h h1;exact HY.out),c0,k0⟩
    case measure=>simp[intOf];omega
   ·have hyb:(y==0)=false:=beq_eq_false_iff_ne.2 hy0;have HN:=zz hy0;clear hy0;obtain⟨A,c',rfl⟩:=RI.slice d0.out.ri;rw[show((Ls.take k).map (fun L=>(inG g L).1)++[(inG g Ls[k]).1]).length=k+1 by simp;omega] at Nl;have q0:w1.cell? ⟨w.heap.size+1,0,none⟩=some (.slice A (k+1) c'):=Nl.cell 0 rfl;have q1:w1.cell? ⟨w.heap.size+2,0,none⟩=some (.int .i64 y):=Ne.cell 0 rfl;have q2:=Nl.frozen 0;have q3:=Ne.frozen 0;go_upto_region 7 with (fail)
    go_region_with (fail)
    all_goals
     go_wp2;(try rw[Exit.noGoto_ret])
     rw[CB.same Nl,CB.same Ne]
     change bodyPost Tryz.prog Tryz.f64 _ .ret _ _
     exact bodyPost_ret (IS.res rfl (CB.drew Nl) (CB.drew Ne) rfl rfl) rfl ⟨c0.out.drew,_,_,rfl,.inr ⟨HN.out,⟨_,_,_,rfl⟩,k,hlt,fun i hi=>HA.out i _ hi,HY.out⟩⟩
  ·obtain rfl:k=Ls.length:=by omega
   rw[List.take_length] at MO;obtain⟨A,c',rfl⟩:=RI.slice MO.out.ri;rw[List.length_map] at Ml;have l0:=zz (show RI wr wr.heap.size (.slice A Ls.length c') (Ls.map fun L=>(inG g L).1) by have h:=MO.out.ri;rwa [List.length_map] at h);have q0:wr.cell? ⟨w.heap.size+1,0,none⟩=some (.slice A Ls.length c'):=Ml.out.cell 0 rfl;have q1:wr.cell? ⟨w.heap.size+2,0,none⟩=some (.int .i64 0):=Me.out.cell 0 rfl;have q2:=Ml.out.frozen 0;have q3:=Me.out.frozen 0;go_upto_region 7 with (fail)
   go_region_with (fail)
   all_goals
    go_wp2;(try rw[Exit.noGoto_ret])
    rw[CB.same Ml.out,CB.same Me.out]
    change bodyPost Tryz.prog Tryz.f64 _ .ret _ _
    exact bodyPost_ret (IS.res rfl (CB.drew Ml.out) (CB.drew Me.out) rfl rfl) rfl ⟨HW.out.drew,_,_,rfl,.inl ⟨rfl,l0.out,fun i h=>HA.out i h h⟩⟩
end Go.Proofs.YtkhljkiehohckaaGreatDoor
namespace Go.Proofs.YtkhljkiehohckaaGreatDoor
open Go Go.RowKit Dig
set_option maxRecDepth 100000 in
set_option maxHeartbeats 4000000 in
theorem ratio_any (w:World) (n d:Int) (hn:-9223372036854775808≤n∧n≤9223372036854775807) (hd:-9223372036854775808≤d∧d≤9223372036854775807) :
  Calls Tryz.prog 65 #[.int .i64 n,.int .i64 d] w fun e w'=>Below w.heap.size w w'∧RetQ w' (mkQ n d) e:=by
 obtain⟨t,ht⟩:∃ t,t=mkQ n d:=⟨_,rfl⟩;rw[← ht];have HT:=zz ht;clear ht;have HN:=zz hn;have HD:=zz hd;clear hn hd;obtain⟨w0,hw0⟩:∃ w0:World,w0=(w.alloc (.cells #[.bool false,.slice none 0 0,.bool false,.slice none 0 0] 43)):=⟨_,rfl⟩;have B0:=zz (n1_b hw0);have z0:=n1_z hw0;have Lr4:=n1_0 hw0;by_cases h0:d=0
 ·have D0:=zz (show t=(none,7) by rw[HT.out,mkQ,if_pos h0]);have hk:(d==0)=true:=by rw[beq_iff_eq];exact h0
  clear h0;go_enter Tryz.func65,Tryz.ntmps65
  go_upto_region 1 with (fail)
  rw[← hw0];clear hw0;have d0:=Lr4.cell 0 rfl;have e0:=Lr4.cell 1 rfl;have f0:=Lr4.cell 2 rfl;have g0:=Lr4.cell 3 rfl;have x0:=Lr4.lt;have i0:=Lr4.frozen 0;have j0:=Lr4.frozen 1;have k0:=Lr4.frozen 2;have l0:=Lr4.frozen 3;have y0:=Lr4.lt;go_wp2;clear d0 e0 f0 g0 x0 i0 j0 k0 l0 y0;exact QB.fin rfl Lr4 (by simp[noInt_b,noInt_s]) B0.out (by omega) (by rw[D0.out];exact zeroQ _ _) rfl (by rw[D0.out];rfl)
 ·have hk:(d==0)=false:=by rw[beq_eq_false_iff_ne];exact h0
  clear h0;go_enter Tryz.func65,Tryz.ntmps65
  go_upto_region 1 with (fail)
  rw[← hw0];clear hw0;go_wp2_with fail
  refine(QOf_any _ n d HN.out.1 HN.out.2 HD.out.1 HD.out.2).mono ?_;rintro e w3 ⟨c0,v,rfl,hv⟩;have B4:=zz c0;have z4:=B4.out.size;have u0:=zz (B0.out.trans (B4.out.mono B0.out.size));clear c0;rw[← HT.out] at hv ⊢;have hg6:=hv;obtain⟨H0,I0,J0,K0,L0,M0,v0,N0,rfl⟩:=QO.cells hg6;have b0:=zz hg6;clear hg6;have a0:=CB.step Lr4 B4.out;have m0:=a0.cell 0 rfl;have n0:=a0.cell 1 rfl;have o0:=a0.cell 2 rfl;have p0:=a0.cell 3 rfl;have A0:=a0.lt;have q0:=a0.frozen 0;have r0:=a0.frozen 1;have s0:=a0.frozen 2;have t0:=a0.frozen 3;have C0:=a0.lt;go_wp2;clear m0 n0 o0 p0 A0 q0 r0 s0 t0 C0;exact QB.fin rfl a0 (by simp[noInt_b,noInt_s]) u0.out (by omega) b0.out rfl rfl
theorem RI.cells {w:World} {B:Nat} {v:Value} {l:List Int} (h:RI w B v l) (h0:0<l.length):∃ r off c,v=.slice (some ⟨r,off,none⟩) l.length c∧r<B∧∀ j (hj:j<l.length),w.cell? ⟨r,off+j,none⟩=some (.int .i64 l[j]):=by
 obtain⟨A,c,hv,-,-,hx⟩:=h;obtain⟨g,off,rfl,hg,hc⟩:=hx h0;exact⟨g,off,c,hv,hg,hc⟩
theorem cells_new (w:World) (T:TypeId) (l:List Int) (i:Nat) (h:i<l.length):(w.alloc (.cells (l.map (Value.int .i64)).toArray T)).cell? ⟨w.heap.size,i,none⟩=some (.int .i64 l[i]):=by
 rw[cell_of_row _ _ _ _ T (0,0) (heap_alloc_new w _)];simp[h]
theorem inG_ok {g:GL} {L:Int}:(inG g L).2=0→-9223372036854775808≤(inG g L).1∧(inG g L).1≤9223372036854775807:=fun _=>by have:=inG_bound g L;omega
set_option maxRecDepth 100000 in
set_option maxHeartbeats 4000000 in
theorem Abbe_G (w:World) (G:GF w) (g:GL) (hs:g.nm.size≤1000) :
  Calls Tryz.prog 28 #[.agg (GC g)] w fun e w'=>Below w.heap.size w w'∧RetQ w' (abG g) e:=by
 replace G:=zz G;obtain⟨t,ht⟩:∃ t,t=(abG g):=⟨_,rfl⟩;rw[← ht];have HT:=zz ht;clear ht;obtain⟨w0,hw0⟩:∃ w0:World,w0=((w.alloc (.cells (GC g) 32)).alloc (.cells #[.bool false,.slice none 0 0,.bool false,.slice none 0 0] 43)):=⟨_,rfl⟩;have B0:=zz (n2_b hw0);have z0:=n2_z hw0;have Lg:=n2_0 hw0;have Lr2:=n2_1 hw0;go_enter Tryz.func28,Tryz.ntmps28
 go_upto_region 1 with (fail)
 rw[← hw0];clear hw0;go_wp2_with (refine wpList_load_row rfl _ _ rfl _ rfl _ _ (0,0) _ Lg rfl rfl rfl ?_)
 have hbn:Below w0.heap.size w0 (w0.alloc (.cells #[.int .i64 587562,.int .i64 486133,.int .i64 656273] 3)):=(Below.refl _ _).alloc (Nat.le_refl _) _;refine(indices_G _ (G.out.step (B0.out.trans (hbn.mono B0.out.size))) g hs [587562,486133,656273] 3 w0.heap.size (by simp) (by simp) (fun i hi=>cells_new w0 3 [587562,486133,656273] i hi)).mono ?_;rintro e w1 ⟨h0,v,x,rfl,h⟩;replace h0:=hbn.trans (h0.mono (by simp));clear hbn;have B1:=zz h0;have z1:=B1.out.size;have j0:=zz (B0.out.trans (B1.out.mono B0.out.size));clear h0;rcases h with ⟨rfl,hri,hok⟩ | ⟨hx,⟨A,m,c,rfl⟩,k,hk,hlt,herr⟩
 rotate_left
 ·have hxb:(x != 0)=true:=bne_iff_ne.2 hx;have J1:=zz (show t=(none,x) by
   rw[HT.out];unfold abG;rcases k with _ | _ | _ | k
   ·rw[if_pos (by rw[show(inG g 587562).2=x from herr];exact hx),show(inG g 587562).2=x from herr]
   ·rw[if_neg (fun e=>e (show(inG g 587562).2=0 from hlt 0 (by omega))),if_pos (by rw[show(inG g 486133).2=x from herr];exact hx),show(inG g 486133).2=x from herr]
   ·rw[if_neg (fun e=>e (show(inG g 587562).2=0 from hlt 0 (by omega))),if_neg (fun e=>e (show(inG g 486133).2=0 from hlt 1 (by omega))),if_pos (by rw[show(inG g 656273).2=x from herr];exact hx),show(inG g 656273).2=x from herr]
   ·exact absurd hk (by simp))
  clear hx hk hlt herr;have g0:=CB.step Lr2 B1.out;have y0:=g0.cell 0 rfl;have A0:=g0.cell 1 rfl;have C0:=g0.cell 2 rfl;have D0:=g0.cell 3 rfl;have H1:=g0.lt;have E0:=g0.frozen 0;have F0:=g0.frozen 1;have G0:=g0.frozen 2;have H0:=g0.frozen 3;have I1:=g0.lt;go_wp2;clear y0 A0 C0 D0 H1 E0 F0 G0 H0 I1;exact QB.fin rfl g0 (by simp[noInt_b,noInt_s]) j0.out (by omega) (by rw[J1.out];exact zeroQ _ _) rfl (by rw[J1.out];rfl)
 have ho:=fun i (hi:i<3)=>hok i hi;clear hok
 obtain⟨r,off,c,rfl,hr,hc⟩:=hri.cells (by simp);have HR:=zz hr;have K1:=zz (show w1.cell? ⟨r,off,none⟩=some (.int .i64 (inG g 587562).1) from hc 0 (by simp));have L1:=zz (show w1.cell? ⟨r,off+1,none⟩=some (.int .i64 (inG g 486133).1) from hc 1 (by simp));have M1:=zz (show w1.cell? ⟨r,off+2,none⟩=some (.int .i64 (inG g 656273).1) from hc 2 (by simp));have HK:=zz (show(inG g 587562).2=0∧(inG g 486133).2=0∧(inG g 656273).2=0 from⟨ho 0 (by omega),ho 1 (by omega),ho 2 (by omega)⟩);obtain⟨a0,ha0⟩:∃ a,(inG g 587562).1=a:=⟨_,rfl⟩;rw[ha0] at K1;have N1:=zz (show 0≤a0∧a0≤40000000 by rw[← ha0];exact inG_bound g 587562);have U1:=zz ha0;clear ha0;obtain⟨a1,ha1⟩:∃ a,(inG g 486133).1=a:=⟨_,rfl⟩;rw[ha1] at L1;have O1:=zz (show 0≤a1∧a1≤40000000 by rw[← ha1];exact inG_bound g 486133);have V1:=zz ha1;clear ha1;obtain⟨a2,ha2⟩:∃ a,(inG g 656273).1=a:=⟨_,rfl⟩;rw[ha2] at M1;have P1:=zz (show 0≤a2∧a2≤40000000 by rw[← ha2];exact inG_bound g 656273);have W1:=zz ha2;clear ha2;clear hri hr hc ho;obtain⟨x,hx⟩:∃ x,a0-10000000=x:=⟨_,rfl⟩;obtain⟨y,hy⟩:∃ y,a1-a2=y:=⟨_,rfl⟩;have Q1:=zz (show -9223372036854775808≤x∧x≤9223372036854775807 by have b0:=N1.out;have b1:=O1.out;have b2:=P1.out;omega);have R1:=zz (show -9223372036854775808≤y∧y≤9223372036854775807 by have b0:=N1.out;have b1:=O1.out;have b2:=P1.out;omega);have hwx:IntKind.i64.wrap (a0-10000000)=x:=by rw[hx];exact IntWalk.i64_in _ (by have:=Q1.out;omega)
 have hwy:IntKind.i64.wrap (a1-a2)=y:=by rw[hy];exact IntWalk.i64_in _ (by have:=R1.out;omega)
 have X1:=zz (show mkQ x y=t by
  have hk:=HK.out;rw[HT.out];unfold abG;rw[if_neg (fun e=>e hk.1),if_neg (fun e=>e hk.2.1),if_neg (fun e=>e hk.2.2),U1.out,V1.out,W1.out,hx,hy])
 clear hx hy;go_upto_region 4 with (fail)
 refine Flow.run [⟨0,16,fun fv fw=>fv=.slice (some ⟨r,off,none⟩) 3 c⟩,⟨1,17,fun fv fw=>fv=.pointer (some ⟨r,off,none⟩)⟩,⟨2,18,fun fv fw=>fv=.int .i64 a0⟩,⟨3,19,fun fv fw=>fv=.int .i64 x⟩,⟨4,20,fun fv fw=>fv=.slice (some ⟨r,off,none⟩) 3 c⟩,⟨5,21,fun fv fw=>fv=.pointer (some ⟨r,off+1,none⟩)⟩,⟨6,22,fun fv fw=>fv=.int .i64 a1⟩,⟨7,23,fun fv fw=>fv=.slice (some ⟨r,off,none⟩) 3 c⟩,⟨8,24,fun fv fw=>fv=.pointer (some ⟨r,off+2,none⟩)⟩,⟨9,25,fun fv fw=>fv=.int .i64 a2⟩,⟨10,26,fun fv fw=>fv=.int .i64 y⟩,⟨11,27,fun fv fw=>∃ u,fv=.tuple #[u,.int .i64 t.2]∧QO fw fw.heap.size u t.1⟩,⟨12,28,fun fv fw=>QO fw fw.heap.size fv t.1⟩,⟨13,29,fun fv fw=>fv=.int .i64 t.2⟩] [] [] 2 (by kernel_rfl) (by kernel_rfl) (by kernel_rfl) (fun _ _ _ _ _ h=>h) ?_ ?_ ?_ ?_
 ·refine(all_cons (fun v w1 w2 h hb=>h) (all_cons (fun v w1 w2 h hb=>h) (all_cons (fun v w1 w2 h hb=>h) (all_cons (fun v w1 w2 h hb=>h) (all_cons (fun v w1 w2 h hb=>h) (all_cons (fun v w1 w2 h hb=>h) (all_cons (fun v w1 w2 h hb=>h) (all_cons (fun v w1 w2 h hb=>h) (all_cons (fun v w1 w2 h hb=>h) (all_cons (fun v w1 w2 h hb=>h) (all_cons (fun v w1 w2 h hb=>h) (all_cons (fun v w1 w2 h hb=>let ⟨u,e,h⟩:=h;⟨u,e,QO.step (o:=t.1) h hb⟩) (all_cons (fun v w1 w2 h hb=>QO.step (o:=t.1) h hb) (all_cons (fun v w1 w2 h hb=>h) all_nil))))))))))))))
 ·refine(all_cons ?_ (all_cons ?_ (all_cons ?_ (all_cons ?_ (all_cons ?_ (all_cons ?_ (all_cons ?_ (all_cons ?_ (all_cons ?_ (all_cons ?_ (all_cons ?_ (all_cons ?_ (all_cons ?_ (all_cons ?_ all_nil))))))))))))))
  ·intro xs wk6 c0 d0;clear c0;clear d0;refine wpOp_step (o:=_) rfl (fun K hK=>?_);simp only[FL]
   go_simp;refine hK _ _ ⟨.slice (some ⟨r,off,none⟩) 3 c,by kernel_rfl,Below.refl _ _,rfl,nF⟩
  ·intro xs u1 c0 d0;clear c0;have f0:(xs 0)=.slice (some ⟨r,off,none⟩) 3 c:=d0 _ (m_ 0 rfl) (by kernel_rfl);clear d0;refine wpOp_step (o:=_) rfl (fun K hK=>?_);simp only[FL]
   go_simp;refine hK _ _ ⟨.pointer (some ⟨r,off,none⟩),by simp only[FL,f0] <;> kernel_rfl,Below.refl _ _,rfl,nF⟩
  ·intro xs y1 c0 d0;have I0:=zz c0;have A1:=c0.size;clear c0;have f1:(xs 1)=.pointer (some ⟨r,off,none⟩):=d0 _ (m_ 1 rfl) (by kernel_rfl);clear d0;refine wpOp_step (o:=_) rfl (fun K hK=>?_);simp only[FL]
   have hcell:=(I0.out.cell (p:=⟨r,off,none⟩) HR.out).trans K1.out;go_simp;refine hK _ _ ⟨.int .i64 a0,by simp only[FL,f1] <;> kernel_rfl,Below.refl _ _,rfl,nF⟩
  ·intro xs C1 c0 d0;clear c0;have f2:(xs 2)=.int .i64 a0:=d0 _ (m_ 2 rfl) (by kernel_rfl);clear d0;refine wpOp_step (o:=_) rfl (fun K hK=>?_);simp only[FL]
   go_simp;refine hK _ _ ⟨.int .i64 x,by simp only[FL,f2] <;> kernel_rfl,Below.refl _ _,rfl,nF⟩
  ·intro xs Y0 c0 d0;clear c0;clear d0;refine wpOp_step (o:=_) rfl (fun K hK=>?_);simp only[FL]
   go_simp;refine hK _ _ ⟨.slice (some ⟨r,off,none⟩) 3 c,by kernel_rfl,Below.refl _ _,rfl,nF⟩
  ·intro xs c1 c0 d0;clear c0;have f4:(xs 4)=.slice (some ⟨r,off,none⟩) 3 c:=d0 _ (m_ 4 rfl) (by kernel_rfl);clear d0;refine wpOp_step (o:=_) rfl (fun K hK=>?_);simp only[FL]
   go_simp;refine hK _ _ ⟨.pointer (some ⟨r,off+1,none⟩),by simp only[FL,f4] <;> kernel_rfl,Below.refl _ _,rfl,nF⟩
  ·intro xs e1 c0 d0;have m0:=zz c0;have g1:=c0.size;clear c0;have f5:(xs 5)=.pointer (some ⟨r,off+1,none⟩):=d0 _ (m_ 5 rfl) (by kernel_rfl);clear d0;refine wpOp_step (o:=_) rfl (fun K hK=>?_);simp only[FL]
   have hcell:=(m0.out.cell (p:=⟨r,off+1,none⟩) HR.out).trans L1.out;go_simp;refine hK _ _ ⟨.int .i64 a1,by simp only[FL,f5] <;> kernel_rfl,Below.refl _ _,rfl,nF⟩
  ·intro xs h1 c0 d0;clear c0;clear d0;refine wpOp_step (o:=_) rfl (fun K hK=>?_);simp only[FL]
   go_simp;refine hK _ _ ⟨.slice (some ⟨r,off,none⟩) 3 c,by kernel_rfl,Below.refl _ _,rfl,nF⟩
  ·intro xs j1 c0 d0;clear c0;have f7:(xs 7)=.slice (some ⟨r,off,none⟩) 3 c:=d0 _ (m_ 7 rfl) (by kernel_rfl);clear d0;refine wpOp_step (o:=_) rfl (fun K hK=>?_);simp only[FL]
   go_simp;refine hK _ _ ⟨.pointer (some ⟨r,off+2,none⟩),by simp only[FL,f7] <;> kernel_rfl,Below.refl _ _,rfl,nF⟩
  ·intro xs l1 c0 d0;have n0:=zz c0;have m1:=c0.size;clear c0;have f8:(xs 8)=.pointer (some ⟨r,off+2,none⟩):=d0 _ (m_ 8 rfl) (by kernel_rfl);clear d0;refine wpOp_step (o:=_) rfl (fun K hK=>?_);simp only[FL]
   have hcell:=(n0.out.cell (p:=⟨r,off+2,none⟩) HR.out).trans M1.out;go_simp;refine hK _ _ ⟨.int .i64 a2,by simp only[FL,f8] <;> kernel_rfl,Below.refl _ _,rfl,nF⟩
  ·intro xs n1 c0 d0;clear c0;have f6:(xs 6)=.int .i64 a1:=d0 _ (m_ 6 rfl) (by kernel_rfl);have f9:(xs 9)=.int .i64 a2:=d0 _ (m_ 9 rfl) (by kernel_rfl);clear d0;refine wpOp_step (o:=_) rfl (fun K hK=>?_);simp only[FL]
   go_simp;refine hK _ _ ⟨.int .i64 y,by simp only[FL,f6,f9] <;> kernel_rfl,Below.refl _ _,rfl,nF⟩
  ·intro xs p1 c0 d0;clear c0;have f3:(xs 3)=.int .i64 x:=d0 _ (m_ 3 rfl) (by kernel_rfl);have f10:(xs 10)=.int .i64 y:=d0 _ (m_ 10 rfl) (by kernel_rfl);clear d0;refine wpOp_step (o:=_) rfl (fun K hK=>?_);simp only[FL]
   go_simp;(with_reducible refine((show Calls Tryz.prog _ _ _ _ from X1.out▸ratio_any _ x y Q1.out R1.out)).mono ?_)
   rintro e wc18 ⟨J0,v18,rfl,K0⟩;refine hK _ _ ⟨.tuple #[v18,.int .i64 t.2],by simp only[FL,f3,f10] <;> kernel_rfl,J0,⟨v18,rfl,K0⟩,nF⟩
  ·intro xs k0 c0 d0;clear c0;have f11:∃ u,(xs 11)=.tuple #[u,.int .i64 t.2]∧QO k0 k0.heap.size u t.1:=d0 _ (m_ 11 rfl) (by kernel_rfl);clear d0;refine wpOp_step (o:=_) rfl (fun K hK=>?_);simp only[FL]
   obtain⟨u,hu,hl⟩:=f11;rw[hu];go_simp;refine hK _ _ ⟨u,by simp only[FL,hu] <;> kernel_rfl,Below.refl _ _,hl,nF⟩
  ·intro xs l0 c0 d0;clear c0;have f11:∃ u,(xs 11)=.tuple #[u,.int .i64 t.2]∧QO l0 l0.heap.size u t.1:=d0 _ (m_ 11 rfl) (by kernel_rfl);clear d0;refine wpOp_step (o:=_) rfl (fun K hK=>?_);simp only[FL]
   obtain⟨u,hu,-⟩:=f11;rw[hu];go_simp;refine hK _ _ ⟨.int .i64 t.2,by simp only[FL,hu] <;> kernel_rfl,Below.refl _ _,rfl,nF⟩
 ·exact all_nil
 ·intro xs E1 hbf hf hn hd;have f0:(xs 0)=.slice (some ⟨r,off,none⟩) 3 c:=hf _ (m_ 0 rfl);have f1:(xs 1)=.pointer (some ⟨r,off,none⟩):=hf _ (m_ 1 rfl);have f2:(xs 2)=.int .i64 a0:=hf _ (m_ 2 rfl);have f3:(xs 3)=.int .i64 x:=hf _ (m_ 3 rfl);have f4:(xs 4)=.slice (some ⟨r,off,none⟩) 3 c:=hf _ (m_ 4 rfl);have f5:(xs 5)=.pointer (some ⟨r,off+1,none⟩):=hf _ (m_ 5 rfl);have f6:(xs 6)=.int .i64 a1:=hf _ (m_ 6 rfl);have f7:(xs 7)=.slice (some ⟨r,off,none⟩) 3 c:=hf _ (m_ 7 rfl);have f8:(xs 8)=.pointer (some ⟨r,off+2,none⟩):=hf _ (m_ 8 rfl);have f9:(xs 9)=.int .i64 a2:=hf _ (m_ 9 rfl);have f10:(xs 10)=.int .i64 y:=hf _ (m_ 10 rfl);have f11:∃ u,(xs 11)=.tuple #[u,.int .i64 t.2]∧QO E1 E1.heap.size u t.1:=hf _ (m_ 11 rfl);have f12:QO E1 E1.heap.size (xs 12) t.1:=hf _ (m_ 12 rfl);have f13:(xs 13)=.int .i64 t.2:=hf _ (m_ 13 rfl);clear hf hn hd;simp only[FL]
  have B22:=zz hbf;have z22:=B22.out.size;have L0:=zz (j0.out.trans (B22.out.mono j0.out.size));clear hbf;generalize xs 0=x0 at *
  generalize xs 1=x1 at *
  generalize xs 2=x2 at *
  generalize xs 3=x3 at *
  generalize xs 4=x4 at *
  generalize xs 5=x5 at *
  generalize xs 6=x6 at *
  generalize xs 7=x7 at *
  generalize xs 8=x8 at *
  generalize xs 9=x9 at *
  generalize xs 10=x10 at *
  generalize xs 11=x11 at *
  generalize xs 12=x12 at *
  generalize xs 13=x13 at *
  obtain rfl:=f0;obtain rfl:=f1;obtain rfl:=f2;obtain rfl:=f3;obtain rfl:=f4;obtain rfl:=f5;obtain rfl:=f6;obtain rfl:=f7;obtain rfl:=f8;obtain rfl:=f9;obtain rfl:=f10;clear f11;have hg24:=f12;obtain⟨Z1,c2,d2,e2,g2,h2,U0,i2,rfl⟩:=QO.cells hg24;have i0:=zz hg24;clear hg24;obtain rfl:=f13;have P1_3_26:=zz (B1.out.trans (B22.out.mono B1.out.size));have e0:=CB.step Lr2 P1_3_26.out;have o0:=e0.cell 0 rfl;have p0:=e0.cell 1 rfl;have q0:=e0.cell 2 rfl;have r0:=e0.cell 3 rfl;have F1:=e0.lt;have s0:=e0.frozen 0;have t0:=e0.frozen 1;have u0:=e0.frozen 2;have v0:=e0.frozen 3;have G1:=e0.lt;refine Early.next (i:=14) (by kernel_rfl) rfl (fun K hK=>?_);go_simp;refine hK _ _ (fun _=>trivial) ?_;clear hK K;(try simp only[Act.put,List.setIfInBounds_toArray,List.set_cons_zero,List.set_cons_succ])
  clear o0 p0 q0 r0 F1 s0 t0 u0 v0 G1;refine Early.next (i:=15) (by kernel_rfl) rfl (fun K hK=>?_);go_simp;refine hK _ _ (fun _=>trivial) ?_;clear hK K;(try simp only[Act.put,List.setIfInBounds_toArray,List.set_cons_zero,List.set_cons_succ])
  refine Early.done (by kernel_rfl) ?_ _;(try simp only[Exit.then])
  go_wp2;exact QB.fin rfl e0 (by simp[noInt_b,noInt_s]) L0.out (by omega) i0.out rfl rfl
set_option maxRecDepth 100000 in
set_option maxHeartbeats 4000000 in
theorem Partial_G (w:World) (G:GF w) (g:GL) (hs:g.nm.size≤1000) (p q:Int) :
  Calls Tryz.prog 30 #[.agg (GC g),.int .i64 p,.int .i64 q] w fun e w'=>Below w.heap.size w w'∧RetQ w' (paG g p q) e:=by
 replace G:=zz G;obtain⟨t,ht⟩:∃ t,t=(paG g p q):=⟨_,rfl⟩;rw[← ht];have HT:=zz ht;clear ht;obtain⟨w0,hw0⟩:∃ w0:World,w0=((w.alloc (.cells (GC g) 32)).alloc (.cells #[.bool false,.slice none 0 0,.bool false,.slice none 0 0] 43)):=⟨_,rfl⟩;have B0:=zz (n2_b hw0);have z0:=n2_z hw0;have Lg:=n2_0 hw0;have Lr6:=n2_1 hw0;go_enter Tryz.func30,Tryz.ntmps30
 go_upto_region 1 with (fail)
 rw[← hw0];clear hw0;go_wp2_with (refine wpList_load_row rfl _ _ rfl _ rfl _ _ (0,0) _ Lg rfl rfl rfl ?_)
 have hbn:Below w0.heap.size w0 (w0.alloc (.cells #[.int .i64 486133,.int .i64 656273,.int .i64 p,.int .i64 q] 3)):=(Below.refl _ _).alloc (Nat.le_refl _) _;refine(indices_G _ (G.out.step (B0.out.trans (hbn.mono B0.out.size))) g hs [486133,656273,p,q] 4 w0.heap.size (by simp) (by simp) (fun i hi=>cells_new w0 3 [486133,656273,p,q] i hi)).mono ?_;rintro e w1 ⟨h0,v,x,rfl,h⟩;replace h0:=hbn.trans (h0.mono (by simp));clear hbn;have B1:=zz h0;have z1:=B1.out.size;have j0:=zz (B0.out.trans (B1.out.mono B0.out.size));clear h0;rcases h with ⟨rfl,hri,hok⟩ | ⟨hx,⟨A,m,c,rfl⟩,k,hk,hlt,herr⟩
 rotate_left
 ·have hxb:(x != 0)=true:=bne_iff_ne.2 hx;have T1:=zz (show t=(none,x) by
   rw[HT.out];unfold paG;rcases k with _ | _ | _ | _ | k
   ·rw[if_pos (by rw[show(inG g 486133).2=x from herr];exact hx),show(inG g 486133).2=x from herr]
   ·rw[if_neg (fun e=>e (show(inG g 486133).2=0 from hlt 0 (by omega))),if_pos (by rw[show(inG g 656273).2=x from herr];exact hx),show(inG g 656273).2=x from herr]
   ·rw[if_neg (fun e=>e (show(inG g 486133).2=0 from hlt 0 (by omega))),if_neg (fun e=>e (show(inG g 656273).2=0 from hlt 1 (by omega))),if_pos (by rw[show(inG g p).2=x from herr];exact hx),show(inG g p).2=x from herr]
   ·rw[if_neg (fun e=>e (show(inG g 486133).2=0 from hlt 0 (by omega))),if_neg (fun e=>e (show(inG g 656273).2=0 from hlt 1 (by omega))),if_neg (fun e=>e (show(inG g p).2=0 from hlt 2 (by omega))),if_pos (by rw[show(inG g q).2=x from herr];exact hx),show(inG g q).2=x from herr]
   ·exact absurd hk (by simp))
  clear hx hk hlt herr;have g0:=CB.step Lr6 B1.out;have A0:=g0.cell 0 rfl;have C0:=g0.cell 1 rfl;have D0:=g0.cell 2 rfl;have E0:=g0.cell 3 rfl;have Q1:=g0.lt;have F0:=g0.frozen 0;have G0:=g0.frozen 1;have H0:=g0.frozen 2;have I0:=g0.frozen 3;have R1:=g0.lt;go_wp2;clear A0 C0 D0 E0 Q1 F0 G0 H0 I0 R1;exact QB.fin rfl g0 (by simp[noInt_b,noInt_s]) j0.out (by omega) (by rw[T1.out];exact zeroQ _ _) rfl (by rw[T1.out];rfl)
 have ho:=fun i (hi:i<4)=>hok i hi;clear hok
 obtain⟨r,off,c,rfl,hr,hc⟩:=hri.cells (by simp);have HR:=zz hr;have U1:=zz (show w1.cell? ⟨r,off,none⟩=some (.int .i64 (inG g 486133).1) from hc 0 (by simp));have V1:=zz (show w1.cell? ⟨r,off+1,none⟩=some (.int .i64 (inG g 656273).1) from hc 1 (by simp));have W1:=zz (show w1.cell? ⟨r,off+2,none⟩=some (.int .i64 (inG g p).1) from hc 2 (by simp));have X1:=zz (show w1.cell? ⟨r,off+3,none⟩=some (.int .i64 (inG g q).1) from hc 3 (by simp));have HK:=zz (show(inG g 486133).2=0∧(inG g 656273).2=0∧(inG g p).2=0∧(inG g q).2=0 from⟨ho 0 (by omega),ho 1 (by omega),ho 2 (by omega),ho 3 (by omega)⟩);obtain⟨a0,ha0⟩:∃ a,(inG g 486133).1=a:=⟨_,rfl⟩;rw[ha0] at U1;have Y1:=zz (show 0≤a0∧a0≤40000000 by rw[← ha0];exact inG_bound g 486133);have i2:=zz ha0;clear ha0;obtain⟨a1,ha1⟩:∃ a,(inG g 656273).1=a:=⟨_,rfl⟩;rw[ha1] at V1;have Z1:=zz (show 0≤a1∧a1≤40000000 by rw[← ha1];exact inG_bound g 656273);have j2:=zz ha1;clear ha1;obtain⟨a2,ha2⟩:∃ a,(inG g p).1=a:=⟨_,rfl⟩;rw[ha2] at W1;have c2:=zz (show 0≤a2∧a2≤40000000 by rw[← ha2];exact inG_bound g p);have k2:=zz ha2;clear ha2;obtain⟨a3,ha3⟩:∃ a,(inG g q).1=a:=⟨_,rfl⟩;rw[ha3] at X1;have d2:=zz (show 0≤a3∧a3≤40000000 by rw[← ha3];exact inG_bound g q);have l2:=zz ha3;clear ha3;clear hri hr hc ho;obtain⟨x,hx⟩:∃ x,a2-a3=x:=⟨_,rfl⟩;obtain⟨y,hy⟩:∃ y,a0-a1=y:=⟨_,rfl⟩
 have e2:=zz (show -9223372036854775808≤x∧x≤9223372036854775807 by have b0:=Y1.out;have b1:=Z1.out;have b2:=c2.out;have b3:=d2.out;omega);have g2:=zz (show -9223372036854775808≤y∧y≤9223372036854775807 by have b0:=Y1.out;have b1:=Z1.out;have b2:=c2.out;have b3:=d2.out;omega);have hwx:IntKind.i64.wrap (a2-a3)=x:=by rw[hx];exact IntWalk.i64_in _ (by have:=e2.out;omega)
 have hwy:IntKind.i64.wrap (a0-a1)=y:=by rw[hy];exact IntWalk.i64_in _ (by have:=g2.out;omega)
 have m2:=zz (show mkQ x y=t by
  have hk:=HK.out;rw[HT.out];unfold paG;rw[if_neg (fun e=>e hk.1),if_neg (fun e=>e hk.2.1),if_neg (fun e=>e hk.2.2.1),if_neg (fun e=>e hk.2.2.2),i2.out,j2.out,k2.out,l2.out,hx,hy])
 clear hx hy;go_upto_region 4 with (fail)
 refine Flow.run [⟨0,22,fun fv fw=>fv=.slice (some ⟨r,off,none⟩) 4 c⟩,⟨1,23,fun fv fw=>fv=.pointer (some ⟨r,off+2,none⟩)⟩,⟨2,24,fun fv fw=>fv=.int .i64 a2⟩,⟨3,25,fun fv fw=>fv=.slice (some ⟨r,off,none⟩) 4 c⟩,⟨4,26,fun fv fw=>fv=.pointer (some ⟨r,off+3,none⟩)⟩,⟨5,27,fun fv fw=>fv=.int .i64 a3⟩,⟨6,28,fun fv fw=>fv=.int .i64 x⟩,⟨7,29,fun fv fw=>fv=.slice (some ⟨r,off,none⟩) 4 c⟩,⟨8,30,fun fv fw=>fv=.pointer (some ⟨r,off,none⟩)⟩,⟨9,31,fun fv fw=>fv=.int .i64 a0⟩,⟨10,32,fun fv fw=>fv=.slice (some ⟨r,off,none⟩) 4 c⟩,⟨11,33,fun fv fw=>fv=.pointer (some ⟨r,off+1,none⟩)⟩,⟨12,34,fun fv fw=>fv=.int .i64 a1⟩,⟨13,35,fun fv fw=>fv=.int .i64 y⟩,⟨14,36,fun fv fw=>∃ u,fv=.tuple #[u,.int .i64 t.2]∧QO fw fw.heap.size u t.1⟩,⟨15,37,fun fv fw=>QO fw fw.heap.size fv t.1⟩,⟨16,38,fun fv fw=>fv=.int .i64 t.2⟩] [] [] 2 (by kernel_rfl) (by kernel_rfl) (by kernel_rfl) (fun _ _ _ _ _ h=>h) ?_ ?_ ?_ ?_
 ·refine(all_cons (fun v w1 w2 h hb=>h) (all_cons (fun v w1 w2 h hb=>h) (all_cons (fun v w1 w2 h hb=>h) (all_cons (fun v w1 w2 h hb=>h) (all_cons (fun v w1 w2 h hb=>h) (all_cons (fun v w1 w2 h hb=>h) (all_cons (fun v w1 w2 h hb=>h) (all_cons (fun v w1 w2 h hb=>h) (all_cons (fun v w1 w2 h hb=>h) (all_cons (fun v w1 w2 h hb=>h) (all_cons (fun v w1 w2 h hb=>h) (all_cons (fun v w1 w2 h hb=>h) (all_cons (fun v w1 w2 h hb=>h) (all_cons (fun v w1 w2 h hb=>h) (all_cons (fun v w1 w2 h hb=>let ⟨u,e,h⟩:=h;⟨u,e,QO.step (o:=t.1) h hb⟩) (all_cons (fun v w1 w2 h hb=>QO.step (o:=t.1) h hb) (all_cons (fun v w1 w2 h hb=>h) all_nil)))))))))))))))))
 ·refine(all_cons ?_ (all_cons ?_ (all_cons ?_ (all_cons ?_ (all_cons ?_ (all_cons ?_ (all_cons ?_ (all_cons ?_ (all_cons ?_ (all_cons ?_ (all_cons ?_ (all_cons ?_ (all_cons ?_ (all_cons ?_ (all_cons ?_ (all_cons ?_ (all_cons ?_ all_nil)))))))))))))))))
  ·intro xs wk6 c0 d0;clear c0;clear d0;refine wpOp_step (o:=_) rfl (fun K hK=>?_);simp only[FL]
   go_simp;refine hK _ _ ⟨.slice (some ⟨r,off,none⟩) 4 c,by kernel_rfl,Below.refl _ _,rfl,nF⟩
  ·intro xs H1 c0 d0;clear c0;have f0:(xs 0)=.slice (some ⟨r,off,none⟩) 4 c:=d0 _ (m_ 0 rfl) (by kernel_rfl);clear d0;refine wpOp_step (o:=_) rfl (fun K hK=>?_);simp only[FL]
   go_simp;refine hK _ _ ⟨.pointer (some ⟨r,off+2,none⟩),by simp only[FL,f0] <;> kernel_rfl,Below.refl _ _,rfl,nF⟩
  ·intro xs J1 c0 d0;have J0:=zz c0;have K1:=c0.size;clear c0;have f1:(xs 1)=.pointer (some ⟨r,off+2,none⟩):=d0 _ (m_ 1 rfl) (by kernel_rfl);clear d0;refine wpOp_step (o:=_) rfl (fun K hK=>?_);simp only[FL]
   have hcell:=(J0.out.cell (p:=⟨r,off+2,none⟩) HR.out).trans W1.out;go_simp;refine hK _ _ ⟨.int .i64 a2,by simp only[FL,f1] <;> kernel_rfl,Below.refl _ _,rfl,nF⟩
  ·intro xs L1 c0 d0;clear c0;clear d0;refine wpOp_step (o:=_) rfl (fun K hK=>?_);simp only[FL]
   go_simp;refine hK _ _ ⟨.slice (some ⟨r,off,none⟩) 4 c,by kernel_rfl,Below.refl _ _,rfl,nF⟩
  ·intro xs d1 c0 d0;clear c0;have f3:(xs 3)=.slice (some ⟨r,off,none⟩) 4 c:=d0 _ (m_ 3 rfl) (by kernel_rfl);clear d0;refine wpOp_step (o:=_) rfl (fun K hK=>?_);simp only[FL]
   go_simp;refine hK _ _ ⟨.pointer (some ⟨r,off+3,none⟩),by simp only[FL,f3] <;> kernel_rfl,Below.refl _ _,rfl,nF⟩
  ·intro xs g1 c0 d0;have m0:=zz c0;have h1:=c0.size;clear c0;have f4:(xs 4)=.pointer (some ⟨r,off+3,none⟩):=d0 _ (m_ 4 rfl) (by kernel_rfl);clear d0;refine wpOp_step (o:=_) rfl (fun K hK=>?_);simp only[FL]
   have hcell:=(m0.out.cell (p:=⟨r,off+3,none⟩) HR.out).trans X1.out;go_simp;refine hK _ _ ⟨.int .i64 a3,by simp only[FL,f4] <;> kernel_rfl,Below.refl _ _,rfl,nF⟩
  ·intro xs i1 c0 d0;clear c0;have f2:(xs 2)=.int .i64 a2:=d0 _ (m_ 2 rfl) (by kernel_rfl);have f5:(xs 5)=.int .i64 a3:=d0 _ (m_ 5 rfl) (by kernel_rfl);clear d0;refine wpOp_step (o:=_) rfl (fun K hK=>?_);simp only[FL]
   go_simp;refine hK _ _ ⟨.int .i64 x,by simp only[FL,f2,f5] <;> kernel_rfl,Below.refl _ _,rfl,nF⟩
  ·intro xs k1 c0 d0;clear c0;clear d0;refine wpOp_step (o:=_) rfl (fun K hK=>?_);simp only[FL]
   go_simp;refine hK _ _ ⟨.slice (some ⟨r,off,none⟩) 4 c,by kernel_rfl,Below.refl _ _,rfl,nF⟩
  ·intro xs m1 c0 d0;clear c0;have f7:(xs 7)=.slice (some ⟨r,off,none⟩) 4 c:=d0 _ (m_ 7 rfl) (by kernel_rfl);clear d0;refine wpOp_step (o:=_) rfl (fun K hK=>?_);simp only[FL]
   go_simp;refine hK _ _ ⟨.pointer (some ⟨r,off,none⟩),by simp only[FL,f7] <;> kernel_rfl,Below.refl _ _,rfl,nF⟩
  ·intro xs o1 c0 d0;have n0:=zz c0;have p1:=c0.size;clear c0;have f8:(xs 8)=.pointer (some ⟨r,off,none⟩):=d0 _ (m_ 8 rfl) (by kernel_rfl);clear d0;refine wpOp_step (o:=_) rfl (fun K hK=>?_);simp only[FL]
   have hcell:=(n0.out.cell (p:=⟨r,off,none⟩) HR.out).trans U1.out;go_simp;refine hK _ _ ⟨.int .i64 a0,by simp only[FL,f8] <;> kernel_rfl,Below.refl _ _,rfl,nF⟩
  ·intro xs q1 c0 d0;clear c0;clear d0;refine wpOp_step (o:=_) rfl (fun K hK=>?_);simp only[FL]
   go_simp;refine hK _ _ ⟨.slice (some ⟨r,off,none⟩) 4 c,by kernel_rfl,Below.refl _ _,rfl,nF⟩
  ·intro xs s1 c0 d0;clear c0;have f10:(xs 10)=.slice (some ⟨r,off,none⟩) 4 c:=d0 _ (m_ 10 rfl) (by kernel_rfl);clear d0;refine wpOp_step (o:=_) rfl (fun K hK=>?_);simp only[FL]
   go_simp;refine hK _ _ ⟨.pointer (some ⟨r,off+1,none⟩),by simp only[FL,f10] <;> kernel_rfl,Below.refl _ _,rfl,nF⟩
  ·intro xs u1 c0 d0;have o0:=zz c0;have v1:=c0.size;clear c0;have f11:(xs 11)=.pointer (some ⟨r,off+1,none⟩):=d0 _ (m_ 11 rfl) (by kernel_rfl);clear d0;refine wpOp_step (o:=_) rfl (fun K hK=>?_);simp only[FL]
   have hcell:=(o0.out.cell (p:=⟨r,off+1,none⟩) HR.out).trans V1.out;go_simp;refine hK _ _ ⟨.int .i64 a1,by simp only[FL,f11] <;> kernel_rfl,Below.refl _ _,rfl,nF⟩
  ·intro xs y1 c0 d0;clear c0;have f9:(xs 9)=.int .i64 a0:=d0 _ (m_ 9 rfl) (by kernel_rfl);have f12:(xs 12)=.int .i64 a1:=d0 _ (m_ 12 rfl) (by kernel_rfl);clear d0;refine wpOp_step (o:=_) rfl (fun K hK=>?_);simp only[FL]
   go_simp;refine hK _ _ ⟨.int .i64 y,by simp only[FL,f9,f12] <;> kernel_rfl,Below.refl _ _,rfl,nF⟩
  ·intro xs C1 c0 d0;clear c0;have f6:(xs 6)=.int .i64 x:=d0 _ (m_ 6 rfl) (by kernel_rfl);have f13:(xs 13)=.int .i64 y:=d0 _ (m_ 13 rfl) (by kernel_rfl);clear d0;refine wpOp_step (o:=_) rfl (fun K hK=>?_);simp only[FL]
   go_simp;(with_reducible refine((show Calls Tryz.prog _ _ _ _ from m2.out▸ratio_any _ x y e2.out g2.out)).mono ?_)
   rintro e wc21 ⟨K0,v21,rfl,L0⟩;refine hK _ _ ⟨.tuple #[v21,.int .i64 t.2],by simp only[FL,f6,f13] <;> kernel_rfl,K0,⟨v21,rfl,L0⟩,nF⟩
  ·intro xs k0 c0 d0;clear c0;have f14:∃ u,(xs 14)=.tuple #[u,.int .i64 t.2]∧QO k0 k0.heap.size u t.1:=d0 _ (m_ 14 rfl) (by kernel_rfl);clear d0;refine wpOp_step (o:=_) rfl (fun K hK=>?_);simp only[FL]
   obtain⟨u,hu,hl⟩:=f14;rw[hu];go_simp;refine hK _ _ ⟨u,by simp only[FL,hu] <;> kernel_rfl,Below.refl _ _,hl,nF⟩
  ·intro xs l0 c0 d0;clear c0;have f14:∃ u,(xs 14)=.tuple #[u,.int .i64 t.2]∧QO l0 l0.heap.size u t.1:=d0 _ (m_ 14 rfl) (by kernel_rfl);clear d0;refine wpOp_step (o:=_) rfl (fun K hK=>?_);simp only[FL]
   obtain⟨u,hu,-⟩:=f14;rw[hu];go_simp;refine hK _ _ ⟨.int .i64 t.2,by simp only[FL,hu] <;> kernel_rfl,Below.refl _ _,rfl,nF⟩
 ·exact all_nil
 ·intro xs N1 hbf hf hn hd;have f0:(xs 0)=.slice (some ⟨r,off,none⟩) 4 c:=hf _ (m_ 0 rfl);have f1:(xs 1)=.pointer (some ⟨r,off+2,none⟩):=hf _ (m_ 1 rfl);have f2:(xs 2)=.int .i64 a2:=hf _ (m_ 2 rfl);have f3:(xs 3)=.slice (some ⟨r,off,none⟩) 4 c:=hf _ (m_ 3 rfl);have f4:(xs 4)=.pointer (some ⟨r,off+3,none⟩):=hf _ (m_ 4 rfl);have f5:(xs 5)=.int .i64 a3:=hf _ (m_ 5 rfl);have f6:(xs 6)=.int .i64 x:=hf _ (m_ 6 rfl);have f7:(xs 7)=.slice (some ⟨r,off,none⟩) 4 c:=hf _ (m_ 7 rfl);have f8:(xs 8)=.pointer (some ⟨r,off,none⟩):=hf _ (m_ 8 rfl);have f9:(xs 9)=.int .i64 a0:=hf _ (m_ 9 rfl);have f10:(xs 10)=.slice (some ⟨r,off,none⟩) 4 c:=hf _ (m_ 10 rfl);have f11:(xs 11)=.pointer (some ⟨r,off+1,none⟩):=hf _ (m_ 11 rfl);have f12:(xs 12)=.int .i64 a1:=hf _ (m_ 12 rfl);have f13:(xs 13)=.int .i64 y:=hf _ (m_ 13 rfl);have f14:∃ u,(xs 14)=.tuple #[u,.int .i64 t.2]∧QO N1 N1.heap.size u t.1:=hf _ (m_ 14 rfl);have f15:QO N1 N1.heap.size (xs 15) t.1:=hf _ (m_ 15 rfl);have f16:(xs 16)=.int .i64 t.2:=hf _ (m_ 16 rfl);clear hf hn hd;simp only[FL]
  have B25:=zz hbf;have z25:=B25.out.size;have M0:=zz (j0.out.trans (B25.out.mono j0.out.size));clear hbf;generalize xs 0=x0 at *
  generalize xs 1=x1 at *
  generalize xs 2=x2 at *
  generalize xs 3=x3 at *
  generalize xs 4=x4 at *
  generalize xs 5=x5 at *
  generalize xs 6=x6 at *
  generalize xs 7=x7 at *
  generalize xs 8=x8 at *
  generalize xs 9=x9 at *
  generalize xs 10=x10 at *
  generalize xs 11=x11 at *
  generalize xs 12=x12 at *
  generalize xs 13=x13 at *
  generalize xs 14=x14 at *
  generalize xs 15=x15 at *
  generalize xs 16=x16 at *
  obtain rfl:=f0;obtain rfl:=f1;obtain rfl:=f2;obtain rfl:=f3;obtain rfl:=f4;obtain rfl:=f5;obtain rfl:=f6;obtain rfl:=f7;obtain rfl:=f8;obtain rfl:=f9;obtain rfl:=f10;obtain rfl:=f11;obtain rfl:=f12;obtain rfl:=f13;clear f14;have hg27:=f15;obtain⟨o2,p2,q2,r2,s2,t2,X0,u2,rfl⟩:=QO.cells hg27;have i0:=zz hg27;clear hg27;obtain rfl:=f16;have P1_3_29:=zz (B1.out.trans (B25.out.mono B1.out.size));have e0:=CB.step Lr6 P1_3_29.out;have p0:=e0.cell 0 rfl;have q0:=e0.cell 1 rfl;have r0:=e0.cell 2 rfl;have s0:=e0.cell 3 rfl;have O1:=e0.lt;have t0:=e0.frozen 0;have u0:=e0.frozen 1;have v0:=e0.frozen 2;have y0:=e0.frozen 3;have P1:=e0.lt;refine Early.next (i:=17) (by kernel_rfl) rfl (fun K hK=>?_);go_simp;refine hK _ _ (fun _=>trivial) ?_;clear hK K;(try simp only[Act.put,List.setIfInBounds_toArray,List.set_cons_zero,List.set_cons_succ])
  clear p0 q0 r0 s0 O1 t0 u0 v0 y0 P1;refine Early.next (i:=18) (by kernel_rfl) rfl (fun K hK=>?_);go_simp;refine hK _ _ (fun _=>trivial) ?_;clear hK K;(try simp only[Act.put,List.setIfInBounds_toArray,List.set_cons_zero,List.set_cons_succ])
  refine Early.done (by kernel_rfl) ?_ _;(try simp only[Exit.then])
  go_wp2;exact QB.fin rfl e0 (by simp[noInt_b,noInt_s]) M0.out (by omega) i0.out rfl rfl
end Go.Proofs.YtkhljkiehohckaaGreatDoor
