/- Texts put together: Layer 09: caught, outside, Square (written by gen_gf.py). Layer 09: outside, negative, Square (written by gen_gg.py). -/
import Derived.Test.YtkhljkiehohckaaGreatDoorGS
import Derived.Test.YtkhljkiehohckaaGreatDoorGD
import Derived.Test.YtkhljkiehohckaaGreatDoorDec
import Derived.Defers
import Derived.Recover
import Derived.WalkSpells
namespace Go.Proofs.YtkhljkiehohckaaGreatDoor
open Go Go.RowKit Dig
def fml (n:Nat):FuncId:=if n=1 then 196 else if n=2 then 190 else 197
structure GF (w:World):Prop where
 g:Glob w
 f:∀ n,1≤n→n≤3→w.cell? ⟨0,n,none⟩=some (.func (.func (fml n)) #[] #[])
theorem GF.step {w w':World} (h:GF w) (hb:Below w.heap.size w w'):GF w':=⟨h.g.step hb,fun n h1 h2=>(hb.cell (p:=⟨0,n,none⟩) (block_lt_of_cell (h.f n h1 h2))).trans (h.f n h1 h2)⟩
theorem fml_any (w:World) (v:Value) (g:GL) (L:Int) (hD:DV w w.heap.size v g L) (h:okL g L) (n:Nat) (hn:g.f=n) :
  Calls Tryz.prog (fml n) #[v] w fun e w'=>Below w.heap.size w w'∧R1 w' (sqG g L) e:=by
 have h1:1≤g.f∧g.f≤3:=⟨h.1.1.2.2.2.2.2.1,h.1.1.2.2.2.2.2.2⟩;obtain rfl | rfl | rfl:n=1∨n=2∨n=3:=by omega
 ·rw[show sqG g L=smK g L 3 from if_pos hn];exact sellmeier_any w v g L hD h hn
 ·rw[show sqG g L=lnG g L*lnG g L by unfold sqG;rw[hn];rfl];exact cauchy_any w v g L hD h
 ·rw[show sqG g L=shG g L by unfold sqG;rw[hn];rfl];exact schott_any w v g L hD h
theorem fml_run (n:Nat) (args:Array Value) (w:World):(callFunc (fml n) args).run Tryz.prog w=.ok (.enter (fml n) args) w:=by
 unfold fml;split
 ·kernel_rfl
 ·split <;> kernel_rfl
def npQ (Q:Exit→Act→World→Prop):Exit→Act→World→Prop
 | .panic _,_,_=>False
 | x,a,w=>Q x a w
theorem npQ_le (Q:Exit→Act→World→Prop):∀ e a w,npQ Q e a w→Q e a w:=fun e a w h=>by cases e <;> first | exact h | exact h.elim
theorem npQ_n (Q:Exit→Act→World→Prop) (a:Act) (w:World):npQ Q .normal a w=Q .normal a w:=rfl
set_option maxRecDepth 100000 in
theorem caught_idle (p:Addr) (w:World) :
  CallsD Tryz.prog 37 #[.pointer (some p)] .returning w fun e u' w'=>e=.returned (.tuple #[])∧u'=.returning∧w'=w:=by
 refine callsD_of_wpS Tryz.func37 rfl fun c₀ cs hu=>?_
 apply wpS_seq
 apply wpS_region
 simp[wpOpsS,go_sem,recoverD,hu,Tryz.ntmps37,Exit.thenS]
 refine wpS_of_wp ?_;go_wp2;cases c₀
 simp_all [bodyPostS,results,Tryz.results37]
theorem caught_end {fn:Func} {tmps:Array Value} {R:Ending→World→Prop} {p:Addr} {w:World} {v:Value} (hr:(results fn tmps).run Tryz.prog w=.ok v w) (h:R (.returned v) w) :
  bodyPostD Tryz.prog fn R .ret ⟨tmps,[{ target:=.fn (.func 37) #[],args:=#[.pointer (some p)] }]⟩ w:=by
 refine leaves_cons (f:=37) (args:=#[.pointer (some p)]) (by simp) (by simp[go_sem]) ?_;refine(caught_idle _ _).mono ?_;rintro e u' w'' ⟨rfl,rfl,rfl⟩;exact⟨v,hr,h⟩
theorem CB.sameAt {w:World} {b:Nat} {t:TypeId} {cs:Array Value} (h:CB w b t cs) (j:Nat) {v:Value} (hj:cs[j]?=some v):w.setCell ⟨b,j,none⟩ v=w:=by
 have hh:(w.setCell ⟨b,j,none⟩ v).heap=w.heap:=by
  apply Array.ext_getElem?
  intro i;by_cases hi:i=b
  ·subst hi;rw[show(w.setCell ⟨i,j,none⟩ v).heap[i]?=_ from CB.set h j v,show w.heap[i]?=_ from h]
   congr 2
   apply Array.ext_getElem?
   intro k;rw[Array.getElem?_setIfInBounds]
   split
   ·rename_i e;subst e;split
    ·exact hj.symm
    ·rename_i h2;rw[Array.getElem?_eq_none (by omega)] at hj;cases hj
   ·rfl
  ·exact heap_setCell_other _ _ _ _ hi
 cases w
 simp only[World.setCell] at hh ⊢
 rw[hh]
theorem CB.same {w:World} {b:Nat} {t:TypeId} {v:Value} (h:CB w b t #[v]):w.setCell ⟨b,0,none⟩ v=w:=h.sameAt 0 rfl
theorem QE.res {fn:Func} {p k:Tmp} {w:World} {b c:Nat} {x0 x1 x2 x3:Value} {x:Int} {tmps:Array Value} (hf:fn.results=#[.cell p 43,.cell k 36]) (h:CB w b 43 #[x0,x1,x2,x3]) (h':CB w c 36 #[.int .i64 x])
  (hp:tmps.getD p undef=.pointer (some ⟨b,0,none⟩)) (hk:tmps.getD k undef=.pointer (some ⟨c,0,none⟩)):(results fn tmps).run Tryz.prog w=.ok (.tuple #[.agg #[x0,x1,x2,x3],.int .i64 x]) w:=by
 have h1:w.cell? ⟨c,0,none⟩=some (.int .i64 x):=h'.cell 0 rfl;have hp':tmps[p]?.getD undef=.pointer (some ⟨b,0,none⟩):=by simpa using hp
 have hk':tmps[k]?.getD undef=.pointer (some ⟨c,0,none⟩):=by simpa using hk
 simp[results,hf,hp',hk',asAddr,run_loadVar_row w b _ 43 #[x0,x1,x2,x3] (0,0) _ h Tryz.underlying43 rfl (by kernel_rfl)]
 simp[go_sem,h1]
theorem IE.res {fn:Func} {p k:Tmp} {w:World} {c:Nat} {v:Value} {x:Int} {tmps:Array Value} (hf:fn.results=#[.tmp p,.cell k 36]) (h':CB w c 36 #[.int .i64 x])
  (hp:tmps.getD p undef=v) (hk:tmps.getD k undef=.pointer (some ⟨c,0,none⟩)):(results fn tmps).run Tryz.prog w=.ok (.tuple #[v,.int .i64 x]) w:=by
 have h1:w.cell? ⟨c,0,none⟩=some (.int .i64 x):=h'.cell 0 rfl;have hp':tmps[p]?.getD undef=v:=by simpa using hp
 have hk':tmps[k]?.getD undef=.pointer (some ⟨c,0,none⟩):=by simpa using hk
 simp[results,hf,hp',hk',asAddr]
 simp[go_sem,h1]
theorem QSign_good {w:World} {v:Value} {q:Rat} (h:QV w w.heap.size v q) (l:QL 600 600 q) :
  Calls Tryz.prog 76 #[v] w fun e w'=>Below w.heap.size w w'∧e=.returned (.tuple #[.int .i64 q.num.sign,.int .i64 0]):=by
 have h1:=QSign_any w v _ _ _ _ h.qr;rw[qOf_rat q l.1 l.2,sgnQ] at h1;exact h1
end Go.Proofs.YtkhljkiehohckaaGreatDoor
namespace Go.Proofs.YtkhljkiehohckaaGreatDoor
open Go Go.RowKit Dig
set_option maxRecDepth 100000 in
set_option maxHeartbeats 4000000 in
theorem outside_G (w:World) (g:GL) (L:Int) (hs:g.nm.size≤1000) :
  Calls Tryz.prog 38 #[.agg (GC g),.int .i64 L] w fun e w'=>Below w.heap.size w w'∧e=.returned (.int .i64 (erG g L)):=by
 obtain⟨r,hr⟩:∃ r,r=erG g L:=⟨_,rfl⟩;rw[← hr];have HR:=zz hr;clear hr;obtain⟨w0,hw0⟩:∃ w0:World,w0=(w.alloc (.cells (GC g) 32)):=⟨_,rfl⟩;have B0:=zz (n1_b hw0);have z0:=n1_z hw0;have Lg:=n1_0 hw0;by_cases ho:okG g
 ·have HO:=zz ho;clear ho;rcases(show L<g.lo∨(g.lo≤L∧g.hi<L)∨(g.lo≤L∧L≤g.hi) by omega) with h | h | h
  all_goals
   first | have HF:=zz (show r=2 by rw[HR.out,erG,if_pos HO.out,if_pos (by omega)]) | have HF:=zz (show r=0 by rw[HR.out,erG,if_pos HO.out,if_neg (by omega)])
   first
    | have k0:decide (L<g.lo)=true:=by rw[decide_eq_true_eq];omega
    | have k0:decide (L<g.lo)=false:=by rw[decide_eq_false_iff_not];omega
   first
    | have k1:decide (g.hi<L)=true:=by rw[decide_eq_true_eq];omega
    | have k1:decide (g.hi<L)=false:=by rw[decide_eq_false_iff_not];omega
    | skip
   clear h;go_enter Tryz.func38,Tryz.ntmps38
   go_upto_region 1 with (fail)
   rw[← hw0];clear hw0;go_wp2_with (refine wpList_load_row rfl _ _ rfl _ rfl _ _ (0,0) _ Lg rfl rfl rfl ?_)
   refine(Check_G _ g hs).mono ?_;rintro e w1 ⟨b0,rfl⟩;have B2:=zz b0;have z2:=B2.out.size;have e0:=zz (B0.out.trans (B2.out.mono B0.out.size));clear b0;rw[if_pos HO.out];have a0:=CB.step Lg B2.out;have g0:w1.cell? ⟨w.heap.size,0,none⟩=some (.string g.nm):=a0.cell 0 rfl;have h0:w1.cell? ⟨w.heap.size,1,none⟩=some (.int .i64 g.f):=a0.cell 1 rfl;have i0:w1.cell? ⟨w.heap.size,2,none⟩=some (.int .i64 g.c0):=a0.cell 2 rfl;have j0:w1.cell? ⟨w.heap.size,3,none⟩=some (.int .i64 g.c1):=a0.cell 3 rfl;have l0:w1.cell? ⟨w.heap.size,4,none⟩=some (.int .i64 g.c2):=a0.cell 4 rfl;have m0:w1.cell? ⟨w.heap.size,5,none⟩=some (.int .i64 g.c3):=a0.cell 5 rfl;have n0:w1.cell? ⟨w.heap.size,6,none⟩=some (.int .i64 g.c4):=a0.cell 6 rfl;have o0:w1.cell? ⟨w.heap.size,7,none⟩=some (.int .i64 g.c5):=a0.cell 7 rfl;have p0:w1.cell? ⟨w.heap.size,8,none⟩=some (.int .i64 g.lo):=a0.cell 8 rfl;have q0:w1.cell? ⟨w.heap.size,9,none⟩=some (.int .i64 g.hi):=a0.cell 9 rfl;go_wp2;go_ret;exact⟨e0.out,by rw[HF.out];rfl⟩
 ·have HO:=zz ho;have HF:=zz (show r=90 by rw[HR.out,erG,if_neg ho]);clear ho;go_enter Tryz.func38,Tryz.ntmps38
  go_upto_region 1 with (fail)
  rw[← hw0];clear hw0;go_wp2_with (refine wpList_load_row rfl _ _ rfl _ rfl _ _ (0,0) _ Lg rfl rfl rfl ?_)
  refine(Check_G _ g hs).mono ?_;rintro e w6 ⟨d0,rfl⟩;have B7:=zz d0;have z7:=B7.out.size;have f0:=zz (B0.out.trans (B7.out.mono B0.out.size));clear d0;rw[if_neg HO.out];go_wp2;go_ret;exact⟨f0.out,by rw[HF.out];rfl⟩
set_option maxRecDepth 100000 in
set_option maxHeartbeats 4000000 in
theorem negative_any (w:World) (v:Value) (q:Rat) (h:QV w w.heap.size v q) (l:QL 600 600 q) :
  Calls Tryz.prog 43 #[v] w fun e w'=>Below w.heap.size w w'∧e=.returned (.bool (decide (q.num<0))):=by
 obtain⟨n,A,l',c,m,A',l'',c',rfl⟩:=QO.cells (show QO w w.heap.size v (some q) from h);have HA:=zz h;have HL:=zz l;clear h l;obtain⟨w0,hw0⟩:∃ w0:World,w0=(w.alloc (.cells #[.bool n,.slice A l' c,.bool m,.slice A' l'' c'] 43)):=⟨_,rfl⟩;have B0:=zz (n1_b hw0);have z0:=n1_z hw0;have Lq:=n1_0 hw0;replace HA:=zz (QV.step HA.out B0.out);have hsg:decide (q.num.sign<0)=decide (q.num<0):=decide_eq_decide.2 Int.sign_neg_iff;obtain⟨s,hs⟩:∃ s,q.num.sign=s:=⟨_,rfl⟩;rw[hs] at hsg;have HS:=zz hs;have HG:=zz hsg;clear hs hsg;go_enter Tryz.func43,Tryz.ntmps43
 go_upto_region 1 with (fail)
 rw[← hw0];clear hw0;have b0:=Lq.cell 0 rfl;have c0:=Lq.cell 1 rfl;have d0:=Lq.cell 2 rfl;have e0:=Lq.cell 3 rfl;have g0:=Lq.lt;go_wp2_with fail
 refine(QSign_good HA.out HL.out).mono ?_;rintro e w1 ⟨a0,rfl⟩;have B3:=zz a0;have z3:=B3.out.size;have f0:=zz (B0.out.trans (B3.out.mono B0.out.size));clear a0;clear b0 c0 d0 e0 g0;rw[HS.out];go_wp2;go_ret;exact⟨f0.out,by rw[← HG.out];rfl⟩
theorem sq_fin {fn:Func} {p k:Tmp} {p0:Addr} {W w:World} {B b c:Nat} {n m:Bool} {A A':Option Addr} {l u l' u':Nat} {tmps:Array Value} {q:Rat} (hf:fn.results=#[.cell p 43,.cell k 36]) (hC:CB w b 43 #[.bool false,.slice none 0 0,.bool false,.slice none 0 0]) (hE:CB w c 36 #[.int .i64 0]) (hne:c≠b) (hb:Below B W w) (hB:B≤b)
  (hv:QV w w.heap.size (.agg #[.bool n,.slice A l u,.bool m,.slice A' l' u']) q) (hp:tmps.getD p undef=.pointer (some ⟨b,0,none⟩)) (hk:tmps.getD k undef=.pointer (some ⟨c,0,none⟩)) :
  bodyPostD Tryz.prog fn (fun e w'=>Below B W w'∧RetQ w' (some q,0) e) .ret ⟨tmps,[{ target:=.fn (.func 37) #[],args:=#[.pointer (some p0)] }]⟩ (((((w.setCell ⟨b,0,none⟩ (.bool n)).setCell ⟨b,1,none⟩ (.slice A l u)).setCell ⟨b,2,none⟩ (.bool m)).setCell ⟨b,3,none⟩ (.slice A' l' u')).setCell ⟨c,0,none⟩ (.int .i64 0)):=by
 obtain⟨W1,a0⟩:∃ W1,W1=((((w.setCell ⟨b,0,none⟩ (.bool n)).setCell ⟨b,1,none⟩ (.slice A l u)).setCell ⟨b,2,none⟩ (.bool m)).setCell ⟨b,3,none⟩ (.slice A' l' u')):=⟨_,rfl⟩;have hs:=p4_s a0 hC (by simp[noInt_b,noInt_s]);have h4:=p4_p a0 hC;have hc:=p4_f a0 hE hne;rw[← a0,CB.same hc];exact caught_end (QE.res hf h4 hc hp hk) ⟨by rw[a0];exact((((hb.setCell hB _).setCell hB _).setCell hB _).setCell hB _),_,rfl,hv.soft hs⟩
set_option maxRecDepth 100000 in
set_option maxHeartbeats 4000000 in
theorem Square_G (w:World) (G:GF w) (g:GL) (L:Int) (hs:g.nm.size≤1000) :
  Calls Tryz.prog 17 #[.agg (GC g),.int .i64 L] w fun e w'=>Below w.heap.size w w'∧RetQ w' (sqR g L) e:=by
 replace G:=zz G;obtain⟨t,ht⟩:∃ t,t=sqR g L:=⟨_,rfl⟩;rw[← ht];have HT:=zz ht;clear ht;obtain⟨w0,hw0⟩:∃ w0:World,w0=(((w.alloc (.cells (GC g) 32)).alloc (.cells #[.bool false,.slice none 0 0,.bool false,.slice none 0 0] 43)).alloc (.cells #[.int .i64 0] 36)):=⟨_,rfl⟩;have B0:=zz (n3_b hw0);have z0:=n3_z hw0;have Lg:=n3_0 hw0;have Lq:=n3_1 hw0;have Le:=n3_2 hw0;by_cases h0:erG g L=0
 ·have HE:=zz h0;replace HT:=zz (show t=(some (sqG g L),0) by rw[HT.out,sqR,if_pos h0]);have HL:=zz (erG_ok h0);clear h0;rw[HT.out];obtain⟨n,hn⟩:∃ n:Nat,g.f=n:=⟨g.f.toNat,by have:=HL.out.1.1.2.2.2.2.2.1;omega⟩;have HN:=zz (show 1≤n∧n≤3 by have:=HL.out.1.1.2.2.2.2.2;omega);have W1:=zz hn;clear hn;go_enter_defers Tryz.func17,Tryz.ntmps17
  go_upto_region 2 with (fail)
  rw[← hw0];clear hw0;go_wp2_with (refine wpList_load_row rfl _ _ rfl _ rfl _ _ (0,0) _ Lg rfl rfl rfl ?_)
  refine(outside_G _ g L hs).mono ?_;rintro e w1 ⟨P0,rfl⟩;have B2:=zz P0;have z2:=B2.out.size;have m0:=zz (B0.out.trans (B2.out.mono B0.out.size));clear P0;rw[HE.out];have g0:=CB.step Le B2.out;have Q0:=g0.cell 0 rfl;have T1:=g0.lt;have R0:=g0.frozen 0;have U1:=g0.lt;go_upto_region 3 with (fail)
  clear Q0 T1 R0 U1;rw[CB.same g0];have S0:=g0.cell 0 rfl;have V1:=g0.lt;go_upto_region 5 with (fail)
  clear S0 V1;have hnf:=W1.out;have hn1:(0:Int)≤(n:Int)∧(n:Int)<4:=by have:=HN.out;omega
  refine Code.wp_mono (npQ_le _) ?_;refine Flow.run [⟨0,13,fun fv fw=>fv=.pointer (some ⟨w.heap.size,1,none⟩)⟩,⟨1,14,fun fv fw=>fv=.int .i64 (n:Int)⟩,⟨2,15,fun fv fw=>fv=.pointer (some ⟨0,n,none⟩)⟩,⟨3,16,fun fv fw=>fv=.func (.func (fml n)) #[] #[]⟩,⟨4,17,fun fv fw=>fv=.agg (GC g)⟩,⟨5,18,fun fv fw=>fv=.int .i64 L⟩,⟨6,19,fun fv fw=>DV fw fw.heap.size fv g L⟩,⟨7,20,fun fv fw=>QV fw fw.heap.size fv (sqG g L)⟩] [] [] 2 (by kernel_rfl) (by kernel_rfl) (by kernel_rfl) (fun _ _ _ _ _ h=>h) ?_ ?_ ?_ ?_
  ·refine(a0 (a0 (a0 (a0 (a0 (a0 (all_cons (fun v w1 w2 h hb=>h.step hb) (all_cons (fun v w1 w2 h hb=>h.step hb) all_nil))))))))
  ·refine(all_cons ?_ (all_cons ?_ (all_cons ?_ (all_cons ?_ (all_cons ?_ (all_cons ?_ (all_cons ?_ (all_cons ?_ all_nil))))))))
   ·intro xs H1 b0 c0;clear b0;clear c0;refine wpOp_step (o:=_) rfl (fun K hK=>?_);simp only[FL]
    go_simp;refine hK _ _ ⟨.pointer (some ⟨w.heap.size,1,none⟩),by kernel_rfl,Below.refl _ _,rfl,nF⟩
   ·intro xs a1 b0 c0;have T0:=zz b0;have J1:=b0.size;clear b0;have f0:(xs 0)=.pointer (some ⟨w.heap.size,1,none⟩):=c0 _ (m_ 0 rfl) (by kernel_rfl);clear c0;refine wpOp_step (o:=_) rfl (fun K hK=>?_);simp only[FL]
    have P1_3_11:=zz (B2.out.trans (T0.out.mono B2.out.size));have q0:=CB.step Lg P1_3_11.out;have b1:a1.cell? ⟨w.heap.size,1,none⟩=some (.int .i64 g.f):=q0.cell 1 rfl;go_simp;refine hK _ _ ⟨.int .i64 (n:Int),by simp only[FL,f0] <;> kernel_rfl,Below.refl _ _,rfl,nF⟩
   ·intro xs t1 b0 c0;clear b0;have f1:(xs 1)=.int .i64 (n:Int):=c0 _ (m_ 1 rfl) (by kernel_rfl);clear c0;refine wpOp_step (o:=_) rfl (fun K hK=>?_);simp only[FL]
    go_simp;refine hK _ _ ⟨.pointer (some ⟨0,n,none⟩),by simp only[FL,f1] <;> kernel_rfl,Below.refl _ _,rfl,nF⟩
   ·intro xs v1 b0 c0;have r0:=zz b0;have y1:=b0.size;clear b0;have f2:(xs 2)=.pointer (some ⟨0,n,none⟩):=c0 _ (m_ 2 rfl) (by kernel_rfl);clear c0;refine wpOp_step (o:=_) rfl (fun K hK=>?_);simp only[FL]
    have hcf:=(G.out.step (m0.out.trans (r0.out.mono m0.out.size))).f n HN.out.1 HN.out.2;go_simp;refine hK _ _ ⟨.func (.func (fml n)) #[] #[],by simp only[FL,f2] <;> kernel_rfl,Below.refl _ _,rfl,nF⟩
   ·intro xs z1 b0 c0;have s0:=zz b0;have A1:=b0.size;clear b0;clear c0;refine wpOp_step (o:=_) rfl (fun K hK=>?_);simp only[FL]
    rw[if_pos (show Region.wanted _ _=true from rfl)];have P1_3_17:=zz (B2.out.trans (s0.out.mono B2.out.size));have t0:=CB.step Lg P1_3_17.out;refine wp_load_row _ _ rfl _ rfl _ _ (0,0) _ t0 rfl rfl rfl ?_;refine hK _ _ ⟨.agg (GC g),by kernel_rfl,Below.refl _ _,rfl,nF⟩
   ·intro xs B1 b0 c0;clear b0;clear c0;refine wpOp_step (o:=_) rfl (fun K hK=>?_);simp only[FL]
    go_simp;refine hK _ _ ⟨.int .i64 L,by kernel_rfl,Below.refl _ _,rfl,nF⟩
   ·intro xs D1 b0 c0;clear b0;have f4:(xs 4)=.agg (GC g):=c0 _ (m_ 4 rfl) (by kernel_rfl);have f5:(xs 5)=.int .i64 L:=c0 _ (m_ 5 rfl) (by kernel_rfl);clear c0;refine wpOp_step (o:=_) rfl (fun K hK=>?_);simp only[FL]
    go_simp;(with_reducible refine(at_any _ g L HL.out.b).mono ?_)
    rintro e wc20 ⟨U0,v20,rfl,V0⟩;refine hK _ _ ⟨v20,by simp only[FL,f4,f5] <;> kernel_rfl,U0,V0,nF⟩
   ·intro xs n0 b0 c0;clear b0;have f3:(xs 3)=.func (.func (fml n)) #[] #[]:=c0 _ (m_ 3 rfl) (by kernel_rfl);have f6:DV n0 n0.heap.size (xs 6) g L:=c0 _ (m_ 6 rfl) (by kernel_rfl);clear c0;refine wpOp_step (o:=_) rfl (fun K hK=>?_);simp only[FL]
    have hcall:=fml_run n;go_simp;(with_reducible refine(fml_any _ _ g L f6 HL.out n W1.out).mono ?_)
    rintro e wc22 ⟨W0,v22,rfl,X0⟩;refine hK _ _ ⟨v22,by simp only[FL,f3] <;> kernel_rfl,W0,X0,nF⟩
  ·exact all_nil
  ·intro xs K1 hbf hf hn hd;have f0:(xs 0)=.pointer (some ⟨w.heap.size,1,none⟩):=hf _ (m_ 0 rfl);have f1:(xs 1)=.int .i64 (n:Int):=hf _ (m_ 1 rfl);have f2:(xs 2)=.pointer (some ⟨0,n,none⟩):=hf _ (m_ 2 rfl);have f3:(xs 3)=.func (.func (fml n)) #[] #[]:=hf _ (m_ 3 rfl);have f4:(xs 4)=.agg (GC g):=hf _ (m_ 4 rfl);have f5:(xs 5)=.int .i64 L:=hf _ (m_ 5 rfl);have f6:DV K1 K1.heap.size (xs 6) g L:=hf _ (m_ 6 rfl);have f7:QV K1 K1.heap.size (xs 7) (sqG g L):=hf _ (m_ 7 rfl);clear hf hn hd;simp only[FL]
   have B24:=zz hbf;have z24:=B24.out.size;have Y0:=zz (m0.out.trans (B24.out.mono m0.out.size));clear hbf;generalize xs 0=x0,xs 1=x1,xs 2=x2,xs 3=x3,xs 4=x4,xs 5=x5,xs 6=x6,xs 7=x7 at *
   obtain rfl:=f0;obtain rfl:=f1;obtain rfl:=f2;obtain rfl:=f3;obtain rfl:=f4;obtain rfl:=f5;clear f6;obtain⟨Z1,a2,b2,c2,d2,u0,e2,rfl,ha26,o0,hc26⟩:=f7;have v0:=zz (show QV K1 K1.heap.size (.agg #[.bool Z1,.slice a2 b2 c2,.bool false,.slice d2 u0 e2]) (sqG g L) from⟨_,_,_,_,_,_,_,rfl,ha26,o0,hc26⟩);clear ha26 o0 hc26;have P1_3_28:=zz (B2.out.trans (B24.out.mono B2.out.size));have e0:=CB.step Lq P1_3_28.out;have y0:=e0.cell 0 rfl;have A0:=e0.cell 1 rfl;have C0:=e0.cell 2 rfl;have D0:=e0.cell 3 rfl;have M1:=e0.lt;have E0:=e0.frozen 0;have F0:=e0.frozen 1;have G0:=e0.frozen 2;have H0:=e0.frozen 3;have N1:=e0.lt;refine Early.next (i:=8) (by kernel_rfl) rfl (fun K hK=>?_);go_simp;refine hK _ _ (fun _=>trivial) ?_;clear hK K;(try simp only[Act.put,List.setIfInBounds_toArray,List.set_cons_zero,List.set_cons_succ])
   clear y0 A0 C0 D0 M1 E0 F0 G0 H0 N1;have k0:=CB.step g0 B24.out;have I0:=k0.cell 0 rfl;have O1:=k0.lt;have J0:=k0.frozen 0;have P1:=k0.lt;refine Early.next (i:=9) (by kernel_rfl) rfl (fun K hK=>?_);go_simp;refine hK _ _ (fun _=>trivial) ?_;clear hK K;(try simp only[Act.put,List.setIfInBounds_toArray,List.set_cons_zero,List.set_cons_succ])
   clear I0 O1 J0 P1;refine Early.done (by kernel_rfl) ?_ _;(try simp only[Exit.then])
   rw[npQ_n];simp only[Exit.then];go_wp2;exact sq_fin rfl e0 k0 (by omega) Y0.out (by omega) v0.out rfl rfl
 ·obtain⟨r,hr⟩:∃ r,erG g L=r:=⟨_,rfl⟩;rw[hr] at h0;have HE:=zz hr;have hr0:(r != 0)=true:=bne_iff_ne.2 h0;replace HT:=zz (show t=(none,r) by rw[HT.out,sqR,if_neg (by rw[hr];exact h0),hr]);clear h0 hr;rw[HT.out];go_enter_defers Tryz.func17,Tryz.ntmps17
  go_upto_region 2 with (fail)
  rw[← hw0];clear hw0;go_wp2_with (refine wpList_load_row rfl _ _ rfl _ rfl _ _ (0,0) _ Lg rfl rfl rfl ?_)
  refine(outside_G _ g L hs).mono ?_;rintro e w34 ⟨p0,rfl⟩;have B35:=zz p0;have z35:=B35.out.size;have Z0:=zz (B0.out.trans (B35.out.mono B0.out.size));clear p0;rw[HE.out];have l0:=CB.step Le B35.out;have K0:=l0.cell 0 rfl;have Q1:=l0.lt;have L0:=l0.frozen 0;have R1:=l0.lt;go_upto_region 3 with (fail)
  clear K0 Q1 L0 R1;have M0:=CB.step Lg B35.out;have N0:=CB.step Lq B35.out;obtain⟨w42,j0⟩:∃ w42:World,w42=w34.setCell ⟨w.heap.size+2,0,none⟩ (.int .i64 r):=⟨_,rfl⟩;rw[← j0];have h1:=p1_f j0 M0 (by omega);have d0:=p1_f j0 N0 (by omega);have i0:CB w42 (w.heap.size+2) 36 #[.int .i64 r]:=by rw[j0];exact CB.set l0 0 _
  have O0:=zz (p1_b j0 Z0.out (by omega));have G1:=p1_z j0;clear j0;have i1:=i0.cell 0 rfl;have g2:=i0.lt;have j1:=d0.cell 0 rfl;have k1:=d0.cell 1 rfl;have l1:=d0.cell 2 rfl;have m1:=d0.cell 3 rfl;have h2:=d0.lt;have n1:=i0.frozen 0;have i2:=i0.lt;have o1:=d0.frozen 0;have p1:=d0.frozen 1;have q1:=d0.frozen 2;have r1:=d0.frozen 3;have j2:=d0.lt;go_upto_region 4 with (fail)
  refine Code.wp_mono (npQ_le _) ?_;go_region_with (fail)
  all_goals
   rw[npQ_n];simp only[Exit.then];go_wp2;rw[CB.sameAt d0 0 (v:=.bool false) rfl,CB.sameAt d0 1 (v:=.slice none 0 0) rfl,CB.sameAt d0 2 (v:=.bool false) rfl,CB.sameAt d0 3 (v:=.slice none 0 0) rfl,CB.same i0];exact caught_end (QE.res rfl (CB.drew d0) (CB.drew i0) rfl rfl) ⟨Below.drew O0.out,_,rfl,zeroQ _ _⟩
end Go.Proofs.YtkhljkiehohckaaGreatDoor
