/- Layer 09, the program: glasses at wavelengths, three formulas (written by gen_gb.py). -/
import Derived.Test.YtkhljkiehohckaaGreatDoorGA
import Derived.Test.YtkhljkiehohckaaGreatDoorQa
namespace Go.Proofs.YtkhljkiehohckaaGreatDoor
open Go Go.RowKit Dig
theorem CB.row {w:World} {b:Nat} {t:TypeId} {cs:Array Value} (h:CB w b t cs) (cs':Array Value):CB (w.setRow b cs') b t cs':=setRow_heap w b cs cs' t (0,0) h
theorem CB.farRow {w:World} {b c:Nat} {t:TypeId} {cs:Array Value} (h:CB w c t cs) (hne:c≠b) (cs':Array Value):CB (w.setRow b cs') c t cs:=(setRow_other w b c cs' hne).trans h
theorem below_row {B b:Nat} {a w:World} (h:Below B a w) (hB:B≤b) (cs:Array Value):Below B a (w.setRow b cs):=h.trans ⟨rfl,rfl,rfl,by simp,fun k hk=>setRow_other _ _ _ _ (by omega)⟩
theorem RN.keepZ {w w':World} {B b:Nat} {v:Value} {n:Nat} (h:RN w B v (dig n)) (hz:∀ off k x,w.cell? ⟨b,off,none⟩=some (.int k x)→x=0) (hk:∀ p:Addr,p.block≠b→w'.cell? p=w.cell? p):RN w' B v (dig n):=by
 obtain⟨A,c,hv,hc,hm,h0⟩:=h;refine⟨A,c,hv,hc,hm,fun hn=>?_⟩;obtain⟨g,off,hA,hg,hx⟩:=h0 hn;have hgb:g≠b:=by
  rintro rfl;have hj:(ni (dig n)).length-1<(ni (dig n)).length:=by omega
  have h1:=hz _ _ _ (hx _ hj);rw[ni_get] at h1;rw[ni_length] at hn;refine(dig_norm n).2 ?_;rw[List.getLast?_eq_getElem?,List.getElem?_eq_getElem (by omega)]
  congr 1
  have h2:(dig n)[(ni (dig n)).length-1]'(by rw[ni_length];omega)=0:=by omega
  simpa only[ni_length] using h2
 exact⟨g,off,hA,hg,fun j hj=>(hk _ hgb).trans (hx j hj)⟩
theorem QV.keepZ {w w':World} {B b:Nat} {v:Value} {q:Rat} (h:QV w B v q) (hz:∀ off k x,w.cell? ⟨b,off,none⟩=some (.int k x)→x=0) (hk:∀ p:Addr,p.block≠b→w'.cell? p=w.cell? p):QV w' B v q:=by
 obtain⟨n,A,l,c,A',l',c',e,h1,h2,h3⟩:=h;exact⟨n,A,l,c,A',l',c',e,h1.keepZ hz hk,h2.keepZ hz hk,h3⟩
def zeroV:Value→Bool
 | .int _ n=>n==0
 | _=>true
theorem CB.zero {w:World} {b:Nat} {t:TypeId} {cs:Array Value} (h:CB w b t cs) (hz:cs.all zeroV=true) (off:Nat) (k:IntKind) (x:Int) (e:w.cell? ⟨b,off,none⟩=some (.int k x)):x=0:=by
 rw[cell_of_row w b off cs t (0,0) h] at e;have h1:=Array.all_eq_true_iff_forall_mem.1 hz _ (Array.mem_of_getElem? e)
 simpa[zeroV] using h1
theorem DB.fin {fn:Func} {p:Tmp} {W w:World} {B b:Nat} {cs:Array Value} {xn:Bool} {xA xB:Option Addr} {xl xc xu xd:Nat} {g:GL} {L:Int} {tmps:Array Value} (hf:fn.results=#[.cell p 79]) (hC:CB w b 79 cs) (hz:cs.all zeroV=true) (hb:Below B W w) (hB:B≤b)
  (hv:QV w w.heap.size (.agg #[.bool xn,.slice xA xl xc,.bool false,.slice xB xu xd]) (wv L)) (hp:tmps.getD p undef=.pointer (some ⟨b,0,none⟩)) :
  bodyPost Tryz.prog fn (fun e w'=>Below B W w'∧∃ v,e=.returned v∧DV w' w'.heap.size v g L) .ret ⟨tmps,[]⟩ (w.setRow b (DC g (.bool xn) (.slice xA xl xc) (.bool false) (.slice xB xu xd))):=by
 refine bodyPost_ret (results_cell_row hf tmps _ b _ (DC g (.bool xn) (.slice xA xl xc) (.bool false) (.slice xB xu xd)) (0,0) _ hp (hC.row _) Tryz.underlying79 rfl (by kernel_rfl)) rfl ⟨below_row hb hB _,_,rfl,xn,xA,xl,xc,xB,xu,xd,rfl,?_⟩;rw[size_setRow];exact hv.keepZ (hC.zero hz) (fun q hq=>cell_setRow_other _ _ _ _ hq)
set_option maxRecDepth 100000 in
set_option maxHeartbeats 4000000 in
theorem at_any (w:World) (g:GL) (L:Int) (hL:300000≤L∧L≤2500000) :
  Calls Tryz.prog 39 #[.agg (GC g),.int .i64 L] w fun e w'=>Below w.heap.size w w'∧∃ v,e=.returned v∧DV w' w'.heap.size v g L:=by
 obtain⟨x,hx⟩:∃ x,L*L=x:=⟨_,rfl⟩;have hb:=sq_bound hL;rw[hx] at hb;have hw:IntKind.i64.wrap (L*L)=x:=by rw[hx];exact IntWalk.i64_in _ (by omega)
 have HV:=zz (show Rat.divInt x 1000000000000=wv L by rw[← hx];rfl);have HB:=zz (show -9223372036854775808≤x∧x≤9223372036854775807 by omega);clear hx hb hL;obtain⟨w0,hw0⟩:∃ w0:World,w0=((w.alloc (.cells (GC g) 32)).alloc (.cells #[.string ⟨#[]⟩,.int .i64 0,.int .i64 0,.int .i64 0,.int .i64 0,.int .i64 0,.int .i64 0,.int .i64 0,.int .i64 0,.int .i64 0,.bool false,.slice none 0 0,.bool false,.slice none 0 0] 79)):=⟨_,rfl⟩;have B0:=zz (n2_b hw0);have z0:=n2_z hw0;have Lg:=n2_0 hw0;have Lr4:=n2_1 hw0;go_enter Tryz.func39,Tryz.ntmps39
 go_upto_region 1 with (fail)
 rw[← hw0];clear hw0;refine Flow.run [⟨0,5,fun fv fw=>fv=.agg (GC g)⟩,⟨1,6,fun fv fw=>fv=.int .i64 L⟩,⟨2,7,fun fv fw=>fv=.int .i64 L⟩,⟨3,8,fun fv fw=>fv=.int .i64 x⟩,⟨4,9,fun fv fw=>∃ u,fv=.tuple #[u,.int .i64 0]∧QV fw fw.heap.size u (wv L)⟩,⟨5,10,fun fv fw=>QV fw fw.heap.size fv (wv L)⟩,⟨6,11,fun fv fw=>fv=.int .i64 0⟩,⟨7,12,fun fv fw=>QV fw fw.heap.size fv (wv L)⟩,⟨8,13,fun fv fw=>DV fw fw.heap.size fv g L⟩] [] [] 1 (by kernel_rfl) (by kernel_rfl) (by kernel_rfl) (fun _ _ _ _ _ h=>h) ?_ ?_ ?_ ?_
 ·refine(a0 (a0 (a0 (a0 (all_cons (fun v w1 w2 h hb=>let ⟨u,e,h⟩:=h;⟨u,e,h.step hb⟩) (all_cons (fun v w1 w2 h hb=>h.step hb) (a0 (all_cons (fun v w1 w2 h hb=>h.step hb) (all_cons (fun v w1 w2 h hb=>h.step hb) all_nil)))))))))
 ·refine(all_cons ?_ (all_cons ?_ (all_cons ?_ (all_cons ?_ (all_cons ?_ (all_cons ?_ (all_cons ?_ (all_cons ?_ (all_cons ?_ all_nil)))))))))
  ·intro xs wk1 b0 c0;have j0:=zz b0;have E0:=b0.size;clear b0;clear c0;refine wpOp_step (o:=_) rfl (fun K hK=>?_);simp only[FL]
   rw[if_pos (show Region.wanted _ _=true from rfl)];have k0:=CB.step Lg j0.out;refine wp_load_row _ _ rfl _ rfl _ _ (0,0) _ k0 rfl rfl rfl ?_;refine hK _ _ ⟨.agg (GC g),by kernel_rfl,Below.refl _ _,rfl,nF⟩
  ·intro xs wk3 b0 c0;clear b0;clear c0;refine wpOp_step (o:=_) rfl (fun K hK=>?_);simp only[FL]
   go_simp;refine hK _ _ ⟨.int .i64 L,by kernel_rfl,Below.refl _ _,rfl,nF⟩
  ·intro xs wk4 b0 c0;clear b0;clear c0;refine wpOp_step (o:=_) rfl (fun K hK=>?_);simp only[FL]
   go_simp;refine hK _ _ ⟨.int .i64 L,by kernel_rfl,Below.refl _ _,rfl,nF⟩
  ·intro xs wk5 b0 c0;clear b0;have f1:(xs 1)=.int .i64 L:=c0 _ (m_ 1 rfl) (by kernel_rfl);have f2:(xs 2)=.int .i64 L:=c0 _ (m_ 2 rfl) (by kernel_rfl);clear c0;refine wpOp_step (o:=_) rfl (fun K hK=>?_);simp only[FL]
   go_simp;refine hK _ _ ⟨.int .i64 x,by simp only[FL,f1,f2] <;> kernel_rfl,Below.refl _ _,rfl,nF⟩
  ·intro xs wk6 b0 c0;clear b0;have f3:(xs 3)=.int .i64 x:=c0 _ (m_ 3 rfl) (by kernel_rfl);clear c0;refine wpOp_step (o:=_) rfl (fun K hK=>?_);simp only[FL]
   go_simp;(with_reducible refine((show Calls Tryz.prog _ _ _ _ from HV.out▸gOf (n:=x) (d:=1000000000000) HB.out (by decide) (by decide))).mono ?_)
   rintro e wc7 ⟨o0,v7,rfl,p0⟩;refine hK _ _ ⟨.tuple #[v7,.int .i64 0],by simp only[FL,f3] <;> kernel_rfl,o0,⟨v7,rfl,p0⟩,nF⟩
  ·intro xs h0 b0 c0;clear b0;have f4:∃ u,(xs 4)=.tuple #[u,.int .i64 0]∧QV h0 h0.heap.size u (wv L):=c0 _ (m_ 4 rfl) (by kernel_rfl);clear c0;refine wpOp_step (o:=_) rfl (fun K hK=>?_);simp only[FL]
   obtain⟨u,hu,hl⟩:=f4;rw[hu];go_simp;refine hK _ _ ⟨u,by simp only[FL,hu] <;> kernel_rfl,Below.refl _ _,hl,nF⟩
  ·intro xs i0 b0 c0;clear b0;have f4:∃ u,(xs 4)=.tuple #[u,.int .i64 0]∧QV i0 i0.heap.size u (wv L):=c0 _ (m_ 4 rfl) (by kernel_rfl);clear c0;refine wpOp_step (o:=_) rfl (fun K hK=>?_);simp only[FL]
   obtain⟨u,hu,-⟩:=f4;rw[hu];go_simp;refine hK _ _ ⟨.int .i64 0,by simp only[FL,hu] <;> kernel_rfl,Below.refl _ _,rfl,nF⟩
  ·intro xs e0 b0 c0;clear b0;have f5:QV e0 e0.heap.size (xs 5) (wv L):=c0 _ (m_ 5 rfl) (by kernel_rfl);have f6:(xs 6)=.int .i64 0:=c0 _ (m_ 6 rfl) (by kernel_rfl);clear c0;refine wpOp_step (o:=_) rfl (fun K hK=>?_);simp only[FL]
   go_simp;(with_reducible refine(must_any _ _ _ f5).mono ?_)
   rintro e wc11 ⟨l0,v11,rfl,m0⟩;refine hK _ _ ⟨v11,by simp only[FL,f6] <;> kernel_rfl,l0,m0,nF⟩
  ·intro xs g0 b0 c0;clear b0;have f0:(xs 0)=.agg (GC g):=c0 _ (m_ 0 rfl) (by kernel_rfl);have f7:QV g0 g0.heap.size (xs 7) (wv L):=c0 _ (m_ 7 rfl) (by kernel_rfl);clear c0;refine wpOp_step (o:=_) rfl (fun K hK=>?_);simp only[FL]
   obtain⟨xn,xA,xl,xc,xB,xu,xd,hx7,hq7⟩:=QV.four f7;rw[if_pos (show Region.wanted _ _=true from rfl),f0,hx7];refine wp_build _ _ rfl (by kernel_rfl) ?_;refine hK _ _ ⟨.agg (DC g (.bool xn) (.slice xA xl xc) (.bool false) (.slice xB xu xd)),by simp only[FL,f0,hx7] <;> kernel_rfl,Below.refl _ _,⟨_,_,_,_,_,_,_,rfl,hq7⟩,nF⟩
 ·exact all_nil
 ·intro xs L0 hbf hf hn hd;have f0:(xs 0)=.agg (GC g):=hf _ (m_ 0 rfl);have f1:(xs 1)=.int .i64 L:=hf _ (m_ 1 rfl);have f2:(xs 2)=.int .i64 L:=hf _ (m_ 2 rfl);have f3:(xs 3)=.int .i64 x:=hf _ (m_ 3 rfl);have f4:∃ u,(xs 4)=.tuple #[u,.int .i64 0]∧QV L0 L0.heap.size u (wv L):=hf _ (m_ 4 rfl);have f5:QV L0 L0.heap.size (xs 5) (wv L):=hf _ (m_ 5 rfl);have f6:(xs 6)=.int .i64 0:=hf _ (m_ 6 rfl);have f7:QV L0 L0.heap.size (xs 7) (wv L):=hf _ (m_ 7 rfl);have f8:DV L0 L0.heap.size (xs 8) g L:=hf _ (m_ 8 rfl);clear hf hn hd;simp only[FL]
  have B14:=zz hbf;have z14:=B14.out.size;have n0:=zz (B0.out.trans (B14.out.mono B0.out.size));clear hbf;generalize xs 0=x0,xs 1=x1,xs 2=x2,xs 3=x3,xs 4=x4,xs 5=x5,xs 6=x6,xs 7=x7,xs 8=x8 at *
  obtain rfl:=f0;obtain rfl:=f1;obtain rfl:=f2;obtain rfl:=f3;clear f4;clear f5;obtain rfl:=f6;clear f7;obtain⟨xn,xA,xl,xc,xB,xu,xd,rfl,hq⟩:=f8;have HQ:=zz hq;clear hq;refine Early.next (i:=9) (by kernel_rfl) rfl (fun K hK=>?_);rw[if_pos (show Region.wanted _ _=true from rfl)];have d0:=CB.step Lr4 B14.out;refine wp_store_row _ _ _ rfl _ _ rfl rfl _ _ d0 rfl rfl (by kernel_rfl) ?_;refine hK _ _ (fun _=>trivial) ?_;clear hK K
  try simp only[FL]
  refine Early.done (by kernel_rfl) ?_ _;(try simp only[Exit.then])
  go_wp2;exact DB.fin rfl d0 (by kernel_rfl) n0.out (by omega) HQ.out rfl
theorem QS_new2 {w:World} {T:TypeId} {n0:Bool} {A0 B0:Option Addr} {l0 c0 u0 d0:Nat} {q0:Rat} {n1:Bool} {A1 B1:Option Addr} {l1 c1 u1 d1:Nat} {q1:Rat} (h0:QV w w.heap.size (.agg #[.bool n0,.slice A0 l0 c0,.bool false,.slice B0 u0 d0]) q0) (h1:QV w w.heap.size (.agg #[.bool n1,.slice A1 l1 c1,.bool false,.slice B1 u1 d1]) q1) :
  QS (w.alloc (.cells #[.bool n0,.slice A0 l0 c0,.bool false,.slice B0 u0 d0,.bool n1,.slice A1 l1 c1,.bool false,.slice B1 u1 d1] T)) (w.alloc (.cells #[.bool n0,.slice A0 l0 c0,.bool false,.slice B0 u0 d0,.bool n1,.slice A1 l1 c1,.bool false,.slice B1 u1 d1] T)).heap.size (.slice (some ⟨w.heap.size,0,none⟩) 2 2) [q0,q1]:=by
 have hh:=heap_alloc_new w (.cells #[.bool n0,.slice A0 l0 c0,.bool false,.slice B0 u0 d0,.bool n1,.slice A1 l1 c1,.bool false,.slice B1 u1 d1] T);have hb:Below w.heap.size w _:=(Below.refl _ _).alloc (Nat.le_refl _) (.cells #[.bool n0,.slice A0 l0 c0,.bool false,.slice B0 u0 d0,.bool n1,.slice A1 l1 c1,.bool false,.slice B1 u1 d1] T);refine⟨_,_,rfl,by simp,fun i hi=>?_⟩;rcases i with _ | _ | i
 ·exact⟨_,_,_,_,by simp only[World.cell?,hh];rfl,by simp only[World.cell?,hh];rfl,by simp only[World.cell?,hh];rfl,by simp only[World.cell?,hh];rfl,h0.step hb⟩
 ·exact⟨_,_,_,_,by simp only[World.cell?,hh];rfl,by simp only[World.cell?,hh];rfl,by simp only[World.cell?,hh];rfl,by simp only[World.cell?,hh];rfl,h1.step hb⟩
 ·exact absurd hi (by simp)
theorem QS_new3 {w:World} {T:TypeId} {n0:Bool} {A0 B0:Option Addr} {l0 c0 u0 d0:Nat} {q0:Rat} {n1:Bool} {A1 B1:Option Addr} {l1 c1 u1 d1:Nat} {q1:Rat} {n2:Bool} {A2 B2:Option Addr} {l2 c2 u2 d2:Nat} {q2:Rat} (h0:QV w w.heap.size (.agg #[.bool n0,.slice A0 l0 c0,.bool false,.slice B0 u0 d0]) q0) (h1:QV w w.heap.size (.agg #[.bool n1,.slice A1 l1 c1,.bool false,.slice B1 u1 d1]) q1) (h2:QV w w.heap.size (.agg #[.bool n2,.slice A2 l2 c2,.bool false,.slice B2 u2 d2]) q2) :
  QS (w.alloc (.cells #[.bool n0,.slice A0 l0 c0,.bool false,.slice B0 u0 d0,.bool n1,.slice A1 l1 c1,.bool false,.slice B1 u1 d1,.bool n2,.slice A2 l2 c2,.bool false,.slice B2 u2 d2] T)) (w.alloc (.cells #[.bool n0,.slice A0 l0 c0,.bool false,.slice B0 u0 d0,.bool n1,.slice A1 l1 c1,.bool false,.slice B1 u1 d1,.bool n2,.slice A2 l2 c2,.bool false,.slice B2 u2 d2] T)).heap.size (.slice (some ⟨w.heap.size,0,none⟩) 3 3) [q0,q1,q2]:=by
 have hh:=heap_alloc_new w (.cells #[.bool n0,.slice A0 l0 c0,.bool false,.slice B0 u0 d0,.bool n1,.slice A1 l1 c1,.bool false,.slice B1 u1 d1,.bool n2,.slice A2 l2 c2,.bool false,.slice B2 u2 d2] T);have hb:Below w.heap.size w _:=(Below.refl _ _).alloc (Nat.le_refl _) (.cells #[.bool n0,.slice A0 l0 c0,.bool false,.slice B0 u0 d0,.bool n1,.slice A1 l1 c1,.bool false,.slice B1 u1 d1,.bool n2,.slice A2 l2 c2,.bool false,.slice B2 u2 d2] T);refine⟨_,_,rfl,by simp,fun i hi=>?_⟩;rcases i with _ | _ | _ | i
 ·exact⟨_,_,_,_,by simp only[World.cell?,hh];rfl,by simp only[World.cell?,hh];rfl,by simp only[World.cell?,hh];rfl,by simp only[World.cell?,hh];rfl,h0.step hb⟩
 ·exact⟨_,_,_,_,by simp only[World.cell?,hh];rfl,by simp only[World.cell?,hh];rfl,by simp only[World.cell?,hh];rfl,by simp only[World.cell?,hh];rfl,h1.step hb⟩
 ·exact⟨_,_,_,_,by simp only[World.cell?,hh];rfl,by simp only[World.cell?,hh];rfl,by simp only[World.cell?,hh];rfl,by simp only[World.cell?,hh];rfl,h2.step hb⟩
 ·exact absurd hi (by simp)
theorem QS_new6 {w:World} {T:TypeId} {n0:Bool} {A0 B0:Option Addr} {l0 c0 u0 d0:Nat} {q0:Rat} {n1:Bool} {A1 B1:Option Addr} {l1 c1 u1 d1:Nat} {q1:Rat} {n2:Bool} {A2 B2:Option Addr} {l2 c2 u2 d2:Nat} {q2:Rat} {n3:Bool} {A3 B3:Option Addr} {l3 c3 u3 d3:Nat} {q3:Rat} {n4:Bool} {A4 B4:Option Addr} {l4 c4 u4 d4:Nat} {q4:Rat} {n5:Bool} {A5 B5:Option Addr} {l5 c5 u5 d5:Nat} {q5:Rat} (h0:QV w w.heap.size (.agg #[.bool n0,.slice A0 l0 c0,.bool false,.slice B0 u0 d0]) q0) (h1:QV w w.heap.size (.agg #[.bool n1,.slice A1 l1 c1,.bool false,.slice B1 u1 d1]) q1) (h2:QV w w.heap.size (.agg #[.bool n2,.slice A2 l2 c2,.bool false,.slice B2 u2 d2]) q2) (h3:QV w w.heap.size (.agg #[.bool n3,.slice A3 l3 c3,.bool false,.slice B3 u3 d3]) q3) (h4:QV w w.heap.size (.agg #[.bool n4,.slice A4 l4 c4,.bool false,.slice B4 u4 d4]) q4) (h5:QV w w.heap.size (.agg #[.bool n5,.slice A5 l5 c5,.bool false,.slice B5 u5 d5]) q5) :
  QS (w.alloc (.cells #[.bool n0,.slice A0 l0 c0,.bool false,.slice B0 u0 d0,.bool n1,.slice A1 l1 c1,.bool false,.slice B1 u1 d1,.bool n2,.slice A2 l2 c2,.bool false,.slice B2 u2 d2,.bool n3,.slice A3 l3 c3,.bool false,.slice B3 u3 d3,.bool n4,.slice A4 l4 c4,.bool false,.slice B4 u4 d4,.bool n5,.slice A5 l5 c5,.bool false,.slice B5 u5 d5] T)) (w.alloc (.cells #[.bool n0,.slice A0 l0 c0,.bool false,.slice B0 u0 d0,.bool n1,.slice A1 l1 c1,.bool false,.slice B1 u1 d1,.bool n2,.slice A2 l2 c2,.bool false,.slice B2 u2 d2,.bool n3,.slice A3 l3 c3,.bool false,.slice B3 u3 d3,.bool n4,.slice A4 l4 c4,.bool false,.slice B4 u4 d4,.bool n5,.slice A5 l5 c5,.bool false,.slice B5 u5 d5] T)).heap.size (.slice (some ⟨w.heap.size,0,none⟩) 6 6) [q0,q1,q2,q3,q4,q5]:=by
 have hh:=heap_alloc_new w (.cells #[.bool n0,.slice A0 l0 c0,.bool false,.slice B0 u0 d0,.bool n1,.slice A1 l1 c1,.bool false,.slice B1 u1 d1,.bool n2,.slice A2 l2 c2,.bool false,.slice B2 u2 d2,.bool n3,.slice A3 l3 c3,.bool false,.slice B3 u3 d3,.bool n4,.slice A4 l4 c4,.bool false,.slice B4 u4 d4,.bool n5,.slice A5 l5 c5,.bool false,.slice B5 u5 d5] T);have hb:Below w.heap.size w _:=(Below.refl _ _).alloc (Nat.le_refl _) (.cells #[.bool n0,.slice A0 l0 c0,.bool false,.slice B0 u0 d0,.bool n1,.slice A1 l1 c1,.bool false,.slice B1 u1 d1,.bool n2,.slice A2 l2 c2,.bool false,.slice B2 u2 d2,.bool n3,.slice A3 l3 c3,.bool false,.slice B3 u3 d3,.bool n4,.slice A4 l4 c4,.bool false,.slice B4 u4 d4,.bool n5,.slice A5 l5 c5,.bool false,.slice B5 u5 d5] T);refine⟨_,_,rfl,by simp,fun i hi=>?_⟩;rcases i with _ | _ | _ | _ | _ | _ | i
 ·exact⟨_,_,_,_,by simp only[World.cell?,hh];rfl,by simp only[World.cell?,hh];rfl,by simp only[World.cell?,hh];rfl,by simp only[World.cell?,hh];rfl,h0.step hb⟩
 ·exact⟨_,_,_,_,by simp only[World.cell?,hh];rfl,by simp only[World.cell?,hh];rfl,by simp only[World.cell?,hh];rfl,by simp only[World.cell?,hh];rfl,h1.step hb⟩
 ·exact⟨_,_,_,_,by simp only[World.cell?,hh];rfl,by simp only[World.cell?,hh];rfl,by simp only[World.cell?,hh];rfl,by simp only[World.cell?,hh];rfl,h2.step hb⟩
 ·exact⟨_,_,_,_,by simp only[World.cell?,hh];rfl,by simp only[World.cell?,hh];rfl,by simp only[World.cell?,hh];rfl,by simp only[World.cell?,hh];rfl,h3.step hb⟩
 ·exact⟨_,_,_,_,by simp only[World.cell?,hh];rfl,by simp only[World.cell?,hh];rfl,by simp only[World.cell?,hh];rfl,by simp only[World.cell?,hh];rfl,h4.step hb⟩
 ·exact⟨_,_,_,_,by simp only[World.cell?,hh];rfl,by simp only[World.cell?,hh];rfl,by simp only[World.cell?,hh];rfl,by simp only[World.cell?,hh];rfl,h5.step hb⟩
 ·exact absurd hi (by simp)
section
variable {g:GL} {L:Int} (h:okL g L)
include h
theorem lnS:(∀ i (hi:i < [av g.c0,dn (av g.c1) (wv L) 1,dn (av g.c2) (wv L) 2].length),QL 600 600 [av g.c0,dn (av g.c1) (wv L) 1,dn (av g.c2) (wv L) 2][i])∧∀ k≤[av g.c0,dn (av g.c1) (wv L) 1,dn (av g.c2) (wv L) 2].length,QL 600 600 (sumL ([av g.c0,dn (av g.c1) (wv L) 1,dn (av g.c2) (wv L) 2].take k)):=by
 constructor
 ·intro i hi;rcases i with _ | _ | _ | i
  ·exact(h.a 0).mono (by decide) (by decide)
  ·exact(h.d 1 1).mono (by decide) (by decide)
  ·exact(h.d 2 2).mono (by decide) (by decide)
  ·exact absurd hi (by simp)
 ·intro k hk;rcases k with _ | _ | _ | _ | k
  ·exact nil_QL.mono (by decide) (by decide)
  ·show QL 600 600 (0+_);rw[Rat.zero_add];exact(h.a 0).mono (by decide) (by decide)
  ·show QL 600 600 (0+_+_);rw[Rat.zero_add];exact h.ln1.mono (by decide) (by decide)
  ·show QL 600 600 (0+_+_+_);rw[Rat.zero_add];exact h.ln.mono (by decide) (by decide)
  ·exact absurd hk (by simp)
omit h in
theorem lnE:sumL [av g.c0,dn (av g.c1) (wv L) 1,dn (av g.c2) (wv L) 2]=lnG g L:=by show 0+_+_+_=_;rw[Rat.zero_add];rfl
end
set_option maxRecDepth 100000 in
set_option maxHeartbeats 4000000 in
theorem linear_any (w:World) (v:Value) (g:GL) (L:Int) (hD:DV w w.heap.size v g L) (h:okL g L) :
  Calls Tryz.prog 44 #[v] w fun e w'=>Below w.heap.size w w'∧R1 w' (lnG g L) e:=by
 obtain⟨xn,xA,xl,xc,xB,xu,xd,rfl,hq⟩:=hD;have HQ:=zz hq;have HL:=zz h;clear hq h;obtain⟨w0,hw0⟩:∃ w0:World,w0=((w.alloc (.cells (DC g (.bool xn) (.slice xA xl xc) (.bool false) (.slice xB xu xd)) 79)).alloc (.cells #[.bool false,.slice none 0 0,.bool false,.slice none 0 0] 43)):=⟨_,rfl⟩;have B0:=zz (n2_b hw0);have z0:=n2_z hw0;have Ld:=n2_0 hw0;have Lr2:=n2_1 hw0;go_enter Tryz.func44,Tryz.ntmps44
 go_upto_region 1 with (fail)
 rw[← hw0];clear hw0;have k1:=zz (QV.step HQ.out B0.out);refine Flow.run [⟨0,3,fun fv fw=>fv=.agg (DC g (.bool xn) (.slice xA xl xc) (.bool false) (.slice xB xu xd))⟩,⟨1,4,fun fv fw=>QV fw fw.heap.size fv (dn (av g.c0) (wv L) 0)⟩,⟨2,5,fun fv fw=>fv=.agg (DC g (.bool xn) (.slice xA xl xc) (.bool false) (.slice xB xu xd))⟩,⟨3,6,fun fv fw=>QV fw fw.heap.size fv (dn (av g.c1) (wv L) 1)⟩,⟨4,7,fun fv fw=>fv=.agg (DC g (.bool xn) (.slice xA xl xc) (.bool false) (.slice xB xu xd))⟩,⟨5,8,fun fv fw=>QV fw fw.heap.size fv (dn (av g.c2) (wv L) 2)⟩,⟨6,9,fun fv fw=>QS fw fw.heap.size fv [av g.c0,dn (av g.c1) (wv L) 1,dn (av g.c2) (wv L) 2]⟩,⟨7,10,fun fv fw=>QV fw fw.heap.size fv (lnG g L)⟩] [] [] 1 (by kernel_rfl) (by kernel_rfl) (by kernel_rfl) (fun _ _ _ _ _ h=>h) ?_ ?_ ?_ ?_
 ·refine(a0 (all_cons (fun v w1 w2 h hb=>h.step hb) (a0 (all_cons (fun v w1 w2 h hb=>h.step hb) (a0 (all_cons (fun v w1 w2 h hb=>h.step hb) (all_cons (fun v w1 w2 h hb=>h.step hb) (all_cons (fun v w1 w2 h hb=>h.step hb) all_nil))))))))
 ·refine(all_cons ?_ (all_cons ?_ (all_cons ?_ (all_cons ?_ (all_cons ?_ (all_cons ?_ (all_cons ?_ (all_cons ?_ all_nil))))))))
  ·intro xs wk1 b0 d0;have A0:=zz b0;have a1:=b0.size;clear b0;clear d0;refine wpOp_step (o:=_) rfl (fun K hK=>?_);simp only[FL]
   rw[if_pos (show Region.wanted _ _=true from rfl)];have C0:=CB.step Ld A0.out;refine wp_load_row _ _ rfl _ rfl _ _ (0,0) _ C0 rfl rfl rfl ?_;refine hK _ _ ⟨.agg (DC g (.bool xn) (.slice xA xl xc) (.bool false) (.slice xB xu xd)),by kernel_rfl,Below.refl _ _,rfl,nF⟩
  ·intro xs wk3 b0 d0;have D0:=zz b0;have b1:=b0.size;clear b0;have f0:(xs 0)=.agg (DC g (.bool xn) (.slice xA xl xc) (.bool false) (.slice xB xu xd)):=d0 _ (m_ 0 rfl) (by kernel_rfl);clear d0;refine wpOp_step (o:=_) rfl (fun K hK=>?_);simp only[FL]
   go_simp;have E0:=zz (QV.step k1.out D0.out);(with_reducible refine((show Calls Tryz.prog _ #[_,.int .i64 0,.int .i64 0] _ _ from term_any _ _ g L (DV.mk E0.out) HL.out 0 (by decide) 0 (by decide))).mono ?_)
   rintro e wc5 ⟨Q0,v5,rfl,R0⟩;refine hK _ _ ⟨v5,by simp only[FL,f0] <;> kernel_rfl,Q0,R0,nF⟩
  ·intro xs wk6 b0 d0;have F0:=zz b0;have e1:=b0.size;clear b0;clear d0;refine wpOp_step (o:=_) rfl (fun K hK=>?_);simp only[FL]
   rw[if_pos (show Region.wanted _ _=true from rfl)];have G0:=CB.step Ld F0.out;refine wp_load_row _ _ rfl _ rfl _ _ (0,0) _ G0 rfl rfl rfl ?_;refine hK _ _ ⟨.agg (DC g (.bool xn) (.slice xA xl xc) (.bool false) (.slice xB xu xd)),by kernel_rfl,Below.refl _ _,rfl,nF⟩
  ·intro xs g1 b0 d0;have H0:=zz b0;have h1:=b0.size;clear b0;have f2:(xs 2)=.agg (DC g (.bool xn) (.slice xA xl xc) (.bool false) (.slice xB xu xd)):=d0 _ (m_ 2 rfl) (by kernel_rfl);clear d0;refine wpOp_step (o:=_) rfl (fun K hK=>?_);simp only[FL]
   go_simp;have I0:=zz (QV.step k1.out H0.out);(with_reducible refine((show Calls Tryz.prog _ #[_,.int .i64 1,.int .i64 (-1)] _ _ from term_any _ _ g L (DV.mk I0.out) HL.out 1 (by decide) 1 (by decide))).mono ?_)
   rintro e wc10 ⟨J0,v10,rfl,K0⟩;refine hK _ _ ⟨v10,by simp only[FL,f2] <;> kernel_rfl,J0,K0,nF⟩
  ·intro xs U0 b0 d0;have j0:=zz b0;have V0:=b0.size;clear b0;clear d0;refine wpOp_step (o:=_) rfl (fun K hK=>?_);simp only[FL]
   rw[if_pos (show Region.wanted _ _=true from rfl)];have k0:=CB.step Ld j0.out;refine wp_load_row _ _ rfl _ rfl _ _ (0,0) _ k0 rfl rfl rfl ?_;refine hK _ _ ⟨.agg (DC g (.bool xn) (.slice xA xl xc) (.bool false) (.slice xB xu xd)),by kernel_rfl,Below.refl _ _,rfl,nF⟩
  ·intro xs W0 b0 d0;have l0:=zz b0;have X0:=b0.size;clear b0;have f4:(xs 4)=.agg (DC g (.bool xn) (.slice xA xl xc) (.bool false) (.slice xB xu xd)):=d0 _ (m_ 4 rfl) (by kernel_rfl);clear d0;refine wpOp_step (o:=_) rfl (fun K hK=>?_);simp only[FL]
   go_simp;have m0:=zz (QV.step k1.out l0.out);(with_reducible refine((show Calls Tryz.prog _ #[_,.int .i64 2,.int .i64 (-2)] _ _ from term_any _ _ g L (DV.mk m0.out) HL.out 2 (by decide) 2 (by decide))).mono ?_)
   rintro e wc15 ⟨L0,v15,rfl,M0⟩;refine hK _ _ ⟨v15,by simp only[FL,f4] <;> kernel_rfl,L0,M0,nF⟩
  ·intro xs g0 b0 d0;clear b0;have f1:QV g0 g0.heap.size (xs 1) (dn (av g.c0) (wv L) 0):=d0 _ (m_ 1 rfl) (by kernel_rfl);have f3:QV g0 g0.heap.size (xs 3) (dn (av g.c1) (wv L) 1):=d0 _ (m_ 3 rfl) (by kernel_rfl);have f5:QV g0 g0.heap.size (xs 5) (dn (av g.c2) (wv L) 2):=d0 _ (m_ 5 rfl) (by kernel_rfl);clear d0;refine wpOp_step (o:=_) rfl (fun K hK=>?_);simp only[FL]
   obtain⟨n1,A1,l1,c1,B1,u1,d1,hx1,hq1⟩:=QV.four f1;obtain⟨n3,A3,l3,c3,B3,u3,d3,hx3,hq3⟩:=QV.four f3;obtain⟨n5,A5,l5,c5,B5,u5,d5,hx5,hq5⟩:=QV.four f5;rw[hx1,hx3,hx5];go_simp;refine hK _ _ ⟨.slice (some ⟨g0.heap.size,0,none⟩) 3 3,by simp only[FL,hx1,hx3,hx5] <;> kernel_rfl,(Below.refl _ _).alloc (Nat.le_refl _) _,QS_new3 hq1 hq3 hq5,nF⟩
  ·intro xs h0 b0 d0;clear b0;have f6:QS h0 h0.heap.size (xs 6) [av g.c0,dn (av g.c1) (wv L) 1,dn (av g.c2) (wv L) 2]:=d0 _ (m_ 6 rfl) (by kernel_rfl);clear d0;refine wpOp_step (o:=_) rfl (fun K hK=>?_);simp only[FL]
   go_simp;(with_reducible refine((show Calls Tryz.prog _ _ _ _ from lnE▸sum_any _ _ _ f6 (by simp) (lnS HL.out).1 (lnS HL.out).2)).mono ?_)
   rintro e wc18 ⟨N0,v18,rfl,O0⟩;refine hK _ _ ⟨v18,by kernel_rfl,N0,O0,nF⟩
 ·exact all_nil
 ·intro xs i1 hbf hf hn hd;have f0:(xs 0)=.agg (DC g (.bool xn) (.slice xA xl xc) (.bool false) (.slice xB xu xd)):=hf _ (m_ 0 rfl);have f1:QV i1 i1.heap.size (xs 1) (dn (av g.c0) (wv L) 0):=hf _ (m_ 1 rfl);have f2:(xs 2)=.agg (DC g (.bool xn) (.slice xA xl xc) (.bool false) (.slice xB xu xd)):=hf _ (m_ 2 rfl);have f3:QV i1 i1.heap.size (xs 3) (dn (av g.c1) (wv L) 1):=hf _ (m_ 3 rfl);have f4:(xs 4)=.agg (DC g (.bool xn) (.slice xA xl xc) (.bool false) (.slice xB xu xd)):=hf _ (m_ 4 rfl);have f5:QV i1 i1.heap.size (xs 5) (dn (av g.c2) (wv L) 2):=hf _ (m_ 5 rfl);have f6:QS i1 i1.heap.size (xs 6) [av g.c0,dn (av g.c1) (wv L) 1,dn (av g.c2) (wv L) 2]:=hf _ (m_ 6 rfl);have f7:QV i1 i1.heap.size (xs 7) (lnG g L):=hf _ (m_ 7 rfl);clear hf hn hd;simp only[FL]
  have B20:=zz hbf;have z20:=B20.out.size;have P0:=zz (B0.out.trans (B20.out.mono B0.out.size));clear hbf;generalize xs 0=x0,xs 1=x1,xs 2=x2,xs 3=x3,xs 4=x4,xs 5=x5,xs 6=x6,xs 7=x7 at *
  obtain rfl:=f0;clear f1;obtain rfl:=f2;clear f3;obtain rfl:=f4;clear f5;clear f6;obtain⟨p1,q1,r1,s1,t1,n0,v1,rfl,ha22,i0,hc22⟩:=f7;have o0:=zz (show QV i1 i1.heap.size (.agg #[.bool p1,.slice q1 r1 s1,.bool false,.slice t1 n0 v1]) (lnG g L) from⟨_,_,_,_,_,_,_,rfl,ha22,i0,hc22⟩);clear ha22 i0 hc22;have e0:=CB.step Lr2 B20.out;have p0:=e0.cell 0 rfl;have q0:=e0.cell 1 rfl;have r0:=e0.cell 2 rfl;have s0:=e0.cell 3 rfl;have m1:=e0.lt;have t0:=e0.frozen 0;have u0:=e0.frozen 1;have v0:=e0.frozen 2;have y0:=e0.frozen 3;have o1:=e0.lt;refine Early.next (i:=8) (by kernel_rfl) rfl (fun K hK=>?_);go_simp;refine hK _ _ (fun _=>trivial) ?_;clear hK K;(try simp only[Act.put,List.setIfInBounds_toArray,List.set_cons_zero,List.set_cons_succ])
  clear p0 q0 r0 s0 m1 t0 u0 v0 y0 o1;refine Early.done (by kernel_rfl) ?_ _;(try simp only[Exit.then])
  go_wp2;exact QB.fin1 rfl e0 (by simp[noInt_b,noInt_s]) P0.out (by omega) o0.out rfl
set_option maxRecDepth 100000 in
set_option maxHeartbeats 4000000 in
theorem cauchy_any (w:World) (v:Value) (g:GL) (L:Int) (hD:DV w w.heap.size v g L) (h:okL g L) :
  Calls Tryz.prog 190 #[v] w fun e w'=>Below w.heap.size w w'∧R1 w' (lnG g L*lnG g L) e:=by
 obtain⟨xn,xA,xl,xc,xB,xu,xd,rfl,hq⟩:=hD;have HQ:=zz hq;have HL:=zz h;clear hq h;obtain⟨w0,hw0⟩:∃ w0:World,w0=((w.alloc (.cells (DC g (.bool xn) (.slice xA xl xc) (.bool false) (.slice xB xu xd)) 79)).alloc (.cells #[.bool false,.slice none 0 0,.bool false,.slice none 0 0] 43)):=⟨_,rfl⟩;have B0:=zz (n2_b hw0);have z0:=n2_z hw0;have Ld:=n2_0 hw0;have Lr2:=n2_1 hw0;go_enter Tryz.func190,Tryz.ntmps190
 go_upto_region 1 with (fail)
 rw[← hw0];clear hw0;have W0:=zz (QV.step HQ.out B0.out);go_wp2_with (refine wpList_load_row rfl _ _ rfl _ rfl _ _ (0,0) _ Ld rfl rfl rfl ?_)
 refine(linear_any _ _ g L (DV.mk W0.out) HL.out).mono ?_;rintro e w1 ⟨s0,v,rfl,hv⟩;have B2:=zz s0;have z2:=B2.out.size;have t0:=zz (B0.out.trans (B2.out.mono B0.out.size));clear s0;obtain⟨J0,K0,L0,M0,N0,e0,O0,rfl,ha4,u0,hc4⟩:=hv;have y0:=zz (show QV w1 w1.heap.size (.agg #[.bool J0,.slice K0 L0 M0,.bool false,.slice N0 e0 O0]) (lnG g L) from⟨_,_,_,_,_,_,_,rfl,ha4,u0,hc4⟩);clear ha4 u0 hc4;go_upto_region 2 with (fail)
 obtain⟨w5,c0⟩:∃ w5:World,w5=(w1.alloc (.cells #[.bool J0,.slice K0 L0 M0,.bool false,.slice N0 e0 O0] 43)):=⟨_,rfl⟩;rw[← c0];have b0:=n1_0 c0;have za5:=n1_z c0;have B6:=zz (n1_b c0);have z6:=B6.out.size;have v0:=zz (t0.out.trans (B6.out.mono t0.out.size));clear c0;have A0:=b0.cell 0 rfl;have C0:=b0.cell 1 rfl;have D0:=b0.cell 2 rfl;have E0:=b0.cell 3 rfl;have I0:=b0.lt;go_wp2_with fail
 have d0:=zz (QV.step y0.out B6.out);refine(gMul d0.out d0.out HL.out.ln HL.out.ln (by decide)).mono ?_;rintro e w8 ⟨x0,va,rfl,hva⟩;have B11:=zz x0;have z11:=B11.out.size;have f0:=zz (v0.out.trans (B11.out.mono v0.out.size));clear x0;clear A0 C0 D0 E0 I0;go_wp2_with fail
 refine(must_any _ _ _ hva).mono ?_;rintro e w13 ⟨g0,v,rfl,hv⟩;have B14:=zz g0;have z14:=B14.out.size;have F0:=zz (f0.out.trans (B14.out.mono f0.out.size));clear g0;clear hva;obtain⟨Q0,R0,S0,T0,U0,i0,V0,rfl,ha16,h0,hc16⟩:=hv;have j0:=zz (show QV w13 w13.heap.size (.agg #[.bool Q0,.slice R0 S0 T0,.bool false,.slice U0 i0 V0]) (lnG g L*lnG g L) from⟨_,_,_,_,_,_,_,rfl,ha16,h0,hc16⟩);clear ha16 h0 hc16;have P1_3_18:=zz (B2.out.trans (B6.out.mono B2.out.size));have P1_4_19:=zz (P1_3_18.out.trans (B11.out.mono P1_3_18.out.size));have P1_5_20:=zz (P1_4_19.out.trans (B14.out.mono P1_4_19.out.size));have a0:=CB.step Lr2 P1_5_20.out;have k0:=a0.cell 0 rfl;have l0:=a0.cell 1 rfl;have m0:=a0.cell 2 rfl;have n0:=a0.cell 3 rfl;have G0:=a0.lt;have o0:=a0.frozen 0;have p0:=a0.frozen 1;have q0:=a0.frozen 2;have r0:=a0.frozen 3;have H0:=a0.lt;go_wp2;clear k0 l0 m0 n0 G0 o0 p0 q0 r0 H0;exact QB.fin1 rfl a0 (by simp[noInt_b,noInt_s]) F0.out (by omega) j0.out rfl
theorem shS {g:GL} {L:Int} (h:okL g L):(∀ i (hi:i < [av g.c0,av g.c1*wv L,dn (av g.c2) (wv L) 1,dn (av g.c3) (wv L) 2,dn (av g.c4) (wv L) 3,dn (av g.c5) (wv L) 4].length),QL 600 600 [av g.c0,av g.c1*wv L,dn (av g.c2) (wv L) 1,dn (av g.c3) (wv L) 2,dn (av g.c4) (wv L) 3,dn (av g.c5) (wv L) 4][i])∧∀ k≤[av g.c0,av g.c1*wv L,dn (av g.c2) (wv L) 1,dn (av g.c3) (wv L) 2,dn (av g.c4) (wv L) 3,dn (av g.c5) (wv L) 4].length,QL 600 600 (sumL ([av g.c0,av g.c1*wv L,dn (av g.c2) (wv L) 1,dn (av g.c3) (wv L) 2,dn (av g.c4) (wv L) 3,dn (av g.c5) (wv L) 4].take k)):=by
 constructor
 ·intro i hi;rcases i with _ | _ | _ | _ | _ | _ | i
  ·exact(h.a 0).mono (by decide) (by decide)
  ·exact(h.aw 1).mono (by decide) (by decide)
  ·exact(h.d 2 1).mono (by decide) (by decide)
  ·exact(h.d 3 2).mono (by decide) (by decide)
  ·exact(h.d 4 3).mono (by decide) (by decide)
  ·exact(h.d 5 4).mono (by decide) (by decide)
  ·exact absurd hi (by simp)
 ·intro k hk;rcases k with _ | _ | _ | _ | _ | _ | _ | k
  ·exact nil_QL.mono (by decide) (by decide)
  ·show QL 600 600 (0+_);rw[Rat.zero_add];exact(h.a 0).mono (by decide) (by decide)
  ·show QL 600 600 (0+_+_);rw[Rat.zero_add];exact h.sh1.mono (by decide) (by decide)
  ·show QL 600 600 (0+_+_+_);rw[Rat.zero_add];exact h.sh2.mono (by decide) (by decide)
  ·show QL 600 600 (0+_+_+_+_);rw[Rat.zero_add];exact h.sh3.mono (by decide) (by decide)
  ·show QL 600 600 (0+_+_+_+_+_);rw[Rat.zero_add];exact h.sh4.mono (by decide) (by decide)
  ·show QL 600 600 (0+_+_+_+_+_+_);rw[Rat.zero_add];exact h.sh.mono (by decide) (by decide)
  ·exact absurd hk (by simp)
theorem shE (g:GL) (L:Int):sumL [av g.c0,av g.c1*wv L,dn (av g.c2) (wv L) 1,dn (av g.c3) (wv L) 2,dn (av g.c4) (wv L) 3,dn (av g.c5) (wv L) 4]=shG g L:=by show 0+_+_+_+_+_+_=_;rw[Rat.zero_add];rfl
set_option maxRecDepth 100000 in
set_option maxHeartbeats 4000000 in
theorem schott_any (w:World) (v:Value) (g:GL) (L:Int) (hD:DV w w.heap.size v g L) (h:okL g L) :
  Calls Tryz.prog 197 #[v] w fun e w'=>Below w.heap.size w w'∧R1 w' (shG g L) e:=by
 obtain⟨xn,xA,xl,xc,xB,xu,xd,rfl,hq⟩:=hD;have HQ:=zz hq;have HL:=zz h;clear hq h;obtain⟨w0,hw0⟩:∃ w0:World,w0=((w.alloc (.cells (DC g (.bool xn) (.slice xA xl xc) (.bool false) (.slice xB xu xd)) 79)).alloc (.cells #[.bool false,.slice none 0 0,.bool false,.slice none 0 0] 43)):=⟨_,rfl⟩;have B0:=zz (n2_b hw0);have z0:=n2_z hw0;have Ld:=n2_0 hw0;have Lr2:=n2_1 hw0;go_enter Tryz.func197,Tryz.ntmps197
 go_upto_region 1 with (fail)
 rw[← hw0];clear hw0;have V1:=zz (QV.step HQ.out B0.out);refine Flow.run [⟨0,3,fun fv fw=>fv=.agg (DC g (.bool xn) (.slice xA xl xc) (.bool false) (.slice xB xu xd))⟩,⟨1,4,fun fv fw=>QV fw fw.heap.size fv (dn (av g.c0) (wv L) 0)⟩,⟨2,5,fun fv fw=>fv=.agg (DC g (.bool xn) (.slice xA xl xc) (.bool false) (.slice xB xu xd))⟩,⟨3,6,fun fv fw=>QV fw fw.heap.size fv (av g.c1*wv L)⟩,⟨4,7,fun fv fw=>fv=.agg (DC g (.bool xn) (.slice xA xl xc) (.bool false) (.slice xB xu xd))⟩,⟨5,8,fun fv fw=>QV fw fw.heap.size fv (dn (av g.c2) (wv L) 1)⟩,⟨6,9,fun fv fw=>fv=.agg (DC g (.bool xn) (.slice xA xl xc) (.bool false) (.slice xB xu xd))⟩,⟨7,10,fun fv fw=>QV fw fw.heap.size fv (dn (av g.c3) (wv L) 2)⟩,⟨8,11,fun fv fw=>fv=.agg (DC g (.bool xn) (.slice xA xl xc) (.bool false) (.slice xB xu xd))⟩,⟨9,12,fun fv fw=>QV fw fw.heap.size fv (dn (av g.c4) (wv L) 3)⟩,⟨10,13,fun fv fw=>fv=.agg (DC g (.bool xn) (.slice xA xl xc) (.bool false) (.slice xB xu xd))⟩,⟨11,14,fun fv fw=>QV fw fw.heap.size fv (dn (av g.c5) (wv L) 4)⟩,⟨12,15,fun fv fw=>QS fw fw.heap.size fv [av g.c0,av g.c1*wv L,dn (av g.c2) (wv L) 1,dn (av g.c3) (wv L) 2,dn (av g.c4) (wv L) 3,dn (av g.c5) (wv L) 4]⟩,⟨13,16,fun fv fw=>QV fw fw.heap.size fv (shG g L)⟩] [] [] 1 (by kernel_rfl) (by kernel_rfl) (by kernel_rfl) (fun _ _ _ _ _ h=>h) ?_ ?_ ?_ ?_
 ·refine(a0 (all_cons (fun v w1 w2 h hb=>h.step hb) (a0 (all_cons (fun v w1 w2 h hb=>h.step hb) (a0 (all_cons (fun v w1 w2 h hb=>h.step hb) (a0 (all_cons (fun v w1 w2 h hb=>h.step hb) (a0 (all_cons (fun v w1 w2 h hb=>h.step hb) (a0 (all_cons (fun v w1 w2 h hb=>h.step hb) (all_cons (fun v w1 w2 h hb=>h.step hb) (all_cons (fun v w1 w2 h hb=>h.step hb) all_nil))))))))))))))
 ·refine(all_cons ?_ (all_cons ?_ (all_cons ?_ (all_cons ?_ (all_cons ?_ (all_cons ?_ (all_cons ?_ (all_cons ?_ (all_cons ?_ (all_cons ?_ (all_cons ?_ (all_cons ?_ (all_cons ?_ (all_cons ?_ all_nil))))))))))))))
  ·intro xs wk1 b0 d0;have N0:=zz b0;have O1:=b0.size;clear b0;clear d0;refine wpOp_step (o:=_) rfl (fun K hK=>?_);simp only[FL]
   rw[if_pos (show Region.wanted _ _=true from rfl)];have O0:=CB.step Ld N0.out;refine wp_load_row _ _ rfl _ rfl _ _ (0,0) _ O0 rfl rfl rfl ?_;refine hK _ _ ⟨.agg (DC g (.bool xn) (.slice xA xl xc) (.bool false) (.slice xB xu xd)),by kernel_rfl,Below.refl _ _,rfl,nF⟩
  ·intro xs wk3 b0 d0;have P0:=zz b0;have P1:=b0.size;clear b0;have f0:(xs 0)=.agg (DC g (.bool xn) (.slice xA xl xc) (.bool false) (.slice xB xu xd)):=d0 _ (m_ 0 rfl) (by kernel_rfl);clear d0;refine wpOp_step (o:=_) rfl (fun K hK=>?_);simp only[FL]
   go_simp;have Q0:=zz (QV.step V1.out P0.out);(with_reducible refine((show Calls Tryz.prog _ #[_,.int .i64 0,.int .i64 0] _ _ from term_any _ _ g L (DV.mk Q0.out) HL.out 0 (by decide) 0 (by decide))).mono ?_)
   rintro e wc5 ⟨m1,v5,rfl,o1⟩;refine hK _ _ ⟨v5,by simp only[FL,f0] <;> kernel_rfl,m1,o1,nF⟩
  ·intro xs wk6 b0 d0;have R0:=zz b0;have Q1:=b0.size;clear b0;clear d0;refine wpOp_step (o:=_) rfl (fun K hK=>?_);simp only[FL]
   rw[if_pos (show Region.wanted _ _=true from rfl)];have S0:=CB.step Ld R0.out;refine wp_load_row _ _ rfl _ rfl _ _ (0,0) _ S0 rfl rfl rfl ?_;refine hK _ _ ⟨.agg (DC g (.bool xn) (.slice xA xl xc) (.bool false) (.slice xB xu xd)),by kernel_rfl,Below.refl _ _,rfl,nF⟩
  ·intro xs S1 b0 d0;have T0:=zz b0;have T1:=b0.size;clear b0;have f2:(xs 2)=.agg (DC g (.bool xn) (.slice xA xl xc) (.bool false) (.slice xB xu xd)):=d0 _ (m_ 2 rfl) (by kernel_rfl);clear d0;refine wpOp_step (o:=_) rfl (fun K hK=>?_);simp only[FL]
   go_simp;have U0:=zz (QV.step V1.out T0.out);(with_reducible refine((show Calls Tryz.prog _ #[_,.int .i64 1,.int .i64 1] _ _ from term1_any _ _ g L (DV.mk U0.out) HL.out 1 (by decide))).mono ?_)
   rintro e wc10 ⟨V0,v10,rfl,W0⟩;refine hK _ _ ⟨v10,by simp only[FL,f2] <;> kernel_rfl,V0,W0,nF⟩
  ·intro xs r1 b0 d0;have j0:=zz b0;have s1:=b0.size;clear b0;clear d0;refine wpOp_step (o:=_) rfl (fun K hK=>?_);simp only[FL]
   rw[if_pos (show Region.wanted _ _=true from rfl)];have k0:=CB.step Ld j0.out;refine wp_load_row _ _ rfl _ rfl _ _ (0,0) _ k0 rfl rfl rfl ?_;refine hK _ _ ⟨.agg (DC g (.bool xn) (.slice xA xl xc) (.bool false) (.slice xB xu xd)),by kernel_rfl,Below.refl _ _,rfl,nF⟩
  ·intro xs t1 b0 d0;have l0:=zz b0;have v1:=b0.size;clear b0;have f4:(xs 4)=.agg (DC g (.bool xn) (.slice xA xl xc) (.bool false) (.slice xB xu xd)):=d0 _ (m_ 4 rfl) (by kernel_rfl);clear d0;refine wpOp_step (o:=_) rfl (fun K hK=>?_);simp only[FL]
   go_simp;have m0:=zz (QV.step V1.out l0.out);(with_reducible refine((show Calls Tryz.prog _ #[_,.int .i64 2,.int .i64 (-1)] _ _ from term_any _ _ g L (DV.mk m0.out) HL.out 2 (by decide) 1 (by decide))).mono ?_)
   rintro e wc15 ⟨X0,v15,rfl,Y0⟩;refine hK _ _ ⟨v15,by simp only[FL,f4] <;> kernel_rfl,X0,Y0,nF⟩
  ·intro xs y1 b0 d0;have n0:=zz b0;have z1:=b0.size;clear b0;clear d0;refine wpOp_step (o:=_) rfl (fun K hK=>?_);simp only[FL]
   rw[if_pos (show Region.wanted _ _=true from rfl)];have o0:=CB.step Ld n0.out;refine wp_load_row _ _ rfl _ rfl _ _ (0,0) _ o0 rfl rfl rfl ?_;refine hK _ _ ⟨.agg (DC g (.bool xn) (.slice xA xl xc) (.bool false) (.slice xB xu xd)),by kernel_rfl,Below.refl _ _,rfl,nF⟩
  ·intro xs C1 b0 d0;have p0:=zz b0;have D1:=b0.size;clear b0;have f6:(xs 6)=.agg (DC g (.bool xn) (.slice xA xl xc) (.bool false) (.slice xB xu xd)):=d0 _ (m_ 6 rfl) (by kernel_rfl);clear d0;refine wpOp_step (o:=_) rfl (fun K hK=>?_);simp only[FL]
   go_simp;have q0:=zz (QV.step V1.out p0.out);(with_reducible refine((show Calls Tryz.prog _ #[_,.int .i64 3,.int .i64 (-2)] _ _ from term_any _ _ g L (DV.mk q0.out) HL.out 3 (by decide) 2 (by decide))).mono ?_)
   rintro e wc20 ⟨Z0,v20,rfl,a1⟩;refine hK _ _ ⟨v20,by simp only[FL,f6] <;> kernel_rfl,Z0,a1,nF⟩
  ·intro xs E1 b0 d0;have r0:=zz b0;have F1:=b0.size;clear b0;clear d0;refine wpOp_step (o:=_) rfl (fun K hK=>?_);simp only[FL]
   rw[if_pos (show Region.wanted _ _=true from rfl)];have s0:=CB.step Ld r0.out;refine wp_load_row _ _ rfl _ rfl _ _ (0,0) _ s0 rfl rfl rfl ?_;refine hK _ _ ⟨.agg (DC g (.bool xn) (.slice xA xl xc) (.bool false) (.slice xB xu xd)),by kernel_rfl,Below.refl _ _,rfl,nF⟩
  ·intro xs G1 b0 d0;have t0:=zz b0;have H1:=b0.size;clear b0;have f8:(xs 8)=.agg (DC g (.bool xn) (.slice xA xl xc) (.bool false) (.slice xB xu xd)):=d0 _ (m_ 8 rfl) (by kernel_rfl);clear d0;refine wpOp_step (o:=_) rfl (fun K hK=>?_);simp only[FL]
   go_simp;have u0:=zz (QV.step V1.out t0.out);(with_reducible refine((show Calls Tryz.prog _ #[_,.int .i64 4,.int .i64 (-3)] _ _ from term_any _ _ g L (DV.mk u0.out) HL.out 4 (by decide) 3 (by decide))).mono ?_)
   rintro e wc25 ⟨b1,v25,rfl,e1⟩;refine hK _ _ ⟨v25,by simp only[FL,f8] <;> kernel_rfl,b1,e1,nF⟩
  ·intro xs I1 b0 d0;have v0:=zz b0;have J1:=b0.size;clear b0;clear d0;refine wpOp_step (o:=_) rfl (fun K hK=>?_);simp only[FL]
   rw[if_pos (show Region.wanted _ _=true from rfl)];have y0:=CB.step Ld v0.out;refine wp_load_row _ _ rfl _ rfl _ _ (0,0) _ y0 rfl rfl rfl ?_;refine hK _ _ ⟨.agg (DC g (.bool xn) (.slice xA xl xc) (.bool false) (.slice xB xu xd)),by kernel_rfl,Below.refl _ _,rfl,nF⟩
  ·intro xs K1 b0 d0;have A0:=zz b0;have L1:=b0.size;clear b0;have f10:(xs 10)=.agg (DC g (.bool xn) (.slice xA xl xc) (.bool false) (.slice xB xu xd)):=d0 _ (m_ 10 rfl) (by kernel_rfl);clear d0;refine wpOp_step (o:=_) rfl (fun K hK=>?_);simp only[FL]
   go_simp;have C0:=zz (QV.step V1.out A0.out);(with_reducible refine((show Calls Tryz.prog _ #[_,.int .i64 5,.int .i64 (-4)] _ _ from term_any _ _ g L (DV.mk C0.out) HL.out 5 (by decide) 4 (by decide))).mono ?_)
   rintro e wc30 ⟨g1,v30,rfl,h1⟩;refine hK _ _ ⟨v30,by simp only[FL,f10] <;> kernel_rfl,g1,h1,nF⟩
  ·intro xs g0 b0 d0;clear b0;have f1:QV g0 g0.heap.size (xs 1) (dn (av g.c0) (wv L) 0):=d0 _ (m_ 1 rfl) (by kernel_rfl);have f3:QV g0 g0.heap.size (xs 3) (av g.c1*wv L):=d0 _ (m_ 3 rfl) (by kernel_rfl);have f5:QV g0 g0.heap.size (xs 5) (dn (av g.c2) (wv L) 1):=d0 _ (m_ 5 rfl) (by kernel_rfl);have f7:QV g0 g0.heap.size (xs 7) (dn (av g.c3) (wv L) 2):=d0 _ (m_ 7 rfl) (by kernel_rfl);have f9:QV g0 g0.heap.size (xs 9) (dn (av g.c4) (wv L) 3):=d0 _ (m_ 9 rfl) (by kernel_rfl);have f11:QV g0 g0.heap.size (xs 11) (dn (av g.c5) (wv L) 4):=d0 _ (m_ 11 rfl) (by kernel_rfl);clear d0;refine wpOp_step (o:=_) rfl (fun K hK=>?_);simp only[FL]
   obtain⟨n1,A1,l1,c1,B1,u1,d1,hx1,hq1⟩:=QV.four f1;obtain⟨n3,A3,l3,c3,B3,u3,d3,hx3,hq3⟩:=QV.four f3;obtain⟨n5,A5,l5,c5,B5,u5,d5,hx5,hq5⟩:=QV.four f5;obtain⟨n7,A7,l7,c7,B7,u7,d7,hx7,hq7⟩:=QV.four f7;obtain⟨n9,A9,l9,c9,B9,u9,d9,hx9,hq9⟩:=QV.four f9;obtain⟨n11,A11,l11,c11,B11,u11,d11,hx11,hq11⟩:=QV.four f11;rw[hx1,hx3,hx5,hx7,hx9,hx11];go_simp;refine hK _ _ ⟨.slice (some ⟨g0.heap.size,0,none⟩) 6 6,by simp only[FL,hx1,hx3,hx5,hx7,hx9,hx11] <;> kernel_rfl,(Below.refl _ _).alloc (Nat.le_refl _) _,QS_new6 hq1 hq3 hq5 hq7 hq9 hq11,nF⟩
  ·intro xs h0 b0 d0;clear b0;have f12:QS h0 h0.heap.size (xs 12) [av g.c0,av g.c1*wv L,dn (av g.c2) (wv L) 1,dn (av g.c3) (wv L) 2,dn (av g.c4) (wv L) 3,dn (av g.c5) (wv L) 4]:=d0 _ (m_ 12 rfl) (by kernel_rfl);clear d0;refine wpOp_step (o:=_) rfl (fun K hK=>?_);simp only[FL]
   go_simp;(with_reducible refine((show Calls Tryz.prog _ _ _ _ from shE g L▸sum_any _ _ _ f12 (by simp) (shS HL.out).1 (shS HL.out).2)).mono ?_)
   rintro e wc33 ⟨i1,v33,rfl,j1⟩;refine hK _ _ ⟨v33,by kernel_rfl,i1,j1,nF⟩
 ·exact all_nil
 ·intro xs U1 hbf hf hn hd;have f0:(xs 0)=.agg (DC g (.bool xn) (.slice xA xl xc) (.bool false) (.slice xB xu xd)):=hf _ (m_ 0 rfl);have f1:QV U1 U1.heap.size (xs 1) (dn (av g.c0) (wv L) 0):=hf _ (m_ 1 rfl);have f2:(xs 2)=.agg (DC g (.bool xn) (.slice xA xl xc) (.bool false) (.slice xB xu xd)):=hf _ (m_ 2 rfl);have f3:QV U1 U1.heap.size (xs 3) (av g.c1*wv L):=hf _ (m_ 3 rfl);have f4:(xs 4)=.agg (DC g (.bool xn) (.slice xA xl xc) (.bool false) (.slice xB xu xd)):=hf _ (m_ 4 rfl);have f5:QV U1 U1.heap.size (xs 5) (dn (av g.c2) (wv L) 1):=hf _ (m_ 5 rfl);have f6:(xs 6)=.agg (DC g (.bool xn) (.slice xA xl xc) (.bool false) (.slice xB xu xd)):=hf _ (m_ 6 rfl);have f7:QV U1 U1.heap.size (xs 7) (dn (av g.c3) (wv L) 2):=hf _ (m_ 7 rfl);have f8:(xs 8)=.agg (DC g (.bool xn) (.slice xA xl xc) (.bool false) (.slice xB xu xd)):=hf _ (m_ 8 rfl);have f9:QV U1 U1.heap.size (xs 9) (dn (av g.c4) (wv L) 3):=hf _ (m_ 9 rfl);have f10:(xs 10)=.agg (DC g (.bool xn) (.slice xA xl xc) (.bool false) (.slice xB xu xd)):=hf _ (m_ 10 rfl);have f11:QV U1 U1.heap.size (xs 11) (dn (av g.c5) (wv L) 4):=hf _ (m_ 11 rfl);have f12:QS U1 U1.heap.size (xs 12) [av g.c0,av g.c1*wv L,dn (av g.c2) (wv L) 1,dn (av g.c3) (wv L) 2,dn (av g.c4) (wv L) 3,dn (av g.c5) (wv L) 4]:=hf _ (m_ 12 rfl);have f13:QV U1 U1.heap.size (xs 13) (shG g L):=hf _ (m_ 13 rfl);clear hf hn hd;simp only[FL]
  have B35:=zz hbf;have z35:=B35.out.size;have k1:=zz (B0.out.trans (B35.out.mono B0.out.size));clear hbf;generalize xs 0=x0,xs 1=x1,xs 2=x2,xs 3=x3,xs 4=x4,xs 5=x5,xs 6=x6,xs 7=x7,xs 8=x8,xs 9=x9,xs 10=x10,xs 11=x11,xs 12=x12,xs 13=x13 at *
  obtain rfl:=f0;clear f1;obtain rfl:=f2;clear f3;obtain rfl:=f4;clear f5;obtain rfl:=f6;clear f7;obtain rfl:=f8;clear f9;obtain rfl:=f10;clear f11;clear f12;obtain⟨Z1,a2,b2,d2,e2,D0,g2,rfl,ha37,i0,hc37⟩:=f13;have E0:=zz (show QV U1 U1.heap.size (.agg #[.bool Z1,.slice a2 b2 d2,.bool false,.slice e2 D0 g2]) (shG g L) from⟨_,_,_,_,_,_,_,rfl,ha37,i0,hc37⟩);clear ha37 i0 hc37;have e0:=CB.step Lr2 B35.out;have F0:=e0.cell 0 rfl;have G0:=e0.cell 1 rfl;have H0:=e0.cell 2 rfl;have I0:=e0.cell 3 rfl;have X1:=e0.lt;have J0:=e0.frozen 0;have K0:=e0.frozen 1;have L0:=e0.frozen 2;have M0:=e0.frozen 3;have Y1:=e0.lt;refine Early.next (i:=14) (by kernel_rfl) rfl (fun K hK=>?_);go_simp;refine hK _ _ (fun _=>trivial) ?_;clear hK K;(try simp only[Act.put,List.setIfInBounds_toArray,List.set_cons_zero,List.set_cons_succ])
  clear F0 G0 H0 I0 X1 J0 K0 L0 M0 Y1;refine Early.done (by kernel_rfl) ?_ _;(try simp only[Exit.then])
  go_wp2;exact QB.fin1 rfl e0 (by simp[noInt_b,noInt_s]) k1.out (by omega) E0.out rfl
end Go.Proofs.YtkhljkiehohckaaGreatDoor
