/- The law GlassFlat (written by gen_gflat.py). -/
import Derived.Test.YtkhljkiehohckaaGreatDoorGw
import Derived.Test.YtkhljkiehohckaaGreatDoorGm
import Derived.Test.YtkhljkiehohckaaGreatDoorGq
namespace Go.Proofs.YtkhljkiehohckaaGreatDoor
open Go Go.RowKit Dig
def flatG (k:Int):GL:=⟨⟨#[102,108,97,116]⟩,2,100*k,0,0,0,0,0,300000,2500000⟩
theorem flat_ok {k:Int} (h:10000000≤k∧k≤40000000):okG (flatG k):=by
 refine⟨⟨show nmB ⟨#[102,108,97,116]⟩=true by decide,show(⟨#[102,108,97,116]⟩:ByteArray)≠mirB by decide,show(300000:Int)≤300000 by decide,show(300000:Int)≤2500000 by decide,show(2500000:Int)≤2500000 by decide,show(1:Int)≤2 by decide,show(2:Int)≤3 by decide⟩,fun i hi=>?_⟩;have e:(flatG k).f=2:=rfl;have hc:-1000000000000≤(flatG k).c i∧(flatG k).c i≤1000000000000∧(2<i→(flatG k).c i=0):=by
  rcases i with _ | _ | _ | _ | _ | i <;> simp only[flatG,GL.c] <;> refine⟨?_,?_,fun e=>?_⟩ <;> first | omega | trivial
 rintro(h1 | h1 | h1 | h1)
 ·omega
 ·omega
 ·rw[e] at h1;omega
 ·exact h1.2.2 (hc.2.2 h1.2.1)
theorem flat_in {k L:Int} (h:10000000≤k∧k≤40000000) (hL:300000≤L∧L≤2500000):inG (flatG k) L=(k,0):=by
 have he:erG (flatG k) L=0:=by
  rw[erG,if_pos (flat_ok h),if_neg]
  show ¬ (L<300000∨2500000<L)
  omega
 rw[inG,if_pos he];exact flat_law rfl rfl rfl rfl h L
theorem flat_ab {k:Int} (h:10000000≤k∧k≤40000000):abG (flatG k)=(none,7)∧paG (flatG k) 300000 2500000=(none,7):=by
 constructor
 ·rw[abG,flat_in h (by decide),flat_in h (by decide),flat_in h (by decide),if_neg (fun e=>e rfl),if_neg (fun e=>e rfl),if_neg (fun e=>e rfl),mkQ,if_pos (by simp only;omega)]
 ·rw[paG,flat_in h (by decide),flat_in h (by decide),flat_in h (by decide),flat_in h (by decide),if_neg (fun e=>e rfl),if_neg (fun e=>e rfl),if_neg (fun e=>e rfl),if_neg (fun e=>e rfl),mkQ,if_pos (by simp only;omega)]
theorem paNo {w:World} (G:GF w) {g:GL} {x y r:Int} (hs:g.nm.size≤1000) (h:paG g x y=(none,r)) :
  Calls Tryz.prog 30 #[.agg (GC g),.int .i64 x,.int .i64 y] w fun e w'=>Below w.heap.size w w'∧∃ v,e=.returned (.tuple #[v,.int .i64 r])∧QO w' w'.heap.size v none:=by
 have k:=Partial_G w G g hs x y;rw[h] at k;exact k
set_option linter.unusedVariables false in
set_option maxRecDepth 100000 in
set_option maxHeartbeats 8000000 in
theorem GlassFlat_any (w:World) (G:GF w) (n:Int) (hn:0≤n∧n≤4294967295) (len:Int) (hlen:-9223372036854775808≤len∧len≤9223372036854775807) :
  Calls Tryz.prog 8 #[.int .u32 n,.int .i64 len] w fun e w'=>Below w.heap.size w w'∧e=.returned (.bool true):=by
 replace G:=zz G;have B0:=zz (Below.refl w.heap.size w);go_enter Tryz.func8,Tryz.ntmps8
 go_upto_region 1 with (fail)
 go_wp2_with fail
 refine(wakes_any _ (G.out.step B0.out)).mono ?_;rintro e w1 ⟨m0,rfl⟩;have B2:=zz m0;have z2:=B2.out.size;have n0:=zz (B0.out.trans (B2.out.mono B0.out.size));clear m0;obtain⟨r,hr⟩:∃ r,n % 30000001=r:=⟨_,rfl⟩;have hrb:0≤r∧r≤30000000:=by omega
 have HK:=zz (show 10000000≤10000000+r∧10000000+r≤40000000 by omega);obtain⟨u,hu⟩:∃ u,IntKind.u64.wrap len=u:=⟨_,rfl⟩;have hub:0≤u:=by rw[← hu];exact Int.emod_nonneg _ (by decide)
 obtain⟨q,hq⟩:∃ q,u % 2200001=q:=⟨_,rfl⟩;have hqb:0≤q∧q≤2200000:=by omega
 have ht:u.tmod 2200001=q:=by rw[Int.tmod_eq_emod_of_nonneg hub];exact hq
 have HL:=zz (show 300000≤300000+q∧300000+q≤2500000 by omega);go_upto_region 5 with (fail)
 obtain⟨w4,c0⟩:∃ w4:World,w4=(w1.alloc (.cells #[.string ⟨#[102,108,97,116]⟩,.int .i64 2,.int .i64 (100*(10000000+r)),.int .i64 0,.int .i64 0,.int .i64 0,.int .i64 0,.int .i64 0,.int .i64 300000,.int .i64 2500000] 32)):=⟨_,rfl⟩;rw[← c0];have p0:=n1_0 c0;have za4:=n1_z c0;have B5:=zz (n1_b c0);have z5:=B5.out.size;have f0:=zz (n0.out.trans (B5.out.mono n0.out.size));clear c0;have Lgx:CB w4 w1.heap.size 32 (GC (flatG (10000000+r))):=p0;have hsz:(flatG (10000000+r)).nm.size≤1000:=by show(4:Nat)≤1000;decide
 go_wp2_with (refine wpList_load_row rfl _ _ rfl _ rfl _ _ (0,0) _ Lgx rfl rfl rfl ?_)
 refine(idxG (G.out.step f0.out) hsz (flat_in HK.out HL.out)).mono ?_;rintro e w7 ⟨o0,rfl⟩;have B8:=zz o0;have z8:=B8.out.size;have g0:=zz (f0.out.trans (B8.out.mono f0.out.size));clear o0;have e0:=CB.step Lgx B8.out;go_wp2_with (refine wpList_load_row rfl _ _ rfl _ rfl _ _ (0,0) _ e0 rfl rfl rfl ?_)
 refine(abNo (G.out.step g0.out) hsz (flat_ab HK.out).1).mono ?_;rintro e w11 ⟨h0,v,rfl,hv⟩;have B12:=zz h0;have z12:=B12.out.size;have i0:=zz (g0.out.trans (B12.out.mono g0.out.size));clear h0;obtain⟨n1,A,l',c',m,A',l'',c'',rfl⟩:=QO.cells hv;clear hv;go_upto_region 7 with (fail)
 obtain⟨w14,a0⟩:∃ w14:World,w14=(w11.alloc (.cells #[.bool n1,.slice A l' c',.bool m,.slice A' l'' c''] 43)):=⟨_,rfl⟩;rw[← a0];have s0:=n1_0 a0;have za14:=n1_z a0;have B15:=zz (n1_b a0);have z15:=B15.out.size;have d0:=zz (i0.out.trans (B15.out.mono i0.out.size));clear a0;have P4_6_18:=zz (B12.out.trans (B15.out.mono B12.out.size));have l0:=CB.step e0 P4_6_18.out;go_wp2_with (refine wpList_load_row rfl _ _ rfl _ rfl _ _ (0,0) _ l0 rfl rfl rfl ?_)
 refine(paNo (G.out.step d0.out) hsz (flat_ab HK.out).2).mono ?_;rintro e w19 ⟨j0,v,rfl,hv⟩;have B20:=zz j0;have z20:=B20.out.size;have k0:=zz (d0.out.trans (B20.out.mono d0.out.size));clear j0;obtain⟨n2,B,k',d',m2,B',k'',d'',rfl⟩:=QO.cells hv;clear hv;go_upto_region 8 with (fail)
 obtain⟨w22,b0⟩:∃ w22:World,w22=(w19.alloc (.cells #[.bool n2,.slice B k' d',.bool m2,.slice B' k'' d''] 43)):=⟨_,rfl⟩;rw[← b0];have r0:=n1_0 b0;have za22:=n1_z b0;have B23:=zz (n1_b b0);have z23:=B23.out.size;have q0:=zz (k0.out.trans (B23.out.mono k0.out.size));clear b0;go_wp2;go_ret;exact⟨q0.out,rfl⟩
end Go.Proofs.YtkhljkiehohckaaGreatDoor
