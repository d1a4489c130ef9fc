/- The law GlassFalls (written by gen_gfalls.py). -/
import Derived.Test.YtkhljkiehohckaaGreatDoorGw
import Derived.Test.YtkhljkiehohckaaGreatDoorGm
import Derived.Test.YtkhljkiehohckaaGreatDoorGq
namespace Go.Proofs.YtkhljkiehohckaaGreatDoor
open Go Go.RowKit Dig
set_option maxRecDepth 100000 in
theorem flK_idx (g:GL) (j:Nat) (h:j<6):∀ w,(Instr.index 30 (.agg #[.int .i64 g.c0,.int .i64 g.c1,.int .i64 g.c2,.int .i64 g.c3,.int .i64 g.c4,.int .i64 g.c5]) (.int .i64 (j:Int))).run Tryz.prog w=.ok (.int .i64 (g.c j)) w:=by
 match j,h with
 | 0,_=>exact fun _=>by kernel_rfl
 | 1,_=>exact fun _=>by kernel_rfl
 | 2,_=>exact fun _=>by kernel_rfl
 | 3,_=>exact fun _=>by kernel_rfl
 | 4,_=>exact fun _=>by kernel_rfl
 | 5,_=>exact fun _=>by kernel_rfl
theorem setc_c (g:GL) {i:Nat} (h:i<6) (v:Int):(g.setc i v).c i=v:=by
 rcases i with _ | _ | _ | _ | _ | _ | i
 all_goals first | rfl | omega
theorem setc_setc (g:GL) (i:Nat) (u v:Int):(g.setc i u).setc i v=g.setc i v:=by
 rcases i with _ | _ | _ | _ | _ | i <;> rfl
theorem falls_facts {d:DR} (h:d.wf) {a b m e n f:Int} (ha:300000≤a) (hab:a≤b) (hb:b≤2500000) (h1:inG (flK d 6) a=(n,e)) (h2:inG (flK d 6) b=(m,f)) :
  (f=6∧e=6)∨(f=0∧e=6∧10000000≤m)∨(f=0∧e=0∧10000000≤m∧m≤n):=by
 obtain⟨ok,hf,hc,hlo,hhi⟩:=flK_ok h;have la:okL (flK d 6) a:=⟨ok,by omega,by omega⟩;have lb:okL (flK d 6) b:=⟨ok,by omega,by omega⟩;have ea:erG (flK d 6) a=0:=by rw[erG,if_pos ok,if_neg (by omega)]
 have eb:erG (flK d 6) b=0:=by rw[erG,if_pos ok,if_neg (by omega)]
 rw[inG,if_pos ea] at h1;rw[inG,if_pos eb] at h2;have hl:=falls_law la lb hf hab hc;rw[h1,h2] at hl;simp only at hl
 split at hl
 ·rcases hl with ⟨q1,q2 | q2⟩
  ·exact .inr (.inl ⟨by assumption,q2,q1⟩)
  ·exact .inr (.inr ⟨by assumption,q2.1,q1,q2.2⟩)
 ·exact .inl hl
set_option linter.unusedVariables false in
set_option maxRecDepth 100000 in
set_option maxHeartbeats 8000000 in
theorem GlassFalls_any (w:World) (G:GF w) (d:DR) (hd:d.wf) (x:Int) (hx:0≤x∧x≤65535) (y:Int) (hy:0≤y∧y≤65535) :
  Calls Tryz.prog 6 #[.agg #[.int .u8 d.f,.int .i8 d.a0,.int .i8 d.a1,.int .i8 d.a2,.int .i8 d.a3,.int .i8 d.a4,.int .i8 d.a5,.int .u8 d.nm,.int .u8 d.lo,.int .u8 d.wd],.int .u16 x,.int .u16 y] w fun e w'=>Below w.heap.size w w'∧e=.returned (.bool true):=by
 replace G:=zz G;obtain⟨w0,hw0⟩:∃ w0:World,w0=(w.alloc (.cells #[.int .u8 d.f,.int .i8 d.a0,.int .i8 d.a1,.int .i8 d.a2,.int .i8 d.a3,.int .i8 d.a4,.int .i8 d.a5,.int .u8 d.nm,.int .u8 d.lo,.int .u8 d.wd] 25)):=⟨_,rfl⟩;have B0:=zz (n1_b hw0);have z0:=n1_z hw0;have Ld:=n1_0 hw0;go_enter Tryz.func6,Tryz.ntmps6
 go_upto_region 1 with (fail)
 rw[← hw0];clear hw0;go_wp2_with fail
 refine(wakes_any _ (G.out.step B0.out)).mono ?_;rintro e w1 ⟨D0,rfl⟩;have B2:=zz D0;have z2:=B2.out.size;have E0:=zz (B0.out.trans (B2.out.mono B0.out.size));clear D0;have b0:=CB.step Ld B2.out;have H0:=b0.cell 0 rfl;have I0:=b0.cell 1 rfl;have J0:=b0.cell 2 rfl;have K0:=b0.cell 3 rfl;have L0:=b0.cell 4 rfl;have M0:=b0.cell 5 rfl;have N0:=b0.cell 6 rfl;have O0:=b0.cell 7 rfl;have P0:=b0.cell 8 rfl;have Q0:=b0.cell 9 rfl;have b1:=b0.lt;go_wp2_with fail
 refine(DGlass_any _ d hd).mono ?_;rintro e w4 ⟨F0,rfl⟩;have B7:=zz F0;have z7:=B7.out.size;have G0:=zz (E0.out.trans (B7.out.mono E0.out.size));clear F0;clear H0 I0 J0 K0 L0 M0 N0 O0 P0 Q0 b1;go_upto_region 4 with (refine wpList_store_row rfl _ _ _ rfl _ _ rfl rfl _ _ (CB.new _ _ _) rfl rfl (by kernel_rfl) ?_)
 (try simp only[Act.put])
 obtain⟨w9,hwd⟩:∃ nw:World,nw=(w4.alloc (.cells #[.string ⟨#[]⟩,.int .i64 0,.int .i64 0,.int .i64 0,.int .i64 0,.int .i64 0,.int .i64 0,.int .i64 0,.int .i64 0,.int .i64 0] 32)).setRow w4.heap.size (GC (drG d)):=⟨_,rfl⟩;rw[← hwd];have d0:CB w9 w4.heap.size 32 (GC (drG d)):=by rw[hwd];exact(CB.new _ _ _).row _
 have zd9:=d0.lt;have hbd:Below w4.heap.size w4 w9:=by rw[hwd];exact below_row ((Below.refl _ _).alloc (Nat.le_refl _) _) (Nat.le_refl _) _
 have B10:=zz hbd;have z10:=B10.out.size;have R0:=zz (G0.out.trans (B10.out.mono G0.out.size));clear hbd hwd;obtain⟨fz,hfz⟩:∃ z,(drG d).f=z:=⟨_,rfl⟩;obtain⟨lz,hlz⟩:∃ z,(drG d).lo=z:=⟨_,rfl⟩;obtain⟨hz,hhz⟩:∃ z,(drG d).hi=z:=⟨_,rfl⟩;have qc1:w9.cell? ⟨w4.heap.size,1,none⟩=some (.int .i64 fz):=by rw[← hfz];exact d0.cell 1 rfl
 have qz1:=d0.frozen 1;have qc8:w9.cell? ⟨w4.heap.size,8,none⟩=some (.int .i64 lz):=by rw[← hlz];exact d0.cell 8 rfl
 have qz8:=d0.frozen 8;have qc9:w9.cell? ⟨w4.heap.size,9,none⟩=some (.int .i64 hz):=by rw[← hhz];exact d0.cell 9 rfl
 have qz9:=d0.frozen 9;have ql:=d0.lt;clear hfz hlz hhz;go_upto_region 5 with (fail)
 clear qc1 qc8 qc9 qz1 qz8 qz9 ql;obtain⟨w12,g0⟩:∃ w12:World,w12=w9.setCell ⟨w4.heap.size,1,none⟩ (.int .i64 1):=⟨_,rfl⟩;rw[← g0];have s0:CB w12 (w4.heap.size) 32 (GC { drG d with f:=1 }):=by rw[g0];exact(show CB _ _ _ (GC { drG d with f:=1 }) from CB.set d0 1 _)
 have t0:=zz (p1_b g0 R0.out (by omega));have S0:=p1_z g0;clear g0;obtain⟨w13,h0⟩:∃ w13:World,w13=w12.setCell ⟨w4.heap.size,8,none⟩ (.int .i64 300000):=⟨_,rfl⟩;rw[← h0];have u0:CB w13 (w4.heap.size) 32 (GC { drG d with f:=1,lo:=300000 }):=by rw[h0];exact(show CB _ _ _ (GC { drG d with f:=1,lo:=300000 }) from CB.set s0 8 _)
 have v0:=zz (p1_b h0 t0.out (by omega));have T0:=p1_z h0;clear h0;obtain⟨w14,i0⟩:∃ w14:World,w14=w13.setCell ⟨w4.heap.size,9,none⟩ (.int .i64 2500000):=⟨_,rfl⟩;rw[← i0];have e0:CB w14 (w4.heap.size) 32 (GC (flK d 0)):=by rw[i0];exact(show CB _ _ _ (GC (flK d 0)) from CB.set u0 9 _)
 have x0:=zz (p1_b i0 v0.out (by omega));have U0:=p1_z i0;clear i0;have q0:w14.cell? ⟨w4.heap.size,2,none⟩=some (.int .i64 (drG d).c0):=e0.cell 2 rfl;have q1:w14.cell? ⟨w4.heap.size,3,none⟩=some (.int .i64 (drG d).c1):=e0.cell 3 rfl;have q2:w14.cell? ⟨w4.heap.size,4,none⟩=some (.int .i64 (drG d).c2):=e0.cell 4 rfl;have q3:w14.cell? ⟨w4.heap.size,5,none⟩=some (.int .i64 (drG d).c3):=e0.cell 5 rfl;have q4:w14.cell? ⟨w4.heap.size,6,none⟩=some (.int .i64 (drG d).c4):=e0.cell 6 rfl;have q5:w14.cell? ⟨w4.heap.size,7,none⟩=some (.int .i64 (drG d).c5):=e0.cell 7 rfl;go_wp2;clear q0 q1 q2 q3 q4 q5;have d1:=zz (show w.heap.size≤w4.heap.size by omega);go_loopw [25] (fun iv wr=>∃ k:Nat,k≤6∧iv=.int .i64 k∧Hid (CB wr (w4.heap.size) 32 (GC (flK d k)))∧Hid (Below w.heap.size w wr)) (fun iv _=>6-(intOf iv).toNat)
 case atStart=>exact⟨0,by decide,rfl,zz e0,x0⟩
 case round=>
  obtain⟨k,hk,rfl,HG,HW⟩:=hrel;have zr:=HW.out.size;by_cases hlt:k<6
  ·have hli:(k:Int)<6:=by omega
   have hl0:(0:Int)≤(k:Int):=by omega
   obtain⟨c,hc⟩:∃ c,(drG d).c k=c:=⟨_,rfl⟩;have hcb:=drG_c hd k;rw[hc] at hcb;have e1:=zz hc;have hcb1:-3000000000≤c∧c≤3000000000:=⟨hcb.1,hcb.2.1⟩;clear hcb;have hidx:=flK_idx (drG d) k hlt;rw[hc] at hidx;clear hc;obtain⟨v,hv⟩:∃ v,max c (-c)=v:=⟨_,rfl⟩;have hvb:0≤v∧v≤3000000000:=by omega
   have HV:=zz hv;have hw1:wrap64 (-c)=-c:=IntWalk.wrap64_in _ (by omega);obtain⟨c0,hc0⟩:∃ z,(flK d k).c k=z:=⟨_,rfl⟩;have qc:=GC_c HG.out hlt;rw[hc0] at qc;clear hc0;have qg:=HG.out.frozen (2+k);have qgl:=HG.out.lt;go_upto_region 9 with (fail)
   clear qc qg qgl hidx hw1 hv;obtain⟨w15,j0⟩:∃ w15:World,w15=wr.setCell ⟨w4.heap.size,2+k,none⟩ (.int .i64 v):=⟨_,rfl⟩;rw[← j0];have f0:CB w15 (w4.heap.size) 32 (GC ((flK d k).setc k v)):=by rw[j0];exact(CB.setc HG.out hlt v)
   have n0:=zz (p1_b j0 HW.out (by have:=d1.out;omega));have V0:=p1_z j0;clear j0;rcases(show k % 2=1∨k % 2=0 by omega) with hp | hp
   ·have hpi:(k:Int) % 2=1:=by omega
    obtain⟨u,hu⟩:∃ u,v % 60000000=u:=⟨_,rfl⟩;have HU:=zz hu;clear hu;have hw2:v.tmod 60000000=u:=by rw[Int.tmod_eq_emod_of_nonneg hvb.1];exact HU.out
    have hw3:v % 60000000=u:=HU.out;have hub:0≤u∧u<60000000:=by omega
    have qc:w15.cell? ⟨w4.heap.size,2+k,none⟩=some (.int .i64 v):=by have h:=GC_c f0 hlt;rw[setc_c _ hlt] at h;exact h
    have qg:=f0.frozen (2+k);have qgl:=f0.lt;go_upto_region 11 with (fail)
    clear qc qg qgl hw2 hw3;obtain⟨w16,l0⟩:∃ w16:World,w16=w15.setCell ⟨w4.heap.size,2+k,none⟩ (.int .i64 u):=⟨_,rfl⟩;rw[← l0];have y0:CB w16 (w4.heap.size) 32 (GC (flK d (k+1))):=by rw[l0];exact(by rw[show flK d (k+1)=((flK d k).setc k v).setc k u by rw[setc_setc];show(flK d k).setc k (flc k ((drG d).c k))=_;rw[flc,if_pos hp,e1.out,HV.out,HU.out]];exact CB.setc f0 hlt u)
    have A0:=zz (p1_b l0 n0.out (by have:=d1.out;omega));have W0:=p1_z l0;clear l0;go_wp2;go_roundw
    case rel=>exact⟨k+1,by omega,by go_num,zz y0,A0⟩
    case measure=>simp[intOf];omega
   ·have hpi:(k:Int) % 2=0:=by omega
    have Lgy:CB w15 (w4.heap.size) 32 (GC (flK d (k+1))):=by rw[show flK d (k+1)=(flK d k).setc k v by show(flK d k).setc k (flc k ((drG d).c k))=_;rw[flc,if_neg (by omega),e1.out,HV.out]];exact f0
    go_upto_region 11 with (fail)
    go_wp2;go_roundw
    case rel=>exact⟨k+1,by omega,by go_num,zz Lgy,n0⟩
    case measure=>simp[intOf];omega
  ·obtain rfl:k=6:=by omega
   rw[show((6:Nat):Int)=6 from rfl];obtain⟨gg,hgg⟩:∃ x,flK d 6=x:=⟨_,rfl⟩;have hnm:gg.nm.size≤1000:=(by rw[← hgg,show(flK d 6).nm=(drG d).nm from rfl,drG_nm hd];decide);rw[hgg] at HG;have f1:=zz hgg;clear hgg;obtain⟨p,hp⟩:∃ p,min x y=p:=⟨_,rfl⟩;obtain⟨q,hq⟩:∃ q,max x y=q:=⟨_,rfl⟩;have hpq:0≤p∧p≤q∧q≤65535:=by omega
   obtain⟨a,ha⟩:∃ a,300000+30*p=a:=⟨_,rfl⟩;obtain⟨b,hb⟩:∃ b,300000+30*q=b:=⟨_,rfl⟩;have Z0:=zz (show 300000≤a∧a≤b∧b≤2500000 by omega);have hw1:wrap64 (30*p)=30*p:=IntWalk.wrap64_in _ (by omega);have hw2:wrap64 (30*q)=30*q:=IntWalk.wrap64_in _ (by omega);have hw3:wrap64 (300000+30*p)=a:=by rw[ha];exact IntWalk.wrap64_in _ (by omega)
   have hw4:wrap64 (300000+30*q)=b:=by rw[hb];exact IntWalk.wrap64_in _ (by omega)
   obtain⟨⟨n,e⟩,h1⟩:∃ z,inG gg a=z:=⟨_,rfl⟩;obtain⟨⟨m,f⟩,h2⟩:∃ z,inG gg b=z:=⟨_,rfl⟩;have j1:=zz h1;have l1:=zz h2;have m1:=falls_facts (a:=a) (b:=b) (m:=m) (e:=e) (n:=n) (f:=f) hd Z0.out.1 Z0.out.2.1 Z0.out.2.2 (by rw[f1.out];exact h1) (by rw[f1.out];exact h2);clear h1 h2;have GW:=zz (G.out.step HW.out);go_wp2_with (refine wpList_load_row rfl _ _ rfl _ rfl _ _ (0,0) _ HG.out rfl rfl rfl ?_)
   refine(idxG (GW.out.step (Below.refl _ _)) hnm j1.out).mono ?_;rintro e w17 ⟨o0,rfl⟩;have B18:=zz o0;have z18:=B18.out.size;have p0:=zz (HW.out.trans (B18.out.mono HW.out.size));clear o0;have C0:=CB.step HG.out B18.out;go_wp2_with (refine wpList_load_row rfl _ _ rfl _ rfl _ _ (0,0) _ C0 rfl rfl rfl ?_)
   refine(idxG (GW.out.step B18.out) hnm l1.out).mono ?_;rintro e w21 ⟨r0,rfl⟩;have B22:=zz r0;have z22:=B22.out.size;have m0:=zz (p0.out.trans (B22.out.mono p0.out.size));clear r0;rcases m1 with ⟨rfl,rfl⟩ | ⟨rfl,rfl,h⟩ | ⟨rfl,rfl,h,h'⟩
   ·have k9:True:=trivial;go_wp2;go_ret;exact⟨m0.out,rfl⟩
   ·have k9:True:=trivial;have k0:decide (10000000≤m)=true:=decide_eq_true h;go_wp2;go_ret;exact⟨m0.out,rfl⟩
   ·have k9:True:=trivial;have k0:decide (10000000≤m)=true:=decide_eq_true h;have k1:decide (m≤n)=true:=decide_eq_true h';go_wp2;go_ret;exact⟨m0.out,rfl⟩
end Go.Proofs.YtkhljkiehohckaaGreatDoor
