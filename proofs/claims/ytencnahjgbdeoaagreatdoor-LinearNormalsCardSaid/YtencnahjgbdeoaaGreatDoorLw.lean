/- Layer 35. -/
import Derived.Test.YtencnahjgbdeoaaGreatDoorLu
namespace Go.Proofs.YtencnahjgbdeoaaGreatDoor
open Go Go.RowKit Dig
set_option maxRecDepth 100000
set_option maxHeartbeats 4000000
set_option linter.unusedSimpArgs false
def AG (l:List Int) (v:Int):Int:=if v∈l then (l.idxOf v:Int) else -1
theorem aBi {l:List Int} {v:Int} {j:Nat} (h:j<l.length) (hv:v=l[j]) (hn:v∉l.take j):AG l v=(j:Int):=by
 have hm:v∈l:=by rw[hv];exact aEc h
 rw[AG,aEv hm]
 congr 1
 have h1:l=l.take j++v :: l.drop (j+1):=by rw[hv,← aFd h,aHw]
 have h2:(l.take j++v :: l.drop (j+1)).idxOf v=j:=by
  rw[List.idxOf_append,aEu hn,List.idxOf_cons_self,aEk,aFw (aMr h)];simp
 rwa [← h1] at h2
theorem ZM {l:List Int} {v:Int}:decide (0≤AG l v)=decide (v∈l):=by
 unfold AG;by_cases h:v∈l
 ·rw[aEv h,aEj h];exact aEj (by omega)
 ·rw[aEu h,aEe h];rfl
def jQ (M:List (List QX)) (b:List QX) (C:List (List QX)) (f:List QX):Bool:=decide (b.length=M.length)&&(decide (f.length=C.length)&&decide ((C.getD 0 []).length=(M.getD 0 []).length))
theorem qD (w:World) (A:Option Addr) (n c:Nat) (l:List Int) (v:Int) (h:RI w w.heap.size (.slice A n c) l) :
  CV 74 #[.slice A n c,.int .i64 v] w fun e _=>e=.returned (.int .i64 (AG l v)):=by
 obtain rfl:=RI.len h;have HE:=zz h;clear h;have hcc:(l.length:Int)≤9223372036854775807:=by obtain⟨A1,c1,-,h1,h2,-⟩:=HE.o;omega
 have a0:=zz (aDy w.heap.size w);go_enter Tryz.func74,Tryz.ntmps74
 go_wp2;go_loopw [8] (fun iv wr=>∃ j:Nat,j≤l.length∧iv=.int .i64 j∧Hi (v∉l.take j)∧Hi (Below w.heap.size w wr)) (fun iv _=>l.length-(intOf iv).toNat)
 case atStart=>exact⟨0,aEy _,rfl,zz (by simp),a0⟩
 case round=>
  obtain⟨j,hj,rfl,HZ,HW⟩:=hrel;have zr:=HW.o.size;by_cases hlt:j<l.length
  ·obtain⟨A1,c1,he,-,-,hx⟩:=HE.o;injection he with he1 he2 he3;subst he1;subst he3;obtain⟨g,off,rfl,hg,hx⟩:=hx (by omega)
   have q0:=(HW.o.cell (p:=⟨g,off+j,none⟩) hg).trans (hx j hlt);clear hx;have hji:(0:Int)≤(j:Int)∧(j:Int)<(l.length:Int):=by omega
   have htk:l.take (j+1)=l.take j++[l[j]]:=by rw[aFj,aEh hlt];rfl
   obtain⟨x,hxj⟩:=ex (l[j]);rw[← hxj] at q0 htk;have e0:=zz hxj;have f0:=zz htk;clear htk hxj;by_cases hx0:v=x
   ·have g0:=zz (show AG l v=(j:Int) from aBi hlt (hx0.trans e0.o) HZ.o);subst hx0;go_wp2;go_ret;exact⟨HW.o,by rw[g0.o];rfl⟩
   ·have hx1:(v==x)=false:=by rw[aEo];exact hx0
    have h0:=zz (show v∉l.take (j+1) from fun h=>by rw[f0.o] at h;rcases aGb.1 h with h | h;exact HZ.o h;exact hx0 (aHt.1 h));clear hx0;go_wp2;go_roundw
    case rel=>exact⟨j+1,hlt,by go_num,h0,HW⟩
    case measure=>exact ms
  ·obtain rfl:j=l.length:=by omega
   rw[aFe] at HZ;go_wp2;go_ret;exact⟨HW.o,by rw[show AG l v=-1 from aEu HZ.o];rfl⟩
theorem yD (w:World) (A:Option Addr) (n c:Nat) (l:List Int) (v:Int) (h:RI w w.heap.size (.slice A n c) l) :
  CV 75 #[.slice A n c,.int .i64 v] w fun e _=>e=.returned (.bool (decide (v∈l))):=by
 have HH:=zz h;clear h;go_enter Tryz.func75,Tryz.ntmps75
 go_wp2_with fail
 refine(qD _ A n c l v HH.o).mono ?_;rintro e w1 ⟨hb,rfl⟩;have HB:=zz hb;clear hb;go_wp2;go_ret;exact⟨HB.o,by rw[ZM];rfl⟩
theorem CI (w:World) (ba bb bc bf:Nat) (Aa Ab Ac Af:Option Addr) (ca cb cc cf:Nat) (M:List (List QX)) (b:List QX) (C:List (List QX)) (f:List QX) (hA:CB w ba 22 #[.slice Aa M.length ca]) (hQ:QM w w.heap.size (.slice Aa M.length ca) M) (hM:0<M.length) (hB:CB w bb 23 #[.slice Ab b.length cb]) (hC:CB w bc 22 #[.slice Ac C.length cc]) (m0:QM w w.heap.size (.slice Ac C.length cc) C) (hCp:0<C.length) (hF:CB w bf 23 #[.slice Af f.length cf]) :
  CV 69 #[.pointer (some ⟨bb,0,none⟩),.pointer (some ⟨ba,0,none⟩),.pointer (some ⟨bf,0,none⟩),.pointer (some ⟨bc,0,none⟩)] w fun e _=>e=.returned (.bool (jQ M b C f)):=by
 obtain⟨g0,off0,A0,c0,rfl,hg0,hc0,-⟩:=aKy hQ hM;rw[aGd] at hc0;obtain⟨g1,off1,A1,c1,rfl,hg1,hc1,-⟩:=aKy m0 hCp;rw[aGd] at hc1;have hl1:=aHb hQ;have hl2:=aHb m0;have hmi:(0:Int)<(M.length:Int):=by omega
 have hci:(0:Int)<(C.length:Int):=by omega
 obtain⟨v0,a0⟩:∃ v,v=(M.getD 0 []).length:=⟨_,rfl⟩;rw[show M[0].length=v0 by rw[a0,aG hM]] at hc0;obtain⟨v1,b0⟩:∃ v,v=(C.getD 0 []).length:=⟨_,rfl⟩;rw[show C[0].length=v1 by rw[b0,aG hCp]] at hc1;have hdf:jQ M b C f=(decide (b.length=M.length)&&(decide (f.length=C.length)&&decide (v1=v0))):=by unfold jQ;rw[a0,b0]
 rw[hdf];have HA:=zz hA;have HB:=zz hB;have HC:=zz hC;have HF:=zz hF;have p0:=zz hc0;have q0:=zz hg0;have s0:=zz hc1;have t0:=zz hg1;clear hA hB hC hF hQ m0 hc0 hg0 a0 hc1 hg1 b0 hdf;have B0:=zz (aDy w.heap.size w);by_cases h1:b.length=M.length
 case neg=>
  have h1':((b.length:Int)==(M.length:Int))=false:=by rw[aEo];omega
  rw[aEe h1];clear h1;go_enter Tryz.func69,Tryz.ntmps69
  go_upto_region 1 with (fail)
  refine aFq [se 0 5 [] (.slice Ab b.length cb),se 1 6 [0] (.int .i64 (b.length:Int)),se 2 7 [] (.slice (some ⟨g0,off0,none⟩) M.length ca),se 3 8 [2] (.int .i64 (M.length:Int)),se 4 9 [1,3] (.bool false),se 5 10 [4] (.bool false),se 6 11 [5] undef,se 7 12 [5] undef,se 8 13 [5] undef,se 9 14 [5] undef,se 10 15 [5] undef,se 11 16 [5] (.bool false),se 12 17 [11] (.bool false),se 13 18 [12] undef,se 14 19 [12] undef,se 15 20 [12] undef,se 16 21 [12] undef,se 17 22 [12] undef,se 18 23 [12] undef,se 19 24 [12] undef,se 20 25 [12] undef,se 21 26 [12] undef,se 22 27 [12] (.bool false)] 1 (SB HB.o (SB HA.o S0)) aFi ?_ ?_
  ·intro xs a_ hA;simp only[SX,↓reduceIte,Nat.reduceEqDiff,Nat.reduceAdd] at hA⊢;subst hA;and_intros
   all_goals intro wk b_ z_
   all_goals try exact pl
  ·intro xs y0 B2 z2;simp only[SY];have f0:=tr B0 B2;refine EN 23 rfl fun K hK=>?_
   go_simp;refine hK _ _ ?_;clear hK K;(try simp only[PT])
   refine ED ?_;(try simp only[Exit.then])
   go_wp2;go_ret;exact⟨f0.o,rfl⟩
 case pos=>
  have h1':((b.length:Int)==(M.length:Int))=true:=by rw[aIh];omega
  rw[aEj h1];clear h1;by_cases h2:f.length=C.length
  case neg=>
   have h2':((f.length:Int)==(C.length:Int))=false:=by rw[aEo];omega
   rw[aEe h2];clear h2;go_enter Tryz.func69,Tryz.ntmps69
   go_upto_region 1 with (fail)
   refine aFq [se 0 5 [] (.slice Ab b.length cb),se 1 6 [0] (.int .i64 (b.length:Int)),se 2 7 [] (.slice (some ⟨g0,off0,none⟩) M.length ca),se 3 8 [2] (.int .i64 (M.length:Int)),se 4 9 [1,3] (.bool true),se 5 10 [4] (.bool true),se 6 11 [5] (.slice Af f.length cf),se 7 12 [5,6] (.int .i64 (f.length:Int)),se 8 13 [5] (.slice (some ⟨g1,off1,none⟩) C.length cc),se 9 14 [5,8] (.int .i64 (C.length:Int)),se 10 15 [5,7,9] (.bool false),se 11 16 [5,10] (.bool false),se 12 17 [11] (.bool false),se 13 18 [12] undef,se 14 19 [12] undef,se 15 20 [12] undef,se 16 21 [12] undef,se 17 22 [12] undef,se 18 23 [12] undef,se 19 24 [12] undef,se 20 25 [12] undef,se 21 26 [12] undef,se 22 27 [12] (.bool false)] 1 (SB HB.o (SB HA.o (SB HF.o (SB HC.o S0)))) aFi ?_ ?_
   ·intro xs a_ hA;simp only[SX,↓reduceIte,Nat.reduceEqDiff,Nat.reduceAdd] at hA⊢;subst hA;and_intros
    all_goals intro wk b_ z_
    all_goals try exact pl
   ·intro xs z0 B5 z5;simp only[SY];have h0:=tr B0 B5;refine EN 23 rfl fun K hK=>?_
    go_simp;refine hK _ _ ?_;clear hK K;(try simp only[PT])
    refine ED ?_;(try simp only[Exit.then])
    go_wp2;go_ret;exact⟨h0.o,rfl⟩
  case pos=>
   have h2':((f.length:Int)==(C.length:Int))=true:=by rw[aIh];omega
   rw[aEj h2];clear h2;by_cases h3:v1=v0
   case neg=>
    have h3':((v1:Int)==(v0:Int))=false:=by rw[aEo];omega
    rw[aEe h3];clear h3;go_enter Tryz.func69,Tryz.ntmps69
    go_upto_region 1 with (fail)
    refine aFq [se 0 5 [] (.slice Ab b.length cb),se 1 6 [0] (.int .i64 (b.length:Int)),se 2 7 [] (.slice (some ⟨g0,off0,none⟩) M.length ca),se 3 8 [2] (.int .i64 (M.length:Int)),se 4 9 [1,3] (.bool true),se 5 10 [4] (.bool true),se 6 11 [5] (.slice Af f.length cf),se 7 12 [5,6] (.int .i64 (f.length:Int)),se 8 13 [5] (.slice (some ⟨g1,off1,none⟩) C.length cc),se 9 14 [5,8] (.int .i64 (C.length:Int)),se 10 15 [5,7,9] (.bool true),se 11 16 [5,10] (.bool true),se 12 17 [11] (.bool true),se 13 18 [12] (.slice (some ⟨g1,off1,none⟩) C.length cc),se 14 19 [12,13] (.pointer (some ⟨g1,off1,none⟩)),se 15 20 [12,14] (.slice A1 v1 c1),se 16 21 [12,15] (.int .i64 (v1:Int)),se 17 22 [12] (.slice (some ⟨g0,off0,none⟩) M.length ca),se 18 23 [12,17] (.pointer (some ⟨g0,off0,none⟩)),se 19 24 [12,18] (.slice A0 v0 c0),se 20 25 [12,19] (.int .i64 (v0:Int)),se 21 26 [12,16,20] (.bool false),se 22 27 [12,21] (.bool false)] 1 (SB HB.o (SB HA.o (SB HF.o (SB HC.o S0)))) aFi ?_ ?_
    ·intro xs a_ hA;simp only[SX,↓reduceIte,Nat.reduceEqDiff,Nat.reduceAdd] at hA⊢;subst hA;and_intros
     all_goals intro wk b_ z_
     any_goals (intro f12 f14;intros;refine aDz (i:=15) (o:=?go7) ?k0 ?gh7;(case k0=>exact rfl);intro K hK;have qv0:=(aGn b_.o (p:=⟨g1,off1,none⟩) t0.o).trans s0.o;go_simp;(refine hK _ _ ⟨_,by simp only[FL,f12,f14] <;> kernel_rfl,aDy _ _,rfl⟩))
     any_goals (intro f12 f18;intros;refine aDz (i:=19) (o:=?go8) ?l0 ?gh8;(case l0=>exact rfl);intro K hK;have qv0:=(aGn b_.o (p:=⟨g0,off0,none⟩) q0.o).trans p0.o;go_simp;(refine hK _ _ ⟨_,by simp only[FL,f12,f18] <;> kernel_rfl,aDy _ _,rfl⟩))
     all_goals try exact pl
    ·intro xs C0 B10 z10;simp only[SY];have d0:=tr B0 B10;refine EN 23 rfl fun K hK=>?_
     go_simp;refine hK _ _ ?_;clear hK K;(try simp only[PT])
     refine ED ?_;(try simp only[Exit.then])
     go_wp2;go_ret;exact⟨d0.o,rfl⟩
   case pos=>
    have h3':((v1:Int)==(v0:Int))=true:=by rw[aIh];omega
    rw[aEj h3];clear h3;go_enter Tryz.func69,Tryz.ntmps69
    go_upto_region 1 with (fail)
    refine aFq [se 0 5 [] (.slice Ab b.length cb),se 1 6 [0] (.int .i64 (b.length:Int)),se 2 7 [] (.slice (some ⟨g0,off0,none⟩) M.length ca),se 3 8 [2] (.int .i64 (M.length:Int)),se 4 9 [1,3] (.bool true),se 5 10 [4] (.bool true),se 6 11 [5] (.slice Af f.length cf),se 7 12 [5,6] (.int .i64 (f.length:Int)),se 8 13 [5] (.slice (some ⟨g1,off1,none⟩) C.length cc),se 9 14 [5,8] (.int .i64 (C.length:Int)),se 10 15 [5,7,9] (.bool true),se 11 16 [5,10] (.bool true),se 12 17 [11] (.bool true),se 13 18 [12] (.slice (some ⟨g1,off1,none⟩) C.length cc),se 14 19 [12,13] (.pointer (some ⟨g1,off1,none⟩)),se 15 20 [12,14] (.slice A1 v1 c1),se 16 21 [12,15] (.int .i64 (v1:Int)),se 17 22 [12] (.slice (some ⟨g0,off0,none⟩) M.length ca),se 18 23 [12,17] (.pointer (some ⟨g0,off0,none⟩)),se 19 24 [12,18] (.slice A0 v0 c0),se 20 25 [12,19] (.int .i64 (v0:Int)),se 21 26 [12,16,20] (.bool true),se 22 27 [12,21] (.bool true)] 1 (SB HB.o (SB HA.o (SB HF.o (SB HC.o S0)))) aFi ?_ ?_
    ·intro xs a_ hA;simp only[SX,↓reduceIte,Nat.reduceEqDiff,Nat.reduceAdd] at hA⊢;subst hA;and_intros
     all_goals intro wk b_ z_
     any_goals (intro f12 f14;intros;refine aDz (i:=15) (o:=?go12) ?i0 ?gh12;(case i0=>exact rfl);intro K hK;have qv0:=(aGn b_.o (p:=⟨g1,off1,none⟩) t0.o).trans s0.o;go_simp;(refine hK _ _ ⟨_,by simp only[FL,f12,f14] <;> kernel_rfl,aDy _ _,rfl⟩))
     any_goals (intro f12 f18;intros;refine aDz (i:=19) (o:=?go13) ?j0 ?gh13;(case j0=>exact rfl);intro K hK;have qv0:=(aGn b_.o (p:=⟨g0,off0,none⟩) q0.o).trans p0.o;go_simp;(refine hK _ _ ⟨_,by simp only[FL,f12,f18] <;> kernel_rfl,aDy _ _,rfl⟩))
     all_goals try exact pl
    ·intro xs x0 B15 z15;simp only[SY];have e0:=tr B0 B15;refine EN 23 rfl fun K hK=>?_
     go_simp;refine hK _ _ ?_;clear hK K;(try simp only[PT])
     refine ED ?_;(try simp only[Exit.then])
     go_wp2;go_ret;exact⟨e0.o,rfl⟩
theorem CH (args:Array Value) (w1:World):(callFunc 69 args).run Tryz.prog w1=.ok (.enter 69 args) w1:=by kernel_rfl
end Go.Proofs.YtencnahjgbdeoaaGreatDoor
