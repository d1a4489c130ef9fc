/- Texts put together: Layer 35: first, and what fits (written by gen_lo.py). Layer 35: Solve (written by gen_lp.py). Layer 35: Least (written by gen_lq.py). -/
import Derived.Test.YtdigbofiebfkeaaGreatDoorLlm
import Derived.Test.YtdigbofiebfkeaaGreatDoorLb1
namespace Go.Proofs.YtdigbofiebfkeaaGreatDoor
open Go Go.RowKit Dig
set_option maxRecDepth 100000
set_option maxHeartbeats 4000000
set_option linter.unusedSimpArgs false
def firstE:List Int→Bool→Int
 | [],fit=>bif fit then 0 else 2
 | e :: es,fit=>if e=0 then firstE es fit else e
theorem first_any (w:World) (F0:FuncId) (cap:Array Value) (fit:Bool) (A:Option Addr) (n c:Nat) (es:List Int) (hE:RI w w.heap.size (.slice A n c) es) (hl:es.length≤1000000) (hrun:∀ args (w1:World),(callFunc F0 args).run Tryz.prog w1=.ok (.enter F0 args) w1)
  (hF:(∀ e∈es,e=0)→∀ w1:World,Below w.heap.size w w1→Calls Tryz.prog F0 cap w1 fun e w'=>Below w1.heap.size w1 w'∧e=.returned (.bool fit)) :
  Calls Tryz.prog 30 #[.func (.func F0) #[] cap,.slice A n c] w fun e w'=>Below w.heap.size w w'∧e=.returned (.int .i64 (firstE es fit)):=by
 obtain rfl:=RI.len hE;have HE:=zz hE;have HF:=zz hF;clear hE hF;have hkk:(es.length:Int)≤1000000:=by omega
 have b0:=zz (Below.refl w.heap.size w);go_enter Tryz.func30,Tryz.ntmps30
 go_wp2;go_loopw [9] (fun iv wr=>∃ j:Nat,j≤es.length∧iv=.int .i64 j∧Hid (firstE es fit=firstE (es.drop j) fit)∧Hid (∀ e∈es.take j,e=0)∧Hid (Below w.heap.size w wr)) (fun iv _=>es.length-(intOf iv).toNat)
 case atStart=>exact⟨0,Nat.zero_le _,rfl,zz rfl,zz (fun e h=>by simp at h),b0⟩
 case round=>
  obtain⟨j,hj,rfl,HD,HZ,HW⟩:=hrel;have zr:=HW.out.size;by_cases hlt:j<es.length
  ·obtain⟨A1,c1,he,-,-,hx⟩:=HE.out;injection he with he1 he2 he3;subst he1;subst he3;obtain⟨g,off,rfl,hg,hx⟩:=hx (by omega)
   have q0:=(HW.out.cell (p:=⟨g,off+j,none⟩) hg).trans (hx j hlt);clear hx;have hji:(0:Int)≤(j:Int)∧(j:Int)<(es.length:Int):=by omega
   have hdr:es.drop j=es[j] :: es.drop (j+1):=List.drop_eq_getElem_cons hlt;have htk:es.take (j+1)=es.take j++[es[j]]:=by rw[List.take_add_one,List.getElem?_eq_getElem hlt];rfl
   rw[hdr] at HD;generalize es[j]=x at q0 HD htk hdr;clear hdr;have g0:=zz htk;clear htk;by_cases hx0:x=0
   ·subst hx0;have e0:=zz (HD.out.trans (show firstE (0 :: es.drop (j+1)) fit=firstE (es.drop (j+1)) fit from if_pos rfl));have h0:=zz (show ∀ e∈es.take (j+1),e=0 from fun e h=>by rw[g0.out] at h;rcases List.mem_append.1 h with h | h;exact HZ.out e h;exact List.mem_singleton.1 h);go_wp2;go_roundw
    case rel=>exact⟨j+1,hlt,by go_num,e0,h0,HW⟩
    case measure=>simp[intOf];omega
   ·have hx1:(x != 0)=true:=by rw[bne_iff_ne];exact hx0
    have e0:=zz (HD.out.trans (show firstE (x :: es.drop (j+1)) fit=x from if_neg hx0));clear hx0;go_wp2;go_ret;exact⟨HW.out,by rw[e0.out];rfl⟩
  ·obtain rfl:j=es.length:=by omega
   rw[List.take_length] at HZ;rw[List.drop_length] at HD;go_wp2_with fail
   refine(HF.out HZ.out _ HW.out).mono ?_;rintro e w1 ⟨hb,rfl⟩;have a0:=zz (HW.out.trans (hb.mono HW.out.size));clear hb;cases fit
   case false=>go_wp2;go_ret;exact⟨a0.out,by rw[HD.out];rfl⟩
   case true=>go_wp2;go_ret;exact⟨a0.out,by rw[HD.out];rfl⟩
theorem solveFit_any (w:World) (ba bb:Nat) (Aa Ab:Option Addr) (ca cb:Nat) (M:List (List QX)) (b:List QX) (hA:CB w ba 27 #[.slice Aa M.length ca]) (hQ:QM w w.heap.size (.slice Aa M.length ca) M) (hM:0<M.length) (hB:CB w bb 28 #[.slice Ab b.length cb]) :
  Calls Tryz.prog 67 #[.pointer (some ⟨bb,0,none⟩),.pointer (some ⟨ba,0,none⟩)] w fun e w'=>Below w.heap.size w w'∧e=.returned (.bool (decide (b.length=M.length)&&decide (M.length=(M.getD 0 []).length))):=by
 obtain⟨g0,off0,A0,c0,rfl,-,hc0,-⟩:=SL.row hQ hM;rw[Nat.add_zero] at hc0;have d0:=zz hc0;obtain⟨v0,a0⟩:∃ v,v=(M.getD 0 []).length:=⟨_,rfl⟩;rw[show M[0].length=v0 by rw[a0,getD_is hM]] at hc0;have hl:=SL.len hQ;have hmi:(0:Int)<(M.length:Int):=by omega
 rw[← a0];clear d0 hQ;have qa:=hA.cell 0 rfl;have qb:=hB.cell 0 rfl;have la:=hA.lt;have lb:=hB.lt;have b0:=zz (Below.refl w.heap.size w);clear a0;by_cases h1:b.length=M.length
 ·have h1':((b.length:Int)==(M.length:Int))=true:=by rw[beq_iff_eq];omega
  by_cases h2:M.length=v0
  ·have h2':((M.length:Int)==(v0:Int))=true:=by rw[beq_iff_eq];omega
   rw[decide_eq_true h1,decide_eq_true h2];clear h1 h2;go_enter Tryz.func67,Tryz.ntmps67
   go_upto_region 1 with (fail);go_quiet (fail);go_wp2;go_ret;exact⟨below_drewN b0.out _,rfl⟩
  ·have h2':((M.length:Int)==(v0:Int))=false:=by rw[beq_eq_false_iff_ne];omega
   rw[decide_eq_true h1,decide_eq_false h2];clear h1 h2;go_enter Tryz.func67,Tryz.ntmps67
   go_upto_region 1 with (fail);go_quiet (fail);go_wp2;go_ret;exact⟨below_drewN b0.out _,rfl⟩
 ·have h1':((b.length:Int)==(M.length:Int))=false:=by rw[beq_eq_false_iff_ne];omega
  rw[decide_eq_false h1];clear h1;go_enter Tryz.func67,Tryz.ntmps67
  go_upto_region 1 with (fail);go_quiet (fail);go_wp2;go_ret;exact⟨below_drewN b0.out _,rfl⟩
theorem solveFit_run (args:Array Value) (w1:World):(callFunc 67 args).run Tryz.prog w1=.ok (.enter 67 args) w1:=by kernel_rfl
theorem measureFit_any (w:World) (ba bb bx:Nat) (Aa Ab Ax:Option Addr) (ca cb cx:Nat) (M:List (List QX)) (b x:List QX) (hA:CB w ba 27 #[.slice Aa M.length ca]) (hQ:QM w w.heap.size (.slice Aa M.length ca) M) (hM:0<M.length) (hB:CB w bb 28 #[.slice Ab b.length cb]) (hX:CB w bx 28 #[.slice Ax x.length cx]) :
  Calls Tryz.prog 53 #[.pointer (some ⟨bb,0,none⟩),.pointer (some ⟨ba,0,none⟩),.pointer (some ⟨bx,0,none⟩)] w fun e w'=>Below w.heap.size w w'∧e=.returned (.bool (decide (b.length=M.length)&&decide (x.length=(M.getD 0 []).length))):=by
 obtain⟨g0,off0,A0,c0,rfl,-,hc0,-⟩:=SL.row hQ hM;rw[Nat.add_zero] at hc0;have d0:=zz hc0;obtain⟨v0,a0⟩:∃ v,v=(M.getD 0 []).length:=⟨_,rfl⟩;rw[show M[0].length=v0 by rw[a0,getD_is hM]] at hc0;have hl:=SL.len hQ;have hmi:(0:Int)<(M.length:Int):=by omega
 rw[← a0];clear d0 hQ;have qa:=hA.cell 0 rfl;have qb:=hB.cell 0 rfl;have la:=hA.lt;have lb:=hB.lt;have qx':=hX.cell 0 rfl;have lx:=hX.lt;have b0:=zz (Below.refl w.heap.size w);clear a0;by_cases h1:b.length=M.length
 ·have h1':((b.length:Int)==(M.length:Int))=true:=by rw[beq_iff_eq];omega
  by_cases h2:x.length=v0
  ·have h2':((x.length:Int)==(v0:Int))=true:=by rw[beq_iff_eq];omega
   rw[decide_eq_true h1,decide_eq_true h2];clear h1 h2;go_enter Tryz.func53,Tryz.ntmps53
   go_upto_region 1 with (fail);go_quiet (fail);go_wp2;go_ret;exact⟨below_drewN b0.out _,rfl⟩
  ·have h2':((x.length:Int)==(v0:Int))=false:=by rw[beq_eq_false_iff_ne];omega
   rw[decide_eq_true h1,decide_eq_false h2];clear h1 h2;go_enter Tryz.func53,Tryz.ntmps53
   go_upto_region 1 with (fail);go_quiet (fail);go_wp2;go_ret;exact⟨below_drewN b0.out _,rfl⟩
 ·have h1':((b.length:Int)==(M.length:Int))=false:=by rw[beq_eq_false_iff_ne];omega
  rw[decide_eq_false h1];clear h1;go_enter Tryz.func53,Tryz.ntmps53
  go_upto_region 1 with (fail);go_quiet (fail);go_wp2;go_ret;exact⟨below_drewN b0.out _,rfl⟩
theorem measureFit_run (args:Array Value) (w1:World):(callFunc 53 args).run Tryz.prog w1=.ok (.enter 53 args) w1:=by kernel_rfl
theorem normalFit_any (w:World) (ba bb:Nat) (Aa Ab:Option Addr) (n m ca cb:Nat) (hA:CB w ba 27 #[.slice Aa n ca]) (hB:CB w bb 28 #[.slice Ab m cb]) :
  Calls Tryz.prog 69 #[.pointer (some ⟨bb,0,none⟩),.pointer (some ⟨ba,0,none⟩)] w fun e w'=>Below w.heap.size w w'∧e=.returned (.bool (decide (m=n))):=by
 have qa:=hA.cell 0 rfl;have qb:=hB.cell 0 rfl;have la:=hA.lt;have lb:=hB.lt;have a0:=zz (Below.refl w.heap.size w);by_cases h1:m=n
 ·have h1':((m:Int)==(n:Int))=true:=by rw[beq_iff_eq];omega
  rw[decide_eq_true h1];clear h1;go_enter Tryz.func69,Tryz.ntmps69
  go_wp2;go_ret;exact⟨a0.out,rfl⟩
 ·have h1':((m:Int)==(n:Int))=false:=by rw[beq_eq_false_iff_ne];omega
  rw[decide_eq_false h1];clear h1;go_enter Tryz.func69,Tryz.ntmps69
  go_wp2;go_ret;exact⟨a0.out,rfl⟩
theorem normalFit_run (args:Array Value) (w1:World):(callFunc 69 args).run Tryz.prog w1=.ok (.enter 69 args) w1:=by kernel_rfl
theorem leastFit_any (w:World) (ba bb:Nat) (Aa Ab:Option Addr) (n m ca cb:Nat) (hA:CB w ba 27 #[.slice Aa n ca]) (hB:CB w bb 28 #[.slice Ab m cb]) :
  Calls Tryz.prog 61 #[.pointer (some ⟨bb,0,none⟩),.pointer (some ⟨ba,0,none⟩)] w fun e w'=>Below w.heap.size w w'∧e=.returned (.bool (decide (m=n))):=by
 have qa:=hA.cell 0 rfl;have qb:=hB.cell 0 rfl;have la:=hA.lt;have lb:=hB.lt;have a0:=zz (Below.refl w.heap.size w);by_cases h1:m=n
 ·have h1':((m:Int)==(n:Int))=true:=by rw[beq_iff_eq];omega
  rw[decide_eq_true h1];clear h1;go_enter Tryz.func61,Tryz.ntmps61
  go_wp2;go_ret;exact⟨a0.out,rfl⟩
 ·have h1':((m:Int)==(n:Int))=false:=by rw[beq_eq_false_iff_ne];omega
  rw[decide_eq_false h1];clear h1;go_enter Tryz.func61,Tryz.ntmps61
  go_wp2;go_ret;exact⟨a0.out,rfl⟩
theorem leastFit_run (args:Array Value) (w1:World):(callFunc 61 args).run Tryz.prog w1=.ok (.enter 61 args) w1:=by kernel_rfl
theorem solve_of {M:List (List QX)} {b:List QX} {E:Int} {fit:Bool} (hE:E=firstE [sysE (okM M),sysE (okL b)] fit) (hf:fit=(decide (b.length=M.length)&&decide (M.length=(M.getD 0 []).length))) :
  (E≠0→solveA M b=(none,E))∧(E=0→solveA M b=toldO (solveQ (ratM M) (rats b))∧okM M=true∧okL b=true∧b.length=M.length∧M.length=(M.getD 0 []).length):=by
 cases h1:okM M with
 | false=>rw[h1] at hE;refine⟨fun _=>?_,fun h=>?_⟩;unfold solveA;rw[h1,if_neg (by simp),hE];rfl;rw[h] at hE;cases hE
 | true=>
  cases h2:okL b with
  | false=>rw[h1,h2] at hE;refine⟨fun _=>?_,fun h=>?_⟩;unfold solveA;rw[h1,h2,if_neg (by simp),hE];rfl;rw[h] at hE;cases hE
  | true=>
   rw[h1,h2] at hE;cases h3:fit with
   | false=>
    rw[h3] at hE hf;have hn:¬ (b.length=M.length∧M.length=(M.getD 0 []).length):=fun h=>by rw[decide_eq_true h.1,decide_eq_true h.2] at hf;cases hf
    refine⟨fun _=>?_,fun h=>?_⟩
    ·unfold solveA;rw[h1,h2,if_pos ⟨rfl,rfl⟩,if_neg hn,hE];rfl
    ·rw[h] at hE;cases hE
   | true=>
    rw[h3] at hE hf;have hp:=(Bool.and_eq_true_iff.1 hf.symm);have hp':=And.intro (of_decide_eq_true hp.1) (of_decide_eq_true hp.2);refine⟨fun h=>absurd hE h,fun _=>⟨?_,rfl,rfl,hp'.1,hp'.2⟩⟩;unfold solveA;rw[h1,h2,if_pos ⟨rfl,rfl⟩,if_pos hp']
theorem wide_raw {M:List (List QX)}:wideQ (ratM M)=(M.getD 0 []).length:=by cases M with | nil=>rfl | cons r t=>simp[wideQ,ratM,rats]
theorem slM {w:World} {T TH:TypeId} {B tb Rh:Nat} {G C:Nat→Nat} {M:List (List QX)} (h:OM 3 ER T TH w B tb Rh G C (ratM M)) (hl:M.length≤1000000):RM w w.heap.size (.slice (some ⟨tb,0,none⟩) M.length M.length) (ratM M):=by
 have hm:(ratM M).length=M.length:=by rw[ratM,List.length_map]
 have:=h.sl (c:=M.length) (by rw[hm];exact Nat.le_refl _) (by omega)
 rwa [hm] at this
theorem slR {w:World} {T:TypeId} {g n:Nat} {b:List QX} (h:OB 3 ER T w g n (rats b)) (hl:b.length≤1000000):RS w w.heap.size (.slice (some ⟨g,0,none⟩) b.length b.length) (rats b):=by
 have hm:(rats b).length=b.length:=by rw[rats,List.length_map]
 have:=h.sl (c:=b.length) (by rw[hm];exact Nat.le_refl _) (by omega)
 rwa [hm] at this
theorem solN {Z:Nat} {w:World} {o:Option (List Rat)} {e:Ending} (h:o=none) (hs:SolR Z w o e):e=.returned (.tuple #[.slice none 0 0,.int .i64 7]):=by subst h;exact hs
theorem solS {Z:Nat} {w:World} {o:Option (List Rat)} {e:Ending} {x:List Rat} (h:o=some x) (hs:SolR Z w o e):∃ g,e=.returned (.tuple #[.slice (some ⟨g,0,none⟩) x.length x.length,.int .i64 0])∧Z≤g∧OB 3 ER 84 w g x.length x:=by subst h;exact hs
theorem solveQ_len {a:List (List Rat)} {b x:List Rat} (h:solveQ a b=some x):x.length=wideQ a:=by
 unfold solveQ at h
 split at h
 ·injection h with h;rw[← h];simp[lastQ]
 ·cases h
theorem solveQ_short {a:List (List Rat)} {b x:List Rat} {l:Nat} (h:solveQ a b=some x) (hL:Short l a) (hb:∀ q∈b,QL l l q) (h1:1≤l):∀ q∈x,QL (growQ l (wideQ a)) (growQ l (wideQ a)) q:=by
 unfold solveQ at h
 split at h
 ·injection h with h
  intro q hq;rw[← h] at hq;obtain⟨i,-,rfl⟩:=List.mem_map.1 hq;have hs:=(with_short hL hb h1).elim h1 (wideQ a);have hg:=growQ_mono (L:=l) (elimQ_piv (withQ a b) (wideQ a)).2;exact(hs.mono hg).at (growQ_pos h1 _) i _
 ·cases h
theorem readM_any (w:World) (A:Option Addr) (n c:Nat) (M:List (List QX)) (h:QM w w.heap.size (.slice A n c) M) (hok:okM M=true) :
  Calls Tryz.prog 34 #[.slice A n c,.func (.func 35) #[] #[]] w fun e w'=>Below w.heap.size w w'∧∃ g G C,e=.returned (.slice (some ⟨g,0,none⟩) M.length M.length)∧OM 3 ER 84 75 w' w.heap.size g M.length G C (ratM M):=by
 have hm:=okM_is hok;have hr:∀ r∈M,okL r=true:=fun r hr=>by
  unfold okM at hok;simp only[Bool.and_eq_true,List.all_eq_true] at hok
  exact(hok.2 r hr).2
 refine eachQ_any w A n c M 35 rats h (by have:=hm.2.2.2.2.1;omega) (fun args w1=>by kernel_rfl) (fun w1 j hj A' u c' hb hx=>?_);obtain⟨e1,-,-,e4⟩:=okL_is (hr M[j] (List.getElem_mem hj));have hl:(rats M[j]).length=M[j].length:=by rw[rats,List.length_map]
 rw[e1] at hx;refine(read_any w1 A' u c' (rats M[j]) hx (by rw[hl];omega)).mono ?_;rintro e w' ⟨hb',g,he,hg,ho⟩;exact⟨hb',g,he,hg,by rw[hl];omega,ho⟩
theorem readL_any (w:World) (A:Option Addr) (n c:Nat) (b:List QX) (h:QS w w.heap.size (.slice A n c) b) (hok:okL b=true) :
  Calls Tryz.prog 35 #[.slice A n c] w fun e w'=>Below w.heap.size w w'∧∃ g,e=.returned (.slice (some ⟨g,0,none⟩) b.length b.length)∧w.heap.size≤g∧OB 3 ER 84 w' g b.length (rats b):=by
 obtain⟨e1,-,-,e4⟩:=okL_is hok;have hl:(rats b).length=b.length:=by rw[rats,List.length_map]
 have:=read_any w A n c (rats b) (by rw[← e1];exact h) (by rw[hl];omega);rw[hl] at this;exact this
theorem ri_cells {w:World} {b:Nat} {t:TypeId} {arr:Array Value} (h:CB w b t arr) (xs:List Int) (e:arr=(xs.map (Value.int .i64)).toArray) (hl:xs.length≤1000):RI w w.heap.size (.slice (some ⟨b,0,none⟩) xs.length xs.length) xs:=
 ⟨_,_,rfl,Nat.le_refl _,by omega,fun _=>⟨b,0,rfl,h.lt,fun j hj=>by
  rw[Nat.zero_add];exact h.cell j (by rw[e];simp[hj])⟩⟩
theorem sysE_ok {b:Bool} (h:sysE b=0):b=true:=by cases b with | true=>rfl | false=>cases h
theorem okM_pos {M:List (List QX)} (h:okM M=true):0<M.length:=(okM_is h).2.2.2.1
theorem LSolve_any (w:World) (A B:Option Addr) (n c m d:Nat) (M:List (List QX)) (b:List QX) (ha:QM w w.heap.size (.slice A n c) M) (hb:QS w w.heap.size (.slice B m d) b) :
  Calls Tryz.prog 25 #[.slice A n c,.slice B m d] w fun e w'=>Below w.heap.size w w'∧RetLs w' (solveA M b) e:=by
 obtain⟨rfl,hn1,hn2⟩:=SL.len ha;obtain⟨rfl,hm1,hm2⟩:=SL.len hb;have HQ:=zz ha;have HS:=zz hb;clear ha hb;obtain⟨w0,hw0⟩:∃ w0:World,w0=((w.alloc (.cells #[.slice A M.length c] 27)).alloc (.cells #[.slice B b.length d] 28)):=⟨_,rfl⟩;have B0:=zz (n2_b hw0);have z0:=n2_z hw0;have La:=n2_0 hw0;have Lb:=n2_1 hw0;have M0:=zz (HQ.out.step (SE.stable EQ.stable) B0.out);have N0:=zz (HS.out.step EQ.stable B0.out);have HA:=zz La;have HB:=zz Lb;obtain⟨fit,hfit⟩:∃ fit:Bool,fit=(decide (b.length=M.length)&&decide (M.length=(M.getD 0 []).length)):=⟨_,rfl⟩;have O0:=zz hfit;clear hfit;obtain⟨E,hE⟩:∃ E,E=firstE [sysE (okM M),sysE (okL b)] fit:=⟨_,rfl⟩;have W0:=zz hE;clear hE;go_enter Tryz.func25,Tryz.ntmps25
 go_upto_region 1 with (fail)
 rw[← hw0];clear hw0;have K0:∀ w':World,Below w0.heap.size w0 w'→(Below w0.heap.size w0 w'∧w'.cell? ⟨w.heap.size,0,none⟩=some (.slice A M.length c)∧w'.cell? ⟨w.heap.size+1,0,none⟩=some (.slice B b.length d)):=fun w' h=>⟨h,(CB.step La h).cell 0 rfl,(CB.step Lb h).cell 0 rfl⟩
 refine Early.start 6 (fun w'=>Below w0.heap.size w0 w'∧w'.cell? ⟨w.heap.size,0,none⟩=some (.slice A M.length c)∧w'.cell? ⟨w.heap.size+1,0,none⟩=some (.slice B b.length d)) (by kernel_rfl) ?_;refine Early.take (i:=0) (.func (.func 67) #[] #[.pointer (some ⟨w.heap.size+1,0,none⟩),.pointer (some ⟨w.heap.size,0,none⟩)]) rfl (by kernel_rfl) (by kernel_rfl) (by kernel_rfl) (by kernel_rfl) (by kernel_rfl) (fun _ _ _ h=>h) (Or.inl ⟨by rfl,?_⟩) ?_ ?_
 ·intro w' hSw;obtain⟨-,t0,t1⟩:=hSw;go_simp
 ·exact K0 _ (below_drew1 (Below.refl _ _))
 (try simp only[PT])
 refine Early.take (i:=1) (.slice A M.length c) rfl (by kernel_rfl) (by kernel_rfl) (by kernel_rfl) (by kernel_rfl) (by kernel_rfl) (fun _ _ _ h=>h) (Or.inl ⟨by rfl,?_⟩) ?_ ?_
 ·intro w' hSw;obtain⟨-,t0,t1⟩:=hSw;go_simp
 ·exact K0 _ (below_drew1 (Below.refl _ _))
 (try simp only[PT])
 refine Early.take (i:=3) (.slice B b.length d) rfl (by kernel_rfl) (by kernel_rfl) (by kernel_rfl) (by kernel_rfl) (by kernel_rfl) (fun _ _ _ h=>h) (Or.inl ⟨by rfl,?_⟩) ?_ ?_
 ·intro w' hSw;obtain⟨-,t0,t1⟩:=hSw;go_simp
 ·exact K0 _ (below_drew1 (Below.refl _ _))
 (try simp only[PT])
 refine Early.next (i:=2) (by kernel_rfl) rfl (fun K hK=>?_);go_simp;(with_reducible refine(LCheck_any _ A _ c M (SL.drew1 M0.out (SE.stable EQ.stable))).mono ?_)
 rintro e w2 ⟨f0,rfl⟩;replace f0:Below w0.heap.size w0 w2:=below_undrew f0;have B3:=zz f0;have z3:=B3.out.size;have c0:=tr B0 B3;clear f0;refine hK _ _ (fun _=>K0 _ B3.out) ?_;clear hK K;(try simp only[PT])
 refine Early.next (i:=4) (by kernel_rfl) rfl (fun K hK=>?_);go_simp;(with_reducible refine(list_any _ B _ d b (N0.out.step EQ.stable B3.out)).mono ?_)
 rintro e w5 ⟨s0,rfl⟩;have B6:=zz s0;have z6:=B6.out.size;have G0:=tr c0 B6;clear s0;have P1_3_8:=tr B3 B6;refine hK _ _ (fun _=>K0 _ P1_3_8.out) ?_;clear hK K;(try simp only[PT])
 refine Early.next (i:=5) (by kernel_rfl) rfl (fun K hK=>?_);go_simp;refine hK _ _ (fun _=>K0 _ (below_alloc1 (P1_3_8.out) _)) ?_;clear hK K;(try simp only[PT])
 obtain⟨w9,d0⟩:∃ w9:World,w9=(w5.alloc (.cells #[.int .i64 (sysE (okM M)),.int .i64 (sysE (okL b))] 37)):=⟨_,rfl⟩;rw[← d0];have n0:=n1_0 d0;have za9:=n1_z d0;have B10:=zz (n1_b d0);have z10:=B10.out.size;have v0:=tr G0 B10;clear d0;refine Early.next (i:=6) (by kernel_rfl) rfl (fun K hK=>?_);go_simp;have P1_4_12:=tr P1_3_8 B10;(with_reducible refine((show Calls Tryz.prog _ _ _ _ from W0.out▸first_any _ 67 #[.pointer (some ⟨w.heap.size+1,0,none⟩),.pointer (some ⟨w.heap.size,0,none⟩)] fit _ 2 2 [sysE (okM M),sysE (okL b)] (ri_cells n0 [_,_] rfl (by simp)) (by simp) solveFit_run (fun hz w9 g0=>O0.out▸solveFit_any w9 _ _ A B c d M b (CB.step HA.out (P1_4_12.out.trans (g0.mono P1_4_12.out.size))) (M0.out.step (SE.stable EQ.stable) (P1_4_12.out.trans (g0.mono P1_4_12.out.size))) (okM_pos (sysE_ok (hz _ (by simp)))) (CB.step HB.out (P1_4_12.out.trans (g0.mono P1_4_12.out.size)))))).mono ?_)
 rintro e w13 ⟨h0,rfl⟩;have B14:=zz h0;have z14:=B14.out.size;have e0:=tr v0 B14;clear h0;have P1_5_16:=tr P1_4_12 B14;refine hK _ _ (fun _=>K0 _ P1_5_16.out) ?_;clear hK K;(try simp only[PT])
 refine Early.next (i:=7) (by kernel_rfl) rfl (fun K hK=>?_);go_simp;refine hK _ _ (fun h=>absurd h (by decide)) ?_;clear hK K;(try simp only[PT])
 refine Early.done (by kernel_rfl) ?_ _;(try simp only[Exit.then])
 clear K0;have hsa:=solve_of W0.out O0.out;by_cases hE0:E=0
 case neg=>
  have hx:(E != 0)=true:=by rw[bne_iff_ne];exact hE0
  have HR:=zz (hsa.1 hE0);clear hE0 hsa;go_wp2;go_ret2;exact⟨e0.out,by rw[HR.out];exact⟨_,rfl,rfl⟩⟩
 case pos=>
  obtain⟨hr,h1,h2,h3,h4⟩:=hsa.2 hE0;subst hE0;obtain⟨-,hs4,hw4,hm1,hm2,hw1,hw2⟩:=okM_is h1;obtain⟨-,u0,-,-⟩:=okL_is h2;have hwk:wideQ (ratM M)=M.length:=by rw[wide_raw,h4]
  rw[hwk] at hw4 hw1 hw2;have HR:=zz hr;have H1:=zz h1;have H2:=zz h2;have H3:=zz h3;have P0:=zz hs4;have X0:=zz hw4;have c0:=zz u0;have H0:=zz (And.intro hm1 hw2);have Q0:=zz hwk;clear hr h1 h2 h3 h4 hs4 hw4 u0 hm1 hm2 hw1 hw2 hsa hwk;cases hso:solveQ (ratM M) (rats b)
  case none=>
   have L0:=zz hso;clear hso;go_upto_region 4 with (fail)
   have o0:=CB.step La P1_5_16.out;have p0:=CB.step Lb P1_5_16.out;have R0:=zz o0;have HB4':=zz p0;have S0:=zz (M0.out.step (SE.stable EQ.stable) P1_5_16.out);have HS4':=zz (N0.out.step EQ.stable P1_5_16.out);have I0:∀ w':World,Below w13.heap.size w13 w'→(Below w13.heap.size w13 w'∧w'.cell? ⟨w.heap.size,0,none⟩=some (.slice A M.length c)∧w'.cell? ⟨w.heap.size+1,0,none⟩=some (.slice B b.length d)):=fun w' h=>⟨h,(CB.step R0.out h).cell 0 rfl,(CB.step HB4'.out h).cell 0 rfl⟩
   refine Early.start 4 (fun w'=>Below w13.heap.size w13 w'∧w'.cell? ⟨w.heap.size,0,none⟩=some (.slice A M.length c)∧w'.cell? ⟨w.heap.size+1,0,none⟩=some (.slice B b.length d)) (by kernel_rfl) ?_;refine Early.take (i:=0) (.slice A M.length c) rfl (by kernel_rfl) (by kernel_rfl) (by kernel_rfl) (by kernel_rfl) (by kernel_rfl) (fun _ _ _ h=>h) (Or.inl ⟨by rfl,?_⟩) ?_ ?_
   ·intro w' hSw;obtain⟨-,t0,t1⟩:=hSw;go_simp
   ·exact I0 _ (below_drew1 (Below.refl _ _))
   (try simp only[PT])
   refine Early.take (i:=2) (.slice B b.length d) rfl (by kernel_rfl) (by kernel_rfl) (by kernel_rfl) (by kernel_rfl) (by kernel_rfl) (fun _ _ _ h=>h) (Or.inl ⟨by rfl,?_⟩) ?_ ?_
   ·intro w' hSw;obtain⟨-,t0,t1⟩:=hSw;go_simp
   ·exact I0 _ (below_drew1 (Below.refl _ _))
   (try simp only[PT])
   refine Early.next (i:=1) (by kernel_rfl) rfl (fun K hK=>?_);go_simp;(with_reducible refine(readM_any _ A _ c M (SL.drew1 S0.out (SE.stable EQ.stable)) H1.out).mono ?_)
   rintro e w20 ⟨a0,g,G,C,rfl,hom⟩;replace a0:Below w13.heap.size w13 w20:=below_undrew a0;have B21:=zz a0;have z21:=B21.out.size;have x0:=tr e0 B21;clear a0;refine hK _ _ (fun _=>I0 _ B21.out) ?_;clear hK K;(try simp only[PT])
   have T0:=zz hom;clear hom;refine Early.next (i:=3) (by kernel_rfl) rfl (fun K hK=>?_);go_simp;(with_reducible refine(readL_any _ B _ d b (HS4'.out.step EQ.stable B21.out) H2.out).mono ?_)
   rintro e w23 ⟨i0,g',rfl,hgl,hol⟩;have B24:=zz i0;have z24:=B24.out.size;have y0:=tr x0 B24;clear i0;have P5_7_26:=tr B21 B24;refine hK _ _ (fun _=>I0 _ P5_7_26.out) ?_;clear hK K;(try simp only[PT])
   have U0:=zz hol;have Z0:=zz hgl;clear hol hgl;refine Early.next (i:=4) (by kernel_rfl) rfl (fun K hK=>?_);go_simp;(with_reducible refine((solve_any _ _ _ _ _ _ _ (ratM M) (rats b) M.length 4 (slM (T0.out.step ER.stable B24.out) (by have:=H0.out;omega)) (slR U0.out (by have:=H0.out;have:=H3.out;omega)) (by rw[ratM,List.length_map];have:=H0.out;omega) (by have:=H0.out;omega) (by rw[ratM,rats,List.length_map,List.length_map,H3.out];exact Nat.le_refl _) X0.out ⟨by rw[ratM,List.length_map];have:=H0.out;omega,by have:=H0.out;omega⟩ P0.out c0.out (by decide) (Nat.le_trans (Nat.mul_le_mul_left 3 (growQ_mono H0.out.2)) (by decide))).mono (fun _ _ h=>And.intro h.1 (solN L0.out h.2))).mono ?_)
   rintro e w27 ⟨j0,rfl⟩;have B28:=zz j0;have z28:=B28.out.size;have A0:=tr y0 B28;clear j0;have P5_8_30:=tr P5_7_26 B28;refine hK _ _ (fun _=>I0 _ P5_8_30.out) ?_;clear hK K;(try simp only[PT])
   refine Early.next (i:=5) (by kernel_rfl) rfl (fun K hK=>?_);go_simp;refine hK _ _ (fun h=>absurd h (by decide)) ?_;clear hK K;(try simp only[PT])
   refine Early.pure (i:=7) (.int .i64 7) rfl (by kernel_rfl) (by decide) (by kernel_rfl) (by kernel_rfl) (fun _ _ _ h=>h) (Or.inl ⟨by rfl,?_⟩) ?_
   ·intro w' _;go_simp
   (try simp only[PT])
   refine Early.next (i:=6) (by kernel_rfl) rfl (fun K hK=>?_);go_simp;refine hK _ _ (fun h=>absurd h (by decide)) ?_;clear hK K;(try simp only[PT])
   refine Early.next (i:=8) (by kernel_rfl) rfl (fun K hK=>?_);go_simp;refine hK _ _ (fun h=>absurd h (by decide)) ?_;clear hK K;(try simp only[PT])
   refine Early.next (i:=9) (by kernel_rfl) rfl (fun K hK=>?_);go_simp;refine hK _ _ (fun h=>absurd h (by decide)) ?_;clear hK K;(try simp only[PT])
   refine Early.done (by kernel_rfl) ?_ _;(try simp only[Exit.then])
   clear I0;go_wp2;go_ret2;exact⟨A0.out,by rw[HR.out,L0.out];exact⟨_,rfl,rfl⟩⟩
  case some x=>
   have L0:=zz hso;clear hso;go_upto_region 4 with (fail)
   have q0:=CB.step La P1_5_16.out;have r0:=CB.step Lb P1_5_16.out;have R0:=zz q0;have HB4':=zz r0;have S0:=zz (M0.out.step (SE.stable EQ.stable) P1_5_16.out);have HS4':=zz (N0.out.step EQ.stable P1_5_16.out);have J0:∀ w':World,Below w13.heap.size w13 w'→(Below w13.heap.size w13 w'∧w'.cell? ⟨w.heap.size,0,none⟩=some (.slice A M.length c)∧w'.cell? ⟨w.heap.size+1,0,none⟩=some (.slice B b.length d)):=fun w' h=>⟨h,(CB.step R0.out h).cell 0 rfl,(CB.step HB4'.out h).cell 0 rfl⟩
   refine Early.start 4 (fun w'=>Below w13.heap.size w13 w'∧w'.cell? ⟨w.heap.size,0,none⟩=some (.slice A M.length c)∧w'.cell? ⟨w.heap.size+1,0,none⟩=some (.slice B b.length d)) (by kernel_rfl) ?_;refine Early.take (i:=0) (.slice A M.length c) rfl (by kernel_rfl) (by kernel_rfl) (by kernel_rfl) (by kernel_rfl) (by kernel_rfl) (fun _ _ _ h=>h) (Or.inl ⟨by rfl,?_⟩) ?_ ?_
   ·intro w' hSw;obtain⟨-,t0,t1⟩:=hSw;go_simp
   ·exact J0 _ (below_drew1 (Below.refl _ _))
   (try simp only[PT])
   refine Early.take (i:=2) (.slice B b.length d) rfl (by kernel_rfl) (by kernel_rfl) (by kernel_rfl) (by kernel_rfl) (by kernel_rfl) (fun _ _ _ h=>h) (Or.inl ⟨by rfl,?_⟩) ?_ ?_
   ·intro w' hSw;obtain⟨-,t0,t1⟩:=hSw;go_simp
   ·exact J0 _ (below_drew1 (Below.refl _ _))
   (try simp only[PT])
   refine Early.next (i:=1) (by kernel_rfl) rfl (fun K hK=>?_);go_simp;(with_reducible refine(readM_any _ A _ c M (SL.drew1 S0.out (SE.stable EQ.stable)) H1.out).mono ?_)
   rintro e w34 ⟨b0,g,G,C,rfl,hom⟩;replace b0:Below w13.heap.size w13 w34:=below_undrew b0;have B35:=zz b0;have z35:=B35.out.size;have C0:=tr e0 B35;clear b0;refine hK _ _ (fun _=>J0 _ B35.out) ?_;clear hK K;(try simp only[PT])
   have T0:=zz hom;clear hom;refine Early.next (i:=3) (by kernel_rfl) rfl (fun K hK=>?_);go_simp;(with_reducible refine(readL_any _ B _ d b (HS4'.out.step EQ.stable B35.out) H2.out).mono ?_)
   rintro e w37 ⟨k0,g',rfl,hgl,hol⟩;have B38:=zz k0;have z38:=B38.out.size;have D0:=tr C0 B38;clear k0;have P5_7_40:=tr B35 B38;refine hK _ _ (fun _=>J0 _ P5_7_40.out) ?_;clear hK K;(try simp only[PT])
   have U0:=zz hol;have Z0:=zz hgl;clear hol hgl;refine Early.next (i:=4) (by kernel_rfl) rfl (fun K hK=>?_);go_simp;(with_reducible refine((solve_any _ _ _ _ _ _ _ (ratM M) (rats b) M.length 4 (slM (T0.out.step ER.stable B38.out) (by have:=H0.out;omega)) (slR U0.out (by have:=H0.out;have:=H3.out;omega)) (by rw[ratM,List.length_map];have:=H0.out;omega) (by have:=H0.out;omega) (by rw[ratM,rats,List.length_map,List.length_map,H3.out];exact Nat.le_refl _) X0.out ⟨by rw[ratM,List.length_map];have:=H0.out;omega,by have:=H0.out;omega⟩ P0.out c0.out (by decide) (Nat.le_trans (Nat.mul_le_mul_left 3 (growQ_mono H0.out.2)) (by decide))).mono (fun _ _ h=>And.intro h.1 (solS L0.out h.2))).mono ?_)
   rintro e w41 ⟨l0,gx,rfl,hgx,hox⟩;have B42:=zz l0;have z42:=B42.out.size;have E0:=tr D0 B42;clear l0;have P5_8_44:=tr P5_7_40 B42;refine hK _ _ (fun _=>J0 _ P5_8_44.out) ?_;clear hK K;(try simp only[PT])
   refine Early.next (i:=5) (by kernel_rfl) rfl (fun K hK=>?_);go_simp;refine hK _ _ (fun h=>absurd h (by decide)) ?_;clear hK K;(try simp only[PT])
   refine Early.pure (i:=7) (.int .i64 0) rfl (by kernel_rfl) (by decide) (by kernel_rfl) (by kernel_rfl) (fun _ _ _ h=>h) (Or.inl ⟨by rfl,?_⟩) ?_
   ·intro w' _;go_simp
   (try simp only[PT])
   refine Early.next (i:=6) (by kernel_rfl) rfl (fun K hK=>?_);go_simp;refine hK _ _ (fun h=>absurd h (by decide)) ?_;clear hK K;(try simp only[PT])
   refine Early.next (i:=8) (by kernel_rfl) rfl (fun K hK=>?_);go_simp;refine hK _ _ (fun h=>absurd h (by decide)) ?_;clear hK K;(try simp only[PT])
   refine Early.next (i:=9) (by kernel_rfl) rfl (fun K hK=>?_);go_simp;refine hK _ _ (fun h=>absurd h (by decide)) ?_;clear hK K;(try simp only[PT])
   refine Early.done (by kernel_rfl) ?_ _;(try simp only[Exit.then])
   clear J0;have a1:=zz hox;clear hox hgx;have hxl:x.length=M.length:=by rw[solveQ_len L0.out,Q0.out]
   have Y0:=zz hxl;clear hxl;go_wp2_with fail
   refine(ltold_any _ _ _ _ x (a1.out.sl (Nat.le_refl _) (by rw[Y0.out];have:=H0.out;omega)) (fun q hq=>(solveQ_short L0.out P0.out c0.out (by decide) q hq).mono (Nat.le_trans (growQ_mono (by rw[Q0.out];exact H0.out.2)) (by decide)) (Nat.le_trans (growQ_mono (by rw[Q0.out];exact H0.out.2)) (by decide))) (by rw[Y0.out];have:=H0.out;omega)).mono ?_;rintro e w45 ⟨m0,v,rfl,hv⟩;have B46:=zz m0;have z46:=B46.out.size;have F0:=tr E0 B46;clear m0;have HV:=zz hv;clear hv;go_wp2;go_ret2;exact⟨F0.out,by rw[HR.out,L0.out];exact⟨_,rfl,HV.out⟩⟩
theorem least_of {M:List (List QX)} {b:List QX} {E:Int} {fit:Bool} (hE:E=firstE [sysE (okM M),sysE (okL b)] fit) (hf:fit=decide (b.length=M.length)) :
  (E≠0→leastA M b=(none,E))∧(E=0→leastA M b=toldO (solveQ (normM (ratM M)) (normV (ratM M) (rats b)))∧okM M=true∧okL b=true∧b.length=M.length):=by
 cases h1:okM M with
 | false=>rw[h1] at hE;refine⟨fun _=>?_,fun h=>?_⟩;unfold leastA;rw[h1,if_neg (by simp),hE];rfl;rw[h] at hE;cases hE
 | true=>
  cases h2:okL b with
  | false=>rw[h1,h2] at hE;refine⟨fun _=>?_,fun h=>?_⟩;unfold leastA;rw[h1,h2,if_neg (by simp),hE];rfl;rw[h] at hE;cases hE
  | true=>
   rw[h1,h2] at hE;cases h3:fit with
   | false=>
    rw[h3] at hE hf;have hn:¬ (b.length=M.length):=of_decide_eq_false hf.symm;refine⟨fun _=>?_,fun h=>?_⟩
    ·unfold leastA;rw[h1,h2,if_pos ⟨rfl,rfl⟩,if_neg hn,hE];rfl
    ·rw[h] at hE;cases hE
   | true=>
    rw[h3] at hE hf;have hp:=of_decide_eq_true hf.symm;refine⟨fun h=>absurd hE h,fun _=>⟨?_,rfl,rfl,hp⟩⟩;unfold leastA;rw[h1,h2,if_pos ⟨rfl,rfl⟩,if_pos hp]
theorem turnQ_ln {M:List (List Rat)}:(turnQ M).length=wideQ M:=by simp[turnQ]
theorem normM_ln {M:List (List Rat)}:(normM M).length=wideQ M:=by rw[normM,List.length_map,turnQ_ln]
theorem normV_ln {M:List (List Rat)} {b:List Rat}:(normV M b).length=wideQ M:=by rw[normV,List.length_map,turnQ_ln]
theorem normM_wd {M:List (List Rat)}:Wide (normM M) (wideQ M):=by
 intro r hr;obtain⟨c,-,rfl⟩:=List.mem_map.1 hr;rw[List.length_map,turnQ_ln]
theorem turnQ_short {M:List (List Rat)} {l:Nat} (h:Short l M) (h1:1≤l):∀ c∈turnQ M,c.length=M.length∧∀ q∈c,QL l l q:=fun c hc=>by
 obtain⟨j,-,rfl⟩:=List.mem_map.1 hc;refine⟨by unfold colQ;rw[List.length_map],fun q hq=>?_⟩;obtain⟨r,hr,rfl⟩:=List.mem_map.1 hq;exact short_getD (h r hr) h1 j
theorem normM_short {M:List (List Rat)} {l:Nat} (h:Short l M) (h1:1≤l):Short ((l+l+1)*M.length+1) (normM M):=by
 intro r hr q hq;obtain⟨c,hc,rfl⟩:=List.mem_map.1 hr;obtain⟨d,hd,rfl⟩:=List.mem_map.1 hq;have:=dotTo_ql (turnQ_short h h1 c hc).2 (turnQ_short h h1 d hd).2 h1 h1 c.length;rw[(turnQ_short h h1 c hc).1] at this;rw[dotQ,(turnQ_short h h1 c hc).1];exact this
theorem normV_short {M:List (List Rat)} {b:List Rat} {l l':Nat} (h:Short l M) (hb:∀ q∈b,QL l' l' q) (h1:1≤l) (h1':1≤l'):∀ q∈normV M b,QL ((l+l'+1)*M.length+1) ((l+l'+1)*M.length+1) q:=by
 intro q hq;obtain⟨c,hc,rfl⟩:=List.mem_map.1 hq;have:=dotTo_ql (turnQ_short h h1 c hc).2 hb h1 h1' c.length;rw[(turnQ_short h h1 c hc).1] at this;rw[dotQ,(turnQ_short h h1 c hc).1];exact this
theorem LLeast_any (w:World) (A B:Option Addr) (n c m d:Nat) (M:List (List QX)) (b:List QX) (ha:QM w w.heap.size (.slice A n c) M) (hb:QS w w.heap.size (.slice B m d) b) :
  Calls Tryz.prog 16 #[.slice A n c,.slice B m d] w fun e w'=>Below w.heap.size w w'∧RetLs w' (leastA M b) e:=by
 obtain⟨rfl,hn1,hn2⟩:=SL.len ha;obtain⟨rfl,hm1,hm2⟩:=SL.len hb;have HQ:=zz ha;have HS:=zz hb;clear ha hb;obtain⟨w0,hw0⟩:∃ w0:World,w0=((w.alloc (.cells #[.slice A M.length c] 27)).alloc (.cells #[.slice B b.length d] 28)):=⟨_,rfl⟩;have B0:=zz (n2_b hw0);have z0:=n2_z hw0;have La:=n2_0 hw0;have Lb:=n2_1 hw0;have U0:=zz (HQ.out.step (SE.stable EQ.stable) B0.out);have V0:=zz (HS.out.step EQ.stable B0.out);have HA:=zz La;have HB:=zz Lb;obtain⟨fit,hfit⟩:∃ fit:Bool,fit=decide (b.length=M.length):=⟨_,rfl⟩;have W0:=zz hfit;clear hfit;obtain⟨E,hE⟩:∃ E,E=firstE [sysE (okM M),sysE (okL b)] fit:=⟨_,rfl⟩;have g1:=zz hE;clear hE;go_enter Tryz.func16,Tryz.ntmps16
 go_upto_region 1 with (fail)
 rw[← hw0];clear hw0;have P0:∀ w':World,Below w0.heap.size w0 w'→(Below w0.heap.size w0 w'∧w'.cell? ⟨w.heap.size,0,none⟩=some (.slice A M.length c)∧w'.cell? ⟨w.heap.size+1,0,none⟩=some (.slice B b.length d)):=fun w' h=>⟨h,(CB.step La h).cell 0 rfl,(CB.step Lb h).cell 0 rfl⟩
 refine Early.start 6 (fun w'=>Below w0.heap.size w0 w'∧w'.cell? ⟨w.heap.size,0,none⟩=some (.slice A M.length c)∧w'.cell? ⟨w.heap.size+1,0,none⟩=some (.slice B b.length d)) (by kernel_rfl) ?_;refine Early.take (i:=0) (.func (.func 61) #[] #[.pointer (some ⟨w.heap.size+1,0,none⟩),.pointer (some ⟨w.heap.size,0,none⟩)]) rfl (by kernel_rfl) (by kernel_rfl) (by kernel_rfl) (by kernel_rfl) (by kernel_rfl) (fun _ _ _ h=>h) (Or.inl ⟨by rfl,?_⟩) ?_ ?_
 ·intro w' hSw;obtain⟨-,t0,t1⟩:=hSw;go_simp
 ·exact P0 _ (below_drew1 (Below.refl _ _))
 (try simp only[PT])
 refine Early.take (i:=1) (.slice A M.length c) rfl (by kernel_rfl) (by kernel_rfl) (by kernel_rfl) (by kernel_rfl) (by kernel_rfl) (fun _ _ _ h=>h) (Or.inl ⟨by rfl,?_⟩) ?_ ?_
 ·intro w' hSw;obtain⟨-,t0,t1⟩:=hSw;go_simp
 ·exact P0 _ (below_drew1 (Below.refl _ _))
 (try simp only[PT])
 refine Early.take (i:=3) (.slice B b.length d) rfl (by kernel_rfl) (by kernel_rfl) (by kernel_rfl) (by kernel_rfl) (by kernel_rfl) (fun _ _ _ h=>h) (Or.inl ⟨by rfl,?_⟩) ?_ ?_
 ·intro w' hSw;obtain⟨-,t0,t1⟩:=hSw;go_simp
 ·exact P0 _ (below_drew1 (Below.refl _ _))
 (try simp only[PT])
 refine Early.next (i:=2) (by kernel_rfl) rfl (fun K hK=>?_);go_simp;(with_reducible refine(LCheck_any _ A _ c M (SL.drew1 U0.out (SE.stable EQ.stable))).mono ?_)
 rintro e w2 ⟨e0,rfl⟩;replace e0:Below w0.heap.size w0 w2:=below_undrew e0;have B3:=zz e0;have z3:=B3.out.size;have f0:=tr B0 B3;clear e0;refine hK _ _ (fun _=>P0 _ B3.out) ?_;clear hK K;(try simp only[PT])
 refine Early.next (i:=4) (by kernel_rfl) rfl (fun K hK=>?_);go_simp;(with_reducible refine(list_any _ B _ d b (V0.out.step EQ.stable B3.out)).mono ?_)
 rintro e w5 ⟨v0,rfl⟩;have B6:=zz v0;have z6:=B6.out.size;have K0:=tr f0 B6;clear v0;have P1_3_8:=tr B3 B6;refine hK _ _ (fun _=>P0 _ P1_3_8.out) ?_;clear hK K;(try simp only[PT])
 refine Early.next (i:=5) (by kernel_rfl) rfl (fun K hK=>?_);go_simp;refine hK _ _ (fun _=>P0 _ (below_alloc1 (P1_3_8.out) _)) ?_;clear hK K;(try simp only[PT])
 obtain⟨w9,c0⟩:∃ w9:World,w9=(w5.alloc (.cells #[.int .i64 (sysE (okM M)),.int .i64 (sysE (okL b))] 37)):=⟨_,rfl⟩;rw[← c0];have p0:=n1_0 c0;have za9:=n1_z c0;have B10:=zz (n1_b c0);have z10:=B10.out.size;have y0:=tr K0 B10;clear c0;refine Early.next (i:=6) (by kernel_rfl) rfl (fun K hK=>?_);go_simp;have P1_4_12:=tr P1_3_8 B10;(with_reducible refine((show Calls Tryz.prog _ _ _ _ from g1.out▸first_any _ 61 #[.pointer (some ⟨w.heap.size+1,0,none⟩),.pointer (some ⟨w.heap.size,0,none⟩)] fit _ 2 2 [sysE (okM M),sysE (okL b)] (ri_cells p0 [_,_] rfl (by simp)) (by simp) leastFit_run (fun hz w9 x0=>W0.out▸leastFit_any w9 _ _ A B M.length b.length c d (CB.step HA.out (P1_4_12.out.trans (x0.mono P1_4_12.out.size))) (CB.step HB.out (P1_4_12.out.trans (x0.mono P1_4_12.out.size)))))).mono ?_)
 rintro e w13 ⟨g0,rfl⟩;have B14:=zz g0;have z14:=B14.out.size;have d0:=tr y0 B14;clear g0;have P1_5_16:=tr P1_4_12 B14;refine hK _ _ (fun _=>P0 _ P1_5_16.out) ?_;clear hK K;(try simp only[PT])
 refine Early.next (i:=7) (by kernel_rfl) rfl (fun K hK=>?_);go_simp;refine hK _ _ (fun h=>absurd h (by decide)) ?_;clear hK K;(try simp only[PT])
 refine Early.done (by kernel_rfl) ?_ _;(try simp only[Exit.then])
 clear P0;have hsa:=least_of g1.out W0.out;by_cases hE0:E=0
 case neg=>
  have hx:(E != 0)=true:=by rw[bne_iff_ne];exact hE0
  have HR:=zz (hsa.1 hE0);clear hE0 hsa;go_wp2;go_ret2;exact⟨d0.out,by rw[HR.out];exact⟨_,rfl,rfl⟩⟩
 case pos=>
  obtain⟨hr,h1,h2,h3⟩:=hsa.2 hE0;subst hE0;obtain⟨-,hs4,hw4,hm1,hm2,hw1,hw2⟩:=okM_is h1;obtain⟨-,h0,-,-⟩:=okL_is h2;obtain⟨k,hk⟩:∃ k,k=wideQ (ratM M):=⟨_,rfl⟩;rw[← hk] at hw4 hw1 hw2;obtain⟨N,hN⟩:∃ N,N=normM (ratM M):=⟨_,rfl⟩;obtain⟨V,hV⟩:∃ V,V=normV (ratM M) (rats b):=⟨_,rfl⟩;have hnl:N.length=k:=by rw[hN,normM_ln,hk]
  have hvl:V.length=k:=by rw[hV,normV_ln,hk]
  have hnw:Wide N k:=by rw[hN,hk];exact normM_wd
  have hml:(ratM M).length=M.length:=by rw[ratM,List.length_map]
  have hns:Short 117 N:=by rw[hN];exact(normM_short hs4 (by decide)).mono (by rw[hml];omega)
  have hvs:∀ q∈V,QL 117 117 q:=by rw[hV];exact fun q hq=>((normV_short hs4 h0 (by decide) (by decide)) q hq).mono (by rw[hml];omega) (by rw[hml];omega)
  rw[← hN,← hV] at hr;have HR:=zz hr;have H1:=zz h1;have H2:=zz h2;have H3:=zz h3;have i1:=zz hs4;have j1:=zz hw4;have f0:=zz h0;have L0:=zz (And.intro hm1 (And.intro hm2 (And.intro hw1 hw2)));have HK:=zz hk;have HN:=zz hN;have HV:=zz hV;have O0:=zz hnl;have R0:=zz hvl;have X0:=zz hnw;have Y0:=zz hns;have Z0:=zz hvs;clear hr h1 h2 h3 hs4 hw4 h0 hm1 hm2 hw1 hw2 hsa hk hN hV hnl hvl hnw hml hns hvs;cases hso:solveQ N V
  case none=>
   have Q0:=zz hso;clear hso;go_upto_region 4 with (fail)
   have q0:=CB.step La P1_5_16.out;have r0:=CB.step Lb P1_5_16.out;have a1:=zz q0;have HB4':=zz r0;have b1:=zz (U0.out.step (SE.stable EQ.stable) P1_5_16.out);have HS4':=zz (V0.out.step EQ.stable P1_5_16.out);have M0:∀ w':World,Below w13.heap.size w13 w'→(Below w13.heap.size w13 w'∧w'.cell? ⟨w.heap.size,0,none⟩=some (.slice A M.length c)∧w'.cell? ⟨w.heap.size+1,0,none⟩=some (.slice B b.length d)):=fun w' h=>⟨h,(CB.step a1.out h).cell 0 rfl,(CB.step HB4'.out h).cell 0 rfl⟩
   refine Early.start 12 (fun w'=>Below w13.heap.size w13 w'∧w'.cell? ⟨w.heap.size,0,none⟩=some (.slice A M.length c)∧w'.cell? ⟨w.heap.size+1,0,none⟩=some (.slice B b.length d)) (by kernel_rfl) ?_;refine Early.take (i:=0) (.slice A M.length c) rfl (by kernel_rfl) (by kernel_rfl) (by kernel_rfl) (by kernel_rfl) (by kernel_rfl) (fun _ _ _ h=>h) (Or.inl ⟨by rfl,?_⟩) ?_ ?_
   ·intro w' hSw;obtain⟨-,t0,t1⟩:=hSw;go_simp
   ·exact M0 _ (below_drew1 (Below.refl _ _))
   (try simp only[PT])
   refine Early.take (i:=2) (.slice B b.length d) rfl (by kernel_rfl) (by kernel_rfl) (by kernel_rfl) (by kernel_rfl) (by kernel_rfl) (fun _ _ _ h=>h) (Or.inl ⟨by rfl,?_⟩) ?_ ?_
   ·intro w' hSw;obtain⟨-,t0,t1⟩:=hSw;go_simp
   ·exact M0 _ (below_drew1 (Below.refl _ _))
   (try simp only[PT])
   refine Early.next (i:=1) (by kernel_rfl) rfl (fun K hK=>?_);go_simp;(with_reducible refine(readM_any _ A _ c M (SL.drew1 b1.out (SE.stable EQ.stable)) H1.out).mono ?_)
   rintro e w20 ⟨a0,g,G,C,rfl,hom⟩;replace a0:Below w13.heap.size w13 w20:=below_undrew a0;have B21:=zz a0;have z21:=B21.out.size;have A0:=tr d0 B21;clear a0;refine hK _ _ (fun _=>M0 _ B21.out) ?_;clear hK K;(try simp only[PT])
   have c1:=zz hom;clear hom;refine Early.next (i:=3) (by kernel_rfl) rfl (fun K hK=>?_);go_simp;(with_reducible refine(readL_any _ B _ d b (HS4'.out.step EQ.stable B21.out) H2.out).mono ?_)
   rintro e w23 ⟨i0,g',rfl,hgl,hol⟩;have B24:=zz i0;have z24:=B24.out.size;have C0:=tr A0 B24;clear i0;have P5_7_26:=tr B21 B24;refine hK _ _ (fun _=>M0 _ P5_7_26.out) ?_;clear hK K;(try simp only[PT])
   have d1:=zz hol;have n1:=zz hgl;clear hol hgl;refine Early.next (i:=4) (by kernel_rfl) rfl (fun K hK=>?_);go_simp;(with_reducible refine(normal_any _ _ _ _ _ _ _ (ratM M) (rats b) k 4 4 (slM (c1.out.step ER.stable B24.out) (by have:=L0.out;omega)) (slR d1.out (by have:=L0.out;have:=H3.out;omega)) (by rw[ratM,List.length_map];have:=L0.out;omega) (by rw[ratM,rats,List.length_map,List.length_map,H3.out]) j1.out ⟨by rw[ratM,List.length_map];have:=L0.out;omega,by have:=L0.out;omega⟩ i1.out f0.out (by decide) (by rw[ratM,List.length_map];have:=L0.out;omega)).mono ?_)
   rintro e w27 ⟨j0,g2,G2,C2,g3,rfl,hom2,hgl2,hol2,hap2⟩;have B28:=zz j0;have z28:=B28.out.size;have D0:=tr C0 B28;clear j0;have P5_8_30:=tr P5_7_26 B28;refine hK _ _ (fun _=>M0 _ P5_8_30.out) ?_;clear hK K;(try simp only[PT])
   rw[← HN.out] at hom2;rw[← HV.out] at hol2;have S0:=zz hom2;have T0:=zz hol2;clear hom2 hgl2 hol2 hap2;refine Early.take (i:=5) (.slice (some ⟨g2,0,none⟩) k k) rfl (by kernel_rfl) (by kernel_rfl) (by kernel_rfl) (by kernel_rfl) (by kernel_rfl) (fun _ _ _ h=>h) (Or.inl ⟨by rfl,?_⟩) ?_ ?_
   ·intro w' hSw;obtain⟨-,t0,t1⟩:=hSw;go_simp
   ·exact M0 _ (P5_8_30.out)
   (try simp only[PT])
   refine Early.take (i:=6) (.slice (some ⟨g3,0,none⟩) k k) rfl (by kernel_rfl) (by kernel_rfl) (by kernel_rfl) (by kernel_rfl) (by kernel_rfl) (fun _ _ _ h=>h) (Or.inl ⟨by rfl,?_⟩) ?_ ?_
   ·intro w' hSw;obtain⟨-,t0,t1⟩:=hSw;go_simp
   ·exact M0 _ (P5_8_30.out)
   (try simp only[PT])
   refine Early.next (i:=7) (by kernel_rfl) rfl (fun K hK=>?_);go_simp;(with_reducible refine((solve_any _ _ _ _ _ _ _ N V k 117 (O0.out▸S0.out.sl (c:=k) (by rw[O0.out];exact Nat.le_refl _) (by have:=L0.out;omega)) (R0.out▸T0.out.sl (c:=k) (by rw[R0.out];exact Nat.le_refl _) (by have:=L0.out;omega)) (by rw[O0.out];have:=L0.out;omega) (by have:=L0.out;omega) (by rw[O0.out,R0.out];exact Nat.le_refl _) X0.out ⟨by rw[O0.out];have:=L0.out;omega,by have:=L0.out;omega⟩ Y0.out Z0.out (by decide) (Nat.le_trans (Nat.mul_le_mul_left 3 (growQ_mono L0.out.2.2.2)) (by decide))).mono (fun _ _ h=>And.intro h.1 (solN Q0.out h.2))).mono ?_)
   rintro e w31 ⟨k0,rfl⟩;have B32:=zz k0;have z32:=B32.out.size;have E0:=tr D0 B32;clear k0;have P5_9_34:=tr P5_8_30 B32;refine hK _ _ (fun _=>M0 _ P5_9_34.out) ?_;clear hK K;(try simp only[PT])
   refine Early.next (i:=8) (by kernel_rfl) rfl (fun K hK=>?_);go_simp;refine hK _ _ (fun _=>M0 _ (P5_9_34.out)) ?_;clear hK K;(try simp only[PT])
   refine Early.take (i:=10) (.int .i64 7) rfl (by kernel_rfl) (by kernel_rfl) (by kernel_rfl) (by kernel_rfl) (by kernel_rfl) (fun _ _ _ h=>h) (Or.inl ⟨by rfl,?_⟩) ?_ ?_
   ·intro w' hSw;obtain⟨-,t0,t1⟩:=hSw;go_simp
   ·exact M0 _ (P5_9_34.out)
   (try simp only[PT])
   refine Early.next (i:=9) (by kernel_rfl) rfl (fun K hK=>?_);go_simp;refine hK _ _ (fun _=>M0 _ (P5_9_34.out)) ?_;clear hK K;(try simp only[PT])
   refine Early.next (i:=11) (by kernel_rfl) rfl (fun K hK=>?_);go_simp;refine hK _ _ (fun _=>M0 _ (P5_9_34.out)) ?_;clear hK K;(try simp only[PT])
   refine Early.next (i:=12) (by kernel_rfl) rfl (fun K hK=>?_);go_simp;refine hK _ _ (fun h=>absurd h (by decide)) ?_;clear hK K;(try simp only[PT])
   refine Early.done (by kernel_rfl) ?_ _;(try simp only[Exit.then])
   clear M0;go_wp2;go_ret2;exact⟨E0.out,by rw[HR.out,Q0.out];exact⟨_,rfl,rfl⟩⟩
  case some x=>
   have Q0:=zz hso;clear hso;go_upto_region 4 with (fail)
   have s0:=CB.step La P1_5_16.out;have u0:=CB.step Lb P1_5_16.out;have a1:=zz s0;have HB4':=zz u0;have b1:=zz (U0.out.step (SE.stable EQ.stable) P1_5_16.out);have HS4':=zz (V0.out.step EQ.stable P1_5_16.out);have N0:∀ w':World,Below w13.heap.size w13 w'→(Below w13.heap.size w13 w'∧w'.cell? ⟨w.heap.size,0,none⟩=some (.slice A M.length c)∧w'.cell? ⟨w.heap.size+1,0,none⟩=some (.slice B b.length d)):=fun w' h=>⟨h,(CB.step a1.out h).cell 0 rfl,(CB.step HB4'.out h).cell 0 rfl⟩
   refine Early.start 12 (fun w'=>Below w13.heap.size w13 w'∧w'.cell? ⟨w.heap.size,0,none⟩=some (.slice A M.length c)∧w'.cell? ⟨w.heap.size+1,0,none⟩=some (.slice B b.length d)) (by kernel_rfl) ?_;refine Early.take (i:=0) (.slice A M.length c) rfl (by kernel_rfl) (by kernel_rfl) (by kernel_rfl) (by kernel_rfl) (by kernel_rfl) (fun _ _ _ h=>h) (Or.inl ⟨by rfl,?_⟩) ?_ ?_
   ·intro w' hSw;obtain⟨-,t0,t1⟩:=hSw;go_simp
   ·exact N0 _ (below_drew1 (Below.refl _ _))
   (try simp only[PT])
   refine Early.take (i:=2) (.slice B b.length d) rfl (by kernel_rfl) (by kernel_rfl) (by kernel_rfl) (by kernel_rfl) (by kernel_rfl) (fun _ _ _ h=>h) (Or.inl ⟨by rfl,?_⟩) ?_ ?_
   ·intro w' hSw;obtain⟨-,t0,t1⟩:=hSw;go_simp
   ·exact N0 _ (below_drew1 (Below.refl _ _))
   (try simp only[PT])
   refine Early.next (i:=1) (by kernel_rfl) rfl (fun K hK=>?_);go_simp;(with_reducible refine(readM_any _ A _ c M (SL.drew1 b1.out (SE.stable EQ.stable)) H1.out).mono ?_)
   rintro e w38 ⟨b0,g,G,C,rfl,hom⟩;replace b0:Below w13.heap.size w13 w38:=below_undrew b0;have B39:=zz b0;have z39:=B39.out.size;have F0:=tr d0 B39;clear b0;refine hK _ _ (fun _=>N0 _ B39.out) ?_;clear hK K;(try simp only[PT])
   have c1:=zz hom;clear hom;refine Early.next (i:=3) (by kernel_rfl) rfl (fun K hK=>?_);go_simp;(with_reducible refine(readL_any _ B _ d b (HS4'.out.step EQ.stable B39.out) H2.out).mono ?_)
   rintro e w41 ⟨l0,g',rfl,hgl,hol⟩;have B42:=zz l0;have z42:=B42.out.size;have G0:=tr F0 B42;clear l0;have P5_7_44:=tr B39 B42;refine hK _ _ (fun _=>N0 _ P5_7_44.out) ?_;clear hK K;(try simp only[PT])
   have d1:=zz hol;have n1:=zz hgl;clear hol hgl;refine Early.next (i:=4) (by kernel_rfl) rfl (fun K hK=>?_);go_simp;(with_reducible refine(normal_any _ _ _ _ _ _ _ (ratM M) (rats b) k 4 4 (slM (c1.out.step ER.stable B42.out) (by have:=L0.out;omega)) (slR d1.out (by have:=L0.out;have:=H3.out;omega)) (by rw[ratM,List.length_map];have:=L0.out;omega) (by rw[ratM,rats,List.length_map,List.length_map,H3.out]) j1.out ⟨by rw[ratM,List.length_map];have:=L0.out;omega,by have:=L0.out;omega⟩ i1.out f0.out (by decide) (by rw[ratM,List.length_map];have:=L0.out;omega)).mono ?_)
   rintro e w45 ⟨m0,g2,G2,C2,g3,rfl,hom2,hgl2,hol2,hap2⟩;have B46:=zz m0;have z46:=B46.out.size;have H0:=tr G0 B46;clear m0;have P5_8_48:=tr P5_7_44 B46;refine hK _ _ (fun _=>N0 _ P5_8_48.out) ?_;clear hK K;(try simp only[PT])
   rw[← HN.out] at hom2;rw[← HV.out] at hol2;have S0:=zz hom2;have T0:=zz hol2;clear hom2 hgl2 hol2 hap2;refine Early.take (i:=5) (.slice (some ⟨g2,0,none⟩) k k) rfl (by kernel_rfl) (by kernel_rfl) (by kernel_rfl) (by kernel_rfl) (by kernel_rfl) (fun _ _ _ h=>h) (Or.inl ⟨by rfl,?_⟩) ?_ ?_
   ·intro w' hSw;obtain⟨-,t0,t1⟩:=hSw;go_simp
   ·exact N0 _ (P5_8_48.out)
   (try simp only[PT])
   refine Early.take (i:=6) (.slice (some ⟨g3,0,none⟩) k k) rfl (by kernel_rfl) (by kernel_rfl) (by kernel_rfl) (by kernel_rfl) (by kernel_rfl) (fun _ _ _ h=>h) (Or.inl ⟨by rfl,?_⟩) ?_ ?_
   ·intro w' hSw;obtain⟨-,t0,t1⟩:=hSw;go_simp
   ·exact N0 _ (P5_8_48.out)
   (try simp only[PT])
   refine Early.next (i:=7) (by kernel_rfl) rfl (fun K hK=>?_);go_simp;(with_reducible refine((solve_any _ _ _ _ _ _ _ N V k 117 (O0.out▸S0.out.sl (c:=k) (by rw[O0.out];exact Nat.le_refl _) (by have:=L0.out;omega)) (R0.out▸T0.out.sl (c:=k) (by rw[R0.out];exact Nat.le_refl _) (by have:=L0.out;omega)) (by rw[O0.out];have:=L0.out;omega) (by have:=L0.out;omega) (by rw[O0.out,R0.out];exact Nat.le_refl _) X0.out ⟨by rw[O0.out];have:=L0.out;omega,by have:=L0.out;omega⟩ Y0.out Z0.out (by decide) (Nat.le_trans (Nat.mul_le_mul_left 3 (growQ_mono L0.out.2.2.2)) (by decide))).mono (fun _ _ h=>And.intro h.1 (solS Q0.out h.2))).mono ?_)
   rintro e w49 ⟨n0,gx,rfl,hgx,hox⟩;have B50:=zz n0;have z50:=B50.out.size;have I0:=tr H0 B50;clear n0;have P5_9_52:=tr P5_8_48 B50;refine hK _ _ (fun _=>N0 _ P5_9_52.out) ?_;clear hK K;(try simp only[PT])
   refine Early.next (i:=8) (by kernel_rfl) rfl (fun K hK=>?_);go_simp;refine hK _ _ (fun _=>N0 _ (P5_9_52.out)) ?_;clear hK K;(try simp only[PT])
   refine Early.take (i:=10) (.int .i64 0) rfl (by kernel_rfl) (by kernel_rfl) (by kernel_rfl) (by kernel_rfl) (by kernel_rfl) (fun _ _ _ h=>h) (Or.inl ⟨by rfl,?_⟩) ?_ ?_
   ·intro w' hSw;obtain⟨-,t0,t1⟩:=hSw;go_simp
   ·exact N0 _ (P5_9_52.out)
   (try simp only[PT])
   refine Early.next (i:=9) (by kernel_rfl) rfl (fun K hK=>?_);go_simp;refine hK _ _ (fun _=>N0 _ (P5_9_52.out)) ?_;clear hK K;(try simp only[PT])
   refine Early.next (i:=11) (by kernel_rfl) rfl (fun K hK=>?_);go_simp;refine hK _ _ (fun _=>N0 _ (P5_9_52.out)) ?_;clear hK K;(try simp only[PT])
   refine Early.next (i:=12) (by kernel_rfl) rfl (fun K hK=>?_);go_simp;refine hK _ _ (fun h=>absurd h (by decide)) ?_;clear hK K;(try simp only[PT])
   refine Early.done (by kernel_rfl) ?_ _;(try simp only[Exit.then])
   clear N0;have o1:=zz hox;clear hox hgx;have hxl:x.length=k:=by rw[solveQ_len Q0.out,wideQ,X0.out.getD (by rw[O0.out];have:=L0.out;omega)]
   have e1:=zz hxl;clear hxl;have hwq:wideQ N≤6:=by rw[← solveQ_len Q0.out,e1.out];exact L0.out.2.2.2
   have k1:=zz hwq;clear hwq;go_wp2_with fail
   refine(ltold_any _ _ _ _ x (o1.out.sl (Nat.le_refl _) (by rw[e1.out];have:=L0.out;omega)) (fun q hq=>(solveQ_short Q0.out Y0.out Z0.out (by decide) q hq).mono (Nat.le_trans (growQ_mono k1.out) (by decide)) (Nat.le_trans (growQ_mono k1.out) (by decide))) (by rw[e1.out];have:=L0.out;omega)).mono ?_;rintro e w53 ⟨o0,v,rfl,hv⟩;have B54:=zz o0;have z54:=B54.out.size;have J0:=tr I0 B54;clear o0;have p1:=zz hv;clear hv;go_wp2;go_ret2;exact⟨J0.out,by rw[HR.out,Q0.out];exact⟨_,rfl,p1.out⟩⟩
end Go.Proofs.YtdigbofiebfkeaaGreatDoor
