/- Texts put together. -/
import Derived.Test.YtencnahjgbdeoaaGreatDoorLlm
import Derived.Test.YtencnahjgbdeoaaGreatDoorLb1
namespace Go.Proofs.YtencnahjgbdeoaaGreatDoor
open Go Go.RowKit Dig
set_option maxRecDepth 100000
set_option maxHeartbeats 4000000
set_option linter.unusedSimpArgs false
variable {M:List (List Rat)} {b x:List Rat} {l:Nat} {w:World}
def eF:List Int→Bool→Int
 | [],fit=>bif fit then 0 else 2
 | e :: es,fit=>if e=0 then eF es fit else e
theorem jF (w:World) (F0:FuncId) (cap:Array Value) (fit:Bool) (A:Option Addr) (n c:Nat) (es:List Int) (hE:RI w w.heap.size (.slice A n c) es) (hl:es.length≤1000000) (hrun:∀ args (w1:World),(callFunc F0 args).run Tryz.prog w1=.ok (.enter F0 args) w1)
  (hF:(∀ e∈es,e=0)→∀ w1:World,Below w.heap.size w w1→Calls Tryz.prog F0 cap w1 fun e w'=>Below w1.heap.size w1 w'∧e=.returned (.bool fit)) :
  CV 35 #[.func (.func F0) #[] cap,.slice A n c] w fun e _=>e=.returned (.int .i64 (eF es fit)):=by
 obtain rfl:=RI.len hE;have HE:=zz hE;have HF:=zz hF;clear hE hF;have hkk:(es.length:Int)≤1000000:=by omega
 have b0:=zz (aDy w.heap.size w);go_enter Tryz.func35,Tryz.ntmps35
 go_wp2;go_loopw [9] (fun iv wr=>∃ j:Nat,j≤es.length∧iv=.int .i64 j∧Hi (eF es fit=eF (es.drop j) fit)∧Hi (∀ e∈es.take j,e=0)∧Hi (Below w.heap.size w wr)) (fun iv _=>es.length-(intOf iv).toNat)
 case atStart=>exact⟨0,aEy _,rfl,zz rfl,zz (fun e h=>by simp at h),b0⟩
 case round=>
  obtain⟨j,hj,rfl,HD,HZ,HW⟩:=hrel;have zr:=HW.o.size;by_cases hlt:j<es.length
  ·obtain⟨A1,c1,he,-,-,hx⟩:=HE.o;injection he with he1 he2 he3;subst he1;subst he3;obtain⟨g,off,rfl,hg,hx⟩:=hx (by omega)
   have q0:=(HW.o.cell (p:=⟨g,off+j,none⟩) hg).trans (hx j hlt);clear hx;have hji:(0:Int)≤(j:Int)∧(j:Int)<(es.length:Int):=by omega
   have hdr:es.drop j=es[j] :: es.drop (j+1):=aFd hlt;have htk:es.take (j+1)=es.take j++[es[j]]:=by rw[aFj,aEh hlt];rfl
   rw[hdr] at HD;generalize es[j]=x at q0 HD htk hdr;clear hdr;have g0:=zz htk;clear htk;by_cases hx0:x=0
   ·subst hx0;have e0:=zz (HD.o.trans (show eF (0 :: es.drop (j+1)) fit=eF (es.drop (j+1)) fit from aEv rfl));have h0:=zz (show ∀ e∈es.take (j+1),e=0 from fun e h=>by rw[g0.o] at h;rcases aGb.1 h with h | h;exact HZ.o e h;exact aHt.1 h);go_wp2;go_roundw
    case rel=>exact⟨j+1,hlt,by go_num,e0,h0,HW⟩
    case measure=>exact ms
   ·have hx1:(x != 0)=true:=by rw[aJg];exact hx0
    have e0:=zz (HD.o.trans (show eF (x :: es.drop (j+1)) fit=x from aEu hx0));clear hx0;go_wp2;go_ret;exact⟨HW.o,by rw[e0.o];rfl⟩
  ·obtain rfl:j=es.length:=by omega
   rw[aFe] at HZ;rw[List.drop_length] at HD;go_wp2_with fail
   refine(HF.o HZ.o _ HW.o).mono ?_;rintro e w1 ⟨hb,rfl⟩;have a0:=zz (HW.o.trans (hb.mono HW.o.size));clear hb;cases fit
   case false=>go_wp2;go_ret;exact⟨a0.o,by rw[HD.o];rfl⟩
   case true=>go_wp2;go_ret;exact⟨a0.o,by rw[HD.o];rfl⟩
theorem BT (w:World) (ba bb:Nat) (Aa Ab:Option Addr) (ca cb:Nat) (M:List (List QX)) (b:List QX) (hA:CB w ba 22 #[.slice Aa M.length ca]) (hQ:QM w w.heap.size (.slice Aa M.length ca) M) (hM:0<M.length) (hB:CB w bb 23 #[.slice Ab b.length cb]) :
  CV 36 #[.pointer (some ⟨bb,0,none⟩),.pointer (some ⟨ba,0,none⟩)] w fun e _=>e=.returned (.bool (decide (b.length=M.length)&&decide (M.length=(M.getD 0 []).length))):=by
 obtain⟨g0,off0,A0,c0,rfl,-,hc0,-⟩:=aKy hQ hM;rw[aGd] at hc0;have d0:=zz hc0;obtain⟨v0,a0⟩:∃ v,v=(M.getD 0 []).length:=⟨_,rfl⟩;rw[show M[0].length=v0 by rw[a0,aG hM]] at hc0;have hl:=aHb hQ;have hmi:(0:Int)<(M.length:Int):=by omega
 rw[← a0];clear d0 hQ;have qa:=hA.cell 0 rfl;have qb:=hB.cell 0 rfl;have la:=hA.lt;have lb:=hB.lt;have b0:=zz (aDy w.heap.size w);clear a0;by_cases h1:b.length=M.length
 ·have h1':((b.length:Int)==(M.length:Int))=true:=by rw[aIh];omega
  by_cases h2:M.length=v0
  ·have h2':((M.length:Int)==(v0:Int))=true:=by rw[aIh];omega
   rw[aEj h1,aEj h2];clear h1 h2;go_enter Tryz.func36,Tryz.ntmps36
   go_upto_region 1 with (fail);go_quiet (fail);go_wp2;go_ret;exact⟨aS b0.o _,rfl⟩
  ·have h2':((M.length:Int)==(v0:Int))=false:=by rw[aEo];omega
   rw[aEj h1,aEe h2];clear h1 h2;go_enter Tryz.func36,Tryz.ntmps36
   go_upto_region 1 with (fail);go_quiet (fail);go_wp2;go_ret;exact⟨aS b0.o _,rfl⟩
 ·have h1':((b.length:Int)==(M.length:Int))=false:=by rw[aEo];omega
  rw[aEe h1];clear h1;go_enter Tryz.func36,Tryz.ntmps36
  go_upto_region 1 with (fail);go_quiet (fail);go_wp2;go_ret;exact⟨aS b0.o _,rfl⟩
theorem BS (args:Array Value) (w1:World):(callFunc 36 args).run Tryz.prog w1=.ok (.enter 36 args) w1:=by kernel_rfl
theorem xN (w:World) (ba bb bx:Nat) (Aa Ab Ax:Option Addr) (ca cb cx:Nat) (M:List (List QX)) (b x:List QX) (hA:CB w ba 22 #[.slice Aa M.length ca]) (hQ:QM w w.heap.size (.slice Aa M.length ca) M) (hM:0<M.length) (hB:CB w bb 23 #[.slice Ab b.length cb]) (hX:CB w bx 23 #[.slice Ax x.length cx]) :
  CV 51 #[.pointer (some ⟨bb,0,none⟩),.pointer (some ⟨ba,0,none⟩),.pointer (some ⟨bx,0,none⟩)] w fun e _=>e=.returned (.bool (decide (b.length=M.length)&&decide (x.length=(M.getD 0 []).length))):=by
 obtain⟨g0,off0,A0,c0,rfl,-,hc0,-⟩:=aKy hQ hM;rw[aGd] at hc0;have d0:=zz hc0;obtain⟨v0,a0⟩:∃ v,v=(M.getD 0 []).length:=⟨_,rfl⟩;rw[show M[0].length=v0 by rw[a0,aG hM]] at hc0;have hl:=aHb hQ;have hmi:(0:Int)<(M.length:Int):=by omega
 rw[← a0];clear d0 hQ;have qa:=hA.cell 0 rfl;have qb:=hB.cell 0 rfl;have la:=hA.lt;have lb:=hB.lt;have qx':=hX.cell 0 rfl;have lx:=hX.lt;have b0:=zz (aDy w.heap.size w);clear a0;by_cases h1:b.length=M.length
 ·have h1':((b.length:Int)==(M.length:Int))=true:=by rw[aIh];omega
  by_cases h2:x.length=v0
  ·have h2':((x.length:Int)==(v0:Int))=true:=by rw[aIh];omega
   rw[aEj h1,aEj h2];clear h1 h2;go_enter Tryz.func51,Tryz.ntmps51
   go_upto_region 1 with (fail);go_quiet (fail);go_wp2;go_ret;exact⟨aS b0.o _,rfl⟩
  ·have h2':((x.length:Int)==(v0:Int))=false:=by rw[aEo];omega
   rw[aEj h1,aEe h2];clear h1 h2;go_enter Tryz.func51,Tryz.ntmps51
   go_upto_region 1 with (fail);go_quiet (fail);go_wp2;go_ret;exact⟨aS b0.o _,rfl⟩
 ·have h1':((b.length:Int)==(M.length:Int))=false:=by rw[aEo];omega
  rw[aEe h1];clear h1;go_enter Tryz.func51,Tryz.ntmps51
  go_upto_region 1 with (fail);go_quiet (fail);go_wp2;go_ret;exact⟨aS b0.o _,rfl⟩
theorem xM (args:Array Value) (w1:World):(callFunc 51 args).run Tryz.prog w1=.ok (.enter 51 args) w1:=by kernel_rfl
theorem xZ (w:World) (ba bb:Nat) (Aa Ab:Option Addr) (n m ca cb:Nat) (hA:CB w ba 22 #[.slice Aa n ca]) (hB:CB w bb 23 #[.slice Ab m cb]) :
  CV 47 #[.pointer (some ⟨bb,0,none⟩),.pointer (some ⟨ba,0,none⟩)] w fun e _=>e=.returned (.bool (decide (m=n))):=by
 have qa:=hA.cell 0 rfl;have qb:=hB.cell 0 rfl;have la:=hA.lt;have lb:=hB.lt;have a0:=zz (aDy w.heap.size w);by_cases h1:m=n
 ·have h1':((m:Int)==(n:Int))=true:=by rw[aIh];omega
  rw[aEj h1];clear h1;go_enter Tryz.func47,Tryz.ntmps47
  go_wp2;go_ret;exact⟨a0.o,rfl⟩
 ·have h1':((m:Int)==(n:Int))=false:=by rw[aEo];omega
  rw[aEe h1];clear h1;go_enter Tryz.func47,Tryz.ntmps47
  go_wp2;go_ret;exact⟨a0.o,rfl⟩
theorem xY (args:Array Value) (w1:World):(callFunc 47 args).run Tryz.prog w1=.ok (.enter 47 args) w1:=by kernel_rfl
theorem CE (w:World) (ba bb:Nat) (Aa Ab:Option Addr) (n m ca cb:Nat) (hA:CB w ba 22 #[.slice Aa n ca]) (hB:CB w bb 23 #[.slice Ab m cb]) :
  CV 60 #[.pointer (some ⟨bb,0,none⟩),.pointer (some ⟨ba,0,none⟩)] w fun e _=>e=.returned (.bool (decide (m=n))):=by
 have qa:=hA.cell 0 rfl;have qb:=hB.cell 0 rfl;have la:=hA.lt;have lb:=hB.lt;have a0:=zz (aDy w.heap.size w);by_cases h1:m=n
 ·have h1':((m:Int)==(n:Int))=true:=by rw[aIh];omega
  rw[aEj h1];clear h1;go_enter Tryz.func60,Tryz.ntmps60
  go_wp2;go_ret;exact⟨a0.o,rfl⟩
 ·have h1':((m:Int)==(n:Int))=false:=by rw[aEo];omega
  rw[aEe h1];clear h1;go_enter Tryz.func60,Tryz.ntmps60
  go_wp2;go_ret;exact⟨a0.o,rfl⟩
theorem CD (args:Array Value) (w1:World):(callFunc 60 args).run Tryz.prog w1=.ok (.enter 60 args) w1:=by kernel_rfl
theorem UW {M:List (List QX)} {b:List QX} {E:Int} {fit:Bool} (hE:E=eF [bD (eA M),bD (dC b)] fit) (hf:fit=(decide (b.length=M.length)&&decide (M.length=(M.getD 0 []).length))) :
  (E≠0→gI M b=(none,E))∧(E=0→gI M b=mM (aZ (aK M) (aW b))∧eA M=true∧dC b=true∧b.length=M.length∧M.length=(M.getD 0 []).length):=by
 cases h1:eA M with
 | false=>rw[h1] at hE;refine⟨fun _=>?_,fun h=>?_⟩;unfold gI;rw[h1,aEu (by simp),hE];rfl;rw[h] at hE;cases hE
 | true=>
  cases h2:dC b with
  | false=>rw[h1,h2] at hE;refine⟨fun _=>?_,fun h=>?_⟩;unfold gI;rw[h1,h2,aEu (by simp),hE];rfl;rw[h] at hE;cases hE
  | true=>
   rw[h1,h2] at hE;cases h3:fit with
   | false=>
    rw[h3] at hE hf;have hn:¬ (b.length=M.length∧M.length=(M.getD 0 []).length):=fun h=>by rw[aEj h.1,aEj h.2] at hf;cases hf
    refine⟨fun _=>?_,fun h=>?_⟩
    ·unfold gI;rw[h1,h2,aEv ⟨rfl,rfl⟩,aEu hn,hE];rfl
    ·rw[h] at hE;cases hE
   | true=>
    rw[h3] at hE hf;have hp:=(aFg.1 hf.symm);have hp':=aEn (aGw hp.1) (aGw hp.2);refine⟨fun h=>absurd hE h,fun _=>⟨?_,rfl,rfl,hp'.1,hp'.2⟩⟩;unfold gI;rw[h1,h2,aEv ⟨rfl,rfl⟩,aEv hp']
theorem mU {M:List (List QX)}:aM (aK M)=(M.getD 0 []).length:=by cases M with | nil=>rfl | cons r t=>simp[aM,aK,aW]
theorem slM {T TH:TypeId} {B tb Rh:Nat} {G C:Nat→Nat} {M:List (List QX)} (h:OM 3 ER T TH w B tb Rh G C (aK M)) (hl:M.length≤1000000):RM w w.heap.size (.slice (some ⟨tb,0,none⟩) M.length M.length) (aK M):=by
 have hm:(aK M).length=M.length:=by rw[aK,aEb]
 have:=h.sl (c:=M.length) (by rw[hm];exact aEa _) (by omega)
 rwa [hm] at this
theorem slR {T:TypeId} {g n:Nat} {b:List QX} (h:OB 3 ER T w g n (aW b)) (hl:b.length≤1000000):RS w w.heap.size (.slice (some ⟨g,0,none⟩) b.length b.length) (aW b):=by
 have hm:(aW b).length=b.length:=by rw[aW,aEb]
 have:=h.sl (c:=b.length) (by rw[hm];exact aEa _) (by omega)
 rwa [hm] at this
theorem YE {Z:Nat} {o:Option (List Rat)} {e:Ending} (h:o=none) (hs:aAz Z w o e):e=.returned (.tuple #[.slice none 0 0,.int .i64 7]):=by subst h;exact hs
theorem YD {Z:Nat} {o:Option (List Rat)} {e:Ending} (h:o=some x) (hs:aAz Z w o e):∃ g,e=.returned (.tuple #[.slice (some ⟨g,0,none⟩) x.length x.length,.int .i64 0])∧Z≤g∧OB 3 ER 88 w g x.length x:=by subst h;exact hs
theorem jS {a:List (List Rat)} (h:aZ a b=some x):x.length=aM a:=by
 unfold aZ at h
 split at h
 ·injection h with h;rw[← h];simp[jL]
 ·cases h
theorem iY {a:List (List Rat)} (h:aZ a b=some x) (hL:Short l a) (hb:∀ q∈b,QL l l q) (h1:1≤l):∀ q∈x,QL (dE l (aM a)) (dE l (aM a)) q:=by
 unfold aZ at h
 split at h
 ·injection h with h
  intro q hq;rw[← h] at hq;obtain⟨i,-,rfl⟩:=aFc.1 hq;have hs:=(pO hL hb h1).elim h1 (aM a);have hg:=cE (L:=l) (jG (bM a b) (aM a)).2;exact(hs.mono hg).at (cG h1 _) i _
 ·cases h
theorem fF (w:World) (A:Option Addr) (n c:Nat) (M:List (List QX)) (h:QM w w.heap.size (.slice A n c) M) (hok:eA M=true) :
  CV 39 #[.slice A n c,.func (.func 40) #[] #[]] w fun e w'=>∃ g G C,e=.returned (.slice (some ⟨g,0,none⟩) M.length M.length)∧OM 3 ER 88 65 w' w.heap.size g M.length G C (aK M):=by
 have hm:=jM hok;have hr:∀ r∈M,dC r=true:=fun r hr=>by
  unfold eA at hok;simp only[aFs,aEx] at hok
  exact(hok.2 r hr).2
 refine SW w A n c M 40 aW h (by have:=hm.2.2.2.2.1;omega) (fun args w1=>by kernel_rfl) (fun w1 j hj A' u c' hb hx=>?_);obtain⟨e1,-,-,e4⟩:=fM (hr M[j] (aEc hj));have hl:(aW M[j]).length=M[j].length:=by rw[aW,aEb]
 rw[e1] at hx;refine(vI w1 A' u c' (aW M[j]) hx (by rw[hl];omega)).mono ?_;rintro e w' ⟨hb',g,he,hg,ho⟩;exact⟨hb',g,he,hg,by rw[hl];omega,ho⟩
theorem iH (w:World) (A:Option Addr) (n c:Nat) (b:List QX) (h:QS w w.heap.size (.slice A n c) b) (hok:dC b=true) :
  CV 40 #[.slice A n c] w fun e w'=>∃ g,e=.returned (.slice (some ⟨g,0,none⟩) b.length b.length)∧w.heap.size≤g∧OB 3 ER 88 w' g b.length (aW b):=by
 obtain⟨e1,-,-,e4⟩:=fM hok;have hl:(aW b).length=b.length:=by rw[aW,aEb]
 have:=vI w A n c (aW b) (by rw[← e1];exact h) (by rw[hl];omega);rw[hl] at this;exact this
theorem kX {b:Nat} {t:TypeId} {arr:Array Value} (h:CB w b t arr) (xs:List Int) (e:arr=(xs.map (Value.int .i64)).toArray) (hl:xs.length≤1000):RI w w.heap.size (.slice (some ⟨b,0,none⟩) xs.length xs.length) xs:=
 ⟨_,_,rfl,aEa _,by omega,fun _=>⟨b,0,rfl,h.lt,fun j hj=>by
  rw[aIx];exact h.cell j (by rw[e];simp[hj])⟩⟩
theorem qP {b:Bool} (h:bD b=0):b=true:=by cases b with | true=>rfl | false=>cases h
theorem oC {M:List (List QX)} (h:eA M=true):0<M.length:=(jM h).2.2.2.1
theorem mI (w:World) (A B:Option Addr) (n c m d:Nat) (M:List (List QX)) (b:List QX) (ha:QM w w.heap.size (.slice A n c) M) (hb:QS w w.heap.size (.slice B m d) b) :
  CV 11 #[.slice A n c,.slice B m d] w fun e w'=>mS w' (gI M b) e:=by
 obtain⟨rfl,hn1,hn2⟩:=aHb ha;obtain⟨rfl,hm1,hm2⟩:=aHb hb;have HQ:=zz ha;have HS:=zz hb;clear ha hb;obtain⟨w0,hw0⟩:=ex ((w.alloc (.cells #[.slice A M.length c] 22)).alloc (.cells #[.slice B b.length d] 23));have B0:=zz (pK hw0);have z0:=pJ hw0;have La:=pM hw0;have Lb:=pL hw0;have M0:=zz (HQ.o.step (aFl aEf) B0.o);have N0:=zz (HS.o.step aEf B0.o);have HA:=zz La;have HB:=zz Lb;obtain⟨fit,hfit⟩:=ex (α:=Bool) (decide (b.length=M.length)&&decide (M.length=(M.getD 0 []).length));have O0:=zz hfit;clear hfit;obtain⟨E,hE⟩:=ex (eF [bD (eA M),bD (dC b)] fit);have W0:=zz hE;clear hE;go_enter Tryz.func11,Tryz.ntmps11
 go_upto_region 1 with (fail)
 rw[← hw0];clear hw0;have K0:∀ w':World,Below w0.heap.size w0 w'→(Below w0.heap.size w0 w'∧w'.cell? ⟨w.heap.size,0,none⟩=some (.slice A M.length c)∧w'.cell? ⟨w.heap.size+1,0,none⟩=some (.slice B b.length d)):=fun w' h=>⟨h,(aEd La h).cell 0 rfl,(aEd Lb h).cell 0 rfl⟩
 refine aIr 6 (fun w'=>Below w0.heap.size w0 w'∧w'.cell? ⟨w.heap.size,0,none⟩=some (.slice A M.length c)∧w'.cell? ⟨w.heap.size+1,0,none⟩=some (.slice B b.length d)) (by kernel_rfl) ?_;refine ET 0 (.func (.func 36) #[] #[.pointer (some ⟨w.heap.size+1,0,none⟩),.pointer (some ⟨w.heap.size,0,none⟩)]) rfl (Or.inl ⟨by rfl,?_⟩) ?_ ?_
 ·intro w' hSw;obtain⟨-,t0,t1⟩:=hSw;go_simp
 ·exact K0 _ (aA (aDy _ _))
 (try simp only[PT])
 refine ET 1 (.slice A M.length c) rfl (Or.inl ⟨by rfl,?_⟩) ?_ ?_
 ·intro w' hSw;obtain⟨-,t0,t1⟩:=hSw;go_simp
 ·exact K0 _ (aA (aDy _ _))
 (try simp only[PT])
 refine ET 3 (.slice B b.length d) rfl (Or.inl ⟨by rfl,?_⟩) ?_ ?_
 ·intro w' hSw;obtain⟨-,t0,t1⟩:=hSw;go_simp
 ·exact K0 _ (aA (aDy _ _))
 (try simp only[PT])
 refine en 2 rfl fun K hK=>?_;go_simp;(with_reducible refine(gA _ A _ c M (aNe M0.o (aFl aEf))).mono ?_)
 rintro e w2 ⟨f0,rfl⟩;replace f0:Below w0.heap.size w0 w2:=aR f0;have B3:=zz f0;have z3:=B3.o.size;have c0:=tr B0 B3;clear f0;refine hK _ _ (fun _=>K0 _ B3.o) ?_;clear hK K;(try simp only[PT])
 refine en 4 rfl fun K hK=>?_;go_simp;(with_reducible refine(fS _ B _ d b (N0.o.step aEf B3.o)).mono ?_)
 rintro e w5 ⟨s0,rfl⟩;have B6:=zz s0;have z6:=B6.o.size;have G0:=tr c0 B6;clear s0;have P1:=tr B3 B6;refine hK _ _ (fun _=>K0 _ P1.o) ?_;clear hK K;(try simp only[PT])
 refine en 5 rfl fun K hK=>?_;go_simp;refine hK _ _ (fun _=>K0 _ (aB (P1.o) _)) ?_;clear hK K;(try simp only[PT])
 obtain⟨w9,d0⟩:=ex (w5.alloc (.cells #[.int .i64 (bD (eA M)),.int .i64 (bD (dC b))] 40));rw[← d0];have n0:=cL d0;have za9:=cJ d0;have B10:=zz (cK d0);have z10:=B10.o.size;have v0:=tr G0 B10;clear d0;refine en 6 rfl fun K hK=>?_;go_simp;have W1:=tr P1 B10;(with_reducible refine((show Calls Tryz.prog _ _ _ _ from W0.o▸jF _ 36 #[.pointer (some ⟨w.heap.size+1,0,none⟩),.pointer (some ⟨w.heap.size,0,none⟩)] fit _ 2 2 [bD (eA M),bD (dC b)] (kX n0 [_,_] rfl (by simp)) (by simp) BS (fun hz w9 g0=>O0.o▸BT w9 _ _ A B c d M b (aEd HA.o (W1.o.trans (g0.mono W1.o.size))) (M0.o.step (aFl aEf) (W1.o.trans (g0.mono W1.o.size))) (oC (qP (hz _ (by simp)))) (aEd HB.o (W1.o.trans (g0.mono W1.o.size)))))).mono ?_)
 rintro e w13 ⟨h0,rfl⟩;have B14:=zz h0;have z14:=B14.o.size;have e0:=tr v0 B14;clear h0;have Y1:=tr W1 B14;refine hK _ _ (fun _=>K0 _ Y1.o) ?_;clear hK K;(try simp only[PT])
 refine en 7 rfl fun K hK=>?_;go_simp;refine hK _ _ (fun h=>absurd h (by decide)) ?_;clear hK K;(try simp only[PT])
 refine aIj (by kernel_rfl) ?_ _;(try simp only[Exit.then])
 clear K0;have hsa:=UW W0.o O0.o;by_cases hE0:E=0
 case neg=>
  have hx:(E != 0)=true:=by rw[aJg];exact hE0
  have HR:=zz (hsa.1 hE0);clear hE0 hsa;go_wp2;go_ret2;exact⟨e0.o,by rw[HR.o];exact⟨_,rfl,rfl⟩⟩
 case pos=>
  obtain⟨hr,h1,h2,h3,h4⟩:=hsa.2 hE0;subst hE0;obtain⟨-,hs4,hw4,hm1,hm2,hw1,hw2⟩:=jM h1;obtain⟨-,u0,-,-⟩:=fM h2;have hwk:aM (aK M)=M.length:=by rw[mU,h4]
  rw[hwk] at hw4 hw1 hw2;have HR:=zz hr;have H1:=zz h1;have H2:=zz h2;have H3:=zz h3;have P0:=zz hs4;have X0:=zz hw4;have c0:=zz u0;have H0:=zz (aEn hm1 hw2);have Q0:=zz hwk;clear hr h1 h2 h3 h4 hs4 hw4 u0 hm1 hm2 hw1 hw2 hsa hwk;cases hso:aZ (aK M) (aW b)
  case none=>
   have L0:=zz hso;clear hso;go_upto_region 4 with (fail)
   have o0:=aEd La Y1.o;have p0:=aEd Lb Y1.o;have R0:=zz o0;have HB4':=zz p0;have S0:=zz (M0.o.step (aFl aEf) Y1.o);have HS4':=zz (N0.o.step aEf Y1.o);have I0:∀ w':World,Below w13.heap.size w13 w'→(Below w13.heap.size w13 w'∧w'.cell? ⟨w.heap.size,0,none⟩=some (.slice A M.length c)∧w'.cell? ⟨w.heap.size+1,0,none⟩=some (.slice B b.length d)):=fun w' h=>⟨h,(aEd R0.o h).cell 0 rfl,(aEd HB4'.o h).cell 0 rfl⟩
   refine aIr 4 (fun w'=>Below w13.heap.size w13 w'∧w'.cell? ⟨w.heap.size,0,none⟩=some (.slice A M.length c)∧w'.cell? ⟨w.heap.size+1,0,none⟩=some (.slice B b.length d)) (by kernel_rfl) ?_;refine ET 0 (.slice A M.length c) rfl (Or.inl ⟨by rfl,?_⟩) ?_ ?_
   ·intro w' hSw;obtain⟨-,t0,t1⟩:=hSw;go_simp
   ·exact I0 _ (aA (aDy _ _))
   (try simp only[PT])
   refine ET 2 (.slice B b.length d) rfl (Or.inl ⟨by rfl,?_⟩) ?_ ?_
   ·intro w' hSw;obtain⟨-,t0,t1⟩:=hSw;go_simp
   ·exact I0 _ (aA (aDy _ _))
   (try simp only[PT])
   refine en 1 rfl fun K hK=>?_;go_simp;(with_reducible refine(fF _ A _ c M (aNe S0.o (aFl aEf)) H1.o).mono ?_)
   rintro e w20 ⟨a0,g,G,C,rfl,hom⟩;replace a0:Below w13.heap.size w13 w20:=aR a0;have B21:=zz a0;have z21:=B21.o.size;have x0:=tr e0 B21;clear a0;refine hK _ _ (fun _=>I0 _ B21.o) ?_;clear hK K;(try simp only[PT])
   have T0:=zz hom;clear hom;refine en 3 rfl fun K hK=>?_;go_simp;(with_reducible refine(iH _ B _ d b (HS4'.o.step aEf B21.o) H2.o).mono ?_)
   rintro e w23 ⟨i0,g',rfl,hgl,hol⟩;have B24:=zz i0;have z24:=B24.o.size;have y0:=tr x0 B24;clear i0;have X1:=tr B21 B24;refine hK _ _ (fun _=>I0 _ X1.o) ?_;clear hK K;(try simp only[PT])
   have U0:=zz hol;have Z0:=zz hgl;clear hol hgl;refine en 4 rfl fun K hK=>?_;go_simp;(with_reducible refine((gC _ _ _ _ _ _ _ (aK M) (aW b) M.length 4 (slM (T0.o.step aEw B24.o) (by have:=H0.o;omega)) (slR U0.o (by have:=H0.o;have:=H3.o;omega)) (by rw[aK,aEb];have:=H0.o;omega) (by have:=H0.o;omega) (by rw[aK,aW,aEb,aEb,H3.o];exact aEa _) X0.o ⟨by rw[aK,aEb];have:=H0.o;omega,by have:=H0.o;omega⟩ P0.o c0.o (by decide) (aEg (aFf 3 (cE H0.o.2)) (by decide))).mono (fun _ _ h=>aEn h.1 (YE L0.o h.2))).mono ?_)
   rintro e w27 ⟨j0,rfl⟩;have B28:=zz j0;have z28:=B28.o.size;have A0:=tr y0 B28;clear j0;have Z1:=tr X1 B28;refine hK _ _ (fun _=>I0 _ Z1.o) ?_;clear hK K;(try simp only[PT])
   refine en 5 rfl fun K hK=>?_;go_simp;refine hK _ _ (fun h=>absurd h (by decide)) ?_;clear hK K;(try simp only[PT])
   refine Early.pure (i:=7) (.int .i64 7) rfl (by kernel_rfl) (by decide) (by kernel_rfl) (by kernel_rfl) (fun _ _ _ h=>h) (Or.inl ⟨by rfl,?_⟩) ?_
   ·intro w' _;go_simp
   (try simp only[PT])
   refine en 6 rfl fun K hK=>?_;go_simp;refine hK _ _ (fun h=>absurd h (by decide)) ?_;clear hK K;(try simp only[PT])
   refine en 8 rfl fun K hK=>?_;go_simp;refine hK _ _ (fun h=>absurd h (by decide)) ?_;clear hK K;(try simp only[PT])
   refine en 9 rfl fun K hK=>?_;go_simp;refine hK _ _ (fun h=>absurd h (by decide)) ?_;clear hK K;(try simp only[PT])
   refine aIj (by kernel_rfl) ?_ _;(try simp only[Exit.then])
   clear I0;go_wp2;go_ret2;exact⟨A0.o,by rw[HR.o,L0.o];exact⟨_,rfl,rfl⟩⟩
  case some x=>
   have L0:=zz hso;clear hso;go_upto_region 4 with (fail)
   have q0:=aEd La Y1.o;have r0:=aEd Lb Y1.o;have R0:=zz q0;have HB4':=zz r0;have S0:=zz (M0.o.step (aFl aEf) Y1.o);have HS4':=zz (N0.o.step aEf Y1.o);have J0:∀ w':World,Below w13.heap.size w13 w'→(Below w13.heap.size w13 w'∧w'.cell? ⟨w.heap.size,0,none⟩=some (.slice A M.length c)∧w'.cell? ⟨w.heap.size+1,0,none⟩=some (.slice B b.length d)):=fun w' h=>⟨h,(aEd R0.o h).cell 0 rfl,(aEd HB4'.o h).cell 0 rfl⟩
   refine aIr 4 (fun w'=>Below w13.heap.size w13 w'∧w'.cell? ⟨w.heap.size,0,none⟩=some (.slice A M.length c)∧w'.cell? ⟨w.heap.size+1,0,none⟩=some (.slice B b.length d)) (by kernel_rfl) ?_;refine ET 0 (.slice A M.length c) rfl (Or.inl ⟨by rfl,?_⟩) ?_ ?_
   ·intro w' hSw;obtain⟨-,t0,t1⟩:=hSw;go_simp
   ·exact J0 _ (aA (aDy _ _))
   (try simp only[PT])
   refine ET 2 (.slice B b.length d) rfl (Or.inl ⟨by rfl,?_⟩) ?_ ?_
   ·intro w' hSw;obtain⟨-,t0,t1⟩:=hSw;go_simp
   ·exact J0 _ (aA (aDy _ _))
   (try simp only[PT])
   refine en 1 rfl fun K hK=>?_;go_simp;(with_reducible refine(fF _ A _ c M (aNe S0.o (aFl aEf)) H1.o).mono ?_)
   rintro e w34 ⟨b0,g,G,C,rfl,hom⟩;replace b0:Below w13.heap.size w13 w34:=aR b0;have B35:=zz b0;have z35:=B35.o.size;have C0:=tr e0 B35;clear b0;refine hK _ _ (fun _=>J0 _ B35.o) ?_;clear hK K;(try simp only[PT])
   have T0:=zz hom;clear hom;refine en 3 rfl fun K hK=>?_;go_simp;(with_reducible refine(iH _ B _ d b (HS4'.o.step aEf B35.o) H2.o).mono ?_)
   rintro e w37 ⟨k0,g',rfl,hgl,hol⟩;have B38:=zz k0;have z38:=B38.o.size;have D0:=tr C0 B38;clear k0;have M1:=tr B35 B38;refine hK _ _ (fun _=>J0 _ M1.o) ?_;clear hK K;(try simp only[PT])
   have U0:=zz hol;have Z0:=zz hgl;clear hol hgl;refine en 4 rfl fun K hK=>?_;go_simp;(with_reducible refine((gC _ _ _ _ _ _ _ (aK M) (aW b) M.length 4 (slM (T0.o.step aEw B38.o) (by have:=H0.o;omega)) (slR U0.o (by have:=H0.o;have:=H3.o;omega)) (by rw[aK,aEb];have:=H0.o;omega) (by have:=H0.o;omega) (by rw[aK,aW,aEb,aEb,H3.o];exact aEa _) X0.o ⟨by rw[aK,aEb];have:=H0.o;omega,by have:=H0.o;omega⟩ P0.o c0.o (by decide) (aEg (aFf 3 (cE H0.o.2)) (by decide))).mono (fun _ _ h=>aEn h.1 (YD L0.o h.2))).mono ?_)
   rintro e w41 ⟨l0,gx,rfl,hgx,hox⟩;have B42:=zz l0;have z42:=B42.o.size;have E0:=tr D0 B42;clear l0;have N1:=tr M1 B42;refine hK _ _ (fun _=>J0 _ N1.o) ?_;clear hK K;(try simp only[PT])
   refine en 5 rfl fun K hK=>?_;go_simp;refine hK _ _ (fun h=>absurd h (by decide)) ?_;clear hK K;(try simp only[PT])
   refine Early.pure (i:=7) (.int .i64 0) rfl (by kernel_rfl) (by decide) (by kernel_rfl) (by kernel_rfl) (fun _ _ _ h=>h) (Or.inl ⟨by rfl,?_⟩) ?_
   ·intro w' _;go_simp
   (try simp only[PT])
   refine en 6 rfl fun K hK=>?_;go_simp;refine hK _ _ (fun h=>absurd h (by decide)) ?_;clear hK K;(try simp only[PT])
   refine en 8 rfl fun K hK=>?_;go_simp;refine hK _ _ (fun h=>absurd h (by decide)) ?_;clear hK K;(try simp only[PT])
   refine en 9 rfl fun K hK=>?_;go_simp;refine hK _ _ (fun h=>absurd h (by decide)) ?_;clear hK K;(try simp only[PT])
   refine aIj (by kernel_rfl) ?_ _;(try simp only[Exit.then])
   clear J0;have a1:=zz hox;clear hox hgx;have hxl:x.length=M.length:=by rw[jS L0.o,Q0.o]
   have Y0:=zz hxl;clear hxl;go_wp2_with fail
   refine(nx E0 (lI _ _ _ _ x (a1.o.sl (aEa _) (by rw[Y0.o];have:=H0.o;omega)) (fun q hq=>(iY L0.o P0.o c0.o (by decide) q hq).mono (aEg (cE (by rw[Q0.o];exact H0.o.2)) (by decide)) (aEg (cE (by rw[Q0.o];exact H0.o.2)) (by decide))) (by rw[Y0.o];have:=H0.o;omega))).mono ?_;rintro e w45 ⟨⟨B46,z46,F0⟩,v,rfl,hv⟩;have HV:=zz hv;clear hv;go_wp2;go_ret2;exact⟨F0.o,by rw[HR.o,L0.o];exact⟨_,rfl,HV.o⟩⟩
theorem WK {M:List (List QX)} {b:List QX} {E:Int} {fit:Bool} (hE:E=eF [bD (eA M),bD (dC b)] fit) (hf:fit=decide (b.length=M.length)) :
  (E≠0→iU M b=(none,E))∧(E=0→iU M b=mM (aZ (bB (aK M)) (bG (aK M) (aW b)))∧eA M=true∧dC b=true∧b.length=M.length):=by
 cases h1:eA M with
 | false=>rw[h1] at hE;refine⟨fun _=>?_,fun h=>?_⟩;unfold iU;rw[h1,aEu (by simp),hE];rfl;rw[h] at hE;cases hE
 | true=>
  cases h2:dC b with
  | false=>rw[h1,h2] at hE;refine⟨fun _=>?_,fun h=>?_⟩;unfold iU;rw[h1,h2,aEu (by simp),hE];rfl;rw[h] at hE;cases hE
  | true=>
   rw[h1,h2] at hE;cases h3:fit with
   | false=>
    rw[h3] at hE hf;have hn:¬ (b.length=M.length):=of_decide_eq_false hf.symm;refine⟨fun _=>?_,fun h=>?_⟩
    ·unfold iU;rw[h1,h2,aEv ⟨rfl,rfl⟩,aEu hn,hE];rfl
    ·rw[h] at hE;cases hE
   | true=>
    rw[h3] at hE hf;have hp:=aGw hf.symm;refine⟨fun h=>absurd hE h,fun _=>⟨?_,rfl,rfl,hp⟩⟩;unfold iU;rw[h1,h2,aEv ⟨rfl,rfl⟩,aEv hp]
theorem vE:(cI M).length=aM M:=by simp[cI]
theorem mZ:(bB M).length=aM M:=by rw[bB,aEb,vE]
theorem mY:(bG M b).length=aM M:=by rw[bG,aEb,vE]
theorem rD:Wide (bB M) (aM M):=by
 intro r hr;obtain⟨c,-,rfl⟩:=aFc.1 hr;rw[aEb,vE]
theorem eZ (h:Short l M) (h1:1≤l):∀ c∈cI M,c.length=M.length∧∀ q∈c,QL l l q:=fun c hc=>by
 obtain⟨j,-,rfl⟩:=aFc.1 hc;refine⟨by unfold dD;rw[aEb],fun q hq=>?_⟩;obtain⟨r,hr,rfl⟩:=aFc.1 hq;exact aT (h r hr) h1 j
theorem kM (h:Short l M) (h1:1≤l):Short ((l+l+1)*M.length+1) (bB M):=by
 intro r hr q hq;obtain⟨c,hc,rfl⟩:=aFc.1 hr;obtain⟨d,hd,rfl⟩:=aFc.1 hq;have:=eD (eZ h h1 c hc).2 (eZ h h1 d hd).2 h1 h1 c.length;rw[(eZ h h1 c hc).1] at this;rw[bK,(eZ h h1 c hc).1];exact this
theorem kL {l':Nat} (h:Short l M) (hb:∀ q∈b,QL l' l' q) (h1:1≤l) (h1':1≤l'):∀ q∈bG M b,QL ((l+l'+1)*M.length+1) ((l+l'+1)*M.length+1) q:=by
 intro q hq;obtain⟨c,hc,rfl⟩:=aFc.1 hq;have:=eD (eZ h h1 c hc).2 hb h1 h1' c.length;rw[(eZ h h1 c hc).1] at this;rw[bK,(eZ h h1 c hc).1];exact this
theorem xI (w:World) (A B:Option Addr) (n c m d:Nat) (M:List (List QX)) (b:List QX) (ha:QM w w.heap.size (.slice A n c) M) (hb:QS w w.heap.size (.slice B m d) b) :
  CV 22 #[.slice A n c,.slice B m d] w fun e w'=>mS w' (iU M b) e:=by
 obtain⟨rfl,hn1,hn2⟩:=aHb ha;obtain⟨rfl,hm1,hm2⟩:=aHb hb;have HQ:=zz ha;have HS:=zz hb;clear ha hb;obtain⟨w0,hw0⟩:=ex ((w.alloc (.cells #[.slice A M.length c] 22)).alloc (.cells #[.slice B b.length d] 23));have B0:=zz (pK hw0);have z0:=pJ hw0;have La:=pM hw0;have Lb:=pL hw0;have U0:=zz (HQ.o.step (aFl aEf) B0.o);have V0:=zz (HS.o.step aEf B0.o);have HA:=zz La;have HB:=zz Lb;obtain⟨fit,hfit⟩:=ex (α:=Bool) (decide (b.length=M.length));have W0:=zz hfit;clear hfit;obtain⟨E,hE⟩:=ex (eF [bD (eA M),bD (dC b)] fit);have g1:=zz hE;clear hE;go_enter Tryz.func22,Tryz.ntmps22
 go_upto_region 1 with (fail)
 rw[← hw0];clear hw0;have P0:∀ w':World,Below w0.heap.size w0 w'→(Below w0.heap.size w0 w'∧w'.cell? ⟨w.heap.size,0,none⟩=some (.slice A M.length c)∧w'.cell? ⟨w.heap.size+1,0,none⟩=some (.slice B b.length d)):=fun w' h=>⟨h,(aEd La h).cell 0 rfl,(aEd Lb h).cell 0 rfl⟩
 refine aIr 6 (fun w'=>Below w0.heap.size w0 w'∧w'.cell? ⟨w.heap.size,0,none⟩=some (.slice A M.length c)∧w'.cell? ⟨w.heap.size+1,0,none⟩=some (.slice B b.length d)) (by kernel_rfl) ?_;refine ET 0 (.func (.func 60) #[] #[.pointer (some ⟨w.heap.size+1,0,none⟩),.pointer (some ⟨w.heap.size,0,none⟩)]) rfl (Or.inl ⟨by rfl,?_⟩) ?_ ?_
 ·intro w' hSw;obtain⟨-,t0,t1⟩:=hSw;go_simp
 ·exact P0 _ (aA (aDy _ _))
 (try simp only[PT])
 refine ET 1 (.slice A M.length c) rfl (Or.inl ⟨by rfl,?_⟩) ?_ ?_
 ·intro w' hSw;obtain⟨-,t0,t1⟩:=hSw;go_simp
 ·exact P0 _ (aA (aDy _ _))
 (try simp only[PT])
 refine ET 3 (.slice B b.length d) rfl (Or.inl ⟨by rfl,?_⟩) ?_ ?_
 ·intro w' hSw;obtain⟨-,t0,t1⟩:=hSw;go_simp
 ·exact P0 _ (aA (aDy _ _))
 (try simp only[PT])
 refine en 2 rfl fun K hK=>?_;go_simp;(with_reducible refine(gA _ A _ c M (aNe U0.o (aFl aEf))).mono ?_)
 rintro e w2 ⟨e0,rfl⟩;replace e0:Below w0.heap.size w0 w2:=aR e0;have B3:=zz e0;have z3:=B3.o.size;have f0:=tr B0 B3;clear e0;refine hK _ _ (fun _=>P0 _ B3.o) ?_;clear hK K;(try simp only[PT])
 refine en 4 rfl fun K hK=>?_;go_simp;(with_reducible refine(fS _ B _ d b (V0.o.step aEf B3.o)).mono ?_)
 rintro e w5 ⟨v0,rfl⟩;have B6:=zz v0;have z6:=B6.o.size;have K0:=tr f0 B6;clear v0;have P1:=tr B3 B6;refine hK _ _ (fun _=>P0 _ P1.o) ?_;clear hK K;(try simp only[PT])
 refine en 5 rfl fun K hK=>?_;go_simp;refine hK _ _ (fun _=>P0 _ (aB (P1.o) _)) ?_;clear hK K;(try simp only[PT])
 obtain⟨w9,c0⟩:=ex (w5.alloc (.cells #[.int .i64 (bD (eA M)),.int .i64 (bD (dC b))] 40));rw[← c0];have p0:=cL c0;have za9:=cJ c0;have B10:=zz (cK c0);have z10:=B10.o.size;have y0:=tr K0 B10;clear c0;refine en 6 rfl fun K hK=>?_;go_simp;have W1:=tr P1 B10;(with_reducible refine((show Calls Tryz.prog _ _ _ _ from g1.o▸jF _ 60 #[.pointer (some ⟨w.heap.size+1,0,none⟩),.pointer (some ⟨w.heap.size,0,none⟩)] fit _ 2 2 [bD (eA M),bD (dC b)] (kX p0 [_,_] rfl (by simp)) (by simp) CD (fun hz w9 x0=>W0.o▸CE w9 _ _ A B M.length b.length c d (aEd HA.o (W1.o.trans (x0.mono W1.o.size))) (aEd HB.o (W1.o.trans (x0.mono W1.o.size)))))).mono ?_)
 rintro e w13 ⟨g0,rfl⟩;have B14:=zz g0;have z14:=B14.o.size;have d0:=tr y0 B14;clear g0;have Y1:=tr W1 B14;refine hK _ _ (fun _=>P0 _ Y1.o) ?_;clear hK K;(try simp only[PT])
 refine en 7 rfl fun K hK=>?_;go_simp;refine hK _ _ (fun h=>absurd h (by decide)) ?_;clear hK K;(try simp only[PT])
 refine aIj (by kernel_rfl) ?_ _;(try simp only[Exit.then])
 clear P0;have hsa:=WK g1.o W0.o;by_cases hE0:E=0
 case neg=>
  have hx:(E != 0)=true:=by rw[aJg];exact hE0
  have HR:=zz (hsa.1 hE0);clear hE0 hsa;go_wp2;go_ret2;exact⟨d0.o,by rw[HR.o];exact⟨_,rfl,rfl⟩⟩
 case pos=>
  obtain⟨hr,h1,h2,h3⟩:=hsa.2 hE0;subst hE0;obtain⟨-,hs4,hw4,hm1,hm2,hw1,hw2⟩:=jM h1;obtain⟨-,h0,-,-⟩:=fM h2;obtain⟨k,hk⟩:=ex (aM (aK M));rw[← hk] at hw4 hw1 hw2;obtain⟨N,hN⟩:=ex (bB (aK M));obtain⟨V,hV⟩:=ex (bG (aK M) (aW b));have hnl:N.length=k:=by rw[hN,mZ,hk]
  have hvl:V.length=k:=by rw[hV,mY,hk]
  have hnw:Wide N k:=by rw[hN,hk];exact rD
  have hml:(aK M).length=M.length:=by rw[aK,aEb]
  have hns:Short 117 N:=by rw[hN];exact(kM hs4 (by decide)).mono (by rw[hml];omega)
  have hvs:∀ q∈V,QL 117 117 q:=by rw[hV];exact fun q hq=>((kL hs4 h0 (by decide) (by decide)) q hq).mono (by rw[hml];omega) (by rw[hml];omega)
  rw[← hN,← hV] at hr;have HR:=zz hr;have H1:=zz h1;have H2:=zz h2;have H3:=zz h3;have i1:=zz hs4;have j1:=zz hw4;have f0:=zz h0;have L0:=zz (aEn hm1 (aEn hm2 (aEn hw1 hw2)));have HK:=zz hk;have HN:=zz hN;have HV:=zz hV;have O0:=zz hnl;have R0:=zz hvl;have X0:=zz hnw;have Y0:=zz hns;have Z0:=zz hvs;clear hr h1 h2 h3 hs4 hw4 h0 hm1 hm2 hw1 hw2 hsa hk hN hV hnl hvl hnw hml hns hvs;cases hso:aZ N V
  case none=>
   have Q0:=zz hso;clear hso;go_upto_region 4 with (fail)
   have q0:=aEd La Y1.o;have r0:=aEd Lb Y1.o;have a1:=zz q0;have HB4':=zz r0;have b1:=zz (U0.o.step (aFl aEf) Y1.o);have HS4':=zz (V0.o.step aEf Y1.o);have M0:∀ w':World,Below w13.heap.size w13 w'→(Below w13.heap.size w13 w'∧w'.cell? ⟨w.heap.size,0,none⟩=some (.slice A M.length c)∧w'.cell? ⟨w.heap.size+1,0,none⟩=some (.slice B b.length d)):=fun w' h=>⟨h,(aEd a1.o h).cell 0 rfl,(aEd HB4'.o h).cell 0 rfl⟩
   refine aIr 12 (fun w'=>Below w13.heap.size w13 w'∧w'.cell? ⟨w.heap.size,0,none⟩=some (.slice A M.length c)∧w'.cell? ⟨w.heap.size+1,0,none⟩=some (.slice B b.length d)) (by kernel_rfl) ?_;refine ET 0 (.slice A M.length c) rfl (Or.inl ⟨by rfl,?_⟩) ?_ ?_
   ·intro w' hSw;obtain⟨-,t0,t1⟩:=hSw;go_simp
   ·exact M0 _ (aA (aDy _ _))
   (try simp only[PT])
   refine ET 2 (.slice B b.length d) rfl (Or.inl ⟨by rfl,?_⟩) ?_ ?_
   ·intro w' hSw;obtain⟨-,t0,t1⟩:=hSw;go_simp
   ·exact M0 _ (aA (aDy _ _))
   (try simp only[PT])
   refine en 1 rfl fun K hK=>?_;go_simp;(with_reducible refine(fF _ A _ c M (aNe b1.o (aFl aEf)) H1.o).mono ?_)
   rintro e w20 ⟨a0,g,G,C,rfl,hom⟩;replace a0:Below w13.heap.size w13 w20:=aR a0;have B21:=zz a0;have z21:=B21.o.size;have A0:=tr d0 B21;clear a0;refine hK _ _ (fun _=>M0 _ B21.o) ?_;clear hK K;(try simp only[PT])
   have c1:=zz hom;clear hom;refine en 3 rfl fun K hK=>?_;go_simp;(with_reducible refine(iH _ B _ d b (HS4'.o.step aEf B21.o) H2.o).mono ?_)
   rintro e w23 ⟨i0,g',rfl,hgl,hol⟩;have B24:=zz i0;have z24:=B24.o.size;have C0:=tr A0 B24;clear i0;have X1:=tr B21 B24;refine hK _ _ (fun _=>M0 _ X1.o) ?_;clear hK K;(try simp only[PT])
   have d1:=zz hol;have n1:=zz hgl;clear hol hgl;refine en 4 rfl fun K hK=>?_;go_simp;(with_reducible refine(iK _ _ _ _ _ _ _ (aK M) (aW b) k 4 4 (slM (c1.o.step aEw B24.o) (by have:=L0.o;omega)) (slR d1.o (by have:=L0.o;have:=H3.o;omega)) (by rw[aK,aEb];have:=L0.o;omega) (by rw[aK,aW,aEb,aEb,H3.o]) j1.o ⟨by rw[aK,aEb];have:=L0.o;omega,by have:=L0.o;omega⟩ i1.o f0.o (by decide) (by rw[aK,aEb];have:=L0.o;omega)).mono ?_)
   rintro e w27 ⟨j0,g2,G2,C2,g3,rfl,hom2,hgl2,hol2,hap2⟩;have B28:=zz j0;have z28:=B28.o.size;have D0:=tr C0 B28;clear j0;have Z1:=tr X1 B28;refine hK _ _ (fun _=>M0 _ Z1.o) ?_;clear hK K;(try simp only[PT])
   rw[← HN.o] at hom2;rw[← HV.o] at hol2;have S0:=zz hom2;have T0:=zz hol2;clear hom2 hgl2 hol2 hap2;refine ET 5 (.slice (some ⟨g2,0,none⟩) k k) rfl (Or.inl ⟨by rfl,?_⟩) ?_ ?_
   ·intro w' hSw;obtain⟨-,t0,t1⟩:=hSw;go_simp
   ·exact M0 _ (Z1.o)
   (try simp only[PT])
   refine ET 6 (.slice (some ⟨g3,0,none⟩) k k) rfl (Or.inl ⟨by rfl,?_⟩) ?_ ?_
   ·intro w' hSw;obtain⟨-,t0,t1⟩:=hSw;go_simp
   ·exact M0 _ (Z1.o)
   (try simp only[PT])
   refine en 7 rfl fun K hK=>?_;go_simp;(with_reducible refine((gC _ _ _ _ _ _ _ N V k 117 (O0.o▸S0.o.sl (c:=k) (by rw[O0.o];exact aEa _) (by have:=L0.o;omega)) (R0.o▸T0.o.sl (c:=k) (by rw[R0.o];exact aEa _) (by have:=L0.o;omega)) (by rw[O0.o];have:=L0.o;omega) (by have:=L0.o;omega) (by rw[O0.o,R0.o];exact aEa _) X0.o ⟨by rw[O0.o];have:=L0.o;omega,by have:=L0.o;omega⟩ Y0.o Z0.o (by decide) (aEg (aFf 3 (cE L0.o.2.2.2)) (by decide))).mono (fun _ _ h=>aEn h.1 (YE Q0.o h.2))).mono ?_)
   rintro e w31 ⟨k0,rfl⟩;have B32:=zz k0;have z32:=B32.o.size;have E0:=tr D0 B32;clear k0;have M1:=tr Z1 B32;refine hK _ _ (fun _=>M0 _ M1.o) ?_;clear hK K;(try simp only[PT])
   refine en 8 rfl fun K hK=>?_;go_simp;refine hK _ _ (fun _=>M0 _ (M1.o)) ?_;clear hK K;(try simp only[PT])
   refine ET 10 (.int .i64 7) rfl (Or.inl ⟨by rfl,?_⟩) ?_ ?_
   ·intro w' hSw;obtain⟨-,t0,t1⟩:=hSw;go_simp
   ·exact M0 _ (M1.o)
   (try simp only[PT])
   refine en 9 rfl fun K hK=>?_;go_simp;refine hK _ _ (fun _=>M0 _ (M1.o)) ?_;clear hK K;(try simp only[PT])
   refine en 11 rfl fun K hK=>?_;go_simp;refine hK _ _ (fun _=>M0 _ (M1.o)) ?_;clear hK K;(try simp only[PT])
   refine en 12 rfl fun K hK=>?_;go_simp;refine hK _ _ (fun h=>absurd h (by decide)) ?_;clear hK K;(try simp only[PT])
   refine aIj (by kernel_rfl) ?_ _;(try simp only[Exit.then])
   clear M0;go_wp2;go_ret2;exact⟨E0.o,by rw[HR.o,Q0.o];exact⟨_,rfl,rfl⟩⟩
  case some x=>
   have Q0:=zz hso;clear hso;go_upto_region 4 with (fail)
   have s0:=aEd La Y1.o;have u0:=aEd Lb Y1.o;have a1:=zz s0;have HB4':=zz u0;have b1:=zz (U0.o.step (aFl aEf) Y1.o);have HS4':=zz (V0.o.step aEf Y1.o);have N0:∀ w':World,Below w13.heap.size w13 w'→(Below w13.heap.size w13 w'∧w'.cell? ⟨w.heap.size,0,none⟩=some (.slice A M.length c)∧w'.cell? ⟨w.heap.size+1,0,none⟩=some (.slice B b.length d)):=fun w' h=>⟨h,(aEd a1.o h).cell 0 rfl,(aEd HB4'.o h).cell 0 rfl⟩
   refine aIr 12 (fun w'=>Below w13.heap.size w13 w'∧w'.cell? ⟨w.heap.size,0,none⟩=some (.slice A M.length c)∧w'.cell? ⟨w.heap.size+1,0,none⟩=some (.slice B b.length d)) (by kernel_rfl) ?_;refine ET 0 (.slice A M.length c) rfl (Or.inl ⟨by rfl,?_⟩) ?_ ?_
   ·intro w' hSw;obtain⟨-,t0,t1⟩:=hSw;go_simp
   ·exact N0 _ (aA (aDy _ _))
   (try simp only[PT])
   refine ET 2 (.slice B b.length d) rfl (Or.inl ⟨by rfl,?_⟩) ?_ ?_
   ·intro w' hSw;obtain⟨-,t0,t1⟩:=hSw;go_simp
   ·exact N0 _ (aA (aDy _ _))
   (try simp only[PT])
   refine en 1 rfl fun K hK=>?_;go_simp;(with_reducible refine(fF _ A _ c M (aNe b1.o (aFl aEf)) H1.o).mono ?_)
   rintro e w38 ⟨b0,g,G,C,rfl,hom⟩;replace b0:Below w13.heap.size w13 w38:=aR b0;have B39:=zz b0;have z39:=B39.o.size;have F0:=tr d0 B39;clear b0;refine hK _ _ (fun _=>N0 _ B39.o) ?_;clear hK K;(try simp only[PT])
   have c1:=zz hom;clear hom;refine en 3 rfl fun K hK=>?_;go_simp;(with_reducible refine(iH _ B _ d b (HS4'.o.step aEf B39.o) H2.o).mono ?_)
   rintro e w41 ⟨l0,g',rfl,hgl,hol⟩;have B42:=zz l0;have z42:=B42.o.size;have G0:=tr F0 B42;clear l0;have N1:=tr B39 B42;refine hK _ _ (fun _=>N0 _ N1.o) ?_;clear hK K;(try simp only[PT])
   have d1:=zz hol;have n1:=zz hgl;clear hol hgl;refine en 4 rfl fun K hK=>?_;go_simp;(with_reducible refine(iK _ _ _ _ _ _ _ (aK M) (aW b) k 4 4 (slM (c1.o.step aEw B42.o) (by have:=L0.o;omega)) (slR d1.o (by have:=L0.o;have:=H3.o;omega)) (by rw[aK,aEb];have:=L0.o;omega) (by rw[aK,aW,aEb,aEb,H3.o]) j1.o ⟨by rw[aK,aEb];have:=L0.o;omega,by have:=L0.o;omega⟩ i1.o f0.o (by decide) (by rw[aK,aEb];have:=L0.o;omega)).mono ?_)
   rintro e w45 ⟨m0,g2,G2,C2,g3,rfl,hom2,hgl2,hol2,hap2⟩;have B46:=zz m0;have z46:=B46.o.size;have H0:=tr G0 B46;clear m0;have Q1:=tr N1 B46;refine hK _ _ (fun _=>N0 _ Q1.o) ?_;clear hK K;(try simp only[PT])
   rw[← HN.o] at hom2;rw[← HV.o] at hol2;have S0:=zz hom2;have T0:=zz hol2;clear hom2 hgl2 hol2 hap2;refine ET 5 (.slice (some ⟨g2,0,none⟩) k k) rfl (Or.inl ⟨by rfl,?_⟩) ?_ ?_
   ·intro w' hSw;obtain⟨-,t0,t1⟩:=hSw;go_simp
   ·exact N0 _ (Q1.o)
   (try simp only[PT])
   refine ET 6 (.slice (some ⟨g3,0,none⟩) k k) rfl (Or.inl ⟨by rfl,?_⟩) ?_ ?_
   ·intro w' hSw;obtain⟨-,t0,t1⟩:=hSw;go_simp
   ·exact N0 _ (Q1.o)
   (try simp only[PT])
   refine en 7 rfl fun K hK=>?_;go_simp;(with_reducible refine((gC _ _ _ _ _ _ _ N V k 117 (O0.o▸S0.o.sl (c:=k) (by rw[O0.o];exact aEa _) (by have:=L0.o;omega)) (R0.o▸T0.o.sl (c:=k) (by rw[R0.o];exact aEa _) (by have:=L0.o;omega)) (by rw[O0.o];have:=L0.o;omega) (by have:=L0.o;omega) (by rw[O0.o,R0.o];exact aEa _) X0.o ⟨by rw[O0.o];have:=L0.o;omega,by have:=L0.o;omega⟩ Y0.o Z0.o (by decide) (aEg (aFf 3 (cE L0.o.2.2.2)) (by decide))).mono (fun _ _ h=>aEn h.1 (YD Q0.o h.2))).mono ?_)
   rintro e w49 ⟨n0,gx,rfl,hgx,hox⟩;have B50:=zz n0;have z50:=B50.o.size;have I0:=tr H0 B50;clear n0;have P2:=tr Q1 B50;refine hK _ _ (fun _=>N0 _ P2.o) ?_;clear hK K;(try simp only[PT])
   refine en 8 rfl fun K hK=>?_;go_simp;refine hK _ _ (fun _=>N0 _ (P2.o)) ?_;clear hK K;(try simp only[PT])
   refine ET 10 (.int .i64 0) rfl (Or.inl ⟨by rfl,?_⟩) ?_ ?_
   ·intro w' hSw;obtain⟨-,t0,t1⟩:=hSw;go_simp
   ·exact N0 _ (P2.o)
   (try simp only[PT])
   refine en 9 rfl fun K hK=>?_;go_simp;refine hK _ _ (fun _=>N0 _ (P2.o)) ?_;clear hK K;(try simp only[PT])
   refine en 11 rfl fun K hK=>?_;go_simp;refine hK _ _ (fun _=>N0 _ (P2.o)) ?_;clear hK K;(try simp only[PT])
   refine en 12 rfl fun K hK=>?_;go_simp;refine hK _ _ (fun h=>absurd h (by decide)) ?_;clear hK K;(try simp only[PT])
   refine aIj (by kernel_rfl) ?_ _;(try simp only[Exit.then])
   clear N0;have o1:=zz hox;clear hox hgx;have hxl:x.length=k:=by rw[jS Q0.o,aM,X0.o.getD (by rw[O0.o];have:=L0.o;omega)]
   have e1:=zz hxl;clear hxl;have hwq:aM N≤6:=by rw[← jS Q0.o,e1.o];exact L0.o.2.2.2
   have k1:=zz hwq;clear hwq;go_wp2_with fail
   refine(nx I0 (lI _ _ _ _ x (o1.o.sl (aEa _) (by rw[e1.o];have:=L0.o;omega)) (fun q hq=>(iY Q0.o Y0.o Z0.o (by decide) q hq).mono (aEg (cE k1.o) (by decide)) (aEg (cE k1.o) (by decide))) (by rw[e1.o];have:=L0.o;omega))).mono ?_;rintro e w53 ⟨⟨B54,z54,J0⟩,v,rfl,hv⟩;have p1:=zz hv;clear hv;go_wp2;go_ret2;exact⟨J0.o,by rw[HR.o,Q0.o];exact⟨_,rfl,p1.o⟩⟩
end Go.Proofs.YtencnahjgbdeoaaGreatDoor
