/- Texts put together. -/
import Derived.Test.YtencnahjgbdeoaaGreatDoorProg
import Derived.Lib.LaidTab
import Derived.Lib.ItoaNum
import Derived.Below
import Derived.Test.YtencnahjgbdeoaaGreatDoorShelf
import Derived.Test.YtencnahjgbdeoaaGreatDoorLow
import Derived.WalkKit
import Derived.Lib.SlTrimSet
import Derived.Test.YtencnahjgbdeoaaGreatDoorOps
import Derived.Deep.RegionWith
namespace Go.Proofs.YtencnahjgbdeoaaGreatDoor
open Go Go.RowKit
set_option maxRecDepth 100000
set_option maxHeartbeats 4000000
variable {w:World} {z:Int}
theorem CY {P:Program} {w':World} {name:String} {cs:Array Value} (h:w.var? P name=some cs) (hb:Below w.heap.size w w'):w'.var? P name=some cs:=by
 unfold World.var? at h ⊢;cases hg:P.globalNamed name with
 | none=>rw[hg] at h;simp at h
 | some g=>
  rw[hg] at h;simp only[Option.bind_some] at h ⊢
  have hlt:g<w.heap.size:=by
   rcases aFk g w.heap.size with h1 | h1
   ·exact h1
   ·rw[aHj h1] at h;simp at h
  rw[hb.block g hlt];exact h
structure Glob (w:World):Prop where
 pow:Lib.TabIs Tryz.prog w "internal/strconv.uint64pow10" .u64 Lib.pow10Tab
 rng:∃ tp p,w.var? Tryz.prog "strconv.ErrRange"=some #[.iface tp p]
theorem Glob.step {w':World} (h:Glob w) (hb:Below w.heap.size w w'):Glob w':=
 ⟨CY h.pow hb,let ⟨tp,p,hv⟩:=h.rng;⟨tp,p,CY hv hb⟩⟩
open Go.Shelf Dig
theorem XW (s:ByteArray) (hs:s.size≤9223372036854775806) (v:Int) (h:Lib.atoiAll s.data.toList=.ok v) (w:World) :
  Calls Tryz.prog 144 #[.string s] w fun e w'=>e=.returned (.tuple #[.int .i64 v,.nilIface])∧Below w.heap.size w w':=
 (Tryz.strconv_Atoi_ok s hs v h w).mono fun _ _ ⟨he,hw⟩=>⟨he,by
  rcases hw with rfl | ⟨t,rfl⟩
  ·exact aDy _ _
  ·exact Lib.bytesWorld_below _ _ _⟩
theorem WM:(Tryz.prog.info? 169).map (fun i=>(i.zero,i.size))=some (some (.agg (Array.replicate 256 (.bool false))),256):=by kernel_rfl
def tens:ByteArray:=⟨#[48,49,50,51,52,53,54,55,56,57]⟩
theorem KF (j:Nat) (b:UInt8) (h:tens.data.toList[j]?=some b):b.toNat<128:=by
 have h1:∀ x∈tens.data.toList,x.toNat<128:=by decide
 exact h1 b (List.mem_of_getElem? h)
theorem vF (c:UInt8):tens.data.toList.contains c=true↔NE c:=by
 have h1:∀ n:Fin 256,(tens.data.toList.contains (UInt8.ofNat n.val)=true)↔(48≤n.val∧n.val≤57):=by decide +kernel
 have h2:=h1 ⟨c.toNat,c.toNat_lt⟩;simp only[UInt8.ofNat_toNat] at h2
 exact h2
theorem PW (l:List UInt8):Lib.trimS l tens.data.toList=[]↔AllDig l:=by
 have key:∀ m:List UInt8,m.dropWhile (tens.data.toList.contains ·)=[]↔AllDig m:=by
  intro m
  induction m with
  | nil=>exact⟨fun _=>AllDig.nil,fun _=>rfl⟩
  | cons c m ih=>
   rw[List.dropWhile_cons];by_cases hc:tens.data.toList.contains c=true
   ·rw[aEv hc,ih];exact⟨fun h=>AllDig.cons ((vF c).1 hc) h,fun h x hx=>h x (aFo _ hx)⟩
   ·rw[aEu hc];exact⟨fun h=>by simp at h,fun h=>absurd ((vF c).2 (h c (aFh ..))) hc⟩
 have rev:AllDig l.reverse↔AllDig l:=⟨fun h x hx=>h x (List.mem_reverse.2 hx),fun h x hx=>h x (List.mem_reverse.1 hx)⟩;unfold Lib.trimS Lib.trimLeftS Lib.trimRightS;rw[key]
 constructor
 ·intro h;refine rev.1 ((key _).1 ?_);cases hd:l.reverse.dropWhile (tens.data.toList.contains ·) with
  | nil=>rfl
  | cons c m=>
   exfalso
   have hc:¬ tens.data.toList.contains c=true:=by
    have h1:=List.head_dropWhile_not (p:=(tens.data.toList.contains ·)) (l:=l.reverse) (by rw[hd];simp);simp only[hd,List.head_cons] at h1
    exact fun h2=>by rw[h1] at h2;cases h2
   rw[hd] at h;exact hc ((vF c).2 (h c (by simp)))
 ·intro h x hx;have h1:=(key _).2 (rev.2 h);rw[h1] at hx;simp at hx
set_option maxRecDepth 1000000 in
theorem TR (s:ByteArray) (w:World) (hs:s.size≤9223372036854775807) :
  Calls Tryz.prog 143 #[.string s,.string ⟨#[48,49,50,51,52,53,54,55,56,57]⟩] w fun e w'=>∃ t:ByteArray,e=.returned (.string t)∧(t.data.toList=[]↔AllDig s.data.toList)∧Below w.heap.size w w':=
 (Any.strings_Trim_laid Tryz.lays160 WM s tens w hs (by show 10<4294967281;omega) KF).mono fun _ _ ⟨he,hb⟩=>⟨_,he,PW _,hb⟩
def up (l:List Nat) (k:Nat):List UInt8:=if k=l.length then [] else Lib.decDigits (val (l.drop k))
theorem uB (l:List UInt8):Lib.trimPrefix l [45]=eB l:=by
 unfold Lib.trimPrefix Lib.hasPrefix;cases l with
 | nil=>rfl
 | cons c r=>
  by_cases hc:c=45
  ·subst hc;rw[zT,aEv (by rw[List.isPrefixOf_iff_prefix];exact⟨r,rfl⟩)];rfl
  ·rw[qJ r hc,aEu];rw[List.isPrefixOf_iff_prefix];rintro⟨t,ht⟩;exact hc (List.cons.inj ht).1.symm
theorem XI (l:List UInt8):(eB l).length≤l.length:=by
 cases l with
 | nil=>exact aEa _
 | cons c r=>
  by_cases hc:c=45
  ·subst hc;rw[zT];simp
  ·rw[qJ r hc];exact aEa _
theorem OV {t:ByteArray} {c:UInt8} {r:List UInt8} (ht:t.data.toList=c :: r) (hp:0<t.size):t[0]'hp=c:=by
 obtain⟨⟨l⟩⟩:=t;simp at ht
 subst ht
 rfl
theorem YR (b:Bool) (n:Nat) (h:0<n):b=decide (jZ b n<0):=by
 cases b
 ·simp[jZ]
 ·simp[jZ];omega
theorem NN (b:Bool) (n:Nat):(jZ b n).natAbs=n:=by unfold jZ;cases b <;> simp
theorem zY (w:World) (s:ByteArray) (hs:s.size≤3000000000) :
  CV 127 #[.string s] w fun e w'=>YJ w' (bA s.data.toList) e:=by
 obtain⟨i0,hi,hz0,hz1,hz2⟩:=aGf eI;obtain⟨r,hr⟩:=ex (bA s.data.toList);rw[← hr];replace hr:=zz hr;have L0:=LB.new w (.bool false) (.slice none 0 0);have e0:=zz ((aDy w.heap.size w).alloc (aEa _) (.cells #[.bool false,.slice none 0 0] 26));have qa0:=L0.cell0;have qa1:=L0.cell1;have qa2:=L0.frozen 0;have qa3:=L0.frozen 1;go_enter Tryz.func127,Tryz.ntmps127
 go_wp2_with fail
 refine(Tryz.strings_TrimPrefix s ⟨#[45]⟩ _).mono ?_;rintro e w1 ⟨rfl,rfl⟩;obtain⟨t,ht⟩:=ex (α:=ByteArray) (⟨(Lib.trimPrefix s.data.toList (ByteArray.mk #[45]).data.toList).toArray⟩);rw[← ht];have htl:t.data.toList=eB s.data.toList:=by rw[ht];exact uB _
 have hts:t.size≤s.size:=by rw[Lib.size_eq,Lib.size_eq,htl];exact XI _
 have HT:=zz htl;clear ht htl;go_wp2_with fail
 ·have h0:t.toList=[]:=by assumption
  (try simp only[Exit.inBlock,Exit.then])
  have HE:r=(0,5):=by rw[hr.o,kK (JC (by rw[← HT.o,← Lib.toList_data];exact h0))]
  exact WU rfl L0 e0.o HE rfl rfl
 ·have h0:¬ t.toList=[]:=by assumption
  have H0:=zz (show eB s.data.toList≠[] by rw[← HT.o,← Lib.toList_data];exact h0);refine(TR t _ (by omega)).mono ?_;rintro e w2 ⟨u,rfl,hu,c0⟩;have L2:=L0.step c0;have a0:=zz (e0.o.trans (c0.mono (by simp)));have HU:=zz hu;clear c0 hu qa0 qa1 qa2 qa3;have qa0:=L2.cell0;have qa1:=L2.cell1;have qa2:=L2.frozen 0;have qa3:=L2.frozen 1;have hp:0<t.size:=by
   rw[Lib.size_eq,HT.o];exact aHh.2 H0.o
  have hti:t.toList.isEmpty=false:=by
   rw[Lib.toList_data,HT.o];have:=H0.o;revert this;cases eB s.data.toList <;> simp
  clear h0;by_cases hd:AllDig (eB s.data.toList)
  ·have hu0:u.toList=[]:=by rw[Lib.toList_data];exact HU.o.2 (by rw[HT.o];exact hd)
   obtain⟨c,rr,hcr⟩:∃ c rr,eB s.data.toList=c :: rr:=by
    have:=H0.o
    revert this
    cases eB s.data.toList with
    | nil=>intro h;exact absurd rfl h
    | cons c rr=>intro _;exact⟨c,rr,rfl⟩
   have hc0:(t[0]'hp)=c:=OV (by rw[HT.o];exact hcr) hp;have HD:=zz hd;have k0:=zz hcr;clear hd hcr;by_cases h48:c=48
   ·subst h48;have hc1:(((t[0]'hp).toNat:Nat):Int)=48:=by rw[hc0];rfl
    clear hc0;by_cases hs1:s.data.toList=[48]
    ·have hs2:(s.toList==[48])=true:=by rw[Lib.toList_data,hs1];rfl
     have HE:=zz (show r=(0,0) by rw[hr.o,hs1];exact kJ xD (by decide +kernel));have hsz:t.size≤5400:=by
      have:s.size=1:=by rw[Lib.size_eq,hs1];rfl
      omega
     clear hs1;go_wp2;(try simp only[Exit.inBlock,Exit.then])
     exact rG rfl L2 a0.o (aEa _) HE.o rfl rfl
    ·have hs2:(s.toList==[48])=false:=by rw[Lib.toList_data];simpa using hs1
     have HE:=zz (show r=(0,5) by rw[hr.o];exact kK (ML k0.o hs1));clear hs1;go_wp2;(try simp only[Exit.inBlock,Exit.then])
     exact rG rfl L2 a0.o (aEa _) HE.o rfl rfl
   ·have hc1:¬ (((t[0]'hp).toNat:Nat):Int)=48:=by
     rw[hc0];intro h;exact h48 (UInt8.toNat_inj.1 (by rw[show(48:UInt8).toNat=48 from rfl];omega))
    have hs2:(s.toList==[48])=false:=by
     rw[Lib.toList_data];have:¬ s.data.toList=[48]:=fun e=>by
      have h1:=k0.o;rw[e] at h1;exact h48 (List.cons.inj h1).1.symm
     simpa using this
    have HC:=zz (zR k0.o HD.o h48);have u0:=zz (show 0<num (eB s.data.toList) by rw[k0.o];exact uG (HD.o c (by rw[k0.o];exact aFh ..)) h48);have q0:=zz (aAk k0.o HD.o h48 rfl);clear hc0 h48;by_cases hbig:5400<t.size
    ·have hbig':(5400:Int)<t.size:=by omega
     have HE:=zz (show r=(0,6) by
      rw[hr.o];refine tT HC.o ?_;rw[NN,← wT _ 600 (by omega),q0.o,← HT.o,← Lib.size_eq];omega)
     clear hbig;go_wp2;(try simp only[Exit.inBlock,Exit.then])
     exact rG rfl L2 a0.o (aEa _) HE.o rfl rfl
    ·have hsm:(t.size:Int)≤5400:=by omega
     clear hbig;obtain⟨T,n0⟩:=ex (eB s.data.toList);obtain⟨z,hz⟩:=ex (jZ (decide (eB s.data.toList≠s.data.toList)) (num (eB s.data.toList)));have hza:z.natAbs=num T:=by rw[hz,NN,n0]
     have hlen:(dig (num T)).length≤600:=by
      rw[n0,← wT _ 600 (by omega),q0.o,← HT.o,← Lib.size_eq];omega
     have HE:=zz (show r=(z,0) by rw[hr.o,hz];exact kJ HC.o (by rw[← hz,hza];exact hlen));have HQ:=zz (show(!(t.toList==s.toList))=decide (z<0) by
      rw[hz,← YR _ _ u0.o,Lib.toList_data,Lib.toList_data,HT.o];by_cases hb:eB s.data.toList=s.data.toList <;> simp[hb])
     have v0:=zz (show t.data.toList=T by rw[HT.o,n0]);have r0:=zz (show AllDig T by rw[n0];exact HD.o);have C0:=zz (show ∃ c rr,T=c :: rr∧c≠48 from⟨c,rr,by rw[n0];exact k0.o,fun e=>hc1 (by rw[OV (t:=t) (by rw[HT.o];exact k0.o) hp,e];rfl)⟩);have D0:=zz hza;have E0:=zz hlen;have htn:t.size=T.length:=by rw[Lib.size_eq,v0.o]
     have s0:=zz htn;clear hr HT HD k0 HC u0 q0 hz hza hlen n0 htn;go_wp2;generalize (!(t.toList==s.toList))=q at *
     have La:=L2.alloc (.cells #[.bool q,.slice none 0 0] 26);have Lb:=LB.new w2 (.bool q) (.slice none 0 0);have f0:=a0.o.alloc a0.o.size (.cells #[.bool q,.slice none 0 0] 26);have hsz:w.heap.size<w2.heap.size:=L2.lt;have w0:=zz (show w2.heap.size+1≤(w2.alloc (.cells #[.bool q,.slice none 0 0] 26)).heap.size by simp);clear L2 a0 qa0 qa1 qa2 qa3 hu0 HU hti hc1 hs2;go_loopw [6] (fun i wr=>∃ (x:Int) (ds:List Nat) (v:Value),i=.int .i64 x∧-9≤x∧x≤t.size∧Hi (dig (num T)=ds++dig (num (T.take x.toNat)))∧Hi (ds.length≤600)∧LB wr w.heap.size (.bool false) (.slice none 0 0)∧LB wr w2.heap.size (.bool q) v∧Hi (OwnV wr (w2.heap.size+1) v (ni ds))∧Hi (w2.heap.size+1≤wr.heap.size)∧Below w.heap.size w wr) (fun i _=>(intOf i).toNat)
     case atStart=>exact⟨_,[],_,rfl,by omega,Int.le_refl _,zz (by rw[Int.toNat_natCast,s0.o,aFe];rfl),zz (by simp),La,Lb,zz (aLv _ _),w0,f0⟩
     case round=>
      clear La Lb f0 w0;obtain⟨x,ds,v,rfl,hx0,hx1,hd,hlen,L0,L1,ho,hsz',hbw⟩:=hrel;by_cases hxp:x≤0
      ·have F0:=zz (show ni (dig z.natAbs)=ni ds by rw[D0.o,hd.o,show x.toNat=0 by omega];simp[num,bF]);have HB:=zz hbw;have G0:=zz ho.o.ri;have hri:=ho.o.ri;obtain⟨A,c,rfl,-⟩:=hri;have qa0:=L1.cell0;have qa1:=L1.cell1;have qb0:=L0.cell0;have qb1:=L0.cell1;have qb2:=L0.frozen 0;have qb3:=L0.frozen 1;clear hbw hd hlen hx0;go_wp2;(try simp only[Exit.inBlock,Exit.then])
       exact OJ rfl L0 HB.o (aEa _) (by rw[F0.o];exact G0.o) HQ.o HE.o rfl rfl
      ·obtain⟨e,rfl⟩:∃ e:Nat,x=e:=⟨x.toNat,by omega⟩;have he0:0<e:=by omega
       have heT:e≤t.size:=by omega
       have hmx:max ((e:Int)-9) 0=((e-9:Nat):Int):=by omega
       have HB:=zz hbw;clear hbw hxp hx0;go_wp2_with fail
       have hsl:(t.extract (e-9) e).data.toList=(T.take e).drop (e-9):=by rw[Lib.extract_data,v0.o,List.drop_take]
       have hll:((T.take e).drop (e-9)).length=e-(e-9):=by have:=s0.o;simp;omega
       have hne:(T.take e).drop (e-9)≠[]:=fun h=>by rw[h] at hll;simp at hll;omega
       have hal:AllDig ((T.take e).drop (e-9)):=(r0.o.take e).drop (e-9);have hn9:num ((T.take e).drop (e-9))<1000000000:=aEt (JO hal) (by
        rw[hll];exact aLo (show 0<10 by omega) (show e-(e-9)≤9 by omega))
       have hat:Lib.atoiAll (t.extract (e-9) e).data.toList=.ok ((num ((T.take e).drop (e-9)):Nat):Int):=by rw[hsl,XJ hne hal,aEv (by omega)]
       have hpc:dig (num (T.take e))=num ((T.take e).drop (e-9)) :: dig (num (T.take (e-9))):=by
        refine TC r0.o (by have:=s0.o;omega) ?_;obtain⟨c,rr,hT,hc⟩:=C0.o;have h1:T.take e=c :: rr.take (e-1):=by rw[hT];cases e with
         | zero=>omega
         | succ e=>rfl
        rw[h1];exact Nat.ne_of_gt (uG (r0.o c (by rw[hT];exact aFh ..)) hc)
       have hsz9:(t.extract (e-9) e).size≤9223372036854775806:=by rw[Lib.size_eq,hsl,hll];omega
       obtain⟨d,hdd⟩:=ex (num ((T.take e).drop (e-9)));rw[← hdd] at hn9 hat hpc;have I0:=zz hat;have B0:=zz hsz9;have x0:=zz hpc;have hdi:(d:Int)<1000000000:=by omega
       clear hsl hll hne hal hn9 hat hpc hsz9 hdd;refine(XW (t.extract (e-9) e) B0.o _ I0.o _).mono ?_;rintro en w5 ⟨rfl,b0⟩;have L05:=L0.step b0;have L15:=L1.step b0;have o0:=zz (aLq ho.o b0);have d0:=zz (HB.o.trans (b0.mono HB.o.size));have y0:=zz (aEg hsz'.o b0.size);clear b0 L0 L1 ho HB hsz' hmx;have qa0:=L15.cell0;have qa1:=L15.cell1;have hown:=o0.o.alloc (.cells #[.int .i64 (d:Int)] 3);have hl6:=hlen.o;go_wp2_with (at_builtin;refine wpList_append_own_at _ rfl _ _ 24 rfl (w2.heap.size+1) 3 i0 (.int .i64 0) 1 8 Tryz.underlying24 hi hz0 hz1 hz2 rfl (by decide) v (ni ds).length ((ni ds).map (Value.int .i64)) rfl hown ⟨w5.heap.size,0,none⟩ 1 1 [.int .i64 (d:Int)] rfl rfl (cell_one_new _ _ _) (by intro u hu;simp at hu;subst hu;rfl) (by rw[aC];unfold maxLen;omega) (by rw[aC];omega) (by have:=y0.o;simp;omega) ?_)
       intro v' w' hown' hgrow hne hblk;have hv':OwnV w' (w2.heap.size+1) v' (ni (ds++[d])):=by
        have h:=hown';rw[OwnV,aC,aEp];rw[aC] at h;have e:(ni (ds++[d])).map (Value.int .i64)=(ni ds).map (Value.int .i64)++[.int .i64 (d:Int)]:=by simp[ni]
        rw[e];exact h
       have hrow:∀ b,b<w2.heap.size+1→v.ownBlock≠some b:=fun b hb he=>by
        have:=(aFn o0.o b he).1
        omega
       have M0:=(L05.alloc (.cells #[.int .i64 (d:Int)] 3)).grown hgrow (hrow _ (by omega));have M1:=(L15.alloc (.cells #[.int .i64 (d:Int)] 3)).grown hgrow (hrow _ (by omega));have g0:=zz ((d0.o.alloc d0.o.size (.cells #[.int .i64 (d:Int)] 3)).grown hgrow (by have:=d0.o.size;simp;omega) (fun g he=>by have:=(aFn o0.o g he).1;omega));have J0:=zz (show w2.heap.size+1≤w'.heap.size by have h1:=hgrow.size;have h2:=y0.o;simp at h1;omega);have HV:=zz (hv'.setBelow (p:=⟨w2.heap.size,1,none⟩) (by simp) v');have N0:=M0.far (p:=⟨w2.heap.size,1,none⟩) (by simp;omega) v';have N1:=M1.set1 v';have j0:=zz (g0.o.setCell (p:=⟨w2.heap.size,1,none⟩) (by simp;omega) v');clear hown' hgrow hne hblk hown qa0 qa1 L05 L15 o0;have qa2:=M1.frozen 1;have qa1:=M1.cell1;have K0:=zz (show(ds++[d]).length≤600 by
        have h:=E0.o;rw[hd.o,Int.toNat_natCast,x0.o] at h;simp at h ⊢
        omega)
       have O0:=zz (show dig (num T)=(ds++[d])++dig (num (T.take ((e:Int)-9).toNat)) by
        rw[show((e:Int)-9).toNat=e-9 by omega,hd.o,Int.toNat_natCast,x0.o];simp)
       rcases hv'.form with ⟨_,he⟩ | ⟨g,cap,rfl,_⟩
       ·simp[ni] at he
       ·clear hv' hrow M0 M1;go_wp2;go_roundw
        case rel=>exact⟨(e:Int)-9,ds++[d],_,rfl,by omega,by omega,O0,K0,N0,N1,HV,zz (by have:=J0.o;simpa[World.setCell] using this),j0.o⟩
        case measure=>simp only[intOf];omega
  ·have hu0:¬ u.toList=[]:=by rw[Lib.toList_data];exact fun e=>hd (by rw[← HT.o];exact HU.o.1 e)
   have HE:=zz (show r=(0,5) by rw[hr.o,kK (CG hd)]);clear hd;go_wp2;(try simp only[Exit.inBlock,Exit.then])
   exact rG rfl L2 a0.o (aEa _) HE.o rfl rfl
def PJ (s:List UInt8) (z:Int):Bool:=
 (s==[48]&&z==0)||((eB s).all (fun c=>48≤c.toNat&&c.toNat≤57)&&(match eB s with | []=>false | c :: _=>c != 48)&&z==jZ (decide (eB s≠s)) (num (eB s)))
theorem lit {s:List UInt8} (h:PJ s z=true):iA s=some z:=by
 unfold PJ at h;rw[Bool.or_eq_true] at h;rcases h with h | h
 ·simp at h
  rw[h.1,h.2];exact xD
 ·rw[aFs,aFs] at h;obtain⟨⟨h1,h2⟩,h3⟩:=h;have ha:AllDig (eB s):=by
   intro c hc;have:=aEx.1 h1 c hc;simp at this
   exact this
  have hz:=eq_of_beq h3;rw[hz];cases hb:eB s with
  | nil=>rw[hb] at h2;cases h2
  | cons c r=>
   rw[hb] at h2;rw[← hb];exact zR hb ha (by simpa using h2)
theorem vL {s:List UInt8} (h:PJ s z=true):Lib.itoa z=s:=qH (lit h)
theorem yP (h:z.natAbs<1000000000000000000000000000):(dig z.natAbs).length≤600:=aEg (aU.2 (show z.natAbs<bp 3 from h)) (by omega)
section
variable {w:World} {va vb:Value} {a b:Int}
end
theorem Glob.drew (h:Glob w):Glob w.drew:=⟨h.pow,h.rng⟩
section
variable {w:World} {v:Value} {z:Int}
theorem Glob.alloc (h:Glob w) (o:Obj):Glob (w.alloc o):=h.step ((aDy _ _).alloc (aEa _) o)
end
end Go.Proofs.YtencnahjgbdeoaaGreatDoor
