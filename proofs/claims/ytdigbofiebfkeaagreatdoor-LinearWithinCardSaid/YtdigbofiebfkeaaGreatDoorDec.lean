/- Texts put together: The package-level variables of the library that the walks read: kept by every call that turns nothing of what was there. strings.Builder's methods, strings.Trim, strings.Repeat, strconv.Itoa and Atoi at this translation, in the words of this work. long.Text. long.Int. long.Parse. The law package's helpers: is, fails, of, size; literal texts. The law package's divides, size. The operations at valid Longs: what they answer, in plain numbers. Plain: how many digits sums, products, roots, divisors have. The law package's alike at two equal results. -/
import Derived.Test.YtdigbofiebfkeaaGreatDoorProg
import Derived.Lib.LaidTab
import Derived.Lib.ItoaNum
import Derived.Below
import Derived.Test.YtdigbofiebfkeaaGreatDoorShelf
import Derived.Test.YtdigbofiebfkeaaGreatDoorLow
import Derived.WalkKit
import Derived.Lib.SlTrimSet
import Derived.Test.YtdigbofiebfkeaaGreatDoorOps
import Derived.Deep.RegionWith
namespace Go.Proofs.YtdigbofiebfkeaaGreatDoor
open Go Go.RowKit
set_option maxRecDepth 100000
set_option maxHeartbeats 4000000
structure Glob (w:World):Prop where
 pow:Lib.TabIs Tryz.prog w "internal/strconv.uint64pow10" .u64 Lib.pow10Tab
 rng:∃ tp p,w.var? Tryz.prog "strconv.ErrRange"=some #[.iface tp p]
open Go.Shelf Dig
theorem Atoi_yes (s:ByteArray) (hs:s.size≤9223372036854775806) (v:Int) (h:Lib.atoiAll s.data.toList=.ok v) (w:World) :
  Calls Tryz.prog 118 #[.string s] w fun e w'=>e=.returned (.tuple #[.int .i64 v,.nilIface])∧Below w.heap.size w w':=
 (Tryz.strconv_Atoi_ok s hs v h w).mono fun _ _ ⟨he,hw⟩=>⟨he,by
  rcases hw with rfl | ⟨t,rfl⟩
  ·exact Below.refl _ _
  ·exact Lib.bytesWorld_below _ _ _⟩
theorem info_set:(Tryz.prog.info? 166).map (fun i=>(i.zero,i.size))=some (some (.agg (Array.replicate 256 (.bool false))),256):=by kernel_rfl
def tens:ByteArray:=⟨#[48,49,50,51,52,53,54,55,56,57]⟩
theorem tens_ascii (j:Nat) (b:UInt8) (h:tens.data.toList[j]?=some b):b.toNat<128:=by
 have h1:∀ x∈tens.data.toList,x.toNat<128:=by decide
 exact h1 b (List.mem_of_getElem? h)
theorem tens_dig (c:UInt8):tens.data.toList.contains c=true↔IsDig c:=by
 have h1:∀ n:Fin 256,(tens.data.toList.contains (UInt8.ofNat n.val)=true)↔(48≤n.val∧n.val≤57):=by decide +kernel
 have h2:=h1 ⟨c.toNat,c.toNat_lt⟩;simp only[UInt8.ofNat_toNat] at h2
 exact h2
theorem trim_tens (l:List UInt8):Lib.trimS l tens.data.toList=[]↔AllDig l:=by
 have key:∀ m:List UInt8,m.dropWhile (tens.data.toList.contains ·)=[]↔AllDig m:=by
  intro m
  induction m with
  | nil=>exact⟨fun _=>AllDig.nil,fun _=>rfl⟩
  | cons c m ih=>
   rw[List.dropWhile_cons];by_cases hc:tens.data.toList.contains c=true
   ·rw[if_pos hc,ih];exact⟨fun h=>AllDig.cons ((tens_dig c).1 hc) h,fun h x hx=>h x (List.mem_cons_of_mem _ hx)⟩
   ·rw[if_neg hc];exact⟨fun h=>by simp at h,fun h=>absurd ((tens_dig c).2 (h c (List.mem_cons_self ..))) hc⟩
 have rev:AllDig l.reverse↔AllDig l:=⟨fun h x hx=>h x (List.mem_reverse.2 hx),fun h x hx=>h x (List.mem_reverse.1 hx)⟩;unfold Lib.trimS Lib.trimLeftS Lib.trimRightS;rw[key]
 constructor
 ·intro h;refine rev.1 ((key _).1 ?_);cases hd:l.reverse.dropWhile (tens.data.toList.contains ·) with
  | nil=>rfl
  | cons c m=>
   exfalso
   have hc:¬ tens.data.toList.contains c=true:=by
    have h1:=List.head_dropWhile_not (p:=(tens.data.toList.contains ·)) (l:=l.reverse) (by rw[hd];simp);simp only[hd,List.head_cons] at h1
    exact fun h2=>by rw[h1] at h2;cases h2
   rw[hd] at h;exact hc ((tens_dig c).2 (h c (by simp)))
 ·intro h x hx;have h1:=(key _).2 (rev.2 h);rw[h1] at hx;simp at hx
set_option maxRecDepth 1000000 in
theorem TrimS_any (s:ByteArray) (w:World) (hs:s.size≤9223372036854775807) :
  Calls Tryz.prog 117 #[.string s,.string ⟨#[48,49,50,51,52,53,54,55,56,57]⟩] w fun e w'=>∃ t:ByteArray,e=.returned (.string t)∧(t.data.toList=[]↔AllDig s.data.toList)∧Below w.heap.size w w':=
 (Any.strings_Trim_laid Tryz.lays160 info_set s tens w hs (by show 10<4294967281;omega) tens_ascii).mono fun _ _ ⟨he,hb⟩=>⟨_,he,trim_tens _,hb⟩
def up (l:List Nat) (k:Nat):List UInt8:=if k=l.length then [] else Lib.decDigits (val (l.drop k))
theorem trimPrefix_dash (l:List UInt8):Lib.trimPrefix l [45]=bare l:=by
 unfold Lib.trimPrefix Lib.hasPrefix;cases l with
 | nil=>rfl
 | cons c r=>
  by_cases hc:c=45
  ·subst hc;rw[bare_dash,if_pos (by rw[List.isPrefixOf_iff_prefix];exact⟨r,rfl⟩)];rfl
  ·rw[bare_other r hc,if_neg];rw[List.isPrefixOf_iff_prefix];rintro⟨t,ht⟩;exact hc (List.cons.inj ht).1.symm
theorem bare_len (l:List UInt8):(bare l).length≤l.length:=by
 cases l with
 | nil=>exact Nat.le_refl _
 | cons c r=>
  by_cases hc:c=45
  ·subst hc;rw[bare_dash];simp
  ·rw[bare_other r hc];exact Nat.le_refl _
theorem ba_head {t:ByteArray} {c:UInt8} {r:List UInt8} (ht:t.data.toList=c :: r) (hp:0<t.size):t[0]'hp=c:=by
 obtain⟨⟨l⟩⟩:=t;simp at ht
 subst ht
 rfl
theorem sgn_neg (b:Bool) (n:Nat) (h:0<n):b=decide (sgn b n<0):=by
 cases b
 ·simp[sgn]
 ·simp[sgn];omega
theorem sgn_abs (b:Bool) (n:Nat):(sgn b n).natAbs=n:=by unfold sgn;cases b <;> simp
theorem Parse_any (w:World) (s:ByteArray) (hs:s.size≤3000000000) :
  Calls Tryz.prog 101 #[.string s] w fun e w'=>Below w.heap.size w w'∧RetL w' (parseZ s.data.toList) e:=by
 obtain⟨i0,hi,hz0,hz1,hz2⟩:=info_parts info_int;obtain⟨r,hr⟩:∃ r,r=parseZ s.data.toList:=⟨_,rfl⟩;rw[← hr];replace hr:=zz hr;have L0:=LB.new w (.bool false) (.slice none 0 0);have e0:=zz ((Below.refl w.heap.size w).alloc (Nat.le_refl _) (.cells #[.bool false,.slice none 0 0] 31));have qa0:=L0.cell0;have qa1:=L0.cell1;have qa2:=L0.frozen 0;have qa3:=L0.frozen 1;go_enter Tryz.func101,Tryz.ntmps101
 go_wp2_with fail
 refine(Tryz.strings_TrimPrefix s ⟨#[45]⟩ _).mono ?_;rintro e w1 ⟨rfl,rfl⟩;obtain⟨t,ht⟩:∃ t:ByteArray,t=⟨(Lib.trimPrefix s.data.toList (ByteArray.mk #[45]).data.toList).toArray⟩:=⟨_,rfl⟩;rw[← ht];have htl:t.data.toList=bare s.data.toList:=by rw[ht];exact trimPrefix_dash _
 have hts:t.size≤s.size:=by rw[Lib.size_eq,Lib.size_eq,htl];exact bare_len _
 have HT:=zz htl;clear ht htl;go_wp2_with fail
 ·have h0:t.toList=[]:=by assumption
  (try simp only[Exit.inBlock,Exit.then])
  have HE:r=(0,5):=by rw[hr.out,parseZ_none (canon_empty (by rw[← HT.out,← Lib.toList_data];exact h0))]
  exact end_none rfl L0 e0.out HE rfl rfl
 ·have h0:¬ t.toList=[]:=by assumption
  have H0:=zz (show bare s.data.toList≠[] by rw[← HT.out,← Lib.toList_data];exact h0);refine(TrimS_any t _ (by omega)).mono ?_;rintro e w2 ⟨u,rfl,hu,c0⟩;have L2:=L0.step c0;have a0:=zz (e0.out.trans (c0.mono (by simp)));have HU:=zz hu;clear c0 hu qa0 qa1 qa2 qa3;have qa0:=L2.cell0;have qa1:=L2.cell1;have qa2:=L2.frozen 0;have qa3:=L2.frozen 1;have hp:0<t.size:=by
   rw[Lib.size_eq,HT.out];exact List.length_pos_iff.2 H0.out
  have hti:t.toList.isEmpty=false:=by
   rw[Lib.toList_data,HT.out];have:=H0.out;revert this;cases bare s.data.toList <;> simp
  clear h0;by_cases hd:AllDig (bare s.data.toList)
  ·have hu0:u.toList=[]:=by rw[Lib.toList_data];exact HU.out.2 (by rw[HT.out];exact hd)
   obtain⟨c,rr,hcr⟩:∃ c rr,bare s.data.toList=c :: rr:=by
    have:=H0.out
    revert this
    cases bare s.data.toList with
    | nil=>intro h;exact absurd rfl h
    | cons c rr=>intro _;exact⟨c,rr,rfl⟩
   have hc0:(t[0]'hp)=c:=ba_head (by rw[HT.out];exact hcr) hp;have HD:=zz hd;have k0:=zz hcr;clear hd hcr;by_cases h48:c=48
   ·subst h48;have hc1:(((t[0]'hp).toNat:Nat):Int)=48:=by rw[hc0];rfl
    clear hc0;by_cases hs1:s.data.toList=[48]
    ·have hs2:(s.toList==[48])=true:=by rw[Lib.toList_data,hs1];rfl
     have HE:=zz (show r=(0,0) by rw[hr.out,hs1];exact parseZ_some canon_zero (by decide +kernel));have hsz:t.size≤5400:=by
      have:s.size=1:=by rw[Lib.size_eq,hs1];rfl
      omega
     clear hs1;go_wp2;(try simp only[Exit.inBlock,Exit.then])
     exact end_zero rfl L2 a0.out (Nat.le_refl _) HE.out rfl rfl
    ·have hs2:(s.toList==[48])=false:=by rw[Lib.toList_data];simpa using hs1
     have HE:=zz (show r=(0,5) by rw[hr.out];exact parseZ_none (canon_lead k0.out hs1));clear hs1;go_wp2;(try simp only[Exit.inBlock,Exit.then])
     exact end_zero rfl L2 a0.out (Nat.le_refl _) HE.out rfl rfl
   ·have hc1:¬ (((t[0]'hp).toNat:Nat):Int)=48:=by
     rw[hc0];intro h;exact h48 (UInt8.toNat_inj.1 (by rw[show(48:UInt8).toNat=48 from rfl];omega))
    have hs2:(s.toList==[48])=false:=by
     rw[Lib.toList_data];have:¬ s.data.toList=[48]:=fun e=>by
      have h1:=k0.out;rw[e] at h1;exact h48 (List.cons.inj h1).1.symm
     simpa using this
    have HC:=zz (canon_num k0.out HD.out h48);have u0:=zz (show 0<num (bare s.data.toList) by rw[k0.out];exact num_pos (HD.out c (by rw[k0.out];exact List.mem_cons_self ..)) h48);have q0:=zz (dd_of k0.out HD.out h48 rfl);clear hc0 h48;by_cases hbig:5400<t.size
    ·have hbig':(5400:Int)<t.size:=by omega
     have HE:=zz (show r=(0,6) by
      rw[hr.out];refine parseZ_long HC.out ?_;rw[sgn_abs,← dd_len_dig _ 600 (by omega),q0.out,← HT.out,← Lib.size_eq];omega)
     clear hbig;go_wp2;(try simp only[Exit.inBlock,Exit.then])
     exact end_zero rfl L2 a0.out (Nat.le_refl _) HE.out rfl rfl
    ·have hsm:(t.size:Int)≤5400:=by omega
     clear hbig;obtain⟨T,n0⟩:∃ T,T=bare s.data.toList:=⟨_,rfl⟩;obtain⟨z,hz⟩:∃ z,z=sgn (decide (bare s.data.toList≠s.data.toList)) (num (bare s.data.toList)):=⟨_,rfl⟩;have hza:z.natAbs=num T:=by rw[hz,sgn_abs,n0]
     have hlen:(dig (num T)).length≤600:=by
      rw[n0,← dd_len_dig _ 600 (by omega),q0.out,← HT.out,← Lib.size_eq];omega
     have HE:=zz (show r=(z,0) by rw[hr.out,hz];exact parseZ_some HC.out (by rw[← hz,hza];exact hlen));have HQ:=zz (show(!(t.toList==s.toList))=decide (z<0) by
      rw[hz,← sgn_neg _ _ u0.out,Lib.toList_data,Lib.toList_data,HT.out];by_cases hb:bare s.data.toList=s.data.toList <;> simp[hb])
     have v0:=zz (show t.data.toList=T by rw[HT.out,n0]);have r0:=zz (show AllDig T by rw[n0];exact HD.out);have C0:=zz (show ∃ c rr,T=c :: rr∧c≠48 from⟨c,rr,by rw[n0];exact k0.out,fun e=>hc1 (by rw[ba_head (t:=t) (by rw[HT.out];exact k0.out) hp,e];rfl)⟩);have D0:=zz hza;have E0:=zz hlen;have htn:t.size=T.length:=by rw[Lib.size_eq,v0.out]
     have s0:=zz htn;clear hr HT HD k0 HC u0 q0 hz hza hlen n0 htn;go_wp2;generalize (!(t.toList==s.toList))=q at *
     have La:=L2.alloc (.cells #[.bool q,.slice none 0 0] 31);have Lb:=LB.new w2 (.bool q) (.slice none 0 0);have f0:=a0.out.alloc a0.out.size (.cells #[.bool q,.slice none 0 0] 31);have hsz:w.heap.size<w2.heap.size:=L2.lt;have w0:=zz (show w2.heap.size+1≤(w2.alloc (.cells #[.bool q,.slice none 0 0] 31)).heap.size by simp);clear L2 a0 qa0 qa1 qa2 qa3 hu0 HU hti hc1 hs2;go_loopw [6] (fun i wr=>∃ (x:Int) (ds:List Nat) (v:Value),i=.int .i64 x∧-9≤x∧x≤t.size∧Hid (dig (num T)=ds++dig (num (T.take x.toNat)))∧Hid (ds.length≤600)∧LB wr w.heap.size (.bool false) (.slice none 0 0)∧LB wr w2.heap.size (.bool q) v∧Hid (OwnV wr (w2.heap.size+1) v (ni ds))∧Hid (w2.heap.size+1≤wr.heap.size)∧Below w.heap.size w wr) (fun i _=>(intOf i).toNat)
     case atStart=>exact⟨_,[],_,rfl,by omega,Int.le_refl _,zz (by rw[Int.toNat_natCast,s0.out,List.take_length];rfl),zz (by simp),La,Lb,zz (OwnV.nil _ _),w0,f0⟩
     case round=>
      clear La Lb f0 w0;obtain⟨x,ds,v,rfl,hx0,hx1,hd,hlen,L0,L1,ho,hsz',hbw⟩:=hrel;by_cases hxp:x≤0
      ·have F0:=zz (show ni (dig z.natAbs)=ni ds by rw[D0.out,hd.out,show x.toNat=0 by omega];simp[num,dig_zero]);have HB:=zz hbw;have G0:=zz ho.out.ri;have hri:=ho.out.ri;obtain⟨A,c,rfl,-⟩:=hri;have qa0:=L1.cell0;have qa1:=L1.cell1;have qb0:=L0.cell0;have qb1:=L0.cell1;have qb2:=L0.frozen 0;have qb3:=L0.frozen 1;clear hbw hd hlen hx0;go_wp2;(try simp only[Exit.inBlock,Exit.then])
       exact end_put rfl L0 HB.out (Nat.le_refl _) (by rw[F0.out];exact G0.out) HQ.out HE.out rfl rfl
      ·obtain⟨e,rfl⟩:∃ e:Nat,x=e:=⟨x.toNat,by omega⟩;have he0:0<e:=by omega
       have heT:e≤t.size:=by omega
       have hmx:max ((e:Int)-9) 0=((e-9:Nat):Int):=by omega
       have HB:=zz hbw;clear hbw hxp hx0;go_wp2_with fail
       have hsl:(t.extract (e-9) e).data.toList=(T.take e).drop (e-9):=by rw[Lib.extract_data,v0.out,List.drop_take]
       have hll:((T.take e).drop (e-9)).length=e-(e-9):=by have:=s0.out;simp;omega
       have hne:(T.take e).drop (e-9)≠[]:=fun h=>by rw[h] at hll;simp at hll;omega
       have hal:AllDig ((T.take e).drop (e-9)):=(r0.out.take e).drop (e-9);have hn9:num ((T.take e).drop (e-9))<1000000000:=Nat.lt_of_lt_of_le (num_lt hal) (by
        rw[hll];exact Nat.pow_le_pow_right (show 0<10 by omega) (show e-(e-9)≤9 by omega))
       have hat:Lib.atoiAll (t.extract (e-9) e).data.toList=.ok ((num ((T.take e).drop (e-9)):Nat):Int):=by rw[hsl,atoi_dig hne hal,if_pos (by omega)]
       have hpc:dig (num (T.take e))=num ((T.take e).drop (e-9)) :: dig (num (T.take (e-9))):=by
        refine dig_piece r0.out (by have:=s0.out;omega) ?_;obtain⟨c,rr,hT,hc⟩:=C0.out;have h1:T.take e=c :: rr.take (e-1):=by rw[hT];cases e with
         | zero=>omega
         | succ e=>rfl
        rw[h1];exact Nat.ne_of_gt (num_pos (r0.out c (by rw[hT];exact List.mem_cons_self ..)) hc)
       have hsz9:(t.extract (e-9) e).size≤9223372036854775806:=by rw[Lib.size_eq,hsl,hll];omega
       obtain⟨d,hdd⟩:∃ d,d=num ((T.take e).drop (e-9)):=⟨_,rfl⟩;rw[← hdd] at hn9 hat hpc;have I0:=zz hat;have B0:=zz hsz9;have x0:=zz hpc;have hdi:(d:Int)<1000000000:=by omega
       clear hsl hll hne hal hn9 hat hpc hsz9 hdd;refine(Atoi_yes (t.extract (e-9) e) B0.out _ I0.out _).mono ?_;rintro en w5 ⟨rfl,b0⟩;have L05:=L0.step b0;have L15:=L1.step b0;have o0:=zz (OwnV.step ho.out b0);have d0:=zz (HB.out.trans (b0.mono HB.out.size));have y0:=zz (Nat.le_trans hsz'.out b0.size);clear b0 L0 L1 ho HB hsz' hmx;have qa0:=L15.cell0;have qa1:=L15.cell1;have hown:=o0.out.alloc (.cells #[.int .i64 (d:Int)] 3);have hl6:=hlen.out;go_wp2_with (at_builtin;refine wpList_append_own_at _ rfl _ _ 29 rfl (w2.heap.size+1) 3 i0 (.int .i64 0) 1 8 Tryz.underlying29 hi hz0 hz1 hz2 rfl (by decide) v (ni ds).length ((ni ds).map (Value.int .i64)) rfl hown ⟨w5.heap.size,0,none⟩ 1 1 [.int .i64 (d:Int)] rfl rfl (cell_one_new _ _ _) (by intro u hu;simp at hu;subst hu;rfl) (by rw[ni_length];unfold maxLen;omega) (by rw[ni_length];omega) (by have:=y0.out;simp;omega) ?_)
       intro v' w' hown' hgrow hne hblk;have hv':OwnV w' (w2.heap.size+1) v' (ni (ds++[d])):=by
        have h:=hown';rw[OwnV,ni_length,List.length_append];rw[ni_length] at h;have e:(ni (ds++[d])).map (Value.int .i64)=(ni ds).map (Value.int .i64)++[.int .i64 (d:Int)]:=by simp[ni]
        rw[e];exact h
       have hrow:∀ b,b<w2.heap.size+1→v.ownBlock≠some b:=fun b hb he=>by
        have:=(World.ownsRow.lt o0.out b he).1
        omega
       have M0:=(L05.alloc (.cells #[.int .i64 (d:Int)] 3)).grown hgrow (hrow _ (by omega));have M1:=(L15.alloc (.cells #[.int .i64 (d:Int)] 3)).grown hgrow (hrow _ (by omega));have g0:=zz ((d0.out.alloc d0.out.size (.cells #[.int .i64 (d:Int)] 3)).grown hgrow (by have:=d0.out.size;simp;omega) (fun g he=>by have:=(World.ownsRow.lt o0.out g he).1;omega));have J0:=zz (show w2.heap.size+1≤w'.heap.size by have h1:=hgrow.size;have h2:=y0.out;simp at h1;omega);have HV:=zz (hv'.setBelow (p:=⟨w2.heap.size,1,none⟩) (by simp) v');have N0:=M0.far (p:=⟨w2.heap.size,1,none⟩) (by simp;omega) v';have N1:=M1.set1 v';have j0:=zz (g0.out.setCell (p:=⟨w2.heap.size,1,none⟩) (by simp;omega) v');clear hown' hgrow hne hblk hown qa0 qa1 L05 L15 o0;have qa2:=M1.frozen 1;have qa1:=M1.cell1;have K0:=zz (show(ds++[d]).length≤600 by
        have h:=E0.out;rw[hd.out,Int.toNat_natCast,x0.out] at h;simp at h ⊢
        omega)
       have O0:=zz (show dig (num T)=(ds++[d])++dig (num (T.take ((e:Int)-9).toNat)) by
        rw[show((e:Int)-9).toNat=e-9 by omega,hd.out,Int.toNat_natCast,x0.out];simp)
       rcases hv'.form with ⟨_,he⟩ | ⟨g,cap,rfl,_⟩
       ·simp[ni] at he
       ·clear hv' hrow M0 M1;go_wp2;go_roundw
        case rel=>exact⟨(e:Int)-9,ds++[d],_,rfl,by omega,by omega,O0,K0,N0,N1,HV,zz (by have:=J0.out;simpa[World.setCell] using this),j0.out⟩
        case measure=>simp only[intOf];omega
  ·have hu0:¬ u.toList=[]:=by rw[Lib.toList_data];exact fun e=>hd (by rw[← HT.out];exact HU.out.1 e)
   have HE:=zz (show r=(0,5) by rw[hr.out,parseZ_none (canon_letter hd)]);clear hd;go_wp2;(try simp only[Exit.inBlock,Exit.then])
   exact end_zero rfl L2 a0.out (Nat.le_refl _) HE.out rfl rfl
def litB (s:List UInt8) (z:Int):Bool:=
 (s==[48]&&z==0)||((bare s).all (fun c=>48≤c.toNat&&c.toNat≤57)&&(match bare s with | []=>false | c :: _=>c != 48)&&z==sgn (decide (bare s≠s)) (num (bare s)))
theorem lit {s:List UInt8} {z:Int} (h:litB s z=true):canon s=some z:=by
 unfold litB at h;rw[Bool.or_eq_true] at h;rcases h with h | h
 ·simp at h
  rw[h.1,h.2];exact canon_zero
 ·rw[Bool.and_eq_true,Bool.and_eq_true] at h;obtain⟨⟨h1,h2⟩,h3⟩:=h;have ha:AllDig (bare s):=by
   intro c hc;have:=List.all_eq_true.1 h1 c hc;simp at this
   exact this
  have hz:=eq_of_beq h3;rw[hz];cases hb:bare s with
  | nil=>rw[hb] at h2;cases h2
  | cons c r=>
   rw[hb] at h2;rw[← hb];exact canon_num hb ha (by simpa using h2)
theorem lit_itoa {s:List UInt8} {z:Int} (h:litB s z=true):Lib.itoa z=s:=canon_some (lit h)
theorem small_len {z:Int} (h:z.natAbs<1000000000000000000000000000):(dig z.natAbs).length≤600:=Nat.le_trans (dig_len_le.2 (show z.natAbs<bp 3 from h)) (by omega)
section
variable {w:World} {va vb:Value} {a b:Int}
end
section
variable {w:World} {v:Value} {z:Int}
end
end Go.Proofs.YtdigbofiebfkeaaGreatDoor
