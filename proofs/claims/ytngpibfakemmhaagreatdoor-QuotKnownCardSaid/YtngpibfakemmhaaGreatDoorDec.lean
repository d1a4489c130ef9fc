/- Texts put together: The package-level variables of the library that the walks read: kept by every call that turns nothing of what was there. strings.Builder's methods, strings.Trim, strings.Repeat, strconv.Itoa and Atoi at this translation, in the words of this work. long.Text. long.Int. long.Parse. The law package's helpers: is, fails, of, size; literal texts. The law package's divides, size. The operations at valid Longs: what they answer, in plain numbers. Plain: how many digits sums, products, roots, divisors have. The law package's alike at two equal results. -/
import Derived.Test.YtngpibfakemmhaaGreatDoorProg
import Derived.Lib.LaidTab
import Derived.Lib.ItoaNum
import Derived.Below
import Derived.Test.YtngpibfakemmhaaGreatDoorShelf
import Derived.Test.YtngpibfakemmhaaGreatDoorLow
import Derived.WalkKit
import Derived.Lib.SlTrimSet
import Derived.Test.YtngpibfakemmhaaGreatDoorOps
import Derived.Deep.RegionWith
namespace Go.Proofs.YtngpibfakemmhaaGreatDoor
open Go Go.RowKit
theorem var_keep {P:Program} {w w':World} {name:String} {cs:Array Value} (h:w.var? P name=some cs) (hb:Below w.heap.size w w'):w'.var? P name=some cs:=by
 unfold World.var? at h ⊢;cases hg:P.globalNamed name with
 | none=>rw[hg] at h;simp at h
 | some g=>
  rw[hg] at h;simp only[Option.bind_some] at h ⊢
  have hlt:g<w.heap.size:=by
   rcases Nat.lt_or_ge g w.heap.size with h1 | h1
   ·exact h1
   ·rw[Array.getElem?_eq_none h1] at h;simp at h
  rw[hb.block g hlt];exact h
structure Glob (w:World):Prop where
 pow:Lib.TabIs Tryz.prog w "internal/strconv.uint64pow10" .u64 Lib.pow10Tab
 rng:∃ tp p,w.var? Tryz.prog "strconv.ErrRange"=some #[.iface tp p]
theorem Glob.step {w w':World} (h:Glob w) (hb:Below w.heap.size w w'):Glob w':=
 ⟨var_keep h.pow hb,let ⟨tp,p,hv⟩:=h.rng;⟨tp,p,var_keep hv hb⟩⟩
end Go.Proofs.YtngpibfakemmhaaGreatDoor
namespace Go.Proofs.YtngpibfakemmhaaGreatDoor
open Go Go.RowKit Go.Shelf Dig
def Bld (w:World) (B b:Nat) (l:List UInt8):Prop:=Lib.IsBuilderF 67 5 B b (Lib.byteCells l) w
theorem Bld.step {w w':World} {B b:Nat} {l:List UInt8} (h:Bld w B b l) (hb:Below w.heap.size w w'):Bld w' B b l:=by
 have one:∀ p,Lib.BuilderAtF 67 5 B b p (Lib.byteCells l) w→Lib.BuilderAtF 67 5 B b p (Lib.byteCells l) w':=by
  intro p h;have hlt:=h.lt;obtain⟨hB,v,hbk,hown,hne⟩:=h;exact⟨hB,v,(hb.block b hlt).trans hbk,hown.kept (row:=none) ⟨hb.os,hb.tape,hb.output,hb.size,fun i hi _=>hb.block i hi⟩ (by cases hv:v.ownBlock <;> simp),hne⟩
 exact h.elim (fun h=>.inl (one _ h)) (fun h=>.inr (one _ h))
theorem Bld.new (w:World) (B:Nat) (hB:B≤w.heap.size):Bld (w.alloc (.cells #[.pointer none,.slice none 0 0] 67)) B w.heap.size []:=
 .inl ⟨hB,.slice none 0 0,heap_alloc_new w _,⟨rfl,.inl ⟨rfl,rfl⟩⟩,by simp[Value.ownBlock]⟩
theorem info_byte:(Tryz.prog.info? 5).map (fun i=>(i.zero,i.size,i.bytes))=some (some (.int .u8 0),1,1):=by kernel_rfl
theorem lays_copy:Go.Proofs.Lays.n240 Tryz.prog Tryz.lays105_ren:={ Tryz.lays105 with }
theorem lays_wstr:Go.Proofs.Lays.n166 Tryz.prog Tryz.lays105_ren:={ Tryz.lays105 with }
theorem copyCheck_k (B b:Nat) (bs:List Value) (w:World) (h:Lib.IsBuilderF 67 5 B b bs w) :
  Calls Tryz.prog 72 #[.pointer (some ⟨b,0,none⟩)] w fun e w'=>e=.returned (.tuple #[])∧(Lib.BuilderAtF 67 5 B b (.pointer (some ⟨b,0,none⟩)) bs w'∧Below B w w'∧Lib.OthersKept 5 (some b) w w'):=
 Any.Builder_copyCheck_k lays_copy Tryz.Builder_Extra_105.toX72 B b bs w h
theorem WriteString_any (B b:Nat) (l m:List UInt8) (s:ByteArray) (w:World) (h:Bld w B b l) (hs:s.data.toList=m) (hlen:l.length+m.length≤140737488355328) (hBw:B≤w.heap.size) :
  Calls Tryz.prog 32 #[.pointer (some ⟨b,0,none⟩),.string s] w fun e w'=>e=.returned (.tuple #[.int .i64 s.size,.nilIface])∧Bld w' B b (l++m)∧Below B w w':=by
 subst hs;have h1:=Any.Builder_WriteString_k lays_wstr Tryz.Builder_Extra_105 B b (Lib.byteCells l) s w h (by rw[Lib.byteCells_length,Lib.size_eq];exact hlen) hBw;refine h1.mono fun e w' ⟨he,hb,hbl,_⟩=>⟨he,?_,hbl⟩
 unfold Bld;rw[Lib.byteCells_append,← Lib.strCells_eq];exact .inr hb
set_option maxHeartbeats 2000000 in
set_option maxRecDepth 100000 in
theorem WriteByte_any (B b:Nat) (l:List UInt8) (x:UInt8) (c:Int) (hc:c=x.toNat) (w:World) (h:Bld w B b l) (hlen:l.length+1≤140737488355328) (hBw:B≤w.heap.size) :
  Calls Tryz.prog 83 #[.pointer (some ⟨b,0,none⟩),.int .u8 c] w fun e w'=>e=.returned .nilIface∧Bld w' B b (l++[x])∧Below B w w':=by
 have HL:=zz (show(Lib.byteCells l).length+1≤140737488355328 by rw[Lib.byteCells_length];exact hlen);have HX:=zz (show Lib.byteCells (l++[x])=Lib.byteCells l++[.int .u8 c] by rw[Lib.byteCells_append,hc];rfl);unfold Bld at h ⊢;rw[HX.out];generalize Lib.byteCells l=bs at *
 clear HX hc hlen;obtain⟨i0,hi,hz0,hz1,hz2⟩:=info_parts info_byte;go_enter Tryz.func83,Tryz.ntmps83
 go_wp2_with fail
 refine(copyCheck_k B b bs _ h).mono ?_;rintro e w1 ⟨rfl,h1,a0,_⟩;obtain⟨hB,v,hbk,hown,hne⟩:=h1;have c0:w1.cell? ⟨b,0,none⟩=some (.pointer (some ⟨b,0,none⟩)):=by rw[Lib.cell_of_heap hbk];rfl
 have c1:w1.cell? ⟨b,1,none⟩=some v:=by rw[Lib.cell_of_heap hbk];rfl
 go_wp2_with (at_builtin;refine wpList_append_ownF _ rfl _ _ 65 rfl B 5 i0 (.int .u8 0) 1 1 Tryz.underlying65 hi hz0 hz1 hz2 rfl (by decide) _ _ _ rfl (hown.alloc _) ⟨w1.heap.size,0,none⟩ 1 1 [.int .u8 c] rfl rfl ?c1 ?c2 ?c3 ?c4 ?c5 ?_)
 case c1=>
  intro j u hj
  match j,hj with
  | 0,hj=>simp at hj;subst hj;simp[Addr.add]
 case c2=>intro u hu;simp at hu;subst hu;rfl
 case c3=>have:=HL.out;unfold maxLen;omega
 case c4=>have:=HL.out;omega
 case c5=>have:=a0.size;simp;omega
 intro v' w2 hown' hgrow _;have hlt:b<w1.heap.size:=by
  rcases Nat.lt_or_ge b w1.heap.size with h' | h'
  ·exact h'
  ·simp[Array.getElem?_eq_none h'] at hbk
 have b0:w2.heap[b]?=some (.cells #[.pointer (some ⟨b,0,none⟩),v] 67 (0,0)):=by
  rw[hgrow.block b (by simp;omega) (fun e=>hne e.symm),Lib.alloc_old w1 _ b hlt];exact hbk
 have d0:w2.cell? ⟨b,0,none⟩=some (.pointer (some ⟨b,0,none⟩)):=by rw[Lib.cell_of_heap b0];rfl
 have d1:w2.cell? ⟨b,1,none⟩=some v:=by rw[Lib.cell_of_heap b0];rfl
 have f1:w2.frozen? ⟨b,1,none⟩=false:=Lib.frozen_of_heap b0 1;obtain⟨g,cap,rfl⟩:∃ g cap,v'=.slice (some ⟨g,0,none⟩) (bs.length+1) cap:=by
  rcases hown'.2 with ⟨_,h0⟩ | ⟨g,cap,cur,fz,hv,_⟩
  ·omega
  ·exact⟨g,cap,hv⟩
 go_wp2;go_ret;refine⟨rfl,.inr ?_,?_⟩
 ·exact Lib.BuilderAtF.put (T:=67) (e:=5) hB b0 (bs':=bs++[.int .u8 c]) (by simpa using hown') (by decide)
 ·exact((a0.alloc (by have:=a0.size;omega) _).grown hgrow (by have:=a0.size;simp;omega) (fun k hk=>(hown.lt k hk).1)).setCell (p:=⟨b,1,none⟩) hB _
theorem String_any (B b:Nat) (l:List UInt8) (w:World) (h:Bld w B b l) (h0:l≠[]) :
  Calls Tryz.prog 34 #[.pointer (some ⟨b,0,none⟩)] w fun e w'=>e=.returned (.string ⟨l.toArray⟩)∧Below B w w':=
 (Tryz.Builder_String_k B b l w h h0).mono fun _ _ ⟨he,_,hb,_⟩=>⟨he,hb⟩
theorem Repeat_zeros (c:Nat) (w:World) (hc:c≤1000000) :
  Calls Tryz.prog 5 #[.string ⟨#[48]⟩,.int .i64 c] w fun e w'=>e=.returned (.string ⟨(List.replicate c 48).toArray⟩)∧Below w.heap.size w w':=by
 have h:=Tryz.strings_Repeat ⟨#[48]⟩ c w (by omega) (by show 1*c≤_;omega);have e:Lib.repeatL (ByteArray.mk #[48]).data.toList c=List.replicate c 48:=by
  have:=Lib.repeatL_replicate 48 1 c;rw[Nat.mul_one] at this;exact this
 rwa [e] at h
theorem below_grow (w:World) (k:Nat) (os:Array Obj):Below w.heap.size w (Sort.grow (w.drewN k) os):=
 ⟨rfl,rfl,rfl,by simp[Sort.grow],fun i hi=>by
  show(w.heap++os)[i]?=_
  rw[Array.getElem?_append_left hi]⟩
theorem Itoa_any (n:Int) (h0:-9223372036854775808≤n) (h1:n≤9223372036854775807) (w:World) (G:Glob w) :
  Calls Tryz.prog 84 #[.int .i64 n] w fun e w'=>e=.returned (.string ⟨(Lib.itoa n).toArray⟩)∧Below w.heap.size w w':=
 (Tryz.strconv_Itoa n h0 h1 w G.pow).mono fun _ _ ⟨he,k,os,hw⟩=>⟨he,hw▸below_grow w k os⟩
theorem Atoi_yes (s:ByteArray) (hs:s.size≤9223372036854775806) (v:Int) (h:Lib.atoiAll s.data.toList=.ok v) (w:World) :
  Calls Tryz.prog 89 #[.string s] w fun e w'=>e=.returned (.tuple #[.int .i64 v,.nilIface])∧Below w.heap.size w w':=
 (Tryz.strconv_Atoi_ok s hs v h w).mono fun _ _ ⟨he,hw⟩=>⟨he,by
  rcases hw with rfl | ⟨t,rfl⟩
  ·exact Below.refl _ _
  ·exact Lib.bytesWorld_below _ _ _⟩
theorem Atoi_big (s:ByteArray) (hs:s.size≤281474976710656) (h:Lib.atoiAll s.data.toList=.range) (w:World) (G:Glob w) :
  Calls Tryz.prog 89 #[.string s] w fun e w'=>∃ n N,e=.returned (.tuple #[.int .i64 n,.iface 149 (.pointer (some ⟨N,0,none⟩))])∧Below w.heap.size w w':=by
 obtain⟨tp,p,hv⟩:=G.rng;exact(Tryz.strconv_Atoi_range_var s hs h tp p w hv).mono fun _ _ ⟨N,he,_,_,hb⟩=>⟨_,N,he,hb⟩
theorem info_set:(Tryz.prog.info? 132).map (fun i=>(i.zero,i.size))=some (some (.agg (Array.replicate 256 (.bool false))),256):=by kernel_rfl
def tens:ByteArray:=⟨#[48,49,50,51,52,53,54,55,56,57]⟩
theorem tens_ascii (j:Nat) (b:UInt8) (h:tens.data.toList[j]?=some b):b.toNat<128:=by
 have h1:∀ x∈tens.data.toList,x.toNat<128:=by decide
 exact h1 b (List.mem_of_getElem? h)
theorem tens_dig (c:UInt8):tens.data.toList.contains c=true↔IsDig c:=by
 have h1:∀ n:Fin 256,(tens.data.toList.contains (UInt8.ofNat n.val)=true)↔(48≤n.val∧n.val≤57):=by decide +kernel
 have h2:=h1 ⟨c.toNat,c.toNat_lt⟩;simp only[UInt8.ofNat_toNat] at h2
 exact h2
theorem trim_tens (l:List UInt8):Lib.trimS l tens.data.toList=[]↔AllDig l:=by
 have key:∀ m:List UInt8,m.dropWhile (tens.data.toList.contains ·)=[]↔AllDig m:=by
  intro m
  induction m with
  | nil=>exact⟨fun _=>AllDig.nil,fun _=>rfl⟩
  | cons c m ih=>
   rw[List.dropWhile_cons];by_cases hc:tens.data.toList.contains c=true
   ·rw[if_pos hc,ih];exact⟨fun h=>AllDig.cons ((tens_dig c).1 hc) h,fun h x hx=>h x (List.mem_cons_of_mem _ hx)⟩
   ·rw[if_neg hc];exact⟨fun h=>by simp at h,fun h=>absurd ((tens_dig c).2 (h c (List.mem_cons_self ..))) hc⟩
 have rev:AllDig l.reverse↔AllDig l:=⟨fun h x hx=>h x (List.mem_reverse.2 hx),fun h x hx=>h x (List.mem_reverse.1 hx)⟩;unfold Lib.trimS Lib.trimLeftS Lib.trimRightS;rw[key]
 constructor
 ·intro h;refine rev.1 ((key _).1 ?_);cases hd:l.reverse.dropWhile (tens.data.toList.contains ·) with
  | nil=>rfl
  | cons c m=>
   exfalso
   have hc:¬ tens.data.toList.contains c=true:=by
    have h1:=List.head_dropWhile_not (p:=(tens.data.toList.contains ·)) (l:=l.reverse) (by rw[hd];simp);simp only[hd,List.head_cons] at h1
    exact fun h2=>by rw[h1] at h2;cases h2
   rw[hd] at h;exact hc ((tens_dig c).2 (h c (by simp)))
 ·intro h x hx;have h1:=(key _).2 (rev.2 h);rw[h1] at hx;simp at hx
set_option maxRecDepth 1000000 in
theorem TrimS_any (s:ByteArray) (w:World) (hs:s.size≤9223372036854775807) :
  Calls Tryz.prog 88 #[.string s,.string ⟨#[48,49,50,51,52,53,54,55,56,57]⟩] w fun e w'=>∃ t:ByteArray,e=.returned (.string t)∧(t.data.toList=[]↔AllDig s.data.toList)∧Below w.heap.size w w':=
 (Any.strings_Trim_laid Tryz.lays160 info_set s tens w hs (by show 10<4294967281;omega) tens_ascii).mono fun _ _ ⟨he,hb⟩=>⟨_,he,trim_tens _,hb⟩
end Go.Proofs.YtngpibfakemmhaaGreatDoor
namespace Go.Proofs.YtngpibfakemmhaaGreatDoor
open Go Go.RowKit Dig
def RetS (r:List UInt8 × Int) (e:Ending):Prop:=e=.returned (.tuple #[.string ⟨r.1.toArray⟩,.int .i64 r.2])
def up (l:List Nat) (k:Nat):List UInt8:=if k=l.length then [] else Lib.decDigits (val (l.drop k))
theorem up_len {l:List Nat} (h:Norm l) {k:Nat} (hl:l.length≤600):(up l k).length≤5400:=by
 unfold up
 split
 ·simp
 ·rw[show 5400=9*600 from rfl,dd_len_dig _ 600 (by omega),dig_len_le];exact Nat.lt_of_lt_of_le (val_lt (h.1.drop k)) (bp_le (by simp;omega))
theorem up_last {l:List Nat} (h:Norm l) {k:Nat} (hk:k+1=l.length):up l k=up l (k+1)++Lib.decDigits (l.getD k 0):=by
 unfold up;rw[if_neg (by omega),if_pos hk,text_step h (by omega),if_pos hk];rfl
theorem up_more {l:List Nat} (h:Norm l) {k:Nat} (hk:k<l.length) (hn:k+1≠l.length):up l k=up l (k+1)++List.replicate (9-(Lib.decDigits (l.getD k 0)).length) 48++Lib.decDigits (l.getD k 0):=by
 unfold up;rw[if_neg (by omega),if_neg hn,text_step h hk,if_neg hn,List.append_assoc]
theorem up_all {l:List Nat} (hn:l≠[]):up l 0=Lib.decDigits (val l):=by
 unfold up;rw[if_neg (fun e=>hn (List.eq_nil_of_length_eq_zero e.symm)),List.drop_zero]
theorem up_top (l:List Nat):up l l.length=[]:=by unfold up;rw[if_pos rfl]
set_option maxRecDepth 100000 in
set_option maxHeartbeats 2000000 in
theorem Text_any (w:World) (va:Value) (na:Bool) (la:List Int) (ha:LR w w.heap.size va na la) (G:Glob w) :
  Calls Tryz.prog 63 #[va] w fun e w'=>Below w.heap.size w w'∧RetS (T1 (numOf na la)) e:=by
 obtain⟨sa,rfl,hsa⟩:=ha;obtain⟨P1,k1,rfl,-⟩:=(show RI _ _ _ _ from hsa);replace hsa:=zz hsa;replace G:=zz G;obtain⟨r,hr⟩:∃ r,r=T1 (numOf na la):=⟨_,rfl⟩;rw[← hr];replace hr:=zz hr;go_enter Tryz.func63,Tryz.ntmps63
 go_wp2_with fail
 refine(Check_any _ _ na la ⟨_,rfl,hsa.out.step (by(repeat' (first | exact Below.refl _ _ | refine Below.drew ?_ | refine Below.alloc ?_ (by first | exact Nat.le_refl _ | (simp;done) | (simp;omega)) _)))⟩).mono ?_;rintro e w2 ⟨j0,c,rfl,hc⟩;have La:LB w2 w.heap.size (.bool na) (.slice P1 la.length k1):=LB.of_block (by(repeat (first | (refine LB.new' ?_;simp;done) | refine LB.alloc ?_ _))) (j0.block _ (by simp));have HB:=zz ((show Below w.heap.size w _ from by(repeat' (first | exact Below.refl _ _ | refine Below.drew ?_ | refine Below.alloc ?_ (by first | exact Nat.le_refl _ | (simp;done) | (simp;omega)) _))).trans (j0.mono (by simp)));have qa0:=La.cell0;have qa1:=La.cell1;clear j0;rcases hc with ⟨hv,rfl⟩ | ⟨hv,rfl⟩
 ·obtain⟨z,hnz,hz0,hz1,hlz⟩:=numOf_valid hv;have HR:=zz (show r=(Lib.itoa z,0) by rw[hr.out,hnz];rfl);have hn:=dig_norm z.natAbs;have hvz:=val_dig z.natAbs;generalize dig z.natAbs=l at *
  have hll:la.length=l.length:=by rw[hz1,ni_length]
  have HL:=zz hll;have HN:=zz hn;have HV:=zz hvz;have hri:=hsa.out.step HB.out;rw[hz1,ni_length,← hll] at hri;have hL6:la.length≤600:=by omega
  clear hr hnz hv hsa hn hvz hz1 hll hlz;generalize la.length=L at *
  by_cases hz:z=0
  ·have h0:L=0:=by
    rw[HL.out];have h1:=HV.out;rw[hz] at h1;rw[(norm_zero HN.out).1 h1];rfl
   have HZ:=zz hz;subst h0;clear hz;go_wp2;go_ret2;refine⟨HB.out,?_⟩;rw[HR.out,HZ.out,show Lib.itoa 0=[48] from dd_zero];rfl
  ·have hlne:l≠[]:=fun e=>hz (by have:=HV.out;rw[e] at this;simp[val] at this;omega)
   have hL0:0<L:=by rw[HL.out];exact List.length_pos_iff.2 hlne
   have hL1:((L:Int)==0)=false:=by rw[beq_eq_false_iff_ne];omega
   obtain⟨A',c',hv',hcc,hcc',hA⟩:=RN.cell (show RN w2 w2.heap.size (.slice P1 L k1) l from hri);obtain⟨h1,-,h3⟩:P1=A'∧L=l.length∧k1=c':=by simpa using hv'
   subst h1 h3;obtain⟨g,off,rfl,hg,hx⟩:=hA (by rw[← HL.out];exact hL0);have HX:Hid (∀ j,j<L→w2.cell? ⟨g,off+j,none⟩=some (.int .i64 ((l.getD j 0:Nat):Int))):=zz (fun j hj=>by
    have h1:j<l.length:=by rw[← HL.out];exact hj
    rw[hx j h1,getD_get h1])
   have D0:=zz (G.out.step HB.out);have w0:=zz hlne;have hLk:L≤k1:=by rw[HL.out];exact hcc
   clear hv' hcc hA hx hri hz hlne;have hsz2:w.heap.size<w2.heap.size:=La.lt;have B0:=zz (Bld.new w2 w2.heap.size (Nat.le_refl _));have L3:=La.alloc (.cells #[.pointer none,.slice none 0 0] 67);have i0:=zz ((Below.refl w2.heap.size w2).alloc (Nat.le_refl _) (.cells #[.pointer none,.slice none 0 0] 67));have u0:w2.heap.size<(w2.alloc (.cells #[.pointer none,.slice none 0 0] 67)).heap.size:=by simp
   obtain⟨pre,hpre⟩:∃ pre:List UInt8,pre=if na then [45] else []:=⟨_,rfl⟩
   have hpl:pre.length≤1:=by rw[hpre];split <;> simp
   have HP:=zz (show Lib.itoa z=pre++up l 0 by
    rw[hpre,hz0,up_all w0.out,HV.out];by_cases hn:z<0
    ·rw[if_pos (by simpa using hn),itoa_min hn];rfl
    ·rw[if_neg (by simpa using hn),itoa_pos (by omega)];rfl)
   have E0:=zz hpre;clear hpre hz0;cases na with
   | false=>
    have t0:=zz (show Bld (w2.alloc (.cells #[.pointer none,.slice none 0 0] 67)) w2.heap.size w2.heap.size (pre++up l L) by rw[E0.out,HL.out,up_top];exact B0.out);have L4:=L3;have e0:=i0;have hs4:=u0;clear B0 L3 i0 u0;go_wp2;clear La qa0 qa1;go_loopw [6] (fun i wr=>∃ k:Nat,k≤L∧i=.int .i64 ((k:Int)-1)∧Hid (Bld wr w2.heap.size w2.heap.size (pre++up l k))∧LB wr w.heap.size (.bool false) (.slice (some ⟨g,off,none⟩) L k1)∧Hid (Below w2.heap.size w2 wr)∧w2.heap.size<wr.heap.size) (fun i _=>(intOf i+1).toNat)
    case atStart=>exact⟨L,Nat.le_refl _,rfl,t0,L4,e0,hs4⟩
    case round=>
     clear t0 L4 e0 hs4;obtain⟨k,hk,rfl,hbld,Lr,hbw,hsr⟩:=hrel;have x0:=zz (HB.out.trans (hbw.out.mono HB.out.size));rcases k with _ | j
     ·rw[show((0:Nat):Int)-1=-1 from rfl];have y0:=zz (show Bld wr w2.heap.size w2.heap.size (Lib.itoa z) by rw[HP.out];exact hbld.out);have z0:=zz (show Lib.itoa z≠[] by rw[HP.out,up_all w0.out];exact fun e=>dd_ne _ (List.append_eq_nil_iff.1 e).2);clear hbld;go_wp2_with fail
      refine(String_any _ _ (Lib.itoa z) _ y0.out z0.out).mono ?_;rintro e w5 ⟨rfl,a0⟩;have c0:=zz (x0.out.trans (a0.mono (HB.out.size)));clear a0;go_wp2;go_ret2;refine⟨c0.out,?_⟩;rw[HR.out];rfl
     ·rw[show((j+1:Nat):Int)-1=(j:Int) by omega];have hjL:(j:Int)<L:=by omega
      have qr1:=Lr.cell1;have hx1:=(hbw.out.cell (p:=⟨g,off+j,none⟩) (Nat.lt_of_lt_of_le hg (Nat.le_refl _))).trans (HX.out j (by omega));obtain⟨d,hd⟩:∃ d,d=l.getD j 0:=⟨_,rfl⟩;rw[← hd] at hx1;have hdb:(d:Int)<1000000000:=by have:=HN.out.1.getD j;rw[← hd] at this;omega
      have HD:=zz hd;have hlast:j+1=L∨j+1<L:=by omega
      clear hd;go_wp2_with fail
      refine(Itoa_any _ (by omega) (by omega) _ (D0.out.step (hbw.out))).mono ?_;rintro e w5 ⟨rfl,a0⟩;obtain⟨s,hs⟩:∃ s:ByteArray,s=⟨(Lib.itoa (d:Int)).toArray⟩:=⟨_,rfl⟩;rw[← hs];have hsd:s.data.toList=Lib.decDigits d:=by rw[hs,itoa_pos (by omega)];simp
      have hs9:s.size≤9:=by
       rw[Lib.size_eq,hsd];exact dd_len9 (by omega)
      have hs9i:(s.size:Int)≤9:=by omega
      have n0:=zz hsd;have L5:=Lr.step a0;have B5:=zz (hbld.out.step a0);have c0:=zz (hbw.out.trans (a0.mono (by omega)));have hsz5:w2.heap.size<w5.heap.size:=Nat.lt_of_lt_of_le hsr a0.size;have p0:=zz (up_len (k:=j+1) HN.out (by rw[← HL.out];exact hL6));clear hs hsd a0 hbld Lr qr1 hx1;have qr1:=L5.cell1;rcases hlast with hlast | hlast
      ·have q0:=zz (show up l j=up l (j+1)++Lib.decDigits d by rw[HD.out];exact up_last HN.out (by rw[← HL.out];exact hlast));have hlt:decide ((j:Int)<(L:Int)-1)=false:=by rw[decide_eq_false_iff_not];omega
       clear hlast;go_wp2_with fail
       refine(WriteString_any _ _ _ (Lib.decDigits d) s _ B5.out n0.out (by have:=p0.out;have h2:=n0.out;rw[← h2,← Lib.size_eq];simp;omega) (by omega)).mono ?_;rintro e w6 ⟨rfl,b0,hbl6⟩;have B6:=zz (show Bld w6 w2.heap.size w2.heap.size (pre++up l j) by rw[q0.out,← List.append_assoc];exact b0);have L6:=LB.of_block L5 (hbl6.block _ hsz2);have d0:=zz (c0.out.trans hbl6);have hs6:w2.heap.size<w6.heap.size:=Nat.lt_of_lt_of_le hsz5 hbl6.size;clear b0 hbl6;go_wp2;go_roundw
       case rel=>exact⟨j,by omega,rfl,B6,L6,d0,hs6⟩
       case measure=>simp[intOf]
      ·have q0:=zz (show up l j=up l (j+1)++List.replicate (9-s.size) 48++Lib.decDigits d by rw[Lib.size_eq,n0.out,HD.out];exact up_more HN.out (by rw[← HL.out];omega) (by rw[← HL.out];omega));have hlt:(j:Int)<(L:Int)-1:=by omega
       clear hlast;go_wp2_with fail
       rw[show(9:Int)-(s.size:Int)=((9-s.size:Nat):Int) by omega];refine(Repeat_zeros _ _ (by omega)).mono ?_;rintro e w6 ⟨rfl,b0⟩;obtain⟨u,hu⟩:∃ u:ByteArray,u=⟨(List.replicate (9-s.size) (48:UInt8)).toArray⟩:=⟨_,rfl⟩;rw[← hu];have HU:=zz (show u.data.toList=List.replicate (9-s.size) 48 by rw[hu]);have B6:=zz (B5.out.step b0);have L6:=L5.step b0;have d0:=zz (c0.out.trans (b0.mono (by omega)));have hs6:w2.heap.size<w6.heap.size:=Nat.lt_of_lt_of_le hsz5 b0.size;clear hu b0 qr1;go_wp2_with fail
       refine(WriteString_any _ _ _ (List.replicate (9-s.size) 48) u _ B6.out HU.out (by have:=p0.out;simp;omega) (by omega)).mono ?_;rintro e w7 ⟨rfl,f0,hbl7⟩;have B7:=zz f0;have L7:=LB.of_block L6 (hbl7.block _ hsz2);have k0:=zz (d0.out.trans hbl7);have hs7:w2.heap.size<w7.heap.size:=Nat.lt_of_lt_of_le hs6 hbl7.size;clear f0 hbl7;go_wp2_with fail
       refine(WriteString_any _ _ _ (Lib.decDigits d) s _ B7.out n0.out (by have:=p0.out;have h2:=n0.out;rw[← h2,← Lib.size_eq];simp;omega) (by omega)).mono ?_;rintro e w8 ⟨rfl,g0,hbl8⟩;have B8:=zz (show Bld w8 w2.heap.size w2.heap.size (pre++up l j) by rw[q0.out,← List.append_assoc,← List.append_assoc];exact g0);have L8:=LB.of_block L7 (hbl8.block _ hsz2);have l0:=zz (k0.out.trans hbl8);have hs8:w2.heap.size<w8.heap.size:=Nat.lt_of_lt_of_le hs7 hbl8.size;clear g0 hbl8;go_wp2;go_roundw
       case rel=>exact⟨j,by omega,rfl,B8,L8,l0,hs8⟩
       case measure=>simp[intOf]
   | true=>
    go_wp2_with fail
    clear La qa0 qa1;refine(WriteByte_any _ _ [] 45 45 rfl _ B0.out (by simp) (by simp)).mono ?_;rintro e w4 ⟨rfl,m0,hbl4⟩;have t0:=zz (show Bld w4 w2.heap.size w2.heap.size (pre++up l L) by rw[E0.out,HL.out,up_top];exact m0);have L4:=LB.of_block L3 (hbl4.block _ hsz2);have e0:=zz (i0.out.trans hbl4);have hs4:w2.heap.size<w4.heap.size:=Nat.lt_of_lt_of_le u0 hbl4.size;clear m0 hbl4 B0 i0 u0 L3;have qa1:=L4.cell1;go_wp2;go_loopw [6] (fun i wr=>∃ k:Nat,k≤L∧i=.int .i64 ((k:Int)-1)∧Hid (Bld wr w2.heap.size w2.heap.size (pre++up l k))∧LB wr w.heap.size (.bool true) (.slice (some ⟨g,off,none⟩) L k1)∧Hid (Below w2.heap.size w2 wr)∧w2.heap.size<wr.heap.size) (fun i _=>(intOf i+1).toNat)
    case atStart=>exact⟨L,Nat.le_refl _,rfl,t0,L4,e0,hs4⟩
    case round=>
     clear t0 L4 e0 hs4;obtain⟨k,hk,rfl,hbld,Lr,hbw,hsr⟩:=hrel;have x0:=zz (HB.out.trans (hbw.out.mono HB.out.size));rcases k with _ | j
     ·rw[show((0:Nat):Int)-1=-1 from rfl];have y0:=zz (show Bld wr w2.heap.size w2.heap.size (Lib.itoa z) by rw[HP.out];exact hbld.out);have z0:=zz (show Lib.itoa z≠[] by rw[HP.out,up_all w0.out];exact fun e=>dd_ne _ (List.append_eq_nil_iff.1 e).2);clear hbld;go_wp2_with fail
      refine(String_any _ _ (Lib.itoa z) _ y0.out z0.out).mono ?_;rintro e w5 ⟨rfl,a0⟩;have c0:=zz (x0.out.trans (a0.mono (HB.out.size)));clear a0;go_wp2;go_ret2;refine⟨c0.out,?_⟩;rw[HR.out];rfl
     ·rw[show((j+1:Nat):Int)-1=(j:Int) by omega];have hjL:(j:Int)<L:=by omega
      have qr1:=Lr.cell1;have hx1:=(hbw.out.cell (p:=⟨g,off+j,none⟩) (Nat.lt_of_lt_of_le hg (Nat.le_refl _))).trans (HX.out j (by omega));obtain⟨d,hd⟩:∃ d,d=l.getD j 0:=⟨_,rfl⟩;rw[← hd] at hx1;have hdb:(d:Int)<1000000000:=by have:=HN.out.1.getD j;rw[← hd] at this;omega
      have HD:=zz hd;have hlast:j+1=L∨j+1<L:=by omega
      clear hd;go_wp2_with fail
      refine(Itoa_any _ (by omega) (by omega) _ (D0.out.step (hbw.out))).mono ?_;rintro e w5 ⟨rfl,a0⟩;obtain⟨s,hs⟩:∃ s:ByteArray,s=⟨(Lib.itoa (d:Int)).toArray⟩:=⟨_,rfl⟩;rw[← hs];have hsd:s.data.toList=Lib.decDigits d:=by rw[hs,itoa_pos (by omega)];simp
      have hs9:s.size≤9:=by
       rw[Lib.size_eq,hsd];exact dd_len9 (by omega)
      have hs9i:(s.size:Int)≤9:=by omega
      have n0:=zz hsd;have L5:=Lr.step a0;have B5:=zz (hbld.out.step a0);have c0:=zz (hbw.out.trans (a0.mono (by omega)));have hsz5:w2.heap.size<w5.heap.size:=Nat.lt_of_lt_of_le hsr a0.size;have p0:=zz (up_len (k:=j+1) HN.out (by rw[← HL.out];exact hL6));clear hs hsd a0 hbld Lr qr1 hx1;have qr1:=L5.cell1;rcases hlast with hlast | hlast
      ·have q0:=zz (show up l j=up l (j+1)++Lib.decDigits d by rw[HD.out];exact up_last HN.out (by rw[← HL.out];exact hlast));have hlt:decide ((j:Int)<(L:Int)-1)=false:=by rw[decide_eq_false_iff_not];omega
       clear hlast;go_wp2_with fail
       refine(WriteString_any _ _ _ (Lib.decDigits d) s _ B5.out n0.out (by have:=p0.out;have h2:=n0.out;rw[← h2,← Lib.size_eq];simp;omega) (by omega)).mono ?_;rintro e w6 ⟨rfl,b0,hbl6⟩;have B6:=zz (show Bld w6 w2.heap.size w2.heap.size (pre++up l j) by rw[q0.out,← List.append_assoc];exact b0);have L6:=LB.of_block L5 (hbl6.block _ hsz2);have d0:=zz (c0.out.trans hbl6);have hs6:w2.heap.size<w6.heap.size:=Nat.lt_of_lt_of_le hsz5 hbl6.size;clear b0 hbl6;go_wp2;go_roundw
       case rel=>exact⟨j,by omega,rfl,B6,L6,d0,hs6⟩
       case measure=>simp[intOf]
      ·have q0:=zz (show up l j=up l (j+1)++List.replicate (9-s.size) 48++Lib.decDigits d by rw[Lib.size_eq,n0.out,HD.out];exact up_more HN.out (by rw[← HL.out];omega) (by rw[← HL.out];omega));have hlt:(j:Int)<(L:Int)-1:=by omega
       clear hlast;go_wp2_with fail
       rw[show(9:Int)-(s.size:Int)=((9-s.size:Nat):Int) by omega];refine(Repeat_zeros _ _ (by omega)).mono ?_;rintro e w6 ⟨rfl,b0⟩;obtain⟨u,hu⟩:∃ u:ByteArray,u=⟨(List.replicate (9-s.size) (48:UInt8)).toArray⟩:=⟨_,rfl⟩;rw[← hu];have HU:=zz (show u.data.toList=List.replicate (9-s.size) 48 by rw[hu]);have B6:=zz (B5.out.step b0);have L6:=L5.step b0;have d0:=zz (c0.out.trans (b0.mono (by omega)));have hs6:w2.heap.size<w6.heap.size:=Nat.lt_of_lt_of_le hsz5 b0.size;clear hu b0 qr1;go_wp2_with fail
       refine(WriteString_any _ _ _ (List.replicate (9-s.size) 48) u _ B6.out HU.out (by have:=p0.out;simp;omega) (by omega)).mono ?_;rintro e w7 ⟨rfl,f0,hbl7⟩;have B7:=zz f0;have L7:=LB.of_block L6 (hbl7.block _ hsz2);have k0:=zz (d0.out.trans hbl7);have hs7:w2.heap.size<w7.heap.size:=Nat.lt_of_lt_of_le hs6 hbl7.size;clear f0 hbl7;go_wp2_with fail
       refine(WriteString_any _ _ _ (Lib.decDigits d) s _ B7.out n0.out (by have:=p0.out;have h2:=n0.out;rw[← h2,← Lib.size_eq];simp;omega) (by omega)).mono ?_;rintro e w8 ⟨rfl,g0,hbl8⟩;have B8:=zz (show Bld w8 w2.heap.size w2.heap.size (pre++up l j) by rw[q0.out,← List.append_assoc,← List.append_assoc];exact g0);have L8:=LB.of_block L7 (hbl8.block _ hsz2);have l0:=zz (k0.out.trans hbl8);have hs8:w2.heap.size<w8.heap.size:=Nat.lt_of_lt_of_le hs7 hbl8.size;clear g0 hbl8;go_wp2;go_roundw
       case rel=>exact⟨j,by omega,rfl,B8,L8,l0,hs8⟩
       case measure=>simp[intOf]
 ·have HR:=zz (hr.out.trans (show T1 (numOf na la)=([],30) by rw[numOf_bad hv];rfl));clear hr;go_wp2;go_ret2;refine⟨HB.out,?_⟩;rw[HR.out];rfl
end Go.Proofs.YtngpibfakemmhaaGreatDoor
namespace Go.Proofs.YtngpibfakemmhaaGreatDoor
open Go Go.RowKit Dig
theorem itoa_len {z:Int} (h:(dig z.natAbs).length≤600):(Lib.itoa z).length≤5401:=by
 have h1:=(dd_len_dig z.natAbs 600 (by omega)).2 h;by_cases hz:z<0
 ·rw[itoa_min hz];simp;omega
 ·rw[itoa_pos (by omega)];omega
set_option maxRecDepth 100000 in
set_option maxHeartbeats 1000000 in
theorem Int_any (w:World) (va:Value) (na:Bool) (la:List Int) (ha:LR w w.heap.size va na la) (G:Glob w) :
  Calls Tryz.prog 80 #[va] w fun e w'=>Below w.heap.size w w'∧RetI (A1 intZ (numOf na la)) e:=by
 obtain⟨sa,rfl,hsa⟩:=ha;obtain⟨P1,k1,rfl,-⟩:=(show RI _ _ _ _ from hsa);replace hsa:=zz hsa;replace G:=zz G;obtain⟨r,hr⟩:∃ r,r=A1 intZ (numOf na la):=⟨_,rfl⟩;rw[← hr];replace hr:=zz hr;go_enter Tryz.func80,Tryz.ntmps80
 go_wp2_with fail
 refine(Check_any _ _ na la ⟨_,rfl,hsa.out.step (by(repeat' (first | exact Below.refl _ _ | refine Below.drew ?_ | refine Below.alloc ?_ (by first | exact Nat.le_refl _ | (simp;done) | (simp;omega)) _)))⟩).mono ?_;rintro e w2 ⟨c0,c,rfl,hc⟩;have La:LB w2 w.heap.size (.bool na) (.slice P1 la.length k1):=LB.of_block (by(repeat (first | (refine LB.new' ?_;simp;done) | refine LB.alloc ?_ _))) (c0.block _ (by simp));have HB:=zz ((show Below w.heap.size w _ from by(repeat' (first | exact Below.refl _ _ | refine Below.drew ?_ | refine Below.alloc ?_ (by first | exact Nat.le_refl _ | (simp;done) | (simp;omega)) _))).trans (c0.mono (by simp)));have qa0:=La.cell0;have qa1:=La.cell1;clear c0;rcases hc with ⟨hv,rfl⟩ | ⟨hv,rfl⟩
 ·obtain⟨z,hnz,hz0,hz1,hlz⟩:=numOf_valid hv;have HR:=zz (show r=intZ z by rw[hr.out,hnz];rfl);have l0:=zz hnz;have m0:=zz hlz;clear hr hnz hv hz0 hz1 hlz;go_wp2_with fail
  refine(Text_any _ _ na la ⟨_,rfl,hsa.out.step HB.out⟩ (G.out.step HB.out)).mono ?_;rintro e w3 ⟨e0,he⟩;rw[l0.out] at he;have he:e=.returned (.tuple #[.string ⟨(Lib.itoa z).toArray⟩,.int .i64 0]):=he;subst he;obtain⟨s,hs⟩:∃ s:ByteArray,s=⟨(Lib.itoa z).toArray⟩:=⟨_,rfl⟩;rw[← hs];have HS:=zz (show s.data.toList=Lib.itoa z by rw[hs]);have h0:=zz (show s.size≤5401 by rw[Lib.size_eq,HS.out];exact itoa_len m0.out);have a0:=zz (HB.out.trans (e0.mono HB.out.size));clear hs e0 qa0 qa1;by_cases hf:-9223372036854775808≤z∧z≤9223372036854775807
  ·have HZ:=zz (show intZ z=(z,0) by unfold intZ;rw[if_pos hf]);have HA:=zz (show Lib.atoiAll s.data.toList=.ok z by rw[HS.out,atoi_itoa,if_pos hf]);clear hf;go_wp2_with fail
   refine(Atoi_yes s (by have:=h0.out;omega) z HA.out _).mono ?_;rintro e w4 ⟨rfl,b0⟩;have d0:=zz (a0.out.trans (b0.mono a0.out.size));clear b0;go_wp2;go_ret2;refine⟨d0.out,?_⟩;rw[HR.out,HZ.out];rfl
  ·have HZ:=zz (show intZ z=(0,6) by unfold intZ;rw[if_neg hf]);have HA:=zz (show Lib.atoiAll s.data.toList=.range by rw[HS.out,atoi_itoa,if_neg hf]);clear hf;go_wp2_with fail
   refine(Atoi_big s (by have:=h0.out;omega) HA.out _ (G.out.step a0.out)).mono ?_;rintro e w4 ⟨n,N,rfl,b0⟩;have d0:=zz (a0.out.trans (b0.mono a0.out.size));clear b0;go_wp2;go_ret2;refine⟨d0.out,?_⟩;rw[HR.out,HZ.out];rfl
 ·have HR:=zz (hr.out.trans (A1_bad hv));clear hr;go_wp2;go_ret2;refine⟨HB.out,?_⟩;rw[HR.out];rfl
end Go.Proofs.YtngpibfakemmhaaGreatDoor
namespace Go.Proofs.YtngpibfakemmhaaGreatDoor
open Go Go.RowKit Dig
theorem trimPrefix_dash (l:List UInt8):Lib.trimPrefix l [45]=bare l:=by
 unfold Lib.trimPrefix Lib.hasPrefix;cases l with
 | nil=>rfl
 | cons c r=>
  by_cases hc:c=45
  ·subst hc;rw[bare_dash,if_pos (by rw[List.isPrefixOf_iff_prefix];exact⟨r,rfl⟩)];rfl
  ·rw[bare_other r hc,if_neg];rw[List.isPrefixOf_iff_prefix];rintro⟨t,ht⟩;exact hc (List.cons.inj ht).1.symm
theorem bare_len (l:List UInt8):(bare l).length≤l.length:=by
 cases l with
 | nil=>exact Nat.le_refl _
 | cons c r=>
  by_cases hc:c=45
  ·subst hc;rw[bare_dash];simp
  ·rw[bare_other r hc];exact Nat.le_refl _
theorem ba_head {t:ByteArray} {c:UInt8} {r:List UInt8} (ht:t.data.toList=c :: r) (hp:0<t.size):t[0]'hp=c:=by
 obtain⟨⟨l⟩⟩:=t;simp at ht
 subst ht
 rfl
theorem sgn_neg (b:Bool) (n:Nat) (h:0<n):b=decide (sgn b n<0):=by
 cases b
 ·simp[sgn]
 ·simp[sgn];omega
theorem sgn_abs (b:Bool) (n:Nat):(sgn b n).natAbs=n:=by unfold sgn;cases b <;> simp
set_option maxRecDepth 100000 in
set_option maxHeartbeats 2000000 in
theorem Parse_any (w:World) (s:ByteArray) (hs:s.size≤1000000) :
  Calls Tryz.prog 66 #[.string s] w fun e w'=>Below w.heap.size w w'∧RetL w' (parseZ s.data.toList) e:=by
 obtain⟨i0,hi,hz0,hz1,hz2⟩:=info_parts info_int;obtain⟨r,hr⟩:∃ r,r=parseZ s.data.toList:=⟨_,rfl⟩;rw[← hr];replace hr:=zz hr;have L0:=LB.new w (.bool false) (.slice none 0 0);have e0:=zz ((Below.refl w.heap.size w).alloc (Nat.le_refl _) (.cells #[.bool false,.slice none 0 0] 26));have qa0:=L0.cell0;have qa1:=L0.cell1;have qa2:=L0.frozen 0;have qa3:=L0.frozen 1;go_enter Tryz.func66,Tryz.ntmps66
 go_wp2_with fail
 refine(Tryz.strings_TrimPrefix s ⟨#[45]⟩ _).mono ?_;rintro e w1 ⟨rfl,rfl⟩;obtain⟨t,ht⟩:∃ t:ByteArray,t=⟨(Lib.trimPrefix s.data.toList (ByteArray.mk #[45]).data.toList).toArray⟩:=⟨_,rfl⟩;rw[← ht];have htl:t.data.toList=bare s.data.toList:=by rw[ht];exact trimPrefix_dash _
 have hts:t.size≤s.size:=by rw[Lib.size_eq,Lib.size_eq,htl];exact bare_len _
 have HT:=zz htl;clear ht htl;go_wp2_with fail
 ·have h0:t.toList=[]:=by assumption
  (try simp only[Exit.inBlock,Exit.then])
  have HE:r=(0,5):=by rw[hr.out,parseZ_none (canon_empty (by rw[← HT.out,← Lib.toList_data];exact h0))]
  exact end_none rfl L0 e0.out HE rfl rfl
 ·have h0:¬ t.toList=[]:=by assumption
  have H0:=zz (show bare s.data.toList≠[] by rw[← HT.out,← Lib.toList_data];exact h0);refine(TrimS_any t _ (by omega)).mono ?_;rintro e w2 ⟨u,rfl,hu,c0⟩;have L2:=L0.step c0;have a0:=zz (e0.out.trans (c0.mono (by simp)));have HU:=zz hu;clear c0 hu qa0 qa1 qa2 qa3;have qa0:=L2.cell0;have qa1:=L2.cell1;have qa2:=L2.frozen 0;have qa3:=L2.frozen 1;have hp:0<t.size:=by
   rw[Lib.size_eq,HT.out];exact List.length_pos_iff.2 H0.out
  have hti:t.toList.isEmpty=false:=by
   rw[Lib.toList_data,HT.out];have:=H0.out;revert this;cases bare s.data.toList <;> simp
  clear h0;by_cases hd:AllDig (bare s.data.toList)
  ·have hu0:u.toList=[]:=by rw[Lib.toList_data];exact HU.out.2 (by rw[HT.out];exact hd)
   obtain⟨c,rr,hcr⟩:∃ c rr,bare s.data.toList=c :: rr:=by
    have:=H0.out
    revert this
    cases bare s.data.toList with
    | nil=>intro h;exact absurd rfl h
    | cons c rr=>intro _;exact⟨c,rr,rfl⟩
   have hc0:(t[0]'hp)=c:=ba_head (by rw[HT.out];exact hcr) hp;have HD:=zz hd;have k0:=zz hcr;clear hd hcr;by_cases h48:c=48
   ·subst h48;have hc1:(((t[0]'hp).toNat:Nat):Int)=48:=by rw[hc0];rfl
    clear hc0;by_cases hs1:s.data.toList=[48]
    ·have hs2:(s.toList==[48])=true:=by rw[Lib.toList_data,hs1];rfl
     have HE:=zz (show r=(0,0) by rw[hr.out,hs1];exact parseZ_some canon_zero (by decide +kernel));have hsz:t.size≤5400:=by
      have:s.size=1:=by rw[Lib.size_eq,hs1];rfl
      omega
     clear hs1;go_wp2;(try simp only[Exit.inBlock,Exit.then])
     exact end_zero rfl L2 a0.out (Nat.le_refl _) HE.out rfl rfl
    ·have hs2:(s.toList==[48])=false:=by rw[Lib.toList_data];simpa using hs1
     have HE:=zz (show r=(0,5) by rw[hr.out];exact parseZ_none (canon_lead k0.out hs1));clear hs1;go_wp2;(try simp only[Exit.inBlock,Exit.then])
     exact end_zero rfl L2 a0.out (Nat.le_refl _) HE.out rfl rfl
   ·have hc1:¬ (((t[0]'hp).toNat:Nat):Int)=48:=by
     rw[hc0];intro h;exact h48 (UInt8.toNat_inj.1 (by rw[show(48:UInt8).toNat=48 from rfl];omega))
    have hs2:(s.toList==[48])=false:=by
     rw[Lib.toList_data];have:¬ s.data.toList=[48]:=fun e=>by
      have h1:=k0.out;rw[e] at h1;exact h48 (List.cons.inj h1).1.symm
     simpa using this
    have HC:=zz (canon_num k0.out HD.out h48);have u0:=zz (show 0<num (bare s.data.toList) by rw[k0.out];exact num_pos (HD.out c (by rw[k0.out];exact List.mem_cons_self ..)) h48);have q0:=zz (dd_of k0.out HD.out h48 rfl);clear hc0 h48;by_cases hbig:5400<t.size
    ·have hbig':(5400:Int)<t.size:=by omega
     have HE:=zz (show r=(0,6) by
      rw[hr.out];refine parseZ_long HC.out ?_;rw[sgn_abs,← dd_len_dig _ 600 (by omega),q0.out,← HT.out,← Lib.size_eq];omega)
     clear hbig;go_wp2;(try simp only[Exit.inBlock,Exit.then])
     exact end_zero rfl L2 a0.out (Nat.le_refl _) HE.out rfl rfl
    ·have hsm:(t.size:Int)≤5400:=by omega
     clear hbig;obtain⟨T,n0⟩:∃ T,T=bare s.data.toList:=⟨_,rfl⟩;obtain⟨z,hz⟩:∃ z,z=sgn (decide (bare s.data.toList≠s.data.toList)) (num (bare s.data.toList)):=⟨_,rfl⟩;have hza:z.natAbs=num T:=by rw[hz,sgn_abs,n0]
     have hlen:(dig (num T)).length≤600:=by
      rw[n0,← dd_len_dig _ 600 (by omega),q0.out,← HT.out,← Lib.size_eq];omega
     have HE:=zz (show r=(z,0) by rw[hr.out,hz];exact parseZ_some HC.out (by rw[← hz,hza];exact hlen));have HQ:=zz (show(!(t.toList==s.toList))=decide (z<0) by
      rw[hz,← sgn_neg _ _ u0.out,Lib.toList_data,Lib.toList_data,HT.out];by_cases hb:bare s.data.toList=s.data.toList <;> simp[hb])
     have v0:=zz (show t.data.toList=T by rw[HT.out,n0]);have r0:=zz (show AllDig T by rw[n0];exact HD.out);have C0:=zz (show ∃ c rr,T=c :: rr∧c≠48 from⟨c,rr,by rw[n0];exact k0.out,fun e=>hc1 (by rw[ba_head (t:=t) (by rw[HT.out];exact k0.out) hp,e];rfl)⟩);have D0:=zz hza;have E0:=zz hlen;have htn:t.size=T.length:=by rw[Lib.size_eq,v0.out]
     have s0:=zz htn;clear hr HT HD k0 HC u0 q0 hz hza hlen n0 htn;go_wp2;generalize (!(t.toList==s.toList))=q at *
     have La:=L2.alloc (.cells #[.bool q,.slice none 0 0] 26);have Lb:=LB.new w2 (.bool q) (.slice none 0 0);have f0:=a0.out.alloc a0.out.size (.cells #[.bool q,.slice none 0 0] 26);have hsz:w.heap.size<w2.heap.size:=L2.lt;have w0:=zz (show w2.heap.size+1≤(w2.alloc (.cells #[.bool q,.slice none 0 0] 26)).heap.size by simp);clear L2 a0 qa0 qa1 qa2 qa3 hu0 HU hti hc1 hs2;go_loopw [6] (fun i wr=>∃ (x:Int) (ds:List Nat) (v:Value),i=.int .i64 x∧-9≤x∧x≤t.size∧Hid (dig (num T)=ds++dig (num (T.take x.toNat)))∧Hid (ds.length≤600)∧LB wr w.heap.size (.bool false) (.slice none 0 0)∧LB wr w2.heap.size (.bool q) v∧Hid (OwnV wr (w2.heap.size+1) v (ni ds))∧Hid (w2.heap.size+1≤wr.heap.size)∧Below w.heap.size w wr) (fun i _=>(intOf i).toNat)
     case atStart=>exact⟨_,[],_,rfl,by omega,Int.le_refl _,zz (by rw[Int.toNat_natCast,s0.out,List.take_length];rfl),zz (by simp),La,Lb,zz (OwnV.nil _ _),w0,f0⟩
     case round=>
      clear La Lb f0 w0;obtain⟨x,ds,v,rfl,hx0,hx1,hd,hlen,L0,L1,ho,hsz',hbw⟩:=hrel;by_cases hxp:x≤0
      ·have F0:=zz (show ni (dig z.natAbs)=ni ds by rw[D0.out,hd.out,show x.toNat=0 by omega];simp[num,dig_zero]);have HB:=zz hbw;have G0:=zz ho.out.ri;have hri:=ho.out.ri;obtain⟨A,c,rfl,-⟩:=hri;have qa0:=L1.cell0;have qa1:=L1.cell1;have qb0:=L0.cell0;have qb1:=L0.cell1;have qb2:=L0.frozen 0;have qb3:=L0.frozen 1;clear hbw hd hlen hx0;go_wp2;(try simp only[Exit.inBlock,Exit.then])
       exact end_put rfl L0 HB.out (Nat.le_refl _) (by rw[F0.out];exact G0.out) HQ.out HE.out rfl rfl
      ·obtain⟨e,rfl⟩:∃ e:Nat,x=e:=⟨x.toNat,by omega⟩;have he0:0<e:=by omega
       have heT:e≤t.size:=by omega
       have hmx:max ((e:Int)-9) 0=((e-9:Nat):Int):=by omega
       have HB:=zz hbw;clear hbw hxp hx0;go_wp2_with fail
       have hsl:(t.extract (e-9) e).data.toList=(T.take e).drop (e-9):=by rw[Lib.extract_data,v0.out,List.drop_take]
       have hll:((T.take e).drop (e-9)).length=e-(e-9):=by have:=s0.out;simp;omega
       have hne:(T.take e).drop (e-9)≠[]:=fun h=>by rw[h] at hll;simp at hll;omega
       have hal:AllDig ((T.take e).drop (e-9)):=(r0.out.take e).drop (e-9);have hn9:num ((T.take e).drop (e-9))<1000000000:=Nat.lt_of_lt_of_le (num_lt hal) (by
        rw[hll];exact Nat.pow_le_pow_right (show 0<10 by omega) (show e-(e-9)≤9 by omega))
       have hat:Lib.atoiAll (t.extract (e-9) e).data.toList=.ok ((num ((T.take e).drop (e-9)):Nat):Int):=by rw[hsl,atoi_dig hne hal,if_pos (by omega)]
       have hpc:dig (num (T.take e))=num ((T.take e).drop (e-9)) :: dig (num (T.take (e-9))):=by
        refine dig_piece r0.out (by have:=s0.out;omega) ?_;obtain⟨c,rr,hT,hc⟩:=C0.out;have h1:T.take e=c :: rr.take (e-1):=by rw[hT];cases e with
         | zero=>omega
         | succ e=>rfl
        rw[h1];exact Nat.ne_of_gt (num_pos (r0.out c (by rw[hT];exact List.mem_cons_self ..)) hc)
       have hsz9:(t.extract (e-9) e).size≤9223372036854775806:=by rw[Lib.size_eq,hsl,hll];omega
       obtain⟨d,hdd⟩:∃ d,d=num ((T.take e).drop (e-9)):=⟨_,rfl⟩;rw[← hdd] at hn9 hat hpc;have I0:=zz hat;have B0:=zz hsz9;have x0:=zz hpc;have hdi:(d:Int)<1000000000:=by omega
       clear hsl hll hne hal hn9 hat hpc hsz9 hdd;refine(Atoi_yes (t.extract (e-9) e) B0.out _ I0.out _).mono ?_;rintro en w5 ⟨rfl,b0⟩;have L05:=L0.step b0;have L15:=L1.step b0;have o0:=zz (OwnV.step ho.out b0);have d0:=zz (HB.out.trans (b0.mono HB.out.size));have y0:=zz (Nat.le_trans hsz'.out b0.size);clear b0 L0 L1 ho HB hsz' hmx;have qa0:=L15.cell0;have qa1:=L15.cell1;have hown:=o0.out.alloc (.cells #[.int .i64 (d:Int)] 3);have hl6:=hlen.out;go_wp2_with (at_builtin;refine wpList_append_own_at _ rfl _ _ 24 rfl (w2.heap.size+1) 3 i0 (.int .i64 0) 1 8 Tryz.underlying24 hi hz0 hz1 hz2 rfl (by decide) v (ni ds).length ((ni ds).map (Value.int .i64)) rfl hown ⟨w5.heap.size,0,none⟩ 1 1 [.int .i64 (d:Int)] rfl rfl (cell_one_new _ _ _) (by intro u hu;simp at hu;subst hu;rfl) (by rw[ni_length];unfold maxLen;omega) (by rw[ni_length];omega) (by have:=y0.out;simp;omega) ?_)
       intro v' w' hown' hgrow hne hblk;have hv':OwnV w' (w2.heap.size+1) v' (ni (ds++[d])):=by
        have h:=hown';rw[OwnV,ni_length,List.length_append];rw[ni_length] at h;have e:(ni (ds++[d])).map (Value.int .i64)=(ni ds).map (Value.int .i64)++[.int .i64 (d:Int)]:=by simp[ni]
        rw[e];exact h
       have hrow:∀ b,b<w2.heap.size+1→v.ownBlock≠some b:=fun b hb he=>by
        have:=(World.ownsRow.lt o0.out b he).1
        omega
       have M0:=(L05.alloc (.cells #[.int .i64 (d:Int)] 3)).grown hgrow (hrow _ (by omega));have M1:=(L15.alloc (.cells #[.int .i64 (d:Int)] 3)).grown hgrow (hrow _ (by omega));have g0:=zz ((d0.out.alloc d0.out.size (.cells #[.int .i64 (d:Int)] 3)).grown hgrow (by have:=d0.out.size;simp;omega) (fun g he=>by have:=(World.ownsRow.lt o0.out g he).1;omega));have J0:=zz (show w2.heap.size+1≤w'.heap.size by have h1:=hgrow.size;have h2:=y0.out;simp at h1;omega);have HV:=zz (hv'.setBelow (p:=⟨w2.heap.size,1,none⟩) (by simp) v');have N0:=M0.far (p:=⟨w2.heap.size,1,none⟩) (by simp;omega) v';have N1:=M1.set1 v';have j0:=zz (g0.out.setCell (p:=⟨w2.heap.size,1,none⟩) (by simp;omega) v');clear hown' hgrow hne hblk hown qa0 qa1 L05 L15 o0;have qa2:=M1.frozen 1;have qa1:=M1.cell1;have K0:=zz (show(ds++[d]).length≤600 by
        have h:=E0.out;rw[hd.out,Int.toNat_natCast,x0.out] at h;simp at h ⊢
        omega)
       have O0:=zz (show dig (num T)=(ds++[d])++dig (num (T.take ((e:Int)-9).toNat)) by
        rw[show((e:Int)-9).toNat=e-9 by omega,hd.out,Int.toNat_natCast,x0.out];simp)
       rcases hv'.form with ⟨_,he⟩ | ⟨g,cap,rfl,_⟩
       ·simp[ni] at he
       ·clear hv' hrow M0 M1;go_wp2;go_roundw
        case rel=>exact⟨(e:Int)-9,ds++[d],_,rfl,by omega,by omega,O0,K0,N0,N1,HV,zz (by have:=J0.out;simpa[World.setCell] using this),j0.out⟩
        case measure=>simp only[intOf];omega
  ·have hu0:¬ u.toList=[]:=by rw[Lib.toList_data];exact fun e=>hd (by rw[← HT.out];exact HU.out.1 e)
   have HE:=zz (show r=(0,5) by rw[hr.out,parseZ_none (canon_letter hd)]);clear hd;go_wp2;(try simp only[Exit.inBlock,Exit.then])
   exact end_zero rfl L2 a0.out (Nat.le_refl _) HE.out rfl rfl
end Go.Proofs.YtngpibfakemmhaaGreatDoor
namespace Go.Proofs.YtngpibfakemmhaaGreatDoor
open Go Go.RowKit Dig
def litB (s:List UInt8) (z:Int):Bool:=
 (s==[48]&&z==0)||((bare s).all (fun c=>48≤c.toNat&&c.toNat≤57)&&(match bare s with | []=>false | c :: _=>c != 48)&&z==sgn (decide (bare s≠s)) (num (bare s)))
theorem lit {s:List UInt8} {z:Int} (h:litB s z=true):canon s=some z:=by
 unfold litB at h;rw[Bool.or_eq_true] at h;rcases h with h | h
 ·simp at h
  rw[h.1,h.2];exact canon_zero
 ·rw[Bool.and_eq_true,Bool.and_eq_true] at h;obtain⟨⟨h1,h2⟩,h3⟩:=h;have ha:AllDig (bare s):=by
   intro c hc;have:=List.all_eq_true.1 h1 c hc;simp at this
   exact this
  have hz:=eq_of_beq h3;rw[hz];cases hb:bare s with
  | nil=>rw[hb] at h2;cases h2
  | cons c r=>
   rw[hb] at h2;rw[← hb];exact canon_num hb ha (by simpa using h2)
theorem lit_itoa {s:List UInt8} {z:Int} (h:litB s z=true):Lib.itoa z=s:=canon_some (lit h)
theorem small_len {z:Int} (h:z.natAbs<1000000000000000000000000000):(dig z.natAbs).length≤600:=Nat.le_trans (dig_len_le.2 (show z.natAbs<bp 3 from h)) (by omega)
theorem lit_parse {s:List UInt8} {z:Int} (h:litB s z=true) (hz:z.natAbs<1000000000000000000000000000):parseZ s=(z,0):=parseZ_some (lit h) (small_len hz)
end Go.Proofs.YtngpibfakemmhaaGreatDoor
namespace Go.Proofs.YtngpibfakemmhaaGreatDoor
open Go Go.RowKit Dig
end Go.Proofs.YtngpibfakemmhaaGreatDoor
namespace Go.Proofs.YtngpibfakemmhaaGreatDoor
open Go Go.RowKit Dig
section
variable {w:World} {va vb:Value} {a b:Int}
theorem Int_num (ha:LV w w.heap.size va a) (fa:Fit a) (G:Glob w) :
  Calls Tryz.prog 80 #[va] w fun e w'=>Below w.heap.size w w'∧e=.returned (.tuple #[.int .i64 (intZ a).1,.int .i64 (intZ a).2]):=by
 refine(Int_any w va _ _ ha G).mono fun e w' ⟨hw,h⟩=>⟨hw,?_⟩
 rw[numOf_dig fa] at h;exact h
theorem Text_num (ha:LV w w.heap.size va a) (fa:Fit a) (G:Glob w) :
  Calls Tryz.prog 63 #[va] w fun e w'=>Below w.heap.size w w'∧e=.returned (.tuple #[.string ⟨(Lib.itoa a).toArray⟩,.int .i64 0]):=by
 refine(Text_any w va _ _ ha G).mono fun e w' ⟨hw,h⟩=>⟨hw,?_⟩
 rw[numOf_dig fa] at h;exact h
end
end Go.Proofs.YtngpibfakemmhaaGreatDoor
namespace Go.Proofs.YtngpibfakemmhaaGreatDoor
open Go Go.RowKit Dig
section
variable {w:World} {v:Value} {z:Int}
end
end Go.Proofs.YtngpibfakemmhaaGreatDoor
namespace Go.Proofs.YtngpibfakemmhaaGreatDoor
open Go Go.RowKit Dig
end Go.Proofs.YtngpibfakemmhaaGreatDoor
