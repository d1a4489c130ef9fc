/- Texts put together: The package-level variables of the library that the walks read: kept by every call that turns nothing of what was there. strings.Builder's methods, strings.Trim, strings.Repeat, strconv.Itoa and Atoi at this translation, in the words of this work. long.Text. long.Int. long.Parse. The law package's helpers: is, fails, of, size; literal texts. The law package's divides, size. The operations at valid Longs: what they answer, in plain numbers. Plain: how many digits sums, products, roots, divisors have. The law package's alike at two equal results. -/
import Derived.Test.YtkhljkiehohckaaGreatDoorProg
import Derived.Lib.LaidTab
import Derived.Lib.ItoaNum
import Derived.Below
import Derived.Test.YtkhljkiehohckaaGreatDoorShelf
import Derived.Test.YtkhljkiehohckaaGreatDoorLow
import Derived.WalkKit
import Derived.Lib.SlTrimSet
import Derived.Test.YtkhljkiehohckaaGreatDoorOps
import Derived.Deep.RegionWith
namespace Go.Proofs.YtkhljkiehohckaaGreatDoor
open Go Go.RowKit
theorem var_keep {P:Program} {w w':World} {name:String} {cs:Array Value} (h:w.var? P name=some cs) (hb:Below w.heap.size w w'):w'.var? P name=some cs:=by
 unfold World.var? at h ⊢;cases hg:P.globalNamed name with
 | none=>rw[hg] at h;simp at h
 | some g=>
  rw[hg] at h;simp only[Option.bind_some] at h ⊢
  have hlt:g<w.heap.size:=by
   rcases Nat.lt_or_ge g w.heap.size with h1 | h1
   ·exact h1
   ·rw[Array.getElem?_eq_none h1] at h;simp at h
  rw[hb.block g hlt];exact h
structure Glob (w:World):Prop where
 pow:Lib.TabIs Tryz.prog w "internal/strconv.uint64pow10" .u64 Lib.pow10Tab
 rng:∃ tp p,w.var? Tryz.prog "strconv.ErrRange"=some #[.iface tp p]
theorem Glob.step {w w':World} (h:Glob w) (hb:Below w.heap.size w w'):Glob w':=
 ⟨var_keep h.pow hb,let ⟨tp,p,hv⟩:=h.rng;⟨tp,p,var_keep hv hb⟩⟩
end Go.Proofs.YtkhljkiehohckaaGreatDoor
namespace Go.Proofs.YtkhljkiehohckaaGreatDoor
open Go Go.RowKit Go.Shelf Dig
def Bld (w:World) (B b:Nat) (l:List UInt8):Prop:=Lib.IsBuilderF 106 5 B b (Lib.byteCells l) w
theorem Bld.step {w w':World} {B b:Nat} {l:List UInt8} (h:Bld w B b l) (hb:Below w.heap.size w w'):Bld w' B b l:=by
 have one:∀ p,Lib.BuilderAtF 106 5 B b p (Lib.byteCells l) w→Lib.BuilderAtF 106 5 B b p (Lib.byteCells l) w':=by
  intro p h;have hlt:=h.lt;obtain⟨hB,v,hbk,hown,hne⟩:=h;exact⟨hB,v,(hb.block b hlt).trans hbk,hown.kept (row:=none) ⟨hb.os,hb.tape,hb.output,hb.size,fun i hi _=>hb.block i hi⟩ (by cases hv:v.ownBlock <;> simp),hne⟩
 exact h.elim (fun h=>.inl (one _ h)) (fun h=>.inr (one _ h))
theorem Bld.new (w:World) (B:Nat) (hB:B≤w.heap.size):Bld (w.alloc (.cells #[.pointer none,.slice none 0 0] 106)) B w.heap.size []:=
 .inl ⟨hB,.slice none 0 0,heap_alloc_new w _,⟨rfl,.inl ⟨rfl,rfl⟩⟩,by simp[Value.ownBlock]⟩
theorem info_byte:(Tryz.prog.info? 5).map (fun i=>(i.zero,i.size,i.bytes))=some (some (.int .u8 0),1,1):=by kernel_rfl
theorem lays_copy:Go.Proofs.Lays.n240 Tryz.prog Tryz.lays105_ren:={ Tryz.lays105 with }
theorem lays_wstr:Go.Proofs.Lays.n166 Tryz.prog Tryz.lays105_ren:={ Tryz.lays105 with }
theorem copyCheck_k (B b:Nat) (bs:List Value) (w:World) (h:Lib.IsBuilderF 106 5 B b bs w) :
  Calls Tryz.prog 109 #[.pointer (some ⟨b,0,none⟩)] w fun e w'=>e=.returned (.tuple #[])∧(Lib.BuilderAtF 106 5 B b (.pointer (some ⟨b,0,none⟩)) bs w'∧Below B w w'∧Lib.OthersKept 5 (some b) w w'):=
 Any.Builder_copyCheck_k lays_copy Tryz.Builder_Extra_105.toX72 B b bs w h
theorem WriteString_any (B b:Nat) (l m:List UInt8) (s:ByteArray) (w:World) (h:Bld w B b l) (hs:s.data.toList=m) (hlen:l.length+m.length≤140737488355328) (hBw:B≤w.heap.size) :
  Calls Tryz.prog 70 #[.pointer (some ⟨b,0,none⟩),.string s] w fun e w'=>e=.returned (.tuple #[.int .i64 s.size,.nilIface])∧Bld w' B b (l++m)∧Below B w w':=by
 subst hs;have h1:=Any.Builder_WriteString_k lays_wstr Tryz.Builder_Extra_105 B b (Lib.byteCells l) s w h (by rw[Lib.byteCells_length,Lib.size_eq];exact hlen) hBw;refine h1.mono fun e w' ⟨he,hb,hbl,_⟩=>⟨he,?_,hbl⟩
 unfold Bld;rw[Lib.byteCells_append,← Lib.strCells_eq];exact .inr hb
set_option maxHeartbeats 2000000 in
set_option maxRecDepth 100000 in
theorem WriteByte_any (B b:Nat) (l:List UInt8) (x:UInt8) (c:Int) (hc:c=x.toNat) (w:World) (h:Bld w B b l) (hlen:l.length+1≤140737488355328) (hBw:B≤w.heap.size) :
  Calls Tryz.prog 128 #[.pointer (some ⟨b,0,none⟩),.int .u8 c] w fun e w'=>e=.returned .nilIface∧Bld w' B b (l++[x])∧Below B w w':=by
 have HL:=zz (show(Lib.byteCells l).length+1≤140737488355328 by rw[Lib.byteCells_length];exact hlen);have HX:=zz (show Lib.byteCells (l++[x])=Lib.byteCells l++[.int .u8 c] by rw[Lib.byteCells_append,hc];rfl);unfold Bld at h ⊢;rw[HX.out];generalize Lib.byteCells l=bs at *
 clear HX hc hlen;obtain⟨i0,hi,hz0,hz1,hz2⟩:=info_parts info_byte;go_enter Tryz.func128,Tryz.ntmps128
 go_wp2_with fail
 refine(copyCheck_k B b bs _ h).mono ?_;rintro e w1 ⟨rfl,h1,a0,_⟩;obtain⟨hB,v,hbk,hown,hne⟩:=h1;have c0:w1.cell? ⟨b,0,none⟩=some (.pointer (some ⟨b,0,none⟩)):=by rw[Lib.cell_of_heap hbk];rfl
 have c1:w1.cell? ⟨b,1,none⟩=some v:=by rw[Lib.cell_of_heap hbk];rfl
 go_wp2_with (at_builtin;refine wpList_append_ownF _ rfl _ _ 71 rfl B 5 i0 (.int .u8 0) 1 1 Tryz.underlying71 hi hz0 hz1 hz2 rfl (by decide) _ _ _ rfl (hown.alloc _) ⟨w1.heap.size,0,none⟩ 1 1 [.int .u8 c] rfl rfl ?c1 ?c2 ?c3 ?c4 ?c5 ?_)
 case c1=>
  intro j u hj
  match j,hj with
  | 0,hj=>simp at hj;subst hj;simp[Addr.add]
 case c2=>intro u hu;simp at hu;subst hu;rfl
 case c3=>have:=HL.out;unfold maxLen;omega
 case c4=>have:=HL.out;omega
 case c5=>have:=a0.size;simp;omega
 intro v' w2 hown' hgrow _;have hlt:b<w1.heap.size:=by
  rcases Nat.lt_or_ge b w1.heap.size with h' | h'
  ·exact h'
  ·simp[Array.getElem?_eq_none h'] at hbk
 have b0:w2.heap[b]?=some (.cells #[.pointer (some ⟨b,0,none⟩),v] 106 (0,0)):=by
  rw[hgrow.block b (by simp;omega) (fun e=>hne e.symm),Lib.alloc_old w1 _ b hlt];exact hbk
 have d0:w2.cell? ⟨b,0,none⟩=some (.pointer (some ⟨b,0,none⟩)):=by rw[Lib.cell_of_heap b0];rfl
 have d1:w2.cell? ⟨b,1,none⟩=some v:=by rw[Lib.cell_of_heap b0];rfl
 have f1:w2.frozen? ⟨b,1,none⟩=false:=Lib.frozen_of_heap b0 1;obtain⟨g,cap,rfl⟩:∃ g cap,v'=.slice (some ⟨g,0,none⟩) (bs.length+1) cap:=by
  rcases hown'.2 with ⟨_,h0⟩ | ⟨g,cap,cur,fz,hv,_⟩
  ·omega
  ·exact⟨g,cap,hv⟩
 go_wp2;go_ret;refine⟨rfl,.inr ?_,?_⟩
 ·exact Lib.BuilderAtF.put (T:=106) (e:=5) hB b0 (bs':=bs++[.int .u8 c]) (by simpa using hown') (by decide)
 ·exact((a0.alloc (by have:=a0.size;omega) _).grown hgrow (by have:=a0.size;simp;omega) (fun k hk=>(hown.lt k hk).1)).setCell (p:=⟨b,1,none⟩) hB _
theorem String_any (B b:Nat) (l:List UInt8) (w:World) (h:Bld w B b l) (h0:l≠[]) :
  Calls Tryz.prog 72 #[.pointer (some ⟨b,0,none⟩)] w fun e w'=>e=.returned (.string ⟨l.toArray⟩)∧Below B w w':=
 (Tryz.Builder_String_k B b l w h h0).mono fun _ _ ⟨he,_,hb,_⟩=>⟨he,hb⟩
theorem Repeat_zeros (c:Nat) (w:World) (hc:c≤1000000) :
  Calls Tryz.prog 34 #[.string ⟨#[48]⟩,.int .i64 c] w fun e w'=>e=.returned (.string ⟨(List.replicate c 48).toArray⟩)∧Below w.heap.size w w':=by
 have h:=Tryz.strings_Repeat ⟨#[48]⟩ c w (by omega) (by show 1*c≤_;omega);have e:Lib.repeatL (ByteArray.mk #[48]).data.toList c=List.replicate c 48:=by
  have:=Lib.repeatL_replicate 48 1 c;rw[Nat.mul_one] at this;exact this
 rwa [e] at h
theorem below_grow (w:World) (k:Nat) (os:Array Obj):Below w.heap.size w (Sort.grow (w.drewN k) os):=
 ⟨rfl,rfl,rfl,by simp[Sort.grow],fun i hi=>by
  show(w.heap++os)[i]?=_
  rw[Array.getElem?_append_left hi]⟩
theorem Itoa_any (n:Int) (h0:-9223372036854775808≤n) (h1:n≤9223372036854775807) (w:World) (G:Glob w) :
  Calls Tryz.prog 129 #[.int .i64 n] w fun e w'=>e=.returned (.string ⟨(Lib.itoa n).toArray⟩)∧Below w.heap.size w w':=
 (Tryz.strconv_Itoa n h0 h1 w G.pow).mono fun _ _ ⟨he,k,os,hw⟩=>⟨he,hw▸below_grow w k os⟩
theorem Atoi_yes (s:ByteArray) (hs:s.size≤9223372036854775806) (v:Int) (h:Lib.atoiAll s.data.toList=.ok v) (w:World) :
  Calls Tryz.prog 93 #[.string s] w fun e w'=>e=.returned (.tuple #[.int .i64 v,.nilIface])∧Below w.heap.size w w':=
 (Tryz.strconv_Atoi_ok s hs v h w).mono fun _ _ ⟨he,hw⟩=>⟨he,by
  rcases hw with rfl | ⟨t,rfl⟩
  ·exact Below.refl _ _
  ·exact Lib.bytesWorld_below _ _ _⟩
theorem Atoi_big (s:ByteArray) (hs:s.size≤281474976710656) (h:Lib.atoiAll s.data.toList=.range) (w:World) (G:Glob w) :
  Calls Tryz.prog 93 #[.string s] w fun e w'=>∃ n N,e=.returned (.tuple #[.int .i64 n,.iface 178 (.pointer (some ⟨N,0,none⟩))])∧Below w.heap.size w w':=by
 obtain⟨tp,p,hv⟩:=G.rng;exact(Tryz.strconv_Atoi_range_var s hs h tp p w hv).mono fun _ _ ⟨N,he,_,_,hb⟩=>⟨_,N,he,hb⟩
end Go.Proofs.YtkhljkiehohckaaGreatDoor
namespace Go.Proofs.YtkhljkiehohckaaGreatDoor
open Go Go.RowKit Dig
def RetS (r:List UInt8 × Int) (e:Ending):Prop:=e=.returned (.tuple #[.string ⟨r.1.toArray⟩,.int .i64 r.2])
def up (l:List Nat) (k:Nat):List UInt8:=if k=l.length then [] else Lib.decDigits (val (l.drop k))
theorem up_len {l:List Nat} (h:Norm l) {k:Nat} (hl:l.length≤600):(up l k).length≤5400:=by
 unfold up
 split
 ·simp
 ·rw[show 5400=9*600 from rfl,dd_len_dig _ 600 (by omega),dig_len_le];exact Nat.lt_of_lt_of_le (val_lt (h.1.drop k)) (bp_le (by simp;omega))
theorem up_last {l:List Nat} (h:Norm l) {k:Nat} (hk:k+1=l.length):up l k=up l (k+1)++Lib.decDigits (l.getD k 0):=by
 unfold up;rw[if_neg (by omega),if_pos hk,text_step h (by omega),if_pos hk];rfl
theorem up_more {l:List Nat} (h:Norm l) {k:Nat} (hk:k<l.length) (hn:k+1≠l.length):up l k=up l (k+1)++List.replicate (9-(Lib.decDigits (l.getD k 0)).length) 48++Lib.decDigits (l.getD k 0):=by
 unfold up;rw[if_neg (by omega),if_neg hn,text_step h hk,if_neg hn,List.append_assoc]
theorem up_all {l:List Nat} (hn:l≠[]):up l 0=Lib.decDigits (val l):=by
 unfold up;rw[if_neg (fun e=>hn (List.eq_nil_of_length_eq_zero e.symm)),List.drop_zero]
theorem up_top (l:List Nat):up l l.length=[]:=by unfold up;rw[if_pos rfl]
set_option maxRecDepth 100000 in
set_option maxHeartbeats 2000000 in
theorem Text_any (w:World) (va:Value) (na:Bool) (la:List Int) (ha:LR w w.heap.size va na la) (G:Glob w) :
  Calls Tryz.prog 92 #[va] w fun e w'=>Below w.heap.size w w'∧RetS (T1 (numOf na la)) e:=by
 obtain⟨sa,rfl,hsa⟩:=ha;obtain⟨P1,k1,rfl,-⟩:=(show RI _ _ _ _ from hsa);replace hsa:=zz hsa;replace G:=zz G;obtain⟨r,hr⟩:∃ r,r=T1 (numOf na la):=⟨_,rfl⟩;rw[← hr];replace hr:=zz hr;go_enter Tryz.func92,Tryz.ntmps92
 go_wp2_with fail
 refine(Check_any _ _ na la ⟨_,rfl,hsa.out.step (by(repeat' (first | exact Below.refl _ _ | refine Below.drew ?_ | refine Below.alloc ?_ (by first | exact Nat.le_refl _ | (simp;done) | (simp;omega)) _)))⟩).mono ?_;rintro e w2 ⟨j0,c,rfl,hc⟩;have La:LB w2 w.heap.size (.bool na) (.slice P1 la.length k1):=LB.of_block (by(repeat (first | (refine LB.new' ?_;simp;done) | refine LB.alloc ?_ _))) (j0.block _ (by simp));have HB:=zz ((show Below w.heap.size w _ from by(repeat' (first | exact Below.refl _ _ | refine Below.drew ?_ | refine Below.alloc ?_ (by first | exact Nat.le_refl _ | (simp;done) | (simp;omega)) _))).trans (j0.mono (by simp)));have qa0:=La.cell0;have qa1:=La.cell1;clear j0;rcases hc with ⟨hv,rfl⟩ | ⟨hv,rfl⟩
 ·obtain⟨z,hnz,hz0,hz1,hlz⟩:=numOf_valid hv;have HR:=zz (show r=(Lib.itoa z,0) by rw[hr.out,hnz];rfl);have hn:=dig_norm z.natAbs;have hvz:=val_dig z.natAbs;generalize dig z.natAbs=l at *
  have hll:la.length=l.length:=by rw[hz1,ni_length]
  have HL:=zz hll;have HN:=zz hn;have HV:=zz hvz;have hri:=hsa.out.step HB.out;rw[hz1,ni_length,← hll] at hri;have hL6:la.length≤600:=by omega
  clear hr hnz hv hsa hn hvz hz1 hll hlz;generalize la.length=L at *
  by_cases hz:z=0
  ·have h0:L=0:=by
    rw[HL.out];have h1:=HV.out;rw[hz] at h1;rw[(norm_zero HN.out).1 h1];rfl
   have HZ:=zz hz;subst h0;clear hz;go_wp2;go_ret2;refine⟨HB.out,?_⟩;rw[HR.out,HZ.out,show Lib.itoa 0=[48] from dd_zero];rfl
  ·have hlne:l≠[]:=fun e=>hz (by have:=HV.out;rw[e] at this;simp[val] at this;omega)
   have hL0:0<L:=by rw[HL.out];exact List.length_pos_iff.2 hlne
   have hL1:((L:Int)==0)=false:=by rw[beq_eq_false_iff_ne];omega
   obtain⟨A',c',hv',hcc,hcc',hA⟩:=RN.cell (show RN w2 w2.heap.size (.slice P1 L k1) l from hri);obtain⟨h1,-,h3⟩:P1=A'∧L=l.length∧k1=c':=by simpa using hv'
   subst h1 h3;obtain⟨g,off,rfl,hg,hx⟩:=hA (by rw[← HL.out];exact hL0);have HX:Hid (∀ j,j<L→w2.cell? ⟨g,off+j,none⟩=some (.int .i64 ((l.getD j 0:Nat):Int))):=zz (fun j hj=>by
    have h1:j<l.length:=by rw[← HL.out];exact hj
    rw[hx j h1,getD_get h1])
   have D0:=zz (G.out.step HB.out);have w0:=zz hlne;have hLk:L≤k1:=by rw[HL.out];exact hcc
   clear hv' hcc hA hx hri hz hlne;have hsz2:w.heap.size<w2.heap.size:=La.lt;have B0:=zz (Bld.new w2 w2.heap.size (Nat.le_refl _));have L3:=La.alloc (.cells #[.pointer none,.slice none 0 0] 106);have i0:=zz ((Below.refl w2.heap.size w2).alloc (Nat.le_refl _) (.cells #[.pointer none,.slice none 0 0] 106));have u0:w2.heap.size<(w2.alloc (.cells #[.pointer none,.slice none 0 0] 106)).heap.size:=by simp
   obtain⟨pre,hpre⟩:∃ pre:List UInt8,pre=if na then [45] else []:=⟨_,rfl⟩
   have hpl:pre.length≤1:=by rw[hpre];split <;> simp
   have HP:=zz (show Lib.itoa z=pre++up l 0 by
    rw[hpre,hz0,up_all w0.out,HV.out];by_cases hn:z<0
    ·rw[if_pos (by simpa using hn),itoa_min hn];rfl
    ·rw[if_neg (by simpa using hn),itoa_pos (by omega)];rfl)
   have E0:=zz hpre;clear hpre hz0;cases na with
   | false=>
    have t0:=zz (show Bld (w2.alloc (.cells #[.pointer none,.slice none 0 0] 106)) w2.heap.size w2.heap.size (pre++up l L) by rw[E0.out,HL.out,up_top];exact B0.out);have L4:=L3;have e0:=i0;have hs4:=u0;clear B0 L3 i0 u0;go_wp2;clear La qa0 qa1;go_loopw [6] (fun i wr=>∃ k:Nat,k≤L∧i=.int .i64 ((k:Int)-1)∧Hid (Bld wr w2.heap.size w2.heap.size (pre++up l k))∧LB wr w.heap.size (.bool false) (.slice (some ⟨g,off,none⟩) L k1)∧Hid (Below w2.heap.size w2 wr)∧w2.heap.size<wr.heap.size) (fun i _=>(intOf i+1).toNat)
    case atStart=>exact⟨L,Nat.le_refl _,rfl,t0,L4,e0,hs4⟩
    case round=>
     clear t0 L4 e0 hs4;obtain⟨k,hk,rfl,hbld,Lr,hbw,hsr⟩:=hrel;have x0:=zz (HB.out.trans (hbw.out.mono HB.out.size));rcases k with _ | j
     ·rw[show((0:Nat):Int)-1=-1 from rfl];have y0:=zz (show Bld wr w2.heap.size w2.heap.size (Lib.itoa z) by rw[HP.out];exact hbld.out);have z0:=zz (show Lib.itoa z≠[] by rw[HP.out,up_all w0.out];exact fun e=>dd_ne _ (List.append_eq_nil_iff.1 e).2);clear hbld;go_wp2_with fail
      refine(String_any _ _ (Lib.itoa z) _ y0.out z0.out).mono ?_;rintro e w5 ⟨rfl,a0⟩;have c0:=zz (x0.out.trans (a0.mono (HB.out.size)));clear a0;go_wp2;go_ret2;refine⟨c0.out,?_⟩;rw[HR.out];rfl
     ·rw[show((j+1:Nat):Int)-1=(j:Int) by omega];have hjL:(j:Int)<L:=by omega
      have qr1:=Lr.cell1;have hx1:=(hbw.out.cell (p:=⟨g,off+j,none⟩) (Nat.lt_of_lt_of_le hg (Nat.le_refl _))).trans (HX.out j (by omega));obtain⟨d,hd⟩:∃ d,d=l.getD j 0:=⟨_,rfl⟩;rw[← hd] at hx1;have hdb:(d:Int)<1000000000:=by have:=HN.out.1.getD j;rw[← hd] at this;omega
      have HD:=zz hd;have hlast:j+1=L∨j+1<L:=by omega
      clear hd;go_wp2_with fail
      refine(Itoa_any _ (by omega) (by omega) _ (D0.out.step (hbw.out))).mono ?_;rintro e w5 ⟨rfl,a0⟩;obtain⟨s,hs⟩:∃ s:ByteArray,s=⟨(Lib.itoa (d:Int)).toArray⟩:=⟨_,rfl⟩;rw[← hs];have hsd:s.data.toList=Lib.decDigits d:=by rw[hs,itoa_pos (by omega)];simp
      have hs9:s.size≤9:=by
       rw[Lib.size_eq,hsd];exact dd_len9 (by omega)
      have hs9i:(s.size:Int)≤9:=by omega
      have n0:=zz hsd;have L5:=Lr.step a0;have B5:=zz (hbld.out.step a0);have c0:=zz (hbw.out.trans (a0.mono (by omega)));have hsz5:w2.heap.size<w5.heap.size:=Nat.lt_of_lt_of_le hsr a0.size;have p0:=zz (up_len (k:=j+1) HN.out (by rw[← HL.out];exact hL6));clear hs hsd a0 hbld Lr qr1 hx1;have qr1:=L5.cell1;rcases hlast with hlast | hlast
      ·have q0:=zz (show up l j=up l (j+1)++Lib.decDigits d by rw[HD.out];exact up_last HN.out (by rw[← HL.out];exact hlast));have hlt:decide ((j:Int)<(L:Int)-1)=false:=by rw[decide_eq_false_iff_not];omega
       clear hlast;go_wp2_with fail
       refine(WriteString_any _ _ _ (Lib.decDigits d) s _ B5.out n0.out (by have:=p0.out;have h2:=n0.out;rw[← h2,← Lib.size_eq];simp;omega) (by omega)).mono ?_;rintro e w6 ⟨rfl,b0,hbl6⟩;have B6:=zz (show Bld w6 w2.heap.size w2.heap.size (pre++up l j) by rw[q0.out,← List.append_assoc];exact b0);have L6:=LB.of_block L5 (hbl6.block _ hsz2);have d0:=zz (c0.out.trans hbl6);have hs6:w2.heap.size<w6.heap.size:=Nat.lt_of_lt_of_le hsz5 hbl6.size;clear b0 hbl6;go_wp2;go_roundw
       case rel=>exact⟨j,by omega,rfl,B6,L6,d0,hs6⟩
       case measure=>simp[intOf]
      ·have q0:=zz (show up l j=up l (j+1)++List.replicate (9-s.size) 48++Lib.decDigits d by rw[Lib.size_eq,n0.out,HD.out];exact up_more HN.out (by rw[← HL.out];omega) (by rw[← HL.out];omega));have hlt:(j:Int)<(L:Int)-1:=by omega
       clear hlast;go_wp2_with fail
       rw[show(9:Int)-(s.size:Int)=((9-s.size:Nat):Int) by omega];refine(Repeat_zeros _ _ (by omega)).mono ?_;rintro e w6 ⟨rfl,b0⟩;obtain⟨u,hu⟩:∃ u:ByteArray,u=⟨(List.replicate (9-s.size) (48:UInt8)).toArray⟩:=⟨_,rfl⟩;rw[← hu];have HU:=zz (show u.data.toList=List.replicate (9-s.size) 48 by rw[hu]);have B6:=zz (B5.out.step b0);have L6:=L5.step b0;have d0:=zz (c0.out.trans (b0.mono (by omega)));have hs6:w2.heap.size<w6.heap.size:=Nat.lt_of_lt_of_le hsz5 b0.size;clear hu b0 qr1;go_wp2_with fail
       refine(WriteString_any _ _ _ (List.replicate (9-s.size) 48) u _ B6.out HU.out (by have:=p0.out;simp;omega) (by omega)).mono ?_;rintro e w7 ⟨rfl,f0,hbl7⟩;have B7:=zz f0;have L7:=LB.of_block L6 (hbl7.block _ hsz2);have k0:=zz (d0.out.trans hbl7);have hs7:w2.heap.size<w7.heap.size:=Nat.lt_of_lt_of_le hs6 hbl7.size;clear f0 hbl7;go_wp2_with fail
       refine(WriteString_any _ _ _ (Lib.decDigits d) s _ B7.out n0.out (by have:=p0.out;have h2:=n0.out;rw[← h2,← Lib.size_eq];simp;omega) (by omega)).mono ?_;rintro e w8 ⟨rfl,g0,hbl8⟩;have B8:=zz (show Bld w8 w2.heap.size w2.heap.size (pre++up l j) by rw[q0.out,← List.append_assoc,← List.append_assoc];exact g0);have L8:=LB.of_block L7 (hbl8.block _ hsz2);have l0:=zz (k0.out.trans hbl8);have hs8:w2.heap.size<w8.heap.size:=Nat.lt_of_lt_of_le hs7 hbl8.size;clear g0 hbl8;go_wp2;go_roundw
       case rel=>exact⟨j,by omega,rfl,B8,L8,l0,hs8⟩
       case measure=>simp[intOf]
   | true=>
    go_wp2_with fail
    clear La qa0 qa1;refine(WriteByte_any _ _ [] 45 45 rfl _ B0.out (by simp) (by simp)).mono ?_;rintro e w4 ⟨rfl,m0,hbl4⟩;have t0:=zz (show Bld w4 w2.heap.size w2.heap.size (pre++up l L) by rw[E0.out,HL.out,up_top];exact m0);have L4:=LB.of_block L3 (hbl4.block _ hsz2);have e0:=zz (i0.out.trans hbl4);have hs4:w2.heap.size<w4.heap.size:=Nat.lt_of_lt_of_le u0 hbl4.size;clear m0 hbl4 B0 i0 u0 L3;have qa1:=L4.cell1;go_wp2;go_loopw [6] (fun i wr=>∃ k:Nat,k≤L∧i=.int .i64 ((k:Int)-1)∧Hid (Bld wr w2.heap.size w2.heap.size (pre++up l k))∧LB wr w.heap.size (.bool true) (.slice (some ⟨g,off,none⟩) L k1)∧Hid (Below w2.heap.size w2 wr)∧w2.heap.size<wr.heap.size) (fun i _=>(intOf i+1).toNat)
    case atStart=>exact⟨L,Nat.le_refl _,rfl,t0,L4,e0,hs4⟩
    case round=>
     clear t0 L4 e0 hs4;obtain⟨k,hk,rfl,hbld,Lr,hbw,hsr⟩:=hrel;have x0:=zz (HB.out.trans (hbw.out.mono HB.out.size));rcases k with _ | j
     ·rw[show((0:Nat):Int)-1=-1 from rfl];have y0:=zz (show Bld wr w2.heap.size w2.heap.size (Lib.itoa z) by rw[HP.out];exact hbld.out);have z0:=zz (show Lib.itoa z≠[] by rw[HP.out,up_all w0.out];exact fun e=>dd_ne _ (List.append_eq_nil_iff.1 e).2);clear hbld;go_wp2_with fail
      refine(String_any _ _ (Lib.itoa z) _ y0.out z0.out).mono ?_;rintro e w5 ⟨rfl,a0⟩;have c0:=zz (x0.out.trans (a0.mono (HB.out.size)));clear a0;go_wp2;go_ret2;refine⟨c0.out,?_⟩;rw[HR.out];rfl
     ·rw[show((j+1:Nat):Int)-1=(j:Int) by omega];have hjL:(j:Int)<L:=by omega
      have qr1:=Lr.cell1;have hx1:=(hbw.out.cell (p:=⟨g,off+j,none⟩) (Nat.lt_of_lt_of_le hg (Nat.le_refl _))).trans (HX.out j (by omega));obtain⟨d,hd⟩:∃ d,d=l.getD j 0:=⟨_,rfl⟩;rw[← hd] at hx1;have hdb:(d:Int)<1000000000:=by have:=HN.out.1.getD j;rw[← hd] at this;omega
      have HD:=zz hd;have hlast:j+1=L∨j+1<L:=by omega
      clear hd;go_wp2_with fail
      refine(Itoa_any _ (by omega) (by omega) _ (D0.out.step (hbw.out))).mono ?_;rintro e w5 ⟨rfl,a0⟩;obtain⟨s,hs⟩:∃ s:ByteArray,s=⟨(Lib.itoa (d:Int)).toArray⟩:=⟨_,rfl⟩;rw[← hs];have hsd:s.data.toList=Lib.decDigits d:=by rw[hs,itoa_pos (by omega)];simp
      have hs9:s.size≤9:=by
       rw[Lib.size_eq,hsd];exact dd_len9 (by omega)
      have hs9i:(s.size:Int)≤9:=by omega
      have n0:=zz hsd;have L5:=Lr.step a0;have B5:=zz (hbld.out.step a0);have c0:=zz (hbw.out.trans (a0.mono (by omega)));have hsz5:w2.heap.size<w5.heap.size:=Nat.lt_of_lt_of_le hsr a0.size;have p0:=zz (up_len (k:=j+1) HN.out (by rw[← HL.out];exact hL6));clear hs hsd a0 hbld Lr qr1 hx1;have qr1:=L5.cell1;rcases hlast with hlast | hlast
      ·have q0:=zz (show up l j=up l (j+1)++Lib.decDigits d by rw[HD.out];exact up_last HN.out (by rw[← HL.out];exact hlast));have hlt:decide ((j:Int)<(L:Int)-1)=false:=by rw[decide_eq_false_iff_not];omega
       clear hlast;go_wp2_with fail
       refine(WriteString_any _ _ _ (Lib.decDigits d) s _ B5.out n0.out (by have:=p0.out;have h2:=n0.out;rw[← h2,← Lib.size_eq];simp;omega) (by omega)).mono ?_;rintro e w6 ⟨rfl,b0,hbl6⟩;have B6:=zz (show Bld w6 w2.heap.size w2.heap.size (pre++up l j) by rw[q0.out,← List.append_assoc];exact b0);have L6:=LB.of_block L5 (hbl6.block _ hsz2);have d0:=zz (c0.out.trans hbl6);have hs6:w2.heap.size<w6.heap.size:=Nat.lt_of_lt_of_le hsz5 hbl6.size;clear b0 hbl6;go_wp2;go_roundw
       case rel=>exact⟨j,by omega,rfl,B6,L6,d0,hs6⟩
       case measure=>simp[intOf]
      ·have q0:=zz (show up l j=up l (j+1)++List.replicate (9-s.size) 48++Lib.decDigits d by rw[Lib.size_eq,n0.out,HD.out];exact up_more HN.out (by rw[← HL.out];omega) (by rw[← HL.out];omega));have hlt:(j:Int)<(L:Int)-1:=by omega
       clear hlast;go_wp2_with fail
       rw[show(9:Int)-(s.size:Int)=((9-s.size:Nat):Int) by omega];refine(Repeat_zeros _ _ (by omega)).mono ?_;rintro e w6 ⟨rfl,b0⟩;obtain⟨u,hu⟩:∃ u:ByteArray,u=⟨(List.replicate (9-s.size) (48:UInt8)).toArray⟩:=⟨_,rfl⟩;rw[← hu];have HU:=zz (show u.data.toList=List.replicate (9-s.size) 48 by rw[hu]);have B6:=zz (B5.out.step b0);have L6:=L5.step b0;have d0:=zz (c0.out.trans (b0.mono (by omega)));have hs6:w2.heap.size<w6.heap.size:=Nat.lt_of_lt_of_le hsz5 b0.size;clear hu b0 qr1;go_wp2_with fail
       refine(WriteString_any _ _ _ (List.replicate (9-s.size) 48) u _ B6.out HU.out (by have:=p0.out;simp;omega) (by omega)).mono ?_;rintro e w7 ⟨rfl,f0,hbl7⟩;have B7:=zz f0;have L7:=LB.of_block L6 (hbl7.block _ hsz2);have k0:=zz (d0.out.trans hbl7);have hs7:w2.heap.size<w7.heap.size:=Nat.lt_of_lt_of_le hs6 hbl7.size;clear f0 hbl7;go_wp2_with fail
       refine(WriteString_any _ _ _ (Lib.decDigits d) s _ B7.out n0.out (by have:=p0.out;have h2:=n0.out;rw[← h2,← Lib.size_eq];simp;omega) (by omega)).mono ?_;rintro e w8 ⟨rfl,g0,hbl8⟩;have B8:=zz (show Bld w8 w2.heap.size w2.heap.size (pre++up l j) by rw[q0.out,← List.append_assoc,← List.append_assoc];exact g0);have L8:=LB.of_block L7 (hbl8.block _ hsz2);have l0:=zz (k0.out.trans hbl8);have hs8:w2.heap.size<w8.heap.size:=Nat.lt_of_lt_of_le hs7 hbl8.size;clear g0 hbl8;go_wp2;go_roundw
       case rel=>exact⟨j,by omega,rfl,B8,L8,l0,hs8⟩
       case measure=>simp[intOf]
 ·have HR:=zz (hr.out.trans (show T1 (numOf na la)=([],30) by rw[numOf_bad hv];rfl));clear hr;go_wp2;go_ret2;refine⟨HB.out,?_⟩;rw[HR.out];rfl
end Go.Proofs.YtkhljkiehohckaaGreatDoor
namespace Go.Proofs.YtkhljkiehohckaaGreatDoor
open Go Go.RowKit Dig
theorem itoa_len {z:Int} (h:(dig z.natAbs).length≤600):(Lib.itoa z).length≤5401:=by
 have h1:=(dd_len_dig z.natAbs 600 (by omega)).2 h;by_cases hz:z<0
 ·rw[itoa_min hz];simp;omega
 ·rw[itoa_pos (by omega)];omega
set_option maxRecDepth 100000 in
set_option maxHeartbeats 1000000 in
theorem Int_any (w:World) (va:Value) (na:Bool) (la:List Int) (ha:LR w w.heap.size va na la) (G:Glob w) :
  Calls Tryz.prog 50 #[va] w fun e w'=>Below w.heap.size w w'∧RetI (A1 intZ (numOf na la)) e:=by
 obtain⟨sa,rfl,hsa⟩:=ha;obtain⟨P1,k1,rfl,-⟩:=(show RI _ _ _ _ from hsa);replace hsa:=zz hsa;replace G:=zz G;obtain⟨r,hr⟩:∃ r,r=A1 intZ (numOf na la):=⟨_,rfl⟩;rw[← hr];replace hr:=zz hr;go_enter Tryz.func50,Tryz.ntmps50
 go_wp2_with fail
 refine(Check_any _ _ na la ⟨_,rfl,hsa.out.step (by(repeat' (first | exact Below.refl _ _ | refine Below.drew ?_ | refine Below.alloc ?_ (by first | exact Nat.le_refl _ | (simp;done) | (simp;omega)) _)))⟩).mono ?_;rintro e w2 ⟨c0,c,rfl,hc⟩;have La:LB w2 w.heap.size (.bool na) (.slice P1 la.length k1):=LB.of_block (by(repeat (first | (refine LB.new' ?_;simp;done) | refine LB.alloc ?_ _))) (c0.block _ (by simp));have HB:=zz ((show Below w.heap.size w _ from by(repeat' (first | exact Below.refl _ _ | refine Below.drew ?_ | refine Below.alloc ?_ (by first | exact Nat.le_refl _ | (simp;done) | (simp;omega)) _))).trans (c0.mono (by simp)));have qa0:=La.cell0;have qa1:=La.cell1;clear c0;rcases hc with ⟨hv,rfl⟩ | ⟨hv,rfl⟩
 ·obtain⟨z,hnz,hz0,hz1,hlz⟩:=numOf_valid hv;have HR:=zz (show r=intZ z by rw[hr.out,hnz];rfl);have l0:=zz hnz;have m0:=zz hlz;clear hr hnz hv hz0 hz1 hlz;go_wp2_with fail
  refine(Text_any _ _ na la ⟨_,rfl,hsa.out.step HB.out⟩ (G.out.step HB.out)).mono ?_;rintro e w3 ⟨e0,he⟩;rw[l0.out] at he;have he:e=.returned (.tuple #[.string ⟨(Lib.itoa z).toArray⟩,.int .i64 0]):=he;subst he;obtain⟨s,hs⟩:∃ s:ByteArray,s=⟨(Lib.itoa z).toArray⟩:=⟨_,rfl⟩;rw[← hs];have HS:=zz (show s.data.toList=Lib.itoa z by rw[hs]);have h0:=zz (show s.size≤5401 by rw[Lib.size_eq,HS.out];exact itoa_len m0.out);have a0:=zz (HB.out.trans (e0.mono HB.out.size));clear hs e0 qa0 qa1;by_cases hf:-9223372036854775808≤z∧z≤9223372036854775807
  ·have HZ:=zz (show intZ z=(z,0) by unfold intZ;rw[if_pos hf]);have HA:=zz (show Lib.atoiAll s.data.toList=.ok z by rw[HS.out,atoi_itoa,if_pos hf]);clear hf;go_wp2_with fail
   refine(Atoi_yes s (by have:=h0.out;omega) z HA.out _).mono ?_;rintro e w4 ⟨rfl,b0⟩;have d0:=zz (a0.out.trans (b0.mono a0.out.size));clear b0;go_wp2;go_ret2;refine⟨d0.out,?_⟩;rw[HR.out,HZ.out];rfl
  ·have HZ:=zz (show intZ z=(0,6) by unfold intZ;rw[if_neg hf]);have HA:=zz (show Lib.atoiAll s.data.toList=.range by rw[HS.out,atoi_itoa,if_neg hf]);clear hf;go_wp2_with fail
   refine(Atoi_big s (by have:=h0.out;omega) HA.out _ (G.out.step a0.out)).mono ?_;rintro e w4 ⟨n,N,rfl,b0⟩;have d0:=zz (a0.out.trans (b0.mono a0.out.size));clear b0;go_wp2;go_ret2;refine⟨d0.out,?_⟩;rw[HR.out,HZ.out];rfl
 ·have HR:=zz (hr.out.trans (A1_bad hv));clear hr;go_wp2;go_ret2;refine⟨HB.out,?_⟩;rw[HR.out];rfl
end Go.Proofs.YtkhljkiehohckaaGreatDoor
namespace Go.Proofs.YtkhljkiehohckaaGreatDoor
open Go Go.RowKit Dig
end Go.Proofs.YtkhljkiehohckaaGreatDoor
namespace Go.Proofs.YtkhljkiehohckaaGreatDoor
open Go Go.RowKit Dig
def litB (s:List UInt8) (z:Int):Bool:=
 (s==[48]&&z==0)||((bare s).all (fun c=>48≤c.toNat&&c.toNat≤57)&&(match bare s with | []=>false | c :: _=>c != 48)&&z==sgn (decide (bare s≠s)) (num (bare s)))
theorem lit {s:List UInt8} {z:Int} (h:litB s z=true):canon s=some z:=by
 unfold litB at h;rw[Bool.or_eq_true] at h;rcases h with h | h
 ·simp at h
  rw[h.1,h.2];exact canon_zero
 ·rw[Bool.and_eq_true,Bool.and_eq_true] at h;obtain⟨⟨h1,h2⟩,h3⟩:=h;have ha:AllDig (bare s):=by
   intro c hc;have:=List.all_eq_true.1 h1 c hc;simp at this
   exact this
  have hz:=eq_of_beq h3;rw[hz];cases hb:bare s with
  | nil=>rw[hb] at h2;cases h2
  | cons c r=>
   rw[hb] at h2;rw[← hb];exact canon_num hb ha (by simpa using h2)
end Go.Proofs.YtkhljkiehohckaaGreatDoor
namespace Go.Proofs.YtkhljkiehohckaaGreatDoor
open Go Go.RowKit Dig
end Go.Proofs.YtkhljkiehohckaaGreatDoor
namespace Go.Proofs.YtkhljkiehohckaaGreatDoor
open Go Go.RowKit Dig
section
variable {w:World} {va vb:Value} {a b:Int}
theorem Sqrt_num (ha:LV w w.heap.size va a) (fa:Fit a) (h0:0≤a) :
  Calls Tryz.prog 49 #[va] w fun e w'=>Below w.heap.size w w'∧∃ v,e=.returned (.tuple #[v,.int .i64 0])∧LV w' w'.heap.size v (rootN a.natAbs:Int):=by
 refine(Sqrt_any w va _ _ ha).mono fun e w' ⟨hw,h⟩=>⟨hw,?_⟩
 rw[numOf_dig fa,show A1 sqrtZ (some a)=((rootN a.natAbs:Int),0) by show sqrtZ a=_;rw[sqrtZ,if_neg (by omega)]] at h;exact h
theorem Int_num (ha:LV w w.heap.size va a) (fa:Fit a) (G:Glob w) :
  Calls Tryz.prog 50 #[va] w fun e w'=>Below w.heap.size w w'∧e=.returned (.tuple #[.int .i64 (intZ a).1,.int .i64 (intZ a).2]):=by
 refine(Int_any w va _ _ ha G).mono fun e w' ⟨hw,h⟩=>⟨hw,?_⟩
 rw[numOf_dig fa] at h;exact h
end
end Go.Proofs.YtkhljkiehohckaaGreatDoor
namespace Go.Proofs.YtkhljkiehohckaaGreatDoor
open Go Go.RowKit Dig
section
variable {w:World} {v:Value} {z:Int}
end
end Go.Proofs.YtkhljkiehohckaaGreatDoor
namespace Go.Proofs.YtkhljkiehohckaaGreatDoor
open Go Go.RowKit Dig
end Go.Proofs.YtkhljkiehohckaaGreatDoor
