/- Texts put together: long.both, Mul, Gcd. long.Add, Sub, Neg. long.Sub, Neg. long.Sqrt. long.Div. long.signed, Cmp. long.Of. The reference's made: a Long of digits, without the highest zeros. Words that many walks use: Longs of numbers, how many digits they have; what calls, draws, stores leave of what is known. The reference's Minus. -/
import Derived.Test.YtdigbofiebfkeaaGreatDoorLow
import Derived.Test.YtdigbofiebfkeaaGreatDoorSize
import Derived.Maps.AppendAt
import Derived.Deep.RegionHeld3
import Derived.Deep.RegionLaw
import Derived.Deep.AppendLies
import Derived.Deep.DeepCutAuto
import Derived.Deep.CutBlock
import Derived.Deep.LoopGhost
import Derived.Deep.QuietTactic
import Derived.BigQuiet
import Derived.IntWalk
namespace Go.Proofs.YtdigbofiebfkeaaGreatDoor
open Go Go.RowKit Dig
set_option maxRecDepth 100000
set_option maxHeartbeats 4000000
theorem LB.new' {w:World} {b:Nat} {x y:Value} (h:b=w.heap.size):LB (w.alloc (.cells #[x,y] 31)) b x y:=by subst h;exact LB.new w x y
theorem dig_len_mul (a b:Nat):(dig (a*b)).length≤(dig a).length+(dig b).length:=by
 rw[dig_len_le,bp_add];exact Nat.mul_lt_mul'' (dig_lt a) (dig_lt b)
theorem dig_len_gcd (a b:Nat) {n:Nat} (ha:(dig a).length≤n) (hb:(dig b).length≤n):(dig (Nat.gcd a b)).length≤n:=by
 rcases Nat.eq_zero_or_pos a with h | h
 ·subst h;rwa [Nat.gcd_zero_left]
 ·exact Nat.le_trans (dig_len_mono (Nat.gcd_le_left b h)) ha
theorem dig_len_add (a b:Nat) {n:Nat} (ha:(dig a).length≤n) (hb:(dig b).length≤n):(dig (a+b)).length≤n+1:=by
 rw[dig_len_le,bp_succ];have:=dig_len_le.1 ha;have:=dig_len_le.1 hb;generalize bp n=z at *
 omega
def divZ (a b:Int):Int × Int × Int:=if b=0 then (0,0,7) else (Int.tdiv a b,Int.tmod a b,0)
def D2:Option Int→Option Int→Int × Int × Int
 | some a,some b=>divZ a b
 | _,_=>(0,0,30)
theorem tdiv_sign (a b:Int):(if (!(decide (a<0)==decide (b<0))) then -((a.natAbs / b.natAbs:Nat):Int) else ((a.natAbs / b.natAbs:Nat):Int))=Int.tdiv a b:=by
 by_cases ha:a<0 <;> by_cases hb:b<0
 ·obtain⟨m,rfl⟩:∃ m:Nat,a=-(m:Int):=⟨a.natAbs,by omega⟩;obtain⟨n,rfl⟩:∃ n:Nat,b=-(n:Int):=⟨b.natAbs,by omega⟩;rw[decide_eq_true ha,decide_eq_true hb,if_neg (by simp),Int.neg_tdiv_neg];simp
 ·obtain⟨m,rfl⟩:∃ m:Nat,a=-(m:Int):=⟨a.natAbs,by omega⟩;obtain⟨n,rfl⟩:∃ n:Nat,b=(n:Int):=⟨b.natAbs,by omega⟩;rw[decide_eq_true ha,decide_eq_false hb,if_pos (by simp),Int.neg_tdiv];simp
 ·obtain⟨m,rfl⟩:∃ m:Nat,a=(m:Int):=⟨a.natAbs,by omega⟩;obtain⟨n,rfl⟩:∃ n:Nat,b=-(n:Int):=⟨b.natAbs,by omega⟩;rw[decide_eq_false ha,decide_eq_true hb,if_pos (by simp),Int.tdiv_neg];simp
 ·obtain⟨m,rfl⟩:∃ m:Nat,a=(m:Int):=⟨a.natAbs,by omega⟩;obtain⟨n,rfl⟩:∃ n:Nat,b=(n:Int):=⟨b.natAbs,by omega⟩;rw[decide_eq_false ha,decide_eq_false hb,if_neg (by simp)];simp
theorem tmod_sign (a b:Int):(if decide (a<0) then -((a.natAbs % b.natAbs:Nat):Int) else ((a.natAbs % b.natAbs:Nat):Int))=Int.tmod a b:=by
 rw[← Int.natAbs_tmod];by_cases ha:a<0
 ·rw[decide_eq_true ha,if_pos rfl];have:=Int.tmod_nonneg b (show 0≤-a by omega);rw[Int.neg_tmod] at this
  omega
 ·rw[decide_eq_false ha,if_neg (by simp)];have:=Int.tmod_nonneg b (show 0≤a by omega)
  omega
def RetI (r:Int × Int) (e:Ending):Prop:=e=.returned (.tuple #[.int .i64 r.1,.int .i64 r.2])
theorem LB.grown {w w':World} {b:Nat} {x y:Value} {row:Option Nat} (h:LB w b x y) (hg:w.grownBy w' row) (hr:row≠some b):LB w' b x y:=h.of_block (hg.block b h.lt (fun e=>hr e.symm))
theorem OwnV.setBelow {w:World} {base:Nat} {v:Value} {l:List Int} (h:OwnV w base v l) {p:Addr} (hp:p.block<base) (u:Value):OwnV (w.setCell p u) base v l:=by
 have hg:w.grownBy (w.setCell p u) (some p.block):=⟨rfl,rfl,rfl,by simp[World.setCell],fun i _ hne=>Below.heap_setCell _ _ _ _ (fun e=>hne (by rw[e]))⟩;refine World.ownsRow.kept h hg ?_;cases hv:v.ownBlock with
 | none=>exact .inl rfl
 | some g=>
  refine .inr fun e=>?_
  have h1:=(World.ownsRow.lt h g hv).1;have h2:=Option.some.inj e
  omega
def RetV (w':World) (z:Int) (e:Ending):Prop:=∃ v,e=.returned v∧LV w' w'.heap.size v z
theorem end_one {fn:Func} {p:Tmp} (hf:fn.results=#[.cell p 31]) {W w:World} {B b:Nat} {q0:Bool} {A:Option Addr} {n c:Nat} (hL:LB w b (.bool q0) (.slice A n c)) (hb:Below B W w) (hB:B≤b)
  {q:Bool} {s:Value} {z:Int} {tmps:Array Value} (hs:RI w w.heap.size s (ni (Dig.dig z.natAbs))) (hq:q=decide (z<0)) (hp:tmps.getD p undef=.pointer (some ⟨b,0,none⟩)) :
  bodyPost Tryz.prog fn (fun e w'=>Below B W w'∧RetV w' z e) .ret ⟨tmps,[]⟩ ((w.setCell ⟨b,0,none⟩ (.bool q)).setCell ⟨b,1,none⟩ s):=by
 obtain⟨h1,h2⟩:=hL.put (q:=q) hs;exact bodyPost_ret (LB.ret1 hf tmps h1 hp) rfl ⟨(hb.setCell (by simpa using hB) _).setCell (by simpa using hB) _,.agg #[.bool q,s],rfl,s,by rw[hq],h2⟩
theorem Of_any (w:World) (n:Int) (h0:-9223372036854775808≤n) (h1:n≤9223372036854775807) :
  Calls Tryz.prog 60 #[.int .i64 n] w fun e w'=>Below w.heap.size w w'∧RetV w' n e:=by
 obtain⟨i0,hi,hz0,hz1,hz2⟩:=info_parts info_int;have H3:=zz (show(dig n.natAbs).length≤3 by rw[dig_len_le];show n.natAbs<1000000000000000000000000000;omega);go_enter Tryz.func60,Tryz.ntmps60
 go_wp2;have L0:LB ((w.alloc (.cells #[.bool false,.slice none 0 0] 31)).alloc (.cells #[.bool (decide (n<0)),.slice none 0 0] 31)) w.heap.size (.bool false) (.slice none 0 0):=by(repeat (first | (refine LB.new' ?_;simp;done) | refine LB.alloc ?_ _))
 have L1:LB ((w.alloc (.cells #[.bool false,.slice none 0 0] 31)).alloc (.cells #[.bool (decide (n<0)),.slice none 0 0] 31)) (w.heap.size+1) (.bool (decide (n<0))) (.slice none 0 0):=by(repeat (first | (refine LB.new' ?_;simp;done) | refine LB.alloc ?_ _))
 go_loopw [0] (fun nv wr=>∃ (k:Int) (ds:List Nat) (v:Value),nv=.int .i64 k∧-9223372036854775808≤k∧k≤9223372036854775807∧Hid (dig n.natAbs=ds++dig k.natAbs)∧Hid (ds.length≤20)∧LB wr w.heap.size (.bool false) (.slice none 0 0)∧LB wr (w.heap.size+1) (.bool (decide (n<0))) v∧Hid (OwnV wr (w.heap.size+2) v (ni ds))∧Hid (w.heap.size+2≤wr.heap.size)∧Below w.heap.size w wr) (fun nv _=>(intOf nv).natAbs)
 case atStart=>exact⟨n,[],_,rfl,h0,h1,zz (by simp),zz (by simp),L0,L1,zz (OwnV.nil _ _),zz (by simp),by(repeat' (first | exact Below.refl _ _ | refine Below.drew ?_ | refine Below.alloc ?_ (by first | exact Nat.le_refl _ | (simp;done) | (simp;omega)) _))⟩
 case round=>
  clear L0 L1;obtain⟨k,ds,v,rfl,a0,b0,hd,hlen,L0,L1,ho,hsz,hbw⟩:=hrel;by_cases hk:k=0
  ·have hds:ni (dig n.natAbs)=ni ds:=by rw[hd.out,hk,show(0:Int).natAbs=0 from rfl,dig_zero,List.append_nil]
   have k0:=zz hds;have HB:=zz hbw;have l0:=zz ho.out.ri;have hri:=ho.out.ri;obtain⟨A,c,rfl,_⟩:=hri;subst hk;have qa0:=L1.cell0;have qa1:=L1.cell1;have qb0:=L0.cell0;have qb1:=L0.cell1;have qb2:=L0.frozen 0;have qb3:=L0.frozen 1;clear hds hbw a0 b0;go_wp2;(try simp only[Exit.inBlock,Exit.then])
   exact end_one rfl L0 HB.out (Nat.le_refl _) (by rw[k0.out];exact l0.out) rfl rfl
  ·have HB:=zz hbw;have hkb:(k != 0)=true:=by simpa using hk
   have hna:(k.tmod 1000000000).natAbs=k.natAbs % 1000000000:=Int.natAbs_tmod k 1000000000;have hnd:(k.tdiv 1000000000).natAbs=k.natAbs / 1000000000:=Int.natAbs_tdiv k 1000000000;have hm0:-1000000000<k.tmod 1000000000:=by have:=Nat.mod_lt k.natAbs (show 1000000000>0 by decide);omega
   have hm1:k.tmod 1000000000<1000000000:=by have:=Nat.mod_lt k.natAbs (show 1000000000>0 by decide);omega
   have hmm:max (k.tmod 1000000000) (-k.tmod 1000000000)=((k.natAbs % 1000000000:Nat):Int):=by omega
   have HM:=zz hmm;have HD:=zz hnd;clear hmm hna hnd;have qa0:=L1.cell0;have qa1:=L1.cell1;have qa2:=L1.frozen 1;have hown:=ho.out.alloc (.cells #[.int .i64 (max (k.tmod 1000000000) (-k.tmod 1000000000))] 3);clear hbw;have hl20:=hlen.out;go_wp2_with (at_builtin;refine wpList_append_own_at _ rfl _ _ 29 rfl (w.heap.size+2) 3 i0 (.int .i64 0) 1 8 Tryz.underlying29 hi hz0 hz1 hz2 rfl (by decide) v (ni ds).length ((ni ds).map (Value.int .i64)) rfl hown ⟨wr.heap.size,0,none⟩ 1 1 [.int .i64 (max (k.tmod 1000000000) (-k.tmod 1000000000))] rfl rfl (cell_one_new _ _ _) (by intro u hu;simp at hu;subst hu;rfl) (by rw[ni_length];unfold maxLen;omega) (by rw[ni_length];omega) (by have:=hsz.out;simp;omega) ?_)
   intro v' w' hown' hgrow hne hblk;have hv':OwnV w' (w.heap.size+2) v' (ni (ds++[k.natAbs % 1000000000])):=by
    have h:=hown';rw[HM.out] at h;rw[OwnV,ni_length,List.length_append];rw[ni_length] at h;have e:(ni (ds++[k.natAbs % 1000000000])).map (Value.int .i64)=(ni ds).map (Value.int .i64)++[.int .i64 ((k.natAbs % 1000000000:Nat):Int)]:=by simp[ni]
    rw[e];exact h
   have hrow:∀ b,b<w.heap.size+2→v.ownBlock≠some b:=fun b hb he=>by
    have:=(World.ownsRow.lt ho.out b he).1
    omega
   have M0:=(L0.alloc (.cells #[.int .i64 (max (k.tmod 1000000000) (-k.tmod 1000000000))] 3)).grown hgrow (hrow _ (by omega));have M1:=(L1.alloc (.cells #[.int .i64 (max (k.tmod 1000000000) (-k.tmod 1000000000))] 3)).grown hgrow (hrow _ (by omega));have c0:=zz ((HB.out.alloc (by have:=HB.out.size;exact this) (.cells #[.int .i64 (max (k.tmod 1000000000) (-k.tmod 1000000000))] 3)).grown hgrow (by have:=HB.out.size;simp;omega) (fun g he=>by have:=(World.ownsRow.lt ho.out g he).1;omega));have m0:=zz (show w.heap.size+2≤w'.heap.size by have h1:=hgrow.size;have h2:=hsz.out;simp at h1;omega);have HV:=zz (hv'.setBelow (p:=⟨w.heap.size+1,1,none⟩) (by simp) v');have N0:=M0.far (p:=⟨w.heap.size+1,1,none⟩) (by simp) v';have N1:=M1.set1 v';have d0:=zz (c0.out.setCell (p:=⟨w.heap.size+1,1,none⟩) (by simp) v');clear hown' hgrow hne hblk hown qa0 qa1 qa2;have qa2:=M1.frozen 1;have qa1:=M1.cell1;rcases hv'.form with ⟨_,he⟩ | ⟨g,cap,rfl,_⟩
   ·simp[ni] at he
   ·have e0:-9223372036854775808≤k.tdiv 1000000000:=by have:=HD.out;omega
    have f0:k.tdiv 1000000000≤9223372036854775807:=by have:=HD.out;omega
    clear hv' hrow;go_wp2;go_roundw
    case rel=>
     exact⟨k.tdiv 1000000000,ds++[k.natAbs % 1000000000],_,rfl,e0,f0,zz (by rw[hd.out,HD.out,dig_pos (by omega:k.natAbs≠0)];simp),zz (by have h:=H3.out;rw[hd.out,dig_pos (by omega:k.natAbs≠0)] at h;simp at h ⊢;omega),N0,N1,HV,zz (by have:=m0.out;simpa[World.setCell] using this),d0.out⟩
    case measure=>have:=HD.out;simp only[intOf];omega
theorem sgn_made (neg:Bool) (n:Nat):(neg&&decide (0<(dig n).length))=decide (sgn neg n<0):=by
 rcases Nat.eq_zero_or_pos n with h0 | h0
 ·subst h0;rw[dig_zero];cases neg <;> simp[sgn]
 ·have:=dig_len_pos (by omega:n≠0);cases neg <;> simp[sgn] <;> omega
theorem sgn_nat (neg:Bool) (n:Nat):(sgn neg n).natAbs=n:=by unfold sgn;cases neg <;> simp
def RetO (B:Nat) (w':World) (z:Int) (e:Ending):Prop:=∃ q s,e=.returned (.agg #[.bool q,s])∧q=decide (z<0)∧OwnV w' B s (ni (dig z.natAbs))
theorem OwnV.mono {w:World} {B B':Nat} {v:Value} {l:List Int} (h:OwnV w B v l) (hB:B'≤B):OwnV w B' v l:=by
 obtain⟨h1,h | ⟨g,cap,cur,hv,hg,r⟩⟩:=h
 ·exact⟨h1,.inl h⟩
 ·exact⟨h1,.inr ⟨g,cap,cur,hv,Nat.le_trans hB hg,r⟩⟩
theorem RetO.any {B:Nat} {w':World} {z:Int} {e:Ending} (h:RetO B w' z e):RetV w' z e:=by
 obtain⟨q,s,he,hq,ho⟩:=h;exact⟨_,he,s,by rw[hq],ho.ri⟩
theorem end_own {fn:Func} {p:Tmp} (hf:fn.results=#[.cell p 31]) {W w:World} {B b base:Nat} {q0:Bool} {A:Option Addr} {n c:Nat} (hL:LB w b (.bool q0) (.slice A n c)) (hb:Below B W w) (hB:B≤b)
  {q:Bool} {s:Value} {z:Int} {tmps:Array Value} (ho:OwnV w base s (ni (Dig.dig z.natAbs))) (hbb:b<base) (hq:q=decide (z<0)) (hp:tmps.getD p undef=.pointer (some ⟨b,0,none⟩)) :
  bodyPost Tryz.prog fn (fun e w'=>Below B W w'∧RetO B w' z e) .ret ⟨tmps,[]⟩ ((w.setCell ⟨b,0,none⟩ (.bool q)).setCell ⟨b,1,none⟩ s):=by
 obtain⟨h1,-⟩:=hL.put (q:=q) ho.ri;exact bodyPost_ret (LB.ret1 hf tmps h1 hp) rfl ⟨(hb.setCell (by simpa using hB) _).setCell (by simpa using hB) _,q,s,rfl,hq,((ho.setBelow (p:=⟨b,0,none⟩) hbb _).setBelow (p:=⟨b,1,none⟩) hbb _).mono (by omega)⟩
theorem made_own (w:World) (neg:Bool) (v:Value) (ds:List Nat) (h:RN w w.heap.size v ds) (hs:Small ds) (hl:ds.length≤3000000000) :
  Calls Tryz.prog 114 #[.bool neg,v] w fun e w'=>Below w.heap.size w w'∧RetO w.heap.size w' (sgn neg (val ds)) e:=by
 obtain⟨i0,hi,hz0,hz1,hz2⟩:=info_parts info_int;obtain⟨A,c,rfl,hc,hc',hA⟩:=h.cell;have HR:=zz h;have HS:=zz hs;replace hA:=zz hA;clear h hs;have L0:=LB.new w (.bool false) (.slice none 0 0);have b0:=zz ((Below.refl w.heap.size w).alloc (Nat.le_refl _) (.cells #[.bool false,.slice none 0 0] 31));go_enter Tryz.func114,Tryz.ntmps114
 go_wp2;generalize hW:(w.alloc (.cells #[.bool false,.slice none 0 0] 31))=w1 at *
 have hsz1:w.heap.size<w1.heap.size:=L0.lt;have t0:=zz (show w1.heap.size=w.heap.size+1 by rw[← hW];simp);clear hW;go_loop [5] (fun nv=>∃ n:Nat,n≤ds.length∧nv=.int .i64 n∧Hid (val (ds.take n)=val ds)) (fun nv=>(intOf nv).toNat)
 case atStart=>exact⟨_,Nat.le_refl _,rfl,zz (by rw[List.take_length])⟩
 case round=>
  obtain⟨n,hn,rfl,hv⟩:=hrel;by_cases hgo:0<n∧ds.getD (n-1) 0=0
  ·obtain⟨k,rfl⟩:∃ k,n=k+1:=⟨n-1,by omega⟩;obtain⟨g,off,rfl,hg,hx⟩:=hA.out (by omega);have hk:k<ds.length:=by omega
   have hz:ds[k]=0:=by have:=hgo.2;rwa [Nat.add_sub_cancel,getD_get hk] at this
   have h1:=(b0.out.cell (p:=⟨g,off+k,none⟩) hg).trans (hx k hk);rw[hz] at h1;have HV:=zz (trim_go hk hv.out hz);clear hx hgo hv hz;go_wp2;go_round
   case rel=>exact⟨k,by omega,by go_num,HV⟩
   case measure=>simp[intOf]
  ·have hz:n=0∨∃ h:n-1<ds.length,ds[n-1]≠0:=by
    rcases Nat.eq_zero_or_pos n with h0 | h0
    ·exact .inl h0
    ·refine .inr ⟨by omega,fun e=>hgo ⟨h0,?_⟩⟩;rw[getD_get (show n-1<ds.length by omega)];exact e
   have HD:=zz (trim_stop HS.out hn hv.out hz);have HQ:=zz (sgn_made neg (val ds));clear hgo hv;rcases Nat.eq_zero_or_pos n with hn0 | hn0
   ·subst hn0;clear hz;cases neg with
    | false=>
     go_wp2;have LO:LB (w1.alloc (.cells #[.bool false,.slice none 0 0] 31)) w1.heap.size (.bool false) (.slice none 0 0):=LB.new _ _ _;have d0:=L0.alloc (.cells #[.bool false,.slice none 0 0] 31);have a0:=b0.out.alloc b0.out.size (.cells #[.bool false,.slice none 0 0] 31);have e0:=zz (show w1.heap.size+1≤(w1.alloc (.cells #[.bool false,.slice none 0 0] 31)).heap.size by simp);clear L0;go_loopw [7] (fun iv wr=>∃ (i:Nat) (v:Value),i≤0∧iv=.int .i64 i∧LB wr w.heap.size (.bool false) (.slice none 0 0)∧LB wr w1.heap.size (.bool false) v∧Hid (OwnV wr (w1.heap.size+1) v (ni (ds.take i)))∧Hid (w1.heap.size+1≤wr.heap.size)∧Below w.heap.size w wr) (fun iv _=>0-(intOf iv).toNat)
     case atStart=>exact⟨0,_,by omega,rfl,d0,LO,zz (OwnV.nil _ _),e0,a0⟩
     case round=>
      clear LO d0 a0 e0;obtain⟨i,v,hin,rfl,L0,LO,ho,hszr,hbw⟩:=hrel;have HB:=zz hbw;by_cases hlt:i<0
      ·exact absurd hlt (Nat.not_lt_zero _)
      ·obtain rfl:i=0:=by omega
       have m0:=zz ho.out.ri;have hri:=ho.out.ri;obtain⟨A',c',rfl,-⟩:=hri;have g0:=zz (show ni (dig (sgn false (val ds)).natAbs)=ni (ds.take 0) by rw[sgn_nat,HD.out]);have qa0:=LO.cell0;have qa1:=LO.cell1;have qb0:=L0.cell0;have qb1:=L0.cell1;have qb2:=L0.frozen 0;have qb3:=L0.frozen 1;have hlt1:=LO.lt;have hlt0:=L0.lt;clear hbw hlt;go_wp2;(try simp only[Exit.inBlock,Exit.then])
       exact end_own rfl L0 HB.out (Nat.le_refl _) (by rw[g0.out];exact ho.out) (by omega) (by rw[← HQ.out,← HD.out];(simp <;> omega)) rfl
    | true=>
     go_wp2;have LO:LB (w1.alloc (.cells #[.bool false,.slice none 0 0] 31)) w1.heap.size (.bool false) (.slice none 0 0):=LB.new _ _ _;have d0:=L0.alloc (.cells #[.bool false,.slice none 0 0] 31);have a0:=b0.out.alloc b0.out.size (.cells #[.bool false,.slice none 0 0] 31);have e0:=zz (show w1.heap.size+1≤(w1.alloc (.cells #[.bool false,.slice none 0 0] 31)).heap.size by simp);clear L0;go_loopw [7] (fun iv wr=>∃ (i:Nat) (v:Value),i≤0∧iv=.int .i64 i∧LB wr w.heap.size (.bool false) (.slice none 0 0)∧LB wr w1.heap.size (.bool false) v∧Hid (OwnV wr (w1.heap.size+1) v (ni (ds.take i)))∧Hid (w1.heap.size+1≤wr.heap.size)∧Below w.heap.size w wr) (fun iv _=>0-(intOf iv).toNat)
     case atStart=>exact⟨0,_,by omega,rfl,d0,LO,zz (OwnV.nil _ _),e0,a0⟩
     case round=>
      clear LO d0 a0 e0;obtain⟨i,v,hin,rfl,L0,LO,ho,hszr,hbw⟩:=hrel;have HB:=zz hbw;by_cases hlt:i<0
      ·exact absurd hlt (Nat.not_lt_zero _)
      ·obtain rfl:i=0:=by omega
       have m0:=zz ho.out.ri;have hri:=ho.out.ri;obtain⟨A',c',rfl,-⟩:=hri;have g0:=zz (show ni (dig (sgn true (val ds)).natAbs)=ni (ds.take 0) by rw[sgn_nat,HD.out]);have qa0:=LO.cell0;have qa1:=LO.cell1;have qb0:=L0.cell0;have qb1:=L0.cell1;have qb2:=L0.frozen 0;have qb3:=L0.frozen 1;have hlt1:=LO.lt;have hlt0:=L0.lt;clear hbw hlt;go_wp2;(try simp only[Exit.inBlock,Exit.then])
       exact end_own rfl L0 HB.out (Nat.le_refl _) (by rw[g0.out];exact ho.out) (by omega) (by rw[← HQ.out,← HD.out];(simp <;> omega)) rfl
   ·obtain⟨k,rfl⟩:∃ k,n=k+1:=⟨n-1,by omega⟩;have hk:k<ds.length:=by omega
    have hne:ds[k]≠0:=by
     rcases hz with h | ⟨h,h'⟩
     ·omega
     ·exact h'
    obtain⟨g,off,rfl,hg,hx⟩:=hA.out (by omega);have h1:=(b0.out.cell (p:=⟨g,off+k,none⟩) hg).trans (hx k hk);have hnz:((ds[k]:Int)==0)=false:=by rw[beq_eq_false_iff_ne];omega
    have r0:=zz hx;clear hx hz hne hA;cases neg with
    | false=>
     go_wp2;have LO:LB (w1.alloc (.cells #[.bool false,.slice none 0 0] 31)) w1.heap.size (.bool false) (.slice none 0 0):=LB.new _ _ _;have d0:=L0.alloc (.cells #[.bool false,.slice none 0 0] 31);have a0:=b0.out.alloc b0.out.size (.cells #[.bool false,.slice none 0 0] 31);have e0:=zz (show w1.heap.size+1≤(w1.alloc (.cells #[.bool false,.slice none 0 0] 31)).heap.size by simp);clear L0;go_loopw [7] (fun iv wr=>∃ (i:Nat) (v:Value),i≤(k+1)∧iv=.int .i64 i∧LB wr w.heap.size (.bool false) (.slice none 0 0)∧LB wr w1.heap.size (.bool false) v∧Hid (OwnV wr (w1.heap.size+1) v (ni (ds.take i)))∧Hid (w1.heap.size+1≤wr.heap.size)∧Below w.heap.size w wr) (fun iv _=>(k+1)-(intOf iv).toNat)
     case atStart=>exact⟨0,_,by omega,rfl,d0,LO,zz (OwnV.nil _ _),e0,a0⟩
     case round=>
      clear LO d0 a0 e0;obtain⟨i,v,hin,rfl,L0,LO,ho,hszr,hbw⟩:=hrel;have HB:=zz hbw;by_cases hlt:i<(k+1)
      ·have hid:i<ds.length:=by omega
       have hini:(i:Int)<(((k+1):Nat):Int):=by omega
       have hini2:(i:Int)<ds.length:=by omega
       have hi00:(0:Int)≤(i:Int):=by omega
       have hc1:=LO.cell1;have hf1:=LO.frozen 1;have hlt1:=LO.lt;obtain⟨d,hd⟩:∃ d,d=ds[i]:=⟨_,rfl⟩;have hx1:=(hbw.cell (p:=⟨g,off+i,none⟩) hg).trans (r0.out i hid);rw[← hd] at hx1;have hgr:g<wr.heap.size:=by have:=hbw.size;omega
       have n0:=zz (show ni (ds.take (i+1))=ni (ds.take i)++[(d:Int)] by rw[hd,List.take_succ_eq_append_getElem hid,ni_append];rfl);have hlen:(ni (ds.take i)).length=i:=by rw[ni_length];simp;omega
       have j0:=zz hlen;have hga:v.ownBlock≠some g:=fun e=>by have:=(World.ownsRow.lt ho.out g e).1;omega
       have hgo:v.ownBlock≠some w1.heap.size:=fun e=>by have:=(World.ownsRow.lt ho.out w1.heap.size e).1;omega
       have hgr0:v.ownBlock≠some w.heap.size:=fun e=>by have:=(World.ownsRow.lt ho.out w.heap.size e).1;omega
       have o0:Hid (∀ o:Obj,(wr.alloc o).drew.cell? ⟨g,off+i,none⟩=some (.int .i64 (d:Int))):=zz (fun o=>(World.cell?_of_block (w:=wr) (w':=(wr.alloc o).drew) (a:=⟨g,off+i,none⟩) (Below.heap_alloc wr o _ hgr)).trans hx1);clear hbw hd hlen;go_wp2;go_region_law (first
         | (refine step_append_lies _ (by rfl) _ _ _ (by rfl) (w1.heap.size+1) 3 i0 _ 1 8 Tryz.underlying29 hi hz0 hz1 hz2 rfl (by omega) v (ni (ds.take i)).length ((ni (ds.take i)).map (Value.int .i64)) (by rfl) ((OwnV.alloc ho.out _).drew) ⟨wr.heap.size,0,none⟩ 1 1 [.int .i64 (d:Int)] (by rfl) (by rfl) (World.news_of_block (cs:=#[.int .i64 (d:Int)]) (t:=3) (fr:=(0,0)) (heap_alloc_new wr _)) (by simp[Value.oneCell']) (by omega) (by have:=j0.out;unfold maxLen;omega) (by have:=j0.out;omega) (by have:=hszr.out;simp;omega) (wr.heap.size+1) (by simp) ?_;intro gg cap w4 hown4 hgrow hat hlt4;have M0:=LB.grown (LB.drew (LB.alloc L0 _)) hgrow hgr0;have M1:=LB.grown (LB.drew (LB.alloc LO _)) hgrow hgo;have qm1:=M1.cell1;have qm2:=M1.frozen 1;have qx4:w4.cell? ⟨g,off+i,none⟩=some (.int .i64 (d:Int)):=Eq.trans (hgrow.cell_far _ (by simp;omega) (Ne.symm hga)) (o0.out _)))
       all_goals
        have hv':OwnV w4 (w1.heap.size+1) (.slice (some ⟨gg,0,none⟩) ((ni (ds.take i)).length+1) cap) (ni (ds.take (i+1))):=by
         rw[n0.out];unfold OwnV;rw[List.length_append,List.map_append];exact hown4
        have HV:=zz (hv'.setBelow (p:=⟨w1.heap.size,1,none⟩) (by simp) (.slice (some ⟨gg,0,none⟩) ((ni (ds.take i)).length+1) cap));have N0:=M0.far (p:=⟨w1.heap.size,1,none⟩) (by simp;omega) (.slice (some ⟨gg,0,none⟩) ((ni (ds.take i)).length+1) cap);have N1:=M1.set1 (.slice (some ⟨gg,0,none⟩) ((ni (ds.take i)).length+1) cap);have c0:=zz ((((HB.out.alloc HB.out.size (.cells #[.int .i64 (d:Int)] 3)).drew).grown hgrow (by have:=HB.out.size;simp;omega) (fun g' e=>by have:=(World.ownsRow.lt ho.out g' e).1;omega)).setCell (p:=⟨w1.heap.size,1,none⟩) (by simp;omega) (.slice (some ⟨gg,0,none⟩) ((ni (ds.take i)).length+1) cap));have p0:=zz (show w1.heap.size+1≤(w4.setCell ⟨w1.heap.size,1,none⟩ (.slice (some ⟨gg,0,none⟩) ((ni (ds.take i)).length+1) cap)).heap.size by have h1:=hgrow.size;have h2:=hszr.out;simp[World.setCell] at h1 ⊢;omega);clear hown4 hgrow hat hlt4 M0 M1 qm1 qm2 hv';go_wp2;go_roundw
        case rel=>exact⟨i+1,_,by omega,by go_num,N0,N1,HV,p0,c0.out⟩
        case measure=>simp[intOf];omega
      ·obtain rfl:i=(k+1):=by omega
       have m0:=zz ho.out.ri;have hri:=ho.out.ri;obtain⟨A',c',rfl,-⟩:=hri;have g0:=zz (show ni (dig (sgn false (val ds)).natAbs)=ni (ds.take (k+1)) by rw[sgn_nat,HD.out]);have qa0:=LO.cell0;have qa1:=LO.cell1;have qb0:=L0.cell0;have qb1:=L0.cell1;have qb2:=L0.frozen 0;have qb3:=L0.frozen 1;have hlt1:=LO.lt;have hlt0:=L0.lt;clear hbw hlt;go_wp2;(try simp only[Exit.inBlock,Exit.then])
       exact end_own rfl L0 HB.out (Nat.le_refl _) (by rw[g0.out];exact ho.out) (by omega) (by rw[← HQ.out,← HD.out];(simp <;> omega)) rfl
    | true=>
     go_wp2;have LO:LB (w1.alloc (.cells #[.bool true,.slice none 0 0] 31)) w1.heap.size (.bool true) (.slice none 0 0):=LB.new _ _ _;have d0:=L0.alloc (.cells #[.bool true,.slice none 0 0] 31);have a0:=b0.out.alloc b0.out.size (.cells #[.bool true,.slice none 0 0] 31);have e0:=zz (show w1.heap.size+1≤(w1.alloc (.cells #[.bool true,.slice none 0 0] 31)).heap.size by simp);clear L0;go_loopw [7] (fun iv wr=>∃ (i:Nat) (v:Value),i≤(k+1)∧iv=.int .i64 i∧LB wr w.heap.size (.bool false) (.slice none 0 0)∧LB wr w1.heap.size (.bool true) v∧Hid (OwnV wr (w1.heap.size+1) v (ni (ds.take i)))∧Hid (w1.heap.size+1≤wr.heap.size)∧Below w.heap.size w wr) (fun iv _=>(k+1)-(intOf iv).toNat)
     case atStart=>exact⟨0,_,by omega,rfl,d0,LO,zz (OwnV.nil _ _),e0,a0⟩
     case round=>
      clear LO d0 a0 e0;obtain⟨i,v,hin,rfl,L0,LO,ho,hszr,hbw⟩:=hrel;have HB:=zz hbw;by_cases hlt:i<(k+1)
      ·have hid:i<ds.length:=by omega
       have hini:(i:Int)<(((k+1):Nat):Int):=by omega
       have hini2:(i:Int)<ds.length:=by omega
       have hi00:(0:Int)≤(i:Int):=by omega
       have hc1:=LO.cell1;have hf1:=LO.frozen 1;have hlt1:=LO.lt;obtain⟨d,hd⟩:∃ d,d=ds[i]:=⟨_,rfl⟩;have hx1:=(hbw.cell (p:=⟨g,off+i,none⟩) hg).trans (r0.out i hid);rw[← hd] at hx1;have hgr:g<wr.heap.size:=by have:=hbw.size;omega
       have n0:=zz (show ni (ds.take (i+1))=ni (ds.take i)++[(d:Int)] by rw[hd,List.take_succ_eq_append_getElem hid,ni_append];rfl);have hlen:(ni (ds.take i)).length=i:=by rw[ni_length];simp;omega
       have j0:=zz hlen;have hga:v.ownBlock≠some g:=fun e=>by have:=(World.ownsRow.lt ho.out g e).1;omega
       have hgo:v.ownBlock≠some w1.heap.size:=fun e=>by have:=(World.ownsRow.lt ho.out w1.heap.size e).1;omega
       have hgr0:v.ownBlock≠some w.heap.size:=fun e=>by have:=(World.ownsRow.lt ho.out w.heap.size e).1;omega
       have o0:Hid (∀ o:Obj,(wr.alloc o).drew.cell? ⟨g,off+i,none⟩=some (.int .i64 (d:Int))):=zz (fun o=>(World.cell?_of_block (w:=wr) (w':=(wr.alloc o).drew) (a:=⟨g,off+i,none⟩) (Below.heap_alloc wr o _ hgr)).trans hx1);clear hbw hd hlen;go_wp2;go_region_law (first
         | (refine step_append_lies _ (by rfl) _ _ _ (by rfl) (w1.heap.size+1) 3 i0 _ 1 8 Tryz.underlying29 hi hz0 hz1 hz2 rfl (by omega) v (ni (ds.take i)).length ((ni (ds.take i)).map (Value.int .i64)) (by rfl) ((OwnV.alloc ho.out _).drew) ⟨wr.heap.size,0,none⟩ 1 1 [.int .i64 (d:Int)] (by rfl) (by rfl) (World.news_of_block (cs:=#[.int .i64 (d:Int)]) (t:=3) (fr:=(0,0)) (heap_alloc_new wr _)) (by simp[Value.oneCell']) (by omega) (by have:=j0.out;unfold maxLen;omega) (by have:=j0.out;omega) (by have:=hszr.out;simp;omega) (wr.heap.size+1) (by simp) ?_;intro gg cap w4 hown4 hgrow hat hlt4;have M0:=LB.grown (LB.drew (LB.alloc L0 _)) hgrow hgr0;have M1:=LB.grown (LB.drew (LB.alloc LO _)) hgrow hgo;have qm1:=M1.cell1;have qm2:=M1.frozen 1;have qx4:w4.cell? ⟨g,off+i,none⟩=some (.int .i64 (d:Int)):=Eq.trans (hgrow.cell_far _ (by simp;omega) (Ne.symm hga)) (o0.out _)))
       all_goals
        have hv':OwnV w4 (w1.heap.size+1) (.slice (some ⟨gg,0,none⟩) ((ni (ds.take i)).length+1) cap) (ni (ds.take (i+1))):=by
         rw[n0.out];unfold OwnV;rw[List.length_append,List.map_append];exact hown4
        have HV:=zz (hv'.setBelow (p:=⟨w1.heap.size,1,none⟩) (by simp) (.slice (some ⟨gg,0,none⟩) ((ni (ds.take i)).length+1) cap));have N0:=M0.far (p:=⟨w1.heap.size,1,none⟩) (by simp;omega) (.slice (some ⟨gg,0,none⟩) ((ni (ds.take i)).length+1) cap);have N1:=M1.set1 (.slice (some ⟨gg,0,none⟩) ((ni (ds.take i)).length+1) cap);have c0:=zz ((((HB.out.alloc HB.out.size (.cells #[.int .i64 (d:Int)] 3)).drew).grown hgrow (by have:=HB.out.size;simp;omega) (fun g' e=>by have:=(World.ownsRow.lt ho.out g' e).1;omega)).setCell (p:=⟨w1.heap.size,1,none⟩) (by simp;omega) (.slice (some ⟨gg,0,none⟩) ((ni (ds.take i)).length+1) cap));have p0:=zz (show w1.heap.size+1≤(w4.setCell ⟨w1.heap.size,1,none⟩ (.slice (some ⟨gg,0,none⟩) ((ni (ds.take i)).length+1) cap)).heap.size by have h1:=hgrow.size;have h2:=hszr.out;simp[World.setCell] at h1 ⊢;omega);clear hown4 hgrow hat hlt4 M0 M1 qm1 qm2 hv';go_wp2;go_roundw
        case rel=>exact⟨i+1,_,by omega,by go_num,N0,N1,HV,p0,c0.out⟩
        case measure=>simp[intOf];omega
      ·obtain rfl:i=(k+1):=by omega
       have m0:=zz ho.out.ri;have hri:=ho.out.ri;obtain⟨A',c',rfl,-⟩:=hri;have g0:=zz (show ni (dig (sgn true (val ds)).natAbs)=ni (ds.take (k+1)) by rw[sgn_nat,HD.out]);have qa0:=LO.cell0;have qa1:=LO.cell1;have qb0:=L0.cell0;have qb1:=L0.cell1;have qb2:=L0.frozen 0;have qb3:=L0.frozen 1;have hlt1:=LO.lt;have hlt0:=L0.lt;clear hbw hlt;go_wp2;(try simp only[Exit.inBlock,Exit.then])
       exact end_own rfl L0 HB.out (Nat.le_refl _) (by rw[g0.out];exact ho.out) (by omega) (by rw[← HQ.out,← HD.out];(simp <;> omega)) rfl
theorem made_any (w:World) (neg:Bool) (v:Value) (ds:List Nat) (h:RN w w.heap.size v ds) (hs:Small ds) (hl:ds.length≤3000000000) :
  Calls Tryz.prog 114 #[.bool neg,v] w fun e w'=>Below w.heap.size w w'∧RetV w' (sgn neg (val ds)) e:=
 (made_own w neg v ds h hs hl).mono fun _ _ ⟨h1,h2⟩=>⟨h1,h2.any⟩
theorem below_undrew {B:Nat} {a w:World} (h:Below B a.drew w):Below B a w:=⟨h.os,h.tape,h.output,h.size,h.block⟩
theorem LV.parts {w:World} {B:Nat} {v:Value} {z:Int} (h:LV w B v z):∃ A c,v=.agg #[.bool (decide (z<0)),.slice A (dig z.natAbs).length c]∧RI w B (.slice A (dig z.natAbs).length c) (ni (dig z.natAbs)):=by
 obtain⟨s,rfl,hs⟩:=h;obtain⟨A,c,hv,hr⟩:=hs;rw[ni_length] at hv;subst hv;exact⟨A,c,rfl,A,c,by rw[ni_length],hr⟩
section
variable {w:World} {v:Value} {z:Int}
theorem LV.alloc (h:LV w w.heap.size v z) (o:Obj):LV (w.alloc o) (w.alloc o).heap.size v z:=h.step ((Below.refl _ _).alloc (Nat.le_refl _) o)
theorem LV.drew1 (h:LV w w.heap.size v z):LV w.drew w.drew.heap.size v z:=h
end
section
variable {w w':World} {b:Nat} {t:TypeId} {cs:Array Value}
def CB (w:World) (b:Nat) (t:TypeId) (cs:Array Value):Prop:=w.heap[b]?=some (.cells cs t (0,0))
theorem CB.lt (h:CB w b t cs):b<w.heap.size:=by
 unfold CB at h;exact(Array.getElem?_eq_some_iff.1 h).1
theorem CB.step (h:CB w b t cs) (hb:Below w.heap.size w w'):CB w' b t cs:=(hb.block b h.lt).trans h
theorem CB.drew (h:CB w b t cs):CB w.drew b t cs:=h
theorem CB.alloc (h:CB w b t cs) (o:Obj):CB (w.alloc o) b t cs:=(Below.heap_alloc w o b h.lt).trans h
theorem CB.far (h:CB w b t cs) {p:Addr} (hp:b≠p.block) (u:Value):CB (w.setCell p u) b t cs:=(Below.heap_setCell w p u b hp).trans h
theorem CB.new (w:World) (t:TypeId) (cs:Array Value):CB (w.alloc (.cells cs t)) w.heap.size t cs:=heap_alloc_new w _
theorem CB.cell (h:CB w b t cs) (j:Nat) {v:Value} (hv:cs[j]?=some v):w.cell? ⟨b,j,none⟩=some v:=by
 unfold CB at h;simp[World.cell?,h,hv]
theorem CB.frozen (h:CB w b t cs) (j:Nat):w.frozen? ⟨b,j,none⟩=false:=by
 unfold CB at h;simp[World.frozen?,h]
end
theorem below_alloc1 {W w:World} (h:Below W.heap.size W w) (o:Obj):Below W.heap.size W (w.alloc o):=h.alloc h.size o
theorem below_drew1 {B:Nat} {W w:World} (h:Below B W w):Below B W w.drew:=⟨h.os,h.tape,h.output,h.size,h.block⟩
theorem below_set1 {W w:World} {b:Nat} (h:Below W.heap.size W w) (hb:W.heap.size≤b) (k:Nat) (v:Value):Below W.heap.size W (w.setCell ⟨b,k,none⟩ v):=h.setCell (p:=⟨b,k,none⟩) hb v
theorem lb_far {w:World} {b b' k:Nat} {x y u:Value} (h:LB w b x y) (hne:b≠b'):LB (w.setCell ⟨b',k,none⟩ u) b x y:=h.far (p:=⟨b',k,none⟩) hne u
theorem RN.drew1 {w:World} {v:Value} {l:List Nat} (h:RN w w.heap.size v l):RN w.drew w.drew.heap.size v l:=h
theorem RN.stepN {w w':World} {v:Value} {l:List Nat} (h:RN w w.heap.size v l) (hb:Below w.heap.size w w'):RN w' w'.heap.size v l:=RI.step (show RI _ _ _ _ from h) hb
def Soft (w w':World):Prop:=w.heap.size≤w'.heap.size∧∀ p k x,w.cell? p=some (.int k x)→w'.cell? p=some (.int k x)
theorem Soft.refl (w:World):Soft w w:=⟨Nat.le_refl _,fun _ _ _ h=>h⟩
theorem Soft.trans {w w' w'':World} (h:Soft w w') (k:Soft w' w''):Soft w w'':=⟨Nat.le_trans h.1 k.1,fun p a x e=>k.2 p a x (h.2 p a x e)⟩
theorem cell_lt {w:World} {p:Addr} {v:Value} (h:w.cell? p=some v):p.block<w.heap.size:=by
 rcases Nat.lt_or_ge p.block w.heap.size with hlt | hge
 ·exact hlt
 ·simp only[World.cell?,Array.getElem?_eq_none hge] at h;cases h
theorem Soft.of {w w':World} (h:Below w.heap.size w w'):Soft w w':=⟨h.size,fun _ _ _ e=>(h.cell (cell_lt e)).trans e⟩
theorem Soft.set {w:World} {p:Addr} {u:Value} (hb:∀ q:Addr,q.block=p.block→∀ k x,w.cell? q≠some (.int k x)):Soft w (w.setCell p u):=by
 refine⟨by simp[World.setCell],fun q k x e=>?_⟩;by_cases hq:q.block=p.block
 ·exact absurd e (hb q hq k x)
 ·exact(World.cell?_of_block (Below.heap_setCell _ _ _ _ hq)).trans e
theorem RI.soft {w w':World} {v:Value} {l:List Int} (h:RI w w.heap.size v l) (hs:Soft w w'):RI w' w'.heap.size v l:=by
 obtain⟨A,c,hv,hc,hm,h0⟩:=h;refine⟨A,c,hv,hc,hm,fun hn=>?_⟩;obtain⟨g,off,hA,hg,hx⟩:=h0 hn;exact⟨g,off,hA,Nat.lt_of_lt_of_le hg hs.1,fun j hj=>hs.2 _ _ _ (hx j hj)⟩
theorem LR.soft {w w':World} {v:Value} {n:Bool} {l:List Int} (h:LR w w.heap.size v n l) (hs:Soft w w'):LR w' w'.heap.size v n l:=by
 obtain⟨s,hv,hr⟩:=h;exact⟨s,hv,hr.soft hs⟩
theorem LV.soft {w w':World} {v:Value} {z:Int} (h:LV w w.heap.size v z) (hs:Soft w w'):LV w' w'.heap.size v z:=LR.soft h hs
theorem LV.opened {w:World} {B:Nat} {v:Value} {z:Int} (h:LV w B v z):∃ n A l c,v=.agg #[.bool n,.slice A l c]∧LV w B (.agg #[.bool n,.slice A l c]) z:=by
 obtain⟨A,c,rfl,-⟩:=h.parts;exact⟨_,_,_,_,rfl,h⟩
theorem LV.is {w:World} {B:Nat} {n:Bool} {A:Option Addr} {l c:Nat} {z:Int} (h:LV w B (.agg #[.bool n,.slice A l c]) z):n=decide (z<0)∧l=(dig z.natAbs).length∧RN w B (.slice A l c) (dig z.natAbs):=by
 obtain⟨A',c',e,hr⟩:=h.parts;injection e with e
 simp at e
 obtain⟨e1,rfl,e2,rfl⟩:=e;exact⟨e1,e2,by rw[e2];exact hr⟩
theorem push_int {base:Nat} {l:List Int} {x:Int} {w':World} {v':Value}
  (h:w'.ownsRow base 3 1 v' (l.length+1) (l.map (Value.int .i64)++[.int .i64 x])):OwnV w' base v' (l++[x]):=by
 rw[OwnV,List.length_append,List.map_append];exact h
theorem RN.below {w w':World} {B:Nat} {v:Value} {l:List Nat} (h:RN w B v l) (hb:Below B w w'):RN w' B v l:=RI.below h hb
theorem RN.more {w:World} {B B':Nat} {v:Value} {l:List Nat} (h:RN w B v l) (hB:B≤B'):RN w B' v l:=RI.more h hB
theorem RN.digit {w:World} {B n c i:Nat} {A:Option Addr} {l:List Nat} (h:RN w B (.slice A n c) l) (hi:i<l.length):∃ g off,A=some ⟨g,off,none⟩∧w.cell? ⟨g,off+i,none⟩=some (.int .i64 (l.getD i 0:Nat)):=by
 obtain⟨A',c',e,-,-,h0⟩:=h.cell;injection e with e1 e2 e3
 subst e1;obtain⟨g,off,rfl,-,hx⟩:=h0 (by omega);exact⟨g,off,rfl,by rw[hx i hi,getD_get hi]⟩
theorem RN.digit' {w:World} {B n c i g off:Nat} {l:List Nat} (h:RN w B (.slice (some ⟨g,off,none⟩) n c) l) (hi:i<l.length):w.cell? ⟨g,off+i,none⟩=some (.int .i64 (l.getD i 0:Nat)):=by
 obtain⟨g',off',e,hx⟩:=h.digit hi;injection e with e
 injection e with e1 e2
 subst e1;subst e2;exact hx
theorem end_long {fn:Func} {p:Tmp} (hf:fn.results=#[.cell p 31]) {W w:World} {B b:Nat} {q0:Bool} {A:Option Addr} {n c:Nat} (hL:LB w b (.bool q0) (.slice A n c)) (hb:Below B W w) (hB:B≤b)
  {q:Bool} {A':Option Addr} {n' c':Nat} {z:Int} {tmps:Array Value} (hz:LV w w.heap.size (.agg #[.bool q,.slice A' n' c']) z) (hp:tmps.getD p undef=.pointer (some ⟨b,0,none⟩)) :
  bodyPost Tryz.prog fn (fun e w'=>Below B W w'∧RetV w' z e) .ret ⟨tmps,[]⟩ ((w.setCell ⟨b,0,none⟩ (.bool q)).setCell ⟨b,1,none⟩ (.slice A' n' c')):=
 end_one hf hL hb hB hz.is.2.2 hz.is.1 hp
theorem fld_digits (q:Bool) (s:Value) (w:World):(Instr.field 31 (.agg #[.bool q,s]) 1).run Tryz.prog w=.ok s w:=by kernel_rfl
theorem sgn_natAbs (z:Int):sgn (decide (z<0)) z.natAbs=z:=by
 by_cases h:z<0
 ·rw[decide_eq_true h];show -(z.natAbs:Int)=z;omega
 ·rw[decide_eq_false h];show(z.natAbs:Int)=z;omega
theorem sgn_not (z:Int):sgn (!decide (z<0)) z.natAbs=-z:=by
 by_cases h:z<0
 ·rw[decide_eq_true h];show(z.natAbs:Int)=-z;omega
 ·rw[decide_eq_false h];show -(z.natAbs:Int)=-z;omega
theorem RMinus_any (w:World) (v:Value) (z:Int) (h:LV w w.heap.size v z) (hl:(dig z.natAbs).length≤3000000000) :
  Calls Tryz.prog 111 #[v] w fun e w'=>Below w.heap.size w w'∧RetV w' (-z) e:=by
 obtain⟨A,c,rfl,hs⟩:=h.parts;have a0:=zz (((Below.refl w.heap.size w).alloc (Nat.le_refl _) (.cells #[.bool (decide (z<0)),.slice A (dig z.natAbs).length c] 31)).alloc (by simp) (.cells #[.bool false,.slice none 0 0] 31));have L1:LB ((w.alloc (.cells #[.bool (decide (z<0)),.slice A (dig z.natAbs).length c] 31)).alloc (.cells #[.bool false,.slice none 0 0] 31)) (w.heap.size+1) (.bool false) (.slice none 0 0):=by(repeat (first | (refine LB.new' ?_;simp;done) | refine LB.alloc ?_ _))
 have HS:=zz (hs.step a0.out);have HL:=zz hl;clear hs h hl;go_enter Tryz.func111,Tryz.ntmps111
 go_wp2_with fail
 refine(made_any _ _ _ (dig z.natAbs) HS.out (dig_small _) HL.out).mono ?_;rintro e w2 ⟨hb,v2,rfl,b0⟩;rw[val_dig,sgn_not] at b0;obtain⟨y,hy⟩:∃ y:Int,y=-z:=⟨_,rfl⟩;have HY:=zz hy;rw[← hy] at b0;obtain⟨A2,c2,rfl,hs2⟩:=b0.parts;have c0:=zz (a0.out.trans (hb.mono a0.out.size));have L2:=L1.step hb;have e0:=zz hs2;clear hs2 hb b0 a0 L1 HS hy;have q0:=L2.cell0;have q1:=L2.cell1;have q2:=L2.frozen 0;have q3:=L2.frozen 1;go_wp2;(try simp only[Exit.inBlock,Exit.then])
 rw[← HY.out];exact end_one rfl L2 c0.out (Nat.le_succ _) e0.out rfl rfl
end Go.Proofs.YtdigbofiebfkeaaGreatDoor
