/- What this law needs besides. -/
import Derived.Test.YtioclokmbgmamaaGreatDoorArgsQ
import Derived.Test.YtioclokmbgmamaaGreatDoorQS
import Derived.Test.YtioclokmbgmamaaGreatDoorQW
namespace Go.Proofs.YtioclokmbgmamaaGreatDoor
open Go Go.RowKit
theorem ni_set (l:List Nat) (j x:Nat):(ni l).set j (x:Int)=ni (l.set j x):=by simp[ni,List.map_set]
section
open Go
variable {w w':World} {b:Nat} {t:TypeId} {v u:Value}
end
end Go.Proofs.YtioclokmbgmamaaGreatDoor
namespace Go.Proofs.YtioclokmbgmamaaGreatDoor
open Go Go.RowKit Dig
def RetB (P:Bool→Prop) (e:Ending):Prop:=∃ b,e=.returned (.bool b)∧P b
def RightOf (neg:Bool) (ds:List Int) (b:Bool):Prop:=(Valid neg ds∧b=true)∨(¬ Valid neg ds∧b=false)
set_option maxRecDepth 100000 in
set_option maxHeartbeats 2000000 in
theorem Right_any (w:World) (v:Value) (neg:Bool) (ds:List Int) (h:LR w w.heap.size v neg ds) :
  Calls Tryz.prog 118 #[v] w fun e w'=>Below w.heap.size w w'∧RetB (RightOf neg ds) e:=by
 obtain⟨s,rfl,hs⟩:=h;obtain⟨A,c,rfl,hc,hc',hA⟩:=hs.at;have hlen:ds.length≤9223372036854775807:=by omega
 replace hA:=zz hA;clear hs;have a0:Below w.heap.size w (w.alloc (.cells #[.bool neg,.slice A ds.length c] 24)):=(Below.refl _ _).alloc (Nat.le_refl _) _;by_cases hz:ds.length=0
 ·have HZ:=zz hz;rw[hz];rw[hz] at a0;have HB:=zz a0;clear hz a0 hc hlen;go_enter Tryz.func118,Tryz.ntmps118
  go_wp2;go_ret;refine⟨HB.out,!neg,rfl,?_⟩;cases neg with
  | true=>exact .inr ⟨fun hv=>absurd (hv.zero HZ.out) (by decide),rfl⟩
  | false=>exact .inl ⟨⟨by have:=HZ.out;omega,fun j hj=>by have:=HZ.out;omega,fun hp=>by have:=HZ.out;omega,fun _=>rfl⟩,rfl⟩
 ·have hp:0<ds.length:=by omega
  have hnz:((ds.length:Int)==0)=false:=by rw[beq_eq_false_iff_ne];omega
  obtain⟨g,off,rfl,hg,hx⟩:=hA.out hp;replace hx:=zz hx;have HB:=zz a0;clear hz a0;go_enter Tryz.func118,Tryz.ntmps118
  go_wp2;go_loop [3] (fun i=>∃ k:Nat,k≤ds.length∧i=.int .i64 k∧Hid (∀ j,j<k→0≤at0 ds j∧at0 ds j<1000000000)) (fun i=>ds.length-(intOf i).toNat)
  case atStart=>exact⟨0,by omega,rfl,zz (fun j hj=>absurd hj (by omega))⟩
  case round=>
   obtain⟨k,hk,rfl,hd⟩:=hrel;by_cases hlk:k<ds.length
   ·have h1:=(HB.out.cell (p:=⟨g,off+k,none⟩) hg).trans (hx.out k hlk);obtain⟨x,hx0⟩:∃ x,x=at0 ds k:=⟨_,rfl⟩;rw[← hx0] at h1;have c0:=zz hx0;clear hx0;by_cases hneg:x<0
    ·go_wp2;go_ret;exact⟨HB.out,false,rfl,.inr ⟨fun hv=>by have:=hv.small k hlk;rw[← c0.out] at this;omega,rfl⟩⟩
    ·by_cases hbig:1000000000≤x
     ·go_wp2;go_ret;exact⟨HB.out,false,rfl,.inr ⟨fun hv=>by have:=hv.small k hlk;rw[← c0.out] at this;omega,rfl⟩⟩
     ·have hneg':0≤x:=by omega
      have hbig':x<1000000000:=by omega
      clear hneg hbig;go_wp2;go_round
      case rel=>
       refine⟨k+1,by omega,by go_num,zz (fun j hj=>?_)⟩;rcases Nat.lt_or_ge j k with h | h
       ·exact hd.out j h
       ·obtain rfl:j=k:=by omega
        rw[← c0.out];exact⟨hneg',hbig'⟩
      case measure=>simp[intOf];omega
   ·obtain rfl:k=ds.length:=by omega
    have h1:=(HB.out.cell (p:=⟨g,off+(ds.length-1),none⟩) hg).trans (hx.out (ds.length-1) (by omega));obtain⟨t,ht⟩:∃ t,t=at0 ds (ds.length-1):=⟨_,rfl⟩;rw[← ht] at h1;have HT:=zz ht;clear ht;by_cases h6:ds.length≤600
    ·by_cases ht0:t=0
     ·subst ht0;go_wp2;go_ret;exact⟨HB.out,false,rfl,.inr ⟨fun hv=>hv.top hp HT.out.symm,rfl⟩⟩
     ·have ht1:(t != 0)=true:=by rw[bne_iff_ne];exact ht0
      have f0:=zz ht0;clear ht0;go_wp2;go_ret;exact⟨HB.out,true,rfl,.inl ⟨⟨h6,hd.out,fun _=>by rw[← HT.out];exact f0.out,fun h0=>by omega⟩,rfl⟩⟩
    ·have h6':decide ((ds.length:Int)≤600)=false:=by simp;omega
     go_wp2;go_ret;exact⟨HB.out,false,rfl,.inr ⟨fun hv=>h6 hv.len,rfl⟩⟩
set_option maxRecDepth 100000 in
set_option maxHeartbeats 2000000 in
theorem SameR_any (w:World) (va vb:Value) (na nb:Bool) (l m:List Int) (ha:LR w w.heap.size va na l) (hb:LR w w.heap.size vb nb m) :
  Calls Tryz.prog 20 #[va,vb] w fun e w'=>Below w.heap.size w w'∧e=.returned (.bool (decide (na=nb∧l=m))):=by
 obtain⟨s,rfl,hs⟩:=ha;obtain⟨t,rfl,ht⟩:=hb;obtain⟨A,ca,rfl,hca,hca',hA⟩:=hs.at;obtain⟨Bb,cb,rfl,hcb,hcb',hB⟩:=ht.at;have hla:l.length≤9223372036854775807:=by omega
 have hlb:m.length≤9223372036854775807:=by omega
 replace hA:=zz hA;replace hB:=zz hB;clear hs ht;have b0:Below w.heap.size w ((w.alloc (.cells #[.bool na,.slice A l.length ca] 24)).alloc (.cells #[.bool nb,.slice Bb m.length cb] 24)):=((Below.refl _ _).alloc (Nat.le_refl _) _).alloc (by simp) _;have a0:=zz b0;clear b0;by_cases hn:na=nb
 ·subst hn;have hq:(na != na)=false:=by simp
  by_cases hne:l.length=m.length
  ·have HL:=zz hne;have hle:(l.length:Int)≤m.length:=by omega
   have hge:(m.length:Int)≤l.length:=by omega
   have hbq:((l.length:Int) != (m.length:Int))=false:=by simp;omega
   clear hne;go_enter Tryz.func20,Tryz.ntmps20
   go_wp2;go_loopw [5] (fun i wr=>∃ k nn:Nat,k≤l.length∧i=.int .i64 k∧Hid (∀ j,j<k→at0 l j=at0 m j)∧wr=((w.alloc (.cells #[.bool na,.slice A l.length ca] 24)).alloc (.cells #[.bool na,.slice Bb m.length cb] 24)).drewN nn) (fun i _=>l.length-(intOf i).toNat)
   case atStart=>exact⟨0,0,by omega,rfl,zz (fun j hj=>absurd hj (by omega)),rfl⟩
   case round=>
    obtain⟨k,nn,hk,rfl,hd,rfl⟩:=hrel;have c0:=zz (below_drewN a0.out nn);by_cases hlk:k<l.length
    ·obtain⟨g,off,rfl,hg,hx⟩:=hA.out (by omega);obtain⟨g',off',rfl,hg',hx'⟩:=hB.out (by omega);have h1:=(c0.out.cell (p:=⟨g,off+k,none⟩) hg).trans (hx k hlk);have h2:=(c0.out.cell (p:=⟨g',off'+k,none⟩) hg').trans (hx' k (by omega));rw[World.cell?_drewN] at h1 h2;obtain⟨x,hx0⟩:∃ x,x=at0 l k:=⟨_,rfl⟩;obtain⟨y,hy0⟩:∃ y,y=at0 m k:=⟨_,rfl⟩;rw[← hx0] at h1;rw[← hy0] at h2;have d0:=zz hx0;have e0:=zz hy0;clear hx0 hy0 hx hx';go_wp2;go_quiet (fail)
     go_wp2
     ·have hxy:x≠y:=bne_yes (by assumption);go_ret;refine⟨by first | exact below_drewN a0.out _ | exact below_drewN (below_drewN a0.out _) _,?_⟩;have hne:l≠m:=take_ne (by rw[← d0.out,← e0.out];exact hxy)
      first | (rw[decide_eq_false hne];rfl) | (rw[decide_eq_false (fun e=>hne e.2)];rfl)
     ·have hxy:x=y:=bne_no (by assumption);have f0:=zz hxy;clear hxy;go_roundw
      case rel=>
       refine⟨k+1,_,by omega,by go_num,zz (fun j hj=>?_),rfl⟩;rcases Nat.lt_or_ge j k with h | h
       ·exact hd.out j h
       ·obtain rfl:j=k:=by omega
        rw[← d0.out,← e0.out,f0.out]
      case measure=>simp[intOf];omega
    ·obtain rfl:k=l.length:=by omega
     go_wp2;go_ret;refine⟨c0.out,?_⟩;have heq:l=m:=eq_of_at HL.out hd.out
     first | (rw[decide_eq_true heq];rfl) | (rw[decide_eq_true (show True∧l=m from⟨trivial,heq⟩)];rfl)
  ·have hbq:((l.length:Int) != (m.length:Int))=true:=by simp;omega
   have g0:=zz hne;clear hne;go_enter Tryz.func20,Tryz.ntmps20
   go_wp2;go_ret;refine⟨a0.out,?_⟩;have hne:l≠m:=fun e=>g0.out (by rw[e])
   first | (rw[decide_eq_false hne];rfl) | (rw[decide_eq_false (fun e=>hne e.2)];rfl)
 ·have hq:(na != nb)=true:=by simpa using hn
  have HN:=zz hn;clear hn;go_enter Tryz.func20,Tryz.ntmps20
  go_wp2;go_ret;refine⟨a0.out,?_⟩;rw[decide_eq_false (fun e=>HN.out e.1)]
  rfl
end Go.Proofs.YtioclokmbgmamaaGreatDoor
namespace Go.Proofs.YtioclokmbgmamaaGreatDoor.Dig
open Go.Lib
def numR (l:List UInt8):Nat:=num l.reverse
theorem numR_snoc (l:List UInt8) (c:UInt8):numR (l++[c])=(c.toNat-48)*10 ^ l.length+numR l:=by
 unfold numR;rw[List.reverse_append,List.reverse_singleton,List.singleton_append,num_cons,List.length_reverse]
theorem AllDig.reverse {l:List UInt8} (h:AllDig l):AllDig l.reverse:=fun x hx=>h x (List.mem_reverse.1 hx)
structure DecI (ds:List Nat) (i k d:Nat) (out:List UInt8):Prop where
 len:out.length=9*i+k
 all:AllDig out
 sum:numR out+10 ^ (9*i+k)*d=val (ds.take i)+bp i*ds.getD i 0
 low:d<10 ^ (9-k)
theorem DecI.step {ds:List Nat} {i k d:Nat} {out:List UInt8} (h:DecI ds i k d out) (hk:k<9):DecI ds i (k+1) (d / 10) (out++[UInt8.ofNat (48+d % 10)]):=by
 have h10:d % 10<10:=Nat.mod_lt _ (by omega);have hc:=ofNat_dig h10;refine⟨by rw[List.length_append,h.len];simp <;> omega,h.all.append (AllDig.cons ⟨by rw[hc];omega,by rw[hc];omega⟩ AllDig.nil),?_,?_⟩
 ·rw[numR_snoc,hc,h.len,← h.sum,show 9*i+(k+1)=(9*i+k)+1 from rfl,Nat.pow_succ];generalize 10 ^ (9*i+k)=p;have h1:=Nat.div_add_mod d 10;generalize d / 10=q at *
  generalize d % 10=r at *
  rw[← h1,Nat.mul_add,Nat.mul_assoc,show 48+r-48=r by omega,Nat.mul_comm r p]
  omega
 ·have h1:=h.low;rw[show 9-k=(9-(k+1))+1 by omega,Nat.pow_succ] at h1
  omega
structure DecO (ds:List Nat) (i:Nat) (out:List UInt8):Prop where
 len:out.length=9*i
 all:AllDig out
 sum:numR out=val (ds.take i)
theorem DecO.start (ds:List Nat):DecO ds 0 []:=⟨rfl,AllDig.nil,rfl⟩
theorem DecO.enter {ds:List Nat} {i:Nat} {out:List UInt8} (h:DecO ds i out) (hi:i<ds.length) (hs:Small ds):DecI ds i 0 ds[i] out:=by
 refine⟨by rw[h.len];rfl,h.all,?_,by have:=hs _ (List.getElem_mem hi);simpa using this⟩;rw[h.sum,getD_get hi,bp_ten,Nat.add_zero]
theorem DecI.leave {ds:List Nat} {i d:Nat} {out:List UInt8} (h:DecI ds i 9 d out):DecO ds (i+1) out:=by
 have h0:d=0:=by have:=h.low;simp at this;omega
 subst h0;have h1:=h.sum;refine⟨by rw[h.len];omega,h.all,?_⟩;rw[val_take_any,← h1];simp
theorem numR_cut {l:List UInt8}:numR (l++[48])=numR l:=by rw[numR_snoc];simp
theorem dec_end {l:List UInt8} {n:Nat} (ha:AllDig l) (hs:numR l=n) (hl:l.getLast?≠some 48) (hn:n≠0):l.reverse=decDigits n:=by
 have h1:l.reverse≠[]:=fun e=>by
  rw[numR,e] at hs;exact hn hs.symm
 cases hr:l.reverse with
 | nil=>exact absurd hr h1
 | cons c r=>
  have h2:l=r.reverse++[c]:=by rw[← List.reverse_reverse l,hr,List.reverse_cons]
  have h3:c≠48:=fun e=>hl (by rw[h2,e];simp)
  rw[← hr];exact(dd_of hr ha.reverse h3 hs).symm
theorem canon_iff (s:List UInt8):(canon s).isSome=true↔(s=[48]∨∃ c r,bare s=c :: r∧AllDig (bare s)∧c≠48):=by
 constructor
 ·intro h;obtain⟨z,hz⟩:=Option.isSome_iff_exists.1 h;have e:=canon_some hz;by_cases h0:z=0
  ·left;rw[← e,h0];exact dd_zero
  ·right
   obtain⟨c,r,h1,h2⟩:=dd_head (show z.natAbs≠0 by omega);have hb:bare s=decDigits z.natAbs:=by rw[← e,bare_itoa]
   exact⟨c,r,by rw[hb,h1],by rw[hb];exact dd_all _,h2⟩
 ·rintro(h | ⟨c,r,h1,h2,h3⟩)
  ·rw[h,canon_zero];rfl
  ·rw[canon_num h1 h2 h3];rfl
structure ParI (t:List UInt8) (i:Nat) (d:List Nat):Prop where
 len:9*d.length<i+9
 room:i≤9*d.length
 small:Small d
 top:val d<10 ^ i
 sum:val d=num (t.drop (t.length-i))
theorem ParI.start (t:List UInt8):ParI t 0 []:=⟨by simp,by simp,Small.nil,by simp[val],by simp[num,val]⟩
def dgt (t:List UInt8) (i:Nat):Nat:=(t.getD (t.length-1-i) 48).toNat-48
theorem num_drop_next {t:List UInt8} {i:Nat} (hi:i<t.length):num (t.drop (t.length-(i+1)))=dgt t i*10 ^ i+num (t.drop (t.length-i)):=by
 have h1:t.length-(i+1)<t.length:=by omega
 have h2:t.drop (t.length-(i+1))=t[t.length-(i+1)] :: t.drop (t.length-i):=by
  rw[List.drop_eq_getElem_cons h1,show t.length-(i+1)+1=t.length-i by omega]
 rw[h2,num_cons,List.length_drop,dgt,show t.length-1-i=t.length-(i+1) by omega,List.getD_eq_getElem?_getD,List.getElem?_eq_getElem h1,show t.length-(t.length-i)=i by omega]
 rfl
theorem dgt_lt {t:List UInt8} (ha:AllDig t) {i:Nat} (hi:i<t.length):dgt t i<10:=by
 have h1:t.length-1-i<t.length:=by omega
 have h2:=(ha _ (List.getElem_mem h1)).2;unfold dgt;rw[List.getD_eq_getElem?_getD,List.getElem?_eq_getElem h1]
 show(t[t.length-1-i]).toNat-48<10
 omega
theorem ten_split (i:Nat):10 ^ i=bp (i / 9)*10 ^ (i % 9):=by
 rw[bp_ten,← Nat.pow_add,Nat.div_add_mod]
theorem ParI.grow {t:List UInt8} {i:Nat} {d:List Nat} (h:ParI t i d) (h9:i % 9=0) (hi:i<t.length) (ha:AllDig t):ParI t (i+1) (d++[dgt t i]):=by
 have h1:=h.len;have h2:=h.room;have hd:d.length=i / 9:=by omega
 have hg:=dgt_lt ha hi;have hs:val (d++[dgt t i])=num (t.drop (t.length-(i+1))):=by
  rw[val_snoc,h.sum,num_drop_next hi,hd,ten_split i,h9];simp;rw[Nat.mul_comm,Nat.add_comm]
 refine⟨by simp;omega,by simp;omega,h.small.append (Small.cons (by omega) Small.nil),?_,hs⟩;rw[hs];have h3:=num_lt (ha.drop (t.length-(i+1)));rw[List.length_drop,show t.length-(t.length-(i+1))=i+1 by omega] at h3;exact h3
theorem ParI.add {t:List UInt8} {i:Nat} {d:List Nat} (h:ParI t i d) (h9:i % 9≠0) (hi:i<t.length) (ha:AllDig t) :
  ∃ hk:i / 9<d.length,d[i / 9]+dgt t i*10 ^ (i % 9)<1000000000∧ParI t (i+1) (d.set (i / 9) (d[i / 9]+dgt t i*10 ^ (i % 9))):=by
 have h1:=h.len;have h2:=h.room;have hd:d.length=i / 9+1:=by omega
 have hk:i / 9<d.length:=by omega
 have hg:=dgt_lt ha hi;have hsplit:=val_split d (i / 9) (by omega);rw[List.drop_eq_getElem_cons hk,List.drop_eq_nil_of_le (by omega)] at hsplit;have hv:val d=val (d.take (i / 9))+bp (i / 9)*d[i / 9]:=by rw[hsplit];simp[val]
 have htop:=h.top;rw[ten_split i,hv] at htop;have hlow:d[i / 9]<10 ^ (i % 9):=by
  apply Nat.lt_of_not_le;intro hc
  have:=Nat.mul_le_mul_left (bp (i / 9)) hc
  omega
 have hp:10 ^ (i % 9)*10≤1000000000:=by
  have h3:(10:Nat) ^ (i % 9+1)≤10 ^ 9:=Nat.pow_le_pow_right (by omega) (by omega);rw[Nat.pow_succ] at h3;omega
 have hn:d[i / 9]+dgt t i*10 ^ (i % 9)<1000000000:=by
  have h4:dgt t i*10 ^ (i % 9)≤9*10 ^ (i % 9):=Nat.mul_le_mul_right _ (by omega)
  omega
 refine⟨hk,hn,by rw[List.length_set];omega,by rw[List.length_set];omega,?_,?_,?_⟩
 ·intro x hx;rcases List.mem_or_eq_of_mem_set hx with hx | hx
  ·exact h.small x hx
  ·rw[hx];exact hn
 all_goals
  have e:val (d.set (i / 9) (d[i / 9]+dgt t i*10 ^ (i % 9)))=num (t.drop (t.length-(i+1))):=by
   rw[num_drop_next hi,← h.sum,hv];have h5:=val_split (d.set (i / 9) (d[i / 9]+dgt t i*10 ^ (i % 9))) (i / 9) (by rw[List.length_set];omega);rw[h5,List.take_set_of_le (Nat.le_refl _),List.drop_eq_getElem_cons (by rw[List.length_set];exact hk),List.drop_eq_nil_of_le (by rw[List.length_set];omega),List.getElem_set_self];simp only[val_cons,val_nil]
   rw[ten_split i];generalize bp (i / 9)=p;generalize d[i / 9]=x;generalize dgt t i=y;generalize 10 ^ (i % 9)=z;have:p*(x+y*z+1000000000*0)=p*x+y*(p*z):=by
    rw[Nat.mul_zero,Nat.add_zero,Nat.mul_add,Nat.mul_left_comm p y z]
   omega
 ·rw[e];have h3:=num_lt (ha.drop (t.length-(i+1)));rw[List.length_drop,show t.length-(t.length-(i+1))=i+1 by omega] at h3;exact h3
 ·exact e
theorem ParI.fin {t:List UInt8} {d:List Nat} (h:ParI t t.length d):val d=num t:=by
 have:=h.sum;rw[Nat.sub_self,List.drop_zero] at this;exact this
end Go.Proofs.YtioclokmbgmamaaGreatDoor.Dig
namespace Go.Proofs.YtioclokmbgmamaaGreatDoor
open Go Go.RowKit Dig
def cmpZ (a b:Int):Int × Int:=(if a<b then -1 else if a=b then 0 else 1,0)
theorem LR.num {w:World} {B:Nat} {v:Value} {n:Bool} {l:List Int} (h:LR w B v n l) (hv:Valid n l):∃ z:Int,numOf n l=some z∧LV w B v z∧(dig z.natAbs).length≤600:=by
 obtain⟨z,h1,h2,h3,h4⟩:=numOf_valid hv;refine⟨z,h1,?_,h4⟩;rw[h2,h3] at h;exact h
set_option maxRecDepth 100000 in
set_option maxHeartbeats 4000000 in
theorem QText_bad (w:World) (va:Value) (n m:Bool) (a b:List Int) (ha:QR w w.heap.size va n a m b) (hbad:qOf n a m b=none) :
  Calls Tryz.prog 29 #[va] w fun e w'=>Below w.heap.size w w'∧RetT none e:=by
 obtain⟨A,l,c,A',l',c',rfl,ha⟩:=RI.of ha;have HA:=zz ha;have HC:=zz hbad;clear ha hbad;obtain⟨w0,hw0⟩:∃ w0:World,w0=(w.alloc (.cells #[.bool n,.slice A l c,.bool m,.slice A' l' c'] 26)):=⟨_,rfl⟩;have B0:=zz (n1_b hw0);have z0:=n1_z hw0;have La:=n1_0 hw0;replace HA:=zz (QR.step HA.out B0.out);go_enter Tryz.func29,Tryz.ntmps29
 go_upto_region 1 with (fail)
 rw[← hw0];clear hw0;have b0:=La.cell 0 rfl;have c0:=La.cell 1 rfl;have d0:=La.cell 2 rfl;have e0:=La.cell 3 rfl;have g0:=La.lt;go_wp2_with fail
 refine(QCheck_no HA.out HC.out).mono ?_;rintro e w1 ⟨a0,rfl⟩;have B3:=zz a0;have z3:=B3.out.size;have f0:=zz (B0.out.trans (B3.out.mono B0.out.size));clear a0;clear b0 c0 d0 e0 g0;go_wp2;go_ret2;exact⟨f0.out,rfl⟩
theorem QText_any (w:World) (va:Value) (n m:Bool) (a b:List Int) (ha:QR w w.heap.size va n a m b) (G:Glob w) :
  Calls Tryz.prog 29 #[va] w fun e w'=>Below w.heap.size w w'∧RetT (qOf n a m b) e:=by
 rcases h1:qOf n a m b with _ | q
 ·exact QText_bad w va n m a b ha h1
 ·exact QText_good w va q (QR.valid ha h1).1 (QR.valid ha h1).2 G
theorem Right_good {w:World} {v:Value} {n:Bool} {l:List Int} (h:LR w w.heap.size v n l) (hv:Valid n l) :
  Calls Tryz.prog 118 #[v] w fun e w'=>Below w.heap.size w w'∧e=.returned (.bool true):=by
 refine(Right_any w v _ _ h).mono ?_;rintro e w' ⟨hw,b,rfl,hc⟩;rcases hc with ⟨_,hc⟩ | ⟨hn,_⟩
 ·exact⟨hw,by rw[hc]⟩
 ·exact absurd hv hn
theorem Right_bad {w:World} {v:Value} {n:Bool} {l:List Int} (h:LR w w.heap.size v n l) (hv:¬ Valid n l) :
  Calls Tryz.prog 118 #[v] w fun e w'=>Below w.heap.size w w'∧e=.returned (.bool false):=by
 refine(Right_any w v _ _ h).mono ?_;rintro e w' ⟨hw,b,rfl,hc⟩;rcases hc with ⟨hn,_⟩ | ⟨_,hc⟩
 ·exact absurd hn hv
 ·exact⟨hw,by rw[hc]⟩
theorem ord_num (x y:Int):(cmpZ x y).1=if x=y then 0 else if x<y then -1 else 1:=by
 unfold cmpZ;dsimp only;by_cases h:x=y
 ·subst h;simp
 ·rw[if_neg h];split <;> rfl
theorem ord_below {x y:Int} (hn:decide (x<0)=decide (y<0)) (h:x≠y):(!(decide (x.natAbs<y.natAbs)==decide (x<0)))=decide (x<y):=by
 by_cases hx:x<0
 ·have hy:y<0:=by simpa[hx] using hn
  rw[decide_eq_true hx];by_cases h1:x<y
  ·rw[decide_eq_true h1,decide_eq_false (by omega)];rfl
  ·rw[decide_eq_false h1,decide_eq_true (by omega)];rfl
 ·have hy:¬ y<0:=by simpa[hx] using hn
  rw[decide_eq_false hx];by_cases h1:x<y
  ·rw[decide_eq_true h1,decide_eq_true (by omega)];rfl
  ·rw[decide_eq_false h1,decide_eq_false (by omega)];rfl
theorem ord_sign {x y:Int} (hn:decide (x<0)≠decide (y<0)):decide (x<0)=decide (x<y):=by
 by_cases hx:x<0 <;> by_cases hy:y<0
 ·rw[decide_eq_true hx,decide_eq_true hy] at hn;exact absurd rfl hn
 ·rw[decide_eq_true hx,decide_eq_true (by omega)]
 ·rw[decide_eq_false hx,decide_eq_false (by omega)]
 ·rw[decide_eq_false hx,decide_eq_false hy] at hn;exact absurd rfl hn
theorem SameR_num {w:World} {va vb:Value} {x y:Int} (ha:LV w w.heap.size va x) (hb:LV w w.heap.size vb y) :
  Calls Tryz.prog 20 #[va,vb] w fun e w'=>Below w.heap.size w w'∧e=.returned (.bool (decide (x=y))):=by
 refine(SameR_any w va vb _ _ _ _ ha hb).mono ?_;rintro e w' ⟨hw,he⟩;have:(decide (x<0)=decide (y<0)∧ni (dig x.natAbs)=ni (dig y.natAbs))↔x=y:=⟨fun h=>lv_inj h.1 h.2,fun h=>by rw[h];exact⟨rfl,rfl⟩⟩;exact⟨hw,by rw[he,show decide (decide (x<0)=decide (y<0)∧ni (dig x.natAbs)=ni (dig y.natAbs))=decide (x=y) from decide_eq_decide.2 this]⟩
set_option maxRecDepth 100000 in
set_option maxHeartbeats 4000000 in
theorem ROrder_any (w:World) (va vb:Value) (x y:Int) (ha:LV w w.heap.size va x) (hb:LV w w.heap.size vb y) :
  Calls Tryz.prog 63 #[va,vb] w fun e w'=>Below w.heap.size w w'∧e=.returned (.int .i64 (cmpZ x y).1):=by
 obtain⟨na,A1,l1,c1,rfl,HA⟩:=ha.opened;obtain⟨nb,A2,l2,c2,rfl,HB⟩:=hb.opened;clear ha hb;obtain⟨w0,hw0⟩:∃ w0:World,w0=(w.alloc (.cells #[.bool na,.slice A1 l1 c1] 24)).alloc (.cells #[.bool nb,.slice A2 l2 c2] 24):=⟨_,rfl⟩;have a0:=zz (show Below w.heap.size w w0 by rw[hw0];(repeat' (first | exact Below.refl _ _ | refine Below.drew ?_ | refine Below.alloc ?_ (by first | exact Nat.le_refl _ | (simp;done) | (simp;omega)) _)));have L0:LB w0 w.heap.size (.bool na) (.slice A1 l1 c1):=by rw[hw0];(repeat (first | (refine LB.new' ?_;simp;done) | refine LB.alloc ?_ _))
 have L1:LB w0 (w.heap.size+1) (.bool nb) (.slice A2 l2 c2):=by rw[hw0];(repeat (first | (refine LB.new' ?_;simp;done) | refine LB.alloc ?_ _))
 replace HA:=zz (HA.step a0.out);replace HB:=zz (HB.step a0.out);have hna:=HA.out.is.1;have hnb:=HB.out.is.1;have i0:=zz HA.out.is.2.2;have j0:=zz HB.out.is.2.2;obtain⟨r,hr⟩:∃ r,r=(cmpZ x y).1:=⟨_,rfl⟩;rw[← hr];rw[ord_num] at hr;subst hw0;by_cases hxy:x=y
 ·have HR:=zz (show r=0 by rw[hr,if_pos hxy]);have HD:=zz (decide_eq_true hxy);clear hna hnb hr hxy;go_enter Tryz.func63,Tryz.ntmps63
  go_wp2_with fail
  refine(SameR_num HA.out HB.out).mono ?_;rintro e w1 ⟨b0,rfl⟩;rw[HD.out];have c0:=zz (a0.out.trans (b0.mono a0.out.size));clear b0;go_wp2;go_ret;rw[HR.out];exact⟨c0.out,rfl⟩
 ·have HD:=zz (decide_eq_false hxy);have HR:=zz (show r=if x<y then -1 else 1 by rw[hr,if_neg hxy]);by_cases hn:na=nb
  ·subst hn;have o0:=zz (show(!(decide (x.natAbs<y.natAbs)==na))=decide (x<y) by rw[hna];exact ord_below (hna.symm.trans hnb) hxy);clear hna hnb hr hxy;obtain⟨ls,hls⟩:∃ ls,ls=decide (x.natAbs<y.natAbs):=⟨_,rfl⟩;rw[← hls] at o0;have s0:=zz hls;clear hls;go_enter Tryz.func63,Tryz.ntmps63
   go_wp2_with fail
   refine(SameR_num HA.out HB.out).mono ?_;rintro e w1 ⟨b0,rfl⟩;rw[HD.out];have HU:=zz b0;clear b0;have M0:=L0.step HU.out;have M1:=L1.step HU.out;have c0:=zz (a0.out.trans (HU.out.mono a0.out.size));have k0:=zz (RN.stepN i0.out HU.out);have l0:=zz (RN.stepN j0.out HU.out);clear L0 L1 a0 HA HB i0 j0 HU;have q00:=M0.cell0;have q01:=M0.cell1;have q10:=M1.cell0;have q11:=M1.cell1;go_wp2_with fail
   have KS:∀ w':World,Below w1.heap.size w1 w'→(Below w1.heap.size w1 w'∧w'.cell? ⟨w.heap.size,0,none⟩=some (.bool na)∧w'.cell? ⟨w.heap.size,1,none⟩=some (.slice A1 l1 c1)∧w'.cell? ⟨w.heap.size+1,1,none⟩=some (.slice A2 l2 c2)):=fun w' h=>⟨h,(M0.step h).cell0,(M0.step h).cell1,(M1.step h).cell1⟩
   have KB:∀ w':World,(Below w1.heap.size w1 w'∧w'.cell? ⟨w.heap.size,0,none⟩=some (.bool na)∧w'.cell? ⟨w.heap.size,1,none⟩=some (.slice A1 l1 c1)∧w'.cell? ⟨w.heap.size+1,1,none⟩=some (.slice A2 l2 c2))→Below w1.heap.size w1 w':=fun w' h=>h.1
   go_region_held3 (fun w'=>Below w1.heap.size w1 w'∧w'.cell? ⟨w.heap.size,0,none⟩=some (.bool na)∧w'.cell? ⟨w.heap.size,1,none⟩=some (.slice A1 l1 c1)∧w'.cell? ⟨w.heap.size+1,1,none⟩=some (.slice A2 l2 c2)) (first
    | (refine KS _ ?_;repeat (first | with_reducible exact KU.out | with_reducible exact Below.refl _ _ | with_reducible refine below_drew1 ?_))
    | go_keep) (first
    | (go_at_call 120;((with_reducible refine(RLess_any _ _ _ x.natAbs y.natAbs (by exact RN.stepN k0.out (KB _ (by assumption))) (by exact RN.stepN l0.out (KB _ (by assumption)))).mono ?_);rintro e u ⟨hbu,rfl⟩;rw[← s0.out];have KU:=zz (Below.trans (KB _ (by assumption)) (hbu.mono (KB _ (by assumption)).size));clear hbu)))
   rename_i hheld
   have p0:=zz (c0.out.trans (KU.out.mono c0.out.size));clear hheld KS KB KU M0 M1 k0 l0 c0 q00 q01 q10 q11;rw[o0.out];by_cases hlt:x<y
   ·rw[decide_eq_true hlt];have e0:=zz (show r=-1 by rw[HR.out,if_pos hlt]);clear hlt;simp only[Exit.then]
    go_wp2;go_ret;rw[e0.out];exact⟨p0.out,rfl⟩
   ·rw[decide_eq_false hlt];have e0:=zz (show r=1 by rw[HR.out,if_neg hlt]);clear hlt;simp only[Exit.then]
    go_wp2;go_ret;rw[e0.out];exact⟨p0.out,rfl⟩
  ·have hnn:(na==nb)=false:=by rw[beq_eq_false_iff_ne];exact hn
   have q0:=zz (show na=decide (x<y) by rw[hna];exact ord_sign (by rw[← hna,← hnb];exact hn));clear hna hnb hr hxy hn;go_enter Tryz.func63,Tryz.ntmps63
   go_wp2_with fail
   refine(SameR_num HA.out HB.out).mono ?_;rintro e w1 ⟨b0,rfl⟩;rw[HD.out];have HU:=zz b0;clear b0;have M0:=L0.step HU.out;have M1:=L1.step HU.out;have c0:=zz (a0.out.trans (HU.out.mono a0.out.size));clear L0 L1 a0 HA HB i0 j0 HU;have q00:=M0.cell0;have q01:=M0.cell1;have q10:=M1.cell0;have q11:=M1.cell1;cases na with
   | true=>
    have e0:=zz (show r=-1 by rw[HR.out,if_pos (of_decide_eq_true q0.out.symm)]);go_wp2;go_ret;rw[e0.out];exact⟨c0.out,rfl⟩
   | false=>
    have e0:=zz (show r=1 by rw[HR.out,if_neg (of_decide_eq_false q0.out.symm)]);go_wp2;go_ret;rw[e0.out];exact⟨c0.out,rfl⟩
theorem byte_info:(Tryz.prog.info? 5).map (fun i=>(i.zero,i.size,i.bytes))=some (some (.int .u8 0),1,1):=by kernel_rfl
def OwnBV (w:World) (base:Nat) (v:Value) (l:List UInt8):Prop:=w.ownsRow base 5 1 v l.length (Lib.byteCells l)
def OwnB (w:World) (g:Nat) (l:List UInt8):Prop:=∃ tail:List Value,w.heap[g]?=some (.cells (Lib.byteCells l++tail).toArray 5 (0,0))
section
variable {w w':World} {base g:Nat} {v:Value} {l:List UInt8}
theorem OwnB.lt (h:OwnB w g l):g<w.heap.size:=by
 obtain⟨tail,h⟩:=h;rcases Nat.lt_or_ge g w.heap.size with hlt | hge
 ·exact hlt
 ·rw[Array.getElem?_eq_none hge] at h;cases h
theorem bytes_at (l:List UInt8) (j:Nat) (hj:j<l.length):(Lib.byteCells l)[j]?=some (.int .u8 (l[j].toNat:Int)):=by
 simp[Lib.byteCells,hj]
theorem OwnB.cell (h:OwnB w g l) (j:Nat) (hj:j<l.length):w.cell? ⟨g,j,none⟩=some (.int .u8 (l[j].toNat:Int)):=by
 obtain⟨tail,h⟩:=h;have h2:(Lib.byteCells l++tail)[j]?=some (.int .u8 (l[j].toNat:Int)):=by
  rw[List.getElem?_append_left (by rw[Lib.byteCells_length];exact hj),bytes_at l j hj]
 simp only[World.cell?,h]
 simpa using h2
theorem OwnB.frozen (h:OwnB w g l) (j:Nat):w.frozen? ⟨g,j,none⟩=false:=by
 obtain⟨tail,h⟩:=h;simp[World.frozen?,h]
theorem OwnB.of_block (h:OwnB w g l) (hb:w'.heap[g]?=w.heap[g]?):OwnB w' g l:=by
 obtain⟨tail,h⟩:=h;exact⟨tail,hb.trans h⟩
theorem OwnB.alloc (h:OwnB w g l) (o:Obj):OwnB (w.alloc o) g l:=h.of_block (Below.heap_alloc w o g h.lt)
theorem OwnB.step (h:OwnB w g l) (hb:Below w.heap.size w w'):OwnB w' g l:=h.of_block (hb.block g h.lt)
theorem OwnB.far (h:OwnB w g l) {p:Addr} (hp:g≠p.block) (u:Value):OwnB (w.setCell p u) g l:=h.of_block (Below.heap_setCell w p u g hp)
theorem OwnB.set (h:OwnB w g l) (j:Nat) (x:UInt8) (hj:j<l.length):OwnB (w.setCell ⟨g,j,none⟩ (.int .u8 (x.toNat:Int))) g (l.set j x):=by
 obtain⟨tail,h⟩:=h;refine⟨tail,?_⟩;have h2:(Lib.byteCells l++tail).set j (.int .u8 (x.toNat:Int))=Lib.byteCells (l.set j x)++tail:=by
  rw[List.set_append_left _ _ (by rw[Lib.byteCells_length];exact hj)];simp[Lib.byteCells,List.map_set]
 simp only[World.setCell,Array.getElem?_modify,h,if_true,Option.map_some,List.setIfInBounds_toArray,h2]
 rfl
theorem OwnBV.form (h:OwnBV w base v l):(v=.slice none 0 0∧l=[])∨∃ g cap,v=.slice (some ⟨g,0,none⟩) l.length cap∧l.length≤cap∧cap≤9223372036854775807∧base≤g∧OwnB w g l:=by
 obtain⟨_,h | ⟨g,cap,cur,hv,hb,hh,hn,hc,hs,ht⟩⟩:=h
 ·exact .inl ⟨h.1,List.eq_nil_of_length_eq_zero h.2⟩
 ·refine .inr ⟨g,cap,hv,hn,hc,hb,cur.toList.drop l.length,?_⟩;rw[hh,← ht,Nat.mul_one,List.take_append_drop,Array.toArray_toList]
theorem OwnBV.nil (w:World) (base:Nat):OwnBV w base (.slice none 0 0) []:=World.ownsRow_nil _ _ _ _
theorem OwnBV.alloc (h:OwnBV w base v l) (o:Obj):OwnBV (w.alloc o) base v l:=World.ownsRow.alloc h o
theorem push_byte {x:UInt8} {n:Int} (hn:n=(x.toNat:Int)) (h:w'.ownsRow base 5 1 v (l.length+1) (Lib.byteCells l++[.int .u8 n])):OwnBV w' base v (l++[x]):=by
 subst hn;rw[OwnBV,List.length_append,Lib.byteCells_append];exact h
theorem pop_byte {x:UInt8} {cap n:Nat} (h:OwnBV w base (.slice (some ⟨g,0,none⟩) n cap) (l++[x])):OwnBV w base (.slice (some ⟨g,0,none⟩) l.length cap) l:=by
 have hn:n=l.length+1:=by
  rcases h.form with ⟨h,_⟩ | ⟨g',cap',h,_⟩
  ·cases h
  ·injection h with _ h _;rw[h,List.length_append];rfl
 subst hn;rw[OwnBV,List.length_append,Lib.byteCells_append] at h;exact ownsRow_pop (by rw[Lib.byteCells_length];omega) h
end
def zeroBytes (n:Nat):Obj:=.cells (Lib.byteCells (List.replicate n 0)).toArray 5 (0,0)
theorem ownB_new (w:World) (n:Nat):OwnB (w.alloc (zeroBytes n)) w.heap.size (List.replicate n 0):=⟨[],by rw[List.append_nil];exact heap_alloc_new w _⟩
theorem mk_bytes (n:Nat) (hn:n≤17592186044416) (w:World):(Instr.makeSlice 62 (.int .i64 (n:Int)) (.int .i64 (n:Int))).run Tryz.prog w =
  .ok (.slice (some ⟨w.heap.size,0,none⟩) n n) (w.alloc (zeroBytes n)):=by
 obtain⟨i,hi,hz,hs,hb⟩:=info_parts byte_info;have h:=run_make (P:=Tryz.prog) w 62 5 i (.int .u8 0) Tryz.underlying62 hi hz .i64 .i64 n n (by omega) (by omega) (by rw[hb];omega) (by omega);rw[h,hs]
 show _=Result.ok _ (w.alloc (.cells _ _ _))
 have e:madeCells #[Value.int .u8 0] n=(Lib.byteCells (List.replicate n 0)).toArray:=by
  have h:=toList_madeCells_one (.int .u8 0) n;rw[← Array.toArray_toList (xs:=madeCells #[Value.int .u8 0] n),h];simp[Lib.byteCells]
 rw[← e];simp[Value.cells]
theorem conv_bytes {w:World} {g n cap:Nat} {l:List UInt8} (h:OwnB w g l) (hn:n=l.length):(convert 62 9 (.slice (some ⟨g,0,none⟩) n cap)).run Tryz.prog w=.ok (.string ⟨l.toArray⟩) w:=by
 have h1:=run_convert_bytes_arg (P:=Tryz.prog) w 62 5 Tryz.underlying62 Tryz.underlying5 g 0 n cap (l.map fun c=>(c.toNat:Int)) (by simp[hn]) (fun i hi=>by
  rw[Nat.zero_add,h.cell i (by omega)];simp[List.getD,show i<l.length by omega]) 9 Tryz.underlying9
 rw[show strOfNums (l.map fun c=>(c.toNat:Int))=⟨l.toArray⟩ by simp[strOfNums,Function.comp_def]] at h1;exact h1
end Go.Proofs.YtioclokmbgmamaaGreatDoor
