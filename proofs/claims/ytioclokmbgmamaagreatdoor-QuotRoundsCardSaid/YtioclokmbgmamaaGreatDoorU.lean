/- What this law needs besides. -/
import Derived.Test.YtioclokmbgmamaaGreatDoorArgsQ
import Derived.Test.YtioclokmbgmamaaGreatDoorQS
import Derived.Test.YtioclokmbgmamaaGreatDoorQW
namespace Go.Proofs.YtioclokmbgmamaaGreatDoor
open Go Go.RowKit
section
variable {w w':World} {g:Nat} {l:List Int}
theorem Own.drewN (h:Own w g l) (n:Nat):Own (w.drewN n) g l:=h
end
section
open Go
variable {w w':World} {b:Nat} {t:TypeId} {v u:Value}
end
end Go.Proofs.YtioclokmbgmamaaGreatDoor
namespace Go.Proofs.YtioclokmbgmamaaGreatDoor
open Go Go.RowKit Dig
def RetB (P:Bool→Prop) (e:Ending):Prop:=∃ b,e=.returned (.bool b)∧P b
def RightOf (neg:Bool) (ds:List Int) (b:Bool):Prop:=(Valid neg ds∧b=true)∨(¬ Valid neg ds∧b=false)
set_option maxRecDepth 100000 in
set_option maxHeartbeats 2000000 in
theorem Right_any (w:World) (v:Value) (neg:Bool) (ds:List Int) (h:LR w w.heap.size v neg ds) :
  Calls Tryz.prog 118 #[v] w fun e w'=>Below w.heap.size w w'∧RetB (RightOf neg ds) e:=by
 obtain⟨s,rfl,hs⟩:=h;obtain⟨A,c,rfl,hc,hc',hA⟩:=hs.at;have hlen:ds.length≤9223372036854775807:=by omega
 replace hA:=zz hA;clear hs;have a0:Below w.heap.size w (w.alloc (.cells #[.bool neg,.slice A ds.length c] 24)):=(Below.refl _ _).alloc (Nat.le_refl _) _;by_cases hz:ds.length=0
 ·have HZ:=zz hz;rw[hz];rw[hz] at a0;have HB:=zz a0;clear hz a0 hc hlen;go_enter Tryz.func118,Tryz.ntmps118
  go_wp2;go_ret;refine⟨HB.out,!neg,rfl,?_⟩;cases neg with
  | true=>exact .inr ⟨fun hv=>absurd (hv.zero HZ.out) (by decide),rfl⟩
  | false=>exact .inl ⟨⟨by have:=HZ.out;omega,fun j hj=>by have:=HZ.out;omega,fun hp=>by have:=HZ.out;omega,fun _=>rfl⟩,rfl⟩
 ·have hp:0<ds.length:=by omega
  have hnz:((ds.length:Int)==0)=false:=by rw[beq_eq_false_iff_ne];omega
  obtain⟨g,off,rfl,hg,hx⟩:=hA.out hp;replace hx:=zz hx;have HB:=zz a0;clear hz a0;go_enter Tryz.func118,Tryz.ntmps118
  go_wp2;go_loop [3] (fun i=>∃ k:Nat,k≤ds.length∧i=.int .i64 k∧Hid (∀ j,j<k→0≤at0 ds j∧at0 ds j<1000000000)) (fun i=>ds.length-(intOf i).toNat)
  case atStart=>exact⟨0,by omega,rfl,zz (fun j hj=>absurd hj (by omega))⟩
  case round=>
   obtain⟨k,hk,rfl,hd⟩:=hrel;by_cases hlk:k<ds.length
   ·have h1:=(HB.out.cell (p:=⟨g,off+k,none⟩) hg).trans (hx.out k hlk);obtain⟨x,hx0⟩:∃ x,x=at0 ds k:=⟨_,rfl⟩;rw[← hx0] at h1;have c0:=zz hx0;clear hx0;by_cases hneg:x<0
    ·go_wp2;go_ret;exact⟨HB.out,false,rfl,.inr ⟨fun hv=>by have:=hv.small k hlk;rw[← c0.out] at this;omega,rfl⟩⟩
    ·by_cases hbig:1000000000≤x
     ·go_wp2;go_ret;exact⟨HB.out,false,rfl,.inr ⟨fun hv=>by have:=hv.small k hlk;rw[← c0.out] at this;omega,rfl⟩⟩
     ·have hneg':0≤x:=by omega
      have hbig':x<1000000000:=by omega
      clear hneg hbig;go_wp2;go_round
      case rel=>
       refine⟨k+1,by omega,by go_num,zz (fun j hj=>?_)⟩;rcases Nat.lt_or_ge j k with h | h
       ·exact hd.out j h
       ·obtain rfl:j=k:=by omega
        rw[← c0.out];exact⟨hneg',hbig'⟩
      case measure=>simp[intOf];omega
   ·obtain rfl:k=ds.length:=by omega
    have h1:=(HB.out.cell (p:=⟨g,off+(ds.length-1),none⟩) hg).trans (hx.out (ds.length-1) (by omega));obtain⟨t,ht⟩:∃ t,t=at0 ds (ds.length-1):=⟨_,rfl⟩;rw[← ht] at h1;have HT:=zz ht;clear ht;by_cases h6:ds.length≤600
    ·by_cases ht0:t=0
     ·subst ht0;go_wp2;go_ret;exact⟨HB.out,false,rfl,.inr ⟨fun hv=>hv.top hp HT.out.symm,rfl⟩⟩
     ·have ht1:(t != 0)=true:=by rw[bne_iff_ne];exact ht0
      have f0:=zz ht0;clear ht0;go_wp2;go_ret;exact⟨HB.out,true,rfl,.inl ⟨⟨h6,hd.out,fun _=>by rw[← HT.out];exact f0.out,fun h0=>by omega⟩,rfl⟩⟩
    ·have h6':decide ((ds.length:Int)≤600)=false:=by simp;omega
     go_wp2;go_ret;exact⟨HB.out,false,rfl,.inr ⟨fun hv=>h6 hv.len,rfl⟩⟩
set_option maxRecDepth 100000 in
set_option maxHeartbeats 2000000 in
theorem SameR_any (w:World) (va vb:Value) (na nb:Bool) (l m:List Int) (ha:LR w w.heap.size va na l) (hb:LR w w.heap.size vb nb m) :
  Calls Tryz.prog 20 #[va,vb] w fun e w'=>Below w.heap.size w w'∧e=.returned (.bool (decide (na=nb∧l=m))):=by
 obtain⟨s,rfl,hs⟩:=ha;obtain⟨t,rfl,ht⟩:=hb;obtain⟨A,ca,rfl,hca,hca',hA⟩:=hs.at;obtain⟨Bb,cb,rfl,hcb,hcb',hB⟩:=ht.at;have hla:l.length≤9223372036854775807:=by omega
 have hlb:m.length≤9223372036854775807:=by omega
 replace hA:=zz hA;replace hB:=zz hB;clear hs ht;have b0:Below w.heap.size w ((w.alloc (.cells #[.bool na,.slice A l.length ca] 24)).alloc (.cells #[.bool nb,.slice Bb m.length cb] 24)):=((Below.refl _ _).alloc (Nat.le_refl _) _).alloc (by simp) _;have a0:=zz b0;clear b0;by_cases hn:na=nb
 ·subst hn;have hq:(na != na)=false:=by simp
  by_cases hne:l.length=m.length
  ·have HL:=zz hne;have hle:(l.length:Int)≤m.length:=by omega
   have hge:(m.length:Int)≤l.length:=by omega
   have hbq:((l.length:Int) != (m.length:Int))=false:=by simp;omega
   clear hne;go_enter Tryz.func20,Tryz.ntmps20
   go_wp2;go_loopw [5] (fun i wr=>∃ k nn:Nat,k≤l.length∧i=.int .i64 k∧Hid (∀ j,j<k→at0 l j=at0 m j)∧wr=((w.alloc (.cells #[.bool na,.slice A l.length ca] 24)).alloc (.cells #[.bool na,.slice Bb m.length cb] 24)).drewN nn) (fun i _=>l.length-(intOf i).toNat)
   case atStart=>exact⟨0,0,by omega,rfl,zz (fun j hj=>absurd hj (by omega)),rfl⟩
   case round=>
    obtain⟨k,nn,hk,rfl,hd,rfl⟩:=hrel;have c0:=zz (below_drewN a0.out nn);by_cases hlk:k<l.length
    ·obtain⟨g,off,rfl,hg,hx⟩:=hA.out (by omega);obtain⟨g',off',rfl,hg',hx'⟩:=hB.out (by omega);have h1:=(c0.out.cell (p:=⟨g,off+k,none⟩) hg).trans (hx k hlk);have h2:=(c0.out.cell (p:=⟨g',off'+k,none⟩) hg').trans (hx' k (by omega));rw[World.cell?_drewN] at h1 h2;obtain⟨x,hx0⟩:∃ x,x=at0 l k:=⟨_,rfl⟩;obtain⟨y,hy0⟩:∃ y,y=at0 m k:=⟨_,rfl⟩;rw[← hx0] at h1;rw[← hy0] at h2;have d0:=zz hx0;have e0:=zz hy0;clear hx0 hy0 hx hx';go_wp2;go_quiet (fail)
     go_wp2
     ·have hxy:x≠y:=bne_yes (by assumption);go_ret;refine⟨by first | exact below_drewN a0.out _ | exact below_drewN (below_drewN a0.out _) _,?_⟩;have hne:l≠m:=take_ne (by rw[← d0.out,← e0.out];exact hxy)
      first | (rw[decide_eq_false hne];rfl) | (rw[decide_eq_false (fun e=>hne e.2)];rfl)
     ·have hxy:x=y:=bne_no (by assumption);have f0:=zz hxy;clear hxy;go_roundw
      case rel=>
       refine⟨k+1,_,by omega,by go_num,zz (fun j hj=>?_),rfl⟩;rcases Nat.lt_or_ge j k with h | h
       ·exact hd.out j h
       ·obtain rfl:j=k:=by omega
        rw[← d0.out,← e0.out,f0.out]
      case measure=>simp[intOf];omega
    ·obtain rfl:k=l.length:=by omega
     go_wp2;go_ret;refine⟨c0.out,?_⟩;have heq:l=m:=eq_of_at HL.out hd.out
     first | (rw[decide_eq_true heq];rfl) | (rw[decide_eq_true (show True∧l=m from⟨trivial,heq⟩)];rfl)
  ·have hbq:((l.length:Int) != (m.length:Int))=true:=by simp;omega
   have g0:=zz hne;clear hne;go_enter Tryz.func20,Tryz.ntmps20
   go_wp2;go_ret;refine⟨a0.out,?_⟩;have hne:l≠m:=fun e=>g0.out (by rw[e])
   first | (rw[decide_eq_false hne];rfl) | (rw[decide_eq_false (fun e=>hne e.2)];rfl)
 ·have hq:(na != nb)=true:=by simpa using hn
  have HN:=zz hn;clear hn;go_enter Tryz.func20,Tryz.ntmps20
  go_wp2;go_ret;refine⟨a0.out,?_⟩;rw[decide_eq_false (fun e=>HN.out e.1)]
  rfl
end Go.Proofs.YtioclokmbgmamaaGreatDoor
namespace Go.Proofs.YtioclokmbgmamaaGreatDoor.Dig
structure SumA (x y:List Nat) (k c:Nat) (ds:List Nat):Prop where
 len:ds.length=k
 small:Small ds
 sum:val ds+bp k*c=val (x.take k)+val (y.take k)
 carry:c≤1
theorem SumA.start (x y:List Nat):SumA x y 0 0 []:=⟨rfl,Small.nil,by simp[val],by omega⟩
theorem SumA.step {x y ds:List Nat} {k c:Nat} (h:SumA x y k c ds) (hx:Small x) (hy:Small y) :
  SumA x y (k+1) ((x.getD k 0+y.getD k 0+c) / 1000000000) (ds++[(x.getD k 0+y.getD k 0+c) % 1000000000]):=by
 have h1:=hx.getD k;have h2:=hy.getD k;have h3:=h.carry;refine⟨by rw[List.length_append,h.len];rfl,h.small.append (Small.cons (Nat.mod_lt _ (by omega)) Small.nil),?_,by omega⟩;rw[val_snoc,val_take_getD,val_take_getD,h.len,bp_succ];have hs:=h.sum;have hm:=Nat.div_add_mod (x.getD k 0+y.getD k 0+c) 1000000000;generalize (x.getD k 0+y.getD k 0+c) / 1000000000=q at *
 generalize (x.getD k 0+y.getD k 0+c) % 1000000000=r at *
 generalize x.getD k 0=a at *
 generalize y.getD k 0=b at *
 generalize bp k=p at *
 have e:1000000000*p*q+p*r=p*a+p*b+p*c:=by
  rw[← Nat.mul_add,← Nat.mul_add,← hm,Nat.mul_add,← Nat.mul_assoc,Nat.mul_comm 1000000000 p]
 omega
theorem SumA.stop {x y ds:List Nat} {k:Nat} (h:SumA x y k 0 ds) (hx:x.length≤k) (hy:y.length≤k):val ds=val x+val y:=by
 have hs:=h.sum;rw[List.take_of_length_le hx,List.take_of_length_le hy] at hs
 omega
theorem SumA.past {x y:List Nat} {k c:Nat} (hx:x.length≤k) (hy:y.length≤k) (hc:c≤1):(x.getD k 0+y.getD k 0+c) / 1000000000=0:=by
 have e:∀ l:List Nat,l.length≤k→l.getD k 0=0:=fun l hl=>by rw[List.getD_eq_getElem?_getD,List.getElem?_eq_none hl];rfl
 rw[e x hx,e y hy];omega
structure DiffA (x y:List Nat) (k c:Nat) (ds:List Nat):Prop where
 len:ds.length=k
 small:Small ds
 sum:val ds+val (y.take k)=val (x.take k)+bp k*c
 carry:c≤1
theorem DiffA.start (x y:List Nat):DiffA x y 0 0 []:=⟨rfl,Small.nil,by simp[val],by omega⟩
theorem DiffA.step_up {x y ds:List Nat} {k c d:Nat} (h:DiffA x y k c ds) (hx:Small x) (hd:d+(y.getD k 0+c)=x.getD k 0) :
  DiffA x y (k+1) 0 (ds++[d]):=by
 have h1:=hx.getD k;refine⟨by rw[List.length_append,h.len];rfl,h.small.append (Small.cons (by omega) Small.nil),?_,by omega⟩;rw[val_snoc,val_take_getD,val_take_getD,h.len,bp_succ];have hs:=h.sum;rw[← hd];generalize y.getD k 0=b at *
 generalize bp k=p at *
 have e:p*(d+(b+c))=p*d+p*b+p*c:=by rw[Nat.mul_add,Nat.mul_add];omega
 rw[e]
 omega
theorem DiffA.step_down {x y ds:List Nat} {k c d:Nat} (h:DiffA x y k c ds) (hd:d+(y.getD k 0+c)=x.getD k 0+1000000000) (hd1:d<1000000000) :
  DiffA x y (k+1) 1 (ds++[d]):=by
 refine⟨by rw[List.length_append,h.len];rfl,h.small.append (Small.cons hd1 Small.nil),?_,by omega⟩;rw[val_snoc,val_take_getD,val_take_getD,h.len,bp_succ];have hs:=h.sum;generalize y.getD k 0=b at *
 generalize x.getD k 0=a at *
 generalize bp k=p at *
 have e:p*(d+(b+c))=p*d+p*b+p*c:=by rw[Nat.mul_add,Nat.mul_add];omega
 have e':p*(a+1000000000)=p*a+1000000000*p:=by rw[Nat.mul_add,Nat.mul_comm p 1000000000]
 have e2:p*d+p*b+p*c=p*a+1000000000*p:=by rw[← e,hd,e']
 omega
theorem DiffA.stop {x y ds:List Nat} {c:Nat} (h:DiffA x y x.length c ds) (hy:y.length≤x.length) (hle:val y≤val x):val ds+val y=val x:=by
 have hs:=h.sum;rw[List.take_of_length_le hy,List.take_of_length_le (Nat.le_refl _)] at hs;have hlt:=val_lt h.small;rw[h.len] at hlt;have hc:=h.carry;have:c=0:=by
  rcases Nat.eq_zero_or_pos c with h0 | h0
  ·exact h0
  ·have h1:c=1:=by omega
   subst h1
   omega
 subst this
 omega
end Go.Proofs.YtioclokmbgmamaaGreatDoor.Dig
namespace Go.Proofs.YtioclokmbgmamaaGreatDoor
open Dig
structure ProdI (T L j n:Nat) (d:List Int):Prop where
 len:d.length=L
 small:∀ m,m<L→0≤at0 d m∧at0 d m<1000000000
 sum:valI d+(bp j:Int)*(n:Int)=(T:Int)
theorem ProdI.room {T L j n:Nat} {d:List Int} (h:ProdI T L j n d) (hT:T<bp L) (hn:0<n):j<L:=by
 have h1:=valI_lt (l:=d) (by rw[h.len];exact h.small);have h2:=h.sum;have h3:(bp j:Int)*1≤(bp j:Int)*(n:Int):=Int.mul_le_mul_of_nonneg_left (by omega) (by have:=bp_pos j;omega);have h4:bp j<bp L:=by omega
 exact Nat.lt_of_not_le fun h5=>by have:=bp_le h5;omega
theorem ProdI.step {T L j n:Nat} {d:List Int} (h:ProdI T L j n d) (hj:j<L) (o:Nat) (ho:at0 d j=(o:Int)) :
  ProdI T L (j+1) ((n+o) / 1000000000) (d.set j (((n+o) % 1000000000:Nat):Int)):=by
 refine⟨by rw[List.length_set,h.len],fun m hm=>?_,?_⟩
 ·by_cases hjm:j=m
  ·subst hjm;rw[at0_set_same (by rw[h.len];exact hm)]
   omega
  ·rw[at0_set_ne hjm];exact h.small m hm
 ·rw[valI_set _ (by rw[h.len];exact hj),ho,bpI_succ];have h1:=h.sum;have h2:=Nat.div_add_mod (n+o) 1000000000;generalize (n+o) / 1000000000=q at *
  generalize (n+o) % 1000000000=r at *
  generalize (bp j:Int)=p at *
  have e:(r:Int)-(o:Int)=(n:Int)-1000000000*(q:Int):=by omega
  rw[e,Int.mul_sub,show(1000000000*p*(q:Int))=p*(1000000000*(q:Int)) by rw[Int.mul_comm 1000000000 p,Int.mul_assoc]]
  omega
def prodT (x y:List Nat) (i k:Nat):Nat:=val (x.take i)*val y+bp i*(x.getD i 0*val (y.take k))
theorem prodT_zero (x y:List Nat) (i:Nat):prodT x y i 0=val (x.take i)*val y:=by simp[prodT,val]
theorem prodT_start (x y:List Nat):prodT x y 0 0=0:=by simp[prodT,val]
theorem prodT_step {x y:List Nat} (i:Nat) {k:Nat} (h:k<y.length):prodT x y i (k+1)=prodT x y i k+bp (i+k)*(x.getD i 0*y.getD k 0):=by
 unfold prodT;rw[val_take_next h,bp_add,Nat.mul_add,Nat.mul_add,← Nat.add_assoc]
 congr 1
 generalize x.getD i 0=a;generalize y.getD k 0=b;rw[Nat.mul_assoc,Nat.mul_left_comm (bp k) a b]
theorem prodT_next {x y:List Nat} {i:Nat} (h:i<x.length):prodT x y i y.length=prodT x y (i+1) 0:=by
 rw[prodT_zero,val_take_next h];unfold prodT;rw[List.take_length,Nat.add_mul,Nat.mul_assoc]
theorem prodT_end (x y:List Nat):prodT x y x.length 0=val x*val y:=by rw[prodT_zero,List.take_length]
theorem prodT_lt {x y:List Nat} (hx:Small x) (hy:Small y) {i k:Nat} (hi:i<x.length):prodT x y i k<bp (x.length+y.length):=by
 have h1:prodT x y i k≤val (x.take (i+1))*val y:=by
  rw[val_take_next hi,Nat.add_mul,prodT,Nat.mul_assoc];exact Nat.add_le_add_left (Nat.mul_le_mul_left _ (Nat.mul_le_mul_left _ (r_take_le y k))) _
 have h2:val (x.take (i+1))*val y≤val x*val y:=Nat.mul_le_mul_right _ (r_take_le x _);have h3:val x*val y<bp x.length*bp y.length:=Nat.mul_lt_mul'' (val_lt hx) (val_lt hy);rw[bp_add];omega
theorem ProdI.start (x y:List Nat) (j:Nat):ProdI (prodT x y 0 0) (x.length+y.length) j 0 (List.replicate (x.length+y.length) 0):=
 ⟨by simp,fun m _=>by rw[at0_zeros];omega,by rw[valI_zeros,prodT_start];simp⟩
theorem ProdI.begin {x y:List Nat} {i k j L:Nat} {d:List Int} (h:ProdI (prodT x y i k) L j 0 d) (hk:k<y.length):ProdI (prodT x y i (k+1)) L (i+k) (x.getD i 0*y.getD k 0) d:=by
 refine⟨h.len,h.small,?_⟩;have h1:=h.sum;rw[prodT_step i hk];simp at h1
 rw[h1];simp
theorem ProdI.any {T L j:Nat} {d:List Int} (h:ProdI T L j 0 d) (j':Nat):ProdI T L j' 0 d:=⟨h.len,h.small,by have:=h.sum;simp at this ⊢;exact this⟩
theorem ProdI.fin {T L j:Nat} {d:List Int} (h:ProdI T L j 0 d):∃ r:List Nat,d=ni r∧r.length=L∧Small r∧val r=T:=by
 obtain⟨r,h1,h2,h3,h4⟩:=digits_of (l:=d) (by rw[h.len];exact h.small);have h5:=h.sum;simp at h5
 exact⟨r,h1,by rw[h2,h.len],h3,by omega⟩
end Go.Proofs.YtioclokmbgmamaaGreatDoor
namespace Go.Proofs.YtioclokmbgmamaaGreatDoor
open Go Go.RowKit Dig
def divZ (a b:Int):Int × Int × Int:=if b=0 then (0,0,7) else (Int.tdiv a b,Int.tmod a b,0)
def D2:Option Int→Option Int→Int × Int × Int
 | some a,some b=>divZ a b
 | _,_=>(0,0,30)
def cmpZ (a b:Int):Int × Int:=(if a<b then -1 else if a=b then 0 else 1,0)
def Len (k:Nat) (z:Int):Prop:=(dig z.natAbs).length≤k
theorem Len.add {k:Nat} {a b:Int} (h:Len k a) (h':Len k b):Len (k+1) (a+b):=by
 have h1:=dig_len_add a.natAbs b.natAbs h h';exact Nat.le_trans (dig_len_mono (show(a+b).natAbs≤a.natAbs+b.natAbs by omega)) h1
section
variable {w:World} {v:Value} {z:Int}
theorem below_call_drew0 {W w':World} (h:Below W.heap.size W w) (hb:Below w.drew.heap.size w.drew w'):Below W.heap.size W w':=h.trans ((below_undrew hb).mono h.size)
theorem below_call0 {W w':World} (h:Below W.heap.size W w) (hb:Below w.heap.size w w'):Below W.heap.size W w':=h.trans (hb.mono h.size)
end
theorem LR.num {w:World} {B:Nat} {v:Value} {n:Bool} {l:List Int} (h:LR w B v n l) (hv:Valid n l):∃ z:Int,numOf n l=some z∧LV w B v z∧(dig z.natAbs).length≤600:=by
 obtain⟨z,h1,h2,h3,h4⟩:=numOf_valid hv;refine⟨z,h1,?_,h4⟩;rw[h2,h3] at h;exact h
theorem GB.ret1 {w:World} {b:Nat} {fn:Func} {p:Tmp} {c0 c1:Value} (hf:fn.results=#[.cell p 24]) (tmps:Array Value) (h:CB w b 24 #[c0,c1]) (hp:tmps.getD p undef=.pointer (some ⟨b,0,none⟩)) :
  (results fn tmps).run Tryz.prog w=.ok (.agg #[c0,c1]) w:=
 results_cell_row hf tmps w b _ #[c0,c1] (0,0) _ hp h Tryz.underlying24 rfl (by kernel_rfl)
theorem QSpan_any (w:World) (va:Value) (n m:Bool) (a b:List Int) (ha:QR w w.heap.size va n a m b) (G:Glob w) :
  Calls Tryz.prog 25 #[va] w fun e w'=>Below w.heap.size w w'∧RetSp (spanQ (qOf n a m b)) e:=by
 rcases h1:qOf n a m b with _ | q
 ·exact QSpan_bad w va n m a b ha h1
 ·exact QSpan_good w va q (QR.valid ha h1).1 (QR.valid ha h1).2 G
set_option maxRecDepth 100000 in
set_option maxHeartbeats 4000000 in
theorem QNear_bad (w:World) (va:Value) (n m:Bool) (a b:List Int) (s:Int) (ha:QR w w.heap.size va n a m b) (hbad:qOf n a m b=none) :
  Calls Tryz.prog 27 #[va,.int .i64 s] w fun e w'=>Below w.heap.size w w'∧RetI (0,40) e:=by
 obtain⟨A,l,c,A',l',c',rfl,ha⟩:=RI.of ha;have HA:=zz ha;have HC:=zz hbad;clear ha hbad;obtain⟨w0,hw0⟩:∃ w0:World,w0=(w.alloc (.cells #[.bool n,.slice A l c,.bool m,.slice A' l' c'] 26)):=⟨_,rfl⟩;have B0:=zz (n1_b hw0);have z0:=n1_z hw0;have La:=n1_0 hw0;replace HA:=zz (QR.step HA.out B0.out);go_enter Tryz.func27,Tryz.ntmps27
 go_upto_region 1 with (fail)
 rw[← hw0];clear hw0;have b0:=La.cell 0 rfl;have c0:=La.cell 1 rfl;have d0:=La.cell 2 rfl;have e0:=La.cell 3 rfl;have g0:=La.lt;go_wp2_with fail
 refine(QCheck_no HA.out HC.out).mono ?_;rintro e w1 ⟨a0,rfl⟩;have B3:=zz a0;have z3:=B3.out.size;have f0:=zz (B0.out.trans (B3.out.mono B0.out.size));clear a0;clear b0 c0 d0 e0 g0;go_wp2;go_ret2;exact⟨f0.out,rfl⟩
theorem QNear_any (w:World) (va:Value) (n m:Bool) (a b:List Int) (s:Int) (ha:QR w w.heap.size va n a m b) (G:Glob w) :
  Calls Tryz.prog 27 #[va,.int .i64 s] w fun e w'=>Below w.heap.size w w'∧RetI (nearQ (qOf n a m b) s) e:=by
 rcases h1:qOf n a m b with _ | q
 ·exact QNear_bad w va n m a b s ha h1
 ·exact QNear_good w va q s (QR.valid ha h1).1 (QR.valid ha h1).2 G
set_option maxRecDepth 100000 in
set_option maxHeartbeats 2000000 in
theorem Sum_core (w:World) (n:Bool) (sa sb:Value) (X Y:List Nat) (ha:RN w w.heap.size sa X) (hb:RN w w.heap.size sb Y) (hsX:Small X) (hsY:Small Y) (hX0:0<X.length) (hY0:0<Y.length) (hlX:X.length≤100000) (hlY:Y.length≤100000) :
  Calls Tryz.prog 129 #[.agg #[.bool n,sa],.agg #[.bool n,sb]] w fun e w'=>Below w.heap.size w w'∧RetV w' (sgn n (val X+val Y)) e:=by
 obtain⟨i0,hi,hz0,hz1,hz2⟩:=info_parts info_int;obtain⟨A1,c1,rfl,-⟩:=ha.cell;obtain⟨A2,c2,rfl,-⟩:=hb.cell;obtain⟨w0,hw0⟩:∃ w0:World,w0=((w.alloc (.cells #[.bool n,.slice A1 X.length c1] 24)).alloc (.cells #[.bool n,.slice A2 Y.length c2] 24)).alloc (.cells #[.bool false,.slice none 0 0] 24):=⟨_,rfl⟩;have d0:=zz (show Below w.heap.size w w0 from by rw[hw0];(repeat' (first | exact Below.refl _ _ | refine Below.drew ?_ | refine Below.alloc ?_ (by first | exact Nat.le_refl _ | (simp;done) | (simp;omega)) _)));have L0:LB w0 w.heap.size (.bool n) (.slice A1 X.length c1):=by rw[hw0];(repeat (first | (refine LB.new' ?_;simp;done) | refine LB.alloc ?_ _))
 have L1:LB w0 (w.heap.size+1) (.bool n) (.slice A2 Y.length c2):=by rw[hw0];(repeat (first | (refine LB.new' ?_;simp;done) | refine LB.alloc ?_ _))
 have L2:LB w0 (w.heap.size+2) (.bool false) (.slice none 0 0):=by rw[hw0];(repeat (first | (refine LB.new' ?_;simp;done) | refine LB.alloc ?_ _))
 have HA:=zz ha;have G0:=zz hb;have n0:=zz hsX;have o0:=zz hsY;subst hw0;clear ha hb hsX hsY;have hXb:((X.length:Int)==0)=false:=by rw[beq_eq_false_iff_ne];omega
 have hYb:((Y.length:Int)==0)=false:=by rw[beq_eq_false_iff_ne];omega
 go_enter Tryz.func129,Tryz.ntmps129
 go_wp2;go_loopw [5,6,7] (fun dv cv iv wr=>∃ (k c:Nat) (ds:List Nat) (A:Option Addr) (m cap:Nat),dv=.slice A m cap∧cv=.int .i64 c∧iv=.int .i64 k∧c≤1∧k≤100001∧Hid (SumA X Y k c ds)∧Hid (c=0∨k≤X.length∨k≤Y.length)∧LB wr w.heap.size (.bool n) (.slice A1 X.length c1)∧LB wr (w.heap.size+1) (.bool n) (.slice A2 Y.length c2)∧LB wr (w.heap.size+2) (.bool false) (.slice none 0 0)∧Hid (OwnV wr (w.heap.size+3) dv (ni ds))∧Hid (w.heap.size+3≤wr.heap.size)∧Hid (Below w.heap.size w wr)) (fun _ _ iv _=>100001-(intOf iv).toNat)
 case atStart=>exact⟨0,0,[],_,_,_,rfl,rfl,rfl,by omega,by omega,zz (SumA.start _ _),zz (.inl rfl),L0,L1,L2,zz (OwnV.nil _ _),zz (by simp),d0⟩
 case round=>
  clear L0 L1 L2 d0;obtain⟨k,c,ds,A,m,cap,rfl,rfl,rfl,hc1,h0,hS,hC,C0,C1,C2,CO,CS,CB⟩:=hrel;have RA:=zz (show RN wr wr.heap.size (.slice A1 X.length c1) X from RI.step HA.out CB.out);have RB:=zz (show RN wr wr.heap.size (.slice A2 Y.length c2) Y from RI.step G0.out CB.out);by_cases h1:k<X.length
  ·have hkI:(k:Int)<(X.length:Int):=by omega
   have e0:k≤100000:=by omega
   obtain⟨x,hx⟩:∃ x:Nat,x=X.getD k 0:=⟨_,rfl⟩;obtain⟨y,hy⟩:∃ y:Nat,y=Y.getD k 0:=⟨_,rfl⟩;have hx9:x<1000000000:=by rw[hx];exact n0.out.getD k
   have hy9:y<1000000000:=by rw[hy];exact o0.out.getD k
   obtain⟨s,hs⟩:∃ s:Nat,s=x+y+c:=⟨_,rfl⟩;have hsI:(x:Int)+(y:Int)+(c:Int)=(s:Int):=by omega
   have hq:Int.tdiv (s:Int) 1000000000=((s / 1000000000:Nat):Int):=(Int.ofNat_tdiv s 1000000000).symm;have hm:Int.tmod (s:Int) 1000000000=((s % 1000000000:Nat):Int):=(Int.ofNat_tmod s 1000000000).symm;have p0:Hid (SumA X Y (k+1) (s / 1000000000) (ds++[s % 1000000000])):=zz (by have h:=hS.out.step n0.out o0.out;rw[← hx,← hy,← hs] at h;exact h);have q0:Hid (s / 1000000000=0∨k+1≤X.length∨k+1≤Y.length):=zz (by rcases Nat.lt_or_ge k X.length with h1 | h1;(exact .inr (.inl h1));rcases Nat.lt_or_ge k Y.length with h2 | h2;(exact .inr (.inr h2));have h:=SumA.past h1 h2 hS.out.carry;rw[← hx,← hy,← hs] at h;exact .inl h);have HHx:=zz hx;have HHy:=zz hy;have HHs:=zz hsI;have HHq:=zz hq;have HHm:=zz hm;have hs2:s≤1999999999:=by omega
   clear hx hy hs hsI hq hm;have q00:=C0.cell0;have q01:=C0.cell1;have q10:=C1.cell0;have q11:=C1.cell1;have q20:=C2.cell0;have q21:=C2.cell1;have tok1:True:=trivial;have tok2:True:=trivial;go_wp2_with fail
   go_region_held3 (fun w'=>w'.cell? ⟨w.heap.size,1,none⟩=some (.slice A1 X.length c1)∧w'.cell? ⟨w.heap.size+1,1,none⟩=some (.slice A2 Y.length c2)) (first
    | (exact⟨C0.cell1,C1.cell1⟩)
    | (exact⟨(LB.drew C0).cell1,(LB.drew C1).cell1⟩)
    | (exact⟨D0.cell1,D1.cell1⟩)
    | (exact⟨(LB.drew D0).cell1,(LB.drew D1).cell1⟩)
    | (exact⟨E0.cell1,E1.cell1⟩)
    | (exact⟨(LB.drew E0).cell1,(LB.drew E1).cell1⟩)
    | go_keep) (first
    | (go_at_call 151;clear tok1;((with_reducible refine(at_num _ _ X k (by first | exact RA.out | exact RN.drew1 RA.out)).mono ?_);rintro e u1 ⟨a0,rfl⟩;rw[← HHx.out];have D0:=LB.step (b:=w.heap.size) (x:=(.bool n)) (y:=(.slice A1 X.length c1)) (by first | exact C0 | exact LB.drew C0) a0;have D1:=LB.step (b:=(w.heap.size+1)) (x:=(.bool n)) (y:=(.slice A2 Y.length c2)) (by first | exact C1 | exact LB.drew C1) a0;have D2:=LB.step (b:=(w.heap.size+2)) (x:=(.bool false)) (y:=(.slice none 0 0)) (by first | exact C2 | exact LB.drew C2) a0;have DO:=zz (OwnV.step (base:=w.heap.size+3) (v:=.slice A m cap) (l:=ni ds) (by first | exact CO.out | exact OwnV.drew CO.out) a0);have DB:=zz (show Below w.heap.size w u1 from by first | exact below_call0 CB.out a0 | exact below_call_drew0 CB.out a0);have DS:=zz (show w.heap.size+3≤u1.heap.size from Nat.le_trans CS.out (by first | exact a0.size | exact(below_undrew a0).size));have k0:=zz (RN.stepN (v:=.slice A2 Y.length c2) (l:=Y) (by first | exact RB.out | exact RN.drew1 RB.out) a0);clear a0;have p00:=D0.cell0;have p01:=D0.cell1;have p10:=D1.cell0;have p11:=D1.cell1;have p20:=D2.cell0;have p21:=D2.cell1))
    | (go_at_call 151;clear tok2;((with_reducible refine(at_num _ _ Y k (by first | exact k0.out | exact RN.drew1 k0.out)).mono ?_);rintro e u2 ⟨b0,rfl⟩;rw[← HHy.out];have E0:=LB.step (b:=w.heap.size) (x:=(.bool n)) (y:=(.slice A1 X.length c1)) (by first | exact D0 | exact LB.drew D0) b0;have E1:=LB.step (b:=(w.heap.size+1)) (x:=(.bool n)) (y:=(.slice A2 Y.length c2)) (by first | exact D1 | exact LB.drew D1) b0;have E2:=LB.step (b:=(w.heap.size+2)) (x:=(.bool false)) (y:=(.slice none 0 0)) (by first | exact D2 | exact LB.drew D2) b0;have EO:=zz (OwnV.step (base:=w.heap.size+3) (v:=.slice A m cap) (l:=ni ds) (by first | exact DO.out | exact OwnV.drew DO.out) b0);have EB:=zz (show Below w.heap.size w u2 from by first | exact below_call0 DB.out b0 | exact below_call_drew0 DB.out b0);have ES:=zz (show w.heap.size+3≤u2.heap.size from Nat.le_trans DS.out (by first | exact b0.size | exact(below_undrew b0).size));clear b0;have r00:=E0.cell0;have r01:=E0.cell1;have r10:=E1.cell0;have r11:=E1.cell1;have r20:=E2.cell0;have r21:=E2.cell1)))
   rename_i hheld;clear hheld
   rw[show IntKind.i64.wrap (IntKind.i64.wrap ((x:Int)+(y:Int))+(c:Int))=(s:Int) by rw[IntWalk.i64_in ((x:Int)+(y:Int)) (by omega),IntWalk.i64_in ((x:Int)+(y:Int)+(c:Int)) (by omega),HHs.out]];have hown:=EO.out.alloc (.cells #[.int .i64 (Int.tmod (s:Int) 1000000000)] 3);have hlen:(ni ds).length=k:=by rw[ni_length];exact hS.out.len
   go_wp2_with (at_builtin;refine wpList_append_own_at _ rfl _ _ 22 rfl (w.heap.size+3) 3 i0 (.int .i64 0) 1 8 Tryz.underlying22 hi hz0 hz1 hz2 rfl (by decide) (.slice A m cap) (ni ds).length ((ni ds).map (Value.int .i64)) rfl hown ⟨u2.heap.size,0,none⟩ 1 1 [.int .i64 (Int.tmod (s:Int) 1000000000)] rfl rfl (cell_one_new _ _ _) (by intro u hu;simp at hu;subst hu;rfl) (by rw[hlen];unfold maxLen;omega) (by rw[hlen];omega) (by have:=ES.out;simp;omega) ?_)
   intro v' w' hown' hgrow hne hblk;have hv':OwnV w' (w.heap.size+3) v' (ni (ds++[s % 1000000000])):=by
    have h:=hown';rw[HHm.out] at h;rw[OwnV,ni_length,List.length_append,hS.out.len];have e:(ni (ds++[s % 1000000000])).map (Value.int .i64)=(ni ds).map (Value.int .i64)++[.int .i64 ((s % 1000000000:Nat):Int)]:=by simp[ni]
    rw[e];exact h
   have hrow:∀ b,b<w.heap.size+3→(Value.slice A m cap).ownBlock≠some b:=fun b hb he=>by
    have:=(World.ownsRow.lt EO.out b he).1
    omega
   have M0:=(E0.alloc (.cells #[.int .i64 (Int.tmod (s:Int) 1000000000)] 3)).grown hgrow (hrow _ (by omega));have M1:=(E1.alloc (.cells #[.int .i64 (Int.tmod (s:Int) 1000000000)] 3)).grown hgrow (hrow _ (by omega));have M2:=(E2.alloc (.cells #[.int .i64 (Int.tmod (s:Int) 1000000000)] 3)).grown hgrow (hrow _ (by omega));have MB:=zz ((EB.out.alloc EB.out.size (.cells #[.int .i64 (Int.tmod (s:Int) 1000000000)] 3)).grown hgrow (by have:=EB.out.size;simp;omega) (fun g he=>by have:=(World.ownsRow.lt EO.out g he).1;omega));have MS:=zz (show w.heap.size+3≤w'.heap.size by have h1:=hgrow.size;have h2:=ES.out;simp at h1;omega);have MO:=zz hv';clear hown' hgrow hne hblk hown;have z00:=M0.cell0;have z01:=M0.cell1;have z10:=M1.cell0;have z11:=M1.cell1;have z20:=M2.cell0;have z21:=M2.cell1;rcases hv'.form with ⟨_,he⟩ | ⟨g,cap',rfl,_⟩
   ·simp[ni] at he
   ·have hlen2:(ni (ds++[s % 1000000000])).length=k+1:=by rw[ni_length,List.length_append,hS.out.len];rfl
    have hq1:s / 1000000000≤1:=by omega
    clear hv' hrow;go_wp2;go_roundw
    case rel=>exact⟨k+1,s / 1000000000,ds++[s % 1000000000],_,_,_,rfl,congrArg (Value.int .i64) (by omega),by rw[show((k+1:Nat):Int)=(k:Int)+1 by omega],hq1,by omega,p0,q0,M0,M1,M2,MO,MS,MB⟩
    case measure=>simp[intOf] <;> omega
  ·have hkI:(X.length:Int)≤(k:Int):=by omega
   by_cases h2:k<Y.length
   ·have hkJ:(k:Int)<(Y.length:Int):=by omega
    have e0:k≤100000:=by omega
    obtain⟨x,hx⟩:∃ x:Nat,x=X.getD k 0:=⟨_,rfl⟩;obtain⟨y,hy⟩:∃ y:Nat,y=Y.getD k 0:=⟨_,rfl⟩;have hx9:x<1000000000:=by rw[hx];exact n0.out.getD k
    have hy9:y<1000000000:=by rw[hy];exact o0.out.getD k
    obtain⟨s,hs⟩:∃ s:Nat,s=x+y+c:=⟨_,rfl⟩;have hsI:(x:Int)+(y:Int)+(c:Int)=(s:Int):=by omega
    have hq:Int.tdiv (s:Int) 1000000000=((s / 1000000000:Nat):Int):=(Int.ofNat_tdiv s 1000000000).symm;have hm:Int.tmod (s:Int) 1000000000=((s % 1000000000:Nat):Int):=(Int.ofNat_tmod s 1000000000).symm;have p0:Hid (SumA X Y (k+1) (s / 1000000000) (ds++[s % 1000000000])):=zz (by have h:=hS.out.step n0.out o0.out;rw[← hx,← hy,← hs] at h;exact h);have q0:Hid (s / 1000000000=0∨k+1≤X.length∨k+1≤Y.length):=zz (by rcases Nat.lt_or_ge k X.length with h1 | h1;(exact .inr (.inl h1));rcases Nat.lt_or_ge k Y.length with h2 | h2;(exact .inr (.inr h2));have h:=SumA.past h1 h2 hS.out.carry;rw[← hx,← hy,← hs] at h;exact .inl h);have HHx:=zz hx;have HHy:=zz hy;have HHs:=zz hsI;have HHq:=zz hq;have HHm:=zz hm;have hs2:s≤1999999999:=by omega
    clear hx hy hs hsI hq hm;have q00:=C0.cell0;have q01:=C0.cell1;have q10:=C1.cell0;have q11:=C1.cell1;have q20:=C2.cell0;have q21:=C2.cell1;have tok1:True:=trivial;have tok2:True:=trivial;go_wp2_with fail
    go_region_held3 (fun w'=>w'.cell? ⟨w.heap.size,1,none⟩=some (.slice A1 X.length c1)∧w'.cell? ⟨w.heap.size+1,1,none⟩=some (.slice A2 Y.length c2)) (first
     | (exact⟨C0.cell1,C1.cell1⟩)
     | (exact⟨(LB.drew C0).cell1,(LB.drew C1).cell1⟩)
     | (exact⟨D0.cell1,D1.cell1⟩)
     | (exact⟨(LB.drew D0).cell1,(LB.drew D1).cell1⟩)
     | (exact⟨E0.cell1,E1.cell1⟩)
     | (exact⟨(LB.drew E0).cell1,(LB.drew E1).cell1⟩)
     | go_keep) (first
     | (go_at_call 151;clear tok1;((with_reducible refine(at_num _ _ X k (by first | exact RA.out | exact RN.drew1 RA.out)).mono ?_);rintro e u1 ⟨a0,rfl⟩;rw[← HHx.out];have D0:=LB.step (b:=w.heap.size) (x:=(.bool n)) (y:=(.slice A1 X.length c1)) (by first | exact C0 | exact LB.drew C0) a0;have D1:=LB.step (b:=(w.heap.size+1)) (x:=(.bool n)) (y:=(.slice A2 Y.length c2)) (by first | exact C1 | exact LB.drew C1) a0;have D2:=LB.step (b:=(w.heap.size+2)) (x:=(.bool false)) (y:=(.slice none 0 0)) (by first | exact C2 | exact LB.drew C2) a0;have DO:=zz (OwnV.step (base:=w.heap.size+3) (v:=.slice A m cap) (l:=ni ds) (by first | exact CO.out | exact OwnV.drew CO.out) a0);have DB:=zz (show Below w.heap.size w u1 from by first | exact below_call0 CB.out a0 | exact below_call_drew0 CB.out a0);have DS:=zz (show w.heap.size+3≤u1.heap.size from Nat.le_trans CS.out (by first | exact a0.size | exact(below_undrew a0).size));have k0:=zz (RN.stepN (v:=.slice A2 Y.length c2) (l:=Y) (by first | exact RB.out | exact RN.drew1 RB.out) a0);clear a0;have p00:=D0.cell0;have p01:=D0.cell1;have p10:=D1.cell0;have p11:=D1.cell1;have p20:=D2.cell0;have p21:=D2.cell1))
     | (go_at_call 151;clear tok2;((with_reducible refine(at_num _ _ Y k (by first | exact k0.out | exact RN.drew1 k0.out)).mono ?_);rintro e u2 ⟨b0,rfl⟩;rw[← HHy.out];have E0:=LB.step (b:=w.heap.size) (x:=(.bool n)) (y:=(.slice A1 X.length c1)) (by first | exact D0 | exact LB.drew D0) b0;have E1:=LB.step (b:=(w.heap.size+1)) (x:=(.bool n)) (y:=(.slice A2 Y.length c2)) (by first | exact D1 | exact LB.drew D1) b0;have E2:=LB.step (b:=(w.heap.size+2)) (x:=(.bool false)) (y:=(.slice none 0 0)) (by first | exact D2 | exact LB.drew D2) b0;have EO:=zz (OwnV.step (base:=w.heap.size+3) (v:=.slice A m cap) (l:=ni ds) (by first | exact DO.out | exact OwnV.drew DO.out) b0);have EB:=zz (show Below w.heap.size w u2 from by first | exact below_call0 DB.out b0 | exact below_call_drew0 DB.out b0);have ES:=zz (show w.heap.size+3≤u2.heap.size from Nat.le_trans DS.out (by first | exact b0.size | exact(below_undrew b0).size));clear b0;have r00:=E0.cell0;have r01:=E0.cell1;have r10:=E1.cell0;have r11:=E1.cell1;have r20:=E2.cell0;have r21:=E2.cell1)))
    rename_i hheld;clear hheld
    rw[show IntKind.i64.wrap (IntKind.i64.wrap ((x:Int)+(y:Int))+(c:Int))=(s:Int) by rw[IntWalk.i64_in ((x:Int)+(y:Int)) (by omega),IntWalk.i64_in ((x:Int)+(y:Int)+(c:Int)) (by omega),HHs.out]];have hown:=EO.out.alloc (.cells #[.int .i64 (Int.tmod (s:Int) 1000000000)] 3);have hlen:(ni ds).length=k:=by rw[ni_length];exact hS.out.len
    go_wp2_with (at_builtin;refine wpList_append_own_at _ rfl _ _ 22 rfl (w.heap.size+3) 3 i0 (.int .i64 0) 1 8 Tryz.underlying22 hi hz0 hz1 hz2 rfl (by decide) (.slice A m cap) (ni ds).length ((ni ds).map (Value.int .i64)) rfl hown ⟨u2.heap.size,0,none⟩ 1 1 [.int .i64 (Int.tmod (s:Int) 1000000000)] rfl rfl (cell_one_new _ _ _) (by intro u hu;simp at hu;subst hu;rfl) (by rw[hlen];unfold maxLen;omega) (by rw[hlen];omega) (by have:=ES.out;simp;omega) ?_)
    intro v' w' hown' hgrow hne hblk;have hv':OwnV w' (w.heap.size+3) v' (ni (ds++[s % 1000000000])):=by
     have h:=hown';rw[HHm.out] at h;rw[OwnV,ni_length,List.length_append,hS.out.len];have e:(ni (ds++[s % 1000000000])).map (Value.int .i64)=(ni ds).map (Value.int .i64)++[.int .i64 ((s % 1000000000:Nat):Int)]:=by simp[ni]
     rw[e];exact h
    have hrow:∀ b,b<w.heap.size+3→(Value.slice A m cap).ownBlock≠some b:=fun b hb he=>by
     have:=(World.ownsRow.lt EO.out b he).1
     omega
    have M0:=(E0.alloc (.cells #[.int .i64 (Int.tmod (s:Int) 1000000000)] 3)).grown hgrow (hrow _ (by omega));have M1:=(E1.alloc (.cells #[.int .i64 (Int.tmod (s:Int) 1000000000)] 3)).grown hgrow (hrow _ (by omega));have M2:=(E2.alloc (.cells #[.int .i64 (Int.tmod (s:Int) 1000000000)] 3)).grown hgrow (hrow _ (by omega));have MB:=zz ((EB.out.alloc EB.out.size (.cells #[.int .i64 (Int.tmod (s:Int) 1000000000)] 3)).grown hgrow (by have:=EB.out.size;simp;omega) (fun g he=>by have:=(World.ownsRow.lt EO.out g he).1;omega));have MS:=zz (show w.heap.size+3≤w'.heap.size by have h1:=hgrow.size;have h2:=ES.out;simp at h1;omega);have MO:=zz hv';clear hown' hgrow hne hblk hown;have z00:=M0.cell0;have z01:=M0.cell1;have z10:=M1.cell0;have z11:=M1.cell1;have z20:=M2.cell0;have z21:=M2.cell1;rcases hv'.form with ⟨_,he⟩ | ⟨g,cap',rfl,_⟩
    ·simp[ni] at he
    ·have hlen2:(ni (ds++[s % 1000000000])).length=k+1:=by rw[ni_length,List.length_append,hS.out.len];rfl
     have hq1:s / 1000000000≤1:=by omega
     clear hv' hrow;go_wp2;go_roundw
     case rel=>exact⟨k+1,s / 1000000000,ds++[s % 1000000000],_,_,_,rfl,congrArg (Value.int .i64) (by omega),by rw[show((k+1:Nat):Int)=(k:Int)+1 by omega],hq1,by omega,p0,q0,M0,M1,M2,MO,MS,MB⟩
     case measure=>simp[intOf] <;> omega
   ·have hkJ:(Y.length:Int)≤(k:Int):=by omega
    by_cases h3:0<c
    ·have hc3:(0:Int)<(c:Int):=by omega
     have j0:k≤100000:=by rcases hC.out with h | h | h <;> omega
     have e0:k≤100000:=by omega
     obtain⟨x,hx⟩:∃ x:Nat,x=X.getD k 0:=⟨_,rfl⟩;obtain⟨y,hy⟩:∃ y:Nat,y=Y.getD k 0:=⟨_,rfl⟩;have hx9:x<1000000000:=by rw[hx];exact n0.out.getD k
     have hy9:y<1000000000:=by rw[hy];exact o0.out.getD k
     obtain⟨s,hs⟩:∃ s:Nat,s=x+y+c:=⟨_,rfl⟩;have hsI:(x:Int)+(y:Int)+(c:Int)=(s:Int):=by omega
     have hq:Int.tdiv (s:Int) 1000000000=((s / 1000000000:Nat):Int):=(Int.ofNat_tdiv s 1000000000).symm;have hm:Int.tmod (s:Int) 1000000000=((s % 1000000000:Nat):Int):=(Int.ofNat_tmod s 1000000000).symm;have p0:Hid (SumA X Y (k+1) (s / 1000000000) (ds++[s % 1000000000])):=zz (by have h:=hS.out.step n0.out o0.out;rw[← hx,← hy,← hs] at h;exact h);have q0:Hid (s / 1000000000=0∨k+1≤X.length∨k+1≤Y.length):=zz (by rcases Nat.lt_or_ge k X.length with h1 | h1;(exact .inr (.inl h1));rcases Nat.lt_or_ge k Y.length with h2 | h2;(exact .inr (.inr h2));have h:=SumA.past h1 h2 hS.out.carry;rw[← hx,← hy,← hs] at h;exact .inl h);have HHx:=zz hx;have HHy:=zz hy;have HHs:=zz hsI;have HHq:=zz hq;have HHm:=zz hm;have hs2:s≤1999999999:=by omega
     clear hx hy hs hsI hq hm;have q00:=C0.cell0;have q01:=C0.cell1;have q10:=C1.cell0;have q11:=C1.cell1;have q20:=C2.cell0;have q21:=C2.cell1;have tok1:True:=trivial;have tok2:True:=trivial;go_wp2_with fail
     go_region_held3 (fun w'=>w'.cell? ⟨w.heap.size,1,none⟩=some (.slice A1 X.length c1)∧w'.cell? ⟨w.heap.size+1,1,none⟩=some (.slice A2 Y.length c2)) (first
      | (exact⟨C0.cell1,C1.cell1⟩)
      | (exact⟨(LB.drew C0).cell1,(LB.drew C1).cell1⟩)
      | (exact⟨D0.cell1,D1.cell1⟩)
      | (exact⟨(LB.drew D0).cell1,(LB.drew D1).cell1⟩)
      | (exact⟨E0.cell1,E1.cell1⟩)
      | (exact⟨(LB.drew E0).cell1,(LB.drew E1).cell1⟩)
      | go_keep) (first
      | (go_at_call 151;clear tok1;((with_reducible refine(at_num _ _ X k (by first | exact RA.out | exact RN.drew1 RA.out)).mono ?_);rintro e u1 ⟨a0,rfl⟩;rw[← HHx.out];have D0:=LB.step (b:=w.heap.size) (x:=(.bool n)) (y:=(.slice A1 X.length c1)) (by first | exact C0 | exact LB.drew C0) a0;have D1:=LB.step (b:=(w.heap.size+1)) (x:=(.bool n)) (y:=(.slice A2 Y.length c2)) (by first | exact C1 | exact LB.drew C1) a0;have D2:=LB.step (b:=(w.heap.size+2)) (x:=(.bool false)) (y:=(.slice none 0 0)) (by first | exact C2 | exact LB.drew C2) a0;have DO:=zz (OwnV.step (base:=w.heap.size+3) (v:=.slice A m cap) (l:=ni ds) (by first | exact CO.out | exact OwnV.drew CO.out) a0);have DB:=zz (show Below w.heap.size w u1 from by first | exact below_call0 CB.out a0 | exact below_call_drew0 CB.out a0);have DS:=zz (show w.heap.size+3≤u1.heap.size from Nat.le_trans CS.out (by first | exact a0.size | exact(below_undrew a0).size));have k0:=zz (RN.stepN (v:=.slice A2 Y.length c2) (l:=Y) (by first | exact RB.out | exact RN.drew1 RB.out) a0);clear a0;have p00:=D0.cell0;have p01:=D0.cell1;have p10:=D1.cell0;have p11:=D1.cell1;have p20:=D2.cell0;have p21:=D2.cell1))
      | (go_at_call 151;clear tok2;((with_reducible refine(at_num _ _ Y k (by first | exact k0.out | exact RN.drew1 k0.out)).mono ?_);rintro e u2 ⟨b0,rfl⟩;rw[← HHy.out];have E0:=LB.step (b:=w.heap.size) (x:=(.bool n)) (y:=(.slice A1 X.length c1)) (by first | exact D0 | exact LB.drew D0) b0;have E1:=LB.step (b:=(w.heap.size+1)) (x:=(.bool n)) (y:=(.slice A2 Y.length c2)) (by first | exact D1 | exact LB.drew D1) b0;have E2:=LB.step (b:=(w.heap.size+2)) (x:=(.bool false)) (y:=(.slice none 0 0)) (by first | exact D2 | exact LB.drew D2) b0;have EO:=zz (OwnV.step (base:=w.heap.size+3) (v:=.slice A m cap) (l:=ni ds) (by first | exact DO.out | exact OwnV.drew DO.out) b0);have EB:=zz (show Below w.heap.size w u2 from by first | exact below_call0 DB.out b0 | exact below_call_drew0 DB.out b0);have ES:=zz (show w.heap.size+3≤u2.heap.size from Nat.le_trans DS.out (by first | exact b0.size | exact(below_undrew b0).size));clear b0;have r00:=E0.cell0;have r01:=E0.cell1;have r10:=E1.cell0;have r11:=E1.cell1;have r20:=E2.cell0;have r21:=E2.cell1)))
     rename_i hheld;clear hheld
     rw[show IntKind.i64.wrap (IntKind.i64.wrap ((x:Int)+(y:Int))+(c:Int))=(s:Int) by rw[IntWalk.i64_in ((x:Int)+(y:Int)) (by omega),IntWalk.i64_in ((x:Int)+(y:Int)+(c:Int)) (by omega),HHs.out]];have hown:=EO.out.alloc (.cells #[.int .i64 (Int.tmod (s:Int) 1000000000)] 3);have hlen:(ni ds).length=k:=by rw[ni_length];exact hS.out.len
     go_wp2_with (at_builtin;refine wpList_append_own_at _ rfl _ _ 22 rfl (w.heap.size+3) 3 i0 (.int .i64 0) 1 8 Tryz.underlying22 hi hz0 hz1 hz2 rfl (by decide) (.slice A m cap) (ni ds).length ((ni ds).map (Value.int .i64)) rfl hown ⟨u2.heap.size,0,none⟩ 1 1 [.int .i64 (Int.tmod (s:Int) 1000000000)] rfl rfl (cell_one_new _ _ _) (by intro u hu;simp at hu;subst hu;rfl) (by rw[hlen];unfold maxLen;omega) (by rw[hlen];omega) (by have:=ES.out;simp;omega) ?_)
     intro v' w' hown' hgrow hne hblk;have hv':OwnV w' (w.heap.size+3) v' (ni (ds++[s % 1000000000])):=by
      have h:=hown';rw[HHm.out] at h;rw[OwnV,ni_length,List.length_append,hS.out.len];have e:(ni (ds++[s % 1000000000])).map (Value.int .i64)=(ni ds).map (Value.int .i64)++[.int .i64 ((s % 1000000000:Nat):Int)]:=by simp[ni]
      rw[e];exact h
     have hrow:∀ b,b<w.heap.size+3→(Value.slice A m cap).ownBlock≠some b:=fun b hb he=>by
      have:=(World.ownsRow.lt EO.out b he).1
      omega
     have M0:=(E0.alloc (.cells #[.int .i64 (Int.tmod (s:Int) 1000000000)] 3)).grown hgrow (hrow _ (by omega));have M1:=(E1.alloc (.cells #[.int .i64 (Int.tmod (s:Int) 1000000000)] 3)).grown hgrow (hrow _ (by omega));have M2:=(E2.alloc (.cells #[.int .i64 (Int.tmod (s:Int) 1000000000)] 3)).grown hgrow (hrow _ (by omega));have MB:=zz ((EB.out.alloc EB.out.size (.cells #[.int .i64 (Int.tmod (s:Int) 1000000000)] 3)).grown hgrow (by have:=EB.out.size;simp;omega) (fun g he=>by have:=(World.ownsRow.lt EO.out g he).1;omega));have MS:=zz (show w.heap.size+3≤w'.heap.size by have h1:=hgrow.size;have h2:=ES.out;simp at h1;omega);have MO:=zz hv';clear hown' hgrow hne hblk hown;have z00:=M0.cell0;have z01:=M0.cell1;have z10:=M1.cell0;have z11:=M1.cell1;have z20:=M2.cell0;have z21:=M2.cell1;rcases hv'.form with ⟨_,he⟩ | ⟨g,cap',rfl,_⟩
     ·simp[ni] at he
     ·have hlen2:(ni (ds++[s % 1000000000])).length=k+1:=by rw[ni_length,List.length_append,hS.out.len];rfl
      have hq1:s / 1000000000≤1:=by omega
      clear hv' hrow;go_wp2;go_roundw
      case rel=>exact⟨k+1,s / 1000000000,ds++[s % 1000000000],_,_,_,rfl,congrArg (Value.int .i64) (by omega),by rw[show((k+1:Nat):Int)=(k:Int)+1 by omega],hq1,by omega,p0,q0,M0,M1,M2,MO,MS,MB⟩
      case measure=>simp[intOf] <;> omega
    ·obtain rfl:c=0:=by omega
     have HV:=zz (hS.out.stop (by omega) (by omega));have hSm:=zz hS.out.small;have hln:ds.length≤1000000:=by rw[hS.out.len];omega
     have RO:=zz (show RN wr wr.heap.size (.slice A m cap) ds from CO.out.ri);have q00:=C0.cell0;have q01:=C0.cell1;have q10:=C1.cell0;have q11:=C1.cell1;have q20:=C2.cell0;have q21:=C2.cell1;go_wp2_with fail
     refine(made_any _ _ _ ds RO.out hSm.out hln).mono ?_;rintro e w2 ⟨hb,v2,rfl,c0⟩;rw[HV.out] at c0;obtain⟨y,hy⟩:∃ y:Int,y=sgn n (val X+val Y):=⟨_,rfl⟩;have HY:=zz hy;rw[← hy] at c0;obtain⟨A3,c3,rfl,hs2⟩:=c0.parts;have g0:=zz (CB.out.trans (hb.mono CB.out.size));have F2:=C2.step hb;have H0:=zz hs2;clear hs2 hb c0 hy;have f0:=F2.cell0;have f1:=F2.cell1;have f2:=F2.frozen 0;have f3:=F2.frozen 1;go_wp2;(try simp only[Exit.inBlock,Exit.then])
     rw[← HY.out];exact end_one rfl F2 g0.out (by omega) H0.out rfl rfl
set_option maxRecDepth 100000 in
set_option maxHeartbeats 2000000 in
theorem Diff_core (w:World) (n:Bool) (sa sb:Value) (p q:Nat) (ha:RN w w.heap.size sa (dig p)) (hb:RN w w.heap.size sb (dig q)) (hp0:p≠0) (hq0:q≠0) (hqp:q≤p) (hlp:(dig p).length≤100000) :
  Calls Tryz.prog 125 #[.agg #[.bool n,sa],.agg #[.bool n,sb]] w fun e w'=>Below w.heap.size w w'∧RetV w' (sgn n (p-q)) e:=by
 obtain⟨i0,hi,hz0,hz1,hz2⟩:=info_parts info_int;have hless:=decide_eq_false (show ¬ p<q by omega);have hlq:(dig q).length≤(dig p).length:=dig_len_mono hqp;obtain⟨X,hXd⟩:∃ X,X=dig p:=⟨_,rfl⟩;obtain⟨Y,hYd⟩:∃ Y,Y=dig q:=⟨_,rfl⟩;have m0:Hid (∀ (w:World) (va vb:Value),RN w w.heap.size va X→RN w w.heap.size vb Y→Calls Tryz.prog 120 #[va,vb] w fun e w'=>Below w.heap.size w w'∧e=.returned (.bool false)):=
  zz (fun w va vb h h'=>by rw[hXd] at h;rw[hYd] at h';rw[← hless];exact RLess_any w va vb p q h h')
 have n0:=zz (show Small X by rw[hXd];exact dig_small _);have v0:=zz (show Small Y by rw[hYd];exact dig_small _);have o0:=zz (show val X=p by rw[hXd,val_dig]);have p0:=zz (show val Y=q by rw[hYd,val_dig]);have x0:=zz hqp;have hX0:0<X.length:=by rw[hXd];exact List.length_pos_iff.2 (fun e=>hp0 (dig_eq_nil.1 e))
 have hY0:0<Y.length:=by rw[hYd];exact List.length_pos_iff.2 (fun e=>hq0 (dig_eq_nil.1 e))
 rw[← hXd] at ha hlp hlq;rw[← hYd] at hb hlq;clear hXd hYd hless hp0 hq0 hqp;obtain⟨A1,c1,rfl,-,-,hcell⟩:=ha.cell;obtain⟨g,off,rfl,hg,hcx⟩:=hcell hX0;replace hcx:=zz hcx;clear hcell;obtain⟨A2,c2,rfl,-⟩:=hb.cell;obtain⟨w0,hw0⟩:∃ w0:World,w0=((w.alloc (.cells #[.bool n,.slice (some ⟨g,off,none⟩) X.length c1] 24)).alloc (.cells #[.bool n,.slice A2 Y.length c2] 24)).alloc (.cells #[.bool false,.slice none 0 0] 24):=⟨_,rfl⟩;have b0:=zz (show Below w.heap.size w w0 from by rw[hw0];(repeat' (first | exact Below.refl _ _ | refine Below.drew ?_ | refine Below.alloc ?_ (by first | exact Nat.le_refl _ | (simp;done) | (simp;omega)) _)));have L0:LB w0 w.heap.size (.bool n) (.slice (some ⟨g,off,none⟩) X.length c1):=by rw[hw0];(repeat (first | (refine LB.new' ?_;simp;done) | refine LB.alloc ?_ _))
 have L1:LB w0 (w.heap.size+1) (.bool n) (.slice A2 Y.length c2):=by rw[hw0];(repeat (first | (refine LB.new' ?_;simp;done) | refine LB.alloc ?_ _))
 have L2:LB w0 (w.heap.size+2) (.bool false) (.slice none 0 0):=by rw[hw0];(repeat (first | (refine LB.new' ?_;simp;done) | refine LB.alloc ?_ _))
 have hsz0:w.heap.size+3≤w0.heap.size:=by rw[hw0];simp
 have HA:=zz ha;have q0:=zz hb;subst hw0;clear ha hb;have hXb:((X.length:Int)==0)=false:=by rw[beq_eq_false_iff_ne];omega
 have hYb:((Y.length:Int)==0)=false:=by rw[beq_eq_false_iff_ne];omega
 go_enter Tryz.func125,Tryz.ntmps125
 go_wp2_with fail
 refine(m0.out _ _ _ (RN.stepN HA.out b0.out) (RN.stepN q0.out b0.out)).mono ?_;rintro e w1 ⟨a0,rfl⟩;have N0:=L0.step a0;have N1:=L1.step a0;have N2:=L2.step a0;have NB:=zz (b0.out.trans (a0.mono b0.out.size));have NS:=zz (Nat.le_trans hsz0 a0.size);clear a0 b0 L0 L1 L2 hsz0 m0;go_wp2;go_loopw [5,6,7] (fun dv cv iv wr=>∃ (k c:Nat) (ds:List Nat) (A:Option Addr) (m cap:Nat),dv=.slice A m cap∧cv=.int .i64 c∧iv=.int .i64 k∧c≤1∧k≤X.length∧Hid (DiffA X Y k c ds)∧LB wr w.heap.size (.bool n) (.slice (some ⟨g,off,none⟩) X.length c1)∧LB wr (w.heap.size+1) (.bool n) (.slice A2 Y.length c2)∧LB wr (w.heap.size+2) (.bool false) (.slice none 0 0)∧Hid (OwnV wr (w.heap.size+3) dv (ni ds))∧Hid (w.heap.size+3≤wr.heap.size)∧Hid (Below w.heap.size w wr)) (fun _ _ iv _=>X.length-(intOf iv).toNat)
 case atStart=>exact⟨0,0,[],_,_,_,rfl,rfl,rfl,by omega,by omega,zz (DiffA.start _ _),N0,N1,N2,zz (OwnV.nil _ _),NS,NB⟩
 case round=>
  clear N0 N1 N2 NB NS;obtain⟨k,c,ds,A,m,cap,rfl,rfl,rfl,hc1,e0,hS,C0,C1,C2,CO,CS,CB⟩:=hrel;have RA:=zz (RN.stepN HA.out CB.out);have RB:=zz (RN.stepN q0.out CB.out);by_cases h1:k<X.length
  ·have hkI:(k:Int)<(X.length:Int):=by omega
   have g0:k≤100000:=by omega
   have hgr:g<wr.heap.size:=Nat.lt_of_lt_of_le hg CB.out.size;have hc:=(CB.out.cell (p:=⟨g,off+k,none⟩) hg).trans (hcx.out k h1);obtain⟨x,hx⟩:∃ x:Nat,x=X[k]:=⟨_,rfl⟩;rw[← hx] at hc;have hxg:X.getD k 0=x:=by rw[hx];exact getD_get h1
   obtain⟨y,hy⟩:∃ y:Nat,y=Y.getD k 0:=⟨_,rfl⟩;have hx9:x<1000000000:=by rw[← hxg];exact n0.out.getD k
   have hy9:y<1000000000:=by rw[hy];exact v0.out.getD k
   have HHx:=zz hxg;have HHy:=zz hy;clear hx hxg hy;have q00:=C0.cell0;have q01:=C0.cell1;have q10:=C1.cell0;have q11:=C1.cell1;have q20:=C2.cell0;have q21:=C2.cell1;have tok1:True:=trivial;go_wp2_with fail
   go_region_held3 (fun w'=>w'.cell? ⟨w.heap.size,1,none⟩=some (.slice (some ⟨g,off,none⟩) X.length c1)∧w'.cell? ⟨w.heap.size+1,1,none⟩=some (.slice A2 Y.length c2)∧w'.cell? ⟨g,off+k,none⟩=some (.int .i64 (x:Int))) (first
    | (exact⟨C0.cell1,C1.cell1,hc⟩)
    | (exact⟨(LB.drew C0).cell1,(LB.drew C1).cell1,hc⟩)
    | (exact⟨D0.cell1,D1.cell1,hd⟩)
    | (exact⟨(LB.drew D0).cell1,(LB.drew D1).cell1,hd⟩)
    | go_keep) (first
    | (go_at_call 151;clear tok1;((with_reducible refine(at_num _ _ Y k (by first | exact RB.out | exact RN.drew1 RB.out)).mono ?_);rintro e u1 ⟨a0,rfl⟩;rw[← HHy.out];have D0:=LB.step (b:=w.heap.size) (x:=(.bool n)) (y:=(.slice (some ⟨g,off,none⟩) X.length c1)) (by first | exact C0 | exact LB.drew C0) a0;have D1:=LB.step (b:=(w.heap.size+1)) (x:=(.bool n)) (y:=(.slice A2 Y.length c2)) (by first | exact C1 | exact LB.drew C1) a0;have D2:=LB.step (b:=(w.heap.size+2)) (x:=(.bool false)) (y:=(.slice none 0 0)) (by first | exact C2 | exact LB.drew C2) a0;have DO:=zz (OwnV.step (base:=w.heap.size+3) (v:=.slice A m cap) (l:=ni ds) (by first | exact CO.out | exact OwnV.drew CO.out) a0);have DB:=zz (show Below w.heap.size w u1 from by first | exact below_call0 CB.out a0 | exact below_call_drew0 CB.out a0);have DS:=zz (show w.heap.size+3≤u1.heap.size from Nat.le_trans CS.out (by first | exact a0.size | exact(below_undrew a0).size));have hd:u1.cell? ⟨g,off+k,none⟩=some (.int .i64 (x:Int)):=(a0.cell (p:=⟨g,off+k,none⟩) hgr).trans hc;clear a0;have p00:=D0.cell0;have p01:=D0.cell1;have p10:=D1.cell0;have p11:=D1.cell1;have p20:=D2.cell0;have p21:=D2.cell1)))
   rename_i hheld;clear hheld
   rw[show IntKind.i64.wrap (IntKind.i64.wrap ((x:Int)-(y:Int))-(c:Int))=(x:Int)-(y:Int)-(c:Int) by rw[IntWalk.i64_in ((x:Int)-(y:Int)) (by omega),IntWalk.i64_in ((x:Int)-(y:Int)-(c:Int)) (by omega)]];obtain⟨t,ht⟩:∃ t:Int,t=(x:Int)-(y:Int)-(c:Int):=⟨_,rfl⟩;rw[← ht];by_cases hle:0≤t
   ·obtain⟨d,rfl⟩:=Int.eq_ofNat_of_zero_le hle;have k0:Hid (DiffA X Y (k+1) 0 (ds++[d])):=zz (hS.out.step_up n0.out (by rw[HHx.out,← HHy.out];omega));have hdn:(decide ((d:Int)<0))=false:=decide_eq_false (by omega);clear ht;have hown:=DO.out.alloc (.cells #[.int .i64 (d:Int)] 3);have hlen:(ni ds).length=k:=by rw[ni_length];exact hS.out.len
    go_wp2_with (at_builtin;refine wpList_append_own_at _ rfl _ _ 22 rfl (w.heap.size+3) 3 i0 (.int .i64 0) 1 8 Tryz.underlying22 hi hz0 hz1 hz2 rfl (by decide) (.slice A m cap) (ni ds).length ((ni ds).map (Value.int .i64)) rfl hown ⟨u1.heap.size,0,none⟩ 1 1 [.int .i64 (d:Int)] rfl rfl (cell_one_new _ _ _) (by intro u hu;simp at hu;subst hu;rfl) (by rw[hlen];unfold maxLen;omega) (by rw[hlen];omega) (by have:=DS.out;simp;omega) ?_)
    intro v' w' hown' hgrow hne hblk;have hv':OwnV w' (w.heap.size+3) v' (ni (ds++[d])):=by
     have h:=hown';rw[OwnV,ni_length,List.length_append,hS.out.len];have e:(ni (ds++[d])).map (Value.int .i64)=(ni ds).map (Value.int .i64)++[.int .i64 (d:Int)]:=by simp[ni]
     rw[e];exact h
    have hrow:∀ b,b<w.heap.size+3→(Value.slice A m cap).ownBlock≠some b:=fun b hb he=>by
     have:=(World.ownsRow.lt DO.out b he).1
     omega
    have M0:=(D0.alloc (.cells #[.int .i64 (d:Int)] 3)).grown hgrow (hrow _ (by omega));have M1:=(D1.alloc (.cells #[.int .i64 (d:Int)] 3)).grown hgrow (hrow _ (by omega));have M2:=(D2.alloc (.cells #[.int .i64 (d:Int)] 3)).grown hgrow (hrow _ (by omega));have MB:=zz ((DB.out.alloc DB.out.size (.cells #[.int .i64 (d:Int)] 3)).grown hgrow (by have:=DB.out.size;simp;omega) (fun g he=>by have:=(World.ownsRow.lt DO.out g he).1;omega));have MS:=zz (show w.heap.size+3≤w'.heap.size by have h1:=hgrow.size;have h2:=DS.out;simp at h1;omega);have MO:=zz hv';clear hown' hgrow hne hblk hown;have z00:=M0.cell0;have z01:=M0.cell1;have z10:=M1.cell0;have z11:=M1.cell1;have z20:=M2.cell0;have z21:=M2.cell1;rcases hv'.form with ⟨_,he⟩ | ⟨g',cap',rfl,_⟩
    ·simp[ni] at he
    ·have hlen2:(ni (ds++[d])).length=k+1:=by rw[ni_length,List.length_append,hS.out.len];rfl
     clear hv' hrow;go_wp2;go_roundw
     case rel=>exact⟨k+1,0,ds++[d],_,_,_,rfl,rfl,by rw[show((k+1:Nat):Int)=(k:Int)+1 by omega],by omega,by omega,k0,M0,M1,M2,MO,MS,MB⟩
     case measure=>simp[intOf] <;> omega
   ·obtain⟨d,hd2⟩:∃ d:Nat,(d:Int)=t+1000000000:=⟨(t+1000000000).toNat,by omega⟩;have k0:Hid (DiffA X Y (k+1) 1 (ds++[d])):=zz (hS.out.step_down (by rw[HHx.out,← HHy.out];omega) (by omega));have htn:t<0:=by omega
    have ht5:-2000000000≤t:=by omega
    have E0:=zz hd2;clear ht hle hd2;go_upto_region 18 with (fail)
    rw[show t+1000000000=(d:Int) from E0.out.symm];have hown:=DO.out.alloc (.cells #[.int .i64 (d:Int)] 3);have hlen:(ni ds).length=k:=by rw[ni_length];exact hS.out.len
    go_wp2_with (at_builtin;refine wpList_append_own_at _ rfl _ _ 22 rfl (w.heap.size+3) 3 i0 (.int .i64 0) 1 8 Tryz.underlying22 hi hz0 hz1 hz2 rfl (by decide) (.slice A m cap) (ni ds).length ((ni ds).map (Value.int .i64)) rfl hown ⟨u1.heap.size,0,none⟩ 1 1 [.int .i64 (d:Int)] rfl rfl (cell_one_new _ _ _) (by intro u hu;simp at hu;subst hu;rfl) (by rw[hlen];unfold maxLen;omega) (by rw[hlen];omega) (by have:=DS.out;simp;omega) ?_)
    intro v' w' hown' hgrow hne hblk;have hv':OwnV w' (w.heap.size+3) v' (ni (ds++[d])):=by
     have h:=hown';rw[OwnV,ni_length,List.length_append,hS.out.len];have e:(ni (ds++[d])).map (Value.int .i64)=(ni ds).map (Value.int .i64)++[.int .i64 (d:Int)]:=by simp[ni]
     rw[e];exact h
    have hrow:∀ b,b<w.heap.size+3→(Value.slice A m cap).ownBlock≠some b:=fun b hb he=>by
     have:=(World.ownsRow.lt DO.out b he).1
     omega
    have M0:=(D0.alloc (.cells #[.int .i64 (d:Int)] 3)).grown hgrow (hrow _ (by omega));have M1:=(D1.alloc (.cells #[.int .i64 (d:Int)] 3)).grown hgrow (hrow _ (by omega));have M2:=(D2.alloc (.cells #[.int .i64 (d:Int)] 3)).grown hgrow (hrow _ (by omega));have MB:=zz ((DB.out.alloc DB.out.size (.cells #[.int .i64 (d:Int)] 3)).grown hgrow (by have:=DB.out.size;simp;omega) (fun g he=>by have:=(World.ownsRow.lt DO.out g he).1;omega));have MS:=zz (show w.heap.size+3≤w'.heap.size by have h1:=hgrow.size;have h2:=DS.out;simp at h1;omega);have MO:=zz hv';clear hown' hgrow hne hblk hown;have z00:=M0.cell0;have z01:=M0.cell1;have z10:=M1.cell0;have z11:=M1.cell1;have z20:=M2.cell0;have z21:=M2.cell1;rcases hv'.form with ⟨_,he⟩ | ⟨g',cap',rfl,_⟩
    ·simp[ni] at he
    ·have hlen2:(ni (ds++[d])).length=k+1:=by rw[ni_length,List.length_append,hS.out.len];rfl
     clear hv' hrow;go_wp2;go_roundw
     case rel=>exact⟨k+1,1,ds++[d],_,_,_,rfl,rfl,by rw[show((k+1:Nat):Int)=(k:Int)+1 by omega],by omega,by omega,k0,M0,M1,M2,MO,MS,MB⟩
     case measure=>simp[intOf] <;> omega
  ·obtain rfl:k=X.length:=by omega
   have HV:=zz (show val ds=p-q by have h:=hS.out.stop hlq (by rw[o0.out,p0.out];exact x0.out);rw[o0.out,p0.out] at h;omega);have hSm:=zz hS.out.small;have hln:ds.length≤1000000:=by rw[hS.out.len];omega
   have RO:=zz (show RN wr wr.heap.size (.slice A m cap) ds from CO.out.ri);have q00:=C0.cell0;have q01:=C0.cell1;have q10:=C1.cell0;have q11:=C1.cell1;have q20:=C2.cell0;have q21:=C2.cell1;go_wp2_with fail
   refine(made_any _ _ _ ds RO.out hSm.out hln).mono ?_;rintro e w2 ⟨hb,v2,rfl,c0⟩;rw[HV.out] at c0;obtain⟨y,hy⟩:∃ y:Int,y=sgn n (p-q):=⟨_,rfl⟩;have HY:=zz hy;rw[← hy] at c0;obtain⟨A3,c3,rfl,hs2⟩:=c0.parts;have d0:=zz (CB.out.trans (hb.mono CB.out.size));have F2:=C2.step hb;have F0:=zz hs2;clear hs2 hb c0 hy;have f0:=F2.cell0;have f1:=F2.cell1;have f2:=F2.frozen 0;have f3:=F2.frozen 1;go_wp2;(try simp only[Exit.inBlock,Exit.then])
   rw[← HY.out];exact end_one rfl F2 d0.out (by omega) F0.out rfl rfl
set_option maxRecDepth 100000 in
set_option maxHeartbeats 2000000 in
theorem Diff_less (w:World) (n:Bool) (sa sb:Value) (p q:Nat) (ha:RN w w.heap.size sa (dig p)) (hb:RN w w.heap.size sb (dig q)) (hp0:p≠0) (hq0:q≠0) (hpq:p<q) (hlq:(dig q).length≤100000) :
  Calls Tryz.prog 125 #[.agg #[.bool n,sa],.agg #[.bool n,sb]] w fun e w'=>Below w.heap.size w w'∧RetV w' (-(sgn n (q-p))) e:=by
 have k0:Hid (∀ (w:World) (va vb:Value),RN w w.heap.size va (dig p)→RN w w.heap.size vb (dig q)→Calls Tryz.prog 120 #[va,vb] w fun e w'=>Below w.heap.size w w'∧e=.returned (.bool true)):=
  zz (fun w va vb h h'=>by rw[← decide_eq_true hpq];exact RLess_any w va vb p q h h')
 have i0:Hid (∀ (w:World) (sa sb:Value),RN w w.heap.size sa (dig q)→RN w w.heap.size sb (dig p)→Calls Tryz.prog 125 #[.agg #[.bool n,sa],.agg #[.bool n,sb]] w fun e w'=>Below w.heap.size w w'∧RetV w' (sgn n (q-p)) e):=
  zz (fun w sa sb h h'=>Diff_core w n sa sb q p h h' hq0 hp0 (Nat.le_of_lt hpq) hlq)
 have l0:=zz (show(dig (sgn n (q-p)).natAbs).length≤1000000 by
  have h1:(sgn n (q-p)).natAbs≤q:=by unfold sgn;split <;> omega
  exact Nat.le_trans (dig_len_mono h1) (by omega))
 have hX0:0<(dig p).length:=List.length_pos_iff.2 (fun e=>hp0 (dig_eq_nil.1 e));have hY0:0<(dig q).length:=List.length_pos_iff.2 (fun e=>hq0 (dig_eq_nil.1 e));obtain⟨z,hz⟩:∃ z,z=sgn n (q-p):=⟨_,rfl⟩;rw[← hz];rw[← hz] at i0 l0;generalize dig p=X at *
 generalize dig q=Y at *
 clear hp0 hq0 hpq hlq hz;obtain⟨A1,c1,rfl,-⟩:=ha.cell;obtain⟨A2,c2,rfl,-⟩:=hb.cell;obtain⟨w0,hw0⟩:∃ w0:World,w0=((w.alloc (.cells #[.bool n,.slice A1 X.length c1] 24)).alloc (.cells #[.bool n,.slice A2 Y.length c2] 24)).alloc (.cells #[.bool false,.slice none 0 0] 24):=⟨_,rfl⟩;have a0:=zz (show Below w.heap.size w w0 from by rw[hw0];(repeat' (first | exact Below.refl _ _ | refine Below.drew ?_ | refine Below.alloc ?_ (by first | exact Nat.le_refl _ | (simp;done) | (simp;omega)) _)));have L0:LB w0 w.heap.size (.bool n) (.slice A1 X.length c1):=by rw[hw0];(repeat (first | (refine LB.new' ?_;simp;done) | refine LB.alloc ?_ _))
 have L1:LB w0 (w.heap.size+1) (.bool n) (.slice A2 Y.length c2):=by rw[hw0];(repeat (first | (refine LB.new' ?_;simp;done) | refine LB.alloc ?_ _))
 have L2:LB w0 (w.heap.size+2) (.bool false) (.slice none 0 0):=by rw[hw0];(repeat (first | (refine LB.new' ?_;simp;done) | refine LB.alloc ?_ _))
 have HA:=zz ha;have m0:=zz hb;subst hw0;clear ha hb;have hXb:((X.length:Int)==0)=false:=by rw[beq_eq_false_iff_ne];omega
 have hYb:((Y.length:Int)==0)=false:=by rw[beq_eq_false_iff_ne];omega
 go_enter Tryz.func125,Tryz.ntmps125
 go_wp2_with fail
 refine(k0.out _ _ _ (RN.stepN HA.out a0.out) (RN.stepN m0.out a0.out)).mono ?_;rintro e w1 ⟨b0,rfl⟩;have N0:=L0.step b0;have N1:=L1.step b0;have N2:=L2.step b0;have NB:=zz (a0.out.trans (b0.mono a0.out.size));clear b0 a0 L0 L1 L2 k0;have q00:=N0.cell0;have q01:=N0.cell1;have q10:=N1.cell0;have q11:=N1.cell1;go_wp2_with fail
 refine(i0.out _ _ _ (RN.stepN m0.out NB.out) (RN.stepN HA.out NB.out)).mono ?_;rintro e w2 ⟨c0,v2,rfl,g0⟩;have P2:=N2.step c0;have PB:=zz (NB.out.trans (c0.mono NB.out.size));have n0:=zz g0;clear c0 g0 N0 N1 N2 NB i0 q00 q01 q10 q11;go_wp2_with fail
 refine(RMinus_any _ _ z n0.out l0.out).mono ?_;rintro e w3 ⟨d0,v3,rfl,e0⟩;obtain⟨y,hy⟩:∃ y:Int,y=-z:=⟨_,rfl⟩;have HY:=zz hy;rw[← hy] at e0;obtain⟨A3,c3,rfl,hs3⟩:=e0.parts;have F2:=P2.step d0;have h0:=zz (PB.out.trans (d0.mono PB.out.size));have q0:=zz hs3;clear d0 e0 hs3 hy P2 PB n0;have f0:=F2.cell0;have f1:=F2.cell1;have f2:=F2.frozen 0;have f3:=F2.frozen 1;go_wp2;(try simp only[Exit.inBlock,Exit.then])
 rw[← HY.out];exact end_one rfl F2 h0.out (by omega) q0.out rfl rfl
theorem same_sub {x y:Int} (h:decide (x<0)=decide (y<0)) :
  (y.natAbs≤x.natAbs→sgn (decide (x<0)) (x.natAbs-y.natAbs)=x-y)∧(x.natAbs<y.natAbs→-(sgn (decide (x<0)) (y.natAbs-x.natAbs))=x-y):=by
 by_cases hx0:x<0
 ·have hy0:y<0:=by rw[decide_eq_true hx0] at h;exact of_decide_eq_true h.symm
  rw[decide_eq_true hx0];exact⟨fun _=>by show -((x.natAbs-y.natAbs:Nat):Int)=_;omega,fun _=>by show -(-((y.natAbs-x.natAbs:Nat):Int))=_;omega⟩
 ·have hy0:¬ y<0:=by rw[decide_eq_false hx0] at h;exact of_decide_eq_false h.symm
  rw[decide_eq_false hx0];exact⟨fun _=>by show((x.natAbs-y.natAbs:Nat):Int)=_;omega,fun _=>by show -((y.natAbs-x.natAbs:Nat):Int)=_;omega⟩
theorem same_add {x y:Int} (h:decide (x<0)=decide (y<0)):sgn (decide (x<0)) (x.natAbs+y.natAbs)=x+y:=by
 by_cases hx0:x<0
 ·have hy0:y<0:=by rw[decide_eq_true hx0] at h;exact of_decide_eq_true h.symm
  rw[decide_eq_true hx0]
  show -((x.natAbs+y.natAbs:Nat):Int)=_;omega
 ·have hy0:¬ y<0:=by rw[decide_eq_false hx0] at h;exact of_decide_eq_false h.symm
  rw[decide_eq_false hx0]
  show((x.natAbs+y.natAbs:Nat):Int)=_;omega
theorem Diff_same (w:World) (va vb:Value) (x y:Int) (ha:LV w w.heap.size va x) (hb:LV w w.heap.size vb y) (h:decide (x<0)=decide (y<0)) (hx:x≠0) (hy:y≠0) (hlx:(dig x.natAbs).length≤100000) (hly:(dig y.natAbs).length≤100000) :
  Calls Tryz.prog 125 #[va,vb] w fun e w'=>Below w.heap.size w w'∧RetV w' (x-y) e:=by
 obtain⟨sa,rfl,hsa⟩:=ha;obtain⟨sb,rfl,hsb⟩:=hb;rw[← h];rcases Nat.lt_or_ge x.natAbs y.natAbs with h1 | h1
 ·rw[← (same_sub h).2 h1];exact Diff_less w _ sa sb _ _ hsa hsb (by omega) (by omega) h1 hly
 ·rw[← (same_sub h).1 h1];exact Diff_core w _ sa sb _ _ hsa hsb (by omega) (by omega) h1 hlx
theorem Sum_same (w:World) (va vb:Value) (x y:Int) (ha:LV w w.heap.size va x) (hb:LV w w.heap.size vb y) (h:decide (x<0)=decide (y<0)) (hx:x≠0) (hy:y≠0) (hlx:(dig x.natAbs).length≤100000) (hly:(dig y.natAbs).length≤100000) :
  Calls Tryz.prog 129 #[va,vb] w fun e w'=>Below w.heap.size w w'∧RetV w' (x+y) e:=by
 obtain⟨sa,rfl,hsa⟩:=ha;obtain⟨sb,rfl,hsb⟩:=hb;rw[← h,← same_add h];have h1:=Sum_core w (decide (x<0)) sa sb (dig x.natAbs) (dig y.natAbs) hsa hsb (dig_small _) (dig_small _) (List.length_pos_iff.2 (fun e=>hx (Int.natAbs_eq_zero.1 (dig_eq_nil.1 e)))) (List.length_pos_iff.2 (fun e=>hy (Int.natAbs_eq_zero.1 (dig_eq_nil.1 e)))) hlx hly;rw[val_dig,val_dig] at h1;exact h1
set_option maxRecDepth 100000 in
set_option maxHeartbeats 2000000 in
theorem RDiff_any (w:World) (va vb:Value) (x y:Int) (ha:LV w w.heap.size va x) (hb:LV w w.heap.size vb y) (hlx:(dig x.natAbs).length≤100000) (hly:(dig y.natAbs).length≤100000) :
  Calls Tryz.prog 125 #[va,vb] w fun e w'=>Below w.heap.size w w'∧RetV w' (x-y) e:=by
 by_cases hs:x≠0∧y≠0∧decide (x<0)=decide (y<0)
 ·exact Diff_same w va vb x y ha hb hs.2.2 hs.1 hs.2.1 hlx hly
 obtain⟨A1,c1,rfl,-⟩:=ha.parts;obtain⟨A2,c2,rfl,-⟩:=hb.parts;have hX1:(((dig x.natAbs).length:Int)==0)=decide (x=0):=by
  by_cases h:x=0
  ·subst h;rw[show(0:Int).natAbs=0 from rfl,dig_zero];rfl
  ·have h1:0<(dig x.natAbs).length:=List.length_pos_iff.2 (fun e=>h (Int.natAbs_eq_zero.1 (dig_eq_nil.1 e)));rw[decide_eq_false h,beq_eq_false_iff_ne];omega
 have hY1:(((dig y.natAbs).length:Int)==0)=decide (y=0):=by
  by_cases h:y=0
  ·subst h;rw[show(0:Int).natAbs=0 from rfl,dig_zero];rfl
  ·have h1:0<(dig y.natAbs).length:=List.length_pos_iff.2 (fun e=>h (Int.natAbs_eq_zero.1 (dig_eq_nil.1 e)));rw[decide_eq_false h,beq_eq_false_iff_ne];omega
 have x0:=zz (show(dig x.natAbs).length≤100000 from hlx);have N0:=zz (show(dig y.natAbs).length≤100000 from hly);have o0:=zz (show(dig (-y).natAbs).length≤100000 by rw[Int.natAbs_neg];exact hly);have i0:=zz (show(dig y.natAbs).length≤1000000 by omega);have p0:Hid (RI w w.heap.size (.slice A1 (dig x.natAbs).length c1) (ni (dig x.natAbs))):=zz (by obtain⟨s,h1,h2⟩:=ha;injection h1 with h1;simp at h1;subst h1;exact h2);have q0:Hid (RI w w.heap.size (.slice A2 (dig y.natAbs).length c2) (ni (dig y.natAbs))):=zz (by obtain⟨s,h1,h2⟩:=hb;injection h1 with h1;simp at h1;subst h1;exact h2);have y0:Hid (decide (x<0)=decide (x<0)):=zz rfl;have r0:Hid (x≠0→y≠0→decide (x<0)=decide ((-y)<0)):=zz (fun h1 h2=>by
  have h3:¬ decide (x<0)=decide (y<0):=fun h=>hs ⟨h1,h2,h⟩
  by_cases hx:x<0 <;> by_cases hy:y<0
  ·rw[decide_eq_true hx,decide_eq_true hy] at h3;exact absurd rfl h3
  ·rw[decide_eq_true hx,decide_eq_true (by omega)]
  ·rw[decide_eq_false hx,decide_eq_false (by omega)]
  ·rw[decide_eq_false hx,decide_eq_false hy] at h3;exact absurd rfl h3)
 have j0:Hid (x≠0→y≠0→(decide (x<0)==decide (y<0))=false):=zz (fun h1 h2=>by
  rw[beq_eq_false_iff_ne];exact fun h=>hs ⟨h1,h2,h⟩)
 obtain⟨na,hna⟩:∃ na,na=decide (x<0):=⟨_,rfl⟩;obtain⟨nb,hnb⟩:∃ nb,nb=decide (y<0):=⟨_,rfl⟩;obtain⟨lx,hlx'⟩:∃ l,l=(dig x.natAbs).length:=⟨_,rfl⟩;obtain⟨ly,hly'⟩:∃ l,l=(dig y.natAbs).length:=⟨_,rfl⟩;rw[← hna,← hlx'] at ha;rw[← hnb,← hly'] at hb;rw[← hna,← hnb,← hlx',← hly'];rw[← hna,← hnb] at j0;rw[← hlx'] at hX1 p0;rw[← hly'] at hY1 q0;have O0:=zz hna;have P0:=zz hnb;have s0:=zz ha;have z0:=zz hb;have k0:Hid (Below w.heap.size w (((w.alloc (.cells #[.bool na,.slice A1 lx c1] 24)).alloc (.cells #[.bool nb,.slice A2 ly c2] 24)).alloc (.cells #[.bool na,.slice A1 lx c1] 24))):=zz (by(repeat' (first | exact Below.refl _ _ | refine Below.drew ?_ | refine Below.alloc ?_ (by first | exact Nat.le_refl _ | (simp;done) | (simp;omega)) _)));have I0:Hid (Below w.heap.size w (((w.alloc (.cells #[.bool na,.slice A1 lx c1] 24)).alloc (.cells #[.bool nb,.slice A2 ly c2] 24)).alloc (.cells #[.bool nb,.slice A2 ly c2] 24))):=zz (by(repeat' (first | exact Below.refl _ _ | refine Below.drew ?_ | refine Below.alloc ?_ (by first | exact Nat.le_refl _ | (simp;done) | (simp;omega)) _)));have A0:LB (((w.alloc (.cells #[.bool na,.slice A1 lx c1] 24)).alloc (.cells #[.bool nb,.slice A2 ly c2] 24)).alloc (.cells #[.bool na,.slice A1 lx c1] 24)) (w.heap.size+2) (.bool na) (.slice A1 lx c1):=by(repeat (first | (refine LB.new' ?_;simp;done) | refine LB.alloc ?_ _))
 have Q0:LB (((w.alloc (.cells #[.bool na,.slice A1 lx c1] 24)).alloc (.cells #[.bool nb,.slice A2 ly c2] 24)).alloc (.cells #[.bool nb,.slice A2 ly c2] 24)) (w.heap.size+2) (.bool nb) (.slice A2 ly c2):=by(repeat (first | (refine LB.new' ?_;simp;done) | refine LB.alloc ?_ _))
 obtain⟨w0,hw0⟩:∃ w0:World,w0=((w.alloc (.cells #[.bool na,.slice A1 lx c1] 24)).alloc (.cells #[.bool nb,.slice A2 ly c2] 24)).alloc (.cells #[.bool false,.slice none 0 0] 24):=⟨_,rfl⟩;have a0:=zz (show Below w.heap.size w w0 from by rw[hw0];(repeat' (first | exact Below.refl _ _ | refine Below.drew ?_ | refine Below.alloc ?_ (by first | exact Nat.le_refl _ | (simp;done) | (simp;omega)) _)));have L0:LB w0 w.heap.size (.bool na) (.slice A1 lx c1):=by rw[hw0];(repeat (first | (refine LB.new' ?_;simp;done) | refine LB.alloc ?_ _))
 have L1:LB w0 (w.heap.size+1) (.bool nb) (.slice A2 ly c2):=by rw[hw0];(repeat (first | (refine LB.new' ?_;simp;done) | refine LB.alloc ?_ _))
 have L2:LB w0 (w.heap.size+2) (.bool false) (.slice none 0 0):=by rw[hw0];(repeat (first | (refine LB.new' ?_;simp;done) | refine LB.alloc ?_ _))
 have t0:=zz (LV.step s0.out a0.out);have l0:=zz (LV.step z0.out a0.out);have R0:=zz (RI.step p0.out a0.out);have S0:=zz (RI.step q0.out a0.out);subst hw0;clear ha hb hna hnb hlx' hly' hlx hly hs y0;by_cases hx:x=0
 ·rw[decide_eq_true hx] at hX1;have HR:=zz (show x-y=-y by omega);clear hx hY1;go_enter Tryz.func125,Tryz.ntmps125
  go_wp2_with fail
  refine(RMinus_any _ _ y l0.out i0.out).mono ?_;rintro e w3 ⟨d0,v3,rfl,e0⟩;obtain⟨r,hr⟩:∃ r:Int,r=-y:=⟨_,rfl⟩;have B0:=zz hr;rw[← hr] at e0;obtain⟨A3,c3,rfl,hs3⟩:=e0.parts;have F2:=L2.step d0;have FB:=zz (a0.out.trans (d0.mono a0.out.size));have n0:=zz hs3;clear d0 e0 hs3 hr;have f0:=F2.cell0;have f1:=F2.cell1;have f2:=F2.frozen 0;have f3:=F2.frozen 1;go_wp2;(try simp only[Exit.inBlock,Exit.then])
  rw[HR.out,← B0.out];exact end_one rfl F2 FB.out (by omega) n0.out rfl rfl
 rw[decide_eq_false hx] at hX1;by_cases hy:y=0
 ·rw[decide_eq_true hy] at hY1;have HR:=zz (show x-y=x by omega);clear hx hy;go_enter Tryz.func125,Tryz.ntmps125
  go_wp2;(try simp only[Exit.inBlock,Exit.then])
  rw[HR.out];exact bodyPost_ret (LB.ret1 rfl _ A0 rfl) rfl ⟨k0.out,_,rfl,LV.step s0.out k0.out⟩
 rw[decide_eq_false hy] at hY1;have hne:=j0.out hx hy;have HS:=zz (r0.out hx hy);have HX:=zz hx;have u0:=zz (show -y≠0 by omega);clear hx hy r0 j0;obtain⟨m,hm⟩:∃ m,m=-y:=⟨_,rfl⟩;have HM:=zz hm;rw[← hm] at HS u0 o0;clear hm;have q00:=L0.cell0;have q01:=L0.cell1;have q10:=L1.cell0;have q11:=L1.cell1;have tok1:True:=trivial;have tok2:True:=trivial;have nz0:w.heap.size≠w.heap.size+2:=by omega
 have nz1:w.heap.size+1≠w.heap.size+2:=by omega
 go_enter Tryz.func125,Tryz.ntmps125
 go_wp2_with fail
 go_region_held3 (fun w'=>w'.cell? ⟨w.heap.size,0,none⟩=some (.bool na)∧w'.cell? ⟨w.heap.size,1,none⟩=some (.slice A1 lx c1)∧w'.cell? ⟨w.heap.size+1,0,none⟩=some (.bool nb)∧w'.cell? ⟨w.heap.size+1,1,none⟩=some (.slice A2 ly c2)) (first
  | (exact⟨L0.cell0,L0.cell1,L1.cell0,L1.cell1⟩)
  | (exact⟨(LB.drew L0).cell0,(LB.drew L0).cell1,(LB.drew L1).cell0,(LB.drew L1).cell1⟩)
  | (exact⟨D0.cell0,D0.cell1,D1.cell0,D1.cell1⟩)
  | (exact⟨(LB.drew D0).cell0,(LB.drew D0).cell1,(LB.drew D1).cell0,(LB.drew D1).cell1⟩)
  | (exact⟨E0.cell0,E0.cell1,E1.cell0,E1.cell1⟩)
  | (exact⟨(LB.drew E0).cell0,(LB.drew E0).cell1,(LB.drew E1).cell0,(LB.drew E1).cell1⟩)
  | (exact⟨(LB.far (LB.far E0 (p:=⟨w.heap.size+2,0,none⟩) nz0 _) (p:=⟨w.heap.size+2,1,none⟩) nz0 _).cell0,(LB.far (LB.far E0 (p:=⟨w.heap.size+2,0,none⟩) nz0 _) (p:=⟨w.heap.size+2,1,none⟩) nz0 _).cell1,(LB.far (LB.far E1 (p:=⟨w.heap.size+2,0,none⟩) nz1 _) (p:=⟨w.heap.size+2,1,none⟩) nz1 _).cell0,(LB.far (LB.far E1 (p:=⟨w.heap.size+2,0,none⟩) nz1 _) (p:=⟨w.heap.size+2,1,none⟩) nz1 _).cell1⟩)
  | go_keep) (first
  | (go_at_call 77;clear tok1;((with_reducible refine(RMinus_any _ _ y (by first | exact l0.out | exact LV.drew1 l0.out) i0.out).mono ?_);rintro e u1 ⟨b0,v1,rfl,g0⟩;rw[← HM.out] at g0;have D0:=LB.step (b:=w.heap.size) (x:=(.bool na)) (y:=(.slice A1 lx c1)) (by first | exact L0 | exact LB.drew L0) b0;have D1:=LB.step (b:=(w.heap.size+1)) (x:=(.bool nb)) (y:=(.slice A2 ly c2)) (by first | exact L1 | exact LB.drew L1) b0;have D2:=LB.step (b:=(w.heap.size+2)) (x:=(.bool false)) (y:=(.slice none 0 0)) (by first | exact L2 | exact LB.drew L2) b0;have DB:=zz (show Below w.heap.size w u1 from by first | exact below_call0 a0.out b0 | exact below_call_drew0 a0.out b0);have v0:=zz (LV.step (v:=.agg #[.bool na,.slice A1 lx c1]) (z:=x) (by first | exact t0.out | exact LV.drew1 t0.out) b0);have VM:=zz g0;clear b0 g0))
  | (go_at_call 129;clear tok2;((with_reducible refine(Sum_same _ _ _ x m (by first | exact v0.out | exact LV.drew1 v0.out) (by first | exact VM.out | exact LV.drew1 VM.out) HS.out HX.out u0.out x0.out o0.out).mono ?_);rintro e u2 ⟨c0,v2,rfl,h0⟩;have E0:=LB.step (b:=w.heap.size) (x:=(.bool na)) (y:=(.slice A1 lx c1)) (by first | exact D0 | exact LB.drew D0) c0;have E1:=LB.step (b:=(w.heap.size+1)) (x:=(.bool nb)) (y:=(.slice A2 ly c2)) (by first | exact D1 | exact LB.drew D1) c0;have E2:=LB.step (b:=(w.heap.size+2)) (x:=(.bool false)) (y:=(.slice none 0 0)) (by first | exact D2 | exact LB.drew D2) c0;have EB:=zz (show Below w.heap.size w u2 from by first | exact below_call0 DB.out c0 | exact below_call_drew0 DB.out c0);obtain⟨r,hr⟩:∃ r:Int,r=x+m:=⟨_,rfl⟩;rw[← hr] at h0;obtain⟨A3,c3,rfl,hs3⟩:=h0.parts;have HR:=zz (show r=x-y by rw[hr,HM.out];omega);have n0:=zz hs3;clear c0 h0 hs3 hr;have f0:=E2.cell0;have f1:=E2.cell1;have f2:=E2.frozen 0;have f3:=E2.frozen 1;have f4:=E2.lt)))
 go_wp2;(try simp only[Exit.inBlock,Exit.then])
 rw[← HR.out];exact end_one rfl E2 EB.out (by omega) n0.out rfl rfl
set_option maxRecDepth 100000 in
set_option maxHeartbeats 2000000 in
theorem RSum_any (w:World) (va vb:Value) (x y:Int) (ha:LV w w.heap.size va x) (hb:LV w w.heap.size vb y) (hlx:(dig x.natAbs).length≤100000) (hly:(dig y.natAbs).length≤100000) :
  Calls Tryz.prog 129 #[va,vb] w fun e w'=>Below w.heap.size w w'∧RetV w' (x+y) e:=by
 by_cases hs:x≠0∧y≠0∧decide (x<0)=decide (y<0)
 ·exact Sum_same w va vb x y ha hb hs.2.2 hs.1 hs.2.1 hlx hly
 obtain⟨A1,c1,rfl,-⟩:=ha.parts;obtain⟨A2,c2,rfl,-⟩:=hb.parts;have hX1:(((dig x.natAbs).length:Int)==0)=decide (x=0):=by
  by_cases h:x=0
  ·subst h;rw[show(0:Int).natAbs=0 from rfl,dig_zero];rfl
  ·have h1:0<(dig x.natAbs).length:=List.length_pos_iff.2 (fun e=>h (Int.natAbs_eq_zero.1 (dig_eq_nil.1 e)));rw[decide_eq_false h,beq_eq_false_iff_ne];omega
 have hY1:(((dig y.natAbs).length:Int)==0)=decide (y=0):=by
  by_cases h:y=0
  ·subst h;rw[show(0:Int).natAbs=0 from rfl,dig_zero];rfl
  ·have h1:0<(dig y.natAbs).length:=List.length_pos_iff.2 (fun e=>h (Int.natAbs_eq_zero.1 (dig_eq_nil.1 e)));rw[decide_eq_false h,beq_eq_false_iff_ne];omega
 have v0:=zz (show(dig x.natAbs).length≤100000 from hlx);have J0:=zz (show(dig y.natAbs).length≤100000 from hly);have k0:=zz (show(dig (-y).natAbs).length≤100000 by rw[Int.natAbs_neg];exact hly);have u0:=zz (show(dig y.natAbs).length≤1000000 by omega);have l0:Hid (RI w w.heap.size (.slice A1 (dig x.natAbs).length c1) (ni (dig x.natAbs))):=zz (by obtain⟨s,h1,h2⟩:=ha;injection h1 with h1;simp at h1;subst h1;exact h2);have m0:Hid (RI w w.heap.size (.slice A2 (dig y.natAbs).length c2) (ni (dig y.natAbs))):=zz (by obtain⟨s,h1,h2⟩:=hb;injection h1 with h1;simp at h1;subst h1;exact h2);have x0:Hid (decide (x<0)=decide (x<0)):=zz rfl;have n0:Hid (x≠0→y≠0→decide (x<0)=decide ((-y)<0)):=zz (fun h1 h2=>by
  have h3:¬ decide (x<0)=decide (y<0):=fun h=>hs ⟨h1,h2,h⟩
  by_cases hx:x<0 <;> by_cases hy:y<0
  ·rw[decide_eq_true hx,decide_eq_true hy] at h3;exact absurd rfl h3
  ·rw[decide_eq_true hx,decide_eq_true (by omega)]
  ·rw[decide_eq_false hx,decide_eq_false (by omega)]
  ·rw[decide_eq_false hx,decide_eq_false hy] at h3;exact absurd rfl h3)
 have g0:Hid (x≠0→y≠0→(decide (x<0)==decide (y<0))=false):=zz (fun h1 h2=>by
  rw[beq_eq_false_iff_ne];exact fun h=>hs ⟨h1,h2,h⟩)
 obtain⟨na,hna⟩:∃ na,na=decide (x<0):=⟨_,rfl⟩;obtain⟨nb,hnb⟩:∃ nb,nb=decide (y<0):=⟨_,rfl⟩;obtain⟨lx,hlx'⟩:∃ l,l=(dig x.natAbs).length:=⟨_,rfl⟩;obtain⟨ly,hly'⟩:∃ l,l=(dig y.natAbs).length:=⟨_,rfl⟩;rw[← hna,← hlx'] at ha;rw[← hnb,← hly'] at hb;rw[← hna,← hnb,← hlx',← hly'];rw[← hna,← hnb] at g0;rw[← hlx'] at hX1 l0;rw[← hly'] at hY1 m0;have K0:=zz hna;have M0:=zz hnb;have o0:=zz ha;have p0:=zz hb;have h0:Hid (Below w.heap.size w (((w.alloc (.cells #[.bool na,.slice A1 lx c1] 24)).alloc (.cells #[.bool nb,.slice A2 ly c2] 24)).alloc (.cells #[.bool na,.slice A1 lx c1] 24))):=zz (by(repeat' (first | exact Below.refl _ _ | refine Below.drew ?_ | refine Below.alloc ?_ (by first | exact Nat.le_refl _ | (simp;done) | (simp;omega)) _)));have i0:Hid (Below w.heap.size w (((w.alloc (.cells #[.bool na,.slice A1 lx c1] 24)).alloc (.cells #[.bool nb,.slice A2 ly c2] 24)).alloc (.cells #[.bool nb,.slice A2 ly c2] 24))):=zz (by(repeat' (first | exact Below.refl _ _ | refine Below.drew ?_ | refine Below.alloc ?_ (by first | exact Nat.le_refl _ | (simp;done) | (simp;omega)) _)));have y0:LB (((w.alloc (.cells #[.bool na,.slice A1 lx c1] 24)).alloc (.cells #[.bool nb,.slice A2 ly c2] 24)).alloc (.cells #[.bool na,.slice A1 lx c1] 24)) (w.heap.size+2) (.bool na) (.slice A1 lx c1):=by(repeat (first | (refine LB.new' ?_;simp;done) | refine LB.alloc ?_ _))
 have z0:LB (((w.alloc (.cells #[.bool na,.slice A1 lx c1] 24)).alloc (.cells #[.bool nb,.slice A2 ly c2] 24)).alloc (.cells #[.bool nb,.slice A2 ly c2] 24)) (w.heap.size+2) (.bool nb) (.slice A2 ly c2):=by(repeat (first | (refine LB.new' ?_;simp;done) | refine LB.alloc ?_ _))
 obtain⟨w0,hw0⟩:∃ w0:World,w0=((w.alloc (.cells #[.bool na,.slice A1 lx c1] 24)).alloc (.cells #[.bool nb,.slice A2 ly c2] 24)).alloc (.cells #[.bool false,.slice none 0 0] 24):=⟨_,rfl⟩;have b0:=zz (show Below w.heap.size w w0 from by rw[hw0];(repeat' (first | exact Below.refl _ _ | refine Below.drew ?_ | refine Below.alloc ?_ (by first | exact Nat.le_refl _ | (simp;done) | (simp;omega)) _)));have L0:LB w0 w.heap.size (.bool na) (.slice A1 lx c1):=by rw[hw0];(repeat (first | (refine LB.new' ?_;simp;done) | refine LB.alloc ?_ _))
 have L1:LB w0 (w.heap.size+1) (.bool nb) (.slice A2 ly c2):=by rw[hw0];(repeat (first | (refine LB.new' ?_;simp;done) | refine LB.alloc ?_ _))
 have L2:LB w0 (w.heap.size+2) (.bool false) (.slice none 0 0):=by rw[hw0];(repeat (first | (refine LB.new' ?_;simp;done) | refine LB.alloc ?_ _))
 have q0:=zz (LV.step o0.out b0.out);have r0:=zz (LV.step p0.out b0.out);have N0:=zz (RI.step l0.out b0.out);have O0:=zz (RI.step m0.out b0.out);subst hw0;clear ha hb hna hnb hlx' hly' hlx hly hs x0;by_cases hx:x=0
 ·rw[decide_eq_true hx] at hX1;have HR:=zz (show x+y=y by omega);clear hx hY1;go_enter Tryz.func129,Tryz.ntmps129
  go_wp2;(try simp only[Exit.inBlock,Exit.then])
  rw[HR.out];exact bodyPost_ret (LB.ret1 rfl _ z0 rfl) rfl ⟨i0.out,_,rfl,LV.step p0.out i0.out⟩
 rw[decide_eq_false hx] at hX1;by_cases hy:y=0
 ·rw[decide_eq_true hy] at hY1;have HR:=zz (show x+y=x by omega);clear hx hy;go_enter Tryz.func129,Tryz.ntmps129
  go_wp2;(try simp only[Exit.inBlock,Exit.then])
  rw[HR.out];exact bodyPost_ret (LB.ret1 rfl _ y0 rfl) rfl ⟨h0.out,_,rfl,LV.step o0.out h0.out⟩
 rw[decide_eq_false hy] at hY1;have hne:=g0.out hx hy;have HS:=zz (n0.out hx hy);have HX:=zz hx;have s0:=zz (show -y≠0 by omega);clear hx hy n0 g0;obtain⟨m,hm⟩:∃ m,m=-y:=⟨_,rfl⟩;have HM:=zz hm;rw[← hm] at HS s0 k0;clear hm;have q00:=L0.cell0;have q01:=L0.cell1;have q10:=L1.cell0;have q11:=L1.cell1;have tok1:True:=trivial;have tok2:True:=trivial;have nz0:w.heap.size≠w.heap.size+2:=by omega
 have nz1:w.heap.size+1≠w.heap.size+2:=by omega
 go_enter Tryz.func129,Tryz.ntmps129
 go_wp2_with fail
 go_region_held3 (fun w'=>w'.cell? ⟨w.heap.size,0,none⟩=some (.bool na)∧w'.cell? ⟨w.heap.size,1,none⟩=some (.slice A1 lx c1)∧w'.cell? ⟨w.heap.size+1,0,none⟩=some (.bool nb)∧w'.cell? ⟨w.heap.size+1,1,none⟩=some (.slice A2 ly c2)) (first
  | (exact⟨L0.cell0,L0.cell1,L1.cell0,L1.cell1⟩)
  | (exact⟨(LB.drew L0).cell0,(LB.drew L0).cell1,(LB.drew L1).cell0,(LB.drew L1).cell1⟩)
  | (exact⟨D0.cell0,D0.cell1,D1.cell0,D1.cell1⟩)
  | (exact⟨(LB.drew D0).cell0,(LB.drew D0).cell1,(LB.drew D1).cell0,(LB.drew D1).cell1⟩)
  | (exact⟨E0.cell0,E0.cell1,E1.cell0,E1.cell1⟩)
  | (exact⟨(LB.drew E0).cell0,(LB.drew E0).cell1,(LB.drew E1).cell0,(LB.drew E1).cell1⟩)
  | (exact⟨(LB.far (LB.far E0 (p:=⟨w.heap.size+2,0,none⟩) nz0 _) (p:=⟨w.heap.size+2,1,none⟩) nz0 _).cell0,(LB.far (LB.far E0 (p:=⟨w.heap.size+2,0,none⟩) nz0 _) (p:=⟨w.heap.size+2,1,none⟩) nz0 _).cell1,(LB.far (LB.far E1 (p:=⟨w.heap.size+2,0,none⟩) nz1 _) (p:=⟨w.heap.size+2,1,none⟩) nz1 _).cell0,(LB.far (LB.far E1 (p:=⟨w.heap.size+2,0,none⟩) nz1 _) (p:=⟨w.heap.size+2,1,none⟩) nz1 _).cell1⟩)
  | go_keep) (first
  | (go_at_call 77;clear tok1;((with_reducible refine(RMinus_any _ _ y (by first | exact r0.out | exact LV.drew1 r0.out) u0.out).mono ?_);rintro e u1 ⟨a0,v1,rfl,d0⟩;rw[← HM.out] at d0;have D0:=LB.step (b:=w.heap.size) (x:=(.bool na)) (y:=(.slice A1 lx c1)) (by first | exact L0 | exact LB.drew L0) a0;have D1:=LB.step (b:=(w.heap.size+1)) (x:=(.bool nb)) (y:=(.slice A2 ly c2)) (by first | exact L1 | exact LB.drew L1) a0;have D2:=LB.step (b:=(w.heap.size+2)) (x:=(.bool false)) (y:=(.slice none 0 0)) (by first | exact L2 | exact LB.drew L2) a0;have DB:=zz (show Below w.heap.size w u1 from by first | exact below_call0 b0.out a0 | exact below_call_drew0 b0.out a0);have t0:=zz (LV.step (v:=.agg #[.bool na,.slice A1 lx c1]) (z:=x) (by first | exact q0.out | exact LV.drew1 q0.out) a0);have VM:=zz d0;clear a0 d0))
  | (go_at_call 125;clear tok2;((with_reducible refine(Diff_same _ _ _ x m (by first | exact t0.out | exact LV.drew1 t0.out) (by first | exact VM.out | exact LV.drew1 VM.out) HS.out HX.out s0.out v0.out k0.out).mono ?_);rintro e u2 ⟨c0,v2,rfl,e0⟩;have E0:=LB.step (b:=w.heap.size) (x:=(.bool na)) (y:=(.slice A1 lx c1)) (by first | exact D0 | exact LB.drew D0) c0;have E1:=LB.step (b:=(w.heap.size+1)) (x:=(.bool nb)) (y:=(.slice A2 ly c2)) (by first | exact D1 | exact LB.drew D1) c0;have E2:=LB.step (b:=(w.heap.size+2)) (x:=(.bool false)) (y:=(.slice none 0 0)) (by first | exact D2 | exact LB.drew D2) c0;have EB:=zz (show Below w.heap.size w u2 from by first | exact below_call0 DB.out c0 | exact below_call_drew0 DB.out c0);obtain⟨r,hr⟩:∃ r:Int,r=x-m:=⟨_,rfl⟩;rw[← hr] at e0;obtain⟨A3,c3,rfl,hs3⟩:=e0.parts;have HR:=zz (show r=x+y by rw[hr,HM.out];omega);have G0:=zz hs3;clear c0 e0 hs3 hr;have f0:=E2.cell0;have f1:=E2.cell1;have f2:=E2.frozen 0;have f3:=E2.frozen 1;have f4:=E2.lt)))
 go_wp2;(try simp only[Exit.inBlock,Exit.then])
 rw[← HR.out];exact end_one rfl E2 EB.out (by omega) G0.out rfl rfl
theorem Right_good {w:World} {v:Value} {n:Bool} {l:List Int} (h:LR w w.heap.size v n l) (hv:Valid n l) :
  Calls Tryz.prog 118 #[v] w fun e w'=>Below w.heap.size w w'∧e=.returned (.bool true):=by
 refine(Right_any w v _ _ h).mono ?_;rintro e w' ⟨hw,b,rfl,hc⟩;rcases hc with ⟨_,hc⟩ | ⟨hn,_⟩
 ·exact⟨hw,by rw[hc]⟩
 ·exact absurd hv hn
theorem Right_bad {w:World} {v:Value} {n:Bool} {l:List Int} (h:LR w w.heap.size v n l) (hv:¬ Valid n l) :
  Calls Tryz.prog 118 #[v] w fun e w'=>Below w.heap.size w w'∧e=.returned (.bool false):=by
 refine(Right_any w v _ _ h).mono ?_;rintro e w' ⟨hw,b,rfl,hc⟩;rcases hc with ⟨hn,_⟩ | ⟨_,hc⟩
 ·exact absurd hn hv
 ·exact⟨hw,by rw[hc]⟩
theorem ord_num (x y:Int):(cmpZ x y).1=if x=y then 0 else if x<y then -1 else 1:=by
 unfold cmpZ;dsimp only;by_cases h:x=y
 ·subst h;simp
 ·rw[if_neg h];split <;> rfl
theorem ord_below {x y:Int} (hn:decide (x<0)=decide (y<0)) (h:x≠y):(!(decide (x.natAbs<y.natAbs)==decide (x<0)))=decide (x<y):=by
 by_cases hx:x<0
 ·have hy:y<0:=by simpa[hx] using hn
  rw[decide_eq_true hx];by_cases h1:x<y
  ·rw[decide_eq_true h1,decide_eq_false (by omega)];rfl
  ·rw[decide_eq_false h1,decide_eq_true (by omega)];rfl
 ·have hy:¬ y<0:=by simpa[hx] using hn
  rw[decide_eq_false hx];by_cases h1:x<y
  ·rw[decide_eq_true h1,decide_eq_true (by omega)];rfl
  ·rw[decide_eq_false h1,decide_eq_false (by omega)];rfl
theorem ord_sign {x y:Int} (hn:decide (x<0)≠decide (y<0)):decide (x<0)=decide (x<y):=by
 by_cases hx:x<0 <;> by_cases hy:y<0
 ·rw[decide_eq_true hx,decide_eq_true hy] at hn;exact absurd rfl hn
 ·rw[decide_eq_true hx,decide_eq_true (by omega)]
 ·rw[decide_eq_false hx,decide_eq_false (by omega)]
 ·rw[decide_eq_false hx,decide_eq_false hy] at hn;exact absurd rfl hn
theorem SameR_num {w:World} {va vb:Value} {x y:Int} (ha:LV w w.heap.size va x) (hb:LV w w.heap.size vb y) :
  Calls Tryz.prog 20 #[va,vb] w fun e w'=>Below w.heap.size w w'∧e=.returned (.bool (decide (x=y))):=by
 refine(SameR_any w va vb _ _ _ _ ha hb).mono ?_;rintro e w' ⟨hw,he⟩;have:(decide (x<0)=decide (y<0)∧ni (dig x.natAbs)=ni (dig y.natAbs))↔x=y:=⟨fun h=>lv_inj h.1 h.2,fun h=>by rw[h];exact⟨rfl,rfl⟩⟩;exact⟨hw,by rw[he,show decide (decide (x<0)=decide (y<0)∧ni (dig x.natAbs)=ni (dig y.natAbs))=decide (x=y) from decide_eq_decide.2 this]⟩
set_option maxRecDepth 100000 in
set_option maxHeartbeats 4000000 in
theorem ROrder_any (w:World) (va vb:Value) (x y:Int) (ha:LV w w.heap.size va x) (hb:LV w w.heap.size vb y) :
  Calls Tryz.prog 63 #[va,vb] w fun e w'=>Below w.heap.size w w'∧e=.returned (.int .i64 (cmpZ x y).1):=by
 obtain⟨na,A1,l1,c1,rfl,HA⟩:=ha.opened;obtain⟨nb,A2,l2,c2,rfl,HB⟩:=hb.opened;clear ha hb;obtain⟨w0,hw0⟩:∃ w0:World,w0=(w.alloc (.cells #[.bool na,.slice A1 l1 c1] 24)).alloc (.cells #[.bool nb,.slice A2 l2 c2] 24):=⟨_,rfl⟩;have a0:=zz (show Below w.heap.size w w0 by rw[hw0];(repeat' (first | exact Below.refl _ _ | refine Below.drew ?_ | refine Below.alloc ?_ (by first | exact Nat.le_refl _ | (simp;done) | (simp;omega)) _)));have L0:LB w0 w.heap.size (.bool na) (.slice A1 l1 c1):=by rw[hw0];(repeat (first | (refine LB.new' ?_;simp;done) | refine LB.alloc ?_ _))
 have L1:LB w0 (w.heap.size+1) (.bool nb) (.slice A2 l2 c2):=by rw[hw0];(repeat (first | (refine LB.new' ?_;simp;done) | refine LB.alloc ?_ _))
 replace HA:=zz (HA.step a0.out);replace HB:=zz (HB.step a0.out);have hna:=HA.out.is.1;have hnb:=HB.out.is.1;have i0:=zz HA.out.is.2.2;have j0:=zz HB.out.is.2.2;obtain⟨r,hr⟩:∃ r,r=(cmpZ x y).1:=⟨_,rfl⟩;rw[← hr];rw[ord_num] at hr;subst hw0;by_cases hxy:x=y
 ·have HR:=zz (show r=0 by rw[hr,if_pos hxy]);have HD:=zz (decide_eq_true hxy);clear hna hnb hr hxy;go_enter Tryz.func63,Tryz.ntmps63
  go_wp2_with fail
  refine(SameR_num HA.out HB.out).mono ?_;rintro e w1 ⟨b0,rfl⟩;rw[HD.out];have c0:=zz (a0.out.trans (b0.mono a0.out.size));clear b0;go_wp2;go_ret;rw[HR.out];exact⟨c0.out,rfl⟩
 ·have HD:=zz (decide_eq_false hxy);have HR:=zz (show r=if x<y then -1 else 1 by rw[hr,if_neg hxy]);by_cases hn:na=nb
  ·subst hn;have o0:=zz (show(!(decide (x.natAbs<y.natAbs)==na))=decide (x<y) by rw[hna];exact ord_below (hna.symm.trans hnb) hxy);clear hna hnb hr hxy;obtain⟨ls,hls⟩:∃ ls,ls=decide (x.natAbs<y.natAbs):=⟨_,rfl⟩;rw[← hls] at o0;have s0:=zz hls;clear hls;go_enter Tryz.func63,Tryz.ntmps63
   go_wp2_with fail
   refine(SameR_num HA.out HB.out).mono ?_;rintro e w1 ⟨b0,rfl⟩;rw[HD.out];have HU:=zz b0;clear b0;have M0:=L0.step HU.out;have M1:=L1.step HU.out;have c0:=zz (a0.out.trans (HU.out.mono a0.out.size));have k0:=zz (RN.stepN i0.out HU.out);have l0:=zz (RN.stepN j0.out HU.out);clear L0 L1 a0 HA HB i0 j0 HU;have q00:=M0.cell0;have q01:=M0.cell1;have q10:=M1.cell0;have q11:=M1.cell1;go_wp2_with fail
   have KS:∀ w':World,Below w1.heap.size w1 w'→(Below w1.heap.size w1 w'∧w'.cell? ⟨w.heap.size,0,none⟩=some (.bool na)∧w'.cell? ⟨w.heap.size,1,none⟩=some (.slice A1 l1 c1)∧w'.cell? ⟨w.heap.size+1,1,none⟩=some (.slice A2 l2 c2)):=fun w' h=>⟨h,(M0.step h).cell0,(M0.step h).cell1,(M1.step h).cell1⟩
   have KB:∀ w':World,(Below w1.heap.size w1 w'∧w'.cell? ⟨w.heap.size,0,none⟩=some (.bool na)∧w'.cell? ⟨w.heap.size,1,none⟩=some (.slice A1 l1 c1)∧w'.cell? ⟨w.heap.size+1,1,none⟩=some (.slice A2 l2 c2))→Below w1.heap.size w1 w':=fun w' h=>h.1
   go_region_held3 (fun w'=>Below w1.heap.size w1 w'∧w'.cell? ⟨w.heap.size,0,none⟩=some (.bool na)∧w'.cell? ⟨w.heap.size,1,none⟩=some (.slice A1 l1 c1)∧w'.cell? ⟨w.heap.size+1,1,none⟩=some (.slice A2 l2 c2)) (first
    | (refine KS _ ?_;repeat (first | with_reducible exact KU.out | with_reducible exact Below.refl _ _ | with_reducible refine below_drew1 ?_))
    | go_keep) (first
    | (go_at_call 120;((with_reducible refine(RLess_any _ _ _ x.natAbs y.natAbs (by exact RN.stepN k0.out (KB _ (by assumption))) (by exact RN.stepN l0.out (KB _ (by assumption)))).mono ?_);rintro e u ⟨hbu,rfl⟩;rw[← s0.out];have KU:=zz (Below.trans (KB _ (by assumption)) (hbu.mono (KB _ (by assumption)).size));clear hbu)))
   rename_i hheld
   have p0:=zz (c0.out.trans (KU.out.mono c0.out.size));clear hheld KS KB KU M0 M1 k0 l0 c0 q00 q01 q10 q11;rw[o0.out];by_cases hlt:x<y
   ·rw[decide_eq_true hlt];have e0:=zz (show r=-1 by rw[HR.out,if_pos hlt]);clear hlt;simp only[Exit.then]
    go_wp2;go_ret;rw[e0.out];exact⟨p0.out,rfl⟩
   ·rw[decide_eq_false hlt];have e0:=zz (show r=1 by rw[HR.out,if_neg hlt]);clear hlt;simp only[Exit.then]
    go_wp2;go_ret;rw[e0.out];exact⟨p0.out,rfl⟩
  ·have hnn:(na==nb)=false:=by rw[beq_eq_false_iff_ne];exact hn
   have q0:=zz (show na=decide (x<y) by rw[hna];exact ord_sign (by rw[← hna,← hnb];exact hn));clear hna hnb hr hxy hn;go_enter Tryz.func63,Tryz.ntmps63
   go_wp2_with fail
   refine(SameR_num HA.out HB.out).mono ?_;rintro e w1 ⟨b0,rfl⟩;rw[HD.out];have HU:=zz b0;clear b0;have M0:=L0.step HU.out;have M1:=L1.step HU.out;have c0:=zz (a0.out.trans (HU.out.mono a0.out.size));clear L0 L1 a0 HA HB i0 j0 HU;have q00:=M0.cell0;have q01:=M0.cell1;have q10:=M1.cell0;have q11:=M1.cell1;cases na with
   | true=>
    have e0:=zz (show r=-1 by rw[HR.out,if_pos (of_decide_eq_true q0.out.symm)]);go_wp2;go_ret;rw[e0.out];exact⟨c0.out,rfl⟩
   | false=>
    have e0:=zz (show r=1 by rw[HR.out,if_neg (of_decide_eq_false q0.out.symm)]);go_wp2;go_ret;rw[e0.out];exact⟨c0.out,rfl⟩
theorem sgn_mul (x y:Int):sgn (!(decide (x<0)==decide (y<0))) (val (dig x.natAbs)*val (dig y.natAbs))=x*y:=by
 rw[val_dig,val_dig];exact mul_sign x y
set_option maxRecDepth 100000 in
set_option maxHeartbeats 4000000 in
theorem RProd_any (w:World) (va vb:Value) (x y:Int) (ha:LV w w.heap.size va x) (hb:LV w w.heap.size vb y) (hlx:(dig x.natAbs).length≤100000) (hly:(dig y.natAbs).length≤100000) :
  Calls Tryz.prog 76 #[va,vb] w fun e w'=>Below w.heap.size w w'∧RetV w' (x*y) e:=by
 obtain⟨A1,c1,rfl,hsa⟩:=ha.parts;obtain⟨A2,c2,rfl,hsb⟩:=hb.parts;have hz:=sgn_mul x y;have j0:=zz (dig_small x.natAbs);have k0:=zz (dig_small y.natAbs);clear ha hb;generalize dig x.natAbs=X at *
 generalize dig y.natAbs=Y at *
 generalize decide (x<0)=na at *
 generalize decide (y<0)=nb at *
 generalize x*y=z at *
 have HZ:=zz hz;have hmk:=mk_ints (X.length+Y.length) (by omega);simp only[Int.natCast_add] at hmk
 obtain⟨w0,hw0⟩:∃ w0:World,w0=((w.alloc (.cells #[.bool na,.slice A1 X.length c1] 24)).alloc (.cells #[.bool nb,.slice A2 Y.length c2] 24)).alloc (.cells #[.bool false,.slice none 0 0] 24):=⟨_,rfl⟩;have a0:Below w.heap.size w w0:=by rw[hw0];(repeat' (first | exact Below.refl _ _ | refine Below.drew ?_ | refine Below.alloc ?_ (by first | exact Nat.le_refl _ | (simp;done) | (simp;omega)) _))
 have L0:LB w0 w.heap.size (.bool na) (.slice A1 X.length c1):=by rw[hw0];(repeat (first | (refine LB.new' ?_;simp;done) | refine LB.alloc ?_ _))
 have L1:LB w0 (w.heap.size+1) (.bool nb) (.slice A2 Y.length c2):=by rw[hw0];(repeat (first | (refine LB.new' ?_;simp;done) | refine LB.alloc ?_ _))
 have L2:LB w0 (w.heap.size+2) (.bool false) (.slice none 0 0):=by rw[hw0];(repeat (first | (refine LB.new' ?_;simp;done) | refine LB.alloc ?_ _))
 have hsz0:w0.heap.size=w.heap.size+3:=by rw[hw0];simp
 have HA:=zz (show RN w w.heap.size _ X from hsa);have HB:=zz (show RN w w.heap.size _ Y from hsb);replace hw0:=zz hw0;clear hz hsa hsb;go_enter Tryz.func76,Tryz.ntmps76
 go_wp2;rw[← hw0.out];have d0:=a0.alloc a0.size (zerosObj (X.length+Y.length));have M0:=L0.alloc (zerosObj (X.length+Y.length));have M1:=L1.alloc (zerosObj (X.length+Y.length));have M2:=L2.alloc (zerosObj (X.length+Y.length));have ho:=own_new w0 (X.length+Y.length);rw[hsz0] at ho;clear L0 L1 L2 a0 hsz0 hw0 hmk;generalize (w0.alloc (zerosObj (X.length+Y.length)))=w1 at *
 have hP:=zz (ProdI.start X Y 0);go_loopw [6] (fun iv wr=>∃ (i:Nat) (d:List Int),i≤X.length∧iv=.int .i64 i∧Hid (ProdI (prodT X Y i 0) (X.length+Y.length) 0 0 d)∧LB wr w.heap.size (.bool na) (.slice A1 X.length c1)∧LB wr (w.heap.size+1) (.bool nb) (.slice A2 Y.length c2)∧LB wr (w.heap.size+2) (.bool false) (.slice none 0 0)∧Hid (Below w.heap.size w wr)∧Own wr (w.heap.size+3) d) (fun iv _=>X.length-(intOf iv).toNat)
 case atStart=>exact⟨0,_,by omega,rfl,hP,M0,M1,M2,zz d0,ho⟩
 case round=>
  clear d0 ho hP M0 M1 M2;obtain⟨i,d,hi,rfl,hP,M0,M1,M2,g0,ho⟩:=hrel;have q00:=M0.cell0;have q01:=M0.cell1;have q10:=M1.cell0;have q11:=M1.cell1;have q20:=M2.cell0;have q21:=M2.cell1;have q22:=M2.frozen 0;have q23:=M2.frozen 1;by_cases hlt:i<X.length
  ·obtain⟨xi,hxi⟩:∃ xi,xi=X.getD i 0:=⟨_,rfl⟩;have hx9:xi<1000000000:=by rw[hxi];exact j0.out.getD i
   have l0:=zz hxi;clear hxi;obtain⟨wo,hwo⟩:∃ wo:World,wo=wr:=⟨_,rfl⟩;subst hwo;go_wp2;clear q00 q01 q10 q11 q20 q21 q22 q23;go_loopw [7] (fun kv wr=>∃ (k:Nat) (d:List Int),k≤Y.length∧kv=.int .i64 k∧Hid (ProdI (prodT X Y i k) (X.length+Y.length) 0 0 d)∧LB wr w.heap.size (.bool na) (.slice A1 X.length c1)∧LB wr (w.heap.size+1) (.bool nb) (.slice A2 Y.length c2)∧LB wr (w.heap.size+2) (.bool false) (.slice none 0 0)∧Hid (Below w.heap.size w wr)∧Own wr (w.heap.size+3) d) (fun kv _=>Y.length-(intOf kv).toNat)
   case atStart=>exact⟨0,_,by omega,rfl,hP,M0,M1,M2,g0,ho⟩
   case round=>
    clear ho hP M0 M1 M2 g0;obtain⟨k,d,hk,rfl,hP,M0,M1,M2,g0,ho⟩:=hrel;have q00:=M0.cell0;have q01:=M0.cell1;have q10:=M1.cell0;have q11:=M1.cell1;have q20:=M2.cell0;have q21:=M2.cell1;have q22:=M2.frozen 0;have q23:=M2.frozen 1;by_cases hlt2:k<Y.length
    ·obtain⟨yk,hyk⟩:∃ yk,yk=Y.getD k 0:=⟨_,rfl⟩;have hy9:yk<1000000000:=by rw[hyk];exact k0.out.getD k
     obtain⟨g1,o1,rfl,hx⟩:=(HA.out.below g0.out).digit hlt;obtain⟨g2,o2,rfl,hy⟩:=(HB.out.below g0.out).digit hlt2;rw[← l0.out] at hx;rw[← hyk] at hy;have h0:=zz (hP.out.begin hlt2);have m0:=zz (prodT_lt (k:=k+1) j0.out k0.out hlt);rw[← l0.out,← hyk] at h0;clear hyk hP;have hmul:xi*yk≤999999999*999999999:=Nat.mul_le_mul (by omega) (by omega);have hm1:(xi:Int)*(yk:Int)≤999999999*999999999:=by rw[← Int.natCast_mul];omega
     have hm0:0≤(xi:Int)*(yk:Int):=by rw[← Int.natCast_mul];omega
     obtain⟨p,hp⟩:∃ p:Nat,p=xi*yk:=⟨_,rfl⟩;have n0:=zz (show(xi:Int)*(yk:Int)=(p:Int) by rw[hp];simp);rw[← hp] at h0;have hp18:p≤1000000000000000000:=by omega
     clear hp hmul;go_wp2;go_quiet (fail)
     go_wp2;rw[n0.out];clear hm0 hm1 hx hy q00 q01 q10 q11 q20 q21 q22 q23;obtain⟨wo2,hwo2⟩:∃ wo2:World,wo2=wr.drewN nq:=⟨_,rfl⟩;rw[← hwo2];replace M0:LB wo2 _ _ _:=hwo2▸M0.drewN nq;replace M1:LB wo2 _ _ _:=hwo2▸M1.drewN nq;replace M2:LB wo2 _ _ _:=hwo2▸M2.drewN nq;replace ho:Own wo2 _ _:=hwo2▸ho.drewN nq;replace g0:Hid (Below w.heap.size w wo2):=zz (hwo2▸below_drewN g0.out nq);clear hwo2;go_loopw [8,9] (fun nv jv wr=>∃ (n j:Nat) (d:List Int),nv=.int .i64 n∧jv=.int .i64 j∧n≤1000000000000000000∧j≤200001∧Hid (ProdI (prodT X Y i (k+1)) (X.length+Y.length) j n d)∧LB wr w.heap.size (.bool na) (.slice (some ⟨g1,o1,none⟩) X.length c1)∧LB wr (w.heap.size+1) (.bool nb) (.slice (some ⟨g2,o2,none⟩) Y.length c2)∧LB wr (w.heap.size+2) (.bool false) (.slice none 0 0)∧Hid (Below w.heap.size w wr)∧Own wr (w.heap.size+3) d) (fun _ jv _=>200001-(intOf jv).toNat)
     case atStart=>exact⟨p,i+k,_,rfl,by go_num,by omega,by omega,h0,M0,M1,M2,g0,ho⟩
     case round=>
      clear ho h0 M0 M1 M2 g0;obtain⟨n,j,d,rfl,rfl,hn,hj,hP,M0,M1,M2,g0,ho⟩:=hrel;by_cases hn0:0<n
      ·have hjL:=hP.out.room m0.out hn0;have hlen:=zz hP.out.len;have h2:=own_at ho j (by have:=hlen.out;omega);obtain⟨o,hoo⟩:∃ o:Nat,at0 d j=(o:Int):=⟨(at0 d j).toNat,by have:=hP.out.small j hjL;omega⟩;have ho9:o<1000000000:=by have:=hP.out.small j hjL;omega
       have HS:=zz (hP.out.step hjL o hoo);rw[hoo] at h2;have hf:=ho.frozen j;have HO:=zz ho;have hn0i:(0:Int)<(n:Int):=by omega
       have hjLi:(j:Int)<(X.length:Int)+(Y.length:Int):=by omega
       clear ho hoo hP;go_wp2;go_roundw
       case rel=>
        have e:(((n+o) % 1000000000:Nat):Int)=((n:Int)+(o:Int)) % 1000000000:=by omega
        have h4:=HO.out.set j (((n+o) % 1000000000:Nat):Int) (by have:=hlen.out;omega);have h5:=HS.out;rw[e] at h4 h5;exact⟨(n+o) / 1000000000,j+1,_,by go_num,by go_num,by omega,by omega,zz h5,M0.far (p:=⟨w.heap.size+3,j,none⟩) (by simp) _,M1.far (p:=⟨w.heap.size+3,j,none⟩) (by simp) _,M2.far (p:=⟨w.heap.size+3,j,none⟩) (by simp) _,zz (g0.out.setCell (p:=⟨w.heap.size+3,j,none⟩) (by simp) _),h4⟩
       case measure=>simp[intOf];omega
      ·obtain rfl:n=0:=by omega
       have i0:=zz (hP.out.any 0);clear hP;go_wp2;go_roundw
       case rel=>exact⟨k+1,_,by omega,by go_num,i0,M0,M1,M2,g0,ho⟩
       case measure=>simp[intOf];omega
    ·obtain rfl:k=Y.length:=by omega
     have i0:=zz ((prodT_next (y:=Y) hlt)▸hP.out);clear hP;go_wp2;go_roundw
     case rel=>exact⟨i+1,_,by omega,by go_num,i0,M0,M1,M2,g0,ho⟩
     case measure=>simp[intOf];omega
  ·obtain rfl:i=X.length:=by omega
   obtain⟨r,rfl,hrl,hrs,hrv⟩:=hP.out.fin;have hrn:=own_rn ho (X.length+Y.length) (X.length+Y.length) (by omega) (by omega) (by omega);have HR:=zz hrn;have p0:=zz hrs;have q0:=zz hrv;have r0:=zz (show r.length≤1000000 by omega);have HO:=zz ho;clear hrn hrs hrv hrl ho hP;go_wp2_with fail
   refine(made_any _ _ _ r HR.out p0.out r0.out).mono ?_;rintro e w2 ⟨b0,v2,rfl,c0⟩;rw[q0.out,prodT_end,HZ.out] at c0;obtain⟨n3,A3,l3,c3,rfl,e0⟩:=c0.opened;have s0:=zz e0;have N2:=M2.step b0;have f0:=zz (g0.out.trans (b0.mono g0.out.size));clear c0 e0 b0 M0 M1 M2 g0 q00 q01 q10 q11 q20 q21 q22 q23;have q20:=N2.cell0;have q21:=N2.cell1;have q22:=N2.frozen 0;have q23:=N2.frozen 1;go_wp2;(try simp only[Exit.inBlock,Exit.then])
   exact end_long rfl N2 f0.out (by omega) s0.out rfl
end Go.Proofs.YtioclokmbgmamaaGreatDoor
