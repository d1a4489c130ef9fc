/- Plain: texts of nines, the greatest Long; for LongKnown. No program in sight. -/
import Derived.Test.YtngpibfakemmhaaGreatDoorDec
namespace Go.Proofs.YtngpibfakemmhaaGreatDoor
open Go Go.RowKit Dig
def nine (n:Nat):List UInt8:=List.replicate n 57
def ninN (n:Nat):Nat:=10 ^ n-1
theorem ninN_succ (n:Nat):ninN n+1=10 ^ n:=by
  have h:0<10 ^ n:=Nat.pow_pos (by omega);unfold ninN;omega
theorem nine_all (n:Nat):AllDig (nine n):=fun x hx=>by rw[(List.mem_replicate.1 hx).2];exact⟨by decide,by decide⟩
theorem nine_len (n:Nat):(nine n).length=n:=List.length_replicate
theorem num_nine (n:Nat):num (nine n)=ninN n:=by
  have h:num (nine n)+1=10 ^ n:=by
    induction n with
    | zero=>rfl
    | succ n ih=>
      have e:nine (n+1)=nine n++[57]:=List.replicate_succ';have e9:(57:UInt8).toNat-48=9:=by decide
      rw[e,num_snoc,e9,Nat.pow_succ];omega
  have h2:=ninN_succ n
  omega
theorem bare_nine (n:Nat):bare (nine (n+1))=nine (n+1):=by
  unfold nine;rw[List.replicate_succ];exact bare_other _ (by decide)
theorem canon_nine (n:Nat):canon (nine (n+1))=some (ninN (n+1):Int):=by
  have h:=canon_num (s:=nine (n+1)) (c:=57) (r:=nine n) (by rw[bare_nine];rfl) (by rw[bare_nine];exact nine_all _) (by decide);rw[h,bare_nine,num_nine];simp[sgn]
theorem canon_dash (n:Nat):canon (45 :: nine (n+1))=some (-(ninN (n+1):Int)):=by
  have h:=canon_num (s:=45 :: nine (n+1)) (c:=57) (r:=nine n) (by rw[bare_dash];rfl) (by rw[bare_dash];exact nine_all _) (by decide);rw[h,bare_dash,num_nine];have:nine (n+1)≠45 :: nine (n+1):=fun e=>by have:=congrArg List.length e;simp at this
  simp[sgn,this]
theorem canon_x (n:Nat):canon (nine (n+1)++[120])=none:=by
  refine canon_letter ?_;have e:bare (nine (n+1)++[120])=nine (n+1)++[120]:=by
    unfold nine;rw[List.replicate_succ,List.cons_append];exact bare_other _ (by decide)
  rw[e];intro h;have:=(h 120 (by simp)).2
  revert this;decide
theorem nine_snoc (n:Nat):nine n++[57]=nine (n+1):=List.replicate_succ'.symm
theorem ninN_dig (k:Nat):(dig (ninN (9*k))).length=k:=by
  have h1:(dig (ninN (9*k))).length≤k:=dig_len_le.2 (by rw[bp_ten];have:=ninN_succ (9*k);omega);by_cases h0:k=0
  · omega
  have h2:¬ (dig (ninN (9*k))).length≤k-1:=fun h=>by
    have h3:=dig_len_le.1 h;rw[bp_ten] at h3;have h4:=ninN_succ (9*k);have h5:(10:Nat) ^ (9*k)=10 ^ (9*(k-1))*10 ^ 9:=by rw[← Nat.pow_add];congr 1;omega
    have h6:0<(10:Nat) ^ (9*(k-1)):=Nat.pow_pos (by omega);rw[h5] at h4;generalize (10:Nat) ^ (9*(k-1))=p at *
    omega
  omega
theorem big_dig {n k:Nat} (h:10 ^ (9*k)≤n):¬ (dig n).length≤k:=fun h'=>by
  have h1:=dig_len_le.1 h';rw[bp_ten] at h1
  omega
theorem root_nine (k:Nat):rootN (ninN (2*k))=ninN k:=by
  refine(rootN_eq ?_ ?_).symm
  · have h1:=ninN_succ k;have h2:=ninN_succ (2*k)
    have h3:(10:Nat) ^ (2*k)=10 ^ k*10 ^ k:=by rw[← Nat.pow_add];congr 1;omega
    have hp:0<10 ^ k:=Nat.pow_pos (by omega);rw[h3,← h1] at h2;have h4:(ninN k+1)*(ninN k+1)=ninN k*ninN k+2*ninN k+1:=by simp only[Nat.add_mul,Nat.mul_add,Nat.one_mul,Nat.mul_one];omega
    omega
  · have h1:=ninN_succ k;have h2:=ninN_succ (2*k)
    have h3:(10:Nat) ^ (2*k)=10 ^ k*10 ^ k:=by rw[← Nat.pow_add];congr 1;omega
    rw[h1,← h3];omega
structure Most (T:Int) (H:Int) (ns ms:List UInt8):Prop where
  nines:ns=nine 5400
  half:ms=nine 2700
  pos:0<T
  parse:parseZ ns=(T,0)
  more:parseZ (ns++(ByteArray.mk #[57]).data.toList)=(0,6)
  letter:parseZ (ns++(ByteArray.mk #[120]).data.toList)=(0,5)
  dmore:parseZ ((ByteArray.mk #[45]).data.toList++ns++(ByteArray.mk #[57]).data.toList)=(0,6)
  dash:parseZ ((ByteArray.mk #[45]).data.toList++ns)=(-T,0)
  text:Lib.itoa T=ns
  dtext:Lib.itoa (-T)=(ByteArray.mk #[45]).data.toList++ns
  len:(dig T.natAbs).length=600
  plus:toldZ (T+1)=(0,6)
  less:toldZ (-1-T)=(0,6)
  twice:toldZ (T*2)=(0,6)
  root:(rootN T.natAbs:Int)=H
  rtext:Lib.itoa H=ms
theorem most_of {N M R:Nat} (hl:(dig N).length=600) (hbig:∀ n:Nat,N+1≤n→¬ (dig n).length≤600) (c1:canon (nine 5400)=some (N:Int)) (c2:canon (45 :: nine 5400)=some (-(N:Int))) (c3:canon (nine 5401)=some (M:Int))
    (c4:canon (45 :: nine 5401)=some (-(M:Int))) (c5:canon (nine 2700)=some (R:Int)) (h5401:N+1≤M) (hr:rootN N=R):∃ T H ns ms,Most T H ns ms:=by
  have hp:0<N:=by
    rcases Nat.eq_zero_or_pos N with h | h
    · rw[h,dig_zero] at hl;simp at hl
    · exact h
  have fl:Fit (N:Int):=by unfold Fit;rw[Int.natAbs_natCast];omega
  exact⟨N,R,nine 5400,nine 2700,{
    nines:=rfl
    half:=rfl
    pos:=by omega
    parse:=parseZ_some c1 (by rw[Int.natAbs_natCast];omega)
    more:=by rw[show(ByteArray.mk #[57]).data.toList=[57] from rfl,nine_snoc];exact parseZ_long c3 (by rw[Int.natAbs_natCast];exact hbig _ h5401)
    letter:=by rw[show(ByteArray.mk #[120]).data.toList=[120] from rfl];exact parseZ_none (canon_x 5399)
    dmore:=by rw[show(ByteArray.mk #[57]).data.toList=[57] from rfl,show(ByteArray.mk #[45]).data.toList=[45] from rfl,List.append_assoc,nine_snoc,List.cons_append,List.nil_append];exact parseZ_long c4 (by rw[Int.natAbs_neg,Int.natAbs_natCast];exact hbig _ h5401)
    dash:=by rw[show(ByteArray.mk #[45]).data.toList=[45] from rfl,List.cons_append,List.nil_append];exact parseZ_some c2 (by rw[Int.natAbs_neg,Int.natAbs_natCast];omega)
    text:=canon_some c1
    dtext:=by rw[show(ByteArray.mk #[45]).data.toList=[45] from rfl,List.cons_append,List.nil_append];exact canon_some c2
    len:=by rw[Int.natAbs_natCast];exact hl
    plus:=by unfold toldZ;exact if_neg (hbig _ (by omega))
    less:=by unfold toldZ;exact if_neg (hbig _ (by omega))
    twice:=by unfold toldZ;exact if_neg (hbig _ (by omega))
    root:=by rw[Int.natAbs_natCast,hr]
    rtext:=canon_some c5 }⟩
theorem ninN_more (n:Nat):ninN n+1≤ninN (n+1):=by
  have h1:=ninN_succ (n+1);have h0:=ninN_succ n;rw[Nat.pow_succ,← h0] at h1;generalize ninN (n+1)=b at *
  clear h0;generalize ninN n=a at *
  omega
theorem ninN_big (k:Nat):∀ n:Nat,ninN (9*k)+1≤n→¬ (dig n).length≤k:=fun n h=>big_dig (by rw[← ninN_succ];exact h)
theorem most:∃ T H ns ms,Most T H ns ms:=
  most_of (ninN_dig 600) (ninN_big 600) (canon_nine 5399) (canon_dash 5399) (canon_nine 5400) (canon_dash 5400) (canon_nine 2699) (ninN_more 5400) (root_nine 2700)
end Go.Proofs.YtngpibfakemmhaaGreatDoor
