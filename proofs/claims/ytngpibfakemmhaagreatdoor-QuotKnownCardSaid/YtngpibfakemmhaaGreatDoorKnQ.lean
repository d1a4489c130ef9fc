/- Plain: the greatest fraction and the least one; for QuotKnown. No program in sight. -/
import Derived.Test.YtngpibfakemmhaaGreatDoorQW
import Derived.Test.YtngpibfakemmhaaGreatDoorNin
namespace Go.Proofs.YtngpibfakemmhaaGreatDoor
open Go Go.RowKit Dig
theorem told_none {a:Rat} (h:¬ fitQ a):toldQ a=(none,6):=if_neg h
theorem big_frac {x:Int} {d T:Nat} (hbig:∀ n:Nat,T+1≤n→¬ (dig n).length≤600) (hd:0<d) (hg:Nat.gcd x.natAbs d=1) (h:T+1≤x.natAbs∨T+1≤d):toldQ (mkRat x d)=(none,6):=by
  obtain⟨e1,e2⟩:=mkRat_low hd hg;refine told_none fun hf=>?_
  rcases h with h | h
  · exact hbig _ h (by rw[← e1];exact hf.1)
  · exact hbig _ h (by rw[← e2];exact hf.2)
theorem inv_mkRat_one {T:Nat}:(mkRat 1 T)⁻¹=mkRat (T:Int) 1:=by
  rw[← Rat.divInt_ofNat,Rat.inv_divInt];exact Rat.divInt_ofNat _ 1
theorem inv_mkRat_most {T:Nat}:(mkRat (T:Int) 1)⁻¹=mkRat 1 T:=by
  rw[← Rat.divInt_ofNat,Rat.inv_divInt];exact Rat.divInt_ofNat 1 T
structure MostQ (T:Nat) (ns:List UInt8):Prop where
  two:2≤T
  lm:QL 600 600 (mkRat T 1)
  ll:QL 600 600 (mkRat 1 T)
  tm:textQ (mkRat T 1)=ns
  tl:textQ (mkRat 1 T)=[49]++47 :: ns
  add1:toldQ (mkRat T 1+mkRat 1 1)=(none,6)
  add2:toldQ (mkRat 1 T+mkRat 1 2)=(none,6)
  mul1:toldQ (mkRat T 1*mkRat 1 T)=(some (mkRat 1 1),0)
  div1:divQ (mkRat T 1) (mkRat 1 T)=(none,6)
  mul2:toldQ (mkRat 1 T*mkRat 1 2)=(none,6)
  sub1:toldQ (mkRat 1 T-mkRat 1 T)=(some (mkRat 0 1),0)
  div2:divQ (mkRat 1 1) (mkRat 1 T)=(some (mkRat T 1),0)
  div3:divQ (mkRat 1 1) (mkRat T 1)=(some (mkRat 1 T),0)
  sub2:toldQ (mkRat T 1-mkRat (-1) 1)=(none,6)
  span:spanQ (some (mkRat 1 T))=((0,1),0)
  near:nearQ (some (mkRat 1 T)) 1000000000000=(0,0)
  cmp:cmpR (mkRat T 1) (mkRat 1 T)=1
  p1:parseQ (ns++[57,47,120])=(none,6)
  p2:parseQ ([120,47]++ns++[57])=(none,5)
  p3:parseQ ([50,47]++ns++[57])=(none,6)
theorem most_q {T M:Nat} (hl':(dig T).length=600) (h2:18446744073709551616≤T) (hodd:T % 2=1) (hbig:∀ n:Nat,T+1≤n→¬ (dig n).length≤600) (c1:canon (nine 5400)=some (T:Int)) (c3:canon (nine 5401)=some (M:Int)) (hM:T+1≤M):MostQ T (nine 5400):=by
  have hl:(dig T).length≤600:=Nat.le_of_eq hl';have g1:Nat.gcd ((T:Int)).natAbs 1=1:=Nat.gcd_one_right _;have g2:Nat.gcd (1:Int).natAbs T=1:=Nat.gcd_one_left _;obtain⟨m1,m2⟩:=mkRat_low (x:=(T:Int)) (y:=1) (by decide) g1;obtain⟨l1,l2⟩:=mkRat_low (x:=1) (y:=T) (by omega) g2;have one:(dig 1).length≤600:=Nat.le_trans (fit_i64 (n:=1) (by decide) (by decide)) (by decide);have hm:mkRat (T:Int) 1≠0:=fun h=>by have:=congrArg Rat.num h;rw[m1] at this;have e:(0:Rat).num=0:=rfl;omega
  have hl0:mkRat 1 T≠0:=fun h=>by have:=congrArg Rat.num h;rw[l1] at this;have e:(0:Rat).num=0:=rfl;omega
  have h47:(47:UInt8)∉nine 5401:=fun h=>by have:=(List.mem_replicate.1 h).2;revert this;decide
  have hsz:nine 5400++[57]=nine 5401:=nine_snoc 5400;have hit:Lib.itoa (T:Int)=nine 5400:=canon_some c1;have hpm:parseZ (nine 5401)=(0,6):=parseZ_long c3 (by rw[Int.natAbs_natCast];exact hbig _ hM);have hx:canon [120]=none:=by
    refine canon_letter ?_;rw[bare_other [] (by decide)];intro h;have:=(h 120 (by simp)).2
    revert this;decide
  have qm:QL 600 600 (mkRat T 1):=⟨by rw[m1,Int.natAbs_natCast];exact hl,by rw[m2];exact one⟩;have ql:QL 600 600 (mkRat 1 T):=⟨by rw[l1];exact one,by rw[l2];exact hl⟩;have q1:QL 600 600 (mkRat 1 1):=lit_QL (by decide) (by decide) (by decide) (by decide);refine { two:=by omega,lm:=qm,ll:=ql,tm:=?_,tl:=?_,add1:=?_,add2:=?_,mul1:=?_,div1:=?_,mul2:=?_,sub1:=?_,div2:=?_,div3:=?_,sub2:=?_,span:=?_,near:=?_,cmp:=?_,p1:=?_,p2:=?_,p3:=?_ }
  · rw[textQ,if_pos m2,m1,hit]
  · rw[textQ,if_neg (by omega),l1,l2,hit,itoa_one]
  · rw[Rat.mkRat_add_mkRat _ _ (by decide) (by decide)]
    exact big_frac hbig (by decide) (Nat.gcd_one_right _) (.inl (by omega))
  · rw[Rat.mkRat_add_mkRat _ _ (by omega) (by decide)]
    refine big_frac hbig (by omega) ?_ (.inr (by omega));have e:((1:Int)*((2:Nat):Int)+1*(T:Int)).natAbs=T+2:=by omega
    rw[e];have hc2:Nat.gcd (T+2) 2=1:=by rw[Nat.gcd_comm,Nat.gcd_rec,show(T+2) % 2=1 by omega];exact Nat.gcd_one_left 2
    have hcT:Nat.gcd (T+2) T=1:=by
      have h1:Nat.gcd (T+2) T=Nat.gcd T 2:=by rw[Nat.gcd_comm,Nat.gcd_self_add_right]
      rw[h1,Nat.gcd_comm,Nat.gcd_rec,hodd];exact Nat.gcd_one_left 2
    exact Nat.Coprime.mul_right hcT hc2
  · rw[Rat.mkRat_mul_mkRat]
    refine toldQ_lit ?_ q1;have:mkRat ((T:Int)*1) (1*T)=mkRat ((T:Int)*1) ((T:Nat)*1):=by rw[Nat.mul_comm 1 T]
    rw[this];exact Rat.mkRat_mul_left (n:=1) (d:=1) (a:=T) (by omega)
  · rw[divQ,if_neg hl0,Rat.div_def,inv_mkRat_one,Rat.mkRat_mul_mkRat]
    refine big_frac hbig (by decide) (Nat.gcd_one_right _) (.inl ?_);rw[Int.natAbs_mul,Int.natAbs_natCast];have:T*2≤T*T:=Nat.mul_le_mul_left T (by omega)
    omega
  · rw[Rat.mkRat_mul_mkRat]
    refine big_frac hbig (by omega) (Nat.gcd_one_left _) (.inr (by omega))
  · rw[Rat.sub_self]
    exact if_pos (show fitQ 0 by exact(show QL 600 600 (mkRat 0 1) from lit_QL (by decide) (by decide) (by decide) (by decide)))
  · rw[divQ,if_neg hl0,Rat.div_def,inv_mkRat_one,Rat.mkRat_mul_mkRat,Int.one_mul]
    exact if_pos qm
  · rw[divQ,if_neg hm,Rat.div_def,inv_mkRat_most,Rat.mkRat_mul_mkRat,Nat.one_mul]
    exact if_pos ql
  · rw[Rat.sub_eq_add_neg,Rat.neg_mkRat,Rat.mkRat_add_mkRat _ _ (by decide) (by decide)]
    exact big_frac hbig (by decide) (Nat.gcd_one_right _) (.inl (by omega))
  · have e0:(1:Int)*4294967296 / (T:Int)=0:=Int.ediv_eq_zero_of_lt (by omega) (by omega)
    have e1:(1:Int)*4294967296 % (T:Int)=1*4294967296:=Int.emod_eq_of_lt (by omega) (by omega);rw[spanQ,l1,l2,spanV,e0,e1];rfl
  · rw[nearQ,if_neg (by omega)]
    have e:((mkRat 1 T).num*(2*1000000000000)+((mkRat 1 T).den:Int)) / (((mkRat 1 T).den*2:Nat):Int)=0:=by rw[l1,l2];exact Int.ediv_eq_zero_of_lt (by omega) (by omega)
    rw[e];rfl
  · rw[cmpR,m1,m2,l1,l2]
    refine Int.sign_eq_one_of_pos ?_;have h3:((T*2:Nat):Int)≤((T*T:Nat):Int):=by have:=Nat.mul_le_mul_left T (show 2≤T by omega);omega
    rw[Int.natCast_mul,Int.natCast_mul] at h3
    omega
  · rw[show nine 5400++[57,47,120]=nine 5401++47 :: [120] by rw[← hsz];simp,parseQ_two h47,hpm];rfl
  · rw[show[120,47]++nine 5400++[57]=[120]++47 :: nine 5401 by rw[← hsz];simp,parseQ_two (by decide),parseZ_none (s:=[120]) hx];rfl
  · rw[show[50,47]++nine 5400++[57]=[50]++47 :: nine 5401 by rw[← hsz];simp,parseQ_two (by decide),hpm,lit_parse (s:=[50]) (z:=2) (by decide +kernel) (by decide)];rfl
theorem ninN_many {n:Nat} (h:20≤n):18446744073709551616≤ninN n:=by
  have h1:=ninN_succ n;have h2:(10:Nat) ^ 20≤10 ^ n:=Nat.pow_le_pow_right (by omega) h;have h3:(10:Nat) ^ 20=100000000000000000000:=by decide
  omega
theorem ninN_odd {k:Nat} (n:Nat) (hk:k=n+1):ninN k % 2=1:=by
  subst hk;have h:=ninN_succ (n+1);rw[Nat.pow_succ] at h
  omega
theorem most_q_ex:∃ T:Nat,MostQ T (nine 5400):=
  ⟨_,most_q (ninN_dig 600) (ninN_many (n:=9*600) (by decide)) (ninN_odd (k:=9*600) 5399 rfl) (ninN_big 600) (canon_nine 5399) (canon_nine 5400) (ninN_more 5400)⟩
end Go.Proofs.YtngpibfakemmhaaGreatDoor
