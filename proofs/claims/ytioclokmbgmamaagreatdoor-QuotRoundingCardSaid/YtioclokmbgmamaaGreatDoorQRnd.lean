/- Plain facts of rounding fractions. -/
import Derived.Test.YtioclokmbgmamaaGreatDoorU
import Derived.Test.YtioclokmbgmamaaGreatDoorQL
namespace Go.Proofs.YtioclokmbgmamaaGreatDoor
open Go Go.RowKit Dig
theorem sign_mul_pos {x k:Int} (hk:0<k):(x*k).sign=x.sign:=by rw[Int.sign_mul,Int.sign_eq_one_of_pos hk,Int.mul_one]
theorem div_fact (a:Int) {b:Int} (hb:0<b):(Rat.divInt a b).num*b=a*((Rat.divInt a b).den:Int):=by
  have h1:Rat.divInt (Rat.divInt a b).num ((Rat.divInt a b).den:Int)=Rat.divInt a b:=Rat.num_divInt_den _;exact(Rat.divInt_eq_divInt_iff (Int.natCast_ne_zero.2 (Rat.den_nz _)) (by omega)).1 h1
theorem cmpR_divInt {a b c d:Int} (hb:0<b) (hd:0<d):cmpR (Rat.divInt a b) (Rat.divInt c d)=(a*d-c*b).sign:=by
  have h1:=div_fact a hb;have h2:=div_fact c hd;have p1:0<((Rat.divInt a b).den:Int):=by have:=Rat.den_pos (Rat.divInt a b);omega
  have p2:0<((Rat.divInt c d).den:Int):=by have:=Rat.den_pos (Rat.divInt c d);omega
  unfold cmpR;generalize (Rat.divInt a b).num=n1 at *
  generalize ((Rat.divInt a b).den:Int)=e1 at *
  generalize (Rat.divInt c d).num=n2 at *
  generalize ((Rat.divInt c d).den:Int)=e2 at *
  rw[← sign_mul_pos (x:=n1*e2+-n2*e1) (k:=b*d) (Int.mul_pos hb hd),← sign_mul_pos (x:=a*d-c*b) (k:=e1*e2) (Int.mul_pos p1 p2)]
  congr 1
  have e3:(n1*e2+-n2*e1)*(b*d)=(n1*b)*(e2*d)-(n2*d)*(e1*b):=by grind
  rw[e3,h1,h2];grind
theorem sign_le0 {x:Int} (h:x≤0):x.sign≤0:=by
  rcases Int.lt_trichotomy x 0 with h1 | h1 | h1
  · rw[Int.sign_eq_neg_one_of_neg h1];omega
  · rw[h1];decide
  · omega
theorem sign_ge0 {x:Int} (h:0≤x):0≤x.sign:=by
  rcases Int.lt_trichotomy x 0 with h1 | h1 | h1
  · omega
  · rw[h1];decide
  · rw[Int.sign_eq_one_of_pos h1];omega
theorem sign_gt0 {x:Int} (h:0<x):0<x.sign:=by rw[Int.sign_eq_one_of_pos h];omega
theorem cmpR_frac {a b:Int} (q:Rat) (hb:0<b):cmpR (Rat.divInt a b) q=(a*(q.den:Int)-q.num*b).sign:=by
  have p:0<(q.den:Int):=by have:=q.den_pos;omega
  have h:=cmpR_divInt (a:=a) (c:=q.num) hb p
  rwa [Rat.num_divInt_den] at h
theorem floor_lo (q:Rat):cmpR (Rat.divInt (q.num / (q.den:Int)) 1) q≤0:=by
  have p:0<(q.den:Int):=by have:=q.den_pos;omega
  rw[cmpR_frac q (by omega)]
  apply sign_le0
  have:=Int.ediv_mul_le q.num (b:=(q.den:Int)) (by omega)
  omega
theorem floor_hi (q:Rat):0<cmpR (Rat.divInt (q.num / (q.den:Int)+1) 1) q:=by
  have p:0<(q.den:Int):=by have:=q.den_pos;omega
  rw[cmpR_frac q (by omega)]
  apply sign_gt0
  have:=Int.lt_ediv_add_one_mul_self q.num p
  omega
theorem span_lo (q:Rat):cmpR (Rat.divInt ((q.num*4294967296) / (q.den:Int)) 4294967296) q≤0:=by
  have p:0<(q.den:Int):=by have:=q.den_pos;omega
  rw[cmpR_frac q (by omega)]
  apply sign_le0
  have:=Int.ediv_mul_le (q.num*4294967296) (b:=(q.den:Int)) (by omega)
  omega
theorem span_lo0 (q:Rat):(cmpR (Rat.divInt ((q.num*4294967296) / (q.den:Int)) 4294967296) q=0)↔(q.num*4294967296) % (q.den:Int)=0:=by
  have p:0<(q.den:Int):=by have:=q.den_pos;omega
  rw[cmpR_frac q (by omega),Int.sign_eq_zero_iff_zero,Int.emod_def,Int.mul_comm (q.den:Int)]
  omega
theorem span_hi (q:Rat):0≤cmpR (Rat.divInt (if (q.num*4294967296) % (q.den:Int)≠0 then (q.num*4294967296) / (q.den:Int)+1 else (q.num*4294967296) / (q.den:Int)) 4294967296) q:=by
  have p:0<(q.den:Int):=by have:=q.den_pos;omega
  rw[cmpR_frac q (by omega)]
  apply sign_ge0
  split
  · have:=Int.lt_ediv_add_one_mul_self (q.num*4294967296) p;omega
  · next h=>
    have h0:q.num*4294967296 % (q.den:Int)=0:=by omega
    have:=Int.ediv_mul_cancel_of_emod_eq_zero h0
    omega
theorem near_z (q:Rat) (s:Int):q*Rat.divInt (2*s) 1=Rat.divInt (q.num*(2*s)) q.den:=by
  conv=>lhs;rw[← Rat.num_divInt_den q]
  rw[Rat.divInt_mul_divInt,Int.mul_one]
theorem near_lo (q:Rat) (s:Int):cmpR (Rat.divInt (2*((q.num*(2*s)+(q.den:Int)) / ((q.den*2:Nat):Int))-1) 1) (Rat.divInt (q.num*(2*s)) q.den)≤0:=by
  have p:0<(q.den:Int):=by have:=q.den_pos;omega
  rw[cmpR_divInt (by omega) p]
  apply sign_le0
  have:=Int.ediv_mul_le (q.num*(2*s)+(q.den:Int)) (b:=((q.den*2:Nat):Int)) (by omega);rw[Int.natCast_mul,Int.sub_mul] at *
  generalize (q.num*(2*s)+(q.den:Int)) / ((q.den:Int)*((2:Nat):Int))=k at *
  generalize q.num*(2*s)=y at *
  generalize (q.den:Int)=d at *
  have e:k*(d*((2:Nat):Int))=2*k*d:=by grind
  rw[e] at this
  omega
theorem near_hi (q:Rat) (s:Int):0<cmpR (Rat.divInt (2*((q.num*(2*s)+(q.den:Int)) / ((q.den*2:Nat):Int))+1) 1) (Rat.divInt (q.num*(2*s)) q.den):=by
  have p:0<(q.den:Int):=by have:=q.den_pos;omega
  rw[cmpR_divInt (by omega) p]
  apply sign_gt0
  have:=Int.lt_ediv_add_one_mul_self (q.num*(2*s)+(q.den:Int)) (b:=((q.den*2:Nat):Int)) (by omega);rw[Int.natCast_mul,Int.add_mul] at *
  generalize (q.num*(2*s)+(q.den:Int)) / ((q.den:Int)*((2:Nat):Int))=k at *
  generalize q.num*(2*s)=y at *
  generalize (q.den:Int)=d at *
  have e:k*(d*((2:Nat):Int))=2*k*d:=by grind
  rw[e] at this
  omega
end Go.Proofs.YtioclokmbgmamaaGreatDoor
