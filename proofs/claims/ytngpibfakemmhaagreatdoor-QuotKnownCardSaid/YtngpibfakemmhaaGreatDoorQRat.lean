/- Plain mathematics of layer 04: a fraction is a rational number; what the program's ways of reckoning come to. -/
import Derived.Test.YtngpibfakemmhaaGreatDoorOps
namespace Go.Proofs.YtngpibfakemmhaaGreatDoor
open Go Go.RowKit Dig
theorem rat_lowest {n N:Int} {d D c:Nat} (hc:c≠0) (hd:d≠0) (hN:N=c*n) (hD:D=c*d) (h:Nat.Coprime n.natAbs d):(mkRat N D).num=n∧(mkRat N D).den=d:=by
  have h1:mkRat N D=⟨n,d,hd,h⟩:=by
    rw[hN,hD,Rat.mkRat_mul_left hc,← Rat.mk_eq_mkRat n d hd h]
  rw[h1];exact⟨rfl,rfl⟩
theorem natAbs_ediv_nat {a:Int} {g:Nat} (h:(g:Int)∣a):(a / (g:Int)).natAbs=a.natAbs / g:=by
  obtain⟨k,rfl⟩:=h;by_cases hg:g=0
  · subst hg;simp
  · rw[Int.mul_ediv_cancel_left _ (by omega),Int.natAbs_mul,Int.natAbs_natCast,Nat.mul_div_cancel_left _ (Nat.pos_of_ne_zero hg)]
theorem gcd_dvd_int (a:Int) (b:Nat):((Nat.gcd a.natAbs b:Nat):Int)∣a:=Int.ofNat_dvd_left.2 (Nat.gcd_dvd_left _ _)
theorem rat_reduced {n:Int} {d:Nat} (hd:d≠0):(mkRat n d).num=n / (Nat.gcd n.natAbs d:Nat)∧(mkRat n d).den=d / Nat.gcd n.natAbs d:=by
  have hg:Nat.gcd n.natAbs d≠0:=fun h=>hd (Nat.gcd_eq_zero_iff.1 h).2
  refine rat_lowest hg ?_ ?_ ?_ ?_
  · have:=Nat.div_pos (Nat.gcd_le_right n.natAbs (Nat.pos_of_ne_zero hd)) (Nat.pos_of_ne_zero hg);omega
  · exact(Int.mul_ediv_cancel' (gcd_dvd_int n d)).symm
  · exact(Nat.mul_div_cancel' (Nat.gcd_dvd_right _ _)).symm
  · rw[natAbs_ediv_nat (gcd_dvd_int n d)]
    exact Nat.coprime_div_gcd_div_gcd (Nat.pos_of_ne_zero hg)
theorem rat_cop (q:Rat):Nat.Coprime q.num.natAbs q.den:=q.reduced
theorem cop_of_lin {a c:Int} {x y:Nat} (h1:Nat.Coprime a.natAbs x) (h2:Nat.Coprime y x):Nat.Coprime (a*y+c*x).natAbs x:=by
  have h3:Int.gcd (a*y+c*x) x=Int.gcd (a*y) x:=Int.gcd_add_mul_right_left _ _ _;have h4:Nat.gcd (a*y+c*x).natAbs x=Nat.gcd (a*y).natAbs x:=h3
  show Nat.gcd _ _=1
  rw[h4,Int.natAbs_mul,Int.natAbs_natCast];exact Nat.Coprime.mul_left h1 h2
theorem rat_sum (q r:Rat) {g x y h:Nat} {n:Int} (hg:g=Nat.gcd q.den r.den) (hx:x=q.den / g) (hy:y=r.den / g) (hn:n=q.num*y+r.num*x) (hh:h=Nat.gcd n.natAbs g) :
    (q+r).num=n / (h:Nat)∧(q+r).den=x*(r.den / h):=by
  have hg0:0<g:=by rw[hg];exact Nat.gcd_pos_of_pos_left _ (Nat.pos_of_ne_zero q.den_nz)
  have hb:q.den=g*x:=by rw[hx];exact(Nat.mul_div_cancel' (hg▸Nat.gcd_dvd_left _ _)).symm
  have hd:r.den=g*y:=by rw[hy];exact(Nat.mul_div_cancel' (hg▸Nat.gcd_dvd_right _ _)).symm
  have hxy:Nat.Coprime x y:=by rw[hx,hy,hg];exact Nat.coprime_div_gcd_div_gcd (hg▸hg0)
  have hax:Nat.Coprime q.num.natAbs x:=(rat_cop q).coprime_dvd_right (hb▸Nat.dvd_mul_left x g);have hcy:Nat.Coprime r.num.natAbs y:=(rat_cop r).coprime_dvd_right (hd▸Nat.dvd_mul_left y g);have hnx:Nat.Coprime n.natAbs x:=by rw[hn];exact cop_of_lin hax hxy.symm
  have hny:Nat.Coprime n.natAbs y:=by rw[hn,Int.add_comm];exact cop_of_lin hcy hxy
  have hh0:0<h:=by rw[hh];exact Nat.gcd_pos_of_pos_right _ hg0
  have hhg:h∣g:=hh▸Nat.gcd_dvd_right _ _;have hhd:h∣r.den:=Nat.dvd_trans hhg (hd▸Nat.dvd_mul_right g y);have hhn:(h:Int)∣n:=by rw[hh];exact gcd_dvd_int _ _
  have hgcd:Nat.gcd n.natAbs (x*r.den)=h:=by
    rw[hnx.symm.gcd_mul_left_cancel_right,hd,Nat.mul_comm g y,hny.symm.gcd_mul_left_cancel_right,hh]
  have hx0:0<x:=by
    rcases Nat.eq_zero_or_pos x with h0 | h0
    · rw[h0,Nat.mul_zero] at hb;exact absurd hb q.den_nz
    · exact h0
  rw[Rat.add_def'];refine rat_lowest (c:=g*h) ?_ ?_ ?_ ?_ ?_
  · exact Nat.ne_of_gt (Nat.mul_pos hg0 hh0)
  · exact Nat.ne_of_gt (Nat.mul_pos hx0 (Nat.div_pos (Nat.le_of_dvd (Nat.pos_of_ne_zero r.den_nz) hhd) hh0))
  · rw[Int.natCast_mul,Int.mul_assoc,Int.mul_ediv_cancel' hhn,hn,hb,hd,Int.natCast_mul,Int.natCast_mul,Int.mul_add]
    rw[← Int.mul_assoc,← Int.mul_assoc,← Int.mul_assoc,← Int.mul_assoc,Int.mul_comm q.num g,Int.mul_comm r.num g]
  · have e:g*h*(x*(r.den / h))=g*x*(h*(r.den / h)):=by
      rw[Nat.mul_assoc,Nat.mul_assoc,Nat.mul_left_comm h x]
    rw[e,Nat.mul_div_cancel' hhd,← hb]
  · rw[natAbs_ediv_nat hhn,← Nat.mul_div_assoc _ hhd,← hgcd]
    exact Nat.coprime_div_gcd_div_gcd (hgcd▸hh0)
theorem rat_prod (q r:Rat) {g1 g2:Nat} (h1:g1=Nat.gcd q.num.natAbs r.den) (h2:g2=Nat.gcd r.num.natAbs q.den) :
    (q*r).num=q.num / (g1:Nat)*(r.num / (g2:Nat))∧(q*r).den=r.den / g1*(q.den / g2):=by
  have p1:0<g1:=by rw[h1];exact Nat.gcd_pos_of_pos_right _ (Nat.pos_of_ne_zero r.den_nz)
  have p2:0<g2:=by rw[h2];exact Nat.gcd_pos_of_pos_right _ (Nat.pos_of_ne_zero q.den_nz)
  have d1:(g1:Int)∣q.num:=by rw[h1];exact gcd_dvd_int _ _
  have d2:(g2:Int)∣r.num:=by rw[h2];exact gcd_dvd_int _ _
  have e1:g1∣r.den:=h1▸Nat.gcd_dvd_right _ _;have e2:g2∣q.den:=h2▸Nat.gcd_dvd_right _ _;have f1:0<r.den / g1:=Nat.div_pos (Nat.le_of_dvd (Nat.pos_of_ne_zero r.den_nz) e1) p1;have f2:0<q.den / g2:=Nat.div_pos (Nat.le_of_dvd (Nat.pos_of_ne_zero q.den_nz) e2) p2;rw[Rat.mul_def'];refine rat_lowest (c:=g1*g2) (Nat.ne_of_gt (Nat.mul_pos p1 p2)) (Nat.ne_of_gt (Nat.mul_pos f1 f2)) ?_ ?_ ?_
  · have e:((g1*g2:Nat):Int)*(q.num / (g1:Nat)*(r.num / (g2:Nat)))=(g1*(q.num / (g1:Nat)))*(g2*(r.num / (g2:Nat))):=by
      rw[Int.natCast_mul,Int.mul_assoc,Int.mul_assoc,Int.mul_left_comm (g2:Int)]
    rw[e,Int.mul_ediv_cancel' d1,Int.mul_ediv_cancel' d2]
  · have e:g1*g2*(r.den / g1*(q.den / g2))=(g1*(r.den / g1))*(g2*(q.den / g2)):=by
      rw[Nat.mul_assoc,Nat.mul_assoc,Nat.mul_left_comm g2]
    rw[e,Nat.mul_div_cancel' e1,Nat.mul_div_cancel' e2,Nat.mul_comm]
  · rw[Int.natAbs_mul,natAbs_ediv_nat d1,natAbs_ediv_nat d2]
    have c1:Nat.Coprime (q.num.natAbs / g1) (r.den / g1):=by rw[h1];exact Nat.coprime_div_gcd_div_gcd (h1▸p1)
    have c2:Nat.Coprime (r.num.natAbs / g2) (q.den / g2):=by rw[h2];exact Nat.coprime_div_gcd_div_gcd (h2▸p2)
    have k1:g1∣q.num.natAbs:=h1▸Nat.gcd_dvd_left _ _;have k2:g2∣r.num.natAbs:=h2▸Nat.gcd_dvd_left _ _;have c3:Nat.Coprime (q.num.natAbs / g1) (q.den / g2):=((rat_cop q).coprime_div_left k1).coprime_div_right e2;have c4:Nat.Coprime (r.num.natAbs / g2) (r.den / g1):=((rat_cop r).coprime_div_left k2).coprime_div_right e1;exact Nat.Coprime.mul_left (Nat.Coprime.mul_right c1 c3) (Nat.Coprime.mul_right c4 c2)
end Go.Proofs.YtngpibfakemmhaaGreatDoor
