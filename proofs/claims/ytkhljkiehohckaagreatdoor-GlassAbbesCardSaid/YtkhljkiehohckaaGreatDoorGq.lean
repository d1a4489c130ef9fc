/- Texts put together: Layer 09, plain: what the laws say of squares and indices. Layer 09, plain: drafted glasses. Layer 09, plain: the examples of the chapter. -/
import Derived.Test.YtkhljkiehohckaaGreatDoorGp
namespace Go.Proofs.YtkhljkiehohckaaGreatDoor
open Go Go.RowKit Dig
theorem fl_iff (q:Rat) (n:Int):n≤q.num / (q.den:Int)↔(n:Rat)≤q:=by
 have p:0<(q.den:Int):=by have:=q.den_pos;omega
 rw[Int.le_ediv_iff_mul_le p,Rat.le_iff];simp
theorem root_ge {a s:Nat} (h:s*s≤a):s≤rootN a:=by
 have h1:=rootN_spec a;refine Nat.le_of_not_lt fun h3=>?_
 have h4:(rootN a+1)*(rootN a+1)≤s*s:=Nat.mul_le_mul h3 h3
 omega
theorem ixT_spec {s:Rat} (h:0≤s):∀ n:Int,0≤n→(n≤ixT s↔n*n≤(s*400000000000000).num / ((s*400000000000000).den:Int)):=by
 intro n hn;have h2:=(fl_iff (s*400000000000000) 0).2 (by simpa using Rat.mul_nonneg h (by decide));unfold ixT;generalize (s*400000000000000).num / ((s*400000000000000).den:Int)=F at *
 obtain⟨k,rfl⟩:=Int.eq_ofNat_of_zero_le hn;have h3:k≤rootN F.natAbs↔k*k≤F.natAbs:=⟨fun h=>Nat.le_trans (Nat.mul_le_mul h h) (rootN_spec _).1,root_ge⟩
 constructor
 ·intro h4;have h5:=h3.1 (by omega);have:((k*k:Nat):Int)≤F:=by omega
  simpa using this
 ·intro h4;have h4':((k*k:Nat):Int)≤F:=by simpa using h4
  have:=h3.2 (by omega)
  omega
def nA:ByteArray:=⟨#[65]⟩
def plG (f:Int) (c0 c1 c2 c3 c4 c5:Int):GL:=⟨nA,f,c0,c1,c2,c3,c4,c5,400000,700000⟩
theorem ixG_at {g:GL} {L F T:Int} (h0:¬ ((sqG g L).num<0∨g.f=2∧(lnG g L).num<0)) (h:(sqG g L*400000000000000).num / ((sqG g L*400000000000000).den:Int)=F) (h1:19999999≤T∧T≤80000000∧T*T≤F∧F<(T+1)*(T+1)):ixG g L=((T+1) / 2,0):=by
 have hs:0≤sqG g L:=Rat.num_nonneg.1 (by omega);have hT:=ixT_spec hs;rw[h] at hT;have t1:=(hT T (by omega)).2 h1.2.2.1;have t2:¬ (T+1≤(ixT (sqG g L):Int)):=fun h=>by have:=(hT _ (by omega)).1 h;omega
 have t3:(ixT (sqG g L):Int)=T:=by omega
 unfold ixG;rw[if_neg h0,if_pos (by omega),t3]
theorem mk_small {x y:Int} (hx:-40000000≤x∧x≤40000000) (hy:-40000000≤y∧y≤40000000) (h0:y≠0):mkQ x y=(some (Rat.divInt x y),0)∧QL 1 1 (Rat.divInt x y):=by
 have h:QL 1 1 (Rat.divInt x y):=QL.dv h0 (show x.natAbs<1000000000 by omega) (show y.natAbs<1000000000 by omega);refine⟨?_,h⟩;rw[mkQ,if_neg h0];exact toldQ_ok (h.mono (by decide) (by decide))
theorem inG_at {g:GL} {L F T:Int} (he:erG g L=0) (h0:¬ ((sqG g L).num<0∨g.f=2∧(lnG g L).num<0)) (h:(sqG g L*400000000000000).num / ((sqG g L*400000000000000).den:Int)=F) (h1:19999999≤T∧T≤80000000∧T*T≤F∧F<(T+1)*(T+1)):inG g L=((T+1) / 2,0):=by rw[inG,if_pos he];exact ixG_at h0 h h1
theorem inG_err {g:GL} {L r:Int} (he:erG g L=r) (hr:r≠0):inG g L=(0,r):=by rw[inG,if_neg (by omega),he]
theorem wk1:inG (plG 1 1000000000 0 0 0 0 0) 550000=(14142136,0):=inG_at (F:=800000000000000) (T:=28284271) (by decide +kernel) (by decide +kernel) (by decide +kernel) (by decide +kernel)
theorem wk2:inG (plG 2 1500000000 10000000 0 0 0 0) 500000=(15400000,0):=inG_at (F:=948640000000000) (T:=30800000) (by decide +kernel) (by decide +kernel) (by decide +kernel) (by decide +kernel)
theorem wk3:inG (plG 1 1000000000 10000000 0 0 0 0) 500000=(14288690,0):=inG_at (F:=816666666666666) (T:=28577380) (by decide +kernel) (by decide +kernel) (by decide +kernel) (by decide +kernel)
theorem wk4:sqR (plG 1 1000000000 0 0 0 0 0) 550000=(some 2,0):=by rw[sqR,if_pos (by decide +kernel),show sqG (plG 1 1000000000 0 0 0 0 0) 550000=2 by decide +kernel]
theorem wk5:inG (plG 1 1000000000 0 0 0 0 0) 399999=(0,2):=inG_err (by decide +kernel) (by decide)
theorem wk6:abG (plG 1 1000000000 0 0 0 0 0)=(none,7):=by
 have h (L:Int) (he:erG (plG 1 1000000000 0 0 0 0 0) L=0) (hs:sqG (plG 1 1000000000 0 0 0 0 0) L=2):inG (plG 1 1000000000 0 0 0 0 0) L=(14142136,0):=
  inG_at (F:=800000000000000) (T:=28284271) he (by rw[hs];rintro(h | ⟨h,-⟩) <;> exact absurd h (by decide)) (by rw[hs];decide +kernel) (by decide +kernel)
 have h1:=h 587562 (by decide +kernel) (by decide +kernel);have h2:=h 486133 (by decide +kernel) (by decide +kernel);have h3:=h 656273 (by decide +kernel) (by decide +kernel);rw[abG,h1,h2,h3]
 rfl
end Go.Proofs.YtkhljkiehohckaaGreatDoor
namespace Go.Proofs.YtkhljkiehohckaaGreatDoor
open Go Go.RowKit Dig
structure DR where
 (f a0 a1 a2 a3 a4 a5 nm lo wd:Int)
def DR.a (d:DR):Nat→Int
 | 0=>d.a0
 | 1=>d.a1
 | 2=>d.a2
 | 3=>d.a3
 | 4=>d.a4
 | _=>d.a5
structure DR.wf (d:DR):Prop where
 f:0≤d.f∧d.f≤255
 a:∀ i,-128≤d.a i∧d.a i≤127
 nm:0≤d.nm∧d.nm≤255
 lo:0≤d.lo∧d.lo≤255
 wd:0≤d.wd∧d.wd≤255
def GL.setc (g:GL) (i:Nat) (v:Int):GL:=
 match i with
 | 0=>{ g with c0:=v }
 | 1=>{ g with c1:=v }
 | 2=>{ g with c2:=v }
 | 3=>{ g with c3:=v }
 | 4=>{ g with c4:=v }
 | _=>{ g with c5:=v }
def nmG (d:DR):ByteArray:=⟨#[103,UInt8.ofNat (97+d.nm % 26).toNat]⟩
def hiG (d:DR):Int:=if 128<d.wd then 2500000 else 300000+2000*d.lo+1000*d.wd
def drK (d:DR):Nat→GL
 | 0=>⟨nmG d,1+d.f % 3,0,0,0,0,0,0,300000+2000*d.lo,hiG d⟩
 | k+1=>(drK d k).setc k (d.a k*1000000)
def drG (d:DR):GL:=
 if d.f % 3=0 then ⟨nmG d,1+d.f % 3,d.a0*1000000+1100000000,d.a1*500000,d.a2*1000000,d.a3*500000,d.a4*1000000,d.a5*500000,300000+2000*d.lo,hiG d⟩
 else if d.f % 3=1 then ⟨nmG d,1+d.f % 3,d.a0*1000000*3+1600000000,d.a1*1000000,d.a2*10000,0,0,0,300000+2000*d.lo,hiG d⟩
 else ⟨nmG d,1+d.f % 3,d.a0*1000000*3+2500000000,d.a1*1000000,d.a2*10000,d.a3*10000,d.a4*10000,d.a5*10000,300000+2000*d.lo,hiG d⟩
def dr1 (d:DR):Nat→GL
 | 0=>(drK d 6).setc 0 (d.a0*1000000+1100000000)
 | k+1=>(dr1 d k).setc (2*k+1) (d.a (2*k+1)*500000)
def dr3 (d:DR):Nat→GL
 | 0=>(drK d 6).setc 0 (d.a0*1000000*3+2500000000)
 | k+1=>(dr3 d k).setc (k+2) (d.a (k+2)*10000)
theorem dr1_c (d:DR) {k:Nat} (hk:k<3):(dr1 d k).c (2*k+1)=d.a (2*k+1)*1000000:=by
 rcases k with _ | _ | _ | k
 ·rfl
 ·rfl
 ·rfl
 ·omega
theorem dr3_c (d:DR) {k:Nat} (hk:k<4):(dr3 d k).c (k+2)=d.a (k+2)*1000000:=by
 rcases k with _ | _ | _ | _ | k
 ·rfl
 ·rfl
 ·rfl
 ·rfl
 ·omega
theorem dr1_end {d:DR} (h:d.f % 3=0):drG d=dr1 d 3:=by rw[drG,if_pos h];rfl
theorem dr3_end {d:DR} (h:d.f % 3=2):drG d=dr3 d 4:=by rw[drG,if_neg (by omega),if_neg (by omega)];rfl
theorem dr2_end {d:DR} (h:d.f % 3=1):drG d=(((((drK d 6).setc 0 (d.a0*1000000*3+1600000000)).setc 2 (d.a2*10000)).setc 3 0).setc 4 0).setc 5 0:=by rw[drG,if_neg (by omega),if_pos h];rfl
theorem nmG_ok {d:DR} (h:d.wf):nmB (nmG d)=true∧nmG d≠mirB∧(nmG d).size=2:=by
 have h1:=h.nm;obtain⟨n,hn⟩:∃ n,(97+d.nm % 26).toNat=n:=⟨_,rfl⟩;have h2:97≤n∧n≤122:=by omega
 unfold nmG;rw[hn];have e:(UInt8.ofNat n).toNat=n:=by rw[UInt8.toNat_ofNat'];omega
 refine⟨?_,?_,rfl⟩
 ·unfold nmB;rw[show ByteArray.size ⟨#[103,UInt8.ofNat n]⟩=2 from rfl];simp only[List.all_cons,List.all_nil,letB,e]
  have e1:(103:UInt8).toNat=103:=rfl;rw[e1];simp
  omega
 ·intro h3;have:=congrArg ByteArray.size h3;exact absurd this (by rw[show ByteArray.size ⟨#[103,UInt8.ofNat n]⟩=2 from rfl];decide)
theorem drG_head (d:DR):(drG d).nm=nmG d∧(drG d).f=1+d.f % 3∧(drG d).lo=300000+2000*d.lo∧(drG d).hi=hiG d:=by
 unfold drG
 split
 ·exact⟨rfl,rfl,rfl,rfl⟩
 ·split <;> exact⟨rfl,rfl,rfl,rfl⟩
theorem drG_nm {d:DR} (h:d.wf):(drG d).nm.size=2:=by rw[(drG_head d).1];exact(nmG_ok h).2.2
end Go.Proofs.YtkhljkiehohckaaGreatDoor
namespace Go.Proofs.YtkhljkiehohckaaGreatDoor
open Go Go.RowKit Dig
end Go.Proofs.YtkhljkiehohckaaGreatDoor
