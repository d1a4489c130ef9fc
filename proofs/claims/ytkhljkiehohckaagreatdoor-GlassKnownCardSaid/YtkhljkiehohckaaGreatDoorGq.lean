/- Texts put together: Layer 09, plain: what the laws say of squares and indices. Layer 09, plain: drafted glasses. Layer 09, plain: the examples of the chapter. -/
import Derived.Test.YtkhljkiehohckaaGreatDoorGp
namespace Go.Proofs.YtkhljkiehohckaaGreatDoor
open Go Go.RowKit Dig
theorem fl_iff (q:Rat) (n:Int):n≤q.num / (q.den:Int)↔(n:Rat)≤q:=by
 have p:0<(q.den:Int):=by have:=q.den_pos;omega
 rw[Int.le_ediv_iff_mul_le p,Rat.le_iff];simp
theorem fl_mono {q r:Rat} (h:q≤r):q.num / (q.den:Int)≤r.num / (r.den:Int):=by
 rw[fl_iff];exact Rat.le_trans ((fl_iff q _).1 (Int.le_refl _)) h
theorem root_mono {a b:Nat} (h:a≤b):rootN a≤rootN b:=by
 have h1:=rootN_spec a;have h2:=rootN_spec b;refine Nat.le_of_not_lt fun h3=>?_
 have h4:(rootN b+1)*(rootN b+1)≤rootN a*rootN a:=Nat.mul_le_mul h3 h3
 omega
theorem root_ge {a s:Nat} (h:s*s≤a):s≤rootN a:=by
 have h1:=rootN_spec a;refine Nat.le_of_not_lt fun h3=>?_
 have h4:(rootN a+1)*(rootN a+1)≤s*s:=Nat.mul_le_mul h3 h3
 omega
theorem ixT_mono {s t:Rat} (h:s≤t):ixT s≤ixT t∨s<0:=by
 rcases(show s<0∨0≤s by grind) with h0 | h0
 ·exact .inr h0
 ·left
  unfold ixT
  apply root_mono
  have h1:=fl_mono (Rat.mul_le_mul_of_nonneg_right h (show(0:Rat)≤400000000000000 by decide));have h2:=(fl_iff (s*400000000000000) 0).2 (by simpa using Rat.mul_nonneg h0 (by decide))
  omega
theorem ixT_spec {s:Rat} (h:0≤s):∀ n:Int,0≤n→(n≤ixT s↔n*n≤(s*400000000000000).num / ((s*400000000000000).den:Int)):=by
 intro n hn;have h2:=(fl_iff (s*400000000000000) 0).2 (by simpa using Rat.mul_nonneg h (by decide));unfold ixT;generalize (s*400000000000000).num / ((s*400000000000000).den:Int)=F at *
 obtain⟨k,rfl⟩:=Int.eq_ofNat_of_zero_le hn;have h3:k≤rootN F.natAbs↔k*k≤F.natAbs:=⟨fun h=>Nat.le_trans (Nat.mul_le_mul h h) (rootN_spec _).1,root_ge⟩
 constructor
 ·intro h4;have h5:=h3.1 (by omega);have:((k*k:Nat):Int)≤F:=by omega
  simpa using this
 ·intro h4;have h4':((k*k:Nat):Int)≤F:=by simpa using h4
  have:=h3.2 (by omega)
  omega
theorem belowR_iff (n:Int) (q:Rat):cmpR (Rat.divInt n 1*Rat.divInt n 1) q≤0↔n*n≤q.num / (q.den:Int):=by
 have p:0<(q.den:Int):=by have:=q.den_pos;omega
 have e:Rat.divInt n 1*Rat.divInt n 1=((n*n:Int):Rat):=by rw[Rat.intCast_mul,Rat.divInt_eq_div,show((1:Int):Rat)=1 from rfl];grind
 rw[e,Int.le_ediv_iff_mul_le p];unfold cmpR;simp only[Rat.num_intCast,Rat.den_intCast]
 have h:∀ x:Int,x.sign≤0↔x≤0:=fun x=>by
  rcases Int.lt_trichotomy x 0 with h1 | h1 | h1
  ·rw[Int.sign_eq_neg_one_of_neg h1];omega
  ·rw[h1];decide
  ·rw[Int.sign_eq_one_of_pos h1];omega
 rw[h]
 omega
theorem near_ok {g:GL} {L n:Int} (h:ixG g L=(n,0)):0≤sqG g L∧10000000≤n∧n≤40000000∧cmpR (Rat.divInt (2*n-1) 1*Rat.divInt (2*n-1) 1) (sqG g L*400000000000000)≤0∧0<cmpR (Rat.divInt (2*n+1) 1*Rat.divInt (2*n+1) 1) (sqG g L*400000000000000):=by
 unfold ixG at h
 split at h
 ·cases h
 ·next h0=>
  have hs:0≤sqG g L:=Rat.num_nonneg.1 (by omega);have hT:=ixT_spec hs
  split at h
  ·next h1=>
   injection h with h2 h3
   have h4:10000000≤n∧n≤40000000:=by omega
   refine⟨hs,h4.1,h4.2,(belowR_iff _ _).2 ((hT _ (by omega)).1 (by omega)),Int.lt_of_not_ge fun h5=>?_⟩;have:=(hT _ (by omega)).2 ((belowR_iff _ _).1 h5)
   omega
  ·cases h
theorem near_big {g:GL} {L:Int} (h:(ixG g L).2=6):ixG g L=(0,6)∧(g.f≠2→cmpR (Rat.divInt 19999999 1*Rat.divInt 19999999 1) (sqG g L*400000000000000)≤0→cmpR (Rat.divInt 80000001 1*Rat.divInt 80000001 1) (sqG g L*400000000000000)≤0):=by
 unfold ixG at *
 split at h
 ·next h0=>
  rw[if_pos h0];refine⟨rfl,fun hf h1=>?_⟩;have hs:(sqG g L).num<0:=by rcases h0 with h0 | h0;exact h0;exact absurd h0.1 hf
  have h2:=(fl_iff _ _).1 ((belowR_iff _ _).1 h1);have h3:sqG g L<0:=Rat.not_le.1 fun h4=>by have:=Rat.num_nonneg.2 h4;omega
  have h4:sqG g L*400000000000000<0:=by grind
  exact absurd (Rat.le_trans h2 (Rat.le_of_lt h4)) (by decide)
 ·next h0=>
  rw[if_neg h0]
  split at h
  ·cases h
  ·next h1=>
   have hs:0≤sqG g L:=Rat.num_nonneg.1 (by omega);have hT:=ixT_spec hs;rw[if_neg h1];refine⟨rfl,fun hf h2=>?_⟩;have:=(hT _ (by omega)).2 ((belowR_iff _ _).1 h2);exact(belowR_iff _ _).2 ((hT _ (by omega)).1 (by omega))
theorem ixG_snd (g:GL) (L:Int):(ixG g L).2=0∨(ixG g L).2=6:=by
 unfold ixG
 split
 ·exact .inr rfl
 ·split
  ·exact .inl rfl
  ·exact .inr rfl
theorem term_falls {a b w v:Rat} (ha:0≤a) (hb:0≤b) (h1:b<w) (h2:w≤v):a*v / (v-b)≤a*w / (w-b):=by
 have p1:0<v-b:=by grind
 have p2:0<w-b:=by grind
 refine Rat.not_lt.1 fun hc=>?_
 rw[Rat.lt_div_iff p1] at hc;have e:a*w / (w-b)=a*w*(w-b)⁻¹:=Rat.div_def _ _;have h3:(w-b)*(w-b)⁻¹=1:=Rat.mul_inv_cancel _ (by grind);have h4:0<(w-b)⁻¹:=Rat.inv_pos.2 p2;rw[e] at hc;have k1:a*v=a*v*((w-b)*(w-b)⁻¹):=by rw[h3,Rat.mul_one]
 have k2:=Rat.mul_nonneg (Rat.mul_nonneg (Rat.mul_nonneg ha hb) (show 0≤v-w by grind)) (Rat.le_of_lt h4);generalize (w-b)⁻¹=i at *
 rw[k1] at hc
 grind
theorem term_pos {a b w:Rat} (ha:0≤a) (h0:0≤w) (h1:b<w):0≤a*w / (w-b):=by
 have p2:0<w-b:=by grind
 have h4:0<(w-b)⁻¹:=Rat.inv_pos.2 p2;rw[Rat.div_def];exact Rat.mul_nonneg (Rat.mul_nonneg ha h0) (Rat.le_of_lt h4)
theorem av_pos {c:Int} (h:0≤c):0≤av c:=by
 unfold av;rw[Rat.divInt_nonneg_iff_of_pos_right (by decide)];exact h
theorem dv_le {a b c d:Int} (hb:0<b) (hd:0<d) (h:a*d≤c*b):Rat.divInt a b≤Rat.divInt c d:=by
 rcases Int.lt_or_eq_of_le h with h | h
 ·exact Rat.le_of_lt (dv_lt hb hd h)
 ·exact(Rat.divInt_eq_divInt_iff (Int.ne_of_gt hb) (Int.ne_of_gt hd)).2 h▸Rat.le_refl
theorem wv_mono {L M:Int} (h0:0≤L) (h:L≤M):wv L≤wv M:=by
 have h1:L*L≤M*M:=Int.mul_le_mul h h h0 (by omega);unfold wv;exact dv_le (by decide) (by decide) (by omega)
theorem xG_falls {g:GL} {L M:Int} (hL:okL g L) (hM:okL g M) (hf:g.f=1) (h:L≤M) (hc:∀ i,0≤g.c i) {k:Nat} (hk:k<3):0≤xG g M k∧xG g M k≤xG g L k:=by
 have bL:=hL.b;unfold xG;exact⟨term_pos (av_pos (hc _)) (Rat.le_of_lt (wv_pos hM.b)) (pole hM hf hk),term_falls (av_pos (hc _)) (av_pos (hc _)) (pole hL hf hk) (wv_mono (by omega) h)⟩
theorem sm_falls {g:GL} {L M:Int} (hL:okL g L) (hM:okL g M) (hf:g.f=1) (h:L≤M) (hc:∀ i,0≤g.c i):1≤sqG g M∧sqG g M≤sqG g L:=by
 have h0:=xG_falls hL hM hf h hc (k:=0) (by decide);have h1:=xG_falls hL hM hf h hc (k:=1) (by decide);have h2:=xG_falls hL hM hf h hc (k:=2) (by decide);rw[sqG,if_pos hf,sqG,if_pos hf];simp only[smK]
 grind
theorem falls_law {g:GL} {L M:Int} (hL:okL g L) (hM:okL g M) (hf:g.f=1) (h:L≤M) (hc:∀ i,0≤g.c i) :
  if (ixG g M).2=0 then 10000000≤(ixG g M).1∧((ixG g L).2=6∨(ixG g L).2=0∧(ixG g M).1≤(ixG g L).1) else (ixG g M).2=6∧(ixG g L).2=6:=by
 obtain⟨h1,h2⟩:=sm_falls hL hM hf h hc;have p0:(0:Rat)≤1:=by decide
 have q0:0≤sqG g M:=Rat.le_trans p0 h1;have q1:0≤sqG g L:=Rat.le_trans q0 h2;have n0:=Rat.num_nonneg.2 q0;have n1:=Rat.num_nonneg.2 q1;have hT:(20000000:Int)≤ixT (sqG g M):=by
  refine(ixT_spec q0 _ (by decide)).2 ((fl_iff _ _).2 ?_);have:(((20000000*20000000:Int)):Rat)=1*400000000000000:=by decide +kernel
  rw[this];exact Rat.mul_le_mul_of_nonneg_right h1 (by decide)
 have hm:ixT (sqG g M)≤ixT (sqG g L):=(ixT_mono h2).resolve_right fun e=>absurd q0 (Rat.not_le.2 e)
 unfold ixG;rw[if_neg (show ¬ ((sqG g M).num<0∨g.f=2∧(lnG g M).num<0) by omega),if_neg (show ¬ ((sqG g L).num<0∨g.f=2∧(lnG g L).num<0) by omega)];generalize ixT (sqG g M)=s at *
 generalize ixT (sqG g L)=t at *
 by_cases h3:19999999≤s∧s≤80000000
 ·rw[if_pos h3,if_pos rfl];refine⟨by simp only;omega,?_⟩;by_cases h4:19999999≤t∧t≤80000000
  ·rw[if_pos h4];exact .inr ⟨rfl,by simp only;omega⟩
  ·rw[if_neg h4];exact .inl rfl
 ·rw[if_neg h3,if_neg (by decide),if_neg (by omega)];exact⟨rfl,rfl⟩
theorem dn_zero (w:Rat):∀ k,dn 0 w k=0
 | 0=>rfl
 | k+1=>by rw[dn,dn_zero w k,Rat.div_def,Rat.zero_mul]
theorem av_zero:av 0=0:=by decide
theorem flat_law {g:GL} {k:Int} (hf:g.f=2) (h0:g.c0=100*k) (h1:g.c1=0) (h2:g.c2=0) (hk:10000000≤k∧k≤40000000) (L:Int):ixG g L=(k,0):=by
 have e1:lnG g L=(k:Rat) / 10000000:=by
  unfold lnG;rw[h0,h1,h2,av_zero,dn_zero,dn_zero,Rat.add_zero,Rat.add_zero,av,Rat.divInt_eq_div];have:((100*k:Int):Rat)=100*(k:Rat):=by simp
  rw[this];have:((1000000000:Int):Rat)=1000000000:=by decide
  rw[this]
  grind
 have e2:sqG g L=(k:Rat) / 10000000*((k:Rat) / 10000000):=by
  rw[sqG,if_neg (by omega),if_pos hf,e1]
 have p0:(0:Rat)≤(k:Rat) / 10000000:=by
  rw[Rat.div_def];exact Rat.mul_nonneg (Rat.intCast_nonneg.2 (by omega)) (Rat.le_of_lt (Rat.inv_pos.2 (by decide)))
 have q0:0≤sqG g L:=by rw[e2];exact Rat.mul_nonneg p0 p0
 have e3:sqG g L*400000000000000=((4*(k*k):Int):Rat):=by
  rw[e2];have:((4*(k*k):Int):Rat)=4*((k:Rat)*(k:Rat)):=by simp
  rw[this]
  grind
 have e4:(sqG g L*400000000000000).num / ((sqG g L*400000000000000).den:Int)=4*(k*k):=by rw[e3,Rat.num_intCast,Rat.den_intCast];exact Int.ediv_one _
 have hT:=ixT_spec q0;rw[e4] at hT;have t1:=(hT (2*k) (by omega)).2 (by grind);have t2:¬ (2*k+1≤(ixT (sqG g L):Int)):=fun h=>by have:=(hT _ (by omega)).1 h;grind
 unfold ixG;have n0:=Rat.num_nonneg.2 q0;have n1:0≤(lnG g L).num:=by rw[e1];exact Rat.num_nonneg.2 p0
 rw[if_neg (by omega),if_pos (by omega)]
 congr 1
 omega
def nA:ByteArray:=⟨#[65]⟩
def plG (f:Int) (c0 c1 c2 c3 c4 c5:Int):GL:=⟨nA,f,c0,c1,c2,c3,c4,c5,400000,700000⟩
theorem ixG_at {g:GL} {L F T:Int} (h0:¬ ((sqG g L).num<0∨g.f=2∧(lnG g L).num<0)) (h:(sqG g L*400000000000000).num / ((sqG g L*400000000000000).den:Int)=F) (h1:19999999≤T∧T≤80000000∧T*T≤F∧F<(T+1)*(T+1)):ixG g L=((T+1) / 2,0):=by
 have hs:0≤sqG g L:=Rat.num_nonneg.1 (by omega);have hT:=ixT_spec hs;rw[h] at hT;have t1:=(hT T (by omega)).2 h1.2.2.1;have t2:¬ (T+1≤(ixT (sqG g L):Int)):=fun h=>by have:=(hT _ (by omega)).1 h;omega
 have t3:(ixT (sqG g L):Int)=T:=by omega
 unfold ixG;rw[if_neg h0,if_pos (by omega),t3]
theorem ixG_no {g:GL} {L:Int} (h0:(sqG g L).num<0∨g.f=2∧(lnG g L).num<0):ixG g L=(0,6):=if_pos h0
theorem ixG_out {g:GL} {L F:Int} (h0:¬ ((sqG g L).num<0∨g.f=2∧(lnG g L).num<0)) (h:(sqG g L*400000000000000).num / ((sqG g L*400000000000000).den:Int)=F) (h1:F<19999999*19999999∨80000001*80000001≤F):ixG g L=(0,6):=by
 have hs:0≤sqG g L:=Rat.num_nonneg.1 (by omega);have hT:=ixT_spec hs;rw[h] at hT;unfold ixG;rw[if_neg h0,if_neg];rintro⟨h2,h3⟩;have t1:=(hT 19999999 (by omega)).1 (by omega);have t2:¬ (80000001≤(ixT (sqG g L):Int)):=by omega
 have t3:¬ (80000001*80000001≤F):=fun h=>t2 ((hT 80000001 (by omega)).2 h)
 omega
theorem mk_small {x y:Int} (hx:-40000000≤x∧x≤40000000) (hy:-40000000≤y∧y≤40000000) (h0:y≠0):mkQ x y=(some (Rat.divInt x y),0)∧QL 1 1 (Rat.divInt x y):=by
 have h:QL 1 1 (Rat.divInt x y):=QL.dv h0 (show x.natAbs<1000000000 by omega) (show y.natAbs<1000000000 by omega);refine⟨?_,h⟩;rw[mkQ,if_neg h0];exact toldQ_ok (h.mono (by decide) (by decide))
def twoG (g:GL):Prop:=(inG g 486133).2=0∧(inG g 656273).2=0∧(inG g 486133).1-(inG g 656273).1≠0
theorem paG_at {g:GL} (h:twoG g) {x y:Int} (hx:(inG g x).2=0) (hy:(inG g y).2=0):paG g x y=(some (Rat.divInt ((inG g x).1-(inG g y).1) ((inG g 486133).1-(inG g 656273).1)),0)∧QL 1 1 (Rat.divInt ((inG g x).1-(inG g y).1) ((inG g 486133).1-(inG g 656273).1)):=by
 have b0:=inG_bound g 486133;have b1:=inG_bound g 656273;have b2:=inG_bound g x;have b3:=inG_bound g y;have h1:=mk_small (x:=(inG g x).1-(inG g y).1) (y:=(inG g 486133).1-(inG g 656273).1) (by omega) (by omega) h.2.2;refine⟨?_,h1.2⟩;rw[paG,if_neg (by rw[h.1];decide),if_neg (by rw[h.2.1];decide),if_neg (by rw[hx];decide),if_neg (by rw[hy];decide),h1.1]
theorem paG_no {g:GL} (h:twoG g) {x y:Int} (hxy:(inG g x).2≠0∨(inG g y).2≠0):paG g x y=(none,if (inG g x).2≠0 then (inG g x).2 else (inG g y).2):=by
 rw[paG,if_neg (by rw[h.1];decide),if_neg (by rw[h.2.1];decide)];by_cases hx:(inG g x).2≠0
 ·rw[if_pos hx,if_pos hx]
 ·rw[if_neg hx,if_neg hx,if_pos (by omega)]
theorem two_of {g:GL}:(twoG g∧paG g 486133 656273=(some 1,0))∨((∃ e,e≠0∧paG g 486133 656273=(none,e))∧∃ e,e≠0∧abG g=(none,e)):=by
 by_cases h0:(inG g 486133).2=0
 ·by_cases h1:(inG g 656273).2=0
  ·by_cases h2:(inG g 486133).1-(inG g 656273).1=0
   ·right
    refine⟨⟨7,by decide,?_⟩,?_⟩
    ·rw[paG,if_neg (by rw[h0];decide),if_neg (by rw[h1];decide),if_neg (by rw[h0];decide),if_neg (by rw[h1];decide),mkQ,if_pos h2]
    ·unfold abG;by_cases h3:(inG g 587562).2=0
     ·rw[if_neg (by rw[h3];decide),if_neg (by rw[h0];decide),if_neg (by rw[h1];decide),mkQ,if_pos h2];exact⟨7,by decide,rfl⟩
     ·rw[if_pos h3];exact⟨_,h3,rfl⟩
   ·left
    have ht:twoG g:=⟨h0,h1,h2⟩;refine⟨ht,?_⟩;rw[(paG_at ht h0 h1).1,Rat.divInt_self' h2]
  ·right
   refine⟨⟨_,h1,by rw[paG,if_neg (by rw[h0];decide),if_pos h1]⟩,?_⟩;unfold abG;by_cases h3:(inG g 587562).2=0
   ·rw[if_neg (by rw[h3];decide),if_neg (by rw[h0];decide),if_pos h1];exact⟨_,h1,rfl⟩
   ·rw[if_pos h3];exact⟨_,h3,rfl⟩
 ·right
  refine⟨⟨_,h0,by rw[paG,if_pos h0]⟩,?_⟩;unfold abG;by_cases h3:(inG g 587562).2=0
  ·rw[if_neg (by rw[h3];decide),if_pos h0];exact⟨_,h0,rfl⟩
  ·rw[if_pos h3];exact⟨_,h3,rfl⟩
theorem part_sum (a b c d:Int):Rat.divInt (a-b) d+Rat.divInt (b-c) d=Rat.divInt (a-c) d:=by
 rw[Rat.divInt_eq_div,Rat.divInt_eq_div,Rat.divInt_eq_div,Rat.intCast_sub,Rat.intCast_sub,Rat.intCast_sub,Rat.div_def,Rat.div_def,Rat.div_def]
 grind
theorem part_zero (a d:Int):Rat.divInt (a-a) d=0:=by rw[Int.sub_self];exact Rat.zero_divInt d
theorem inG_codes {g:GL} {L:Int} (h:okL g L):(inG g L).2=0∨(inG g L).2=6:=by
 have h0:erG g L=0:=by
  unfold erG;rw[if_pos h.1,if_neg (by have:=h.2;omega)]
 rw[inG,if_pos h0];exact ixG_snd g L
theorem inG_at {g:GL} {L F T:Int} (he:erG g L=0) (h0:¬ ((sqG g L).num<0∨g.f=2∧(lnG g L).num<0)) (h:(sqG g L*400000000000000).num / ((sqG g L*400000000000000).den:Int)=F) (h1:19999999≤T∧T≤80000000∧T*T≤F∧F<(T+1)*(T+1)):inG g L=((T+1) / 2,0):=by rw[inG,if_pos he];exact ixG_at h0 h h1
theorem inG_no {g:GL} {L:Int} (he:erG g L=0) (h0:(sqG g L).num<0∨g.f=2∧(lnG g L).num<0):inG g L=(0,6):=by rw[inG,if_pos he];exact ixG_no h0
theorem inG_out {g:GL} {L F:Int} (he:erG g L=0) (h0:¬ ((sqG g L).num<0∨g.f=2∧(lnG g L).num<0)) (h:(sqG g L*400000000000000).num / ((sqG g L*400000000000000).den:Int)=F) (h1:F<19999999*19999999∨80000001*80000001≤F):inG g L=(0,6):=by rw[inG,if_pos he];exact ixG_out h0 h h1
theorem inG_err {g:GL} {L r:Int} (he:erG g L=r) (hr:r≠0):inG g L=(0,r):=by rw[inG,if_neg (by omega),he]
theorem wk1:inG (plG 1 1000000000 0 0 0 0 0) 550000=(14142136,0):=inG_at (F:=800000000000000) (T:=28284271) (by decide +kernel) (by decide +kernel) (by decide +kernel) (by decide +kernel)
theorem wk2:inG (plG 2 1500000000 10000000 0 0 0 0) 500000=(15400000,0):=inG_at (F:=948640000000000) (T:=30800000) (by decide +kernel) (by decide +kernel) (by decide +kernel) (by decide +kernel)
theorem wk3:inG (plG 1 1000000000 10000000 0 0 0 0) 500000=(14288690,0):=inG_at (F:=816666666666666) (T:=28577380) (by decide +kernel) (by decide +kernel) (by decide +kernel) (by decide +kernel)
theorem wk4:sqR (plG 1 1000000000 0 0 0 0 0) 550000=(some 2,0):=by rw[sqR,if_pos (by decide +kernel),show sqG (plG 1 1000000000 0 0 0 0 0) 550000=2 by decide +kernel]
theorem wk5:inG (plG 1 1000000000 0 0 0 0 0) 399999=(0,2):=inG_err (by decide +kernel) (by decide)
theorem wk6:abG (plG 1 1000000000 0 0 0 0 0)=(none,7):=by
 have h (L:Int) (he:erG (plG 1 1000000000 0 0 0 0 0) L=0) (hs:sqG (plG 1 1000000000 0 0 0 0 0) L=2):inG (plG 1 1000000000 0 0 0 0 0) L=(14142136,0):=
  inG_at (F:=800000000000000) (T:=28284271) he (by rw[hs];rintro(h | ⟨h,-⟩) <;> exact absurd h (by decide)) (by rw[hs];decide +kernel) (by decide +kernel)
 have h1:=h 587562 (by decide +kernel) (by decide +kernel);have h2:=h 486133 (by decide +kernel) (by decide +kernel);have h3:=h 656273 (by decide +kernel) (by decide +kernel);rw[abG,h1,h2,h3]
 rfl
end Go.Proofs.YtkhljkiehohckaaGreatDoor
namespace Go.Proofs.YtkhljkiehohckaaGreatDoor
open Go Go.RowKit Dig
structure DR where
 (f a0 a1 a2 a3 a4 a5 nm lo wd:Int)
def DR.a (d:DR):Nat→Int
 | 0=>d.a0
 | 1=>d.a1
 | 2=>d.a2
 | 3=>d.a3
 | 4=>d.a4
 | _=>d.a5
structure DR.wf (d:DR):Prop where
 f:0≤d.f∧d.f≤255
 a:∀ i,-128≤d.a i∧d.a i≤127
 nm:0≤d.nm∧d.nm≤255
 lo:0≤d.lo∧d.lo≤255
 wd:0≤d.wd∧d.wd≤255
def GL.setc (g:GL) (i:Nat) (v:Int):GL:=
 match i with
 | 0=>{ g with c0:=v }
 | 1=>{ g with c1:=v }
 | 2=>{ g with c2:=v }
 | 3=>{ g with c3:=v }
 | 4=>{ g with c4:=v }
 | _=>{ g with c5:=v }
def nmG (d:DR):ByteArray:=⟨#[103,UInt8.ofNat (97+d.nm % 26).toNat]⟩
def hiG (d:DR):Int:=if 128<d.wd then 2500000 else 300000+2000*d.lo+1000*d.wd
def drK (d:DR):Nat→GL
 | 0=>⟨nmG d,1+d.f % 3,0,0,0,0,0,0,300000+2000*d.lo,hiG d⟩
 | k+1=>(drK d k).setc k (d.a k*1000000)
def drG (d:DR):GL:=
 if d.f % 3=0 then ⟨nmG d,1+d.f % 3,d.a0*1000000+1100000000,d.a1*500000,d.a2*1000000,d.a3*500000,d.a4*1000000,d.a5*500000,300000+2000*d.lo,hiG d⟩
 else if d.f % 3=1 then ⟨nmG d,1+d.f % 3,d.a0*1000000*3+1600000000,d.a1*1000000,d.a2*10000,0,0,0,300000+2000*d.lo,hiG d⟩
 else ⟨nmG d,1+d.f % 3,d.a0*1000000*3+2500000000,d.a1*1000000,d.a2*10000,d.a3*10000,d.a4*10000,d.a5*10000,300000+2000*d.lo,hiG d⟩
def dr1 (d:DR):Nat→GL
 | 0=>(drK d 6).setc 0 (d.a0*1000000+1100000000)
 | k+1=>(dr1 d k).setc (2*k+1) (d.a (2*k+1)*500000)
def dr3 (d:DR):Nat→GL
 | 0=>(drK d 6).setc 0 (d.a0*1000000*3+2500000000)
 | k+1=>(dr3 d k).setc (k+2) (d.a (k+2)*10000)
theorem dr1_c (d:DR) {k:Nat} (hk:k<3):(dr1 d k).c (2*k+1)=d.a (2*k+1)*1000000:=by
 rcases k with _ | _ | _ | k
 ·rfl
 ·rfl
 ·rfl
 ·omega
theorem dr3_c (d:DR) {k:Nat} (hk:k<4):(dr3 d k).c (k+2)=d.a (k+2)*1000000:=by
 rcases k with _ | _ | _ | _ | k
 ·rfl
 ·rfl
 ·rfl
 ·rfl
 ·omega
theorem dr1_end {d:DR} (h:d.f % 3=0):drG d=dr1 d 3:=by rw[drG,if_pos h];rfl
theorem dr3_end {d:DR} (h:d.f % 3=2):drG d=dr3 d 4:=by rw[drG,if_neg (by omega),if_neg (by omega)];rfl
theorem dr2_end {d:DR} (h:d.f % 3=1):drG d=(((((drK d 6).setc 0 (d.a0*1000000*3+1600000000)).setc 2 (d.a2*10000)).setc 3 0).setc 4 0).setc 5 0:=by rw[drG,if_neg (by omega),if_pos h];rfl
theorem nmG_ok {d:DR} (h:d.wf):nmB (nmG d)=true∧nmG d≠mirB∧(nmG d).size=2:=by
 have h1:=h.nm;obtain⟨n,hn⟩:∃ n,(97+d.nm % 26).toNat=n:=⟨_,rfl⟩;have h2:97≤n∧n≤122:=by omega
 unfold nmG;rw[hn];have e:(UInt8.ofNat n).toNat=n:=by rw[UInt8.toNat_ofNat'];omega
 refine⟨?_,?_,rfl⟩
 ·unfold nmB;rw[show ByteArray.size ⟨#[103,UInt8.ofNat n]⟩=2 from rfl];simp only[List.all_cons,List.all_nil,letB,e]
  have e1:(103:UInt8).toNat=103:=rfl;rw[e1];simp
  omega
 ·intro h3;have:=congrArg ByteArray.size h3;exact absurd this (by rw[show ByteArray.size ⟨#[103,UInt8.ofNat n]⟩=2 from rfl];decide)
theorem drG_head (d:DR):(drG d).nm=nmG d∧(drG d).f=1+d.f % 3∧(drG d).lo=300000+2000*d.lo∧(drG d).hi=hiG d:=by
 unfold drG
 split
 ·exact⟨rfl,rfl,rfl,rfl⟩
 ·split <;> exact⟨rfl,rfl,rfl,rfl⟩
theorem drG_c {d:DR} (h:d.wf) (i:Nat):-3000000000≤(drG d).c i∧(drG d).c i≤3000000000∧((drG d).f=1→i % 2=1→(drG d).c i≤63500000)∧((drG d).f=2→2<i→(drG d).c i=0):=by
 have b0:=h.a 0;have b1:=h.a 1;have b2:=h.a 2;have b3:=h.a 3;have b4:=h.a 4;have b5:=h.a 5;simp only[DR.a] at b0 b1 b2 b3 b4 b5
 have hf:=h.f;unfold drG
 split
 ·rcases i with _ | _ | _ | _ | _ | i <;> simp only[GL.c] <;> refine⟨?_,?_,fun e1 e2=>?_,fun e1 e2=>?_⟩ <;> omega
 ·split
  ·rcases i with _ | _ | _ | _ | _ | i <;> simp only[GL.c] <;> refine⟨?_,?_,fun e1 e2=>?_,fun e1 e2=>?_⟩ <;> first | omega | trivial
  ·rcases i with _ | _ | _ | _ | _ | i <;> simp only[GL.c] <;> refine⟨?_,?_,fun e1 e2=>?_,fun e1 e2=>?_⟩ <;> omega
theorem drG_ok {d:DR} (h:d.wf):okG (drG d):=by
 obtain⟨h1,h2,h3,h4⟩:=drG_head d;obtain⟨n1,n2,-⟩:=nmG_ok h;have b1:=h.lo;have b2:=h.wd;have hf:=h.f;have b3:(drG d).lo≤(drG d).hi∧(drG d).hi≤2500000:=by rw[h3,h4];unfold hiG;split <;> omega
 refine⟨⟨by rw[h1];exact n1,by rw[h1];exact n2,by omega,b3.1,b3.2,by omega,by omega⟩,fun i hi=>?_⟩;have hc:=drG_c h i;have hl:300000*300000≤(drG d).lo*(drG d).lo:=Int.mul_le_mul (by omega) (by omega) (by omega) (by omega);rintro(e | e | ⟨e1,e2,e3⟩ | ⟨e1,e2,e3⟩)
 ·omega
 ·omega
 ·have:=hc.2.2.1 e1 e2;omega
 ·exact e3 (hc.2.2.2 e1 e2)
theorem drG_nm {d:DR} (h:d.wf):(drG d).nm.size=2:=by rw[(drG_head d).1];exact(nmG_ok h).2.2
def flc (k:Nat) (c:Int):Int:=if k % 2=1 then max c (-c) % 60000000 else max c (-c)
def flK (d:DR):Nat→GL
 | 0=>{ drG d with f:=1,lo:=300000,hi:=2500000 }
 | k+1=>(flK d k).setc k (flc k ((drG d).c k))
theorem flc_b {k:Nat} {c:Int} (h:-3000000000≤c∧c≤3000000000):0≤flc k c∧flc k c≤3000000000∧(k % 2=1→flc k c<60000000):=by
 unfold flc;split <;> omega
theorem flK_ok {d:DR} (h:d.wf):okG (flK d 6)∧(flK d 6).f=1∧(∀ i,0≤(flK d 6).c i)∧(flK d 6).lo=300000∧(flK d 6).hi=2500000:=by
 obtain⟨h1,-⟩:=drG_head d;obtain⟨n1,n2,-⟩:=nmG_ok h;have hc:∀ i,0≤(flK d 6).c i∧(flK d 6).c i≤3000000000∧(i<6→i % 2=1→(flK d 6).c i<60000000):=fun i=>by
  have hb:=fun k=>flc_b (k:=k) (c:=(drG d).c k) ⟨(drG_c h k).1,(drG_c h k).2.1⟩
  rcases i with _ | _ | _ | _ | _ | i
  ·exact⟨(hb 0).1,(hb 0).2.1,fun _=>(hb 0).2.2⟩
  ·exact⟨(hb 1).1,(hb 1).2.1,fun _=>(hb 1).2.2⟩
  ·exact⟨(hb 2).1,(hb 2).2.1,fun _=>(hb 2).2.2⟩
  ·exact⟨(hb 3).1,(hb 3).2.1,fun _=>(hb 3).2.2⟩
  ·exact⟨(hb 4).1,(hb 4).2.1,fun _=>(hb 4).2.2⟩
  ·exact⟨(hb 5).1,(hb 5).2.1,fun _ _=>(hb 5).2.2 rfl⟩
 have e4:(flK d 6).lo=300000:=rfl;have e5:(flK d 6).hi=2500000:=rfl;have e6:(flK d 6).f=1:=rfl;refine⟨⟨⟨?_,?_,?_⟩,fun i hi=>?_⟩,rfl,fun i=>(hc i).1,rfl,rfl⟩
 ·show nmB (drG d).nm=true
  rw[h1];exact n1
 ·show(drG d).nm≠mirB
  rw[h1];exact n2
 ·rw[e4,e5,e6];decide
 ·have:=hc i;rintro(e | e | ⟨e1,e2,e3⟩ | ⟨e1,e2,e3⟩)
  ·omega
  ·omega
  ·have h5:=this.2.2 hi e2;rw[e4] at e3;omega
  ·rw[e6] at e1;exact absurd e1 (by decide)
end Go.Proofs.YtkhljkiehohckaaGreatDoor
namespace Go.Proofs.YtkhljkiehohckaaGreatDoor
open Go Go.RowKit Dig
theorem kn_c (g:GL) (h:¬ okG g) (L:Int):sqR g L=(none,90)∧inG g L=(0,90)∧abG g=(none,90):=by
 have he (L:Int):erG g L=90:=if_neg h;have hi (L:Int):inG g L=(0,90):=inG_err (he L) (by decide);refine⟨by rw[sqR,he];rfl,hi L,?_⟩;rw[abG,hi];rfl
theorem kn_part:paG (plG 2 1500000000 10000000 0 0 0 0) 486133 656273=(some 1,0):=by
 have h1:inG (plG 2 1500000000 10000000 0 0 0 0) 486133=(15423146,0):=inG_at (F:=951493676517532) (T:=30846291) (by decide +kernel) (by decide +kernel) (by decide +kernel) (by decide +kernel);have h2:inG (plG 2 1500000000 10000000 0 0 0 0) 656273=(15232183,0):=inG_at (F:=928077628836814) (T:=30464366) (by decide +kernel) (by decide +kernel) (by decide +kernel) (by decide +kernel);rcases two_of (g:=plG 2 1500000000 10000000 0 0 0 0) with h | ⟨⟨e,he,h⟩,-⟩
 ·exact h.2
 ·have ht:twoG (plG 2 1500000000 10000000 0 0 0 0):=⟨by rw[h1],by rw[h2],by rw[h1,h2];decide⟩;rw[(paG_at ht ht.1 ht.2.1).1] at h;cases h
theorem kn_d:inG (plG 2 500000000 10000000 0 0 0 0) 500000=(0,6):=inG_out (F:=116640000000000) (by decide +kernel) (by decide +kernel) (by decide +kernel) (by decide +kernel)
theorem kn_e:inG (plG 2 (-1500000000) 0 0 0 0 0) 500000=(0,6):=inG_no (by decide +kernel) (by decide +kernel)
theorem kn_f:inG (plG 3 (-1) 0 0 0 0 0) 500000=(0,6):=inG_no (by decide +kernel) (by decide +kernel)
theorem kn_n:inG (plG 3 2250000000 0 0 0 0 0) 500000=(15000000,0):=inG_at (F:=900000000000000) (T:=30000000) (by decide +kernel) (by decide +kernel) (by decide +kernel) (by decide +kernel)
theorem kn_m:inG (plG 3 2000000000 1000000000 0 0 0 0) 500000=(15000000,0):=inG_at (F:=900000000000000) (T:=30000000) (by decide +kernel) (by decide +kernel) (by decide +kernel) (by decide +kernel)
theorem kn_top:inG (plG 2 4000000000 0 0 0 0 0) 700000=(40000000,0):=inG_at (F:=6400000000000000) (T:=80000000) (by decide +kernel) (by decide +kernel) (by decide +kernel) (by decide +kernel)
theorem kn_l:inG (plG 2 4000000050 0 0 0 0 0) 700000=(0,6):=inG_out (F:=6400000160000001) (by decide +kernel) (by decide +kernel) (by decide +kernel) (by decide +kernel)
theorem kn_j:(paG (plG 2 1500000000 10000000 0 0 0 0) 399999 700001)=(none,2):=by
 have h1:inG (plG 2 1500000000 10000000 0 0 0 0) 399999=(0,2):=inG_err (by decide +kernel) (by decide);rcases two_of (g:=plG 2 1500000000 10000000 0 0 0 0) with h | ⟨⟨e,he,h⟩,-⟩
 ·rw[paG_no h.1 (.inl (by rw[h1];decide)),h1];rfl
 ·rw[kn_part] at h;cases h
end Go.Proofs.YtkhljkiehohckaaGreatDoor
