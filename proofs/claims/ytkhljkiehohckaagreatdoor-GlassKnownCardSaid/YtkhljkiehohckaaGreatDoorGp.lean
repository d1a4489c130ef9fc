/- Texts put together: Layer 09, plain: glasses. Layer 09, plain: glasses, their squares and indices; how long the fractions on the way are. -/
import Derived.Test.YtkhljkiehohckaaGreatDoorOps
import Derived.Test.YtkhljkiehohckaaGreatDoorQL
namespace Go.Proofs.YtkhljkiehohckaaGreatDoor
open Go Go.RowKit
structure GL where
 (nm:ByteArray) (f c0 c1 c2 c3 c4 c5 lo hi:Int)
def GL.c (g:GL):Nat→Int
 | 0=>g.c0
 | 1=>g.c1
 | 2=>g.c2
 | 3=>g.c3
 | 4=>g.c4
 | _=>g.c5
def letB (c:UInt8):Bool:=decide (65≤c.toNat∧c.toNat≤90∨97≤c.toNat∧c.toNat≤122∨48≤c.toNat∧c.toNat≤57∨c.toNat=45∨c.toNat=95)
def nmB (s:ByteArray):Bool:=s.data.toList.all letB&&decide (1≤s.size∧s.size≤16)
def mirB:ByteArray:=⟨#[77,73,82,82,79,82]⟩
def badC (g:GL) (i:Nat):Prop:=g.c i < -1000000000000∨1000000000000<g.c i∨(g.f=1∧i % 2=1∧g.lo*g.lo≤1000*g.c i)∨(g.f=2∧2<i∧g.c i≠0)
theorem badC_iff (g:GL) (i:Nat):badC g i↔(g.c i < -1000000000000∨1000000000000<g.c i∨(g.f=1∧i % 2=1∧g.lo*g.lo≤1000*g.c i)∨(g.f=2∧2<i∧g.c i≠0)):=Iff.rfl
instance (g:GL) (i:Nat):Decidable (badC g i):=by unfold badC;infer_instance
def headG (g:GL):Prop:=nmB g.nm=true∧g.nm≠mirB∧300000≤g.lo∧g.lo≤g.hi∧g.hi≤2500000∧1≤g.f∧g.f≤3
instance (g:GL):Decidable (headG g):=by unfold headG;infer_instance
def okG (g:GL):Prop:=headG g∧∀ i<6,¬ badC g i
instance (g:GL):Decidable (okG g):=by unfold okG;infer_instance
def okL (g:GL) (L:Int):Prop:=okG g∧g.lo≤L∧L≤g.hi
theorem okG.c {g:GL} (h:okG g) (i:Nat):-1000000000000≤g.c i∧g.c i≤1000000000000:=by
 have k:∀ j<6,-1000000000000≤g.c j∧g.c j≤1000000000000:=fun j hj=>by
  have h1:=h.2 j hj;unfold badC at h1;exact⟨Int.not_lt.1 fun e=>h1 (.inl e),Int.not_lt.1 fun e=>h1 (.inr (.inl e))⟩
 rcases i with _ | _ | _ | _ | _ | i
 ·exact k 0 (by decide)
 ·exact k 1 (by decide)
 ·exact k 2 (by decide)
 ·exact k 3 (by decide)
 ·exact k 4 (by decide)
 ·exact k 5 (by decide)
theorem okL.b {g:GL} {L:Int} (h:okL g L):300000≤L∧L≤2500000:=by
 obtain⟨⟨⟨-,-,h1,-,h2,-⟩,-⟩,h3,h4⟩:=h
 omega
theorem sq_bound {L:Int} (h:300000≤L∧L≤2500000):90000000000≤L*L∧L*L≤6250000000000:=
 ⟨Int.mul_le_mul h.1 h.1 (by decide) (by omega),Int.mul_le_mul h.2 h.2 (by omega) (by decide)⟩
def erG (g:GL) (L:Int):Int:=if okG g then (if L<g.lo∨g.hi<L then 2 else 0) else 90
theorem erG_ok {g:GL} {L:Int} (h:erG g L=0):okL g L:=by
 unfold erG at h
 split at h
 ·split at h
  ·cases h
  ·exact⟨‹_›,by omega⟩
 ·cases h
def GC (g:GL):Array Value:=#[.string g.nm,.int .i64 g.f,.int .i64 g.c0,.int .i64 g.c1,.int .i64 g.c2,.int .i64 g.c3,.int .i64 g.c4,.int .i64 g.c5,.int .i64 g.lo,.int .i64 g.hi]
def DC (g:GL) (x0 x1 x2 x3:Value):Array Value:=#[.string g.nm,.int .i64 g.f,.int .i64 g.c0,.int .i64 g.c1,.int .i64 g.c2,.int .i64 g.c3,.int .i64 g.c4,.int .i64 g.c5,.int .i64 g.lo,.int .i64 g.hi,x0,x1,x2,x3]
theorem GC_c {w:World} {b:Nat} {T:TypeId} {g:GL} {i:Nat} (h:CB w b T (GC g)) (hi:i<6):w.cell? ⟨b,2+i,none⟩=some (.int .i64 (g.c i)):=by
 rcases i with _ | _ | _ | _ | _ | _ | i
 all_goals first | exact h.cell _ rfl | omega
theorem DC_c {w:World} {b:Nat} {T:TypeId} {g:GL} {x0 x1 x2 x3:Value} {i:Nat} (h:CB w b T (DC g x0 x1 x2 x3)) (hi:i<6):w.cell? ⟨b,2+i,none⟩=some (.int .i64 (g.c i)):=by
 rcases i with _ | _ | _ | _ | _ | _ | i
 all_goals first | exact h.cell _ rfl | omega
theorem mir_eq (s:ByteArray):(s.toList==[77,73,82,82,79,82])=decide (s=mirB):=by
 rw[Bool.eq_iff_iff,beq_iff_eq,decide_eq_true_eq,Lib.toList_data]
 constructor
 ·intro h;exact ByteArray.ext (Array.ext' h)
 ·rintro rfl;rfl
theorem headG_no {g:GL} (h:¬ headG g):nmB g.nm=false∨(nmB g.nm=true∧g.nm=mirB)∨(nmB g.nm=true∧g.nm≠mirB∧(g.lo<300000∨g.hi<g.lo∨2500000<g.hi∨g.f<1∨3<g.f)):=by
 unfold headG at h;by_cases h1:nmB g.nm=true
 ·by_cases h2:g.nm=mirB
  ·exact .inr (.inl ⟨h1,h2⟩)
  ·refine .inr (.inr ⟨h1,h2,?_⟩);simp only[h1,ne_eq,h2,not_false_eq_true,true_and] at h
   omega
 ·exact .inl (by simpa using h1)
end Go.Proofs.YtkhljkiehohckaaGreatDoor
namespace Go.Proofs.YtkhljkiehohckaaGreatDoor
open Go Go.RowKit Dig
def wv (L:Int):Rat:=Rat.divInt (L*L) 1000000000000
def av (c:Int):Rat:=Rat.divInt c 1000000000
def dn (a w:Rat):Nat→Rat
 | 0=>a
 | k+1=>dn a w k / w
def xG (g:GL) (L:Int) (k:Nat):Rat:=av (g.c (2*k))*wv L / (wv L-av (g.c (2*k+1)))
def smK (g:GL) (L:Int):Nat→Rat
 | 0=>1
 | k+1=>smK g L k+xG g L k
def lnG (g:GL) (L:Int):Rat:=av g.c0+dn (av g.c1) (wv L) 1+dn (av g.c2) (wv L) 2
def shG (g:GL) (L:Int):Rat:=av g.c0+av g.c1*wv L+dn (av g.c2) (wv L) 1+dn (av g.c3) (wv L) 2+dn (av g.c4) (wv L) 3+dn (av g.c5) (wv L) 4
def sqG (g:GL) (L:Int):Rat:=if g.f=1 then smK g L 3 else if g.f=2 then lnG g L*lnG g L else shG g L
theorem QL.dv {x y:Int} {a b:Nat} (h0:y≠0) (hx:x.natAbs<bp a) (hy:y.natAbs<bp b):QL a b (Rat.divInt x y):=by
 rw[divInt_sgn x h0];exact QL.mk' (by rw[Int.natAbs_mul,Int.natAbs_sign_of_ne_zero h0,Nat.mul_one];exact dig_len_le.2 hx) (dig_len_le.2 hy) (by omega)
theorem av_QL {c:Int} (h:-1000000000000≤c∧c≤1000000000000):QL 2 2 (av c):=
 QL.dv (by decide) (show c.natAbs<1000000000000000000 by omega) (by decide)
theorem wv_QL {L:Int} (h:300000≤L∧L≤2500000):QL 2 2 (wv L):=by
 have h1:=sq_bound h;generalize hx:L*L=x at h1;unfold wv;rw[hx];exact QL.dv (by decide) (show x.natAbs<1000000000000000000 by omega) (by decide)
theorem dv_lt {a b c d:Int} (hb:0<b) (hd:0<d) (h:a*d<c*b):Rat.divInt a b<Rat.divInt c d:=by
 have hb':(0:Rat)<(b:Rat):=Rat.intCast_pos.2 hb;have hd':(0:Rat)<(d:Rat):=Rat.intCast_pos.2 hd;rw[Rat.divInt_eq_div,Rat.divInt_eq_div,Rat.div_lt_iff hb',Rat.div_def,Rat.mul_assoc,Rat.mul_comm _ (b:Rat),← Rat.mul_assoc,← Rat.div_def,Rat.lt_div_iff hd']
 exact_mod_cast h
theorem wv_pos {L:Int} (h:300000≤L∧L≤2500000):0<wv L:=by
 have h1:=sq_bound h;have:=dv_lt (a:=0) (b:=1) (c:=L*L) (d:=1000000000000) (by decide) (by decide) (by omega)
 simpa[wv] using this
theorem wv_ne {L:Int} (h:300000≤L∧L≤2500000):wv L≠0:=Rat.ne_of_gt (wv_pos h)
theorem pole {g:GL} {L:Int} (h:okL g L) (hf:g.f=1) {k:Nat} (hk:k<3):av (g.c (2*k+1))<wv L:=by
 obtain⟨⟨h1,h2⟩,h3,h4⟩:=h;have h5:=h2 (2*k+1) (by omega);unfold badC at h5;have h6:1000*g.c (2*k+1)<g.lo*g.lo:=Int.not_le.1 fun e=>h5 (.inr (.inr (.inl ⟨hf,by omega,e⟩)))
 have h7:g.lo*g.lo≤L*L:=Int.mul_le_mul h3 h3 (by have:=h1.2.2.1;omega) (by have:=h1.2.2.1;omega);exact dv_lt (by decide) (by decide) (by omega)
theorem pole_ne {g:GL} {L:Int} (h:okL g L) (hf:g.f=1) {k:Nat} (hk:k<3):wv L-av (g.c (2*k+1))≠0:=by
 have h1:=(Rat.lt_iff_sub_pos _ _).1 (pole h hf hk);exact Rat.ne_of_gt h1
theorem dn_QL {a b:Nat} {x w:Rat} (h:QL a b x) (hw:QL 2 2 w) (h0:w≠0):∀ k,QL (a+2*k) (b+2*k) (dn x w k)
 | 0=>h
 | k+1=>((dn_QL h hw h0 k).div hw h0).mono (by omega) (by omega)
theorem one_QL:QL 1 1 (1:Rat):=⟨dig_len_le.2 (by decide),dig_len_le.2 (by decide)⟩
theorem nil_QL:QL 0 1 (0:Rat):=⟨dig_len_le.2 (by decide),dig_len_le.2 (by decide)⟩
section
variable {g:GL} {L:Int} (h:okL g L)
include h
theorem okL.cb (i:Nat):-1000000000000≤g.c i∧g.c i≤1000000000000:=h.1.c i
theorem okL.a (i:Nat):QL 2 2 (av (g.c i)):=av_QL (h.1.c i)
theorem okL.w:QL 2 2 (wv L):=wv_QL h.b
theorem okL.d (i k:Nat):QL (2+2*k) (2+2*k) (dn (av (g.c i)) (wv L) k):=dn_QL (h.a i) h.w (wv_ne h.b) k
theorem okL.aw (i:Nat):QL 4 4 (av (g.c i)*wv L):=(h.a i).mul h.w
theorem okL.p (i:Nat):QL 9 4 (wv L-av (g.c i)):=h.w.sub (h.a i)
theorem okL.x (hf:g.f=1) {k:Nat} (hk:k<3):QL 8 13 (xG g L k):=(h.aw _).div (h.p _) (pole_ne h hf hk)
theorem okL.sm (hf:g.f=1) {k:Nat} (hk:k≤3):QL 120 60 (smK g L k):=by
 have h1:QL 24 14 (smK g L 1):=one_QL.add (h.x hf (k:=0) (by decide));have h2:QL 60 27 (smK g L 2):=h1.add (h.x hf (k:=1) (by decide));have h3:QL 109 40 (smK g L 3):=h2.add (h.x hf (k:=2) (by decide));obtain rfl | rfl | rfl | rfl:k=0∨k=1∨k=2∨k=3:=by omega
 ·exact one_QL.mono (by decide) (by decide)
 ·exact h1.mono (by decide) (by decide)
 ·exact h2.mono (by decide) (by decide)
 ·exact h3.mono (by decide) (by decide)
theorem okL.ln1:QL 13 6 (av g.c0+dn (av g.c1) (wv L) 1):=(h.a 0).add (h.d 1 1)
theorem okL.ln:QL 32 12 (lnG g L):=h.ln1.add (h.d 2 2)
theorem okL.sh1:QL 13 6 (av g.c0+av g.c1*wv L):=(h.a 0).add (h.aw 1)
theorem okL.sh2:QL 28 10 (av g.c0+av g.c1*wv L+dn (av g.c2) (wv L) 1):=h.sh1.add (h.d 2 1)
theorem okL.sh3:QL 51 16 (av g.c0+av g.c1*wv L+dn (av g.c2) (wv L) 1+dn (av g.c3) (wv L) 2):=h.sh2.add (h.d 3 2)
theorem okL.sh4:QL 84 24 (av g.c0+av g.c1*wv L+dn (av g.c2) (wv L) 1+dn (av g.c3) (wv L) 2+dn (av g.c4) (wv L) 3):=h.sh3.add (h.d 4 3)
theorem okL.sh:QL 129 34 (shG g L):=h.sh4.add (h.d 5 4)
theorem okL.sq:QL 140 60 (sqG g L):=by
 unfold sqG
 split
 ·rename_i hf;exact(h.sm hf (Nat.le_refl _)).mono (by decide) (by decide)
 ·split
  ·exact(h.ln.mul h.ln).mono (by decide) (by decide)
  ·exact h.sh.mono (by decide) (by decide)
end
def sumL (l:List Rat):Rat:=l.foldl (·+·) 0
theorem sumL_take {l:List Rat} {k:Nat} (hk:k<l.length):sumL (l.take (k+1))=sumL (l.take k)+l[k]:=by
 unfold sumL;rw[← List.take_append_getElem hk,List.foldl_append];rfl
theorem toldQ_ok {q:Rat} (h:QL 600 600 q):toldQ q=(some q,0):=if_pos h
noncomputable def ixT (s:Rat):Nat:=rootN ((s*400000000000000).num / ((s*400000000000000).den:Int)).natAbs
noncomputable def ixG (g:GL) (L:Int):Int × Int:=
 if (sqG g L).num<0∨g.f=2∧(lnG g L).num<0 then (0,6)
 else if 19999999≤ixT (sqG g L)∧ixT (sqG g L)≤80000000 then (((ixT (sqG g L):Int)+1) / 2,0) else (0,6)
noncomputable def inG (g:GL) (L:Int):Int × Int:=if erG g L=0 then ixG g L else (0,erG g L)
noncomputable def sqR (g:GL) (L:Int):Option Rat × Int:=if erG g L=0 then (some (sqG g L),0) else (none,erG g L)
noncomputable def abG (g:GL):Option Rat × Int:=
 if (inG g 587562).2≠0 then (none,(inG g 587562).2) else if (inG g 486133).2≠0 then (none,(inG g 486133).2) else if (inG g 656273).2≠0 then (none,(inG g 656273).2)
 else mkQ ((inG g 587562).1-10000000) ((inG g 486133).1-(inG g 656273).1)
noncomputable def paG (g:GL) (x y:Int):Option Rat × Int:=
 if (inG g 486133).2≠0 then (none,(inG g 486133).2) else if (inG g 656273).2≠0 then (none,(inG g 656273).2) else if (inG g x).2≠0 then (none,(inG g x).2) else if (inG g y).2≠0 then (none,(inG g y).2)
 else mkQ ((inG g x).1-(inG g y).1) ((inG g 486133).1-(inG g 656273).1)
theorem inG_bound (g:GL) (L:Int):0≤(inG g L).1∧(inG g L).1≤40000000:=by
 unfold inG ixG
 split <;> (try split) <;> (try split) <;> simp only <;> omega
end Go.Proofs.YtkhljkiehohckaaGreatDoor
