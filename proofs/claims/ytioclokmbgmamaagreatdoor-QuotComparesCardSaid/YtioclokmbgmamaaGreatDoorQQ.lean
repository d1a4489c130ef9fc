/- The law package's small functions of layer 04: is, fails, says, spans, of (written by gen_qq.py). -/
import Derived.Test.YtioclokmbgmamaaGreatDoorQN
namespace Go.Proofs.YtioclokmbgmamaaGreatDoor
open Go Go.RowKit Dig
theorem lit_whole {s:List UInt8} {x:Int} (h:litB s x=true):textQ (mkRat x 1)=s:=by
 obtain⟨h1,h2⟩:=mkRat_low (x:=x) (y:=1) (by decide) (Nat.gcd_one_right _)
 rw[textQ,if_pos h2,h1];exact lit_itoa h
theorem lit_frac {s1 s2:List UInt8} {x:Int} {d:Nat} (h1:litB s1 x=true) (h2:litB s2 (d:Int)=true) (hd:2≤d) (hg:Nat.gcd x.natAbs d=1):textQ (mkRat x d)=s1++47 :: s2:=by
 obtain⟨e1,e2⟩:=mkRat_low (x:=x) (y:=d) (by omega) hg
 rw[textQ,if_neg (by omega),e1,e2,lit_itoa h1,lit_itoa h2]
theorem lit_QL {x:Int} {d:Nat} (hd:0<d) (hg:Nat.gcd x.natAbs d=1) (h1:x.natAbs<1000000000000000000000000000) (h2:d<1000000000000000000000000000):QL 600 600 (mkRat x d):=by
 obtain⟨e1,e2⟩:=mkRat_low (x:=x) (y:=d) hd hg
 exact⟨by rw[e1];exact small_len h1,by rw[e2];exact small_len (z:=(d:Int)) (by simpa using h2)⟩
theorem parse_lit {s:List UInt8} {q:Rat} (h:textQ q=s) (l:QL 600 600 q):parseQ s=(some q,0):=by rw[← h];exact parse_textQ l
theorem toldQ_lit {a c:Rat} (h:a=c) (l:QL 600 600 c):toldQ a=(some c,0):=by rw[h];exact if_pos l
theorem mkQ_lit {x y:Int} {c:Rat} (hy:y≠0) (h:Rat.divInt x y=c) (l:QL 600 600 c):mkQ x y=(some c,0):=by rw[mkQ,if_neg hy];exact toldQ_lit h l
theorem QR.zero {w:World} {v:Value} (h:QR w w.heap.size v false [] false []):∃ A c A' c',v=.agg #[.bool false,.slice A 0 c,.bool false,.slice A' 0 c']:=by
 obtain⟨A,l,c,A',l',c',e,h1,h2⟩:=h
 have e1:=RI.len h1;have e2:=RI.len h2
 simp at e1 e2
 subst e1;subst e2
 exact⟨A,c,A',c',e⟩
theorem isQ_new (w:World) (s:ByteArray) :
  Calls Tryz.prog 46 #[.string s] w fun e w'=>Below w.heap.size w w'∧∃ N,e=.returned (.func (.func 108) #[] #[.pointer (some ⟨N,0,none⟩)])∧One w' N 9 (.string s):=by
 go_enter Tryz.func46,Tryz.ntmps46
 go_wp2
 go_ret
 refine⟨?_,_,rfl,One.new _ _ _⟩
 exact below_alloc1 (Below.refl _ _) _
theorem failsQ_new (w:World) (c:Int) :
  Calls Tryz.prog 39 #[.int .i64 c] w fun e w'=>Below w.heap.size w w'∧∃ N,e=.returned (.func (.func 96) #[] #[.pointer (some ⟨N,0,none⟩)])∧One w' N 38 (.int .i64 c):=by
 go_enter Tryz.func39,Tryz.ntmps39
 go_wp2
 go_ret
 refine⟨?_,_,rfl,One.new _ _ _⟩
 exact below_alloc1 (Below.refl _ _) _
theorem saysQ_new (w:World) (c:Int) :
  Calls Tryz.prog 50 #[.int .i64 c] w fun e w'=>Below w.heap.size w w'∧∃ N,e=.returned (.func (.func 111) #[] #[.pointer (some ⟨N,0,none⟩)])∧One w' N 3 (.int .i64 c):=by
 go_enter Tryz.func50,Tryz.ntmps50
 go_wp2
 go_ret
 refine⟨?_,_,rfl,One.new _ _ _⟩
 exact below_alloc1 (Below.refl _ _) _
theorem spansQ_new (w:World) (lo hi:Int) :
  Calls Tryz.prog 49 #[.int .i64 lo,.int .i64 hi] w fun e w'=>Below w.heap.size w w'∧∃ N N',e=.returned (.func (.func 110) #[] #[.pointer (some ⟨N,0,none⟩),.pointer (some ⟨N',0,none⟩)])∧One w' N 3 (.int .i64 lo)∧One w' N' 3 (.int .i64 hi):=by
 have H1:=zz (One.step (One.new w 3 (.int .i64 lo)) (below_alloc1 (Below.refl _ _) (.cells #[.int .i64 hi] 3)))
 have H2:=zz (One.new (w.alloc (.cells #[.int .i64 lo] 3)) 3 (.int .i64 hi))
 have HB:=zz (below_alloc1 (below_alloc1 (Below.refl w.heap.size w) (.cells #[.int .i64 lo] 3)) (.cells #[.int .i64 hi] 3))
 go_enter Tryz.func49,Tryz.ntmps49
 go_wp2
 go_ret
 refine⟨HB.out,_,_,rfl,H1.out,?_⟩
 have h:=H2.out
 simpa using h
theorem saysQ_yes {w:World} {b:Nat} {n:Int} (h:One w b 3 (.int .i64 n)) :
  Calls Tryz.prog 111 #[.int .i64 n,.int .i64 0,.pointer (some ⟨b,0,none⟩)] w fun e w'=>Below w.heap.size w w'∧e=.returned (.bool true):=by
 have q:=h.cell
 go_enter Tryz.func111,Tryz.ntmps111
 go_wp2
 go_ret
 exact⟨Below.refl _ _,rfl⟩
theorem spansQ_yes {w:World} {b c:Nat} {lo hi:Int} (h:One w b 3 (.int .i64 lo)) (k:One w c 3 (.int .i64 hi)) :
  Calls Tryz.prog 110 #[.agg #[.int .i64 lo,.int .i64 hi],.int .i64 0,.pointer (some ⟨b,0,none⟩),.pointer (some ⟨c,0,none⟩)] w fun e w'=>Below w.heap.size w w'∧e=.returned (.bool true):=by
 have HB:=zz (below_alloc1 (Below.refl w.heap.size w) (.cells #[.int .i64 lo,.int .i64 hi] 52))
 have q0:=h.cell;have q1:=k.cell;have l0:=h.lt;have l1:=k.lt
 go_enter Tryz.func110,Tryz.ntmps110
 go_wp2
 go_ret
 exact⟨HB.out,rfl⟩
set_option maxRecDepth 100000 in
set_option maxHeartbeats 4000000 in
theorem isQ_yes {w:World} {N:Nat} {s:ByteArray} {v:Value} {q:Rat} (hN:One w N 9 (.string s)) (hv:QV w w.heap.size v q) (l:QL 600 600 q) (ht:textQ q=s.data.toList) (G:Glob w) :
  Calls Tryz.prog 108 #[v,.int .i64 0,.pointer (some ⟨N,0,none⟩)] w fun e w'=>Below w.heap.size w w'∧e=.returned (.bool true):=by
 obtain⟨n,A,l1,c,m,A',l',c',rfl⟩:=QO.cells (show QO w w.heap.size v (some q) from hv)
 have HA:=zz hv;have HLQ:=zz l;have HT:=zz ht;clear hv l ht
 obtain⟨w0,hw0⟩:∃ w0:World,w0=(w.alloc (.cells #[.bool n,.slice A l1 c,.bool m,.slice A' l' c'] 26)):=⟨_,rfl⟩
 have B0:=zz (show Below w.heap.size w w0 by rw[hw0];(repeat' (first | exact Below.refl _ _ | refine Below.drew ?_ | refine Below.alloc ?_ (by first | exact Nat.le_refl _ | (simp;done) | (simp;omega)) _)))
 have z0:w.heap.size+1≤w0.heap.size:=by rw[hw0];simp
 have La:CB w0 (w.heap.size) 26 #[.bool n,.slice A l1 c,.bool m,.slice A' l' c']:=by rw[hw0];have h:=CB.new w 26 #[.bool n,.slice A l1 c,.bool m,.slice A' l' c'];simpa using h
 replace HA:=zz (QV.step HA.out B0.out)
 have HN:=One.step hN B0.out;have hnl:=hN.lt;clear hN
 go_enter Tryz.func108,Tryz.ntmps108
 go_upto_region 1 with (fail)
 rw[← hw0];clear hw0
 have c0:=La.cell 0 rfl
 have d0:=La.cell 1 rfl
 have e0:=La.cell 2 rfl
 have f0:=La.cell 3 rfl
 have q2_lt:=La.lt
 go_wp2_with fail
 refine(QText_good _ _ q HA.out HLQ.out (G.step B0.out)).mono ?_
 rintro e w1 ⟨b0,t,rfl,ht⟩
 have B3:=zz b0
 have z3:=B3.out.size
 have g0:=zz (B0.out.trans (B3.out.mono B0.out.size))
 clear b0
 clear c0 d0 e0 f0 q2_lt
 have k:(t.toList==s.toList)=true:=by rw[beq_str,ht,HT.out];simp
 clear ht
 have a0:=One.step HN B3.out
 have h0:=a0.cell;have i0:=a0.frozen;have q6_lt:=a0.lt
 go_wp2
 go_ret
 exact⟨g0.out,rfl⟩
set_option maxRecDepth 100000 in
set_option maxHeartbeats 4000000 in
theorem failsQ_yes {w:World} {N:Nat} {c:Int} {v:Value} (hN:One w N 38 (.int .i64 c)) (hv:QR w w.heap.size v false [] false []) :
  Calls Tryz.prog 96 #[v,.int .i64 c,.pointer (some ⟨N,0,none⟩)] w fun e w'=>Below w.heap.size w w'∧e=.returned (.bool true):=by
 obtain⟨A,c1,A',c1',rfl⟩:=hv.zero
 have HA:=zz hv;clear hv
 obtain⟨w0,hw0⟩:∃ w0:World,w0=(w.alloc (.cells #[.bool false,.slice A 0 c1,.bool false,.slice A' 0 c1'] 26)):=⟨_,rfl⟩
 have B0:=zz (show Below w.heap.size w w0 by rw[hw0];(repeat' (first | exact Below.refl _ _ | refine Below.drew ?_ | refine Below.alloc ?_ (by first | exact Nat.le_refl _ | (simp;done) | (simp;omega)) _)))
 have z0:w.heap.size+1≤w0.heap.size:=by rw[hw0];simp
 have La:CB w0 (w.heap.size) 26 #[.bool false,.slice A 0 c1,.bool false,.slice A' 0 c1']:=by rw[hw0];have h:=CB.new w 26 #[.bool false,.slice A 0 c1,.bool false,.slice A' 0 c1'];simpa using h
 replace HA:=zz (QR.step HA.out B0.out)
 have HN:=One.step hN B0.out;have hnl:=hN.lt;clear hN
 go_enter Tryz.func96,Tryz.ntmps96
 go_upto_region 1 with (fail)
 rw[← hw0];clear hw0
 have c0:=La.cell 0 rfl
 have d0:=La.cell 1 rfl
 have e0:=La.cell 2 rfl
 have f0:=La.cell 3 rfl
 have q2_lt:=La.lt
 go_wp2_with fail
 refine(QSame_any _ _ _ false false false false [] [] [] [] HA.out (zeroQ _ _)).mono ?_
 rintro e w1 ⟨b0,rfl⟩
 have B3:=zz b0
 have z3:=B3.out.size
 have g0:=zz (B0.out.trans (B3.out.mono B0.out.size))
 clear b0
 clear c0 d0 e0 f0 q2_lt
 rw[show decide (((false:Bool)=false∧([]:List Int)=[])∧((false:Bool)=false∧([]:List Int)=[]))=true from rfl]
 have a0:=One.step HN B3.out
 have h0:=a0.cell;have i0:=a0.frozen;have q6_lt:=a0.lt
 go_wp2
 go_ret
 exact⟨g0.out,rfl⟩
set_option maxRecDepth 100000 in
set_option maxHeartbeats 4000000 in
theorem ofQ_lit (w:World) (s:ByteArray) (q:Rat) (h:parseQ s.data.toList=(some q,0)) (hs:s.size≤1000000) (M:MaxL w) :
  Calls Tryz.prog 43 #[.string s] w fun e w'=>Below w.heap.size w w'∧∃ v,e=.returned v∧QV w' w'.heap.size v q:=by
 have HP:=zz h;have HS:=zz hs;clear h hs
 obtain⟨w0,hw0⟩:∃ w0:World,w0=(w.alloc (.cells #[.bool false,.slice none 0 0,.bool false,.slice none 0 0] 26)):=⟨_,rfl⟩
 have B0:=zz (show Below w.heap.size w w0 by rw[hw0];(repeat' (first | exact Below.refl _ _ | refine Below.drew ?_ | refine Below.alloc ?_ (by first | exact Nat.le_refl _ | (simp;done) | (simp;omega)) _)))
 have z0:w.heap.size+1≤w0.heap.size:=by rw[hw0];simp
 have Lr2:CB w0 (w.heap.size) 26 #[.bool false,.slice none 0 0,.bool false,.slice none 0 0]:=by rw[hw0];have h:=CB.new w 26 #[.bool false,.slice none 0 0,.bool false,.slice none 0 0];simpa using h
 go_enter Tryz.func43,Tryz.ntmps43
 go_upto_region 1 with (fail)
 rw[← hw0];clear hw0
 go_wp2_with fail
 refine(QParse_any _ s HS.out (M.step B0.out)).mono ?_
 rintro e w1 ⟨q0,v,rfl,hv⟩
 have B2:=zz q0
 have z2:=B2.out.size
 have r0:=zz (B0.out.trans (B2.out.mono B0.out.size))
 clear q0
 rw[HP.out] at hv ⊢;replace hv:QV w1 w1.heap.size v q:=hv
 obtain⟨on4,oA4,ol4,oc4,oB4,b0,od4,rfl,ha4,s0,hc4⟩:=hv
 have u0:=zz (show QV w1 w1.heap.size (.agg #[.bool on4,.slice oA4 ol4 oc4,.bool false,.slice oB4 b0 od4]) q from⟨_,_,_,_,_,_,_,rfl,ha4,s0,hc4⟩)
 clear ha4 s0 hc4
 go_upto_region 2 with (fail)
 obtain⟨w5,e0⟩:∃ w5:World,w5=(w1.alloc (.cells #[.bool on4,.slice oA4 ol4 oc4,.bool false,.slice oB4 b0 od4] 26)):=⟨_,rfl⟩;rw[← e0]
 have t0:Below w1.heap.size w1 w5:=by rw[e0];(repeat' (first | exact Below.refl _ _ | refine Below.drew ?_ | refine Below.alloc ?_ (by first | exact Nat.le_refl _ | (simp;done) | (simp;omega)) _))
 have d0:CB w5 (w1.heap.size) 26 #[.bool on4,.slice oA4 ol4 oc4,.bool false,.slice oB4 b0 od4]:=by rw[e0];have h:=CB.new w1 26 #[.bool on4,.slice oA4 ol4 oc4,.bool false,.slice oB4 b0 od4];simpa using h
 have za5:w1.heap.size+1≤w5.heap.size:=by rw[e0];simp
 have B6:=zz t0
 have z6:=B6.out.size
 have C0:=zz (r0.out.trans (B6.out.mono r0.out.size))
 clear t0 e0
 have v0:=d0.cell 0 rfl
 have x0:=d0.cell 1 rfl
 have y0:=d0.cell 2 rfl
 have A0:=d0.cell 3 rfl
 have q8_lt:=d0.lt
 have P1_3_10:=zz (B2.out.trans (B6.out.mono B2.out.size))
 have a0:=CB.step Lr2 P1_3_10.out
 have g0:=a0.cell 0 rfl
 have h0:=a0.cell 1 rfl
 have i0:=a0.cell 2 rfl
 have j0:=a0.cell 3 rfl
 have q11_lt:=a0.lt
 have k0:=a0.frozen 0
 have l0:=a0.frozen 1
 have m0:=a0.frozen 2
 have n0:=a0.frozen 3
 have q12_lt:=a0.lt
 go_wp2
 clear v0 x0 y0 A0 q8_lt g0 h0 i0 j0 q11_lt k0 l0 m0 n0 q12_lt
 obtain⟨w13,c0⟩:∃ w13:World,w13=((((w5.setCell ⟨w.heap.size,0,none⟩ (.bool on4)).setCell ⟨w.heap.size,1,none⟩ (.slice oA4 ol4 oc4)).setCell ⟨w.heap.size,2,none⟩ (.bool false)).setCell ⟨w.heap.size,3,none⟩ (.slice oB4 b0 od4)):=⟨_,rfl⟩
 rw[← c0]
 have S13:=zz (show Soft w5 w13 by rw[c0];exact(((CB.soft1 (a0) (by simp[noInt_b,noInt_s]) 0 (.bool on4)).trans (CB.soft1 ((show CB _ (w.heap.size) 26 #[.bool on4,.slice none 0 0,.bool false,.slice none 0 0] from CB.set (a0) 0 (.bool on4))) (by simp[noInt_b,noInt_s]) 1 (.slice oA4 ol4 oc4))).trans (CB.soft1 ((show CB _ (w.heap.size) 26 #[.bool on4,.slice oA4 ol4 oc4,.bool false,.slice none 0 0] from CB.set ((show CB _ (w.heap.size) 26 #[.bool on4,.slice none 0 0,.bool false,.slice none 0 0] from CB.set (a0) 0 (.bool on4))) 1 (.slice oA4 ol4 oc4))) (by simp[noInt_b,noInt_s]) 2 (.bool false))).trans (CB.soft1 ((show CB _ (w.heap.size) 26 #[.bool on4,.slice oA4 ol4 oc4,.bool false,.slice none 0 0] from CB.set ((show CB _ (w.heap.size) 26 #[.bool on4,.slice oA4 ol4 oc4,.bool false,.slice none 0 0] from CB.set ((show CB _ (w.heap.size) 26 #[.bool on4,.slice none 0 0,.bool false,.slice none 0 0] from CB.set (a0) 0 (.bool on4))) 1 (.slice oA4 ol4 oc4))) 2 (.bool false))) (by simp[noInt_b,noInt_s]) 3 (.slice oB4 b0 od4)))
 have f0:CB w13 (w.heap.size) 26 #[.bool on4,.slice oA4 ol4 oc4,.bool false,.slice oB4 b0 od4]:=by rw[c0];exact(show CB _ (w.heap.size) 26 #[.bool on4,.slice oA4 ol4 oc4,.bool false,.slice oB4 b0 od4] from CB.set ((show CB _ (w.heap.size) 26 #[.bool on4,.slice oA4 ol4 oc4,.bool false,.slice none 0 0] from CB.set ((show CB _ (w.heap.size) 26 #[.bool on4,.slice oA4 ol4 oc4,.bool false,.slice none 0 0] from CB.set ((show CB _ (w.heap.size) 26 #[.bool on4,.slice none 0 0,.bool false,.slice none 0 0] from CB.set (a0) 0 (.bool on4))) 1 (.slice oA4 ol4 oc4))) 2 (.bool false))) 3 (.slice oB4 b0 od4))
 have o0:=zz (show Below w.heap.size w w13 by rw[c0];exact below_set1 (below_set1 (below_set1 (below_set1 (C0.out) (by omega) _ _) (by omega) _ _) (by omega) _ _) (by omega) _ _)
 have D0:w13.heap.size=w5.heap.size:=by rw[c0];simp[World.setCell]
 clear c0
 have p0:=zz (QV.soft u0.out ((Soft.of B6.out).trans (S13.out)))
 exact bodyPost_ret (QB.ret1 rfl _ f0 rfl) rfl ⟨o0.out,_,rfl,p0.out⟩
end Go.Proofs.YtioclokmbgmamaaGreatDoor
