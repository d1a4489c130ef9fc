/- The law package's small functions of layer 04: is, fails, says, spans, of (written by gen_qq.py). -/
import Derived.Test.YtngpibfakemmhaaGreatDoorQN
namespace Go.Proofs.YtngpibfakemmhaaGreatDoor
open Go Go.RowKit Dig
theorem lit_whole {s:List UInt8} {x:Int} (h:litB s x=true):textQ (mkRat x 1)=s:=by
 obtain⟨h1,h2⟩:=mkRat_low (x:=x) (y:=1) (by decide) (Nat.gcd_one_right _);rw[textQ,if_pos h2,h1];exact lit_itoa h
theorem lit_frac {s1 s2:List UInt8} {x:Int} {d:Nat} (h1:litB s1 x=true) (h2:litB s2 (d:Int)=true) (hd:2≤d) (hg:Nat.gcd x.natAbs d=1):textQ (mkRat x d)=s1++47 :: s2:=by
 obtain⟨e1,e2⟩:=mkRat_low (x:=x) (y:=d) (by omega) hg;rw[textQ,if_neg (by omega),e1,e2,lit_itoa h1,lit_itoa h2]
theorem lit_QL {x:Int} {d:Nat} (hd:0<d) (hg:Nat.gcd x.natAbs d=1) (h1:x.natAbs<1000000000000000000000000000) (h2:d<1000000000000000000000000000):QL 600 600 (mkRat x d):=by
 obtain⟨e1,e2⟩:=mkRat_low (x:=x) (y:=d) hd hg;exact⟨by rw[e1];exact small_len h1,by rw[e2];exact small_len (z:=(d:Int)) (by simpa using h2)⟩
theorem parse_lit {s:List UInt8} {q:Rat} (h:textQ q=s) (l:QL 600 600 q):parseQ s=(some q,0):=by rw[← h];exact parse_textQ l
theorem toldQ_lit {a c:Rat} (h:a=c) (l:QL 600 600 c):toldQ a=(some c,0):=by rw[h];exact if_pos l
theorem mkQ_lit {x y:Int} {c:Rat} (hy:y≠0) (h:Rat.divInt x y=c) (l:QL 600 600 c):mkQ x y=(some c,0):=by rw[mkQ,if_neg hy];exact toldQ_lit h l
theorem QR.zero {w:World} {v:Value} (h:QR w w.heap.size v false [] false []):∃ A c A' c',v=.agg #[.bool false,.slice A 0 c,.bool false,.slice A' 0 c']:=by
 obtain⟨A,l,c,A',l',c',e,h1,h2⟩:=h;have e1:=RI.len h1;have e2:=RI.len h2;simp at e1 e2
 subst e1;subst e2;exact⟨A,c,A',c',e⟩
theorem isQ_new (w:World) (s:ByteArray) :
  Calls Tryz.prog 11 #[.string s] w fun e w'=>Below w.heap.size w w'∧∃ N,e=.returned (.func (.func 44) #[] #[.pointer (some ⟨N,0,none⟩)])∧One w' N 9 (.string s):=by
 go_enter Tryz.func11,Tryz.ntmps11
 go_wp2;go_ret;refine⟨?_,_,rfl,One.new _ _ _⟩;exact below_alloc1 (Below.refl _ _) _
theorem failsQ_new (w:World) (c:Int) :
  Calls Tryz.prog 9 #[.int .i64 c] w fun e w'=>Below w.heap.size w w'∧∃ N,e=.returned (.func (.func 40) #[] #[.pointer (some ⟨N,0,none⟩)])∧One w' N 31 (.int .i64 c):=by
 go_enter Tryz.func9,Tryz.ntmps9
 go_wp2;go_ret;refine⟨?_,_,rfl,One.new _ _ _⟩;exact below_alloc1 (Below.refl _ _) _
theorem saysQ_new (w:World) (c:Int) :
  Calls Tryz.prog 21 #[.int .i64 c] w fun e w'=>Below w.heap.size w w'∧∃ N,e=.returned (.func (.func 57) #[] #[.pointer (some ⟨N,0,none⟩)])∧One w' N 3 (.int .i64 c):=by
 go_enter Tryz.func21,Tryz.ntmps21
 go_wp2;go_ret;refine⟨?_,_,rfl,One.new _ _ _⟩;exact below_alloc1 (Below.refl _ _) _
theorem spansQ_new (w:World) (lo hi:Int) :
  Calls Tryz.prog 19 #[.int .i64 lo,.int .i64 hi] w fun e w'=>Below w.heap.size w w'∧∃ N N',e=.returned (.func (.func 53) #[] #[.pointer (some ⟨N,0,none⟩),.pointer (some ⟨N',0,none⟩)])∧One w' N 3 (.int .i64 lo)∧One w' N' 3 (.int .i64 hi):=by
 have H1:=zz (One.step (One.new w 3 (.int .i64 lo)) (below_alloc1 (Below.refl _ _) (.cells #[.int .i64 hi] 3)));have H2:=zz (One.new (w.alloc (.cells #[.int .i64 lo] 3)) 3 (.int .i64 hi));have HB:=zz (below_alloc1 (below_alloc1 (Below.refl w.heap.size w) (.cells #[.int .i64 lo] 3)) (.cells #[.int .i64 hi] 3));go_enter Tryz.func19,Tryz.ntmps19
 go_wp2;go_ret;refine⟨HB.out,_,_,rfl,H1.out,?_⟩;have h:=H2.out
 simpa using h
theorem saysQ_yes {w:World} {b:Nat} {n:Int} (h:One w b 3 (.int .i64 n)) :
  Calls Tryz.prog 57 #[.int .i64 n,.int .i64 0,.pointer (some ⟨b,0,none⟩)] w fun e w'=>Below w.heap.size w w'∧e=.returned (.bool true):=by
 have q:=h.cell;go_enter Tryz.func57,Tryz.ntmps57
 go_wp2;go_ret;exact⟨Below.refl _ _,rfl⟩
theorem spansQ_yes {w:World} {b c:Nat} {lo hi:Int} (h:One w b 3 (.int .i64 lo)) (k:One w c 3 (.int .i64 hi)) :
  Calls Tryz.prog 53 #[.agg #[.int .i64 lo,.int .i64 hi],.int .i64 0,.pointer (some ⟨b,0,none⟩),.pointer (some ⟨c,0,none⟩)] w fun e w'=>Below w.heap.size w w'∧e=.returned (.bool true):=by
 have HB:=zz (below_alloc1 (Below.refl w.heap.size w) (.cells #[.int .i64 lo,.int .i64 hi] 44));have q0:=h.cell;have q1:=k.cell;have l0:=h.lt;have l1:=k.lt;go_enter Tryz.func53,Tryz.ntmps53
 go_wp2;go_ret;exact⟨HB.out,rfl⟩
set_option maxRecDepth 100000 in
set_option maxHeartbeats 4000000 in
theorem isQ_yes {w:World} {N:Nat} {s:ByteArray} {v:Value} {q:Rat} (hN:One w N 9 (.string s)) (hv:QV w w.heap.size v q) (l:QL 600 600 q) (ht:textQ q=s.data.toList) (G:Glob w) :
  Calls Tryz.prog 44 #[v,.int .i64 0,.pointer (some ⟨N,0,none⟩)] w fun e w'=>Below w.heap.size w w'∧e=.returned (.bool true):=by
 obtain⟨n,A,l1,c,m,A',l',c',rfl⟩:=QO.cells (show QO w w.heap.size v (some q) from hv);have HA:=zz hv;have l0:=zz l;have HT:=zz ht;clear hv l ht;obtain⟨w0,hw0⟩:∃ w0:World,w0=(w.alloc (.cells #[.bool n,.slice A l1 c,.bool m,.slice A' l' c'] 28)):=⟨_,rfl⟩;have B0:=zz (n1_b hw0);have z0:=n1_z hw0;have La:=n1_0 hw0;replace HA:=zz (QV.step HA.out B0.out);have HN:=One.step hN B0.out;have hnl:=hN.lt;clear hN;go_enter Tryz.func44,Tryz.ntmps44
 go_upto_region 1 with (fail)
 rw[← hw0];clear hw0;have c0:=La.cell 0 rfl;have d0:=La.cell 1 rfl;have e0:=La.cell 2 rfl;have f0:=La.cell 3 rfl;have j0:=La.lt;go_wp2_with fail
 refine(QText_good _ _ q HA.out l0.out (G.step B0.out)).mono ?_;rintro e w1 ⟨b0,t,rfl,ht⟩;have B3:=zz b0;have z3:=B3.out.size;have g0:=zz (B0.out.trans (B3.out.mono B0.out.size));clear b0;clear c0 d0 e0 f0 j0;have k:(t.toList==s.toList)=true:=by rw[beq_str,ht,HT.out];simp
 clear ht;have a0:=One.step HN B3.out;have h0:=a0.cell;have i0:=a0.frozen;have m0:=a0.lt;go_wp2;go_ret;exact⟨g0.out,rfl⟩
set_option maxRecDepth 100000 in
set_option maxHeartbeats 4000000 in
theorem failsQ_yes {w:World} {N:Nat} {c:Int} {v:Value} (hN:One w N 31 (.int .i64 c)) (hv:QR w w.heap.size v false [] false []) :
  Calls Tryz.prog 40 #[v,.int .i64 c,.pointer (some ⟨N,0,none⟩)] w fun e w'=>Below w.heap.size w w'∧e=.returned (.bool true):=by
 obtain⟨A,c1,A',c1',rfl⟩:=hv.zero;have HA:=zz hv;clear hv;obtain⟨w0,hw0⟩:∃ w0:World,w0=(w.alloc (.cells #[.bool false,.slice A 0 c1,.bool false,.slice A' 0 c1'] 28)):=⟨_,rfl⟩;have B0:=zz (n1_b hw0);have z0:=n1_z hw0;have La:=n1_0 hw0;replace HA:=zz (QR.step HA.out B0.out);have HN:=One.step hN B0.out;have hnl:=hN.lt;clear hN;go_enter Tryz.func40,Tryz.ntmps40
 go_upto_region 1 with (fail)
 rw[← hw0];clear hw0;have c0:=La.cell 0 rfl;have d0:=La.cell 1 rfl;have e0:=La.cell 2 rfl;have f0:=La.cell 3 rfl;have j0:=La.lt;go_wp2_with fail
 refine(QSame_any _ _ _ false false false false [] [] [] [] HA.out (zeroQ _ _)).mono ?_;rintro e w1 ⟨b0,rfl⟩;have B3:=zz b0;have z3:=B3.out.size;have g0:=zz (B0.out.trans (B3.out.mono B0.out.size));clear b0;clear c0 d0 e0 f0 j0;rw[show decide (((false:Bool)=false∧([]:List Int)=[])∧((false:Bool)=false∧([]:List Int)=[]))=true from rfl];have a0:=One.step HN B3.out;have h0:=a0.cell;have i0:=a0.frozen;have l0:=a0.lt;go_wp2;go_ret;exact⟨g0.out,rfl⟩
set_option maxRecDepth 100000 in
set_option maxHeartbeats 4000000 in
theorem ofQ_lit (w:World) (s:ByteArray) (q:Rat) (h:parseQ s.data.toList=(some q,0)) (hs:s.size≤1000000) (M:MaxL w) :
  Calls Tryz.prog 6 #[.string s] w fun e w'=>Below w.heap.size w w'∧∃ v,e=.returned v∧QV w' w'.heap.size v q:=by
 have HP:=zz h;have HS:=zz hs;clear h hs;obtain⟨w0,hw0⟩:∃ w0:World,w0=(w.alloc (.cells #[.bool false,.slice none 0 0,.bool false,.slice none 0 0] 28)):=⟨_,rfl⟩;have B0:=zz (n1_b hw0);have z0:=n1_z hw0;have Lr2:=n1_0 hw0;go_enter Tryz.func6,Tryz.ntmps6
 go_upto_region 1 with (fail)
 rw[← hw0];clear hw0;go_wp2_with fail
 refine(QParse_any _ s HS.out (M.step B0.out)).mono ?_;rintro e w1 ⟨q0,v,rfl,hv⟩;have B2:=zz q0;have z2:=B2.out.size;have r0:=zz (B0.out.trans (B2.out.mono B0.out.size));clear q0;rw[HP.out] at hv ⊢;replace hv:QV w1 w1.heap.size v q:=hv;obtain⟨D0,E0,F0,G0,H0,e0,I0,rfl,ha4,s0,hc4⟩:=hv;have t0:=zz (show QV w1 w1.heap.size (.agg #[.bool D0,.slice E0 F0 G0,.bool false,.slice H0 e0 I0]) q from⟨_,_,_,_,_,_,_,rfl,ha4,s0,hc4⟩);clear ha4 s0 hc4;go_upto_region 2 with (fail)
 obtain⟨w5,d0⟩:∃ w5:World,w5=(w1.alloc (.cells #[.bool D0,.slice E0 F0 G0,.bool false,.slice H0 e0 I0] 28)):=⟨_,rfl⟩;rw[← d0];have c0:=n1_0 d0;have za5:=n1_z d0;have B6:=zz (n1_b d0);have z6:=B6.out.size;have A0:=zz (r0.out.trans (B6.out.mono r0.out.size));clear d0;have u0:=c0.cell 0 rfl;have v0:=c0.cell 1 rfl;have x0:=c0.cell 2 rfl;have y0:=c0.cell 3 rfl;have L0:=c0.lt;have P1_3_10:=zz (B2.out.trans (B6.out.mono B2.out.size));have a0:=CB.step Lr2 P1_3_10.out;have g0:=a0.cell 0 rfl;have h0:=a0.cell 1 rfl;have i0:=a0.cell 2 rfl;have j0:=a0.cell 3 rfl;have J0:=a0.lt;have k0:=a0.frozen 0;have l0:=a0.frozen 1;have m0:=a0.frozen 2;have n0:=a0.frozen 3;have K0:=a0.lt;go_wp2;clear u0 v0 x0 y0 L0 g0 h0 i0 j0 J0 k0 l0 m0 n0 K0;obtain⟨w13,b0⟩:∃ w13:World,w13=((((w5.setCell ⟨w.heap.size,0,none⟩ (.bool D0)).setCell ⟨w.heap.size,1,none⟩ (.slice E0 F0 G0)).setCell ⟨w.heap.size,2,none⟩ (.bool false)).setCell ⟨w.heap.size,3,none⟩ (.slice H0 e0 I0)):=⟨_,rfl⟩;rw[← b0];have S13:=zz (p4_s b0 a0 (by simp[noInt_b,noInt_s]));have f0:=p4_p b0 a0;have o0:=zz (p4_b b0 A0.out (by omega));have C0:=p4_z b0;clear b0;have p0:=zz (QV.soft t0.out ((Soft.of B6.out).trans (S13.out)));exact bodyPost_ret (QB.ret1 rfl _ f0 rfl) rfl ⟨o0.out,_,rfl,p0.out⟩
end Go.Proofs.YtngpibfakemmhaaGreatDoor
