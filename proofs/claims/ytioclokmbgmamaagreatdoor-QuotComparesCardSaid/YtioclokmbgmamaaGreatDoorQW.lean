/- The law package's works (layer 04; written by gen_qw.py). -/
import Derived.Test.YtioclokmbgmamaaGreatDoorQQ
namespace Go.Proofs.YtioclokmbgmamaaGreatDoor
open Go Go.RowKit Dig
theorem QFloor_lit {w:World} {v:Value} {q:Rat} {z:Int} (h:QV w w.heap.size v q) (l:QL 600 600 q) (hz:q.num / (q.den:Int)=z) (hl:z.natAbs<1000000000000000000000000000) :
  Calls Tryz.prog 18 #[v] w fun e w'=>Below w.heap.size w w'∧∃ u,e=.returned (.tuple #[u,.int .i64 0])∧LV w' w'.heap.size u z:=by
 have h1:=QFloor_good w v q h l
 rw[hz,show toldZ z=(z,0) from if_pos (small_len hl)] at h1
 exact h1
theorem QSign_lit {w:World} {v:Value} (q:Rat) {s:Int} (h:QV w w.heap.size v q) (l:QL 600 600 q) (hs:q.num.sign=s) :
  Calls Tryz.prog 16 #[v] w fun e w'=>Below w.heap.size w w'∧e=.returned (.tuple #[.int .i64 s,.int .i64 0]):=by
 have h1:=QSign_any w v _ _ _ _ h.qr
 rw[qOf_rat q l.1 l.2,sgnQ,hs] at h1
 exact h1
theorem QSpan_lit {w:World} {v:Value} {q:Rat} (h:QV w w.heap.size v q) (l:QL 600 600 q) {r:(Int × Int) × Int} (hr:spanQ (some q)=r) (G:Glob w) :
  Calls Tryz.prog 25 #[v] w fun e w'=>Below w.heap.size w w'∧e=.returned (.tuple #[.agg #[.int .i64 r.1.1,.int .i64 r.1.2],.int .i64 r.2]):=by
 have h1:=QSpan_good w v q h l G
 rw[hr] at h1
 exact h1
theorem QNear_lit {w:World} {v:Value} {q:Rat} (h:QV w w.heap.size v q) (l:QL 600 600 q) {s:Int} {r:Int × Int} (hr:nearQ (some q) s=r) (G:Glob w) :
  Calls Tryz.prog 27 #[v,.int .i64 s] w fun e w'=>Below w.heap.size w w'∧e=.returned (.tuple #[.int .i64 r.1,.int .i64 r.2]):=by
 have h1:=QNear_good w v q s h l G
 rw[hr] at h1
 exact h1
theorem QDiv_zero {w:World} {va vb:Value} {q r:Rat} (ha:QV w w.heap.size va q) (hb:QV w w.heap.size vb r) (lq:QL 600 600 q) (lr:QL 600 600 r) (h0:r=0:=by decide +kernel) :
  Calls Tryz.prog 38 #[va,vb] w fun e w'=>Below w.heap.size w w'∧∃ v,e=.returned (.tuple #[v,.int .i64 7])∧QR w' w'.heap.size v false [] false []:=by
 have h1:=QDiv_good w va vb q r ha hb lq lr
 rw[show divQ q r=(none,7) from if_pos h0] at h1
 exact h1
theorem SameL_yes {w:World} {va vb:Value} {z:Int} (ha:LV w w.heap.size va z) (hb:LV w w.heap.size vb z) :
  Calls Tryz.prog 54 #[va,vb] w fun e w'=>Below w.heap.size w w'∧e=.returned (.bool true):=by
 have h1:=Same_any w va vb _ _ _ _ ha hb
 rw[decide_eq_true ⟨rfl,rfl⟩] at h1
 exact h1
theorem qOf_lit {x y:Int} (hx:x.natAbs<1000000000000000000000000000) (hy:y.natAbs<1000000000000000000000000000) (h:¬ (0<y∧Nat.gcd x.natAbs y.natAbs=1)):qOf (decide (x<0)) (ni (dig x.natAbs)) (decide (y<0)) (ni (dig y.natAbs))=none:=
 (qOf_pair (small_len hx) (small_len hy)).trans (if_neg h)
theorem bad0:parseQ (ByteArray.mk #[50,47,52]).data.toList=(none,5):=by
 show parseQ ([50]++47 :: [52])=_
 rw[parseQ_two (by decide),lit_parse (s:=[50]) (z:=2) (by decide +kernel) (by decide),lit_parse (s:=[52]) (z:=4) (by decide +kernel) (by decide)]
 decide +kernel
theorem bad1:parseQ (ByteArray.mk #[51,47,49]).data.toList=(none,5):=by
 show parseQ ([51]++47 :: [49])=_
 rw[parseQ_two (by decide),lit_parse (s:=[51]) (z:=3) (by decide +kernel) (by decide),lit_parse (s:=[49]) (z:=1) (by decide +kernel) (by decide)]
 decide +kernel
theorem bad2:parseQ (ByteArray.mk #[49,47,45,50]).data.toList=(none,5):=by
 show parseQ ([49]++47 :: [45,50])=_
 rw[parseQ_two (by decide),lit_parse (s:=[49]) (z:=1) (by decide +kernel) (by decide),lit_parse (s:=[45,50]) (z:=-2) (by decide +kernel) (by decide)]
 decide +kernel
theorem bad3:parseQ (ByteArray.mk #[49,47]).data.toList=(none,5):=by
 show parseQ ([49]++47 :: [])=_
 rw[parseQ_two (by decide),lit_parse (s:=[49]) (z:=1) (by decide +kernel) (by decide),parseZ_none (s:=[]) (canon_empty rfl)]
 decide +kernel
theorem plit_49_47_50:parseQ (ByteArray.mk #[49,47,50]).data.toList=(some (mkRat 1 2),0):=parse_lit (lit_frac (s1:=[49]) (s2:=[50]) (x:=1) (d:=2) (by decide +kernel) (by decide +kernel) (by decide) (by decide +kernel)) (lit_QL (x:=1) (d:=2) (by decide) (by decide +kernel) (by decide +kernel) (by decide +kernel))
theorem plit_49_47_51:parseQ (ByteArray.mk #[49,47,51]).data.toList=(some (mkRat 1 3),0):=parse_lit (lit_frac (s1:=[49]) (s2:=[51]) (x:=1) (d:=3) (by decide +kernel) (by decide +kernel) (by decide) (by decide +kernel)) (lit_QL (x:=1) (d:=3) (by decide) (by decide +kernel) (by decide +kernel) (by decide +kernel))
theorem plit_45_50_47_51:parseQ (ByteArray.mk #[45,50,47,51]).data.toList=(some (mkRat (-2) 3),0):=parse_lit (lit_frac (s1:=[45,50]) (s2:=[51]) (x:=(-2)) (d:=3) (by decide +kernel) (by decide +kernel) (by decide) (by decide +kernel)) (lit_QL (x:=(-2)) (d:=3) (by decide) (by decide +kernel) (by decide +kernel) (by decide +kernel))
theorem plit_51_47_50:parseQ (ByteArray.mk #[51,47,50]).data.toList=(some (mkRat 3 2),0):=parse_lit (lit_frac (s1:=[51]) (s2:=[50]) (x:=3) (d:=2) (by decide +kernel) (by decide +kernel) (by decide) (by decide +kernel)) (lit_QL (x:=3) (d:=2) (by decide) (by decide +kernel) (by decide +kernel) (by decide +kernel))
theorem plit_49:parseQ (ByteArray.mk #[49]).data.toList=(some (mkRat 1 1),0):=parse_lit (lit_whole (s:=[49]) (x:=1) (by decide +kernel)) (lit_QL (x:=1) (d:=1) (by decide) (by decide +kernel) (by decide +kernel) (by decide +kernel))
theorem plit_45_49_47_50:parseQ (ByteArray.mk #[45,49,47,50]).data.toList=(some (mkRat (-1) 2),0):=parse_lit (lit_frac (s1:=[45,49]) (s2:=[50]) (x:=(-1)) (d:=2) (by decide +kernel) (by decide +kernel) (by decide) (by decide +kernel)) (lit_QL (x:=(-1)) (d:=2) (by decide) (by decide +kernel) (by decide +kernel) (by decide +kernel))
theorem plit_48:parseQ (ByteArray.mk #[48]).data.toList=(some (mkRat 0 1),0):=parse_lit (lit_whole (s:=[48]) (x:=0) (by decide +kernel)) (lit_QL (x:=0) (d:=1) (by decide) (by decide +kernel) (by decide +kernel) (by decide +kernel))
theorem plit_45_51:parseQ (ByteArray.mk #[45,51]).data.toList=(some (mkRat (-3) 1),0):=parse_lit (lit_whole (s:=[45,51]) (x:=(-3)) (by decide +kernel)) (lit_QL (x:=(-3)) (d:=1) (by decide) (by decide +kernel) (by decide +kernel) (by decide +kernel))
theorem plit_50_47_51:parseQ (ByteArray.mk #[50,47,51]).data.toList=(some (mkRat 2 3),0):=parse_lit (lit_frac (s1:=[50]) (s2:=[51]) (x:=2) (d:=3) (by decide +kernel) (by decide +kernel) (by decide) (by decide +kernel)) (lit_QL (x:=2) (d:=3) (by decide) (by decide +kernel) (by decide +kernel) (by decide +kernel))
theorem idx4_0 (a b c d:Value) (w:World):(Instr.index 89 (.agg #[a,b,c,d]) (.int .i64 0)).run Tryz.prog w=.ok a w:=by kernel_rfl
theorem idx4_1 (a b c d:Value) (w:World):(Instr.index 89 (.agg #[a,b,c,d]) (.int .i64 1)).run Tryz.prog w=.ok b w:=by kernel_rfl
theorem idx4_2 (a b c d:Value) (w:World):(Instr.index 89 (.agg #[a,b,c,d]) (.int .i64 2)).run Tryz.prog w=.ok c w:=by kernel_rfl
theorem idx4_3 (a b c d:Value) (w:World):(Instr.index 89 (.agg #[a,b,c,d]) (.int .i64 3)).run Tryz.prog w=.ok d w:=by kernel_rfl
set_option maxRecDepth 100000 in
set_option maxHeartbeats 8000000 in
theorem worksQ_any (w:World) (G:Glob w) (M:MaxL w) :
  Calls Tryz.prog 12 #[] w fun e w'=>Below w.heap.size w w'∧e=.returned (.bool true):=by
 go_enter Tryz.func12,Tryz.ntmps12
 go_wp2_with fail
 refine(isQ_new _ ⟨#[45,51,47,50]⟩).mono ?_
 rintro e w2 ⟨T5,N1,rfl,hN1⟩
 have B3:=zz T5
 have z3:=B3.out.size
 clear T5
 go_wp2_with fail
 refine(QOf_any _ 6 (-4) (by decide) (by decide) (by decide) (by decide)).mono ?_
 rintro e w5 ⟨U5,v4,rfl,V0⟩
 have B6:=zz U5
 have z6:=B6.out.size
 have J3:=zz (B3.out.trans (B6.out.mono B3.out.size))
 clear U5
 have heq4:=mkQ_lit (x:=6) (y:=(-4)) (c:=(mkRat (-3) 2)) (by decide) (by decide +kernel) (lit_QL (x:=(-3)) (d:=2) (by decide) (by decide +kernel) (by decide +kernel) (by decide +kernel));rw[heq4] at V0;rw[heq4];clear heq4
 replace V0:QV w5 w5.heap.size v4 (mkRat (-3) 2):=V0
 have Y5:=zz V0;clear V0
 have K3:=One.step hN1 B6.out
 go_wp2_with fail
 refine(isQ_yes K3 Y5.out (lit_QL (x:=(-3)) (d:=2) (by decide) (by decide +kernel) (by decide +kernel) (by decide +kernel)) (lit_frac (s1:=[45,51]) (s2:=[50]) (x:=(-3)) (d:=2) (by decide +kernel) (by decide +kernel) (by decide) (by decide +kernel)) (G.step J3.out)).mono ?_
 rintro e w10 ⟨L3,rfl⟩
 have B11:=zz L3
 have z11:=B11.out.size
 have M3:=zz (J3.out.trans (B11.out.mono J3.out.size))
 clear L3
 clear K3
 go_wp2_with fail
 refine(isQ_new _ ⟨#[48]⟩).mono ?_
 rintro e w14 ⟨N3,N13,rfl,hN13⟩
 have B15:=zz N3
 have z15:=B15.out.size
 have O3:=zz (M3.out.trans (B15.out.mono M3.out.size))
 clear N3
 go_wp2_with fail
 refine(QOf_any _ 0 5 (by decide) (by decide) (by decide) (by decide)).mono ?_
 rintro e w18 ⟨P3,v17,rfl,q0⟩
 have B19:=zz P3
 have z19:=B19.out.size
 have l1:=zz (O3.out.trans (B19.out.mono O3.out.size))
 clear P3
 have heq17:=mkQ_lit (x:=0) (y:=5) (c:=(mkRat 0 1)) (by decide) (by decide +kernel) (lit_QL (x:=0) (d:=1) (by decide) (by decide +kernel) (by decide +kernel) (by decide +kernel));rw[heq17] at q0;rw[heq17];clear heq17
 replace q0:QV w18 w18.heap.size v17 (mkRat 0 1):=q0
 have b5:=zz q0;clear q0
 have y1:=One.step hN13 B19.out
 go_wp2_with fail
 refine(isQ_yes y1 b5.out (lit_QL (x:=0) (d:=1) (by decide) (by decide +kernel) (by decide +kernel) (by decide +kernel)) (lit_whole (s:=[48]) (x:=0) (by decide +kernel)) (G.step l1.out)).mono ?_
 rintro e w23 ⟨Q3,rfl⟩
 have B24:=zz Q3
 have z24:=B24.out.size
 have R3:=zz (l1.out.trans (B24.out.mono l1.out.size))
 clear Q3
 clear y1
 go_wp2_with fail
 refine(failsQ_new _ 7).mono ?_
 rintro e w27 ⟨S3,N26,rfl,hN26⟩
 have B28:=zz S3
 have z28:=B28.out.size
 have T3:=zz (R3.out.trans (B28.out.mono R3.out.size))
 clear S3
 go_wp2_with fail
 refine(QOf_any _ 1 0 (by decide) (by decide) (by decide) (by decide)).mono ?_
 rintro e w31 ⟨U3,v30,rfl,r0⟩
 have B32:=zz U3
 have z32:=B32.out.size
 have V3:=zz (T3.out.trans (B32.out.mono T3.out.size))
 clear U3
 have heq30:=show mkQ 1 0=(none,7) from if_pos rfl;rw[heq30] at r0;rw[heq30];clear heq30
 replace r0:QR w31 w31.heap.size v30 false [] false []:=r0
 have c5:=zz r0;clear r0
 have z1:=One.step hN26 B32.out
 go_wp2_with fail
 refine(failsQ_yes z1 c5.out).mono ?_
 rintro e w36 ⟨W3,rfl⟩
 have B37:=zz W3
 have z37:=B37.out.size
 have X3:=zz (V3.out.trans (B37.out.mono V3.out.size))
 clear W3
 clear z1
 go_wp2_with fail
 refine(isQ_new _ ⟨#[53,47,54]⟩).mono ?_
 rintro e w40 ⟨Y3,N39,rfl,hN39⟩
 have B41:=zz Y3
 have z41:=B41.out.size
 have m1:=zz (X3.out.trans (B41.out.mono X3.out.size))
 clear Y3
 go_wp2_with fail
 refine(ofQ_lit _ ⟨#[49,47,50]⟩ (mkRat 1 2) plit_49_47_50 (by decide +kernel) (M.step m1.out)).mono ?_
 rintro e w44 ⟨Z3,v43,rfl,a4⟩
 have B45:=zz Z3
 have z45:=B45.out.size
 have n1:=zz (m1.out.trans (B45.out.mono m1.out.size))
 clear Z3
 have d5:=zz a4;clear a4
 go_wp2_with fail
 refine(ofQ_lit _ ⟨#[49,47,51]⟩ (mkRat 1 3) plit_49_47_51 (by decide +kernel) (M.step n1.out)).mono ?_
 rintro e w49 ⟨b4,v48,rfl,c4⟩
 have B50:=zz b4
 have z50:=B50.out.size
 have d4:=zz (n1.out.trans (B50.out.mono n1.out.size))
 clear b4
 have e5:=zz c4;clear c4
 go_wp2_with fail
 have g5:=zz (QV.step d5.out B50.out)
 refine(QAdd_good _ _ _ (mkRat 1 2) (mkRat 1 3) g5.out e5.out (lit_QL (x:=1) (d:=2) (by decide) (by decide +kernel) (by decide +kernel) (by decide +kernel)) (lit_QL (x:=1) (d:=3) (by decide) (by decide +kernel) (by decide +kernel) (by decide +kernel))).mono ?_
 rintro e w54 ⟨e4,v53,rfl,s0⟩
 have B56:=zz e4
 have z56:=B56.out.size
 have o1:=zz (d4.out.trans (B56.out.mono d4.out.size))
 clear e4
 have heq53:=toldQ_lit (a:=(mkRat 1 2)+(mkRat 1 3)) (c:=(mkRat 5 6)) (by decide +kernel) (lit_QL (x:=5) (d:=6) (by decide) (by decide +kernel) (by decide +kernel) (by decide +kernel));rw[heq53] at s0;rw[heq53];clear heq53
 replace s0:QV w54 w54.heap.size v53 (mkRat 5 6):=s0
 have h5:=zz s0;clear s0
 have P2_4_60:=zz (B45.out.trans (B50.out.mono B45.out.size))
 have P2_5_61:=zz (P2_4_60.out.trans (B56.out.mono P2_4_60.out.size))
 have A1:=One.step hN39 P2_5_61.out
 go_wp2_with fail
 refine(isQ_yes A1 h5.out (lit_QL (x:=5) (d:=6) (by decide) (by decide +kernel) (by decide +kernel) (by decide +kernel)) (lit_frac (s1:=[53]) (s2:=[54]) (x:=5) (d:=6) (by decide +kernel) (by decide +kernel) (by decide) (by decide +kernel)) (G.step o1.out)).mono ?_
 rintro e w62 ⟨g4,rfl⟩
 have B63:=zz g4
 have z63:=B63.out.size
 have h4:=zz (o1.out.trans (B63.out.mono o1.out.size))
 clear g4
 clear A1
 go_wp2_with fail
 refine(isQ_new _ ⟨#[48]⟩).mono ?_
 rintro e w66 ⟨i4,N65,rfl,hN65⟩
 have B67:=zz i4
 have z67:=B67.out.size
 have p1:=zz (h4.out.trans (B67.out.mono h4.out.size))
 clear i4
 go_wp2_with fail
 refine(ofQ_lit _ ⟨#[49,47,50]⟩ (mkRat 1 2) plit_49_47_50 (by decide +kernel) (M.step p1.out)).mono ?_
 rintro e w70 ⟨j4,v69,rfl,k4⟩
 have B71:=zz j4
 have z71:=B71.out.size
 have q1:=zz (p1.out.trans (B71.out.mono p1.out.size))
 clear j4
 have i5:=zz k4;clear k4
 go_wp2_with fail
 refine(ofQ_lit _ ⟨#[49,47,50]⟩ (mkRat 1 2) plit_49_47_50 (by decide +kernel) (M.step q1.out)).mono ?_
 rintro e w75 ⟨l4,v74,rfl,m4⟩
 have B76:=zz l4
 have z76:=B76.out.size
 have n4:=zz (q1.out.trans (B76.out.mono q1.out.size))
 clear l4
 have j5:=zz m4;clear m4
 go_wp2_with fail
 have k5:=zz (QV.step i5.out B76.out)
 refine(QSub_good _ _ _ (mkRat 1 2) (mkRat 1 2) k5.out j5.out (lit_QL (x:=1) (d:=2) (by decide) (by decide +kernel) (by decide +kernel) (by decide +kernel)) (lit_QL (x:=1) (d:=2) (by decide) (by decide +kernel) (by decide +kernel) (by decide +kernel))).mono ?_
 rintro e w80 ⟨o4,v79,rfl,t0⟩
 have B82:=zz o4
 have z82:=B82.out.size
 have r1:=zz (n4.out.trans (B82.out.mono n4.out.size))
 clear o4
 have heq79:=toldQ_lit (a:=(mkRat 1 2)-(mkRat 1 2)) (c:=(mkRat 0 1)) (by decide +kernel) (lit_QL (x:=0) (d:=1) (by decide) (by decide +kernel) (by decide +kernel) (by decide +kernel));rw[heq79] at t0;rw[heq79];clear heq79
 replace t0:QV w80 w80.heap.size v79 (mkRat 0 1):=t0
 have l5:=zz t0;clear t0
 have P2_4_86:=zz (B71.out.trans (B76.out.mono B71.out.size))
 have P2_5_87:=zz (P2_4_86.out.trans (B82.out.mono P2_4_86.out.size))
 have B1:=One.step hN65 P2_5_87.out
 go_wp2_with fail
 refine(isQ_yes B1 l5.out (lit_QL (x:=0) (d:=1) (by decide) (by decide +kernel) (by decide +kernel) (by decide +kernel)) (lit_whole (s:=[48]) (x:=0) (by decide +kernel)) (G.step r1.out)).mono ?_
 rintro e w88 ⟨p4,rfl⟩
 have B89:=zz p4
 have z89:=B89.out.size
 have q4:=zz (r1.out.trans (B89.out.mono r1.out.size))
 clear p4
 clear B1
 go_wp2_with fail
 refine(isQ_new _ ⟨#[45,49]⟩).mono ?_
 rintro e w92 ⟨r4,N91,rfl,hN91⟩
 have B93:=zz r4
 have z93:=B93.out.size
 have t1:=zz (q4.out.trans (B93.out.mono q4.out.size))
 clear r4
 go_wp2_with fail
 refine(ofQ_lit _ ⟨#[45,50,47,51]⟩ (mkRat (-2) 3) plit_45_50_47_51 (by decide +kernel) (M.step t1.out)).mono ?_
 rintro e w96 ⟨s4,v95,rfl,t4⟩
 have B97:=zz s4
 have z97:=B97.out.size
 have u1:=zz (t1.out.trans (B97.out.mono t1.out.size))
 clear s4
 have m5:=zz t4;clear t4
 go_wp2_with fail
 refine(ofQ_lit _ ⟨#[51,47,50]⟩ (mkRat 3 2) plit_51_47_50 (by decide +kernel) (M.step u1.out)).mono ?_
 rintro e w101 ⟨C1,v100,rfl,D1⟩
 have B102:=zz C1
 have z102:=B102.out.size
 have E1:=zz (u1.out.trans (B102.out.mono u1.out.size))
 clear C1
 have u4:=zz D1;clear D1
 go_wp2_with fail
 have w4:=zz (QV.step m5.out B102.out)
 refine(QMul_good _ _ _ (mkRat (-2) 3) (mkRat 3 2) w4.out u4.out (lit_QL (x:=(-2)) (d:=3) (by decide) (by decide +kernel) (by decide +kernel) (by decide +kernel)) (lit_QL (x:=3) (d:=2) (by decide) (by decide +kernel) (by decide +kernel) (by decide +kernel))).mono ?_
 rintro e w106 ⟨F1,v105,rfl,e0⟩
 have B108:=zz F1
 have z108:=B108.out.size
 have w0:=zz (E1.out.trans (B108.out.mono E1.out.size))
 clear F1
 have heq105:=toldQ_lit (a:=(mkRat (-2) 3)*(mkRat 3 2)) (c:=(mkRat (-1) 1)) (by decide +kernel) (lit_QL (x:=(-1)) (d:=1) (by decide) (by decide +kernel) (by decide +kernel) (by decide +kernel));rw[heq105] at e0;rw[heq105];clear heq105
 replace e0:QV w106 w106.heap.size v105 (mkRat (-1) 1):=e0
 have y4:=zz e0;clear e0
 have P2_4_112:=zz (B97.out.trans (B102.out.mono B97.out.size))
 have P2_5_113:=zz (P2_4_112.out.trans (B108.out.mono P2_4_112.out.size))
 have W0:=One.step hN91 P2_5_113.out
 go_wp2_with fail
 refine(isQ_yes W0 y4.out (lit_QL (x:=(-1)) (d:=1) (by decide) (by decide +kernel) (by decide +kernel) (by decide +kernel)) (lit_whole (s:=[45,49]) (x:=(-1)) (by decide +kernel)) (G.step w0.out)).mono ?_
 rintro e w114 ⟨G1,rfl⟩
 have B115:=zz G1
 have z115:=B115.out.size
 have H1:=zz (w0.out.trans (B115.out.mono w0.out.size))
 clear G1
 clear W0
 go_wp2_with fail
 refine(isQ_new _ ⟨#[45,51,47,50]⟩).mono ?_
 rintro e w118 ⟨I1,N117,rfl,hN117⟩
 have B119:=zz I1
 have z119:=B119.out.size
 have y0:=zz (H1.out.trans (B119.out.mono H1.out.size))
 clear I1
 go_wp2_with fail
 refine(ofQ_lit _ ⟨#[49]⟩ (mkRat 1 1) plit_49 (by decide +kernel) (M.step y0.out)).mono ?_
 rintro e w122 ⟨J1,v121,rfl,K1⟩
 have B123:=zz J1
 have z123:=B123.out.size
 have z0:=zz (y0.out.trans (B123.out.mono y0.out.size))
 clear J1
 have z4:=zz K1;clear K1
 go_wp2_with fail
 refine(ofQ_lit _ ⟨#[45,50,47,51]⟩ (mkRat (-2) 3) plit_45_50_47_51 (by decide +kernel) (M.step z0.out)).mono ?_
 rintro e w127 ⟨L1,v126,rfl,M1⟩
 have B128:=zz L1
 have z128:=B128.out.size
 have O1:=zz (z0.out.trans (B128.out.mono z0.out.size))
 clear L1
 have A4:=zz M1;clear M1
 go_wp2_with fail
 have B4:=zz (QV.step z4.out B128.out)
 refine(QDiv_good _ _ _ (mkRat 1 1) (mkRat (-2) 3) B4.out A4.out (lit_QL (x:=1) (d:=1) (by decide) (by decide +kernel) (by decide +kernel) (by decide +kernel)) (lit_QL (x:=(-2)) (d:=3) (by decide) (by decide +kernel) (by decide +kernel) (by decide +kernel))).mono ?_
 rintro e w132 ⟨P1,v131,rfl,g0⟩
 have B134:=zz P1
 have z134:=B134.out.size
 have A0:=zz (O1.out.trans (B134.out.mono O1.out.size))
 clear P1
 have heq131:=(show divQ (mkRat 1 1) (mkRat (-2) 3)=_ from if_neg (by decide +kernel)).trans (toldQ_lit (a:=(mkRat 1 1) / (mkRat (-2) 3)) (c:=(mkRat (-3) 2)) (by decide +kernel) (lit_QL (x:=(-3)) (d:=2) (by decide) (by decide +kernel) (by decide +kernel) (by decide +kernel)));rw[heq131] at g0;rw[heq131];clear heq131
 replace g0:QV w132 w132.heap.size v131 (mkRat (-3) 2):=g0
 have C4:=zz g0;clear g0
 have P2_4_138:=zz (B123.out.trans (B128.out.mono B123.out.size))
 have P2_5_139:=zz (P2_4_138.out.trans (B134.out.mono P2_4_138.out.size))
 have X0:=One.step hN117 P2_5_139.out
 go_wp2_with fail
 refine(isQ_yes X0 C4.out (lit_QL (x:=(-3)) (d:=2) (by decide) (by decide +kernel) (by decide +kernel) (by decide +kernel)) (lit_frac (s1:=[45,51]) (s2:=[50]) (x:=(-3)) (d:=2) (by decide +kernel) (by decide +kernel) (by decide) (by decide +kernel)) (G.step A0.out)).mono ?_
 rintro e w140 ⟨Q1,rfl⟩
 have B141:=zz Q1
 have z141:=B141.out.size
 have B0:=zz (A0.out.trans (B141.out.mono A0.out.size))
 clear Q1
 clear X0
 go_wp2_with fail
 refine(ofQ_lit _ ⟨#[45,49,47,50]⟩ (mkRat (-1) 2) plit_45_49_47_50 (by decide +kernel) (M.step B0.out)).mono ?_
 rintro e w144 ⟨R1,v143,rfl,S1⟩
 have B145:=zz R1
 have z145:=B145.out.size
 have T1:=zz (B0.out.trans (B145.out.mono B0.out.size))
 clear R1
 have D4:=zz S1;clear S1
 go_wp2_with fail
 refine(QFloor_lit D4.out (lit_QL (x:=(-1)) (d:=2) (by decide) (by decide +kernel) (by decide +kernel) (by decide +kernel)) (z:=-1) (by decide +kernel) (by decide)).mono ?_
 rintro e w148 ⟨U1,v,rfl,hv⟩
 have B149:=zz U1
 have z149:=B149.out.size
 have V1:=zz (T1.out.trans (B149.out.mono T1.out.size))
 clear U1
 replace hv:LV w148 w148.heap.size v (-1):=hv
 obtain⟨n151,Ad151,l151,c151,rfl,W1⟩:=hv.opened
 have H3:=zz W1
 clear hv W1
 go_upto_region 3 with (fail)
 obtain⟨w152,h0⟩:∃ w152:World,w152=(w148.alloc (.cells #[.bool n151,.slice Ad151 l151 c151] 24)):=⟨_,rfl⟩;rw[← h0]
 have X1:Below w148.heap.size w148 w152:=by rw[h0];(repeat' (first | exact Below.refl _ _ | refine Below.drew ?_ | refine Below.alloc ?_ (by first | exact Nat.le_refl _ | (simp;done) | (simp;omega)) _))
 have E4:CB w152 (w148.heap.size) 24 #[.bool n151,.slice Ad151 l151 c151]:=by rw[h0];have h:=CB.new w148 24 #[.bool n151,.slice Ad151 l151 c151];simpa using h
 have za152:w148.heap.size+1≤w152.heap.size:=by rw[h0];simp
 have B153:=zz X1
 have z153:=B153.out.size
 have d0:=zz (V1.out.trans (B153.out.mono V1.out.size))
 clear X1 h0
 refine Flow.run [⟨0,68,fun fv fw=>fv=.bool true⟩,⟨1,69,fun fv fw=>fv=.bool true⟩,⟨2,70,fun fv fw=>∃ N,fv=.func (.func 111) #[] #[.pointer (some ⟨N,0,none⟩)]∧One fw N 3 (.int .i64 (-1))⟩,⟨3,71,fun fv fw=>QV fw fw.heap.size fv (mkRat 1 3)⟩,⟨4,72,fun fv fw=>QV fw fw.heap.size fv (mkRat 1 2)⟩,⟨5,73,fun fv fw=>fv=.tuple #[.int .i64 (-1),.int .i64 0]⟩,⟨6,74,fun fv fw=>fv=.int .i64 (-1)⟩,⟨7,75,fun fv fw=>fv=.int .i64 0⟩,⟨8,76,fun fv fw=>fv=.bool true⟩,⟨9,77,fun fv fw=>fv=.bool true⟩,⟨10,78,fun fv fw=>fv=.bool true⟩,⟨11,79,fun fv fw=>∃ N,fv=.func (.func 111) #[] #[.pointer (some ⟨N,0,none⟩)]∧One fw N 3 (.int .i64 (-1))⟩,⟨12,80,fun fv fw=>QV fw fw.heap.size fv (mkRat (-1) 2)⟩,⟨13,81,fun fv fw=>fv=.tuple #[.int .i64 (-1),.int .i64 0]⟩,⟨14,82,fun fv fw=>fv=.int .i64 (-1)⟩,⟨15,83,fun fv fw=>fv=.int .i64 0⟩,⟨16,84,fun fv fw=>fv=.bool true⟩,⟨17,85,fun fv fw=>fv=.bool true⟩,⟨18,86,fun fv fw=>fv=.bool true⟩,⟨19,87,fun fv fw=>fv=.agg #[.bool n151,.slice Ad151 l151 c151]⟩,⟨20,88,fun fv fw=>LV fw fw.heap.size fv (-1)⟩,⟨21,89,fun fv fw=>fv=.bool true⟩,⟨22,90,fun fv fw=>fv=.bool true⟩,⟨23,91,fun fv fw=>fv=.bool true⟩,⟨24,92,fun fv fw=>fv=.int .i64 0⟩,⟨25,93,fun fv fw=>fv=.bool true⟩,⟨26,94,fun fv fw=>fv=.bool true⟩,⟨27,95,fun fv fw=>fv=.bool true⟩,⟨28,96,fun fv fw=>∃ N,fv=.func (.func 96) #[] #[.pointer (some ⟨N,0,none⟩)]∧One fw N 38 (.int .i64 7)⟩,⟨29,97,fun fv fw=>QV fw fw.heap.size fv (mkRat 1 1)⟩,⟨30,98,fun fv fw=>QV fw fw.heap.size fv (mkRat 0 1)⟩,⟨31,99,fun fv fw=>∃ u,fv=.tuple #[u,.int .i64 7]∧QR fw fw.heap.size u false [] false []⟩,⟨32,100,fun fv fw=>QR fw fw.heap.size fv false [] false []⟩,⟨33,101,fun fv fw=>fv=.int .i64 7⟩,⟨34,102,fun fv fw=>fv=.bool true⟩,⟨35,103,fun fv fw=>fv=.bool true⟩] [] [] 1 (by kernel_rfl) (by kernel_rfl) (by kernel_rfl) (fun _ _ _ _ _ h=>h) ?_ ?_ ?_ ?_
 ·refine(a0 (a0 (all_cons (fun v w1 w2 h hb=>let ⟨N,e,h⟩:=h;⟨N,e,One.step h hb⟩) (all_cons (fun v w1 w2 h hb=>h.step hb) (all_cons (fun v w1 w2 h hb=>h.step hb) (a0 (a0 (a0 (a0 (a0 (a0 (all_cons (fun v w1 w2 h hb=>let ⟨N,e,h⟩:=h;⟨N,e,One.step h hb⟩) (all_cons (fun v w1 w2 h hb=>h.step hb) (a0 (a0 (a0 (a0 (a0 (a0 (a0 (all_cons (fun v w1 w2 h hb=>h.step hb) (a0 (a0 (a0 (a0 (a0 (a0 (a0 (all_cons (fun v w1 w2 h hb=>let ⟨N,e,h⟩:=h;⟨N,e,One.step h hb⟩) (all_cons (fun v w1 w2 h hb=>h.step hb) (all_cons (fun v w1 w2 h hb=>h.step hb) (all_cons (fun v w1 w2 h hb=>let ⟨u,e,h⟩:=h;⟨u,e,h.step hb⟩) (all_cons (fun v w1 w2 h hb=>h.step hb) (a0 (a0 (a0 all_nil))))))))))))))))))))))))))))))))))))
 ·refine(all_cons ?_ (all_cons ?_ (all_cons ?_ (all_cons ?_ (all_cons ?_ (all_cons ?_ (all_cons ?_ (all_cons ?_ (all_cons ?_ (all_cons ?_ (all_cons ?_ (all_cons ?_ (all_cons ?_ (all_cons ?_ (all_cons ?_ (all_cons ?_ (all_cons ?_ (all_cons ?_ (all_cons ?_ (all_cons ?_ (all_cons ?_ (all_cons ?_ (all_cons ?_ (all_cons ?_ (all_cons ?_ (all_cons ?_ (all_cons ?_ (all_cons ?_ (all_cons ?_ (all_cons ?_ (all_cons ?_ (all_cons ?_ (all_cons ?_ (all_cons ?_ (all_cons ?_ (all_cons ?_ all_nil))))))))))))))))))))))))))))))))))))
  ·intro xs i7 c0 b0
   have Z5:=zz c0;have j7:=c0.size;clear c0
   clear b0
   refine wpOp_step (o:=_) rfl (fun K hK=>?_)
   simp only[FL]
   go_simp
   refine hK _ _ ⟨.bool true,by kernel_rfl,Below.refl _ _,rfl,nF⟩
  ·intro xs k7 c0 b0
   have a6:=zz c0;have l7:=c0.size;clear c0
   have f0:(xs 0)=.bool true:=b0 _ (m_ 0 rfl) (by kernel_rfl)
   clear b0
   refine wpOp_step (o:=_) rfl (fun K hK=>?_)
   simp only[FL]
   go_simp
   refine hK _ _ ⟨.bool true,by simp only[FL,f0] <;> kernel_rfl,Below.refl _ _,rfl,nF⟩
  ·intro xs m7 c0 b0
   have b6:=zz c0;have n7:=c0.size;clear c0
   have f1:(xs 1)=.bool true:=b0 _ (m_ 1 rfl) (by kernel_rfl)
   clear b0
   refine wpOp_step (o:=?go157) ?c6 ?gh157
   case c6=>exact rfl
   intro K hK
   simp only[FL]
   go_simp
   (with_reducible refine(saysQ_new _ (-1)).mono ?_)
   rintro e wc158 ⟨n5,N158,rfl,hN158⟩
   refine hK _ _ ⟨.func (.func 111) #[] #[.pointer (some ⟨N158,0,none⟩)],by simp only[FL,f1] <;> kernel_rfl,n5,⟨N158,rfl,hN158⟩,nF⟩
  ·intro xs o7 c0 b0
   have F4:=zz c0;have p7:=c0.size;clear c0
   have f1:(xs 1)=.bool true:=b0 _ (m_ 1 rfl) (by kernel_rfl)
   clear b0
   refine wpOp_step (o:=?go159) ?d6 ?gh159
   case d6=>exact rfl
   intro K hK
   simp only[FL]
   go_simp
   (with_reducible refine(ofQ_lit _ ⟨#[49,47,51]⟩ (mkRat 1 3) plit_49_47_51 (by decide +kernel) (M.step (d0.out.trans (F4.out.mono d0.out.size)))).mono ?_)
   rintro e wc160 ⟨o5,v160,rfl,p5⟩
   refine hK _ _ ⟨v160,by simp only[FL,f1] <;> kernel_rfl,o5,p5,nF⟩
  ·intro xs q7 c0 b0
   have G4:=zz c0;have r7:=c0.size;clear c0
   have f1:(xs 1)=.bool true:=b0 _ (m_ 1 rfl) (by kernel_rfl)
   clear b0
   refine wpOp_step (o:=?go161) ?e6 ?gh161
   case e6=>exact rfl
   intro K hK
   simp only[FL]
   go_simp
   (with_reducible refine(ofQ_lit _ ⟨#[49,47,50]⟩ (mkRat 1 2) plit_49_47_50 (by decide +kernel) (M.step (d0.out.trans (G4.out.mono d0.out.size)))).mono ?_)
   rintro e wc162 ⟨q5,v162,rfl,r5⟩
   refine hK _ _ ⟨v162,by simp only[FL,f1] <;> kernel_rfl,q5,r5,nF⟩
  ·intro xs o0 c0 b0
   have g6:=zz c0;have s7:=c0.size;clear c0
   have f1:(xs 1)=.bool true:=b0 _ (m_ 1 rfl) (by kernel_rfl)
   have f3:QV o0 o0.heap.size (xs 3) (mkRat 1 3):=b0 _ (m_ 3 rfl) (by kernel_rfl)
   have f4:QV o0 o0.heap.size (xs 4) (mkRat 1 2):=b0 _ (m_ 4 rfl) (by kernel_rfl)
   clear b0
   refine wpOp_step (o:=?go163) ?h6 ?gh163
   case h6=>exact rfl
   intro K hK
   simp only[FL]
   go_simp
   (with_reducible refine((show Calls Tryz.prog _ _ _ _ from(show(cmpR (mkRat 1 3) (mkRat 1 2),(0:Int))=(-1,0) by decide +kernel)▸QCmp_good _ _ _ (mkRat 1 3) (mkRat 1 2) f3 f4 (lit_QL (x:=1) (d:=3) (by decide) (by decide +kernel) (by decide +kernel) (by decide +kernel)) (lit_QL (x:=1) (d:=2) (by decide) (by decide +kernel) (by decide +kernel) (by decide +kernel)))).mono ?_)
   rintro e wc164 ⟨s5,rfl⟩
   refine hK _ _ ⟨.tuple #[.int .i64 (-1),.int .i64 0],by simp only[FL,f1] <;> kernel_rfl,s5,rfl,nF⟩
  ·intro xs t7 c0 b0
   have i6:=zz c0;have u7:=c0.size;clear c0
   have f1:(xs 1)=.bool true:=b0 _ (m_ 1 rfl) (by kernel_rfl)
   have f5:(xs 5)=.tuple #[.int .i64 (-1),.int .i64 0]:=b0 _ (m_ 5 rfl) (by kernel_rfl)
   clear b0
   refine wpOp_step (o:=?go165) ?j6 ?gh165
   case j6=>exact rfl
   intro K hK
   simp only[FL]
   go_simp
   refine hK _ _ ⟨.int .i64 (-1),by simp only[FL,f1,f5] <;> kernel_rfl,Below.refl _ _,rfl,nF⟩
  ·intro xs v7 c0 b0
   have k6:=zz c0;have w7:=c0.size;clear c0
   have f1:(xs 1)=.bool true:=b0 _ (m_ 1 rfl) (by kernel_rfl)
   have f5:(xs 5)=.tuple #[.int .i64 (-1),.int .i64 0]:=b0 _ (m_ 5 rfl) (by kernel_rfl)
   clear b0
   refine wpOp_step (o:=?go166) ?l6 ?gh166
   case l6=>exact rfl
   intro K hK
   simp only[FL]
   go_simp
   refine hK _ _ ⟨.int .i64 0,by simp only[FL,f1,f5] <;> kernel_rfl,Below.refl _ _,rfl,nF⟩
  ·intro xs t5 c0 b0
   have m6:=zz c0;have y7:=c0.size;clear c0
   have f1:(xs 1)=.bool true:=b0 _ (m_ 1 rfl) (by kernel_rfl)
   have f2:∃ N,(xs 2)=.func (.func 111) #[] #[.pointer (some ⟨N,0,none⟩)]∧One t5 N 3 (.int .i64 (-1)):=b0 _ (m_ 2 rfl) (by kernel_rfl)
   have f6:(xs 6)=.int .i64 (-1):=b0 _ (m_ 6 rfl) (by kernel_rfl)
   have f7:(xs 7)=.int .i64 0:=b0 _ (m_ 7 rfl) (by kernel_rfl)
   clear b0
   refine wpOp_step (o:=?go167) ?n6 ?gh167
   case n6=>exact rfl
   intro K hK
   simp only[FL]
   obtain⟨N,hN,hO⟩:=f2;rw[hN]
   have HO:=zz hO;clear hO
   go_simp
   (with_reducible refine(saysQ_yes HO.out).mono ?_)
   rintro e wc168 ⟨u5,rfl⟩
   refine hK _ _ ⟨.bool true,by simp only[FL,f1,f6,f7,hN] <;> kernel_rfl,u5,rfl,nF⟩
  ·intro xs z7 c0 b0
   have o6:=zz c0;have A7:=c0.size;clear c0
   have f1:(xs 1)=.bool true:=b0 _ (m_ 1 rfl) (by kernel_rfl)
   have f8:(xs 8)=.bool true:=b0 _ (m_ 8 rfl) (by kernel_rfl)
   clear b0
   refine wpOp_step (o:=_) rfl (fun K hK=>?_)
   simp only[FL]
   go_simp
   refine hK _ _ ⟨.bool true,by simp only[FL,f1,f8] <;> kernel_rfl,Below.refl _ _,rfl,nF⟩
  ·intro xs B7 c0 b0
   have p6:=zz c0;have C7:=c0.size;clear c0
   have f9:(xs 9)=.bool true:=b0 _ (m_ 9 rfl) (by kernel_rfl)
   clear b0
   refine wpOp_step (o:=_) rfl (fun K hK=>?_)
   simp only[FL]
   go_simp
   refine hK _ _ ⟨.bool true,by simp only[FL,f9] <;> kernel_rfl,Below.refl _ _,rfl,nF⟩
  ·intro xs D7 c0 b0
   have q6:=zz c0;have E7:=c0.size;clear c0
   have f10:(xs 10)=.bool true:=b0 _ (m_ 10 rfl) (by kernel_rfl)
   clear b0
   refine wpOp_step (o:=?go171) ?r6 ?gh171
   case r6=>exact rfl
   intro K hK
   simp only[FL]
   go_simp
   (with_reducible refine(saysQ_new _ (-1)).mono ?_)
   rintro e wc172 ⟨v5,N172,rfl,hN172⟩
   refine hK _ _ ⟨.func (.func 111) #[] #[.pointer (some ⟨N172,0,none⟩)],by simp only[FL,f10] <;> kernel_rfl,v5,⟨N172,rfl,hN172⟩,nF⟩
  ·intro xs F7 c0 b0
   have H4:=zz c0;have G7:=c0.size;clear c0
   have f10:(xs 10)=.bool true:=b0 _ (m_ 10 rfl) (by kernel_rfl)
   clear b0
   refine wpOp_step (o:=?go173) ?s6 ?gh173
   case s6=>exact rfl
   intro K hK
   simp only[FL]
   go_simp
   (with_reducible refine(ofQ_lit _ ⟨#[45,49,47,50]⟩ (mkRat (-1) 2) plit_45_49_47_50 (by decide +kernel) (M.step (d0.out.trans (H4.out.mono d0.out.size)))).mono ?_)
   rintro e wc174 ⟨y5,v174,rfl,z5⟩
   refine hK _ _ ⟨v174,by simp only[FL,f10] <;> kernel_rfl,y5,z5,nF⟩
  ·intro xs Y1 c0 b0
   have t6:=zz c0;have H7:=c0.size;clear c0
   have f10:(xs 10)=.bool true:=b0 _ (m_ 10 rfl) (by kernel_rfl)
   have f12:QV Y1 Y1.heap.size (xs 12) (mkRat (-1) 2):=b0 _ (m_ 12 rfl) (by kernel_rfl)
   clear b0
   refine wpOp_step (o:=?go175) ?u6 ?gh175
   case u6=>exact rfl
   intro K hK
   simp only[FL]
   go_simp
   (with_reducible refine(QSign_lit (s:=-1) (mkRat (-1) 2) f12 (lit_QL (x:=(-1)) (d:=2) (by decide) (by decide +kernel) (by decide +kernel) (by decide +kernel)) (by decide +kernel)).mono ?_)
   rintro e wc176 ⟨A5,rfl⟩
   refine hK _ _ ⟨.tuple #[.int .i64 (-1),.int .i64 0],by simp only[FL,f10] <;> kernel_rfl,A5,rfl,nF⟩
  ·intro xs I7 c0 b0
   have v6:=zz c0;have J7:=c0.size;clear c0
   have f10:(xs 10)=.bool true:=b0 _ (m_ 10 rfl) (by kernel_rfl)
   have f13:(xs 13)=.tuple #[.int .i64 (-1),.int .i64 0]:=b0 _ (m_ 13 rfl) (by kernel_rfl)
   clear b0
   refine wpOp_step (o:=?go177) ?w6 ?gh177
   case w6=>exact rfl
   intro K hK
   simp only[FL]
   go_simp
   refine hK _ _ ⟨.int .i64 (-1),by simp only[FL,f10,f13] <;> kernel_rfl,Below.refl _ _,rfl,nF⟩
  ·intro xs K7 c0 b0
   have y6:=zz c0;have L7:=c0.size;clear c0
   have f10:(xs 10)=.bool true:=b0 _ (m_ 10 rfl) (by kernel_rfl)
   have f13:(xs 13)=.tuple #[.int .i64 (-1),.int .i64 0]:=b0 _ (m_ 13 rfl) (by kernel_rfl)
   clear b0
   refine wpOp_step (o:=?go178) ?A6 ?gh178
   case A6=>exact rfl
   intro K hK
   simp only[FL]
   go_simp
   refine hK _ _ ⟨.int .i64 0,by simp only[FL,f10,f13] <;> kernel_rfl,Below.refl _ _,rfl,nF⟩
  ·intro xs B5 c0 b0
   have C6:=zz c0;have M7:=c0.size;clear c0
   have f10:(xs 10)=.bool true:=b0 _ (m_ 10 rfl) (by kernel_rfl)
   have f11:∃ N,(xs 11)=.func (.func 111) #[] #[.pointer (some ⟨N,0,none⟩)]∧One B5 N 3 (.int .i64 (-1)):=b0 _ (m_ 11 rfl) (by kernel_rfl)
   have f14:(xs 14)=.int .i64 (-1):=b0 _ (m_ 14 rfl) (by kernel_rfl)
   have f15:(xs 15)=.int .i64 0:=b0 _ (m_ 15 rfl) (by kernel_rfl)
   clear b0
   refine wpOp_step (o:=?go179) ?D6 ?gh179
   case D6=>exact rfl
   intro K hK
   simp only[FL]
   obtain⟨N,hN,hO⟩:=f11;rw[hN]
   have HO:=zz hO;clear hO
   go_simp
   (with_reducible refine(saysQ_yes HO.out).mono ?_)
   rintro e wc180 ⟨C5,rfl⟩
   refine hK _ _ ⟨.bool true,by simp only[FL,f10,f14,f15,hN] <;> kernel_rfl,C5,rfl,nF⟩
  ·intro xs N7 c0 b0
   have E6:=zz c0;have O7:=c0.size;clear c0
   have f10:(xs 10)=.bool true:=b0 _ (m_ 10 rfl) (by kernel_rfl)
   have f16:(xs 16)=.bool true:=b0 _ (m_ 16 rfl) (by kernel_rfl)
   clear b0
   refine wpOp_step (o:=_) rfl (fun K hK=>?_)
   simp only[FL]
   go_simp
   refine hK _ _ ⟨.bool true,by simp only[FL,f10,f16] <;> kernel_rfl,Below.refl _ _,rfl,nF⟩
  ·intro xs P7 c0 b0
   have F6:=zz c0;have Q7:=c0.size;clear c0
   have f17:(xs 17)=.bool true:=b0 _ (m_ 17 rfl) (by kernel_rfl)
   clear b0
   refine wpOp_step (o:=_) rfl (fun K hK=>?_)
   simp only[FL]
   go_simp
   refine hK _ _ ⟨.bool true,by simp only[FL,f17] <;> kernel_rfl,Below.refl _ _,rfl,nF⟩
  ·intro xs R7 c0 b0
   have I4:=zz c0;have S7:=c0.size;clear c0
   have f18:(xs 18)=.bool true:=b0 _ (m_ 18 rfl) (by kernel_rfl)
   clear b0
   refine wpOp_step (o:=?go183) ?G6 ?gh183
   case G6=>exact rfl
   intro K hK
   simp only[FL]
   have Y0:=CB.step E4 I4.out
   have H6:=Y0.cell 0 rfl
   have I6:=Y0.cell 1 rfl
   go_simp
   refine hK _ _ ⟨.agg #[.bool n151,.slice Ad151 l151 c151],by simp only[FL,f18] <;> kernel_rfl,Below.refl _ _,rfl,nF⟩
  ·intro xs T7 c0 b0
   have J6:=zz c0;have U7:=c0.size;clear c0
   have f18:(xs 18)=.bool true:=b0 _ (m_ 18 rfl) (by kernel_rfl)
   clear b0
   refine wpOp_step (o:=?go186) ?K6 ?gh186
   case K6=>exact rfl
   intro K hK
   simp only[FL]
   go_simp
   (with_reducible refine(Of_any _ (-1) (by decide) (by decide)).mono ?_)
   rintro e wc187 ⟨D5,v187,rfl,E5⟩
   refine hK _ _ ⟨v187,by simp only[FL,f18] <;> kernel_rfl,D5,E5,nF⟩
  ·intro xs Z1 c0 b0
   have J4:=zz c0;have V7:=c0.size;clear c0
   have f18:(xs 18)=.bool true:=b0 _ (m_ 18 rfl) (by kernel_rfl)
   have f19:(xs 19)=.agg #[.bool n151,.slice Ad151 l151 c151]:=b0 _ (m_ 19 rfl) (by kernel_rfl)
   have f20:LV Z1 Z1.heap.size (xs 20) (-1):=b0 _ (m_ 20 rfl) (by kernel_rfl)
   clear b0
   refine wpOp_step (o:=?go188) ?L6 ?gh188
   case L6=>exact rfl
   intro K hK
   simp only[FL]
   have P3_5_189:=zz (B153.out.trans (J4.out.mono B153.out.size))
   have I3:=zz (LV.step H3.out P3_5_189.out)
   go_simp
   (with_reducible refine(SameL_yes I3.out f20).mono ?_)
   rintro e wc191 ⟨F5,rfl⟩
   refine hK _ _ ⟨.bool true,by simp only[FL,f18,f19] <;> kernel_rfl,F5,rfl,nF⟩
  ·intro xs W7 c0 b0
   have M6:=zz c0;have X7:=c0.size;clear c0
   have f18:(xs 18)=.bool true:=b0 _ (m_ 18 rfl) (by kernel_rfl)
   have f21:(xs 21)=.bool true:=b0 _ (m_ 21 rfl) (by kernel_rfl)
   clear b0
   refine wpOp_step (o:=_) rfl (fun K hK=>?_)
   simp only[FL]
   go_simp
   refine hK _ _ ⟨.bool true,by simp only[FL,f18,f21] <;> kernel_rfl,Below.refl _ _,rfl,nF⟩
  ·intro xs Y7 c0 b0
   have N6:=zz c0;have Z7:=c0.size;clear c0
   have f22:(xs 22)=.bool true:=b0 _ (m_ 22 rfl) (by kernel_rfl)
   clear b0
   refine wpOp_step (o:=_) rfl (fun K hK=>?_)
   simp only[FL]
   go_simp
   refine hK _ _ ⟨.bool true,by simp only[FL,f22] <;> kernel_rfl,Below.refl _ _,rfl,nF⟩
  ·intro xs a8 c0 b0
   have O6:=zz c0;have b8:=c0.size;clear c0
   have f23:(xs 23)=.bool true:=b0 _ (m_ 23 rfl) (by kernel_rfl)
   clear b0
   refine wpOp_step (o:=?go194) ?P6 ?gh194
   case P6=>exact rfl
   intro K hK
   simp only[FL]
   go_simp
   refine hK _ _ ⟨.int .i64 0,by simp only[FL,f23] <;> kernel_rfl,Below.refl _ _,rfl,nF⟩
  ·intro xs c8 c0 b0
   have Q6:=zz c0;have d8:=c0.size;clear c0
   have f23:(xs 23)=.bool true:=b0 _ (m_ 23 rfl) (by kernel_rfl)
   have f24:(xs 24)=.int .i64 0:=b0 _ (m_ 24 rfl) (by kernel_rfl)
   clear b0
   refine wpOp_step (o:=?go195) ?R6 ?gh195
   case R6=>exact rfl
   intro K hK
   simp only[FL]
   go_simp
   refine hK _ _ ⟨.bool true,by simp only[FL,f23,f24] <;> kernel_rfl,Below.refl _ _,rfl,nF⟩
  ·intro xs e8 c0 b0
   have S6:=zz c0;have g8:=c0.size;clear c0
   have f23:(xs 23)=.bool true:=b0 _ (m_ 23 rfl) (by kernel_rfl)
   have f25:(xs 25)=.bool true:=b0 _ (m_ 25 rfl) (by kernel_rfl)
   clear b0
   refine wpOp_step (o:=_) rfl (fun K hK=>?_)
   simp only[FL]
   go_simp
   refine hK _ _ ⟨.bool true,by simp only[FL,f23,f25] <;> kernel_rfl,Below.refl _ _,rfl,nF⟩
  ·intro xs h8 c0 b0
   have T6:=zz c0;have i8:=c0.size;clear c0
   have f26:(xs 26)=.bool true:=b0 _ (m_ 26 rfl) (by kernel_rfl)
   clear b0
   refine wpOp_step (o:=_) rfl (fun K hK=>?_)
   simp only[FL]
   go_simp
   refine hK _ _ ⟨.bool true,by simp only[FL,f26] <;> kernel_rfl,Below.refl _ _,rfl,nF⟩
  ·intro xs j8 c0 b0
   have U6:=zz c0;have k8:=c0.size;clear c0
   have f27:(xs 27)=.bool true:=b0 _ (m_ 27 rfl) (by kernel_rfl)
   clear b0
   refine wpOp_step (o:=?go198) ?V6 ?gh198
   case V6=>exact rfl
   intro K hK
   simp only[FL]
   go_simp
   (with_reducible refine(failsQ_new _ 7).mono ?_)
   rintro e wc199 ⟨G5,N199,rfl,hN199⟩
   refine hK _ _ ⟨.func (.func 96) #[] #[.pointer (some ⟨N199,0,none⟩)],by simp only[FL,f27] <;> kernel_rfl,G5,⟨N199,rfl,hN199⟩,nF⟩
  ·intro xs l8 c0 b0
   have K4:=zz c0;have m8:=c0.size;clear c0
   have f27:(xs 27)=.bool true:=b0 _ (m_ 27 rfl) (by kernel_rfl)
   clear b0
   refine wpOp_step (o:=?go200) ?W6 ?gh200
   case W6=>exact rfl
   intro K hK
   simp only[FL]
   go_simp
   (with_reducible refine(ofQ_lit _ ⟨#[49]⟩ (mkRat 1 1) plit_49 (by decide +kernel) (M.step (d0.out.trans (K4.out.mono d0.out.size)))).mono ?_)
   rintro e wc201 ⟨H5,v201,rfl,I5⟩
   refine hK _ _ ⟨v201,by simp only[FL,f27] <;> kernel_rfl,H5,I5,nF⟩
  ·intro xs n8 c0 b0
   have L4:=zz c0;have o8:=c0.size;clear c0
   have f27:(xs 27)=.bool true:=b0 _ (m_ 27 rfl) (by kernel_rfl)
   clear b0
   refine wpOp_step (o:=?go202) ?X6 ?gh202
   case X6=>exact rfl
   intro K hK
   simp only[FL]
   go_simp
   (with_reducible refine(ofQ_lit _ ⟨#[48]⟩ (mkRat 0 1) plit_48 (by decide +kernel) (M.step (d0.out.trans (L4.out.mono d0.out.size)))).mono ?_)
   rintro e wc203 ⟨J5,v203,rfl,K5⟩
   refine hK _ _ ⟨v203,by simp only[FL,f27] <;> kernel_rfl,J5,K5,nF⟩
  ·intro xs p0 c0 b0
   have Y6:=zz c0;have p8:=c0.size;clear c0
   have f27:(xs 27)=.bool true:=b0 _ (m_ 27 rfl) (by kernel_rfl)
   have f29:QV p0 p0.heap.size (xs 29) (mkRat 1 1):=b0 _ (m_ 29 rfl) (by kernel_rfl)
   have f30:QV p0 p0.heap.size (xs 30) (mkRat 0 1):=b0 _ (m_ 30 rfl) (by kernel_rfl)
   clear b0
   refine wpOp_step (o:=?go204) ?Z6 ?gh204
   case Z6=>exact rfl
   intro K hK
   simp only[FL]
   go_simp
   (with_reducible refine(QDiv_zero f29 f30 (lit_QL (x:=1) (d:=1) (by decide) (by decide +kernel) (by decide +kernel) (by decide +kernel)) (lit_QL (x:=0) (d:=1) (by decide) (by decide +kernel) (by decide +kernel) (by decide +kernel))).mono ?_)
   rintro e wc205 ⟨L5,v205,rfl,M5⟩
   refine hK _ _ ⟨.tuple #[v205,.int .i64 7],by simp only[FL,f27] <;> kernel_rfl,L5,⟨v205,rfl,M5⟩,nF⟩
  ·intro xs a2 c0 b0
   have a7:=zz c0;have q8:=c0.size;clear c0
   have f27:(xs 27)=.bool true:=b0 _ (m_ 27 rfl) (by kernel_rfl)
   have f31:∃ u,(xs 31)=.tuple #[u,.int .i64 7]∧QR a2 a2.heap.size u false [] false []:=b0 _ (m_ 31 rfl) (by kernel_rfl)
   clear b0
   refine wpOp_step (o:=?go206) ?b7 ?gh206
   case b7=>exact rfl
   intro K hK
   simp only[FL]
   obtain⟨u,hu,hl⟩:=f31;rw[hu]
   go_simp
   refine hK _ _ ⟨u,by simp only[FL,f27,hu] <;> kernel_rfl,Below.refl _ _,hl,nF⟩
  ·intro xs b2 c0 b0
   have c7:=zz c0;have r8:=c0.size;clear c0
   have f27:(xs 27)=.bool true:=b0 _ (m_ 27 rfl) (by kernel_rfl)
   have f31:∃ u,(xs 31)=.tuple #[u,.int .i64 7]∧QR b2 b2.heap.size u false [] false []:=b0 _ (m_ 31 rfl) (by kernel_rfl)
   clear b0
   refine wpOp_step (o:=?go207) ?d7 ?gh207
   case d7=>exact rfl
   intro K hK
   simp only[FL]
   obtain⟨u,hu,-⟩:=f31;rw[hu]
   go_simp
   refine hK _ _ ⟨.int .i64 7,by simp only[FL,f27,hu] <;> kernel_rfl,Below.refl _ _,rfl,nF⟩
  ·intro xs C0 c0 b0
   have e7:=zz c0;have s8:=c0.size;clear c0
   have f27:(xs 27)=.bool true:=b0 _ (m_ 27 rfl) (by kernel_rfl)
   have f28:∃ N,(xs 28)=.func (.func 96) #[] #[.pointer (some ⟨N,0,none⟩)]∧One C0 N 38 (.int .i64 7):=b0 _ (m_ 28 rfl) (by kernel_rfl)
   have f32:QR C0 C0.heap.size (xs 32) false [] false []:=b0 _ (m_ 32 rfl) (by kernel_rfl)
   have f33:(xs 33)=.int .i64 7:=b0 _ (m_ 33 rfl) (by kernel_rfl)
   clear b0
   refine wpOp_step (o:=?go208) ?g7 ?gh208
   case g7=>exact rfl
   intro K hK
   simp only[FL]
   obtain⟨N,hN,hO⟩:=f28;rw[hN]
   have HO:=zz hO;clear hO
   go_simp
   (with_reducible refine(failsQ_yes HO.out f32).mono ?_)
   rintro e wc209 ⟨N5,rfl⟩
   refine hK _ _ ⟨.bool true,by simp only[FL,f27,f33,hN] <;> kernel_rfl,N5,rfl,nF⟩
  ·intro xs t8 c0 b0
   have h7:=zz c0;have u8:=c0.size;clear c0
   have f27:(xs 27)=.bool true:=b0 _ (m_ 27 rfl) (by kernel_rfl)
   have f34:(xs 34)=.bool true:=b0 _ (m_ 34 rfl) (by kernel_rfl)
   clear b0
   refine wpOp_step (o:=_) rfl (fun K hK=>?_)
   simp only[FL]
   go_simp
   refine hK _ _ ⟨.bool true,by simp only[FL,f27,f34] <;> kernel_rfl,Below.refl _ _,rfl,nF⟩
 ·exact all_nil
 ·intro xs wf211 hbf hf hn hd
  have f0:(xs 0)=.bool true:=hf _ (m_ 0 rfl)
  have f1:(xs 1)=.bool true:=hf _ (m_ 1 rfl)
  have f2:∃ N,(xs 2)=.func (.func 111) #[] #[.pointer (some ⟨N,0,none⟩)]∧One wf211 N 3 (.int .i64 (-1)):=hf _ (m_ 2 rfl)
  have f3:QV wf211 wf211.heap.size (xs 3) (mkRat 1 3):=hf _ (m_ 3 rfl)
  have f4:QV wf211 wf211.heap.size (xs 4) (mkRat 1 2):=hf _ (m_ 4 rfl)
  have f5:(xs 5)=.tuple #[.int .i64 (-1),.int .i64 0]:=hf _ (m_ 5 rfl)
  have f6:(xs 6)=.int .i64 (-1):=hf _ (m_ 6 rfl)
  have f7:(xs 7)=.int .i64 0:=hf _ (m_ 7 rfl)
  have f8:(xs 8)=.bool true:=hf _ (m_ 8 rfl)
  have f9:(xs 9)=.bool true:=hf _ (m_ 9 rfl)
  have f10:(xs 10)=.bool true:=hf _ (m_ 10 rfl)
  have f11:∃ N,(xs 11)=.func (.func 111) #[] #[.pointer (some ⟨N,0,none⟩)]∧One wf211 N 3 (.int .i64 (-1)):=hf _ (m_ 11 rfl)
  have f12:QV wf211 wf211.heap.size (xs 12) (mkRat (-1) 2):=hf _ (m_ 12 rfl)
  have f13:(xs 13)=.tuple #[.int .i64 (-1),.int .i64 0]:=hf _ (m_ 13 rfl)
  have f14:(xs 14)=.int .i64 (-1):=hf _ (m_ 14 rfl)
  have f15:(xs 15)=.int .i64 0:=hf _ (m_ 15 rfl)
  have f16:(xs 16)=.bool true:=hf _ (m_ 16 rfl)
  have f17:(xs 17)=.bool true:=hf _ (m_ 17 rfl)
  have f18:(xs 18)=.bool true:=hf _ (m_ 18 rfl)
  have f19:(xs 19)=.agg #[.bool n151,.slice Ad151 l151 c151]:=hf _ (m_ 19 rfl)
  have f20:LV wf211 wf211.heap.size (xs 20) (-1):=hf _ (m_ 20 rfl)
  have f21:(xs 21)=.bool true:=hf _ (m_ 21 rfl)
  have f22:(xs 22)=.bool true:=hf _ (m_ 22 rfl)
  have f23:(xs 23)=.bool true:=hf _ (m_ 23 rfl)
  have f24:(xs 24)=.int .i64 0:=hf _ (m_ 24 rfl)
  have f25:(xs 25)=.bool true:=hf _ (m_ 25 rfl)
  have f26:(xs 26)=.bool true:=hf _ (m_ 26 rfl)
  have f27:(xs 27)=.bool true:=hf _ (m_ 27 rfl)
  have f28:∃ N,(xs 28)=.func (.func 96) #[] #[.pointer (some ⟨N,0,none⟩)]∧One wf211 N 38 (.int .i64 7):=hf _ (m_ 28 rfl)
  have f29:QV wf211 wf211.heap.size (xs 29) (mkRat 1 1):=hf _ (m_ 29 rfl)
  have f30:QV wf211 wf211.heap.size (xs 30) (mkRat 0 1):=hf _ (m_ 30 rfl)
  have f31:∃ u,(xs 31)=.tuple #[u,.int .i64 7]∧QR wf211 wf211.heap.size u false [] false []:=hf _ (m_ 31 rfl)
  have f32:QR wf211 wf211.heap.size (xs 32) false [] false []:=hf _ (m_ 32 rfl)
  have f33:(xs 33)=.int .i64 7:=hf _ (m_ 33 rfl)
  have f34:(xs 34)=.bool true:=hf _ (m_ 34 rfl)
  have f35:(xs 35)=.bool true:=hf _ (m_ 35 rfl)
  clear hf hn hd
  simp only[FL]
  have B212:=zz hbf
  have z212:=B212.out.size
  have c2:=zz (d0.out.trans (B212.out.mono d0.out.size))
  clear hbf
  generalize xs 0=x0,xs 1=x1,xs 2=x2,xs 3=x3,xs 4=x4,xs 5=x5,xs 6=x6,xs 7=x7,xs 8=x8,xs 9=x9,xs 10=x10,xs 11=x11,xs 12=x12,xs 13=x13,xs 14=x14,xs 15=x15,xs 16=x16,xs 17=x17,xs 18=x18,xs 19=x19,xs 20=x20,xs 21=x21,xs 22=x22,xs 23=x23,xs 24=x24,xs 25=x25,xs 26=x26,xs 27=x27,xs 28=x28,xs 29=x29,xs 30=x30,xs 31=x31,xs 32=x32,xs 33=x33,xs 34=x34,xs 35=x35 at *
  obtain rfl:=f0
  obtain rfl:=f1
  clear f2
  clear f3
  clear f4
  obtain rfl:=f5
  obtain rfl:=f6
  obtain rfl:=f7
  obtain rfl:=f8
  obtain rfl:=f9
  obtain rfl:=f10
  clear f11
  clear f12
  obtain rfl:=f13
  obtain rfl:=f14
  obtain rfl:=f15
  obtain rfl:=f16
  obtain rfl:=f17
  obtain rfl:=f18
  obtain rfl:=f19
  clear f20
  obtain rfl:=f21
  obtain rfl:=f22
  obtain rfl:=f23
  obtain rfl:=f24
  obtain rfl:=f25
  obtain rfl:=f26
  obtain rfl:=f27
  clear f28
  clear f29
  clear f30
  clear f31
  clear f32
  obtain rfl:=f33
  obtain rfl:=f34
  obtain rfl:=f35
  refine Early.next (i:=36) (by kernel_rfl) rfl (fun K hK=>?_)
  go_simp
  refine hK _ _ (fun _=>trivial) ?_
  clear hK K
  (try simp only[Act.put,List.setIfInBounds_toArray,List.set_cons_zero,List.set_cons_succ])
  refine Early.done (by kernel_rfl) ?_ _
  (try simp only[Exit.then])
  go_wp2_with fail
  refine(spansQ_new _ 1431655765 1431655766).mono ?_
  rintro e w215 ⟨d2,N214,N214',rfl,hN214,hN214'⟩
  have B216:=zz d2
  have z216:=B216.out.size
  have D0:=zz (c2.out.trans (B216.out.mono c2.out.size))
  clear d2
  go_wp2_with fail
  refine(ofQ_lit _ ⟨#[49,47,51]⟩ (mkRat 1 3) plit_49_47_51 (by decide +kernel) (M.step D0.out)).mono ?_
  rintro e w219 ⟨e2,v218,rfl,g2⟩
  have B220:=zz e2
  have z220:=B220.out.size
  have E0:=zz (D0.out.trans (B220.out.mono D0.out.size))
  clear e2
  have M4:=zz g2;clear g2
  go_wp2_with fail
  refine(QSpan_lit M4.out (lit_QL (x:=1) (d:=3) (by decide) (by decide +kernel) (by decide +kernel) (by decide +kernel)) (r:=((1431655765,1431655766),0)) (by decide +kernel) (G.step E0.out)).mono ?_
  rintro e w223 ⟨h2,rfl⟩
  have B224:=zz h2
  have z224:=B224.out.size
  have j2:=zz (E0.out.trans (B224.out.mono E0.out.size))
  clear h2
  have P2_4_227:=zz (B220.out.trans (B224.out.mono B220.out.size))
  have Z0:=One.step hN214 P2_4_227.out
  have u0:=One.step hN214' P2_4_227.out
  go_wp2_with fail
  refine(spansQ_yes Z0 u0).mono ?_
  rintro e w229 ⟨k2,rfl⟩
  have B230:=zz k2
  have z230:=B230.out.size
  have l2:=zz (j2.out.trans (B230.out.mono j2.out.size))
  clear k2
  clear u0
  clear Z0
  go_wp2_with fail
  refine(spansQ_new _ (-12884901888) (-12884901888)).mono ?_
  rintro e w233 ⟨m2,N232,N232',rfl,hN232,hN232'⟩
  have B234:=zz m2
  have z234:=B234.out.size
  have F0:=zz (l2.out.trans (B234.out.mono l2.out.size))
  clear m2
  go_wp2_with fail
  refine(ofQ_lit _ ⟨#[45,51]⟩ (mkRat (-3) 1) plit_45_51 (by decide +kernel) (M.step F0.out)).mono ?_
  rintro e w237 ⟨n2,v236,rfl,o2⟩
  have B238:=zz n2
  have z238:=B238.out.size
  have G0:=zz (F0.out.trans (B238.out.mono F0.out.size))
  clear n2
  have N4:=zz o2;clear o2
  go_wp2_with fail
  refine(QSpan_lit N4.out (lit_QL (x:=(-3)) (d:=1) (by decide) (by decide +kernel) (by decide +kernel) (by decide +kernel)) (r:=(((-12884901888),(-12884901888)),0)) (by decide +kernel) (G.step G0.out)).mono ?_
  rintro e w241 ⟨p2,rfl⟩
  have B242:=zz p2
  have z242:=B242.out.size
  have q2:=zz (G0.out.trans (B242.out.mono G0.out.size))
  clear p2
  have P2_4_245:=zz (B238.out.trans (B242.out.mono B238.out.size))
  have a1:=One.step hN232 P2_4_245.out
  have v0:=One.step hN232' P2_4_245.out
  go_wp2_with fail
  refine(spansQ_yes a1 v0).mono ?_
  rintro e w247 ⟨r2,rfl⟩
  have B248:=zz r2
  have z248:=B248.out.size
  have t2:=zz (q2.out.trans (B248.out.mono q2.out.size))
  clear r2
  clear v0
  clear a1
  go_wp2_with fail
  refine(saysQ_new _ 1).mono ?_
  rintro e w251 ⟨u2,N250,rfl,hN250⟩
  have B252:=zz u2
  have z252:=B252.out.size
  have H0:=zz (t2.out.trans (B252.out.mono t2.out.size))
  clear u2
  go_wp2_with fail
  refine(ofQ_lit _ ⟨#[49,47,50]⟩ (mkRat 1 2) plit_49_47_50 (by decide +kernel) (M.step H0.out)).mono ?_
  rintro e w255 ⟨y2,v254,rfl,z2⟩
  have B256:=zz y2
  have z256:=B256.out.size
  have I0:=zz (H0.out.trans (B256.out.mono H0.out.size))
  clear y2
  have O4:=zz z2;clear z2
  go_wp2_with fail
  refine(QNear_lit O4.out (lit_QL (x:=1) (d:=2) (by decide) (by decide +kernel) (by decide +kernel) (by decide +kernel)) (s:=1) (r:=(1,0)) (by decide +kernel) (G.step I0.out)).mono ?_
  rintro e w259 ⟨A2,rfl⟩
  have B260:=zz A2
  have z260:=B260.out.size
  have B2:=zz (I0.out.trans (B260.out.mono I0.out.size))
  clear A2
  have P2_4_263:=zz (B256.out.trans (B260.out.mono B256.out.size))
  have b1:=One.step hN250 P2_4_263.out
  go_wp2_with fail
  refine(saysQ_yes b1).mono ?_
  rintro e w264 ⟨C2,rfl⟩
  have B265:=zz C2
  have z265:=B265.out.size
  have D2:=zz (B2.out.trans (B265.out.mono B2.out.size))
  clear C2
  clear b1
  go_wp2_with fail
  refine(saysQ_new _ 0).mono ?_
  rintro e w268 ⟨E2,N267,rfl,hN267⟩
  have B269:=zz E2
  have z269:=B269.out.size
  have J0:=zz (D2.out.trans (B269.out.mono D2.out.size))
  clear E2
  go_wp2_with fail
  refine(ofQ_lit _ ⟨#[45,49,47,50]⟩ (mkRat (-1) 2) plit_45_49_47_50 (by decide +kernel) (M.step J0.out)).mono ?_
  rintro e w272 ⟨F2,v271,rfl,G2⟩
  have B273:=zz F2
  have z273:=B273.out.size
  have K0:=zz (J0.out.trans (B273.out.mono J0.out.size))
  clear F2
  have P4:=zz G2;clear G2
  go_wp2_with fail
  refine(QNear_lit P4.out (lit_QL (x:=(-1)) (d:=2) (by decide) (by decide +kernel) (by decide +kernel) (by decide +kernel)) (s:=1) (r:=(0,0)) (by decide +kernel) (G.step K0.out)).mono ?_
  rintro e w276 ⟨H2,rfl⟩
  have B277:=zz H2
  have z277:=B277.out.size
  have I2:=zz (K0.out.trans (B277.out.mono K0.out.size))
  clear H2
  have P2_4_280:=zz (B273.out.trans (B277.out.mono B273.out.size))
  have c1:=One.step hN267 P2_4_280.out
  go_wp2_with fail
  refine(saysQ_yes c1).mono ?_
  rintro e w281 ⟨J2,rfl⟩
  have B282:=zz J2
  have z282:=B282.out.size
  have K2:=zz (I2.out.trans (B282.out.mono I2.out.size))
  clear J2
  clear c1
  go_wp2_with fail
  refine(saysQ_new _ 667).mono ?_
  rintro e w285 ⟨L2,N284,rfl,hN284⟩
  have B286:=zz L2
  have z286:=B286.out.size
  have L0:=zz (K2.out.trans (B286.out.mono K2.out.size))
  clear L2
  go_wp2_with fail
  refine(ofQ_lit _ ⟨#[50,47,51]⟩ (mkRat 2 3) plit_50_47_51 (by decide +kernel) (M.step L0.out)).mono ?_
  rintro e w289 ⟨M2,v288,rfl,N2⟩
  have B290:=zz M2
  have z290:=B290.out.size
  have M0:=zz (L0.out.trans (B290.out.mono L0.out.size))
  clear M2
  have Q4:=zz N2;clear N2
  go_wp2_with fail
  refine(QNear_lit Q4.out (lit_QL (x:=2) (d:=3) (by decide) (by decide +kernel) (by decide +kernel) (by decide +kernel)) (s:=1000) (r:=(667,0)) (by decide +kernel) (G.step M0.out)).mono ?_
  rintro e w293 ⟨O2,rfl⟩
  have B294:=zz O2
  have z294:=B294.out.size
  have P2:=zz (M0.out.trans (B294.out.mono M0.out.size))
  clear O2
  have P2_4_297:=zz (B290.out.trans (B294.out.mono B290.out.size))
  have d1:=One.step hN284 P2_4_297.out
  go_wp2_with fail
  refine(saysQ_yes d1).mono ?_
  rintro e w298 ⟨Q2,rfl⟩
  have B299:=zz Q2
  have z299:=B299.out.size
  have N0:=zz (P2.out.trans (B299.out.mono P2.out.size))
  clear Q2
  clear d1
  go_wp2_with fail
  refine(ofQ_lit _ ⟨#[49]⟩ (mkRat 1 1) plit_49 (by decide +kernel) (M.step N0.out)).mono ?_
  rintro e w302 ⟨R2,v301,rfl,S2⟩
  have B303:=zz R2
  have z303:=B303.out.size
  have O0:=zz (N0.out.trans (B303.out.mono N0.out.size))
  clear R2
  have R4:=zz S2;clear S2
  go_wp2_with fail
  refine(QNear_lit R4.out (lit_QL (x:=1) (d:=1) (by decide) (by decide +kernel) (by decide +kernel) (by decide +kernel)) (s:=0) (r:=(0,2)) (by decide +kernel) (G.step O0.out)).mono ?_
  rintro e w306 ⟨T2,rfl⟩
  have B307:=zz T2
  have z307:=B307.out.size
  have U2:=zz (O0.out.trans (B307.out.mono O0.out.size))
  clear T2
  go_upto_region 6 with (fail)
  have i0:=idx4_0
  have i1:=idx4_1
  have i2:=idx4_2
  have i3:=idx4_3
  go_wp2
  go_loopw [151] (fun i wr=>∃ j:Nat,j≤4∧i=.int .i64 j∧Hid (Below w.heap.size w wr)) (fun i _=>4-(intOf i).toNat)
  case atStart=>exact⟨0,by omega,rfl,U2⟩
  case round=>
   clear U2
   obtain⟨j,hj,rfl,HBI⟩:=hrel
   have hj3:j=0∨j=1∨j=2∨j=3∨j=4:=by omega
   rcases hj3 with rfl | rfl | rfl | rfl | rfl
   ·rw[show((0:Nat):Int)=0 from rfl]
    go_wp2_with fail
    refine(failsQ_new _ 5).mono ?_
    rintro e w310 ⟨V2,N309,rfl,hN309⟩
    have B311:=zz V2
    have z311:=B311.out.size
    have P0:=zz (HBI.out.trans (B311.out.mono HBI.out.size))
    clear V2
    go_wp2_with fail
    refine(QParse_any _ ⟨#[50,47,52]⟩ (by decide +kernel) (M.step P0.out)).mono ?_
    rintro e w314 ⟨W2,v313,rfl,j0⟩
    have B315:=zz W2
    have z315:=B315.out.size
    have X2:=zz (P0.out.trans (B315.out.mono P0.out.size))
    clear W2
    have heq313:=bad0;rw[heq313] at j0;rw[heq313];clear heq313
    replace j0:QR w314 w314.heap.size v313 false [] false []:=j0
    have S4:=zz j0;clear j0
    have e1:=One.step hN309 B315.out
    go_wp2_with fail
    refine(failsQ_yes e1 S4.out).mono ?_
    rintro e w319 ⟨Y2,rfl⟩
    have B320:=zz Y2
    have z320:=B320.out.size
    have O5:=zz (X2.out.trans (B320.out.mono X2.out.size))
    clear Y2
    clear e1
    go_wp2
    go_roundw
    case rel=>exact⟨1,by omega,rfl,zz O5.out⟩
    case measure=>simp[intOf]
   ·rw[show((1:Nat):Int)=1 from rfl]
    go_wp2_with fail
    refine(failsQ_new _ 5).mono ?_
    rintro e w323 ⟨Z2,N322,rfl,hN322⟩
    have B324:=zz Z2
    have z324:=B324.out.size
    have Q0:=zz (HBI.out.trans (B324.out.mono HBI.out.size))
    clear Z2
    go_wp2_with fail
    refine(QParse_any _ ⟨#[51,47,49]⟩ (by decide +kernel) (M.step Q0.out)).mono ?_
    rintro e w327 ⟨a3,v326,rfl,k0⟩
    have B328:=zz a3
    have z328:=B328.out.size
    have b3:=zz (Q0.out.trans (B328.out.mono Q0.out.size))
    clear a3
    have heq326:=bad1;rw[heq326] at k0;rw[heq326];clear heq326
    replace k0:QR w327 w327.heap.size v326 false [] false []:=k0
    have T4:=zz k0;clear k0
    have g1:=One.step hN322 B328.out
    go_wp2_with fail
    refine(failsQ_yes g1 T4.out).mono ?_
    rintro e w332 ⟨c3,rfl⟩
    have B333:=zz c3
    have z333:=B333.out.size
    have P5:=zz (b3.out.trans (B333.out.mono b3.out.size))
    clear c3
    clear g1
    go_wp2
    go_roundw
    case rel=>exact⟨2,by omega,rfl,zz P5.out⟩
    case measure=>simp[intOf]
   ·rw[show((2:Nat):Int)=2 from rfl]
    go_wp2_with fail
    refine(failsQ_new _ 5).mono ?_
    rintro e w336 ⟨d3,N335,rfl,hN335⟩
    have B337:=zz d3
    have z337:=B337.out.size
    have R0:=zz (HBI.out.trans (B337.out.mono HBI.out.size))
    clear d3
    go_wp2_with fail
    refine(QParse_any _ ⟨#[49,47,45,50]⟩ (by decide +kernel) (M.step R0.out)).mono ?_
    rintro e w340 ⟨e3,v339,rfl,l0⟩
    have B341:=zz e3
    have z341:=B341.out.size
    have g3:=zz (R0.out.trans (B341.out.mono R0.out.size))
    clear e3
    have heq339:=bad2;rw[heq339] at l0;rw[heq339];clear heq339
    replace l0:QR w340 w340.heap.size v339 false [] false []:=l0
    have U4:=zz l0;clear l0
    have h1:=One.step hN335 B341.out
    go_wp2_with fail
    refine(failsQ_yes h1 U4.out).mono ?_
    rintro e w345 ⟨h3,rfl⟩
    have B346:=zz h3
    have z346:=B346.out.size
    have Q5:=zz (g3.out.trans (B346.out.mono g3.out.size))
    clear h3
    clear h1
    go_wp2
    go_roundw
    case rel=>exact⟨3,by omega,rfl,zz Q5.out⟩
    case measure=>simp[intOf]
   ·rw[show((3:Nat):Int)=3 from rfl]
    go_wp2_with fail
    refine(failsQ_new _ 5).mono ?_
    rintro e w349 ⟨j3,N348,rfl,hN348⟩
    have B350:=zz j3
    have z350:=B350.out.size
    have S0:=zz (HBI.out.trans (B350.out.mono HBI.out.size))
    clear j3
    go_wp2_with fail
    refine(QParse_any _ ⟨#[49,47]⟩ (by decide +kernel) (M.step S0.out)).mono ?_
    rintro e w353 ⟨k3,v352,rfl,m0⟩
    have B354:=zz k3
    have z354:=B354.out.size
    have l3:=zz (S0.out.trans (B354.out.mono S0.out.size))
    clear k3
    have heq352:=bad3;rw[heq352] at m0;rw[heq352];clear heq352
    replace m0:QR w353 w353.heap.size v352 false [] false []:=m0
    have V4:=zz m0;clear m0
    have j1:=One.step hN348 B354.out
    go_wp2_with fail
    refine(failsQ_yes j1 V4.out).mono ?_
    rintro e w358 ⟨m3,rfl⟩
    have B359:=zz m3
    have z359:=B359.out.size
    have R5:=zz (l3.out.trans (B359.out.mono l3.out.size))
    clear m3
    clear j1
    go_wp2
    go_roundw
    case rel=>exact⟨4,by omega,rfl,zz R5.out⟩
    case measure=>simp[intOf]
   ·rw[show((4:Nat):Int)=4 from rfl]
    go_wp2_with fail
    refine(isQ_new _ ⟨#[51,47,50]⟩).mono ?_
    rintro e w362 ⟨n3,N361,rfl,hN361⟩
    have B363:=zz n3
    have z363:=B363.out.size
    have T0:=zz (HBI.out.trans (B363.out.mono HBI.out.size))
    clear n3
    go_wp2_with fail
    refine(QParse_any _ ⟨#[51,47,50]⟩ (by decide +kernel) (M.step T0.out)).mono ?_
    rintro e w366 ⟨o3,v365,rfl,n0⟩
    have B367:=zz o3
    have z367:=B367.out.size
    have U0:=zz (T0.out.trans (B367.out.mono T0.out.size))
    clear o3
    have heq365:=plit_51_47_50;rw[heq365] at n0;rw[heq365];clear heq365
    replace n0:QV w366 w366.heap.size v365 (mkRat 3 2):=n0
    have W4:=zz n0;clear n0
    have k1:=One.step hN361 B367.out
    go_wp2_with fail
    refine(isQ_yes k1 W4.out (lit_QL (x:=3) (d:=2) (by decide) (by decide +kernel) (by decide +kernel) (by decide +kernel)) (lit_frac (s1:=[51]) (s2:=[50]) (x:=3) (d:=2) (by decide +kernel) (by decide +kernel) (by decide) (by decide +kernel)) (G.step U0.out)).mono ?_
    rintro e w371 ⟨p3,rfl⟩
    have B372:=zz p3
    have z372:=B372.out.size
    have q3:=zz (U0.out.trans (B372.out.mono U0.out.size))
    clear p3
    clear k1
    go_wp2_with fail
    refine(Of_any _ 2 (by decide) (by decide)).mono ?_
    rintro e w374 ⟨r3,v1,rfl,V5⟩
    have B375:=zz r3
    have z375:=B375.out.size
    have s3:=zz (q3.out.trans (B375.out.mono q3.out.size))
    clear r3
    obtain⟨n377,Ad377,l377,c377,rfl,t3⟩:=V5.opened
    have X4:=zz t3
    clear V5 t3
    go_wp2_with fail
    refine(Of_any _ 4 (by decide) (by decide)).mono ?_
    rintro e w378 ⟨u3,v2,rfl,W5⟩
    have B379:=zz u3
    have z379:=B379.out.size
    have w3:=zz (s3.out.trans (B379.out.mono s3.out.size))
    clear u3
    obtain⟨n381,Ad381,l381,c381,rfl,y3⟩:=W5.opened
    have Y4:=zz y3
    clear W5 y3
    go_wp2_with fail
    have Z4:=zz (LV.step X4.out B379.out)
    refine(QCheck_no (QR.of Z4.out Y4.out) (qOf_lit (by decide) (by decide) (by decide))).mono ?_
    rintro e w382 ⟨A3,rfl⟩
    have B384:=zz A3
    have z384:=B384.out.size
    have C3:=zz (w3.out.trans (B384.out.mono w3.out.size))
    clear A3
    go_wp2_with fail
    refine(Of_any _ 1 (by decide) (by decide)).mono ?_
    rintro e w386 ⟨D3,v3,rfl,X5⟩
    have B387:=zz D3
    have z387:=B387.out.size
    have E3:=zz (C3.out.trans (B387.out.mono C3.out.size))
    clear D3
    obtain⟨n389,Ad389,l389,c389,rfl,F3⟩:=X5.opened
    have a5:=zz F3
    clear X5 F3
    go_wp2_with fail
    refine(QCheck_no (QR.of a5.out (LV.zero _ _)) (qOf_lit (by decide) (by decide) (by decide))).mono ?_
    rintro e w390 ⟨G3,rfl⟩
    have B391:=zz G3
    have z391:=B391.out.size
    have S5:=zz (E3.out.trans (B391.out.mono E3.out.size))
    clear G3
    go_wp2
    go_ret
    exact⟨S5.out,rfl⟩
end Go.Proofs.YtioclokmbgmamaaGreatDoor
