/- The law package's works (layer 04; written by gen_qw.py). -/
import Derived.Test.YtngpibfakemmhaaGreatDoorQQ
namespace Go.Proofs.YtngpibfakemmhaaGreatDoor
open Go Go.RowKit Dig
theorem QFloor_lit {w:World} {v:Value} {q:Rat} {z:Int} (h:QV w w.heap.size v q) (l:QL 600 600 q) (hz:q.num / (q.den:Int)=z) (hl:z.natAbs<1000000000000000000000000000) :
  Calls Tryz.prog 25 #[v] w fun e w'=>Below w.heap.size w w'∧∃ u,e=.returned (.tuple #[u,.int .i64 0])∧LV w' w'.heap.size u z:=by
 have h1:=QFloor_good w v q h l;rw[hz,show toldZ z=(z,0) from if_pos (small_len hl)] at h1;exact h1
theorem QSign_lit {w:World} {v:Value} (q:Rat) {s:Int} (h:QV w w.heap.size v q) (l:QL 600 600 q) (hs:q.num.sign=s) :
  Calls Tryz.prog 23 #[v] w fun e w'=>Below w.heap.size w w'∧e=.returned (.tuple #[.int .i64 s,.int .i64 0]):=by
 have h1:=QSign_any w v _ _ _ _ h.qr;rw[qOf_rat q l.1 l.2,sgnQ,hs] at h1;exact h1
theorem QSpan_lit {w:World} {v:Value} {q:Rat} (h:QV w w.heap.size v q) (l:QL 600 600 q) {r:(Int × Int) × Int} (hr:spanQ (some q)=r) (G:Glob w) :
  Calls Tryz.prog 20 #[v] w fun e w'=>Below w.heap.size w w'∧e=.returned (.tuple #[.agg #[.int .i64 r.1.1,.int .i64 r.1.2],.int .i64 r.2]):=by
 have h1:=QSpan_good w v q h l G;rw[hr] at h1;exact h1
theorem QNear_lit {w:World} {v:Value} {q:Rat} (h:QV w w.heap.size v q) (l:QL 600 600 q) {s:Int} {r:Int × Int} (hr:nearQ (some q) s=r) (G:Glob w) :
  Calls Tryz.prog 22 #[v,.int .i64 s] w fun e w'=>Below w.heap.size w w'∧e=.returned (.tuple #[.int .i64 r.1,.int .i64 r.2]):=by
 have h1:=QNear_good w v q s h l G;rw[hr] at h1;exact h1
theorem QDiv_zero {w:World} {va vb:Value} {q r:Rat} (ha:QV w w.heap.size va q) (hb:QV w w.heap.size vb r) (lq:QL 600 600 q) (lr:QL 600 600 r) (h0:r=0:=by decide +kernel) :
  Calls Tryz.prog 13 #[va,vb] w fun e w'=>Below w.heap.size w w'∧∃ v,e=.returned (.tuple #[v,.int .i64 7])∧QR w' w'.heap.size v false [] false []:=by
 have h1:=QDiv_good w va vb q r ha hb lq lr;rw[show divQ q r=(none,7) from if_pos h0] at h1;exact h1
theorem SameL_yes {w:World} {va vb:Value} {z:Int} (ha:LV w w.heap.size va z) (hb:LV w w.heap.size vb z) :
  Calls Tryz.prog 28 #[va,vb] w fun e w'=>Below w.heap.size w w'∧e=.returned (.bool true):=by
 have h1:=Same_any w va vb _ _ _ _ ha hb;rw[decide_eq_true ⟨rfl,rfl⟩] at h1;exact h1
theorem qOf_lit {x y:Int} (hx:x.natAbs<1000000000000000000000000000) (hy:y.natAbs<1000000000000000000000000000) (h:¬ (0<y∧Nat.gcd x.natAbs y.natAbs=1)):qOf (decide (x<0)) (ni (dig x.natAbs)) (decide (y<0)) (ni (dig y.natAbs))=none:=
 (qOf_pair (small_len hx) (small_len hy)).trans (if_neg h)
theorem bad0:parseQ (ByteArray.mk #[50,47,52]).data.toList=(none,5):=by
 show parseQ ([50]++47 :: [52])=_
 rw[parseQ_two (by decide),lit_parse (s:=[50]) (z:=2) (by decide +kernel) (by decide),lit_parse (s:=[52]) (z:=4) (by decide +kernel) (by decide)]
 decide +kernel
theorem bad1:parseQ (ByteArray.mk #[51,47,49]).data.toList=(none,5):=by
 show parseQ ([51]++47 :: [49])=_
 rw[parseQ_two (by decide),lit_parse (s:=[51]) (z:=3) (by decide +kernel) (by decide),lit_parse (s:=[49]) (z:=1) (by decide +kernel) (by decide)]
 decide +kernel
theorem bad2:parseQ (ByteArray.mk #[49,47,45,50]).data.toList=(none,5):=by
 show parseQ ([49]++47 :: [45,50])=_
 rw[parseQ_two (by decide),lit_parse (s:=[49]) (z:=1) (by decide +kernel) (by decide),lit_parse (s:=[45,50]) (z:=-2) (by decide +kernel) (by decide)]
 decide +kernel
theorem bad3:parseQ (ByteArray.mk #[49,47]).data.toList=(none,5):=by
 show parseQ ([49]++47 :: [])=_
 rw[parseQ_two (by decide),lit_parse (s:=[49]) (z:=1) (by decide +kernel) (by decide),parseZ_none (s:=[]) (canon_empty rfl)]
 decide +kernel
theorem plit_49_47_50:parseQ (ByteArray.mk #[49,47,50]).data.toList=(some (mkRat 1 2),0):=parse_lit (lit_frac (s1:=[49]) (s2:=[50]) (x:=1) (d:=2) (by decide +kernel) (by decide +kernel) (by decide) (by decide +kernel)) (lit_QL (x:=1) (d:=2) (by decide) (by decide +kernel) (by decide +kernel) (by decide +kernel))
theorem plit_49_47_51:parseQ (ByteArray.mk #[49,47,51]).data.toList=(some (mkRat 1 3),0):=parse_lit (lit_frac (s1:=[49]) (s2:=[51]) (x:=1) (d:=3) (by decide +kernel) (by decide +kernel) (by decide) (by decide +kernel)) (lit_QL (x:=1) (d:=3) (by decide) (by decide +kernel) (by decide +kernel) (by decide +kernel))
theorem plit_45_50_47_51:parseQ (ByteArray.mk #[45,50,47,51]).data.toList=(some (mkRat (-2) 3),0):=parse_lit (lit_frac (s1:=[45,50]) (s2:=[51]) (x:=(-2)) (d:=3) (by decide +kernel) (by decide +kernel) (by decide) (by decide +kernel)) (lit_QL (x:=(-2)) (d:=3) (by decide) (by decide +kernel) (by decide +kernel) (by decide +kernel))
theorem plit_51_47_50:parseQ (ByteArray.mk #[51,47,50]).data.toList=(some (mkRat 3 2),0):=parse_lit (lit_frac (s1:=[51]) (s2:=[50]) (x:=3) (d:=2) (by decide +kernel) (by decide +kernel) (by decide) (by decide +kernel)) (lit_QL (x:=3) (d:=2) (by decide) (by decide +kernel) (by decide +kernel) (by decide +kernel))
theorem plit_49:parseQ (ByteArray.mk #[49]).data.toList=(some (mkRat 1 1),0):=parse_lit (lit_whole (s:=[49]) (x:=1) (by decide +kernel)) (lit_QL (x:=1) (d:=1) (by decide) (by decide +kernel) (by decide +kernel) (by decide +kernel))
theorem plit_45_49_47_50:parseQ (ByteArray.mk #[45,49,47,50]).data.toList=(some (mkRat (-1) 2),0):=parse_lit (lit_frac (s1:=[45,49]) (s2:=[50]) (x:=(-1)) (d:=2) (by decide +kernel) (by decide +kernel) (by decide) (by decide +kernel)) (lit_QL (x:=(-1)) (d:=2) (by decide) (by decide +kernel) (by decide +kernel) (by decide +kernel))
theorem plit_48:parseQ (ByteArray.mk #[48]).data.toList=(some (mkRat 0 1),0):=parse_lit (lit_whole (s:=[48]) (x:=0) (by decide +kernel)) (lit_QL (x:=0) (d:=1) (by decide) (by decide +kernel) (by decide +kernel) (by decide +kernel))
theorem plit_45_51:parseQ (ByteArray.mk #[45,51]).data.toList=(some (mkRat (-3) 1),0):=parse_lit (lit_whole (s:=[45,51]) (x:=(-3)) (by decide +kernel)) (lit_QL (x:=(-3)) (d:=1) (by decide) (by decide +kernel) (by decide +kernel) (by decide +kernel))
theorem plit_50_47_51:parseQ (ByteArray.mk #[50,47,51]).data.toList=(some (mkRat 2 3),0):=parse_lit (lit_frac (s1:=[50]) (s2:=[51]) (x:=2) (d:=3) (by decide +kernel) (by decide +kernel) (by decide) (by decide +kernel)) (lit_QL (x:=2) (d:=3) (by decide) (by decide +kernel) (by decide +kernel) (by decide +kernel))
theorem idx4_0 (a b c d:Value) (w:World):(Instr.index 59 (.agg #[a,b,c,d]) (.int .i64 0)).run Tryz.prog w=.ok a w:=by kernel_rfl
theorem idx4_1 (a b c d:Value) (w:World):(Instr.index 59 (.agg #[a,b,c,d]) (.int .i64 1)).run Tryz.prog w=.ok b w:=by kernel_rfl
theorem idx4_2 (a b c d:Value) (w:World):(Instr.index 59 (.agg #[a,b,c,d]) (.int .i64 2)).run Tryz.prog w=.ok c w:=by kernel_rfl
theorem idx4_3 (a b c d:Value) (w:World):(Instr.index 59 (.agg #[a,b,c,d]) (.int .i64 3)).run Tryz.prog w=.ok d w:=by kernel_rfl
set_option maxRecDepth 100000 in
set_option maxHeartbeats 8000000 in
theorem worksQ_any (w:World) (G:Glob w) (M:MaxL w) :
  Calls Tryz.prog 4 #[] w fun e w'=>Below w.heap.size w w'∧e=.returned (.bool true):=by
 go_enter Tryz.func4,Tryz.ntmps4
 go_wp2_with fail
 refine(isQ_new _ ⟨#[45,51,47,50]⟩).mono ?_;rintro e w2 ⟨S5,N1,rfl,hN1⟩;have B3:=zz S5;have z3:=B3.out.size;clear S5;go_wp2_with fail
 refine(QOf_any _ 6 (-4) (by decide) (by decide) (by decide) (by decide)).mono ?_;rintro e w5 ⟨T5,v4,rfl,V0⟩;have B6:=zz T5;have z6:=B6.out.size;have I3:=zz (B3.out.trans (B6.out.mono B3.out.size));clear T5;have heq4:=mkQ_lit (x:=6) (y:=(-4)) (c:=(mkRat (-3) 2)) (by decide) (by decide +kernel) (lit_QL (x:=(-3)) (d:=2) (by decide) (by decide +kernel) (by decide +kernel) (by decide +kernel));rw[heq4] at V0;rw[heq4];clear heq4;replace V0:QV w5 w5.heap.size v4 (mkRat (-3) 2):=V0;have X5:=zz V0;clear V0;have J3:=One.step hN1 B6.out;go_wp2_with fail
 refine(isQ_yes J3 X5.out (lit_QL (x:=(-3)) (d:=2) (by decide) (by decide +kernel) (by decide +kernel) (by decide +kernel)) (lit_frac (s1:=[45,51]) (s2:=[50]) (x:=(-3)) (d:=2) (by decide +kernel) (by decide +kernel) (by decide) (by decide +kernel)) (G.step I3.out)).mono ?_;rintro e w10 ⟨K3,rfl⟩;have B11:=zz K3;have z11:=B11.out.size;have L3:=zz (I3.out.trans (B11.out.mono I3.out.size));clear K3;clear J3;go_wp2_with fail
 refine(isQ_new _ ⟨#[48]⟩).mono ?_;rintro e w14 ⟨M3,N13,rfl,hN13⟩;have B15:=zz M3;have z15:=B15.out.size;have N3:=zz (L3.out.trans (B15.out.mono L3.out.size));clear M3;go_wp2_with fail
 refine(QOf_any _ 0 5 (by decide) (by decide) (by decide) (by decide)).mono ?_;rintro e w18 ⟨O3,v17,rfl,q0⟩;have B19:=zz O3;have z19:=B19.out.size;have l1:=zz (N3.out.trans (B19.out.mono N3.out.size));clear O3;have heq17:=mkQ_lit (x:=0) (y:=5) (c:=(mkRat 0 1)) (by decide) (by decide +kernel) (lit_QL (x:=0) (d:=1) (by decide) (by decide +kernel) (by decide +kernel) (by decide +kernel));rw[heq17] at q0;rw[heq17];clear heq17;replace q0:QV w18 w18.heap.size v17 (mkRat 0 1):=q0;have a5:=zz q0;clear q0;have y1:=One.step hN13 B19.out;go_wp2_with fail
 refine(isQ_yes y1 a5.out (lit_QL (x:=0) (d:=1) (by decide) (by decide +kernel) (by decide +kernel) (by decide +kernel)) (lit_whole (s:=[48]) (x:=0) (by decide +kernel)) (G.step l1.out)).mono ?_;rintro e w23 ⟨P3,rfl⟩;have B24:=zz P3;have z24:=B24.out.size;have Q3:=zz (l1.out.trans (B24.out.mono l1.out.size));clear P3;clear y1;go_wp2_with fail
 refine(failsQ_new _ 7).mono ?_;rintro e w27 ⟨R3,N26,rfl,hN26⟩;have B28:=zz R3;have z28:=B28.out.size;have S3:=zz (Q3.out.trans (B28.out.mono Q3.out.size));clear R3;go_wp2_with fail
 refine(QOf_any _ 1 0 (by decide) (by decide) (by decide) (by decide)).mono ?_;rintro e w31 ⟨T3,v30,rfl,r0⟩;have B32:=zz T3;have z32:=B32.out.size;have U3:=zz (S3.out.trans (B32.out.mono S3.out.size));clear T3;have heq30:=show mkQ 1 0=(none,7) from if_pos rfl;rw[heq30] at r0;rw[heq30];clear heq30
 replace r0:QR w31 w31.heap.size v30 false [] false []:=r0;have b5:=zz r0;clear r0;have z1:=One.step hN26 B32.out;go_wp2_with fail
 refine(failsQ_yes z1 b5.out).mono ?_;rintro e w36 ⟨V3,rfl⟩;have B37:=zz V3;have z37:=B37.out.size;have W3:=zz (U3.out.trans (B37.out.mono U3.out.size));clear V3;clear z1;go_wp2_with fail
 refine(isQ_new _ ⟨#[53,47,54]⟩).mono ?_;rintro e w40 ⟨X3,N39,rfl,hN39⟩;have B41:=zz X3;have z41:=B41.out.size;have m1:=zz (W3.out.trans (B41.out.mono W3.out.size));clear X3;go_wp2_with fail
 refine(ofQ_lit _ ⟨#[49,47,50]⟩ (mkRat 1 2) plit_49_47_50 (by decide +kernel) (M.step m1.out)).mono ?_;rintro e w44 ⟨Y3,v43,rfl,Z3⟩;have B45:=zz Y3;have z45:=B45.out.size;have n1:=zz (m1.out.trans (B45.out.mono m1.out.size));clear Y3;have c5:=zz Z3;clear Z3;go_wp2_with fail
 refine(ofQ_lit _ ⟨#[49,47,51]⟩ (mkRat 1 3) plit_49_47_51 (by decide +kernel) (M.step n1.out)).mono ?_;rintro e w49 ⟨a4,v48,rfl,b4⟩;have B50:=zz a4;have z50:=B50.out.size;have c4:=zz (n1.out.trans (B50.out.mono n1.out.size));clear a4;have d5:=zz b4;clear b4;go_wp2_with fail
 have e5:=zz (QV.step c5.out B50.out);refine(QAdd_good _ _ _ (mkRat 1 2) (mkRat 1 3) e5.out d5.out (lit_QL (x:=1) (d:=2) (by decide) (by decide +kernel) (by decide +kernel) (by decide +kernel)) (lit_QL (x:=1) (d:=3) (by decide) (by decide +kernel) (by decide +kernel) (by decide +kernel))).mono ?_;rintro e w54 ⟨d4,v53,rfl,s0⟩;have B56:=zz d4;have z56:=B56.out.size;have o1:=zz (c4.out.trans (B56.out.mono c4.out.size));clear d4;have heq53:=toldQ_lit (a:=(mkRat 1 2)+(mkRat 1 3)) (c:=(mkRat 5 6)) (by decide +kernel) (lit_QL (x:=5) (d:=6) (by decide) (by decide +kernel) (by decide +kernel) (by decide +kernel));rw[heq53] at s0;rw[heq53];clear heq53;replace s0:QV w54 w54.heap.size v53 (mkRat 5 6):=s0;have g5:=zz s0;clear s0;have P2_4_60:=zz (B45.out.trans (B50.out.mono B45.out.size));have P2_5_61:=zz (P2_4_60.out.trans (B56.out.mono P2_4_60.out.size));have A1:=One.step hN39 P2_5_61.out;go_wp2_with fail
 refine(isQ_yes A1 g5.out (lit_QL (x:=5) (d:=6) (by decide) (by decide +kernel) (by decide +kernel) (by decide +kernel)) (lit_frac (s1:=[53]) (s2:=[54]) (x:=5) (d:=6) (by decide +kernel) (by decide +kernel) (by decide) (by decide +kernel)) (G.step o1.out)).mono ?_;rintro e w62 ⟨e4,rfl⟩;have B63:=zz e4;have z63:=B63.out.size;have g4:=zz (o1.out.trans (B63.out.mono o1.out.size));clear e4;clear A1;go_wp2_with fail
 refine(isQ_new _ ⟨#[48]⟩).mono ?_;rintro e w66 ⟨h4,N65,rfl,hN65⟩;have B67:=zz h4;have z67:=B67.out.size;have p1:=zz (g4.out.trans (B67.out.mono g4.out.size));clear h4;go_wp2_with fail
 refine(ofQ_lit _ ⟨#[49,47,50]⟩ (mkRat 1 2) plit_49_47_50 (by decide +kernel) (M.step p1.out)).mono ?_;rintro e w70 ⟨i4,v69,rfl,j4⟩;have B71:=zz i4;have z71:=B71.out.size;have q1:=zz (p1.out.trans (B71.out.mono p1.out.size));clear i4;have h5:=zz j4;clear j4;go_wp2_with fail
 refine(ofQ_lit _ ⟨#[49,47,50]⟩ (mkRat 1 2) plit_49_47_50 (by decide +kernel) (M.step q1.out)).mono ?_;rintro e w75 ⟨k4,v74,rfl,l4⟩;have B76:=zz k4;have z76:=B76.out.size;have m4:=zz (q1.out.trans (B76.out.mono q1.out.size));clear k4;have i5:=zz l4;clear l4;go_wp2_with fail
 have j5:=zz (QV.step h5.out B76.out);refine(QSub_good _ _ _ (mkRat 1 2) (mkRat 1 2) j5.out i5.out (lit_QL (x:=1) (d:=2) (by decide) (by decide +kernel) (by decide +kernel) (by decide +kernel)) (lit_QL (x:=1) (d:=2) (by decide) (by decide +kernel) (by decide +kernel) (by decide +kernel))).mono ?_;rintro e w80 ⟨n4,v79,rfl,t0⟩;have B82:=zz n4;have z82:=B82.out.size;have r1:=zz (m4.out.trans (B82.out.mono m4.out.size));clear n4;have heq79:=toldQ_lit (a:=(mkRat 1 2)-(mkRat 1 2)) (c:=(mkRat 0 1)) (by decide +kernel) (lit_QL (x:=0) (d:=1) (by decide) (by decide +kernel) (by decide +kernel) (by decide +kernel));rw[heq79] at t0;rw[heq79];clear heq79;replace t0:QV w80 w80.heap.size v79 (mkRat 0 1):=t0;have k5:=zz t0;clear t0;have P2_4_86:=zz (B71.out.trans (B76.out.mono B71.out.size));have P2_5_87:=zz (P2_4_86.out.trans (B82.out.mono P2_4_86.out.size));have B1:=One.step hN65 P2_5_87.out;go_wp2_with fail
 refine(isQ_yes B1 k5.out (lit_QL (x:=0) (d:=1) (by decide) (by decide +kernel) (by decide +kernel) (by decide +kernel)) (lit_whole (s:=[48]) (x:=0) (by decide +kernel)) (G.step r1.out)).mono ?_;rintro e w88 ⟨o4,rfl⟩;have B89:=zz o4;have z89:=B89.out.size;have p4:=zz (r1.out.trans (B89.out.mono r1.out.size));clear o4;clear B1;go_wp2_with fail
 refine(isQ_new _ ⟨#[45,49]⟩).mono ?_;rintro e w92 ⟨q4,N91,rfl,hN91⟩;have B93:=zz q4;have z93:=B93.out.size;have t1:=zz (p4.out.trans (B93.out.mono p4.out.size));clear q4;go_wp2_with fail
 refine(ofQ_lit _ ⟨#[45,50,47,51]⟩ (mkRat (-2) 3) plit_45_50_47_51 (by decide +kernel) (M.step t1.out)).mono ?_;rintro e w96 ⟨r4,v95,rfl,s4⟩;have B97:=zz r4;have z97:=B97.out.size;have u1:=zz (t1.out.trans (B97.out.mono t1.out.size));clear r4;have l5:=zz s4;clear s4;go_wp2_with fail
 refine(ofQ_lit _ ⟨#[51,47,50]⟩ (mkRat 3 2) plit_51_47_50 (by decide +kernel) (M.step u1.out)).mono ?_;rintro e w101 ⟨C1,v100,rfl,D1⟩;have B102:=zz C1;have z102:=B102.out.size;have E1:=zz (u1.out.trans (B102.out.mono u1.out.size));clear C1;have t4:=zz D1;clear D1;go_wp2_with fail
 have u4:=zz (QV.step l5.out B102.out);refine(QMul_good _ _ _ (mkRat (-2) 3) (mkRat 3 2) u4.out t4.out (lit_QL (x:=(-2)) (d:=3) (by decide) (by decide +kernel) (by decide +kernel) (by decide +kernel)) (lit_QL (x:=3) (d:=2) (by decide) (by decide +kernel) (by decide +kernel) (by decide +kernel))).mono ?_;rintro e w106 ⟨F1,v105,rfl,e0⟩;have B108:=zz F1;have z108:=B108.out.size;have w0:=zz (E1.out.trans (B108.out.mono E1.out.size));clear F1;have heq105:=toldQ_lit (a:=(mkRat (-2) 3)*(mkRat 3 2)) (c:=(mkRat (-1) 1)) (by decide +kernel) (lit_QL (x:=(-1)) (d:=1) (by decide) (by decide +kernel) (by decide +kernel) (by decide +kernel));rw[heq105] at e0;rw[heq105];clear heq105;replace e0:QV w106 w106.heap.size v105 (mkRat (-1) 1):=e0;have w4:=zz e0;clear e0;have P2_4_112:=zz (B97.out.trans (B102.out.mono B97.out.size));have P2_5_113:=zz (P2_4_112.out.trans (B108.out.mono P2_4_112.out.size));have W0:=One.step hN91 P2_5_113.out;go_wp2_with fail
 refine(isQ_yes W0 w4.out (lit_QL (x:=(-1)) (d:=1) (by decide) (by decide +kernel) (by decide +kernel) (by decide +kernel)) (lit_whole (s:=[45,49]) (x:=(-1)) (by decide +kernel)) (G.step w0.out)).mono ?_;rintro e w114 ⟨G1,rfl⟩;have B115:=zz G1;have z115:=B115.out.size;have H1:=zz (w0.out.trans (B115.out.mono w0.out.size));clear G1;clear W0;go_wp2_with fail
 refine(isQ_new _ ⟨#[45,51,47,50]⟩).mono ?_;rintro e w118 ⟨I1,N117,rfl,hN117⟩;have B119:=zz I1;have z119:=B119.out.size;have y0:=zz (H1.out.trans (B119.out.mono H1.out.size));clear I1;go_wp2_with fail
 refine(ofQ_lit _ ⟨#[49]⟩ (mkRat 1 1) plit_49 (by decide +kernel) (M.step y0.out)).mono ?_;rintro e w122 ⟨J1,v121,rfl,K1⟩;have B123:=zz J1;have z123:=B123.out.size;have z0:=zz (y0.out.trans (B123.out.mono y0.out.size));clear J1;have y4:=zz K1;clear K1;go_wp2_with fail
 refine(ofQ_lit _ ⟨#[45,50,47,51]⟩ (mkRat (-2) 3) plit_45_50_47_51 (by decide +kernel) (M.step z0.out)).mono ?_;rintro e w127 ⟨L1,v126,rfl,M1⟩;have B128:=zz L1;have z128:=B128.out.size;have O1:=zz (z0.out.trans (B128.out.mono z0.out.size));clear L1;have z4:=zz M1;clear M1;go_wp2_with fail
 have A4:=zz (QV.step y4.out B128.out);refine(QDiv_good _ _ _ (mkRat 1 1) (mkRat (-2) 3) A4.out z4.out (lit_QL (x:=1) (d:=1) (by decide) (by decide +kernel) (by decide +kernel) (by decide +kernel)) (lit_QL (x:=(-2)) (d:=3) (by decide) (by decide +kernel) (by decide +kernel) (by decide +kernel))).mono ?_;rintro e w132 ⟨P1,v131,rfl,g0⟩;have B134:=zz P1;have z134:=B134.out.size;have A0:=zz (O1.out.trans (B134.out.mono O1.out.size));clear P1;have heq131:=(show divQ (mkRat 1 1) (mkRat (-2) 3)=_ from if_neg (by decide +kernel)).trans (toldQ_lit (a:=(mkRat 1 1) / (mkRat (-2) 3)) (c:=(mkRat (-3) 2)) (by decide +kernel) (lit_QL (x:=(-3)) (d:=2) (by decide) (by decide +kernel) (by decide +kernel) (by decide +kernel)));rw[heq131] at g0;rw[heq131];clear heq131;replace g0:QV w132 w132.heap.size v131 (mkRat (-3) 2):=g0;have B4:=zz g0;clear g0;have P2_4_138:=zz (B123.out.trans (B128.out.mono B123.out.size));have P2_5_139:=zz (P2_4_138.out.trans (B134.out.mono P2_4_138.out.size));have X0:=One.step hN117 P2_5_139.out;go_wp2_with fail
 refine(isQ_yes X0 B4.out (lit_QL (x:=(-3)) (d:=2) (by decide) (by decide +kernel) (by decide +kernel) (by decide +kernel)) (lit_frac (s1:=[45,51]) (s2:=[50]) (x:=(-3)) (d:=2) (by decide +kernel) (by decide +kernel) (by decide) (by decide +kernel)) (G.step A0.out)).mono ?_;rintro e w140 ⟨Q1,rfl⟩;have B141:=zz Q1;have z141:=B141.out.size;have B0:=zz (A0.out.trans (B141.out.mono A0.out.size));clear Q1;clear X0;go_wp2_with fail
 refine(ofQ_lit _ ⟨#[45,49,47,50]⟩ (mkRat (-1) 2) plit_45_49_47_50 (by decide +kernel) (M.step B0.out)).mono ?_;rintro e w144 ⟨R1,v143,rfl,S1⟩;have B145:=zz R1;have z145:=B145.out.size;have T1:=zz (B0.out.trans (B145.out.mono B0.out.size));clear R1;have C4:=zz S1;clear S1;go_wp2_with fail
 refine(QFloor_lit C4.out (lit_QL (x:=(-1)) (d:=2) (by decide) (by decide +kernel) (by decide +kernel) (by decide +kernel)) (z:=-1) (by decide +kernel) (by decide)).mono ?_;rintro e w148 ⟨U1,v,rfl,hv⟩;have B149:=zz U1;have z149:=B149.out.size;have V1:=zz (T1.out.trans (B149.out.mono T1.out.size));clear U1;replace hv:LV w148 w148.heap.size v (-1):=hv;obtain⟨n151,w8,l151,c151,rfl,W1⟩:=hv.opened;have G3:=zz W1;clear hv W1;go_upto_region 3 with (fail)
 obtain⟨w152,h0⟩:∃ w152:World,w152=(w148.alloc (.cells #[.bool n151,.slice w8 l151 c151] 26)):=⟨_,rfl⟩;rw[← h0];have D4:=n1_0 h0;have za152:=n1_z h0;have B153:=zz (n1_b h0);have z153:=B153.out.size;have d0:=zz (V1.out.trans (B153.out.mono V1.out.size));clear h0
 refine Flow.run [⟨0,68,fun fv fw=>fv=.bool true⟩,⟨1,69,fun fv fw=>fv=.bool true⟩,⟨2,70,fun fv fw=>∃ N,fv=.func (.func 57) #[] #[.pointer (some ⟨N,0,none⟩)]∧One fw N 3 (.int .i64 (-1))⟩,⟨3,71,fun fv fw=>QV fw fw.heap.size fv (mkRat 1 3)⟩,⟨4,72,fun fv fw=>QV fw fw.heap.size fv (mkRat 1 2)⟩,⟨5,73,fun fv fw=>fv=.tuple #[.int .i64 (-1),.int .i64 0]⟩,⟨6,74,fun fv fw=>fv=.int .i64 (-1)⟩,⟨7,75,fun fv fw=>fv=.int .i64 0⟩,⟨8,76,fun fv fw=>fv=.bool true⟩,⟨9,77,fun fv fw=>fv=.bool true⟩,⟨10,78,fun fv fw=>fv=.bool true⟩,⟨11,79,fun fv fw=>∃ N,fv=.func (.func 57) #[] #[.pointer (some ⟨N,0,none⟩)]∧One fw N 3 (.int .i64 (-1))⟩,⟨12,80,fun fv fw=>QV fw fw.heap.size fv (mkRat (-1) 2)⟩,⟨13,81,fun fv fw=>fv=.tuple #[.int .i64 (-1),.int .i64 0]⟩,⟨14,82,fun fv fw=>fv=.int .i64 (-1)⟩,⟨15,83,fun fv fw=>fv=.int .i64 0⟩,⟨16,84,fun fv fw=>fv=.bool true⟩,⟨17,85,fun fv fw=>fv=.bool true⟩,⟨18,86,fun fv fw=>fv=.bool true⟩,⟨19,87,fun fv fw=>fv=.agg #[.bool n151,.slice w8 l151 c151]⟩,⟨20,88,fun fv fw=>LV fw fw.heap.size fv (-1)⟩,⟨21,89,fun fv fw=>fv=.bool true⟩,⟨22,90,fun fv fw=>fv=.bool true⟩,⟨23,91,fun fv fw=>fv=.bool true⟩,⟨24,92,fun fv fw=>fv=.int .i64 0⟩,⟨25,93,fun fv fw=>fv=.bool true⟩,⟨26,94,fun fv fw=>fv=.bool true⟩,⟨27,95,fun fv fw=>fv=.bool true⟩,⟨28,96,fun fv fw=>∃ N,fv=.func (.func 40) #[] #[.pointer (some ⟨N,0,none⟩)]∧One fw N 31 (.int .i64 7)⟩,⟨29,97,fun fv fw=>QV fw fw.heap.size fv (mkRat 1 1)⟩,⟨30,98,fun fv fw=>QV fw fw.heap.size fv (mkRat 0 1)⟩,⟨31,99,fun fv fw=>∃ u,fv=.tuple #[u,.int .i64 7]∧QR fw fw.heap.size u false [] false []⟩,⟨32,100,fun fv fw=>QR fw fw.heap.size fv false [] false []⟩,⟨33,101,fun fv fw=>fv=.int .i64 7⟩,⟨34,102,fun fv fw=>fv=.bool true⟩,⟨35,103,fun fv fw=>fv=.bool true⟩] [] [] 1 (by kernel_rfl) (by kernel_rfl) (by kernel_rfl) (fun _ _ _ _ _ h=>h) ?_ ?_ ?_ ?_
 ·refine(a0 (a0 (all_cons (fun v w1 w2 h hb=>let ⟨N,e,h⟩:=h;⟨N,e,One.step h hb⟩) (all_cons (fun v w1 w2 h hb=>h.step hb) (all_cons (fun v w1 w2 h hb=>h.step hb) (a0 (a0 (a0 (a0 (a0 (a0 (all_cons (fun v w1 w2 h hb=>let ⟨N,e,h⟩:=h;⟨N,e,One.step h hb⟩) (all_cons (fun v w1 w2 h hb=>h.step hb) (a0 (a0 (a0 (a0 (a0 (a0 (a0 (all_cons (fun v w1 w2 h hb=>h.step hb) (a0 (a0 (a0 (a0 (a0 (a0 (a0 (all_cons (fun v w1 w2 h hb=>let ⟨N,e,h⟩:=h;⟨N,e,One.step h hb⟩) (all_cons (fun v w1 w2 h hb=>h.step hb) (all_cons (fun v w1 w2 h hb=>h.step hb) (all_cons (fun v w1 w2 h hb=>let ⟨u,e,h⟩:=h;⟨u,e,h.step hb⟩) (all_cons (fun v w1 w2 h hb=>h.step hb) (a0 (a0 (a0 all_nil))))))))))))))))))))))))))))))))))))
 ·refine(all_cons ?_ (all_cons ?_ (all_cons ?_ (all_cons ?_ (all_cons ?_ (all_cons ?_ (all_cons ?_ (all_cons ?_ (all_cons ?_ (all_cons ?_ (all_cons ?_ (all_cons ?_ (all_cons ?_ (all_cons ?_ (all_cons ?_ (all_cons ?_ (all_cons ?_ (all_cons ?_ (all_cons ?_ (all_cons ?_ (all_cons ?_ (all_cons ?_ (all_cons ?_ (all_cons ?_ (all_cons ?_ (all_cons ?_ (all_cons ?_ (all_cons ?_ (all_cons ?_ (all_cons ?_ (all_cons ?_ (all_cons ?_ (all_cons ?_ (all_cons ?_ (all_cons ?_ (all_cons ?_ all_nil))))))))))))))))))))))))))))))))))))
  ·intro xs h7 c0 b0;clear c0;clear b0;refine wpOp_step (o:=_) rfl (fun K hK=>?_);simp only[FL]
   go_simp;refine hK _ _ ⟨.bool true,by kernel_rfl,Below.refl _ _,rfl,nF⟩
  ·intro xs j7 c0 b0;clear c0;have f0:(xs 0)=.bool true:=b0 _ (m_ 0 rfl) (by kernel_rfl);clear b0;refine wpOp_step (o:=_) rfl (fun K hK=>?_);simp only[FL]
   go_simp;refine hK _ _ ⟨.bool true,by simp only[FL,f0] <;> kernel_rfl,Below.refl _ _,rfl,nF⟩
  ·intro xs l7 c0 b0;clear c0;have f1:(xs 1)=.bool true:=b0 _ (m_ 1 rfl) (by kernel_rfl);clear b0;refine wpOp_step (o:=?_) ?b6 ?_
   case b6=>exact rfl
   intro K hK;simp only[FL]
   go_simp;(with_reducible refine(saysQ_new _ (-1)).mono ?_)
   rintro e wc158 ⟨m5,N158,rfl,hN158⟩;refine hK _ _ ⟨.func (.func 57) #[] #[.pointer (some ⟨N158,0,none⟩)],by simp only[FL,f1] <;> kernel_rfl,m5,⟨N158,rfl,hN158⟩,nF⟩
  ·intro xs n7 c0 b0;have E4:=zz c0;have o7:=c0.size;clear c0;have f1:(xs 1)=.bool true:=b0 _ (m_ 1 rfl) (by kernel_rfl);clear b0;refine wpOp_step (o:=?_) ?c6 ?_
   case c6=>exact rfl
   intro K hK;simp only[FL]
   go_simp;(with_reducible refine(ofQ_lit _ ⟨#[49,47,51]⟩ (mkRat 1 3) plit_49_47_51 (by decide +kernel) (M.step (d0.out.trans (E4.out.mono d0.out.size)))).mono ?_)
   rintro e wc160 ⟨n5,v160,rfl,o5⟩;refine hK _ _ ⟨v160,by simp only[FL,f1] <;> kernel_rfl,n5,o5,nF⟩
  ·intro xs p7 c0 b0;have F4:=zz c0;have q7:=c0.size;clear c0;have f1:(xs 1)=.bool true:=b0 _ (m_ 1 rfl) (by kernel_rfl);clear b0;refine wpOp_step (o:=?_) ?d6 ?_
   case d6=>exact rfl
   intro K hK;simp only[FL]
   go_simp;(with_reducible refine(ofQ_lit _ ⟨#[49,47,50]⟩ (mkRat 1 2) plit_49_47_50 (by decide +kernel) (M.step (d0.out.trans (F4.out.mono d0.out.size)))).mono ?_)
   rintro e wc162 ⟨p5,v162,rfl,q5⟩;refine hK _ _ ⟨v162,by simp only[FL,f1] <;> kernel_rfl,p5,q5,nF⟩
  ·intro xs o0 c0 b0;clear c0;have f1:(xs 1)=.bool true:=b0 _ (m_ 1 rfl) (by kernel_rfl);have f3:QV o0 o0.heap.size (xs 3) (mkRat 1 3):=b0 _ (m_ 3 rfl) (by kernel_rfl);have f4:QV o0 o0.heap.size (xs 4) (mkRat 1 2):=b0 _ (m_ 4 rfl) (by kernel_rfl);clear b0;refine wpOp_step (o:=?_) ?g6 ?_
   case g6=>exact rfl
   intro K hK;simp only[FL]
   go_simp;(with_reducible refine((show Calls Tryz.prog _ _ _ _ from(show(cmpR (mkRat 1 3) (mkRat 1 2),(0:Int))=(-1,0) by decide +kernel)▸QCmp_good _ _ _ (mkRat 1 3) (mkRat 1 2) f3 f4 (lit_QL (x:=1) (d:=3) (by decide) (by decide +kernel) (by decide +kernel) (by decide +kernel)) (lit_QL (x:=1) (d:=2) (by decide) (by decide +kernel) (by decide +kernel) (by decide +kernel)))).mono ?_)
   rintro e wc164 ⟨r5,rfl⟩;refine hK _ _ ⟨.tuple #[.int .i64 (-1),.int .i64 0],by simp only[FL,f1] <;> kernel_rfl,r5,rfl,nF⟩
  ·intro xs s7 c0 b0;clear c0;have f1:(xs 1)=.bool true:=b0 _ (m_ 1 rfl) (by kernel_rfl);have f5:(xs 5)=.tuple #[.int .i64 (-1),.int .i64 0]:=b0 _ (m_ 5 rfl) (by kernel_rfl);clear b0;refine wpOp_step (o:=?_) ?i6 ?_
   case i6=>exact rfl
   intro K hK;simp only[FL]
   go_simp;refine hK _ _ ⟨.int .i64 (-1),by simp only[FL,f1,f5] <;> kernel_rfl,Below.refl _ _,rfl,nF⟩
  ·intro xs u7 c0 b0;clear c0;have f1:(xs 1)=.bool true:=b0 _ (m_ 1 rfl) (by kernel_rfl);have f5:(xs 5)=.tuple #[.int .i64 (-1),.int .i64 0]:=b0 _ (m_ 5 rfl) (by kernel_rfl);clear b0;refine wpOp_step (o:=?_) ?k6 ?_
   case k6=>exact rfl
   intro K hK;simp only[FL]
   go_simp;refine hK _ _ ⟨.int .i64 0,by simp only[FL,f1,f5] <;> kernel_rfl,Below.refl _ _,rfl,nF⟩
  ·intro xs s5 c0 b0;clear c0;have f1:(xs 1)=.bool true:=b0 _ (m_ 1 rfl) (by kernel_rfl);have f2:∃ N,(xs 2)=.func (.func 57) #[] #[.pointer (some ⟨N,0,none⟩)]∧One s5 N 3 (.int .i64 (-1)):=b0 _ (m_ 2 rfl) (by kernel_rfl);have f6:(xs 6)=.int .i64 (-1):=b0 _ (m_ 6 rfl) (by kernel_rfl);have f7:(xs 7)=.int .i64 0:=b0 _ (m_ 7 rfl) (by kernel_rfl);clear b0;refine wpOp_step (o:=?_) ?m6 ?_
   case m6=>exact rfl
   intro K hK;simp only[FL]
   obtain⟨N,hN,hO⟩:=f2;rw[hN];have HO:=zz hO;clear hO;go_simp;(with_reducible refine(saysQ_yes HO.out).mono ?_)
   rintro e wc168 ⟨t5,rfl⟩;refine hK _ _ ⟨.bool true,by simp only[FL,f1,f6,f7,hN] <;> kernel_rfl,t5,rfl,nF⟩
  ·intro xs y7 c0 b0;clear c0;have f1:(xs 1)=.bool true:=b0 _ (m_ 1 rfl) (by kernel_rfl);have f8:(xs 8)=.bool true:=b0 _ (m_ 8 rfl) (by kernel_rfl);clear b0;refine wpOp_step (o:=_) rfl (fun K hK=>?_);simp only[FL]
   go_simp;refine hK _ _ ⟨.bool true,by simp only[FL,f1,f8] <;> kernel_rfl,Below.refl _ _,rfl,nF⟩
  ·intro xs A7 c0 b0;clear c0;have f9:(xs 9)=.bool true:=b0 _ (m_ 9 rfl) (by kernel_rfl);clear b0;refine wpOp_step (o:=_) rfl (fun K hK=>?_);simp only[FL]
   go_simp;refine hK _ _ ⟨.bool true,by simp only[FL,f9] <;> kernel_rfl,Below.refl _ _,rfl,nF⟩
  ·intro xs C7 c0 b0;clear c0;have f10:(xs 10)=.bool true:=b0 _ (m_ 10 rfl) (by kernel_rfl);clear b0;refine wpOp_step (o:=?_) ?q6 ?_
   case q6=>exact rfl
   intro K hK;simp only[FL]
   go_simp;(with_reducible refine(saysQ_new _ (-1)).mono ?_)
   rintro e wc172 ⟨u5,N172,rfl,hN172⟩;refine hK _ _ ⟨.func (.func 57) #[] #[.pointer (some ⟨N172,0,none⟩)],by simp only[FL,f10] <;> kernel_rfl,u5,⟨N172,rfl,hN172⟩,nF⟩
  ·intro xs E7 c0 b0;have G4:=zz c0;have F7:=c0.size;clear c0;have f10:(xs 10)=.bool true:=b0 _ (m_ 10 rfl) (by kernel_rfl);clear b0;refine wpOp_step (o:=?_) ?r6 ?_
   case r6=>exact rfl
   intro K hK;simp only[FL]
   go_simp;(with_reducible refine(ofQ_lit _ ⟨#[45,49,47,50]⟩ (mkRat (-1) 2) plit_45_49_47_50 (by decide +kernel) (M.step (d0.out.trans (G4.out.mono d0.out.size)))).mono ?_)
   rintro e wc174 ⟨v5,v174,rfl,y5⟩;refine hK _ _ ⟨v174,by simp only[FL,f10] <;> kernel_rfl,v5,y5,nF⟩
  ·intro xs X1 c0 b0;clear c0;have f10:(xs 10)=.bool true:=b0 _ (m_ 10 rfl) (by kernel_rfl);have f12:QV X1 X1.heap.size (xs 12) (mkRat (-1) 2):=b0 _ (m_ 12 rfl) (by kernel_rfl);clear b0;refine wpOp_step (o:=?_) ?t6 ?_
   case t6=>exact rfl
   intro K hK;simp only[FL]
   go_simp;(with_reducible refine(QSign_lit (s:=-1) (mkRat (-1) 2) f12 (lit_QL (x:=(-1)) (d:=2) (by decide) (by decide +kernel) (by decide +kernel) (by decide +kernel)) (by decide +kernel)).mono ?_)
   rintro e wc176 ⟨z5,rfl⟩;refine hK _ _ ⟨.tuple #[.int .i64 (-1),.int .i64 0],by simp only[FL,f10] <;> kernel_rfl,z5,rfl,nF⟩
  ·intro xs H7 c0 b0;clear c0;have f10:(xs 10)=.bool true:=b0 _ (m_ 10 rfl) (by kernel_rfl);have f13:(xs 13)=.tuple #[.int .i64 (-1),.int .i64 0]:=b0 _ (m_ 13 rfl) (by kernel_rfl);clear b0;refine wpOp_step (o:=?_) ?v6 ?_
   case v6=>exact rfl
   intro K hK;simp only[FL]
   go_simp;refine hK _ _ ⟨.int .i64 (-1),by simp only[FL,f10,f13] <;> kernel_rfl,Below.refl _ _,rfl,nF⟩
  ·intro xs J7 c0 b0;clear c0;have f10:(xs 10)=.bool true:=b0 _ (m_ 10 rfl) (by kernel_rfl);have f13:(xs 13)=.tuple #[.int .i64 (-1),.int .i64 0]:=b0 _ (m_ 13 rfl) (by kernel_rfl);clear b0;refine wpOp_step (o:=?_) ?y6 ?_
   case y6=>exact rfl
   intro K hK;simp only[FL]
   go_simp;refine hK _ _ ⟨.int .i64 0,by simp only[FL,f10,f13] <;> kernel_rfl,Below.refl _ _,rfl,nF⟩
  ·intro xs A5 c0 b0;clear c0;have f10:(xs 10)=.bool true:=b0 _ (m_ 10 rfl) (by kernel_rfl);have f11:∃ N,(xs 11)=.func (.func 57) #[] #[.pointer (some ⟨N,0,none⟩)]∧One A5 N 3 (.int .i64 (-1)):=b0 _ (m_ 11 rfl) (by kernel_rfl);have f14:(xs 14)=.int .i64 (-1):=b0 _ (m_ 14 rfl) (by kernel_rfl);have f15:(xs 15)=.int .i64 0:=b0 _ (m_ 15 rfl) (by kernel_rfl);clear b0;refine wpOp_step (o:=?_) ?C6 ?_
   case C6=>exact rfl
   intro K hK;simp only[FL]
   obtain⟨N,hN,hO⟩:=f11;rw[hN];have HO:=zz hO;clear hO;go_simp;(with_reducible refine(saysQ_yes HO.out).mono ?_)
   rintro e wc180 ⟨B5,rfl⟩;refine hK _ _ ⟨.bool true,by simp only[FL,f10,f14,f15,hN] <;> kernel_rfl,B5,rfl,nF⟩
  ·intro xs M7 c0 b0;clear c0;have f10:(xs 10)=.bool true:=b0 _ (m_ 10 rfl) (by kernel_rfl);have f16:(xs 16)=.bool true:=b0 _ (m_ 16 rfl) (by kernel_rfl);clear b0;refine wpOp_step (o:=_) rfl (fun K hK=>?_);simp only[FL]
   go_simp;refine hK _ _ ⟨.bool true,by simp only[FL,f10,f16] <;> kernel_rfl,Below.refl _ _,rfl,nF⟩
  ·intro xs O7 c0 b0;clear c0;have f17:(xs 17)=.bool true:=b0 _ (m_ 17 rfl) (by kernel_rfl);clear b0;refine wpOp_step (o:=_) rfl (fun K hK=>?_);simp only[FL]
   go_simp;refine hK _ _ ⟨.bool true,by simp only[FL,f17] <;> kernel_rfl,Below.refl _ _,rfl,nF⟩
  ·intro xs Q7 c0 b0;have H4:=zz c0;have R7:=c0.size;clear c0;have f18:(xs 18)=.bool true:=b0 _ (m_ 18 rfl) (by kernel_rfl);clear b0;refine wpOp_step (o:=?_) ?F6 ?_
   case F6=>exact rfl
   intro K hK;simp only[FL]
   have Y0:=CB.step D4 H4.out;have G6:=Y0.cell 0 rfl;have H6:=Y0.cell 1 rfl;go_simp;refine hK _ _ ⟨.agg #[.bool n151,.slice w8 l151 c151],by simp only[FL,f18] <;> kernel_rfl,Below.refl _ _,rfl,nF⟩
  ·intro xs S7 c0 b0;clear c0;have f18:(xs 18)=.bool true:=b0 _ (m_ 18 rfl) (by kernel_rfl);clear b0;refine wpOp_step (o:=?_) ?J6 ?_
   case J6=>exact rfl
   intro K hK;simp only[FL]
   go_simp;(with_reducible refine(Of_any _ (-1) (by decide) (by decide)).mono ?_)
   rintro e wc187 ⟨C5,v187,rfl,D5⟩;refine hK _ _ ⟨v187,by simp only[FL,f18] <;> kernel_rfl,C5,D5,nF⟩
  ·intro xs Y1 c0 b0;have I4:=zz c0;have U7:=c0.size;clear c0;have f18:(xs 18)=.bool true:=b0 _ (m_ 18 rfl) (by kernel_rfl);have f19:(xs 19)=.agg #[.bool n151,.slice w8 l151 c151]:=b0 _ (m_ 19 rfl) (by kernel_rfl);have f20:LV Y1 Y1.heap.size (xs 20) (-1):=b0 _ (m_ 20 rfl) (by kernel_rfl);clear b0;refine wpOp_step (o:=?_) ?K6 ?_
   case K6=>exact rfl
   intro K hK;simp only[FL]
   have P3_5_189:=zz (B153.out.trans (I4.out.mono B153.out.size));have H3:=zz (LV.step G3.out P3_5_189.out);go_simp;(with_reducible refine(SameL_yes H3.out f20).mono ?_)
   rintro e wc191 ⟨E5,rfl⟩;refine hK _ _ ⟨.bool true,by simp only[FL,f18,f19] <;> kernel_rfl,E5,rfl,nF⟩
  ·intro xs V7 c0 b0;clear c0;have f18:(xs 18)=.bool true:=b0 _ (m_ 18 rfl) (by kernel_rfl);have f21:(xs 21)=.bool true:=b0 _ (m_ 21 rfl) (by kernel_rfl);clear b0;refine wpOp_step (o:=_) rfl (fun K hK=>?_);simp only[FL]
   go_simp;refine hK _ _ ⟨.bool true,by simp only[FL,f18,f21] <;> kernel_rfl,Below.refl _ _,rfl,nF⟩
  ·intro xs X7 c0 b0;clear c0;have f22:(xs 22)=.bool true:=b0 _ (m_ 22 rfl) (by kernel_rfl);clear b0;refine wpOp_step (o:=_) rfl (fun K hK=>?_);simp only[FL]
   go_simp;refine hK _ _ ⟨.bool true,by simp only[FL,f22] <;> kernel_rfl,Below.refl _ _,rfl,nF⟩
  ·intro xs Z7 c0 b0;clear c0;have f23:(xs 23)=.bool true:=b0 _ (m_ 23 rfl) (by kernel_rfl);clear b0;refine wpOp_step (o:=?_) ?O6 ?_
   case O6=>exact rfl
   intro K hK;simp only[FL]
   go_simp;refine hK _ _ ⟨.int .i64 0,by simp only[FL,f23] <;> kernel_rfl,Below.refl _ _,rfl,nF⟩
  ·intro xs b8 c0 b0;clear c0;have f23:(xs 23)=.bool true:=b0 _ (m_ 23 rfl) (by kernel_rfl);have f24:(xs 24)=.int .i64 0:=b0 _ (m_ 24 rfl) (by kernel_rfl);clear b0;refine wpOp_step (o:=?_) ?Q6 ?_
   case Q6=>exact rfl
   intro K hK;simp only[FL]
   go_simp;refine hK _ _ ⟨.bool true,by simp only[FL,f23,f24] <;> kernel_rfl,Below.refl _ _,rfl,nF⟩
  ·intro xs d8 c0 b0;clear c0;have f23:(xs 23)=.bool true:=b0 _ (m_ 23 rfl) (by kernel_rfl);have f25:(xs 25)=.bool true:=b0 _ (m_ 25 rfl) (by kernel_rfl);clear b0;refine wpOp_step (o:=_) rfl (fun K hK=>?_);simp only[FL]
   go_simp;refine hK _ _ ⟨.bool true,by simp only[FL,f23,f25] <;> kernel_rfl,Below.refl _ _,rfl,nF⟩
  ·intro xs g8 c0 b0;clear c0;have f26:(xs 26)=.bool true:=b0 _ (m_ 26 rfl) (by kernel_rfl);clear b0;refine wpOp_step (o:=_) rfl (fun K hK=>?_);simp only[FL]
   go_simp;refine hK _ _ ⟨.bool true,by simp only[FL,f26] <;> kernel_rfl,Below.refl _ _,rfl,nF⟩
  ·intro xs i8 c0 b0;clear c0;have f27:(xs 27)=.bool true:=b0 _ (m_ 27 rfl) (by kernel_rfl);clear b0;refine wpOp_step (o:=?_) ?U6 ?_
   case U6=>exact rfl
   intro K hK;simp only[FL]
   go_simp;(with_reducible refine(failsQ_new _ 7).mono ?_)
   rintro e wc199 ⟨F5,N199,rfl,hN199⟩;refine hK _ _ ⟨.func (.func 40) #[] #[.pointer (some ⟨N199,0,none⟩)],by simp only[FL,f27] <;> kernel_rfl,F5,⟨N199,rfl,hN199⟩,nF⟩
  ·intro xs k8 c0 b0;have J4:=zz c0;have l8:=c0.size;clear c0;have f27:(xs 27)=.bool true:=b0 _ (m_ 27 rfl) (by kernel_rfl);clear b0;refine wpOp_step (o:=?_) ?V6 ?_
   case V6=>exact rfl
   intro K hK;simp only[FL]
   go_simp;(with_reducible refine(ofQ_lit _ ⟨#[49]⟩ (mkRat 1 1) plit_49 (by decide +kernel) (M.step (d0.out.trans (J4.out.mono d0.out.size)))).mono ?_)
   rintro e wc201 ⟨G5,v201,rfl,H5⟩;refine hK _ _ ⟨v201,by simp only[FL,f27] <;> kernel_rfl,G5,H5,nF⟩
  ·intro xs m8 c0 b0;have K4:=zz c0;have n8:=c0.size;clear c0;have f27:(xs 27)=.bool true:=b0 _ (m_ 27 rfl) (by kernel_rfl);clear b0;refine wpOp_step (o:=?_) ?W6 ?_
   case W6=>exact rfl
   intro K hK;simp only[FL]
   go_simp;(with_reducible refine(ofQ_lit _ ⟨#[48]⟩ (mkRat 0 1) plit_48 (by decide +kernel) (M.step (d0.out.trans (K4.out.mono d0.out.size)))).mono ?_)
   rintro e wc203 ⟨I5,v203,rfl,J5⟩;refine hK _ _ ⟨v203,by simp only[FL,f27] <;> kernel_rfl,I5,J5,nF⟩
  ·intro xs p0 c0 b0;clear c0;have f27:(xs 27)=.bool true:=b0 _ (m_ 27 rfl) (by kernel_rfl);have f29:QV p0 p0.heap.size (xs 29) (mkRat 1 1):=b0 _ (m_ 29 rfl) (by kernel_rfl);have f30:QV p0 p0.heap.size (xs 30) (mkRat 0 1):=b0 _ (m_ 30 rfl) (by kernel_rfl);clear b0;refine wpOp_step (o:=?_) ?Y6 ?_
   case Y6=>exact rfl
   intro K hK;simp only[FL]
   go_simp;(with_reducible refine(QDiv_zero f29 f30 (lit_QL (x:=1) (d:=1) (by decide) (by decide +kernel) (by decide +kernel) (by decide +kernel)) (lit_QL (x:=0) (d:=1) (by decide) (by decide +kernel) (by decide +kernel) (by decide +kernel))).mono ?_)
   rintro e wc205 ⟨K5,v205,rfl,L5⟩;refine hK _ _ ⟨.tuple #[v205,.int .i64 7],by simp only[FL,f27] <;> kernel_rfl,K5,⟨v205,rfl,L5⟩,nF⟩
  ·intro xs Z1 c0 b0;clear c0;have f27:(xs 27)=.bool true:=b0 _ (m_ 27 rfl) (by kernel_rfl);have f31:∃ u,(xs 31)=.tuple #[u,.int .i64 7]∧QR Z1 Z1.heap.size u false [] false []:=b0 _ (m_ 31 rfl) (by kernel_rfl);clear b0;refine wpOp_step (o:=?_) ?a7 ?_
   case a7=>exact rfl
   intro K hK;simp only[FL]
   obtain⟨u,hu,hl⟩:=f31;rw[hu];go_simp;refine hK _ _ ⟨u,by simp only[FL,f27,hu] <;> kernel_rfl,Below.refl _ _,hl,nF⟩
  ·intro xs a2 c0 b0;clear c0;have f27:(xs 27)=.bool true:=b0 _ (m_ 27 rfl) (by kernel_rfl);have f31:∃ u,(xs 31)=.tuple #[u,.int .i64 7]∧QR a2 a2.heap.size u false [] false []:=b0 _ (m_ 31 rfl) (by kernel_rfl);clear b0;refine wpOp_step (o:=?_) ?c7 ?_
   case c7=>exact rfl
   intro K hK;simp only[FL]
   obtain⟨u,hu,-⟩:=f31;rw[hu];go_simp;refine hK _ _ ⟨.int .i64 7,by simp only[FL,f27,hu] <;> kernel_rfl,Below.refl _ _,rfl,nF⟩
  ·intro xs C0 c0 b0;clear c0;have f27:(xs 27)=.bool true:=b0 _ (m_ 27 rfl) (by kernel_rfl);have f28:∃ N,(xs 28)=.func (.func 40) #[] #[.pointer (some ⟨N,0,none⟩)]∧One C0 N 31 (.int .i64 7):=b0 _ (m_ 28 rfl) (by kernel_rfl);have f32:QR C0 C0.heap.size (xs 32) false [] false []:=b0 _ (m_ 32 rfl) (by kernel_rfl);have f33:(xs 33)=.int .i64 7:=b0 _ (m_ 33 rfl) (by kernel_rfl);clear b0;refine wpOp_step (o:=?_) ?e7 ?_
   case e7=>exact rfl
   intro K hK;simp only[FL]
   obtain⟨N,hN,hO⟩:=f28;rw[hN];have HO:=zz hO;clear hO;go_simp;(with_reducible refine(failsQ_yes HO.out f32).mono ?_)
   rintro e wc209 ⟨M5,rfl⟩;refine hK _ _ ⟨.bool true,by simp only[FL,f27,f33,hN] <;> kernel_rfl,M5,rfl,nF⟩
  ·intro xs s8 c0 b0;clear c0;have f27:(xs 27)=.bool true:=b0 _ (m_ 27 rfl) (by kernel_rfl);have f34:(xs 34)=.bool true:=b0 _ (m_ 34 rfl) (by kernel_rfl);clear b0;refine wpOp_step (o:=_) rfl (fun K hK=>?_);simp only[FL]
   go_simp;refine hK _ _ ⟨.bool true,by simp only[FL,f27,f34] <;> kernel_rfl,Below.refl _ _,rfl,nF⟩
 ·exact all_nil
 ·intro xs u8 hbf hf hn hd;have f0:(xs 0)=.bool true:=hf _ (m_ 0 rfl);have f1:(xs 1)=.bool true:=hf _ (m_ 1 rfl);have f2:∃ N,(xs 2)=.func (.func 57) #[] #[.pointer (some ⟨N,0,none⟩)]∧One u8 N 3 (.int .i64 (-1)):=hf _ (m_ 2 rfl);have f3:QV u8 u8.heap.size (xs 3) (mkRat 1 3):=hf _ (m_ 3 rfl);have f4:QV u8 u8.heap.size (xs 4) (mkRat 1 2):=hf _ (m_ 4 rfl);have f5:(xs 5)=.tuple #[.int .i64 (-1),.int .i64 0]:=hf _ (m_ 5 rfl);have f6:(xs 6)=.int .i64 (-1):=hf _ (m_ 6 rfl);have f7:(xs 7)=.int .i64 0:=hf _ (m_ 7 rfl);have f8:(xs 8)=.bool true:=hf _ (m_ 8 rfl);have f9:(xs 9)=.bool true:=hf _ (m_ 9 rfl);have f10:(xs 10)=.bool true:=hf _ (m_ 10 rfl);have f11:∃ N,(xs 11)=.func (.func 57) #[] #[.pointer (some ⟨N,0,none⟩)]∧One u8 N 3 (.int .i64 (-1)):=hf _ (m_ 11 rfl);have f12:QV u8 u8.heap.size (xs 12) (mkRat (-1) 2):=hf _ (m_ 12 rfl);have f13:(xs 13)=.tuple #[.int .i64 (-1),.int .i64 0]:=hf _ (m_ 13 rfl);have f14:(xs 14)=.int .i64 (-1):=hf _ (m_ 14 rfl);have f15:(xs 15)=.int .i64 0:=hf _ (m_ 15 rfl);have f16:(xs 16)=.bool true:=hf _ (m_ 16 rfl);have f17:(xs 17)=.bool true:=hf _ (m_ 17 rfl);have f18:(xs 18)=.bool true:=hf _ (m_ 18 rfl);have f19:(xs 19)=.agg #[.bool n151,.slice w8 l151 c151]:=hf _ (m_ 19 rfl);have f20:LV u8 u8.heap.size (xs 20) (-1):=hf _ (m_ 20 rfl);have f21:(xs 21)=.bool true:=hf _ (m_ 21 rfl);have f22:(xs 22)=.bool true:=hf _ (m_ 22 rfl);have f23:(xs 23)=.bool true:=hf _ (m_ 23 rfl);have f24:(xs 24)=.int .i64 0:=hf _ (m_ 24 rfl)
  have f25:(xs 25)=.bool true:=hf _ (m_ 25 rfl);have f26:(xs 26)=.bool true:=hf _ (m_ 26 rfl);have f27:(xs 27)=.bool true:=hf _ (m_ 27 rfl);have f28:∃ N,(xs 28)=.func (.func 40) #[] #[.pointer (some ⟨N,0,none⟩)]∧One u8 N 31 (.int .i64 7):=hf _ (m_ 28 rfl);have f29:QV u8 u8.heap.size (xs 29) (mkRat 1 1):=hf _ (m_ 29 rfl);have f30:QV u8 u8.heap.size (xs 30) (mkRat 0 1):=hf _ (m_ 30 rfl);have f31:∃ u,(xs 31)=.tuple #[u,.int .i64 7]∧QR u8 u8.heap.size u false [] false []:=hf _ (m_ 31 rfl);have f32:QR u8 u8.heap.size (xs 32) false [] false []:=hf _ (m_ 32 rfl);have f33:(xs 33)=.int .i64 7:=hf _ (m_ 33 rfl);have f34:(xs 34)=.bool true:=hf _ (m_ 34 rfl);have f35:(xs 35)=.bool true:=hf _ (m_ 35 rfl);clear hf hn hd;simp only[FL]
  have B212:=zz hbf;have z212:=B212.out.size;have b2:=zz (d0.out.trans (B212.out.mono d0.out.size));clear hbf;generalize xs 0=x0,xs 1=x1,xs 2=x2,xs 3=x3,xs 4=x4,xs 5=x5,xs 6=x6,xs 7=x7,xs 8=x8,xs 9=x9,xs 10=x10,xs 11=x11,xs 12=x12,xs 13=x13,xs 14=x14,xs 15=x15,xs 16=x16,xs 17=x17,xs 18=x18,xs 19=x19,xs 20=x20,xs 21=x21,xs 22=x22,xs 23=x23,xs 24=x24,xs 25=x25,xs 26=x26,xs 27=x27,xs 28=x28,xs 29=x29,xs 30=x30,xs 31=x31,xs 32=x32,xs 33=x33,xs 34=x34,xs 35=x35 at *
  obtain rfl:=f0;obtain rfl:=f1;clear f2;clear f3;clear f4;obtain rfl:=f5;obtain rfl:=f6;obtain rfl:=f7;obtain rfl:=f8;obtain rfl:=f9;obtain rfl:=f10;clear f11;clear f12;obtain rfl:=f13;obtain rfl:=f14;obtain rfl:=f15;obtain rfl:=f16;obtain rfl:=f17;obtain rfl:=f18;obtain rfl:=f19;clear f20;obtain rfl:=f21;obtain rfl:=f22;obtain rfl:=f23;obtain rfl:=f24;obtain rfl:=f25;obtain rfl:=f26;obtain rfl:=f27;clear f28;clear f29;clear f30;clear f31;clear f32;obtain rfl:=f33;obtain rfl:=f34;obtain rfl:=f35;refine Early.next (i:=36) (by kernel_rfl) rfl (fun K hK=>?_);go_simp;refine hK _ _ (fun _=>trivial) ?_;clear hK K;(try simp only[Act.put,List.setIfInBounds_toArray,List.set_cons_zero,List.set_cons_succ])
  refine Early.done (by kernel_rfl) ?_ _;(try simp only[Exit.then])
  go_wp2_with fail
  refine(spansQ_new _ 1431655765 1431655766).mono ?_;rintro e w215 ⟨c2,N214,N214',rfl,hN214,hN214'⟩;have B216:=zz c2;have z216:=B216.out.size;have D0:=zz (b2.out.trans (B216.out.mono b2.out.size));clear c2;go_wp2_with fail
  refine(ofQ_lit _ ⟨#[49,47,51]⟩ (mkRat 1 3) plit_49_47_51 (by decide +kernel) (M.step D0.out)).mono ?_;rintro e w219 ⟨d2,v218,rfl,e2⟩;have B220:=zz d2;have z220:=B220.out.size;have E0:=zz (D0.out.trans (B220.out.mono D0.out.size));clear d2;have L4:=zz e2;clear e2;go_wp2_with fail
  refine(QSpan_lit L4.out (lit_QL (x:=1) (d:=3) (by decide) (by decide +kernel) (by decide +kernel) (by decide +kernel)) (r:=((1431655765,1431655766),0)) (by decide +kernel) (G.step E0.out)).mono ?_;rintro e w223 ⟨g2,rfl⟩;have B224:=zz g2;have z224:=B224.out.size;have h2:=zz (E0.out.trans (B224.out.mono E0.out.size));clear g2;have P2_4_227:=zz (B220.out.trans (B224.out.mono B220.out.size));have Z0:=One.step hN214 P2_4_227.out;have u0:=One.step hN214' P2_4_227.out;go_wp2_with fail
  refine(spansQ_yes Z0 u0).mono ?_;rintro e w229 ⟨j2,rfl⟩;have B230:=zz j2;have z230:=B230.out.size;have k2:=zz (h2.out.trans (B230.out.mono h2.out.size));clear j2;clear u0;clear Z0;go_wp2_with fail
  refine(spansQ_new _ (-12884901888) (-12884901888)).mono ?_;rintro e w233 ⟨l2,N232,N232',rfl,hN232,hN232'⟩;have B234:=zz l2;have z234:=B234.out.size;have F0:=zz (k2.out.trans (B234.out.mono k2.out.size));clear l2;go_wp2_with fail
  refine(ofQ_lit _ ⟨#[45,51]⟩ (mkRat (-3) 1) plit_45_51 (by decide +kernel) (M.step F0.out)).mono ?_;rintro e w237 ⟨m2,v236,rfl,n2⟩;have B238:=zz m2;have z238:=B238.out.size;have G0:=zz (F0.out.trans (B238.out.mono F0.out.size));clear m2;have M4:=zz n2;clear n2;go_wp2_with fail
  refine(QSpan_lit M4.out (lit_QL (x:=(-3)) (d:=1) (by decide) (by decide +kernel) (by decide +kernel) (by decide +kernel)) (r:=(((-12884901888),(-12884901888)),0)) (by decide +kernel) (G.step G0.out)).mono ?_;rintro e w241 ⟨o2,rfl⟩;have B242:=zz o2;have z242:=B242.out.size;have p2:=zz (G0.out.trans (B242.out.mono G0.out.size));clear o2;have P2_4_245:=zz (B238.out.trans (B242.out.mono B238.out.size));have a1:=One.step hN232 P2_4_245.out;have v0:=One.step hN232' P2_4_245.out;go_wp2_with fail
  refine(spansQ_yes a1 v0).mono ?_;rintro e w247 ⟨q2,rfl⟩;have B248:=zz q2;have z248:=B248.out.size;have r2:=zz (p2.out.trans (B248.out.mono p2.out.size));clear q2;clear v0;clear a1;go_wp2_with fail
  refine(saysQ_new _ 1).mono ?_;rintro e w251 ⟨t2,N250,rfl,hN250⟩;have B252:=zz t2;have z252:=B252.out.size;have H0:=zz (r2.out.trans (B252.out.mono r2.out.size));clear t2;go_wp2_with fail
  refine(ofQ_lit _ ⟨#[49,47,50]⟩ (mkRat 1 2) plit_49_47_50 (by decide +kernel) (M.step H0.out)).mono ?_;rintro e w255 ⟨u2,v254,rfl,y2⟩;have B256:=zz u2;have z256:=B256.out.size;have I0:=zz (H0.out.trans (B256.out.mono H0.out.size));clear u2;have N4:=zz y2;clear y2;go_wp2_with fail
  refine(QNear_lit N4.out (lit_QL (x:=1) (d:=2) (by decide) (by decide +kernel) (by decide +kernel) (by decide +kernel)) (s:=1) (r:=(1,0)) (by decide +kernel) (G.step I0.out)).mono ?_;rintro e w259 ⟨z2,rfl⟩;have B260:=zz z2;have z260:=B260.out.size;have A2:=zz (I0.out.trans (B260.out.mono I0.out.size));clear z2;have P2_4_263:=zz (B256.out.trans (B260.out.mono B256.out.size));have b1:=One.step hN250 P2_4_263.out;go_wp2_with fail
  refine(saysQ_yes b1).mono ?_;rintro e w264 ⟨B2,rfl⟩;have B265:=zz B2;have z265:=B265.out.size;have C2:=zz (A2.out.trans (B265.out.mono A2.out.size));clear B2;clear b1;go_wp2_with fail
  refine(saysQ_new _ 0).mono ?_;rintro e w268 ⟨D2,N267,rfl,hN267⟩;have B269:=zz D2;have z269:=B269.out.size;have J0:=zz (C2.out.trans (B269.out.mono C2.out.size));clear D2;go_wp2_with fail
  refine(ofQ_lit _ ⟨#[45,49,47,50]⟩ (mkRat (-1) 2) plit_45_49_47_50 (by decide +kernel) (M.step J0.out)).mono ?_;rintro e w272 ⟨E2,v271,rfl,F2⟩;have B273:=zz E2;have z273:=B273.out.size;have K0:=zz (J0.out.trans (B273.out.mono J0.out.size));clear E2;have O4:=zz F2;clear F2;go_wp2_with fail
  refine(QNear_lit O4.out (lit_QL (x:=(-1)) (d:=2) (by decide) (by decide +kernel) (by decide +kernel) (by decide +kernel)) (s:=1) (r:=(0,0)) (by decide +kernel) (G.step K0.out)).mono ?_;rintro e w276 ⟨G2,rfl⟩;have B277:=zz G2;have z277:=B277.out.size;have H2:=zz (K0.out.trans (B277.out.mono K0.out.size));clear G2;have P2_4_280:=zz (B273.out.trans (B277.out.mono B273.out.size));have c1:=One.step hN267 P2_4_280.out;go_wp2_with fail
  refine(saysQ_yes c1).mono ?_;rintro e w281 ⟨I2,rfl⟩;have B282:=zz I2;have z282:=B282.out.size;have J2:=zz (H2.out.trans (B282.out.mono H2.out.size));clear I2;clear c1;go_wp2_with fail
  refine(saysQ_new _ 667).mono ?_;rintro e w285 ⟨K2,N284,rfl,hN284⟩;have B286:=zz K2;have z286:=B286.out.size;have L0:=zz (J2.out.trans (B286.out.mono J2.out.size));clear K2;go_wp2_with fail
  refine(ofQ_lit _ ⟨#[50,47,51]⟩ (mkRat 2 3) plit_50_47_51 (by decide +kernel) (M.step L0.out)).mono ?_;rintro e w289 ⟨L2,v288,rfl,M2⟩;have B290:=zz L2;have z290:=B290.out.size;have M0:=zz (L0.out.trans (B290.out.mono L0.out.size));clear L2;have P4:=zz M2;clear M2;go_wp2_with fail
  refine(QNear_lit P4.out (lit_QL (x:=2) (d:=3) (by decide) (by decide +kernel) (by decide +kernel) (by decide +kernel)) (s:=1000) (r:=(667,0)) (by decide +kernel) (G.step M0.out)).mono ?_;rintro e w293 ⟨N2,rfl⟩;have B294:=zz N2;have z294:=B294.out.size;have O2:=zz (M0.out.trans (B294.out.mono M0.out.size));clear N2;have P2_4_297:=zz (B290.out.trans (B294.out.mono B290.out.size));have d1:=One.step hN284 P2_4_297.out;go_wp2_with fail
  refine(saysQ_yes d1).mono ?_;rintro e w298 ⟨P2,rfl⟩;have B299:=zz P2;have z299:=B299.out.size;have N0:=zz (O2.out.trans (B299.out.mono O2.out.size));clear P2;clear d1;go_wp2_with fail
  refine(ofQ_lit _ ⟨#[49]⟩ (mkRat 1 1) plit_49 (by decide +kernel) (M.step N0.out)).mono ?_;rintro e w302 ⟨Q2,v301,rfl,R2⟩;have B303:=zz Q2;have z303:=B303.out.size;have O0:=zz (N0.out.trans (B303.out.mono N0.out.size));clear Q2;have Q4:=zz R2;clear R2;go_wp2_with fail
  refine(QNear_lit Q4.out (lit_QL (x:=1) (d:=1) (by decide) (by decide +kernel) (by decide +kernel) (by decide +kernel)) (s:=0) (r:=(0,2)) (by decide +kernel) (G.step O0.out)).mono ?_;rintro e w306 ⟨S2,rfl⟩;have B307:=zz S2;have z307:=B307.out.size;have T2:=zz (O0.out.trans (B307.out.mono O0.out.size));clear S2;go_upto_region 6 with (fail)
  have i0:=idx4_0;have i1:=idx4_1;have i2:=idx4_2;have i3:=idx4_3;go_wp2;go_loopw [151] (fun i wr=>∃ j:Nat,j≤4∧i=.int .i64 j∧Hid (Below w.heap.size w wr)) (fun i _=>4-(intOf i).toNat)
  case atStart=>exact⟨0,by omega,rfl,T2⟩
  case round=>
   clear T2;obtain⟨j,hj,rfl,v8⟩:=hrel;have hj3:j=0∨j=1∨j=2∨j=3∨j=4:=by omega
   rcases hj3 with rfl | rfl | rfl | rfl | rfl
   ·rw[show((0:Nat):Int)=0 from rfl];go_wp2_with fail
    refine(failsQ_new _ 5).mono ?_;rintro e w310 ⟨U2,N309,rfl,hN309⟩;have B311:=zz U2;have z311:=B311.out.size;have P0:=zz (v8.out.trans (B311.out.mono v8.out.size));clear U2;go_wp2_with fail
    refine(QParse_any _ ⟨#[50,47,52]⟩ (by decide +kernel) (M.step P0.out)).mono ?_;rintro e w314 ⟨V2,v313,rfl,j0⟩;have B315:=zz V2;have z315:=B315.out.size;have W2:=zz (P0.out.trans (B315.out.mono P0.out.size));clear V2;have heq313:=bad0;rw[heq313] at j0;rw[heq313];clear heq313;replace j0:QR w314 w314.heap.size v313 false [] false []:=j0;have R4:=zz j0;clear j0;have e1:=One.step hN309 B315.out;go_wp2_with fail
    refine(failsQ_yes e1 R4.out).mono ?_;rintro e w319 ⟨X2,rfl⟩;have B320:=zz X2;have z320:=B320.out.size;have N5:=zz (W2.out.trans (B320.out.mono W2.out.size));clear X2;clear e1;go_wp2;go_roundw
    case rel=>exact⟨1,by omega,rfl,zz N5.out⟩
    case measure=>simp[intOf]
   ·rw[show((1:Nat):Int)=1 from rfl];go_wp2_with fail
    refine(failsQ_new _ 5).mono ?_;rintro e w323 ⟨Y2,N322,rfl,hN322⟩;have B324:=zz Y2;have z324:=B324.out.size;have Q0:=zz (v8.out.trans (B324.out.mono v8.out.size));clear Y2;go_wp2_with fail
    refine(QParse_any _ ⟨#[51,47,49]⟩ (by decide +kernel) (M.step Q0.out)).mono ?_;rintro e w327 ⟨Z2,v326,rfl,k0⟩;have B328:=zz Z2;have z328:=B328.out.size;have a3:=zz (Q0.out.trans (B328.out.mono Q0.out.size));clear Z2;have heq326:=bad1;rw[heq326] at k0;rw[heq326];clear heq326;replace k0:QR w327 w327.heap.size v326 false [] false []:=k0;have S4:=zz k0;clear k0;have g1:=One.step hN322 B328.out;go_wp2_with fail
    refine(failsQ_yes g1 S4.out).mono ?_;rintro e w332 ⟨b3,rfl⟩;have B333:=zz b3;have z333:=B333.out.size;have O5:=zz (a3.out.trans (B333.out.mono a3.out.size));clear b3;clear g1;go_wp2;go_roundw
    case rel=>exact⟨2,by omega,rfl,zz O5.out⟩
    case measure=>simp[intOf]
   ·rw[show((2:Nat):Int)=2 from rfl];go_wp2_with fail
    refine(failsQ_new _ 5).mono ?_;rintro e w336 ⟨c3,N335,rfl,hN335⟩;have B337:=zz c3;have z337:=B337.out.size;have R0:=zz (v8.out.trans (B337.out.mono v8.out.size));clear c3;go_wp2_with fail
    refine(QParse_any _ ⟨#[49,47,45,50]⟩ (by decide +kernel) (M.step R0.out)).mono ?_;rintro e w340 ⟨d3,v339,rfl,l0⟩;have B341:=zz d3;have z341:=B341.out.size;have e3:=zz (R0.out.trans (B341.out.mono R0.out.size));clear d3;have heq339:=bad2;rw[heq339] at l0;rw[heq339];clear heq339;replace l0:QR w340 w340.heap.size v339 false [] false []:=l0;have T4:=zz l0;clear l0;have h1:=One.step hN335 B341.out;go_wp2_with fail
    refine(failsQ_yes h1 T4.out).mono ?_;rintro e w345 ⟨g3,rfl⟩;have B346:=zz g3;have z346:=B346.out.size;have P5:=zz (e3.out.trans (B346.out.mono e3.out.size));clear g3;clear h1;go_wp2;go_roundw
    case rel=>exact⟨3,by omega,rfl,zz P5.out⟩
    case measure=>simp[intOf]
   ·rw[show((3:Nat):Int)=3 from rfl];go_wp2_with fail
    refine(failsQ_new _ 5).mono ?_;rintro e w349 ⟨h3,N348,rfl,hN348⟩;have B350:=zz h3;have z350:=B350.out.size;have S0:=zz (v8.out.trans (B350.out.mono v8.out.size));clear h3;go_wp2_with fail
    refine(QParse_any _ ⟨#[49,47]⟩ (by decide +kernel) (M.step S0.out)).mono ?_;rintro e w353 ⟨j3,v352,rfl,m0⟩;have B354:=zz j3;have z354:=B354.out.size;have k3:=zz (S0.out.trans (B354.out.mono S0.out.size));clear j3;have heq352:=bad3;rw[heq352] at m0;rw[heq352];clear heq352;replace m0:QR w353 w353.heap.size v352 false [] false []:=m0;have U4:=zz m0;clear m0;have j1:=One.step hN348 B354.out;go_wp2_with fail
    refine(failsQ_yes j1 U4.out).mono ?_;rintro e w358 ⟨l3,rfl⟩;have B359:=zz l3;have z359:=B359.out.size;have Q5:=zz (k3.out.trans (B359.out.mono k3.out.size));clear l3;clear j1;go_wp2;go_roundw
    case rel=>exact⟨4,by omega,rfl,zz Q5.out⟩
    case measure=>simp[intOf]
   ·rw[show((4:Nat):Int)=4 from rfl];go_wp2_with fail
    refine(isQ_new _ ⟨#[51,47,50]⟩).mono ?_;rintro e w362 ⟨m3,N361,rfl,hN361⟩;have B363:=zz m3;have z363:=B363.out.size;have T0:=zz (v8.out.trans (B363.out.mono v8.out.size));clear m3;go_wp2_with fail
    refine(QParse_any _ ⟨#[51,47,50]⟩ (by decide +kernel) (M.step T0.out)).mono ?_;rintro e w366 ⟨n3,v365,rfl,n0⟩;have B367:=zz n3;have z367:=B367.out.size;have U0:=zz (T0.out.trans (B367.out.mono T0.out.size));clear n3;have heq365:=plit_51_47_50;rw[heq365] at n0;rw[heq365];clear heq365;replace n0:QV w366 w366.heap.size v365 (mkRat 3 2):=n0;have V4:=zz n0;clear n0;have k1:=One.step hN361 B367.out;go_wp2_with fail
    refine(isQ_yes k1 V4.out (lit_QL (x:=3) (d:=2) (by decide) (by decide +kernel) (by decide +kernel) (by decide +kernel)) (lit_frac (s1:=[51]) (s2:=[50]) (x:=3) (d:=2) (by decide +kernel) (by decide +kernel) (by decide) (by decide +kernel)) (G.step U0.out)).mono ?_;rintro e w371 ⟨o3,rfl⟩;have B372:=zz o3;have z372:=B372.out.size;have p3:=zz (U0.out.trans (B372.out.mono U0.out.size));clear o3;clear k1;go_wp2_with fail
    refine(Of_any _ 2 (by decide) (by decide)).mono ?_;rintro e w374 ⟨q3,v1,rfl,U5⟩;have B375:=zz q3;have z375:=B375.out.size;have r3:=zz (p3.out.trans (B375.out.mono p3.out.size));clear q3;obtain⟨n377,z8,l377,c377,rfl,s3⟩:=U5.opened;have W4:=zz s3;clear U5 s3;go_wp2_with fail
    refine(Of_any _ 4 (by decide) (by decide)).mono ?_;rintro e w378 ⟨t3,v2,rfl,V5⟩;have B379:=zz t3;have z379:=B379.out.size;have u3:=zz (r3.out.trans (B379.out.mono r3.out.size));clear t3;obtain⟨n381,A8,l381,c381,rfl,w3⟩:=V5.opened;have X4:=zz w3;clear V5 w3;go_wp2_with fail
    have Y4:=zz (LV.step W4.out B379.out);refine(QCheck_no (QR.of Y4.out X4.out) (qOf_lit (by decide) (by decide) (by decide))).mono ?_;rintro e w382 ⟨y3,rfl⟩;have B384:=zz y3;have z384:=B384.out.size;have A3:=zz (u3.out.trans (B384.out.mono u3.out.size));clear y3;go_wp2_with fail
    refine(Of_any _ 1 (by decide) (by decide)).mono ?_;rintro e w386 ⟨C3,v3,rfl,W5⟩;have B387:=zz C3;have z387:=B387.out.size;have D3:=zz (A3.out.trans (B387.out.mono A3.out.size));clear C3;obtain⟨n389,B8,l389,c389,rfl,E3⟩:=W5.opened;have Z4:=zz E3;clear W5 E3;go_wp2_with fail
    refine(QCheck_no (QR.of Z4.out (LV.zero _ _)) (qOf_lit (by decide) (by decide) (by decide))).mono ?_;rintro e w390 ⟨F3,rfl⟩;have B391:=zz F3;have z391:=B391.out.size;have R5:=zz (D3.out.trans (B391.out.mono D3.out.size));clear F3;go_wp2;go_ret;exact⟨R5.out,rfl⟩
end Go.Proofs.YtngpibfakemmhaaGreatDoor
