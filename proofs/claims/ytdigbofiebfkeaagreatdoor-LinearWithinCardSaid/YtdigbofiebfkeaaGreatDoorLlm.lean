/- Texts put together: Layer 35: told, solve (written by gen_ll.py). Layer 35: normal (written by gen_lm.py). -/
import Derived.Test.YtdigbofiebfkeaaGreatDoorLk
import Derived.Test.YtdigbofiebfkeaaGreatDoorQI
namespace Go.Proofs.YtdigbofiebfkeaaGreatDoor
open Go Go.RowKit Dig
set_option maxRecDepth 100000
set_option maxHeartbeats 4000000
set_option linter.unusedSimpArgs false
theorem with_wide {M:List (List Rat)} {b:List Rat} {k:Nat} (h:Wide M k):Wide (withQ M b) (k+1):=by
 intro r hr;obtain⟨i,hi,rfl⟩:=List.getElem_of_mem hr;simp only[withQ,List.getElem_mapIdx,List.length_append,List.length_cons,List.length_nil,Nat.zero_add]
 rw[h _ (List.getElem_mem _)]
theorem with_short {M:List (List Rat)} {b:List Rat} {l:Nat} (h:Short l M) (hb:∀ q∈b,QL l l q) (h1:1≤l):Short l (withQ M b):=by
 intro r hr q hq;obtain⟨i,hi,rfl⟩:=List.getElem_of_mem hr;simp only[withQ,List.getElem_mapIdx] at hq
 rcases List.mem_append.1 hq with hq | hq
 ·exact h _ (List.getElem_mem _) q hq
 ·rw[List.mem_singleton.1 hq];exact short_getD hb h1 i
theorem Wide.row {t:List (List Rat)} {m:Nat} {r:List Rat} (h:Wide t m) (hr:r∈t):r.length=m:=h r hr
theorem SL.take {α:Type} {k:Nat} {E:Elem α} {w:World} {B:Nat} {A:Option Addr} {m c n:Nat} {l:List α} (h:SL k E w B (.slice A m c) l) (hn:n≤l.length):SL k E w B (.slice A n c) (l.take n):=by
 obtain⟨A',c',e,h1,h2,h3⟩:=h;injection e with e1 e2 e3
 subst e1;subst e3;have hl:(l.take n).length=n:=by rw[List.length_take];omega
 refine⟨A,c,by rw[hl],by rw[hl];omega,h2,fun h0=>?_⟩;obtain⟨g,off,hA,hg,hx⟩:=h3 (by omega);refine⟨g,off,hA,hg,fun j hj=>?_⟩;obtain⟨cs,c1,c2,c4⟩:=hx j (by omega);exact⟨cs,c1,c2,by rw[List.getElem_take];exact c4⟩
theorem slT {w w':World} {T TH:TypeId} {B tb R Rh k:Nat} {G C:Nat→Nat} {M:List (List Rat)} (h:OM 3 ER T TH w B tb Rh G C M) (hb:Below w.heap.size w w') (hR:M.length≤R∧R≤9223372036854775807) (hk:k≤M.length):RM w' w'.heap.size (.slice (some ⟨tb,0,none⟩) k R) (M.take k):=
 ((h.step ER.stable hb).sl hR.1 hR.2).take hk
def SolR (Z:Nat) (w:World) (o:Option (List Rat)) (e:Ending):Prop:=match o with
 | some x=>∃ g,e=.returned (.tuple #[.slice (some ⟨g,0,none⟩) x.length x.length,.int .i64 0])∧Z≤g∧OB 3 ER 84 w g x.length x
 | none=>e=.returned (.tuple #[.slice none 0 0,.int .i64 7])
theorem info_quot:(Tryz.prog.info? 33).map (fun i=>(i.zero,i.size,i.bytes))=some (some (.agg #[.bool false,.slice none 0 0,.bool false,.slice none 0 0]),4,64):=by kernel_rfl
def LO (w:World) (B:Nat) (v:Value):Option (List Rat)→Prop
 | some l=>QS w B v (l.map qx)
 | none=>v=.slice none 0 0
def LOo (Z:Nat) (w:World) (v:Value):Option (List Rat)→Prop
 | some l=>OA 4 EQ 33 w Z v (l.map qx)
 | none=>v=.slice none 0 0
theorem LOo.lo {Z:Nat} {w:World} {v:Value}:∀ {o:Option (List Rat)},LOo Z w v o→LO w w.heap.size v o
 | some _,h=>OA.sl h
 | none,h=>h
def RetLo (Z:Nat) (w:World) (r:Option (List Rat) × Int) (e:Ending):Prop:=∃ v,e=.returned (.tuple #[v,.int .i64 r.2])∧LOo Z w v r.1
def RetLs (w:World) (r:Option (List Rat) × Int) (e:Ending):Prop:=∃ v,e=.returned (.tuple #[v,.int .i64 r.2])∧LO w w.heap.size v r.1
theorem ltold_own (w:World) (A:Option Addr) (n c:Nat) (l:List Rat) (h:RS w w.heap.size (.slice A n c) l) (hq:∀ q∈l,QL 300000000 300000000 q) (hl:l.length≤1000000) :
  Calls Tryz.prog 43 #[.slice A n c] w fun e w'=>Below w.heap.size w w'∧RetLo w.heap.size w' (toldL l) e:=by
 obtain⟨rfl,hn1,hn2⟩:=SL.len h;have HS:=zz h;have HQ:=zz hq;have HL:=zz hl;clear h hq;have hkk:(l.length:Int)≤1000000:=by omega
 obtain⟨iq,hiq,hzq,hsq,hbq⟩:=info_parts info_quot;have F0:=zz (Below.refl w.heap.size w);go_enter Tryz.func43,Tryz.ntmps43
 go_wp2;go_loopw [4,11] (fun ov iv wr=>∃ j:Nat,j≤l.length∧iv=.int .i64 j∧Hid (OA 4 EQ 33 wr w.heap.size ov ((l.take j).map qx))∧Hid (∀ q∈l.take j,fitQ q)∧Hid (Below w.heap.size w wr)) (fun _ iv _=>l.length-(intOf iv).toNat)
 case atStart=>exact⟨0,Nat.zero_le _,rfl,zz OA.nil,zz (fun q h=>by simp at h),F0⟩
 case round=>
  obtain⟨j,hj,rfl,HO,HF,HW⟩:=hrel;have zr:=HW.out.size;by_cases hlt:j<l.length
  ·obtain⟨g,off,xn,xA,xl,xc,xB,xu,xd,rfl,hg,hE,hx⟩:=RS.elem HS.out hlt;replace hE:=hE.step HW.out;have HX:=zz (RV.step hx HW.out);clear hx hg;have hji:(0:Int)≤(j:Int)∧(j:Int)<(l.length:Int):=(by omega);have htk:l.take (j+1)=l.take j++[l[j]]:=by rw[List.take_add_one,List.getElem?_eq_getElem hlt];rfl
   have R0:=zz htk;have S0:=zz (HQ.out l[j] (List.getElem_mem hlt));have HM:=zz (List.getElem_mem hlt);clear htk;generalize l[j]=x at HX R0 S0 HM;have x0:=hE.c0;have y0:=hE.c1;have z0:=hE.c2;have W0:=hE.lt;go_upto_region 5 with (fail)
   clear x0 y0 z0 W0;obtain⟨w2,g0⟩:∃ w2:World,w2=(wr.alloc (.cells #[.bool xn,.slice xA xl xc,.slice xB xu xd] 84)):=⟨_,rfl⟩;rw[← g0];have a0:=n1_0 g0;have za2:=n1_z g0;have B3:=zz (n1_b g0);have z3:=B3.out.size;have v0:=tr HW B3;clear g0;have e1:=zz (HO.out.step EQ.stable B3.out);by_cases hfit:fitQ x
   case neg=>
    have HR:=zz (show toldQ x=(none,6) from if_neg hfit);have T0:=zz (show toldL l=(none,6) from if_neg (fun h=>hfit (h x HM.out)));clear hfit;have A0:=a0.cell 0 rfl;have B0:=a0.cell 1 rfl;have C0:=a0.cell 2 rfl;have X0:=a0.lt;go_wp2_with fail
    have D0:=zz (RV.step HX.out B3.out);refine(ToldR_any _ _ x D0.out S0.out).mono ?_;rintro e w5 ⟨e0,hr⟩;have B8:=zz e0;have z8:=B8.out.size;have G0:=tr v0 B8;clear e0;clear A0 B0 C0 X0;rw[HR.out] at hr;obtain⟨v,rfl,hv⟩:=hr;obtain⟨m1,n1,o1,p1,I0,q1,rfl,ha10,h0⟩:=hv;have J0:=zz (QR.mk (n:=false) (m:=false) ha10 h0);clear ha10 h0;go_wp2;go_ret2;exact⟨below_alloc1 G0.out _,by rw[T0.out];exact⟨_,rfl,rfl⟩⟩
   case pos=>
    have HR:=zz (show toldQ x=(some x,0) from if_pos hfit);have f1:=zz (show ∀ q∈l.take (j+1),fitQ q from fun q h=>by rw[R0.out] at h;rcases List.mem_append.1 h with h | h;exact HF.out q h;rw[List.mem_singleton.1 h];exact hfit);clear hfit;have l0:=a0.cell 0 rfl;have m0:=a0.cell 1 rfl;have n0:=a0.cell 2 rfl;have U0:=a0.lt;go_wp2_with fail
    have o0:=zz (RV.step HX.out B3.out);refine(ToldR_any _ _ x o0.out S0.out).mono ?_;rintro e w11 ⟨i0,hr⟩;have B14:=zz i0;have z14:=B14.out.size;have E0:=tr v0 B14;clear i0;clear l0 m0 n0 U0;rw[HR.out] at hr;obtain⟨v,rfl,hv⟩:=hr;obtain⟨K0,L0,M0,N0,O0,d0,P0,rfl,ha16,j0,hc16⟩:=hv;have p0:=zz (show QV w11 w11.heap.size (.agg #[.bool K0,.slice L0 M0 N0,.bool false,.slice O0 d0 P0]) x from⟨_,_,_,_,_,_,_,rfl,ha16,j0,hc16⟩);clear ha16 j0 hc16;have g1:=zz (e1.out.step EQ.stable B14.out);go_upto_region 8 with (fail)
    obtain⟨w17,f0⟩:∃ w17:World,w17=(w11.alloc (.cells #[.bool K0,.slice L0 M0 N0,.bool false,.slice O0 d0 P0] 33)):=⟨_,rfl⟩;rw[← f0];have b0:=n1_0 f0;have za17:=n1_z f0;have B18:=zz (n1_b f0);have z18:=B18.out.size;have k0:=tr E0 B18;clear f0;have e0:Below w17.heap.size w17 (w17.alloc (.cells #[.bool K0,.slice L0 M0 N0,.bool false,.slice O0 d0 P0] 33)):=below_alloc1 (Below.refl _ _) _;have q0:=zz (QV.step p0.out B18.out);have h1:=zz ((g1.out.step EQ.stable B18.out).step EQ.stable e0);have i1:=zz ((QV.step q0.out e0).qr);have w0:=zz (k0.out.trans (e0.mono k0.out.size));clear e0;have r0:=b0.cell 0 rfl;have s0:=b0.cell 1 rfl;have t0:=b0.cell 2 rfl;have u0:=b0.cell 3 rfl;have V0:=b0.lt;go_wp2_with (at_builtin;go_loud (refine wpList_append_oa rfl _ _ _ rfl w.heap.size 33 iq _ 64 Tryz.underlying28 hiq hzq hsq hbq rfl (by decide) (by decide) EQ.stable EQ.soft h1.out rfl ⟨w17.heap.size,0,none⟩ 1 [qx x] rfl Nat.one_pos [.bool K0,.slice L0 M0 N0,.bool false,.slice O0 d0 P0] (EL.one rfl ⟨_,_,_,_,rfl,i1.out⟩) (cells_new _ _ [_,_,_,_]) (by intro u hu;simp at hu;rcases hu with rfl | rfl | rfl | rfl <;> rfl) (by simp only[List.length_map,List.length_take,List.length_cons,List.length_nil,maxLen];omega) (by simp only[List.length_map,List.length_take,List.length_cons,List.length_nil];omega) (by have:=w0.out.size;simpa using this) ?_))
    clear r0 s0 t0 u0 V0;intro v' w' hoa hb hs' hg' hat;have j1:Hid (OA 4 EQ 33 w' w.heap.size v' ((l.take (j+1)).map qx)):=zz (by rw[R0.out,List.map_append,List.map_take];exact hoa);have H0:=zz (w0.out.trans hb);clear hoa hb hs' hg' hat;go_wp2;go_roundw
    case rel=>exact⟨j+1,hlt,by go_num,j1,f1,H0⟩
    case measure=>simp[intOf];omega
  ·obtain rfl:j=l.length:=by omega
   rw[List.take_length] at HO HF;have T0:=zz (show toldL l=(some l,0) from if_pos HF.out);go_wp2;go_ret2;exact⟨HW.out,by rw[T0.out];exact⟨_,rfl,HO.out⟩⟩
theorem ltold_any (w:World) (A:Option Addr) (n c:Nat) (l:List Rat) (h:RS w w.heap.size (.slice A n c) l) (hq:∀ q∈l,QL 300000000 300000000 q) (hl:l.length≤1000000) :
  Calls Tryz.prog 43 #[.slice A n c] w fun e w'=>Below w.heap.size w w'∧RetLs w' (toldL l) e:=
 (ltold_own w A n c l h hq hl).mono fun _ _ ⟨hb,v,he,hv⟩=>⟨hb,v,he,hv.lo⟩
theorem solve1_any (w:World) (bt tb R B Rh:Nat) (G C:Nat→Nat) (M:List (List Rat)) (n:Nat) (A:Option Addr) (u c:Nat) (r:List Rat) (hr:RS w w.heap.size (.slice A u c) r) (hrl:r.length=n+1) (hT:CB w bt 71 #[.slice (some ⟨tb,0,none⟩) M.length R]) (hO:OM 3 ER 84 75 w B tb Rh G C M) (hW:Wide M (n+1)) (hM:0<M.length) (hR:M.length≤R∧R≤9223372036854775807) :
  Calls Tryz.prog 77 #[.slice A u c,.pointer (some ⟨bt,0,none⟩)] w fun e w'=>Below w.heap.size w w'∧∃ v,e=.returned v∧RV w' w'.heap.size v (r.getD n 0):=by
 obtain⟨rfl,hn1,hn2⟩:=SL.len hr;obtain⟨g,off,xn,xA,xl,xc,xB,xu,xd,rfl,hg,hE,hx⟩:=RS.elem hr (j:=n) (by omega);have HX:=zz (show RV w w.heap.size _ (r.getD n 0) from getD_is (show n<r.length by omega)▸hx);clear hx hr hg;have hji:(0:Int)≤(n:Int)∧(n:Int)<(r.length:Int):=(by omega);have HO:=zz hO;have HT:=zz hT;have v0:=zz hW;have HR:=zz hR;clear hO hT hW hR;obtain⟨w0,hw0⟩:∃ w0:World,w0=(w.alloc (.cells #[.bool false,.slice none 0 0,.slice none 0 0] 84)):=⟨_,rfl⟩;have B0:=zz (n1_b hw0);have z0:=n1_z hw0;have Lr3:=n1_0 hw0;go_enter Tryz.func77,Tryz.ntmps77
 go_upto_region 1 with (fail)
 rw[← hw0];clear hw0;have d0:=CB.step HT.out B0.out;have m0:=d0.cell 0 rfl;have t0:=d0.lt;go_wp2_with fail
 refine(lastE_any _ _ _ _ _ _ _ _ n (HO.out.step ER.stable B0.out) v0.out hM HR.out).mono ?_;rintro e w1 ⟨l0,rfl⟩;have B4:=zz l0;have z4:=B4.out.size;have q0:=tr B0 B4;clear l0;clear m0 t0;have P0_2_7:=tr B0 B4;have b0:=E3.step hE P0_2_7.out;have n0:=b0.c0;have o0:=b0.c1;have p0:=b0.c2;have u0:=b0.lt;have a0:=CB.step Lr3 B4.out;have f0:=a0.cell 0 rfl;have g0:=a0.cell 1 rfl;have h0:=a0.cell 2 rfl;have r0:=a0.lt;have i0:=a0.frozen 0;have j0:=a0.frozen 1;have k0:=a0.frozen 2;have s0:=a0.lt;go_wp2;clear n0 o0 p0 u0 f0 g0 h0 r0 i0 j0 k0 s0;have e0:=zz (RV.step HX.out P0_2_7.out);exact TB.fin rfl a0 (by simp[noInt_b,noInt_s]) q0.out (by omega) e0.out rfl
theorem solve1_run (args:Array Value) (w1:World):(callFunc 77 args).run Tryz.prog w1=.ok (.enter 77 args) w1:=by kernel_rfl
theorem solve_any (w:World) (A B:Option Addr) (n c m d:Nat) (M:List (List Rat)) (b:List Rat) (k l:Nat) (ha:RM w w.heap.size (.slice A n c) M) (hb:RS w w.heap.size (.slice B m d) b) (hM:0<M.length) (hk:0<k) (hle:M.length≤b.length) (hW:Wide M k) (hm:M.length≤1000000∧k≤999999)
  (hL:Short l M) (hLb:∀ q∈b,QL l l q) (hl1:1≤l) (hl2:3*growQ l k≤60000000) :
  Calls Tryz.prog 46 #[.slice A n c,.slice B m d] w fun e w'=>Below w.heap.size w w'∧SolR w.heap.size w' (solveQ M b) e:=by
 have HQ:=zz ha;have HS:=zz hb;have t0:=zz hW;have n0:=zz hm;have J0:=zz hle;have HL:=zz hL;have K0:=zz hLb;have B0:=zz hl1;have L0:=zz hl2;clear ha hb hW hm hle hL hLb hl1 hl2;have hwq:wideQ M=k:=by rw[wideQ];exact t0.out.getD hM
 have htl:(withQ M b).length=M.length:=by simp[withQ]
 have htw:Wide (withQ M b) (k+1):=with_wide t0.out;have hts:Short l (withQ M b):=with_short HL.out K0.out B0.out;obtain⟨T,hT⟩:∃ T,T=withQ M b:=⟨_,rfl⟩;rw[← hT] at htl htw hts;have hsq:solveQ M b=if solvQ (elimQ T k) k=true∧(elimQ T k).2.length=k then some (lastQ (elimQ T k).1 k) else none:=by unfold solveQ;rw[hwq,← hT]
 obtain⟨e1,e2,he⟩:∃ e1 e2,elimQ T k=(e1,e2):=⟨_,_,rfl⟩;have h1l:e1.length=M.length:=by have:=elimQ_len T k;rw[he,htl] at this;exact this
 have h1w:Wide e1 (k+1):=by have:=htw.elim k;rwa [he] at this
 have h2l:=(elimQ_piv T k);rw[he] at h2l;simp only at h2l;rw[he] at hsq;simp only at hsq;have HT:=zz hT;have o0:=zz htl;have M0:=zz htw;have N0:=zz hts;have u0:=zz hsq;have HE:=zz he;have H1L:=zz h1l;have H1W:=zz h1w;have H2L:=zz h2l;clear hT htl htw hts hsq he h1l h1w h2l hwq;have hkk:(k:Int)≤999999:=by have:=n0.out;omega
 have hmm:(M.length:Int)≤1000000:=by have:=n0.out;omega
 have j0:=zz (Below.refl w.heap.size w);go_enter Tryz.func46,Tryz.ntmps46
 go_wp2_with fail
 refine(with_any _ _ _ _ _ _ _ M b HQ.out HS.out hM J0.out (fun r hr=>by rw[t0.out r hr];have:=n0.out;omega) n0.out.1).mono ?_;rintro e w1 ⟨f0,tb,R,G,C,rfl,hR,hom⟩;have B2:=zz f0;have z2:=B2.out.size;have a0:=tr j0 B2;clear f0;rw[← HT.out] at hom;rw[← o0.out];have p0:=zz hom;have HR:=zz hR;have C0:=hom.hdr.len;rw[hdL_len,o0.out] at C0;clear hom hR;go_upto_region 2 with (fail)
 obtain⟨w4,b0⟩:∃ w4:World,w4=(w1.alloc (.cells #[.slice (some ⟨tb,0,none⟩) T.length R] 71)):=⟨_,rfl⟩;rw[← b0];have c0:=n1_0 b0;have za4:=n1_z b0;have B5:=zz (n1_b b0);have z5:=B5.out.size;have k0:=tr a0 B5;clear b0;have D0:=zz (p0.out.step ER.stable B5.out);have g0:=zz k0.out;have E0:=zz c0;obtain⟨S,hS⟩:∃ S:Nat→Prop,S=fun b=>b=tb∨∃ i,i<T.length∧G i=b:=⟨_,rfl⟩
 have hs1:∀ b,S b→b<w1.heap.size∧w.heap.size≤b:=by
  rw[hS];rintro b (rfl | ⟨i,hi,rfl⟩)
  ·exact⟨p0.out.lt,p0.out.low⟩
  ·exact⟨p0.out.rowlt hi,(p0.out.apart i hi).2⟩
 have hs2:S tb∧∀ i,i<T.length→S (G i):=by rw[hS];exact⟨.inl rfl,fun i hi=>.inr ⟨i,hi,rfl⟩⟩
 have v0:=zz hs1;have O0:=zz hs2;clear hS hs1 hs2 p0;have F0:=zz (show T.length≤R∧R≤9223372036854775807 from⟨by rw[o0.out];exact C0,HR.out⟩);have I0:=zz (show ¬ S (w1.heap.size) from fun h=>Nat.lt_irrefl _ (v0.out _ h).1);have G0:0<T.length:=by rw[o0.out];exact hM
 have h0:=c0.cell 0 rfl;have A0:=c0.lt;go_wp2_with fail
 refine(reduce_any w4 tb R w.heap.size R G C T k l S F0.out D0.out M0.out G0 O0.out (fun b hb=>by have:=(v0.out b hb).1;omega) N0.out B0.out L0.out ⟨by rw[o0.out];exact n0.out.1,n0.out.2⟩).mono ?_;rintro e w3 ⟨v3,G3,C3,rfl,d0,ht3,ho3,hg3⟩;clear h0 A0;rw[HE.out] at d0 ho3 ⊢;simp only at d0 ho3;obtain⟨A3,c3,rfl⟩:=RI.slice d0;rw[ni_length];have a0:=zz (g0.out.trans (ht3.below g0.out.size (fun b hb=>(v0.out b hb).2)));have w0:=zz ho3;have x0:=zz (E0.out.turns ht3 I0.out);have z3:=ht3.size;clear d0 ht3 ho3 hg3 D0 E0;generalize solvQ (e1,e2) k=sv at *
 have hel:e2.length≤k:=H2L.out.2;have s0:T.length=e1.length:=by rw[o0.out,H1L.out]
 have HT3':Hid (CB w3 (w1.heap.size) 71 #[.slice (some ⟨tb,0,none⟩) e1.length R]):=zz (by rw[← s0];exact x0.out);have q0:=zz (show e1.length≤R∧R≤9223372036854775807 from s0▸F0.out);have hM3:0<e1.length:=s0▸G0;cases sv
 case false=>
  have HN:=zz (show solveQ M b=none by rw[u0.out,if_neg (by simp)]);have qt:=x0.out.cell 0 rfl;have ql:=x0.out.lt;go_wp2;go_ret2;exact⟨a0.out,by rw[HN.out];rfl⟩
 case true=>
  have qt:=HT3'.out.cell 0 rfl;have ql:=HT3'.out.lt;by_cases hek:e2.length=k
  case neg=>
   have HN:=zz (show solveQ M b=none by rw[u0.out,if_neg (fun h=>hek h.2)]);have hlt:(e2.length:Int)<(k:Int):=by omega
   go_wp2_with fail
   refine(lastE_any _ _ _ _ _ _ _ _ k w0.out H1W.out hM3 q0.out).mono ?_;rintro e w4 ⟨hb,rfl⟩;have e0:=zz (a0.out.trans (hb.mono a0.out.size));clear hb qt ql;go_wp2;go_ret2;exact⟨e0.out,by rw[HN.out];rfl⟩
  case pos=>
   have HN:=zz (show solveQ M b=some (lastQ e1 k) by rw[u0.out,if_pos ⟨rfl,hek⟩]);have hlt:¬ ((e2.length:Int)<(k:Int)):=by omega
   have hke:k≤e1.length:=by rw[← s0,← hek];exact H2L.out.1
   go_wp2_with fail
   refine(lastE_any _ _ _ _ _ _ _ _ k w0.out H1W.out hM3 q0.out).mono ?_;rintro e w4 ⟨hb,rfl⟩;have P34:=zz hb;have e0:=zz (a0.out.trans (hb.mono a0.out.size));have z4:=hb.size;clear hb qt ql;have z0:=zz (w0.out.step ER.stable P34.out);have H0:=zz (CB.step HT3'.out P34.out);go_upto_region 5 with (fail)
   have hkR:(k:Int)≤(R:Int):=by have:=q0.out;omega
   refine Sweep.r0 [se 0 27 [] (.pointer (some ⟨w1.heap.size,0,none⟩)),se 1 28 [0] (.slice (some ⟨tb,0,none⟩) e1.length R),se 2 29 [] (.pointer (some ⟨w1.heap.size,0,none⟩)),se 3 30 [2] (.slice (some ⟨tb,0,none⟩) e1.length R),se 4 31 [3] (.int .i64 (k:Int)),se 5 32 [1,4] (.slice (some ⟨tb,0,none⟩) k R),se 6 33 [] (.func (.func 77) #[] #[.pointer (some ⟨w1.heap.size,0,none⟩)]),sf 7 34 [5,6] (fun fv fw=>∃ g,fv=.slice (some ⟨g,0,none⟩) k k∧w.heap.size≤g∧OB 3 ER 84 fw g k (lastQ e1 k))] 2 (SB H0.out S0) (MA (fun _ _ _ h hb=>let ⟨g,e,h1,h2⟩:=h;⟨g,e,h1,h2.step ER.stable hb⟩) trivial) ?_ ?_
   ·intro xs a_ hA;simp only[SX] at hA
    iterate 8 (refine ac ?_ ?_;rotate_left)
    exact all_nil
    all_goals (intro wk hb;simp only[SX,↓reduceIte,Nat.reduceEqDiff,Nat.reduceAdd];have b_:=zz hb;have z_:=hb.size;clear hb;subst hA)
    any_goals (intros;refine wpOp_step rfl ?_;intro K hK;go_simp;refine hK _ _ ⟨_,?_,Below.refl _ _,rfl⟩;simp only[*,FL] <;> kernel_rfl)
    ·intro f3;intros;refine wpOp_step (o:=_) rfl (fun K hK=>?_);go_simp;(with_reducible refine(lastE_any _ _ _ _ _ _ _ _ k (z0.out.step ER.stable b_.out) H1W.out hM3 q0.out).mono ?_)
     rintro e wc8 ⟨l0,rfl⟩;refine hK _ _ ⟨.int .i64 (k:Int),by simp only[FL,f3] <;> kernel_rfl,l0,rfl⟩
    ·intro f5 f6;intros;refine wpOp_step (o:=_) rfl (fun K hK=>?_);go_simp;(with_reducible refine(eachC_any _ _ _ R (e1.take k) 77 (.pointer (some ⟨w1.heap.size,0,none⟩)) (fun r=>r.getD k 0) (slT z0.out b_.out q0.out hke) (by rw[List.length_take];have:=n0.out.1;have:=H1L.out;omega) solve1_run (fun w6 i hi A' u c' hb hr=>solve1_any w6 (w1.heap.size) tb R w.heap.size R G3 C3 e1 k A' u c' _ hr (Wide.row H1W.out (List.mem_of_mem_take (List.getElem_mem hi))) (CB.step H0.out (b_.out.trans (hb.mono b_.out.size))) (z0.out.step ER.stable (b_.out.trans (hb.mono b_.out.size))) H1W.out hM3 q0.out)).mono ?_)
     rintro e wc9 ⟨m0,g9,rfl,hg9,ho9⟩;have hl9:(e1.take k).length=k:=by rw[List.length_take];omega
     rw[hl9];refine hK _ _ ⟨.slice (some ⟨g9,0,none⟩) k k,by simp only[FL,f5,f6] <;> kernel_rfl,m0,⟨g9,rfl,by omega,by rw[hl9] at ho9;rw[lastQ_take hke];exact ho9⟩⟩
   ·intro xs Y0 hbf;simp only[SY];have B11:=zz hbf;have z11:=B11.out.size;have i0:=tr e0 B11;clear hbf;generalize xs 7=x7;rintro f7;obtain⟨gx,rfl,hgx,hox⟩:=f7;have P0:=zz hgx;have Q0:=zz hox;clear hgx hox;refine EN 8 rfl fun K hK=>?_
    go_simp;refine hK _ _ ?_;clear hK K;(try simp only[PT])
    refine EN 9 rfl fun K hK=>?_
    go_simp;refine hK _ _ ?_;clear hK K;(try simp only[PT])
    refine ED ?_;(try simp only[Exit.then])
    go_wp2;go_ret2;refine⟨i0.out,?_⟩;rw[HN.out];exact⟨gx,by rw[show(lastQ e1 k).length=k by simp[lastQ]];rfl,P0.out,by rw[show(lastQ e1 k).length=k by simp[lastQ]];exact Q0.out⟩
theorem products_run (args:Array Value) (w1:World):(callFunc 45 args).run Tryz.prog w1=.ok (.enter 45 args) w1:=by kernel_rfl
def DotOK (r s:List Rat):Prop:=r.length≤s.length∧∀ j,j<r.length→QL 60000000 60000000 (r.getD j 0)∧QL 60000000 60000000 (s.getD j 0)∧QL 60000000 60000000 (r.getD j 0*s.getD j 0)∧QL 60000000 60000000 (dotTo r s j)
theorem dotTo_ql {r s:List Rat} {l l':Nat} (hr:∀ q∈r,QL l l q) (hs:∀ q∈s,QL l' l' q) (h1:1≤l) (h1':1≤l'):∀ j,QL ((l+l'+1)*j+1) ((l+l'+1)*j+1) (dotTo r s j)
 | 0=>by rw[dotTo];exact QL.zero1 _ _ (by omega)
 | j+1=>by
  rw[dotTo];have h:=(dotTo_ql hr hs h1 h1' j).add2 ((short_getD hr h1 j).mul (short_getD hs h1' j)) (m:=(l+l'+1)*j+1+(l+l')) (by omega) (by omega);refine h.mono ?_ ?_ <;> rw[Nat.mul_add] <;> omega
theorem dot_ok {r s:List Rat} {l l':Nat} (hle:r.length≤s.length) (hr:∀ q∈r,QL l l q) (hs:∀ q∈s,QL l' l' q) (h1:1≤l) (h1':1≤l') (hb:(l+l'+1)*(r.length+1)≤60000000):DotOK r s:=by
 refine⟨hle,fun j hj=>?_⟩;have h2:(l+l'+1)*(j+1)≤(l+l'+1)*(r.length+1):=Nat.mul_le_mul_left _ (by omega);rw[Nat.mul_add] at h2;refine⟨(short_getD hr h1 j).mono (by omega) (by omega),(short_getD hs h1' j).mono (by omega) (by omega),((short_getD hr h1 j).mul (short_getD hs h1' j)).mono (by omega) (by omega),(dotTo_ql hr hs h1 h1' j).mono (by omega) (by omega)⟩
theorem normal1_any (w:World) (bc:Nat) (cA:Option Addr) (cn cc:Nat) (D:List (List Rat)) (A:Option Addr) (u c:Nat) (r:List Rat) (hC:CB w bc 69 #[.slice cA cn cc]) (hD:RM w w.heap.size (.slice cA cn cc) D) (hr:RS w w.heap.size (.slice A u c) r) (hl:D.length≤1000000) (hq:∀ d∈D,DotOK r d) :
  Calls Tryz.prog 80 #[.slice A u c,.pointer (some ⟨bc,0,none⟩)] w fun e w'=>Below w.heap.size w w'∧∃ g,e=.returned (.slice (some ⟨g,0,none⟩) (D.map (dotQ r)).length (D.map (dotQ r)).length)∧w.heap.size≤g∧(D.map (dotQ r)).length≤9223372036854775807∧OB 3 ER 84 w' g (D.map (dotQ r)).length (D.map (dotQ r)):=by
 have hlm:(D.map (dotQ r)).length=D.length:=by rw[List.length_map]
 rw[hlm];have HD:=zz hD;have HR:=zz hr;have HL:=zz hl;have HQ:=zz hq;have h0:=zz hlm;clear hD hr hl hq hlm;have q0:=hC.cell 0 rfl;have q1:=hC.lt;go_enter Tryz.func80,Tryz.ntmps80
 go_wp2_with fail
 refine(eachR_any _ _ _ _ D 45 (.slice A u c) (dotQ r) HD.out HL.out products_run (fun w1 j hj A' u' c' hb hx=>products_any w1 A A' u c u' c' r D[j] (HR.out.step ER.stable hb) hx (HQ.out _ (List.getElem_mem hj)).1 (HQ.out _ (List.getElem_mem hj)).2)).mono ?_;rintro e w1 ⟨hb,g,rfl,hg,ho⟩;have HB:=zz hb;have HG:=zz hg;have HO:=zz ho;clear hb hg ho;go_wp2;go_ret;exact⟨HB.out,g,rfl,HG.out,by have:=HL.out;omega,HO.out⟩
theorem normal1_run (args:Array Value) (w1:World):(callFunc 80 args).run Tryz.prog w1=.ok (.enter 80 args) w1:=by kernel_rfl
theorem normal_any (w:World) (A B:Option Addr) (n c m d:Nat) (M:List (List Rat)) (b:List Rat) (k l l':Nat) (ha:RM w w.heap.size (.slice A n c) M) (hb:RS w w.heap.size (.slice B m d) b) (hM:0<M.length) (hle:b.length=M.length) (hW:Wide M k) (hm:M.length≤1000000∧k≤1000000)
  (hL:Short l M) (hLb:∀ q∈b,QL l' l' q) (hl1:1≤l∧l≤l') (hl2:(2*l'+1)*(M.length+1)≤60000000) :
  Calls Tryz.prog 47 #[.slice A n c,.slice B m d] w fun e w'=>Below w.heap.size w w'∧∃ g G C g',e=.returned (.tuple #[.slice (some ⟨g,0,none⟩) k k,.slice (some ⟨g',0,none⟩) k k])∧OM 3 ER 84 75 w' w.heap.size g k G C (normM M)∧w.heap.size≤g'∧OB 3 ER 84 w' g' k (normV M b)∧g<g'∧∀ i,i<k→G i<g':=by
 have hwq:wideQ M=k:=by rw[wideQ];exact hW.getD hM
 have htl:(turnQ M).length=k:=by unfold turnQ;rw[List.length_map,List.length_range,hwq]
 have hnm:normM M=(turnQ M).map fun c=>(turnQ M).map (dotQ c):=rfl
 have hcl:∀ c∈turnQ M,c.length=M.length∧∀ q∈c,QL l l q:=fun c hc=>by
  obtain⟨j,-,rfl⟩:=List.mem_map.1 hc;refine⟨by unfold colQ;rw[List.length_map],fun q hq=>?_⟩;obtain⟨r,hr,rfl⟩:=List.mem_map.1 hq;exact short_getD (hL r hr) hl1.1 j
 have hnv:normV M b=(turnQ M).map (dotQ b):=List.map_congr_left fun c hc=>dotQ_comm (by rw[(hcl c hc).1,hle])
 have hd1:∀ c∈turnQ M,∀ d∈turnQ M,DotOK c d:=fun c hc d hd=>dot_ok (by rw[(hcl c hc).1,(hcl d hd).1];exact Nat.le_refl _) (hcl c hc).2 (hcl d hd).2 hl1.1 hl1.1 (by rw[(hcl c hc).1];exact Nat.le_trans (Nat.mul_le_mul_right _ (by omega)) hl2)
 have hd2:∀ d∈turnQ M,DotOK b d:=fun d hd=>dot_ok (by rw[(hcl d hd).1,hle];exact Nat.le_refl _) hLb (hcl d hd).2 (by omega) hl1.1 (by rw[hle];exact Nat.le_trans (Nat.mul_le_mul_right _ (by omega)) hl2)
 have HQ:=zz ha;have HS:=zz hb;have x0:=zz hW;have o0:=zz hm;have y0:=zz hd1;have t0:=zz hd2;have n0:=zz htl;have u0:=zz hnm;have z0:=zz hnv;have v0:=zz hwq;clear ha hb hW hm hL hLb hl1 hl2 hd1 hd2 htl hnm hnv hcl hwq hle;have k0:=zz (Below.refl w.heap.size w);go_enter Tryz.func47,Tryz.ntmps47
 go_wp2_with fail
 refine(lturned_any _ _ _ _ M HQ.out hM (by rw[v0.out];exact x0.out) (by rw[v0.out];exact o0.out)).mono ?_;rintro e w1 ⟨g0,v,rfl,hv⟩;have B2:=zz g0;have z2:=B2.out.size;have l0:=tr k0 B2;clear g0;obtain⟨cA,cc,rfl,-⟩:=SL.slice hv;rw[n0.out] at hv ⊢;have HC:=zz hv;clear hv;go_upto_region 2 with (fail)
 obtain⟨w4,c0⟩:∃ w4:World,w4=(w1.alloc (.cells #[.slice cA k cc] 69)):=⟨_,rfl⟩;rw[← c0];have a0:=n1_0 c0;have za4:=n1_z c0;have B5:=zz (n1_b c0);have z5:=B5.out.size;have m0:=tr l0 B5;clear c0;have p0:=zz (HC.out.step (SE.stable ER.stable) B5.out);have A0:=zz a0;have i0:=a0.cell 0 rfl;have s0:=a0.lt;go_wp2_with fail
 refine(eachM_any _ _ _ _ (turnQ M) 80 (.pointer (some ⟨w1.heap.size,0,none⟩)) (fun c=>(turnQ M).map (dotQ c)) p0.out (by rw[n0.out];exact o0.out.2) normal1_run (fun w3 j hj A' u c' hb hx=>normal1_any w3 (w1.heap.size) cA k cc (turnQ M) A' u c' (turnQ M)[j] (CB.step A0.out hb) (p0.out.step (SE.stable ER.stable) hb) hx (by rw[n0.out];exact o0.out.2) (y0.out _ (List.getElem_mem hj)))).mono ?_;rintro e w8 ⟨h0,g,G,C,rfl,hom⟩;have B9:=zz h0;have z9:=B9.out.size;have d0:=tr m0 B9;clear h0;clear i0 s0;rw[n0.out] at hom ⊢;rw[← u0.out] at hom;have q0:=zz hom;clear hom;have B0:=zz (p0.out.step (SE.stable ER.stable) B9.out);have C0:=zz (HS.out.step ER.stable d0.out);have b0:=CB.step a0 B9.out;have f0:=b0.cell 0 rfl;have r0:=b0.lt;go_wp2_with fail
 refine(eachR_any _ _ _ _ (turnQ M) 45 (.slice B m d) (dotQ b) B0.out (by rw[n0.out];exact o0.out.2) products_run (fun w4 j hj A' u c' hb hx=>products_any w4 B A' m d u c' b (turnQ M)[j] (C0.out.step ER.stable hb) hx (t0.out _ (List.getElem_mem hj)).1 (t0.out _ (List.getElem_mem hj)).2)).mono ?_;rintro e w13 ⟨e0,g',rfl,hg,ho⟩;have B14:=zz e0;have z14:=B14.out.size;have j0:=tr d0 B14;clear e0;clear f0 r0;have hap:g<g'∧∀ i,i<k→G i<g':=⟨Nat.lt_of_lt_of_le q0.out.lt hg,fun i hi=>Nat.lt_of_lt_of_le (q0.out.rowlt (by rw[u0.out,List.length_map,n0.out];exact hi)) hg⟩;have D0:=zz hap;clear hap;rw[n0.out] at ho ⊢;rw[← z0.out] at ho;have HO:=zz ho;have HG:=zz hg;clear ho hg;have w0:=zz ((q0.out.step ER.stable B14.out).weak (show w.heap.size≤_ by omega));go_wp2;go_ret2;exact⟨j0.out,g,G,C,g',rfl,w0.out,by have:=HG.out;omega,HO.out,D0.out⟩
end Go.Proofs.YtdigbofiebfkeaaGreatDoor
