/- Texts put together. -/
import Derived.Test.YtencnahjgbdeoaaGreatDoorLk
import Derived.Test.YtencnahjgbdeoaaGreatDoorQI
namespace Go.Proofs.YtencnahjgbdeoaaGreatDoor
open Go Go.RowKit Dig
set_option maxRecDepth 100000
set_option maxHeartbeats 4000000
set_option linter.unusedSimpArgs false
variable {M:List (List Rat)} {k l:Nat} {r:List Rat} {w:World}
theorem sF {b:List Rat} (h:Wide M k):Wide (bM M b) (k+1):=by
 intro r hr;obtain⟨i,hi,rfl⟩:=aKq hr;simp only[bM,aGy,aEp,aEl,aEm,aIx]
 rw[h _ (aEc _)]
theorem pO {b:List Rat} (h:Short l M) (hb:∀ q∈b,QL l l q) (h1:1≤l):Short l (bM M b):=by
 intro r hr q hq;obtain⟨i,hi,rfl⟩:=aKq hr;simp only[bM,aGy] at hq
 rcases aGb.1 hq with hq | hq
 ·exact h _ (aEc _) q hq
 ·rw[aHt.1 hq];exact aT hb h1 i
theorem Wide.row {t:List (List Rat)} {m:Nat} (h:Wide t m) (hr:r∈t):r.length=m:=h r hr
theorem SL.take {α:Type} {E:Elem α} {B:Nat} {A:Option Addr} {m c n:Nat} {l:List α} (h:SL k E w B (.slice A m c) l) (hn:n≤l.length):SL k E w B (.slice A n c) (l.take n):=by
 obtain⟨A',c',e,h1,h2,h3⟩:=h;injection e with e1 e2 e3
 subst e1;subst e3;have hl:(l.take n).length=n:=by rw[aEk];omega
 refine⟨A,c,by rw[hl],by rw[hl];omega,h2,fun h0=>?_⟩;obtain⟨g,off,hA,hg,hx⟩:=h3 (by omega);refine⟨g,off,hA,hg,fun j hj=>?_⟩;obtain⟨cs,c1,c2,c4⟩:=hx j (by omega);exact⟨cs,c1,c2,by rw[List.getElem_take];exact c4⟩
theorem slT {w':World} {T TH:TypeId} {B tb R Rh:Nat} {G C:Nat→Nat} (h:OM 3 ER T TH w B tb Rh G C M) (hb:Below w.heap.size w w') (hR:M.length≤R∧R≤9223372036854775807) (hk:k≤M.length):RM w' w'.heap.size (.slice (some ⟨tb,0,none⟩) k R) (M.take k):=
 ((h.step aEw hb).sl hR.1 hR.2).take hk
def aAz (Z:Nat) (w:World) (o:Option (List Rat)) (e:Ending):Prop:=match o with
 | some x=>∃ g,e=.returned (.tuple #[.slice (some ⟨g,0,none⟩) x.length x.length,.int .i64 0])∧Z≤g∧OB 3 ER 88 w g x.length x
 | none=>e=.returned (.tuple #[.slice none 0 0,.int .i64 7])
theorem fH:(Tryz.prog.info? 28).map (fun i=>(i.zero,i.size,i.bytes))=some (some (.agg #[.bool false,.slice none 0 0,.bool false,.slice none 0 0]),4,64):=by kernel_rfl
def LO (w:World) (B:Nat) (v:Value):Option (List Rat)→Prop
 | some l=>QS w B v (l.map qx)
 | none=>v=.slice none 0 0
theorem LO.step {w':World} {v:Value}:∀ {o:Option (List Rat)},LO w w.heap.size v o→Below w.heap.size w w'→LO w' w'.heap.size v o
 | some _,h,hb=>aHo h aEf hb
 | none,h,_=>h
def LOo (Z:Nat) (w:World) (v:Value):Option (List Rat)→Prop
 | some l=>OA 4 EQ 28 w Z v (l.map qx)
 | none=>v=.slice none 0 0
theorem LOo.lo {Z:Nat} {v:Value}:∀ {o:Option (List Rat)},LOo Z w v o→LO w w.heap.size v o
 | some _,h=>OA.sl h
 | none,h=>h
def aCo (Z:Nat) (w:World) (r:Option (List Rat) × Int) (e:Ending):Prop:=∃ v,e=.returned (.tuple #[v,.int .i64 r.2])∧LOo Z w v r.1
def mS (w:World) (r:Option (List Rat) × Int) (e:Ending):Prop:=∃ v,e=.returned (.tuple #[v,.int .i64 r.2])∧LO w w.heap.size v r.1
theorem sV (w:World) (A:Option Addr) (n c:Nat) (l:List Rat) (h:RS w w.heap.size (.slice A n c) l) (hq:∀ q∈l,QL 300000000 300000000 q) (hl:l.length≤1000000) :
  CV 41 #[.slice A n c] w fun e w'=>aCo w.heap.size w' (fO l) e:=by
 obtain⟨rfl,hn1,hn2⟩:=aHb h;have HS:=zz h;have HQ:=zz hq;have HL:=zz hl;clear h hq;have hkk:(l.length:Int)≤1000000:=by omega
 obtain⟨iq,hiq,hzq,hsq,hbq⟩:=aGf fH;have F0:=zz (aDy w.heap.size w);go_enter Tryz.func41,Tryz.ntmps41
 go_wp2;go_loopw [4,11] (fun ov iv wr=>∃ j:Nat,j≤l.length∧iv=.int .i64 j∧Hi (OA 4 EQ 28 wr w.heap.size ov ((l.take j).map qx))∧Hi (∀ q∈l.take j,eS q)∧Hi (Below w.heap.size w wr)) (fun _ iv _=>l.length-(intOf iv).toNat)
 case atStart=>exact⟨0,aEy _,rfl,zz OA.nil,zz (fun q h=>by simp at h),F0⟩
 case round=>
  obtain⟨j,hj,rfl,HO,HF,HW⟩:=hrel;have zr:=HW.o.size;by_cases hlt:j<l.length
  ·obtain⟨g,off,xn,xA,xl,xc,xB,xu,xd,rfl,hg,hE,hx⟩:=RS.elem HS.o hlt;replace hE:=hE.step HW.o;have HX:=zz (aHm hx HW.o);clear hx hg;have hji:(0:Int)≤(j:Int)∧(j:Int)<(l.length:Int):=(by omega);have htk:l.take (j+1)=l.take j++[l[j]]:=by rw[aFj,aEh hlt];rfl
   have R0:=zz htk;have S0:=zz (HQ.o l[j] (aEc hlt));have HM:=zz (aEc hlt);clear htk;generalize l[j]=x at HX R0 S0 HM;have x0:=ez3 hE;go_upto_region 5 with (fail)
   clear x0;obtain⟨w2,g0⟩:=ex (wr.alloc (.cells #[.bool xn,.slice xA xl xc,.slice xB xu xd] 88));rw[← g0];have a0:=cL g0;have za2:=cJ g0;have B3:=zz (cK g0);have z3:=B3.o.size;have v0:=tr HW B3;clear g0;have e1:=zz (HO.o.step aEf B3.o);by_cases hfit:eS x
   case neg=>
    have HR:=zz (show gY x=(none,6) from aEu hfit);have T0:=zz (show fO l=(none,6) from aEu (fun h=>hfit (h x HM.o)));clear hfit;have A0:=cz3 a0;go_wp2_with fail
    have D0:=st aHm HX B3;refine(nx v0 (oP _ _ x D0.o S0.o)).mono ?_;rintro e w5 ⟨⟨B8,z8,G0⟩,hr⟩;clear A0;rw[HR.o] at hr;obtain⟨v,rfl,hv⟩:=hr;obtain⟨m1,n1,o1,p1,I0,q1,rfl,ha10,h0⟩:=hv;have J0:=zz (QR.mk (n:=false) (m:=false) ha10 h0);clear ha10 h0;go_wp2;go_ret2;exact⟨aB G0.o _,by rw[T0.o];exact⟨_,rfl,rfl⟩⟩
   case pos=>
    have HR:=zz (show gY x=(some x,0) from aEv hfit);have f1:=zz (show ∀ q∈l.take (j+1),eS q from fun q h=>by rw[R0.o] at h;rcases aGb.1 h with h | h;exact HF.o q h;rw[aHt.1 h];exact hfit);clear hfit;have l0:=cz3 a0;go_wp2_with fail
    have o0:=st aHm HX B3;refine(nx v0 (oP _ _ x o0.o S0.o)).mono ?_;rintro e w11 ⟨⟨B14,z14,E0⟩,hr⟩;clear l0;rw[HR.o] at hr;obtain⟨v,rfl,hv⟩:=hr;obtain⟨K0,L0,M0,N0,O0,d0,P0,rfl,ha16,j0,hc16⟩:=hv;have p0:=zz (show QV w11 w11.heap.size (.agg #[.bool K0,.slice L0 M0 N0,.bool false,.slice O0 d0 P0]) x from⟨_,_,_,_,_,_,_,rfl,ha16,j0,hc16⟩);clear ha16 j0 hc16;have g1:=zz (e1.o.step aEf B14.o);go_upto_region 8 with (fail)
    obtain⟨w17,f0⟩:=ex (w11.alloc (.cells #[.bool K0,.slice L0 M0 N0,.bool false,.slice O0 d0 P0] 28));rw[← f0];have b0:=cL f0;have za17:=cJ f0;have B18:=zz (cK f0);have z18:=B18.o.size;have k0:=tr E0 B18;clear f0;have e0:Below w17.heap.size w17 (w17.alloc (.cells #[.bool K0,.slice L0 M0 N0,.bool false,.slice O0 d0 P0] 28)):=aB (aDy _ _) _;have q0:=st aHf p0 B18;have h1:=zz ((g1.o.step aEf B18.o).step aEf e0);have i1:=zz ((aHf q0.o e0).qr);have w0:=zz (k0.o.trans (e0.mono k0.o.size));clear e0;have r0:=cz4 b0;go_wp2_with (at_builtin;go_loud (refine aO rfl _ _ _ rfl w.heap.size 28 iq _ 64 Tryz.underlying23 hiq hzq hsq hbq rfl (by decide) (by decide) aEf aIz h1.o rfl ⟨w17.heap.size,0,none⟩ 1 [qx x] rfl Nat.one_pos [.bool K0,.slice L0 M0 N0,.bool false,.slice O0 d0 P0] (aLt rfl ⟨_,_,_,_,rfl,i1.o⟩) (iI _ _ [_,_,_,_]) (by intro u hu;simp at hu;rcases hu with rfl | rfl | rfl | rfl <;> rfl) (by simp only[aEb,aEk,aEl,aEm,maxLen];omega) (by simp only[aEb,aEk,aEl,aEm];omega) (by have:=w0.o.size;simpa using this) ?_))
    clear r0;intro v' w' hoa hb hs' hg' hat;have j1:Hi (OA 4 EQ 28 w' w.heap.size v' ((l.take (j+1)).map qx)):=zz (by rw[R0.o,aGc,List.map_take];exact hoa);have H0:=zz (w0.o.trans hb);clear hoa hb hs' hg' hat;go_wp2;go_roundw
    case rel=>exact⟨j+1,hlt,by go_num,j1,f1,H0⟩
    case measure=>exact ms
  ·obtain rfl:j=l.length:=by omega
   rw[aFe] at HO HF;have T0:=zz (show fO l=(some l,0) from aEv HF.o);go_wp2;go_ret2;exact⟨HW.o,by rw[T0.o];exact⟨_,rfl,HO.o⟩⟩
theorem lI (w:World) (A:Option Addr) (n c:Nat) (l:List Rat) (h:RS w w.heap.size (.slice A n c) l) (hq:∀ q∈l,QL 300000000 300000000 q) (hl:l.length≤1000000) :
  CV 41 #[.slice A n c] w fun e w'=>mS w' (fO l) e:=
 (sV w A n c l h hq hl).mono fun _ _ ⟨hb,v,he,hv⟩=>⟨hb,v,he,hv.lo⟩
theorem KP (w:World) (bt tb R B Rh:Nat) (G C:Nat→Nat) (M:List (List Rat)) (n:Nat) (A:Option Addr) (u c:Nat) (r:List Rat) (hr:RS w w.heap.size (.slice A u c) r) (hrl:r.length=n+1) (hT:CB w bt 100 #[.slice (some ⟨tb,0,none⟩) M.length R]) (hO:OM 3 ER 88 65 w B tb Rh G C M) (hW:Wide M (n+1)) (hM:0<M.length) (hR:M.length≤R∧R≤9223372036854775807) :
  CV 90 #[.slice A u c,.pointer (some ⟨bt,0,none⟩)] w fun e w'=>∃ v,e=.returned v∧RV w' w'.heap.size v (r.getD n 0):=by
 obtain⟨rfl,hn1,hn2⟩:=aHb hr;obtain⟨g,off,xn,xA,xl,xc,xB,xu,xd,rfl,hg,hE,hx⟩:=RS.elem hr (j:=n) (by omega);have HX:=zz (show RV w w.heap.size _ (r.getD n 0) from aG (show n<r.length by omega)▸hx);clear hx hr hg;have hji:(0:Int)≤(n:Int)∧(n:Int)<(r.length:Int):=(by omega);have HO:=zz hO;have HT:=zz hT;have v0:=zz hW;have HR:=zz hR;clear hO hT hW hR;obtain⟨w0,hw0⟩:=ex (w.alloc (.cells #[.bool false,.slice none 0 0,.slice none 0 0] 88));have B0:=zz (cK hw0);have z0:=cJ hw0;have Lr3:=cL hw0;go_enter Tryz.func90,Tryz.ntmps90
 go_upto_region 1 with (fail)
 rw[← hw0];clear hw0;have d0:=aEd HT.o B0.o;have m0:=d0.cell 0 rfl;have t0:=d0.lt;go_wp2_with fail
 refine(nx B0 (jE _ _ _ _ _ _ _ _ n (HO.o.step aEw B0.o) v0.o hM HR.o)).mono ?_;rintro e w1 ⟨⟨B4,z4,q0⟩,rfl⟩;clear m0 t0;have P0:=tr B0 B4;have b0:=aIb hE P0.o;have n0:=ez3 b0;have a0:=aEd Lr3 B4.o;have f0:=cz3 a0;have i0:=fz3 a0;go_wp2;clear n0 f0 i0;have e0:=st aHm HX P0;exact TB.fin rfl a0 (by simp[aF,aE]) q0.o (by omega) e0.o rfl
theorem KO (args:Array Value) (w1:World):(callFunc 90 args).run Tryz.prog w1=.ok (.enter 90 args) w1:=by kernel_rfl
theorem gC (w:World) (A B:Option Addr) (n c m d:Nat) (M:List (List Rat)) (b:List Rat) (k l:Nat) (ha:RM w w.heap.size (.slice A n c) M) (hb:RS w w.heap.size (.slice B m d) b) (hM:0<M.length) (hk:0<k) (hle:M.length≤b.length) (hW:Wide M k) (hm:M.length≤1000000∧k≤999999)
  (hL:Short l M) (hLb:∀ q∈b,QL l l q) (hl1:1≤l) (hl2:3*dE l k≤60000000) :
  CV 38 #[.slice A n c,.slice B m d] w fun e w'=>aAz w.heap.size w' (aZ M b) e:=by
 have HQ:=zz ha;have HS:=zz hb;have t0:=zz hW;have n0:=zz hm;have J0:=zz hle;have HL:=zz hL;have K0:=zz hLb;have B0:=zz hl1;have L0:=zz hl2;clear ha hb hW hm hle hL hLb hl1 hl2;have hwq:aM M=k:=by rw[aM];exact t0.o.getD hM
 have htl:(bM M b).length=M.length:=by simp[bM]
 have htw:Wide (bM M b) (k+1):=sF t0.o;have hts:Short l (bM M b):=pO HL.o K0.o B0.o;obtain⟨T,hT⟩:=ex (bM M b);rw[← hT] at htl htw hts;have hsq:aZ M b=if solvQ (elimQ T k) k=true∧(elimQ T k).2.length=k then some (jL (elimQ T k).1 k) else none:=by unfold aZ;rw[hwq,← hT]
 obtain⟨e1,e2,he⟩:∃ e1 e2,elimQ T k=(e1,e2):=⟨_,_,rfl⟩;have h1l:e1.length=M.length:=by have:=eL T k;rw[he,htl] at this;exact this
 have h1w:Wide e1 (k+1):=by have:=htw.elim k;rwa [he] at this
 have h2l:=(jG T k);rw[he] at h2l;simp only at h2l;rw[he] at hsq;simp only at hsq;have HT:=zz hT;have o0:=zz htl;have M0:=zz htw;have N0:=zz hts;have u0:=zz hsq;have HE:=zz he;have H1L:=zz h1l;have H1W:=zz h1w;have H2L:=zz h2l;clear hT htl htw hts hsq he h1l h1w h2l hwq;have hkk:(k:Int)≤999999:=by have:=n0.o;omega
 have hmm:(M.length:Int)≤1000000:=by have:=n0.o;omega
 have j0:=zz (aDy w.heap.size w);go_enter Tryz.func38,Tryz.ntmps38
 go_wp2_with fail
 refine(nx j0 (CU _ _ _ _ _ _ _ M b HQ.o HS.o hM J0.o (fun r hr=>by rw[t0.o r hr];have:=n0.o;omega) n0.o.1)).mono ?_;rintro e w1 ⟨⟨B2,z2,a0⟩,tb,R,G,C,rfl,hR,hom⟩;rw[← HT.o] at hom;rw[← o0.o];have p0:=zz hom;have HR:=zz hR;have C0:=hom.hdr.len;rw[aV,o0.o] at C0;clear hom hR;go_upto_region 2 with (fail)
 obtain⟨w4,b0⟩:=ex (w1.alloc (.cells #[.slice (some ⟨tb,0,none⟩) T.length R] 100));rw[← b0];have c0:=cL b0;have za4:=cJ b0;have B5:=zz (cK b0);have z5:=B5.o.size;have k0:=tr a0 B5;clear b0;have D0:=zz (p0.o.step aEw B5.o);have g0:=zz k0.o;have E0:=zz c0;obtain⟨S,hS⟩:=ex (α:=Nat→Prop) (fun b=>b=tb∨∃ i,i<T.length∧G i=b)
 have hs1:∀ b,S b→b<w1.heap.size∧w.heap.size≤b:=by
  rw[hS];rintro b (rfl | ⟨i,hi,rfl⟩)
  ·exact⟨p0.o.lt,p0.o.low⟩
  ·exact⟨p0.o.rowlt hi,(p0.o.apart i hi).2⟩
 have hs2:S tb∧∀ i,i<T.length→S (G i):=by rw[hS];exact⟨.inl rfl,fun i hi=>.inr ⟨i,hi,rfl⟩⟩
 have v0:=zz hs1;have O0:=zz hs2;clear hS hs1 hs2 p0;have F0:=zz (show T.length≤R∧R≤9223372036854775807 from⟨by rw[o0.o];exact C0,HR.o⟩);have I0:=zz (show ¬ S (w1.heap.size) from fun h=>aJt _ (v0.o _ h).1);have G0:0<T.length:=by rw[o0.o];exact hM
 have h0:=c0.cell 0 rfl;have A0:=c0.lt;go_wp2_with fail
 refine(wF w4 tb R w.heap.size R G C T k l S F0.o D0.o M0.o G0 O0.o (fun b hb=>by have:=(v0.o b hb).1;omega) N0.o B0.o L0.o ⟨by rw[o0.o];exact n0.o.1,n0.o.2⟩).mono ?_;rintro e w3 ⟨v3,G3,C3,rfl,d0,ht3,ho3,hg3⟩;clear h0 A0;rw[HE.o] at d0 ho3 ⊢;simp only at d0 ho3;obtain⟨A3,c3,rfl⟩:=RI.slice d0;rw[aC];have a0:=zz (g0.o.trans (ht3.below g0.o.size (fun b hb=>(v0.o b hb).2)));have w0:=zz ho3;have x0:=zz (E0.o.turns ht3 I0.o);have z3:=ht3.size;clear d0 ht3 ho3 hg3 D0 E0;generalize solvQ (e1,e2) k=sv at *
 have hel:e2.length≤k:=H2L.o.2;have s0:T.length=e1.length:=by rw[o0.o,H1L.o]
 have HT3':Hi (CB w3 (w1.heap.size) 100 #[.slice (some ⟨tb,0,none⟩) e1.length R]):=zz (by rw[← s0];exact x0.o);have q0:=zz (show e1.length≤R∧R≤9223372036854775807 from s0▸F0.o);have hM3:0<e1.length:=s0▸G0;cases sv
 case false=>
  have HN:=zz (show aZ M b=none by rw[u0.o,aEu (by simp)]);have qt:=x0.o.cell 0 rfl;have ql:=x0.o.lt;go_wp2;go_ret2;exact⟨a0.o,by rw[HN.o];rfl⟩
 case true=>
  have qt:=HT3'.o.cell 0 rfl;have ql:=HT3'.o.lt;by_cases hek:e2.length=k
  case neg=>
   have HN:=zz (show aZ M b=none by rw[u0.o,aEu (fun h=>hek h.2)]);have hlt:(e2.length:Int)<(k:Int):=by omega
   go_wp2_with fail
   refine(jE _ _ _ _ _ _ _ _ k w0.o H1W.o hM3 q0.o).mono ?_;rintro e w4 ⟨hb,rfl⟩;have e0:=zz (a0.o.trans (hb.mono a0.o.size));clear hb qt ql;go_wp2;go_ret2;exact⟨e0.o,by rw[HN.o];rfl⟩
  case pos=>
   have HN:=zz (show aZ M b=some (jL e1 k) by rw[u0.o,aEv ⟨rfl,hek⟩]);have hlt:¬ ((e2.length:Int)<(k:Int)):=by omega
   have hke:k≤e1.length:=by rw[← s0,← hek];exact H2L.o.1
   go_wp2_with fail
   refine(jE _ _ _ _ _ _ _ _ k w0.o H1W.o hM3 q0.o).mono ?_;rintro e w4 ⟨hb,rfl⟩;have P34:=zz hb;have e0:=zz (a0.o.trans (hb.mono a0.o.size));have z4:=hb.size;clear hb qt ql;have z0:=zz (w0.o.step aEw P34.o);have H0:=st aEd HT3' P34;go_upto_region 5 with (fail)
   have hkR:(k:Int)≤(R:Int):=by have:=q0.o;omega
   refine aFq [se 0 27 [] (.pointer (some ⟨w1.heap.size,0,none⟩)),se 1 28 [0] (.slice (some ⟨tb,0,none⟩) e1.length R),se 2 29 [] (.pointer (some ⟨w1.heap.size,0,none⟩)),se 3 30 [2] (.slice (some ⟨tb,0,none⟩) e1.length R),se 4 31 [3] (.int .i64 (k:Int)),se 5 32 [1,4] (.slice (some ⟨tb,0,none⟩) k R),se 6 33 [] (.func (.func 90) #[] #[.pointer (some ⟨w1.heap.size,0,none⟩)]),sf 7 34 [5,6] (fun fv fw=>∃ g,fv=.slice (some ⟨g,0,none⟩) k k∧w.heap.size≤g∧OB 3 ER 88 fw g k (jL e1 k))] 2 (SB H0.o S0) (MA (fun _ _ _ h hb=>let ⟨g,e,h1,h2⟩:=h;⟨g,e,h1,h2.step aEw hb⟩) aFi) ?_ ?_
   ·intro xs a_ hA;simp only[SX,↓reduceIte,Nat.reduceEqDiff,Nat.reduceAdd] at hA⊢;subst hA;and_intros
    all_goals intro wk b_ z_
    all_goals try exact pl
    ·intro f3;intros;refine wo fun K hK=>?_;go_simp;(with_reducible refine(jE _ _ _ _ _ _ _ _ k (z0.o.step aEw b_.o) H1W.o hM3 q0.o).mono ?_)
     rintro e wc8 ⟨l0,rfl⟩;refine hK _ _ ⟨_,by simp only[FL,f3] <;> kernel_rfl,l0,rfl⟩
    ·intro f5 f6;intros;refine wo fun K hK=>?_;go_simp;(with_reducible refine(zH _ _ _ R (e1.take k) 90 (.pointer (some ⟨w1.heap.size,0,none⟩)) (fun r=>r.getD k 0) (slT z0.o b_.o q0.o hke) (by rw[aEk];have:=n0.o.1;have:=H1L.o;omega) KO (fun w6 i hi A' u c' hb hr=>KP w6 (w1.heap.size) tb R w.heap.size R G3 C3 e1 k A' u c' _ hr (Wide.row H1W.o (List.mem_of_mem_take (aEc hi))) (aEd H0.o (b_.o.trans (hb.mono b_.o.size))) (z0.o.step aEw (b_.o.trans (hb.mono b_.o.size))) H1W.o hM3 q0.o)).mono ?_)
     rintro e wc9 ⟨m0,g9,rfl,hg9,ho9⟩;have hl9:(e1.take k).length=k:=by rw[aEk];omega
     rw[hl9];refine hK _ _ ⟨.slice (some ⟨g9,0,none⟩) k k,by simp only[FL,f5,f6] <;> kernel_rfl,m0,⟨g9,rfl,by omega,by rw[hl9] at ho9;rw[LK hke];exact ho9⟩⟩
   ·intro xs Y0 B11 z11;simp only[SY];have i0:=tr e0 B11;generalize xs 7=x7;rintro f7;obtain⟨gx,rfl,hgx,hox⟩:=f7;have P0:=zz hgx;have Q0:=zz hox;clear hgx hox;refine EN 8 rfl fun K hK=>?_
    go_simp;refine hK _ _ ?_;clear hK K;(try simp only[PT])
    refine EN 9 rfl fun K hK=>?_
    go_simp;refine hK _ _ ?_;clear hK K;(try simp only[PT])
    refine ED ?_;(try simp only[Exit.then])
    go_wp2;go_ret2;refine⟨i0.o,?_⟩;rw[HN.o];exact⟨gx,by rw[show(jL e1 k).length=k by simp[jL]];rfl,P0.o,by rw[show(jL e1 k).length=k by simp[jL]];exact Q0.o⟩
theorem mK (args:Array Value) (w1:World):(callFunc 52 args).run Tryz.prog w1=.ok (.enter 52 args) w1:=by kernel_rfl
def DotOK (r s:List Rat):Prop:=r.length≤s.length∧∀ j,j<r.length→QL 60000000 60000000 (r.getD j 0)∧QL 60000000 60000000 (s.getD j 0)∧QL 60000000 60000000 (r.getD j 0*s.getD j 0)∧QL 60000000 60000000 (aJ r s j)
theorem eD {s:List Rat} {l':Nat} (hr:∀ q∈r,QL l l q) (hs:∀ q∈s,QL l' l' q) (h1:1≤l) (h1':1≤l'):∀ j,QL ((l+l'+1)*j+1) ((l+l'+1)*j+1) (aJ r s j)
 | 0=>by rw[aJ];exact QL.zero1 _ _ (by omega)
 | j+1=>by
  rw[aJ];have h:=(eD hr hs h1 h1' j).add2 ((aT hr h1 j).mul (aT hs h1' j)) (m:=(l+l'+1)*j+1+(l+l')) (by omega) (by omega);refine h.mono ?_ ?_ <;> rw[aGk] <;> omega
theorem lQ {s:List Rat} {l':Nat} (hle:r.length≤s.length) (hr:∀ q∈r,QL l l q) (hs:∀ q∈s,QL l' l' q) (h1:1≤l) (h1':1≤l') (hb:(l+l'+1)*(r.length+1)≤60000000):DotOK r s:=by
 refine⟨hle,fun j hj=>?_⟩;have h2:(l+l'+1)*(j+1)≤(l+l'+1)*(r.length+1):=aFf _ (by omega);rw[aGk] at h2;refine⟨(aT hr h1 j).mono (by omega) (by omega),(aT hs h1' j).mono (by omega) (by omega),((aT hr h1 j).mul (aT hs h1' j)).mono (by omega) (by omega),(eD hr hs h1 h1' j).mono (by omega) (by omega)⟩
theorem IP (w:World) (bc:Nat) (cA:Option Addr) (cn cc:Nat) (D:List (List Rat)) (A:Option Addr) (u c:Nat) (r:List Rat) (hC:CB w bc 78 #[.slice cA cn cc]) (hD:RM w w.heap.size (.slice cA cn cc) D) (hr:RS w w.heap.size (.slice A u c) r) (hl:D.length≤1000000) (hq:∀ d∈D,DotOK r d) :
  CV 95 #[.slice A u c,.pointer (some ⟨bc,0,none⟩)] w fun e w'=>∃ g,e=.returned (.slice (some ⟨g,0,none⟩) (D.map (bK r)).length (D.map (bK r)).length)∧w.heap.size≤g∧(D.map (bK r)).length≤9223372036854775807∧OB 3 ER 88 w' g (D.map (bK r)).length (D.map (bK r)):=by
 have hlm:(D.map (bK r)).length=D.length:=by rw[aEb]
 rw[hlm];have HD:=zz hD;have HR:=zz hr;have HL:=zz hl;have HQ:=zz hq;have h0:=zz hlm;clear hD hr hl hq hlm;have q0:=hC.cell 0 rfl;have q1:=hC.lt;go_enter Tryz.func95,Tryz.ntmps95
 go_wp2_with fail
 refine(sZ _ _ _ _ D 52 (.slice A u c) (bK r) HD.o HL.o mK (fun w1 j hj A' u' c' hb hx=>fJ w1 A A' u c u' c' r D[j] (HR.o.step aEw hb) hx (HQ.o _ (aEc hj)).1 (HQ.o _ (aEc hj)).2)).mono ?_;rintro e w1 ⟨hb,g,rfl,hg,ho⟩;have HB:=zz hb;have HG:=zz hg;have HO:=zz ho;clear hb hg ho;go_wp2;go_ret;exact⟨HB.o,g,rfl,HG.o,by have:=HL.o;omega,HO.o⟩
theorem IOx (args:Array Value) (w1:World):(callFunc 95 args).run Tryz.prog w1=.ok (.enter 95 args) w1:=by kernel_rfl
theorem iK (w:World) (A B:Option Addr) (n c m d:Nat) (M:List (List Rat)) (b:List Rat) (k l l':Nat) (ha:RM w w.heap.size (.slice A n c) M) (hb:RS w w.heap.size (.slice B m d) b) (hM:0<M.length) (hle:b.length=M.length) (hW:Wide M k) (hm:M.length≤1000000∧k≤1000000)
  (hL:Short l M) (hLb:∀ q∈b,QL l' l' q) (hl1:1≤l∧l≤l') (hl2:(2*l'+1)*(M.length+1)≤60000000) :
  CV 48 #[.slice A n c,.slice B m d] w fun e w'=>∃ g G C g',e=.returned (.tuple #[.slice (some ⟨g,0,none⟩) k k,.slice (some ⟨g',0,none⟩) k k])∧OM 3 ER 88 65 w' w.heap.size g k G C (bB M)∧w.heap.size≤g'∧OB 3 ER 88 w' g' k (bG M b)∧g<g'∧∀ i,i<k→G i<g':=by
 have hwq:aM M=k:=by rw[aM];exact hW.getD hM
 have htl:(cI M).length=k:=by unfold cI;rw[aEb,List.length_range,hwq]
 have hnm:bB M=(cI M).map fun c=>(cI M).map (bK c):=rfl
 have hcl:∀ c∈cI M,c.length=M.length∧∀ q∈c,QL l l q:=fun c hc=>by
  obtain⟨j,-,rfl⟩:=aFc.1 hc;refine⟨by unfold dD;rw[aEb],fun q hq=>?_⟩;obtain⟨r,hr,rfl⟩:=aFc.1 hq;exact aT (hL r hr) hl1.1 j
 have hnv:bG M b=(cI M).map (bK b):=aKp fun c hc=>zM (by rw[(hcl c hc).1,hle])
 have hd1:∀ c∈cI M,∀ d∈cI M,DotOK c d:=fun c hc d hd=>lQ (by rw[(hcl c hc).1,(hcl d hd).1];exact aEa _) (hcl c hc).2 (hcl d hd).2 hl1.1 hl1.1 (by rw[(hcl c hc).1];exact aEg (aEs _ (by omega)) hl2)
 have hd2:∀ d∈cI M,DotOK b d:=fun d hd=>lQ (by rw[(hcl d hd).1,hle];exact aEa _) hLb (hcl d hd).2 (by omega) hl1.1 (by rw[hle];exact aEg (aEs _ (by omega)) hl2)
 have HQ:=zz ha;have HS:=zz hb;have x0:=zz hW;have o0:=zz hm;have y0:=zz hd1;have t0:=zz hd2;have n0:=zz htl;have u0:=zz hnm;have z0:=zz hnv;have v0:=zz hwq;clear ha hb hW hm hL hLb hl1 hl2 hd1 hd2 htl hnm hnv hcl hwq hle;have k0:=zz (aDy w.heap.size w);go_enter Tryz.func48,Tryz.ntmps48
 go_wp2_with fail
 refine(nx k0 (IU _ _ _ _ M HQ.o hM (by rw[v0.o];exact x0.o) (by rw[v0.o];exact o0.o))).mono ?_;rintro e w1 ⟨⟨B2,z2,l0⟩,v,rfl,hv⟩;obtain⟨cA,cc,rfl,-⟩:=aHi hv;rw[n0.o] at hv ⊢;have HC:=zz hv;clear hv;go_upto_region 2 with (fail)
 obtain⟨w4,c0⟩:=ex (w1.alloc (.cells #[.slice cA k cc] 78));rw[← c0];have a0:=cL c0;have za4:=cJ c0;have B5:=zz (cK c0);have z5:=B5.o.size;have m0:=tr l0 B5;clear c0;have p0:=zz (HC.o.step (aFl aEw) B5.o);have A0:=zz a0;have i0:=a0.cell 0 rfl;have s0:=a0.lt;go_wp2_with fail
 refine(nx m0 (TA _ _ _ _ (cI M) 95 (.pointer (some ⟨w1.heap.size,0,none⟩)) (fun c=>(cI M).map (bK c)) p0.o (by rw[n0.o];exact o0.o.2) IOx (fun w3 j hj A' u c' hb hx=>IP w3 (w1.heap.size) cA k cc (cI M) A' u c' (cI M)[j] (aEd A0.o hb) (p0.o.step (aFl aEw) hb) hx (by rw[n0.o];exact o0.o.2) (y0.o _ (aEc hj))))).mono ?_;rintro e w8 ⟨⟨B9,z9,d0⟩,g,G,C,rfl,hom⟩;clear i0 s0;rw[n0.o] at hom ⊢;rw[← u0.o] at hom;have q0:=zz hom;clear hom;have B0:=zz (p0.o.step (aFl aEw) B9.o);have C0:=zz (HS.o.step aEw d0.o);have b0:=aEd a0 B9.o;have f0:=b0.cell 0 rfl;have r0:=b0.lt;go_wp2_with fail
 refine(nx d0 (sZ _ _ _ _ (cI M) 52 (.slice B m d) (bK b) B0.o (by rw[n0.o];exact o0.o.2) mK (fun w4 j hj A' u c' hb hx=>fJ w4 B A' m d u c' b (cI M)[j] (C0.o.step aEw hb) hx (t0.o _ (aEc hj)).1 (t0.o _ (aEc hj)).2))).mono ?_;rintro e w13 ⟨⟨B14,z14,j0⟩,g',rfl,hg,ho⟩;clear f0 r0;have hap:g<g'∧∀ i,i<k→G i<g':=⟨aEt q0.o.lt hg,fun i hi=>aEt (q0.o.rowlt (by rw[u0.o,aEb,n0.o];exact hi)) hg⟩;have D0:=zz hap;clear hap;rw[n0.o] at ho ⊢;rw[← z0.o] at ho;have HO:=zz ho;have HG:=zz hg;clear ho hg;have w0:=zz ((q0.o.step aEw B14.o).weak (show w.heap.size≤_ by omega));go_wp2;go_ret2;exact⟨j0.o,g,G,C,g',rfl,w0.o,by have:=HG.o;omega,HO.o,D0.o⟩
end Go.Proofs.YtencnahjgbdeoaaGreatDoor
