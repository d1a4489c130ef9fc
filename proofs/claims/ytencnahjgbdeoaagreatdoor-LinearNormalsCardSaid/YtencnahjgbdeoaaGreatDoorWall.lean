/- Texts put together. -/
import Derived.Test.YtencnahjgbdeoaaGreatDoorWgh
import Derived.Test.YtencnahjgbdeoaaGreatDoorLns
import Derived.Test.YtencnahjgbdeoaaGreatDoorLr
import Derived.Test.YtencnahjgbdeoaaGreatDoorLx
namespace Go.Proofs.YtencnahjgbdeoaaGreatDoor
open Go Go.RowKit Dig
set_option maxRecDepth 100000
set_option maxHeartbeats 4000000
variable {A C M:List (List QX)} {B Z b g k n:Nat} {D N:List Int} {c r:Int} {c0 c1 c2 c3 v:Value} {cs:Array Value} {d f:List QX} {hs:List Value} {l:QX} {w w':World}
section
variable {α:Type} {k:Nat} {E:Elem α} {w w':World} {B g off n c:Nat} {l:List α}
theorem SL.addr {A:Option Addr} (h:SL k E w B (.slice A n c) l) (h0:0<l.length):∃ g off,A=some ⟨g,off,none⟩∧g<B:=by
  obtain⟨A',c',he,h1,h2,h3⟩:=h;injection he with e1 e2 e3
  subst e1;subst e2;subst e3;obtain⟨g,off,e,hg,-⟩:=h3 h0;exact⟨g,off,e,hg⟩
end
section
variable {N D:List Int}
theorem eH (k n:Nat):Wide (aY N D k n) k:=fun r hr=>by
  unfold aY at hr;obtain⟨i,-,rfl⟩:=aFc.1 hr;exact bQ _ _ _ _
end
def mO (q:Rat):Rat:=if q.num<0 then -q else q
theorem FU (q:Rat):(mO q).num.natAbs=q.num.natAbs:=by
  unfold mO;split
  · rw[Rat.neg_num,aKu]
  · rfl
theorem FV (q:Rat):(mO q).den=q.den:=by
  unfold mO;split
  · rw[Rat.neg_den]
  · rfl
theorem rK (q:Rat):0≤(mO q).num:=by
  unfold mO;split
  · rw[Rat.neg_num];omega
  · omega
theorem QV.abs {n m:Bool} {A A':Option Addr} {l c l' c':Nat} {q:Rat} (h:QV w B (.agg #[.bool n,.slice A l c,.bool m,.slice A' l' c']) q):QV w B (.agg #[.bool false,.slice A l c,.bool m,.slice A' l' c']) (mO q):=by
  obtain⟨h1,h2,-,rfl⟩:=h.is;exact⟨false,A,l,c,A',l',c',rfl,by rw[FU];exact h1,by rw[FV];exact h2,(aEe (by have:=rK q;omega)).symm⟩
def CN (l:List Rat):List Rat:=l.map mO
theorem XM (l:List Rat):(CN l).length=l.length:=by simp[CN]
section
variable {N D N2 D2:List Int} {f g e k n:Nat} {x y:List Rat}
def qO (N2 D2:List Int) (g:Nat):Rat:=mO (cQ N2 D2 g)
def dY (N D:List Int) (e k:Nat):List Rat:=CN (bE N D e k)
theorem eM:(dY N D e k).length=k:=by unfold dY;rw[XM,bQ]
end
theorem WZ {f:Nat} (h:DV w w.heap.size v r c N D) (hn:n≤1000) (hf:f≤1000) :
    CV 86 #[v,.int .i64 (n:Int),.int .i64 (f:Int)] w fun e w'=>∃ A c,e=.returned (.slice A n c)∧VL w' w'.heap.size (.slice A n c) (bE N D f n):=by
  refine(KW w v r c N D n f h hn hf).mono ?_;rintro e w' ⟨hb,v,rfl,hv⟩;obtain⟨A,c,rfl,h⟩:=VL.open (n:=n) hv (bQ _ _ _ _);exact⟨hb,A,c,rfl,h⟩
theorem lL {f:Nat} {F:Int} (h:DV w w.heap.size v r c N D) (hF:F=(f:Int)) (hn:n≤1000) (hf:f≤1000) :
    CV 86 #[v,.int .i64 (n:Int),.int .i64 F] w fun e w'=>∃ A c,e=.returned (.slice A n c)∧VL w' w'.heap.size (.slice A n c) (bE N D f n):=by subst hF;exact WZ h hn hf
theorem VM.head0 {c o:Nat} {M:List (List Rat)} (h:VM w B (.slice (some ⟨g,o,none⟩) n c) M) (hw:Wide M k) (h0:0<M.length):∃ A' c',g<B∧w.cell? ⟨g,o,none⟩=some (.slice A' k c')∧VL w B (.slice A' k c') (M.getD 0 []):=by
  obtain⟨g',o',A',c',e,hg,h1,h2⟩:=aKy h.rat (j:=0) (by simpa using h0);injection e with e;injection e with e1 e2;subst e1;subst e2
  simp only[aGm,aEb,aGd] at h1 h2
  have hl:M[0].length=k:=hw _ (aEc h0);rw[hl] at h1 h2;exact⟨A',c',hg,h1,by rw[aG h0];exact h2⟩
theorem DV.parts (h:DV w B v r c N D):∃ A ca A' cd,v=.agg #[.int .u8 r,.int .u8 c,.slice A N.length ca,.slice A' D.length cd]∧0≤r∧r≤255∧0≤c∧c≤255:=by
  obtain⟨A,ca,A',cd,e,h0,-,-⟩:=h;exact⟨A,ca,A',cd,e,h0⟩
theorem DV.cut2 {y z:Int} {s t:Value} (h:DV w B (.agg #[.int .u8 r,.int .u8 c,s,t]) r c N D) (hy:0≤y∧y≤255) (hz:0≤z∧z≤255):DV w B (.agg #[.int .u8 y,.int .u8 z,s,t]) y z N D:=by
  obtain⟨A,ca,A',cd,e,h0,h1,h2⟩:=h;injection e with e
  simp at e
  obtain⟨rfl,rfl⟩:=e;exact⟨A,ca,A',cd,rfl,⟨hy.1,hy.2,hz.1,hz.2⟩,h1,h2⟩
def Zed (w:World) (b:Nat):Prop:=∀ p v,w.cell? ⟨b,p,none⟩=some v→v=.bool false∨v=.slice none 0 0
section
variable {w w':World} {b:Nat}
theorem FM (h:∀ g,g≠b→w'.heap[g]?=w.heap[g]?) {g p:Nat} (hg:g≠b):w'.cell? ⟨g,p,none⟩=w.cell? ⟨g,p,none⟩:=by simp[World.cell?,h g hg]
theorem QS.far {l:List Rat} (hQ:QS w w.heap.size v (l.map qx)) (hz:Zed w b) (hh:∀ g,g≠b→w'.heap[g]?=w.heap[g]?) (hs:Go.Proofs.YtencnahjgbdeoaaGreatDoor.Soft w w') (hsz:w.heap.size≤w'.heap.size):QS w' w'.heap.size v (l.map qx):=by
  obtain⟨A',c',e,h1,h2,h3⟩:=hQ;refine⟨A',c',e,h1,h2,fun h0=>?_⟩;obtain⟨g,off,e1,hg,hx⟩:=h3 h0;refine⟨g,off,e1,aEt hg hsz,fun j hj=>?_⟩;obtain⟨cs,k1,k2,k3⟩:=hx j hj;have hgb:g≠b:=fun e2=>by
    subst e2;simp only[aGm] at k3
    generalize l[j]'(by simpa using hj)=q at k3;obtain⟨c0,c1,c2,c3,rfl,B0,n0,d0,B1,n1,d1,e4,-,r2⟩:=k3;injection e4 with e4
    simp at e4
    obtain⟨rfl,rfl,rfl,rfl⟩:=e4;rcases hz _ _ (k2 3 _ rfl) with h5 | h5
    · cases h5
    · injection h5 with _ h6 _
      have h7:=RI.len r2;rw[h6] at h7;have h8:=bX (n:=q.den) q.den_nz;simp[qx,aC] at h7
      omega
  exact⟨cs,k1,fun i u hu=>(FM hh hgb).trans (k2 i u hu),aIz k3 hs⟩
theorem QM.far {M:List (List Rat)} (hQ:QM w w.heap.size v (M.map (List.map qx))) (hM:∀ r∈M,0<r.length) (hz:Zed w b) (hh:∀ g,g≠b→w'.heap[g]?=w.heap[g]?) (hs:Go.Proofs.YtencnahjgbdeoaaGreatDoor.Soft w w') (hsz:w.heap.size≤w'.heap.size):QM w' w'.heap.size v (M.map (List.map qx)):=by
  obtain⟨A',c',e,h1,h2,h3⟩:=hQ;refine⟨A',c',e,h1,h2,fun h0=>?_⟩;obtain⟨g,off,e1,hg,hx⟩:=h3 h0;refine⟨g,off,e1,aEt hg hsz,fun j hj=>?_⟩;obtain⟨cs,k1,k2,k3⟩:=hx j hj;have hr:0<(M[j]'(by simpa using hj)).length:=hM _ (aEc _);simp only[aGm] at k3 ⊢
  generalize M[j]'(by simpa using hj)=r at k3 hr;obtain⟨u,rfl,hu⟩:=k3;have hgb:g≠b:=fun e2=>by
    subst e2;obtain⟨A2,c2,e3,-⟩:=hu;have h4:=hz _ _ (k2 0 _ rfl);rw[e3] at h4;rcases h4 with h5 | h5
    · cases h5
    · injection h5 with _ h6 _
      rw[aEb] at h6
      omega
  exact⟨[u],k1,fun i x hx'=>(FM hh hgb).trans (k2 i x hx'),u,rfl,QS.far hu hz hh hs hsz⟩
end
theorem EM (hg:g≠b):∀ {cs:List Value} {w:World} {p:Nat},(aN w b p cs).heap[g]?=w.heap[g]?
  | [],_,_=>rfl
  | c :: cs,w,p=>(EM hg (cs:=cs)).trans (aFr w ⟨b,p,none⟩ c g hg)
theorem yQ:∀ {cs:List Value} {w:World} {p:Nat},(aN w b p cs).heap.size=w.heap.size
  | [],_,_=>rfl
  | c :: cs,w,p=>(yQ (cs:=cs)).trans (by simp[World.setCell])
theorem lT {t:TypeId} {cs ds:List Value} (e:w'=aN w b 0 ds) (h:CB w b t cs.toArray) (hl:ds.length=cs.length) (hn:∀ v∈cs,bN v=true):CB w' b t ds.toArray∧Go.Proofs.YtencnahjgbdeoaaGreatDoor.Soft w w'∧(∀ g,g≠b→w'.heap[g]?=w.heap[g]?)∧w'.heap.size=w.heap.size:=by
  subst e;obtain⟨arr,h1,h2,h3,-⟩:=CB.sets (cs:=ds) (p:=0) h (by simp[hl]);have e:arr=ds.toArray:=by
    apply Array.ext_getElem?
    intro i;rcases aFk i ds.length with hi | hi
    · have:=h3 i _ (aEh hi)
      rw[aIx] at this;simp[this,hi]
    · rw[aHj (by rw[h2];simpa[hl] using hi)]
      simp[hi]
  rw[e] at h1;exact⟨h1,sK h (fun i v _ hv=>hn v (by have:=aMu hv;simpa using this)),fun g hg=>EM hg,yQ⟩
theorem zV (N D:List Int) (e j:Nat):dY N D e (j+1)=dY N D e j++[mO (cQ N D (e+j))]:=by unfold dY CN;rw[qC,aGc];rfl
set_option linter.unusedSimpArgs false
def eR (q:QX):QX:=((q.1.1,q.1.2.take 6),(q.2.1,q.2.2.take 6))
def dL (l:List QX):List QX:=(l.take (min l.length 14)).map eR
def fE (M:List (List QX)):List (List QX):=(M.take (min M.length 14)).map dL
theorem rH {l:List QX}:(dL l).length=min l.length 14:=by simp[dL]
theorem vU:(fE M).length=min M.length 14:=by simp[fE]
theorem TK {l:List QX} {i:Nat} (hi:i<l.length) (hm:i<min l.length 14):(dL l).take (i+1)=(dL l).take i++[eR l[i]]:=by
  rw[aFj,aEh (by rw[rH];exact hm)];simp[dL]
theorem TJ {i:Nat} (hi:i<M.length) (hm:i<min M.length 14):(fE M).take (i+1)=(fE M).take i++[dL M[i]]:=by
  rw[aFj,aEh (by rw[vU];exact hm)];simp[fE]
theorem RI.lr {s:Value} {n:Bool} {l:List Int} (h:RI w B s l):LR w B (.agg #[.bool n,s]) n l:=⟨s,rfl,h⟩
theorem RI.cut {A:Option Addr} {c:Nat} {l:List Int} (h:RI w B (.slice A n c) l) (k:Nat):RI w B (.slice A (l.take k).length c) (l.take k):=by
  obtain⟨A',c',e,h1,h2,h3⟩:=h;injection e with e1 e2 e3
  subst e1;subst e3;refine⟨A,c,rfl,by simp;omega,h2,fun h0=>?_⟩;obtain⟨g,off,k1,k2,k3⟩:=h3 (by simp at h0;omega);exact⟨g,off,k1,k2,fun j hj=>by rw[List.getElem_take];exact k3 j (by simp at hj;omega)⟩
theorem wR (w:World) (v:Value) (na:Bool) (l:List Int) (h:LR w w.heap.size v na l) :
    CV 34 #[v] w fun e w'=>∃ v',e=.returned v'∧LR w' w'.heap.size v' na (l.take 6):=by
  obtain⟨m,hm0⟩:=ex (l.take 6);rw[← hm0];replace hm0:=zz hm0;obtain⟨s,rfl,hs⟩:=h;obtain⟨A,c,rfl,hc,hm,-⟩:=(show RI _ _ _ _ from hs);replace hs:=zz hs;have L1:=LB.new w (.bool na) (.slice A l.length c);have L2:=LB.new (w.alloc (.cells #[.bool na,.slice A l.length c] 26)) (.bool false) (.slice none 0 0);have qa0:=(L1.alloc (.cells #[.bool false,.slice none 0 0] 26)).cell1;go_enter Tryz.func34,Tryz.ntmps34
  go_wp2_with fail
  rw[show(min (l.length:Int) 6).toNat=(l.take 6).length by rw[aEk];omega];have hs1:RI w w.heap.size (.slice A (l.take 6).length c) (l.take 6):=hs.o.cut 6;have hl6:(l.take 6).length≤6:=by rw[aEk];omega
  rw[← hm0.o] at hs1 hl6 ⊢;have hB2:Below w.heap.size w ((w.alloc (.cells #[.bool na,.slice A l.length c] 26)).alloc (.cells #[.bool false,.slice none 0 0] 26)):=by(repeat' (first | exact aDy _ _ | refine aJo ?_ | refine aIs ?_ (by first | exact aEa _ | (simp;done) | (simp;omega)) _))
  refine(MH _ _ m (hs1.step hB2) (by omega)).mono ?_;rintro e w1 ⟨a0,v1,rfl,ho⟩;obtain⟨A1,c1,rfl,-⟩:=(show RI _ _ _ _ from ho.ri);have M1:=(L1.alloc (.cells #[.bool false,.slice none 0 0] 26)).step a0;have M2:=L2.step a0;have b0:=zz (hB2.trans (a0.mono hB2.size));have hr:=zz ho.ri;clear hs1 a0 ho qa0 L1 L2 hB2 hs;have qa0:=M1.cell0;have qa1:=M1.cell1;have qa2:=M1.frozen 0;have qa3:=M1.frozen 1;have qb0:=M2.cell0;have qb1:=M2.cell1;have qb2:=M2.frozen 0;have qb3:=M2.frozen 1;have hz:(w.alloc (.cells #[.bool na,.slice A l.length c] 26)).heap.size=w.heap.size+1:=by simp
  rw[hz] at M2 qb0 qb1 qb2 qb3;go_wp2_with fail
  have M3:=M1.set1 (.slice A1 m.length c1);have r1:=hr.o.setLB M1 1 (.slice A1 m.length c1);have M4:=M2.far (p:=⟨w.heap.size,1,none⟩) (by simp) (.slice A1 m.length c1);obtain⟨h1,h2⟩:=M4.put (q:=na) (show RI _ (w1.setCell ⟨w.heap.size,1,none⟩ (.slice A1 m.length c1)).heap.size _ _ from(by simpa[World.setCell] using r1));refine aFv (LB.ret1 rfl _ h1 rfl) rfl ⟨?_,_,rfl,_,rfl,h2⟩;exact((b0.o.setCell (p:=⟨w.heap.size,1,none⟩) (aEa _) _).setCell (p:=⟨w.heap.size+1,0,none⟩) (Nat.le_succ _) _).setCell (p:=⟨w.heap.size+1,1,none⟩) (Nat.le_succ _) _
theorem lJ (w:World) (A:Option Addr) (n c:Nat) (l:List QX) (h:QS w w.heap.size (.slice A n c) l) :
    CV 10 #[.slice A n c] w fun e w'=>∃ A' c',e=.returned (.slice A' (dL l).length c')∧OA 4 EQ 28 w' w.heap.size (.slice A' (dL l).length c') (dL l):=by
  obtain⟨rfl,hn1,hn2⟩:=aHb h;have HQ:=zz h;clear h;obtain⟨iq,hiq,hzq,hsq,hbq⟩:=aGf fH;obtain⟨m,hm⟩:=ex (min l.length 14);have HM:=zz (show m≤l.length∧m≤14 by omega);have B0:=zz hm;have q0:=zz (aDy w.heap.size w);have hmi:(min (l.length:Int) 14).toNat=m:=by omega
  have hc14:(min (l.length:Int) 14)≤(c:Int):=by omega
  clear hm;go_enter Tryz.func10,Tryz.ntmps10
  go_wp2;(try rw[hmi])
  clear hmi hc14 hn1;have hm14:(m:Int)≤14:=by have:=HM.o;omega
  go_loopw [3,12] (fun ov iv wr=>∃ i:Nat,i≤m∧iv=.int .i64 i∧Hi (OA 4 EQ 28 wr w.heap.size ov ((dL l).take i))∧Hi (Below w.heap.size w wr)) (fun _ iv _=>m-(intOf iv).toNat)
  case atStart=>exact⟨0,aEy _,rfl,zz OA.nil,q0⟩
  case round=>
    obtain⟨i,hi,rfl,HO,HW⟩:=hrel;have zr:=HW.o.size;rename World=>wr
    by_cases hlt:i<m
    case pos=>
      have hlt':(i:Int)<(m:Int):=by omega
      have hii:(0:Int)≤(i:Int)∧(i:Int)<(m:Int):=by omega
      have hil:i<l.length:=by have:=HM.o;omega
      obtain⟨g,off,xA,xl,xc,xB,xu,xd,hAe,hg,hE,hx⟩:=aKm HQ.o hil;subst hAe;replace hE:=hE.step HW.o;have HX:=zz (aHz hx HW.o);clear hx hg;have hat:=TK hil (by rw[← B0.o];exact hlt);have C0:=zz hat;clear hat;obtain⟨x,hxe⟩:=ex (l[i]);rw[← hxe] at hE HX C0;clear hxe;have j0:=ez4 hE;go_upto_region 5 with (fail)
      clear j0;clear hE;obtain⟨w2,d0⟩:=ex (wr.alloc (.cells #[.bool x.1.1,.slice xA xl xc,.bool x.2.1,.slice xB xu xd] 28));rw[← d0];have b0:=cL d0;have za2:=cJ d0;have B3:=zz (cK d0);have z3:=B3.o.size;have r0:=tr HW B3;clear d0;have D0:=st aHz HX B3;obtain⟨ha1,g0⟩:=QR.is D0.o;have G0:=zz ha1;have s0:=zz g0;clear ha1 g0 D0;have x0:∀ w':World,Below w2.heap.size w2 w'→(Below w2.heap.size w2 w'∧w'.cell? ⟨wr.heap.size,0,none⟩=some (.bool x.1.1)∧w'.cell? ⟨wr.heap.size,1,none⟩=some (.slice xA xl xc)∧w'.cell? ⟨wr.heap.size,2,none⟩=some (.bool x.2.1)∧w'.cell? ⟨wr.heap.size,3,none⟩=some (.slice xB xu xd)):=fun w' h=>⟨h,(aEd b0 h).cell 0 rfl,(aEd b0 h).cell 1 rfl,(aEd b0 h).cell 2 rfl,(aEd b0 h).cell 3 rfl⟩
      refine aIr 9 (fun w'=>Below w2.heap.size w2 w'∧w'.cell? ⟨wr.heap.size,0,none⟩=some (.bool x.1.1)∧w'.cell? ⟨wr.heap.size,1,none⟩=some (.slice xA xl xc)∧w'.cell? ⟨wr.heap.size,2,none⟩=some (.bool x.2.1)∧w'.cell? ⟨wr.heap.size,3,none⟩=some (.slice xB xu xd)) (by kernel_rfl) ?_;refine ET 0 (u3) rfl (Or.inl ⟨by rfl,?_⟩) ?_ ?_
      · intro w' hSw;obtain⟨-,t0,t1,t2,t3⟩:=hSw;go_simp
      · exact x0 _ (aA (aDy _ _))
      (try simp only[PT])
      refine ET 1 (.pointer (some ⟨wr.heap.size,0,none⟩)) rfl (Or.inl ⟨by rfl,?_⟩) ?_ ?_
      · intro w' hSw;obtain⟨-,t0,t1,t2,t3⟩:=hSw;go_simp
      · exact x0 _ (aA (aDy _ _))
      (try simp only[PT])
      refine ET 2 (.agg #[.bool x.1.1,.slice xA xl xc]) rfl (Or.inl ⟨by rfl,?_⟩) ?_ ?_
      · intro w' hSw;obtain⟨-,t0,t1,t2,t3⟩:=hSw;go_simp
      · exact x0 _ (aA (aDy _ _))
      (try simp only[PT])
      refine ET 4 (.pointer (some ⟨wr.heap.size,2,none⟩)) rfl (Or.inl ⟨by rfl,?_⟩) ?_ ?_
      · intro w' hSw;obtain⟨-,t0,t1,t2,t3⟩:=hSw;go_simp
      · exact x0 _ (aA (aDy _ _))
      (try simp only[PT])
      refine ET 5 (.agg #[.bool x.2.1,.slice xB xu xd]) rfl (Or.inl ⟨by rfl,?_⟩) ?_ ?_
      · intro w' hSw;obtain⟨-,t0,t1,t2,t3⟩:=hSw;go_simp
      · exact x0 _ (aA (aDy _ _))
      (try simp only[PT])
      refine en 3 rfl fun K hK=>?_;go_simp;(with_reducible refine(wR _ _ _ _ (RI.lr (RI.step G0.o (aA (aDy _ _))))).mono ?_)
      rintro e w6 ⟨e0,v1,rfl,u0⟩;replace e0:Below w2.heap.size w2 w6:=aR e0;have B7:=zz e0;have z7:=B7.o.size;have v0:=tr r0 B7;clear e0;refine hK _ _ (fun _=>x0 _ B7.o) ?_;clear hK K;(try simp only[PT])
      obtain⟨s1,rfl,h1⟩:=u0;obtain⟨A1,c1,rfl⟩:=RI.slice h1;obtain⟨l1,hl1⟩:∃ z,(x.1.2.take 6).length=z:=⟨_,rfl⟩;rw[hl1] at h1 ⊢;clear hl1;have H0:=zz h1;clear h1;refine en 6 rfl fun K hK=>?_;go_simp;(with_reducible refine(wR _ _ _ _ (RI.lr (RI.step s0.o B7.o))).mono ?_)
      rintro e w9 ⟨h0,v2,rfl,w0⟩;have B10:=zz h0;have z10:=B10.o.size;have n0:=tr v0 B10;clear h0;have P0:=tr B7 B10;refine hK _ _ (fun _=>x0 _ P0.o) ?_;clear hK K;(try simp only[PT])
      obtain⟨s2,rfl,h2⟩:=w0;obtain⟨A2,c2,rfl⟩:=RI.slice h2;obtain⟨l2,hl2⟩:∃ z,(x.2.2.take 6).length=z:=⟨_,rfl⟩;rw[hl2] at h2 ⊢;clear hl2;have I0:=zz h2;clear h2;refine en 7 rfl fun K hK=>?_;go_simp;refine hK _ _ (fun _=>x0 _ (P0.o)) ?_;clear hK K;(try simp only[PT])
      refine en 8 rfl fun K hK=>?_;go_simp;refine hK _ _ (fun _=>x0 _ (aB (P0.o) _)) ?_;clear hK K;(try simp only[PT])
      obtain⟨w13,a0⟩:=ex (w9.alloc (.cells #[.bool x.1.1,.slice A1 l1 c1,.bool x.2.1,.slice A2 l2 c2] 28));rw[← a0];have f0:=cL a0;have za13:=cJ a0;have B14:=zz (cK a0);have z14:=B14.o.size;have o0:=tr n0 B14;clear a0;have W0:=tr B3 B7;have Y0:=tr W0 B10;have X0:=tr Y0 B14;have Z0:=tr B10 B14;have J0:=zz (QR.mk (n:=x.1.1) (m:=x.2.1) (RI.step H0.o Z0.o) (RI.step I0.o B14.o));have K0:=zz f0;have L0:=zz (aNk HO.o aEf X0.o);have i0:=zz o0.o;have z8:=X0.o.size;refine en 9 rfl fun K hK=>?_;rw[aEv (show Region.wanted _ _=true from rfl)];refine gV _ _ _ rfl w.heap.size 28 iq _ 64 Tryz.underlying23 hiq hzq hsq hbq rfl (by decide) (by decide) aEf aIz L0.o rfl ⟨w9.heap.size,0,none⟩ 1 [eR x] rfl Nat.one_pos [.bool x.1.1,.slice A1 l1 c1,.bool x.2.1,.slice A2 l2 c2] (aLt rfl ⟨_,_,_,_,rfl,J0.o⟩) (jP K0.o [_,_,_,_] rfl) (by intro u hu;simp at hu;rcases hu with rfl | rfl | rfl | rfl <;> rfl) (by simp only[aEk,rH,aEl,aEm,maxLen];omega) (by simp only[aEk,rH,aEl,aEm];omega) (by have:=i0.o.size;simpa using this) ?_;intro v9 w9 hoa hb hs' hg' hat';have M0:Hi (OA 4 EQ 28 w9 w.heap.size v9 ((dL l).take (i+1))):=zz (by rw[C0.o];exact hoa);have p0:=zz (i0.o.trans hb);clear hoa hb hs' hg' hat';refine hK _ _ (fun h=>absurd h (by decide)) ?_
      clear hK K;(try simp only[PT])
      refine en 10 rfl fun K hK=>?_;go_simp;refine hK _ _ (fun h=>absurd h (by decide)) ?_;clear hK K;(try simp only[PT])
      refine aIj (by kernel_rfl) ?_ _;(try simp only[Exit.then])
      clear x0;go_wp2;go_roundw
      case rel=>exact⟨i+1,hlt,by go_num,M0,p0⟩
      case measure=>exact ms
    case neg=>
      obtain rfl:m=i:=by omega
      have hlt':¬ (m:Int)<(m:Int):=by omega
      rw[aFa (by rw[rH,← B0.o];exact aEa _)] at HO;obtain⟨A1,c1,rfl,-⟩:=aHi HO.o.sl;have H1:=zz HO.o;clear HO;go_wp2;go_ret;exact⟨HW.o,_,_,rfl,H1.o⟩
structure OMN (w:World) (B:Nat) (v:Value) (hs:List Value) (M:List (List QX)):Prop where
  hdr:OA 1 EV 23 w B v hs
  len:hs.length=M.length
  rows:∀ i (h:i<M.length),OA 4 EQ 28 w B (hs[i]'(by rw[len];exact h)) M[i]
  apart:∀ i (h:i<M.length) X,(hs[i]'(by rw[len];exact h)).ownBlock=some X→v.ownBlock≠some X
theorem OMN.nil:OMN w B (.slice none 0 0) [] []:=⟨OA.nil,rfl,fun i h=>absurd h (by simp),fun i h=>absurd h (by simp)⟩
theorem OMN.step (h:OMN w B v hs M) (hb:Below w.heap.size w w'):OMN w' B v hs M:=
  ⟨h.hdr.step aLi hb,h.len,fun i hi=>(h.rows i hi).step aEf hb,h.apart⟩
theorem OMN.app {v' r:Value} {l:List QX} (h:OMN w B v hs M) (hr:OA 4 EQ 28 w B r l) (ha:∀ X,r.ownBlock=some X→v.ownBlock≠some X)
    (hoa:OA 1 EV 23 w' B v' (hs++[r])) (hsf:Go.Proofs.YtencnahjgbdeoaaGreatDoor.Soft w w') (hg:w.grownBy w' v.ownBlock) (hat:v'.ownBlock=v.ownBlock∨v'.ownBlock=some w.heap.size):OMN w' B v' (hs++[r]) (M++[l]):=by
  have hl:=h.len;refine⟨hoa,by simp[hl],fun i hi=>?_,fun i hi X hX=>?_⟩
  · rcases aFk i M.length with hi2 | hi2
    · have h1:=(h.rows i hi2).grown aIz hg (fun X e e'=>h.apart i hi2 X e e') hsf
      rw[aGq (by omega),aGq hi2];exact h1
    · obtain rfl:i=M.length:=by simp at hi;omega
      have h1:=hr.grown aIz hg (fun X e e'=>ha X e e') hsf;simp only[aHr (aEa _),aHr (aGo hl),hl,Nat.sub_self,aKx];exact h1
  · have key:∃ u k,OA 4 EQ 28 w B u k∧u.ownBlock=some X∧v.ownBlock≠some X:=by
      rcases aFk i M.length with hi2 | hi2
      · rw[aGq (by omega)] at hX
        exact⟨_,_,h.rows i hi2,hX,h.apart i hi2 X hX⟩
      · obtain rfl:i=M.length:=by simp at hi;omega
        simp only[aHr (aGo hl),hl,Nat.sub_self,aKx] at hX
        exact⟨_,_,hr,hX,ha X hX⟩
    obtain⟨u,k,hu,hX2,hne⟩:=key;rcases hat with e | e
    · rw[e];exact hne
    · rw[e];intro e2;injection e2 with e2;have:=(hu.blk hX2).1;omega
theorem OMN.weak {B':Nat} (h:OMN w B v hs M) (hB:B'≤B):OMN w B' v hs M:=⟨h.hdr.weak hB,h.len,fun i hi=>(h.rows i hi).weak hB,h.apart⟩
theorem OA.far {α:Type} {E:Elem α} {T:TypeId} {l:List α} (h:OA k E T w B v l) (hE:E.Soft) (hb:b<B) (hh:∀ g,g≠b→w'.heap[g]?=w.heap[g]?) (hs:Go.Proofs.YtencnahjgbdeoaaGreatDoor.Soft w w'):OA k E T w' B v l:=by
  rcases h with h | ⟨g,cap,e1,h2,h3,arr,k1,k2,k3,k4⟩
  · exact .inl h
  · refine .inr ⟨g,cap,e1,h2,h3,arr,(hh g (by omega)).trans k1,k2,k3,fun j hj=>?_⟩
    obtain⟨cs,q1,q2,q3⟩:=k4 j hj;exact⟨cs,q1,q2,hE q3 hs⟩
theorem OMN.far (h:OMN w B v hs M) (hb:b<B) (hh:∀ g,g≠b→w'.heap[g]?=w.heap[g]?) (hsf:Go.Proofs.YtencnahjgbdeoaaGreatDoor.Soft w w'):OMN w' B v hs M:=
  ⟨h.hdr.far aLj hb hh hsf,h.len,fun i hi=>(h.rows i hi).far aIz hb hh hsf,h.apart⟩
theorem OMN.sl (h:OMN w B v hs M):QM w w.heap.size v M:=by
  obtain⟨A,c,e,h1,h2,h3⟩:=h.hdr.sl;have hl:=h.len;refine⟨A,c,by rw[← hl];exact e,by omega,h2,fun h0=>?_⟩;obtain⟨g,off,k1,k2,k3⟩:=h3 (by omega);refine⟨g,off,k1,k2,fun j hj=>?_⟩;obtain⟨cs,q1,q2,q3,-⟩:=k3 j (by omega);exact⟨cs,q1,q2,_,q3,(h.rows j hj).sl⟩
theorem tU (w:World) (A:Option Addr) (n c:Nat) (M:List (List QX)) (h:QM w w.heap.size (.slice A n c) M) :
    CV 9 #[.slice A n c] w fun e w'=>∃ A' c' hs,e=.returned (.slice A' (fE M).length c')∧OMN w' w.heap.size (.slice A' (fE M).length c') hs (fE M):=by
  obtain⟨rfl,hn1,hn2⟩:=aHb h;have HQ:=zz h;clear h;obtain⟨il,hil,hzl,hsl,hbl⟩:=aGf sX;obtain⟨m,hm⟩:=ex (min M.length 14);have HM:=zz (show m≤M.length∧m≤14 by omega);have h0:=zz hm;have d0:=zz (aDy w.heap.size w);have hmi:(min (M.length:Int) 14).toNat=m:=by omega
  have hc14:(min (M.length:Int) 14)≤(c:Int):=by omega
  clear hm;go_enter Tryz.func9,Tryz.ntmps9
  go_wp2;(try rw[hmi])
  clear hmi hc14 hn1;have hm14:(m:Int)≤14:=by have:=HM.o;omega
  go_loopw [3,12] (fun ov iv wr=>∃ (i:Nat) (hs:List Value),i≤m∧iv=.int .i64 i∧Hi (OMN wr w.heap.size ov hs ((fE M).take i))∧Hi (Below w.heap.size w wr)) (fun _ iv _=>m-(intOf iv).toNat)
  case atStart=>exact⟨0,[],aEy _,rfl,zz OMN.nil,d0⟩
  case round=>
    obtain⟨i,hs,hi,rfl,HO,HW⟩:=hrel;have zr:=HW.o.size;rename World=>wr
    by_cases hlt:i<m
    case pos=>
      have hlt':(i:Int)<(m:Int):=by omega
      have hii:(0:Int)≤(i:Int)∧(i:Int)<(m:Int):=by omega
      have hil2:i<M.length:=by have:=HM.o;omega
      obtain⟨g,off,A',c',hAe,hg,hcell,hrow⟩:=aKy HQ.o (j:=i) hil2;subst hAe;have qh:=(HW.o.cell (p:=⟨g,off+i,none⟩) hg).trans hcell;have ql:g<wr.heap.size:=aEt hg HW.o.size;have i0:=zz (aHo hrow aEf HW.o);clear hg hcell hrow;have hat:=TJ hil2 (by rw[← h0.o];exact hlt);have j0:=zz hat;clear hat;obtain⟨y,hy⟩:=ex (M[i]);rw[← hy] at qh i0 j0;clear hy;go_wp2_with fail
      clear qh ql;refine(nx HW (lJ _ _ _ _ y i0.o)).mono ?_;rintro e w1 ⟨⟨B2,z2,a0⟩,A1,c1,rfl,h1⟩;obtain⟨l1,hl1⟩:∃ z,(dL y).length=z:=⟨_,rfl⟩;rw[hl1] at h1 ⊢;clear hl1;have H1:=zz h1;clear h1;have b0:Below w1.heap.size w1 (w1.alloc (.cells #[.slice A1 l1 c1] 23)):=aB (aDy _ _) _;have k0:=zz ((OMN.step HO.o B2.o).step b0);have l0:=zz (aNk H1.o aEf b0);have a0:=zz (a0.o.trans (b0.mono a0.o.size));clear b0;have hln:hs.length=i:=by rw[HO.o.len,aEk,vU,← h0.o];omega
      go_wp2_with (at_builtin;go_loud (refine aO rfl _ _ _ rfl w.heap.size 23 il _ 24 Tryz.underlying22 hil hzl hsl hbl rfl (by decide) (by decide) aLi aLj k0.o.hdr rfl ⟨w1.heap.size,0,none⟩ 1 [.slice A1 l1 c1] rfl Nat.one_pos [.slice A1 l1 c1] (aLt rfl ⟨rfl,rfl⟩) (cell_one_new _ _ _) (by intro u hu;simp at hu;subst hu;rfl) (by simp only[hln,aEl,aEm,maxLen];omega) (by simp only[hln,aEl,aEm];omega) (by have:=a0.o.size;simpa using this) ?_))
      intro v8 w8 hoa hb hs' hg' hat;have happ:=k0.o.app (l0.o.weak zr) (fun X e e'=>by have h1:=(l0.o.blk e).2;have h2:=(HO.o.hdr.blk e').1;omega) hoa hs' hg' (by simpa using hat);have m0:Hi (OMN w8 w.heap.size v8 _ ((fE M).take (i+1))):=zz (by rw[j0.o];exact happ);have e0:=zz (a0.o.trans hb);clear happ hoa hb hs' hg' hat hln;go_wp2;go_roundw
      case rel=>exact⟨i+1,_,hlt,by go_num,m0,e0⟩
      case measure=>exact ms
    case neg=>
      obtain rfl:m=i:=by omega
      have hlt':¬ (m:Int)<(m:Int):=by omega
      rw[aFa (by rw[vU,← h0.o];exact aEa _)] at HO;obtain⟨A1,c1,rfl,-⟩:=aHi HO.o.sl;have H1:=zz HO.o;clear HO;go_wp2;go_ret;exact⟨HW.o,_,_,rfl,_,H1.o⟩
def RAWV (w:World) (B:Nat) (v:Value) (A C:List (List QX)) (b d f:List QX) (l:QX):Prop:=∃ s0 s1 s2 s3 s4 c0 c1 c2 c3,v=.agg #[s0,s1,s2,s3,s4,c0,c1,c2,c3]∧QM w B s0 A∧QM w B s1 C∧QS w B s2 b∧QS w B s3 d∧QS w B s4 f∧EQ w B [c0,c1,c2,c3] l
def RAWN (w:World) (B:Nat) (v:Value) (A C:List (List QX)) (b d f:List QX) (l:QX):Prop:=∃ s0 s1 s2 s3 s4 c0 c1 c2 c3 h0 h1,v=.agg #[s0,s1,s2,s3,s4,c0,c1,c2,c3]∧OMN w B s0 h0 A∧OMN w B s1 h1 C∧OA 4 EQ 28 w B s2 b∧OA 4 EQ 28 w B s3 d∧OA 4 EQ 28 w B s4 f∧EQ w w.heap.size [c0,c1,c2,c3] l
theorem RAWN.step {b:List QX} (h:RAWN w B v A C b d f l) (hb:Below w.heap.size w w'):RAWN w' B v A C b d f l:=by
  obtain⟨s0,s1,s2,s3,s4,c0,c1,c2,c3,h0,h1,e,k1,k2,k3,k4,k5,d0,d1,d2,d3,e2,k6⟩:=h;exact⟨s0,s1,s2,s3,s4,c0,c1,c2,c3,h0,h1,e,k1.step hb,k2.step hb,k3.step aEf hb,k4.step aEf hb,k5.step aEf hb,d0,d1,d2,d3,e2,aHz k6 hb⟩
theorem RAWN.weak {B':Nat} {b:List QX} (h:RAWN w B v A C b d f l) (hB:B'≤B):RAWN w B' v A C b d f l:=by
  obtain⟨s0,s1,s2,s3,s4,c0,c1,c2,c3,h0,h1,e,k1,k2,k3,k4,k5,k6⟩:=h;exact⟨s0,s1,s2,s3,s4,c0,c1,c2,c3,h0,h1,e,k1.weak hB,k2.weak hB,k3.weak hB,k4.weak hB,k5.weak hB,k6⟩
theorem RAWN.far {b:List QX} (h:RAWN w B v A C b d f l) (hb:g<B) (hh:∀ i,i≠g→w'.heap[i]?=w.heap[i]?) (hs:Go.Proofs.YtencnahjgbdeoaaGreatDoor.Soft w w'):RAWN w' B v A C b d f l:=by
  obtain⟨s0,s1,s2,s3,s4,c0,c1,c2,c3,h0,h1,e,k1,k2,k3,k4,k5,d0,d1,d2,d3,e2,k6⟩:=h;exact⟨s0,s1,s2,s3,s4,c0,c1,c2,c3,h0,h1,e,k1.far hb hh hs,k2.far hb hh hs,k3.far aIz hb hh hs,k4.far aIz hb hh hs,k5.far aIz hb hh hs,d0,d1,d2,d3,e2,QR.soft k6 hs⟩
theorem RAWN.raw {b:List QX} (h:RAWN w B v A C b d f l):RAWV w w.heap.size v A C b d f l:=by
  obtain⟨s0,s1,s2,s3,s4,c0,c1,c2,c3,h0,h1,e,k1,k2,k3,k4,k5,k6⟩:=h;exact⟨s0,s1,s2,s3,s4,c0,c1,c2,c3,e,k1.sl,k2.sl,k3.sl,k4.sl,k5.sl,k6⟩
theorem QX.cells (h:EQ w B [c0,c1,c2,c3] l):∃ xA xl xc xB xu xd,[c0,c1,c2,c3]=[.bool l.1.1,.slice xA xl xc,.bool l.2.1,.slice xB xu xd]∧QR w B (.agg #[.bool l.1.1,.slice xA xl xc,.bool l.2.1,.slice xB xu xd]) l.1.1 l.1.2 l.2.1 l.2.2:=by
  obtain⟨d0,d1,d2,d3,e,A,a,c,A',a',c',e2,h1,h2⟩:=h;injection e with q0 e;injection e with q1 e;injection e with q2 e;injection e with q3 e
  subst q0;subst q1;subst q2;subst q3;injection e2 with e2;simp at e2
  obtain⟨rfl,rfl,rfl,rfl⟩:=e2;exact⟨A,a,c,A',a',c',rfl,QR.mk h1 h2⟩
theorem aBd {q:QX} (h:CB w b 28 #[c0,c1,c2,c3]) (hq:QR w w.heap.size (.agg #[c0,c1,c2,c3]) q.1.1 q.1.2 q.2.1 q.2.2):QS w w.heap.size (.slice (some ⟨b,0,none⟩) 1 1) [q]:=by
  refine⟨_,_,rfl,aEa _,by simp,fun _=>⟨b,0,rfl,h.lt,fun j hj=>?_⟩⟩;obtain rfl:j=0:=by simp at hj;omega
  refine⟨[c0,c1,c2,c3],rfl,fun i u hu=>?_,_,_,_,_,rfl,hq⟩;have:=h.cell i (v:=u) (by simpa using hu)
  simpa using this
theorem VT (w:World) (v:Value) (A C:List (List QX)) (b d f:List QX) (l:QX) (h:RAWV w w.heap.size v A C b d f l) :
    CV 32 #[v] w fun e w'=>∃ v',e=.returned v'∧RAWN w' w.heap.size v' (fE A) (fE C) (dL b) (dL d) (dL f) (eR l):=by
  obtain⟨s0,s1,s2,s3,s4,c0,c1,c2,c3,rfl,hA,hC,hb,hd,hf,hl⟩:=h;obtain⟨A0,k0,rfl,-⟩:=aHi hA;obtain⟨n0,hn⟩:∃ z,A.length=z:=⟨_,rfl⟩;rw[hn] at hA ⊢;clear hn;have HA:=zz hA;clear hA;obtain⟨A1,k1,rfl,-⟩:=aHi hC;obtain⟨n1,hn⟩:∃ z,C.length=z:=⟨_,rfl⟩;rw[hn] at hC ⊢;clear hn;have HC:=zz hC;clear hC;obtain⟨A2,k2,rfl,-⟩:=aHi hb;obtain⟨n2,hn⟩:∃ z,b.length=z:=⟨_,rfl⟩;rw[hn] at hb ⊢;clear hn;have Hb:=zz hb;clear hb;obtain⟨A3,k3,rfl,-⟩:=aHi hd;obtain⟨n3,hn⟩:∃ z,d.length=z:=⟨_,rfl⟩;rw[hn] at hd ⊢;clear hn;have Hd:=zz hd;clear hd;obtain⟨A4,k4,rfl,-⟩:=aHi hf;obtain⟨n4,hn⟩:∃ z,f.length=z:=⟨_,rfl⟩;rw[hn] at hf ⊢;clear hn;have Hf:=zz hf;clear hf;obtain⟨xA,xl,xc,xB,xu,xd,he,hx⟩:=QX.cells hl;injection he with q0 he;injection he with q1 he;injection he with q2 he;injection he with q3 he;subst q0;subst q1;subst q2;subst q3;have HX:=zz hx;clear hl hx he
  obtain⟨w0,hw0⟩:=ex ((w.alloc (.cells #[.slice A0 n0 k0,.slice A1 n1 k1,.slice A2 n2 k2,.slice A3 n3 k3,.slice A4 n4 k4,.bool l.1.1,.slice xA xl xc,.bool l.2.1,.slice xB xu xd] 30)).alloc (.cells #[.slice none 0 0,.slice none 0 0,.slice none 0 0,.slice none 0 0,.slice none 0 0,.bool false,.slice none 0 0,.bool false,.slice none 0 0] 30));have B0:=zz (pK hw0);have z0:=pJ hw0;have Lx:=pM hw0;have Lr2:=pL hw0;go_enter Tryz.func32,Tryz.ntmps32
  go_upto_region 1 with (fail)
  rw[← hw0];clear hw0
  refine aFq [se 0 3 [] (.pointer (some ⟨w.heap.size,0,none⟩)),se 1 4 [0] (.slice A0 n0 k0),sf 2 5 [1] (fun fv fw=>∃ zA zc zh,fv=.slice zA (fE A).length zc∧OMN fw w0.heap.size (.slice zA (fE A).length zc) zh (fE A)),se 3 6 [] (.pointer (some ⟨w.heap.size,1,none⟩)),se 4 7 [3] (.slice A1 n1 k1),sf 5 8 [4] (fun fv fw=>∃ zA zc zh,fv=.slice zA (fE C).length zc∧OMN fw w0.heap.size (.slice zA (fE C).length zc) zh (fE C)),se 6 9 [] (.pointer (some ⟨w.heap.size,2,none⟩)),se 7 10 [6] (.slice A2 n2 k2),sf 8 11 [7] (fun fv fw=>∃ zA zc,fv=.slice zA (dL b).length zc∧OA 4 EQ 28 fw w0.heap.size (.slice zA (dL b).length zc) (dL b)),se 9 12 [] (.pointer (some ⟨w.heap.size,3,none⟩)),se 10 13 [9] (.slice A3 n3 k3),sf 11 14 [10] (fun fv fw=>∃ zA zc,fv=.slice zA (dL d).length zc∧OA 4 EQ 28 fw w0.heap.size (.slice zA (dL d).length zc) (dL d)),se 12 15 [] (.pointer (some ⟨w.heap.size,4,none⟩)),se 13 16 [12] (.slice A4 n4 k4),sf 14 17 [13] (fun fv fw=>∃ zA zc,fv=.slice zA (dL f).length zc∧OA 4 EQ 28 fw w0.heap.size (.slice zA (dL f).length zc) (dL f)),se 15 18 [] (.pointer (some ⟨w.heap.size,5,none⟩)),se 16 19 [15] (.agg #[.bool l.1.1,.slice xA xl xc,.bool l.2.1,.slice xB xu xd]),sf 17 20 [16] (fun fv fw=>∃ zb,fv=.slice (some ⟨zb,0,none⟩) 1 1∧CB fw zb 28 #[.bool l.1.1,.slice xA xl xc,.bool l.2.1,.slice xB xu xd]),sf 18 21 [17] (fun fv fw=>∃ zA zc,fv=.slice zA 1 zc∧OA 4 EQ 28 fw w0.heap.size (.slice zA 1 zc) ([eR l])),sf 19 22 [18] (fun fv fw=>∃ zg zo yA yl yc yB yu yd,fv=.pointer (some ⟨zg,zo,none⟩)∧E4 fw zg zo (.bool (eR l).1.1) (.slice yA yl yc) (.bool (eR l).2.1) (.slice yB yu yd)∧QR fw fw.heap.size (.agg #[.bool (eR l).1.1,.slice yA yl yc,.bool (eR l).2.1,.slice yB yu yd]) (eR l).1.1 (eR l).1.2 (eR l).2.1 (eR l).2.2),sf 20 23 [19] (fun fv fw=>∃ yA yl yc yB yu yd,fv=.agg #[.bool (eR l).1.1,.slice yA yl yc,.bool (eR l).2.1,.slice yB yu yd]∧QR fw fw.heap.size (.agg #[.bool (eR l).1.1,.slice yA yl yc,.bool (eR l).2.1,.slice yB yu yd]) (eR l).1.1 (eR l).1.2 (eR l).2.1 (eR l).2.2),sf 21 24 [2,5,8,11,14,20] (fun fv fw=>RAWN fw w0.heap.size fv (fE A) (fE C) (dL b) (dL d) (dL f) (eR l))] 1 (SC (v:=.slice A0 n0 k0) (fun _ h=>(aEd Lx h).cell 0 rfl) (SC (v:=.slice A1 n1 k1) (fun _ h=>(aEd Lx h).cell 1 rfl) (SC (v:=.slice A2 n2 k2) (fun _ h=>(aEd Lx h).cell 2 rfl) (SC (v:=.slice A3 n3 k3) (fun _ h=>(aEd Lx h).cell 3 rfl) (SC (v:=.slice A4 n4 k4) (fun _ h=>(aEd Lx h).cell 4 rfl) (SC (v:=.bool l.1.1) (fun _ h=>(aEd Lx h).cell 5 rfl) (SC (v:=.slice xA xl xc) (fun _ h=>(aEd Lx h).cell 6 rfl) (SC (v:=.bool l.2.1) (fun _ h=>(aEd Lx h).cell 7 rfl) (SC (v:=.slice xB xu xd) (fun _ h=>(aEd Lx h).cell 8 rfl) S0))))))))) (MA (fun _ _ _ h hb=>let ⟨zA,zc,zh,e,h⟩:=h;⟨zA,zc,zh,e,h.step hb⟩) (MA (fun _ _ _ h hb=>let ⟨zA,zc,zh,e,h⟩:=h;⟨zA,zc,zh,e,h.step hb⟩) (MA (fun _ _ _ h hb=>let ⟨zA,zc,e,h⟩:=h;⟨zA,zc,e,h.step aEf hb⟩) (MA (fun _ _ _ h hb=>let ⟨zA,zc,e,h⟩:=h;⟨zA,zc,e,h.step aEf hb⟩) (MA (fun _ _ _ h hb=>let ⟨zA,zc,e,h⟩:=h;⟨zA,zc,e,h.step aEf hb⟩) (MA (fun _ _ _ h hb=>let ⟨b,e,h⟩:=h;⟨b,e,h.step hb⟩) (MA (fun _ _ _ h hb=>let ⟨zA,zc,e,h⟩:=h;⟨zA,zc,e,h.step aEf hb⟩) (MA (fun _ _ _ h hb=>let ⟨g,o,a1,a2,a3,a4,a5,a6,e,h1,h2⟩:=h;⟨g,o,a1,a2,a3,a4,a5,a6,e,h1.step hb,aHz h2 hb⟩) (MA (fun _ _ _ h hb=>let ⟨a1,a2,a3,a4,a5,a6,e,h2⟩:=h;⟨a1,a2,a3,a4,a5,a6,e,aHz h2 hb⟩) (MA (fun _ _ _ h hb=>h.step hb) aFi)))))))))) ?_ ?_
  · intro xs a_ hA;simp only[SX,↓reduceIte,Nat.reduceEqDiff,Nat.reduceAdd] at hA⊢;subst hA;and_intros
    all_goals intro wk b_ z_
    all_goals try exact pl
    · intro f1;intros
      refine wo fun K hK=>?_;go_simp;have W0:=tr B0 b_;(with_reducible refine(tU _ _ _ _ A (aHo HA.o (aFl aEf) W0.o)).mono ?_)
      rintro e wc2 ⟨H0,A2,c2,hs2,rfl,h2⟩;refine hK _ _ ⟨.slice A2 (fE A).length c2,by simp only[FL,f1] <;> kernel_rfl,H0,⟨A2,c2,hs2,rfl,h2.weak (by omega)⟩⟩
    · intro f4;intros
      refine wo fun K hK=>?_;go_simp;have Y0:=tr B0 b_;(with_reducible refine(tU _ _ _ _ C (aHo HC.o (aFl aEf) Y0.o)).mono ?_)
      rintro e wc4 ⟨I0,A4,c4,hs4,rfl,h4⟩;refine hK _ _ ⟨.slice A4 (fE C).length c4,by simp only[FL,f4] <;> kernel_rfl,I0,⟨A4,c4,hs4,rfl,h4.weak (by omega)⟩⟩
    · intro f7;intros
      refine wo fun K hK=>?_;go_simp;have X0:=tr B0 b_;(with_reducible refine(lJ _ _ _ _ b (aHo Hb.o aEf X0.o)).mono ?_)
      rintro e wc6 ⟨J0,A6,c6,rfl,h6⟩;refine hK _ _ ⟨.slice A6 (dL b).length c6,by simp only[FL,f7] <;> kernel_rfl,J0,⟨A6,c6,rfl,h6.weak (by omega)⟩⟩
    · intro f10;intros
      refine wo fun K hK=>?_;go_simp;have Z0:=tr B0 b_;(with_reducible refine(lJ _ _ _ _ d (aHo Hd.o aEf Z0.o)).mono ?_)
      rintro e wc8 ⟨K0,A8,c8,rfl,h8⟩;refine hK _ _ ⟨.slice A8 (dL d).length c8,by simp only[FL,f10] <;> kernel_rfl,K0,⟨A8,c8,rfl,h8.weak (by omega)⟩⟩
    · intro f13;intros
      refine wo fun K hK=>?_;go_simp;have P1:=tr B0 b_;(with_reducible refine(lJ _ _ _ _ f (aHo Hf.o aEf P1.o)).mono ?_)
      rintro e wc10 ⟨E0,A10,c10,rfl,h10⟩;refine hK _ _ ⟨.slice A10 (dL f).length c10,by simp only[FL,f13] <;> kernel_rfl,E0,⟨A10,c10,rfl,h10.weak (by omega)⟩⟩
    · intro f16;intros
      refine wo fun K hK=>?_;go_simp;refine hK _ _ ⟨.slice (some ⟨wk.heap.size,0,none⟩) 1 1,by simp only[FL,f16] <;> kernel_rfl,(aDy _ _).alloc (aEa _) _,⟨_,rfl,aHl _ _ _⟩⟩
    · intro f17;intros
      refine wo fun K hK=>?_;obtain⟨zb,e17,hL⟩:=f17;rw[e17];go_simp;have W1:=tr B0 b_;(with_reducible refine(lJ _ (some ⟨zb,0,none⟩) 1 1 [l] (aBd hL (aHz HX.o W1.o))).mono ?_)
      rintro e wc12 ⟨F0,A12,c12,rfl,h12⟩;refine hK _ _ ⟨.slice A12 1 c12,by simp only[FL,e17] <;> kernel_rfl,F0,⟨A12,c12,rfl,h12.weak (by omega)⟩⟩
    · intro f18;intros
      refine wo fun K hK=>?_;obtain⟨zA,zc,e18,h18⟩:=f18;rw[e18];obtain⟨g,off,yA,yl,yc,yB,yu,yd,hAe,hg,hE,hy⟩:=aKm (show QS _ _ _ [eR l] from h18.sl) (j:=0) (by simp);subst hAe;simp only[aKx,aLf,aGd] at hE hy
      go_simp;refine hK _ _ ⟨.pointer (some ⟨g,off,none⟩),by simp only[FL,e18] <;> kernel_rfl,aDy _ _,⟨g,off,yA,yl,yc,yB,yu,yd,rfl,hE,hy⟩⟩
    · intro f19;intros
      refine wo fun K hK=>?_;obtain⟨zg,zo,yA,yl,yc,yB,yu,yd,e19,hE,hy⟩:=f19;rw[e19];have q0:=hE.c0;have q1:=hE.c1;have q2:=hE.c2;have q3:=hE.c3;have ql:=hE.lt;go_simp;refine hK _ _ ⟨.agg #[.bool (eR l).1.1,.slice yA yl yc,.bool (eR l).2.1,.slice yB yu yd],by simp only[FL,e19] <;> kernel_rfl,aDy _ _,⟨yA,yl,yc,yB,yu,yd,rfl,hy⟩⟩
    · intro f2 f5 f8 f11 f14 f20;intros
      refine wo fun K hK=>?_;obtain⟨A2,k2,zh2,e2,h2⟩:=f2;obtain⟨A5,k5,zh5,e5,h5⟩:=f5;obtain⟨A8,k8,e8,h8⟩:=f8;obtain⟨A11,k11,e11,h11⟩:=f11;obtain⟨A14,k14,e14,h14⟩:=f14;obtain⟨yA,yl,yc,yB,yu,yd,e20,hy⟩:=f20;rw[e2,e5,e8,e11,e14,e20];go_simp;refine hK _ _ ⟨.agg #[.slice A2 (fE A).length k2,.slice A5 (fE C).length k5,.slice A8 (dL b).length k8,.slice A11 (dL d).length k11,.slice A14 (dL f).length k14,.bool (eR l).1.1,.slice yA yl yc,.bool (eR l).2.1,.slice yB yu yd],by simp only[FL,e2,e5,e8,e11,e14,e20] <;> kernel_rfl,aDy _ _,⟨_,_,_,_,_,_,_,_,_,_,_,rfl,h2,h5,h8,h11,h14,_,_,_,_,rfl,hy⟩⟩
  · intro xs L0 hbf _;simp only[SY]
    have B14:=hbf;have z14:=B14.o.size;have G0:=tr B0 B14;clear hbf;generalize xs 2=x2,xs 5=x5,xs 8=x8,xs 11=x11,xs 14=x14,xs 17=x17,xs 18=x18,xs 19=x19,xs 20=x20,xs 21=x21;rintro f2 f5 f8 f11 f14 f17 f18 f19 f20 f21;clear f2;clear f5;clear f8;clear f11;clear f14;obtain⟨bs16,rfl,Lb16⟩:=f17;clear f18;clear f19;clear f20;obtain⟨s0,s1,s2,s3,s4,y0,y1,y2,y3,zh0,zh1,rfl,g1,g2,g3,g4,g5,g6⟩:=f21;obtain⟨E2,m2,rfl,-⟩:=aHi g1.sl;obtain⟨E5,m5,rfl,-⟩:=aHi g2.sl;obtain⟨E8,m8,rfl,-⟩:=aHi g3.sl;obtain⟨E11,m11,rfl,-⟩:=aHi g4.sl;obtain⟨E14,m14,rfl,-⟩:=aHi g5.sl;obtain⟨yA,yl,yc,yB,yu,yd,he,-⟩:=QX.cells g6;injection he with q0 he;injection he with q1 he;injection he with q2 he;injection he with q3 he;subst q0;subst q1;subst q2;subst q3;clear he
    have O0:=zz (show RAWN L0 w0.heap.size (.agg #[.slice E2 (fE A).length m2,.slice E5 (fE C).length m5,.slice E8 (dL b).length m8,.slice E11 (dL d).length m11,.slice E14 (dL f).length m14,.bool (eR l).1.1,.slice yA yl yc,.bool (eR l).2.1,.slice yB yu yd]) (fE A) (fE C) (dL b) (dL d) (dL f) (eR l) from⟨_,_,_,_,_,_,_,_,_,_,_,rfl,g1,g2,g3,g4,g5,g6⟩);clear g1 g2 g3 g4 g5 g6;have a0:=aEd Lr2 B14.o;have b0:=a0.cell 0 rfl;have d0:=a0.cell 1 rfl;have e0:=a0.cell 2 rfl;have f0:=a0.cell 3 rfl;have g0:=a0.cell 4 rfl;have h0:=a0.cell 5 rfl;have i0:=a0.cell 6 rfl;have j0:=a0.cell 7 rfl;have l0:=a0.cell 8 rfl;have M0:=a0.lt;have m0:=a0.frozen 0;have o0:=a0.frozen 1;have p0:=a0.frozen 2;have t0:=a0.frozen 3;have u0:=a0.frozen 4;have v0:=a0.frozen 5;have x0:=a0.frozen 6;have C0:=a0.frozen 7;have D0:=a0.frozen 8;have N0:=a0.lt;refine EN 22 rfl fun K hK=>?_
    go_simp;refine hK _ _ ?_;clear hK K;(try simp only[PT])
    clear b0 d0 e0 f0 g0 h0 i0 j0 l0 M0 m0 o0 p0 t0 u0 v0 x0 C0 D0 N0;refine ED ?_;(try simp only[Exit.then])
    obtain⟨wS,hS⟩:=ex (aN L0 (w.heap.size+1) 0 [.slice E2 (fE A).length m2,.slice E5 (fE C).length m5,.slice E8 (dL b).length m8,.slice E11 (dL d).length m11,.slice E14 (dL f).length m14,.bool (eR l).1.1,.slice yA yl yc,.bool (eR l).2.1,.slice yB yu yd]);rw[show(((((((((L0.setCell ⟨w.heap.size+1,0,none⟩ (.slice E2 (fE A).length m2)).setCell ⟨w.heap.size+1,1,none⟩ (.slice E5 (fE C).length m5)).setCell ⟨w.heap.size+1,2,none⟩ (.slice E8 (dL b).length m8)).setCell ⟨w.heap.size+1,3,none⟩ (.slice E11 (dL d).length m11)).setCell ⟨w.heap.size+1,4,none⟩ (.slice E14 (dL f).length m14)).setCell ⟨w.heap.size+1,5,none⟩ (.bool (eR l).1.1)).setCell ⟨w.heap.size+1,6,none⟩ (.slice yA yl yc)).setCell ⟨w.heap.size+1,7,none⟩ (.bool (eR l).2.1)).setCell ⟨w.heap.size+1,8,none⟩ (.slice yB yu yd))=wS from hS.symm];obtain⟨hC9,hs9,hf9,hz9⟩:=lT hS (cs:=[.slice none 0 0,.slice none 0 0,.slice none 0 0,.slice none 0 0,.slice none 0 0,.bool false,.slice none 0 0,.bool false,.slice none 0 0]) a0 rfl (by decide);have P0:=zz (show Below w.heap.size w wS by rw[hS];exact bS (by omega) G0.o);clear hS;have hob:w.heap.size+1<w0.heap.size:=by omega
    have hbs:w.heap.size≤w0.heap.size:=by omega
    have KK:=zz ((O0.o.far hob hf9 hs9).weak hbs);have Q0:=zz hC9;clear hC9 hf9 hs9 hz9 hob hbs;go_wp2;exact aFv (aKc rfl _ _ (w.heap.size+1) _ #[.slice E2 (fE A).length m2,.slice E5 (fE C).length m5,.slice E8 (dL b).length m8,.slice E11 (dL d).length m11,.slice E14 (dL f).length m14,.bool (eR l).1.1,.slice yA yl yc,.bool (eR l).2.1,.slice yB yu yd] (0,0) _ rfl Q0.o Tryz.underlying30 rfl (by kernel_rfl)) rfl ⟨P0.o,_,rfl,KK.o⟩
theorem NewMat.step (h:NewMat Z w v M) (hb:Below w.heap.size w w'):NewMat Z w' v M:=by
  obtain⟨B,G,C,hZ,h⟩:=h;exact⟨B,G,C,hZ,h.step aEf hb⟩
theorem NewMat.weak {Z':Nat} (h:NewMat Z w v M) (hz:Z'≤Z):NewMat Z' w v M:=by
  obtain⟨B,G,C,hZ,h⟩:=h;exact⟨B,G,C,aEg hz hZ,h⟩
theorem NewMat.vm {M:List (List Rat)} (h:NewMat Z w v (M.map (List.map qx))):VM w w.heap.size v M:=by
  obtain⟨B,G,C,hZ,h⟩:=h;exact h.sl
theorem NewMat.omn (h:NewMat Z w v M):∃ hs,OMN w Z v hs M:=by
  obtain⟨B,G,C,hZ,h⟩:=h;refine⟨tY G C M,(OMN.weak (B:=B) ⟨h.hdr,aV,fun i hi=>?_,fun i hi X hX=>?_⟩ hZ)⟩
  · rw[mA i hi];exact .inr ⟨G i,C i,rfl,(h.apart i hi).2,(h.cap i hi).2,h.rows i hi⟩
  · rw[mA i hi] at hX;simp only[Value.ownBlock] at hX;have h1:=(h.apart i hi).1;rw[← hX];simpa using h1
def OAQ (Z:Nat) (w:World) (v:Value) (l:List Rat):Prop:=OA 4 EQ 28 w Z v (l.map qx)
theorem OAQ.step {l:List Rat} (h:OAQ Z w v l) (hb:Below w.heap.size w w'):OAQ Z w' v l:=aNk h aEf hb
theorem OAQ.weak {Z':Nat} {l:List Rat} (h:OAQ Z w v l) (hz:Z'≤Z):OAQ Z' w v l:=OA.weak h hz
theorem OAQ.vl {l:List Rat} (h:OAQ Z w v l):VL w w.heap.size v l:=OA.sl h
theorem tC {f:Nat} {F:Int} (h:DV w w.heap.size v r c N D) (hF:F=(f:Int)) (hn:n≤1000) (hf:f≤1000) :
    CV 86 #[v,.int .i64 (n:Int),.int .i64 F] w fun e w'=>∃ A c,e=.returned (.slice A n c)∧OAQ w.heap.size w' (.slice A n c) (bE N D f n):=by
  subst hF;refine(wH w v r c N D n f h hn hf).mono ?_;rintro e w' ⟨hb,v,rfl,hv⟩;obtain⟨A,c,rfl,-⟩:=VL.open (n:=n) (show VL _ _ v (bE N D f n) from hv.sl) (bQ _ _ _ _);exact⟨hb,A,c,rfl,hv⟩
theorem wL (h:DV w w.heap.size v r c N D) (hm:qN r c N D=aY N D k n) (hn:0<n) :
    CV 85 #[v] w fun e w'=>∃ g o c,e=.returned (.slice (some ⟨g,o,none⟩) n c)∧NewMat w.heap.size w' (.slice (some ⟨g,o,none⟩) n c) ((aY N D k n).map (List.map qx)):=by
  refine(tR w v r c N D h).mono ?_;rintro e w' ⟨hb,v,rfl,hv⟩;rw[hm] at hv;obtain⟨A,c,rfl,h1⟩:=VM.open (n:=n) hv.vm (bY _ _ _ _);obtain⟨g,o,rfl,-⟩:=SL.addr h1.rat (by rw[aEb,bY];exact hn);exact⟨hb,g,o,c,rfl,hv⟩
theorem nE (w:World) (v:Value) (r c:Int) (N D:List Int) (h:DV w w.heap.size v r c N D) (v2:Value) (r2 c2:Int) (N2 D2:List Int) (h2:DV w w.heap.size v2 r2 c2 N2 D2) (n k m:Nat) (hn:1+(r % 6).toNat=n) (hk:1+(c % 4).toNat=k) (hm:1+(r2 % 4).toNat=m) :
    CV 33 #[v,v2] w fun e w'=>∃ v',e=.returned v'∧RAWN w' w.heap.size v' ((aY N D k n).map (List.map qx)) ((aY N2 D2 k m).map (List.map qx)) ((bE N D 11 n).map qx) ((dY N D 7 k).map qx) ((bE N2 D2 3 m).map qx) (qx (qO N2 D2 5)):=by
  obtain⟨A,ka,A',ka',rfl,h0⟩:=h.parts;obtain⟨B,kb,B',kb',rfl,h02⟩:=h2.parts;obtain⟨y,hy⟩:∃ y,r2 % 4=y:=⟨_,rfl⟩;have hy4:0≤y∧y<4:=by omega
  have hyt:Int.tmod r2 4=y:=by rw[← hy];exact aJb h02.1
  have hwy:IntKind.u8.wrap y=y:=by unfold IntKind.wrap;simp only[IntKind.bits,IntKind.signed];simp;omega
  have w3:=zz (show qN r c N D=aY N D k n by unfold qN;rw[hn,hk]);have v3:=zz (show qN y c N2 D2=aY N2 D2 k m by unfold qN;rw[hk,show y % 6=r2 % 4 by omega,hm]);have X2:=zz h;have Y2:=zz (DV.cut2 (y:=y) (z:=c) h2 (by omega) ⟨h0.2.2.1,h0.2.2.2⟩);have HN:=zz (show(1≤n∧n≤6)∧(1≤k∧k≤4)∧1≤m∧m≤4 by omega);obtain⟨iq,hiq,hzq,hsq,hbq⟩:=aGf fH;clear h h2 h0 h02 hn hk hm hy;obtain⟨w0,hw0⟩:=ex (((w.alloc (.cells #[.int .u8 r,.int .u8 c,.slice A N.length ka,.slice A' D.length ka'] 34)).alloc (.cells #[.int .u8 r2,.int .u8 c2,.slice B N2.length kb,.slice B' D2.length kb'] 34)).alloc (.cells #[.slice none 0 0,.slice none 0 0,.slice none 0 0,.slice none 0 0,.slice none 0 0,.bool false,.slice none 0 0,.bool false,.slice none 0 0] 30));have B0:=zz (rS hw0);have z0:=rR hw0;have Ldd:=rX hw0;have Ldc:=rW hw0;have Lso:=rT hw0;go_enter Tryz.func33,Tryz.ntmps33
  go_upto_region 1 with (fail)
  rw[← hw0];clear hw0;have a2:=cz4 Ldd;have i2:=cz4 Ldc;have m2:=fz4 Ldc;go_upto_region 2 with (fail)
  clear a2 i2 m2;obtain⟨w4,m0⟩:=ex (w0.setCell ⟨w.heap.size+1,1,none⟩ (.int .u8 c));rw[← m0];have T0:=iQ m0 Ldd (by omega);have U0:=iQ m0 Lso (by omega);have V0:CB w4 (w.heap.size+1) 34 #[.int .u8 r2,.int .u8 c,.slice B N2.length kb,.slice B' D2.length kb']:=by rw[m0];exact(aGj Ldc 1 (.int .u8 c))
  have q2:=zz (qM m0 B0.o (by omega));have P2:=xQ m0;clear m0;obtain⟨w5,n0⟩:=ex (w4.setCell ⟨w.heap.size+1,0,none⟩ (.int .u8 y));rw[← n0];have x0:=iQ n0 T0 (by omega);have t0:=iQ n0 U0 (by omega);have u0:CB w5 (w.heap.size+1) 34 #[.int .u8 y,.int .u8 c,.slice B N2.length kb,.slice B' D2.length kb']:=by rw[n0];exact(aGj V0 0 (.int .u8 y))
  have p0:=zz (qM n0 q2.o (by omega));have Q2:=xQ n0;clear n0;clear hyt hwy hy4;refine aFq [se 0 18 [] (.agg #[.int .u8 r,.int .u8 c,.slice A N.length ka,.slice A' D.length ka']),sf 1 19 [0] (fun fv fw=>∃ g o c,fv=.slice (some ⟨g,o,none⟩) n c∧NewMat w5.heap.size fw (.slice (some ⟨g,o,none⟩) n c) ((aY N D k n).map (List.map qx))),se 2 20 [] (.agg #[.int .u8 y,.int .u8 c,.slice B N2.length kb,.slice B' D2.length kb']),sf 3 21 [2] (fun fv fw=>∃ g o c,fv=.slice (some ⟨g,o,none⟩) m c∧NewMat w5.heap.size fw (.slice (some ⟨g,o,none⟩) m c) ((aY N2 D2 k m).map (List.map qx)))] 2 (SB x0 (SB u0 S0)) (MA (fun _ _ _ h hb=>let ⟨g,o,c,e,h⟩:=h;⟨g,o,c,e,NewMat.step h hb⟩) (MA (fun _ _ _ h hb=>let ⟨g,o,c,e,h⟩:=h;⟨g,o,c,e,NewMat.step h hb⟩) aFi)) ?_ ?_
  · intro xs a_ hA;simp only[SX,↓reduceIte,Nat.reduceEqDiff,Nat.reduceAdd] at hA⊢;subst hA;and_intros
    all_goals intro wk b_ z_
    all_goals try exact pl
    · intro f0;intros
      refine wo fun K hK=>?_;go_simp;(with_reducible refine(wL (X2.o.step (p0.o.trans (b_.o.mono p0.o.size))) w3.o (by have:=HN.o;omega)).mono ?_)
      rintro e wc6 ⟨C2,g6,o6,c6,rfl,h6⟩;refine hK _ _ ⟨.slice (some ⟨g6,o6,none⟩) n c6,by simp only[FL,f0] <;> kernel_rfl,C2,⟨g6,o6,c6,rfl,h6.weak (by omega)⟩⟩
    · intro f2;intros
      refine wo fun K hK=>?_;go_simp;(with_reducible refine(wL (Y2.o.step (p0.o.trans (b_.o.mono p0.o.size))) v3.o (by have:=HN.o;omega)).mono ?_)
      rintro e wc7 ⟨E2,g7,o7,c7,rfl,h7⟩;refine hK _ _ ⟨.slice (some ⟨g7,o7,none⟩) m c7,by simp only[FL,f2] <;> kernel_rfl,E2,⟨g7,o7,c7,rfl,h7.weak (by omega)⟩⟩
  · intro xs y3 hbf _;simp only[SY]
    have B9:=hbf;have z9:=B9.o.size;have v0:=tr p0 B9;clear hbf;generalize xs 1=x1,xs 3=x3;rintro f1 f3;obtain⟨ga,oa,ca,rfl,h9⟩:=f1;have Hma:=zz h9;clear h9;obtain⟨gb,ob,cb,rfl,h9⟩:=f3;have Hmb:=zz h9;clear h9;refine EN 4 rfl fun K hK=>?_
    go_simp;refine hK _ _ ?_;clear hK K;(try simp only[PT])
    refine EN 5 rfl fun K hK=>?_
    go_simp;refine hK _ _ ?_;clear hK K;(try simp only[PT])
    refine ED ?_;(try simp only[Exit.then])
    obtain⟨A0,c0,hg0,hc0,-⟩:=VM.head0 (k:=k) (NewMat.vm Hma.o) (eH k n) (by rw[bY];have:=HN.o;omega);have z3:=zz hg0;have A3:=zz hc0;clear hg0 hc0;have hn0:(0:Int)<(n:Int):=by have:=HN.o;omega
    have hn0':0<n:=by have:=HN.o;omega
    go_upto_region 4 with (fail)
    have j0:=aEd x0 B9.o;refine aFq [se 0 22 [] (.agg #[.int .u8 r,.int .u8 c,.slice A N.length ka,.slice A' D.length ka']),se 1 23 [] (.slice (some ⟨ga,oa,none⟩) n ca),se 2 24 [1] (.pointer (some ⟨ga,oa,none⟩)),se 3 25 [2] (.slice A0 k c0),se 4 26 [3] (.int .i64 (k:Int)),sf 5 27 [0,4] (fun fv fw=>∃ A c,fv=.slice A k c∧OAQ y3.heap.size fw (.slice A k c) (bE N D 7 k)),se 6 28 [5] (.int .i64 (k:Int)),se 7 29 [] (.int .i64 0)] 0 (SB j0 S0) (MA (fun _ _ _ h hb=>let ⟨A,c,e,h⟩:=h;⟨A,c,e,OAQ.step h hb⟩) aFi) ?_ ?_
    · intro xs a_ hA;simp only[SX,↓reduceIte,Nat.reduceEqDiff,Nat.reduceAdd] at hA⊢;subst hA;and_intros
      all_goals intro wk b_ z_
      any_goals (intro f2;intros;(refine aDz (i:=3) (o:=_) rfl (fun K hK=>?_));have qv0:=(aGn b_.o (p:=⟨ga,oa,none⟩) z3.o).trans A3.o;go_simp;(refine hK _ _ ⟨_,by simp only[FL,f2] <;> kernel_rfl,aDy _ _,rfl⟩))
      all_goals try exact pl
      · intro f0 f4;intros
        refine wo fun K hK=>?_;go_simp;(with_reducible refine(tC (n:=k) (f:=7) (X2.o.step (v0.o.trans (b_.o.mono v0.o.size))) (by decide) (by have:=HN.o;omega) (by decide)).mono ?_)
        rintro e wc12 ⟨s2,A12,c12,rfl,h12⟩;refine hK _ _ ⟨.slice A12 k c12,by simp only[FL,f0,f4] <;> kernel_rfl,s2,⟨A12,c12,rfl,h12.weak (by omega)⟩⟩
      · intro f5;intros
        refine wo fun K hK=>?_;obtain⟨A9,c9,hu,-⟩:=f5;rw[hu];go_simp;refine hK _ _ ⟨_,by simp only[FL,hu] <;> kernel_rfl,aDy _ _,rfl⟩
    · intro xs S2 hbf _;simp only[SY]
      have B14:=hbf;have z14:=B14.o.size;have t2:=tr v0 B14;clear hbf;generalize xs 5=x5;rintro f5;obtain⟨A7,c7,rfl,h9⟩:=f5;have Hl7:=zz h9;clear h9;refine ED ?_;(try simp only[Exit.then])
      clear hn0 hn0';have Z2:=zz (show(k:Int)≤4 by have:=HN.o;omega);go_wp2;go_loopw [7,29] (fun ov iv wr=>∃ j:Nat,j≤k∧iv=.int .i64 j∧Hi (OA 4 EQ 28 wr S2.heap.size ov ((dY N D 7 j).map qx))∧Hi (Below S2.heap.size S2 wr)) (fun _ iv _=>k-(intOf iv).toNat)
      case atStart=>exact⟨0,aEy _,rfl,zz OA.nil,zz (aDy _ _)⟩
      case round=>
        obtain⟨j,hj,rfl,HO,HW⟩:=hrel;have zr:=HW.o.size;have a3:=tr t2 HW;by_cases hlt:j<k
        case pos=>
          have C0:=st OAQ.step Hl7 HW;obtain⟨g,off,xA,xl,xc,xB,xu,xd,hAe,hg,hE,hx⟩:=aKm (show QS _ _ _ ((bE N D 7 k).map qx) from OAQ.vl C0.o) (j:=j) (by rw[aEb,bQ];exact hlt);subst hAe;have hqj:((bE N D 7 k).map qx)[j]'(by rw[aEb,bQ];exact hlt)=qx (cQ N D (7+j)):=by simp[bE]
          rw[hqj] at hE hx;have HX:=zz (QR.qv hx);clear hx hg hqj;have hji:(0:Int)≤(j:Int)∧(j:Int)<(k:Int):=by omega
          have hlt':(j:Int)<(k:Int):=by omega
          have R2:=Z2.o;have W0:=ez4 hE;go_upto_region 7 with (fail)
          clear W0;obtain⟨w18,q0⟩:=ex (wr.alloc (.cells #[.bool (qx (cQ N D (7+j))).1.1,.slice xA xl xc,.bool (qx (cQ N D (7+j))).2.1,.slice xB xu xd] 28));rw[← q0];have d0:=cL q0;have za18:=cJ q0;have B19:=zz (cK q0);have z19:=B19.o.size;have u2:=tr a3 B19;clear q0;have a1:=cz4 d0;have h1:=fz4 d0;go_upto_region 8 with (fail)
          clear a1 h1;have P3:=tr B14 HW;have W3:=tr P3 B19;have D0:=aEd j0 W3.o;have Y3:=tr B9 B14;have X3:=tr Y3 HW;have Z3:=tr X3 B19;have E0:=aEd u0 Z3.o;have F0:=aEd t0 Z3.o;obtain⟨w31,g0⟩:=ex (w18.setCell ⟨wr.heap.size,0,none⟩ (.bool false));rw[← g0];have F2:=iQ g0 D0 (by omega);have G2:=iQ g0 E0 (by omega);have H2:=iQ g0 F0 (by omega);have k0:CB w31 (wr.heap.size) 28 #[.bool false,.slice xA xl xc,.bool (qx (cQ N D (7+j))).2.1,.slice xB xu xd]:=by rw[g0];exact(aGj d0 0 (.bool false))
          have M2:=zz (qM g0 u2.o (by omega));have h3:=zz (qM g0 B19.o (aEa _));have w2:=xQ g0;clear g0;clear w2;have B3:=zz (QV.abs (aHf HX.o h3.o));have C3:=zz (HO.o.step aEf h3.o);have u3:=tr HW h3;have y0:Below w31.heap.size w31 (w31.alloc (.cells #[.bool false,.slice xA xl xc,.bool (qx (cQ N D (7+j))).2.1,.slice xB xu xd] 28)):=aB (aDy _ _) _;have D3:=zz (C3.o.step aEf y0);have E3:=zz ((aHf B3.o y0).qr);have Z1:=zz (u3.o.trans (y0.mono u3.o.size));clear y0;have l1:=cz4 k0;go_wp2_with (at_builtin;go_loud (refine aO rfl _ _ _ rfl S2.heap.size 28 iq _ 64 Tryz.underlying23 hiq hzq hsq hbq rfl (by decide) (by decide) aEf aIz D3.o rfl ⟨w31.heap.size,0,none⟩ 1 [qx (mO (cQ N D (7+j)))] rfl Nat.one_pos [.bool false,.slice xA xl xc,.bool (qx (cQ N D (7+j))).2.1,.slice xB xu xd] (aLt rfl ⟨_,_,_,_,rfl,E3.o⟩) (iI _ _ [_,_,_,_]) (by intro u hu;simp at hu;rcases hu with rfl | rfl | rfl | rfl <;> rfl) (by simp only[aEb,eM,aEl,aEm,maxLen];have:=Z2.o;omega) (by simp only[aEb,eM,aEl,aEm];have:=Z2.o;omega) (by have:=Z1.o.size;simpa using this) ?_))
          clear l1;intro v' w' hoa hb hs' hg' hat;have F3:Hi (OA 4 EQ 28 w' S2.heap.size v' ((dY N D 7 (j+1)).map qx)):=zz (by rw[zV,aGc];exact hoa);have I2:=zz (Z1.o.trans hb);clear hoa hb hs' hg' hat;go_wp2;go_roundw
          case rel=>exact⟨j+1,hlt,by go_num,F3,I2⟩
          case measure=>exact ms
        case neg=>
          obtain rfl:k=j:=by omega
          have hlt':¬ (k:Int)<(k:Int):=by omega
          obtain⟨AD,cD,rfl,hD9⟩:=VL.open (n:=k) (show VL _ _ _ (dY N D 7 k) from HO.o.sl) eM;have G3:=zz (show OAQ S2.heap.size wr (.slice AD k cD) (dY N D 7 k) from HO.o);clear hD9 HO;have M3:=tr B9 B14;have N3:=tr M3 HW;have e0:=aEd u0 N3.o;have q1:=cz4 e0;go_wp2_with fail
          refine(nx a3 (lL (n:=1) (f:=5) (Y2.o.step a3.o) (by decide) (by decide) (by decide))).mono ?_;rintro e w33 ⟨⟨B38,z38,x2⟩,A5,c5,rfl,h5⟩;clear q1;obtain⟨g5,o5,xA,xl,xc,xB,xu,xd,rfl,hE,hx⟩:=VL.elem0 (q:=cQ N2 D2 5) h5;clear h5;have H3:=zz (QR.qv hx);clear hx;have u1:=ez4 hE;go_upto_region 11 with (fail)
          clear u1;obtain⟨w41,s0⟩:=ex (w33.alloc (.cells #[.bool (qx (cQ N2 D2 5)).1.1,.slice xA xl xc,.bool (qx (cQ N2 D2 5)).2.1,.slice xB xu xd] 28));rw[← s0];have b0:=cL s0;have za41:=cJ s0;have B42:=zz (cK s0);have z42:=B42.o.size;have y2:=tr x2 B42;clear s0;have z1:=cz4 b0;have D1:=fz4 b0;go_upto_region 12 with (fail)
          clear z1 D1;have Q3:=tr B14 HW;have P4:=tr Q3 B38;have W4:=tr P4 B42;have H0:=aEd j0 W4.o;have Y4:=tr B38 B42;have I0:=aEd e0 Y4.o;have X4:=tr N3 B38;have Z4:=tr X4 B42;have J0:=aEd t0 Z4.o;obtain⟨w55,i0⟩:=ex (w41.setCell ⟨w33.heap.size,0,none⟩ (.bool false));rw[← i0];have J2:=iQ i0 H0 (by omega);have K2:=iQ i0 I0 (by omega);have L2:=iQ i0 J0 (by omega);have K0:CB w55 (w33.heap.size) 28 #[.bool false,.slice xA xl xc,.bool (qx (cQ N2 D2 5)).2.1,.slice xB xu xd]:=by rw[i0];exact(aGj b0 0 (.bool false))
          have l0:=zz (qM i0 y2.o (by omega));have W2:=zz (qM i0 B42.o (aEa _));have O2:=xQ i0;clear i0;have L0:=st aHf H3 W2;have I3:=zz (QV.abs L0.o);have M4:=tr P4 W2;have M0:=aEd j0 M4.o;have N4:=tr B38 W2;have N0:=aEd e0 N4.o;refine aFq [se 0 46 [] (.slice (some ⟨ga,oa,none⟩) n ca),se 1 47 [] (.slice (some ⟨gb,ob,none⟩) m cb),se 2 48 [] (.agg #[.int .u8 r,.int .u8 c,.slice A N.length ka,.slice A' D.length ka']),se 3 49 [] (.slice (some ⟨ga,oa,none⟩) n ca),se 4 50 [3] (.int .i64 (n:Int)),sf 5 51 [2,4] (fun fv fw=>∃ A c,fv=.slice A n c∧OAQ w55.heap.size fw (.slice A n c) (bE N D 11 n)),se 6 52 [] (.slice AD k cD),se 7 53 [] (.agg #[.int .u8 y,.int .u8 c,.slice B N2.length kb,.slice B' D2.length kb']),se 8 54 [] (.slice (some ⟨gb,ob,none⟩) m cb),se 9 55 [8] (.int .i64 (m:Int)),sf 10 56 [7,9] (fun fv fw=>∃ A c,fv=.slice A m c∧OAQ w55.heap.size fw (.slice A m c) (bE N2 D2 3 m)),se 11 57 [] (.agg #[.bool false,.slice xA xl xc,.bool (qx (cQ N2 D2 5)).2.1,.slice xB xu xd])] 2 (SB M0 (SB N0 (SB K0 S0))) (MA (fun _ _ _ h hb=>let ⟨A,c,e,h⟩:=h;⟨A,c,e,OAQ.step h hb⟩) (MA (fun _ _ _ h hb=>let ⟨A,c,e,h⟩:=h;⟨A,c,e,OAQ.step h hb⟩) aFi)) ?_ ?_
          · intro xs a_ hA;simp only[SX,↓reduceIte,Nat.reduceEqDiff,Nat.reduceAdd] at hA⊢;subst hA;and_intros
            all_goals intro wk b_ z_
            all_goals try exact pl
            · intro f2 f4;intros
              refine wo fun K hK=>?_;go_simp;(with_reducible refine(tC (n:=n) (f:=11) (X2.o.step (l0.o.trans (b_.o.mono l0.o.size))) (by decide) (by have:=HN.o;omega) (by decide)).mono ?_)
              rintro e wc61 ⟨z2,A61,c61,rfl,h61⟩;refine hK _ _ ⟨.slice A61 n c61,by simp only[FL,f2,f4] <;> kernel_rfl,z2,⟨A61,c61,rfl,h61.weak (by omega)⟩⟩
            · intro f7 f9;intros
              refine wo fun K hK=>?_;go_simp;(with_reducible refine(tC (n:=m) (f:=3) (Y2.o.step (l0.o.trans (b_.o.mono l0.o.size))) (by decide) (by have:=HN.o;omega) (by decide)).mono ?_)
              rintro e wc62 ⟨A2,A62,c62,rfl,h62⟩;refine hK _ _ ⟨.slice A62 m c62,by simp only[FL,f7,f9] <;> kernel_rfl,A2,⟨A62,c62,rfl,h62.weak (by omega)⟩⟩
          · intro xs V2 hbf _;simp only[SY]
            have B64:=hbf;have z64:=B64.o.size;have B2:=tr l0 B64;clear hbf;generalize xs 5=x5,xs 10=x10;rintro f5 f10;obtain⟨A11,c11,rfl,h9⟩:=f5;have Hl11:=zz h9;clear h9;obtain⟨A13,c13,rfl,h9⟩:=f10;have Hl3:=zz h9;clear h9;refine EN 12 rfl fun K hK=>?_
            go_simp;refine hK _ _ ?_;clear hK K;(try simp only[PT])
            have Q4:=tr X4 W2;have P5:=tr Q4 B64;have a0:=aEd t0 P5.o;have H1:=a0.cell 0 rfl;have I1:=a0.cell 1 rfl;have J1:=a0.cell 2 rfl;have K1:=a0.cell 3 rfl;have L1:=a0.cell 4 rfl;have M1:=a0.cell 5 rfl;have N1:=a0.cell 6 rfl;have O1:=a0.cell 7 rfl;have P1:=a0.cell 8 rfl;have o3:=a0.lt;have Q1:=a0.frozen 0;have R1:=a0.frozen 1;have S1:=a0.frozen 2;have T1:=a0.frozen 3;have U1:=a0.frozen 4;have V1:=a0.frozen 5;have W1:=a0.frozen 6;have X1:=a0.frozen 7;have Y1:=a0.frozen 8;have p3:=a0.lt;refine EN 13 rfl fun K hK=>?_
            go_simp;refine hK _ _ ?_;clear hK K;(try simp only[PT])
            clear H1 I1 J1 K1 L1 M1 N1 O1 P1 o3 Q1 R1 S1 T1 U1 V1 W1 X1 Y1 p3;refine ED ?_;(try simp only[Exit.then])
            have W5:=tr M4 B64;have O0:=st NewMat.step Hma W5;have P0:=st NewMat.step Hmb W5;have Y5:=tr N4 B64;have Q0:=st OAQ.step G3 Y5;obtain⟨wS,hS⟩:=ex (aN V2 (w.heap.size+2) 0 [.slice (some ⟨ga,oa,none⟩) n ca,.slice (some ⟨gb,ob,none⟩) m cb,.slice A11 n c11,.slice AD k cD,.slice A13 m c13,.bool false,.slice xA xl xc,.bool (qx (cQ N2 D2 5)).2.1,.slice xB xu xd]);rw[show(((((((((V2.setCell ⟨w.heap.size+2,0,none⟩ (.slice (some ⟨ga,oa,none⟩) n ca)).setCell ⟨w.heap.size+2,1,none⟩ (.slice (some ⟨gb,ob,none⟩) m cb)).setCell ⟨w.heap.size+2,2,none⟩ (.slice A11 n c11)).setCell ⟨w.heap.size+2,3,none⟩ (.slice AD k cD)).setCell ⟨w.heap.size+2,4,none⟩ (.slice A13 m c13)).setCell ⟨w.heap.size+2,5,none⟩ (.bool false)).setCell ⟨w.heap.size+2,6,none⟩ (.slice xA xl xc)).setCell ⟨w.heap.size+2,7,none⟩ (.bool (qx (cQ N2 D2 5)).2.1)).setCell ⟨w.heap.size+2,8,none⟩ (.slice xB xu xd))=wS from hS.symm];obtain⟨hC9,hs9,hf9,hz9⟩:=lT hS (cs:=[.slice none 0 0,.slice none 0 0,.slice none 0 0,.slice none 0 0,.slice none 0 0,.bool false,.slice none 0 0,.bool false,.slice none 0 0]) a0 rfl (by decide);have J3:=zz (show Below w.heap.size w wS by rw[hS];exact bS (by omega) B2.o);have K3:=zz hC9;have hsz9:V2.heap.size≤wS.heap.size:=aGo hz9.symm;clear hS;obtain⟨hs0,o0⟩:=NewMat.omn O0.o;have e1:=(OMN.far o0 (by omega) hf9 hs9).weak (B':=w.heap.size) (by omega)
            obtain⟨hs1,o1⟩:=NewMat.omn P0.o;have e2:=(OMN.far o1 (by omega) hf9 hs9).weak (B':=w.heap.size) (by omega);have e3:=(OA.far (show OA 4 EQ 28 _ _ _ _ from Hl11.o) aIz (by omega) hf9 hs9).weak (B':=w.heap.size) (by omega);have e4:=(OA.far (show OA 4 EQ 28 _ _ _ _ from Q0.o) aIz (by omega) hf9 hs9).weak (B':=w.heap.size) (by omega);have e5:=(OA.far (show OA 4 EQ 28 _ _ _ _ from Hl3.o) aIz (by omega) hf9 hs9).weak (B':=w.heap.size) (by omega);have R0:=st aHf I3 B64;have e6:=QR.soft (QV.qr R0.o) hs9;have E16:=zz (aEn e1 (aEn e2 (aEn e3 (aEn e4 (aEn e5 e6)))));clear e1 e2 e3 e4 e5 e6 o0 o1 hs9 hf9 hz9 hsz9 hC9;go_wp2;exact aFv (aKc rfl _ _ (w.heap.size+2) _ #[.slice (some ⟨ga,oa,none⟩) n ca,.slice (some ⟨gb,ob,none⟩) m cb,.slice A11 n c11,.slice AD k cD,.slice A13 m c13,.bool false,.slice xA xl xc,.bool (qx (cQ N2 D2 5)).2.1,.slice xB xu xd] (0,0) _ rfl K3.o Tryz.underlying30 rfl (by kernel_rfl)) rfl ⟨J3.o,_,rfl,_,_,_,_,_,_,_,_,_,_,_,rfl,E16.o.1,E16.o.2.1,E16.o.2.2.1,E16.o.2.2.2.1,E16.o.2.2.2.2.1,_,_,_,_,rfl,E16.o.2.2.2.2.2⟩
def RWX (w:World) (v:Value):Prop:=∃ (a0 b0 c0 d0 e0 qA qB:Option Addr) (f0 g0 h0 i0 j0 k0 l0 m0 n0 o0 ql qc qu qd:Nat) (q0 q2:Bool) (A C:List (List QX)) (b d f:List QX) (l:QX),v=.agg #[.slice a0 f0 g0,.slice b0 h0 i0,.slice c0 j0 k0,.slice d0 l0 m0,.slice e0 n0 o0,.bool q0,.slice qA ql qc,.bool q2,.slice qB qu qd]∧RAWN w 0 v A C b d f l
theorem RAWN.rwx {b:List QX} (h:RAWN w B v A C b d f l):RWX w v:=by
  have h':=h.weak (aEy B);obtain⟨s0,s1,s2,s3,s4,c0,c1,c2,c3,h0,h1,rfl,k1,k2,k3,k4,k5,k6⟩:=h;obtain⟨a0,b0,rfl,-⟩:=aHi k1.sl;obtain⟨a1,b1,rfl,-⟩:=aHi k2.sl;obtain⟨a2,b2,rfl,-⟩:=aHi k3.sl;obtain⟨a3,b3,rfl,-⟩:=aHi k4.sl;obtain⟨a4,b4,rfl,-⟩:=aHi k5.sl;obtain⟨xA,xl,xc,xB,xu,xd,he,-⟩:=QX.cells k6;injection he with q0 he;injection he with q1 he;injection he with q2 he;injection he with q3 he
  subst q0;subst q1;subst q2;subst q3;exact⟨a0,a1,a2,a3,a4,xA,xB,_,b0,_,b1,_,b2,_,b3,_,b4,xl,xc,xu,xd,_,_,A,C,b,d,f,l,rfl,h'⟩
theorem vY (h:Go.Proofs.YtencnahjgbdeoaaGreatDoor.Soft w w'):Go.Proofs.YtencnahjgbdeoaaGreatDoor.Soft w w'.drew:=h
theorem EP (h:∀ g,g≠b→w'.heap[g]?=w.heap[g]?):∀ g,g≠b→w'.drew.heap[g]?=w.heap[g]?:=h
theorem RAWN.parts {s0 s1 s2 s3 s4:Value} {b:List QX} (h:RAWN w B (.agg #[s0,s1,s2,s3,s4,c0,c1,c2,c3]) A C b d f l):(∃ h0,OMN w B s0 h0 A)∧(∃ h1,OMN w B s1 h1 C)∧OA 4 EQ 28 w B s2 b∧OA 4 EQ 28 w B s3 d∧OA 4 EQ 28 w B s4 f∧EQ w w.heap.size [c0,c1,c2,c3] l:=by
  obtain⟨t0,t1,t2,t3,t4,e0,e1,e2,e3,h0,h1,e,k1,k2,k3,k4,k5,k6⟩:=h;injection e with e;simp at e
  obtain⟨rfl,rfl,rfl,rfl,rfl,rfl,rfl,rfl,rfl⟩:=e;exact⟨⟨h0,k1⟩,⟨h1,k2⟩,k3,k4,k5,k6⟩
theorem RWX.step (h:RWX w v) (hb:Below w.heap.size w w'):RWX w' v:=by
  obtain⟨a0,b0,c0,d0,e0,qA,qB,f0,g0,h0,i0,j0,k0,l0,m0,n0,o0,ql,qc,qu,qd,q0,q2,A,C,b,d,f,l,e,h⟩:=h;exact⟨a0,b0,c0,d0,e0,qA,qB,f0,g0,h0,i0,j0,k0,l0,m0,n0,o0,ql,qc,qu,qd,q0,q2,A,C,b,d,f,l,e,h.step hb⟩
theorem RAWV.step {b:List QX} (h:RAWV w w.heap.size v A C b d f l) (hb:Below w.heap.size w w'):RAWV w' w'.heap.size v A C b d f l:=by
  obtain⟨s0,s1,s2,s3,s4,c0,c1,c2,c3,e,k1,k2,k3,k4,k5,d0,d1,d2,d3,e2,k6⟩:=h;exact⟨s0,s1,s2,s3,s4,c0,c1,c2,c3,e,aHo k1 (aFl aEf) hb,aHo k2 (aFl aEf) hb,aHo k3 aEf hb,aHo k4 aEf hb,aHo k5 aEf hb,d0,d1,d2,d3,e2,aHz k6 hb⟩
theorem OA.farT {α:Type} {E:Elem α} {T T':TypeId} {l:List α} (h:OA k E T w B v l) (hE:E.Soft) (hC:CB w b T' cs) (hne:T≠T') (hh:∀ g,g≠b→w'.heap[g]?=w.heap[g]?) (hs:Go.Proofs.YtencnahjgbdeoaaGreatDoor.Soft w w'):OA k E T w' B v l:=by
  rcases h with h | ⟨g,cap,e1,h2,h3,arr,k1,k2,k3,k4⟩
  · exact .inl h
  · have hgb:g≠b:=fun e=>by
      subst e;unfold CB at k1 hC;rw[k1] at hC;injection hC with hC;injection hC with _ hC
      exact hne hC
    refine .inr ⟨g,cap,e1,h2,h3,arr,(hh g hgb).trans k1,k2,k3,fun j hj=>?_⟩;obtain⟨cs,q1,q2,q3⟩:=k4 j hj;exact⟨cs,q1,q2,hE q3 hs⟩
theorem OMN.farT (h:OMN w B v hs M) (hC:CB w b 30 cs) (hh:∀ g,g≠b→w'.heap[g]?=w.heap[g]?) (hsf:Go.Proofs.YtencnahjgbdeoaaGreatDoor.Soft w w'):OMN w' B v hs M:=
  ⟨h.hdr.farT aLj hC (by decide) hh hsf,h.len,fun i hi=>(h.rows i hi).farT aIz hC (by decide) hh hsf,h.apart⟩
theorem RAWN.farT {bb:List QX} (h:RAWN w B v A C bb d f l) (hC:CB w b 30 cs) (hh:∀ i,i≠b→w'.heap[i]?=w.heap[i]?) (hs:Go.Proofs.YtencnahjgbdeoaaGreatDoor.Soft w w'):RAWN w' B v A C bb d f l:=by
  obtain⟨s0,s1,s2,s3,s4,c0,c1,c2,c3,h0,h1,e,k1,k2,k3,k4,k5,d0,d1,d2,d3,e2,k6⟩:=h;exact⟨s0,s1,s2,s3,s4,c0,c1,c2,c3,h0,h1,e,k1.farT hC hh hs,k2.farT hC hh hs,k3.farT aIz hC (by decide) hh hs,k4.farT aIz hC (by decide) hh hs,k5.farT aIz hC (by decide) hh hs,d0,d1,d2,d3,e2,QR.soft k6 hs⟩
abbrev aJf:=@RAWN.farT
theorem RWX.farT (h:RWX w v) (hC:CB w b 30 cs) (hh:∀ i,i≠b→w'.heap[i]?=w.heap[i]?) (hs:Go.Proofs.YtencnahjgbdeoaaGreatDoor.Soft w w'):RWX w' v:=by
  obtain⟨a0,b0,c0,d0,e0,qA,qB,f0,g0,h0,i0,j0,k0,l0,m0,n0,o0,ql,qc,qu,qd,q0,q2,A,C,bb,d,f,l,e,h⟩:=h;exact⟨a0,b0,c0,d0,e0,qA,qB,f0,g0,h0,i0,j0,k0,l0,m0,n0,o0,ql,qc,qu,qd,q0,q2,A,C,bb,d,f,l,e,h.farT hC hh hs⟩
theorem aDa (w:World) (vx:Value) (A C:List (List QX)) (b d f:List QX) (l:QX) (hx:RAWV w w.heap.size vx A C b d f l) (v:Value) (r c:Int) (N D:List Int) (h:DV w w.heap.size v r c N D) (v2:Value) (r2 c2:Int) (N2 D2:List Int) (h2:DV w w.heap.size v2 r2 c2 N2 D2) :
    CV 8 #[vx,v,v2] w fun e w'=>∃ (g:Nat) (x y z u:List Value),e=.returned (.slice (some ⟨g,0,none⟩) 4 4)∧(RWX w' (.agg x.toArray)∧RWX w' (.agg y.toArray)∧RWX w' (.agg z.toArray)∧RWX w' (.agg u.toArray))∧CB w' g 30 (x++y++z++u).toArray:=by
  have o6:=zz hx;obtain⟨s0,s1,s2,s3,s4,c0,c1,c2',c3,rfl,hA,hC,hb,hd,hf,hl⟩:=hx;obtain⟨g2,i2,rfl,-⟩:=aHi hA;obtain⟨j2,k2,rfl,-⟩:=aHi hC;obtain⟨l2,m2,rfl,-⟩:=aHi hb;obtain⟨n2,o2,rfl,-⟩:=aHi hd;obtain⟨p2,u2,rfl,-⟩:=aHi hf;generalize hn0:A.length=w2 at *
  generalize hn1:C.length=y2 at *
  generalize hn2:b.length=z2 at *
  generalize hn3:d.length=A2 at *
  generalize hn4:f.length=B2 at *
  obtain⟨qA,ql,qc,qB,qu,qd,he,-⟩:=QX.cells hl;injection he with q0 he;injection he with q1 he;injection he with q2 he;injection he with q3 he;subst q0;subst q1;subst q2;subst q3;clear hl hA hC hb hd hf he hn0 hn1 hn2 hn3 hn4
  obtain⟨P,pa,P',pa',rfl,h0⟩:=h.parts;obtain⟨R,ra,R',ra',rfl,h02⟩:=h2.parts;obtain⟨n,hn⟩:∃ n:Nat,1+(r % 6).toNat=n:=⟨_,rfl⟩;obtain⟨k,hk⟩:∃ k:Nat,1+(c % 4).toNat=k:=⟨_,rfl⟩;obtain⟨m,hm⟩:∃ m:Nat,1+(r2 % 4).toNat=m:=⟨_,rfl⟩;have I5:=zz (aEn hn (aEn hk hm));have P5:=zz h;have Q5:=zz h2;clear h h2 h0 h02 hn hk hm;obtain⟨w0,hw0⟩:=ex (((w.alloc (.cells #[.slice g2 w2 i2,.slice j2 y2 k2,.slice l2 z2 m2,.slice n2 A2 o2,.slice p2 B2 u2,.bool l.1.1,.slice qA ql qc,.bool l.2.1,.slice qB qu qd] 30)).alloc (.cells #[.int .u8 r,.int .u8 c,.slice P N.length pa,.slice P' D.length pa'] 34)).alloc (.cells #[.int .u8 r2,.int .u8 c2,.slice R N2.length ra,.slice R' D2.length ra'] 34));have B0:=zz (rS hw0);have z0:=rR hw0;have Lxb:=rX hw0;have Ldd:=rW hw0;have Ldc:=rT hw0;go_enter Tryz.func8,Tryz.ntmps8
  go_upto_region 1 with (fail)
  rw[← hw0];clear hw0;refine aMe [se 0 10 [] (.agg #[.slice g2 w2 i2,.slice j2 y2 k2,.slice l2 z2 m2,.slice n2 A2 o2,.slice p2 B2 u2,.bool l.1.1,.slice qA ql qc,.bool l.2.1,.slice qB qu qd]),sf 1 11 [0] (fun fv fw=>RWX fw fv),se 2 12 [] (.agg #[.int .u8 r,.int .u8 c,.slice P N.length pa,.slice P' D.length pa']),se 3 13 [] (.agg #[.int .u8 r2,.int .u8 c2,.slice R N2.length ra,.slice R' D2.length ra']),sf 4 14 [2,3] (fun fv fw=>RWX fw fv),sf 5 7 [] (fun fv fw=>∃ b,fv=.pointer (some ⟨b,0,none⟩)∧CB fw b 30 #[.slice none 0 0,.slice none 0 0,.slice none 0 0,.slice none 0 0,.slice none 0 0,.bool false,.slice none 0 0,.bool false,.slice none 0 0])] [] [5] 2 (SB Lxb (SB Ldd (SB Ldc S0))) (MA (fun _ _ _ h hb=>h.step hb) (MA (fun _ _ _ h hb=>h.step hb) (MA (fun _ _ _ h hb=>let ⟨b,e,h⟩:=h;⟨b,e,h.step hb⟩) aFi))) ?_ ?_ ?_
  · intro xs a_ hA;simp only[SX,↓reduceIte,Nat.reduceEqDiff,Nat.reduceAdd] at hA⊢;subst hA;and_intros
    all_goals intro wk b_ z_
    all_goals try exact pn
    · intro f0;intros
      refine wo fun K hK=>?_;go_simp;have P6:=tr B0 b_;(with_reducible refine(VT _ _ _ _ _ _ _ _ (o6.o.step P6.o)).mono ?_)
      rintro e wc2 ⟨z5,v2,rfl,h2⟩;refine hK _ _ ⟨v2,by simp only[FL,f0] <;> kernel_rfl,z5,h2.rwx,nF⟩
    · intro f2 f3;intros
      refine wo fun K hK=>?_;go_simp;have W6:=tr B0 b_;(with_reducible refine(nE _ _ r c N D (P5.o.step W6.o) _ r2 c2 N2 D2 (Q5.o.step W6.o) n k m I5.o.1 I5.o.2.1 I5.o.2.2).mono ?_)
      rintro e wc4 ⟨A5,v4,rfl,h4⟩;refine hK _ _ ⟨v4,by simp only[FL,f2,f3] <;> kernel_rfl,A5,h4.rwx,nF⟩
    · intros
      refine wo fun K hK=>?_;go_simp;refine hK _ _ ⟨.pointer (some ⟨wk.heap.size,0,none⟩),by kernel_rfl,(aDy _ _).alloc (aEa _) _,⟨_,rfl,aHl _ _ _⟩,fun _=>⟨_,rfl,aEa _,by simp⟩⟩
  · exact fun _ _ _=>aFi
  · intro xs j6 hbf _ hn hd;simp only[SY]
    have n5:=hn 5 (by decide);clear hn hd;have B6:=hbf;have z6:=B6.o.size;have B5:=tr B0 B6;clear hbf;generalize xs 1=x1,xs 4=x4,xs 5=x5 at *
    rintro f1 f4 f5;obtain⟨O0,a0,k0,n0,e0,xqA,xqB,P0,Q0,b0,d0,l0,m0,o0,p0,g0,i0,xql,xqc,xqu,xqd,xq0,xq2,xA,xC,xb,xd,xf,xl,rfl,hrn⟩:=f1;have Hx:=zz hrn;clear hrn;obtain⟨R0,T0,U0,V0,W0,yqA,yqB,X0,Y0,Z0,a1,b1,d1,e1,g1,h1,i1,yql,yqc,yqu,yqd,yq0,yq2,yA,yC,yb,yd,yf,yl,rfl,hrn⟩:=f4;have Hy:=zz hrn;clear hrn;obtain⟨G5,rfl,O5⟩:=f5;have M5:=zz (show w0.heap.size≤G5 by obtain⟨b',e,h,-⟩:=n5;injection e with e;injection e with e;injection e with e _ _;omega);clear n5;have k6:=O5.lt;have l6:=M5.o;have j0:=aEd Lxb B6.o;have M2:=j0.cell 0 rfl;have O2:=j0.cell 1 rfl;have P2:=j0.cell 2 rfl;have Q2:=j0.cell 3 rfl;have R2:=j0.cell 4 rfl;have S2:=j0.cell 5 rfl;have T2:=j0.cell 6 rfl;have U2:=j0.cell 7 rfl;have V2:=j0.cell 8 rfl;have R5:=j0.lt;have W2:=j0.frozen 0;have X2:=j0.frozen 1;have Y2:=j0.frozen 2;have Z2:=j0.frozen 3;have a3:=j0.frozen 4;have b3:=j0.frozen 5;have d3:=j0.frozen 6;have e3:=j0.frozen 7;have g3:=j0.frozen 8;have S5:=j0.lt;refine EN 6 rfl fun K hK=>?_
    go_simp;refine hK _ _ ?_;clear hK K;(try simp only[PT])
    clear M2 O2 P2 Q2 R2 S2 T2 U2 V2 R5 W2 X2 Y2 Z2 a3 b3 d3 e3 g3 S5;have G2:=aEd Ldd B6.o;have H2:=aEd Ldc B6.o;obtain⟨wS15,hS15⟩:∃ wS:World,wS=aN j6 (w.heap.size) 0 [.slice O0 P0 Q0,.slice a0 b0 d0,.slice k0 l0 m0,.slice n0 o0 p0,.slice e0 g0 i0,.bool xq0,.slice xqA xql xqc,.bool xq2,.slice xqB xqu xqd]:=⟨_,rfl⟩;rw[show(((((((((j6.setCell ⟨w.heap.size,0,none⟩ (.slice O0 P0 Q0)).setCell ⟨w.heap.size,1,none⟩ (.slice a0 b0 d0)).setCell ⟨w.heap.size,2,none⟩ (.slice k0 l0 m0)).setCell ⟨w.heap.size,3,none⟩ (.slice n0 o0 p0)).setCell ⟨w.heap.size,4,none⟩ (.slice e0 g0 i0)).setCell ⟨w.heap.size,5,none⟩ (.bool xq0)).setCell ⟨w.heap.size,6,none⟩ (.slice xqA xql xqc)).setCell ⟨w.heap.size,7,none⟩ (.bool xq2)).setCell ⟨w.heap.size,8,none⟩ (.slice xqB xqu xqd))=wS15 from hS15.symm];obtain⟨hC15,hs15,hf15,hz15⟩:=lT hS15 (cs:=[.slice g2 w2 i2,.slice j2 y2 k2,.slice l2 z2 m2,.slice n2 A2 o2,.slice p2 B2 u2,.bool l.1.1,.slice qA ql qc,.bool l.2.1,.slice qB qu qd]) j0 rfl (by simp[aF,aE]);have h3:=zz (show Below w.heap.size w wS15 by rw[hS15];exact bS (by omega) B5.o);clear hS15;have Ldd_s15:CB wS15 (w.heap.size+1) 34 #[.int .u8 r,.int .u8 c,.slice P N.length pa,.slice P' D.length pa']:=(hf15 _ (by omega)).trans G2;have Ldc_s15:CB wS15 (w.heap.size+2) 34 #[.int .u8 r2,.int .u8 c2,.slice R N2.length ra,.slice R' D2.length ra']:=(hf15 _ (by omega)).trans H2
    have Ly_s15:CB wS15 (G5) 30 #[.slice none 0 0,.slice none 0 0,.slice none 0 0,.slice none 0 0,.slice none 0 0,.bool false,.slice none 0 0,.bool false,.slice none 0 0]:=(hf15 _ (by omega)).trans O5;have Hx_s15:=zz (aJf Hx.o j0 hf15 hs15);have Hy_s15:=zz (aJf Hy.o j0 hf15 hs15);clear hs15 hf15;have i3:=Ly_s15.cell 0 rfl;have j3:=Ly_s15.cell 1 rfl;have k3:=Ly_s15.cell 2 rfl;have l3:=Ly_s15.cell 3 rfl;have m3:=Ly_s15.cell 4 rfl;have n3:=Ly_s15.cell 5 rfl;have o3:=Ly_s15.cell 6 rfl;have p3:=Ly_s15.cell 7 rfl;have r3:=Ly_s15.cell 8 rfl;have T5:=Ly_s15.lt;have u3:=Ly_s15.frozen 0;have v3:=Ly_s15.frozen 1;have w3:=Ly_s15.frozen 2;have x3:=Ly_s15.frozen 3;have y3:=Ly_s15.frozen 4;have z3:=Ly_s15.frozen 5;have A3:=Ly_s15.frozen 6;have B3:=Ly_s15.frozen 7;have C3:=Ly_s15.frozen 8;have U5:=Ly_s15.lt;refine EN 7 rfl fun K hK=>?_
    go_simp;refine hK _ _ ?_;clear hK K;(try simp only[PT])
    clear i3 j3 k3 l3 m3 n3 o3 p3 r3 T5 u3 v3 w3 x3 y3 z3 A3 B3 C3 U5;obtain⟨wS18,hS18⟩:∃ wS:World,wS=aN wS15 (G5) 0 [.slice R0 X0 Y0,.slice T0 Z0 a1,.slice U0 b1 d1,.slice V0 e1 g1,.slice W0 h1 i1,.bool yq0,.slice yqA yql yqc,.bool yq2,.slice yqB yqu yqd]:=⟨_,rfl⟩;rw[show(((((((((wS15.setCell ⟨G5,0,none⟩ (.slice R0 X0 Y0)).setCell ⟨G5,1,none⟩ (.slice T0 Z0 a1)).setCell ⟨G5,2,none⟩ (.slice U0 b1 d1)).setCell ⟨G5,3,none⟩ (.slice V0 e1 g1)).setCell ⟨G5,4,none⟩ (.slice W0 h1 i1)).setCell ⟨G5,5,none⟩ (.bool yq0)).setCell ⟨G5,6,none⟩ (.slice yqA yql yqc)).setCell ⟨G5,7,none⟩ (.bool yq2)).setCell ⟨G5,8,none⟩ (.slice yqB yqu yqd))=wS18 from hS18.symm];obtain⟨hC18,hs18,hf18,hz18⟩:=lT hS18 (cs:=[.slice none 0 0,.slice none 0 0,.slice none 0 0,.slice none 0 0,.slice none 0 0,.bool false,.slice none 0 0,.bool false,.slice none 0 0]) Ly_s15 rfl (by simp[aF,aE]);have j1:=zz (show Below w.heap.size w wS18 by rw[hS18];exact bS (by omega) h3.o);clear hS18;have Lxb_s18:CB wS18 (w.heap.size) 30 #[.slice O0 P0 Q0,.slice a0 b0 d0,.slice k0 l0 m0,.slice n0 o0 p0,.slice e0 g0 i0,.bool xq0,.slice xqA xql xqc,.bool xq2,.slice xqB xqu xqd]:=(hf18 _ (by omega)).trans hC15;have Ldd_s18:CB wS18 (w.heap.size+1) 34 #[.int .u8 r,.int .u8 c,.slice P N.length pa,.slice P' D.length pa']:=(hf18 _ (by omega)).trans Ldd_s15;have Ldc_s18:CB wS18 (w.heap.size+2) 34 #[.int .u8 r2,.int .u8 c2,.slice R N2.length ra,.slice R' D2.length ra']:=(hf18 _ (by omega)).trans Ldc_s15
    have Hx_s18:=zz (aJf Hx_s15.o Ly_s15 hf18 hs18);have Hy_s18:=zz (aJf Hy_s15.o Ly_s15 hf18 hs18);clear hs18 hf18;refine ED ?_;(try simp only[Exit.then])
    go_upto_region 2 with (fail)
    refine aMe [se 0 15 [] (.agg #[.int .u8 r,.int .u8 c,.slice P N.length pa,.slice P' D.length pa']),se 1 16 [] (.agg #[.int .u8 r2,.int .u8 c2,.slice R N2.length ra,.slice R' D2.length ra']),sf 2 17 [0,1] (fun fv fw=>RWX fw fv),se 3 18 [] (.agg #[.int .u8 r,.int .u8 c,.slice P N.length pa,.slice P' D.length pa']),se 4 19 [] (.agg #[.int .u8 r2,.int .u8 c2,.slice R N2.length ra,.slice R' D2.length ra']),sf 5 20 [3,4] (fun fv fw=>RWX fw fv),sf 6 8 [] (fun fv fw=>∃ b,fv=.pointer (some ⟨b,0,none⟩)∧CB fw b 30 #[.slice none 0 0,.slice none 0 0,.slice none 0 0,.slice none 0 0,.slice none 0 0,.bool false,.slice none 0 0,.bool false,.slice none 0 0]),sf 7 9 [] (fun fv fw=>∃ b,fv=.pointer (some ⟨b,0,none⟩)∧CB fw b 30 #[.slice none 0 0,.slice none 0 0,.slice none 0 0,.slice none 0 0,.slice none 0 0,.bool false,.slice none 0 0,.bool false,.slice none 0 0])] [] [6,7] 2 (SB Ldd_s18 (SB Ldc_s18 S0)) (MA (fun _ _ _ h hb=>h.step hb) (MA (fun _ _ _ h hb=>h.step hb) (MA (fun _ _ _ h hb=>let ⟨b,e,h⟩:=h;⟨b,e,h.step hb⟩) (MA (fun _ _ _ h hb=>let ⟨b,e,h⟩:=h;⟨b,e,h.step hb⟩) aFi)))) ?_ ?_ ?_
    · intro xs a_ hA;simp only[SX,↓reduceIte,Nat.reduceEqDiff,Nat.reduceAdd] at hA⊢;subst hA;and_intros
      all_goals intro wk b_ z_
      all_goals try exact pn
      · intro f0 f1;intros
        refine wo fun K hK=>?_;go_simp;have Y6:=tr j1 b_;(with_reducible refine(nE _ _ r c N D (P5.o.step Y6.o) _ r2 c2 N2 D2 (Q5.o.step Y6.o) n k m I5.o.1 I5.o.2.1 I5.o.2.2).mono ?_)
        rintro e wc20 ⟨v5,v20,rfl,h20⟩;refine hK _ _ ⟨v20,by simp only[FL,f0,f1] <;> kernel_rfl,v5,h20.rwx,nF⟩
      · intro f3 f4;intros
        refine wo fun K hK=>?_;go_simp;have X6:=tr j1 b_;(with_reducible refine(nE _ _ r c N D (P5.o.step X6.o) _ r2 c2 N2 D2 (Q5.o.step X6.o) n k m I5.o.1 I5.o.2.1 I5.o.2.2).mono ?_)
        rintro e wc22 ⟨w5,v22,rfl,h22⟩;refine hK _ _ ⟨v22,by simp only[FL,f3,f4] <;> kernel_rfl,w5,h22.rwx,nF⟩
      · intros
        refine wo fun K hK=>?_;go_simp;refine hK _ _ ⟨.pointer (some ⟨wk.heap.size,0,none⟩),by kernel_rfl,(aDy _ _).alloc (aEa _) _,⟨_,rfl,aHl _ _ _⟩,fun _=>⟨_,rfl,aEa _,by simp⟩⟩
      · intros
        refine wo fun K hK=>?_;go_simp;refine hK _ _ ⟨.pointer (some ⟨wk.heap.size,0,none⟩),by kernel_rfl,(aDy _ _).alloc (aEa _) _,⟨_,rfl,aHl _ _ _⟩,fun _=>⟨_,rfl,aEa _,by simp⟩⟩
    · exact fun _ _ _=>aFi
    · intro xs V5 hbf _ hn hd;simp only[SY]
      have n6:=hn 6 (by decide);have n7:=hn 7 (by decide);have C2:=hd 6 (by decide) 7 (by decide) (by decide);have E2:=hd 7 (by decide) 6 (by decide) (by decide);clear hn hd;have B24:=hbf;have z24:=B24.o.size;have y5:=tr j1 B24;clear hbf;generalize xs 2=x2,xs 5=x5,xs 6=x6,xs 7=x7 at *
      rintro f2 f5 f6 f7;obtain⟨F0,G0,D1,n1,H0,zqA,zqB,I0,J0,K0,L0,E1,F1,o1,p1,M0,N0,zql,zqc,zqu,zqd,zq0,zq2,zA,zC,zb,zd,zf,zl,rfl,hrn⟩:=f2;have Hz:=zz hrn;clear hrn;obtain⟨r0,G1,u0,v0,r1,uqA,uqB,x0,y0,H1,I1,A0,C0,D0,E0,u1,v1,uql,uqc,uqu,uqd,uq0,uq2,uA,uC,ub,ud,uf,ul,rfl,hrn⟩:=f5;have Hu:=zz hrn;clear hrn;obtain⟨E5,rfl,F5⟩:=f6;have K5:=zz (show wS18.heap.size≤E5 by obtain⟨b',e,h,-⟩:=n6;injection e with e;injection e with e;injection e with e _ _;omega);clear n6;have e6:=F5.lt;have g6:=K5.o;obtain⟨D5,rfl,N5⟩:=f7;have L5:=zz (show wS18.heap.size≤D5 by obtain⟨b',e,h,-⟩:=n7;injection e with e;injection e with e;injection e with e _ _;omega);clear n7;have h6:=N5.lt;have i6:=L5.o;have I2:=zz (show E5≠D5 from fun e=>C2 (by rw[e]));have C5:=zz (show D5≠E5 from fun e=>E2 (by rw[e]));clear C2;clear E2;have hzw:=I2.o;have hwz:w.heap.size≤E5:=by have:=j1.o.size;omega
      have hww:w.heap.size≤D5:=by have:=j1.o.size;omega
      have D3:=F5.cell 0 rfl;have E3:=F5.cell 1 rfl;have F3:=F5.cell 2 rfl;have G3:=F5.cell 3 rfl;have H3:=F5.cell 4 rfl;have I3:=F5.cell 5 rfl;have J3:=F5.cell 6 rfl;have K3:=F5.cell 7 rfl;have L3:=F5.cell 8 rfl;have W5:=F5.lt;have M3:=F5.frozen 0;have N3:=F5.frozen 1;have O3:=F5.frozen 2;have P3:=F5.frozen 3;have Q3:=F5.frozen 4;have R3:=F5.frozen 5;have S3:=F5.frozen 6;have T3:=F5.frozen 7;have U3:=F5.frozen 8;have X5:=F5.lt;refine EN 8 rfl fun K hK=>?_
      go_simp;refine hK _ _ ?_;clear hK K;(try simp only[PT])
      clear D3 E3 F3 G3 H3 I3 J3 K3 L3 W5 M3 N3 O3 P3 Q3 R3 S3 T3 U3 X5;have J2:=aEd Lxb_s18 B24.o;have K2:=aEd Ldd_s18 B24.o;have L2:=aEd Ldc_s18 B24.o;have V3:=aEd hC18 B24.o;have W3:=st RAWN.step Hx_s18 B24;have X3:=st RAWN.step Hy_s18 B24;obtain⟨wS38,hS38⟩:∃ wS:World,wS=aN V5 (E5) 0 [.slice F0 I0 J0,.slice G0 K0 L0,.slice D1 E1 F1,.slice n1 o1 p1,.slice H0 M0 N0,.bool zq0,.slice zqA zql zqc,.bool zq2,.slice zqB zqu zqd]:=⟨_,rfl⟩;rw[show(((((((((V5.setCell ⟨E5,0,none⟩ (.slice F0 I0 J0)).setCell ⟨E5,1,none⟩ (.slice G0 K0 L0)).setCell ⟨E5,2,none⟩ (.slice D1 E1 F1)).setCell ⟨E5,3,none⟩ (.slice n1 o1 p1)).setCell ⟨E5,4,none⟩ (.slice H0 M0 N0)).setCell ⟨E5,5,none⟩ (.bool zq0)).setCell ⟨E5,6,none⟩ (.slice zqA zql zqc)).setCell ⟨E5,7,none⟩ (.bool zq2)).setCell ⟨E5,8,none⟩ (.slice zqB zqu zqd))=wS38 from hS38.symm];obtain⟨hC38,hs38,hf38,hz38⟩:=lT hS38 (cs:=[.slice none 0 0,.slice none 0 0,.slice none 0 0,.slice none 0 0,.slice none 0 0,.bool false,.slice none 0 0,.bool false,.slice none 0 0]) F5 rfl (by simp[aF,aE]);have Y3:=zz (show Below w.heap.size w wS38 by rw[hS38];exact bS (by omega) y5.o);clear hS38;have Lxb_s38:CB wS38 (w.heap.size) 30 #[.slice O0 P0 Q0,.slice a0 b0 d0,.slice k0 l0 m0,.slice n0 o0 p0,.slice e0 g0 i0,.bool xq0,.slice xqA xql xqc,.bool xq2,.slice xqB xqu xqd]:=(hf38 _ (by omega)).trans J2
      have Ldd_s38:CB wS38 (w.heap.size+1) 34 #[.int .u8 r,.int .u8 c,.slice P N.length pa,.slice P' D.length pa']:=(hf38 _ (by omega)).trans K2;have Ldc_s38:CB wS38 (w.heap.size+2) 34 #[.int .u8 r2,.int .u8 c2,.slice R N2.length ra,.slice R' D2.length ra']:=(hf38 _ (by omega)).trans L2;have Ly_s38:CB wS38 (G5) 30 #[.slice R0 X0 Y0,.slice T0 Z0 a1,.slice U0 b1 d1,.slice V0 e1 g1,.slice W0 h1 i1,.bool yq0,.slice yqA yql yqc,.bool yq2,.slice yqB yqu yqd]:=(hf38 _ (by omega)).trans V3;have Lw_s38:CB wS38 (D5) 30 #[.slice none 0 0,.slice none 0 0,.slice none 0 0,.slice none 0 0,.slice none 0 0,.bool false,.slice none 0 0,.bool false,.slice none 0 0]:=(hf38 _ (by omega)).trans N5;have Hx_s38:=zz (aJf W3.o F5 hf38 hs38);have Hy_s38:=zz (aJf X3.o F5 hf38 hs38);have Hz_s38:=zz (aJf Hz.o F5 hf38 hs38);have Hu_s38:=zz (aJf Hu.o F5 hf38 hs38);clear hs38 hf38;have Z3:=Lw_s38.cell 0 rfl;have a4:=Lw_s38.cell 1 rfl;have b4:=Lw_s38.cell 2 rfl;have c4:=Lw_s38.cell 3 rfl;have d4:=Lw_s38.cell 4 rfl;have e4:=Lw_s38.cell 5 rfl;have g4:=Lw_s38.cell 6 rfl;have i4:=Lw_s38.cell 7 rfl;have j4:=Lw_s38.cell 8 rfl;have Y5:=Lw_s38.lt;have k4:=Lw_s38.frozen 0;have l4:=Lw_s38.frozen 1;have m4:=Lw_s38.frozen 2;have n4:=Lw_s38.frozen 3;have o4:=Lw_s38.frozen 4;have p4:=Lw_s38.frozen 5;have q4:=Lw_s38.frozen 6;have r4:=Lw_s38.frozen 7;have u4:=Lw_s38.frozen 8;have Z5:=Lw_s38.lt;refine EN 9 rfl fun K hK=>?_
      go_simp;refine hK _ _ ?_;clear hK K;(try simp only[PT])
      clear Z3 a4 b4 c4 d4 e4 g4 i4 j4 Y5 k4 l4 m4 n4 o4 p4 q4 r4 u4 Z5;obtain⟨wS41,hS41⟩:∃ wS:World,wS=aN wS38 (D5) 0 [.slice r0 x0 y0,.slice G1 H1 I1,.slice u0 A0 C0,.slice v0 D0 E0,.slice r1 u1 v1,.bool uq0,.slice uqA uql uqc,.bool uq2,.slice uqB uqu uqd]:=⟨_,rfl⟩;rw[show(((((((((wS38.setCell ⟨D5,0,none⟩ (.slice r0 x0 y0)).setCell ⟨D5,1,none⟩ (.slice G1 H1 I1)).setCell ⟨D5,2,none⟩ (.slice u0 A0 C0)).setCell ⟨D5,3,none⟩ (.slice v0 D0 E0)).setCell ⟨D5,4,none⟩ (.slice r1 u1 v1)).setCell ⟨D5,5,none⟩ (.bool uq0)).setCell ⟨D5,6,none⟩ (.slice uqA uql uqc)).setCell ⟨D5,7,none⟩ (.bool uq2)).setCell ⟨D5,8,none⟩ (.slice uqB uqu uqd))=wS41 from hS41.symm];obtain⟨hC41,hs41,hf41,hz41⟩:=lT hS41 (cs:=[.slice none 0 0,.slice none 0 0,.slice none 0 0,.slice none 0 0,.slice none 0 0,.bool false,.slice none 0 0,.bool false,.slice none 0 0]) Lw_s38 rfl (by simp[aF,aE]);have w4:=zz (show Below w.heap.size w wS41 by rw[hS41];exact bS (by omega) Y3.o);clear hS41;have Lxb_s41:CB wS41 (w.heap.size) 30 #[.slice O0 P0 Q0,.slice a0 b0 d0,.slice k0 l0 m0,.slice n0 o0 p0,.slice e0 g0 i0,.bool xq0,.slice xqA xql xqc,.bool xq2,.slice xqB xqu xqd]:=(hf41 _ (by omega)).trans Lxb_s38;have Ldd_s41:CB wS41 (w.heap.size+1) 34 #[.int .u8 r,.int .u8 c,.slice P N.length pa,.slice P' D.length pa']:=(hf41 _ (by omega)).trans Ldd_s38;have Ldc_s41:CB wS41 (w.heap.size+2) 34 #[.int .u8 r2,.int .u8 c2,.slice R N2.length ra,.slice R' D2.length ra']:=(hf41 _ (by omega)).trans Ldc_s38
      have Ly_s41:CB wS41 (G5) 30 #[.slice R0 X0 Y0,.slice T0 Z0 a1,.slice U0 b1 d1,.slice V0 e1 g1,.slice W0 h1 i1,.bool yq0,.slice yqA yql yqc,.bool yq2,.slice yqB yqu yqd]:=(hf41 _ (by omega)).trans Ly_s38;have Lz_s41:CB wS41 (E5) 30 #[.slice F0 I0 J0,.slice G0 K0 L0,.slice D1 E1 F1,.slice n1 o1 p1,.slice H0 M0 N0,.bool zq0,.slice zqA zql zqc,.bool zq2,.slice zqB zqu zqd]:=(hf41 _ (by omega)).trans hC38;have Hx_s41:=zz (aJf Hx_s38.o Lw_s38 hf41 hs41);have Hy_s41:=zz (aJf Hy_s38.o Lw_s38 hf41 hs41);have Hz_s41:=zz (aJf Hz_s38.o Lw_s38 hf41 hs41);have Hu_s41:=zz (aJf Hu_s38.o Lw_s38 hf41 hs41);clear hs41 hf41;refine ED ?_;(try simp only[Exit.then])
      go_upto_region 3 with (fail)
      have hne3:w.heap.size≠E5:=by omega
      have J5:∀ w':World,Below wS41.heap.size wS41 w'→(w'.cell? ⟨w.heap.size,2,none⟩=some (.slice k0 l0 m0)∧w'.cell? ⟨w.heap.size,3,none⟩=some (.slice n0 o0 p0)):=fun w' h=>⟨(aEd Lxb_s41 h).cell 2 rfl,(aEd Lxb_s41 h).cell 3 rfl⟩
      refine aIr 6 (fun w'=>w'.cell? ⟨w.heap.size,2,none⟩=some (.slice k0 l0 m0)∧w'.cell? ⟨w.heap.size,3,none⟩=some (.slice n0 o0 p0)) (by kernel_rfl) ?_;refine ET 0 (.pointer (some ⟨w.heap.size,2,none⟩)) rfl (Or.inl ⟨by rfl,?_⟩) ?_ ?_
      · intro w' hSw;obtain⟨t0,t1⟩:=hSw;go_simp
      · exact J5 _ (aA (aDy _ _))
      (try simp only[PT])
      refine ET 1 (.slice k0 l0 m0) rfl (Or.inl ⟨by rfl,?_⟩) ?_ ?_
      · intro w' hSw;obtain⟨t0,t1⟩:=hSw;go_simp
      · exact J5 _ (aA (aDy _ _))
      (try simp only[PT])
      refine ET 2 (.pointer (some ⟨w.heap.size,3,none⟩)) rfl (Or.inl ⟨by rfl,?_⟩) ?_ ?_
      · intro w' hSw;obtain⟨t0,t1⟩:=hSw;go_simp
      · exact J5 _ (aA (aDy _ _))
      (try simp only[PT])
      refine ET 3 (.slice n0 o0 p0) rfl (Or.inl ⟨by rfl,?_⟩) ?_ ?_
      · intro w' hSw;obtain⟨t0,t1⟩:=hSw;go_simp
      · exact J5 _ (aA (aDy _ _))
      (try simp only[PT])
      refine en 4 rfl fun K hK=>?_;go_simp;refine hK _ _ (fun _=>J5 _ (aA (aDy _ _))) ?_;clear hK K;(try simp only[PT])
      have J1:=(aGz (Lz_s41)).frozen 2;have K1:=(aGz (Lz_s41)).cell 2 rfl;have L1:=(aGz (Lz_s41)).lt;have lz43:=(aGj (Lz_s41) 2 (.slice k0 l0 m0));have lx43:=(aMl (Lxb_s41) (p:=⟨E5,2,none⟩) hne3 (.slice k0 l0 m0));refine en 5 rfl fun K hK=>?_;go_simp;refine hK _ _ (fun _=>⟨(aGz lx43).cell 2 rfl,(aGz lx43).cell 3 rfl⟩) ?_;clear hK K;(try simp only[PT])
      clear J1 K1 L1;refine en 6 rfl fun K hK=>?_;go_simp;refine hK _ _ (fun h=>absurd h (by decide)) ?_;clear hK K;(try simp only[PT])
      have J1:=(aGz (lz43)).frozen 3;have K1:=(aGz (lz43)).cell 3 rfl;have L1:=(aGz (lz43)).lt;have lz44:=(aGj (lz43) 3 (.slice n0 o0 p0));have lx44:=(aMl (lx43) (p:=⟨E5,3,none⟩) hne3 (.slice n0 o0 p0));refine en 7 rfl fun K hK=>?_;go_simp;refine hK _ _ (fun h=>absurd h (by decide)) ?_;clear hK K;(try simp only[PT])
      clear J1 K1 L1;refine aIj (by kernel_rfl) ?_ _;(try simp only[Exit.then])
      clear J5;obtain⟨wS45,hS45⟩:∃ wS:World,wS=(((wS41.setCell ⟨E5,2,none⟩ (.slice k0 l0 m0)).setCell ⟨E5,3,none⟩ (.slice n0 o0 p0))).drew:=⟨_,rfl⟩;rw[← hS45];have M1:=aHk (Lz_s41) (by simp[aF,aE]) 2 (.slice k0 l0 m0);have w1:CB _ (E5) 30 #[.slice F0 I0 J0,.slice G0 K0 L0,.slice k0 l0 m0,.slice n1 o1 p1,.slice H0 M0 N0,.bool zq0,.slice zqA zql zqc,.bool zq2,.slice zqB zqu zqd]:=aGj (Lz_s41) 2 (.slice k0 l0 m0);have N1:=(w4.o).setCell (p:=⟨E5,2,none⟩) (show w.heap.size≤E5 by omega) (.slice k0 l0 m0);have O1:=aHk (w1) (by simp[aF,aE]) 3 (.slice n0 o0 p0);have P1:CB _ (E5) 30 #[.slice F0 I0 J0,.slice G0 K0 L0,.slice k0 l0 m0,.slice n0 o0 p0,.slice H0 M0 N0,.bool zq0,.slice zqA zql zqc,.bool zq2,.slice zqB zqu zqd]:=aGj (w1) 3 (.slice n0 o0 p0);have Q1:=(N1).setCell (p:=⟨E5,3,none⟩) (show w.heap.size≤E5 by omega) (.slice n0 o0 p0);have hs45:Go.Proofs.YtencnahjgbdeoaaGreatDoor.Soft wS41 wS45:=by rw[hS45];exact vY ((M1).trans O1)
      have hg45:∀ g,g≠E5→((wS41.setCell ⟨E5,2,none⟩ (.slice k0 l0 m0)).setCell ⟨E5,3,none⟩ (.slice n0 o0 p0)).heap[g]?=wS41.heap[g]?:=fun g hg=>(aFr _ ⟨E5,3,none⟩ _ g hg).trans (aFr _ ⟨E5,2,none⟩ _ g hg)
      have hf45:∀ g,g≠E5→wS45.heap[g]?=wS41.heap[g]?:=by rw[hS45];exact EP hg45
      clear hg45;have hC45:CB wS45 (E5) 30 #[.slice F0 I0 J0,.slice G0 K0 L0,.slice k0 l0 m0,.slice n0 o0 p0,.slice H0 M0 N0,.bool zq0,.slice zqA zql zqc,.bool zq2,.slice zqB zqu zqd]:=by rw[hS45];exact aGz (P1)
      have hz45:wS45.heap.size=wS41.heap.size:=by rw[hS45];simp[World.setCell]
      have y4:=zz (show Below w.heap.size w wS45 by rw[hS45];exact aA (Q1));clear hS45;have Lxb_s45:CB wS45 (w.heap.size) 30 #[.slice O0 P0 Q0,.slice a0 b0 d0,.slice k0 l0 m0,.slice n0 o0 p0,.slice e0 g0 i0,.bool xq0,.slice xqA xql xqc,.bool xq2,.slice xqB xqu xqd]:=(hf45 _ (by omega)).trans Lxb_s41;have Ldd_s45:CB wS45 (w.heap.size+1) 34 #[.int .u8 r,.int .u8 c,.slice P N.length pa,.slice P' D.length pa']:=(hf45 _ (by omega)).trans Ldd_s41;have Ldc_s45:CB wS45 (w.heap.size+2) 34 #[.int .u8 r2,.int .u8 c2,.slice R N2.length ra,.slice R' D2.length ra']:=(hf45 _ (by omega)).trans Ldc_s41;have Ly_s45:CB wS45 (G5) 30 #[.slice R0 X0 Y0,.slice T0 Z0 a1,.slice U0 b1 d1,.slice V0 e1 g1,.slice W0 h1 i1,.bool yq0,.slice yqA yql yqc,.bool yq2,.slice yqB yqu yqd]:=(hf45 _ (by omega)).trans Ly_s41;have Lw_s45:CB wS45 (D5) 30 #[.slice r0 x0 y0,.slice G1 H1 I1,.slice u0 A0 C0,.slice v0 D0 E0,.slice r1 u1 v1,.bool uq0,.slice uqA uql uqc,.bool uq2,.slice uqB uqu uqd]:=(hf45 _ (by omega)).trans hC41;have Hx_s45:=zz (aJf Hx_s41.o Lz_s41 hf45 hs45);have Hy_s45:=zz (aJf Hy_s41.o Lz_s41 hf45 hs45);have Hz_s45:=zz (aJf Hz_s41.o Lz_s41 hf45 hs45);have Hu_s45:=zz (aJf Hu_s41.o Lz_s41 hf45 hs45);clear hs45 hf45 M1 w1 N1 O1 P1 Q1;obtain⟨⟨zh0,zo0⟩,⟨zh1,zo1⟩,-,-,zo4,zo5⟩:=RAWN.parts Hz_s45.o;obtain⟨-,-,xo2,xo3,-,-⟩:=RAWN.parts Hx_s45.o
      have p6:=zz (show RWX wS45 (.agg #[.slice F0 I0 J0,.slice G0 K0 L0,.slice k0 l0 m0,.slice n0 o0 p0,.slice H0 M0 N0,.bool zq0,.slice zqA zql zqc,.bool zq2,.slice zqB zqu zqd]) from RAWN.rwx ⟨_,_,_,_,_,_,_,_,_,_,_,rfl,zo0,zo1,xo2,xo3,zo4,zo5⟩);clear zo0 zo1 xo2 xo3 zo4 zo5;go_upto_region 4 with (fail)
      have hne4:w.heap.size≠D5:=by omega
      have H5:∀ w':World,Below wS45.heap.size wS45 w'→(w'.cell? ⟨w.heap.size,1,none⟩=some (.slice a0 b0 d0)∧w'.cell? ⟨w.heap.size,4,none⟩=some (.slice e0 g0 i0)∧w'.cell? ⟨w.heap.size,5,none⟩=some (.bool xq0)∧w'.cell? ⟨w.heap.size,6,none⟩=some (.slice xqA xql xqc)∧w'.cell? ⟨w.heap.size,7,none⟩=some (.bool xq2)∧w'.cell? ⟨w.heap.size,8,none⟩=some (.slice xqB xqu xqd)):=fun w' h=>⟨(aEd Lxb_s45 h).cell 1 rfl,(aEd Lxb_s45 h).cell 4 rfl,(aEd Lxb_s45 h).cell 5 rfl,(aEd Lxb_s45 h).cell 6 rfl,(aEd Lxb_s45 h).cell 7 rfl,(aEd Lxb_s45 h).cell 8 rfl⟩
      refine aIr 10 (fun w'=>w'.cell? ⟨w.heap.size,1,none⟩=some (.slice a0 b0 d0)∧w'.cell? ⟨w.heap.size,4,none⟩=some (.slice e0 g0 i0)∧w'.cell? ⟨w.heap.size,5,none⟩=some (.bool xq0)∧w'.cell? ⟨w.heap.size,6,none⟩=some (.slice xqA xql xqc)∧w'.cell? ⟨w.heap.size,7,none⟩=some (.bool xq2)∧w'.cell? ⟨w.heap.size,8,none⟩=some (.slice xqB xqu xqd)) (by kernel_rfl) ?_;refine ET 0 (.pointer (some ⟨w.heap.size,1,none⟩)) rfl (Or.inl ⟨by rfl,?_⟩) ?_ ?_
      · intro w' hSw;obtain⟨t0,t1,t2,t3,t4,t5⟩:=hSw;go_simp
      · exact H5 _ (aA (aDy _ _))
      (try simp only[PT])
      refine ET 1 (.slice a0 b0 d0) rfl (Or.inl ⟨by rfl,?_⟩) ?_ ?_
      · intro w' hSw;obtain⟨t0,t1,t2,t3,t4,t5⟩:=hSw;go_simp
      · exact H5 _ (aA (aDy _ _))
      (try simp only[PT])
      refine ET 2 (.pointer (some ⟨w.heap.size,4,none⟩)) rfl (Or.inl ⟨by rfl,?_⟩) ?_ ?_
      · intro w' hSw;obtain⟨t0,t1,t2,t3,t4,t5⟩:=hSw;go_simp
      · exact H5 _ (aA (aDy _ _))
      (try simp only[PT])
      refine ET 3 (.slice e0 g0 i0) rfl (Or.inl ⟨by rfl,?_⟩) ?_ ?_
      · intro w' hSw;obtain⟨t0,t1,t2,t3,t4,t5⟩:=hSw;go_simp
      · exact H5 _ (aA (aDy _ _))
      (try simp only[PT])
      refine ET 4 (.pointer (some ⟨w.heap.size,5,none⟩)) rfl (Or.inl ⟨by rfl,?_⟩) ?_ ?_
      · intro w' hSw;obtain⟨t0,t1,t2,t3,t4,t5⟩:=hSw;go_simp
      · exact H5 _ (aA (aDy _ _))
      (try simp only[PT])
      refine ET 5 (.agg #[.bool xq0,.slice xqA xql xqc,.bool xq2,.slice xqB xqu xqd]) rfl (Or.inl ⟨by rfl,?_⟩) ?_ ?_
      · intro w' hSw;obtain⟨t0,t1,t2,t3,t4,t5⟩:=hSw;go_simp
      · exact H5 _ (aA (aDy _ _))
      (try simp only[PT])
      refine en 6 rfl fun K hK=>?_;go_simp;refine hK _ _ (fun _=>H5 _ (aA (aDy _ _))) ?_;clear hK K;(try simp only[PT])
      have k1:=(aGz (Lw_s45)).frozen 1;have l1:=(aGz (Lw_s45)).cell 1 rfl;have m1:=(aGz (Lw_s45)).lt;have lz47:=(aGj (Lw_s45) 1 (.slice a0 b0 d0));have lx47:=(aMl (Lxb_s45) (p:=⟨D5,1,none⟩) hne4 (.slice a0 b0 d0));refine en 7 rfl fun K hK=>?_;go_simp;refine hK _ _ (fun _=>⟨(aGz lx47).cell 1 rfl,(aGz lx47).cell 4 rfl,(aGz lx47).cell 5 rfl,(aGz lx47).cell 6 rfl,(aGz lx47).cell 7 rfl,(aGz lx47).cell 8 rfl⟩) ?_;clear hK K;(try simp only[PT])
      clear k1 l1 m1;refine en 8 rfl fun K hK=>?_;go_simp;refine hK _ _ (fun _=>⟨(aGz lx47).cell 1 rfl,(aGz lx47).cell 4 rfl,(aGz lx47).cell 5 rfl,(aGz lx47).cell 6 rfl,(aGz lx47).cell 7 rfl,(aGz lx47).cell 8 rfl⟩) ?_;clear hK K;(try simp only[PT])
      have k1:=(aGz (lz47)).frozen 4;have l1:=(aGz (lz47)).cell 4 rfl;have m1:=(aGz (lz47)).lt;have lz48:=(aGj (lz47) 4 (.slice e0 g0 i0));have lx48:=(aMl (lx47) (p:=⟨D5,4,none⟩) hne4 (.slice e0 g0 i0));refine en 9 rfl fun K hK=>?_;go_simp;refine hK _ _ (fun _=>⟨(aGz lx48).cell 1 rfl,(aGz lx48).cell 4 rfl,(aGz lx48).cell 5 rfl,(aGz lx48).cell 6 rfl,(aGz lx48).cell 7 rfl,(aGz lx48).cell 8 rfl⟩) ?_;clear hK K;(try simp only[PT])
      clear k1 l1 m1;refine en 10 rfl fun K hK=>?_;go_simp;refine hK _ _ (fun h=>absurd h (by decide)) ?_;clear hK K;(try simp only[PT])
      have k1:=(aGz (lz48)).frozen 5;have l1:=(aGz (lz48)).cell 5 rfl;have m1:=(aGz (lz48)).lt;have z4:=(aGz ((aGj (lz48) 5 (.bool xq0)))).frozen 6;have A4:=(aGz ((aGj (lz48) 5 (.bool xq0)))).cell 6 rfl;have B4:=(aGz ((aGj (lz48) 5 (.bool xq0)))).lt;have C4:=(aGz ((aGj ((aGj (lz48) 5 (.bool xq0))) 6 (.slice xqA xql xqc)))).frozen 7;have D4:=(aGz ((aGj ((aGj (lz48) 5 (.bool xq0))) 6 (.slice xqA xql xqc)))).cell 7 rfl;have E4:=(aGz ((aGj ((aGj (lz48) 5 (.bool xq0))) 6 (.slice xqA xql xqc)))).lt;have F4:=(aGz ((aGj ((aGj ((aGj (lz48) 5 (.bool xq0))) 6 (.slice xqA xql xqc))) 7 (.bool xq2)))).frozen 8;have G4:=(aGz ((aGj ((aGj ((aGj (lz48) 5 (.bool xq0))) 6 (.slice xqA xql xqc))) 7 (.bool xq2)))).cell 8 rfl;have H4:=(aGz ((aGj ((aGj ((aGj (lz48) 5 (.bool xq0))) 6 (.slice xqA xql xqc))) 7 (.bool xq2)))).lt;have lz49:=(aGj ((aGj ((aGj ((aGj (lz48) 5 (.bool xq0))) 6 (.slice xqA xql xqc))) 7 (.bool xq2))) 8 (.slice xqB xqu xqd));have lx49:=(aMl ((aMl ((aMl ((aMl (lx48) (p:=⟨D5,5,none⟩) hne4 (.bool xq0))) (p:=⟨D5,6,none⟩) hne4 (.slice xqA xql xqc))) (p:=⟨D5,7,none⟩) hne4 (.bool xq2))) (p:=⟨D5,8,none⟩) hne4 (.slice xqB xqu xqd));refine en 11 rfl fun K hK=>?_;go_simp;refine hK _ _ (fun h=>absurd h (by decide)) ?_;clear hK K;(try simp only[PT])
      clear k1 l1 m1 z4 A4 B4 C4 D4 E4 F4 G4 H4;refine aIj (by kernel_rfl) ?_ _;(try simp only[Exit.then])
      clear H5;obtain⟨wS50,hS50⟩:∃ wS:World,wS=(((((((wS45.setCell ⟨D5,1,none⟩ (.slice a0 b0 d0)).setCell ⟨D5,4,none⟩ (.slice e0 g0 i0)).setCell ⟨D5,5,none⟩ (.bool xq0)).setCell ⟨D5,6,none⟩ (.slice xqA xql xqc)).setCell ⟨D5,7,none⟩ (.bool xq2)).setCell ⟨D5,8,none⟩ (.slice xqB xqu xqd))).drew:=⟨_,rfl⟩;rw[← hS50];have R1:=aHk (Lw_s45) (by simp[aF,aE]) 1 (.slice a0 b0 d0);have y1:CB _ (D5) 30 #[.slice r0 x0 y0,.slice a0 b0 d0,.slice u0 A0 C0,.slice v0 D0 E0,.slice r1 u1 v1,.bool uq0,.slice uqA uql uqc,.bool uq2,.slice uqB uqu uqd]:=aGj (Lw_s45) 1 (.slice a0 b0 d0);have S1:=(y4.o).setCell (p:=⟨D5,1,none⟩) (show w.heap.size≤D5 by omega) (.slice a0 b0 d0);have T1:=aHk (y1) (by simp[aF,aE]) 4 (.slice e0 g0 i0);have z1:CB _ (D5) 30 #[.slice r0 x0 y0,.slice a0 b0 d0,.slice u0 A0 C0,.slice v0 D0 E0,.slice e0 g0 i0,.bool uq0,.slice uqA uql uqc,.bool uq2,.slice uqB uqu uqd]:=aGj (y1) 4 (.slice e0 g0 i0);have U1:=(S1).setCell (p:=⟨D5,4,none⟩) (show w.heap.size≤D5 by omega) (.slice e0 g0 i0);have V1:=aHk (z1) (by simp[aF,aE]) 5 (.bool xq0);have A1:CB _ (D5) 30 #[.slice r0 x0 y0,.slice a0 b0 d0,.slice u0 A0 C0,.slice v0 D0 E0,.slice e0 g0 i0,.bool xq0,.slice uqA uql uqc,.bool uq2,.slice uqB uqu uqd]:=aGj (z1) 5 (.bool xq0);have W1:=(U1).setCell (p:=⟨D5,5,none⟩) (show w.heap.size≤D5 by omega) (.bool xq0)
      have X1:=aHk (A1) (by simp[aF,aE]) 6 (.slice xqA xql xqc);have B1:CB _ (D5) 30 #[.slice r0 x0 y0,.slice a0 b0 d0,.slice u0 A0 C0,.slice v0 D0 E0,.slice e0 g0 i0,.bool xq0,.slice xqA xql xqc,.bool uq2,.slice uqB uqu uqd]:=aGj (A1) 6 (.slice xqA xql xqc);have Y1:=(W1).setCell (p:=⟨D5,6,none⟩) (show w.heap.size≤D5 by omega) (.slice xqA xql xqc);have Z1:=aHk (B1) (by simp[aF,aE]) 7 (.bool xq2);have C1:CB _ (D5) 30 #[.slice r0 x0 y0,.slice a0 b0 d0,.slice u0 A0 C0,.slice v0 D0 E0,.slice e0 g0 i0,.bool xq0,.slice xqA xql xqc,.bool xq2,.slice uqB uqu uqd]:=aGj (B1) 7 (.bool xq2);have a2:=(Y1).setCell (p:=⟨D5,7,none⟩) (show w.heap.size≤D5 by omega) (.bool xq2);have b2:=aHk (C1) (by simp[aF,aE]) 8 (.slice xqB xqu xqd);have d2:CB _ (D5) 30 #[.slice r0 x0 y0,.slice a0 b0 d0,.slice u0 A0 C0,.slice v0 D0 E0,.slice e0 g0 i0,.bool xq0,.slice xqA xql xqc,.bool xq2,.slice xqB xqu xqd]:=aGj (C1) 8 (.slice xqB xqu xqd);have e2:=(a2).setCell (p:=⟨D5,8,none⟩) (show w.heap.size≤D5 by omega) (.slice xqB xqu xqd);have hs50:Go.Proofs.YtencnahjgbdeoaaGreatDoor.Soft wS45 wS50:=by rw[hS50];exact vY ((((((R1).trans T1).trans V1).trans X1).trans Z1).trans b2)
      have hg50:∀ g,g≠D5→((((((wS45.setCell ⟨D5,1,none⟩ (.slice a0 b0 d0)).setCell ⟨D5,4,none⟩ (.slice e0 g0 i0)).setCell ⟨D5,5,none⟩ (.bool xq0)).setCell ⟨D5,6,none⟩ (.slice xqA xql xqc)).setCell ⟨D5,7,none⟩ (.bool xq2)).setCell ⟨D5,8,none⟩ (.slice xqB xqu xqd)).heap[g]?=wS45.heap[g]?:=fun g hg=>(aFr _ ⟨D5,8,none⟩ _ g hg).trans ((aFr _ ⟨D5,7,none⟩ _ g hg).trans ((aFr _ ⟨D5,6,none⟩ _ g hg).trans ((aFr _ ⟨D5,5,none⟩ _ g hg).trans ((aFr _ ⟨D5,4,none⟩ _ g hg).trans (aFr _ ⟨D5,1,none⟩ _ g hg)))))
      have hf50:∀ g,g≠D5→wS50.heap[g]?=wS45.heap[g]?:=by rw[hS50];exact EP hg50
      clear hg50;have hC50:CB wS50 (D5) 30 #[.slice r0 x0 y0,.slice a0 b0 d0,.slice u0 A0 C0,.slice v0 D0 E0,.slice e0 g0 i0,.bool xq0,.slice xqA xql xqc,.bool xq2,.slice xqB xqu xqd]:=by rw[hS50];exact aGz (d2)
      have hz50:wS50.heap.size=wS45.heap.size:=by rw[hS50];simp[World.setCell]
      have F2:=zz (show Below w.heap.size w wS50 by rw[hS50];exact aA (e2));clear hS50;have Lxb_s50:CB wS50 (w.heap.size) 30 #[.slice O0 P0 Q0,.slice a0 b0 d0,.slice k0 l0 m0,.slice n0 o0 p0,.slice e0 g0 i0,.bool xq0,.slice xqA xql xqc,.bool xq2,.slice xqB xqu xqd]:=(hf50 _ (by omega)).trans Lxb_s45;have Ldd_s50:CB wS50 (w.heap.size+1) 34 #[.int .u8 r,.int .u8 c,.slice P N.length pa,.slice P' D.length pa']:=(hf50 _ (by omega)).trans Ldd_s45;have Ldc_s50:CB wS50 (w.heap.size+2) 34 #[.int .u8 r2,.int .u8 c2,.slice R N2.length ra,.slice R' D2.length ra']:=(hf50 _ (by omega)).trans Ldc_s45;have Ly_s50:CB wS50 (G5) 30 #[.slice R0 X0 Y0,.slice T0 Z0 a1,.slice U0 b1 d1,.slice V0 e1 g1,.slice W0 h1 i1,.bool yq0,.slice yqA yql yqc,.bool yq2,.slice yqB yqu yqd]:=(hf50 _ (by omega)).trans Ly_s45;have Lz_s50:CB wS50 (E5) 30 #[.slice F0 I0 J0,.slice G0 K0 L0,.slice k0 l0 m0,.slice n0 o0 p0,.slice H0 M0 N0,.bool zq0,.slice zqA zql zqc,.bool zq2,.slice zqB zqu zqd]:=(hf50 _ (by omega)).trans hC45;have Hx_s50:=zz (aJf Hx_s45.o Lw_s45 hf50 hs50);have Hy_s50:=zz (aJf Hy_s45.o Lw_s45 hf50 hs50);have Hu_s50:=zz (aJf Hu_s45.o Lw_s45 hf50 hs50);have m6:=zz (RWX.farT (p6.o.step (aDy _ _)) Lw_s45 hf50 hs50);clear hs50 hf50 R1 y1 S1 T1 z1 U1 V1 A1 W1 X1 B1 Y1 Z1 C1 a2 b2 d2 e2;obtain⟨⟨uh0,uo0⟩,-,uo2,uo3,-,-⟩:=RAWN.parts Hu_s50.o;obtain⟨-,⟨xh1,xo1⟩,-,-,xo4,xo5⟩:=RAWN.parts Hx_s50.o
      have q6:=zz (show RWX wS50 (.agg #[.slice r0 x0 y0,.slice a0 b0 d0,.slice u0 A0 C0,.slice v0 D0 E0,.slice e0 g0 i0,.bool xq0,.slice xqA xql xqc,.bool xq2,.slice xqB xqu xqd]) from RAWN.rwx ⟨_,_,_,_,_,_,_,_,_,_,_,rfl,uo0,xo1,uo2,uo3,xo4,xo5⟩);clear uo0 xo1 uo2 uo3 xo4 xo5;clear hz15 hz18 hz38 hz41 hz45 hz50;have I4:=Lxb_s50.cell 0 rfl;have J4:=Lxb_s50.cell 1 rfl;have K4:=Lxb_s50.cell 2 rfl;have L4:=Lxb_s50.cell 3 rfl;have M4:=Lxb_s50.cell 4 rfl;have N4:=Lxb_s50.cell 5 rfl;have O4:=Lxb_s50.cell 6 rfl;have P4:=Lxb_s50.cell 7 rfl;have Q4:=Lxb_s50.cell 8 rfl;have a6:=Lxb_s50.lt;have R4:=Ly_s50.cell 0 rfl;have S4:=Ly_s50.cell 1 rfl;have T4:=Ly_s50.cell 2 rfl;have U4:=Ly_s50.cell 3 rfl;have V4:=Ly_s50.cell 4 rfl;have W4:=Ly_s50.cell 5 rfl;have X4:=Ly_s50.cell 6 rfl;have Y4:=Ly_s50.cell 7 rfl;have Z4:=Ly_s50.cell 8 rfl;have b6:=Ly_s50.lt;have a5:=Lz_s50.cell 0 rfl;have b5:=Lz_s50.cell 1 rfl;have c5:=Lz_s50.cell 2 rfl;have d5:=Lz_s50.cell 3 rfl;have e5:=Lz_s50.cell 4 rfl;have g5:=Lz_s50.cell 5 rfl;have h5:=Lz_s50.cell 6 rfl;have i5:=Lz_s50.cell 7 rfl;have j5:=Lz_s50.cell 8 rfl;have c6:=Lz_s50.lt;have k5:=hC50.cell 0 rfl;have l5:=hC50.cell 1 rfl;have m5:=hC50.cell 2 rfl;have o5:=hC50.cell 3 rfl;have p5:=hC50.cell 4 rfl;have q5:=hC50.cell 5 rfl;have r5:=hC50.cell 6 rfl;have s5:=hC50.cell 7 rfl;have u5:=hC50.cell 8 rfl;have d6:=hC50.lt;go_wp2;clear I4 J4 K4 L4 M4 N4 O4 P4 Q4 a6 R4 S4 T4 U4 V4 W4 X4 Y4 Z4 b6 a5 b5 c5 d5 e5 g5 h5 i5 j5 c6 k5 l5 m5 o5 p5 q5 r5 s5 u5 d6
      have hal:Below wS50.heap.size wS50 (wS50.alloc (.cells #[.slice O0 P0 Q0,.slice a0 b0 d0,.slice k0 l0 m0,.slice n0 o0 p0,.slice e0 g0 i0,.bool xq0,.slice xqA xql xqc,.bool xq2,.slice xqB xqu xqd,.slice R0 X0 Y0,.slice T0 Z0 a1,.slice U0 b1 d1,.slice V0 e1 g1,.slice W0 h1 i1,.bool yq0,.slice yqA yql yqc,.bool yq2,.slice yqB yqu yqd,.slice F0 I0 J0,.slice G0 K0 L0,.slice k0 l0 m0,.slice n0 o0 p0,.slice H0 M0 N0,.bool zq0,.slice zqA zql zqc,.bool zq2,.slice zqB zqu zqd,.slice r0 x0 y0,.slice a0 b0 d0,.slice u0 A0 C0,.slice v0 D0 E0,.slice e0 g0 i0,.bool xq0,.slice xqA xql xqc,.bool xq2,.slice xqB xqu xqd] 30)):=aB (aDy _ _) _;have r6:=zz (show Below w.heap.size w _ from(F2.o).trans (hal.mono (F2.o).size));have s6:=zz (aEn ((RAWN.rwx Hx_s50.o).step hal) (aEn ((RAWN.rwx Hy_s50.o).step hal) (aEn (m6.o.step hal) (q6.o.step hal))));clear hal
      go_ret;exact⟨r6.o,_,[.slice O0 P0 Q0,.slice a0 b0 d0,.slice k0 l0 m0,.slice n0 o0 p0,.slice e0 g0 i0,.bool xq0,.slice xqA xql xqc,.bool xq2,.slice xqB xqu xqd],[.slice R0 X0 Y0,.slice T0 Z0 a1,.slice U0 b1 d1,.slice V0 e1 g1,.slice W0 h1 i1,.bool yq0,.slice yqA yql yqc,.bool yq2,.slice yqB yqu yqd],[.slice F0 I0 J0,.slice G0 K0 L0,.slice k0 l0 m0,.slice n0 o0 p0,.slice H0 M0 N0,.bool zq0,.slice zqA zql zqc,.bool zq2,.slice zqB zqu zqd],[.slice r0 x0 y0,.slice a0 b0 d0,.slice u0 A0 C0,.slice v0 D0 E0,.slice e0 g0 i0,.bool xq0,.slice xqA xql xqc,.bool xq2,.slice xqB xqu xqd],rfl,s6.o,by simp only[aKs,aNn];exact aHl _ _ _⟩
theorem RWX.len {x:List Value} (h:RWX w (.agg x.toArray)):x.length=9:=by
  obtain⟨a0,b0,c0,d0,e0,qA,qB,f0,g0,h0,i0,j0,k0,l0,m0,n0,o0,ql,qc,qu,qd,q0,q2,A,C,b,d,f,l,e,-⟩:=h;injection e with e
  have:=aIl Array.size e
  simpa using this
theorem raws_at {x y z u:List Value} (h:RWX w (.agg x.toArray)∧RWX w (.agg y.toArray)∧RWX w (.agg z.toArray)∧RWX w (.agg u.toArray)) (hC:CB w g 30 (x++y++z++u).toArray) :
    ∀ i,i<4→∃ cs,RWX w (.agg cs.toArray)∧cellsAt w g (i*9) cs:=by
  obtain⟨h1,h2,h3,h4⟩:=h;have l1:=h1.len;have l2:=h2.len;have l3:=h3.len;have l4:=h4.len;have hc:∀ j v,(x++y++z++u)[j]?=some v→w.cell? ⟨g,j,none⟩=some v:=fun j v hv=>hC.cell j (by simpa using hv)
  intro i hi
  match i,hi with
  | 0,_=>exact⟨x,h1,fun j v hv=>hc _ _ (by
      have hj:=(aGu.1 hv).1;rw[aGv (by simp;omega),aGv (by simp;omega),aGv (by omega),aLf,aIx];exact hv)⟩
  | 1,_=>exact⟨y,h2,fun j v hv=>hc _ _ (by
      have hj:=(aGu.1 hv).1;rw[aGv (by simp;omega),aGv (by simp;omega),aIc (by omega),show 1*9+j-x.length=j by omega];exact hv)⟩
  | 2,_=>exact⟨z,h3,fun j v hv=>hc _ _ (by
      have hj:=(aGu.1 hv).1;rw[aGv (by simp;omega),aIc (by simp;omega),show 2*9+j-(x++y).length=j by simp;omega];exact hv)⟩
  | 3,_=>exact⟨u,h4,fun j v hv=>hc _ _ (by
      have hj:=(aGu.1 hv).1;rw[aIc (by simp;omega),show 3*9+j-(x++y++z).length=j by simp;omega];exact hv)⟩
theorem cellsAt.step {p:Nat} {cs:List Value} (h:cellsAt w g p cs) (h0:0<cs.length) (hb:Below w.heap.size w w'):cellsAt w' g p cs:=
  h.below (iX (h 0 cs[0] (aEh h0))) hb
theorem RWX.open {cs:List Value} (h:RWX w (.agg cs.toArray)):∃ (a0 b0 d0 e0 f0 qA qB:Option Addr) (g0 h0 i0 j0 k0 l0 m0 n0 o0 p0 ql qc qu qd:Nat) (q0 q2:Bool) (A C:List (List QX)) (b d f:List QX) (l:QX),cs=[.slice a0 g0 h0,.slice b0 i0 j0,.slice d0 k0 l0,.slice e0 m0 n0,.slice f0 o0 p0,.bool q0,.slice qA ql qc,.bool q2,.slice qB qu qd] ∧
    QM w w.heap.size (.slice a0 g0 h0) A∧QM w w.heap.size (.slice b0 i0 j0) C∧QS w w.heap.size (.slice d0 k0 l0) b∧QS w w.heap.size (.slice e0 m0 n0) d∧QS w w.heap.size (.slice f0 o0 p0) f∧EQ w w.heap.size [.bool q0,.slice qA ql qc,.bool q2,.slice qB qu qd] l:=by
  obtain⟨a0,b0,d0,e0,f0,qA,qB,g0,h0,i0,j0,k0,l0,m0,n0,o0,p0,ql,qc,qu,qd,q0,q2,A,C,b,d,f,l,e,h⟩:=h;injection e with e
  have e:=aIl Array.toList e;simp only at e
  subst e;obtain⟨s0,s1,s2,s3,s4,c0,c1,c2,c3,e,k⟩:=h.raw;injection e with e
  simp at e
  obtain⟨rfl,rfl,rfl,rfl,rfl,rfl,rfl,rfl,rfl⟩:=e;exact⟨a0,b0,d0,e0,f0,qA,qB,g0,h0,i0,j0,k0,l0,m0,n0,o0,p0,ql,qc,qu,qd,q0,q2,A,C,b,d,f,l,rfl,k⟩
theorem QZ.step {l:List QX} (h:QS w w.heap.size v l) (hb:Below w.heap.size w w'):QS w' w'.heap.size v l:=aHo h aEf hb
theorem QN.step {l:List (List QX)} (h:QM w w.heap.size v l) (hb:Below w.heap.size w w'):QM w' w'.heap.size v l:=aHo h (aFl aEf) hb
theorem alike_same {A B:Option Addr} {c m d:Nat} {l:List QX} {e:Int} (ha:QS w w.heap.size (.slice A n c) l) (hb:QS w w.heap.size (.slice B m d) l) :
    CV 15 #[.slice A n c,.int .i64 e,.slice B m d,.int .i64 e] w fun x _=>x=.returned (.bool true):=by
  have h:=aCe w A B n c m d l l e e ha hb;simp only[decide_true,Bool.and_true] at h
  exact h
section
variable {P:Program}
theorem add_at (g p i:Nat):(⟨g,p,none⟩:Addr).add i=⟨g,p+i,none⟩:=by unfold Addr.add;split <;> simp_all
theorem rlv_at (w:World) (g p:Nat) (ty:TypeId) (cs:List Value) (d:TypeDesc) (h:cellsAt w g p cs)
    (hu:P.underlying ty=some d) (hd:(match d with | .struct _ | .array _ _=>true | _=>false)=true) (hi:(P.info? ty).map (·.size)=some cs.length) :
    (loadVar ty ⟨g,p,none⟩).run P w=.ok (.agg cs.toArray) w:=by
  have hl:(loadCells ⟨g,p,none⟩ cs.length).run P w=.ok cs.toArray w:=
    run_loadCells_list (P:=P) w ⟨g,p,none⟩ cs (fun j v hv=>by rw[add_at];exact h j v hv)
  cases hq:P.info? ty with
  | none=>simp[hq] at hi
  | some i=>
    have hs:i.size=cs.length:=by simpa[hq] using hi
    have hagg:(isAgg ty).run P w=.ok true w:=by
      unfold isAgg;rw[Sem.run_bind,run_underlying hu w];cases d <;> simp_all
    simp[loadVar,Sem.run_bind,hagg,sizeOf,typeInfo,hq,hs,hl]
theorem wld_at {o:Oper} {a:Act} {K:Act→World→Prop} {Q:Exit→Act→World→Prop} (ty:TypeId) (x:Operand) (ho:o.op=.load ty x)
    (g p:Nat) (hx:a.eval x=.pointer (some ⟨g,p,none⟩)) (cs:List Value) (d:TypeDesc) (hg:cellsAt w g p cs)
    (hu:P.underlying ty=some d) (hd:(match d with | .struct _ | .array _ _=>true | _=>false)=true) (hi:(P.info? ty).map (·.size)=some cs.length)
    (h:K (a.put o.dst (.agg cs.toArray)) w):o.wp P a w K Q:=by
  unfold Oper.wp execOp;simp only[ho,hx,Instr.loadAt,Instr.sureAddr,Sem.run_bind,Sem.run_pure,Result.andThen_ok,rlv_at w g p ty cs d hg hu hd hi]
  exact h
theorem wll_at {ops:Array Oper} {rest:List Oper} {o:Oper} {a:Act} {Q:Exit→Act→World→Prop} (hgd:o.guard=none) (ty:TypeId) (x:Operand) (ho:o.op=.load ty x)
    (g p:Nat) (hx:a.eval x=.pointer (some ⟨g,p,none⟩)) (cs:List Value) (d:TypeDesc) (hg:cellsAt w g p cs)
    (hu:P.underlying ty=some d) (hd:(match d with | .struct _ | .array _ _=>true | _=>false)=true) (hi:(P.info? ty).map (·.size)=some cs.length)
    (h:wpList P ops Q rest (a.put o.dst (.agg cs.toArray)) w):wpList P ops Q (o :: rest) a w:=
  wpList_plain hgd fun _ hK=>wld_at ty x ho g p hx cs d hg hu hd hi (hK _ _ h)
end
end Go.Proofs.YtencnahjgbdeoaaGreatDoor
