/- Layer 35: Bound (written by gen_ly.py). -/
import Derived.Test.YtencnahjgbdeoaaGreatDoorLx
import Derived.Test.YtencnahjgbdeoaaGreatDoorLv
namespace Go.Proofs.YtencnahjgbdeoaaGreatDoor
open Go Go.RowKit Dig
set_option maxRecDepth 100000
set_option maxHeartbeats 4000000
set_option linter.unusedSimpArgs false
variable {M Z:List (List QX)} {T:TypeId} {b f:List QX} {w:World}
theorem RY {x:List Rat} {ways:List (List Rat)} {s:List Rat} {l l':Nat} (hx:∀ q∈x,QL l l q) (hs:∀ q∈s,QL l' l' q) (hw:Short l ways) (h1:1≤l) (h2:1≤l') {q:Rat} (hq:q∈kQ x ways s):QL (l+(l'+l+1)*s.length+2) (l+(l'+l+1)*s.length+2) q:=by
 obtain⟨i,hi,rfl⟩:=aKq hq;simp only[kQ,aLb] at hi
 simp only[kQ,aGy]
 have:=DW hx hs hw h1 h2 s.length i;rw[aG hi] at this;exact this
theorem OB.elem3 {g n j:Nat} {l:List Rat} (h:OB 3 ER T w g n l) (hj:j<l.length):∃ xn xA xl xc xB xu xd,E3 w g (j*3) (.bool xn) (.slice xA xl xc) (.slice xB xu xd)∧RV w w.heap.size (.agg #[.bool xn,.slice xA xl xc,.slice xB xu xd]) l[j]:=by
 obtain⟨cs,-,h2,x0,x1,x2,rfl,xn,xA,xl,xc,xB,xu,xd,e,h3⟩:=h.at j hj;injection e with e
 simp at e
 obtain⟨rfl,rfl,rfl⟩:=e;exact⟨xn,xA,xl,xc,xB,xu,xd,E3.of h2,_,_,_,_,_,_,_,rfl,h3⟩
theorem OMV.nil0 {α:Type} {k:Nat} {E:Elem α} {TH:TypeId} {B:Nat}:OMV k E T TH w B (.slice none 0 0) (fun _=>0) (fun _=>0) ([]:List (List α)):=OMV.nil
theorem YT {e:Ending} (h:uU w (MY 1 1) e):∃ v,e=.returned (.tuple #[v,.int .i64 0])∧QV w w.heap.size v 1:=by
 have e1:MY 1 1=(some 1,0):=by
  rw[show MY 1 1=_ from BK (x:=1) (y:=1) (c:=mkRat 1 1) (by decide) (by decide +kernel) (eV (x:=1) (d:=1) (by decide) (by decide +kernel) (by decide +kernel) (by decide +kernel))]
  rfl
 rw[e1] at h;exact h
theorem OM.other {α:Type} {k:Nat} {E:Elem α} {TH t:TypeId} {B tb R b:Nat} {G C:Nat→Nat} {M:List (List α)} {cs:Array Value} (h:OM k E T TH w B tb R G C M) (hb:CB w b t cs) (h1:t≠T) (h2:t≠TH):b≠tb∧∀ i,i<M.length→G i≠b:=by
 have key:∀ {b':Nat} {t':TypeId} {cs':Array Value},CB w b' t' cs'→t≠t'→b'≠b:=fun h' hn e=>by
  subst e;unfold CB at hb h';rw[hb] at h';injection h' with h'
  injection h' with _ h'
  exact hn h'
 obtain⟨arr,h3,-⟩:=h.hdr;refine⟨fun e=>key h3 h2 e.symm,fun i hi=>?_⟩;obtain⟨arr',h4,-⟩:=h.rows i hi;exact key h4 h1
noncomputable def aBl (a:List (List Rat)) (b:List Rat) (t:List (List Rat)) (p:List Nat) (sv:Bool) (n:Nat):Option (List Rat) × Int:=
 if sv=true then
  if gX t p n=[] then fO (eE t p n)
  else match aZ (bB (gH a (gX t p n))) (bG (gH a (gX t p n)) (mN a b (eE t p n))) with
   | some s=>fO (kQ (eE t p n) (gX t p n) s)
   | none=>(none,7)
 else (none,4)
theorem tX:jQ M b Z f=true↔(b.length=M.length∧f.length=Z.length∧(Z.getD 0 []).length=(M.getD 0 []).length):=by
 unfold jQ;simp only[aFs,aHc]
theorem XH {E:Int} {fit:Bool} (hE:E=eF [bD (eA M),bD (dC b),bD (eA Z),bD (dC f)] fit) (hf:fit=jQ M b Z f) :
  (E≠0→iV M b Z f=(none,E))∧(E=0→iV M b Z f=aBl (aK M) (aW b) (elimQ (bM (aK Z) (aW f)) (aM (aK Z))).1 (elimQ (bM (aK Z) (aW f)) (aM (aK Z))).2 (solvQ (elimQ (bM (aK Z) (aW f)) (aM (aK Z))) (aM (aK Z))) (aM (aK Z))∧eA M=true∧dC b=true∧eA Z=true∧dC f=true∧b.length=M.length∧f.length=Z.length∧(Z.getD 0 []).length=(M.getD 0 []).length):=by
 by_cases hv:eA M=true∧dC b=true∧eA Z=true∧dC f=true
 ·obtain⟨h1,h2,h3,h4⟩:=hv;rw[h1,h2,h3,h4] at hE;cases h5:fit with
  | false=>
   rw[h5] at hE hf;have hn:¬ (b.length=M.length∧f.length=Z.length∧(Z.getD 0 []).length=(M.getD 0 []).length):=fun h=>by rw[tX.2 h] at hf;cases hf
   refine⟨fun _=>?_,fun h=>?_⟩
   ·unfold iV;rw[h1,h2,h3,h4,aEv ⟨rfl,rfl,rfl,rfl⟩,aEu hn,hE];rfl
   ·rw[h] at hE;cases hE
  | true=>
   rw[h5] at hE hf;have hp:=tX.1 hf.symm;refine⟨fun h=>absurd hE h,fun _=>⟨?_,h1,h2,h3,h4,hp.1,hp.2.1,hp.2.2⟩⟩;unfold iV;rw[aEv ⟨h1,h2,h3,h4⟩,aEv hp];rfl
 ·have hE':E=350:=by
   rw[hE];cases h1:eA M <;> cases h2:dC b <;> cases h3:eA Z <;> cases h4:dC f <;> first | rfl | exact absurd ⟨h1,h2,h3,h4⟩ hv
  refine⟨fun _=>?_,fun h=>?_⟩
  ·unfold iV;rw[aEu hv,hE']
  ·rw[h] at hE';cases hE'
structure aBr (M:List (List QX)) (b:List QX) (Z:List (List QX)) (T0 t:List (List Rat)) (p:List Nat) (n:Nat):Prop where
 n1:1≤n
 n6:n≤6
 z12:Z.length≤12
 z1:1≤Z.length
 zw:Wide (aK Z) n
 zl:∀ r∈aK Z,r.length=n
 t0l:(aK Z).length=T0.length
 t0w:Wide T0 (n+1)
 t0s:Short 4 T0
 tl:t.length=T0.length
 tw:Wide t (n+1)
 ts:Short (dG p.length) t
 pl:p.length≤t.length
 pn:p.length≤n
 ps:p.Pairwise (· < ·)
 plt:∀ x∈p,x<n
 m12:M.length≤12
 m1:1≤M.length
 mw:Wide (aK M) n
 ms:Short 4 (aK M)
 bs:∀ q∈aW b,QL 4 4 q
theorem MP {X:Prop} (hr:X) (h1:eA M=true) (h2:dC b=true) (h3:eA Z=true) (h4:dC f=true) (_h5:b.length=M.length) (_h6:f.length=Z.length) (h7:(Z.getD 0 []).length=(M.getD 0 []).length) :
  X∧aBr M b Z (bM (aK Z) (aW f)) (elimQ (bM (aK Z) (aW f)) (aM (aK Z))).1 (elimQ (bM (aK Z) (aW f)) (aM (aK Z))).2 (aM (aK Z)):=by
 obtain⟨-,ms,mw,m1,m12,-,-⟩:=jM h1;obtain⟨-,bs,-,-⟩:=fM h2;obtain⟨-,zs,zw,z1,z12,w1,w2⟩:=jM h3;obtain⟨-,fs,-,-⟩:=fM h4;have hw:aM (aK Z)=aM (aK M):=by rw[mU,mU,h7]
 have hs:=pO zs fs (by decide);have hp:=jG (bM (aK Z) (aW f)) (aM (aK Z));have ho:=mL (bM (aK Z) (aW f)) (aM (aK Z));exact⟨hr,⟨w1,w2,z12,z1,zw,fun r hr=>zw r hr,by simp[bM],sF zw,hs,eL _ _,(sF zw).elim _,hs.elim (by decide) _,by rw[eL];exact hp.1,hp.2,ho.1,ho.2,m12,m1,by rw[hw];exact mw,ms,bs⟩⟩
theorem mJ (w:World) (A B D0 F0:Option Addr) (na ca nb cb nc cc nf cf:Nat) (M:List (List QX)) (b:List QX) (Z:List (List QX)) (f:List QX) (ha:QM w w.heap.size (.slice A na ca) M) (hb:QS w w.heap.size (.slice B nb cb) b) (hc:QM w w.heap.size (.slice D0 nc cc) Z) (hf:QS w w.heap.size (.slice F0 nf cf) f) :
  CV 26 #[.slice A na ca,.slice B nb cb,.slice D0 nc cc,.slice F0 nf cf] w fun e w'=>mS w' (iV M b Z f) e:=by
 obtain⟨rfl,hn1,hn2⟩:=aHb ha;obtain⟨rfl,hm1,hm2⟩:=aHb hb;obtain⟨rfl,o3,p3⟩:=aHb hc;obtain⟨rfl,hj1,hj2⟩:=aHb hf;have HQ:=zz ha;have HS:=zz hb;have c8:=zz hc;have d8:=zz hf;clear ha hb hc hf;obtain⟨w0,hw0⟩:=ex ((((w.alloc (.cells #[.slice A M.length ca] 22)).alloc (.cells #[.slice B b.length cb] 23)).alloc (.cells #[.slice D0 Z.length cc] 22)).alloc (.cells #[.slice F0 f.length cf] 23));have B0:=zz (aAu hw0);have z0:=aAt hw0;have La:=aAy hw0;have Lb:=aAx hw0;have Lc:=aAw hw0;have Lf:=aAv hw0;have X3:=zz (HQ.o.step (aFl aEf) B0.o);have Y3:=zz (HS.o.step aEf B0.o);have e4:=zz (c8.o.step (aFl aEf) B0.o);have y4:=zz (d8.o.step aEf B0.o);have HA:=zz La;have HB:=zz Lb;have HC:=zz Lc;have HF:=zz Lf;obtain⟨fit,hfit⟩:=ex (α:=Bool) (jQ M b Z f);have j5:=zz hfit;clear hfit;obtain⟨E,hE⟩:=ex (eF [bD (eA M),bD (dC b),bD (eA Z),bD (dC f)] fit);have I6:=zz hE;clear hE;go_enter Tryz.func26,Tryz.ntmps26
 go_upto_region 2 with (fail)
 rw[← hw0];clear hw0;refine aFq [se 0 36 [] (.func (.func 69) #[] #[.pointer (some ⟨w.heap.size+1,0,none⟩),.pointer (some ⟨w.heap.size,0,none⟩),.pointer (some ⟨w.heap.size+3,0,none⟩),.pointer (some ⟨w.heap.size+2,0,none⟩)]),se 1 37 [] (.slice A M.length ca),se 2 38 [1] (.int .i64 (bD (eA M))),se 3 39 [] (.slice B b.length cb),se 4 40 [3] (.int .i64 (bD (dC b))),se 5 41 [] (.slice D0 Z.length cc),se 6 42 [5] (.int .i64 (bD (eA Z))),se 7 43 [] (.slice F0 f.length cf),se 8 44 [7] (.int .i64 (bD (dC f))),sf 9 45 [2,4,6,8] (fun fv fw=>∃ zb,fv=.slice (some ⟨zb,0,none⟩) 4 4∧CB fw zb 40 #[.int .i64 (bD (eA M)),.int .i64 (bD (dC b)),.int .i64 (bD (eA Z)),.int .i64 (bD (dC f))]),se 10 46 [0,9] (.int .i64 E)] 1 (SB HA.o (SB HB.o (SB HC.o (SB HF.o S0)))) (MA (fun _ _ _ h hb=>let ⟨b,e,h⟩:=h;⟨b,e,h.step hb⟩) aFi) ?_ ?_
 ·intro xs a_ hA;simp only[SX,↓reduceIte,Nat.reduceEqDiff,Nat.reduceAdd] at hA⊢;subst hA;and_intros
  all_goals intro wk b_ z_
  all_goals try exact pl
  ·intro f1;intros;refine wo fun K hK=>?_;go_simp;(with_reducible refine(gA _ A _ ca M (X3.o.step (aFl aEf) b_.o)).mono ?_)
   rintro e wc1 ⟨X2,rfl⟩;refine hK _ _ ⟨_,by simp only[FL,f1] <;> kernel_rfl,X2,rfl⟩
  ·intro f3;intros;refine wo fun K hK=>?_;go_simp;(with_reducible refine(fS _ B _ cb b (Y3.o.step aEf b_.o)).mono ?_)
   rintro e wc2 ⟨Y2,rfl⟩;refine hK _ _ ⟨_,by simp only[FL,f3] <;> kernel_rfl,Y2,rfl⟩
  ·intro f5;intros;refine wo fun K hK=>?_;go_simp;(with_reducible refine(gA _ D0 _ cc Z (e4.o.step (aFl aEf) b_.o)).mono ?_)
   rintro e wc3 ⟨a0,rfl⟩;refine hK _ _ ⟨_,by simp only[FL,f5] <;> kernel_rfl,a0,rfl⟩
  ·intro f7;intros;refine wo fun K hK=>?_;go_simp;(with_reducible refine(fS _ F0 _ cf f (y4.o.step aEf b_.o)).mono ?_)
   rintro e wc4 ⟨Z2,rfl⟩;refine hK _ _ ⟨_,by simp only[FL,f7] <;> kernel_rfl,Z2,rfl⟩
  ·intro f2 f4 f6 f8;intros;refine wo fun K hK=>?_;go_simp;refine hK _ _ ⟨.slice (some ⟨wk.heap.size,0,none⟩) 4 4,by simp only[FL,f2,f4,f6,f8] <;> kernel_rfl,(aDy _ _).alloc (aEa _) _,⟨_,rfl,aHl _ _ _⟩⟩
  ·intro f0 f9;intros;refine wo fun K hK=>?_;obtain⟨b9,e9,h9⟩:=f9;rw[e9];go_simp;(with_reducible refine((show Calls Tryz.prog _ _ _ _ from I6.o▸jF _ 69 #[.pointer (some ⟨w.heap.size+1,0,none⟩),.pointer (some ⟨w.heap.size,0,none⟩),.pointer (some ⟨w.heap.size+3,0,none⟩),.pointer (some ⟨w.heap.size+2,0,none⟩)] fit _ 4 4 [bD (eA M),bD (dC b),bD (eA Z),bD (dC f)] (kX h9 [_,_,_,_] rfl (by simp)) (by simp) CH (fun hz w9 k0=>j5.o▸CI w9 _ _ _ _ A B D0 F0 ca cb cc cf M b Z f (aEd HA.o (b_.o.trans (k0.mono b_.o.size))) (X3.o.step (aFl aEf) (b_.o.trans (k0.mono b_.o.size))) (oC (qP (hz _ (by simp)))) (aEd HB.o (b_.o.trans (k0.mono b_.o.size))) (aEd HC.o (b_.o.trans (k0.mono b_.o.size))) (e4.o.step (aFl aEf) (b_.o.trans (k0.mono b_.o.size))) (oC (qP (hz _ (by simp)))) (aEd HF.o (b_.o.trans (k0.mono b_.o.size)))))).mono ?_)
   rintro e wc5 ⟨a3,rfl⟩;refine hK _ _ ⟨_,by simp only[FL,f0,e9] <;> kernel_rfl,a3,rfl⟩
 ·intro xs O3 B7 z7;simp only[SY];have d0:=tr B0 B7;generalize xs 9=x9;rintro f9;obtain⟨bs9,rfl,Lb9⟩:=f9;refine EN 11 rfl fun K hK=>?_
  go_simp;refine hK _ _ ?_;clear hK K;(try simp only[PT])
  refine ED ?_;(try simp only[Exit.then])
  have hsa:=XH I6.o j5.o;by_cases hE0:E=0
  case neg=>
   have hx:(E != 0)=true:=by rw[aJg];exact hE0
   have HR:=zz (hsa.1 hE0);clear hE0 hsa;go_wp2;go_ret2;exact⟨d0.o,by rw[HR.o];exact⟨_,rfl,rfl⟩⟩
  case pos=>
   obtain⟨hr,h1,h2,h3,h4,h5,h6,h7⟩:=hsa.2 hE0;subst hE0;obtain⟨hr,BD⟩:=MP hr h1 h2 h3 h4 h5 h6 h7;obtain⟨n,hn⟩:=ex (aM (aK Z));obtain⟨T0,hT0⟩:∃ T,T=bM (aK Z) (aW f):=⟨_,rfl⟩;rw[← hn,← hT0] at hr BD;obtain⟨t,p,he⟩:∃ t p,elimQ T0 n=(t,p):=⟨_,_,rfl⟩;rw[he] at hr BD;simp only at hr BD;have H1:=zz h1;have H2:=zz h2;have H3:=zz h3;have H4:=zz h4;have H5:=zz h5;have H6:=zz h6;have HR:=zz hr;have HE:=zz he;have e8:=zz hT0;have HD:=zz BD;have HN:=zz hn;clear h1 h2 h3 h4 h5 h6 h7 hr he hT0 BD hn hsa;have hnn:(n:Int)≤6∧(1:Int)≤(n:Int):=by have:=HD.o.n1;have:=HD.o.n6;omega
   go_upto_region 5 with (fail)
   have s1:=aEd HA.o B7.o;have t1:=aEd HB.o B7.o;have u1:=aEd HC.o B7.o;have v1:=aEd HF.o B7.o;have J6:=zz (X3.o.step (aFl aEf) B7.o);have K6:=zz (Y3.o.step aEf B7.o);have l5:=zz (e4.o.step (aFl aEf) B7.o);have m5:=zz (y4.o.step aEf B7.o);have o5:=zz s1;have E0:=zz t1;have p5:=zz u1;have q5:=zz v1;have g8:=zz (d0.o);refine aMe [se 0 50 [] (.slice D0 Z.length cc),sf 1 51 [0] (fun fv fw=>∃ A n c,fv=.slice A n c∧RM fw fw.heap.size (.slice A n c) (aK Z)),se 2 52 [] (.slice F0 f.length cf),sf 3 53 [2] (fun fv fw=>∃ A n c,fv=.slice A n c∧RS fw fw.heap.size (.slice A n c) (aW f)),sf 4 54 [1,3] (fun fv fw=>∃ tb R G C,fv=.agg #[.slice (some ⟨tb,0,none⟩) T0.length R]∧R≤9223372036854775807∧OM 3 ER 88 65 fw O3.heap.size tb R G C T0),sf 5 12 [] (fun fv fw=>∃ b,fv=.pointer (some ⟨b,0,none⟩)∧CB fw b 100 #[.slice none 0 0])] [] [5] 1 (SB p5.o (SB q5.o S0)) (MA (fun _ _ _ h hb=>let ⟨A,n,c,e,h⟩:=h;⟨A,n,c,e,aHo h (aFl aEw) hb⟩) (MA (fun _ _ _ h hb=>let ⟨A,n,c,e,h⟩:=h;⟨A,n,c,e,aHo h (aEw) hb⟩) (MA (fun _ _ _ h hb=>let ⟨tb,R,G,C,e,h1,h2⟩:=h;⟨tb,R,G,C,e,h1,h2.step aEw hb⟩) (MA (fun _ _ _ h hb=>let ⟨b,e,h⟩:=h;⟨b,e,h.step hb⟩) aFi)))) ?_ ?_ ?_
   ·intro xs a_ hA;simp only[SX,↓reduceIte,Nat.reduceEqDiff,Nat.reduceAdd] at hA⊢;subst hA;and_intros
    all_goals intro wk b_ z_
    all_goals try exact pn
    ·intro f0;intros;refine wo fun K hK=>?_;go_simp;(with_reducible refine(fF _ D0 _ cc Z (l5.o.step (aFl aEf) b_.o) H3.o).mono ?_)
     rintro e wc14 ⟨v2,g14,G14,C14,rfl,hom14⟩;refine hK _ _ ⟨.slice (some ⟨g14,0,none⟩) Z.length Z.length,by simp only[FL,f0] <;> kernel_rfl,v2,⟨_,_,_,rfl,slM hom14 (by have:=HD.o.z12;omega)⟩,nF⟩
    ·intro f2;intros;refine wo fun K hK=>?_;go_simp;(with_reducible refine(iH _ F0 _ cf f (m5.o.step aEf b_.o) H4.o).mono ?_)
     rintro e wc15 ⟨w2,g15,rfl,hgl15,hol15⟩;refine hK _ _ ⟨.slice (some ⟨g15,0,none⟩) f.length f.length,by simp only[FL,f2] <;> kernel_rfl,w2,⟨_,_,_,rfl,slR hol15 (by have:=HD.o.z12;have:=H6.o;omega)⟩,nF⟩
    ·intro f1 f3;intros;refine wo fun K hK=>?_;obtain⟨A1,n1,c1,e1,h1⟩:=f1;obtain⟨A3,n3,c3,e3,h3⟩:=f3;rw[e1,e3];go_simp;(with_reducible refine(CU _ _ _ _ _ _ _ (aK Z) (aW f) h1 h3 (by rw[aK,aEb];exact oC H3.o) (by rw[aK,aW,aEb,aEb,H6.o];exact aEa _) (fun r hr=>by rw[HD.o.zl r hr];omega) (by rw[aK,aEb];have:=HD.o.z12;omega)).mono ?_)
     rintro e wc16 ⟨y2,tb16,R16,G16,C16,rfl,hR16,hom16⟩;refine hK _ _ ⟨.agg #[.slice (some ⟨tb16,0,none⟩) (aK Z).length R16],by simp only[FL,e1,e3] <;> kernel_rfl,y2,⟨tb16,R16,G16,C16,by rw[HD.o.t0l],hR16,by rw[e8.o];exact hom16.weak (by omega)⟩,nF⟩
    ·intros
     refine wo fun K hK=>?_;go_simp;refine hK _ _ ⟨.pointer (some ⟨wk.heap.size,0,none⟩),by kernel_rfl,(aDy _ _).alloc (aEa _) _,⟨_,rfl,aHl _ _ _⟩,fun _=>⟨_,rfl,aEa _,by simp⟩⟩
   ·exact fun _ _ _=>aFi
   ·intro xs r5 hbf _ hn hd;simp only[SY];have n5:=hn 5 (by decide);clear hn hd;have B18:=hbf;have z18:=B18.o.size;have z2:=tr d0 B18;clear hbf;generalize xs 1=x1,xs 3=x3,xs 4=x4,xs 5=x5 at *
    rintro f1 f3 f4 f5;clear f1;clear f3;obtain⟨tb,R,G,C,rfl,hR,hom⟩:=f4;have R3:=zz hom;have h8:=zz hR;clear hom hR;obtain⟨u3,rfl,v3⟩:=f5;have g4:=zz (show O3.heap.size≤u3 by obtain⟨b',e,h,-⟩:=n5;injection e with e;injection e with e;injection e with e _ _;omega);clear n5;have y6:=v3.lt;have z6:=g4.o;have y1:=v3.cell 0 rfl;have s5:=v3.lt;have B1:=v3.frozen 0;have t5:=v3.lt;refine EN 6 rfl fun K hK=>?_;go_simp;refine hK _ _ ?_;clear hK K;(try simp only[PT])
    clear y1 s5 B1 t5;refine ED ?_;(try simp only[Exit.then])
    have hft:=OM.other R3.o v3 (by decide) (by decide);have p4:=zz hft;clear hft;have C1:=aEd o5.o B18.o;have D1:=aEd E0.o B18.o;have E1:=aEd p5.o B18.o;have F1:=aEd q5.o B18.o;obtain⟨w28,b0⟩:=ex (r5.setCell ⟨u3,0,none⟩ (.slice (some ⟨tb,0,none⟩) T0.length R));rw[← b0];have S28:=zz (show Soft r5 w28 by rw[b0];exact aHk (v3) (by simp[aF,aE]) 0 (.slice (some ⟨tb,0,none⟩) T0.length R));have d3:=iQ b0 C1 ((by omega));have i3:=iQ b0 D1 ((by omega));have j3:=iQ b0 E1 ((by omega));have k3:=iQ b0 F1 ((by omega));have G1:CB w28 (u3) 100 #[.slice (some ⟨tb,0,none⟩) T0.length R]:=by rw[b0];exact(show CB _ (u3) 100 #[.slice (some ⟨tb,0,none⟩) T0.length R] from aGj (v3) 0 (.slice (some ⟨tb,0,none⟩) T0.length R))
    have l3:=zz (qM b0 z2.o (by omega));have S3:=zz (show OM 3 ER 88 65 w28 O3.heap.size tb R G C T0 by rw[b0];exact OM.turns (S:=fun b=>b=u3) R3.o aKb (Turns.set (cs:=[_]) rfl (aHk v3 (by simp[aF,aE]) 0 _)) ⟨fun e=>p4.o.1 e.symm,p4.o.2⟩);have G0:=zz (show Below O3.heap.size O3 w28 by rw[b0];exact bS (b:=u3) (p:=0) (cs:=[_]) (by omega) B18.o);have m3:=xQ b0;clear b0;have q4:=zz G1;have hz6:O3.heap.size≤w28.heap.size:=G0.o.size;have hbt6:=q4.o.lt;obtain⟨S,hS⟩:=ex (α:=Nat→Prop) (fun b=>b=tb∨∃ i,i<T0.length∧G i=b)
    have hs1:∀ b,S b→b<w28.heap.size∧O3.heap.size≤b∧b≠u3:=by
     rw[hS];rintro b (rfl | ⟨i,hi,rfl⟩)
     ·exact⟨S3.o.lt,S3.o.low,fun e=>p4.o.1 e.symm⟩
     ·exact⟨S3.o.rowlt hi,(S3.o.apart i hi).2,p4.o.2 i hi⟩
    have hs2:S tb∧∀ i,i<T0.length→S (G i):=by rw[hS];exact⟨.inl rfl,fun i hi=>.inr ⟨i,hi,rfl⟩⟩
    have HS1':=zz hs1;have L6:=zz hs2;clear hS hs1 hs2 p4 R3;have hrr:T0.length≤R∧R≤9223372036854775807:=⟨by have:=S3.o.hdr.len;rwa [aV] at this,h8.o⟩;have u5:=zz hrr;clear hrr;have htm:0<T0.length:=by rw[← HD.o.t0l,aK,aEb];exact HD.o.z1
    have v5:Hi (T0.length≤12):=zz (by rw[← HD.o.t0l,aK,aEb];exact HD.o.z12);have I1:=q4.o.cell 0 rfl;have w5:=q4.o.lt;go_wp2_with fail
    refine(wF w28 tb R O3.heap.size R G C T0 n 4 S u5.o S3.o HD.o.t0w htm L6.o (fun b hb=>(HS1'.o b hb).1) HD.o.t0s (by decide) (aEg (aFf 3 (cE HD.o.n6)) (by decide)) ⟨by have:=v5.o;omega,by omega⟩).mono ?_;rintro e w7 ⟨v7,G3,C3,rfl,hv,ht,ho,-⟩;clear I1 w5;rw[HE.o] at hv ho ⊢;simp only at hv ho;obtain⟨Ap,cp,rfl⟩:=RI.slice hv;rw[aC];rw[aC] at hv;have i0:=zz (G0.o.trans (ht.below hz6 (fun b hb=>(HS1'.o b hb).2.1)));have z7:=ht.size;have T4:Hi (CB w7 u3 100 #[.slice (some ⟨tb,0,none⟩) t.length R]):=zz (by rw[HD.o.tl];exact q4.o.turns ht (fun h=>(HS1'.o _ h).2.2 rfl));have t2:=tr g8 i0;have M6:=zz hv;have y5:=zz (OM.mapE ho fun _ _ h=>ERo.ofNone h);have D7:=zz (show t.length≤R∧R≤9223372036854775807 from HD.o.tl▸u5.o);have htm7:0<t.length:=HD.o.tl▸htm;rw[← HD.o.tl];clear hv ht ho S3 q4 HS1' L6 u5 htm hbt6;have N6:=zz (J6.o.step (aFl aEf) i0.o);have O6:=zz (K6.o.step aEf i0.o);have P6:=st aEd o5 i0;have HB7':=st aEd E0 i0;clear J6 K6 o5 E0 l5 m5 p5 q5 X3 Y3 e4 y4 HA HB HC HF;obtain⟨sv,hsv⟩:=ex (solvQ (t,p) n);rw[← hsv] at HR;rw[← hsv];clear hsv;have htt:(t.length:Int)≤12:=by have:=v5.o;have:=HD.o.tl;omega
    have hpp:p.length≤t.length∧p.length≤n:=⟨HD.o.pl,HD.o.pn⟩;cases sv
    case false=>
     have U4:=zz (HR.o.trans (aEu Bool.false_ne_true));clear HR;go_wp2;go_ret2;exact⟨t2.o,by rw[U4.o];exact⟨_,rfl,rfl⟩⟩
    case true=>
     have U4:=zz (HR.o.trans (aEv rfl));clear HR;have J1:=T4.o.cell 0 rfl;have z5:=T4.o.lt;go_wp2_with fail
     refine(nx t2 (zE w7 tb R _ _ G3 C3 t n y5.o HD.o.tw htm7 D7.o)).mono ?_;rintro e w31 ⟨⟨B32,z32,A2⟩,rfl⟩;clear J1 z5;have d0:=zz A2.o;have A5:=zz (aJx y5.o aIk B32.o);have B5:=zz (M6.o.step B32.o);have V4:=st aEd T4 B32;have Q6:=zz (N6.o.step (aFl aEf) B32.o);have R6:=zz (O6.o.step aEf B32.o);have S6:=st aEd P6 B32;have HB8':=st aEd HB7' B32;clear y5 M6 T4 N6 O6 P6 HB7';have hmk:=UH n (by omega) w31;have Z3:=zz (DX w31 n);have T3:=zz (aB (aDy w31.heap.size w31) (.cells (madeCells #[.bool false,.slice none 0 0,.slice none 0 0] (n*3)) 88));go_wp2;clear hmk;go_loopw [68] (fun iv wr=>∃ j:Nat,j≤n∧iv=.int .i64 j∧Hi (OB 3 ER 88 wr w31.heap.size n ((eE t p n).take j))∧Hi (Below w31.heap.size w31 wr)) (fun iv _=>n-(intOf iv).toNat)
     case atStart=>exact⟨0,aEy _,rfl,Z3,T3⟩
     case round=>
      obtain⟨j,hj,rfl,HO,HW⟩:=hrel;have zr:=HW.o.size;by_cases hlt:j<n
      ·skip
       have hjl:((eE t p n).take j).length=j:=by rw[aEk,pV];omega
       have hpt:=IK (t:=t) (p:=p) hlt;have B3:=zz hpt;have F3:=zz hjl;clear hpt hjl;generalize (eE t p n).take j=l at HO B3 F3;have hji:(0:Int)≤(j:Int)∧(j:Int)<(n:Int):=by omega
       go_wp2_with fail
       refine(nx HW (qT _)).mono ?_;rintro e w34 ⟨⟨B35,z35,B2⟩,v,rfl,hv⟩;obtain⟨A4,B4,C4,D4,E4,l0,F4,rfl,ha37,J0,hc37⟩:=hv;have K1:Hi (RV w34 w34.heap.size (.agg #[.bool A4,.slice B4 C4 D4,.slice E4 l0 F4]) 0):=zz (aMd ha37 J0 hc37);clear ha37 J0 hc37;have w3:=zz (aKi HO.o aEw B35.o);have r4:=zz B2.o;obtain⟨o0,ho0⟩:=aIy w3.o (p:=j*3) (by omega);obtain⟨o1,ho1⟩:=aIy w3.o (p:=j*3+1) (by omega);obtain⟨o2,ho2⟩:=aIy w3.o (p:=j*3+2) (by omega);have fz0:=aHn w3.o (j*3);have fz1:=aHn w3.o (j*3+1);have fz2:=aHn w3.o (j*3+2);have flt:=OB.lt w3.o;go_wp2_with fail
       clear ho0 ho1 ho2 fz0 fz1 fz2 flt;obtain⟨w38,n0⟩:∃ v:World,v=(((w34.setCell ⟨w31.heap.size,j*3,none⟩ (.bool A4)).setCell ⟨w31.heap.size,j*3+1,none⟩ (.slice B4 C4 D4)).setCell ⟨w31.heap.size,j*3+2,none⟩ (.slice E4 l0 F4)):=⟨_,rfl⟩;rw[← n0];obtain⟨hp1,hp2,hp3⟩:=OB.push1 (B:=w31.heap.size) (j:=j) w3.o F3.o.symm hlt K1.o (aEa _);rw[show aN w34 (w31.heap.size) (j*3) [.bool A4,.slice B4 C4 D4,.slice E4 l0 F4]=w38 from n0.symm] at hp1 hp2 hp3;clear n0;have U3:=zz hp1;have L3:=zz (r4.o.trans hp2);clear hp1 hp2 hp3 w3 r4;have z10:=L3.o.size;refine(nx L3 (qD _ Ap p.length cp (ni p) (j:Int) (B5.o.step L3.o))).mono ?_;rintro e w39 ⟨⟨B40,z40,D2⟩,rfl⟩;have y3:=zz (aKi U3.o aEw B40.o);have z3:=zz D2.o;clear U3;rw[UJ];by_cases hjp:j∈p
       ·rw[aEv hjp];obtain⟨i,hi⟩:=ex (p.idxOf j);have hip:i<p.length:=by rw[hi];exact List.idxOf_lt_length_iff.2 hjp
        have hpe:JN t p n j=bP t i n:=by rw[hi];exact aEv hjp
        rw[← hi];rw[hpe] at B3;clear hpe hi;have hit:i<t.length:=by omega
        have hii:(0:Int)≤(i:Int)∧(i:Int)<(t.length:Int):=by omega
        have hn1':(n:Int)<((n+1:Nat):Int):=by omega
        have hn0:(0:Int)≤(n:Int):=by omega
        have HOt:=zz (aJx A5.o aIk z3.o);have qh:=aMn HOt.o HD.o.tw hit;have qc:=aMi HOt.o HD.o.tw hit;obtain⟨xn,xA,xl,xc,xB,xu,xd,hE,hv⟩:=OM.elem HOt.o HD.o.tw hit (show n<n+1 by omega);have V3:=zz hv;clear hv;have qt:=(aEd V4.o z3.o).cell 0 rfl;have ql:=(aEd V4.o z3.o).lt;have qe0:=ez3 hE;have qtl:=HOt.o.lt;obtain⟨o0,ho0⟩:=aIy y3.o (p:=j*3) (by omega);obtain⟨o1,ho1⟩:=aIy y3.o (p:=j*3+1) (by omega);obtain⟨o2,ho2⟩:=aIy y3.o (p:=j*3+2) (by omega);have fz0:=aHn y3.o (j*3);have fz1:=aHn y3.o (j*3+1);have fz2:=aHn y3.o (j*3+2);have flt:=OB.lt y3.o;obtain⟨hp1,hp2,hp3⟩:=OB.put1 (B:=w31.heap.size) (j:=j) y3.o (by rw[aEp,F3.o];simp) V3.o (aEa _);rw[show(l++[(0:Rat)]).set j (bP t i n)=l++[bP t i n] by rw[← F3.o];simp,← B3.o] at hp1;have I3:=zz hp1;have s4:=zz (z3.o.trans hp2);clear hp1 hp2 hp3;go_wp2;go_roundw
        case rel=>exact⟨j+1,hlt,by go_num,I3,s4⟩
        case measure=>exact ms
       ·rw[aEu hjp];have hpe:JN t p n j=0:=aEu hjp;rw[hpe] at B3;have I3:Hi (OB 3 ER 88 w39 w31.heap.size n ((eE t p n).take (j+1))):=zz (by rw[B3.o];exact y3.o);go_wp2;go_roundw
        case rel=>exact⟨j+1,hlt,by go_num,I3,z3⟩
        case measure=>exact ms
      ·obtain rfl:n=j:=by omega
       rw[aFa (by rw[pV];exact aEa _)] at HO
       rename World=>wA
       have T6:=tr d0 HW;have C5:=zz HO.o;have U6:=zz (aJx A5.o aIk HW.o);have D5:=zz (B5.o.step HW.o);have V6:=st aEd V4 HW;have W6:=zz (Q6.o.step (aFl aEf) HW.o);have X6:=zz (R6.o.step aEf HW.o);have Y6:=st aEd S6 HW;have Z6:=st aEd HB8' HW;have hgA:=HO.o.lt;clear d0 A5 B5 V4 Q6 R6 S6 HB8' HO HW Z3 T3 hj hlt;have hgaw:w.heap.size≤w31.heap.size:=by omega
       obtain⟨ga,hga⟩:∃ g,g=w31.heap.size:=⟨_,rfl⟩;rw[← hga] at C5 hgA hgaw ⊢;have E8:=zz hga;clear hga;obtain⟨ir,hir,hzr,hsr,hbr⟩:=aGf nB;have E5:=zz (aDy wA.heap.size wA);go_wp2;go_loopw [17,93] (fun ov iv wr=>∃ (j:Nat) (GW CW:Nat→Nat),j≤n∧iv=.int .i64 j∧Hi (OMV 3 ER 88 65 wr wA.heap.size ov GW CW (iT t p n j))∧Hi (Below wA.heap.size wA wr)) (fun _ iv _=>n-(intOf iv).toNat)
       case atStart=>exact⟨0,_,_,aEy _,rfl,zz OMV.nil0,E5⟩
       case round=>
        obtain⟨j,GW,CW,hj,rfl,HO,HW⟩:=hrel;have zr:=HW.o.size;by_cases hlt:j<n
        ·skip
         have hji:(0:Int)≤(j:Int)∧(j:Int)<(n:Int):=by omega
         go_wp2_with fail
         refine(nx HW (yD _ Ap p.length cp (ni p) (j:Int) (D5.o.step HW.o))).mono ?_;rintro e w42 ⟨⟨B43,z43,E2⟩,rfl⟩;have i4:=zz (aNg HO.o aEw B43.o);have N3:=zz E2.o;clear HO HW;rw[aBh];by_cases hjp:j∈p
         ·rw[aEj hjp];have E7:Hi (OMV 3 ER 88 65 w42 wA.heap.size u17 GW CW (iT t p n (j+1))):=zz (by rw[PQ hjp];exact i4.o);go_wp2;go_roundw
          case rel=>exact⟨j+1,GW,CW,hlt,by go_num,E7,N3⟩
          case measure=>exact ms
         ·rw[aEe hjp];have hmk:=UH n (by omega) w42;have hbm:Below w42.heap.size w42 (w42.alloc (.cells (madeCells #[.bool false,.slice none 0 0,.slice none 0 0] (n*3)) 88)):=aB (aDy _ _) _;have Z3:=zz (DX w42 n);have T3:=zz hbm;clear hbm;go_wp2;clear hmk;go_loopw [103] (fun iv wr=>∃ i:Nat,i≤n∧iv=.int .i64 i∧Hi (OB 3 ER 88 wr w42.heap.size n ((qL t p n j).take i))∧Hi (Below w42.heap.size w42 wr)) (fun iv _=>n-(intOf iv).toNat)
          case atStart=>exact⟨0,aEy _,rfl,Z3,T3⟩
          case round=>
           obtain⟨i,hi,rfl,HO,HW⟩:=hrel;have zr':=HW.o.size;by_cases hit:i<n
           ·skip
            have hjl:((qL t p n j).take i).length=i:=by rw[aEk,qX];omega
            have hpt:=PU (t:=t) (p:=p) (j:=j) hit;have B3:=zz hpt;have F3:=zz hjl;clear hpt hjl;generalize (qL t p n j).take i=l at HO B3 F3;have hii:(0:Int)≤(i:Int)∧(i:Int)<(n:Int):=by omega
            go_wp2_with fail
            refine(nx HW (qT _)).mono ?_;rintro e w45 ⟨⟨B46,z46,F2⟩,v,rfl,hv⟩;obtain⟨G4,I4,J4,K4,L4,m0,M4,rfl,ha48,N0,hc48⟩:=hv;have L1:Hi (RV w45 w45.heap.size (.agg #[.bool G4,.slice I4 J4 K4,.slice L4 m0 M4]) 0):=zz (aMd ha48 N0 hc48);clear ha48 N0 hc48;have w3:=zz (aKi HO.o aEw B46.o);have r4:=zz F2.o;obtain⟨o0,ho0⟩:=aIy w3.o (p:=i*3) (by omega);obtain⟨o1,ho1⟩:=aIy w3.o (p:=i*3+1) (by omega);obtain⟨o2,ho2⟩:=aIy w3.o (p:=i*3+2) (by omega);have fz0:=aHn w3.o (i*3);have fz1:=aHn w3.o (i*3+1);have fz2:=aHn w3.o (i*3+2);have flt:=OB.lt w3.o;go_wp2_with fail
            clear ho0 ho1 ho2 fz0 fz1 fz2 flt;obtain⟨w49,p0⟩:∃ v:World,v=(((w45.setCell ⟨w42.heap.size,i*3,none⟩ (.bool G4)).setCell ⟨w42.heap.size,i*3+1,none⟩ (.slice I4 J4 K4)).setCell ⟨w42.heap.size,i*3+2,none⟩ (.slice L4 m0 M4)):=⟨_,rfl⟩;rw[← p0];obtain⟨hp1,hp2,hp3⟩:=OB.push1 (B:=w42.heap.size) (j:=i) w3.o F3.o.symm hit L1.o (aEa _);rw[show aN w45 (w42.heap.size) (i*3) [.bool G4,.slice I4 J4 K4,.slice L4 m0 M4]=w49 from p0.symm] at hp1 hp2 hp3;clear p0;have U3:=zz hp1;have L3:=zz (r4.o.trans hp2);clear hp1 hp2 hp3 w3 r4;have z10:=L3.o.size;refine(nx L3 (qD _ Ap p.length cp (ni p) (i:Int) (D5.o.step (N3.o.trans (L3.o.mono N3.o.size))))).mono ?_;rintro e w50 ⟨⟨B51,z51,I2⟩,rfl⟩;have y3:=zz (aKi U3.o aEw B51.o);have z3:=zz I2.o;clear U3;have z11:=z3.o.size;have G5:=tr N3 z3;rw[UJ];by_cases hip:i∈p
            ·rw[aEv hip];have hij:¬ i=j:=fun e=>hjp (e▸hip);have hij':((i:Int)==(j:Int))=false:=by rw[aEo];omega
             obtain⟨k,hk⟩:=ex (p.idxOf i);have hkp:k<p.length:=by rw[hk];exact List.idxOf_lt_length_iff.2 hip
             have hpe:PG t p j i=0-bP t k j:=by rw[hk];unfold PG;rw[aEu hij,aEv hip,aHe,Rat.zero_add]
             rw[← hk];rw[hpe] at B3;clear hpe hk hij;have hkt:k<t.length:=by omega
             have hki:(0:Int)≤(k:Int)∧(k:Int)<(t.length:Int):=by omega
             have hjn':(0:Int)≤(j:Int)∧(j:Int)<(n:Int)+1:=(by omega);have hjn'':j<n+1:=(by omega);have HOt:=zz (aJx U6.o aIk G5.o);have I5:=zz (aMn HOt.o HD.o.tw hkt);have P3:=zz (aMi HOt.o HD.o.tw hkt);obtain⟨xn,xA,xl,xc,xB,xu,xd,hE,hv⟩:=OM.elem HOt.o HD.o.tw hkt (show j<n+1 by omega);have V3:=zz hv;clear hv;obtain⟨x,hx⟩:=ex (bP t k j);rw[← hx] at V3 B3;have J5:Hi (QL 60000000 60000000 x):=zz (by rw[hx];have h9:dG p.length≤60000000:=aEg (cE (aEg HD.o.pn HD.o.n6)) (by decide);exact(HD.o.ts.at (cG (by decide) _) k j).mono h9 h9);have F7:=st aEd V6 G5;go_upto_region 31 with (fail)
             refine aFq [se 0 115 [] (.slice (some ⟨w42.heap.size,0,none⟩) n n),se 1 116 [] (.int .i64 (i:Int)),sf 2 117 [] (fun fv fw=>RV fw fw.heap.size fv 0),se 3 118 [] (.pointer (some ⟨u3,0,none⟩)),se 4 119 [3] (.slice (some ⟨tb,0,none⟩) t.length R),se 5 120 [] (.int .i64 (k:Int)),se 6 121 [4,5] (.pointer (some ⟨tb,k,none⟩)),se 7 122 [6] (.slice (some ⟨G3 k,0,none⟩) (n+1) (C3 k)),se 8 123 [] (.int .i64 (j:Int)),se 9 124 [7,8] (.pointer (some ⟨G3 k,j*3,none⟩)),se 10 125 [9] (.agg #[.bool xn,.slice xA xl xc,.slice xB xu xd]),sf 11 126 [2,10] (fun fv fw=>RV fw fw.heap.size fv (0-x)),se 12 127 [0,1] (.pointer (some ⟨w42.heap.size,i*3,none⟩))] 1 (SB F7.o (SC (fun _ h=>(aIb hE h).c0) (SC (fun _ h=>(aIb hE h).c1) (SC (fun _ h=>(aIb hE h).c2) S0)))) (MA (fun _ _ _ h hb=>h.step hb) (MA (fun _ _ _ h hb=>h.step hb) aFi)) ?_ ?_
             ·intro xs a_ hA;simp only[SX,↓reduceIte,Nat.reduceEqDiff,Nat.reduceAdd] at hA⊢;subst hA;and_intros
              all_goals intro wk b_ z_
              any_goals (intro f6;intros;(refine aDz (i:=7) (o:=_) rfl (fun K hK=>?_));have qv0:=(aGn b_.o (p:=⟨tb,k,none⟩) HOt.o.lt).trans I5.o;go_simp;(refine hK _ _ ⟨_,by simp only[FL,f6] <;> kernel_rfl,aDy _ _,rfl⟩))
              any_goals (intro f7 f8;intros;(refine aDz (i:=9) (o:=_) rfl (fun K hK=>?_));have qv0:=P3.o;go_simp;(refine hK _ _ ⟨_,by simp only[FL,f7,f8] <;> kernel_rfl,aDy _ _,rfl⟩))
              all_goals try exact pl
              ·intros
               refine wo fun K hK=>?_;go_simp;(with_reducible refine(qT _).mono ?_)
               rintro e wc53 ⟨J2,v53,rfl,K2⟩;refine hK _ _ ⟨v53,by kernel_rfl,J2,K2⟩
              ·intro f2 f10;intros;refine wo fun K hK=>?_;go_simp;have M1:=st aHm V3 b_;(with_reducible refine(vV _ _ _ 0 x f2 M1.o (QL.zero1 _ _ (by decide)) J5.o).mono ?_)
               rintro e wc55 ⟨L2,v55,rfl,M2⟩;refine hK _ _ ⟨v55,by simp only[FL,f10] <;> kernel_rfl,L2,M2⟩
             ·intro xs K5 B57 z57;simp only[SY];have N2:=tr z3 B57;generalize xs 2=x2,xs 11=x11;rintro f2 f11;clear f2;obtain⟨G7,H7,I7,J7,K7,N1,L7,rfl,ha59,P0,hc59⟩:=f11;have O1:Hi (RV K5 K5.heap.size (.agg #[.bool G7,.slice H7 I7 J7,.slice K7 N1 L7]) (0-x)):=zz (aMd ha59 P0 hc59);clear ha59 P0 hc59;have q3:=zz (aKi y3.o aEw B57.o);have N4:=zz N2.o;obtain⟨o0,ho0⟩:=aIy q3.o (p:=i*3) (by omega);obtain⟨o1,ho1⟩:=aIy q3.o (p:=i*3+1) (by omega);obtain⟨o2,ho2⟩:=aIy q3.o (p:=i*3+2) (by omega);have fz0:=aHn q3.o (i*3);have fz1:=aHn q3.o (i*3+1);have fz2:=aHn q3.o (i*3+2);have flt:=OB.lt q3.o;obtain⟨hp1,hp2,hp3⟩:=OB.put1 (B:=w42.heap.size) (j:=i) q3.o (by rw[aEp,F3.o];simp) O1.o (aEa _);rw[show(l++[(0:Rat)]).set i (0-x)=l++[0-x] by rw[← F3.o];simp,← B3.o] at hp1;have I3:=zz hp1;have s4:=zz (N4.o.trans hp2);clear hp1 hp2 hp3;refine EN 13 rfl fun K hK=>?_;go_simp;refine hK _ _ ?_;clear hK K;clear ho0 ho1 ho2 fz0 fz1 fz2 flt;(try simp only[PT])
              refine ED ?_;(try simp only[Exit.then])
              go_wp2;go_roundw
              case rel=>exact⟨i+1,hit,by go_num,I3,s4⟩
              case measure=>exact ms
            ·rw[aEu hip];by_cases hij:i=j
             ·have hij':((i:Int)==(j:Int))=true:=by rw[aIh];omega
              have hpe:PG t p j i=1:=aEv hij;rw[hpe] at B3;clear hpe hij;go_wp2_with fail
              refine(nx z3 (((BR _ 1 1 (by decide) (by decide) (by decide) (by decide)).mono fun e w' h=>aEn h.1 (YT h.2)))).mono ?_;rintro e w60 ⟨⟨B61,z61,O2⟩,v,rfl,hv⟩;obtain⟨L5,M5,N5,O5,P5,q0,Q5,rfl,ha63,R0,hc63⟩:=hv;have P1:=zz (show QV w60 w60.heap.size (.agg #[.bool L5,.slice M5 N5 O5,.bool false,.slice P5 q0 Q5]) 1 from⟨_,_,_,_,_,_,_,rfl,ha63,R0,hc63⟩);clear ha63 R0 hc63;go_upto_region 34 with (fail)
              obtain⟨w64,j0⟩:=ex (w60.alloc (.cells #[.bool L5,.slice M5 N5 O5,.bool false,.slice P5 q0 Q5] 28));rw[← j0];have e0:=cL j0;have za64:=cJ j0;have B65:=zz (cK j0);have z65:=B65.o.size;have P2:=tr O2 B65;clear j0;have Q1:=cz4 e0;go_wp2_with fail
              clear Q1;refine(nx P2 (gU _ _ _ _ _ _ _ _ _)).mono ?_;rintro e w68 ⟨⟨B69,z69,Q2⟩,rfl⟩;have N7:=tr B61 B65;have P8:=tr N7 B69;have W8:=tr B65 B69;have U1:=st aHf P1 W8;have HZ:=zz (uX U1.o);have q3:=zz (aKi y3.o aEw P8.o);have N4:=zz Q2.o;obtain⟨o0,ho0⟩:=aIy q3.o (p:=i*3) (by omega);obtain⟨o1,ho1⟩:=aIy q3.o (p:=i*3+1) (by omega);obtain⟨o2,ho2⟩:=aIy q3.o (p:=i*3+2) (by omega);have fz0:=aHn q3.o (i*3);have fz1:=aHn q3.o (i*3+1);have fz2:=aHn q3.o (i*3+2);have flt:=OB.lt q3.o;obtain⟨hp1,hp2,hp3⟩:=OB.put1 (B:=w42.heap.size) (j:=i) q3.o (by rw[aEp,F3.o];simp) HZ.o (aEa _);rw[show(l++[(0:Rat)]).set i 1=l++[1] by rw[← F3.o];simp,← B3.o] at hp1;have I3:=zz hp1;have s4:=zz (N4.o.trans hp2);clear hp1 hp2 hp3;go_wp2;go_roundw
              case rel=>exact⟨i+1,hit,by go_num,I3,s4⟩
              case measure=>exact ms
             ·have hij':((i:Int)==(j:Int))=false:=by rw[aEo];omega
              have hpe:PG t p j i=0:=by unfold PG;rw[aEu hij,aEu hip]
              rw[hpe] at B3;have I3:Hi (OB 3 ER 88 w50 w42.heap.size n ((qL t p n j).take (i+1))):=zz (by rw[B3.o];exact y3.o);clear hpe hij;go_wp2;go_roundw
              case rel=>exact⟨i+1,hit,by go_num,I3,z3⟩
              case measure=>exact ms
           ·obtain rfl:n=i:=by omega
            rw[aFa (by rw[qX];exact aEa _)] at HO;rename World=>wC
            have a0:Below wC.heap.size wC (wC.alloc (.cells #[.slice (some ⟨w42.heap.size,0,none⟩) n n] 65)):=aB (aDy _ _) _;have a7:=tr N3 HW;have hgC:=HO.o.lt;have a4:=zz ((aNg i4.o aEw HW.o).step aEw a0);have W4:=zz (aKi HO.o aEw a0);have g0:=zz (a7.o.trans (a0.mono a7.o.size));clear a0;have hwl:=PO (t:=t) (p:=p) (n:=n) (j:=j);go_wp2_with (at_builtin;go_loud (refine aO rfl _ _ _ rfl wA.heap.size 65 ir _ 24 Tryz.underlying78 hir hzr hsr hbr rfl (by decide) (by decide) aLi aLj a4.o.hdr rfl ⟨wC.heap.size,0,none⟩ 1 [.slice (some ⟨w42.heap.size,0,none⟩) n n] rfl Nat.one_pos [.slice (some ⟨w42.heap.size,0,none⟩) n n] (aLt rfl ⟨rfl,rfl⟩) (cell_one_new _ _ _) (by intro u hu;simp at hu;subst hu;rfl) (by simp only[aV,aEl,aEm,maxLen];omega) (by simp only[aV,aEl,aEm];omega) (by have:=g0.o.size;simpa using this) ?_))
            intro v8 w8' hoa hb hs' hg' hat;have hl8:(qL t p n j).length=n:=qX;have happ:=a4.o.app aKb (g:=w42.heap.size) (c:=n) (l:=qL t p n j) ⟨N3.o.size,fun e=>by have:=(i4.o.hdr.blk e).1;omega⟩ (fun i hi=>by have:=(i4.o.rows i hi).lt;omega) ⟨aGo hl8,by omega⟩ W4.o (by rw[hl8];simpa[aV] using hoa) hs' hg' (by simpa using hat);rw[← JZ hjp] at happ;have M7:=zz happ;have d0:=zz (g0.o.trans hb);clear happ hoa hb hs' hg' hat;go_wp2;go_roundw
            case rel=>exact⟨j+1,_,_,hlt,by go_num,M7,d0⟩
            case measure=>exact ms
        ·obtain rfl:n=j:=by omega
         rw[KA] at HO;rename World=>wD
         obtain⟨Aw,cw,rfl,-⟩:=aHi HO.o.sl;have S5:=tr T6 HW;have T5:=zz HO.o;have u4:=zz (aKi C5.o aEw HW.o);have b7:=zz (W6.o.step (aFl aEf) HW.o);have c7:=zz (X6.o.step aEf HW.o);have U5:=st aEd Y6 HW;have V5:=st aEd Z6 HW;have hgD:=u4.o.lt;have hgw:=hgA;have hsA:=HW.o.size;clear HO HW C5 U6 D5 V6 W6 X6 Y6 Z6 T6 E5 hj hlt hgA;obtain⟨X,hX⟩:=ex (eE t p n);have hxl:X.length=n:=by rw[hX,pV]
         have hxs:∀ q∈X,QL (dG p.length) (dG p.length) q:=by rw[hX];exact IJ HD.o.ts (cG (by decide) _)
         obtain⟨Y,hY⟩:=ex (gX t p n);have hyw:Wide Y n:=by rw[hY];exact GN (j:=n)
         have hys:Short (dG p.length) Y:=by rw[hY];exact JY HD.o.ts (cG (by decide) _)
         have hyc:Y.length+p.length≤n:=by rw[hY];exact LQ HD.o.ps HD.o.plt
         have hr2:=U4.o;rw[← hX,← hY] at hr2;rw[← hX] at u4;rw[← hY] at T5 ⊢;have J3:=zz hxl;have b4:=zz hxs;have X4:=zz hyw;have v4:=zz hys;have d7:=zz hyc;clear hX hY U4 hxl hxs hyw hys hyc;have he6:dG p.length≤17749:=aEg (cE (aEg HD.o.pn HD.o.n6)) (by decide);have M3:=zz he6;clear he6;by_cases hy0:Y=[]
         case pos=>
          have Y4:=zz (hr2.trans (aEv hy0));have hy1:Y.length=0:=by rw[hy0];rfl
          rw[hy1];clear hr2 hy0 hy1;go_wp2_with fail
          refine(nx S5 (lI _ _ _ _ X (by have h:=u4.o.sl (c:=n) (aGo J3.o) (by omega);rwa [J3.o] at h) (fun q hq=>(b4.o q hq).mono (by have:=M3.o;omega) (by have:=M3.o;omega)) (by rw[J3.o];omega))).mono ?_;rintro e w75 ⟨⟨B76,z76,R2⟩,v,rfl,hv⟩;have W5:=zz hv;clear hv;go_wp2;go_ret2;exact⟨R2.o,by rw[Y4.o];exact⟨_,rfl,W5.o⟩⟩
         case neg=>
          have Y4:=zz (hr2.trans (aEu hy0));have hy1:1≤Y.length:=by rcases Y with _ | _;exact absurd rfl hy0;simp
          have hyi:((Y.length:Int)==0)=false:=by rw[aEo];omega
          clear hr2 hy0;have hy6:(Y.length:Int)≤6:=by have:=d7.o;omega
          obtain⟨Q,hQ⟩:=ex (gH (aK M) Y);obtain⟨V,hV⟩:=ex (mN (aK M) (aW b) X);have hml:(aK M).length=M.length:=by rw[aK,aEb]
          have hql:Q.length=M.length:=by rw[hQ,KM,hml]
          have hvl:V.length=M.length:=by rw[hV,SN,hml]
          have hqw:Wide Q Y.length:=by rw[hQ];exact GT
          have b3:(4+dG p.length+1)*n≤(4+dG p.length+1)*6:=aFf _ HD.o.n6;have hqs:Short (dR p.length) Q:=by rw[hQ];exact(GQ HD.o.ms v4.o (by decide) (cG (by decide) _) HD.o.mw).mono (by unfold dR;omega)
          have hvs:∀ q∈V,QL (dR p.length) (dR p.length) q:=by rw[hV];exact fun q hq=>(LJ HD.o.ms HD.o.bs b4.o (by decide) (cG (by decide) _) HD.o.mw q hq).mono (by unfold dR;omega) (by unfold dR;omega)
          have hq0:=fun(i:Nat) (h:i<(aK M).length)=>KL (ways:=Y) h;have W0:=fun(i:Nat) (h:i<(aK M).length)=>SK (b:=aW b) (x:=X) h;rw[← hQ] at hq0;rw[← hV] at W0
          have hr3:=Y4.o;rw[← hQ,← hV] at hr3;have e7:=zz hr3;clear Y4 hr3;have i8:=zz hml;have D3:=zz hql;have X5:=zz hvl;have Y5:=zz hqw;have Z4:=zz hqs;have Z5:=zz hvs;have j8:=zz hq0;have k8:=zz W0;clear hml hql hvl hqw b3 hqs hvs hq0 W0 hQ hV;have hmm:(M.length:Int)≤12∧(1:Int)≤(M.length:Int):=by have:=HD.o.m12;have:=HD.o.m1;omega
          obtain⟨iq,hiq,hzq,hsq,hbq⟩:=aGf iL;have V1:=U5.o.cell 0 rfl;have a6:=U5.o.lt;go_wp2_with fail
          clear V1 a6;refine(nx S5 (fF _ A _ ca M b7.o H1.o)).mono ?_;rintro e w79 ⟨⟨B80,z80,S2⟩,gm,GM,CM,rfl,hom⟩;have R3:=zz hom;clear hom;have g7:=zz S2.o;have c6:=zz (aNg T5.o aEw B80.o);have a5:=zz (aKi u4.o aEw B80.o);have i7:=zz (show QS w79 w79.heap.size (.slice B b.length cb) b from c7.o.step aEf B80.o);have d6:=st aEd V5 B80;have hgE:=a5.o.lt;have hsE:=B80.o.size;clear T5 u4 c7 V5 U5 b7 S5 hgD;have e6:=zz (aDy w79.heap.size w79);go_wp2;go_loopw [26,27,156] (fun sv rv iv wr=>∃ (i:Nat) (GS CS:Nat→Nat),i≤M.length∧iv=.int .i64 i∧Hi (OMV 3 ER 88 65 wr w79.heap.size sv GS CS (Q.take i))∧Hi (OA 3 ER 88 wr w79.heap.size rv (V.take i))∧Hi (ApartV sv rv GS i)∧Hi (Below w79.heap.size w79 wr)) (fun _ _ iv _=>M.length-(intOf iv).toNat)
          case atStart=>exact⟨0,_,_,aEy _,rfl,zz OMV.nil0,zz OA.nil,zz ApartV.nil,e6⟩
          case round=>
           obtain⟨i,GS,CS,hi,rfl,HO,HV,b5,HW⟩:=hrel;have zr:=HW.o.size;by_cases hlt:i<M.length
           ·skip
            have him:i<(aK M).length:=by rw[i8.o];exact hlt
            have hii:(0:Int)≤(i:Int)∧(i:Int)<(M.length:Int):=by omega
            have hib:i<b.length:=by rw[H5.o];exact hlt
            have hbi:(i:Int)<(b.length:Int):=by omega
            have hq1:=j8.o i him;have s0:=k8.o i him;obtain⟨r,hr⟩:=ex ((aK M)[i]);obtain⟨y,hy⟩:=ex ((qv b[i]).getD 0);have hrl:r.length=n:=by rw[hr];exact HD.o.mw _ (aEc him)
            have hrs:∀ q∈r,QL 4 4 q:=by rw[hr];exact HD.o.ms _ (aEc him)
            have hby:(aW b).getD i 0=y:=by rw[hy,aW,aG (by rw[aEb];exact hib),aGm]
            have hys':QL 4 4 y:=by rw[← hby];exact aT HD.o.bs (by decide) i
            have j7:=zz hr;rw[← hr] at hq1 s0;rw[hby] at s0;have HOr:=zz (aJx R3.o aEw HW.o);have I5:=zz (aMn HOr.o HD.o.mw him);have P3:=zz (aMi HOr.o HD.o.mw him);have hrow:=(HOr.o.rows i him).sl (c:=CM i) (by rw[← hr,hrl];exact P3.o.1) P3.o.2;rw[← hr,hrl] at hrow;have c5:=zz hrow;clear hrow;obtain⟨gb,offb,yA,yl,yc,yB,yu,yd,rfl,hgb,hEb,hvb⟩:=aKm i7.o hib;have hqx:b[i]=qx y:=by have h9:=(fM H2.o).1;rw[hy];exact(qY (by have h:=H2.o;unfold dC at h;simp only[aFs,aEx] at h;exact h.2 _ (aEc hib))).1
            rw[hqx] at hEb hvb;clear hqx;have m8:=zz hEb;have d5:=zz (QR.qv hvb);clear hvb hgb hEb;have Q3:=zz hrl;have g6:=zz hrs;have n8:=zz hys';have X3:=zz hq1;have o8:=zz s0;clear hrl hrs hby hys' hq1 s0 hy hr;have qh:=I5.o;have qtl:=HOr.o.lt;have hdy:∀ z∈Y,DotOK r z:=fun z hz=>lQ (l:=4) (l':=dG p.length) (by rw[Q3.o,X4.o z hz];exact aEa _) g6.o (v4.o z hz) (by decide) (cG (by decide) _) (aEg (aGs (show 4+dG p.length+1≤17754 by have:=M3.o;omega) (show r.length+1≤7 by rw[Q3.o];omega)) (by decide));have k7:=zz hdy;clear hdy
            have hdx:DotOK r X:=lQ (l:=4) (l':=dG p.length) (by rw[Q3.o,J3.o];exact aEa _) g6.o b4.o (by decide) (cG (by decide) _) (aEg (aGs (show 4+dG p.length+1≤17754 by have:=M3.o;omega) (show r.length+1≤7 by rw[Q3.o];omega)) (by decide));have l7:=zz hdx;clear hdx;have hqd:QL 60000000 60000000 (bK r X):=(eD g6.o b4.o (by decide) (cG (by decide) _) r.length).mono (aEg (aMy (aGs (show 4+dG p.length+1≤17754 by have:=M3.o;omega) (show r.length≤6 by rw[Q3.o];omega))) (by decide)) (aEg (aMy (aGs (show 4+dG p.length+1≤17754 by have:=M3.o;omega) (show r.length≤6 by rw[Q3.o];omega))) (by decide));have O7:=zz hqd;clear hqd;have HYr:=zz (OMV.sl (aNg c6.o aEw HW.o));go_wp2_with fail
            clear qh qtl;refine(nx HW (sZ _ Aw Y.length cw Y 52 (.slice (some ⟨GM i,0,none⟩) n (CM i)) (bK r) HYr.o (by omega) mK (fun w1 j hj A' u' c' hb hx=>fJ w1 _ A' n (CM i) u' c' r Y[j] (c5.o.step aEw hb) hx (k7.o _ (aEc hj)).le (k7.o _ (aEc hj)).ql))).mono ?_;rintro e w82 ⟨⟨B83,z83,Z0⟩,g,rfl,hg,ho⟩;have a0:Below w82.heap.size w82 (w82.alloc (.cells #[.slice (some ⟨g,0,none⟩) Y.length Y.length] 65)):=aB (aDy _ _) _;have a4:=zz ((aNg HO.o aEw B83.o).step aEw a0);have m7:=zz ((aNk HV.o aEw B83.o).step aEw a0);have W4:=zz (aKi ho aEw a0);have g0:=zz (Z0.o.trans (a0.mono Z0.o.size));have hz3:=a0.size;have HG:=zz hg;clear a0 ho hg;go_wp2_with (at_builtin;go_loud (refine aO rfl _ _ _ rfl w79.heap.size 65 ir _ 24 Tryz.underlying78 hir hzr hsr hbr rfl (by decide) (by decide) aLi aLj a4.o.hdr rfl ⟨w82.heap.size,0,none⟩ 1 [.slice (some ⟨g,0,none⟩) Y.length Y.length] rfl Nat.one_pos [.slice (some ⟨g,0,none⟩) Y.length Y.length] (aLt rfl ⟨rfl,rfl⟩) (cell_one_new _ _ _) (by intro u hu;simp at hu;subst hu;rfl) (by simp only[aV,aEk,aEl,aEm,maxLen];omega) (by simp only[aV,aEk,aEl,aEm];omega) (by have:=g0.o.size;simpa using this) ?_))
            intro v8 w8' hoa hb hs' hg' hat;have hl8:(Y.map (bK r)).length=Y.length:=aEb _;have hil:(Q.take i).length=i:=by rw[aEk,D3.o];omega
            have hub:∀ X',u27.ownBlock=some X'→X'<wr.heap.size:=fun X' e=>(HV.o.blk e).1
            have happ:=a4.o.app aKb (g:=g) (c:=Y.length) (l:=Y.map (bK r)) ⟨by have:=HG.o;omega,fun e=>by have:=(HO.o.hdr.blk e).1;have:=HG.o;omega⟩ (fun i hi=>by have:=(HO.o.rows i hi).lt;have:=HG.o;omega) ⟨aGo hl8,by omega⟩ W4.o (by rw[hl8];simpa[aV] using hoa) hs' hg' (by simpa using hat);rw[show(Q.take i).length=i from hil] at happ;have hap2:=b5.o.push (g:=g) (v':=v8) (Z:=wr.heap.size) hub HG.o hat (by have:=B83.o.size;simp at hz3 ⊢;omega);have P7:=zz (OA.grown m7.o aKb hg' (fun X' e e'=>(b5.o X' e).1 e') hs');have Q7:Hi (OMV 3 ER 88 65 w8' w79.heap.size v8 _ _ (Q.take (i+1))):=zz (by rw[X3.o];exact happ);have P4:=zz hap2;have d0:=zz (g0.o.trans hb);clear happ hap2 hoa hb hs' hg' hat hz3 hub hl8 hil a4 m7 W4 g0 HO HV b5 HYr c5 HOr;have z8:=d0.o.size;have HOr:=zz (aJx R3.o aEw d0.o);have HXr:=zz (aKi a5.o aEw d0.o);have HBr:=st aEd d6 d0;have hEb:=m8.o.step d0.o;have HYr:=st aHf d5 d0;have W1:=HBr.o.cell 0 rfl;have i6:=HBr.o.lt;have X1:=ez4 hEb;go_wp2_with fail
            clear W1 i6 X1;refine(nx d0 (gU _ _ _ _ _ _ _ _ _)).mono ?_;rintro e w87 ⟨⟨B88,z88,T2⟩,rfl⟩;go_wp2_with fail
            have hrow:=((HOr.o.step aEw B88.o).rows i him).sl (c:=CM i) (by rw[← j7.o,Q3.o];exact P3.o.1) P3.o.2;rw[← j7.o,Q3.o] at hrow;have c5:=zz hrow;clear hrow;have hxr:=(HXr.o.step aEw B88.o).sl (c:=n) (aGo J3.o) (by omega);rw[J3.o] at hxr;have p8:=zz hxr;clear hxr;refine(nx T2 (fJ _ _ _ n (CM i) n n r X c5.o p8.o l7.o.le l7.o.ql)).mono ?_;rintro e w90 ⟨⟨B91,z91,U2⟩,v,rfl,hv⟩;obtain⟨R7,S7,T7,U7,V7,b2,W7,rfl,ha93,d1,hc93⟩:=hv;have d2:Hi (RV w90 w90.heap.size (.agg #[.bool R7,.slice S7 T7 U7,.slice V7 b2 W7]) (bK r X)):=zz (aMd ha93 d1 hc93);clear ha93 d1 hc93;go_wp2_with fail
            have Y8:=tr B88 B91;have e2:=st aHf HYr Y8;refine(nx U2 (vV _ _ _ y (bK r X) (uX e2.o) d2.o (n8.o.mono (by decide) (by decide)) O7.o)).mono ?_;rintro e w94 ⟨⟨B97,z97,i1⟩,v,rfl,hv⟩;obtain⟨j4,k4,l4,m4,n4,h0,o4,rfl,ha99,j1,hc99⟩:=hv;have i2:Hi (RV w94 w94.heap.size (.agg #[.bool j4,.slice k4 l4 m4,.slice n4 h0 o4]) (y-bK r X)):=zz (aMd ha99 j1 hc99);clear ha99 j1 hc99;have a0:Below w94.heap.size w94 (w94.alloc (.cells #[.bool j4,.slice k4 l4 m4,.slice n4 h0 o4] 88)):=aB (aDy _ _) _;have q8:=zz (aHl w94 88 #[.bool j4,.slice k4 l4 m4,.slice n4 h0 o4]);have r8:=zz (aHm i2.o a0);have X8:=tr Y8 B97;have Q4:=zz ((aNg Q7.o aEw X8.o).step aEw a0);have X7:=zz ((aNk P7.o aEw X8.o).step aEw a0);have u2:=zz (i1.o.trans (a0.mono i1.o.size));clear a0
            go_wp2_with (at_builtin;go_loud (refine aO rfl _ _ _ rfl w79.heap.size 88 iq _ 56 Tryz.underlying65 hiq hzq hsq hbq rfl (by decide) (by decide) aEw aKb X7.o rfl ⟨w94.heap.size,0,none⟩ 1 [y-bK r X] rfl Nat.one_pos [.bool j4,.slice k4 l4 m4,.slice n4 h0 o4] (aLt rfl ⟨_,_,_,rfl,r8.o⟩) (jP q8.o [_,_,_] rfl) (by intro u hu;simp at hu;rcases hu with rfl | rfl | rfl <;> rfl) (by simp only[aEk,aEl,aEm,maxLen];omega) (by simp only[aEk,aEl,aEm];omega) (by have:=u2.o.size;simpa using this) ?_))
            intro v9 w9' hoa hb hs' hg' hat;have hov4:=OMV.grown Q4.o aKb hg' ⟨fun X' e e'=>(P4.o X' e').1 e,fun k hk e'=>(P4.o _ e').2 k (by rw[aEk,D3.o] at hk;omega) rfl⟩ hs';have hap4:=P4.o.other (u':=v9) (fun X' e=>Q4.o.blk e) (fun k hk=>(Q4.o.rows k (by rw[aEk,D3.o];omega)).lt) (by simpa using hat);have Y7:=zz hov4;have Z7:=zz hap4;have a8:Hi (OA 3 ER 88 w9' w79.heap.size v9 (V.take (i+1))):=zz (by rw[o8.o];exact hoa);have V2:=zz (u2.o.trans hb);clear hov4 hap4 hoa hb hs' hg' hat;go_wp2;go_roundw
            case rel=>exact⟨i+1,_,_,hlt,by go_num,Y7,a8,Z7,V2⟩
            case measure=>exact ms
           ·obtain rfl:i=M.length:=by omega
            rw[aFa (aGo D3.o)] at HO;rw[aFa (aGo X5.o)] at HV;rename World=>wG
            obtain⟨Aq,cq,rfl,-⟩:=aHi HO.o.sl;obtain⟨Av,cv,rfl,-⟩:=aHi HV.o.sl;have n7:=tr g7 HW;have o7:=zz (aNg c6.o aEw HW.o);have p7:=zz (aKi a5.o aEw HW.o);have q7:=zz HO.o.sl;have r7:=zz HV.o.sl;have hsG:=HW.o.size;clear HO HV HW b5 c6 a5 g7 e6 R3 i7 d6 hgE hi hlt;obtain⟨N,hN⟩:=ex (bB Q);obtain⟨U,hU⟩:=ex (bG Q V);have hwq:aM Q=Y.length:=Y5.o.getD (by rw[D3.o];omega);have hnl:N.length=Y.length:=by rw[hN,mZ,hwq]
            have hul:U.length=Y.length:=by rw[hU,mY,hwq]
            have hnw:Wide N Y.length:=by rw[hN,← hwq];exact rD
            have W2:(dR p.length+dR p.length+1)*Q.length≤(dR p.length+dR p.length+1)*12:=aFf _ (by rw[D3.o];omega);have hs1:1≤dR p.length:=by unfold dR;omega
            have hns:Short (cH p.length) N:=by rw[hN];exact(kM Z4.o hs1).mono (by unfold cH;omega)
            have hus:∀ q∈U,QL (cH p.length) (cH p.length) q:=by rw[hU];exact fun q hq=>(kL Z4.o Z5.o hs1 hs1 q hq).mono (by unfold cH;omega) (by unfold cH;omega)
            have hbs:dR p.length≤106530:=by have:=M3.o;unfold dR;omega
            have hbz:=JD (r:=p.length) (k:=Y.length) (by have:=d7.o;have:=HD.o.n6;omega) hy1;have hr4:=e7.o;rw[← hN,← hU] at hr4;have HN:=zz hN;have HU:=zz hU;have K3:=zz hnl;have c4:=zz hul;have k6:=zz hnw;have l6:=zz hns;have m6:=zz hus;have g0:=zz hbs;have d4:=zz hbz;have Y3:=zz hs1;clear e7 hN hU hnl hul hnw hns hus hbs hbz W2 hwq hs1;cases hso:aZ N U
            case none=>
             rw[hso] at hr4;simp only at hr4;have o6:=zz hr4;have w4:=zz hso;clear hso hr4;go_wp2_with fail
             refine(nx n7 (iK _ Aq Av Q.length cq V.length cv Q V Y.length (dR p.length) (dR p.length) q7.o r7.o (by rw[D3.o];omega) (by rw[X5.o,D3.o]) Y5.o ⟨by rw[D3.o];omega,by omega⟩ Z4.o Z5.o ⟨Y3.o,aEa _⟩ (aEg (aGs (show 2*dR p.length+1≤213061 by have:=g0.o;omega) (show Q.length+1≤13 by rw[D3.o];omega)) (by decide)))).mono ?_;rintro e w101 ⟨⟨B102,z102,j2⟩,g2,G2,C2,g3,rfl,hom2,hgl2,hol2,hap2⟩;rw[← HN.o] at hom2;rw[← HU.o] at hol2;have R4:=zz hom2;have S4:=zz hol2;clear hom2 hgl2 hol2 hap2;go_wp2_with fail
             refine(nx j2 ((gC _ _ _ _ _ _ _ N U Y.length (cH p.length) (K3.o▸R4.o.sl (c:=Y.length) (by rw[K3.o];exact aEa _) (by omega)) (c4.o▸S4.o.sl (c:=Y.length) (by rw[c4.o];exact aEa _) (by omega)) (by rw[K3.o];omega) (by omega) (by rw[K3.o,c4.o];exact aEa _) k6.o ⟨by rw[K3.o];omega,by omega⟩ l6.o m6.o (by unfold cH;omega) d4.o.2.1).mono (fun _ _ h=>aEn h.1 (YE w4.o h.2)))).mono ?_;rintro e w104 ⟨⟨B105,z105,k2⟩,rfl⟩;go_wp2;go_ret2;exact⟨k2.o,by rw[o6.o];exact⟨_,rfl,rfl⟩⟩
            case some s=>
             rw[hso] at hr4;simp only at hr4;have o6:=zz hr4;have w4:=zz hso;clear hso hr4;go_wp2_with fail
             refine(nx n7 (iK _ Aq Av Q.length cq V.length cv Q V Y.length (dR p.length) (dR p.length) q7.o r7.o (by rw[D3.o];omega) (by rw[X5.o,D3.o]) Y5.o ⟨by rw[D3.o];omega,by omega⟩ Z4.o Z5.o ⟨Y3.o,aEa _⟩ (aEg (aGs (show 2*dR p.length+1≤213061 by have:=g0.o;omega) (show Q.length+1≤13 by rw[D3.o];omega)) (by decide)))).mono ?_;rintro e w107 ⟨⟨B108,z108,l2⟩,g2,G2,C2,g3,rfl,hom2,hgl2,hol2,hap2⟩;rw[← HN.o] at hom2;rw[← HU.o] at hol2;have R4:=zz hom2;have S4:=zz hol2;clear hom2 hgl2 hol2 hap2;go_wp2_with fail
             refine(nx l2 ((gC _ _ _ _ _ _ _ N U Y.length (cH p.length) (K3.o▸R4.o.sl (c:=Y.length) (by rw[K3.o];exact aEa _) (by omega)) (c4.o▸S4.o.sl (c:=Y.length) (by rw[c4.o];exact aEa _) (by omega)) (by rw[K3.o];omega) (by omega) (by rw[K3.o,c4.o];exact aEa _) k6.o ⟨by rw[K3.o];omega,by omega⟩ l6.o m6.o (by unfold cH;omega) d4.o.2.1).mono (fun _ _ h=>aEn h.1 (YD w4.o h.2)))).mono ?_;rintro e w110 ⟨⟨B111,z111,m2⟩,gx,rfl,hgx,hox⟩;have Z8:=tr B108 B111;have hwn:aM N=Y.length:=k6.o.getD (by rw[K3.o];omega);have hsl:s.length=Y.length:=by rw[jS w4.o,hwn]
             have hss:∀ q∈s,QL (dE (cH p.length) Y.length) (dE (cH p.length) Y.length) q:=by have h:=iY w4.o l6.o m6.o (by unfold cH;omega);rwa [hwn] at h
             have t8:=zz hox;have u8:=zz hgx;have e5:=zz hsl;have p6:=zz hss;clear hox hgx hsl hss hwn;have s7:=zz m2.o;have t7:=zz (aNg o7.o aEw Z8.o);have q6:=zz (aKi p7.o aEw Z8.o);clear o7 p7;obtain⟨ty,Ry,hv,hRy,homy⟩:=t7.o.om (by omega);injection hv with e1 _ e3;subst e1;subst e3
             have g5:=zz (homy.mapE (fun _ _ h=>ERo.ofNone h));clear homy t7 hRy;have hapy:¬ (ty=ga)∧∀ i,i<Y.length→¬ (GW i=ga):=⟨fun e=>by have:=g5.o.low;omega,fun i hi e=>by have:=(g5.o.apart i hi).2;omega⟩;have u7:=zz hapy;clear hapy;have hapx:¬ (gx=ga):=fun e=>by have:=u8.o;omega
             have w8:=zz hapx;clear hapx;have Z3:Hi (OB 3 ER 88 w110 ga n (cM X Y s 0)):=zz (by rw[BX];exact q6.o);have hgF:=q6.o.lt;clear q6;go_wp2;go_loopw [195] (fun iv wr=>∃ k:Nat,k≤Y.length∧iv=.int .i64 k∧Hi (OB 3 ER 88 wr ga n (cM X Y s k))∧Hi (Turns w110 wr (fun b:Nat=>b=ga))) (fun iv _=>Y.length-(intOf iv).toNat)
             case atStart=>exact⟨0,aEy _,rfl,Z3,zz (Turns.refl _ _)⟩
             case round=>
              obtain⟨k,hk,rfl,HO,HW⟩:=hrel;have zr:=HW.o.size;by_cases hlt:k<Y.length
              ·skip
               have HYr:=zz (OM.turns g5.o ERo.soft HW.o u7.o);have qh:=aMn HYr.o X4.o hlt;have qtl:=HYr.o.lt;have hki:(0:Int)≤(k:Int)∧(k:Int)<(Y.length:Int):=by omega
               have x7:Hi (OB 3 ER 88 wr ga n (mapTo (oZ Y s k) 0 (cM X Y s k))):=zz (by rw[jT];exact HO.o);have T3:=zz HW.o;clear HO;go_wp2;clear qh qtl HYr;go_loopw [202] (fun iv wr=>∃ i:Nat,i≤n∧iv=.int .i64 i∧Hi (OB 3 ER 88 wr ga n (mapTo (oZ Y s k) i (cM X Y s k)))∧Hi (Turns w110 wr (fun b:Nat=>b=ga))) (fun iv _=>n-(intOf iv).toNat)
               case atStart=>exact⟨0,aEy _,rfl,x7,T3⟩
               case round=>
                clear x7 T3 HW;obtain⟨i,hi,rfl,HO,HW⟩:=hrel;have zr':=HW.o.size;by_cases hit:i<n
                ·skip
                 have hil:i<(cM X Y s k).length:=by rw[nN,J3.o];exact hit
                 have hset:(mapTo (oZ Y s k) i (cM X Y s k)).set i ((cM X Y s k)[i]+s.getD k 0*bP Y k i)=mapTo (oZ Y s k) (i+1) (cM X Y s k):=oK (f:=oZ Y s k) hil;have W3:=zz hset;clear hset;have hget:=gE (f:=oZ Y s k) (k:=i) hil;rw[aEu (aJt i)] at hget;have hx0:(cM X Y s k)[i]=X.getD i 0+aJ s (dD Y i) k:=by simp only[cM,aGy];rw[aG (by rw[J3.o];exact hit)]
                 have hqx:=DW b4.o p6.o v4.o (cG (by decide) _) (cG (by unfold cH;omega) _) k i;rw[← hx0] at hqx;have hbb:dG p.length+(dE (cH p.length) Y.length+dG p.length+1)*k+2≤60000000:=by have h1:=d4.o.2.2;have h2:(dE (cH p.length) Y.length+dG p.length+1)*k≤(dE (cH p.length) Y.length+dG p.length+1)*Y.length:=aFf _ hk;omega
                 have hqx2:=hqx.mono hbb hbb;clear hqx hbb;have hml:(mapTo (oZ Y s k) i (cM X Y s k)).length=n:=by rw[eK,nN,J3.o]
                 obtain⟨xn,xA,xl,xc,xB,xu,xd,hEx,hv⟩:=OB.elem3 HO.o (j:=i) (by rw[hml];exact hit);rw[hget] at hv;have V3:=zz hv;clear hv hget hx0;have r6:=zz hml;clear hml;obtain⟨x0,hx0⟩:∃ x,x=(cM X Y s k)[i]:=⟨_,rfl⟩;rw[← hx0] at V3 W3 hqx2;have J5:=zz hqx2;clear hqx2 hx0;generalize mapTo (oZ Y s k) i (cM X Y s k)=l at HO W3 r6;have HYr:=zz (OM.turns g5.o ERo.soft HW.o u7.o);have P3:=zz (aMi HYr.o X4.o hlt);have HSr:=zz (OB.turns t8.o aKb HW.o w8.o);obtain⟨yn,yA,yl,yc,yB,yu,yd,hEy,hv⟩:=OM.elem HYr.o X4.o hlt hit;have d5:=zz hv;clear hv;have hks:k<s.length:=by rw[e5.o];exact hlt
                 obtain⟨sn,sA,sl,sc,sB,su,sd,hEs,hv⟩:=OB.elem3 HSr.o (j:=k) hks;rw[← aG (d:=0) hks] at hv;have s6:=zz hv;clear hv;have b8:=s6.o;obtain⟨y,hy⟩:=ex (bP Y k i);obtain⟨z,hz⟩:=ex (s.getD k 0);rw[← hy] at d5 W3;rw[← hz] at s6 W3;clear b8;have hqy:QL 17749 17749 y:=by rw[hy];exact(v4.o.at (cG (by decide) _) k i).mono M3.o M3.o
                 have hqz:QL 20000000 20000000 z:=by rw[hz];have h9:dE (cH p.length) Y.length≤20000000:=(by have:=d4.o.2.1;omega);exact(aT p6.o (cG (by unfold cH;omega) _) k).mono h9 h9
                 have y7:=zz hqy;have A7:=zz hqz;clear hqy hqz hy hz;have hii:(0:Int)≤(i:Int)∧(i:Int)<(n:Int):=by omega
                 have hksi:(k:Int)<(s.length:Int):=by omega
                 go_upto_region 57 with (fail)
                 refine aFq [se 0 205 [] (.slice (some ⟨ga,0,none⟩) n n),se 1 206 [] (.int .i64 (i:Int)),se 2 207 [] (.slice (some ⟨ga,0,none⟩) n n),se 3 208 [] (.int .i64 (i:Int)),se 4 209 [2,3] (.pointer (some ⟨ga,i*3,none⟩)),se 5 210 [4] (.agg #[.bool xn,.slice xA xl xc,.slice xB xu xd]),se 6 211 [] (.slice (some ⟨gx,0,none⟩) s.length s.length),se 7 212 [] (.int .i64 (k:Int)),se 8 213 [6,7] (.pointer (some ⟨gx,k*3,none⟩)),se 9 214 [8] (.agg #[.bool sn,.slice sA sl sc,.slice sB su sd]),se 10 215 [] (.slice (some ⟨GW k,0,none⟩) n (CW k)),se 11 216 [] (.int .i64 (i:Int)),se 12 217 [10,11] (.pointer (some ⟨GW k,i*3,none⟩)),se 13 218 [12] (.agg #[.bool yn,.slice yA yl yc,.slice yB yu yd]),sf 14 219 [9,13] (fun fv fw=>RV fw fw.heap.size fv (z*y)),sf 15 220 [5,14] (fun fv fw=>RV fw fw.heap.size fv (x0+z*y)),se 16 221 [0,1] (.pointer (some ⟨ga,i*3,none⟩))] 1 (SC (fun _ h=>(aIb hEx h).c0) (SC (fun _ h=>(aIb hEx h).c1) (SC (fun _ h=>(aIb hEx h).c2) (SC (fun _ h=>(aIb hEs h).c0) (SC (fun _ h=>(aIb hEs h).c1) (SC (fun _ h=>(aIb hEs h).c2) (SC (fun _ h=>(aIb hEy h).c0) (SC (fun _ h=>(aIb hEy h).c1) (SC (fun _ h=>(aIb hEy h).c2) S0))))))))) (MA (fun _ _ _ h hb=>h.step hb) (MA (fun _ _ _ h hb=>h.step hb) aFi)) ?_ ?_
                 ·intro xs a_ hA;simp only[SX,↓reduceIte,Nat.reduceEqDiff,Nat.reduceAdd] at hA⊢;subst hA;and_intros
                  all_goals intro wk b_ z_
                  any_goals (intro f10 f11;intros;(refine aDz (i:=12) (o:=_) rfl (fun K hK=>?_));have qv0:=P3.o;go_simp;(refine hK _ _ ⟨_,by simp only[FL,f10,f11] <;> kernel_rfl,aDy _ _,rfl⟩))
                  all_goals try exact pl
                  ·intro f9 f13;intros;refine wo fun K hK=>?_;go_simp;have k1:=st aHm s6 b_;have l1:=st aHm d5 b_;(with_reducible refine(rM _ _ _ _ _ k1.o l1.o (A7.o.mono (by decide) (by decide)) (y7.o.mono (by decide) (by decide))).mono ?_)
                   rintro e wc116 ⟨n2,v116,rfl,p2⟩;refine hK _ _ ⟨v116,by simp only[FL,f9,f13] <;> kernel_rfl,n2,p2⟩
                  ·intro f5 f14;intros;refine wo fun K hK=>?_;go_simp;have p1:=st aHm V3 b_;(with_reducible refine(FX _ _ _ _ _ p1.o f14 J5.o ((A7.o.mul y7.o).mono (by decide) (by decide))).mono ?_)
                   rintro e wc118 ⟨q2,v118,rfl,r2⟩;refine hK _ _ ⟨v118,by simp only[FL,f5] <;> kernel_rfl,q2,r2⟩
                 ·intro xs i5 B120 z120;simp only[SY];generalize xs 14=x14,xs 15=x15;rintro f14 f15;clear f14;obtain⟨B6,C6,D6,E6,F6,q1,G6,rfl,ha121,A0,hc121⟩:=f15;have r1:Hi (RV i5 i5.heap.size (.agg #[.bool B6,.slice C6 D6 E6,.slice F6 q1 G6]) (x0+z*y)):=zz (aMd ha121 A0 hc121);clear ha121 A0 hc121;have q3:=zz (aKi HO.o aEw B120.o);obtain⟨o0,ho0⟩:=aIy q3.o (p:=i*3) (by omega);obtain⟨o1,ho1⟩:=aIy q3.o (p:=i*3+1) (by omega);obtain⟨o2,ho2⟩:=aIy q3.o (p:=i*3+2) (by omega);have fz0:=aHn q3.o (i*3);have fz1:=aHn q3.o (i*3+1);have fz2:=aHn q3.o (i*3+2);have flt:=OB.lt q3.o;obtain⟨hp1,hp2,hp3⟩:=OB.put1 (B:=ga) (j:=i) q3.o (by rw[r6.o];exact hit) r1.o (aEa _);rw[W3.o] at hp1;have I3:=zz hp1;have x8:=zz ((HW.o.trans (aLk B120.o)).trans (Turns.set (S:=(fun b:Nat=>b=ga)) rfl hp3));clear hp1 hp2 hp3;refine EN 17 rfl fun K hK=>?_;go_simp;refine hK _ _ ?_;clear hK K;clear ho0 ho1 ho2 fz0 fz1 fz2 flt;(try simp only[PT])
                  refine ED ?_;(try simp only[Exit.then])
                  go_wp2;go_roundw
                  case rel=>exact⟨i+1,hit,by go_num,I3,x8⟩
                  case measure=>exact ms
                ·obtain rfl:n=i:=by omega
                 have hsc:=BZ (x:=X) (ways:=Y) (s:=s) (k:=k);rw[J3.o] at hsc;rw[hsc] at HO;clear hsc;go_wp2;go_roundw
                 case rel=>exact⟨k+1,hlt,by go_num,HO,HW⟩
                 case measure=>exact ms
              ·obtain rfl:k=Y.length:=by omega
               rw[← e5.o,IT] at HO;have HBz:=zz (s7.o.trans (HW.o.below s7.o.size (fun b hb=>by subst hb;exact hgaw)));have hmq:(kQ X Y s).length=n:=by rw[kQ,aLb,J3.o]
               have t6:=zz hmq;clear hmq;go_wp2_with fail
               refine(nx HBz (lI _ _ _ _ (kQ X Y s) (by have h:=HO.o.sl (c:=n) (aGo t6.o) (by omega);rwa [t6.o] at h) (fun q hq=>(RY b4.o p6.o v4.o (cG (by decide) _) (cG (by unfold cH;omega) _) hq).mono (by rw[e5.o];have:=d4.o.2.2;omega) (by rw[e5.o];have:=d4.o.2.2;omega)) (by rw[t6.o];omega))).mono ?_;rintro e w122 ⟨⟨B123,z123,s2⟩,v,rfl,hv⟩;have W5:=zz hv;clear hv;go_wp2;go_ret2;exact⟨s2.o,by rw[o6.o];exact⟨_,rfl,W5.o⟩⟩
end Go.Proofs.YtencnahjgbdeoaaGreatDoor
