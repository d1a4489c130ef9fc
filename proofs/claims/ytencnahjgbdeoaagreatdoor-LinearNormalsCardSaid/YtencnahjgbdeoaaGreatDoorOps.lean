/- Texts put together. -/
import Derived.Test.YtencnahjgbdeoaaGreatDoorLow
import Derived.Test.YtencnahjgbdeoaaGreatDoorSize
import Derived.Maps.AppendAt
import Derived.Deep.RegionHeld3
import Derived.Deep.RegionLaw
import Derived.Deep.AppendLies
import Derived.Deep.DeepCutAuto
import Derived.Deep.CutBlock
import Derived.Deep.LoopGhost
import Derived.Deep.QuietTactic
import Derived.BigQuiet
import Derived.IntWalk
namespace Go.Proofs.YtencnahjgbdeoaaGreatDoor
open Go Go.RowKit Dig
set_option maxRecDepth 100000
set_option maxHeartbeats 4000000
variable {B b c k:Nat} {W w w':World} {l:List Int} {n:Bool} {v x x0 x1 y:Value} {z:Int}
theorem LB.new' (h:b=w.heap.size):LB (w.alloc (.cells #[x,y] 26)) b x y:=by subst h;exact LB.new w x y
abbrev aJj:=@LB.new'
theorem dB (a b:Nat):(dig (a*b)).length≤(dig a).length+(dig b).length:=by
 rw[aU,vD];exact Nat.mul_lt_mul'' (vC a) (vC b)
theorem VY (a b:Int):(if (!(decide (a<0)==decide (b<0))) then -((a.natAbs*b.natAbs:Nat):Int) else ((a.natAbs*b.natAbs:Nat):Int))=a*b:=by
 rw[aFp];by_cases ha:a<0 <;> by_cases hb:b<0
 ·rw[aEj ha,aEj hb,aEu (by simp),aLn (by omega),aLn (by omega),Int.neg_mul_neg]
 ·rw[aEj ha,aEe hb,aEv (by simp),aLn (by omega),aNc (by omega),Int.neg_mul,Int.neg_neg]
 ·rw[aEe ha,aEj hb,aEv (by simp),aNc (by omega),aLn (by omega),Int.mul_neg,Int.neg_neg]
 ·rw[aEe ha,aEe hb,aEu (by simp),aNc (by omega),aNc (by omega)]
theorem IZ (a b:Nat) {n:Nat} (ha:(dig a).length≤n) (hb:(dig b).length≤n):(dig (Nat.gcd a b)).length≤n:=by
 rcases aGg a with h | h
 ·subst h;rwa [Nat.gcd_zero_left]
 ·exact aEg (aL (Nat.gcd_le_left b h)) ha
theorem kN (a b:Nat) {n:Nat} (ha:(dig a).length≤n) (hb:(dig b).length≤n):(dig (a+b)).length≤n+1:=by
 rw[aU,eQ];have:=aU.1 ha;have:=aU.1 hb;generalize bp n=z at *
 omega
def aDi (a b:Int):Int × Int × Int:=if b=0 then (0,0,7) else (Int.tdiv a b,Int.tmod a b,0)
def D2:Option Int→Option Int→Int × Int × Int
 | some a,some b=>aDi a b
 | _,_=>(0,0,30)
theorem RI.zero (h:z=0):RI w B (.slice none 0 0) (ni (dig z.natAbs)):=by
 rw[h,show(0:Int).natAbs=0 from rfl,bF];exact RI.nil _ _
theorem PY (a b:Int):(if (!(decide (a<0)==decide (b<0))) then -((a.natAbs / b.natAbs:Nat):Int) else ((a.natAbs / b.natAbs:Nat):Int))=Int.tdiv a b:=by
 by_cases ha:a<0 <;> by_cases hb:b<0
 ·obtain⟨m,rfl⟩:∃ m:Nat,a=-(m:Int):=⟨a.natAbs,by omega⟩;obtain⟨n,rfl⟩:∃ n:Nat,b=-(n:Int):=⟨b.natAbs,by omega⟩;rw[aEj ha,aEj hb,aEu (by simp),Int.neg_tdiv_neg];simp
 ·obtain⟨m,rfl⟩:∃ m:Nat,a=-(m:Int):=⟨a.natAbs,by omega⟩;obtain⟨n,rfl⟩:∃ n:Nat,b=(n:Int):=⟨b.natAbs,by omega⟩;rw[aEj ha,aEe hb,aEv (by simp),Int.neg_tdiv];simp
 ·obtain⟨m,rfl⟩:∃ m:Nat,a=(m:Int):=⟨a.natAbs,by omega⟩;obtain⟨n,rfl⟩:∃ n:Nat,b=-(n:Int):=⟨b.natAbs,by omega⟩;rw[aEe ha,aEj hb,aEv (by simp),Int.tdiv_neg];simp
 ·obtain⟨m,rfl⟩:∃ m:Nat,a=(m:Int):=⟨a.natAbs,by omega⟩;obtain⟨n,rfl⟩:∃ n:Nat,b=(n:Int):=⟨b.natAbs,by omega⟩;rw[aEe ha,aEe hb,aEu (by simp)];simp
theorem PX (a b:Int):(if decide (a<0) then -((a.natAbs % b.natAbs:Nat):Int) else ((a.natAbs % b.natAbs:Nat):Int))=Int.tmod a b:=by
 rw[← aKj];by_cases ha:a<0
 ·rw[aEj ha,aEv rfl];have:=Int.tmod_nonneg b (show 0≤-a by omega);rw[Int.neg_tmod] at this
  omega
 ·rw[aEe ha,aEu (by simp)];have:=Int.tmod_nonneg b (show 0≤a by omega)
  omega
def aDx (r:Int × Int) (e:Ending):Prop:=e=.returned (.tuple #[.int .i64 r.1,.int .i64 r.2])
theorem LB.grown {row:Option Nat} (h:LB w b x y) (hg:w.grownBy w' row) (hr:row≠some b):LB w' b x y:=h.of_block (hg.block b h.lt (fun e=>hr e.symm))
theorem OwnV.setBelow {base:Nat} (h:OwnV w base v l) {p:Addr} (hp:p.block<base) (u:Value):OwnV (w.setCell p u) base v l:=by
 have hg:w.grownBy (w.setCell p u) (some p.block):=⟨rfl,rfl,rfl,by simp[World.setCell],fun i _ hne=>aFr _ _ _ _ (fun e=>hne (by rw[e]))⟩;refine World.ownsRow.kept h hg ?_;cases hv:v.ownBlock with
 | none=>exact .inl rfl
 | some g=>
  refine .inr fun e=>?_
  have h1:=(aFn h g hv).1;have h2:=aKh e
  omega
def oX (w':World) (z:Int) (e:Ending):Prop:=∃ v,e=.returned v∧LV w' w'.heap.size v z
theorem mB {fn:Func} {p:Tmp} (hf:fn.results=#[.cell p 26]) {W w:World} {B b:Nat} {q0:Bool} {A:Option Addr} {n c:Nat} (hL:LB w b (.bool q0) (.slice A n c)) (hb:Below B W w) (hB:B≤b)
  {q:Bool} {s:Value} {z:Int} {tmps:Array Value} (hs:RI w w.heap.size s (ni (Dig.dig z.natAbs))) (hq:q=decide (z<0)) (hp:tmps.getD p undef=.pointer (some ⟨b,0,none⟩)) :
  bodyPost Tryz.prog fn (fun e w'=>Below B W w'∧oX w' z e) .ret ⟨tmps,[]⟩ ((w.setCell ⟨b,0,none⟩ (.bool q)).setCell ⟨b,1,none⟩ s):=by
 obtain⟨h1,h2⟩:=hL.put (q:=q) hs;exact aFv (LB.ret1 hf tmps h1 hp) rfl ⟨(hb.setCell (by simpa using hB) _).setCell (by simpa using hB) _,.agg #[.bool q,s],rfl,s,by rw[hq],h2⟩
theorem AQ (w:World) (n:Int) (h0:-9223372036854775808≤n) (h1:n≤9223372036854775807) :
  CV 123 #[.int .i64 n] w fun e w'=>oX w' n e:=by
 obtain⟨i0,hi,hz0,hz1,hz2⟩:=aGf eI;have H3:=zz (show(dig n.natAbs).length≤3 by rw[aU];show n.natAbs<1000000000000000000000000000;omega);go_enter Tryz.func123,Tryz.ntmps123
 go_wp2;have L0:LB ((w.alloc (.cells #[.bool false,.slice none 0 0] 26)).alloc (.cells #[.bool (decide (n<0)),.slice none 0 0] 26)) w.heap.size (.bool false) (.slice none 0 0):=by(repeat (first | (refine aJj ?_;simp;done) | refine aHq ?_ _))
 have L1:LB ((w.alloc (.cells #[.bool false,.slice none 0 0] 26)).alloc (.cells #[.bool (decide (n<0)),.slice none 0 0] 26)) (w.heap.size+1) (.bool (decide (n<0))) (.slice none 0 0):=by(repeat (first | (refine aJj ?_;simp;done) | refine aHq ?_ _))
 go_loopw [0] (fun nv wr=>∃ (k:Int) (ds:List Nat) (v:Value),nv=.int .i64 k∧-9223372036854775808≤k∧k≤9223372036854775807∧Hi (dig n.natAbs=ds++dig k.natAbs)∧Hi (ds.length≤20)∧LB wr w.heap.size (.bool false) (.slice none 0 0)∧LB wr (w.heap.size+1) (.bool (decide (n<0))) v∧Hi (OwnV wr (w.heap.size+2) v (ni ds))∧Hi (w.heap.size+2≤wr.heap.size)∧Below w.heap.size w wr) (fun nv _=>(intOf nv).natAbs)
 case atStart=>exact⟨n,[],_,rfl,h0,h1,zz (by simp),zz (by simp),L0,L1,zz (aLv _ _),zz (by simp),by(repeat' (first | exact aDy _ _ | refine aJo ?_ | refine aIs ?_ (by first | exact aEa _ | (simp;done) | (simp;omega)) _))⟩
 case round=>
  clear L0 L1;obtain⟨k,ds,v,rfl,a0,b0,hd,hlen,L0,L1,ho,hsz,hbw⟩:=hrel;by_cases hk:k=0
  ·have hds:ni (dig n.natAbs)=ni ds:=by rw[hd.o,hk,show(0:Int).natAbs=0 from rfl,bF,aId]
   have k0:=zz hds;have HB:=zz hbw;have l0:=zz ho.o.ri;have hri:=ho.o.ri;obtain⟨A,c,rfl,_⟩:=hri;subst hk;have qa0:=L1.cell0;have qa1:=L1.cell1;have qb0:=L0.cell0;have qb1:=L0.cell1;have qb2:=L0.frozen 0;have qb3:=L0.frozen 1;clear hds hbw a0 b0;go_wp2;(try simp only[Exit.inBlock,Exit.then])
   exact mB rfl L0 HB.o (aEa _) (by rw[k0.o];exact l0.o) rfl rfl
  ·have HB:=zz hbw;have hkb:(k != 0)=true:=by simpa using hk
   have hna:(k.tmod 1000000000).natAbs=k.natAbs % 1000000000:=aKj k 1000000000;have hnd:(k.tdiv 1000000000).natAbs=k.natAbs / 1000000000:=Int.natAbs_tdiv k 1000000000;have hm0:-1000000000<k.tmod 1000000000:=by have:=aGp k.natAbs (show 1000000000>0 by decide);omega
   have hm1:k.tmod 1000000000<1000000000:=by have:=aGp k.natAbs (show 1000000000>0 by decide);omega
   have hmm:max (k.tmod 1000000000) (-k.tmod 1000000000)=((k.natAbs % 1000000000:Nat):Int):=by omega
   have HM:=zz hmm;have HD:=zz hnd;clear hmm hna hnd;have qa0:=L1.cell0;have qa1:=L1.cell1;have qa2:=L1.frozen 1;have hown:=ho.o.alloc (.cells #[.int .i64 (max (k.tmod 1000000000) (-k.tmod 1000000000))] 3);clear hbw;have hl20:=hlen.o;go_wp2_with (at_builtin;refine wpList_append_own_at _ rfl _ _ 24 rfl (w.heap.size+2) 3 i0 (.int .i64 0) 1 8 Tryz.underlying24 hi hz0 hz1 hz2 rfl (by decide) v (ni ds).length ((ni ds).map (Value.int .i64)) rfl hown ⟨wr.heap.size,0,none⟩ 1 1 [.int .i64 (max (k.tmod 1000000000) (-k.tmod 1000000000))] rfl rfl (cell_one_new _ _ _) (by intro u hu;simp at hu;subst hu;rfl) (by rw[aC];unfold maxLen;omega) (by rw[aC];omega) (by have:=hsz.o;simp;omega) ?_)
   intro v' w' hown' hgrow hne hblk;have hv':OwnV w' (w.heap.size+2) v' (ni (ds++[k.natAbs % 1000000000])):=by
    have h:=hown';rw[HM.o] at h;rw[OwnV,aC,aEp];rw[aC] at h;have e:(ni (ds++[k.natAbs % 1000000000])).map (Value.int .i64)=(ni ds).map (Value.int .i64)++[.int .i64 ((k.natAbs % 1000000000:Nat):Int)]:=by simp[ni]
    rw[e];exact h
   have hrow:∀ b,b<w.heap.size+2→v.ownBlock≠some b:=fun b hb he=>by
    have:=(aFn ho.o b he).1
    omega
   have M0:=(L0.alloc (.cells #[.int .i64 (max (k.tmod 1000000000) (-k.tmod 1000000000))] 3)).grown hgrow (hrow _ (by omega));have M1:=(L1.alloc (.cells #[.int .i64 (max (k.tmod 1000000000) (-k.tmod 1000000000))] 3)).grown hgrow (hrow _ (by omega));have c0:=zz ((HB.o.alloc (by have:=HB.o.size;exact this) (.cells #[.int .i64 (max (k.tmod 1000000000) (-k.tmod 1000000000))] 3)).grown hgrow (by have:=HB.o.size;simp;omega) (fun g he=>by have:=(aFn ho.o g he).1;omega));have m0:=zz (show w.heap.size+2≤w'.heap.size by have h1:=hgrow.size;have h2:=hsz.o;simp at h1;omega);have HV:=zz (hv'.setBelow (p:=⟨w.heap.size+1,1,none⟩) (by simp) v');have N0:=M0.far (p:=⟨w.heap.size+1,1,none⟩) (by simp) v';have N1:=M1.set1 v';have d0:=zz (c0.o.setCell (p:=⟨w.heap.size+1,1,none⟩) (by simp) v');clear hown' hgrow hne hblk hown qa0 qa1 qa2;have qa2:=M1.frozen 1;have qa1:=M1.cell1;rcases hv'.form with ⟨_,he⟩ | ⟨g,cap,rfl,_⟩
   ·simp[ni] at he
   ·have e0:-9223372036854775808≤k.tdiv 1000000000:=by have:=HD.o;omega
    have f0:k.tdiv 1000000000≤9223372036854775807:=by have:=HD.o;omega
    clear hv' hrow;go_wp2;go_roundw
    case rel=>
     exact⟨k.tdiv 1000000000,ds++[k.natAbs % 1000000000],_,rfl,e0,f0,zz (by rw[hd.o,HD.o,mC (by omega:k.natAbs≠0)];simp),zz (by have h:=H3.o;rw[hd.o,mC (by omega:k.natAbs≠0)] at h;simp at h ⊢;omega),N0,N1,HV,zz (by have:=m0.o;simpa[World.setCell] using this),d0.o⟩
    case measure=>have:=HD.o;simp only[intOf];omega
theorem VD (neg:Bool) (n:Nat):(neg&&decide (0<(dig n).length))=decide (jZ neg n<0):=by
 rcases aGg n with h0 | h0
 ·subst h0;rw[bF];cases neg <;> simp[jZ]
 ·have:=bX (by omega:n≠0);cases neg <;> simp[jZ] <;> omega
theorem nT (neg:Bool) (n:Nat):(jZ neg n).natAbs=n:=by unfold jZ;cases neg <;> simp
def RetO (B:Nat) (w':World) (z:Int) (e:Ending):Prop:=∃ q s,e=.returned (.agg #[.bool q,s])∧q=decide (z<0)∧OwnV w' B s (ni (dig z.natAbs))
theorem OwnV.mono {B':Nat} (h:OwnV w B v l) (hB:B'≤B):OwnV w B' v l:=by
 obtain⟨h1,h | ⟨g,cap,cur,hv,hg,r⟩⟩:=h
 ·exact⟨h1,.inl h⟩
 ·exact⟨h1,.inr ⟨g,cap,cur,hv,aEg hB hg,r⟩⟩
theorem RetO.any {e:Ending} (h:RetO B w' z e):oX w' z e:=by
 obtain⟨q,s,he,hq,ho⟩:=h;exact⟨_,he,s,by rw[hq],ho.ri⟩
theorem uK {fn:Func} {p:Tmp} (hf:fn.results=#[.cell p 26]) {W w:World} {B b base:Nat} {q0:Bool} {A:Option Addr} {n c:Nat} (hL:LB w b (.bool q0) (.slice A n c)) (hb:Below B W w) (hB:B≤b)
  {q:Bool} {s:Value} {z:Int} {tmps:Array Value} (ho:OwnV w base s (ni (Dig.dig z.natAbs))) (hbb:b<base) (hq:q=decide (z<0)) (hp:tmps.getD p undef=.pointer (some ⟨b,0,none⟩)) :
  bodyPost Tryz.prog fn (fun e w'=>Below B W w'∧RetO B w' z e) .ret ⟨tmps,[]⟩ ((w.setCell ⟨b,0,none⟩ (.bool q)).setCell ⟨b,1,none⟩ s):=by
 obtain⟨h1,-⟩:=hL.put (q:=q) ho.ri;exact aFv (LB.ret1 hf tmps h1 hp) rfl ⟨(hb.setCell (by simpa using hB) _).setCell (by simpa using hB) _,q,s,rfl,hq,((ho.setBelow (p:=⟨b,0,none⟩) hbb _).setBelow (p:=⟨b,1,none⟩) hbb _).mono (by omega)⟩
theorem rF (w:World) (neg:Bool) (v:Value) (ds:List Nat) (h:RN w w.heap.size v ds) (hs:Small ds) (hl:ds.length≤3000000000) :
  CV 132 #[.bool neg,v] w fun e w'=>RetO w.heap.size w' (jZ neg (val ds)) e:=by
 obtain⟨i0,hi,hz0,hz1,hz2⟩:=aGf eI;obtain⟨A,c,rfl,hc,hc',hA⟩:=h.cell;have HR:=zz h;have HS:=zz hs;replace hA:=zz hA;clear h hs;have L0:=LB.new w (.bool false) (.slice none 0 0);have b0:=zz ((aDy w.heap.size w).alloc (aEa _) (.cells #[.bool false,.slice none 0 0] 26));go_enter Tryz.func132,Tryz.ntmps132
 go_wp2;generalize hW:(w.alloc (.cells #[.bool false,.slice none 0 0] 26))=w1 at *
 have hsz1:w.heap.size<w1.heap.size:=L0.lt;have t0:=zz (show w1.heap.size=w.heap.size+1 by rw[← hW];simp);clear hW;go_loop [5] (fun nv=>∃ n:Nat,n≤ds.length∧nv=.int .i64 n∧Hi (val (ds.take n)=val ds)) (fun nv=>(intOf nv).toNat)
 case atStart=>exact⟨_,aEa _,rfl,zz (by rw[aFe])⟩
 case round=>
  obtain⟨n,hn,rfl,hv⟩:=hrel;by_cases hgo:0<n∧ds.getD (n-1) 0=0
  ·obtain⟨k,rfl⟩:∃ k,n=k+1:=⟨n-1,by omega⟩;obtain⟨g,off,rfl,hg,hx⟩:=hA.o (by omega);have hk:k<ds.length:=by omega
   have hz:ds[k]=0:=by have:=hgo.2;rwa [aLa,bJ hk] at this
   have h1:=(b0.o.cell (p:=⟨g,off+k,none⟩) hg).trans (hx k hk);rw[hz] at h1;have HV:=zz (NG hk hv.o hz);clear hx hgo hv hz;go_wp2;go_round
   case rel=>exact⟨k,by omega,by go_num,HV⟩
   case measure=>simp[intOf]
  ·have hz:n=0∨∃ h:n-1<ds.length,ds[n-1]≠0:=by
    rcases aGg n with h0 | h0
    ·exact .inl h0
    ·refine .inr ⟨by omega,fun e=>hgo ⟨h0,?_⟩⟩;rw[bJ (show n-1<ds.length by omega)];exact e
   have HD:=zz (yI HS.o hn hv.o hz);have HQ:=zz (VD neg (val ds));clear hgo hv;rcases aGg n with hn0 | hn0
   ·subst hn0;clear hz;cases neg with
    | false=>
     go_wp2;have LO:LB (w1.alloc (.cells #[.bool false,.slice none 0 0] 26)) w1.heap.size (.bool false) (.slice none 0 0):=LB.new _ _ _;have d0:=L0.alloc (.cells #[.bool false,.slice none 0 0] 26);have a0:=b0.o.alloc b0.o.size (.cells #[.bool false,.slice none 0 0] 26);have e0:=zz (show w1.heap.size+1≤(w1.alloc (.cells #[.bool false,.slice none 0 0] 26)).heap.size by simp);clear L0;go_loopw [7] (fun iv wr=>∃ (i:Nat) (v:Value),i≤0∧iv=.int .i64 i∧LB wr w.heap.size (.bool false) (.slice none 0 0)∧LB wr w1.heap.size (.bool false) v∧Hi (OwnV wr (w1.heap.size+1) v (ni (ds.take i)))∧Hi (w1.heap.size+1≤wr.heap.size)∧Below w.heap.size w wr) (fun iv _=>0-(intOf iv).toNat)
     case atStart=>exact⟨0,_,by omega,rfl,d0,LO,zz (aLv _ _),e0,a0⟩
     case round=>
      clear LO d0 a0 e0;obtain⟨i,v,hin,rfl,L0,LO,ho,hszr,hbw⟩:=hrel;have HB:=zz hbw;by_cases hlt:i<0
      ·exact absurd hlt (aNl _)
      ·obtain rfl:i=0:=by omega
       have m0:=zz ho.o.ri;have hri:=ho.o.ri;obtain⟨A',c',rfl,-⟩:=hri;have g0:=zz (show ni (dig (jZ false (val ds)).natAbs)=ni (ds.take 0) by rw[nT,HD.o]);have qa0:=LO.cell0;have qa1:=LO.cell1;have qb0:=L0.cell0;have qb1:=L0.cell1;have qb2:=L0.frozen 0;have qb3:=L0.frozen 1;have hlt1:=LO.lt;have hlt0:=L0.lt;clear hbw hlt;go_wp2;(try simp only[Exit.inBlock,Exit.then])
       exact uK rfl L0 HB.o (aEa _) (by rw[g0.o];exact ho.o) (by omega) (by rw[← HQ.o,← HD.o];(simp <;> omega)) rfl
    | true=>
     go_wp2;have LO:LB (w1.alloc (.cells #[.bool false,.slice none 0 0] 26)) w1.heap.size (.bool false) (.slice none 0 0):=LB.new _ _ _;have d0:=L0.alloc (.cells #[.bool false,.slice none 0 0] 26);have a0:=b0.o.alloc b0.o.size (.cells #[.bool false,.slice none 0 0] 26);have e0:=zz (show w1.heap.size+1≤(w1.alloc (.cells #[.bool false,.slice none 0 0] 26)).heap.size by simp);clear L0;go_loopw [7] (fun iv wr=>∃ (i:Nat) (v:Value),i≤0∧iv=.int .i64 i∧LB wr w.heap.size (.bool false) (.slice none 0 0)∧LB wr w1.heap.size (.bool false) v∧Hi (OwnV wr (w1.heap.size+1) v (ni (ds.take i)))∧Hi (w1.heap.size+1≤wr.heap.size)∧Below w.heap.size w wr) (fun iv _=>0-(intOf iv).toNat)
     case atStart=>exact⟨0,_,by omega,rfl,d0,LO,zz (aLv _ _),e0,a0⟩
     case round=>
      clear LO d0 a0 e0;obtain⟨i,v,hin,rfl,L0,LO,ho,hszr,hbw⟩:=hrel;have HB:=zz hbw;by_cases hlt:i<0
      ·exact absurd hlt (aNl _)
      ·obtain rfl:i=0:=by omega
       have m0:=zz ho.o.ri;have hri:=ho.o.ri;obtain⟨A',c',rfl,-⟩:=hri;have g0:=zz (show ni (dig (jZ true (val ds)).natAbs)=ni (ds.take 0) by rw[nT,HD.o]);have qa0:=LO.cell0;have qa1:=LO.cell1;have qb0:=L0.cell0;have qb1:=L0.cell1;have qb2:=L0.frozen 0;have qb3:=L0.frozen 1;have hlt1:=LO.lt;have hlt0:=L0.lt;clear hbw hlt;go_wp2;(try simp only[Exit.inBlock,Exit.then])
       exact uK rfl L0 HB.o (aEa _) (by rw[g0.o];exact ho.o) (by omega) (by rw[← HQ.o,← HD.o];(simp <;> omega)) rfl
   ·obtain⟨k,rfl⟩:∃ k,n=k+1:=⟨n-1,by omega⟩;have hk:k<ds.length:=by omega
    have hne:ds[k]≠0:=by
     rcases hz with h | ⟨h,h'⟩
     ·omega
     ·exact h'
    obtain⟨g,off,rfl,hg,hx⟩:=hA.o (by omega);have h1:=(b0.o.cell (p:=⟨g,off+k,none⟩) hg).trans (hx k hk);have hnz:((ds[k]:Int)==0)=false:=by rw[aEo];omega
    have r0:=zz hx;clear hx hz hne hA;cases neg with
    | false=>
     go_wp2;have LO:LB (w1.alloc (.cells #[.bool false,.slice none 0 0] 26)) w1.heap.size (.bool false) (.slice none 0 0):=LB.new _ _ _;have d0:=L0.alloc (.cells #[.bool false,.slice none 0 0] 26);have a0:=b0.o.alloc b0.o.size (.cells #[.bool false,.slice none 0 0] 26);have e0:=zz (show w1.heap.size+1≤(w1.alloc (.cells #[.bool false,.slice none 0 0] 26)).heap.size by simp);clear L0;go_loopw [7] (fun iv wr=>∃ (i:Nat) (v:Value),i≤(k+1)∧iv=.int .i64 i∧LB wr w.heap.size (.bool false) (.slice none 0 0)∧LB wr w1.heap.size (.bool false) v∧Hi (OwnV wr (w1.heap.size+1) v (ni (ds.take i)))∧Hi (w1.heap.size+1≤wr.heap.size)∧Below w.heap.size w wr) (fun iv _=>(k+1)-(intOf iv).toNat)
     case atStart=>exact⟨0,_,by omega,rfl,d0,LO,zz (aLv _ _),e0,a0⟩
     case round=>
      clear LO d0 a0 e0;obtain⟨i,v,hin,rfl,L0,LO,ho,hszr,hbw⟩:=hrel;have HB:=zz hbw;by_cases hlt:i<(k+1)
      ·have hid:i<ds.length:=by omega
       have hini:(i:Int)<(((k+1):Nat):Int):=by omega
       have hini2:(i:Int)<ds.length:=by omega
       have hi00:(0:Int)≤(i:Int):=by omega
       have hc1:=LO.cell1;have hf1:=LO.frozen 1;have hlt1:=LO.lt;obtain⟨d,hd⟩:=ex (ds[i]);have hx1:=(hbw.cell (p:=⟨g,off+i,none⟩) hg).trans (r0.o i hid);rw[← hd] at hx1;have hgr:g<wr.heap.size:=by have:=hbw.size;omega
       have n0:=zz (show ni (ds.take (i+1))=ni (ds.take i)++[(d:Int)] by rw[hd,aFt hid,bH];rfl);have hlen:(ni (ds.take i)).length=i:=by rw[aC];simp;omega
       have j0:=zz hlen;have hga:v.ownBlock≠some g:=fun e=>by have:=(aFn ho.o g e).1;omega
       have hgo:v.ownBlock≠some w1.heap.size:=fun e=>by have:=(aFn ho.o w1.heap.size e).1;omega
       have hgr0:v.ownBlock≠some w.heap.size:=fun e=>by have:=(aFn ho.o w.heap.size e).1;omega
       have o0:Hi (∀ o:Obj,(wr.alloc o).drew.cell? ⟨g,off+i,none⟩=some (.int .i64 (d:Int))):=zz (fun o=>(aIt (w:=wr) (w':=(wr.alloc o).drew) (a:=⟨g,off+i,none⟩) (aLy wr o _ hgr)).trans hx1);clear hbw hd hlen;go_wp2;go_region_law (first
         | (refine step_append_lies _ (by rfl) _ _ _ (by rfl) (w1.heap.size+1) 3 i0 _ 1 8 Tryz.underlying24 hi hz0 hz1 hz2 rfl (by omega) v (ni (ds.take i)).length ((ni (ds.take i)).map (Value.int .i64)) (by rfl) ((OwnV.alloc ho.o _).drew) ⟨wr.heap.size,0,none⟩ 1 1 [.int .i64 (d:Int)] (by rfl) (by rfl) (World.news_of_block (cs:=#[.int .i64 (d:Int)]) (t:=3) (fr:=(0,0)) (aJu wr _)) (by simp[Value.oneCell']) (by omega) (by have:=j0.o;unfold maxLen;omega) (by have:=j0.o;omega) (by have:=hszr.o;simp;omega) (wr.heap.size+1) (by simp) ?_;intro gg cap w4 hown4 hgrow hat hlt4;have M0:=LB.grown (aFz (aHq L0 _)) hgrow hgr0;have M1:=LB.grown (aFz (aHq LO _)) hgrow hgo;have qm1:=M1.cell1;have qm2:=M1.frozen 1;have qx4:w4.cell? ⟨g,off+i,none⟩=some (.int .i64 (d:Int)):=Eq.trans (hgrow.cell_far _ (by simp;omega) (aMj hga)) (o0.o _)))
       all_goals
        have hv':OwnV w4 (w1.heap.size+1) (.slice (some ⟨gg,0,none⟩) ((ni (ds.take i)).length+1) cap) (ni (ds.take (i+1))):=by
         rw[n0.o];unfold OwnV;rw[aEp,aGc];exact hown4
        have HV:=zz (hv'.setBelow (p:=⟨w1.heap.size,1,none⟩) (by simp) (.slice (some ⟨gg,0,none⟩) ((ni (ds.take i)).length+1) cap));have N0:=M0.far (p:=⟨w1.heap.size,1,none⟩) (by simp;omega) (.slice (some ⟨gg,0,none⟩) ((ni (ds.take i)).length+1) cap);have N1:=M1.set1 (.slice (some ⟨gg,0,none⟩) ((ni (ds.take i)).length+1) cap);have c0:=zz ((((HB.o.alloc HB.o.size (.cells #[.int .i64 (d:Int)] 3)).drew).grown hgrow (by have:=HB.o.size;simp;omega) (fun g' e=>by have:=(aFn ho.o g' e).1;omega)).setCell (p:=⟨w1.heap.size,1,none⟩) (by simp;omega) (.slice (some ⟨gg,0,none⟩) ((ni (ds.take i)).length+1) cap));have p0:=zz (show w1.heap.size+1≤(w4.setCell ⟨w1.heap.size,1,none⟩ (.slice (some ⟨gg,0,none⟩) ((ni (ds.take i)).length+1) cap)).heap.size by have h1:=hgrow.size;have h2:=hszr.o;simp[World.setCell] at h1 ⊢;omega);clear hown4 hgrow hat hlt4 M0 M1 qm1 qm2 hv';go_wp2;go_roundw
        case rel=>exact⟨i+1,_,by omega,by go_num,N0,N1,HV,p0,c0.o⟩
        case measure=>exact ms
      ·obtain rfl:i=(k+1):=by omega
       have m0:=zz ho.o.ri;have hri:=ho.o.ri;obtain⟨A',c',rfl,-⟩:=hri;have g0:=zz (show ni (dig (jZ false (val ds)).natAbs)=ni (ds.take (k+1)) by rw[nT,HD.o]);have qa0:=LO.cell0;have qa1:=LO.cell1;have qb0:=L0.cell0;have qb1:=L0.cell1;have qb2:=L0.frozen 0;have qb3:=L0.frozen 1;have hlt1:=LO.lt;have hlt0:=L0.lt;clear hbw hlt;go_wp2;(try simp only[Exit.inBlock,Exit.then])
       exact uK rfl L0 HB.o (aEa _) (by rw[g0.o];exact ho.o) (by omega) (by rw[← HQ.o,← HD.o];(simp <;> omega)) rfl
    | true=>
     go_wp2;have LO:LB (w1.alloc (.cells #[.bool true,.slice none 0 0] 26)) w1.heap.size (.bool true) (.slice none 0 0):=LB.new _ _ _;have d0:=L0.alloc (.cells #[.bool true,.slice none 0 0] 26);have a0:=b0.o.alloc b0.o.size (.cells #[.bool true,.slice none 0 0] 26);have e0:=zz (show w1.heap.size+1≤(w1.alloc (.cells #[.bool true,.slice none 0 0] 26)).heap.size by simp);clear L0;go_loopw [7] (fun iv wr=>∃ (i:Nat) (v:Value),i≤(k+1)∧iv=.int .i64 i∧LB wr w.heap.size (.bool false) (.slice none 0 0)∧LB wr w1.heap.size (.bool true) v∧Hi (OwnV wr (w1.heap.size+1) v (ni (ds.take i)))∧Hi (w1.heap.size+1≤wr.heap.size)∧Below w.heap.size w wr) (fun iv _=>(k+1)-(intOf iv).toNat)
     case atStart=>exact⟨0,_,by omega,rfl,d0,LO,zz (aLv _ _),e0,a0⟩
     case round=>
      clear LO d0 a0 e0;obtain⟨i,v,hin,rfl,L0,LO,ho,hszr,hbw⟩:=hrel;have HB:=zz hbw;by_cases hlt:i<(k+1)
      ·have hid:i<ds.length:=by omega
       have hini:(i:Int)<(((k+1):Nat):Int):=by omega
       have hini2:(i:Int)<ds.length:=by omega
       have hi00:(0:Int)≤(i:Int):=by omega
       have hc1:=LO.cell1;have hf1:=LO.frozen 1;have hlt1:=LO.lt;obtain⟨d,hd⟩:=ex (ds[i]);have hx1:=(hbw.cell (p:=⟨g,off+i,none⟩) hg).trans (r0.o i hid);rw[← hd] at hx1;have hgr:g<wr.heap.size:=by have:=hbw.size;omega
       have n0:=zz (show ni (ds.take (i+1))=ni (ds.take i)++[(d:Int)] by rw[hd,aFt hid,bH];rfl);have hlen:(ni (ds.take i)).length=i:=by rw[aC];simp;omega
       have j0:=zz hlen;have hga:v.ownBlock≠some g:=fun e=>by have:=(aFn ho.o g e).1;omega
       have hgo:v.ownBlock≠some w1.heap.size:=fun e=>by have:=(aFn ho.o w1.heap.size e).1;omega
       have hgr0:v.ownBlock≠some w.heap.size:=fun e=>by have:=(aFn ho.o w.heap.size e).1;omega
       have o0:Hi (∀ o:Obj,(wr.alloc o).drew.cell? ⟨g,off+i,none⟩=some (.int .i64 (d:Int))):=zz (fun o=>(aIt (w:=wr) (w':=(wr.alloc o).drew) (a:=⟨g,off+i,none⟩) (aLy wr o _ hgr)).trans hx1);clear hbw hd hlen;go_wp2;go_region_law (first
         | (refine step_append_lies _ (by rfl) _ _ _ (by rfl) (w1.heap.size+1) 3 i0 _ 1 8 Tryz.underlying24 hi hz0 hz1 hz2 rfl (by omega) v (ni (ds.take i)).length ((ni (ds.take i)).map (Value.int .i64)) (by rfl) ((OwnV.alloc ho.o _).drew) ⟨wr.heap.size,0,none⟩ 1 1 [.int .i64 (d:Int)] (by rfl) (by rfl) (World.news_of_block (cs:=#[.int .i64 (d:Int)]) (t:=3) (fr:=(0,0)) (aJu wr _)) (by simp[Value.oneCell']) (by omega) (by have:=j0.o;unfold maxLen;omega) (by have:=j0.o;omega) (by have:=hszr.o;simp;omega) (wr.heap.size+1) (by simp) ?_;intro gg cap w4 hown4 hgrow hat hlt4;have M0:=LB.grown (aFz (aHq L0 _)) hgrow hgr0;have M1:=LB.grown (aFz (aHq LO _)) hgrow hgo;have qm1:=M1.cell1;have qm2:=M1.frozen 1;have qx4:w4.cell? ⟨g,off+i,none⟩=some (.int .i64 (d:Int)):=Eq.trans (hgrow.cell_far _ (by simp;omega) (aMj hga)) (o0.o _)))
       all_goals
        have hv':OwnV w4 (w1.heap.size+1) (.slice (some ⟨gg,0,none⟩) ((ni (ds.take i)).length+1) cap) (ni (ds.take (i+1))):=by
         rw[n0.o];unfold OwnV;rw[aEp,aGc];exact hown4
        have HV:=zz (hv'.setBelow (p:=⟨w1.heap.size,1,none⟩) (by simp) (.slice (some ⟨gg,0,none⟩) ((ni (ds.take i)).length+1) cap));have N0:=M0.far (p:=⟨w1.heap.size,1,none⟩) (by simp;omega) (.slice (some ⟨gg,0,none⟩) ((ni (ds.take i)).length+1) cap);have N1:=M1.set1 (.slice (some ⟨gg,0,none⟩) ((ni (ds.take i)).length+1) cap);have c0:=zz ((((HB.o.alloc HB.o.size (.cells #[.int .i64 (d:Int)] 3)).drew).grown hgrow (by have:=HB.o.size;simp;omega) (fun g' e=>by have:=(aFn ho.o g' e).1;omega)).setCell (p:=⟨w1.heap.size,1,none⟩) (by simp;omega) (.slice (some ⟨gg,0,none⟩) ((ni (ds.take i)).length+1) cap));have p0:=zz (show w1.heap.size+1≤(w4.setCell ⟨w1.heap.size,1,none⟩ (.slice (some ⟨gg,0,none⟩) ((ni (ds.take i)).length+1) cap)).heap.size by have h1:=hgrow.size;have h2:=hszr.o;simp[World.setCell] at h1 ⊢;omega);clear hown4 hgrow hat hlt4 M0 M1 qm1 qm2 hv';go_wp2;go_roundw
        case rel=>exact⟨i+1,_,by omega,by go_num,N0,N1,HV,p0,c0.o⟩
        case measure=>exact ms
      ·obtain rfl:i=(k+1):=by omega
       have m0:=zz ho.o.ri;have hri:=ho.o.ri;obtain⟨A',c',rfl,-⟩:=hri;have g0:=zz (show ni (dig (jZ true (val ds)).natAbs)=ni (ds.take (k+1)) by rw[nT,HD.o]);have qa0:=LO.cell0;have qa1:=LO.cell1;have qb0:=L0.cell0;have qb1:=L0.cell1;have qb2:=L0.frozen 0;have qb3:=L0.frozen 1;have hlt1:=LO.lt;have hlt0:=L0.lt;clear hbw hlt;go_wp2;(try simp only[Exit.inBlock,Exit.then])
       exact uK rfl L0 HB.o (aEa _) (by rw[g0.o];exact ho.o) (by omega) (by rw[← HQ.o,← HD.o];(simp <;> omega)) rfl
theorem kZ (w:World) (neg:Bool) (v:Value) (ds:List Nat) (h:RN w w.heap.size v ds) (hs:Small ds) (hl:ds.length≤3000000000) :
  CV 132 #[.bool neg,v] w fun e w'=>oX w' (jZ neg (val ds)) e:=
 (rF w neg v ds h hs hl).mono fun _ _ ⟨h1,h2⟩=>⟨h1,h2.any⟩
def Fit (z:Int):Prop:=(dig z.natAbs).length≤600
theorem Fit.le {y:Int} (h:Fit z) (hy:y.natAbs≤z.natAbs):Fit y:=aEg (aL hy) h
theorem aR {a:World} (h:Below B a.drew w):Below B a w:=⟨h.os,h.tape,h.output,h.size,h.block⟩
theorem LV.parts (h:LV w B v z):∃ A c,v=.agg #[.bool (decide (z<0)),.slice A (dig z.natAbs).length c]∧RI w B (.slice A (dig z.natAbs).length c) (ni (dig z.natAbs)):=by
 obtain⟨s,rfl,hs⟩:=h;obtain⟨A,c,hv,hr⟩:=hs;rw[aC] at hv;subst hv;exact⟨A,c,rfl,A,c,by rw[aC],hr⟩
def Len (k:Nat) (z:Int):Prop:=(dig z.natAbs).length≤k
theorem Len.mono {m:Nat} (h:Len k z) (hk:k≤m):Len m z:=aEg h hk
theorem Len.le {y:Int} (h:Len k z) (hy:y.natAbs≤z.natAbs):Len k y:=aEg (aL hy) h
theorem Len.add {a b:Int} (h:Len k a) (h':Len k b):Len (k+1) (a+b):=by
 have h1:=kN a.natAbs b.natAbs h h';exact aEg (aL (show(a+b).natAbs≤a.natAbs+b.natAbs by omega)) h1
theorem Len.small (h:z.natAbs<1000000000):Len 1 z:=aU.2 (show z.natAbs<bp 1 from h)
section
variable {w:World} {v:Value} {z:Int}
theorem LV.alloc (h:LV w w.heap.size v z) (o:Obj):LV (w.alloc o) (w.alloc o).heap.size v z:=h.step ((aDy _ _).alloc (aEa _) o)
theorem LV.drew1 (h:LV w w.heap.size v z):LV w.drew w.drew.heap.size v z:=h
theorem bU (h:Below W.heap.size W w) (hb:Below w.drew.heap.size w.drew w'):Below W.heap.size W w':=h.trans ((aR hb).mono h.size)
theorem dS (h:Below W.heap.size W w) (hb:Below w.heap.size w w'):Below W.heap.size W w':=h.trans (hb.mono h.size)
end
section
variable {w w':World} {b:Nat} {t:TypeId} {cs:Array Value}
def CB (w:World) (b:Nat) (t:TypeId) (cs:Array Value):Prop:=w.heap[b]?=some (.cells cs t (0,0))
theorem CB.lt (h:CB w b t cs):b<w.heap.size:=by
 unfold CB at h;exact(aFx.1 h).1
theorem CB.step (h:CB w b t cs) (hb:Below w.heap.size w w'):CB w' b t cs:=(hb.block b h.lt).trans h
abbrev aEd:=@CB.step
theorem CB.drew (h:CB w b t cs):CB w.drew b t cs:=h
abbrev aGz:=@CB.drew
theorem CB.alloc (h:CB w b t cs) (o:Obj):CB (w.alloc o) b t cs:=(aLy w o b h.lt).trans h
theorem CB.far (h:CB w b t cs) {p:Addr} (hp:b≠p.block) (u:Value):CB (w.setCell p u) b t cs:=(aFr w p u b hp).trans h
abbrev aMl:=@CB.far
theorem CB.new (w:World) (t:TypeId) (cs:Array Value):CB (w.alloc (.cells cs t)) w.heap.size t cs:=aJu w _
abbrev aHl:=@CB.new
theorem CB.cell (h:CB w b t cs) (j:Nat) {v:Value} (hv:cs[j]?=some v):w.cell? ⟨b,j,none⟩=some v:=by
 unfold CB at h;simp[World.cell?,h,hv]
theorem CB.frozen (h:CB w b t cs) (j:Nat):w.frozen? ⟨b,j,none⟩=false:=by
 unfold CB at h;simp[World.frozen?,h]
theorem cz2 (h:CB w b t #[x0,x1]):w.cell? ⟨b,0,none⟩=some x0∧w.cell? ⟨b,1,none⟩=some x1∧b<w.heap.size:=⟨h.cell 0 rfl,h.cell 1 rfl,h.lt⟩
theorem fz2 (h:CB w b t cs):w.frozen? ⟨b,0,none⟩=false∧w.frozen? ⟨b,1,none⟩=false∧b<w.heap.size:=⟨h.frozen 0,h.frozen 1,h.lt⟩
theorem cz3 {x2:Value} (h:CB w b t #[x0,x1,x2]):w.cell? ⟨b,0,none⟩=some x0∧w.cell? ⟨b,1,none⟩=some x1∧w.cell? ⟨b,2,none⟩=some x2∧b<w.heap.size:=⟨h.cell 0 rfl,h.cell 1 rfl,h.cell 2 rfl,h.lt⟩
theorem fz3 (h:CB w b t cs):w.frozen? ⟨b,0,none⟩=false∧w.frozen? ⟨b,1,none⟩=false∧w.frozen? ⟨b,2,none⟩=false∧b<w.heap.size:=⟨h.frozen 0,h.frozen 1,h.frozen 2,h.lt⟩
theorem cz4 {x2 x3:Value} (h:CB w b t #[x0,x1,x2,x3]):w.cell? ⟨b,0,none⟩=some x0∧w.cell? ⟨b,1,none⟩=some x1∧w.cell? ⟨b,2,none⟩=some x2∧w.cell? ⟨b,3,none⟩=some x3∧b<w.heap.size:=⟨h.cell 0 rfl,h.cell 1 rfl,h.cell 2 rfl,h.cell 3 rfl,h.lt⟩
theorem fz4 (h:CB w b t cs):w.frozen? ⟨b,0,none⟩=false∧w.frozen? ⟨b,1,none⟩=false∧w.frozen? ⟨b,2,none⟩=false∧w.frozen? ⟨b,3,none⟩=false∧b<w.heap.size:=⟨h.frozen 0,h.frozen 1,h.frozen 2,h.frozen 3,h.lt⟩
end
theorem aB (h:Below W.heap.size W w) (o:Obj):Below W.heap.size W (w.alloc o):=h.alloc h.size o
theorem aA (h:Below B W w):Below B W w.drew:=⟨h.os,h.tape,h.output,h.size,h.block⟩
theorem bV (h:Below W.heap.size W w) (hb:W.heap.size≤b) (k:Nat) (v:Value):Below W.heap.size W (w.setCell ⟨b,k,none⟩ v):=h.setCell (p:=⟨b,k,none⟩) hb v
theorem rZ {b':Nat} {u:Value} (h:LB w b x y) (hne:b≠b'):LB (w.setCell ⟨b',k,none⟩ u) b x y:=h.far (p:=⟨b',k,none⟩) hne u
theorem LR.zero (w:World) (B:Nat):LR w B (.agg #[.bool false,.slice none 0 0]) false []:=⟨_,rfl,RI.nil _ _⟩
theorem LR.alloc (h:LR w w.heap.size v n l) (o:Obj):LR (w.alloc o) (w.alloc o).heap.size v n l:=h.step ((aDy _ _).alloc (aEa _) o)
theorem RN.drew1 {l:List Nat} (h:RN w w.heap.size v l):RN w.drew w.drew.heap.size v l:=h
abbrev aLu:=@RN.drew1
theorem RN.stepN {l:List Nat} (h:RN w w.heap.size v l) (hb:Below w.heap.size w w'):RN w' w'.heap.size v l:=RI.step (show RI _ _ _ _ from h) hb
abbrev aHy:=@RN.stepN
theorem LR.num (h:LR w B v n l) (hv:Valid n l):∃ z:Int,kB n l=some z∧LV w B v z∧(dig z.natAbs).length≤600:=by
 obtain⟨z,h1,h2,h3,h4⟩:=fC hv;refine⟨z,h1,?_,h4⟩;rw[h2,h3] at h;exact h
def Soft (w w':World):Prop:=w.heap.size≤w'.heap.size∧∀ p k x,w.cell? p=some (.int k x)→w'.cell? p=some (.int k x)
theorem Soft.refl (w:World):Soft w w:=⟨aEa _,fun _ _ _ h=>h⟩
theorem Soft.trans {w'':World} (h:Soft w w') (k:Soft w' w''):Soft w w'':=⟨aEg h.1 k.1,fun p a x e=>k.2 p a x (h.2 p a x e)⟩
theorem iX {p:Addr} (h:w.cell? p=some v):p.block<w.heap.size:=by
 rcases aFk p.block w.heap.size with hlt | hge
 ·exact hlt
 ·simp only[World.cell?,aHj hge] at h;cases h
theorem Soft.of (h:Below w.heap.size w w'):Soft w w':=⟨h.size,fun _ _ _ e=>(h.cell (iX e)).trans e⟩
abbrev aJw:=@Soft.of
theorem Soft.alloc (w:World) (o:Obj):Soft w (w.alloc o):=aJw ((aDy _ _).alloc (aEa _) o)
theorem Soft.drewN (w:World) (n:Nat):Soft w (w.drewN n):=⟨aEa _,fun _ _ _ e=>e⟩
theorem Soft.set {p:Addr} {u:Value} (hb:∀ q:Addr,q.block=p.block→∀ k x,w.cell? q≠some (.int k x)):Soft w (w.setCell p u):=by
 refine⟨by simp[World.setCell],fun q k x e=>?_⟩;by_cases hq:q.block=p.block
 ·exact absurd e (hb q hq k x)
 ·exact(aIt (aFr _ _ _ _ hq)).trans e
theorem RI.soft (h:RI w w.heap.size v l) (hs:Soft w w'):RI w' w'.heap.size v l:=by
 obtain⟨A,c,hv,hc,hm,h0⟩:=h;refine⟨A,c,hv,hc,hm,fun hn=>?_⟩;obtain⟨g,off,hA,hg,hx⟩:=h0 hn;exact⟨g,off,hA,aEt hg hs.1,fun j hj=>hs.2 _ _ _ (hx j hj)⟩
theorem LR.soft (h:LR w w.heap.size v n l) (hs:Soft w w'):LR w' w'.heap.size v n l:=by
 obtain⟨s,hv,hr⟩:=h;exact⟨s,hv,hr.soft hs⟩
theorem LV.soft (h:LV w w.heap.size v z) (hs:Soft w w'):LV w' w'.heap.size v z:=LR.soft h hs
theorem LV.opened (h:LV w B v z):∃ n A l c,v=.agg #[.bool n,.slice A l c]∧LV w B (.agg #[.bool n,.slice A l c]) z:=by
 obtain⟨A,c,rfl,-⟩:=h.parts;exact⟨_,_,_,_,rfl,h⟩
theorem LR.opened (h:LR w B v n l):∃ A k c,v=.agg #[.bool n,.slice A k c]∧LR w B (.agg #[.bool n,.slice A k c]) n l:=by
 obtain⟨s,rfl,hs⟩:=h;obtain⟨A,c,rfl,-⟩:=hs.at;exact⟨_,_,_,rfl,_,rfl,hs⟩
theorem LV.is {A:Option Addr} {l:Nat} (h:LV w B (.agg #[.bool n,.slice A l c]) z):n=decide (z<0)∧l=(dig z.natAbs).length∧RN w B (.slice A l c) (dig z.natAbs):=by
 obtain⟨A',c',e,hr⟩:=h.parts;injection e with e
 simp at e
 obtain⟨e1,rfl,e2,rfl⟩:=e;exact⟨e1,e2,by rw[e2];exact hr⟩
theorem VQ {base:Nat} {x:Int} {v':Value}
  (h:w'.ownsRow base 3 1 v' (l.length+1) (l.map (Value.int .i64)++[.int .i64 x])):OwnV w' base v' (l++[x]):=by
 rw[OwnV,aEp,aGc];exact h
theorem RN.below {l:List Nat} (h:RN w B v l) (hb:Below B w w'):RN w' B v l:=RI.below h hb
theorem RN.more {B':Nat} {l:List Nat} (h:RN w B v l) (hB:B≤B'):RN w B' v l:=RI.more h hB
theorem RN.digit {n i:Nat} {A:Option Addr} {l:List Nat} (h:RN w B (.slice A n c) l) (hi:i<l.length):∃ g off,A=some ⟨g,off,none⟩∧w.cell? ⟨g,off+i,none⟩=some (.int .i64 (l.getD i 0:Nat)):=by
 obtain⟨A',c',e,-,-,h0⟩:=h.cell;injection e with e1 e2 e3
 subst e1;obtain⟨g,off,rfl,-,hx⟩:=h0 (by omega);exact⟨g,off,rfl,by rw[hx i hi,bJ hi]⟩
theorem RN.digit' {n i g off:Nat} {l:List Nat} (h:RN w B (.slice (some ⟨g,off,none⟩) n c) l) (hi:i<l.length):w.cell? ⟨g,off+i,none⟩=some (.int .i64 (l.getD i 0:Nat)):=by
 obtain⟨g',off',e,hx⟩:=h.digit hi;injection e with e
 injection e with e1 e2
 subst e1;subst e2;exact hx
theorem vQ {fn:Func} {p:Tmp} (hf:fn.results=#[.cell p 26]) {W w:World} {B b:Nat} {q0:Bool} {A:Option Addr} {n c:Nat} (hL:LB w b (.bool q0) (.slice A n c)) (hb:Below B W w) (hB:B≤b)
  {q:Bool} {A':Option Addr} {n' c':Nat} {z:Int} {tmps:Array Value} (hz:LV w w.heap.size (.agg #[.bool q,.slice A' n' c']) z) (hp:tmps.getD p undef=.pointer (some ⟨b,0,none⟩)) :
  bodyPost Tryz.prog fn (fun e w'=>Below B W w'∧oX w' z e) .ret ⟨tmps,[]⟩ ((w.setCell ⟨b,0,none⟩ (.bool q)).setCell ⟨b,1,none⟩ (.slice A' n' c')):=
 mB hf hL hb hB hz.is.2.2 hz.is.1 hp
theorem wN (q:Bool) (s:Value) (w:World):(Instr.field 26 (.agg #[.bool q,s]) 1).run Tryz.prog w=.ok s w:=by kernel_rfl
theorem KQ (z:Int):jZ (decide (z<0)) z.natAbs=z:=by
 by_cases h:z<0
 ·rw[aEj h];show -(z.natAbs:Int)=z;omega
 ·rw[aEe h];show(z.natAbs:Int)=z;omega
theorem YQ (z:Int):jZ (!decide (z<0)) z.natAbs=-z:=by
 by_cases h:z<0
 ·rw[aEj h];show(z.natAbs:Int)=-z;omega
 ·rw[aEe h];show -(z.natAbs:Int)=-z;omega
theorem jW (w:World) (v:Value) (z:Int) (h:LV w w.heap.size v z) (hl:(dig z.natAbs).length≤3000000000) :
  CV 125 #[v] w fun e w'=>oX w' (-z) e:=by
 obtain⟨A,c,rfl,hs⟩:=h.parts;have a0:=zz (((aDy w.heap.size w).alloc (aEa _) (.cells #[.bool (decide (z<0)),.slice A (dig z.natAbs).length c] 26)).alloc (by simp) (.cells #[.bool false,.slice none 0 0] 26));have L1:LB ((w.alloc (.cells #[.bool (decide (z<0)),.slice A (dig z.natAbs).length c] 26)).alloc (.cells #[.bool false,.slice none 0 0] 26)) (w.heap.size+1) (.bool false) (.slice none 0 0):=by(repeat (first | (refine aJj ?_;simp;done) | refine aHq ?_ _))
 have HS:=zz (hs.step a0.o);have HL:=zz hl;clear hs h hl;go_enter Tryz.func125,Tryz.ntmps125
 go_wp2_with fail
 refine(kZ _ _ _ (dig z.natAbs) HS.o (aH _) HL.o).mono ?_;rintro e w2 ⟨hb,v2,rfl,b0⟩;rw[aQ,YQ] at b0;obtain⟨y,hy⟩:=ex (α:=Int) (-z);have HY:=zz hy;rw[← hy] at b0;obtain⟨A2,c2,rfl,hs2⟩:=b0.parts;have c0:=zz (a0.o.trans (hb.mono a0.o.size));have L2:=L1.step hb;have e0:=zz hs2;clear hs2 hb b0 a0 L1 HS hy;have q0:=L2.cell0;have q1:=L2.cell1;have q2:=L2.frozen 0;have q3:=L2.frozen 1;go_wp2;(try simp only[Exit.inBlock,Exit.then])
 rw[← HY.o];exact mB rfl L2 c0.o (Nat.le_succ _) e0.o rfl rfl
end Go.Proofs.YtencnahjgbdeoaaGreatDoor
