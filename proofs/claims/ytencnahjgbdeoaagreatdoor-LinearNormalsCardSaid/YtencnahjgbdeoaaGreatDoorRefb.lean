/- Texts put together. -/
import Derived.Test.YtencnahjgbdeoaaGreatDoorOps
import Derived.Test.YtencnahjgbdeoaaGreatDoorLow
import Derived.Deep.QuietTactic
import Derived.BigQuiet
import Derived.Test.YtencnahjgbdeoaaGreatDoorRef
import Derived.Deep.DeepCutAuto
import Derived.Deep.CutBlock
import Derived.Deep.LoopGhost
import Derived.Laws.AppendOwnNone
import Derived.Deep.RegionWith
import Derived.WalkSmall
import Derived.Laws.BytesArg
import Derived.Lib.UnsafeStr
namespace Go.Proofs.YtencnahjgbdeoaaGreatDoor
open Go Go.RowKit Dig
set_option maxRecDepth 100000
set_option maxHeartbeats 4000000
variable {Q X:List Nat} {Z b k:Nat} {v:Value} {w:World} {z:Int}
theorem YS (x y:Int):jZ (!(decide (x<0)==decide (y<0))) (val (dig x.natAbs)*val (dig y.natAbs))=x*y:=by
 rw[aQ,aQ];exact VY x y
theorem iJ (w:World) (va vb:Value) (x y:Int) (ha:LV w w.heap.size va x) (hb:LV w w.heap.size vb y) (hlx:(dig x.natAbs).length≤300000000) (hly:(dig y.natAbs).length≤300000000) :
  CV 117 #[va,vb] w fun e w'=>oX w' (x*y) e:=by
 obtain⟨A1,c1,rfl,hsa⟩:=ha.parts;obtain⟨A2,c2,rfl,hsb⟩:=hb.parts;have hz:=YS x y;have j0:=zz (aH x.natAbs);have k0:=zz (aH y.natAbs);clear ha hb;generalize dig x.natAbs=X at *
 generalize dig y.natAbs=Y at *
 generalize decide (x<0)=na at *
 generalize decide (y<0)=nb at *
 generalize x*y=z at *
 have HZ:=zz hz;have hmk:=OC (X.length+Y.length) (by omega);simp only[aIe] at hmk
 obtain⟨w0,hw0⟩:=ex (((w.alloc (.cells #[.bool na,.slice A1 X.length c1] 26)).alloc (.cells #[.bool nb,.slice A2 Y.length c2] 26)).alloc (.cells #[.bool false,.slice none 0 0] 26));have a0:Below w.heap.size w w0:=by rw[hw0];(repeat' (first | exact aDy _ _ | refine aJo ?_ | refine aIs ?_ (by first | exact aEa _ | (simp;done) | (simp;omega)) _))
 have L0:LB w0 w.heap.size (.bool na) (.slice A1 X.length c1):=by rw[hw0];(repeat (first | (refine aJj ?_;simp;done) | refine aHq ?_ _))
 have L1:LB w0 (w.heap.size+1) (.bool nb) (.slice A2 Y.length c2):=by rw[hw0];(repeat (first | (refine aJj ?_;simp;done) | refine aHq ?_ _))
 have L2:LB w0 (w.heap.size+2) (.bool false) (.slice none 0 0):=by rw[hw0];(repeat (first | (refine aJj ?_;simp;done) | refine aHq ?_ _))
 have hsz0:w0.heap.size=w.heap.size+3:=by rw[hw0];simp
 have HA:=zz (show RN w w.heap.size _ X from hsa);have HB:=zz (show RN w w.heap.size _ Y from hsb);replace hw0:=zz hw0;clear hz hsa hsb;go_enter Tryz.func117,Tryz.ntmps117
 go_wp2;rw[← hw0.o];have d0:=a0.alloc a0.size (bC (X.length+Y.length));have M0:=L0.alloc (bC (X.length+Y.length));have M1:=L1.alloc (bC (X.length+Y.length));have M2:=L2.alloc (bC (X.length+Y.length));have ho:=nW w0 (X.length+Y.length);rw[hsz0] at ho;clear L0 L1 L2 a0 hsz0 hw0 hmk;generalize (w0.alloc (bC (X.length+Y.length)))=w1 at *
 have hP:=zz (ProdI.start X Y 0);go_loopw [6] (fun iv wr=>∃ (i:Nat) (d:List Int),i≤X.length∧iv=.int .i64 i∧Hi (ProdI (gB X Y i 0) (X.length+Y.length) 0 0 d)∧LB wr w.heap.size (.bool na) (.slice A1 X.length c1)∧LB wr (w.heap.size+1) (.bool nb) (.slice A2 Y.length c2)∧LB wr (w.heap.size+2) (.bool false) (.slice none 0 0)∧Hi (Below w.heap.size w wr)∧Own wr (w.heap.size+3) d) (fun iv _=>X.length-(intOf iv).toNat)
 case atStart=>exact⟨0,_,by omega,rfl,hP,M0,M1,M2,zz d0,ho⟩
 case round=>
  clear d0 ho hP M0 M1 M2;obtain⟨i,d,hi,rfl,hP,M0,M1,M2,g0,ho⟩:=hrel;have q00:=M0.cell0;have q01:=M0.cell1;have q10:=M1.cell0;have q11:=M1.cell1;have q20:=M2.cell0;have q21:=M2.cell1;have q22:=M2.frozen 0;have q23:=M2.frozen 1;by_cases hlt:i<X.length
  ·obtain⟨xi,hxi⟩:=ex (X.getD i 0);have hx9:xi<1000000000:=by rw[hxi];exact j0.o.getD i
   have l0:=zz hxi;clear hxi;obtain⟨wo,hwo⟩:=ex wr;subst hwo;go_wp2;clear q00 q01 q10 q11 q20 q21 q22 q23;go_loopw [7] (fun kv wr=>∃ (k:Nat) (d:List Int),k≤Y.length∧kv=.int .i64 k∧Hi (ProdI (gB X Y i k) (X.length+Y.length) 0 0 d)∧LB wr w.heap.size (.bool na) (.slice A1 X.length c1)∧LB wr (w.heap.size+1) (.bool nb) (.slice A2 Y.length c2)∧LB wr (w.heap.size+2) (.bool false) (.slice none 0 0)∧Hi (Below w.heap.size w wr)∧Own wr (w.heap.size+3) d) (fun kv _=>Y.length-(intOf kv).toNat)
   case atStart=>exact⟨0,_,by omega,rfl,hP,M0,M1,M2,g0,ho⟩
   case round=>
    clear ho hP M0 M1 M2 g0;obtain⟨k,d,hk,rfl,hP,M0,M1,M2,g0,ho⟩:=hrel;have q00:=M0.cell0;have q01:=M0.cell1;have q10:=M1.cell0;have q11:=M1.cell1;have q20:=M2.cell0;have q21:=M2.cell1;have q22:=M2.frozen 0;have q23:=M2.frozen 1;by_cases hlt2:k<Y.length
    ·obtain⟨yk,hyk⟩:=ex (Y.getD k 0);have hy9:yk<1000000000:=by rw[hyk];exact k0.o.getD k
     obtain⟨g1,o1,rfl,hx⟩:=(HA.o.below g0.o).digit hlt;obtain⟨g2,o2,rfl,hy⟩:=(HB.o.below g0.o).digit hlt2;rw[← l0.o] at hx;rw[← hyk] at hy;have h0:=zz (hP.o.begin hlt2);have m0:=zz (VR (k:=k+1) j0.o k0.o hlt);rw[← l0.o,← hyk] at h0;clear hyk hP;have hmul:xi*yk≤999999999*999999999:=aGs (by omega) (by omega);have hm1:(xi:Int)*(yk:Int)≤999999999*999999999:=by rw[← aFp];omega
     have hm0:0≤(xi:Int)*(yk:Int):=by rw[← aFp];omega
     obtain⟨p,hp⟩:=ex (α:=Nat) (xi*yk);have n0:=zz (show(xi:Int)*(yk:Int)=(p:Int) by rw[hp];simp);rw[← hp] at h0;have hp18:p≤1000000000000000000:=by omega
     clear hp hmul;go_wp2;go_quiet (fail)
     go_wp2;rw[n0.o];clear hm0 hm1 hx hy q00 q01 q10 q11 q20 q21 q22 q23;obtain⟨wo2,hwo2⟩:=ex (wr.drewN nq);rw[← hwo2];replace M0:LB wo2 _ _ _:=hwo2▸M0.drewN nq;replace M1:LB wo2 _ _ _:=hwo2▸M1.drewN nq;replace M2:LB wo2 _ _ _:=hwo2▸M2.drewN nq;replace ho:Own wo2 _ _:=hwo2▸ho.drewN nq;replace g0:Hi (Below w.heap.size w wo2):=zz (hwo2▸aS g0.o nq);clear hwo2;go_loopw [8,9] (fun nv jv wr=>∃ (n j:Nat) (d:List Int),nv=.int .i64 n∧jv=.int .i64 j∧n≤1000000000000000000∧j≤600000001∧Hi (ProdI (gB X Y i (k+1)) (X.length+Y.length) j n d)∧LB wr w.heap.size (.bool na) (.slice (some ⟨g1,o1,none⟩) X.length c1)∧LB wr (w.heap.size+1) (.bool nb) (.slice (some ⟨g2,o2,none⟩) Y.length c2)∧LB wr (w.heap.size+2) (.bool false) (.slice none 0 0)∧Hi (Below w.heap.size w wr)∧Own wr (w.heap.size+3) d) (fun _ jv _=>600000001-(intOf jv).toNat)
     case atStart=>exact⟨p,i+k,_,rfl,by go_num,by omega,by omega,h0,M0,M1,M2,g0,ho⟩
     case round=>
      clear ho h0 M0 M1 M2 g0;obtain⟨n,j,d,rfl,rfl,hn,hj,hP,M0,M1,M2,g0,ho⟩:=hrel;by_cases hn0:0<n
      ·have hjL:=hP.o.room m0.o hn0;have hlen:=zz hP.o.len;have h2:=bT ho j (by have:=hlen.o;omega);obtain⟨o,hoo⟩:∃ o:Nat,bI d j=(o:Int):=⟨(bI d j).toNat,by have:=hP.o.small j hjL;omega⟩;have ho9:o<1000000000:=by have:=hP.o.small j hjL;omega
       have HS:=zz (hP.o.step hjL o hoo);rw[hoo] at h2;have hf:=ho.frozen j;have HO:=zz ho;have hn0i:(0:Int)<(n:Int):=by omega
       have hjLi:(j:Int)<(X.length:Int)+(Y.length:Int):=by omega
       clear ho hoo hP;go_wp2;go_roundw
       case rel=>
        have e:(((n+o) % 1000000000:Nat):Int)=((n:Int)+(o:Int)) % 1000000000:=by omega
        have h4:=HO.o.set j (((n+o) % 1000000000:Nat):Int) (by have:=hlen.o;omega);have h5:=HS.o;rw[e] at h4 h5;exact⟨(n+o) / 1000000000,j+1,_,by go_num,by go_num,by omega,by omega,zz h5,M0.far (p:=⟨w.heap.size+3,j,none⟩) (by simp) _,M1.far (p:=⟨w.heap.size+3,j,none⟩) (by simp) _,M2.far (p:=⟨w.heap.size+3,j,none⟩) (by simp) _,zz (g0.o.setCell (p:=⟨w.heap.size+3,j,none⟩) (by simp) _),h4⟩
       case measure=>exact ms
      ·obtain rfl:n=0:=by omega
       have i0:=zz (hP.o.any 0);clear hP;go_wp2;go_roundw
       case rel=>exact⟨k+1,_,by omega,by go_num,i0,M0,M1,M2,g0,ho⟩
       case measure=>exact ms
    ·obtain rfl:k=Y.length:=by omega
     have i0:=zz ((KY (y:=Y) hlt)▸hP.o);clear hP;go_wp2;go_roundw
     case rel=>exact⟨i+1,_,by omega,by go_num,i0,M0,M1,M2,g0,ho⟩
     case measure=>exact ms
  ·obtain rfl:i=X.length:=by omega
   obtain⟨r,rfl,hrl,hrs,hrv⟩:=hP.o.fin;have hrn:=iC ho (X.length+Y.length) (X.length+Y.length) (by omega) (by omega) (by omega);have HR:=zz hrn;have p0:=zz hrs;have q0:=zz hrv;have r0:=zz (show r.length≤3000000000 by omega);have HO:=zz ho;clear hrn hrs hrv hrl ho hP;go_wp2_with fail
   refine(kZ _ _ _ r HR.o p0.o r0.o).mono ?_;rintro e w2 ⟨b0,v2,rfl,c0⟩;rw[q0.o,RH,HZ.o] at c0;obtain⟨n3,A3,l3,c3,rfl,e0⟩:=c0.opened;have s0:=zz e0;have N2:=M2.step b0;have f0:=zz (g0.o.trans (b0.mono g0.o.size));clear c0 e0 b0 M0 M1 M2 g0 q00 q01 q10 q11 q20 q21 q22 q23;have q20:=N2.cell0;have q21:=N2.cell1;have q22:=N2.frozen 0;have q23:=N2.frozen 1;go_wp2;(try simp only[Exit.inBlock,Exit.then])
   exact vQ rfl N2 f0.o (by omega) s0.o rfl
theorem UR (w:World) (v:Value) (l:List Nat) (i:Int) (k:Nat) (hi:i=(k:Int)) (h:RN w w.heap.size v l) :
  CV 139 #[v,.int .i64 i] w fun e _=>e=.returned (.int .i64 ((l.getD k 0:Nat):Int)):=by
 subst hi;exact mT w v l k h
theorem MQ (w:World) (B:Nat) (v vb:Value) (R b:Nat) (hB:B≤w.heap.size) (ho:OwnV w B v (ni (dig R))) (hb:RN w B vb (dig b)) (f0:b≠0) (hR:R<1000000000*b) (hlR:(dig R).length≤300000000) (hlb:(dig b).length≤300000000) :
  Calls Tryz.prog 149 #[v,vb] w fun e w'=>Below B w w'∧∃ v',e=.returned (.tuple #[v',.int .i64 (R / b:Nat)])∧OwnV w' B v' (ni (dig (R % b))):=by
 obtain⟨P2,c2,rfl,-,-,-⟩:=hb.cell;obtain⟨top,htop⟩:∃ top,(dig b).length=top+1:=⟨(dig b).length-1,by have:=bX f0;omega⟩;rw[htop] at hb hlb;rw[htop];have n0:=zz htop;have HB:=zz hb;have HO:=zz ho;have F0:=zz hR;clear hb ho htop hR;have hfd:=wN;go_enter Tryz.func149,Tryz.ntmps149
 go_wp2;go_loopg [0,6] R (fun gk rv nv wr=>∃ (R' n:Nat) (v:Value),rv=v∧Hi (gk=R')∧nv=.int .i64 n∧n<1000000000∧Hi (R=n*b+R')∧(dig R').length≤300000000∧Hi (OwnV wr B v (ni (dig R')))∧Hi (Below B w wr))
 case atStart=>exact⟨R,0,_,rfl,zz rfl,rfl,by omega,zz (by omega),hlR,HO,zz (aDy _ _)⟩
 case round=>
  obtain⟨R',n,v,rfl,hgk,rfl,hn,v0,hlR',hO,l0⟩:=hrel;have HBs:=zz (aEg hB l0.o.size);by_cases hlt:R'<b
  ·have HD:=zz (aEj hlt);have HQ:=zz (show(n:Nat)=R / b by rw[v0.o,aGt,Nat.mul_add_div (by omega),aNa hlt,aGd]);have HM:=zz (show R'=R % b by rw[v0.o,aGt,Nat.mul_add_mod,aLw hlt]);clear hlt;go_wp2_with fail
   refine(oR _ _ _ R' b hO.o.ri (RN.more (HB.o.below l0.o) HBs.o)).mono ?_;rintro e w1 ⟨a0,rfl⟩;rw[HD.o];have p0:=zz (hO.o.step a0);have b0:=zz (l0.o.trans (a0.mono HBs.o));clear a0;go_wp2;go_ret2;rw[← HQ.o,← HM.o];exact⟨b0.o,_,rfl,p0.o⟩
  ·have HD:=zz (aEe hlt);have y0:=zz (Nat.le_of_not_lt hlt);rcases hO.o.form with ⟨-,he⟩ | ⟨g,cap,rfl,hcap,hcap2,hgB,hown⟩
   ·exact absurd he (by
     intro h0;have h1:=aC (dig R');rw[h0] at h1;have h2:=bX (show R'≠0 by have:=y0.o;omega);simp at h1;omega)
   rw[aC] at hcap;rw[aC];obtain⟨lr,hlr⟩:∃ lr,(dig R').length=lr:=⟨_,rfl⟩;rw[hlr] at hcap hlR';rw[hlr];have q0:=zz hlr;have m0:=zz hown;have htl:top<lr:=by have h1:=aL y0.o;have h2:=n0.o;omega
   clear hlt hlr hown hO;go_wp2_with fail
   refine(oR _ _ _ R' b (iC m0.o _ _ q0.o.symm hcap hcap2) (RN.more (HB.o.below l0.o) HBs.o)).mono ?_;rintro e w1 ⟨a0,rfl⟩;rw[HD.o];have p0:=zz (m0.o.step a0);have b0:=zz (l0.o.trans (a0.mono HBs.o));have w0:=zz (aEg HBs.o a0.size);clear a0 m0 l0 HBs;have z0:=zz (iC p0.o lr cap q0.o.symm hcap hcap2);have hRb:R'<1000000000*b:=(by have h1:=F0.o;have h2:=v0.o;omega);obtain⟨r0,hr0⟩:∃ r,r=(dig R').getD top 0:=⟨_,rfl⟩;obtain⟨r1,hr1⟩:∃ r,r=(dig R').getD (top+1) 0:=⟨_,rfl⟩;obtain⟨bt,hbt⟩:∃ r,r=(dig b).getD top 0:=⟨_,rfl⟩;have hr09:r0<1000000000:=by rw[hr0];exact(aH R').getD _
   have hr19:r1<1000000000:=by rw[hr1];exact(aH R').getD _
   have hbt9:bt<1000000000:=by rw[hbt];exact(aH b).getD _
   obtain⟨k0,d0⟩:∃ k,k=(r1*1000000000+r0) / (bt+1):=⟨_,rfl⟩;have HG:=zz (SQ (x:=dig R') (aH b) n0.o (by rw[aQ,aQ];exact hRb) (show k0=_ by rw[d0,hr0,hr1,hbt]));rw[aQ,aQ] at HG;have hq0:w1.cell? ⟨g,top,none⟩=some (.int .i64 r0):=by
    have h:=z0.o.digit' (i:=top) (by rw[q0.o];exact htl);rw[← hr0] at h;simpa using h
   obtain⟨gb,ob,rfl,hq1⟩:=(RN.more (HB.o.below b0.o) w0.o).digit (i:=top) (by rw[n0.o];omega);rw[← hbt] at hq1;have HHr1:=zz hr1;have A0:=zz (show((r1:Int)*1000000000+(r0:Int)) / ((bt:Int)+1)=(k0:Int) by rw[d0];simp);clear hr0 hr1 hbt d0 hRb;have KS:∀ w':World,Below w1.heap.size w1 w'→(Below w1.heap.size w1 w'∧w'.cell? ⟨g,top,none⟩=some (.int .i64 r0)∧w'.cell? ⟨gb,ob+top,none⟩=some (.int .i64 bt)):=fun w' h=>⟨h,(h.cell (p:=⟨g,top,none⟩) (iX hq0)).trans hq0,(h.cell (p:=⟨gb,ob+top,none⟩) (iX hq1)).trans hq1⟩
   have KB:∀ w':World,(Below w1.heap.size w1 w'∧w'.cell? ⟨g,top,none⟩=some (.int .i64 r0)∧w'.cell? ⟨gb,ob+top,none⟩=some (.int .i64 bt))→Below w1.heap.size w1 w':=fun w' h=>h.1
   have htd:Int.tdiv ((r1:Int)*1000000000+(r0:Int)) ((bt:Int)+1)=(k0:Int):=by rw[← A0.o];exact Int.tdiv_eq_ediv_of_nonneg (by omega)
   have ht0:(0:Int)≤(top:Int):=by omega
   have ht1:(top:Int)<(top:Int)+1:=by omega
   have ht2:(top:Int)<(lr:Int):=by omega
   have hbp:(0:Int)<(bt:Int)+1:=by omega
   have hbne:((bt:Int)+1==0)=false:=by rw[aEo];omega
   have hbz:((bt:Int)+1=0)=False:=eq_false (by omega);have hdv:((r1:Int)*1000000000+(r0:Int)) / ((bt:Int)+1)=(k0:Int):=A0.o;have hwa:IntKind.i64.wrap ((top:Int)+1)=(top:Int)+1:=aHa _ (by omega);have hwm:IntKind.i64.wrap ((r1:Int)*1000000000)=(r1:Int)*1000000000:=aHa _ (by omega);have hws:IntKind.i64.wrap ((r1:Int)*1000000000+(r0:Int))=(r1:Int)*1000000000+(r0:Int):=aHa _ (by omega);have hwd:IntKind.i64.wrap ((bt:Int)+1)=(bt:Int)+1:=aHa _ (by omega);have N0:=zz (show(k0:Int)<1000000000 by have:=HG.o.2;omega);have hwk:IntKind.i64.wrap (k0:Int)=(k0:Int):=aHa _ (by have:=N0.o;omega);have tok1:True:=aFi;go_wp2_with fail
   go_region_held3 (fun w'=>Below w1.heap.size w1 w'∧w'.cell? ⟨g,top,none⟩=some (.int .i64 r0)∧w'.cell? ⟨gb,ob+top,none⟩=some (.int .i64 bt)) (first
    | (refine KS _ ?_;repeat (first | with_reducible exact KU.o | with_reducible exact aDy _ _ | with_reducible refine aA ?_))
    | go_keep) (first
    | (go_at_call 139;clear tok1;((with_reducible refine(UR _ _ (dig R') _ (top+1) (by omega) (by exact aHy z0.o (KB _ (by assumption)))).mono ?_);rintro e u ⟨hbu,rfl⟩;rw[← HHr1.o];have KU:=zz (Below.trans (KB _ (by assumption)) (hbu.mono (KB _ (by assumption)).size));clear hbu)))
   rename_i hheld
   have s0:=zz (b0.o.trans (KU.o.mono w0.o));have Z0:=zz (aEg w0.o KU.o.size);have i0:=zz (p0.o.step KU.o);clear hheld KS KB htd hbp hbne hbz hdv hwa hwm hws hwd hwk hq0 hq1 p0 b0 w0 z0 KU HHr1 A0;go_upto_if 36 with (fail)
   go_cut [8] (fun kv wx=>∃ K:Nat,kv=.int .i64 K∧1≤K∧K<1000000000∧Hi (K*b≤R')∧wx=u)
   case first=>
    by_cases hk:k0=0
    ·have hkb:((k0:Int)==0)=true:=by rw[hk];rfl
     clear hk;go_simp;go_wp2;go_meet
     exact⟨1,by go_num,by omega,by omega,zz (by rw[aIn];exact y0.o),rfl⟩
    ·have hkb:((k0:Int)==0)=false:=by rw[aEo];omega
     have g0:1≤k0:=by omega
     clear hk;go_simp;go_wp2;go_meet
     exact⟨k0,rfl,g0,HG.o.2,zz HG.o.1,rfl⟩
   case rest=>
    obtain⟨K,rfl,hK1,hK9,HKb,rfl⟩:=hcut;have hlrE:=zz (show(dig R').length=lr from q0.o);go_wp2;go_loopw [9,10] (fun cv iv wr=>∃ (i:Nat) (c:Int) (d:List Int),cv=.int .i64 c∧iv=.int .i64 i∧i≤lr∧Hi (TakeI (dig R') (dig b) K i c d)∧Own wr g d∧Hi (Below B w wr)) (fun _ iv _=>lr-(intOf iv).toNat)
    case atStart=>exact⟨0,0,_,rfl,rfl,by omega,zz (TakeI.start _ _ _),i0.o,s0⟩
    case round=>
     clear i0 s0;obtain⟨i,c,d,rfl,rfl,hi,hT,hown,t0⟩:=hrel;have u0:=zz (aEg hB t0.o.size);by_cases hil:i<lr
     ·obtain⟨xi,hxi⟩:∃ r,r=(dig R').getD i 0:=⟨_,rfl⟩;obtain⟨yi,hyi⟩:∃ r,r=(dig b).getD i 0:=⟨_,rfl⟩;have hx9:xi<1000000000:=by rw[hxi];exact(aH R').getD _
      have hy9:yi<1000000000:=by rw[hyi];exact(aH b).getD _
      have hc0:=hT.o.c0;have hck:=hT.o.ck;have hat:bI d i=(xi:Int):=by rw[hT.o.high i (aEa _),gK,hxi]
      have hdl:=zz hT.o.len;have hq:=bT hown i (by have:=hdl.o;have:=hlrE.o;omega);rw[hat] at hq;have hf:=hown.frozen i;have m0:=zz hown;obtain⟨p,hp⟩:∃ p:Int,(yi:Int)*(K:Int)=p:=⟨_,rfl⟩;have hp0:0≤p:=by rw[← hp];exact Int.mul_nonneg (by omega) (by omega)
      have hp1:p≤999999999*999999999:=by rw[← hp];exact Int.mul_le_mul (by omega) (by omega) (by omega) (by omega)
      obtain⟨sv,hsv⟩:∃ s:Int,(xi:Int)-p=s:=⟨_,rfl⟩;obtain⟨t,ht⟩:∃ t:Int,sv+c=t:=⟨_,rfl⟩;have G0:=zz (fun hx hy hi'=>hT.o.step (i:=i) hx hy hi' t (by rw[hat,← hyi,hp,hsv,ht]));obtain⟨qv,hqv⟩:∃ q:Int,Int.tdiv t 1000000000=q:=⟨_,rfl⟩;obtain⟨mv,hmv⟩:∃ m:Int,Int.tmod t 1000000000=m:=⟨_,rfl⟩;have hfl:=KG t;rw[hqv,hmv] at hfl;have htb:-1000000000000000000≤t∧t<1000000000:=by
       have:=hT.o.range (aH R') (aH b);rw[hat,← hyi,hp,hsv,ht] at this
       omega
      have hm0:-1000000000≤mv∧mv<1000000000:=by
       by_cases hm:mv<0
       ·have:=(hfl.1 hm).1;omega
       ·have:=(hfl.2 (by omega)).1;omega
      have hq0:-1000000001≤qv∧qv≤1000000001:=by
       by_cases hm:mv<0
       ·have:=(hfl.1 hm).2;omega
       ·have:=(hfl.2 (by omega)).2;omega
      obtain⟨hm1,hm2⟩:=hm0;obtain⟨hq1,hq2⟩:=hq0;obtain⟨htb1,htb2⟩:=htb;have O0:=zz hyi;have x0:=zz hfl;have C0:=zz (G0.o (aH R') (aH b) (by rw[hlrE.o];exact hil));have a1:=zz hxi;have hii:(0:Int)≤(i:Int):=by omega
      have hil2:(i:Int)<(lr:Int):=by omega
      have hsvb:-1000000000000000000≤sv:=by omega
      have hsvc:sv≤1000000000:=by omega
      have hwp:IntKind.i64.wrap ((yi:Int)*(K:Int))=p:=by rw[hp];exact aHa _ (by omega)
      have hws:IntKind.i64.wrap ((xi:Int)-p)=sv:=by rw[hsv];exact aHa _ (by omega)
      have hwt:IntKind.i64.wrap (sv+c)=t:=by rw[ht];exact aHa _ (by omega)
      have KS:∀ w':World,Below wr.heap.size wr w'→(Below wr.heap.size wr w'∧w'.cell? ⟨g,i,none⟩=some (.int .i64 xi)):=fun w' h=>⟨h,(h.cell (p:=⟨g,i,none⟩) (iX hq)).trans hq⟩
      have KB:∀ w':World,(Below wr.heap.size wr w'∧w'.cell? ⟨g,i,none⟩=some (.int .i64 xi))→Below wr.heap.size wr w':=fun w' h=>h.1
      clear hown hT G0 hyi hxi hfl hat hp hsv ht;go_wp2_with fail
      go_region_held3 (fun w'=>Below wr.heap.size wr w'∧w'.cell? ⟨g,i,none⟩=some (.int .i64 xi)) (first
       | (refine KS _ ?_;repeat (first | with_reducible exact KU.o | with_reducible exact aDy _ _ | with_reducible refine aA ?_))
       | go_keep) (first
       | (go_at_call 139;((with_reducible refine(UR _ _ (dig b) _ i rfl (by exact aHy (RN.more (HB.o.below t0.o) u0.o) (KB _ (by assumption)))).mono ?_);rintro e u ⟨hbu,rfl⟩;rw[← O0.o];have KU:=zz (Below.trans (KB _ (by assumption)) (hbu.mono (KB _ (by assumption)).size));clear hbu)))
      rename_i hheld
      have i0:=zz (m0.o.step KU.o);have s0:=zz (t0.o.trans (KU.o.mono u0.o));clear hheld KS KB hwp hws hwt hq hf m0 t0 u0 KU hp0 hp1 hsvb hsvc htb1 htb2 hx9 hy9 hck hc0;have hf:=i0.o.frozen i;have hcl:=bT i0.o i (by have:=hdl.o;have:=hlrE.o;omega);by_cases hm:mv<0
      ·have h1:=(x0.o.1 hm).1;have h2:=(x0.o.1 hm).2;have H0:=zz h1;have I0:=zz h2;clear h1 h2;simp only[Exit.then]
       go_wp2;go_roundw
       case rel=>
        rw[← H0.o,← I0.o] at C0;exact⟨i+1,_,_,rfl,by go_num,by omega,C0,i0.o.set i _ (by have:=hdl.o;have:=hlrE.o;omega),zz (s0.o.setCell (p:=⟨g,i,none⟩) hgB _)⟩
       case measure=>exact ms
      ·have h1:=(x0.o.2 (by omega)).1;have h2:=(x0.o.2 (by omega)).2;have H0:=zz h1;have I0:=zz h2;replace hm:0≤mv:=by omega
       simp only[Exit.then]
       go_upto_if 63 with (fail)
       rw[show decide (t % 1000000000<0)=false from aEe (by omega)];clear hm1 hm2 hmv hqv;go_wp2;go_roundw
       case rel=>exact⟨i+1,_,_,rfl,by go_num,by omega,C0,i0.o.set i _ (by have:=hdl.o;have:=hlrE.o;omega),zz (s0.o.setCell (p:=⟨g,i,none⟩) hgB _)⟩
       case measure=>exact ms
     ·obtain rfl:i=lr:=by omega
      have hT2:=hT.o;rw[← hlrE.o] at hT2;obtain⟨r,rfl,hrl,hrs,hrv⟩:=hT2.fin (by have:=n0.o;have:=hlrE.o;omega) (aH R') (by rw[aQ,aQ];exact HKb.o);rw[aQ,aQ] at hrv;rw[hlrE.o] at hrl;have P0:=zz (iC hown i cap hrl.symm hcap hcap2);have Q0:=zz hrs;have R0:=zz hrv;have S0:=zz (show r.length≤3000000000 by omega);clear hown hT hT2 hrl hrs hrv;go_wp2_with fail
      refine(rF _ _ _ r P0.o Q0.o S0.o).mono ?_;rintro e w2 ⟨e0,q,s,rfl,rfl,hs⟩;have L0:=zz (t0.o.trans (e0.mono u0.o));obtain⟨R2,hR2⟩:=ex (R'-K*b);have hsg:(jZ false (val r)).natAbs=R2:=by rw[nT,R0.o,hR2]
      rw[hsg] at hs;have HS:=zz (hs.mono u0.o);have b1:=zz hR2;have hKb2:=HKb.o;have hbb:b≤K*b:=Nat.le_mul_of_pos_left _ (by omega);have T0:=zz (show R2≤R' by omega);have M0:=zz (show R2<R' by omega);have J0:=zz (show R=(n+K)*b+R2 by have:=v0.o;rw[aGl];omega);have hnK:n+K<1000000000:=by
       apply aJp;intro h
       have h1:=aEs b h;have h2:=J0.o;have h3:=F0.o
       omega
      have U0:=zz (show(dig R2).length≤300000000 from aEg (aL T0.o) (by rw[q0.o];omega));clear hsg hs e0 hR2 hKb2 hbb;go_wp2;go_roundg R2
      case measure=>rw[hgk.o];exact M0.o
      case rel=>exact⟨R2,n+K,_,rfl,zz rfl,by go_num,hnK,J0,U0.o,HS,L0⟩
def aCj (w':World) (q r:Int) (e:Ending):Prop:=∃ v u,e=.returned (.tuple #[v,u])∧LV w' w'.heap.size v q∧LV w' w'.heap.size u r
theorem VC {a b:Int} {q:Nat} (h:q=a.natAbs / b.natAbs):jZ (!(decide (a<0)==decide (b<0))) q=Int.tdiv a b:=by
 subst h;exact PY a b
theorem VB {a b:Int} {r:Nat} (h:r=a.natAbs % b.natAbs):jZ (decide (a<0)) r=Int.tmod a b:=by
 subst h;exact PX a b
theorem rP {fn:Func} {p q:Tmp} {ty:TypeId} (h:fn.results=#[.cell p ty,.cell q ty]) (tmps:Array Value) (P:Program) (w:World) :
  (results fn tmps).run P w =
   ((asAddr (tmps.getD p undef)).run P w).andThen fun a w₁=>((loadVar ty a).run P w₁).andThen fun v w₂=>((asAddr (tmps.getD q undef)).run P w₂).andThen fun a' w₃=>((loadVar ty a').run P w₃).andThen fun v' w₄=>.ok (.tuple #[v,v']) w₄:=by
 simp only[results,h]
 simp[Sem.run_bind,Result.andThen]
theorem LB.ret2 {fn:Func} {p q:Tmp} (hf:fn.results=#[.cell p 26,.cell q 26]) {w:World} {b d:Nat} {x y x' y':Value} (tmps:Array Value) (h:LB w b x y) (h':LB w d x' y') (hp:tmps.getD p undef=.pointer (some ⟨b,0,none⟩)) (hq:tmps.getD q undef=.pointer (some ⟨d,0,none⟩)) :
  (results fn tmps).run Tryz.prog w=.ok (.tuple #[.agg #[x,y],.agg #[x',y']]) w:=by
 rw[rP hf,hp,hq];simp[asAddr,run_loadVar_row w b _ 26 #[x,y] (0,0) _ h Tryz.underlying26 rfl (by kernel_rfl),run_loadVar_row w d _ 26 #[x',y'] (0,0) _ h' Tryz.underlying26 rfl (by kernel_rfl)]
theorem fN {u:Value} {q:Bool} {A:Option Addr} {n c:Nat} (hv:LB w b (.bool q) (.slice A n c)) (h:LV w w.heap.size v z):LV (w.setCell ⟨b,k,none⟩ u) (w.setCell ⟨b,k,none⟩ u).heap.size v z:=by
 obtain⟨s,hs,hr⟩:=h;refine⟨s,hs,?_⟩;have h1:=hr.setLB hv k u
 simpa[World.setCell] using h1
def NewL (Z:Nat) (v:Value):Prop:=∀ q s,v=.agg #[q,s]→NewC Z s
theorem NewL.mono {Z':Nat} (h:NewL Z v) (hz:Z'≤Z):NewL Z' v:=fun q s e a n c e2 h0=>aEg hz (h q s e a n c e2 h0)
theorem OwnV.newc {l:List Int} (h:OwnV w Z v l):NewC Z v:=by
 intro a n c e h0;rcases h.form with ⟨rfl,-⟩ | ⟨g,cap,rfl,-,-,hg,-⟩
 ·cases e
 ·injection e with e;injection e with e;subst e;exact hg
theorem yZ (w:World) (neg:Bool) (v:Value) (ds:List Nat) (h:RN w w.heap.size v ds) (hs:Small ds) (hl:ds.length≤3000000000) :
  CV 132 #[.bool neg,v] w fun e w'=>∃ v,e=.returned v∧LV w' w'.heap.size v (jZ neg (val ds))∧NewL w.heap.size v:=
 (rF w neg v ds h hs hl).mono fun _ _ ⟨h1,q,s,e,hq,ho⟩=>⟨h1,_,e,⟨s,by rw[hq],ho.ri⟩,fun a b e2=>by injection e2 with e2;simp at e2;rw[← e2.2];exact ho.newc⟩
def RetPn (Z:Nat) (w':World) (q r:Int) (e:Ending):Prop:=∃ v u,e=.returned (.tuple #[v,u])∧LV w' w'.heap.size v q∧LV w' w'.heap.size u r∧NewL Z v∧NewL Z u
theorem RetPn.any {w':World} {q r:Int} {e:Ending} (h:RetPn Z w' q r e):aCj w' q r e:=by
 obtain⟨v,u,h1,h2,h3,-,-⟩:=h;exact⟨v,u,h1,h2,h3⟩
theorem WT {fn:Func} {p q:Tmp} (hf:fn.results=#[.cell p 26,.cell q 26]) {W w:World} {B b d:Nat} {n m n0 m0:Bool} {A A' A0 A1:Option Addr} {l c l' c' l0 c0 l1 c1:Nat} {zq zr:Int} {tmps:Array Value}
  (h:LB w b (.bool n0) (.slice A0 l0 c0)) (h':LB w d (.bool m0) (.slice A1 l1 c1)) (hne:b≠d) (hb:Below B W w) (hB:B≤b) (hD:B≤d) (hq:LV w w.heap.size (.agg #[.bool n,.slice A l c]) zq) (hr:LV w w.heap.size (.agg #[.bool m,.slice A' l' c']) zr)
  (hnq:NewL Z (.agg #[.bool n,.slice A l c])) (hnr:NewL Z (.agg #[.bool m,.slice A' l' c']))
  (hp:tmps.getD p undef=.pointer (some ⟨b,0,none⟩)) (hd:tmps.getD q undef=.pointer (some ⟨d,0,none⟩)) :
  bodyPost Tryz.prog fn (fun e w'=>Below B W w'∧RetPn Z w' zq zr e) .ret ⟨tmps,[]⟩ ((((w.setCell ⟨b,0,none⟩ (.bool n)).setCell ⟨b,1,none⟩ (.slice A l c)).setCell ⟨d,0,none⟩ (.bool m)).setCell ⟨d,1,none⟩ (.slice A' l' c')):=by
 have l1:=h.set0 (.bool n);have l2:=l1.set1 (.slice A l c);have m1:=h'.far (p:=⟨b,0,none⟩) (fun e=>hne e.symm) (.bool n);have m2:=m1.far (p:=⟨b,1,none⟩) (fun e=>hne e.symm) (.slice A l c);have m3:=m2.set0 (.bool m);have m4:=m3.set1 (.slice A' l' c');have l4:=(l2.far (p:=⟨d,0,none⟩) hne (.bool m)).far (p:=⟨d,1,none⟩) hne (.slice A' l' c');exact aFv (LB.ret2 hf tmps l4 m4 hp hd) rfl ⟨(((hb.setCell hB _).setCell hB _).setCell hD _).setCell hD _,_,_,rfl,fN m3 (fN m2 (fN l1 (fN h hq))),fN m3 (fN m2 (fN l1 (fN h hr))),hnq,hnr⟩
structure PartI (X:List Nat) (b k R:Nat) (Q:List Nat):Prop where
 le:k≤X.length
 len:k+Q.length=X.length
 small:Small Q
 sum:val (X.drop k)=val Q*b+R
 rest:R<b
theorem PartI.start (hb:b≠0):PartI X b X.length 0 []:=⟨aEa _,by simp,aIi,by simp[val],by omega⟩
theorem PartI.step {R:Nat} (h:PartI X b (k+1) R Q) (hX:Small X):PartI X b k ((X.getD k 0+1000000000*R) % b) ((X.getD k 0+1000000000*R) / b :: Q):=by
 have hk:k<X.length:=h.le;have h1:=yW hk (by have:=h.rest;omega) hX h.sum h.rest h.small;rw[show R*1000000000+X[k]=X.getD k 0+1000000000*R by rw[bJ hk];omega] at h1;exact⟨by omega,by have:=h.len;simp;omega,h1.2,h1.1,aGp _ (by have:=h.rest;omega)⟩
theorem PartI.fin {R:Nat} (h:PartI X b 0 R Q):val Q=val X / b∧R=val X % b:=by
 have h1:=h.sum;have h2:=h.rest;rw[aKf] at h1
 constructor
 ·rw[h1,aGt,Nat.mul_add_div (by omega),aNa h2,aGd]
 ·rw[h1,aGt,Nat.mul_add_mod,aLw h2]
theorem Own.setN {g d:Nat} (h:Own w g (List.replicate (k+1) 0++ni Q)):Own (w.setCell ⟨g,k,none⟩ (.int .i64 (d:Int))) g (List.replicate k 0++ni (d :: Q)):=by
 have h1:=h.set k (d:Int) (by simp <;> omega)
 rwa [kC] at h1
theorem jV (w:World) (va vb:Value) (x y:Int) (ha:LV w w.heap.size va x) (hb:LV w w.heap.size vb y) (hy0:y≠0) (hlx:(dig x.natAbs).length≤300000000) (hly:(dig y.natAbs).length≤270000000) :
  CV 131 #[va,vb] w fun e w'=>RetPn w.heap.size w' (Int.tdiv x y) (Int.tmod x y) e:=by
 obtain⟨i0,hi0,hz0,hz1,hz2⟩:=aGf eI;obtain⟨A1,c1,rfl,hsa⟩:=ha.parts;obtain⟨A2,c2,rfl,hsb⟩:=hb.parts;have v0:=zz (fun q (h:q=x.natAbs / y.natAbs)=>VC h);have x0:=zz (fun q (h:q=x.natAbs % y.natAbs)=>VB h);have y0:=zz (aH x.natAbs);have G0:=zz (aQ x.natAbs);clear ha hb;generalize dig x.natAbs=X at *
 obtain⟨b,hbb⟩:=ex (y.natAbs);rw[← hbb] at hsb hly v0 x0;rw[← hbb];have e0:b≠0:=by omega
 obtain⟨lb,hlb⟩:∃ l,l=(dig b).length:=⟨_,rfl⟩;rw[← hlb] at hsb hly;rw[← hlb];have q0:=zz hlb;generalize decide (x<0)=na at *
 generalize decide (y<0)=nb at *
 generalize Int.tdiv x y=zq at *
 generalize Int.tmod x y=zr at *
 generalize x.natAbs=xn at *
 have hmk:=OC X.length (by omega);obtain⟨w0,hw0⟩:=ex ((((w.alloc (.cells #[.bool na,.slice A1 X.length c1] 26)).alloc (.cells #[.bool nb,.slice A2 lb c2] 26)).alloc (.cells #[.bool false,.slice none 0 0] 26)).alloc (.cells #[.bool false,.slice none 0 0] 26));have hb0':Below w.heap.size w w0:=by rw[hw0];(repeat' (first | exact aDy _ _ | refine aJo ?_ | refine aIs ?_ (by first | exact aEa _ | (simp;done) | (simp;omega)) _))
 have L0:LB w0 w.heap.size (.bool na) (.slice A1 X.length c1):=by rw[hw0];(repeat (first | (refine aJj ?_;simp;done) | refine aHq ?_ _))
 have L1:LB w0 (w.heap.size+1) (.bool nb) (.slice A2 lb c2):=by rw[hw0];(repeat (first | (refine aJj ?_;simp;done) | refine aHq ?_ _))
 have L2:LB w0 (w.heap.size+2) (.bool false) (.slice none 0 0):=by rw[hw0];(repeat (first | (refine aJj ?_;simp;done) | refine aHq ?_ _))
 have L3:LB w0 (w.heap.size+3) (.bool false) (.slice none 0 0):=by rw[hw0];(repeat (first | (refine aJj ?_;simp;done) | refine aHq ?_ _))
 have hsz0:w0.heap.size=w.heap.size+4:=by rw[hw0];simp
 have HA:=zz (show RN w w.heap.size _ X from hsa);have HB:=zz (show RN w w.heap.size _ (dig b) from hsb);replace hw0:=zz hw0;clear hsa hsb hbb hlb;go_enter Tryz.func131,Tryz.ntmps131
 go_wp2;rw[← hw0.o];have a0:=hb0'.alloc hb0'.size (bC X.length);have M0:=L0.alloc (bC X.length);have M1:=L1.alloc (bC X.length);have M2:=L2.alloc (bC X.length);have M3:=L3.alloc (bC X.length);have ho:=nW w0 X.length;rw[hsz0] at ho;have hsz1:w.heap.size+5≤(w0.alloc (bC X.length)).heap.size:=by simp;omega
 clear L0 L1 L2 L3 hb0' hsz0 hw0 hmk;generalize (w0.alloc (bC X.length))=w1 at *
 have HP:=zz (PartI.start (X:=X) e0);have n0:=zz (show OwnV w1 (w.heap.size+5) (.slice none 0 0) (ni (dig 0)) by rw[bF];exact aLv _ _);have l0:=zz hsz1;clear hsz1;go_loopw [7,8] (fun rv iv wr=>∃ (k R:Nat) (Q:List Nat) (v:Value),rv=v∧iv=.int .i64 ((k:Int)-1)∧Hi (PartI X b k R Q)∧Hi (OwnV wr (w.heap.size+5) v (ni (dig R)))∧Own wr (w.heap.size+4) (List.replicate k 0++ni Q)∧LB wr w.heap.size (.bool na) (.slice A1 X.length c1)∧LB wr (w.heap.size+1) (.bool nb) (.slice A2 lb c2)∧LB wr (w.heap.size+2) (.bool false) (.slice none 0 0)∧LB wr (w.heap.size+3) (.bool false) (.slice none 0 0)∧Hi (Below w.heap.size w wr)∧Hi (w.heap.size+5≤wr.heap.size)) (fun _ iv _=>(intOf iv+1).toNat)
 case atStart=>exact⟨X.length,0,[],_,rfl,rfl,HP,n0,by simpa[ni] using ho,M0,M1,M2,M3,zz a0,l0⟩
 case round=>
  clear a0 ho HP n0 l0 M0 M1 M2 M3;obtain⟨k,R,Q,v,rfl,rfl,HP,n0,ho,M0,M1,M2,M3,p0,r0⟩:=hrel;have q00:=M0.cell0;have q01:=M0.cell1;have q10:=M1.cell0;have q11:=M1.cell1;have q20:=M2.cell0;have q21:=M2.cell1;have q30:=M3.cell0;have q31:=M3.cell1;rcases aGg k with f0 | f0
  ·subst f0;rw[show(((0:Nat):Int)-1)=-1 from rfl];have hf:=HP.o.fin;rw[G0.o] at hf;have H0:=zz (v0.o _ hf.1);have hr2:=x0.o _ hf.2;have I0:=zz hr2;have J0:=zz HP.o.small;have hql:=HP.o.len;have K0:=zz (show Q.length≤3000000000 by omega);have hrl:(dig R).length≤270000000:=aEg (aL (aMr HP.o.rest)) (by rw[← q0.o];exact hly);have O0:=zz (show(dig R).length≤3000000000 by omega);have Q0:=zz (aH R);have R0:=zz (iC (r:=Q) (by simpa using ho) X.length X.length (by omega) (aEa _) (by omega));have T0:=zz (show RN wr wr.heap.size _ (dig R) from n0.o.ri);clear hf hr2 HP hql hrl ho;have tok1:True:=aFi;have tok2:True:=aFi;go_wp2_with fail
   go_region_held3 (fun w'=>w'.cell? ⟨w.heap.size,0,none⟩=some (.bool na)∧w'.cell? ⟨w.heap.size+1,0,none⟩=some (.bool nb)) (first
    | (refine⟨LB.cell0 (y:=.slice A1 X.length c1) ?_,LB.cell0 (y:=.slice A2 lb c2) ?_⟩ <;> repeat (first | with_reducible exact M0 | with_reducible exact M1 | with_reducible exact N0 | with_reducible exact N1 | with_reducible exact P0 | with_reducible exact P1 | with_reducible refine aFz ?_ | with_reducible refine rZ ?_ (by omega)))
    | go_keep) (first
    | (go_at_call 132;clear tok1;((with_reducible refine(yZ _ _ _ Q (by repeat (first | with_reducible exact R0.o | with_reducible refine aLu ?_)) J0.o K0.o).mono ?_);rintro e u1 ⟨a0,v1,rfl,d0,hn1⟩;rw[H0.o] at d0;have C0:=zz (show NewL w.heap.size v1 from hn1.mono (by show w.heap.size≤wr.heap.size;have:=r0.o;omega));clear hn1;obtain⟨n5,A5,l5,c5,rfl,g0⟩:=d0.opened;have k0:=zz (show Below wr.heap.size wr u1 by first | exact a0 | exact aR a0);have U0:=zz g0;have N0:=aIa M0 k0.o;have N1:=aIa M1 k0.o;have D0:=zz (aHy T0.o k0.o);clear a0 d0 g0))
    | (go_at_call 132;clear tok2;((with_reducible refine(yZ _ _ _ (dig R) (by repeat (first | with_reducible exact D0.o | with_reducible refine aLu ?_)) Q0.o O0.o).mono ?_);rintro e u2 ⟨b0,v2,rfl,c0,hn2⟩;rw[aQ,I0.o] at c0;have E0:=zz (show NewL w.heap.size v2 from hn2.mono (by show w.heap.size≤u1.heap.size;have:=r0.o;have:=k0.o.size;omega));clear hn2;obtain⟨n6,A6,l6,c6,rfl,h0⟩:=c0.opened;have j0:=zz (show Below u1.heap.size u1 u2 by first | exact b0 | exact aR b0);have V0:=zz h0;have P0:=aIa N0 j0.o;have P1:=aIa N1 j0.o;have P2:=(aIa M2 k0.o).step j0.o;have P3:=(aIa M3 k0.o).step j0.o;have y20:=P2.cell0;have y21:=P2.cell1;have y22:=P2.frozen 0;have y23:=P2.frozen 1;have y30:=P3.cell0;have y31:=P3.cell1;have y32:=P3.frozen 0;have y33:=P3.frozen 1;clear b0 c0 h0)))
   rename_i hheld
   have W0:=zz (p0.o.trans ((k0.o.trans (j0.o.mono k0.o.size)).mono p0.o.size));have HV5b:=zz (U0.o.step j0.o);clear hheld k0 j0;simp only[Exit.then]
   go_wp2;(try simp only[Exit.inBlock,Exit.then])
   exact WT rfl P2 P3 (by omega) W0.o (by omega) (by omega) HV5b.o V0.o C0.o E0.o rfl rfl
  ·obtain⟨j,rfl⟩:∃ j,k=j+1:=⟨k-1,by omega⟩;rw[show(((j+1:Nat):Int)-1)=(j:Int) by omega];have hjX:j<X.length:=HP.o.le;obtain⟨g1,o1,rfl,hx⟩:=(HA.o.below p0.o).digit hjX;obtain⟨xd,hxd⟩:∃ d,d=X.getD j 0:=⟨_,rfl⟩;rw[← hxd] at hx;have hx9:xd<1000000000:=by rw[hxd];exact y0.o.getD j
   obtain⟨R1,hR1⟩:=ex (xd+1000000000*R);have t0:=zz (HP.o.step y0.o);rw[← hxd,← hR1] at t0;have HRb:=zz (show R1<1000000000*b by have:=HP.o.rest;omega);have HSm:=zz (EY (R:=R) hx9).1;have X0:=zz (show(jZ false (val (xd :: dig R))).natAbs=R1 by rw[nT,(EY (R:=R) hx9).2,hR1]);have HlR:=zz (show(dig R).length≤270000000 from aEg (aL (aMr HP.o.rest)) (by rw[← q0.o];exact hly));have HlR1:=zz (show(dig R1).length≤300000000 by
    have h1:R1<bp (lb+1):=by
     have h2:=vC b;rw[← q0.o] at h2;have h3:=HRb.o;rw[eQ];omega
    exact aEg (aU.2 h1) (by omega))
   have HO:=zz ho;have hji:(j:Int)<(X.length:Int):=by omega
   have hj0:(0:Int)≤(j:Int):=by omega
   clear hxd hR1 HP ho;go_upto_region 6 with (fail)
   go_cut [9] (fun nv wx=>∃ v:Value,nv=v∧Hi (RN wx wx.heap.size v (xd :: dig R))∧Hi (Below wr.heap.size wr wx))
   case first=>
    have hlit:=World.ownsRow_lit (base:=wr.heap.size) (e:=3) (size:=1) wr #[.int .i64 (xd:Int)] 1 (aEa _) (by decide) rfl;rcases n0.o.form with ⟨rfl,he⟩ | ⟨g,cap,rfl,hcap,hcap2,hgB,hown⟩
    ·go_wp2_with (at_builtin;refine wpList_append_own_none rfl _ _ 24 rfl wr.heap.size 3 i0 1 Tryz.underlying24 hi0 (.slice (some ⟨wr.heap.size,0,none⟩) 1 1) 1 [.int .i64 (xd:Int)] rfl hlit rfl ?_)
     go_meet
     have hd:dig R=[]:=by cases hh:dig R with
      | nil=>rfl
      | cons a m=>rw[hh] at he;simp[ni] at he
     rw[hd];exact⟨_,rfl,zz (OwnV.ri (base:=wr.heap.size) (l:=ni [xd]) hlit),zz ((aDy _ _).alloc (aEa _) _)⟩
    ·have HNEWS:=zz (World.ownsRow.cells (OwnV.alloc n0.o (.cells #[.int .i64 (xd:Int)] 3)) (g:=g) rfl);have hlen:(ni (dig R)).length≤270000000:=by rw[aC];exact HlR.o
     go_wp2_with (at_builtin;refine wpList_append_own_at _ rfl _ _ 24 rfl wr.heap.size 3 i0 (.int .i64 0) 1 8 Tryz.underlying24 hi0 hz0 hz1 hz2 rfl (by decide) (.slice (some ⟨wr.heap.size,0,none⟩) 1 1) 1 [.int .i64 (xd:Int)] rfl hlit ⟨g,0,none⟩ (ni (dig R)).length cap ((ni (dig R)).map (Value.int .i64)) rfl (by simp) HNEWS.o (by intro u hu;simp at hu;obtain⟨a,_,rfl⟩:=hu;rfl) (by unfold maxLen;omega) (by omega) (by simp) ?_)
     intro v' w' hown' hgrow hne hblk;have hv':OwnV w' wr.heap.size v' (ni (xd :: dig R)):=by
      have h:=hown';rw[OwnV];rw[show 1+(ni (dig R)).length=(ni (xd :: dig R)).length by simp[ni];omega] at h;exact h
     have HV':=zz hv'.ri;have HBw:=zz (((aDy wr.heap.size wr).alloc (aEa _) (.cells #[.int .i64 (xd:Int)] 3)).grown hgrow (by simp) (fun k hk=>by simp[Value.ownBlock] at hk;omega));clear hown' hgrow hne hblk hv';go_wp2;go_meet
     exact⟨_,rfl,HV',HBw⟩
   case rest=>
    obtain⟨nx,rfl,HN,HBc⟩:=hcut;have HLm:=zz (show(xd :: dig R).length≤3000000000 by have:=HlR.o;simp;omega);have s0:=zz (HO.o.step HBc.o);replace M0:=M0.step HBc.o;replace M1:=M1.step HBc.o;replace M2:=M2.step HBc.o;replace M3:=M3.step HBc.o;have o0:=tr p0 HBc;have l0:=zz (aEg r0.o HBc.o.size);have d1:=l0.o;have z0:=zz (RN.more (HB.o.below o0.o) o0.o.size);clear HO p0 r0 HBc n0 hx;have q10:=M1.cell0;have q11:=M1.cell1;have hfd:=wN;have hlb2:lb≤300000000:=by omega
    have F0:=zz (show(dig b).length≤300000000 by rw[← q0.o];exact hlb2);have tok1:True:=aFi;have tok2:True:=aFi;go_wp2_with fail
    go_region_held3 (fun w'=>w'.cell? ⟨w.heap.size+1,1,none⟩=some (.slice A2 lb c2)) (first
     | (refine LB.cell1 (b:=w.heap.size+1) (x:=.bool nb) ?_;repeat (first | with_reducible exact M1 | with_reducible exact N1 | with_reducible exact P1 | with_reducible refine aFz ?_ | with_reducible refine rZ ?_ (by omega)))
     | go_keep) (first
     | (go_at_call 132;clear tok1;((with_reducible refine(rF _ _ _ (xd :: dig R) (by repeat (first | with_reducible exact HN.o | with_reducible refine aLu ?_)) HSm.o HLm.o).mono ?_);rintro e u1 ⟨a0,q1,s1,rfl,rfl,hs1⟩;rw[X0.o] at hs1;have k0:=zz (show Below wc.heap.size wc u1 by first | exact a0 | exact aR a0);have A0:=zz (show OwnV u1 wc.heap.size s1 (ni (dig R1)) from hs1);have N1:=aIa M1 k0.o;have u0:=zz (RN.below z0.o k0.o);clear a0 hs1))
     | (go_at_call 149;clear tok2;((with_reducible refine(MQ _ wc.heap.size _ _ R1 b (by exact k0.o.size) (by repeat (first | with_reducible exact A0.o | with_reducible refine aNj ?_)) (by exact u0.o) e0 HRb.o HlR1.o F0.o).mono ?_);rintro e u2 ⟨b0,v2,rfl,c0⟩;have j0:=zz (show Below wc.heap.size wc u2 by first | exact k0.o.trans b0 | exact k0.o.trans (aR b0));have B0:=zz c0;have P1:=aIa M1 j0.o;have hqf:=(s0.o.step j0.o).frozen j;have hqc:=(s0.o.step j0.o).cell j (by simp <;> omega);clear b0 c0)))
    rename_i hheld
    obtain⟨qd,hqd⟩:∃ q:Nat,q=R1 / b:=⟨_,rfl⟩;rw[show(R1:Int) / (b:Int)=(qd:Int) by rw[hqd];simp];rw[← hqd] at t0;obtain⟨u3,hu3⟩:=ex (u2.setCell ⟨w.heap.size+4,j,none⟩ (.int .i64 (qd:Int)));have S0:LB u3 w.heap.size (.bool na) (.slice (some ⟨g1,o1,none⟩) X.length c1):=by rw[hu3];exact rZ (M0.step j0.o) (by omega)
    have S1:LB u3 (w.heap.size+1) (.bool nb) (.slice A2 lb c2):=by rw[hu3];exact rZ (M1.step j0.o) (by omega)
    have S2:LB u3 (w.heap.size+2) (.bool false) (.slice none 0 0):=by rw[hu3];exact rZ (M2.step j0.o) (by omega)
    have S3:LB u3 (w.heap.size+3) (.bool false) (.slice none 0 0):=by rw[hu3];exact rZ (M3.step j0.o) (by omega)
    have SO:Own u3 (w.heap.size+4) (List.replicate j 0++ni (qd :: Q)):=by rw[hu3];exact Own.setN (s0.o.step j0.o)
    have SV:=zz (show OwnV u3 (w.heap.size+5) v2 (ni (dig (R1 % b))) by rw[hu3];exact(B0.o.setBelow (p:=⟨w.heap.size+4,j,none⟩) (by have:=l0.o;show w.heap.size+4<wc.heap.size;omega) _).mono l0.o);have SB:=zz (show Below w.heap.size w u3 by rw[hu3];exact(o0.o.trans (j0.o.mono o0.o.size)).setCell (p:=⟨w.heap.size+4,j,none⟩) (by simp) _);have SZ:=zz (show w.heap.size+5≤u3.heap.size by rw[hu3];have h1:=l0.o;have h2:=j0.o.size;simp[World.setCell];omega);clear hheld hqd k0 A0 N1 u0 j0 B0 P1 hqf hqc M0 M1 M2 M3 s0 o0 l0 HN z0 q10 q11;rw[← hu3];clear hu3;simp only[Exit.then,Exit.inBlock]
    go_wp2;go_roundw
    case rel=>exact⟨j,R1 % b,qd :: Q,_,rfl,rfl,t0,SV,SO,S0,S1,S2,S3,SB,SZ⟩
    case measure=>simp[intOf]
theorem MR (w:World) (va vb:Value) (x y:Int) (ha:LV w w.heap.size va x) (hb:LV w w.heap.size vb y) (hy0:y≠0) (hlx:(dig x.natAbs).length≤300000000) (hly:(dig y.natAbs).length≤270000000) :
  CV 131 #[va,vb] w fun e w'=>aCj w' (Int.tdiv x y) (Int.tmod x y) e:=
 (jV w va vb x y ha hb hy0 hlx hly).mono fun _ _ ⟨h1,h2⟩=>⟨h1,h2.any⟩
theorem WO (x y:Int):Nat.gcd y.natAbs (Int.tmod x y).natAbs=Nat.gcd x.natAbs y.natAbs:=by
 rw[aKj,EK]
theorem UU {x y:Int} (h:y≠0) {k:Nat} (hk:(dig y.natAbs).length≤k):(dig (Int.tmod x y).natAbs).length≤k:=
 aEg (aL (by rw[aKj];exact aMr (aGp _ (by omega)))) hk
theorem WJ (h:z=0):(dig z.natAbs).length=0:=by rw[h];show(dig 0).length=0;rw[bF];rfl
theorem ZK (h:z≠0):0<(dig z.natAbs).length:=bX (by omega)
theorem nP (w:World) (va vb:Value) (x y:Int) (ha:LV w w.heap.size va x) (hb:LV w w.heap.size vb y) (hlx:(dig x.natAbs).length≤270000000) (hly:(dig y.natAbs).length≤270000000) :
  CV 104 #[va,vb] w fun e w'=>oX w' (Int.gcd x y:Int) e:=by
 obtain⟨na,A1,l1,c1,rfl,HA⟩:=ha.opened;obtain⟨nb,A2,l2,c2,rfl,HB⟩:=hb.opened;clear ha hb;obtain⟨g,hg⟩:=ex (α:=Nat) (Int.gcd x y);have q0:=zz (show Nat.gcd x.natAbs y.natAbs=g from hg.symm);rw[← hg];clear hg;obtain⟨w0,hw0⟩:=ex (((w.alloc (.cells #[.bool na,.slice A1 l1 c1] 26)).alloc (.cells #[.bool nb,.slice A2 l2 c2] 26)).alloc (.cells #[.bool false,.slice none 0 0] 26));have c0:=zz (show Below w.heap.size w w0 by rw[hw0];(repeat' (first | exact aDy _ _ | refine aJo ?_ | refine aIs ?_ (by first | exact aEa _ | (simp;done) | (simp;omega)) _)));have L0:LB w0 w.heap.size (.bool na) (.slice A1 l1 c1):=by rw[hw0];(repeat (first | (refine aJj ?_;simp;done) | refine aHq ?_ _))
 have L1:LB w0 (w.heap.size+1) (.bool nb) (.slice A2 l2 c2):=by rw[hw0];(repeat (first | (refine aJj ?_;simp;done) | refine aHq ?_ _))
 have L2:LB w0 (w.heap.size+2) (.bool false) (.slice none 0 0):=by rw[hw0];(repeat (first | (refine aJj ?_;simp;done) | refine aHq ?_ _))
 have l0:=zz (show w.heap.size+3≤w0.heap.size by rw[hw0];simp);replace HA:=zz (HA.step c0.o);replace HB:=zz (HB.step c0.o);replace hw0:=zz hw0;go_enter Tryz.func104,Tryz.ntmps104
 go_wp2;rw[← hw0.o];clear hw0;go_loopg [5] y.natAbs (fun gk s5 wr=>∃ (x' y':Int) (na:Bool) (A1:Option Addr) (l1 c1:Nat) (nb:Bool) (A2:Option Addr) (l2 c2:Nat),Hi (gk=y'.natAbs)∧Hi (Nat.gcd x'.natAbs y'.natAbs=g)∧Hi ((dig x'.natAbs).length≤270000000)∧Hi ((dig y'.natAbs).length≤270000000) ∧
  LB wr w.heap.size (.bool na) (.slice A1 l1 c1)∧LB wr (w.heap.size+1) (.bool nb) (.slice A2 l2 c2)∧LB wr (w.heap.size+2) (.bool false) (.slice none 0 0)∧Hi (LV wr wr.heap.size (.agg #[.bool na,.slice A1 l1 c1]) x')∧Hi (LV wr wr.heap.size (.agg #[.bool nb,.slice A2 l2 c2]) y')∧Hi (Below w.heap.size w wr)∧Hi (w.heap.size+3≤wr.heap.size))
 case atStart=>exact⟨x,y,na,A1,l1,c1,nb,A2,l2,c2,zz rfl,q0,zz hlx,zz hly,L0,L1,L2,HA,HB,c0,l0⟩
 case round=>
  clear q0 L0 L1 L2 HA HB c0 l0 hlx hly;obtain⟨x',y',na,A1,l1,c1,nb,A2,l2,c2,hgk,HG,hlx,hly,M0,M1,M2,HA,HB,m0,l0⟩:=hrel;have q00:=M0.cell0;have q01:=M0.cell1;have q10:=M1.cell0;have q11:=M1.cell1;have q20:=M2.cell0;have q21:=M2.cell1;have q22:=M2.frozen 0;have q23:=M2.frozen 1;have hl2:=HB.o.is.2.1;by_cases hy0:y'=0
  ·obtain rfl:l2=0:=hl2.trans (WJ hy0);have u0:=zz (show jZ false (val (dig x'.natAbs))=(g:Int) by have h:=HG.o;rw[hy0] at h;simp at h;rw[aQ,← h];rfl);have v0:=zz HA.o.is.2.2;have x0:=zz (aH x'.natAbs);have y0:=zz (show(dig x'.natAbs).length≤3000000000 by have:=hlx.o;omega);clear hl2 hy0 HG hgk;go_wp2_with fail
   refine(kZ _ _ _ (dig x'.natAbs) v0.o x0.o y0.o).mono ?_;rintro e w2 ⟨a0,v2,rfl,b0⟩;rw[u0.o] at b0;obtain⟨n3,A3,l3,c3,rfl,d0⟩:=b0.opened;have z0:=zz d0;have N2:=M2.step a0;have h0:=zz (m0.o.trans (a0.mono m0.o.size));clear b0 d0 a0 M0 M1 M2 m0 q00 q01 q10 q11 q20 q21 q22 q23;have q20:=N2.cell0;have q21:=N2.cell1;have q22:=N2.frozen 0;have q23:=N2.frozen 1;go_wp2;(try simp only[Exit.inBlock,Exit.then])
   exact vQ rfl N2 h0.o (by omega) z0.o rfl
  ·have hl0:(0:Int)<(l2:Int):=by have:=ZK hy0;omega
   have o0:=zz hy0;clear hl2 hy0;go_wp2_with fail
   refine(MR _ _ _ x' y' HA.o HB.o o0.o (by have:=hlx.o;omega) hly.o).mono ?_;rintro e u ⟨a0,v1,v2,rfl,e0,b0⟩;obtain⟨n5,A5,l5,c5,rfl,i0⟩:=e0.opened;obtain⟨n6,A6,l6,c6,rfl,f0⟩:=b0.opened;have HU:=zz a0;have p0:=zz f0;clear a0 e0 b0 i0 f0 q00 q01 q10 q11 q20 q21 q22 q23;have N0:=M0.step HU.o;have N1:=M1.step HU.o;have N2:=M2.step HU.o;have g0:=zz (HB.o.step HU.o);have r0:=tr m0 HU;have s0:=zz (aEg l0.o HU.o.size);obtain⟨r,hr⟩:=ex (Int.tmod x' y');have A0:=zz (show Nat.gcd y'.natAbs r.natAbs=g by rw[hr,WO];exact HG.o);have B0:=zz (show(dig r.natAbs).length≤270000000 by rw[hr];exact UU o0.o hly.o);have C0:=zz (show r.natAbs<y'.natAbs by rw[hr,aKj];exact aGp _ (by have:=o0.o;omega));rw[← hr] at p0;clear hr M0 M1 M2 HA HB m0 l0 HU;have q10:=N1.cell0;have q11:=N1.cell1;have q00:=N0.cell0;have q01:=N0.cell1;have q02:=N0.frozen 0;have q03:=N0.frozen 1;have q12:=N1.frozen 0;have q13:=N1.frozen 1;have h0lt:=N0.lt;have h1lt:=N1.lt;go_wp2;go_region_with (fail)
   all_goals
    have S0:=((((((N0.set0 (.bool nb)).set1 (.slice A2 l2 c2)).far (p:=⟨w.heap.size+1,0,none⟩) (by simp) (.bool n6)).far (p:=⟨w.heap.size+1,1,none⟩) (by simp) (.slice A6 l6 c6)).alloc (.cells #[.bool n5,.slice A5 l5 c5] 26)).alloc (.cells #[.bool n6,.slice A6 l6 c6] 26)).drew;have t1:=(N1.far (p:=⟨w.heap.size,0,none⟩) (by simp) (.bool nb)).far (p:=⟨w.heap.size,1,none⟩) (by simp) (.slice A2 l2 c2);have S1:=((((t1.set0 (.bool n6)).set1 (.slice A6 l6 c6)).alloc (.cells #[.bool n5,.slice A5 l5 c5] 26)).alloc (.cells #[.bool n6,.slice A6 l6 c6] 26)).drew;have S2:=((((((N2.far (p:=⟨w.heap.size,0,none⟩) (by simp) (.bool nb)).far (p:=⟨w.heap.size,1,none⟩) (by simp) (.slice A2 l2 c2)).far (p:=⟨w.heap.size+1,0,none⟩) (by simp) (.bool n6)).far (p:=⟨w.heap.size+1,1,none⟩) (by simp) (.slice A6 l6 c6)).alloc (.cells #[.bool n5,.slice A5 l5 c5] 26)).alloc (.cells #[.bool n6,.slice A6 l6 c6] 26)).drew;have V1:=zz (LV.drew1 (LV.alloc (LV.alloc (fN (k:=1) (u:=.slice A6 l6 c6) (t1.set0 (.bool n6)) (fN (k:=0) (u:=.bool n6) t1 (fN (k:=1) (u:=.slice A2 l2 c2) (N0.set0 (.bool nb)) (fN (k:=0) (u:=.bool nb) N0 g0.o)))) (.cells #[.bool n5,.slice A5 l5 c5] 26)) (.cells #[.bool n6,.slice A6 l6 c6] 26)))
    have V2:=zz (LV.drew1 (LV.alloc (LV.alloc (fN (k:=1) (u:=.slice A6 l6 c6) (t1.set0 (.bool n6)) (fN (k:=0) (u:=.bool n6) t1 (fN (k:=1) (u:=.slice A2 l2 c2) (N0.set0 (.bool nb)) (fN (k:=0) (u:=.bool nb) N0 p0.o)))) (.cells #[.bool n5,.slice A5 l5 c5] 26)) (.cells #[.bool n6,.slice A6 l6 c6] 26)));have SB:=zz (aA (aB (aB (bV (bV (bV (bV r0.o (aEa _) 0 (.bool nb)) (aEa _) 1 (.slice A2 l2 c2)) (Nat.le_succ _) 0 (.bool n6)) (Nat.le_succ _) 1 (.slice A6 l6 c6)) (.cells #[.bool n5,.slice A5 l5 c5] 26)) (.cells #[.bool n6,.slice A6 l6 c6] 26)));have SZ:=zz (show w.heap.size+3≤(((((((u.setCell ⟨w.heap.size,0,none⟩ (.bool nb)).setCell ⟨w.heap.size,1,none⟩ (.slice A2 l2 c2)).setCell ⟨w.heap.size+1,0,none⟩ (.bool n6)).setCell ⟨w.heap.size+1,1,none⟩ (.slice A6 l6 c6)).alloc (.cells #[.bool n5,.slice A5 l5 c5] 26)).alloc (.cells #[.bool n6,.slice A6 l6 c6] 26)).drew).heap.size from aEg s0.o (by simp[World.setCell] <;> omega));clear t1 N0 N1 N2 q00 q01 q02 q03 q10 q11 q12 q13 h0lt h1lt g0 p0 r0 s0;simp only[Exit.then,Exit.inBlock]
    go_wp2;go_roundg r.natAbs
    case measure=>rw[hgk.o];exact C0.o
    case rel=>exact⟨y',r,_,_,_,_,_,_,_,_,zz rfl,A0,hly,B0,S0,S1,S2,V1,V2,SB,SZ⟩
theorem gL (w:World) (n:Int) (h0:-9223372036854775808≤n) (h1:n≤9223372036854775807) :
  CV 105 #[.int .i64 n] w fun e w'=>oX w' n e:=by
 obtain⟨i0,hi,hz0,hz1,hz2⟩:=aGf eI;have H3:=zz (show(dig n.natAbs).length≤3 by rw[aU];show n.natAbs<1000000000000000000000000000;omega);obtain⟨ng,hng⟩:=ex (decide (n<0));have p0:=zz (show jZ ng n.natAbs=n by rw[hng];exact KQ n);have n0:=zz hng.symm;clear hng;go_enter Tryz.func105,Tryz.ntmps105
 go_wp2;rw[n0.o];have L0:LB (w.alloc (.cells #[.bool false,.slice none 0 0] 26)) w.heap.size (.bool false) (.slice none 0 0):=by(repeat (first | (refine aJj ?_;simp;done) | refine aHq ?_ _))
 go_loopw [0,3] (fun nv dv wr=>∃ (k:Int) (ds:List Nat) (v:Value),nv=.int .i64 k∧v=dv∧-9223372036854775808≤k∧k≤9223372036854775807∧Hi (dig n.natAbs=ds++dig k.natAbs)∧Hi (ds.length≤20)∧Hi (Small ds)∧LB wr w.heap.size (.bool false) (.slice none 0 0)∧Hi (OwnV wr (w.heap.size+1) v (ni ds))∧Hi (w.heap.size+1≤wr.heap.size)∧Hi (Below w.heap.size w wr)) (fun nv _ _=>(intOf nv).natAbs)
 case atStart=>exact⟨n,[],_,rfl,rfl,h0,h1,zz (by simp),zz (by simp),zz aIi,L0,zz (aLv _ _),zz (by simp),zz (by(repeat' (first | exact aDy _ _ | refine aJo ?_ | refine aIs ?_ (by first | exact aEa _ | (simp;done) | (simp;omega)) _)))⟩
 case round=>
  clear L0 h0 h1;obtain⟨k,ds,v,rfl,rfl,e0,f0,hd,hlen,hsm,L0,ho,hsz,hbw⟩:=hrel;by_cases hk:k=0
  ·have q0:=zz (show val ds=n.natAbs by rw[← aQ n.natAbs,hd.o,hk,show(0:Int).natAbs=0 from rfl,bF,aId]);have r0:=zz (show RN wr wr.heap.size _ ds from ho.o.ri);subst hk;clear e0 f0;go_wp2_with fail
   refine(kZ _ _ _ ds r0.o hsm.o (by have:=hlen.o;omega)).mono ?_;rintro e w2 ⟨a0,v2,rfl,b0⟩;rw[q0.o,p0.o] at b0;obtain⟨n3,A3,l3,c3,rfl,d0⟩:=b0.opened;have s0:=zz d0;have N0:=L0.step a0;have c0:=zz (hbw.o.trans (a0.mono hbw.o.size));clear b0 d0 a0 L0 hbw;have q20:=N0.cell0;have q21:=N0.cell1;have q22:=N0.frozen 0;have q23:=N0.frozen 1;go_wp2;(try simp only[Exit.inBlock,Exit.then])
   exact vQ rfl N0 c0.o (by omega) s0.o rfl
  ·have hkb:(k != 0)=true:=by simpa using hk
   have hna:(k.tmod 1000000000).natAbs=k.natAbs % 1000000000:=aKj k 1000000000;have hnd:(k.tdiv 1000000000).natAbs=k.natAbs / 1000000000:=Int.natAbs_tdiv k 1000000000;have hm0:-1000000000<k.tmod 1000000000:=by have:=aGp k.natAbs (show 1000000000>0 by decide);omega
   have hm1:k.tmod 1000000000<1000000000:=by have:=aGp k.natAbs (show 1000000000>0 by decide);omega
   obtain⟨d,hd9⟩:=ex (α:=Nat) (k.natAbs % 1000000000);have hdlt:d<1000000000:=by rw[hd9];exact aGp _ (by decide)
   have HD:=zz hnd;have t0:=zz hd9;have k0:=zz (hna.trans hd9.symm);clear hnd hd9 hna;go_upto_if 13 with (fail)
   obtain⟨m,hm⟩:∃ m,k.tmod 1000000000=m:=⟨_,rfl⟩;rw[hm] at hm0 hm1 k0 ⊢;clear hm;go_cut [5] (fun rv wx=>rv=.int .i64 (d:Int)∧wx=wr)
   case first=>
    by_cases hneg:m<0
    ·rw[aEj hneg];have HE:=zz (show -m=(d:Int) by have:=k0.o;omega);clear hneg;go_wp2;go_meet
     exact⟨by rw[HE.o],rfl⟩
    ·rw[aEe hneg];have HE:=zz (show m=(d:Int) by have:=k0.o;omega);clear hneg;go_wp2;go_meet
     exact⟨by rw[HE.o],rfl⟩
   case rest=>
    obtain⟨rfl,rfl⟩:=hcut;have hl20:=hlen.o;have hown:=ho.o.alloc (.cells #[.int .i64 (d:Int)] 3);clear hm0 hm1;go_wp2_with (at_builtin;refine wpList_append_own_at _ rfl _ _ 24 rfl (w.heap.size+1) 3 i0 (.int .i64 0) 1 8 Tryz.underlying24 hi hz0 hz1 hz2 rfl (by decide) v (ni ds).length ((ni ds).map (Value.int .i64)) rfl hown ⟨wc.heap.size,0,none⟩ 1 1 [.int .i64 (d:Int)] rfl rfl (cell_one_new _ _ _) (by intro u hu;simp at hu;subst hu;rfl) (by rw[aC];unfold maxLen;omega) (by rw[aC];omega) (by have:=hsz.o;simp;omega) ?_)
    intro v' w' hown' hgrow hne hblk;have hv':OwnV w' (w.heap.size+1) v' (ni (ds++[d])):=by rw[bH];exact VQ hown'
    have hrow:∀ b,b<w.heap.size+1→v.ownBlock≠some b:=fun b hb he=>by
     have:=(aFn ho.o b he).1
     omega
    have M0:=(L0.alloc (.cells #[.int .i64 (d:Int)] 3)).grown hgrow (hrow _ (by omega));have c0:=zz ((hbw.o.alloc hbw.o.size (.cells #[.int .i64 (d:Int)] 3)).grown hgrow (by have:=hbw.o.size;simp;omega) (fun g he=>by have:=(aFn ho.o g he).1;omega));have u0:=zz (show w.heap.size+1≤w'.heap.size by have h1:=hgrow.size;have h2:=hsz.o;simp at h1;omega);have HV:=zz hv';have v0:=zz (hsm.o.append (aJn hdlt aIi));have m0:=zz (show dig n.natAbs=(ds++[d])++dig (k.tdiv 1000000000).natAbs by rw[hd.o,HD.o,mC (by omega:k.natAbs≠0),t0.o];simp);have w0:=zz (show(ds++[d]).length≤20 by have h:=H3.o;rw[m0.o] at h;simp at h ⊢;omega);have g0:-9223372036854775808≤k.tdiv 1000000000:=by have:=HD.o;omega
    have j0:k.tdiv 1000000000≤9223372036854775807:=by have:=HD.o;omega
    have x0:=zz (show(k.tdiv 1000000000).natAbs<k.natAbs by have:=HD.o;omega);rcases hv'.form with ⟨_,he⟩ | ⟨g,cap,rfl,_⟩
    ·simp[ni] at he
    clear hown' hgrow hne hblk hown hv' hrow ho hsz hbw L0 hdlt;go_wp2;go_roundw
    case rel=>exact⟨k.tdiv 1000000000,ds++[d],_,rfl,rfl,g0,j0,m0,w0,v0,M0,HV,u0,c0⟩
    case measure=>simp only[intOf];exact x0.o
def OwnBV (w:World) (base:Nat) (v:Value) (l:List UInt8):Prop:=w.ownsRow base 5 1 v l.length (Lib.byteCells l)
def OwnB (w:World) (g:Nat) (l:List UInt8):Prop:=∃ tail:List Value,w.heap[g]?=some (.cells (Lib.byteCells l++tail).toArray 5 (0,0))
section
variable {w w':World} {base g:Nat} {v:Value} {l:List UInt8}
theorem OwnB.lt (h:OwnB w g l):g<w.heap.size:=by
 obtain⟨tail,h⟩:=h;rcases aFk g w.heap.size with hlt | hge
 ·exact hlt
 ·rw[aHj hge] at h;cases h
theorem XG (l:List UInt8) (j:Nat) (hj:j<l.length):(Lib.byteCells l)[j]?=some (.int .u8 (l[j].toNat:Int)):=by
 simp[Lib.byteCells,hj]
theorem OwnB.cell (h:OwnB w g l) (j:Nat) (hj:j<l.length):w.cell? ⟨g,j,none⟩=some (.int .u8 (l[j].toNat:Int)):=by
 obtain⟨tail,h⟩:=h;have h2:(Lib.byteCells l++tail)[j]?=some (.int .u8 (l[j].toNat:Int)):=by
  rw[aGv (by rw[Lib.byteCells_length];exact hj),XG l j hj]
 simp only[World.cell?,h]
 simpa using h2
theorem OwnB.frozen (h:OwnB w g l) (j:Nat):w.frozen? ⟨g,j,none⟩=false:=by
 obtain⟨tail,h⟩:=h;simp[World.frozen?,h]
theorem OwnB.of_block (h:OwnB w g l) (hb:w'.heap[g]?=w.heap[g]?):OwnB w' g l:=by
 obtain⟨tail,h⟩:=h;exact⟨tail,hb.trans h⟩
theorem OwnB.alloc (h:OwnB w g l) (o:Obj):OwnB (w.alloc o) g l:=h.of_block (aLy w o g h.lt)
theorem OwnB.step (h:OwnB w g l) (hb:Below w.heap.size w w'):OwnB w' g l:=h.of_block (hb.block g h.lt)
theorem OwnB.far (h:OwnB w g l) {p:Addr} (hp:g≠p.block) (u:Value):OwnB (w.setCell p u) g l:=h.of_block (aFr w p u g hp)
theorem OwnB.set (h:OwnB w g l) (j:Nat) (x:UInt8) (hj:j<l.length):OwnB (w.setCell ⟨g,j,none⟩ (.int .u8 (x.toNat:Int))) g (l.set j x):=by
 obtain⟨tail,h⟩:=h;refine⟨tail,?_⟩;have h2:(Lib.byteCells l++tail).set j (.int .u8 (x.toNat:Int))=Lib.byteCells (l.set j x)++tail:=by
  rw[List.set_append_left _ _ (by rw[Lib.byteCells_length];exact hj)];simp[Lib.byteCells,List.map_set]
 simp only[World.setCell,aKd,h,if_true,Option.map_some,aJa,h2]
 rfl
theorem OwnBV.form (h:OwnBV w base v l):(v=.slice none 0 0∧l=[])∨∃ g cap,v=.slice (some ⟨g,0,none⟩) l.length cap∧l.length≤cap∧cap≤9223372036854775807∧base≤g∧OwnB w g l:=by
 obtain⟨_,h | ⟨g,cap,cur,hv,hb,hh,hn,hc,hs,ht⟩⟩:=h
 ·exact .inl ⟨h.1,aGh h.2⟩
 ·refine .inr ⟨g,cap,hv,hn,hc,hb,cur.toList.drop l.length,?_⟩;rw[hh,← ht,aJi,aHw,Array.toArray_toList]
theorem OwnBV.alloc (h:OwnBV w base v l) (o:Obj):OwnBV (w.alloc o) base v l:=World.ownsRow.alloc h o
theorem OwnBV.step (h:OwnBV w base v l) (hb:Below w.heap.size w w'):OwnBV w' base v l:=by
 obtain⟨h1,h | ⟨g,cap,cur,hv,hg,hh,r⟩⟩:=h
 ·exact⟨h1,.inl h⟩
 ·refine⟨h1,.inr ⟨g,cap,cur,hv,hg,?_,r⟩⟩;rw[hb.block g (by
   rcases aFk g w.heap.size with hlt | hge
   ·exact hlt
   ·rw[aHj hge] at hh;cases hh)]
  exact hh
end
end Go.Proofs.YtencnahjgbdeoaaGreatDoor
