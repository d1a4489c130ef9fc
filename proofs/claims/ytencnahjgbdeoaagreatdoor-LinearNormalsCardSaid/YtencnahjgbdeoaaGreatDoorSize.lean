/- Texts put together. -/
import Derived.Test.YtencnahjgbdeoaaGreatDoorLow
import Derived.Deep.RegionWith
import Derived.Deep.LoopGhost
import Derived.BigRegion
import Derived.BigQuiet
import Derived.Deep.QuietTactic
namespace Go.Proofs.YtencnahjgbdeoaaGreatDoor
open Go Go.RowKit Dig
set_option maxRecDepth 100000
set_option maxHeartbeats 4000000
theorem YZ (w:World) (r:Nat):Own (w.alloc (.cells #[.int .i64 (r:Int)] 3)) w.heap.size (ni [r]):=⟨[],aJu w _⟩
theorem RX {w:World} {B:Nat}:RN w B (.slice none 0 0) (dig 0):=by rw[bF];exact RI.nil _ _
theorem MW (w:World) (va vb:Value) (a b:Nat) (ha:RN w w.heap.size va (dig a)) (hb:RN w w.heap.size vb (dig b)) (hlt:a<b) :
  CV 130 #[va,vb] w fun e w'=>∃ v v',e=.returned (.tuple #[v,v'])∧RN w' w'.heap.size v (dig (a / b))∧RN w' w'.heap.size v' (dig (a % b))∧NewC w.heap.size v:=by
 have HA:=zz ha;have HB:=zz hb;obtain⟨Bb,cb,rfl,hcb,hcb',hB⟩:=hb.cell;clear ha hb hB;go_enter Tryz.func130,Tryz.ntmps130
 go_wp2_with fail
 refine(oF _ _ _ a b HA.o HB.o).mono ?_;rintro e w1 ⟨a0,c,rfl,hc⟩;have hneg:c<0:=hc.1.2 hlt;have HC:=zz hc;clear hc;go_wp2;go_ret2;rw[aNa hlt,aLw hlt];exact⟨a0,_,_,rfl,RX,HA.o.step a0,NewC.nil _ _ _⟩
theorem XU (w:World) (va vb:Value) (a b:Nat) (ha:RN w w.heap.size va (dig a)) (hb:RN w w.heap.size vb (dig b)) (hge:b≤a) (h1:(dig b).length=1) (hl:(dig a).length≤3000000000) :
  CV 130 #[va,vb] w fun e w'=>∃ v v',e=.returned (.tuple #[v,v'])∧RN w' w'.heap.size v (dig (a / b))∧RN w' w'.heap.size v' (dig (a % b))∧NewC w.heap.size v:=by
 have b0:b<1000000000:=aU.1 (by omega:(dig b).length≤1);have f0:b≠0:=by rintro rfl;rw[bF] at h1;simp at h1
 have hdb:=ON b0 f0;have HA:=zz ha;have HB:=zz hb;rw[hdb] at hb;obtain⟨Bb,cb,rfl,hcb,hcb',hB⟩:=hb.cell;obtain⟨g,off,rfl,hg,hx⟩:=hB (by simp);have hx0:=hx 0 (by simp);simp only[aKx,aGd] at hx0
 clear ha hb hB hx hdb h1;go_enter Tryz.func130,Tryz.ntmps130
 go_wp2_with fail
 refine(oF _ _ _ a b HA.o HB.o).mono ?_;rintro e w1 ⟨a0,c,rfl,hc⟩;have hneg:0≤c:=by have:=hc.1;omega
 have hx1:=(a0.cell (p:=⟨g,off,none⟩) hg).trans hx0;clear hc hx0;go_wp2_with fail
 refine(FZ _ _ a b (HA.o.step a0) hl (by omega) (by omega)).mono ?_;rintro e w2 ⟨c0,v,rfl,hv,hnw⟩;have HV:=zz hv;have h0:=zz (hnw.weak a0.size);clear hv hnw;have hmod:a % b<1000000000:=aMq (aGp _ (by omega)) b0;generalize hr:a % b=r at *
 have HR:=zz hr;clear hr;go_wp2_with fail
 have hrn:=iC (r:=[r]) (YZ w2 r) 1 1 rfl (by omega) (by omega);have hbw:Below w.heap.size w (w2.alloc (.cells #[.int .i64 (r:Int)] 3)):=(a0.trans (c0.mono a0.size)).alloc (by have:=a0.size;have:=c0.size;omega) _;refine(lC _ _ [r] hrn (aJn hmod aIi)).mono ?_;rintro e w3 ⟨d0,v',rfl,hv'⟩;have e0:RN w3 w3.heap.size v (dig (a / b)):=(HV.o.step ((aDy _ _).alloc (aEa _) _)).step d0;have i0:=zz e0;have j0:=zz hv';clear e0 hv' hrn;go_wp2;go_ret2;refine⟨hbw.trans (d0.mono hbw.size),_,_,rfl,i0.o,?_,h0.o⟩;have:=j0.o;rw[HR.o]
 simpa[val] using this
theorem TW (w:World) (va vb:Value) (a b:Nat) (ha:RN w w.heap.size va (dig a)) (hb:RN w w.heap.size vb (dig b)) (hge:b≤a) (h1:2≤(dig b).length) (hl:(dig a).length≤300000000) :
  CV 130 #[va,vb] w fun e w'=>∃ v v',e=.returned (.tuple #[v,v'])∧RN w' w'.heap.size v (dig (a / b))∧RN w' w'.heap.size v' (dig (a % b))∧NewC w.heap.size v:=by
 have HA:=zz ha;have HB:=zz hb;obtain⟨A,ca,rfl,hca,hca',hA⟩:=ha.cell;obtain⟨Bb,cb,rfl,hcb,hcb',hB⟩:=hb.cell;obtain⟨g,off,rfl,hg,hx⟩:=hB (by omega);have hlab:(dig b).length≤(dig a).length:=aL hge;have hx0:=hx ((dig b).length-1) (by omega);obtain⟨bt,hbt1⟩:=ex ((dig b).getD ((dig b).length-1) 0);have hbt:bt<1000000000:=by rw[hbt1];exact(aH b).getD _
 rw[← bJ,← hbt1] at hx0;have R0:=zz hbt1;clear ha hb hB hx hA hbt1;have hmk:=oD ((dig a).length-(dig b).length+1) (by omega);rw[show(((dig a).length-(dig b).length+1:Nat):Int)=((dig a).length:Int)-((dig b).length:Int)+1 by omega] at hmk;go_enter Tryz.func130,Tryz.ntmps130
 go_wp2_with fail
 refine(oF _ _ _ a b HA.o HB.o).mono ?_;rintro e w1 ⟨b0,c,rfl,hc⟩;have hneg:0≤c:=by have:=hc.1;omega
 have hx1:=(b0.cell (p:=⟨g,off+((dig b).length-1),none⟩) hg).trans hx0;clear hc hx0;have hf:1000000000 / (bt+1)≤1000000000:=aIo _ _;have hfe:((1000000000:Int) / ((bt:Int)+1))=((1000000000 / (bt+1):Nat):Int):=by rw[Int.natCast_ediv];rfl
 have S0:=zz hfe;go_wp2;rw[S0.o];clear hfe;obtain⟨f,hfd⟩:=ex (1000000000 / (bt+1));rw[← hfd] at hf;rw[← hfd];have T0:=zz hfd;clear hfd;go_region_with (first
  | (go_at_call 146;((with_reducible refine(UP _ (Value.slice A (dig a).length ca) (dig a) f (by exact HA.o.step b0.drew) (aH a) hf (by omega)).mono ?_);rintro e w2 ⟨e0,gu,ru,rfl,hgu,hru,hsu,hvu,hou⟩))
  | (go_at_call 146;((with_reducible refine(UP _ (Value.slice (some ⟨g,off,none⟩) (dig b).length cb) (dig b) f (by exact(HB.o.step b0.drew).step e0) (aH b) hf (by omega)).mono ?_);rintro e w3 ⟨j0,gv,rv,rfl,hgv,hrv,hsv,hvv,hov⟩)))
 rw[aQ] at hvu hvv;generalize hn:(dig b).length=n at *
 generalize hla:(dig a).length=la at *
 have f0:b≠0:=by rintro rfl;rw[bF] at hn;simp at hn;omega
 have hfac:=ST hn.symm f0 R0.o T0.o;have hfp:0<f:=hfac.2.1;have hI0:=zz (DivInv.start hla.symm hn.symm hge f0 hfp hru hsu hvu);have hvt:=IY hrv hvv hfac.1;have t0:=zz hvt;have s0:=zz (show(rv.take n).length=n by simp;omega);have r0:=zz (hsv.take n);have HVTOP:=zz (IX hn.symm h1 f0 hfp s0.o r0.o hvt);have x0:=zz hfac.1;have HN:=zz hn;have i1:=zz hla;have v0:=zz hrv;have hguv:gu<gv:=by have:=hou.lt;omega
 have c0:Below w.heap.size w w3:=(b0.drew.trans (e0.mono b0.size)).trans (j0.mono (aEg b0.size e0.size));have hou3:=hou.step j0;have hg0:w.heap.size≤gu:=aEg b0.size hgu;clear hfac hvt hn hla hou b0 e0 j0 hru hsu hvu hsv hvv hrv hx1 hgu hgv;have hm1:(la:Int)-n+1≤3000000000:=by omega
 have hm0:1≤(la:Int)-n+1:=by omega
 go_wp2;have hq1:=nW w3 (la-n+1);have d0:Below w.heap.size w (w3.alloc (bC (la-n+1))):=c0.alloc (by have:=c0.size;omega) _;have hou4:=hou3.alloc (bC (la-n+1));have hov4:=hov.alloc (bC (la-n+1));have hgq:gv<w3.heap.size:=hov.lt;clear c0 hou3 hov;generalize hgqe:w3.heap.size=gq at *
 have hgq0:w.heap.size≤gq:=by omega
 generalize w3.alloc (bC (la-n+1))=w4 at *
 clear hgqe;go_loopw [12] (fun i wr=>∃ (m:Int) (L qs:List Nat),-1≤m∧m≤(la:Int)-n∧i=.int .i64 m∧Hi (DivInv (a*f) (b*f) la n (m+1).toNat L qs) ∧
   Below w.heap.size w wr∧Own wr gu (ni L)∧Own wr gv (ni rv)∧Own wr gq (List.replicate (m+1).toNat 0++ni qs)) (fun i _=>(intOf i+1).toNat)
 case atStart=>exact⟨(la:Int)-n,ru,[],by omega,by omega,by go_num,by rw[show((la:Int)-n+1).toNat=la+1-n by omega];exact hI0,d0,hou4,hov4,by rw[show((la:Int)-n+1).toNat=la-n+1 by omega];simpa[ni] using hq1⟩
 case round=>
  clear d0 hou4 hov4 hq1 hI0;obtain⟨m,L,qs,hm,hm',rfl,hI,hbw,hou,hov,hoq⟩:=hrel;have hguw:=hou.lt;have hgvw:=hov.lt;have hgqw:=hoq.lt;by_cases hj:0≤m
  ·obtain⟨j,rfl⟩:=aIp hj;rw[show((j:Int)+1).toNat=j+1 by omega] at hI hoq;have hjn:j+n≤la:=by omega
   have pl:=hI.o.place hlab x0.o;have plen:=pl.len;have pp:=pl.parts' h1 s0.o r0.o t0.o HVTOP.o;have hc0:=bT hou (j+n) (by rw[aC,hI.o.len];omega);have hc1:=bT hou (j+n-1) (by rw[aC,hI.o.len];omega);have hc2:=bT hou (j+n-2) (by rw[aC,hI.o.len];omega);rw[pl.at' (by omega)] at hc0;rw[show j+n-1=j+(n-1) by omega,pl.at' (by omega),← show j+n-1=j+(n-1) by omega] at hc1;rw[show j+n-2=j+(n-2) by omega,pl.at' (by omega),← show j+n-2=j+(n-2) by omega] at hc2;have hd1:=bT hov (n-1) (by rw[aC,v0.o];omega);have hd2:=bT hov (n-2) (by rw[aC,v0.o];omega);rw[gK,← oM (show n-1<n by omega)] at hd1;rw[gK,← oM (show n-2<n by omega)] at hd2;have PL:=zz pl;have hu0b:=pl.small.getD n;have hu1b:=pl.small.getD (n-1);have hv1p:=HVTOP.o;have hv1b:=r0.o.getD (n-1);clear pl plen;obtain⟨u0,hu0⟩:=ex (((L.drop j).take (n+1)).getD n 0);obtain⟨u1,hu1⟩:=ex (((L.drop j).take (n+1)).getD (n-1) 0);obtain⟨u2,hu2⟩:=ex (((L.drop j).take (n+1)).getD (n-2) 0);obtain⟨v1,g0⟩:=ex ((rv.take n).getD (n-1) 0);obtain⟨v2,i0⟩:=ex ((rv.take n).getD (n-2) 0);rw[← hu0,← hu1,← hu2,← g0,← i0] at pp;rw[← hu0] at hc0 hu0b;rw[← hu1] at hc1 hu1b;rw[← hu2] at hc2;rw[← g0] at hd1 hv1p hv1b;rw[← i0] at hd2;have U0:=zz hu2;have V0:=zz g0;have W0:=zz i0;clear hu0 hu1 hu2 g0 i0;have hu2b:=pp.u2;have hv2b:=pp.v2;have PP:=zz pp;clear pp;obtain⟨wo,hwo⟩:=ex wr;subst hwo
   go_wp2;go_step3
   go_wp2;go_quiet (fail)
   go_wp2;go_quiet (fail)
   go_wp2;go_step3
   go_wp2;have hcell:∀ wx:World,Own wx gu (ni L)→Own wx gv (ni rv)→wx.cell? ⟨gu,j+n-2,none⟩=some (.int .i64 (u2:Int))∧wx.cell? ⟨gv,n-1,none⟩=some (.int .i64 (v1:Int))∧wx.cell? ⟨gv,n-2,none⟩=some (.int .i64 (v2:Int)):=by
    intro wx ho1 ho2;refine⟨?_,?_,?_⟩
    ·rw[bT ho1 (j+n-2) (by rw[aC,hI.o.len];omega),show j+n-2=j+(n-2) by omega,PL.o.at' (by omega),← U0.o]
    ·rw[bT ho2 (n-1) (by rw[aC,v0.o];omega),gK,← oM (show n-1<n by omega),← V0.o]
    ·rw[bT ho2 (n-2) (by rw[aC,v0.o];omega),gK,← oM (show n-2<n by omega),← W0.o]
   have HCELL:=zz hcell;clear hcell;have K0:=zz (Guess.start PP.o);clear hc0 hc1 hc2 hd1 hd2;have HX:=zz (aEn hguv (aEn hgq (aEn hg0 (aEn hgq0 (aEn hfp (aEn hm' hlab))))));clear hmk hca hcb hm0 hm1 hlab hm hm' hg hgq hguv hg0 hgq0 hf hneg hbt hfp f0 hge hu0b hu1b;have L0:=zz (show((u0*1000000000+u1:Nat):Int)=(u0:Int)*1000000000+(u1:Int) by omega);go_loopw [14,15] (fun dv rv' wr=>∃ (d rest:Nat),dv=.int .i64 d∧rv'=.int .i64 rest∧rest<1000000000∧Hi (Guess u2 v1 v2 (u0*1000000000+u1) (val ((L.drop j).take (n+1)) / (b*f)) d rest) ∧
     Below w.heap.size w wr∧Own wr gu (ni L)∧Own wr gv (ni rv)∧Own wr gq (List.replicate (j+1) 0++ni qs)) (fun dv _ _=>(intOf dv).toNat)
   case atStart=>exact⟨(u0*1000000000+u1) / v1,(u0*1000000000+u1) % v1,by rw[Int.natCast_ediv,L0.o],by rw[Int.natCast_emod,L0.o],aMq (aGp _ hv1p) hv1b,K0,aS (aS hbw _) _,hou,hov,hoq⟩
   case round=>
    clear hbw hou hov hoq K0;obtain⟨d,rest,rfl,rfl,hrest,hG,hbw,hou,hov,hoq⟩:=hrel;have hguw:=hou.lt;have hgvw:=hov.lt;have hgqw:=hoq.lt;obtain⟨hc2,hd1,hd2⟩:=HCELL.o wr hou hov;have hdb:=hG.o.bound PP.o;have hdv:=WW hdb hv2b;have hdv0:=hdv.1;have hdv1:=hdv.2;clear hdv;by_cases t:1000000000≤d∨rest*1000000000+u2<d*v2
    ·obtain⟨hgd,hdp⟩:=hG.o.down PP.o t;obtain⟨e,rfl⟩:∃ e,d=e+1:=⟨d-1,by omega⟩;rw[aLa] at hgd;have w0:=zz hgd;have HT:=zz t;clear hgd hG t hdp;rw[aIe,aNq] at hdv0 hdv1;have hle1:(e:Int)+1<2000000000:=by omega
     have hle0:(0:Int)≤(e:Int)+1:=by omega
     clear hdb;by_cases t1:1000000000≤e+1
     ·have t1':(1000000000:Int)≤(e:Int)+1:=by omega
      clear hdv0 hdv1 t1;rw[show((e+1:Nat):Int)=(e:Int)+1 from aIe e 1];generalize hEe:(e:Int)+1=E at *
      have z0:=zz (show E-1=(e:Int) by omega);clear hEe;go_wp2;go_quiet (fail)
      rename_i nq
      have hbw':=aS hbw nq;have hou':Own (wr.drewN nq) gu (ni L):=hou;have hov':Own (wr.drewN nq) gv (ni rv):=hov;have hoq':Own (wr.drewN nq) gq (List.replicate (j+1) 0++ni qs):=hoq;clear hbw hou hov hoq hc2 hd1 hd2 hguw hgvw hgqw;generalize wr.drewN nq=wz at *
      clear wr;obtain⟨wr,hwr⟩:=ex wz;subst hwr;have hbw:=hbw';have hou:=hou';have hov:=hov';have hoq:=hoq';clear hbw' hou' hov' hoq';obtain⟨hc2,hd1,hd2⟩:=HCELL.o _ hou hov;clear hc2 hd2;have hr0:(0:Int)≤(rest:Int):=by omega
      have hr1:(rest:Int)<1000000000:=by omega
      have HR:=zz hrest;clear hrest;by_cases hbr:1000000000≤rest+v1
      ·obtain⟨hdl,hst⟩:=w0.o.broke PP.o hbr;have y0:=zz (w0.o.stop PP.o hdl hst);have D0:=zz w0.o.le;have hdl0:=zz hdl;have hbr':(1000000000:Int)≤(rest:Int)+(v1:Int):=by omega
       clear hdl;clear hst w0 hbr;generalize hri:(rest:Int)=ri at *
       clear hri;go_wp2_with fail
       rw[z0.o];have hdl:=hdl0.o;have hc2:=True.intro;have hd2:=True.intro;clear hc2 hd1 hd2;obtain⟨hguv,hgq,hg0,hgq0,hfp,hm',hlab⟩:=HX.o;have hou2:Own wr gu (ni (L.take j)++(ni ((L.drop j).take (n+1))++ni (L.drop (j+n+1)))):=by rw[← bH,← bH,← PL.o.eq];exact hou
       have hvx:YA wr wr.heap.size gu (.slice (some ⟨gv,0,none⟩) n (n+1)) (ni (rv.take n)):=nV hov (by omega) (by rw[v0.o];omega) (by omega) (by omega);have hlow:(e:Int)*(val (rv.take n):Int)≤(val ((L.drop j).take (n+1)):Int)+(bp n:Int):=by
        rw[t0.o,← aFp];have h1:=y0.o;have h2:=x0.o
        omega
       have A0:=zz hlow;clear hlow;rw[show j+n+1-j=n+1 by omega]
       with_reducible refine(vN _ gu j _ e n (ni (L.take j)) (ni (L.drop (j+n+1))) ((L.drop j).take (n+1)) (rv.take n) _ (by rw[aC];exact PL.o.pre) (by exact hou2) PL.o.len s0.o PL.o.small r0.o (by exact hvx) hdl (by omega) A0.o).mono ?_
       rintro e' w5 ⟨honly,R,hRl,hRs,hRo,(⟨rfl,hle,hval⟩ | ⟨rfl,hlt,hval⟩)⟩
       ·have honly':Only gu wr w5:=honly;have hbw5:Below w.heap.size w w5:=hbw.trans (honly'.below hg0 hbw.size);have hov5:=hov.only honly' (by omega);have hoq5:=hoq.only honly' (by omega);have hq1:=bT hoq5 j (by simp;omega);have hq2:bI (List.replicate (j+1) 0++ni qs) j=0:=by rw[dI (by simp)];exact eN _ _
        rw[hq2] at hq1;have hqf:=hoq5.frozen j;rw[t0.o] at hle hval;have B0:=zz (pX (by have:=(PP.o).v_pos;have:=(PP.o).m;omega) D0.o hle hval);have hgw5:=hoq5.lt;clear hle hval hq2 honly honly' hou2 hvx hou hov hoq hbw;go_wp2;rw[aLe];go_wp2;go_roundw
        case rel=>
         obtain⟨q1,q2⟩:=B0.o;have hV0:0<b*f:=by have:=(PP.o).v_pos;have:=(PP.o).m;omega
         have hnx:=hI.o.next PL.o hRl hRs hV0 q2 (hI.o.small.drop _);rw[← q1] at hnx;have hs:=hoq5.set j (e:Int) (by simp;omega);rw[kC] at hs;have a0:((j:Int)-1+1).toNat=j:=by omega
         refine⟨_,_,_,by omega,by omega,rfl,by rw[a0];exact zz hnx,hbw5.setCell hgq0 _,?_,hov5.far (by show gv≠gq;omega) _,by rw[a0];exact hs⟩;rw[bH,bH];exact hRo.far (by show gu≠gq;omega) _
        case measure=>simp[intOf]
       ·have honly':Only gu wr w5:=honly;have hbw5:Below w.heap.size w w5:=hbw.trans (honly'.below hg0 hbw.size);have hov5:=hov.only honly' (by omega);have hoq5:=hoq.only honly' (by omega);have hvx5:YA w5 w5.heap.size gu (.slice (some ⟨gv,0,none⟩) n (n+1)) (ni (rv.take n)):=nV hov5 (by omega) (by rw[v0.o];omega) (by omega) (by omega);have hd0:0<e:=by
         apply aFy
         intro h0;rw[h0,aLf] at hlt
         omega
        obtain⟨d',hd'⟩:∃ d',e=d'+1:=⟨e-1,by omega⟩;have E0:=zz hlt;have C0:=zz hval;clear hlt hval honly hou2 hvx hou hov hoq hbw hd0;have HD':=zz (show(e:Int)-1=(d':Int) by omega);have hdl':d'<1000000000:=by omega
        clear hd';go_wp2_with fail
        rw[show j+n+1-j=n+1 by omega]
        with_reducible refine(vK _ gu j _ n (ni (L.take j)) (ni (L.drop (j+n+1))) R (rv.take n) _ (by rw[aC];exact PL.o.pre) (by exact hRo) hRl s0.o hRs r0.o (by exact hvx5) (by omega)).mono ?_
        rintro e'' w6 ⟨rfl,honly2,R2,hR2l,hR2s,hR2o,q,hq⟩;have hbw6:Below w.heap.size w w6:=hbw5.trans (honly2.below hg0 hbw5.size);have hov6:=hov5.only honly2 (by omega);have hoq6:=hoq5.only honly2 (by omega);have hq1:=bT hoq6 j (by simp;omega);have hq2:bI (List.replicate (j+1) 0++ni qs) j=0:=by rw[dI (by simp)];exact eN _ _
        rw[hq2] at hq1;have hqf:=hoq6.frozen j;have HQ:=zz hq;have hgw6:=hoq6.lt;clear hq hq2 honly' hvx5 hov5 hoq5 hbw5 honly2 hRo;go_wp2;rw[aLe];go_wp2;go_roundw
        case rel=>
         have hV0:0<b*f:=by have:=(PP.o).v_pos;have:=(PP.o).m;omega
         have h1:=E0.o;have h2:=C0.o;have h3:=HQ.o;rw[t0.o] at h1 h2 h3;have F0:b*f<bp (n+1):=aMq x0.o (NC (by omega));have G0:val R2<bp (n+1):=by have:=eU hR2s;rwa [hR2l] at this
         obtain⟨q1,q2⟩:=pW hV0 y0.o h1 h2 h3 F0 G0;have hnx:=hI.o.next PL.o hR2l hR2s hV0 q2 (hI.o.small.drop _);rw[← q1] at hnx;have e9:e-1=d':=by have:=HD'.o;omega
         rw[e9] at hnx;have hs:=hoq6.set j (d':Int) (by simp;omega);rw[kC,← HD'.o] at hs;have a0:((j:Int)-1+1).toNat=j:=by omega
         refine⟨_,_,_,by omega,by omega,rfl,by rw[a0];exact zz hnx,hbw6.setCell hgq0 _,?_,hov6.far (by show gv≠gq;omega) _,by rw[a0];exact hs⟩;rw[bH,bH];exact hR2o.far (by show gu≠gq;omega) _
        case measure=>simp[intOf]
      ·have hbr':(rest:Int)+(v1:Int)<1000000000:=by omega
       have I0:=zz hbr;clear hbr;generalize hri:(rest:Int)=ri at *
       have J0:=zz hri;clear hri;go_wp2;go_roundw
       case rel=>exact⟨e,rest+v1,by rw[z0.o],by rw[← J0.o];go_num,by have:=I0.o;omega,w0,hbw,hou,hov,hoq⟩
       case measure=>simp[intOf];have:=z0.o;omega
     ·have t1':(e:Int)+1<1000000000:=by omega
      have hdec:decide ((1000000000:Int)≤(e:Int)+1)=false:=by simp;omega
      have ht2:(rest:Int)*1000000000+(u2:Int)<((e:Int)+1)*(v2:Int):=by
       have:=HT.o;rcases this with h | h
       ·omega
       ·have h2:((rest*1000000000+u2:Nat):Int)<(((e+1)*v2:Nat):Int):=by omega
        rw[aFp,aIe e 1,aNq] at h2
        omega
      clear t1;rw[show((e+1:Nat):Int)=(e:Int)+1 from aIe e 1];generalize hEe:(e:Int)+1=E at *
      have z0:=zz (show E-1=(e:Int) by omega);clear hEe;go_wp2;go_quiet (fail)
      rename_i nq
      have hbw':=aS hbw nq;have hou':Own (wr.drewN nq) gu (ni L):=hou;have hov':Own (wr.drewN nq) gv (ni rv):=hov;have hoq':Own (wr.drewN nq) gq (List.replicate (j+1) 0++ni qs):=hoq;clear hbw hou hov hoq hc2 hd1 hd2 hguw hgvw hgqw;generalize wr.drewN nq=wz at *
      clear wr;obtain⟨wr,hwr⟩:=ex wz;subst hwr;have hbw:=hbw';have hou:=hou';have hov:=hov';have hoq:=hoq';clear hbw' hou' hov' hoq';obtain⟨hc2,hd1,hd2⟩:=HCELL.o _ hou hov;clear hc2 hd2;have hr0:(0:Int)≤(rest:Int):=by omega
      have hr1:(rest:Int)<1000000000:=by omega
      have HR:=zz hrest;clear hrest;by_cases hbr:1000000000≤rest+v1
      ·obtain⟨hdl,hst⟩:=w0.o.broke PP.o hbr;have y0:=zz (w0.o.stop PP.o hdl hst);have D0:=zz w0.o.le;have hdl0:=zz hdl;have hbr':(1000000000:Int)≤(rest:Int)+(v1:Int):=by omega
       clear hdl;clear hst w0 hbr;generalize hri:(rest:Int)=ri at *
       clear hri;go_wp2_with fail
       rw[z0.o];have hdl:=hdl0.o;have hc2:=True.intro;have hd2:=True.intro;clear hc2 hd1 hd2;obtain⟨hguv,hgq,hg0,hgq0,hfp,hm',hlab⟩:=HX.o;have hou2:Own wr gu (ni (L.take j)++(ni ((L.drop j).take (n+1))++ni (L.drop (j+n+1)))):=by rw[← bH,← bH,← PL.o.eq];exact hou
       have hvx:YA wr wr.heap.size gu (.slice (some ⟨gv,0,none⟩) n (n+1)) (ni (rv.take n)):=nV hov (by omega) (by rw[v0.o];omega) (by omega) (by omega);have hlow:(e:Int)*(val (rv.take n):Int)≤(val ((L.drop j).take (n+1)):Int)+(bp n:Int):=by
        rw[t0.o,← aFp];have h1:=y0.o;have h2:=x0.o
        omega
       have A0:=zz hlow;clear hlow;rw[show j+n+1-j=n+1 by omega]
       with_reducible refine(vN _ gu j _ e n (ni (L.take j)) (ni (L.drop (j+n+1))) ((L.drop j).take (n+1)) (rv.take n) _ (by rw[aC];exact PL.o.pre) (by exact hou2) PL.o.len s0.o PL.o.small r0.o (by exact hvx) hdl (by omega) A0.o).mono ?_
       rintro e' w5 ⟨honly,R,hRl,hRs,hRo,(⟨rfl,hle,hval⟩ | ⟨rfl,hlt,hval⟩)⟩
       ·have honly':Only gu wr w5:=honly;have hbw5:Below w.heap.size w w5:=hbw.trans (honly'.below hg0 hbw.size);have hov5:=hov.only honly' (by omega);have hoq5:=hoq.only honly' (by omega);have hq1:=bT hoq5 j (by simp;omega);have hq2:bI (List.replicate (j+1) 0++ni qs) j=0:=by rw[dI (by simp)];exact eN _ _
        rw[hq2] at hq1;have hqf:=hoq5.frozen j;rw[t0.o] at hle hval;have B0:=zz (pX (by have:=(PP.o).v_pos;have:=(PP.o).m;omega) D0.o hle hval);have hgw5:=hoq5.lt;clear hle hval hq2 honly honly' hou2 hvx hou hov hoq hbw;go_wp2;rw[aLe];go_wp2;go_roundw
        case rel=>
         obtain⟨q1,q2⟩:=B0.o;have hV0:0<b*f:=by have:=(PP.o).v_pos;have:=(PP.o).m;omega
         have hnx:=hI.o.next PL.o hRl hRs hV0 q2 (hI.o.small.drop _);rw[← q1] at hnx;have hs:=hoq5.set j (e:Int) (by simp;omega);rw[kC] at hs;have a0:((j:Int)-1+1).toNat=j:=by omega
         refine⟨_,_,_,by omega,by omega,rfl,by rw[a0];exact zz hnx,hbw5.setCell hgq0 _,?_,hov5.far (by show gv≠gq;omega) _,by rw[a0];exact hs⟩;rw[bH,bH];exact hRo.far (by show gu≠gq;omega) _
        case measure=>simp[intOf]
       ·have honly':Only gu wr w5:=honly;have hbw5:Below w.heap.size w w5:=hbw.trans (honly'.below hg0 hbw.size);have hov5:=hov.only honly' (by omega);have hoq5:=hoq.only honly' (by omega);have hvx5:YA w5 w5.heap.size gu (.slice (some ⟨gv,0,none⟩) n (n+1)) (ni (rv.take n)):=nV hov5 (by omega) (by rw[v0.o];omega) (by omega) (by omega);have hd0:0<e:=by
         apply aFy
         intro h0;rw[h0,aLf] at hlt
         omega
        obtain⟨d',hd'⟩:∃ d',e=d'+1:=⟨e-1,by omega⟩;have E0:=zz hlt;have C0:=zz hval;clear hlt hval honly hou2 hvx hou hov hoq hbw hd0;have HD':=zz (show(e:Int)-1=(d':Int) by omega);have hdl':d'<1000000000:=by omega
        clear hd';go_wp2_with fail
        rw[show j+n+1-j=n+1 by omega]
        with_reducible refine(vK _ gu j _ n (ni (L.take j)) (ni (L.drop (j+n+1))) R (rv.take n) _ (by rw[aC];exact PL.o.pre) (by exact hRo) hRl s0.o hRs r0.o (by exact hvx5) (by omega)).mono ?_
        rintro e'' w6 ⟨rfl,honly2,R2,hR2l,hR2s,hR2o,q,hq⟩;have hbw6:Below w.heap.size w w6:=hbw5.trans (honly2.below hg0 hbw5.size);have hov6:=hov5.only honly2 (by omega);have hoq6:=hoq5.only honly2 (by omega);have hq1:=bT hoq6 j (by simp;omega);have hq2:bI (List.replicate (j+1) 0++ni qs) j=0:=by rw[dI (by simp)];exact eN _ _
        rw[hq2] at hq1;have hqf:=hoq6.frozen j;have HQ:=zz hq;have hgw6:=hoq6.lt;clear hq hq2 honly' hvx5 hov5 hoq5 hbw5 honly2 hRo;go_wp2;rw[aLe];go_wp2;go_roundw
        case rel=>
         have hV0:0<b*f:=by have:=(PP.o).v_pos;have:=(PP.o).m;omega
         have h1:=E0.o;have h2:=C0.o;have h3:=HQ.o;rw[t0.o] at h1 h2 h3;have F0:b*f<bp (n+1):=aMq x0.o (NC (by omega));have G0:val R2<bp (n+1):=by have:=eU hR2s;rwa [hR2l] at this
         obtain⟨q1,q2⟩:=pW hV0 y0.o h1 h2 h3 F0 G0;have hnx:=hI.o.next PL.o hR2l hR2s hV0 q2 (hI.o.small.drop _);rw[← q1] at hnx;have e9:e-1=d':=by have:=HD'.o;omega
         rw[e9] at hnx;have hs:=hoq6.set j (d':Int) (by simp;omega);rw[kC,← HD'.o] at hs;have a0:((j:Int)-1+1).toNat=j:=by omega
         refine⟨_,_,_,by omega,by omega,rfl,by rw[a0];exact zz hnx,hbw6.setCell hgq0 _,?_,hov6.far (by show gv≠gq;omega) _,by rw[a0];exact hs⟩;rw[bH,bH];exact hR2o.far (by show gu≠gq;omega) _
        case measure=>simp[intOf]
      ·have hbr':(rest:Int)+(v1:Int)<1000000000:=by omega
       have I0:=zz hbr;clear hbr;generalize hri:(rest:Int)=ri at *
       have J0:=zz hri;clear hri;go_wp2;go_roundw
       case rel=>exact⟨e,rest+v1,by rw[z0.o],by rw[← J0.o];go_num,by have:=I0.o;omega,w0,hbw,hou,hov,hoq⟩
       case measure=>simp[intOf];have:=z0.o;omega
    ·have hdl:d<1000000000:=by omega
     have hst:d*v2≤rest*1000000000+u2:=by omega
     have y0:=zz (hG.o.stop PP.o hdl hst);have D0:=zz hG.o.le;have ht2:(d:Int)*(v2:Int)≤(rest:Int)*1000000000+(u2:Int):=by
      have h2:((d*v2:Nat):Int)≤((rest*1000000000+u2:Nat):Int):=by omega
      rw[aFp] at h2
      omega
     have t1':(d:Int)<1000000000:=by omega
     have hdec:decide ((1000000000:Int)≤(d:Int))=false:=by simp;omega
     clear hst hG t hdb;generalize hDd:(d:Int)=D at *
     have X0:=zz hDd;clear hDd;have hdl0:=zz hdl;clear hdl;go_wp2;go_quiet (fail)
     rename_i nq
     have hbw':=aS hbw nq;have hou':Own (wr.drewN nq) gu (ni L):=hou;have hov':Own (wr.drewN nq) gv (ni rv):=hov;have hoq':Own (wr.drewN nq) gq (List.replicate (j+1) 0++ni qs):=hoq;clear hbw hou hov hoq hc2 hd1 hd2 hguw hgvw hgqw hdv0 hdv1;generalize wr.drewN nq=wz at *
     clear wr;obtain⟨wr,hwr⟩:=ex wz;subst hwr;have hbw:=hbw';have hou:=hou';have hov:=hov';have hoq:=hoq';clear hbw' hou' hov' hoq';obtain⟨hc2,hd1,hd2⟩:=HCELL.o _ hou hov;go_wp2_with fail
     rw[← X0.o];have hdl:=hdl0.o;clear hc2 hd1 hd2;obtain⟨hguv,hgq,hg0,hgq0,hfp,hm',hlab⟩:=HX.o;have hou2:Own wr gu (ni (L.take j)++(ni ((L.drop j).take (n+1))++ni (L.drop (j+n+1)))):=by rw[← bH,← bH,← PL.o.eq];exact hou
     have hvx:YA wr wr.heap.size gu (.slice (some ⟨gv,0,none⟩) n (n+1)) (ni (rv.take n)):=nV hov (by omega) (by rw[v0.o];omega) (by omega) (by omega);have hlow:(d:Int)*(val (rv.take n):Int)≤(val ((L.drop j).take (n+1)):Int)+(bp n:Int):=by
      rw[t0.o,← aFp];have h1:=y0.o;have h2:=x0.o
      omega
     have A0:=zz hlow;clear hlow;rw[show j+n+1-j=n+1 by omega]
     with_reducible refine(vN _ gu j _ d n (ni (L.take j)) (ni (L.drop (j+n+1))) ((L.drop j).take (n+1)) (rv.take n) _ (by rw[aC];exact PL.o.pre) (by exact hou2) PL.o.len s0.o PL.o.small r0.o (by exact hvx) hdl (by omega) A0.o).mono ?_
     rintro e' w5 ⟨honly,R,hRl,hRs,hRo,(⟨rfl,hle,hval⟩ | ⟨rfl,hlt,hval⟩)⟩
     ·have honly':Only gu wr w5:=honly;have hbw5:Below w.heap.size w w5:=hbw.trans (honly'.below hg0 hbw.size);have hov5:=hov.only honly' (by omega);have hoq5:=hoq.only honly' (by omega);have hq1:=bT hoq5 j (by simp;omega);have hq2:bI (List.replicate (j+1) 0++ni qs) j=0:=by rw[dI (by simp)];exact eN _ _
      rw[hq2] at hq1;have hqf:=hoq5.frozen j;rw[t0.o] at hle hval;have B0:=zz (pX (by have:=(PP.o).v_pos;have:=(PP.o).m;omega) D0.o hle hval);have hgw5:=hoq5.lt;clear hle hval hq2 honly honly' hou2 hvx hou hov hoq hbw;go_wp2;rw[aLe];go_wp2;go_roundw
      case rel=>
       obtain⟨q1,q2⟩:=B0.o;have hV0:0<b*f:=by have:=(PP.o).v_pos;have:=(PP.o).m;omega
       have hnx:=hI.o.next PL.o hRl hRs hV0 q2 (hI.o.small.drop _);rw[← q1] at hnx;have hs:=hoq5.set j (d:Int) (by simp;omega);rw[kC] at hs;have a0:((j:Int)-1+1).toNat=j:=by omega
       refine⟨_,_,_,by omega,by omega,rfl,by rw[a0];exact zz hnx,hbw5.setCell hgq0 _,?_,hov5.far (by show gv≠gq;omega) _,by rw[a0];exact hs⟩;rw[bH,bH];exact hRo.far (by show gu≠gq;omega) _
      case measure=>simp[intOf]
     ·have honly':Only gu wr w5:=honly;have hbw5:Below w.heap.size w w5:=hbw.trans (honly'.below hg0 hbw.size);have hov5:=hov.only honly' (by omega);have hoq5:=hoq.only honly' (by omega);have hvx5:YA w5 w5.heap.size gu (.slice (some ⟨gv,0,none⟩) n (n+1)) (ni (rv.take n)):=nV hov5 (by omega) (by rw[v0.o];omega) (by omega) (by omega);have hd0:0<d:=by
       apply aFy
       intro h0;rw[h0,aLf] at hlt
       omega
      obtain⟨d',hd'⟩:∃ d',d=d'+1:=⟨d-1,by omega⟩;have E0:=zz hlt;have C0:=zz hval;clear hlt hval honly hou2 hvx hou hov hoq hbw hd0;have HD':=zz (show(d:Int)-1=(d':Int) by omega);have hdl':d'<1000000000:=by omega
      clear hd';go_wp2_with fail
      rw[show j+n+1-j=n+1 by omega]
      with_reducible refine(vK _ gu j _ n (ni (L.take j)) (ni (L.drop (j+n+1))) R (rv.take n) _ (by rw[aC];exact PL.o.pre) (by exact hRo) hRl s0.o hRs r0.o (by exact hvx5) (by omega)).mono ?_
      rintro e'' w6 ⟨rfl,honly2,R2,hR2l,hR2s,hR2o,q,hq⟩;have hbw6:Below w.heap.size w w6:=hbw5.trans (honly2.below hg0 hbw5.size);have hov6:=hov5.only honly2 (by omega);have hoq6:=hoq5.only honly2 (by omega);have hq1:=bT hoq6 j (by simp;omega);have hq2:bI (List.replicate (j+1) 0++ni qs) j=0:=by rw[dI (by simp)];exact eN _ _
      rw[hq2] at hq1;have hqf:=hoq6.frozen j;have HQ:=zz hq;have hgw6:=hoq6.lt;clear hq hq2 honly' hvx5 hov5 hoq5 hbw5 honly2 hRo;go_wp2;rw[aLe];go_wp2;go_roundw
      case rel=>
       have hV0:0<b*f:=by have:=(PP.o).v_pos;have:=(PP.o).m;omega
       have h1:=E0.o;have h2:=C0.o;have h3:=HQ.o;rw[t0.o] at h1 h2 h3;have F0:b*f<bp (n+1):=aMq x0.o (NC (by omega));have G0:val R2<bp (n+1):=by have:=eU hR2s;rwa [hR2l] at this
       obtain⟨q1,q2⟩:=pW hV0 y0.o h1 h2 h3 F0 G0;have hnx:=hI.o.next PL.o hR2l hR2s hV0 q2 (hI.o.small.drop _);rw[← q1] at hnx;have e9:d-1=d':=by have:=HD'.o;omega
       rw[e9] at hnx;have hs:=hoq6.set j (d':Int) (by simp;omega);rw[kC,← HD'.o] at hs;have a0:((j:Int)-1+1).toNat=j:=by omega
       refine⟨_,_,_,by omega,by omega,rfl,by rw[a0];exact zz hnx,hbw6.setCell hgq0 _,?_,hov6.far (by show gv≠gq;omega) _,by rw[a0];exact hs⟩;rw[bH,bH];exact hR2o.far (by show gu≠gq;omega) _
      case measure=>simp[intOf]
  ·obtain rfl:m=-1:=by omega
   rw[show((-1:Int)+1).toNat=0 by rfl] at hI hoq;rw[List.replicate_zero,aNn] at hoq;have hfin:=hI.o.fin hfp;have hq1:=hI.o.qlen;have hlt:val L<bp n:=aMq (by have:=hI.o.high;rwa [aKf] at this) x0.o;have hru:=IM (n:=n) (c:=la+1) hou (by rw[hI.o.len];omega) (by omega) (by omega);have hsL:=hI.o.small.take n;have htv:val (L.take n)=a % b*f:=by rw[UV (by rw[hI.o.len];omega) hlt];exact hfin.2
   have hqs:=hI.o.qsmall;have N0:=zz hfin.1;have Y0:=zz htv;have Z0:=zz (show qs.length=la-n+1 by omega);have hlen5:(dig (a % b*f)).length≤3000000000:=aU.2 (aMq (by rw[← htv];exact aKz (tO _ _) hlt) (NC (by omega)));have a1:=zz hlen5;clear hfin htv hlen5 hq1 hlt hI;go_wp2_with fail
   refine(lC _ _ (L.take n) hru hsL).mono ?_;rintro e5 w5 ⟨c0,v5,rfl,k0⟩;rw[Y0.o] at k0;have hoq5:=hoq.step c0;clear hru hsL;go_wp2_with fail
   refine(XT _ _ (a % b*f) f k0 a1.o hfp hf).mono ?_;rintro e6 w6 ⟨d0,v6,rfl,l0⟩;rw[Nat.mul_div_cancel _ hfp] at l0;have hoq6:=hoq5.step d0;have hqn:=iC hoq6 (la-n+1) (la-n+1) Z0.o.symm (aEa _) (by omega);have b1:=zz l0;clear k0 l0 hoq5;go_wp2_with fail
   refine(rL _ _ qs hqn hqs).mono ?_;rintro e7 w7 ⟨o0,v7,rfl,m0,hnw7⟩;have c1:=zz (hnw7 _ (NewC.at hgq0));clear hnw7;rw[N0.o] at m0;have n0:=b1.o.step o0;have hbz:Below w.heap.size w w7:=((hbw.trans (c0.mono hbw.size)).trans (d0.mono (aEg hbw.size c0.size))).trans (o0.mono (aEg hbw.size (aEg c0.size d0.size)));have O0:=zz n0;have d1:=zz m0;have e1:=zz hbz;clear n0 m0 hbz;go_wp2
   try rw[aIq]
   go_ret2;exact⟨e1.o,_,_,rfl,d1.o,O0.o,c1.o⟩
theorem GE (w:World) (va vb:Value) (a b:Nat) (ha:RN w w.heap.size va (dig a)) (hb:RN w w.heap.size vb (dig b)) (a0:b≠0) (hl:(dig a).length≤300000000) :
  CV 130 #[va,vb] w fun e w'=>∃ v v',e=.returned (.tuple #[v,v'])∧RN w' w'.heap.size v (dig (a / b))∧RN w' w'.heap.size v' (dig (a % b))∧NewC w.heap.size v:=by
 by_cases hlt:a<b
 ·exact MW w va vb a b ha hb hlt
 ·have h0:=bX a0;by_cases h1:(dig b).length=1
  ·exact XU w va vb a b ha hb (by omega) h1 (by omega)
  ·exact TW w va vb a b ha hb (by omega) (by omega) hl
theorem XV (w:World) (va vb:Value) (a b:Nat) (ha:RN w w.heap.size va (dig a)) (hb:RN w w.heap.size vb (dig b)) (hb0:b≠0) (hl:(dig a).length≤300000000) :
  CV 130 #[va,vb] w fun e w'=>∃ v v',e=.returned (.tuple #[v,v'])∧RN w' w'.heap.size v (dig (a / b))∧RN w' w'.heap.size v' (dig (a % b)):=
 (GE w va vb a b ha hb hb0 hl).mono fun _ _ ⟨hb,v,v',he,hv,hv',_⟩=>⟨hb,v,v',he,hv,hv'⟩
theorem XS (w:World) (va vb:Value) (a b:Nat) (ha:RN w w.heap.size va (dig a)) (hb:RN w w.heap.size vb (dig b)) (hl:(dig a).length≤3000000000) (hl':(dig b).length≤3000000000) :
  CV 134 #[va,vb] w fun e w'=>∃ v,e=.returned v∧RN w' w'.heap.size v (dig (a+b)):=by
 obtain⟨A,ca,rfl,hca,hca',hA⟩:=ha.cell;obtain⟨Bb,cb,rfl,hcb,hcb',hB⟩:=hb.cell;replace hA:=zz hA;replace hB:=zz hB;clear ha hb;by_cases hlt:(dig a).length<(dig b).length
 ·have hge:(dig a).length≤(dig b).length:=by omega
  have hmk:=oD ((dig b).length+1) (by omega);simp only[aIe,aNq] at hmk
  have hsc:((List.replicate ((dig b).length+1) (0:Int)).map (Value.int .i64)).length=(dig b).length+1:=by simp
  have hsx:((ni (dig b)).map (Value.int .i64)).length=(dig b).length:=by simp[ni]
  have hown:Hi ((w.alloc (bC ((dig b).length+1))).heap[w.heap.size]?=some (.cells ((List.replicate ((dig b).length+1) (0:Int)).map (Value.int .i64)).toArray 3 (0,0))):=zz (aJu w _);have a0:Below w.heap.size w (w.alloc (bC ((dig b).length+1))):=(aDy _ _).alloc (aEa _) _;obtain⟨cur,hcur⟩:=ex ((List.replicate ((dig b).length+1) (0:Int)).map (Value.int .i64));obtain⟨cs,hcs⟩:=ex ((ni (dig b)).map (Value.int .i64));rw[← hcur] at hown hsc;rw[← hcs] at hsx;have h0:=zz hcur;have d0:=zz hcs;clear hcur hcs;have i0:=zz hsc;have e0:=zz hsx;clear hsc hsx;go_enter Tryz.func134,Tryz.ntmps134
  go_wp2_with (with_reducible refine wpList_copy_splice rfl (.tmp 20) (.tmp 21) 84 84 rfl 3 Tryz.underlying84 (by kernel_rfl) (some ⟨w.heap.size,0,none⟩) Bb ((dig b).length+1) ((dig b).length+1) (dig b).length cb rfl rfl w.heap.size 0 cur 3 hown.o cs ?c1 ?c2 ?c3 ?c4 w.heap.size w a0 (aEa _) ?_)
  case c1=>rw[e0.o];exact(aFw (by omega)).symm
  case c2=>
   intro hp;rw[e0.o] at hp;obtain⟨bk,off,rfl,hbk,hx⟩:=hB.o hp
   first | refine⟨rfl,_,rfl,fun j v hj=>?_⟩ | refine⟨_,rfl,fun j v hj=>?_⟩
   rw[d0.o] at hj;have hjl:j<(dig b).length:=by have:=(aGu.1 hj).1;simpa[ni] using this
   rw[Addr.add_lit,a0.cell (p:=⟨bk,off+j,none⟩) hbk,hx j hjl,← hj];simp[ni,hjl]
  case c3=>rw[e0.o,i0.o];omega
  case c4=>rw[d0.o];exact ints_oneCell _ _
  intro w1 hrow b0;have ho1:Own w1 w.heap.size (ni (dig b)++[0]):=by
   refine⟨[],?_⟩;have:=hrow.out;rw[h0.o,d0.o] at this;rw[this];simp[splice,ni,List.replicate_succ']
  clear hrow hown a0;have hA0:=zz (PlusA.start (y:=dig a) (aH b));generalize hg:w.heap.size=g at *
  go_wp2;go_loopw [25] (fun i wr=>∃ (k:Nat) (out:List Int),k≤(dig a).length∧i=.int .i64 k∧Hi (PlusA (dig b) (dig a) k out)∧Below g w wr∧Own wr g out) (fun i _=>(dig a).length-(intOf i).toNat)
  case atStart=>exact⟨0,_,by omega,rfl,hA0,b0,ho1⟩
  case round=>
   clear b0 ho1 hA0;obtain⟨k,out,hk,rfl,hP,hbw,ho⟩:=hrel;have hgw:g<wr.heap.size:=ho.lt;have hlen:=zz hP.o.len;by_cases hlk:k<(dig a).length
   ·obtain⟨bk,off,rfl,hbk,hx⟩:=hA.o (by omega);have h1:=(hbw.cell (p:=⟨bk,off+k,none⟩) hbk).trans (hx k (by omega));replace hx:=zz hx;have hyk:(dig a)[k]<1000000000:=aH a _ (aEc hlk);have h2:=bT ho k (by have:=hlen.o;omega);have h2l:=hP.o.lo k;have h2h:=hP.o.hi k;have hf:=ho.frozen k;have HO:=zz ho;clear ho;obtain⟨z,hz⟩:=ex (bI out k);rw[← hz] at h2 h2l h2h;have HZ:=zz hz;clear hz;go_wp2;go_roundw
    case rel=>
     have:=HO.o.set k (z+((dig a)[k]:Nat)) (by have:=hlen.o;omega);exact⟨k+1,_,by omega,by go_num,zz (hP.o.step (aH a) hlk hge),hbw.setCell (aEa _) _,by rw[← HZ.o];exact this⟩
    case measure=>exact ms
   ·obtain rfl:k=(dig a).length:=by omega
    have hB0:=zz (PlusB.start hP.o);clear hP;go_wp2;go_loopw [40] (fun i wr=>∃ (k:Nat) (out:List Int),k≤(dig b).length∧i=.int .i64 k∧Hi (PlusB (dig b) (dig a) k out)∧Below g w wr∧Own wr g out) (fun i _=>(dig b).length-(intOf i).toNat)
    case atStart=>exact⟨0,_,by omega,rfl,hB0,hbw,ho⟩
    case round=>
     clear hbw ho hB0 hlen hgw;obtain⟨k,out,hk,rfl,hP,hbw,ho⟩:=hrel;have hgw:g<wr.heap.size:=ho.lt;have hlen:=zz hP.o.len;by_cases hlk:k<(dig b).length
     ·have h2:=bT ho k (by have:=hlen.o;omega);have h3:=bT ho (k+1) (by have:=hlen.o;omega);have h2l:=hP.o.lo k;have h2h:=hP.o.here;have h3l:=hP.o.lo (k+1);have h3h:=hP.o.hi (k+1) (by omega);have hf:=ho.frozen k;have hf3:=ho.frozen (k+1);have HO:=zz ho;clear ho;obtain⟨z,hz⟩:=ex (bI out k);obtain⟨z',hz'⟩:∃ z,z=bI out (k+1):=⟨_,rfl⟩;rw[← hz] at h2 h2l h2h;rw[← hz'] at h3 h3l h3h;have HZ:=zz hz;have HZ':=zz hz';clear hz hz';by_cases hc:1000000000≤z
      ·go_wp2;go_roundw
       case rel=>
        have h4:=(HO.o.set k (z-1000000000) (by have:=hlen.o;omega)).set (k+1) (z'+1) (by have:=hlen.o;simp;omega);have h5:=hP.o.carry hlk (by rw[← HZ.o];exact hc);rw[← HZ.o,← HZ'.o] at h5;exact⟨k+1,_,by omega,by go_num,zz h5,(hbw.setCell (aEa _) _).setCell (aEa _) _,h4⟩
       case measure=>exact ms
      ·have hc':z<1000000000:=by omega
       go_wp2;go_roundw
       case rel=>exact⟨k+1,_,by omega,by go_num,zz (hP.o.keep hlk (by rw[← HZ.o];exact hc')),hbw,HO.o⟩
       case measure=>exact ms
     ·obtain rfl:k=(dig b).length:=by omega
      obtain⟨r,rfl,hrl,hrs,hrv⟩:=hP.o.fin;have hrn:=iC ho ((dig b).length+1) ((dig b).length+1) (by omega) (aEa _) (by omega);have j0:=zz hrv;clear hrv hlen hrl;go_wp2_with (go_at_call 136;refine(lC _ _ r hrn hrs).mono ?_;rintro e w2 ⟨c0,v',rfl,hv'⟩)
      go_ret;rw[j0.o,aQ,aQ,Nat.add_comm] at hv';exact⟨by rw[hg];exact hbw.trans (c0.mono (by omega)),_,rfl,hv'⟩
 ·have hge:(dig b).length≤(dig a).length:=by omega
  have hmk:=oD ((dig a).length+1) (by omega);simp only[aIe,aNq] at hmk
  have hsc:((List.replicate ((dig a).length+1) (0:Int)).map (Value.int .i64)).length=(dig a).length+1:=by simp
  have hsx:((ni (dig a)).map (Value.int .i64)).length=(dig a).length:=by simp[ni]
  have hown:Hi ((w.alloc (bC ((dig a).length+1))).heap[w.heap.size]?=some (.cells ((List.replicate ((dig a).length+1) (0:Int)).map (Value.int .i64)).toArray 3 (0,0))):=zz (aJu w _);have a0:Below w.heap.size w (w.alloc (bC ((dig a).length+1))):=(aDy _ _).alloc (aEa _) _;obtain⟨cur,hcur⟩:=ex ((List.replicate ((dig a).length+1) (0:Int)).map (Value.int .i64));obtain⟨cs,hcs⟩:=ex ((ni (dig a)).map (Value.int .i64));rw[← hcur] at hown hsc;rw[← hcs] at hsx;have h0:=zz hcur;have d0:=zz hcs;clear hcur hcs;have i0:=zz hsc;have e0:=zz hsx;clear hsc hsx;go_enter Tryz.func134,Tryz.ntmps134
  go_wp2_with (with_reducible refine wpList_copy_splice rfl (.tmp 20) (.tmp 21) 84 84 rfl 3 Tryz.underlying84 (by kernel_rfl) (some ⟨w.heap.size,0,none⟩) A ((dig a).length+1) ((dig a).length+1) (dig a).length ca rfl rfl w.heap.size 0 cur 3 hown.o cs ?c1 ?c2 ?c3 ?c4 w.heap.size w a0 (aEa _) ?_)
  case c1=>rw[e0.o];exact(aFw (by omega)).symm
  case c2=>
   intro hp;rw[e0.o] at hp;obtain⟨bk,off,rfl,hbk,hx⟩:=hA.o hp
   first | refine⟨rfl,_,rfl,fun j v hj=>?_⟩ | refine⟨_,rfl,fun j v hj=>?_⟩
   rw[d0.o] at hj;have hjl:j<(dig a).length:=by have:=(aGu.1 hj).1;simpa[ni] using this
   rw[Addr.add_lit,a0.cell (p:=⟨bk,off+j,none⟩) hbk,hx j hjl,← hj];simp[ni,hjl]
  case c3=>rw[e0.o,i0.o];omega
  case c4=>rw[d0.o];exact ints_oneCell _ _
  intro w1 hrow b0;have ho1:Own w1 w.heap.size (ni (dig a)++[0]):=by
   refine⟨[],?_⟩;have:=hrow.out;rw[h0.o,d0.o] at this;rw[this];simp[splice,ni,List.replicate_succ']
  clear hrow hown a0;have hA0:=zz (PlusA.start (y:=dig b) (aH a));generalize hg:w.heap.size=g at *
  go_wp2;go_loopw [25] (fun i wr=>∃ (k:Nat) (out:List Int),k≤(dig b).length∧i=.int .i64 k∧Hi (PlusA (dig a) (dig b) k out)∧Below g w wr∧Own wr g out) (fun i _=>(dig b).length-(intOf i).toNat)
  case atStart=>exact⟨0,_,by omega,rfl,hA0,b0,ho1⟩
  case round=>
   clear b0 ho1 hA0;obtain⟨k,out,hk,rfl,hP,hbw,ho⟩:=hrel;have hgw:g<wr.heap.size:=ho.lt;have hlen:=zz hP.o.len;by_cases hlk:k<(dig b).length
   ·obtain⟨bk,off,rfl,hbk,hx⟩:=hB.o (by omega);have h1:=(hbw.cell (p:=⟨bk,off+k,none⟩) hbk).trans (hx k (by omega));replace hx:=zz hx;have hyk:(dig b)[k]<1000000000:=aH b _ (aEc hlk);have h2:=bT ho k (by have:=hlen.o;omega);have h2l:=hP.o.lo k;have h2h:=hP.o.hi k;have hf:=ho.frozen k;have HO:=zz ho;clear ho;obtain⟨z,hz⟩:=ex (bI out k);rw[← hz] at h2 h2l h2h;have HZ:=zz hz;clear hz;go_wp2;go_roundw
    case rel=>
     have:=HO.o.set k (z+((dig b)[k]:Nat)) (by have:=hlen.o;omega);exact⟨k+1,_,by omega,by go_num,zz (hP.o.step (aH b) hlk hge),hbw.setCell (aEa _) _,by rw[← HZ.o];exact this⟩
    case measure=>exact ms
   ·obtain rfl:k=(dig b).length:=by omega
    have hB0:=zz (PlusB.start hP.o);clear hP;go_wp2;go_loopw [40] (fun i wr=>∃ (k:Nat) (out:List Int),k≤(dig a).length∧i=.int .i64 k∧Hi (PlusB (dig a) (dig b) k out)∧Below g w wr∧Own wr g out) (fun i _=>(dig a).length-(intOf i).toNat)
    case atStart=>exact⟨0,_,by omega,rfl,hB0,hbw,ho⟩
    case round=>
     clear hbw ho hB0 hlen hgw;obtain⟨k,out,hk,rfl,hP,hbw,ho⟩:=hrel;have hgw:g<wr.heap.size:=ho.lt;have hlen:=zz hP.o.len;by_cases hlk:k<(dig a).length
     ·have h2:=bT ho k (by have:=hlen.o;omega);have h3:=bT ho (k+1) (by have:=hlen.o;omega);have h2l:=hP.o.lo k;have h2h:=hP.o.here;have h3l:=hP.o.lo (k+1);have h3h:=hP.o.hi (k+1) (by omega);have hf:=ho.frozen k;have hf3:=ho.frozen (k+1);have HO:=zz ho;clear ho;obtain⟨z,hz⟩:=ex (bI out k);obtain⟨z',hz'⟩:∃ z,z=bI out (k+1):=⟨_,rfl⟩;rw[← hz] at h2 h2l h2h;rw[← hz'] at h3 h3l h3h;have HZ:=zz hz;have HZ':=zz hz';clear hz hz';by_cases hc:1000000000≤z
      ·go_wp2;go_roundw
       case rel=>
        have h4:=(HO.o.set k (z-1000000000) (by have:=hlen.o;omega)).set (k+1) (z'+1) (by have:=hlen.o;simp;omega);have h5:=hP.o.carry hlk (by rw[← HZ.o];exact hc);rw[← HZ.o,← HZ'.o] at h5;exact⟨k+1,_,by omega,by go_num,zz h5,(hbw.setCell (aEa _) _).setCell (aEa _) _,h4⟩
       case measure=>exact ms
      ·have hc':z<1000000000:=by omega
       go_wp2;go_roundw
       case rel=>exact⟨k+1,_,by omega,by go_num,zz (hP.o.keep hlk (by rw[← HZ.o];exact hc')),hbw,HO.o⟩
       case measure=>exact ms
     ·obtain rfl:k=(dig a).length:=by omega
      obtain⟨r,rfl,hrl,hrs,hrv⟩:=hP.o.fin;have hrn:=iC ho ((dig a).length+1) ((dig a).length+1) (by omega) (aEa _) (by omega);have j0:=zz hrv;clear hrv hlen hrl;go_wp2_with (go_at_call 136;refine(lC _ _ r hrn hrs).mono ?_;rintro e w2 ⟨c0,v',rfl,hv'⟩)
      go_ret;rw[j0.o,aQ,aQ] at hv';exact⟨by rw[hg];exact hbw.trans (c0.mono (by omega)),_,rfl,hv'⟩
theorem zZ (w:World) (va vb:Value) (a b:Nat) (ha:RN w w.heap.size va (dig a)) (hb:RN w w.heap.size vb (dig b)) (hl:(dig a).length≤3000000000) (hle:b≤a) :
  CV 135 #[va,vb] w fun e w'=>∃ v,e=.returned v∧RN w' w'.heap.size v (dig (a-b)):=by
 have e0:=zz ha;obtain⟨A,ca,rfl,hca,hca',hA⟩:=ha.cell;obtain⟨Bb,cb,rfl,hcb,hcb',hB⟩:=hb.cell;have hge:(dig b).length≤(dig a).length:=aL hle;replace hB:=zz hB;clear ha hb hA;go_enter Tryz.func135,Tryz.ntmps135
 go_wp2_with (go_at_call 101;refine(wZ _ _ (ni (dig a)) e0.o (by rw[aC];omega)).mono ?_;rintro e w1 ⟨a0,v1,rfl,b0⟩)
 rcases b0.form with ⟨rfl,hnil⟩ | ⟨g,cap,rfl,hcap,hcap',hg,ho1⟩
 ·have hla:(dig a).length=0:=by have:=aIl List.length hnil;rwa [aC] at this
  have hlb:(dig b).length=0:=by omega
  have ha0:a=0:=cU.1 (aGh hla);have f0:=zz ha0;rw[hlb];clear hnil hla hlb ha0 b0;go_wp2;go_loopw [13] (fun i wr=>i=.int .i64 0∧Below w.heap.size w wr) (fun _ _=>0)
  case atStart=>exact⟨rfl,a0⟩
  case round=>
   obtain⟨rfl,hbw⟩:=hrel;go_wp2;go_loopw [28] (fun i wr=>i=.int .i64 0∧Below w.heap.size w wr) (fun _ _=>0)
   case atStart=>exact⟨rfl,hbw⟩
   case round=>
    clear hbw;obtain⟨rfl,hbw⟩:=hrel;go_wp2_with (go_at_call 136;refine(lC _ _ [] (RI.nil _ _) aIi).mono ?_;rintro e w2 ⟨c0,v',rfl,hv'⟩)
    go_ret;refine⟨hbw.trans (c0.mono hbw.size),_,rfl,?_⟩;have:a-b=0:=by have:=f0.o;omega
    rw[this];exact hv'
 ·simp only[aC] at hcap
  rw[aC];have hA0:=zz (MinusA.start (y:=dig b) (aH a));clear b0;go_wp2;go_loopw [13] (fun i wr=>∃ (k:Nat) (out:List Int),k≤(dig b).length∧i=.int .i64 k∧Hi (MinusA (dig a) (dig b) k out)∧Below w.heap.size w wr∧Own wr g out) (fun i _=>(dig b).length-(intOf i).toNat)
  case atStart=>exact⟨0,_,by omega,rfl,hA0,a0,ho1⟩
  case round=>
   clear a0 ho1 hA0;obtain⟨k,out,hk,rfl,hP,hbw,ho⟩:=hrel;have hgw:g<wr.heap.size:=ho.lt;have hlen:=zz hP.o.len;by_cases hlk:k<(dig b).length
   ·obtain⟨bk,off,rfl,hbk,hx⟩:=hB.o (by omega);have h1:=(hbw.cell (p:=⟨bk,off+k,none⟩) hbk).trans (hx k (by omega));replace hx:=zz hx;have hyk:(dig b)[k]<1000000000:=aH b _ (aEc hlk);have h2:=bT ho k (by have:=hlen.o;omega);have h2l:=hP.o.lo k;have h2h:=hP.o.hi k;have hf:=ho.frozen k;have HO:=zz ho;clear ho;obtain⟨z,hz⟩:=ex (bI out k);rw[← hz] at h2 h2l h2h;have HZ:=zz hz;clear hz;go_wp2;go_roundw
    case rel=>
     have:=HO.o.set k (z-((dig b)[k]:Nat)) (by have:=hlen.o;omega);exact⟨k+1,_,by omega,by go_num,zz (hP.o.step (aH b) hlk hge),hbw.setCell hg _,by rw[← HZ.o];exact this⟩
    case measure=>exact ms
   ·obtain rfl:k=(dig b).length:=by omega
    have hB0:=zz (MinusB.start hP.o (by rw[aQ,aQ];exact hle));clear hP;go_wp2;go_loopw [28] (fun i wr=>∃ (k:Nat) (out:List Int),k≤(dig a).length∧i=.int .i64 k∧Hi (MinusB (val (dig a)-val (dig b)) (dig a).length k out)∧Below w.heap.size w wr∧Own wr g out) (fun i _=>(dig a).length-(intOf i).toNat)
    case atStart=>exact⟨0,_,by omega,rfl,hB0,hbw,ho⟩
    case round=>
     clear hbw ho hB0 hlen hgw;obtain⟨k,out,hk,rfl,hP,hbw,ho⟩:=hrel;have hgw:g<wr.heap.size:=ho.lt;have hlen:=zz hP.o.len;by_cases hlk:k<(dig a).length
     ·have h2:=bT ho k (by have:=hlen.o;omega);have h2l:=hP.o.lo k;have h2h:=hP.o.hi k;have hf:=ho.frozen k;by_cases hc:bI out k<0
      ·have hroom:k+1<(dig a).length:=hP.o.room hlk hc;have h3:=bT ho (k+1) (by have:=hlen.o;omega);have h3l:=hP.o.lo (k+1);have h3h:=hP.o.hi (k+1);have hf3:=ho.frozen (k+1);have HO:=zz ho;clear ho;have h5:=zz (hP.o.borrow hroom hc);obtain⟨z,hz⟩:=ex (bI out k);obtain⟨z',hz'⟩:∃ z,z=bI out (k+1):=⟨_,rfl⟩;rw[← hz,← hz'] at h5;rw[← hz] at h2 h2l h2h hc;rw[← hz'] at h3 h3l h3h;clear hz hz';go_wp2;go_roundw
       case rel=>
        have h4:=(HO.o.set k (z+1000000000) (by have:=hlen.o;omega)).set (k+1) (z'-1) (by have:=hlen.o;simp;omega);exact⟨k+1,_,by omega,by go_num,h5,(hbw.setCell hg _).setCell hg _,h4⟩
       case measure=>exact ms
      ·have HO:=zz ho;clear ho;have h5:=zz (hP.o.keep (by omega));obtain⟨z,hz⟩:=ex (bI out k);rw[← hz] at h2 h2l h2h hc;clear hz;have hc':0≤z:=by omega
       go_wp2;go_roundw
       case rel=>exact⟨k+1,_,by omega,by go_num,h5,hbw,HO.o⟩
       case measure=>exact ms
     ·obtain rfl:k=(dig a).length:=by omega
      obtain⟨r,rfl,hrl,hrs,hrv⟩:=hP.o.fin;have hrn:=iC ho (dig a).length cap hrl.symm (by omega) (by omega);have g0:=zz hrv;clear hrv hlen hrl;go_wp2_with (go_at_call 136;refine(lC _ _ r hrn hrs).mono ?_;rintro e w2 ⟨c0,v',rfl,hv'⟩)
      go_ret;rw[g0.o,aQ,aQ] at hv';exact⟨hbw.trans (c0.mono hbw.size),_,rfl,hv'⟩
theorem oQ (w:World) (va vb:Value) (a b:Nat) (ha:RN w w.heap.size va (dig a)) (hb:RN w w.heap.size vb (dig b)) (hl:(dig a).length≤3000000000) (hl':(dig b).length≤3000000000) :
  CV 113 #[va,vb] w fun e w'=>∃ v,e=.returned v∧RN w' w'.heap.size v (dig (a*b))∧NewC w.heap.size v:=by
 obtain⟨A,ca,rfl,hca,hca',hA⟩:=ha.cell;obtain⟨Bb,cb,rfl,hcb,hcb',hB⟩:=hb.cell;replace hA:=zz hA;replace hB:=zz hB;clear ha hb;have hmk:=oD ((dig a).length+(dig b).length) (by omega);simp only[aIe] at hmk
 go_enter Tryz.func113,Tryz.ntmps113
 go_wp2;have ho1:=nW w ((dig a).length+(dig b).length);have a0:Below w.heap.size w (w.alloc (bC ((dig a).length+(dig b).length))):=(aDy _ _).alloc (aEa _) _;generalize hg:w.heap.size=g at *
 generalize w.alloc (bC ((dig a).length+(dig b).length))=w1 at *
 have hT0:=zz (TimesA.start (dig a) (dig b));go_loopw [20] (fun i wr=>∃ (k:Nat) (out:List Int),k≤(dig a).length∧i=.int .i64 k∧Hi (TimesA (dig a) (dig b) k 0 0 out)∧Below g w wr∧Own wr g out) (fun i _=>(dig a).length-(intOf i).toNat)
 case atStart=>exact⟨0,_,by omega,rfl,hT0,a0,ho1⟩
 case round=>
  clear a0 ho1 hT0;obtain⟨i,out,hk,rfl,hP,hbw,ho⟩:=hrel;have hgw:g<wr.heap.size:=ho.lt;by_cases hlk:i<(dig a).length
  ·obtain⟨bk,off,rfl,hbk,hx⟩:=hA.o (by omega);have h1:=(hbw.cell (p:=⟨bk,off+i,none⟩) hbk).trans (hx i (by omega));replace hx:=zz hx;have hxi:(dig a)[i]<1000000000:=aH a _ (aEc hlk);obtain⟨x,hxx⟩:=ex ((dig a)[i]);rw[← hxx] at h1 hxi;have d0:=zz hxx;clear hxx;obtain⟨wo,hwo⟩:=ex wr;subst hwo;go_wp2;go_loopw [8,27] (fun cv i' wr=>∃ (k cr:Nat) (out:List Int),k≤(dig b).length∧i'=.int .i64 k∧cv=.int .i64 cr∧cr<1000000000∧Hi (TimesA (dig a) (dig b) i k cr out)∧Below g w wr∧Own wr g out) (fun _ i' _=>(dig b).length-(intOf i').toNat)
   case atStart=>exact⟨0,0,_,by omega,rfl,rfl,by omega,hP,hbw,ho⟩
   case round=>
    clear hbw ho hP hgw h1;obtain⟨k,cr,out,hk',rfl,rfl,hcr,hP,hbw,ho⟩:=hrel;have hgw:g<wr.heap.size:=ho.lt;have hlen:=zz hP.o.len;by_cases hlk':k<(dig b).length
    ·obtain⟨bk',off',rfl,hbk',hx'⟩:=hB.o (by omega);have h1:=(hbw.cell (p:=⟨bk',off'+k,none⟩) hbk').trans (hx' k (by omega));replace hx':=zz hx';have hyk:(dig b)[k]<1000000000:=aH b _ (aEc hlk');obtain⟨y,hyy⟩:=ex ((dig b)[k]);rw[← hyy] at h1 hyk;have e0:=zz hyy;clear hyy;have h2:=bT ho (i+k) (by have:=hlen.o;omega);have h2d:=hP.o.dig (i+k);obtain⟨o,hoo⟩:∃ o:Nat,bI out (i+k)=(o:Int):=⟨(bI out (i+k)).toNat,by omega⟩;have HS:=zz (hP.o.step hlk hlk' o hoo);rw[hoo] at h2 h2d;have h2h:o<1000000000:=by omega
     have hf:=ho.frozen (i+k);have HO:=zz ho;clear ho hoo h2d;have hxy:x*y≤999999999*999999999:=aGs (by omega) (by omega);have hxy1:(x:Int)*(y:Int)≤999999999*999999999:=by rw[← aFp];omega
     have hxy0:0≤(x:Int)*(y:Int):=by rw[← aFp];omega
     go_wp2;go_roundw
     case rel=>
      have e:(((o+x*y+cr) % 1000000000:Nat):Int)=((o:Int)+(x:Int)*(y:Int)+(cr:Int)) % 1000000000:=by rw[← aFp];omega
      have h4:=HO.o.set (i+k) (((o+x*y+cr) % 1000000000:Nat):Int) (by have:=hlen.o;omega);have h5:=HS.o;rw[← d0.o,← e0.o] at h5;rw[e] at h4 h5;exact⟨k+1,(o+x*y+cr) / 1000000000,_,by omega,by go_num,by go_num,by omega,zz h5,hbw.setCell (aEa _) _,h4⟩
     case measure=>exact ms
    ·obtain rfl:k=(dig b).length:=by omega
     have h2:=bT ho (i+(dig b).length) (by have:=hlen.o;omega);have hf:=ho.frozen (i+(dig b).length);have HN:=zz (hP.o.next hlk hcr);have HO:=zz ho;clear ho;go_wp2;go_roundw
     case rel=>exact⟨i+1,_,by omega,by go_num,HN,hbw.setCell (aEa _) _,HO.o.set _ _ (by have:=hlen.o;omega)⟩
     case measure=>exact ms
  ·obtain rfl:i=(dig a).length:=by omega
   obtain⟨r,rfl,hrl,hrs,hrv⟩:=hP.o.fin;have hrn:=iC ho ((dig a).length+(dig b).length) ((dig a).length+(dig b).length) (by omega) (by omega) (by omega);have f0:=zz hrv;clear hrv hrl;go_wp2_with (go_at_call 136;refine(rL _ _ r hrn hrs).mono ?_;rintro e w2 ⟨b0,v',rfl,hv',hnw⟩)
   go_ret;rw[f0.o,aQ,aQ] at hv';exact⟨by rw[hg];exact hbw.trans (b0.mono (by omega)),_,rfl,hv',hnw _ (NewC.at (by omega))⟩
theorem TS (w:World) (va vb:Value) (a b:Nat) (ha:RN w w.heap.size va (dig a)) (hb:RN w w.heap.size vb (dig b)) (hl:(dig a).length≤3000000000) (hl':(dig b).length≤3000000000) :
  CV 113 #[va,vb] w fun e w'=>∃ v,e=.returned v∧RN w' w'.heap.size v (dig (a*b)):=
 (oQ w va vb a b ha hb hl hl').mono fun _ _ ⟨hb,v,he,hv,_⟩=>⟨hb,v,he,hv⟩
theorem EK (a b:Nat):Nat.gcd b (a % b)=Nat.gcd a b:=by rw[Nat.gcd_comm a b,Nat.gcd_rec b a,Nat.gcd_comm]
theorem jY (w:World) (va vb:Value) (a b:Nat) (ha:RN w w.heap.size va (dig a)) (hb:RN w w.heap.size vb (dig b)) (hl:(dig a).length≤300000000) (hl':(dig b).length≤300000000) :
  CV 98 #[va,vb] w fun e w'=>∃ v,e=.returned v∧RN w' w'.heap.size v (dig (Nat.gcd a b)):=by
 have HA:=zz ha;have HB:=zz hb;clear ha hb;go_enter Tryz.func98,Tryz.ntmps98
 go_wp2;go_loopg [0,1] b (fun gk xa xb wr=>∃ x y:Nat,Hi (gk=y)∧Hi (Nat.gcd x y=Nat.gcd a b)∧(dig x).length≤300000000∧(dig y).length≤300000000∧Hi (RN wr wr.heap.size xa (dig x))∧(∃ B c,xb=.slice B (dig y).length c)∧Hi (RN wr wr.heap.size xb (dig y))∧Below w.heap.size w wr)
 case atStart=>
  obtain⟨B,c,rfl,_⟩:=HB.o.cell;exact⟨a,b,zz rfl,zz rfl,hl,hl',HA,⟨B,c,rfl⟩,HB,aDy _ _⟩
 case round=>
  obtain⟨x,y,hgk,hg,hlx,hly,hx,⟨B,c,rfl⟩,hy,hbw⟩:=hrel;by_cases hy0:y=0
  ·have HL:=zz (show(dig y).length=0 by rw[hy0,bF];rfl);rw[HL.o];have hg2:=hg.o;rw[hy0,Nat.gcd_zero_right] at hg2;have HG:=zz hg2;clear hg2 hy0 hg hy hgk hly;go_wp2;go_ret;rw[← HG.o];exact⟨hbw,_,rfl,hx.o⟩
  ·have hp:=bX hy0;go_wp2_with fail
   refine(XV _ _ _ x y hx.o hy.o hy0 hlx).mono ?_;rintro e w2 ⟨a0,q,r,rfl,hq,hr⟩;have HY:=zz (hy.o.step a0);obtain⟨B',c',rfl,_⟩:=hr.cell;have HR:=zz hr;have hmod:=aGp x (aFy hy0);have HM:=zz hmod;have hlr:(dig (x % y)).length≤300000000:=aEg (aL (aMr hmod)) hly;have HG:=zz ((EK x y).trans hg.o);clear hq hr hmod hg hx hy hy0;go_wp2;go_roundg (x % y)
   case measure=>rw[hgk.o];exact HM.o
   case rel=>exact⟨y,x % y,zz rfl,HG,hly,hlr,HY,⟨_,_,rfl⟩,HR,hbw.trans (a0.mono hbw.size)⟩
end Go.Proofs.YtencnahjgbdeoaaGreatDoor
