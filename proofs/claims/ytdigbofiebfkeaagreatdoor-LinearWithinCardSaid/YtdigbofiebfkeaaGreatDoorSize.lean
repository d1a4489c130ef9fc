/- Texts put together: Size.Over: the walk. Size.Plus, Minus, Times, Part: the walks. Size.Common, Size.Root: the walks. -/
import Derived.Test.YtdigbofiebfkeaaGreatDoorLow
import Derived.Deep.RegionWith
import Derived.Deep.LoopGhost
import Derived.BigRegion
import Derived.BigQuiet
import Derived.Deep.QuietTactic
namespace Go.Proofs.YtdigbofiebfkeaaGreatDoor
open Go Go.RowKit Dig
set_option maxRecDepth 100000
set_option maxHeartbeats 4000000
theorem own_one (w:World) (r:Nat):Own (w.alloc (.cells #[.int .i64 (r:Int)] 3)) w.heap.size (ni [r]):=⟨[],heap_alloc_new w _⟩
theorem nil_below {w:World} {B:Nat}:RN w B (.slice none 0 0) (dig 0):=by rw[dig_zero];exact RI.nil _ _
theorem Over_small (w:World) (va vb:Value) (a b:Nat) (ha:RN w w.heap.size va (dig a)) (hb:RN w w.heap.size vb (dig b)) (hlt:a<b) :
  Calls Tryz.prog 104 #[va,vb] w fun e w'=>Below w.heap.size w w'∧∃ v v',e=.returned (.tuple #[v,v'])∧RN w' w'.heap.size v (dig (a / b))∧RN w' w'.heap.size v' (dig (a % b))∧NewC w.heap.size v:=by
 have HA:=zz ha;have HB:=zz hb;obtain⟨Bb,cb,rfl,hcb,hcb',hB⟩:=hb.cell;clear ha hb hB;go_enter Tryz.func104,Tryz.ntmps104
 go_wp2_with fail
 refine(Cmp_any _ _ _ a b HA.out HB.out).mono ?_;rintro e w1 ⟨a0,c,rfl,hc⟩;have hneg:c<0:=hc.1.2 hlt;have HC:=zz hc;clear hc;go_wp2;go_ret2;rw[Nat.div_eq_of_lt hlt,Nat.mod_eq_of_lt hlt];exact⟨a0,_,_,rfl,nil_below,HA.out.step a0,NewC.nil _ _ _⟩
theorem Over_one (w:World) (va vb:Value) (a b:Nat) (ha:RN w w.heap.size va (dig a)) (hb:RN w w.heap.size vb (dig b)) (hge:b≤a) (h1:(dig b).length=1) (hl:(dig a).length≤3000000000) :
  Calls Tryz.prog 104 #[va,vb] w fun e w'=>Below w.heap.size w w'∧∃ v v',e=.returned (.tuple #[v,v'])∧RN w' w'.heap.size v (dig (a / b))∧RN w' w'.heap.size v' (dig (a % b))∧NewC w.heap.size v:=by
 have b0:b<1000000000:=dig_len_le.1 (by omega:(dig b).length≤1);have f0:b≠0:=by rintro rfl;rw[dig_zero] at h1;simp at h1
 have hdb:=dig_one b0 f0;have HA:=zz ha;have HB:=zz hb;rw[hdb] at hb;obtain⟨Bb,cb,rfl,hcb,hcb',hB⟩:=hb.cell;obtain⟨g,off,rfl,hg,hx⟩:=hB (by simp);have hx0:=hx 0 (by simp);simp only[List.getElem_cons_zero,Nat.add_zero] at hx0
 clear ha hb hB hx hdb h1;go_enter Tryz.func104,Tryz.ntmps104
 go_wp2_with fail
 refine(Cmp_any _ _ _ a b HA.out HB.out).mono ?_;rintro e w1 ⟨a0,c,rfl,hc⟩;have hneg:0≤c:=by have:=hc.1;omega
 have hx1:=(a0.cell (p:=⟨g,off,none⟩) hg).trans hx0;clear hc hx0;go_wp2_with fail
 refine(Part_new _ _ a b (HA.out.step a0) hl (by omega) (by omega)).mono ?_;rintro e w2 ⟨c0,v,rfl,hv,hnw⟩;have HV:=zz hv;have h0:=zz (hnw.weak a0.size);clear hv hnw;have hmod:a % b<1000000000:=Nat.lt_trans (Nat.mod_lt _ (by omega)) b0;generalize hr:a % b=r at *
 have HR:=zz hr;clear hr;go_wp2_with fail
 have hrn:=own_rn (r:=[r]) (own_one w2 r) 1 1 rfl (by omega) (by omega);have hbw:Below w.heap.size w (w2.alloc (.cells #[.int .i64 (r:Int)] 3)):=(a0.trans (c0.mono a0.size)).alloc (by have:=a0.size;have:=c0.size;omega) _;refine(Trim_any _ _ [r] hrn (Small.cons hmod Small.nil)).mono ?_;rintro e w3 ⟨d0,v',rfl,hv'⟩;have e0:RN w3 w3.heap.size v (dig (a / b)):=(HV.out.step ((Below.refl _ _).alloc (Nat.le_refl _) _)).step d0;have i0:=zz e0;have j0:=zz hv';clear e0 hv' hrn;go_wp2;go_ret2;refine⟨hbw.trans (d0.mono hbw.size),_,_,rfl,i0.out,?_,h0.out⟩;have:=j0.out;rw[HR.out]
 simpa[val] using this
theorem Over_long (w:World) (va vb:Value) (a b:Nat) (ha:RN w w.heap.size va (dig a)) (hb:RN w w.heap.size vb (dig b)) (hge:b≤a) (h1:2≤(dig b).length) (hl:(dig a).length≤300000000) :
  Calls Tryz.prog 104 #[va,vb] w fun e w'=>Below w.heap.size w w'∧∃ v v',e=.returned (.tuple #[v,v'])∧RN w' w'.heap.size v (dig (a / b))∧RN w' w'.heap.size v' (dig (a % b))∧NewC w.heap.size v:=by
 have HA:=zz ha;have HB:=zz hb;obtain⟨A,ca,rfl,hca,hca',hA⟩:=ha.cell;obtain⟨Bb,cb,rfl,hcb,hcb',hB⟩:=hb.cell;obtain⟨g,off,rfl,hg,hx⟩:=hB (by omega);have hlab:(dig b).length≤(dig a).length:=dig_len_mono hge;have hx0:=hx ((dig b).length-1) (by omega);obtain⟨bt,hbt1⟩:∃ bt,bt=(dig b).getD ((dig b).length-1) 0:=⟨_,rfl⟩;have hbt:bt<1000000000:=by rw[hbt1];exact(dig_small b).getD _
 rw[← getD_get,← hbt1] at hx0;have R0:=zz hbt1;clear ha hb hB hx hA hbt1;have hmk:=mk_size ((dig a).length-(dig b).length+1) (by omega);rw[show(((dig a).length-(dig b).length+1:Nat):Int)=((dig a).length:Int)-((dig b).length:Int)+1 by omega] at hmk;go_enter Tryz.func104,Tryz.ntmps104
 go_wp2_with fail
 refine(Cmp_any _ _ _ a b HA.out HB.out).mono ?_;rintro e w1 ⟨b0,c,rfl,hc⟩;have hneg:0≤c:=by have:=hc.1;omega
 have hx1:=(b0.cell (p:=⟨g,off+((dig b).length-1),none⟩) hg).trans hx0;clear hc hx0;have hf:1000000000 / (bt+1)≤1000000000:=Nat.div_le_self _ _;have hfe:((1000000000:Int) / ((bt:Int)+1))=((1000000000 / (bt+1):Nat):Int):=by rw[Int.natCast_ediv];rfl
 have S0:=zz hfe;go_wp2;rw[S0.out];clear hfe;obtain⟨f,hfd⟩:∃ f,f=1000000000 / (bt+1):=⟨_,rfl⟩;rw[← hfd] at hf;rw[← hfd];have T0:=zz hfd;clear hfd;go_region_with (first
  | (go_at_call 120;((with_reducible refine(by_any _ (Value.slice A (dig a).length ca) (dig a) f (by exact HA.out.step b0.drew) (dig_small a) hf (by omega)).mono ?_);rintro e w2 ⟨e0,gu,ru,rfl,hgu,hru,hsu,hvu,hou⟩))
  | (go_at_call 120;((with_reducible refine(by_any _ (Value.slice (some ⟨g,off,none⟩) (dig b).length cb) (dig b) f (by exact(HB.out.step b0.drew).step e0) (dig_small b) hf (by omega)).mono ?_);rintro e w3 ⟨j0,gv,rv,rfl,hgv,hrv,hsv,hvv,hov⟩)))
 rw[val_dig] at hvu hvv;generalize hn:(dig b).length=n at *
 generalize hla:(dig a).length=la at *
 have f0:b≠0:=by rintro rfl;rw[dig_zero] at hn;simp at hn;omega
 have hfac:=factor_lt hn.symm f0 R0.out T0.out;have hfp:0<f:=hfac.2.1;have hI0:=zz (DivInv.start hla.symm hn.symm hge f0 hfp hru hsu hvu);have hvt:=factor_take hrv hvv hfac.1;have t0:=zz hvt;have s0:=zz (show(rv.take n).length=n by simp;omega);have r0:=zz (hsv.take n);have HVTOP:=zz (factor_top' hn.symm h1 f0 hfp s0.out r0.out hvt);have x0:=zz hfac.1;have HN:=zz hn;have i1:=zz hla;have v0:=zz hrv;have hguv:gu<gv:=by have:=hou.lt;omega
 have c0:Below w.heap.size w w3:=(b0.drew.trans (e0.mono b0.size)).trans (j0.mono (Nat.le_trans b0.size e0.size));have hou3:=hou.step j0;have hg0:w.heap.size≤gu:=Nat.le_trans b0.size hgu;clear hfac hvt hn hla hou b0 e0 j0 hru hsu hvu hsv hvv hrv hx1 hgu hgv;have hm1:(la:Int)-n+1≤3000000000:=by omega
 have hm0:1≤(la:Int)-n+1:=by omega
 go_wp2;have hq1:=own_new w3 (la-n+1);have d0:Below w.heap.size w (w3.alloc (zerosObj (la-n+1))):=c0.alloc (by have:=c0.size;omega) _;have hou4:=hou3.alloc (zerosObj (la-n+1));have hov4:=hov.alloc (zerosObj (la-n+1));have hgq:gv<w3.heap.size:=hov.lt;clear c0 hou3 hov;generalize hgqe:w3.heap.size=gq at *
 have hgq0:w.heap.size≤gq:=by omega
 generalize w3.alloc (zerosObj (la-n+1))=w4 at *
 clear hgqe;go_loopw [12] (fun i wr=>∃ (m:Int) (L qs:List Nat),-1≤m∧m≤(la:Int)-n∧i=.int .i64 m∧Hid (DivInv (a*f) (b*f) la n (m+1).toNat L qs) ∧
   Below w.heap.size w wr∧Own wr gu (ni L)∧Own wr gv (ni rv)∧Own wr gq (List.replicate (m+1).toNat 0++ni qs)) (fun i _=>(intOf i+1).toNat)
 case atStart=>exact⟨(la:Int)-n,ru,[],by omega,by omega,by go_num,by rw[show((la:Int)-n+1).toNat=la+1-n by omega];exact hI0,d0,hou4,hov4,by rw[show((la:Int)-n+1).toNat=la-n+1 by omega];simpa[ni] using hq1⟩
 case round=>
  clear d0 hou4 hov4 hq1 hI0;obtain⟨m,L,qs,hm,hm',rfl,hI,hbw,hou,hov,hoq⟩:=hrel;have hguw:=hou.lt;have hgvw:=hov.lt;have hgqw:=hoq.lt;by_cases hj:0≤m
  ·obtain⟨j,rfl⟩:=Int.eq_ofNat_of_zero_le hj;rw[show((j:Int)+1).toNat=j+1 by omega] at hI hoq;have hjn:j+n≤la:=by omega
   have pl:=hI.out.place hlab x0.out;have plen:=pl.len;have pp:=pl.parts' h1 s0.out r0.out t0.out HVTOP.out;have hc0:=own_at hou (j+n) (by rw[ni_length,hI.out.len];omega);have hc1:=own_at hou (j+n-1) (by rw[ni_length,hI.out.len];omega);have hc2:=own_at hou (j+n-2) (by rw[ni_length,hI.out.len];omega);rw[pl.at' (by omega)] at hc0;rw[show j+n-1=j+(n-1) by omega,pl.at' (by omega),← show j+n-1=j+(n-1) by omega] at hc1;rw[show j+n-2=j+(n-2) by omega,pl.at' (by omega),← show j+n-2=j+(n-2) by omega] at hc2;have hd1:=own_at hov (n-1) (by rw[ni_length,v0.out];omega);have hd2:=own_at hov (n-2) (by rw[ni_length,v0.out];omega);rw[at0_ni,← getD_take (show n-1<n by omega)] at hd1;rw[at0_ni,← getD_take (show n-2<n by omega)] at hd2;have PL:=zz pl;have hu0b:=pl.small.getD n;have hu1b:=pl.small.getD (n-1);have hv1p:=HVTOP.out;have hv1b:=r0.out.getD (n-1);clear pl plen;obtain⟨u0,hu0⟩:∃ u0,u0=((L.drop j).take (n+1)).getD n 0:=⟨_,rfl⟩;obtain⟨u1,hu1⟩:∃ u1,u1=((L.drop j).take (n+1)).getD (n-1) 0:=⟨_,rfl⟩;obtain⟨u2,hu2⟩:∃ u2,u2=((L.drop j).take (n+1)).getD (n-2) 0:=⟨_,rfl⟩;obtain⟨v1,g0⟩:∃ v1,v1=(rv.take n).getD (n-1) 0:=⟨_,rfl⟩;obtain⟨v2,i0⟩:∃ v2,v2=(rv.take n).getD (n-2) 0:=⟨_,rfl⟩;rw[← hu0,← hu1,← hu2,← g0,← i0] at pp;rw[← hu0] at hc0 hu0b;rw[← hu1] at hc1 hu1b;rw[← hu2] at hc2;rw[← g0] at hd1 hv1p hv1b;rw[← i0] at hd2;have U0:=zz hu2;have V0:=zz g0;have W0:=zz i0;clear hu0 hu1 hu2 g0 i0;have hu2b:=pp.u2;have hv2b:=pp.v2;have PP:=zz pp;clear pp;obtain⟨wo,hwo⟩:∃ wo:World,wo=wr:=⟨_,rfl⟩;subst hwo
   go_wp2;go_step3
   go_wp2;go_quiet (fail)
   go_wp2;go_quiet (fail)
   go_wp2;go_step3
   go_wp2;have hcell:∀ wx:World,Own wx gu (ni L)→Own wx gv (ni rv)→wx.cell? ⟨gu,j+n-2,none⟩=some (.int .i64 (u2:Int))∧wx.cell? ⟨gv,n-1,none⟩=some (.int .i64 (v1:Int))∧wx.cell? ⟨gv,n-2,none⟩=some (.int .i64 (v2:Int)):=by
    intro wx ho1 ho2;refine⟨?_,?_,?_⟩
    ·rw[own_at ho1 (j+n-2) (by rw[ni_length,hI.out.len];omega),show j+n-2=j+(n-2) by omega,PL.out.at' (by omega),← U0.out]
    ·rw[own_at ho2 (n-1) (by rw[ni_length,v0.out];omega),at0_ni,← getD_take (show n-1<n by omega),← V0.out]
    ·rw[own_at ho2 (n-2) (by rw[ni_length,v0.out];omega),at0_ni,← getD_take (show n-2<n by omega),← W0.out]
   have HCELL:=zz hcell;clear hcell;have K0:=zz (Guess.start PP.out);clear hc0 hc1 hc2 hd1 hd2;have HX:=zz (And.intro hguv (And.intro hgq (And.intro hg0 (And.intro hgq0 (And.intro hfp (And.intro hm' hlab))))));clear hmk hca hcb hm0 hm1 hlab hm hm' hg hgq hguv hg0 hgq0 hf hneg hbt hfp f0 hge hu0b hu1b;have L0:=zz (show((u0*1000000000+u1:Nat):Int)=(u0:Int)*1000000000+(u1:Int) by omega);go_loopw [14,15] (fun dv rv' wr=>∃ (d rest:Nat),dv=.int .i64 d∧rv'=.int .i64 rest∧rest<1000000000∧Hid (Guess u2 v1 v2 (u0*1000000000+u1) (val ((L.drop j).take (n+1)) / (b*f)) d rest) ∧
     Below w.heap.size w wr∧Own wr gu (ni L)∧Own wr gv (ni rv)∧Own wr gq (List.replicate (j+1) 0++ni qs)) (fun dv _ _=>(intOf dv).toNat)
   case atStart=>exact⟨(u0*1000000000+u1) / v1,(u0*1000000000+u1) % v1,by rw[Int.natCast_ediv,L0.out],by rw[Int.natCast_emod,L0.out],Nat.lt_trans (Nat.mod_lt _ hv1p) hv1b,K0,below_drewN (below_drewN hbw _) _,hou,hov,hoq⟩
   case round=>
    clear hbw hou hov hoq K0;obtain⟨d,rest,rfl,rfl,hrest,hG,hbw,hou,hov,hoq⟩:=hrel;have hguw:=hou.lt;have hgvw:=hov.lt;have hgqw:=hoq.lt;obtain⟨hc2,hd1,hd2⟩:=HCELL.out wr hou hov;have hdb:=hG.out.bound PP.out;have hdv:=dv_bound hdb hv2b;have hdv0:=hdv.1;have hdv1:=hdv.2;clear hdv;by_cases t:1000000000≤d∨rest*1000000000+u2<d*v2
    ·obtain⟨hgd,hdp⟩:=hG.out.down PP.out t;obtain⟨e,rfl⟩:∃ e,d=e+1:=⟨d-1,by omega⟩;rw[Nat.add_sub_cancel] at hgd;have w0:=zz hgd;have HT:=zz t;clear hgd hG t hdp;rw[Int.natCast_add,Int.natCast_one] at hdv0 hdv1;have hle1:(e:Int)+1<2000000000:=by omega
     have hle0:(0:Int)≤(e:Int)+1:=by omega
     clear hdb;by_cases t1:1000000000≤e+1
     ·have t1':(1000000000:Int)≤(e:Int)+1:=by omega
      clear hdv0 hdv1 t1;rw[show((e+1:Nat):Int)=(e:Int)+1 from Int.natCast_add e 1];generalize hEe:(e:Int)+1=E at *
      have z0:=zz (show E-1=(e:Int) by omega);clear hEe;go_wp2;go_quiet (fail)
      rename_i nq
      have hbw':=below_drewN hbw nq;have hou':Own (wr.drewN nq) gu (ni L):=hou;have hov':Own (wr.drewN nq) gv (ni rv):=hov;have hoq':Own (wr.drewN nq) gq (List.replicate (j+1) 0++ni qs):=hoq;clear hbw hou hov hoq hc2 hd1 hd2 hguw hgvw hgqw;generalize wr.drewN nq=wz at *
      clear wr;obtain⟨wr,hwr⟩:∃ wr:World,wr=wz:=⟨_,rfl⟩;subst hwr;have hbw:=hbw';have hou:=hou';have hov:=hov';have hoq:=hoq';clear hbw' hou' hov' hoq';obtain⟨hc2,hd1,hd2⟩:=HCELL.out _ hou hov;clear hc2 hd2;have hr0:(0:Int)≤(rest:Int):=by omega
      have hr1:(rest:Int)<1000000000:=by omega
      have HR:=zz hrest;clear hrest;by_cases hbr:1000000000≤rest+v1
      ·obtain⟨hdl,hst⟩:=w0.out.broke PP.out hbr;have y0:=zz (w0.out.stop PP.out hdl hst);have D0:=zz w0.out.le;have hdl0:=zz hdl;have hbr':(1000000000:Int)≤(rest:Int)+(v1:Int):=by omega
       clear hdl;clear hst w0 hbr;generalize hri:(rest:Int)=ri at *
       clear hri;go_wp2_with fail
       rw[z0.out];have hdl:=hdl0.out;have hc2:=True.intro;have hd2:=True.intro;clear hc2 hd1 hd2;obtain⟨hguv,hgq,hg0,hgq0,hfp,hm',hlab⟩:=HX.out;have hou2:Own wr gu (ni (L.take j)++(ni ((L.drop j).take (n+1))++ni (L.drop (j+n+1)))):=by rw[← ni_append,← ni_append,← PL.out.eq];exact hou
       have hvx:RIx wr wr.heap.size gu (.slice (some ⟨gv,0,none⟩) n (n+1)) (ni (rv.take n)):=own_rix hov (by omega) (by rw[v0.out];omega) (by omega) (by omega);have hlow:(e:Int)*(val (rv.take n):Int)≤(val ((L.drop j).take (n+1)):Int)+(bp n:Int):=by
        rw[t0.out,← Int.natCast_mul];have h1:=y0.out;have h2:=x0.out
        omega
       have A0:=zz hlow;clear hlow;rw[show j+n+1-j=n+1 by omega]
       with_reducible refine(less_any _ gu j _ e n (ni (L.take j)) (ni (L.drop (j+n+1))) ((L.drop j).take (n+1)) (rv.take n) _ (by rw[ni_length];exact PL.out.pre) (by exact hou2) PL.out.len s0.out PL.out.small r0.out (by exact hvx) hdl (by omega) A0.out).mono ?_
       rintro e' w5 ⟨honly,R,hRl,hRs,hRo,(⟨rfl,hle,hval⟩ | ⟨rfl,hlt,hval⟩)⟩
       ·have honly':Only gu wr w5:=honly;have hbw5:Below w.heap.size w w5:=hbw.trans (honly'.below hg0 hbw.size);have hov5:=hov.only honly' (by omega);have hoq5:=hoq.only honly' (by omega);have hq1:=own_at hoq5 j (by simp;omega);have hq2:at0 (List.replicate (j+1) 0++ni qs) j=0:=by rw[at0_append_left (by simp)];exact at0_zeros _ _
        rw[hq2] at hq1;have hqf:=hoq5.frozen j;rw[t0.out] at hle hval;have B0:=zz (place_less (by have:=(PP.out).v_pos;have:=(PP.out).m;omega) D0.out hle hval);have hgw5:=hoq5.lt;clear hle hval hq2 honly honly' hou2 hvx hou hov hoq hbw;go_wp2;rw[Exit.noGoto_normal];go_wp2;go_roundw
        case rel=>
         obtain⟨q1,q2⟩:=B0.out;have hV0:0<b*f:=by have:=(PP.out).v_pos;have:=(PP.out).m;omega
         have hnx:=hI.out.next PL.out hRl hRs hV0 q2 (hI.out.small.drop _);rw[← q1] at hnx;have hs:=hoq5.set j (e:Int) (by simp;omega);rw[set_top] at hs;have a0:((j:Int)-1+1).toNat=j:=by omega
         refine⟨_,_,_,by omega,by omega,rfl,by rw[a0];exact zz hnx,hbw5.setCell hgq0 _,?_,hov5.far (by show gv≠gq;omega) _,by rw[a0];exact hs⟩;rw[ni_append,ni_append];exact hRo.far (by show gu≠gq;omega) _
        case measure=>simp[intOf]
       ·have honly':Only gu wr w5:=honly;have hbw5:Below w.heap.size w w5:=hbw.trans (honly'.below hg0 hbw.size);have hov5:=hov.only honly' (by omega);have hoq5:=hoq.only honly' (by omega);have hvx5:RIx w5 w5.heap.size gu (.slice (some ⟨gv,0,none⟩) n (n+1)) (ni (rv.take n)):=own_rix hov5 (by omega) (by rw[v0.out];omega) (by omega) (by omega);have hd0:0<e:=by
         apply Nat.pos_of_ne_zero
         intro h0;rw[h0,Nat.zero_mul] at hlt
         omega
        obtain⟨d',hd'⟩:∃ d',e=d'+1:=⟨e-1,by omega⟩;have E0:=zz hlt;have C0:=zz hval;clear hlt hval honly hou2 hvx hou hov hoq hbw hd0;have HD':=zz (show(e:Int)-1=(d':Int) by omega);have hdl':d'<1000000000:=by omega
        clear hd';go_wp2_with fail
        rw[show j+n+1-j=n+1 by omega]
        with_reducible refine(more_any _ gu j _ n (ni (L.take j)) (ni (L.drop (j+n+1))) R (rv.take n) _ (by rw[ni_length];exact PL.out.pre) (by exact hRo) hRl s0.out hRs r0.out (by exact hvx5) (by omega)).mono ?_
        rintro e'' w6 ⟨rfl,honly2,R2,hR2l,hR2s,hR2o,q,hq⟩;have hbw6:Below w.heap.size w w6:=hbw5.trans (honly2.below hg0 hbw5.size);have hov6:=hov5.only honly2 (by omega);have hoq6:=hoq5.only honly2 (by omega);have hq1:=own_at hoq6 j (by simp;omega);have hq2:at0 (List.replicate (j+1) 0++ni qs) j=0:=by rw[at0_append_left (by simp)];exact at0_zeros _ _
        rw[hq2] at hq1;have hqf:=hoq6.frozen j;have HQ:=zz hq;have hgw6:=hoq6.lt;clear hq hq2 honly' hvx5 hov5 hoq5 hbw5 honly2 hRo;go_wp2;rw[Exit.noGoto_normal];go_wp2;go_roundw
        case rel=>
         have hV0:0<b*f:=by have:=(PP.out).v_pos;have:=(PP.out).m;omega
         have h1:=E0.out;have h2:=C0.out;have h3:=HQ.out;rw[t0.out] at h1 h2 h3;have F0:b*f<bp (n+1):=Nat.lt_trans x0.out (bp_lt (by omega));have G0:val R2<bp (n+1):=by have:=val_lt hR2s;rwa [hR2l] at this
         obtain⟨q1,q2⟩:=place_more hV0 y0.out h1 h2 h3 F0 G0;have hnx:=hI.out.next PL.out hR2l hR2s hV0 q2 (hI.out.small.drop _);rw[← q1] at hnx;have e9:e-1=d':=by have:=HD'.out;omega
         rw[e9] at hnx;have hs:=hoq6.set j (d':Int) (by simp;omega);rw[set_top,← HD'.out] at hs;have a0:((j:Int)-1+1).toNat=j:=by omega
         refine⟨_,_,_,by omega,by omega,rfl,by rw[a0];exact zz hnx,hbw6.setCell hgq0 _,?_,hov6.far (by show gv≠gq;omega) _,by rw[a0];exact hs⟩;rw[ni_append,ni_append];exact hR2o.far (by show gu≠gq;omega) _
        case measure=>simp[intOf]
      ·have hbr':(rest:Int)+(v1:Int)<1000000000:=by omega
       have I0:=zz hbr;clear hbr;generalize hri:(rest:Int)=ri at *
       have J0:=zz hri;clear hri;go_wp2;go_roundw
       case rel=>exact⟨e,rest+v1,by rw[z0.out],by rw[← J0.out];go_num,by have:=I0.out;omega,w0,hbw,hou,hov,hoq⟩
       case measure=>simp[intOf];have:=z0.out;omega
     ·have t1':(e:Int)+1<1000000000:=by omega
      have hdec:decide ((1000000000:Int)≤(e:Int)+1)=false:=by simp;omega
      have ht2:(rest:Int)*1000000000+(u2:Int)<((e:Int)+1)*(v2:Int):=by
       have:=HT.out;rcases this with h | h
       ·omega
       ·have h2:((rest*1000000000+u2:Nat):Int)<(((e+1)*v2:Nat):Int):=by omega
        rw[Int.natCast_mul,Int.natCast_add e 1,Int.natCast_one] at h2
        omega
      clear t1;rw[show((e+1:Nat):Int)=(e:Int)+1 from Int.natCast_add e 1];generalize hEe:(e:Int)+1=E at *
      have z0:=zz (show E-1=(e:Int) by omega);clear hEe;go_wp2;go_quiet (fail)
      rename_i nq
      have hbw':=below_drewN hbw nq;have hou':Own (wr.drewN nq) gu (ni L):=hou;have hov':Own (wr.drewN nq) gv (ni rv):=hov;have hoq':Own (wr.drewN nq) gq (List.replicate (j+1) 0++ni qs):=hoq;clear hbw hou hov hoq hc2 hd1 hd2 hguw hgvw hgqw;generalize wr.drewN nq=wz at *
      clear wr;obtain⟨wr,hwr⟩:∃ wr:World,wr=wz:=⟨_,rfl⟩;subst hwr;have hbw:=hbw';have hou:=hou';have hov:=hov';have hoq:=hoq';clear hbw' hou' hov' hoq';obtain⟨hc2,hd1,hd2⟩:=HCELL.out _ hou hov;clear hc2 hd2;have hr0:(0:Int)≤(rest:Int):=by omega
      have hr1:(rest:Int)<1000000000:=by omega
      have HR:=zz hrest;clear hrest;by_cases hbr:1000000000≤rest+v1
      ·obtain⟨hdl,hst⟩:=w0.out.broke PP.out hbr;have y0:=zz (w0.out.stop PP.out hdl hst);have D0:=zz w0.out.le;have hdl0:=zz hdl;have hbr':(1000000000:Int)≤(rest:Int)+(v1:Int):=by omega
       clear hdl;clear hst w0 hbr;generalize hri:(rest:Int)=ri at *
       clear hri;go_wp2_with fail
       rw[z0.out];have hdl:=hdl0.out;have hc2:=True.intro;have hd2:=True.intro;clear hc2 hd1 hd2;obtain⟨hguv,hgq,hg0,hgq0,hfp,hm',hlab⟩:=HX.out;have hou2:Own wr gu (ni (L.take j)++(ni ((L.drop j).take (n+1))++ni (L.drop (j+n+1)))):=by rw[← ni_append,← ni_append,← PL.out.eq];exact hou
       have hvx:RIx wr wr.heap.size gu (.slice (some ⟨gv,0,none⟩) n (n+1)) (ni (rv.take n)):=own_rix hov (by omega) (by rw[v0.out];omega) (by omega) (by omega);have hlow:(e:Int)*(val (rv.take n):Int)≤(val ((L.drop j).take (n+1)):Int)+(bp n:Int):=by
        rw[t0.out,← Int.natCast_mul];have h1:=y0.out;have h2:=x0.out
        omega
       have A0:=zz hlow;clear hlow;rw[show j+n+1-j=n+1 by omega]
       with_reducible refine(less_any _ gu j _ e n (ni (L.take j)) (ni (L.drop (j+n+1))) ((L.drop j).take (n+1)) (rv.take n) _ (by rw[ni_length];exact PL.out.pre) (by exact hou2) PL.out.len s0.out PL.out.small r0.out (by exact hvx) hdl (by omega) A0.out).mono ?_
       rintro e' w5 ⟨honly,R,hRl,hRs,hRo,(⟨rfl,hle,hval⟩ | ⟨rfl,hlt,hval⟩)⟩
       ·have honly':Only gu wr w5:=honly;have hbw5:Below w.heap.size w w5:=hbw.trans (honly'.below hg0 hbw.size);have hov5:=hov.only honly' (by omega);have hoq5:=hoq.only honly' (by omega);have hq1:=own_at hoq5 j (by simp;omega);have hq2:at0 (List.replicate (j+1) 0++ni qs) j=0:=by rw[at0_append_left (by simp)];exact at0_zeros _ _
        rw[hq2] at hq1;have hqf:=hoq5.frozen j;rw[t0.out] at hle hval;have B0:=zz (place_less (by have:=(PP.out).v_pos;have:=(PP.out).m;omega) D0.out hle hval);have hgw5:=hoq5.lt;clear hle hval hq2 honly honly' hou2 hvx hou hov hoq hbw;go_wp2;rw[Exit.noGoto_normal];go_wp2;go_roundw
        case rel=>
         obtain⟨q1,q2⟩:=B0.out;have hV0:0<b*f:=by have:=(PP.out).v_pos;have:=(PP.out).m;omega
         have hnx:=hI.out.next PL.out hRl hRs hV0 q2 (hI.out.small.drop _);rw[← q1] at hnx;have hs:=hoq5.set j (e:Int) (by simp;omega);rw[set_top] at hs;have a0:((j:Int)-1+1).toNat=j:=by omega
         refine⟨_,_,_,by omega,by omega,rfl,by rw[a0];exact zz hnx,hbw5.setCell hgq0 _,?_,hov5.far (by show gv≠gq;omega) _,by rw[a0];exact hs⟩;rw[ni_append,ni_append];exact hRo.far (by show gu≠gq;omega) _
        case measure=>simp[intOf]
       ·have honly':Only gu wr w5:=honly;have hbw5:Below w.heap.size w w5:=hbw.trans (honly'.below hg0 hbw.size);have hov5:=hov.only honly' (by omega);have hoq5:=hoq.only honly' (by omega);have hvx5:RIx w5 w5.heap.size gu (.slice (some ⟨gv,0,none⟩) n (n+1)) (ni (rv.take n)):=own_rix hov5 (by omega) (by rw[v0.out];omega) (by omega) (by omega);have hd0:0<e:=by
         apply Nat.pos_of_ne_zero
         intro h0;rw[h0,Nat.zero_mul] at hlt
         omega
        obtain⟨d',hd'⟩:∃ d',e=d'+1:=⟨e-1,by omega⟩;have E0:=zz hlt;have C0:=zz hval;clear hlt hval honly hou2 hvx hou hov hoq hbw hd0;have HD':=zz (show(e:Int)-1=(d':Int) by omega);have hdl':d'<1000000000:=by omega
        clear hd';go_wp2_with fail
        rw[show j+n+1-j=n+1 by omega]
        with_reducible refine(more_any _ gu j _ n (ni (L.take j)) (ni (L.drop (j+n+1))) R (rv.take n) _ (by rw[ni_length];exact PL.out.pre) (by exact hRo) hRl s0.out hRs r0.out (by exact hvx5) (by omega)).mono ?_
        rintro e'' w6 ⟨rfl,honly2,R2,hR2l,hR2s,hR2o,q,hq⟩;have hbw6:Below w.heap.size w w6:=hbw5.trans (honly2.below hg0 hbw5.size);have hov6:=hov5.only honly2 (by omega);have hoq6:=hoq5.only honly2 (by omega);have hq1:=own_at hoq6 j (by simp;omega);have hq2:at0 (List.replicate (j+1) 0++ni qs) j=0:=by rw[at0_append_left (by simp)];exact at0_zeros _ _
        rw[hq2] at hq1;have hqf:=hoq6.frozen j;have HQ:=zz hq;have hgw6:=hoq6.lt;clear hq hq2 honly' hvx5 hov5 hoq5 hbw5 honly2 hRo;go_wp2;rw[Exit.noGoto_normal];go_wp2;go_roundw
        case rel=>
         have hV0:0<b*f:=by have:=(PP.out).v_pos;have:=(PP.out).m;omega
         have h1:=E0.out;have h2:=C0.out;have h3:=HQ.out;rw[t0.out] at h1 h2 h3;have F0:b*f<bp (n+1):=Nat.lt_trans x0.out (bp_lt (by omega));have G0:val R2<bp (n+1):=by have:=val_lt hR2s;rwa [hR2l] at this
         obtain⟨q1,q2⟩:=place_more hV0 y0.out h1 h2 h3 F0 G0;have hnx:=hI.out.next PL.out hR2l hR2s hV0 q2 (hI.out.small.drop _);rw[← q1] at hnx;have e9:e-1=d':=by have:=HD'.out;omega
         rw[e9] at hnx;have hs:=hoq6.set j (d':Int) (by simp;omega);rw[set_top,← HD'.out] at hs;have a0:((j:Int)-1+1).toNat=j:=by omega
         refine⟨_,_,_,by omega,by omega,rfl,by rw[a0];exact zz hnx,hbw6.setCell hgq0 _,?_,hov6.far (by show gv≠gq;omega) _,by rw[a0];exact hs⟩;rw[ni_append,ni_append];exact hR2o.far (by show gu≠gq;omega) _
        case measure=>simp[intOf]
      ·have hbr':(rest:Int)+(v1:Int)<1000000000:=by omega
       have I0:=zz hbr;clear hbr;generalize hri:(rest:Int)=ri at *
       have J0:=zz hri;clear hri;go_wp2;go_roundw
       case rel=>exact⟨e,rest+v1,by rw[z0.out],by rw[← J0.out];go_num,by have:=I0.out;omega,w0,hbw,hou,hov,hoq⟩
       case measure=>simp[intOf];have:=z0.out;omega
    ·have hdl:d<1000000000:=by omega
     have hst:d*v2≤rest*1000000000+u2:=by omega
     have y0:=zz (hG.out.stop PP.out hdl hst);have D0:=zz hG.out.le;have ht2:(d:Int)*(v2:Int)≤(rest:Int)*1000000000+(u2:Int):=by
      have h2:((d*v2:Nat):Int)≤((rest*1000000000+u2:Nat):Int):=by omega
      rw[Int.natCast_mul] at h2
      omega
     have t1':(d:Int)<1000000000:=by omega
     have hdec:decide ((1000000000:Int)≤(d:Int))=false:=by simp;omega
     clear hst hG t hdb;generalize hDd:(d:Int)=D at *
     have X0:=zz hDd;clear hDd;have hdl0:=zz hdl;clear hdl;go_wp2;go_quiet (fail)
     rename_i nq
     have hbw':=below_drewN hbw nq;have hou':Own (wr.drewN nq) gu (ni L):=hou;have hov':Own (wr.drewN nq) gv (ni rv):=hov;have hoq':Own (wr.drewN nq) gq (List.replicate (j+1) 0++ni qs):=hoq;clear hbw hou hov hoq hc2 hd1 hd2 hguw hgvw hgqw hdv0 hdv1;generalize wr.drewN nq=wz at *
     clear wr;obtain⟨wr,hwr⟩:∃ wr:World,wr=wz:=⟨_,rfl⟩;subst hwr;have hbw:=hbw';have hou:=hou';have hov:=hov';have hoq:=hoq';clear hbw' hou' hov' hoq';obtain⟨hc2,hd1,hd2⟩:=HCELL.out _ hou hov;go_wp2_with fail
     rw[← X0.out];have hdl:=hdl0.out;clear hc2 hd1 hd2;obtain⟨hguv,hgq,hg0,hgq0,hfp,hm',hlab⟩:=HX.out;have hou2:Own wr gu (ni (L.take j)++(ni ((L.drop j).take (n+1))++ni (L.drop (j+n+1)))):=by rw[← ni_append,← ni_append,← PL.out.eq];exact hou
     have hvx:RIx wr wr.heap.size gu (.slice (some ⟨gv,0,none⟩) n (n+1)) (ni (rv.take n)):=own_rix hov (by omega) (by rw[v0.out];omega) (by omega) (by omega);have hlow:(d:Int)*(val (rv.take n):Int)≤(val ((L.drop j).take (n+1)):Int)+(bp n:Int):=by
      rw[t0.out,← Int.natCast_mul];have h1:=y0.out;have h2:=x0.out
      omega
     have A0:=zz hlow;clear hlow;rw[show j+n+1-j=n+1 by omega]
     with_reducible refine(less_any _ gu j _ d n (ni (L.take j)) (ni (L.drop (j+n+1))) ((L.drop j).take (n+1)) (rv.take n) _ (by rw[ni_length];exact PL.out.pre) (by exact hou2) PL.out.len s0.out PL.out.small r0.out (by exact hvx) hdl (by omega) A0.out).mono ?_
     rintro e' w5 ⟨honly,R,hRl,hRs,hRo,(⟨rfl,hle,hval⟩ | ⟨rfl,hlt,hval⟩)⟩
     ·have honly':Only gu wr w5:=honly;have hbw5:Below w.heap.size w w5:=hbw.trans (honly'.below hg0 hbw.size);have hov5:=hov.only honly' (by omega);have hoq5:=hoq.only honly' (by omega);have hq1:=own_at hoq5 j (by simp;omega);have hq2:at0 (List.replicate (j+1) 0++ni qs) j=0:=by rw[at0_append_left (by simp)];exact at0_zeros _ _
      rw[hq2] at hq1;have hqf:=hoq5.frozen j;rw[t0.out] at hle hval;have B0:=zz (place_less (by have:=(PP.out).v_pos;have:=(PP.out).m;omega) D0.out hle hval);have hgw5:=hoq5.lt;clear hle hval hq2 honly honly' hou2 hvx hou hov hoq hbw;go_wp2;rw[Exit.noGoto_normal];go_wp2;go_roundw
      case rel=>
       obtain⟨q1,q2⟩:=B0.out;have hV0:0<b*f:=by have:=(PP.out).v_pos;have:=(PP.out).m;omega
       have hnx:=hI.out.next PL.out hRl hRs hV0 q2 (hI.out.small.drop _);rw[← q1] at hnx;have hs:=hoq5.set j (d:Int) (by simp;omega);rw[set_top] at hs;have a0:((j:Int)-1+1).toNat=j:=by omega
       refine⟨_,_,_,by omega,by omega,rfl,by rw[a0];exact zz hnx,hbw5.setCell hgq0 _,?_,hov5.far (by show gv≠gq;omega) _,by rw[a0];exact hs⟩;rw[ni_append,ni_append];exact hRo.far (by show gu≠gq;omega) _
      case measure=>simp[intOf]
     ·have honly':Only gu wr w5:=honly;have hbw5:Below w.heap.size w w5:=hbw.trans (honly'.below hg0 hbw.size);have hov5:=hov.only honly' (by omega);have hoq5:=hoq.only honly' (by omega);have hvx5:RIx w5 w5.heap.size gu (.slice (some ⟨gv,0,none⟩) n (n+1)) (ni (rv.take n)):=own_rix hov5 (by omega) (by rw[v0.out];omega) (by omega) (by omega);have hd0:0<d:=by
       apply Nat.pos_of_ne_zero
       intro h0;rw[h0,Nat.zero_mul] at hlt
       omega
      obtain⟨d',hd'⟩:∃ d',d=d'+1:=⟨d-1,by omega⟩;have E0:=zz hlt;have C0:=zz hval;clear hlt hval honly hou2 hvx hou hov hoq hbw hd0;have HD':=zz (show(d:Int)-1=(d':Int) by omega);have hdl':d'<1000000000:=by omega
      clear hd';go_wp2_with fail
      rw[show j+n+1-j=n+1 by omega]
      with_reducible refine(more_any _ gu j _ n (ni (L.take j)) (ni (L.drop (j+n+1))) R (rv.take n) _ (by rw[ni_length];exact PL.out.pre) (by exact hRo) hRl s0.out hRs r0.out (by exact hvx5) (by omega)).mono ?_
      rintro e'' w6 ⟨rfl,honly2,R2,hR2l,hR2s,hR2o,q,hq⟩;have hbw6:Below w.heap.size w w6:=hbw5.trans (honly2.below hg0 hbw5.size);have hov6:=hov5.only honly2 (by omega);have hoq6:=hoq5.only honly2 (by omega);have hq1:=own_at hoq6 j (by simp;omega);have hq2:at0 (List.replicate (j+1) 0++ni qs) j=0:=by rw[at0_append_left (by simp)];exact at0_zeros _ _
      rw[hq2] at hq1;have hqf:=hoq6.frozen j;have HQ:=zz hq;have hgw6:=hoq6.lt;clear hq hq2 honly' hvx5 hov5 hoq5 hbw5 honly2 hRo;go_wp2;rw[Exit.noGoto_normal];go_wp2;go_roundw
      case rel=>
       have hV0:0<b*f:=by have:=(PP.out).v_pos;have:=(PP.out).m;omega
       have h1:=E0.out;have h2:=C0.out;have h3:=HQ.out;rw[t0.out] at h1 h2 h3;have F0:b*f<bp (n+1):=Nat.lt_trans x0.out (bp_lt (by omega));have G0:val R2<bp (n+1):=by have:=val_lt hR2s;rwa [hR2l] at this
       obtain⟨q1,q2⟩:=place_more hV0 y0.out h1 h2 h3 F0 G0;have hnx:=hI.out.next PL.out hR2l hR2s hV0 q2 (hI.out.small.drop _);rw[← q1] at hnx;have e9:d-1=d':=by have:=HD'.out;omega
       rw[e9] at hnx;have hs:=hoq6.set j (d':Int) (by simp;omega);rw[set_top,← HD'.out] at hs;have a0:((j:Int)-1+1).toNat=j:=by omega
       refine⟨_,_,_,by omega,by omega,rfl,by rw[a0];exact zz hnx,hbw6.setCell hgq0 _,?_,hov6.far (by show gv≠gq;omega) _,by rw[a0];exact hs⟩;rw[ni_append,ni_append];exact hR2o.far (by show gu≠gq;omega) _
      case measure=>simp[intOf]
  ·obtain rfl:m=-1:=by omega
   rw[show((-1:Int)+1).toNat=0 by rfl] at hI hoq;rw[List.replicate_zero,List.nil_append] at hoq;have hfin:=hI.out.fin hfp;have hq1:=hI.out.qlen;have hlt:val L<bp n:=Nat.lt_trans (by have:=hI.out.high;rwa [List.drop_zero] at this) x0.out;have hru:=own_rn_take (n:=n) (c:=la+1) hou (by rw[hI.out.len];omega) (by omega) (by omega);have hsL:=hI.out.small.take n;have htv:val (L.take n)=a % b*f:=by rw[take_val (by rw[hI.out.len];omega) hlt];exact hfin.2
   have hqs:=hI.out.qsmall;have N0:=zz hfin.1;have Y0:=zz htv;have Z0:=zz (show qs.length=la-n+1 by omega);have hlen5:(dig (a % b*f)).length≤3000000000:=dig_len_le.2 (Nat.lt_trans (by rw[← htv];exact Nat.lt_of_le_of_lt (val_take_le _ _) hlt) (bp_lt (by omega)));have a1:=zz hlen5;clear hfin htv hlen5 hq1 hlt hI;go_wp2_with fail
   refine(Trim_any _ _ (L.take n) hru hsL).mono ?_;rintro e5 w5 ⟨c0,v5,rfl,k0⟩;rw[Y0.out] at k0;have hoq5:=hoq.step c0;clear hru hsL;go_wp2_with fail
   refine(Part_any _ _ (a % b*f) f k0 a1.out hfp hf).mono ?_;rintro e6 w6 ⟨d0,v6,rfl,l0⟩;rw[Nat.mul_div_cancel _ hfp] at l0;have hoq6:=hoq5.step d0;have hqn:=own_rn hoq6 (la-n+1) (la-n+1) Z0.out.symm (Nat.le_refl _) (by omega);have b1:=zz l0;clear k0 l0 hoq5;go_wp2_with fail
   refine(Trim_blk _ _ qs hqn hqs).mono ?_;rintro e7 w7 ⟨o0,v7,rfl,m0,hnw7⟩;have c1:=zz (hnw7 _ (NewC.at hgq0));clear hnw7;rw[N0.out] at m0;have n0:=b1.out.step o0;have hbz:Below w.heap.size w w7:=((hbw.trans (c0.mono hbw.size)).trans (d0.mono (Nat.le_trans hbw.size c0.size))).trans (o0.mono (Nat.le_trans hbw.size (Nat.le_trans c0.size d0.size)));have O0:=zz n0;have d1:=zz m0;have e1:=zz hbz;clear n0 m0 hbz;go_wp2
   try rw[Exit.noGoto_ret]
   go_ret2;exact⟨e1.out,_,_,rfl,d1.out,O0.out,c1.out⟩
theorem Over_new (w:World) (va vb:Value) (a b:Nat) (ha:RN w w.heap.size va (dig a)) (hb:RN w w.heap.size vb (dig b)) (a0:b≠0) (hl:(dig a).length≤300000000) :
  Calls Tryz.prog 104 #[va,vb] w fun e w'=>Below w.heap.size w w'∧∃ v v',e=.returned (.tuple #[v,v'])∧RN w' w'.heap.size v (dig (a / b))∧RN w' w'.heap.size v' (dig (a % b))∧NewC w.heap.size v:=by
 by_cases hlt:a<b
 ·exact Over_small w va vb a b ha hb hlt
 ·have h0:=dig_len_pos a0;by_cases h1:(dig b).length=1
  ·exact Over_one w va vb a b ha hb (by omega) h1 (by omega)
  ·exact Over_long w va vb a b ha hb (by omega) (by omega) hl
theorem Over_any (w:World) (va vb:Value) (a b:Nat) (ha:RN w w.heap.size va (dig a)) (hb:RN w w.heap.size vb (dig b)) (hb0:b≠0) (hl:(dig a).length≤300000000) :
  Calls Tryz.prog 104 #[va,vb] w fun e w'=>Below w.heap.size w w'∧∃ v v',e=.returned (.tuple #[v,v'])∧RN w' w'.heap.size v (dig (a / b))∧RN w' w'.heap.size v' (dig (a % b)):=
 (Over_new w va vb a b ha hb hb0 hl).mono fun _ _ ⟨hb,v,v',he,hv,hv',_⟩=>⟨hb,v,v',he,hv,hv'⟩
theorem Plus_any (w:World) (va vb:Value) (a b:Nat) (ha:RN w w.heap.size va (dig a)) (hb:RN w w.heap.size vb (dig b)) (hl:(dig a).length≤3000000000) (hl':(dig b).length≤3000000000) :
  Calls Tryz.prog 105 #[va,vb] w fun e w'=>Below w.heap.size w w'∧∃ v,e=.returned v∧RN w' w'.heap.size v (dig (a+b)):=by
 obtain⟨A,ca,rfl,hca,hca',hA⟩:=ha.cell;obtain⟨Bb,cb,rfl,hcb,hcb',hB⟩:=hb.cell;replace hA:=zz hA;replace hB:=zz hB;clear ha hb;by_cases hlt:(dig a).length<(dig b).length
 ·have hge:(dig a).length≤(dig b).length:=by omega
  have hmk:=mk_size ((dig b).length+1) (by omega);simp only[Int.natCast_add,Int.natCast_one] at hmk
  have hsc:((List.replicate ((dig b).length+1) (0:Int)).map (Value.int .i64)).length=(dig b).length+1:=by simp
  have hsx:((ni (dig b)).map (Value.int .i64)).length=(dig b).length:=by simp[ni]
  have hown:Hid ((w.alloc (zerosObj ((dig b).length+1))).heap[w.heap.size]?=some (.cells ((List.replicate ((dig b).length+1) (0:Int)).map (Value.int .i64)).toArray 3 (0,0))):=zz (heap_alloc_new w _);have a0:Below w.heap.size w (w.alloc (zerosObj ((dig b).length+1))):=(Below.refl _ _).alloc (Nat.le_refl _) _;obtain⟨cur,hcur⟩:∃ cur,cur=(List.replicate ((dig b).length+1) (0:Int)).map (Value.int .i64):=⟨_,rfl⟩;obtain⟨cs,hcs⟩:∃ cs,cs=(ni (dig b)).map (Value.int .i64):=⟨_,rfl⟩;rw[← hcur] at hown hsc;rw[← hcs] at hsx;have h0:=zz hcur;have d0:=zz hcs;clear hcur hcs;have i0:=zz hsc;have e0:=zz hsx;clear hsc hsx;go_enter Tryz.func105,Tryz.ntmps105
  go_wp2_with (with_reducible refine wpList_copy_splice rfl (.tmp 20) (.tmp 21) 80 80 rfl 3 Tryz.underlying80 (by kernel_rfl) (some ⟨w.heap.size,0,none⟩) Bb ((dig b).length+1) ((dig b).length+1) (dig b).length cb rfl rfl w.heap.size 0 cur 3 hown.out cs ?c1 ?c2 ?c3 ?c4 w.heap.size w a0 (Nat.le_refl _) ?_)
  case c1=>rw[e0.out];exact(Nat.min_eq_left (by omega)).symm
  case c2=>
   intro hp;rw[e0.out] at hp;obtain⟨bk,off,rfl,hbk,hx⟩:=hB.out hp
   first | refine⟨rfl,_,rfl,fun j v hj=>?_⟩ | refine⟨_,rfl,fun j v hj=>?_⟩
   rw[d0.out] at hj;have hjl:j<(dig b).length:=by have:=(List.getElem?_eq_some_iff.1 hj).1;simpa[ni] using this
   rw[Addr.add_lit,a0.cell (p:=⟨bk,off+j,none⟩) hbk,hx j hjl,← hj];simp[ni,hjl]
  case c3=>rw[e0.out,i0.out];omega
  case c4=>rw[d0.out];exact ints_oneCell _ _
  intro w1 hrow b0;have ho1:Own w1 w.heap.size (ni (dig b)++[0]):=by
   refine⟨[],?_⟩;have:=hrow.out;rw[h0.out,d0.out] at this;rw[this];simp[splice,ni,List.replicate_succ']
  clear hrow hown a0;have hA0:=zz (PlusA.start (y:=dig a) (dig_small b));generalize hg:w.heap.size=g at *
  go_wp2;go_loopw [25] (fun i wr=>∃ (k:Nat) (out:List Int),k≤(dig a).length∧i=.int .i64 k∧Hid (PlusA (dig b) (dig a) k out)∧Below g w wr∧Own wr g out) (fun i _=>(dig a).length-(intOf i).toNat)
  case atStart=>exact⟨0,_,by omega,rfl,hA0,b0,ho1⟩
  case round=>
   clear b0 ho1 hA0;obtain⟨k,out,hk,rfl,hP,hbw,ho⟩:=hrel;have hgw:g<wr.heap.size:=ho.lt;have hlen:=zz hP.out.len;by_cases hlk:k<(dig a).length
   ·obtain⟨bk,off,rfl,hbk,hx⟩:=hA.out (by omega);have h1:=(hbw.cell (p:=⟨bk,off+k,none⟩) hbk).trans (hx k (by omega));replace hx:=zz hx;have hyk:(dig a)[k]<1000000000:=dig_small a _ (List.getElem_mem hlk);have h2:=own_at ho k (by have:=hlen.out;omega);have h2l:=hP.out.lo k;have h2h:=hP.out.hi k;have hf:=ho.frozen k;have HO:=zz ho;clear ho;obtain⟨z,hz⟩:∃ z,z=at0 out k:=⟨_,rfl⟩;rw[← hz] at h2 h2l h2h;have HZ:=zz hz;clear hz;go_wp2;go_roundw
    case rel=>
     have:=HO.out.set k (z+((dig a)[k]:Nat)) (by have:=hlen.out;omega);exact⟨k+1,_,by omega,by go_num,zz (hP.out.step (dig_small a) hlk hge),hbw.setCell (Nat.le_refl _) _,by rw[← HZ.out];exact this⟩
    case measure=>simp[intOf];omega
   ·obtain rfl:k=(dig a).length:=by omega
    have hB0:=zz (PlusB.start hP.out);clear hP;go_wp2;go_loopw [40] (fun i wr=>∃ (k:Nat) (out:List Int),k≤(dig b).length∧i=.int .i64 k∧Hid (PlusB (dig b) (dig a) k out)∧Below g w wr∧Own wr g out) (fun i _=>(dig b).length-(intOf i).toNat)
    case atStart=>exact⟨0,_,by omega,rfl,hB0,hbw,ho⟩
    case round=>
     clear hbw ho hB0 hlen hgw;obtain⟨k,out,hk,rfl,hP,hbw,ho⟩:=hrel;have hgw:g<wr.heap.size:=ho.lt;have hlen:=zz hP.out.len;by_cases hlk:k<(dig b).length
     ·have h2:=own_at ho k (by have:=hlen.out;omega);have h3:=own_at ho (k+1) (by have:=hlen.out;omega);have h2l:=hP.out.lo k;have h2h:=hP.out.here;have h3l:=hP.out.lo (k+1);have h3h:=hP.out.hi (k+1) (by omega);have hf:=ho.frozen k;have hf3:=ho.frozen (k+1);have HO:=zz ho;clear ho;obtain⟨z,hz⟩:∃ z,z=at0 out k:=⟨_,rfl⟩;obtain⟨z',hz'⟩:∃ z,z=at0 out (k+1):=⟨_,rfl⟩;rw[← hz] at h2 h2l h2h;rw[← hz'] at h3 h3l h3h;have HZ:=zz hz;have HZ':=zz hz';clear hz hz';by_cases hc:1000000000≤z
      ·go_wp2;go_roundw
       case rel=>
        have h4:=(HO.out.set k (z-1000000000) (by have:=hlen.out;omega)).set (k+1) (z'+1) (by have:=hlen.out;simp;omega);have h5:=hP.out.carry hlk (by rw[← HZ.out];exact hc);rw[← HZ.out,← HZ'.out] at h5;exact⟨k+1,_,by omega,by go_num,zz h5,(hbw.setCell (Nat.le_refl _) _).setCell (Nat.le_refl _) _,h4⟩
       case measure=>simp[intOf];omega
      ·have hc':z<1000000000:=by omega
       go_wp2;go_roundw
       case rel=>exact⟨k+1,_,by omega,by go_num,zz (hP.out.keep hlk (by rw[← HZ.out];exact hc')),hbw,HO.out⟩
       case measure=>simp[intOf];omega
     ·obtain rfl:k=(dig b).length:=by omega
      obtain⟨r,rfl,hrl,hrs,hrv⟩:=hP.out.fin;have hrn:=own_rn ho ((dig b).length+1) ((dig b).length+1) (by omega) (Nat.le_refl _) (by omega);have j0:=zz hrv;clear hrv hlen hrl;go_wp2_with (go_at_call 107;refine(Trim_any _ _ r hrn hrs).mono ?_;rintro e w2 ⟨c0,v',rfl,hv'⟩)
      go_ret;rw[j0.out,val_dig,val_dig,Nat.add_comm] at hv';exact⟨by rw[hg];exact hbw.trans (c0.mono (by omega)),_,rfl,hv'⟩
 ·have hge:(dig b).length≤(dig a).length:=by omega
  have hmk:=mk_size ((dig a).length+1) (by omega);simp only[Int.natCast_add,Int.natCast_one] at hmk
  have hsc:((List.replicate ((dig a).length+1) (0:Int)).map (Value.int .i64)).length=(dig a).length+1:=by simp
  have hsx:((ni (dig a)).map (Value.int .i64)).length=(dig a).length:=by simp[ni]
  have hown:Hid ((w.alloc (zerosObj ((dig a).length+1))).heap[w.heap.size]?=some (.cells ((List.replicate ((dig a).length+1) (0:Int)).map (Value.int .i64)).toArray 3 (0,0))):=zz (heap_alloc_new w _);have a0:Below w.heap.size w (w.alloc (zerosObj ((dig a).length+1))):=(Below.refl _ _).alloc (Nat.le_refl _) _;obtain⟨cur,hcur⟩:∃ cur,cur=(List.replicate ((dig a).length+1) (0:Int)).map (Value.int .i64):=⟨_,rfl⟩;obtain⟨cs,hcs⟩:∃ cs,cs=(ni (dig a)).map (Value.int .i64):=⟨_,rfl⟩;rw[← hcur] at hown hsc;rw[← hcs] at hsx;have h0:=zz hcur;have d0:=zz hcs;clear hcur hcs;have i0:=zz hsc;have e0:=zz hsx;clear hsc hsx;go_enter Tryz.func105,Tryz.ntmps105
  go_wp2_with (with_reducible refine wpList_copy_splice rfl (.tmp 20) (.tmp 21) 80 80 rfl 3 Tryz.underlying80 (by kernel_rfl) (some ⟨w.heap.size,0,none⟩) A ((dig a).length+1) ((dig a).length+1) (dig a).length ca rfl rfl w.heap.size 0 cur 3 hown.out cs ?c1 ?c2 ?c3 ?c4 w.heap.size w a0 (Nat.le_refl _) ?_)
  case c1=>rw[e0.out];exact(Nat.min_eq_left (by omega)).symm
  case c2=>
   intro hp;rw[e0.out] at hp;obtain⟨bk,off,rfl,hbk,hx⟩:=hA.out hp
   first | refine⟨rfl,_,rfl,fun j v hj=>?_⟩ | refine⟨_,rfl,fun j v hj=>?_⟩
   rw[d0.out] at hj;have hjl:j<(dig a).length:=by have:=(List.getElem?_eq_some_iff.1 hj).1;simpa[ni] using this
   rw[Addr.add_lit,a0.cell (p:=⟨bk,off+j,none⟩) hbk,hx j hjl,← hj];simp[ni,hjl]
  case c3=>rw[e0.out,i0.out];omega
  case c4=>rw[d0.out];exact ints_oneCell _ _
  intro w1 hrow b0;have ho1:Own w1 w.heap.size (ni (dig a)++[0]):=by
   refine⟨[],?_⟩;have:=hrow.out;rw[h0.out,d0.out] at this;rw[this];simp[splice,ni,List.replicate_succ']
  clear hrow hown a0;have hA0:=zz (PlusA.start (y:=dig b) (dig_small a));generalize hg:w.heap.size=g at *
  go_wp2;go_loopw [25] (fun i wr=>∃ (k:Nat) (out:List Int),k≤(dig b).length∧i=.int .i64 k∧Hid (PlusA (dig a) (dig b) k out)∧Below g w wr∧Own wr g out) (fun i _=>(dig b).length-(intOf i).toNat)
  case atStart=>exact⟨0,_,by omega,rfl,hA0,b0,ho1⟩
  case round=>
   clear b0 ho1 hA0;obtain⟨k,out,hk,rfl,hP,hbw,ho⟩:=hrel;have hgw:g<wr.heap.size:=ho.lt;have hlen:=zz hP.out.len;by_cases hlk:k<(dig b).length
   ·obtain⟨bk,off,rfl,hbk,hx⟩:=hB.out (by omega);have h1:=(hbw.cell (p:=⟨bk,off+k,none⟩) hbk).trans (hx k (by omega));replace hx:=zz hx;have hyk:(dig b)[k]<1000000000:=dig_small b _ (List.getElem_mem hlk);have h2:=own_at ho k (by have:=hlen.out;omega);have h2l:=hP.out.lo k;have h2h:=hP.out.hi k;have hf:=ho.frozen k;have HO:=zz ho;clear ho;obtain⟨z,hz⟩:∃ z,z=at0 out k:=⟨_,rfl⟩;rw[← hz] at h2 h2l h2h;have HZ:=zz hz;clear hz;go_wp2;go_roundw
    case rel=>
     have:=HO.out.set k (z+((dig b)[k]:Nat)) (by have:=hlen.out;omega);exact⟨k+1,_,by omega,by go_num,zz (hP.out.step (dig_small b) hlk hge),hbw.setCell (Nat.le_refl _) _,by rw[← HZ.out];exact this⟩
    case measure=>simp[intOf];omega
   ·obtain rfl:k=(dig b).length:=by omega
    have hB0:=zz (PlusB.start hP.out);clear hP;go_wp2;go_loopw [40] (fun i wr=>∃ (k:Nat) (out:List Int),k≤(dig a).length∧i=.int .i64 k∧Hid (PlusB (dig a) (dig b) k out)∧Below g w wr∧Own wr g out) (fun i _=>(dig a).length-(intOf i).toNat)
    case atStart=>exact⟨0,_,by omega,rfl,hB0,hbw,ho⟩
    case round=>
     clear hbw ho hB0 hlen hgw;obtain⟨k,out,hk,rfl,hP,hbw,ho⟩:=hrel;have hgw:g<wr.heap.size:=ho.lt;have hlen:=zz hP.out.len;by_cases hlk:k<(dig a).length
     ·have h2:=own_at ho k (by have:=hlen.out;omega);have h3:=own_at ho (k+1) (by have:=hlen.out;omega);have h2l:=hP.out.lo k;have h2h:=hP.out.here;have h3l:=hP.out.lo (k+1);have h3h:=hP.out.hi (k+1) (by omega);have hf:=ho.frozen k;have hf3:=ho.frozen (k+1);have HO:=zz ho;clear ho;obtain⟨z,hz⟩:∃ z,z=at0 out k:=⟨_,rfl⟩;obtain⟨z',hz'⟩:∃ z,z=at0 out (k+1):=⟨_,rfl⟩;rw[← hz] at h2 h2l h2h;rw[← hz'] at h3 h3l h3h;have HZ:=zz hz;have HZ':=zz hz';clear hz hz';by_cases hc:1000000000≤z
      ·go_wp2;go_roundw
       case rel=>
        have h4:=(HO.out.set k (z-1000000000) (by have:=hlen.out;omega)).set (k+1) (z'+1) (by have:=hlen.out;simp;omega);have h5:=hP.out.carry hlk (by rw[← HZ.out];exact hc);rw[← HZ.out,← HZ'.out] at h5;exact⟨k+1,_,by omega,by go_num,zz h5,(hbw.setCell (Nat.le_refl _) _).setCell (Nat.le_refl _) _,h4⟩
       case measure=>simp[intOf];omega
      ·have hc':z<1000000000:=by omega
       go_wp2;go_roundw
       case rel=>exact⟨k+1,_,by omega,by go_num,zz (hP.out.keep hlk (by rw[← HZ.out];exact hc')),hbw,HO.out⟩
       case measure=>simp[intOf];omega
     ·obtain rfl:k=(dig a).length:=by omega
      obtain⟨r,rfl,hrl,hrs,hrv⟩:=hP.out.fin;have hrn:=own_rn ho ((dig a).length+1) ((dig a).length+1) (by omega) (Nat.le_refl _) (by omega);have j0:=zz hrv;clear hrv hlen hrl;go_wp2_with (go_at_call 107;refine(Trim_any _ _ r hrn hrs).mono ?_;rintro e w2 ⟨c0,v',rfl,hv'⟩)
      go_ret;rw[j0.out,val_dig,val_dig] at hv';exact⟨by rw[hg];exact hbw.trans (c0.mono (by omega)),_,rfl,hv'⟩
theorem Minus_any (w:World) (va vb:Value) (a b:Nat) (ha:RN w w.heap.size va (dig a)) (hb:RN w w.heap.size vb (dig b)) (hl:(dig a).length≤3000000000) (hle:b≤a) :
  Calls Tryz.prog 106 #[va,vb] w fun e w'=>Below w.heap.size w w'∧∃ v,e=.returned v∧RN w' w'.heap.size v (dig (a-b)):=by
 have e0:=zz ha;obtain⟨A,ca,rfl,hca,hca',hA⟩:=ha.cell;obtain⟨Bb,cb,rfl,hcb,hcb',hB⟩:=hb.cell;have hge:(dig b).length≤(dig a).length:=dig_len_mono hle;replace hB:=zz hB;clear ha hb hA;go_enter Tryz.func106,Tryz.ntmps106
 go_wp2_with (go_at_call 92;refine(clone_size _ _ (ni (dig a)) e0.out (by rw[ni_length];omega)).mono ?_;rintro e w1 ⟨a0,v1,rfl,b0⟩)
 rcases b0.form with ⟨rfl,hnil⟩ | ⟨g,cap,rfl,hcap,hcap',hg,ho1⟩
 ·have hla:(dig a).length=0:=by have:=congrArg List.length hnil;rwa [ni_length] at this
  have hlb:(dig b).length=0:=by omega
  have ha0:a=0:=dig_eq_nil.1 (List.eq_nil_of_length_eq_zero hla);have f0:=zz ha0;rw[hlb];clear hnil hla hlb ha0 b0;go_wp2;go_loopw [13] (fun i wr=>i=.int .i64 0∧Below w.heap.size w wr) (fun _ _=>0)
  case atStart=>exact⟨rfl,a0⟩
  case round=>
   obtain⟨rfl,hbw⟩:=hrel;go_wp2;go_loopw [28] (fun i wr=>i=.int .i64 0∧Below w.heap.size w wr) (fun _ _=>0)
   case atStart=>exact⟨rfl,hbw⟩
   case round=>
    clear hbw;obtain⟨rfl,hbw⟩:=hrel;go_wp2_with (go_at_call 107;refine(Trim_any _ _ [] (RI.nil _ _) Small.nil).mono ?_;rintro e w2 ⟨c0,v',rfl,hv'⟩)
    go_ret;refine⟨hbw.trans (c0.mono hbw.size),_,rfl,?_⟩;have:a-b=0:=by have:=f0.out;omega
    rw[this];exact hv'
 ·simp only[ni_length] at hcap
  rw[ni_length];have hA0:=zz (MinusA.start (y:=dig b) (dig_small a));clear b0;go_wp2;go_loopw [13] (fun i wr=>∃ (k:Nat) (out:List Int),k≤(dig b).length∧i=.int .i64 k∧Hid (MinusA (dig a) (dig b) k out)∧Below w.heap.size w wr∧Own wr g out) (fun i _=>(dig b).length-(intOf i).toNat)
  case atStart=>exact⟨0,_,by omega,rfl,hA0,a0,ho1⟩
  case round=>
   clear a0 ho1 hA0;obtain⟨k,out,hk,rfl,hP,hbw,ho⟩:=hrel;have hgw:g<wr.heap.size:=ho.lt;have hlen:=zz hP.out.len;by_cases hlk:k<(dig b).length
   ·obtain⟨bk,off,rfl,hbk,hx⟩:=hB.out (by omega);have h1:=(hbw.cell (p:=⟨bk,off+k,none⟩) hbk).trans (hx k (by omega));replace hx:=zz hx;have hyk:(dig b)[k]<1000000000:=dig_small b _ (List.getElem_mem hlk);have h2:=own_at ho k (by have:=hlen.out;omega);have h2l:=hP.out.lo k;have h2h:=hP.out.hi k;have hf:=ho.frozen k;have HO:=zz ho;clear ho;obtain⟨z,hz⟩:∃ z,z=at0 out k:=⟨_,rfl⟩;rw[← hz] at h2 h2l h2h;have HZ:=zz hz;clear hz;go_wp2;go_roundw
    case rel=>
     have:=HO.out.set k (z-((dig b)[k]:Nat)) (by have:=hlen.out;omega);exact⟨k+1,_,by omega,by go_num,zz (hP.out.step (dig_small b) hlk hge),hbw.setCell hg _,by rw[← HZ.out];exact this⟩
    case measure=>simp[intOf];omega
   ·obtain rfl:k=(dig b).length:=by omega
    have hB0:=zz (MinusB.start hP.out (by rw[val_dig,val_dig];exact hle));clear hP;go_wp2;go_loopw [28] (fun i wr=>∃ (k:Nat) (out:List Int),k≤(dig a).length∧i=.int .i64 k∧Hid (MinusB (val (dig a)-val (dig b)) (dig a).length k out)∧Below w.heap.size w wr∧Own wr g out) (fun i _=>(dig a).length-(intOf i).toNat)
    case atStart=>exact⟨0,_,by omega,rfl,hB0,hbw,ho⟩
    case round=>
     clear hbw ho hB0 hlen hgw;obtain⟨k,out,hk,rfl,hP,hbw,ho⟩:=hrel;have hgw:g<wr.heap.size:=ho.lt;have hlen:=zz hP.out.len;by_cases hlk:k<(dig a).length
     ·have h2:=own_at ho k (by have:=hlen.out;omega);have h2l:=hP.out.lo k;have h2h:=hP.out.hi k;have hf:=ho.frozen k;by_cases hc:at0 out k<0
      ·have hroom:k+1<(dig a).length:=hP.out.room hlk hc;have h3:=own_at ho (k+1) (by have:=hlen.out;omega);have h3l:=hP.out.lo (k+1);have h3h:=hP.out.hi (k+1);have hf3:=ho.frozen (k+1);have HO:=zz ho;clear ho;have h5:=zz (hP.out.borrow hroom hc);obtain⟨z,hz⟩:∃ z,z=at0 out k:=⟨_,rfl⟩;obtain⟨z',hz'⟩:∃ z,z=at0 out (k+1):=⟨_,rfl⟩;rw[← hz,← hz'] at h5;rw[← hz] at h2 h2l h2h hc;rw[← hz'] at h3 h3l h3h;clear hz hz';go_wp2;go_roundw
       case rel=>
        have h4:=(HO.out.set k (z+1000000000) (by have:=hlen.out;omega)).set (k+1) (z'-1) (by have:=hlen.out;simp;omega);exact⟨k+1,_,by omega,by go_num,h5,(hbw.setCell hg _).setCell hg _,h4⟩
       case measure=>simp[intOf];omega
      ·have HO:=zz ho;clear ho;have h5:=zz (hP.out.keep (by omega));obtain⟨z,hz⟩:∃ z,z=at0 out k:=⟨_,rfl⟩;rw[← hz] at h2 h2l h2h hc;clear hz;have hc':0≤z:=by omega
       go_wp2;go_roundw
       case rel=>exact⟨k+1,_,by omega,by go_num,h5,hbw,HO.out⟩
       case measure=>simp[intOf];omega
     ·obtain rfl:k=(dig a).length:=by omega
      obtain⟨r,rfl,hrl,hrs,hrv⟩:=hP.out.fin;have hrn:=own_rn ho (dig a).length cap hrl.symm (by omega) (by omega);have g0:=zz hrv;clear hrv hlen hrl;go_wp2_with (go_at_call 107;refine(Trim_any _ _ r hrn hrs).mono ?_;rintro e w2 ⟨c0,v',rfl,hv'⟩)
      go_ret;rw[g0.out,val_dig,val_dig] at hv';exact⟨hbw.trans (c0.mono hbw.size),_,rfl,hv'⟩
theorem Times_new (w:World) (va vb:Value) (a b:Nat) (ha:RN w w.heap.size va (dig a)) (hb:RN w w.heap.size vb (dig b)) (hl:(dig a).length≤3000000000) (hl':(dig b).length≤3000000000) :
  Calls Tryz.prog 85 #[va,vb] w fun e w'=>Below w.heap.size w w'∧∃ v,e=.returned v∧RN w' w'.heap.size v (dig (a*b))∧NewC w.heap.size v:=by
 obtain⟨A,ca,rfl,hca,hca',hA⟩:=ha.cell;obtain⟨Bb,cb,rfl,hcb,hcb',hB⟩:=hb.cell;replace hA:=zz hA;replace hB:=zz hB;clear ha hb;have hmk:=mk_size ((dig a).length+(dig b).length) (by omega);simp only[Int.natCast_add] at hmk
 go_enter Tryz.func85,Tryz.ntmps85
 go_wp2;have ho1:=own_new w ((dig a).length+(dig b).length);have a0:Below w.heap.size w (w.alloc (zerosObj ((dig a).length+(dig b).length))):=(Below.refl _ _).alloc (Nat.le_refl _) _;generalize hg:w.heap.size=g at *
 generalize w.alloc (zerosObj ((dig a).length+(dig b).length))=w1 at *
 have hT0:=zz (TimesA.start (dig a) (dig b));go_loopw [20] (fun i wr=>∃ (k:Nat) (out:List Int),k≤(dig a).length∧i=.int .i64 k∧Hid (TimesA (dig a) (dig b) k 0 0 out)∧Below g w wr∧Own wr g out) (fun i _=>(dig a).length-(intOf i).toNat)
 case atStart=>exact⟨0,_,by omega,rfl,hT0,a0,ho1⟩
 case round=>
  clear a0 ho1 hT0;obtain⟨i,out,hk,rfl,hP,hbw,ho⟩:=hrel;have hgw:g<wr.heap.size:=ho.lt;by_cases hlk:i<(dig a).length
  ·obtain⟨bk,off,rfl,hbk,hx⟩:=hA.out (by omega);have h1:=(hbw.cell (p:=⟨bk,off+i,none⟩) hbk).trans (hx i (by omega));replace hx:=zz hx;have hxi:(dig a)[i]<1000000000:=dig_small a _ (List.getElem_mem hlk);obtain⟨x,hxx⟩:∃ x,x=(dig a)[i]:=⟨_,rfl⟩;rw[← hxx] at h1 hxi;have d0:=zz hxx;clear hxx;obtain⟨wo,hwo⟩:∃ wo:World,wo=wr:=⟨_,rfl⟩;subst hwo;go_wp2;go_loopw [8,27] (fun cv i' wr=>∃ (k cr:Nat) (out:List Int),k≤(dig b).length∧i'=.int .i64 k∧cv=.int .i64 cr∧cr<1000000000∧Hid (TimesA (dig a) (dig b) i k cr out)∧Below g w wr∧Own wr g out) (fun _ i' _=>(dig b).length-(intOf i').toNat)
   case atStart=>exact⟨0,0,_,by omega,rfl,rfl,by omega,hP,hbw,ho⟩
   case round=>
    clear hbw ho hP hgw h1;obtain⟨k,cr,out,hk',rfl,rfl,hcr,hP,hbw,ho⟩:=hrel;have hgw:g<wr.heap.size:=ho.lt;have hlen:=zz hP.out.len;by_cases hlk':k<(dig b).length
    ·obtain⟨bk',off',rfl,hbk',hx'⟩:=hB.out (by omega);have h1:=(hbw.cell (p:=⟨bk',off'+k,none⟩) hbk').trans (hx' k (by omega));replace hx':=zz hx';have hyk:(dig b)[k]<1000000000:=dig_small b _ (List.getElem_mem hlk');obtain⟨y,hyy⟩:∃ y,y=(dig b)[k]:=⟨_,rfl⟩;rw[← hyy] at h1 hyk;have e0:=zz hyy;clear hyy;have h2:=own_at ho (i+k) (by have:=hlen.out;omega);have h2d:=hP.out.dig (i+k);obtain⟨o,hoo⟩:∃ o:Nat,at0 out (i+k)=(o:Int):=⟨(at0 out (i+k)).toNat,by omega⟩;have HS:=zz (hP.out.step hlk hlk' o hoo);rw[hoo] at h2 h2d;have h2h:o<1000000000:=by omega
     have hf:=ho.frozen (i+k);have HO:=zz ho;clear ho hoo h2d;have hxy:x*y≤999999999*999999999:=Nat.mul_le_mul (by omega) (by omega);have hxy1:(x:Int)*(y:Int)≤999999999*999999999:=by rw[← Int.natCast_mul];omega
     have hxy0:0≤(x:Int)*(y:Int):=by rw[← Int.natCast_mul];omega
     go_wp2;go_roundw
     case rel=>
      have e:(((o+x*y+cr) % 1000000000:Nat):Int)=((o:Int)+(x:Int)*(y:Int)+(cr:Int)) % 1000000000:=by rw[← Int.natCast_mul];omega
      have h4:=HO.out.set (i+k) (((o+x*y+cr) % 1000000000:Nat):Int) (by have:=hlen.out;omega);have h5:=HS.out;rw[← d0.out,← e0.out] at h5;rw[e] at h4 h5;exact⟨k+1,(o+x*y+cr) / 1000000000,_,by omega,by go_num,by go_num,by omega,zz h5,hbw.setCell (Nat.le_refl _) _,h4⟩
     case measure=>simp[intOf];omega
    ·obtain rfl:k=(dig b).length:=by omega
     have h2:=own_at ho (i+(dig b).length) (by have:=hlen.out;omega);have hf:=ho.frozen (i+(dig b).length);have HN:=zz (hP.out.next hlk hcr);have HO:=zz ho;clear ho;go_wp2;go_roundw
     case rel=>exact⟨i+1,_,by omega,by go_num,HN,hbw.setCell (Nat.le_refl _) _,HO.out.set _ _ (by have:=hlen.out;omega)⟩
     case measure=>simp[intOf];omega
  ·obtain rfl:i=(dig a).length:=by omega
   obtain⟨r,rfl,hrl,hrs,hrv⟩:=hP.out.fin;have hrn:=own_rn ho ((dig a).length+(dig b).length) ((dig a).length+(dig b).length) (by omega) (by omega) (by omega);have f0:=zz hrv;clear hrv hrl;go_wp2_with (go_at_call 107;refine(Trim_blk _ _ r hrn hrs).mono ?_;rintro e w2 ⟨b0,v',rfl,hv',hnw⟩)
   go_ret;rw[f0.out,val_dig,val_dig] at hv';exact⟨by rw[hg];exact hbw.trans (b0.mono (by omega)),_,rfl,hv',hnw _ (NewC.at (by omega))⟩
theorem Times_any (w:World) (va vb:Value) (a b:Nat) (ha:RN w w.heap.size va (dig a)) (hb:RN w w.heap.size vb (dig b)) (hl:(dig a).length≤3000000000) (hl':(dig b).length≤3000000000) :
  Calls Tryz.prog 85 #[va,vb] w fun e w'=>Below w.heap.size w w'∧∃ v,e=.returned v∧RN w' w'.heap.size v (dig (a*b)):=
 (Times_new w va vb a b ha hb hl hl').mono fun _ _ ⟨hb,v,he,hv,_⟩=>⟨hb,v,he,hv⟩
theorem gcd_step (a b:Nat):Nat.gcd b (a % b)=Nat.gcd a b:=by rw[Nat.gcd_comm a b,Nat.gcd_rec b a,Nat.gcd_comm]
theorem Common_any (w:World) (va vb:Value) (a b:Nat) (ha:RN w w.heap.size va (dig a)) (hb:RN w w.heap.size vb (dig b)) (hl:(dig a).length≤300000000) (hl':(dig b).length≤300000000) :
  Calls Tryz.prog 81 #[va,vb] w fun e w'=>Below w.heap.size w w'∧∃ v,e=.returned v∧RN w' w'.heap.size v (dig (Nat.gcd a b)):=by
 have HA:=zz ha;have HB:=zz hb;clear ha hb;go_enter Tryz.func81,Tryz.ntmps81
 go_wp2;go_loopg [0,1] b (fun gk xa xb wr=>∃ x y:Nat,Hid (gk=y)∧Hid (Nat.gcd x y=Nat.gcd a b)∧(dig x).length≤300000000∧(dig y).length≤300000000∧Hid (RN wr wr.heap.size xa (dig x))∧(∃ B c,xb=.slice B (dig y).length c)∧Hid (RN wr wr.heap.size xb (dig y))∧Below w.heap.size w wr)
 case atStart=>
  obtain⟨B,c,rfl,_⟩:=HB.out.cell;exact⟨a,b,zz rfl,zz rfl,hl,hl',HA,⟨B,c,rfl⟩,HB,Below.refl _ _⟩
 case round=>
  obtain⟨x,y,hgk,hg,hlx,hly,hx,⟨B,c,rfl⟩,hy,hbw⟩:=hrel;by_cases hy0:y=0
  ·have HL:=zz (show(dig y).length=0 by rw[hy0,dig_zero];rfl);rw[HL.out];have hg2:=hg.out;rw[hy0,Nat.gcd_zero_right] at hg2;have HG:=zz hg2;clear hg2 hy0 hg hy hgk hly;go_wp2;go_ret;rw[← HG.out];exact⟨hbw,_,rfl,hx.out⟩
  ·have hp:=dig_len_pos hy0;go_wp2_with fail
   refine(Over_any _ _ _ x y hx.out hy.out hy0 hlx).mono ?_;rintro e w2 ⟨a0,q,r,rfl,hq,hr⟩;have HY:=zz (hy.out.step a0);obtain⟨B',c',rfl,_⟩:=hr.cell;have HR:=zz hr;have hmod:=Nat.mod_lt x (Nat.pos_of_ne_zero hy0);have HM:=zz hmod;have hlr:(dig (x % y)).length≤300000000:=Nat.le_trans (dig_len_mono (Nat.le_of_lt hmod)) hly;have HG:=zz ((gcd_step x y).trans hg.out);clear hq hr hmod hg hx hy hy0;go_wp2;go_roundg (x % y)
   case measure=>rw[hgk.out];exact HM.out
   case rel=>exact⟨y,x % y,zz rfl,HG,hly,hlr,HY,⟨_,_,rfl⟩,HR,hbw.trans (a0.mono hbw.size)⟩
end Go.Proofs.YtdigbofiebfkeaaGreatDoor
