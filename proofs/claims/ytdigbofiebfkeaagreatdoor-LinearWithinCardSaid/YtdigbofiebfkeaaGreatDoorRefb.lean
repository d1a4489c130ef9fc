/- Texts put together: The reference's Prod at any two numbers. The reference's taken: b is taken from the rest as often as it is in it; the rest is a row of its own. The reference's Parts at any two numbers, the second not 0. The reference's Common at any two numbers. The reference's Cmp, Mul, Gcd, Div at any two Longs (written by gen_rbin.py). The reference's Of. The reference's Root and Sqrt (written by gen_rroot.py). The reference's Sqrt at any Long (written by gen_rtext.py). Rows of bytes of a call's own; make([]byte, n); string(b). -/
import Derived.Test.YtdigbofiebfkeaaGreatDoorOps
import Derived.Test.YtdigbofiebfkeaaGreatDoorLow
import Derived.Deep.QuietTactic
import Derived.BigQuiet
import Derived.Test.YtdigbofiebfkeaaGreatDoorRef
import Derived.Deep.DeepCutAuto
import Derived.Deep.CutBlock
import Derived.Deep.LoopGhost
import Derived.Laws.AppendOwnNone
import Derived.Deep.RegionWith
import Derived.WalkSmall
import Derived.Laws.BytesArg
import Derived.Lib.UnsafeStr
namespace Go.Proofs.YtdigbofiebfkeaaGreatDoor
open Go Go.RowKit Dig
set_option maxRecDepth 100000
set_option maxHeartbeats 4000000
theorem at_int (w:World) (v:Value) (l:List Nat) (i:Int) (k:Nat) (hi:i=(k:Int)) (h:RN w w.heap.size v l) :
  Calls Tryz.prog 136 #[v,.int .i64 i] w fun e w'=>Below w.heap.size w w'∧e=.returned (.int .i64 ((l.getD k 0:Nat):Int)):=by
 subst hi;exact at_num w v l k h
theorem RTaken_any (w:World) (B:Nat) (v vb:Value) (R b:Nat) (hB:B≤w.heap.size) (ho:OwnV w B v (ni (dig R))) (hb:RN w B vb (dig b)) (f0:b≠0) (hR:R<1000000000*b) (hlR:(dig R).length≤300000000) (hlb:(dig b).length≤300000000) :
  Calls Tryz.prog 123 #[v,vb] w fun e w'=>Below B w w'∧∃ v',e=.returned (.tuple #[v',.int .i64 (R / b:Nat)])∧OwnV w' B v' (ni (dig (R % b))):=by
 obtain⟨P2,c2,rfl,-,-,-⟩:=hb.cell;obtain⟨top,htop⟩:∃ top,(dig b).length=top+1:=⟨(dig b).length-1,by have:=dig_len_pos f0;omega⟩;rw[htop] at hb hlb;rw[htop];have n0:=zz htop;have HB:=zz hb;have HO:=zz ho;have F0:=zz hR;clear hb ho htop hR;have hfd:=fld_digits;go_enter Tryz.func123,Tryz.ntmps123
 go_wp2;go_loopg [0,6] R (fun gk rv nv wr=>∃ (R' n:Nat) (v:Value),rv=v∧Hid (gk=R')∧nv=.int .i64 n∧n<1000000000∧Hid (R=n*b+R')∧(dig R').length≤300000000∧Hid (OwnV wr B v (ni (dig R')))∧Hid (Below B w wr))
 case atStart=>exact⟨R,0,_,rfl,zz rfl,rfl,by omega,zz (by omega),hlR,HO,zz (Below.refl _ _)⟩
 case round=>
  obtain⟨R',n,v,rfl,hgk,rfl,hn,v0,hlR',hO,l0⟩:=hrel;have HBs:=zz (Nat.le_trans hB l0.out.size);by_cases hlt:R'<b
  ·have HD:=zz (decide_eq_true hlt);have HQ:=zz (show(n:Nat)=R / b by rw[v0.out,Nat.mul_comm,Nat.mul_add_div (by omega),Nat.div_eq_of_lt hlt,Nat.add_zero]);have HM:=zz (show R'=R % b by rw[v0.out,Nat.mul_comm,Nat.mul_add_mod,Nat.mod_eq_of_lt hlt]);clear hlt;go_wp2_with fail
   refine(RLess_any _ _ _ R' b hO.out.ri (RN.more (HB.out.below l0.out) HBs.out)).mono ?_;rintro e w1 ⟨a0,rfl⟩;rw[HD.out];have p0:=zz (hO.out.step a0);have b0:=zz (l0.out.trans (a0.mono HBs.out));clear a0;go_wp2;go_ret2;rw[← HQ.out,← HM.out];exact⟨b0.out,_,rfl,p0.out⟩
  ·have HD:=zz (decide_eq_false hlt);have y0:=zz (Nat.le_of_not_lt hlt);rcases hO.out.form with ⟨-,he⟩ | ⟨g,cap,rfl,hcap,hcap2,hgB,hown⟩
   ·exact absurd he (by
     intro h0;have h1:=ni_length (dig R');rw[h0] at h1;have h2:=dig_len_pos (show R'≠0 by have:=y0.out;omega);simp at h1;omega)
   rw[ni_length] at hcap;rw[ni_length];obtain⟨lr,hlr⟩:∃ lr,(dig R').length=lr:=⟨_,rfl⟩;rw[hlr] at hcap hlR';rw[hlr];have q0:=zz hlr;have m0:=zz hown;have htl:top<lr:=by have h1:=dig_len_mono y0.out;have h2:=n0.out;omega
   clear hlt hlr hown hO;go_wp2_with fail
   refine(RLess_any _ _ _ R' b (own_rn m0.out _ _ q0.out.symm hcap hcap2) (RN.more (HB.out.below l0.out) HBs.out)).mono ?_;rintro e w1 ⟨a0,rfl⟩;rw[HD.out];have p0:=zz (m0.out.step a0);have b0:=zz (l0.out.trans (a0.mono HBs.out));have w0:=zz (Nat.le_trans HBs.out a0.size);clear a0 m0 l0 HBs;have z0:=zz (own_rn p0.out lr cap q0.out.symm hcap hcap2);have hRb:R'<1000000000*b:=(by have h1:=F0.out;have h2:=v0.out;omega);obtain⟨r0,hr0⟩:∃ r,r=(dig R').getD top 0:=⟨_,rfl⟩;obtain⟨r1,hr1⟩:∃ r,r=(dig R').getD (top+1) 0:=⟨_,rfl⟩;obtain⟨bt,hbt⟩:∃ r,r=(dig b).getD top 0:=⟨_,rfl⟩;have hr09:r0<1000000000:=by rw[hr0];exact(dig_small R').getD _
   have hr19:r1<1000000000:=by rw[hr1];exact(dig_small R').getD _
   have hbt9:bt<1000000000:=by rw[hbt];exact(dig_small b).getD _
   obtain⟨k0,d0⟩:∃ k,k=(r1*1000000000+r0) / (bt+1):=⟨_,rfl⟩;have HG:=zz (guess_one (x:=dig R') (dig_small b) n0.out (by rw[val_dig,val_dig];exact hRb) (show k0=_ by rw[d0,hr0,hr1,hbt]));rw[val_dig,val_dig] at HG;have hq0:w1.cell? ⟨g,top,none⟩=some (.int .i64 r0):=by
    have h:=z0.out.digit' (i:=top) (by rw[q0.out];exact htl);rw[← hr0] at h;simpa using h
   obtain⟨gb,ob,rfl,hq1⟩:=(RN.more (HB.out.below b0.out) w0.out).digit (i:=top) (by rw[n0.out];omega);rw[← hbt] at hq1;have HHr1:=zz hr1;have A0:=zz (show((r1:Int)*1000000000+(r0:Int)) / ((bt:Int)+1)=(k0:Int) by rw[d0];simp);clear hr0 hr1 hbt d0 hRb;have KS:∀ w':World,Below w1.heap.size w1 w'→(Below w1.heap.size w1 w'∧w'.cell? ⟨g,top,none⟩=some (.int .i64 r0)∧w'.cell? ⟨gb,ob+top,none⟩=some (.int .i64 bt)):=fun w' h=>⟨h,(h.cell (p:=⟨g,top,none⟩) (cell_lt hq0)).trans hq0,(h.cell (p:=⟨gb,ob+top,none⟩) (cell_lt hq1)).trans hq1⟩
   have KB:∀ w':World,(Below w1.heap.size w1 w'∧w'.cell? ⟨g,top,none⟩=some (.int .i64 r0)∧w'.cell? ⟨gb,ob+top,none⟩=some (.int .i64 bt))→Below w1.heap.size w1 w':=fun w' h=>h.1
   have htd:Int.tdiv ((r1:Int)*1000000000+(r0:Int)) ((bt:Int)+1)=(k0:Int):=by rw[← A0.out];exact Int.tdiv_eq_ediv_of_nonneg (by omega)
   have ht0:(0:Int)≤(top:Int):=by omega
   have ht1:(top:Int)<(top:Int)+1:=by omega
   have ht2:(top:Int)<(lr:Int):=by omega
   have hbp:(0:Int)<(bt:Int)+1:=by omega
   have hbne:((bt:Int)+1==0)=false:=by rw[beq_eq_false_iff_ne];omega
   have hbz:((bt:Int)+1=0)=False:=eq_false (by omega);have hdv:((r1:Int)*1000000000+(r0:Int)) / ((bt:Int)+1)=(k0:Int):=A0.out;have hwa:IntKind.i64.wrap ((top:Int)+1)=(top:Int)+1:=IntWalk.i64_in _ (by omega);have hwm:IntKind.i64.wrap ((r1:Int)*1000000000)=(r1:Int)*1000000000:=IntWalk.i64_in _ (by omega);have hws:IntKind.i64.wrap ((r1:Int)*1000000000+(r0:Int))=(r1:Int)*1000000000+(r0:Int):=IntWalk.i64_in _ (by omega);have hwd:IntKind.i64.wrap ((bt:Int)+1)=(bt:Int)+1:=IntWalk.i64_in _ (by omega);have N0:=zz (show(k0:Int)<1000000000 by have:=HG.out.2;omega);have hwk:IntKind.i64.wrap (k0:Int)=(k0:Int):=IntWalk.i64_in _ (by have:=N0.out;omega);have tok1:True:=trivial;go_wp2_with fail
   go_region_held3 (fun w'=>Below w1.heap.size w1 w'∧w'.cell? ⟨g,top,none⟩=some (.int .i64 r0)∧w'.cell? ⟨gb,ob+top,none⟩=some (.int .i64 bt)) (first
    | (refine KS _ ?_;repeat (first | with_reducible exact KU.out | with_reducible exact Below.refl _ _ | with_reducible refine below_drew1 ?_))
    | go_keep) (first
    | (go_at_call 136;clear tok1;((with_reducible refine(at_int _ _ (dig R') _ (top+1) (by omega) (by exact RN.stepN z0.out (KB _ (by assumption)))).mono ?_);rintro e u ⟨hbu,rfl⟩;rw[← HHr1.out];have KU:=zz (Below.trans (KB _ (by assumption)) (hbu.mono (KB _ (by assumption)).size));clear hbu)))
   rename_i hheld
   have s0:=zz (b0.out.trans (KU.out.mono w0.out));have Z0:=zz (Nat.le_trans w0.out KU.out.size);have i0:=zz (p0.out.step KU.out);clear hheld KS KB htd hbp hbne hbz hdv hwa hwm hws hwd hwk hq0 hq1 p0 b0 w0 z0 KU HHr1 A0;go_upto_if 36 with (fail)
   go_cut [8] (fun kv wx=>∃ K:Nat,kv=.int .i64 K∧1≤K∧K<1000000000∧Hid (K*b≤R')∧wx=u)
   case first=>
    by_cases hk:k0=0
    ·have hkb:((k0:Int)==0)=true:=by rw[hk];rfl
     clear hk;go_simp;go_wp2;go_meet
     exact⟨1,by go_num,by omega,by omega,zz (by rw[Nat.one_mul];exact y0.out),rfl⟩
    ·have hkb:((k0:Int)==0)=false:=by rw[beq_eq_false_iff_ne];omega
     have g0:1≤k0:=by omega
     clear hk;go_simp;go_wp2;go_meet
     exact⟨k0,rfl,g0,HG.out.2,zz HG.out.1,rfl⟩
   case rest=>
    obtain⟨K,rfl,hK1,hK9,HKb,rfl⟩:=hcut;have hlrE:=zz (show(dig R').length=lr from q0.out);go_wp2;go_loopw [9,10] (fun cv iv wr=>∃ (i:Nat) (c:Int) (d:List Int),cv=.int .i64 c∧iv=.int .i64 i∧i≤lr∧Hid (TakeI (dig R') (dig b) K i c d)∧Own wr g d∧Hid (Below B w wr)) (fun _ iv _=>lr-(intOf iv).toNat)
    case atStart=>exact⟨0,0,_,rfl,rfl,by omega,zz (TakeI.start _ _ _),i0.out,s0⟩
    case round=>
     clear i0 s0;obtain⟨i,c,d,rfl,rfl,hi,hT,hown,t0⟩:=hrel;have u0:=zz (Nat.le_trans hB t0.out.size);by_cases hil:i<lr
     ·obtain⟨xi,hxi⟩:∃ r,r=(dig R').getD i 0:=⟨_,rfl⟩;obtain⟨yi,hyi⟩:∃ r,r=(dig b).getD i 0:=⟨_,rfl⟩;have hx9:xi<1000000000:=by rw[hxi];exact(dig_small R').getD _
      have hy9:yi<1000000000:=by rw[hyi];exact(dig_small b).getD _
      have hc0:=hT.out.c0;have hck:=hT.out.ck;have hat:at0 d i=(xi:Int):=by rw[hT.out.high i (Nat.le_refl _),at0_ni,hxi]
      have hdl:=zz hT.out.len;have hq:=own_at hown i (by have:=hdl.out;have:=hlrE.out;omega);rw[hat] at hq;have hf:=hown.frozen i;have m0:=zz hown;obtain⟨p,hp⟩:∃ p:Int,(yi:Int)*(K:Int)=p:=⟨_,rfl⟩;have hp0:0≤p:=by rw[← hp];exact Int.mul_nonneg (by omega) (by omega)
      have hp1:p≤999999999*999999999:=by rw[← hp];exact Int.mul_le_mul (by omega) (by omega) (by omega) (by omega)
      obtain⟨sv,hsv⟩:∃ s:Int,(xi:Int)-p=s:=⟨_,rfl⟩;obtain⟨t,ht⟩:∃ t:Int,sv+c=t:=⟨_,rfl⟩;have G0:=zz (fun hx hy hi'=>hT.out.step (i:=i) hx hy hi' t (by rw[hat,← hyi,hp,hsv,ht]));obtain⟨qv,hqv⟩:∃ q:Int,Int.tdiv t 1000000000=q:=⟨_,rfl⟩;obtain⟨mv,hmv⟩:∃ m:Int,Int.tmod t 1000000000=m:=⟨_,rfl⟩;have hfl:=tdiv_floor t;rw[hqv,hmv] at hfl;have htb:-1000000000000000000≤t∧t<1000000000:=by
       have:=hT.out.range (dig_small R') (dig_small b);rw[hat,← hyi,hp,hsv,ht] at this
       omega
      have hm0:-1000000000≤mv∧mv<1000000000:=by
       by_cases hm:mv<0
       ·have:=(hfl.1 hm).1;omega
       ·have:=(hfl.2 (by omega)).1;omega
      have hq0:-1000000001≤qv∧qv≤1000000001:=by
       by_cases hm:mv<0
       ·have:=(hfl.1 hm).2;omega
       ·have:=(hfl.2 (by omega)).2;omega
      obtain⟨hm1,hm2⟩:=hm0;obtain⟨hq1,hq2⟩:=hq0;obtain⟨htb1,htb2⟩:=htb;have O0:=zz hyi;have x0:=zz hfl;have C0:=zz (G0.out (dig_small R') (dig_small b) (by rw[hlrE.out];exact hil));have a1:=zz hxi;have hii:(0:Int)≤(i:Int):=by omega
      have hil2:(i:Int)<(lr:Int):=by omega
      have hsvb:-1000000000000000000≤sv:=by omega
      have hsvc:sv≤1000000000:=by omega
      have hwp:IntKind.i64.wrap ((yi:Int)*(K:Int))=p:=by rw[hp];exact IntWalk.i64_in _ (by omega)
      have hws:IntKind.i64.wrap ((xi:Int)-p)=sv:=by rw[hsv];exact IntWalk.i64_in _ (by omega)
      have hwt:IntKind.i64.wrap (sv+c)=t:=by rw[ht];exact IntWalk.i64_in _ (by omega)
      have KS:∀ w':World,Below wr.heap.size wr w'→(Below wr.heap.size wr w'∧w'.cell? ⟨g,i,none⟩=some (.int .i64 xi)):=fun w' h=>⟨h,(h.cell (p:=⟨g,i,none⟩) (cell_lt hq)).trans hq⟩
      have KB:∀ w':World,(Below wr.heap.size wr w'∧w'.cell? ⟨g,i,none⟩=some (.int .i64 xi))→Below wr.heap.size wr w':=fun w' h=>h.1
      clear hown hT G0 hyi hxi hfl hat hp hsv ht;go_wp2_with fail
      go_region_held3 (fun w'=>Below wr.heap.size wr w'∧w'.cell? ⟨g,i,none⟩=some (.int .i64 xi)) (first
       | (refine KS _ ?_;repeat (first | with_reducible exact KU.out | with_reducible exact Below.refl _ _ | with_reducible refine below_drew1 ?_))
       | go_keep) (first
       | (go_at_call 136;((with_reducible refine(at_int _ _ (dig b) _ i rfl (by exact RN.stepN (RN.more (HB.out.below t0.out) u0.out) (KB _ (by assumption)))).mono ?_);rintro e u ⟨hbu,rfl⟩;rw[← O0.out];have KU:=zz (Below.trans (KB _ (by assumption)) (hbu.mono (KB _ (by assumption)).size));clear hbu)))
      rename_i hheld
      have i0:=zz (m0.out.step KU.out);have s0:=zz (t0.out.trans (KU.out.mono u0.out));clear hheld KS KB hwp hws hwt hq hf m0 t0 u0 KU hp0 hp1 hsvb hsvc htb1 htb2 hx9 hy9 hck hc0;have hf:=i0.out.frozen i;have hcl:=own_at i0.out i (by have:=hdl.out;have:=hlrE.out;omega);by_cases hm:mv<0
      ·have h1:=(x0.out.1 hm).1;have h2:=(x0.out.1 hm).2;have H0:=zz h1;have I0:=zz h2;clear h1 h2;simp only[Exit.then]
       go_wp2;go_roundw
       case rel=>
        rw[← H0.out,← I0.out] at C0;exact⟨i+1,_,_,rfl,by go_num,by omega,C0,i0.out.set i _ (by have:=hdl.out;have:=hlrE.out;omega),zz (s0.out.setCell (p:=⟨g,i,none⟩) hgB _)⟩
       case measure=>simp[intOf];omega
      ·have h1:=(x0.out.2 (by omega)).1;have h2:=(x0.out.2 (by omega)).2;have H0:=zz h1;have I0:=zz h2;replace hm:0≤mv:=by omega
       simp only[Exit.then]
       go_upto_if 63 with (fail)
       rw[show decide (t % 1000000000<0)=false from decide_eq_false (by omega)];clear hm1 hm2 hmv hqv;go_wp2;go_roundw
       case rel=>exact⟨i+1,_,_,rfl,by go_num,by omega,C0,i0.out.set i _ (by have:=hdl.out;have:=hlrE.out;omega),zz (s0.out.setCell (p:=⟨g,i,none⟩) hgB _)⟩
       case measure=>simp[intOf];omega
     ·obtain rfl:i=lr:=by omega
      have hT2:=hT.out;rw[← hlrE.out] at hT2;obtain⟨r,rfl,hrl,hrs,hrv⟩:=hT2.fin (by have:=n0.out;have:=hlrE.out;omega) (dig_small R') (by rw[val_dig,val_dig];exact HKb.out);rw[val_dig,val_dig] at hrv;rw[hlrE.out] at hrl;have P0:=zz (own_rn hown i cap hrl.symm hcap hcap2);have Q0:=zz hrs;have R0:=zz hrv;have S0:=zz (show r.length≤3000000000 by omega);clear hown hT hT2 hrl hrs hrv;go_wp2_with fail
      refine(made_own _ _ _ r P0.out Q0.out S0.out).mono ?_;rintro e w2 ⟨e0,q,s,rfl,rfl,hs⟩;have L0:=zz (t0.out.trans (e0.mono u0.out));obtain⟨R2,hR2⟩:∃ R2,R2=R'-K*b:=⟨_,rfl⟩;have hsg:(sgn false (val r)).natAbs=R2:=by rw[sgn_nat,R0.out,hR2]
      rw[hsg] at hs;have HS:=zz (hs.mono u0.out);have b1:=zz hR2;have hKb2:=HKb.out;have hbb:b≤K*b:=Nat.le_mul_of_pos_left _ (by omega);have T0:=zz (show R2≤R' by omega);have M0:=zz (show R2<R' by omega);have J0:=zz (show R=(n+K)*b+R2 by have:=v0.out;rw[Nat.add_mul];omega);have hnK:n+K<1000000000:=by
       apply Nat.lt_of_not_le;intro h
       have h1:=Nat.mul_le_mul_right b h;have h2:=J0.out;have h3:=F0.out
       omega
      have U0:=zz (show(dig R2).length≤300000000 from Nat.le_trans (dig_len_mono T0.out) (by rw[q0.out];omega));clear hsg hs e0 hR2 hKb2 hbb;go_wp2;go_roundg R2
      case measure=>rw[hgk.out];exact M0.out
      case rel=>exact⟨R2,n+K,_,rfl,zz rfl,by go_num,hnK,J0,U0.out,HS,L0⟩
def RetP (w':World) (q r:Int) (e:Ending):Prop:=∃ v u,e=.returned (.tuple #[v,u])∧LV w' w'.heap.size v q∧LV w' w'.heap.size u r
theorem sgn_tdiv {a b:Int} {q:Nat} (h:q=a.natAbs / b.natAbs):sgn (!(decide (a<0)==decide (b<0))) q=Int.tdiv a b:=by
 subst h;exact tdiv_sign a b
theorem sgn_tmod {a b:Int} {r:Nat} (h:r=a.natAbs % b.natAbs):sgn (decide (a<0)) r=Int.tmod a b:=by
 subst h;exact tmod_sign a b
theorem results_cell_cell {fn:Func} {p q:Tmp} {ty:TypeId} (h:fn.results=#[.cell p ty,.cell q ty]) (tmps:Array Value) (P:Program) (w:World) :
  (results fn tmps).run P w =
   ((asAddr (tmps.getD p undef)).run P w).andThen fun a w₁=>((loadVar ty a).run P w₁).andThen fun v w₂=>((asAddr (tmps.getD q undef)).run P w₂).andThen fun a' w₃=>((loadVar ty a').run P w₃).andThen fun v' w₄=>.ok (.tuple #[v,v']) w₄:=by
 simp only[results,h]
 simp[Sem.run_bind,Result.andThen]
theorem LB.ret2 {fn:Func} {p q:Tmp} (hf:fn.results=#[.cell p 31,.cell q 31]) {w:World} {b d:Nat} {x y x' y':Value} (tmps:Array Value) (h:LB w b x y) (h':LB w d x' y') (hp:tmps.getD p undef=.pointer (some ⟨b,0,none⟩)) (hq:tmps.getD q undef=.pointer (some ⟨d,0,none⟩)) :
  (results fn tmps).run Tryz.prog w=.ok (.tuple #[.agg #[x,y],.agg #[x',y']]) w:=by
 rw[results_cell_cell hf,hp,hq];simp[asAddr,run_loadVar_row w b _ 31 #[x,y] (0,0) _ h Tryz.underlying31 rfl (by kernel_rfl),run_loadVar_row w d _ 31 #[x',y'] (0,0) _ h' Tryz.underlying31 rfl (by kernel_rfl)]
theorem lv_set {w:World} {b k:Nat} {u v:Value} {q:Bool} {A:Option Addr} {n c:Nat} {z:Int} (hv:LB w b (.bool q) (.slice A n c)) (h:LV w w.heap.size v z):LV (w.setCell ⟨b,k,none⟩ u) (w.setCell ⟨b,k,none⟩ u).heap.size v z:=by
 obtain⟨s,hs,hr⟩:=h;refine⟨s,hs,?_⟩;have h1:=hr.setLB hv k u
 simpa[World.setCell] using h1
theorem end_pair {fn:Func} {p q:Tmp} (hf:fn.results=#[.cell p 31,.cell q 31]) {W w:World} {B b d:Nat} {n m n0 m0:Bool} {A A' A0 A1:Option Addr} {l c l' c' l0 c0 l1 c1:Nat} {zq zr:Int} {tmps:Array Value}
  (h:LB w b (.bool n0) (.slice A0 l0 c0)) (h':LB w d (.bool m0) (.slice A1 l1 c1)) (hne:b≠d) (hb:Below B W w) (hB:B≤b) (hD:B≤d) (hq:LV w w.heap.size (.agg #[.bool n,.slice A l c]) zq) (hr:LV w w.heap.size (.agg #[.bool m,.slice A' l' c']) zr)
  (hp:tmps.getD p undef=.pointer (some ⟨b,0,none⟩)) (hd:tmps.getD q undef=.pointer (some ⟨d,0,none⟩)) :
  bodyPost Tryz.prog fn (fun e w'=>Below B W w'∧RetP w' zq zr e) .ret ⟨tmps,[]⟩ ((((w.setCell ⟨b,0,none⟩ (.bool n)).setCell ⟨b,1,none⟩ (.slice A l c)).setCell ⟨d,0,none⟩ (.bool m)).setCell ⟨d,1,none⟩ (.slice A' l' c')):=by
 have l1:=h.set0 (.bool n);have l2:=l1.set1 (.slice A l c);have m1:=h'.far (p:=⟨b,0,none⟩) (fun e=>hne e.symm) (.bool n);have m2:=m1.far (p:=⟨b,1,none⟩) (fun e=>hne e.symm) (.slice A l c);have m3:=m2.set0 (.bool m);have m4:=m3.set1 (.slice A' l' c');have l4:=(l2.far (p:=⟨d,0,none⟩) hne (.bool m)).far (p:=⟨d,1,none⟩) hne (.slice A' l' c');exact bodyPost_ret (LB.ret2 hf tmps l4 m4 hp hd) rfl ⟨(((hb.setCell hB _).setCell hB _).setCell hD _).setCell hD _,_,_,rfl,lv_set m3 (lv_set m2 (lv_set l1 (lv_set h hq))),lv_set m3 (lv_set m2 (lv_set l1 (lv_set h hr)))⟩
structure PartI (X:List Nat) (b k R:Nat) (Q:List Nat):Prop where
 le:k≤X.length
 len:k+Q.length=X.length
 small:Small Q
 sum:val (X.drop k)=val Q*b+R
 rest:R<b
theorem PartI.start {X:List Nat} {b:Nat} (hb:b≠0):PartI X b X.length 0 []:=⟨Nat.le_refl _,by simp,Small.nil,by simp[val],by omega⟩
theorem PartI.step {X Q:List Nat} {b k R:Nat} (h:PartI X b (k+1) R Q) (hX:Small X):PartI X b k ((X.getD k 0+1000000000*R) % b) ((X.getD k 0+1000000000*R) / b :: Q):=by
 have hk:k<X.length:=h.le;have h1:=part_step hk (by have:=h.rest;omega) hX h.sum h.rest h.small;rw[show R*1000000000+X[k]=X.getD k 0+1000000000*R by rw[getD_get hk];omega] at h1;exact⟨by omega,by have:=h.len;simp;omega,h1.2,h1.1,Nat.mod_lt _ (by have:=h.rest;omega)⟩
theorem PartI.fin {X Q:List Nat} {b R:Nat} (h:PartI X b 0 R Q):val Q=val X / b∧R=val X % b:=by
 have h1:=h.sum;have h2:=h.rest;rw[List.drop_zero] at h1
 constructor
 ·rw[h1,Nat.mul_comm,Nat.mul_add_div (by omega),Nat.div_eq_of_lt h2,Nat.add_zero]
 ·rw[h1,Nat.mul_comm,Nat.mul_add_mod,Nat.mod_eq_of_lt h2]
theorem Own.setN {w:World} {g k d:Nat} {Q:List Nat} (h:Own w g (List.replicate (k+1) 0++ni Q)):Own (w.setCell ⟨g,k,none⟩ (.int .i64 (d:Int))) g (List.replicate k 0++ni (d :: Q)):=by
 have h1:=h.set k (d:Int) (by simp <;> omega)
 rwa [set_top] at h1
theorem RParts_any (w:World) (va vb:Value) (x y:Int) (ha:LV w w.heap.size va x) (hb:LV w w.heap.size vb y) (hy0:y≠0) (hlx:(dig x.natAbs).length≤300000000) (hly:(dig y.natAbs).length≤270000000) :
  Calls Tryz.prog 113 #[va,vb] w fun e w'=>Below w.heap.size w w'∧RetP w' (Int.tdiv x y) (Int.tmod x y) e:=by
 obtain⟨i0,hi0,hz0,hz1,hz2⟩:=info_parts info_int;obtain⟨A1,c1,rfl,hsa⟩:=ha.parts;obtain⟨A2,c2,rfl,hsb⟩:=hb.parts;have u0:=zz (fun q (h:q=x.natAbs / y.natAbs)=>sgn_tdiv h);have v0:=zz (fun q (h:q=x.natAbs % y.natAbs)=>sgn_tmod h);have x0:=zz (dig_small x.natAbs);have E0:=zz (val_dig x.natAbs);clear ha hb;generalize dig x.natAbs=X at *
 obtain⟨b,hbb⟩:∃ b,b=y.natAbs:=⟨_,rfl⟩;rw[← hbb] at hsb hly u0 v0;rw[← hbb];have e0:b≠0:=by omega
 obtain⟨lb,hlb⟩:∃ l,l=(dig b).length:=⟨_,rfl⟩;rw[← hlb] at hsb hly;rw[← hlb];have q0:=zz hlb;generalize decide (x<0)=na at *
 generalize decide (y<0)=nb at *
 generalize Int.tdiv x y=zq at *
 generalize Int.tmod x y=zr at *
 generalize x.natAbs=xn at *
 have hmk:=mk_ints X.length (by omega);obtain⟨w0,hw0⟩:∃ w0:World,w0=(((w.alloc (.cells #[.bool na,.slice A1 X.length c1] 31)).alloc (.cells #[.bool nb,.slice A2 lb c2] 31)).alloc (.cells #[.bool false,.slice none 0 0] 31)).alloc (.cells #[.bool false,.slice none 0 0] 31):=⟨_,rfl⟩;have hb0':Below w.heap.size w w0:=by rw[hw0];(repeat' (first | exact Below.refl _ _ | refine Below.drew ?_ | refine Below.alloc ?_ (by first | exact Nat.le_refl _ | (simp;done) | (simp;omega)) _))
 have L0:LB w0 w.heap.size (.bool na) (.slice A1 X.length c1):=by rw[hw0];(repeat (first | (refine LB.new' ?_;simp;done) | refine LB.alloc ?_ _))
 have L1:LB w0 (w.heap.size+1) (.bool nb) (.slice A2 lb c2):=by rw[hw0];(repeat (first | (refine LB.new' ?_;simp;done) | refine LB.alloc ?_ _))
 have L2:LB w0 (w.heap.size+2) (.bool false) (.slice none 0 0):=by rw[hw0];(repeat (first | (refine LB.new' ?_;simp;done) | refine LB.alloc ?_ _))
 have L3:LB w0 (w.heap.size+3) (.bool false) (.slice none 0 0):=by rw[hw0];(repeat (first | (refine LB.new' ?_;simp;done) | refine LB.alloc ?_ _))
 have hsz0:w0.heap.size=w.heap.size+4:=by rw[hw0];simp
 have HA:=zz (show RN w w.heap.size _ X from hsa);have HB:=zz (show RN w w.heap.size _ (dig b) from hsb);replace hw0:=zz hw0;clear hsa hsb hbb hlb;go_enter Tryz.func113,Tryz.ntmps113
 go_wp2;rw[← hw0.out];have a0:=hb0'.alloc hb0'.size (zerosObj X.length);have M0:=L0.alloc (zerosObj X.length);have M1:=L1.alloc (zerosObj X.length);have M2:=L2.alloc (zerosObj X.length);have M3:=L3.alloc (zerosObj X.length);have ho:=own_new w0 X.length;rw[hsz0] at ho;have hsz1:w.heap.size+5≤(w0.alloc (zerosObj X.length)).heap.size:=by simp;omega
 clear L0 L1 L2 L3 hb0' hsz0 hw0 hmk;generalize (w0.alloc (zerosObj X.length))=w1 at *
 have HP:=zz (PartI.start (X:=X) e0);have n0:=zz (show OwnV w1 (w.heap.size+5) (.slice none 0 0) (ni (dig 0)) by rw[dig_zero];exact OwnV.nil _ _);have l0:=zz hsz1;clear hsz1;go_loopw [7,8] (fun rv iv wr=>∃ (k R:Nat) (Q:List Nat) (v:Value),rv=v∧iv=.int .i64 ((k:Int)-1)∧Hid (PartI X b k R Q)∧Hid (OwnV wr (w.heap.size+5) v (ni (dig R)))∧Own wr (w.heap.size+4) (List.replicate k 0++ni Q)∧LB wr w.heap.size (.bool na) (.slice A1 X.length c1)∧LB wr (w.heap.size+1) (.bool nb) (.slice A2 lb c2)∧LB wr (w.heap.size+2) (.bool false) (.slice none 0 0)∧LB wr (w.heap.size+3) (.bool false) (.slice none 0 0)∧Hid (Below w.heap.size w wr)∧Hid (w.heap.size+5≤wr.heap.size)) (fun _ iv _=>(intOf iv+1).toNat)
 case atStart=>exact⟨X.length,0,[],_,rfl,rfl,HP,n0,by simpa[ni] using ho,M0,M1,M2,M3,zz a0,l0⟩
 case round=>
  clear a0 ho HP n0 l0 M0 M1 M2 M3;obtain⟨k,R,Q,v,rfl,rfl,HP,n0,ho,M0,M1,M2,M3,p0,y0⟩:=hrel;have q00:=M0.cell0;have q01:=M0.cell1;have q10:=M1.cell0;have q11:=M1.cell1;have q20:=M2.cell0;have q21:=M2.cell1;have q30:=M3.cell0;have q31:=M3.cell1;rcases Nat.eq_zero_or_pos k with f0 | f0
  ·subst f0;rw[show(((0:Nat):Int)-1)=-1 from rfl];have hf:=HP.out.fin;rw[E0.out] at hf;have F0:=zz (u0.out _ hf.1);have hr2:=v0.out _ hf.2;have G0:=zz hr2;have H0:=zz HP.out.small;have hql:=HP.out.len;have I0:=zz (show Q.length≤3000000000 by omega);have hrl:(dig R).length≤270000000:=Nat.le_trans (dig_len_mono (Nat.le_of_lt HP.out.rest)) (by rw[← q0.out];exact hly);have J0:=zz (show(dig R).length≤3000000000 by omega);have K0:=zz (dig_small R);have O0:=zz (own_rn (r:=Q) (by simpa using ho) X.length X.length (by omega) (Nat.le_refl _) (by omega));have Q0:=zz (show RN wr wr.heap.size _ (dig R) from n0.out.ri);clear hf hr2 HP hql hrl ho;have tok1:True:=trivial;have tok2:True:=trivial;go_wp2_with fail
   go_region_held3 (fun w'=>w'.cell? ⟨w.heap.size,0,none⟩=some (.bool na)∧w'.cell? ⟨w.heap.size+1,0,none⟩=some (.bool nb)) (first
    | (refine⟨LB.cell0 (y:=.slice A1 X.length c1) ?_,LB.cell0 (y:=.slice A2 lb c2) ?_⟩ <;> repeat (first | with_reducible exact M0 | with_reducible exact M1 | with_reducible exact N0 | with_reducible exact N1 | with_reducible exact P0 | with_reducible exact P1 | with_reducible refine LB.drew ?_ | with_reducible refine lb_far ?_ (by omega)))
    | go_keep) (first
    | (go_at_call 114;clear tok1;((with_reducible refine(made_any _ _ _ Q (by repeat (first | with_reducible exact O0.out | with_reducible refine RN.drew1 ?_)) H0.out I0.out).mono ?_);rintro e u1 ⟨a0,v1,rfl,d0⟩;rw[F0.out] at d0;obtain⟨n5,A5,l5,c5,rfl,g0⟩:=d0.opened;have k0:=zz (show Below wr.heap.size wr u1 by first | exact a0 | exact below_undrew a0);have R0:=zz g0;have N0:=LB.step M0 k0.out;have N1:=LB.step M1 k0.out;have C0:=zz (RN.stepN Q0.out k0.out);clear a0 d0 g0))
    | (go_at_call 114;clear tok2;((with_reducible refine(made_any _ _ _ (dig R) (by repeat (first | with_reducible exact C0.out | with_reducible refine RN.drew1 ?_)) K0.out J0.out).mono ?_);rintro e u2 ⟨b0,v2,rfl,c0⟩;rw[val_dig,G0.out] at c0;obtain⟨n6,A6,l6,c6,rfl,h0⟩:=c0.opened;have j0:=zz (show Below u1.heap.size u1 u2 by first | exact b0 | exact below_undrew b0);have T0:=zz h0;have P0:=LB.step N0 j0.out;have P1:=LB.step N1 j0.out;have P2:=(LB.step M2 k0.out).step j0.out;have P3:=(LB.step M3 k0.out).step j0.out;have y20:=P2.cell0;have y21:=P2.cell1;have y22:=P2.frozen 0;have y23:=P2.frozen 1;have y30:=P3.cell0;have y31:=P3.cell1;have y32:=P3.frozen 0;have y33:=P3.frozen 1;clear b0 c0 h0)))
   rename_i hheld
   have U0:=zz (p0.out.trans ((k0.out.trans (j0.out.mono k0.out.size)).mono p0.out.size));have HV5b:=zz (R0.out.step j0.out);clear hheld k0 j0;simp only[Exit.then]
   go_wp2;(try simp only[Exit.inBlock,Exit.then])
   exact end_pair rfl P2 P3 (by omega) U0.out (by omega) (by omega) HV5b.out T0.out rfl rfl
  ·obtain⟨j,rfl⟩:∃ j,k=j+1:=⟨k-1,by omega⟩;rw[show(((j+1:Nat):Int)-1)=(j:Int) by omega];have hjX:j<X.length:=HP.out.le;obtain⟨g1,o1,rfl,hx⟩:=(HA.out.below p0.out).digit hjX;obtain⟨xd,hxd⟩:∃ d,d=X.getD j 0:=⟨_,rfl⟩;rw[← hxd] at hx;have hx9:xd<1000000000:=by rw[hxd];exact x0.out.getD j
   obtain⟨R1,hR1⟩:∃ R1,R1=xd+1000000000*R:=⟨_,rfl⟩;have s0:=zz (HP.out.step x0.out);rw[← hxd,← hR1] at s0;have HRb:=zz (show R1<1000000000*b by have:=HP.out.rest;omega);have HSm:=zz (dig_next (R:=R) hx9).1;have V0:=zz (show(sgn false (val (xd :: dig R))).natAbs=R1 by rw[sgn_nat,(dig_next (R:=R) hx9).2,hR1]);have HlR:=zz (show(dig R).length≤270000000 from Nat.le_trans (dig_len_mono (Nat.le_of_lt HP.out.rest)) (by rw[← q0.out];exact hly));have HlR1:=zz (show(dig R1).length≤300000000 by
    have h1:R1<bp (lb+1):=by
     have h2:=dig_lt b;rw[← q0.out] at h2;have h3:=HRb.out;rw[bp_succ];omega
    exact Nat.le_trans (dig_len_le.2 h1) (by omega))
   have HO:=zz ho;have hji:(j:Int)<(X.length:Int):=by omega
   have hj0:(0:Int)≤(j:Int):=by omega
   clear hxd hR1 HP ho;go_upto_region 6 with (fail)
   go_cut [9] (fun nv wx=>∃ v:Value,nv=v∧Hid (RN wx wx.heap.size v (xd :: dig R))∧Hid (Below wr.heap.size wr wx))
   case first=>
    have hlit:=World.ownsRow_lit (base:=wr.heap.size) (e:=3) (size:=1) wr #[.int .i64 (xd:Int)] 1 (Nat.le_refl _) (by decide) rfl;rcases n0.out.form with ⟨rfl,he⟩ | ⟨g,cap,rfl,hcap,hcap2,hgB,hown⟩
    ·go_wp2_with (at_builtin;refine wpList_append_own_none rfl _ _ 29 rfl wr.heap.size 3 i0 1 Tryz.underlying29 hi0 (.slice (some ⟨wr.heap.size,0,none⟩) 1 1) 1 [.int .i64 (xd:Int)] rfl hlit rfl ?_)
     go_meet
     have hd:dig R=[]:=by cases hh:dig R with
      | nil=>rfl
      | cons a m=>rw[hh] at he;simp[ni] at he
     rw[hd];exact⟨_,rfl,zz (OwnV.ri (base:=wr.heap.size) (l:=ni [xd]) hlit),zz ((Below.refl _ _).alloc (Nat.le_refl _) _)⟩
    ·have HNEWS:=zz (World.ownsRow.cells (OwnV.alloc n0.out (.cells #[.int .i64 (xd:Int)] 3)) (g:=g) rfl);have hlen:(ni (dig R)).length≤270000000:=by rw[ni_length];exact HlR.out
     go_wp2_with (at_builtin;refine wpList_append_own_at _ rfl _ _ 29 rfl wr.heap.size 3 i0 (.int .i64 0) 1 8 Tryz.underlying29 hi0 hz0 hz1 hz2 rfl (by decide) (.slice (some ⟨wr.heap.size,0,none⟩) 1 1) 1 [.int .i64 (xd:Int)] rfl hlit ⟨g,0,none⟩ (ni (dig R)).length cap ((ni (dig R)).map (Value.int .i64)) rfl (by simp) HNEWS.out (by intro u hu;simp at hu;obtain⟨a,_,rfl⟩:=hu;rfl) (by unfold maxLen;omega) (by omega) (by simp) ?_)
     intro v' w' hown' hgrow hne hblk;have hv':OwnV w' wr.heap.size v' (ni (xd :: dig R)):=by
      have h:=hown';rw[OwnV];rw[show 1+(ni (dig R)).length=(ni (xd :: dig R)).length by simp[ni];omega] at h;exact h
     have HV':=zz hv'.ri;have HBw:=zz (((Below.refl wr.heap.size wr).alloc (Nat.le_refl _) (.cells #[.int .i64 (xd:Int)] 3)).grown hgrow (by simp) (fun k hk=>by simp[Value.ownBlock] at hk;omega));clear hown' hgrow hne hblk hv';go_wp2;go_meet
     exact⟨_,rfl,HV',HBw⟩
   case rest=>
    obtain⟨nx,rfl,HN,HBc⟩:=hcut;have HLm:=zz (show(xd :: dig R).length≤3000000000 by have:=HlR.out;simp;omega);have r0:=zz (HO.out.step HBc.out);replace M0:=M0.step HBc.out;replace M1:=M1.step HBc.out;replace M2:=M2.step HBc.out;replace M3:=M3.step HBc.out;have o0:=tr p0 HBc;have l0:=zz (Nat.le_trans y0.out HBc.out.size);have a1:=l0.out;have z0:=zz (RN.more (HB.out.below o0.out) o0.out.size);clear HO p0 y0 HBc n0 hx;have q10:=M1.cell0;have q11:=M1.cell1;have hfd:=fld_digits;have hlb2:lb≤300000000:=by omega
    have D0:=zz (show(dig b).length≤300000000 by rw[← q0.out];exact hlb2);have tok1:True:=trivial;have tok2:True:=trivial;go_wp2_with fail
    go_region_held3 (fun w'=>w'.cell? ⟨w.heap.size+1,1,none⟩=some (.slice A2 lb c2)) (first
     | (refine LB.cell1 (b:=w.heap.size+1) (x:=.bool nb) ?_;repeat (first | with_reducible exact M1 | with_reducible exact N1 | with_reducible exact P1 | with_reducible refine LB.drew ?_ | with_reducible refine lb_far ?_ (by omega)))
     | go_keep) (first
     | (go_at_call 114;clear tok1;((with_reducible refine(made_own _ _ _ (xd :: dig R) (by repeat (first | with_reducible exact HN.out | with_reducible refine RN.drew1 ?_)) HSm.out HLm.out).mono ?_);rintro e u1 ⟨a0,q1,s1,rfl,rfl,hs1⟩;rw[V0.out] at hs1;have k0:=zz (show Below wc.heap.size wc u1 by first | exact a0 | exact below_undrew a0);have A0:=zz (show OwnV u1 wc.heap.size s1 (ni (dig R1)) from hs1);have N1:=LB.step M1 k0.out;have t0:=zz (RN.below z0.out k0.out);clear a0 hs1))
     | (go_at_call 123;clear tok2;((with_reducible refine(RTaken_any _ wc.heap.size _ _ R1 b (by exact k0.out.size) (by repeat (first | with_reducible exact A0.out | with_reducible refine OwnV.drew ?_)) (by exact t0.out) e0 HRb.out HlR1.out D0.out).mono ?_);rintro e u2 ⟨b0,v2,rfl,c0⟩;have j0:=zz (show Below wc.heap.size wc u2 by first | exact k0.out.trans b0 | exact k0.out.trans (below_undrew b0));have B0:=zz c0;have P1:=LB.step M1 j0.out;have hqf:=(r0.out.step j0.out).frozen j;have hqc:=(r0.out.step j0.out).cell j (by simp <;> omega);clear b0 c0)))
    rename_i hheld
    obtain⟨qd,hqd⟩:∃ q:Nat,q=R1 / b:=⟨_,rfl⟩;rw[show(R1:Int) / (b:Int)=(qd:Int) by rw[hqd];simp];rw[← hqd] at s0;obtain⟨u3,hu3⟩:∃ u3:World,u3=u2.setCell ⟨w.heap.size+4,j,none⟩ (.int .i64 (qd:Int)):=⟨_,rfl⟩;have S0:LB u3 w.heap.size (.bool na) (.slice (some ⟨g1,o1,none⟩) X.length c1):=by rw[hu3];exact lb_far (M0.step j0.out) (by omega)
    have S1:LB u3 (w.heap.size+1) (.bool nb) (.slice A2 lb c2):=by rw[hu3];exact lb_far (M1.step j0.out) (by omega)
    have S2:LB u3 (w.heap.size+2) (.bool false) (.slice none 0 0):=by rw[hu3];exact lb_far (M2.step j0.out) (by omega)
    have S3:LB u3 (w.heap.size+3) (.bool false) (.slice none 0 0):=by rw[hu3];exact lb_far (M3.step j0.out) (by omega)
    have SO:Own u3 (w.heap.size+4) (List.replicate j 0++ni (qd :: Q)):=by rw[hu3];exact Own.setN (r0.out.step j0.out)
    have SV:=zz (show OwnV u3 (w.heap.size+5) v2 (ni (dig (R1 % b))) by rw[hu3];exact(B0.out.setBelow (p:=⟨w.heap.size+4,j,none⟩) (by have:=l0.out;show w.heap.size+4<wc.heap.size;omega) _).mono l0.out);have SB:=zz (show Below w.heap.size w u3 by rw[hu3];exact(o0.out.trans (j0.out.mono o0.out.size)).setCell (p:=⟨w.heap.size+4,j,none⟩) (by simp) _);have SZ:=zz (show w.heap.size+5≤u3.heap.size by rw[hu3];have h1:=l0.out;have h2:=j0.out.size;simp[World.setCell];omega);clear hheld hqd k0 A0 N1 t0 j0 B0 P1 hqf hqc M0 M1 M2 M3 r0 o0 l0 HN z0 q10 q11;rw[← hu3];clear hu3;simp only[Exit.then,Exit.inBlock]
    go_wp2;go_roundw
    case rel=>exact⟨j,R1 % b,qd :: Q,_,rfl,rfl,s0,SV,SO,S0,S1,S2,S3,SB,SZ⟩
    case measure=>simp[intOf]
theorem gcd_tmod (x y:Int):Nat.gcd y.natAbs (Int.tmod x y).natAbs=Nat.gcd x.natAbs y.natAbs:=by
 rw[Int.natAbs_tmod,gcd_step]
theorem tmod_len {x y:Int} (h:y≠0) {k:Nat} (hk:(dig y.natAbs).length≤k):(dig (Int.tmod x y).natAbs).length≤k:=
 Nat.le_trans (dig_len_mono (by rw[Int.natAbs_tmod];exact Nat.le_of_lt (Nat.mod_lt _ (by omega)))) hk
theorem len_zero {z:Int} (h:z=0):(dig z.natAbs).length=0:=by rw[h];show(dig 0).length=0;rw[dig_zero];rfl
theorem len_pos {z:Int} (h:z≠0):0<(dig z.natAbs).length:=dig_len_pos (by omega)
theorem RCommon_any (w:World) (va vb:Value) (x y:Int) (ha:LV w w.heap.size va x) (hb:LV w w.heap.size vb y) (hlx:(dig x.natAbs).length≤270000000) (hly:(dig y.natAbs).length≤270000000) :
  Calls Tryz.prog 112 #[va,vb] w fun e w'=>Below w.heap.size w w'∧RetV w' (Int.gcd x y:Int) e:=by
 obtain⟨na,A1,l1,c1,rfl,HA⟩:=ha.opened;obtain⟨nb,A2,l2,c2,rfl,HB⟩:=hb.opened;clear ha hb;obtain⟨g,hg⟩:∃ g:Nat,g=Int.gcd x y:=⟨_,rfl⟩;have q0:=zz (show Nat.gcd x.natAbs y.natAbs=g from hg.symm);rw[← hg];clear hg;obtain⟨w0,hw0⟩:∃ w0:World,w0=((w.alloc (.cells #[.bool na,.slice A1 l1 c1] 31)).alloc (.cells #[.bool nb,.slice A2 l2 c2] 31)).alloc (.cells #[.bool false,.slice none 0 0] 31):=⟨_,rfl⟩;have c0:=zz (show Below w.heap.size w w0 by rw[hw0];(repeat' (first | exact Below.refl _ _ | refine Below.drew ?_ | refine Below.alloc ?_ (by first | exact Nat.le_refl _ | (simp;done) | (simp;omega)) _)));have L0:LB w0 w.heap.size (.bool na) (.slice A1 l1 c1):=by rw[hw0];(repeat (first | (refine LB.new' ?_;simp;done) | refine LB.alloc ?_ _))
 have L1:LB w0 (w.heap.size+1) (.bool nb) (.slice A2 l2 c2):=by rw[hw0];(repeat (first | (refine LB.new' ?_;simp;done) | refine LB.alloc ?_ _))
 have L2:LB w0 (w.heap.size+2) (.bool false) (.slice none 0 0):=by rw[hw0];(repeat (first | (refine LB.new' ?_;simp;done) | refine LB.alloc ?_ _))
 have l0:=zz (show w.heap.size+3≤w0.heap.size by rw[hw0];simp);replace HA:=zz (HA.step c0.out);replace HB:=zz (HB.step c0.out);replace hw0:=zz hw0;go_enter Tryz.func112,Tryz.ntmps112
 go_wp2;rw[← hw0.out];clear hw0;go_loopg [5] y.natAbs (fun gk s5 wr=>∃ (x' y':Int) (na:Bool) (A1:Option Addr) (l1 c1:Nat) (nb:Bool) (A2:Option Addr) (l2 c2:Nat),Hid (gk=y'.natAbs)∧Hid (Nat.gcd x'.natAbs y'.natAbs=g)∧Hid ((dig x'.natAbs).length≤270000000)∧Hid ((dig y'.natAbs).length≤270000000) ∧
  LB wr w.heap.size (.bool na) (.slice A1 l1 c1)∧LB wr (w.heap.size+1) (.bool nb) (.slice A2 l2 c2)∧LB wr (w.heap.size+2) (.bool false) (.slice none 0 0)∧Hid (LV wr wr.heap.size (.agg #[.bool na,.slice A1 l1 c1]) x')∧Hid (LV wr wr.heap.size (.agg #[.bool nb,.slice A2 l2 c2]) y')∧Hid (Below w.heap.size w wr)∧Hid (w.heap.size+3≤wr.heap.size))
 case atStart=>exact⟨x,y,na,A1,l1,c1,nb,A2,l2,c2,zz rfl,q0,zz hlx,zz hly,L0,L1,L2,HA,HB,c0,l0⟩
 case round=>
  clear q0 L0 L1 L2 HA HB c0 l0 hlx hly;obtain⟨x',y',na,A1,l1,c1,nb,A2,l2,c2,hgk,HG,hlx,hly,M0,M1,M2,HA,HB,m0,l0⟩:=hrel;have q00:=M0.cell0;have q01:=M0.cell1;have q10:=M1.cell0;have q11:=M1.cell1;have q20:=M2.cell0;have q21:=M2.cell1;have q22:=M2.frozen 0;have q23:=M2.frozen 1;have hl2:=HB.out.is.2.1;by_cases hy0:y'=0
  ·obtain rfl:l2=0:=hl2.trans (len_zero hy0);have u0:=zz (show sgn false (val (dig x'.natAbs))=(g:Int) by have h:=HG.out;rw[hy0] at h;simp at h;rw[val_dig,← h];rfl);have v0:=zz HA.out.is.2.2;have x0:=zz (dig_small x'.natAbs);have y0:=zz (show(dig x'.natAbs).length≤3000000000 by have:=hlx.out;omega);clear hl2 hy0 HG hgk;go_wp2_with fail
   refine(made_any _ _ _ (dig x'.natAbs) v0.out x0.out y0.out).mono ?_;rintro e w2 ⟨a0,v2,rfl,b0⟩;rw[u0.out] at b0;obtain⟨n3,A3,l3,c3,rfl,d0⟩:=b0.opened;have z0:=zz d0;have N2:=M2.step a0;have h0:=zz (m0.out.trans (a0.mono m0.out.size));clear b0 d0 a0 M0 M1 M2 m0 q00 q01 q10 q11 q20 q21 q22 q23;have q20:=N2.cell0;have q21:=N2.cell1;have q22:=N2.frozen 0;have q23:=N2.frozen 1;go_wp2;(try simp only[Exit.inBlock,Exit.then])
   exact end_long rfl N2 h0.out (by omega) z0.out rfl
  ·have hl0:(0:Int)<(l2:Int):=by have:=len_pos hy0;omega
   have o0:=zz hy0;clear hl2 hy0;go_wp2_with fail
   refine(RParts_any _ _ _ x' y' HA.out HB.out o0.out (by have:=hlx.out;omega) hly.out).mono ?_;rintro e u ⟨a0,v1,v2,rfl,e0,b0⟩;obtain⟨n5,A5,l5,c5,rfl,i0⟩:=e0.opened;obtain⟨n6,A6,l6,c6,rfl,f0⟩:=b0.opened;have HU:=zz a0;have p0:=zz f0;clear a0 e0 b0 i0 f0 q00 q01 q10 q11 q20 q21 q22 q23;have N0:=M0.step HU.out;have N1:=M1.step HU.out;have N2:=M2.step HU.out;have g0:=zz (HB.out.step HU.out);have r0:=tr m0 HU;have s0:=zz (Nat.le_trans l0.out HU.out.size);obtain⟨r,hr⟩:∃ r,r=Int.tmod x' y':=⟨_,rfl⟩;have A0:=zz (show Nat.gcd y'.natAbs r.natAbs=g by rw[hr,gcd_tmod];exact HG.out);have B0:=zz (show(dig r.natAbs).length≤270000000 by rw[hr];exact tmod_len o0.out hly.out);have C0:=zz (show r.natAbs<y'.natAbs by rw[hr,Int.natAbs_tmod];exact Nat.mod_lt _ (by have:=o0.out;omega));rw[← hr] at p0;clear hr M0 M1 M2 HA HB m0 l0 HU;have q10:=N1.cell0;have q11:=N1.cell1;have q00:=N0.cell0;have q01:=N0.cell1;have q02:=N0.frozen 0;have q03:=N0.frozen 1;have q12:=N1.frozen 0;have q13:=N1.frozen 1;have h0lt:=N0.lt;have h1lt:=N1.lt;go_wp2;go_region_with (fail)
   all_goals
    have S0:=((((((N0.set0 (.bool nb)).set1 (.slice A2 l2 c2)).far (p:=⟨w.heap.size+1,0,none⟩) (by simp) (.bool n6)).far (p:=⟨w.heap.size+1,1,none⟩) (by simp) (.slice A6 l6 c6)).alloc (.cells #[.bool n5,.slice A5 l5 c5] 31)).alloc (.cells #[.bool n6,.slice A6 l6 c6] 31)).drew;have t1:=(N1.far (p:=⟨w.heap.size,0,none⟩) (by simp) (.bool nb)).far (p:=⟨w.heap.size,1,none⟩) (by simp) (.slice A2 l2 c2);have S1:=((((t1.set0 (.bool n6)).set1 (.slice A6 l6 c6)).alloc (.cells #[.bool n5,.slice A5 l5 c5] 31)).alloc (.cells #[.bool n6,.slice A6 l6 c6] 31)).drew;have S2:=((((((N2.far (p:=⟨w.heap.size,0,none⟩) (by simp) (.bool nb)).far (p:=⟨w.heap.size,1,none⟩) (by simp) (.slice A2 l2 c2)).far (p:=⟨w.heap.size+1,0,none⟩) (by simp) (.bool n6)).far (p:=⟨w.heap.size+1,1,none⟩) (by simp) (.slice A6 l6 c6)).alloc (.cells #[.bool n5,.slice A5 l5 c5] 31)).alloc (.cells #[.bool n6,.slice A6 l6 c6] 31)).drew;have V1:=zz (LV.drew1 (LV.alloc (LV.alloc (lv_set (k:=1) (u:=.slice A6 l6 c6) (t1.set0 (.bool n6)) (lv_set (k:=0) (u:=.bool n6) t1 (lv_set (k:=1) (u:=.slice A2 l2 c2) (N0.set0 (.bool nb)) (lv_set (k:=0) (u:=.bool nb) N0 g0.out)))) (.cells #[.bool n5,.slice A5 l5 c5] 31)) (.cells #[.bool n6,.slice A6 l6 c6] 31)))
    have V2:=zz (LV.drew1 (LV.alloc (LV.alloc (lv_set (k:=1) (u:=.slice A6 l6 c6) (t1.set0 (.bool n6)) (lv_set (k:=0) (u:=.bool n6) t1 (lv_set (k:=1) (u:=.slice A2 l2 c2) (N0.set0 (.bool nb)) (lv_set (k:=0) (u:=.bool nb) N0 p0.out)))) (.cells #[.bool n5,.slice A5 l5 c5] 31)) (.cells #[.bool n6,.slice A6 l6 c6] 31)));have SB:=zz (below_drew1 (below_alloc1 (below_alloc1 (below_set1 (below_set1 (below_set1 (below_set1 r0.out (Nat.le_refl _) 0 (.bool nb)) (Nat.le_refl _) 1 (.slice A2 l2 c2)) (Nat.le_succ _) 0 (.bool n6)) (Nat.le_succ _) 1 (.slice A6 l6 c6)) (.cells #[.bool n5,.slice A5 l5 c5] 31)) (.cells #[.bool n6,.slice A6 l6 c6] 31)));have SZ:=zz (show w.heap.size+3≤(((((((u.setCell ⟨w.heap.size,0,none⟩ (.bool nb)).setCell ⟨w.heap.size,1,none⟩ (.slice A2 l2 c2)).setCell ⟨w.heap.size+1,0,none⟩ (.bool n6)).setCell ⟨w.heap.size+1,1,none⟩ (.slice A6 l6 c6)).alloc (.cells #[.bool n5,.slice A5 l5 c5] 31)).alloc (.cells #[.bool n6,.slice A6 l6 c6] 31)).drew).heap.size from Nat.le_trans s0.out (by simp[World.setCell] <;> omega));clear t1 N0 N1 N2 q00 q01 q02 q03 q10 q11 q12 q13 h0lt h1lt g0 p0 r0 s0;simp only[Exit.then,Exit.inBlock]
    go_wp2;go_roundg r.natAbs
    case measure=>rw[hgk.out];exact C0.out
    case rel=>exact⟨y',r,_,_,_,_,_,_,_,_,zz rfl,A0,hly,B0,S0,S1,S2,V1,V2,SB,SZ⟩
theorem ROf_any (w:World) (n:Int) (h0:-9223372036854775808≤n) (h1:n≤9223372036854775807) :
  Calls Tryz.prog 97 #[.int .i64 n] w fun e w'=>Below w.heap.size w w'∧RetV w' n e:=by
 obtain⟨i0,hi,hz0,hz1,hz2⟩:=info_parts info_int;have H3:=zz (show(dig n.natAbs).length≤3 by rw[dig_len_le];show n.natAbs<1000000000000000000000000000;omega);obtain⟨ng,hng⟩:∃ ng,ng=decide (n<0):=⟨_,rfl⟩;have p0:=zz (show sgn ng n.natAbs=n by rw[hng];exact sgn_natAbs n);have n0:=zz hng.symm;clear hng;go_enter Tryz.func97,Tryz.ntmps97
 go_wp2;rw[n0.out];have L0:LB (w.alloc (.cells #[.bool false,.slice none 0 0] 31)) w.heap.size (.bool false) (.slice none 0 0):=by(repeat (first | (refine LB.new' ?_;simp;done) | refine LB.alloc ?_ _))
 go_loopw [0,3] (fun nv dv wr=>∃ (k:Int) (ds:List Nat) (v:Value),nv=.int .i64 k∧v=dv∧-9223372036854775808≤k∧k≤9223372036854775807∧Hid (dig n.natAbs=ds++dig k.natAbs)∧Hid (ds.length≤20)∧Hid (Small ds)∧LB wr w.heap.size (.bool false) (.slice none 0 0)∧Hid (OwnV wr (w.heap.size+1) v (ni ds))∧Hid (w.heap.size+1≤wr.heap.size)∧Hid (Below w.heap.size w wr)) (fun nv _ _=>(intOf nv).natAbs)
 case atStart=>exact⟨n,[],_,rfl,rfl,h0,h1,zz (by simp),zz (by simp),zz Small.nil,L0,zz (OwnV.nil _ _),zz (by simp),zz (by(repeat' (first | exact Below.refl _ _ | refine Below.drew ?_ | refine Below.alloc ?_ (by first | exact Nat.le_refl _ | (simp;done) | (simp;omega)) _)))⟩
 case round=>
  clear L0 h0 h1;obtain⟨k,ds,v,rfl,rfl,e0,f0,hd,hlen,hsm,L0,ho,hsz,hbw⟩:=hrel;by_cases hk:k=0
  ·have q0:=zz (show val ds=n.natAbs by rw[← val_dig n.natAbs,hd.out,hk,show(0:Int).natAbs=0 from rfl,dig_zero,List.append_nil]);have r0:=zz (show RN wr wr.heap.size _ ds from ho.out.ri);subst hk;clear e0 f0;go_wp2_with fail
   refine(made_any _ _ _ ds r0.out hsm.out (by have:=hlen.out;omega)).mono ?_;rintro e w2 ⟨a0,v2,rfl,b0⟩;rw[q0.out,p0.out] at b0;obtain⟨n3,A3,l3,c3,rfl,d0⟩:=b0.opened;have s0:=zz d0;have N0:=L0.step a0;have c0:=zz (hbw.out.trans (a0.mono hbw.out.size));clear b0 d0 a0 L0 hbw;have q20:=N0.cell0;have q21:=N0.cell1;have q22:=N0.frozen 0;have q23:=N0.frozen 1;go_wp2;(try simp only[Exit.inBlock,Exit.then])
   exact end_long rfl N0 c0.out (by omega) s0.out rfl
  ·have hkb:(k != 0)=true:=by simpa using hk
   have hna:(k.tmod 1000000000).natAbs=k.natAbs % 1000000000:=Int.natAbs_tmod k 1000000000;have hnd:(k.tdiv 1000000000).natAbs=k.natAbs / 1000000000:=Int.natAbs_tdiv k 1000000000;have hm0:-1000000000<k.tmod 1000000000:=by have:=Nat.mod_lt k.natAbs (show 1000000000>0 by decide);omega
   have hm1:k.tmod 1000000000<1000000000:=by have:=Nat.mod_lt k.natAbs (show 1000000000>0 by decide);omega
   obtain⟨d,hd9⟩:∃ d:Nat,d=k.natAbs % 1000000000:=⟨_,rfl⟩;have hdlt:d<1000000000:=by rw[hd9];exact Nat.mod_lt _ (by decide)
   have HD:=zz hnd;have t0:=zz hd9;have k0:=zz (hna.trans hd9.symm);clear hnd hd9 hna;go_upto_if 13 with (fail)
   obtain⟨m,hm⟩:∃ m,k.tmod 1000000000=m:=⟨_,rfl⟩;rw[hm] at hm0 hm1 k0 ⊢;clear hm;go_cut [5] (fun rv wx=>rv=.int .i64 (d:Int)∧wx=wr)
   case first=>
    by_cases hneg:m<0
    ·rw[decide_eq_true hneg];have HE:=zz (show -m=(d:Int) by have:=k0.out;omega);clear hneg;go_wp2;go_meet
     exact⟨by rw[HE.out],rfl⟩
    ·rw[decide_eq_false hneg];have HE:=zz (show m=(d:Int) by have:=k0.out;omega);clear hneg;go_wp2;go_meet
     exact⟨by rw[HE.out],rfl⟩
   case rest=>
    obtain⟨rfl,rfl⟩:=hcut;have hl20:=hlen.out;have hown:=ho.out.alloc (.cells #[.int .i64 (d:Int)] 3);clear hm0 hm1;go_wp2_with (at_builtin;refine wpList_append_own_at _ rfl _ _ 29 rfl (w.heap.size+1) 3 i0 (.int .i64 0) 1 8 Tryz.underlying29 hi hz0 hz1 hz2 rfl (by decide) v (ni ds).length ((ni ds).map (Value.int .i64)) rfl hown ⟨wc.heap.size,0,none⟩ 1 1 [.int .i64 (d:Int)] rfl rfl (cell_one_new _ _ _) (by intro u hu;simp at hu;subst hu;rfl) (by rw[ni_length];unfold maxLen;omega) (by rw[ni_length];omega) (by have:=hsz.out;simp;omega) ?_)
    intro v' w' hown' hgrow hne hblk;have hv':OwnV w' (w.heap.size+1) v' (ni (ds++[d])):=by rw[ni_append];exact push_int hown'
    have hrow:∀ b,b<w.heap.size+1→v.ownBlock≠some b:=fun b hb he=>by
     have:=(World.ownsRow.lt ho.out b he).1
     omega
    have M0:=(L0.alloc (.cells #[.int .i64 (d:Int)] 3)).grown hgrow (hrow _ (by omega));have c0:=zz ((hbw.out.alloc hbw.out.size (.cells #[.int .i64 (d:Int)] 3)).grown hgrow (by have:=hbw.out.size;simp;omega) (fun g he=>by have:=(World.ownsRow.lt ho.out g he).1;omega));have u0:=zz (show w.heap.size+1≤w'.heap.size by have h1:=hgrow.size;have h2:=hsz.out;simp at h1;omega);have HV:=zz hv';have v0:=zz (hsm.out.append (Small.cons hdlt Small.nil));have m0:=zz (show dig n.natAbs=(ds++[d])++dig (k.tdiv 1000000000).natAbs by rw[hd.out,HD.out,dig_pos (by omega:k.natAbs≠0),t0.out];simp);have w0:=zz (show(ds++[d]).length≤20 by have h:=H3.out;rw[m0.out] at h;simp at h ⊢;omega);have g0:-9223372036854775808≤k.tdiv 1000000000:=by have:=HD.out;omega
    have j0:k.tdiv 1000000000≤9223372036854775807:=by have:=HD.out;omega
    have x0:=zz (show(k.tdiv 1000000000).natAbs<k.natAbs by have:=HD.out;omega);rcases hv'.form with ⟨_,he⟩ | ⟨g,cap,rfl,_⟩
    ·simp[ni] at he
    clear hown' hgrow hne hblk hown hv' hrow ho hsz hbw L0 hdlt;go_wp2;go_roundw
    case rel=>exact⟨k.tdiv 1000000000,ds++[d],_,rfl,rfl,g0,j0,m0,w0,v0,M0,HV,u0,c0⟩
    case measure=>simp only[intOf];exact x0.out
section
variable {w w':World} {base g:Nat} {v:Value} {l:List UInt8}
end
end Go.Proofs.YtdigbofiebfkeaaGreatDoor
