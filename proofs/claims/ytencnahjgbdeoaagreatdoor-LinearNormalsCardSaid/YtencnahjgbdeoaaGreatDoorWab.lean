/- Texts put together. -/
import Derived.Test.YtencnahjgbdeoaaGreatDoorQQ
import Derived.Test.YtencnahjgbdeoaaGreatDoorLlm
import Derived.Test.YtencnahjgbdeoaaGreatDoorLa1
import Derived.Test.YtencnahjgbdeoaaGreatDoorLr
namespace Go.Proofs.YtencnahjgbdeoaaGreatDoor
open Go Go.RowKit Dig
set_option maxRecDepth 100000
set_option maxHeartbeats 4000000
set_option linter.unusedSimpArgs false
variable {A:Option Addr} {B N b c n:Nat} {M:List (List Rat)} {T:TypeId} {l:List Rat} {q q1:Rat} {s1:ByteArray} {v:Value} {w w':World}
def ES:Elem ByteArray:=fun _ _ cs s=>cs=[.string s]
theorem ES.stable:Elem.Stable ES:=⟨fun h _=>h,fun h _=>h⟩
abbrev SS:=SL 1 ES
theorem SS.elem {j:Nat} {l:List ByteArray} (h:SS w B (.slice A n c) l) (hj:j<l.length):∃ g off,A=some ⟨g,off,none⟩∧g<B∧w.cell? ⟨g,off+j,none⟩=some (.string l[j]):=by
 obtain⟨A',c',he,h1,h2,h3⟩:=h;injection he with e1 e2 e3
 subst e1;subst e2;subst e3;obtain⟨g,off,rfl,hg,hx⟩:=h3 (by omega);obtain⟨cs,e1,e2,rfl⟩:=hx j hj;have:=e2 0 _ rfl;rw[aGd,aJi] at this;exact⟨g,off,rfl,hg,this⟩
theorem xF (w:World) (va vb:Value) (n m n2 m2:Bool) (a b a2 b2:List Int) (ha:QR w w.heap.size va n a m b) (hb:QR w w.heap.size vb n2 a2 m2 b2) :
  CV 46 #[va,vb] w fun e _=>e=.returned (.bool (decide ((n=n2∧a=a2)∧(m=m2∧b=b2)))):=by
 obtain⟨A,l,c,A',l',c',rfl,ha⟩:=RI.of ha;obtain⟨B,k,d,B',k',d',rfl,hb⟩:=RI.of hb;have HA:=zz ha;have HB:=zz hb;clear ha hb;obtain⟨x,hx⟩:=ex (decide ((n=n2∧a=a2)∧(m=m2∧b=b2)));rw[← hx];have HX:=zz hx;clear hx;obtain⟨w0,hw0⟩:=ex ((w.alloc (.cells #[.bool n,.slice A l c,.bool m,.slice A' l' c'] 28)).alloc (.cells #[.bool n2,.slice B k d,.bool m2,.slice B' k' d'] 28));have B0:=zz (pK hw0);have z0:=pJ hw0;have La:=pM hw0;have Lb:=pL hw0;replace HA:=st aHz HA B0;replace HB:=st aHz HB B0;go_enter Tryz.func46,Tryz.ntmps46
 go_upto_region 1 with (fail)
 rw[← hw0];clear hw0;have l0:=cz4 La;have p0:=cz4 Lb;go_wp2_with fail
 refine(nx B0 (tF _ _ _ _ _ _ _ (QR.fst HA.o) (QR.fst HB.o))).mono ?_;rintro e w1 ⟨⟨B4,z4,j0⟩,rfl⟩;clear l0 p0;by_cases h1:n=n2∧a=a2
 ·rw[aEj h1];have H1:=zz h1;clear h1;have a0:=aEd La B4.o;have t0:=cz4 a0;have b0:=aEd Lb B4.o;have c0:=cz4 b0;go_wp2_with fail
  have g0:=st aHz HA B4;have h0:=st aHz HB B4;refine(nx j0 (tF _ _ _ _ _ _ _ (QR.snd g0.o) (QR.snd h0.o))).mono ?_;rintro e w6 ⟨⟨B13,z13,y0⟩,rfl⟩;clear t0 c0;rw[show decide (m=m2∧b=b2)=x by rw[HX.o];exact aIu.2 ⟨fun h=>⟨H1.o,h⟩,fun h=>h.2⟩];go_wp2;go_ret;exact⟨y0.o,rfl⟩
 ·rw[aEe h1];have I0:=zz (show x=false by rw[HX.o];exact aEe (fun h=>h1 h.1));clear h1;go_wp2;go_ret;exact⟨j0.o,by rw[I0.o];rfl⟩
theorem yS (w:World) (A B:Option Addr) (n c m d:Nat) (l k:List QX) (ha:QS w w.heap.size (.slice A n c) l) (hb:QS w w.heap.size (.slice B m d) k) :
  CV 16 #[.slice A n c,.slice B m d] w fun e _=>e=.returned (.bool (decide (l=k))):=by
 obtain⟨rfl,hn1,hn2⟩:=aHb ha;obtain⟨rfl,hm1,hm2⟩:=aHb hb;have HA:=zz ha;have HB:=zz hb;clear ha hb;have a0:=zz (aDy w.heap.size w);by_cases hlen:l.length=k.length
 case neg=>
  have HR:=zz (show decide (l=k)=false from aEe (fun e=>hlen (by rw[e])));have hne:((l.length:Int) != (k.length:Int))=true:=by rw[aJg];omega
  go_enter Tryz.func16,Tryz.ntmps16
  go_wp2;go_ret;exact⟨a0.o,by rw[HR.o];rfl⟩
 case pos=>
  have hne:((l.length:Int) != (k.length:Int))=false:=by rw[aJh];omega
  have HK:=zz hlen;clear hlen;go_enter Tryz.func16,Tryz.ntmps16
  go_wp2;go_loopw [5] (fun iv wr=>∃ j:Nat,j≤l.length∧iv=.int .i64 j∧Hi (l.take j=k.take j)∧Hi (Below w.heap.size w wr)) (fun iv _=>l.length-(intOf iv).toNat)
  case atStart=>exact⟨0,aEy _,rfl,zz rfl,a0⟩
  case round=>
   obtain⟨j,hj,rfl,HE,HW⟩:=hrel;have zr:=HW.o.size;by_cases hlt:j<l.length
   case pos=>
    have hlk:j<k.length:=by have:=HK.o;omega
    have hlt':(j:Int)<(l.length:Int):=by omega
    have hji:(0:Int)≤(j:Int)∧(j:Int)<(l.length:Int):=by omega
    have hjk:(j:Int)<(k.length:Int):=by omega
    obtain⟨g,off,xA,xl,xc,xB,xu,xd,rfl,hg,hE,hx⟩:=aKm HA.o (j:=j) hlt;replace hE:=hE.step HW.o;have HXx:=zz (aHz hx HW.o);clear hx hg;obtain⟨g',off',yA,yl,yc,yB,yu,yd,rfl,hg',hE',hy⟩:=aKm HB.o (j:=j) hlk;replace hE':=hE'.step HW.o;have HXy:=zz (aHz hy HW.o);clear hy hg';have htx:l.take (j+1)=l.take j++[l[j]]:=by rw[aFj,aEh hlt];rfl
    have hty:k.take (j+1)=k.take j++[k[j]]:=by rw[aFj,aEh hlk];rfl
    have m0:=zz (show l[j]≠k[j]→decide (l=k)=false from fun h=>aEe (fun e=>h (by subst e;rfl)));have n0:=zz htx;have o0:=zz hty;clear htx hty;obtain⟨⟨⟨xn,xa⟩,xm,xb⟩,hxj⟩:∃ x,x=l[j]:=⟨_,rfl⟩;rw[← hxj] at hE HXx m0 n0;clear hxj;simp only at hE HXx;obtain⟨⟨⟨yn,ya⟩,ym,yb⟩,hyj⟩:∃ x,x=k[j]:=⟨_,rfl⟩;rw[← hyj] at hE' HXy m0 o0;clear hyj;simp only at hE' HXy;cases hd:decide ((xn=yn∧xa=ya)∧(xm=ym∧xb=yb))
    case false=>
     have HD:=zz hd;have HR:=zz (m0.o (fun e=>by simp only[Prod.mk.injEq] at e;rw[aMc] at hd;exact hd e));clear hd;go_upto_region 6 with (fail)
     refine aFq [se 0 17 [] (.slice (some ⟨g,off,none⟩) l.length c),se 1 18 [] (.int .i64 (j:Int)),se 2 19 [0,1] (.pointer (some ⟨g,off+j*4,none⟩)),se 3 20 [2] (.agg #[.bool xn,.slice xA xl xc,.bool xm,.slice xB xu xd]),se 4 21 [] (.slice (some ⟨g',off',none⟩) k.length d),se 5 22 [] (.int .i64 (j:Int)),se 6 23 [4,5] (.pointer (some ⟨g',off'+j*4,none⟩)),se 7 24 [6] (.agg #[.bool yn,.slice yA yl yc,.bool ym,.slice yB yu yd]),se 8 25 [3,7] (.bool false),se 9 26 [8] (.bool true)] 0 (SC (fun _ h=>(aIg hE h).c0) (SC (fun _ h=>(aIg hE h).c1) (SC (fun _ h=>(aIg hE h).c2) (SC (fun _ h=>(aIg hE h).c3) (SC (fun _ h=>(aIg hE' h).c0) (SC (fun _ h=>(aIg hE' h).c1) (SC (fun _ h=>(aIg hE' h).c2) (SC (fun _ h=>(aIg hE' h).c3) S0)))))))) aFi ?_ ?_
     ·intro xs a_ hA;simp only[SX,↓reduceIte,Nat.reduceEqDiff,Nat.reduceAdd] at hA⊢;subst hA;and_intros
      all_goals intro wk b_ z_
      all_goals try exact pl
      ·intro f3 f7;intros;refine wo fun K hK=>?_;go_simp;have b0:=st aHz HXx b_;have d0:=st aHz HXy b_;(with_reducible refine((show Calls Tryz.prog _ _ _ _ from HD.o▸xF _ _ _ xn xm yn ym xa xb ya yb b0.o d0.o)).mono ?_)
       rintro e wc3 ⟨h0,rfl⟩;refine hK _ _ ⟨_,by simp only[FL,f3,f7] <;> kernel_rfl,h0,rfl⟩
     ·intro xs w0 B5 z5;simp only[SY];have i0:=tr HW B5;refine ED ?_;(try simp only[Exit.then])
      go_wp2;go_ret;exact⟨i0.o,by rw[HR.o];rfl⟩
    case true=>
     have HD:=zz hd;have HR:=zz (show l.take (j+1)=k.take (j+1) by rw[aHc] at hd;rw[n0.o,o0.o,HE.o,hd.1.1,hd.1.2,hd.2.1,hd.2.2]);clear hd;go_upto_region 6 with (fail)
     refine aFq [se 0 17 [] (.slice (some ⟨g,off,none⟩) l.length c),se 1 18 [] (.int .i64 (j:Int)),se 2 19 [0,1] (.pointer (some ⟨g,off+j*4,none⟩)),se 3 20 [2] (.agg #[.bool xn,.slice xA xl xc,.bool xm,.slice xB xu xd]),se 4 21 [] (.slice (some ⟨g',off',none⟩) k.length d),se 5 22 [] (.int .i64 (j:Int)),se 6 23 [4,5] (.pointer (some ⟨g',off'+j*4,none⟩)),se 7 24 [6] (.agg #[.bool yn,.slice yA yl yc,.bool ym,.slice yB yu yd]),se 8 25 [3,7] (.bool true),se 9 26 [8] (.bool false)] 0 (SC (fun _ h=>(aIg hE h).c0) (SC (fun _ h=>(aIg hE h).c1) (SC (fun _ h=>(aIg hE h).c2) (SC (fun _ h=>(aIg hE h).c3) (SC (fun _ h=>(aIg hE' h).c0) (SC (fun _ h=>(aIg hE' h).c1) (SC (fun _ h=>(aIg hE' h).c2) (SC (fun _ h=>(aIg hE' h).c3) S0)))))))) aFi ?_ ?_
     ·intro xs a_ hA;simp only[SX,↓reduceIte,Nat.reduceEqDiff,Nat.reduceAdd] at hA⊢;subst hA;and_intros
      all_goals intro wk b_ z_
      all_goals try exact pl
      ·intro f3 f7;intros;refine wo fun K hK=>?_;go_simp;have e0:=st aHz HXx b_;have f0:=st aHz HXy b_;(with_reducible refine((show Calls Tryz.prog _ _ _ _ from HD.o▸xF _ _ _ xn xm yn ym xa xb ya yb e0.o f0.o)).mono ?_)
       rintro e wc9 ⟨j0,rfl⟩;refine hK _ _ ⟨_,by simp only[FL,f3,f7] <;> kernel_rfl,j0,rfl⟩
     ·intro xs v0 B11 z11;simp only[SY];have g0:=tr HW B11;refine ED ?_;(try simp only[Exit.then])
      go_wp2;go_roundw
      case rel=>exact⟨j+1,hlt,by go_num,HR,g0⟩
      case measure=>exact ms
   case neg=>
    obtain rfl:j=l.length:=by omega
    have HR:=zz (show decide (l=k)=true by have:=HE.o;rw[aFe,HK.o,aFe] at this;exact aEj this);have hlt':¬ (l.length:Int)<(l.length:Int):=by omega
    go_wp2;go_ret;exact⟨HW.o,by rw[HR.o];rfl⟩
theorem uH (w:World) (A:Option Addr) (n c:Nat) (l:List ByteArray) (q:List Rat) (h:SS w w.heap.size (.slice A n c) l) (hq:l.map (fun s=>bR s.data.toList)=q.map fun x=>(some x,0)) (hs:∀ s∈l,s.size≤3000000000) (hl:l.length≤3000000000) (M:MaxL w) :
  CV 29 #[.slice A n c] w fun e w'=>∃ v,e=.returned v∧QS w' w'.heap.size v (q.map qx):=by
 obtain⟨rfl,hn1,hn2⟩:=aHb h;have HS:=zz h;have HP:=zz hq;have HZ:=zz hs;have HM:=zz M;clear h hq hs M;have hkk:(l.length:Int)≤3000000000:=by omega
 have hlq:q.length=l.length:=by have:=aIl List.length HP.o;simpa using this.symm
 have z0:=zz hlq;clear hlq;obtain⟨iq,hiq,hzq,hsq,hbq⟩:=aGf fH;have o0:=zz (aDy w.heap.size w);go_enter Tryz.func29,Tryz.ntmps29
 go_wp2;go_loopw [3,10] (fun ov iv wr=>∃ j:Nat,j≤l.length∧iv=.int .i64 j∧Hi (OA 4 EQ 28 wr w.heap.size ov ((q.take j).map qx))∧Hi (Below w.heap.size w wr)) (fun _ iv _=>l.length-(intOf iv).toNat)
 case atStart=>exact⟨0,aEy _,rfl,zz OA.nil,o0⟩
 case round=>
  obtain⟨j,hj,rfl,HO,HW⟩:=hrel;have zr:=HW.o.size;by_cases hlt:j<l.length
  case pos=>
   have hqt:j<q.length:=by have:=z0.o;omega
   have hlt':(j:Int)<(l.length:Int):=by omega
   have hji:(0:Int)≤(j:Int)∧(j:Int)<(l.length:Int):=by omega
   obtain⟨g,off,rfl,hg,hcell⟩:=SS.elem HS.o hlt;replace hcell:=(HW.o.cell (p:=⟨g,off+j,none⟩) hg).trans hcell;clear hg;have hps:bR l[j].data.toList=(some q[j],0):=by have:=aIl (fun z=>z[j]?) HP.o;simpa[aEh hlt,aEh hqt] using this
   have hsz:=HZ.o l[j] (aEc hlt);have htk:q.take (j+1)=q.take j++[q[j]]:=by rw[aFj,aEh hqt];rfl
   generalize l[j]=s at hcell hps hsz;generalize q[j]=x at hps htk;have C0:=zz hps;have D0:=zz hsz;have E0:=zz htk;clear hps hsz htk hqt;go_wp2_with fail
   refine(nx HW (MU _ s D0.o (HM.o.step HW.o))).mono ?_;rintro e w1 ⟨⟨B2,z2,p0⟩,hr⟩;rw[C0.o] at hr;obtain⟨v,rfl,hv⟩:=hr;obtain⟨r0,s0,t0,u0,v0,b0,w0,rfl,ha4,f0,hc4⟩:=hv;have i0:=zz (show QV w1 w1.heap.size (.agg #[.bool r0,.slice s0 t0 u0,.bool false,.slice v0 b0 w0]) x from⟨_,_,_,_,_,_,_,rfl,ha4,f0,hc4⟩);clear ha4 f0 hc4;have F0:=zz (HO.o.step aEf B2.o);go_upto_region 6 with (fail)
   obtain⟨w5,c0⟩:=ex (w1.alloc (.cells #[.bool r0,.slice s0 t0 u0,.bool false,.slice v0 b0 w0] 28));rw[← c0];have a0:=cL c0;have za5:=cJ c0;have B6:=zz (cK c0);have z6:=B6.o.size;have g0:=tr p0 B6;clear c0;have d0:Below w5.heap.size w5 (w5.alloc (.cells #[.bool r0,.slice s0 t0 u0,.bool false,.slice v0 b0 w0] 28)):=aB (aDy _ _) _;have j0:=st aHf i0 B6;have G0:=zz ((F0.o.step aEf B6.o).step aEf d0);have H0:=zz ((aHf j0.o d0).qr);have h0:=zz (g0.o.trans (d0.mono g0.o.size));clear d0;have k0:=cz4 a0;go_wp2_with (at_builtin;go_loud (refine aO rfl _ _ _ rfl w.heap.size 28 iq _ 64 Tryz.underlying23 hiq hzq hsq hbq rfl (by decide) (by decide) aEf aIz G0.o rfl ⟨w5.heap.size,0,none⟩ 1 [qx x] rfl Nat.one_pos [.bool r0,.slice s0 t0 u0,.bool false,.slice v0 b0 w0] (aLt rfl ⟨_,_,_,_,rfl,H0.o⟩) (iI _ _ [_,_,_,_]) (by intro u hu;simp at hu;rcases hu with rfl | rfl | rfl | rfl <;> rfl) (by simp only[aEb,aEk,aEl,aEm,maxLen];omega) (by simp only[aEb,aEk,aEl,aEm];omega) (by have:=h0.o.size;simpa using this) ?_))
   clear k0;intro v' w' hoa hb hs' hg' hat;have I0:Hi (OA 4 EQ 28 w' w.heap.size v' ((q.take (j+1)).map qx)):=zz (by rw[E0.o,aGc,List.map_take];exact hoa);have q0:=zz (h0.o.trans hb);clear hoa hb hs' hg' hat;go_wp2;go_roundw
   case rel=>exact⟨j+1,hlt,by go_num,I0,q0⟩
   case measure=>exact ms
  case neg=>
   obtain rfl:j=l.length:=by omega
   rw[aFa (aGo z0.o)] at HO;have hlt':¬ (l.length:Int)<(l.length:Int):=by omega
   go_wp2;go_ret;exact⟨HW.o,_,rfl,HO.o.sl⟩
def IsC (w:World) (B N:Nat) (l:List ByteArray):Prop:=N<B∧∃ A n c,One w N 114 (.slice A n c)∧SS w B (.slice A n c) l
theorem IsC.step {l:List ByteArray} (h:IsC w w.heap.size N l) (hb:Below w.heap.size w w'):IsC w' w'.heap.size N l:=by
 obtain⟨h0,A,n,c,h1,h2⟩:=h;exact⟨aEt h0 hb.size,A,n,c,h1.step hb,h2.step ES.stable hb⟩
theorem oE (w:World) (A:Option Addr) (n c:Nat) (l:List ByteArray) (h:SS w w.heap.size (.slice A n c) l) :
  CV 30 #[.slice A n c] w fun e w'=>∃ N,e=.returned (.func (.func 83) #[] #[.pointer (some ⟨N,0,none⟩)])∧IsC w' w'.heap.size N l:=by
 have HB:=zz (aB (aDy w.heap.size w) (.cells #[.slice A n c] 114));have HL:=zz (One.new w 114 (.slice A n c));have HS:=zz (h.step ES.stable HB.o);clear h;go_enter Tryz.func30,Tryz.ntmps30
 go_wp2;go_ret;exact⟨HB.o,_,rfl,by simp,_,_,_,HL.o,HS.o⟩
theorem OG {l:List ByteArray} (q:List Rat) (hN:IsC w w.heap.size N l) (hx:QS w w.heap.size (.slice A n c) (q.map qx)) (hq:l.map (fun s=>bR s.data.toList)=q.map fun x=>(some x,0)) (hs:∀ s∈l,s.size≤3000000000) (hl:l.length≤3000000000) (M:MaxL w) :
  CV 83 #[.slice A n c,.int .i64 0,.pointer (some ⟨N,0,none⟩)] w fun e _=>e=.returned (.bool true):=by
 obtain⟨h0,A',n',c',h1,h2⟩:=hN;have HX:=zz hx;have HS:=zz h2;have HQ:=zz hq;have HZ:=zz hs;have HM:=zz M;clear hx h2 hq hs M;have q0:=h1.cell;have q1:=h1.lt;clear h1 h0;go_enter Tryz.func83,Tryz.ntmps83
 go_wp2_with fail
 refine(uH _ _ _ _ l q HS.o HQ.o HZ.o hl HM.o).mono ?_;rintro e w1 ⟨hb,v,rfl,hv⟩;have a0:=zz hb;clear hb q0 q1;obtain⟨B,d,hve,hd1,hd2⟩:=hv.slice;rw[aEb] at hve;subst hve;have HV:=zz hv;clear hv;go_wp2_with fail
 refine(yS _ _ _ _ _ _ _ (q.map qx) (q.map qx) (HX.o.step aEf a0.o) HV.o).mono ?_;rintro e w2 ⟨hb,rfl⟩;have b0:=zz (a0.o.trans (hb.mono a0.o.size));clear hb;have hd:decide (q.map qx=q.map qx)=true:=aEj rfl;rw[hd];clear hd;go_wp2;go_ret;exact⟨b0.o,rfl⟩
theorem fY (w:World) (k:Int) :
  CV 31 #[.int .i64 k] w fun e w'=>∃ N,e=.returned (.func (.func 84) #[] #[.pointer (some ⟨N,0,none⟩)])∧One w' N 40 (.int .i64 k):=by
 have HB:=zz (aB (aDy w.heap.size w) (.cells #[.int .i64 k] 40));have HL:=zz (One.new w 40 (.int .i64 k));go_enter Tryz.func31,Tryz.ntmps31
 go_wp2;go_ret;exact⟨HB.o,_,rfl,HL.o⟩
theorem fW {k:Int} (hN:One w N 40 (.int .i64 k)) :
  CV 84 #[.slice A 0 c,.int .i64 k,.pointer (some ⟨N,0,none⟩)] w fun e _=>e=.returned (.bool true):=by
 have HB:=zz (aDy w.heap.size w);have q0:=hN.cell;have q1:=hN.lt;clear hN;go_enter Tryz.func84,Tryz.ntmps84
 go_wp2;go_ret;exact⟨HB.o,by simp⟩
theorem sW (w:World) (v:Value) (_hv:v.cells.size=1) :
  CV 28 #[v] w fun e _=>e=.returned v:=by
 have HB:=zz (aDy w.heap.size w);go_enter Tryz.func28,Tryz.ntmps28
 go_wp2;go_ret;exact⟨HB.o,rfl⟩
def uV (q:Rat):Bool:=decide (q.num.natAbs<1000000000)&&decide (q.den<1000000000)
theorem iM (h:uV q=true):QL 1 1 q:=by
 unfold uV at h;simp only[aFs,aHc] at h
 unfold QL;exact⟨aU.2 (show q.num.natAbs<bp 1 from h.1),aU.2 (show q.den<bp 1 from h.2)⟩
theorem QL.up {a:Nat} (h:QL a a q) (hab:a≤b):QL b b q:=h.mono hab hab
theorem MZ (h:QL 600 600 q):qv (qx q)=some q:=by unfold QL at h;exact YW q h.1 h.2
theorem DG (h:QL 4 4 q):eC (qx q)=true:=by
 unfold eC;rw[MZ (h.up (by decide))];unfold QL at h;have h1:=h.1;have h2:=h.2;simp[qx,aC,h1,h2]
theorem BB (h:∀ q∈l,QL 600 600 q):aW (l.map qx)=l:=by
 unfold aW;rw[List.map_map]
 conv=>rhs;rw[← List.map_id l]
 exact aKp fun q hq=>by simp[MZ (h q hq)]
def PF (l:List Rat):Prop:=(∀ q∈l,QL 4 4 q)∧1≤l.length∧l.length≤12
def XY (M:List (List Rat)):Prop:=Short 4 M∧Wide M (aM M)∧1≤M.length∧M.length≤12∧1≤aM M∧aM M≤6
theorem lO (h:PF l):dC (l.map qx)=true:=by
 unfold dC;simp only[aFs,aHc,aEx,aEb]
 exact⟨h.2,fun x hx=>by obtain⟨q,hq,rfl⟩:=aFc.1 hx;exact DG (h.1 q hq)⟩
theorem gG (M:List (List Rat)):((M.map (List.map qx)).getD 0 []).length=aM M:=by
 cases M with
 | nil=>rfl
 | cons r t=>simp[aM]
theorem pN (h:XY M):eA (M.map (List.map qx))=true:=by
 obtain⟨h1,h2,h3,h4,h5,h6⟩:=h;unfold eA;simp only[aFs,aHc,aEx,aEb]
 refine⟨⟨h3,h4⟩,fun x hx=>?_⟩;obtain⟨r,hr,rfl⟩:=aFc.1 hx;have hw:=h2 r hr;rw[gG,aEb,hw];exact⟨⟨h6,rfl⟩,lO ⟨h1 r hr,by omega,by omega⟩⟩
theorem lS (h:Short 4 M):aK (M.map (List.map qx))=M:=by
 unfold aK;rw[List.map_map]
 conv=>rhs;rw[← List.map_id M]
 exact aKp fun r hr=>by simp[BB (fun q hq=>(h r hr q hq).up (show 4≤600 by decide))]
theorem tK (h:PF l):aW (l.map qx)=l:=BB fun q hq=>(h.1 q hq).up (by decide)
section
variable {M C:List (List Rat)} {b d f x:List Rat} {l:Rat}
theorem vH (hM:XY M) (hb:PF b):gI (M.map (List.map qx)) (b.map qx)=if b.length=M.length∧M.length=aM M then mM (aZ M b) else (none,2):=by
 unfold gI;rw[aEv ⟨pN hM,lO hb⟩,lS hM.1,tK hb,gG];simp only[aEb]
theorem RL (hM:XY M) (hb:PF b):dZ (M.map (List.map qx)) (b.map qx)=if b.length=M.length then
  if (∀ r∈bB M,∀ q∈r,eS q)∧∀ q∈bG M b,eS q then (some (bB M,bG M b),0) else (none,6) else (none,2):=by
 unfold dZ;rw[aEv ⟨pN hM,lO hb⟩,lS hM.1,tK hb];simp only[aEb]
theorem wK (hM:XY M) (hb:PF b) (hx:∀ q∈x,QL 600 600 q):cV (M.map (List.map qx)) (b.map qx) (x.map qx)=if b.length=M.length∧x.length=aM M then gY (cF M b x) else (none,2):=by
 unfold cV;rw[aEv ⟨pN hM,lO hb⟩,aEv (aEx.2 fun y hy=>by obtain⟨q,hq,rfl⟩:=aFc.1 hy;rw[MZ (hx q hq)];rfl),lS hM.1,tK hb,BB hx,gG];simp only[aEb]
theorem vO (hM:XY M) (hb:PF b):iU (M.map (List.map qx)) (b.map qx)=if b.length=M.length then mM (aZ (bB M) (bG M b)) else (none,2):=by
 unfold iU;rw[aEv ⟨pN hM,lO hb⟩,lS hM.1,tK hb];simp only[aEb]
theorem JQ:(qx q).1.1=decide (q.num<0):=rfl
theorem oO (hM:XY M) (hb:PF b) (hd:PF d) (hl:QL 4 4 l):eG (M.map (List.map qx)) (b.map qx) (d.map qx) (qx l)=if b.length=M.length∧d.length=aM M∧0≤l.num∧(∀ q∈d,0≤q.num) then mM (aZ (eP (bB M) l d) (bG M b)) else (none,2):=by
 unfold eG;rw[aEv ⟨pN hM,lO hb,lO hd,DG hl⟩,lS hM.1,tK hb,tK hd,gG,MZ (hl.up (by decide)),aIw];simp only[aEb,JQ]
 have e1:(decide (l.num<0)=false)↔0≤l.num:=by rw[aMc];omega
 have e2:((d.map qx).all (fun q=>!q.1.1)=true)↔∀ q∈d,0≤q.num:=by
  rw[aEx];refine⟨fun h q hq=>?_,fun h x hx=>?_⟩
  ·have:=h _ (aHx hq);rw[JQ,aLm,aMc] at this;omega
  ·obtain⟨q,hq,rfl⟩:=aFc.1 hx;rw[JQ,aLm,aMc];have:=h q hq;omega
 by_cases h:b.length=M.length∧d.length=aM M∧0≤l.num∧∀ q∈d,0≤q.num
 ·rw[aEv h,aEv ⟨h.1,h.2.1,e1.2 h.2.2.1,e2.2 h.2.2.2⟩]
 ·rw[aEu h,aEu (fun k=>h ⟨k.1,k.2.1,e1.1 k.2.2.1,e2.1 k.2.2.2⟩)]
def sE (M:List (List Rat)) (b:List Rat) (C:List (List Rat)) (f:List Rat):Option (Option (List Rat)):=
 let n:=aM C;let e:=elimQ (bM C f) n
 if solvQ e n=true then
  if gX e.1 e.2 n=[] then some (some (eE e.1 e.2 n))
  else some ((aZ (bB (gH M (gX e.1 e.2 n))) (bG (gH M (gX e.1 e.2 n)) (mN M b (eE e.1 e.2 n)))).map fun t=>kQ (eE e.1 e.2 n) (gX e.1 e.2 n) t)
 else none
def aAe:Option (Option (List Rat))→Option (List Rat) × Int
 | some o=>mM o
 | none=>(none,4)
theorem rI (hM:XY M) (hb:PF b) (hC:XY C) (hf:PF f):iV (M.map (List.map qx)) (b.map qx) (C.map (List.map qx)) (f.map qx)=if b.length=M.length∧f.length=C.length∧aM C=aM M then aAe (sE M b C f) else (none,2):=by
 unfold iV sE;rw[aEv ⟨pN hM,lO hb,pN hC,lO hf⟩,lS hM.1,lS hC.1,tK hb,tK hf,gG,gG];simp only[aEb]
 split
 ·split
  ·split
   ·rfl
   ·split <;> simp_all [aAe,mM]
  ·rfl
 ·rfl
end
-- concrete ones
def aAg (l:List Rat):Bool:=l.all uV&&(decide (1≤l.length)&&decide (l.length≤12))
def aAf (M:List (List Rat)):Bool:=M.all (fun r=>r.all uV&&decide (r.length=aM M))&&(decide (1≤M.length)&&decide (M.length≤12)&&(decide (1≤aM M)&&decide (aM M≤6)))
theorem cB (h:aAg l=true):PF l:=by
 unfold aAg at h;simp only[aFs,aHc,aEx] at h
 exact⟨fun q hq=>(iM (h.1 q hq)).up (by decide),h.2⟩
theorem cR (h:aAf M=true):XY M:=by
 unfold aAf at h;simp only[aFs,aHc,aEx] at h
 exact⟨fun r hr q hq=>(iM ((h.1 r hr).1 q hq)).up (by decide),fun r hr=>(h.1 r hr).2,h.2.1.1,h.2.1.2,h.2.2.1,h.2.2.2⟩
theorem jA (h:l.all uV=true):fO l=(some l,0):=aEv fun q hq=>by have h1:=(iM (aEx.1 h q hq)).up (show 1≤600 by decide);unfold QL at h1;exact h1
def VL (w:World) (B:Nat) (v:Value) (l:List Rat):Prop:=QS w B v (l.map qx)
def VM (w:World) (B:Nat) (v:Value) (M:List (List Rat)):Prop:=QM w B v (M.map (List.map qx))
theorem VL.step (h:VL w w.heap.size v l) (hb:Below w.heap.size w w'):VL w' w'.heap.size v l:=aHo h aEf hb
abbrev aIm:=@VL.step
theorem VM.step {l:List (List Rat)} (h:VM w w.heap.size v l) (hb:Below w.heap.size w w'):VM w' w'.heap.size v l:=aHo h (aFl aEf) hb
abbrev aHd:=@VM.step
theorem VM.nil (w:World) (B:Nat):VM w B (.slice none 0 0) []:=SL.nil _ _ _ _
theorem SL.cb {α:Type} {k:Nat} {E:Elem α} {cs:List Value} {l:List α} (h:CB w b T cs.toArray) (hb:b<B) (hc:l.length≤3000000000) (hE:∀ j (hj:j<l.length),∃ ds:List Value,ds.length=k∧(∀ (i:Nat) (v:Value),ds[i]?=some v→cs[j*k+i]?=some v)∧E w B ds l[j]) :
  SL k E w B (.slice (some ⟨b,0,none⟩) l.length l.length) l:=
 ⟨_,_,rfl,aEa _,by omega,fun _=>⟨b,0,rfl,hb,fun j hj=>by
  obtain⟨ds,h1,h2,h3⟩:=hE j hj;exact⟨ds,h1,fun i v hv=>by have:=h.cell (j*k+i) (v:=v) (by simpa using h2 i v hv);simpa using this,h3⟩⟩⟩
theorem SS.cb1 {s:ByteArray} (h:CB w b 9 #[.string s]):SS w w.heap.size (.slice (some ⟨b,0,none⟩) 1 1) [s]:=
 SL.cb (l:=[s]) (cs:=[.string s]) h h.lt (by simp) fun j hj=>by
  have e:j=0:=by simp at hj;omega
  subst e;exact⟨[.string s],rfl,fun i v hv=>by simpa using hv,rfl⟩
theorem SS.cb2 {s t:ByteArray} (h:CB w b 9 #[.string s,.string t]):SS w w.heap.size (.slice (some ⟨b,0,none⟩) 2 2) [s,t]:=
 SL.cb (l:=[s,t]) (cs:=[.string s,.string t]) h h.lt (by simp) fun j hj=>by
  have e:j=0∨j=1:=by simp at hj;omega
  rcases e with rfl | rfl
  ·exact⟨[.string s],rfl,fun i v hv=>by rcases i with _ | i <;> simp_all,rfl⟩
  ·exact⟨[.string t],rfl,fun i v hv=>by rcases i with _ | i <;> simp_all,rfl⟩
theorem VL.cb1 {c0 c1 c2 c3:Value} (h:CB w b T #[c0,c1,c2,c3]) (hq:QV w w.heap.size (.agg #[c0,c1,c2,c3]) q):VL w w.heap.size (.slice (some ⟨b,0,none⟩) 1 1) [q]:=
 SL.cb (l:=[qx q]) (cs:=[c0,c1,c2,c3]) h h.lt (by simp) fun j hj=>by
  have e:j=0:=by simp at hj;omega
  subst e;exact⟨[c0,c1,c2,c3],rfl,fun i v hv=>by simpa using hv,_,_,_,_,rfl,hq.qr⟩
theorem VM.cb1 (h:CB w b T #[v]) (hv:VL w w.heap.size v l):VM w w.heap.size (.slice (some ⟨b,0,none⟩) 1 1) [l]:=
 SL.cb (l:=[l.map qx]) (cs:=[v]) h h.lt (by simp) fun j hj=>by
  have e:j=0:=by simp at hj;omega
  subst e;exact⟨[v],rfl,fun i v hv=>by simpa using hv,_,rfl,hv⟩
theorem VM.cb2 {v':Value} {l':List Rat} (h:CB w b T #[v,v']) (hv:VL w w.heap.size v l) (hv':VL w w.heap.size v' l'):VM w w.heap.size (.slice (some ⟨b,0,none⟩) 2 2) [l,l']:=
 SL.cb (l:=[l.map qx,l'.map qx]) (cs:=[v,v']) h h.lt (by simp) fun j hj=>by
  have e:j=0∨j=1:=by simp at hj;omega
  rcases e with rfl | rfl
  ·exact⟨[v],rfl,fun i v hv=>by rcases i with _ | i <;> simp_all,_,rfl,hv⟩
  ·exact⟨[v'],rfl,fun i v hv=>by rcases i with _ | i <;> simp_all,_,rfl,hv'⟩
theorem VL.open (h:VL w w.heap.size v l) (hn:l.length=n):∃ A c,v=.slice A n c∧VL w w.heap.size (.slice A n c) l:=by
 obtain⟨A,c,e,-,-⟩:=aHi h;rw[aEb,hn] at e;subst e;exact⟨A,c,rfl,h⟩
theorem VM.open {l:List (List Rat)} (h:VM w w.heap.size v l) (hn:l.length=n):∃ A c,v=.slice A n c∧VM w w.heap.size (.slice A n c) l:=by
 obtain⟨A,c,e,-,-⟩:=aHi h;rw[aEb,hn] at e;subst e;exact⟨A,c,rfl,h⟩
theorem VL.rat (h:VL w B v l):QS w B v (l.map qx):=h
theorem VM.rat {l:List (List Rat)} (h:VM w B v l):QM w B v (l.map (List.map qx)):=h
theorem kY {r:Option (List Rat) × Int} {e:Ending} {x:List Rat} (h:mS w r e) (hr:r=(some x,0)) (hn:x.length=n):∃ A c,e=.returned (.tuple #[.slice A n c,.int .i64 0])∧VL w w.heap.size (.slice A n c) x:=by
 subst hr;obtain⟨v,rfl,hv⟩:=h;obtain⟨A,c,rfl,h⟩:=VL.open hv hn;exact⟨A,c,rfl,h⟩
theorem lR {r:Option (List Rat) × Int} {e:Ending} {k:Int} (h:mS w r e) (hr:r=(none,k)):e=.returned (.tuple #[.slice none 0 0,.int .i64 k]):=by
 subst hr;obtain⟨v,rfl,hv⟩:=h;obtain rfl:v=.slice none 0 0:=hv
 rfl
theorem jI {c:Obj} (h:Below (w.alloc c).heap.size (w.alloc c) w'):Below w.heap.size w w':=(aB (aDy _ _) c).trans (h.mono (aB (aDy _ _) c).size)
theorem VL.elem0 (h:VL w w.heap.size (.slice A n c) [q]):∃ g off xA xl xc xB xu xd,A=some ⟨g,off,none⟩∧E4 w g off (.bool (qx q).1.1) (.slice xA xl xc) (.bool (qx q).2.1) (.slice xB xu xd)∧QR w w.heap.size (.agg #[.bool (qx q).1.1,.slice xA xl xc,.bool (qx q).2.1,.slice xB xu xd]) (qx q).1.1 (qx q).1.2 (qx q).2.1 (qx q).2.2:=by
 obtain⟨g,off,xA,xl,xc,xB,xu,xd,e,-,hE,hx⟩:=aKm h.rat (j:=0) (by simp);simp only[aMk,aKx,aLf,aGd] at hE hx
 exact⟨g,off,xA,xl,xc,xB,xu,xd,e,hE,hx⟩
theorem VM.row0 (h:VM w w.heap.size (.slice A n c) [[q]]):∃ g off A' c',A=some ⟨g,off,none⟩∧w.cell? ⟨g,off,none⟩=some (.slice A' 1 c')∧VL w w.heap.size (.slice A' 1 c') [q]:=by
 obtain⟨g,off,A',c',e,-,h1,h2⟩:=aKy h.rat (j:=0) (by simp);exact⟨g,off,A',c',e,h1,h2⟩
theorem KV {r:Option (List (List Rat) × List Rat) × Int} {e:Ending} {x:List (List Rat)} {y:List Rat} {m:Nat} (h:aBb w r e) (hr:r=(some (x,y),0)) (hn:x.length=n) (hm:y.length=m):∃ A c B d,e=.returned (.tuple #[.slice A n c,.slice B m d,.int .i64 0])∧VM w w.heap.size (.slice A n c) x∧VL w w.heap.size (.slice B m d) y:=by
 subst hr;obtain⟨v1,v2,rfl,a0,b0⟩:=h;obtain⟨A,c,rfl,h1⟩:=VM.open a0 hn;obtain⟨B,d,rfl,h2⟩:=VL.open b0 hm;exact⟨A,c,B,d,rfl,h1,h2⟩
theorem VJ {r:Option Rat × Int} {e:Ending} {x:Rat} (h:uU w r e) (hr:r=(some x,0)):∃ v,e=.returned (.tuple #[v,.int .i64 0])∧QV w w.heap.size v x:=by
 subst hr;exact h
theorem vP (h:l.all uV=true):∀ q∈l,eS q:=fun q hq=>by have h1:=(iM (aEx.1 h q hq)).up (show 1≤600 by decide);unfold QL at h1;exact h1
theorem CK (w:World) {s1:ByteArray} {q1:Rat} (h1:bR s1.data.toList=(some q1,0)) (z1:s1.size≤3000000000) (M:MaxL w) :
  Calls Tryz.prog 29 #[.slice (some ⟨w.heap.size,0,none⟩) 1 1] (w.alloc (.cells #[.string s1] 9)) fun e w'=>Below w.heap.size w w'∧∃ A c,e=.returned (.slice A 1 c)∧VL w' w'.heap.size (.slice A 1 c) [q1]:=by
 refine(uH _ _ _ _ [s1] [q1] (SS.cb1 (aHl w 9 #[.string s1])) (by simp[h1]) (by simp[z1]) (by simp) (M.step (aB (aDy _ _) _))).mono ?_;rintro e w' ⟨hb,v,rfl,hv⟩;obtain⟨A,c,rfl,h⟩:=VL.open (n:=1) hv rfl;exact⟨jI hb,A,c,rfl,h⟩
theorem is1 (w:World) {s1:ByteArray} :
  Calls Tryz.prog 30 #[.slice (some ⟨w.heap.size,0,none⟩) 1 1] (w.alloc (.cells #[.string s1] 9)) fun e w'=>Below w.heap.size w w'∧∃ N,e=.returned (.func (.func 83) #[] #[.pointer (some ⟨N,0,none⟩)])∧IsC w' w'.heap.size N [s1]:=by
 refine(oE _ _ _ _ [s1] (SS.cb1 (aHl w 9 #[.string s1]))).mono ?_;rintro e w' ⟨hb,h⟩;exact⟨jI hb,h⟩
theorem UA (hN:IsC w w.heap.size N [s1]) (hx:VL w w.heap.size (.slice A 1 c) [q1]) (h1:bR s1.data.toList=(some q1,0)) (z1:s1.size≤3000000000) (M:MaxL w) :
  CV 83 #[.slice A 1 c,.int .i64 0,.pointer (some ⟨N,0,none⟩)] w fun e _=>e=.returned (.bool true):=
 OG [q1] hN hx.rat (by simp[h1]) (by simp[z1]) (by simp) M
theorem yF (w:World) {v1:Value} {l1:List Rat} (h1:VL w w.heap.size v1 l1) :
  Calls Tryz.prog 28 #[.slice (some ⟨w.heap.size,0,none⟩) 1 1] (w.alloc (.cells #[v1] 23)) fun e w'=>Below w.heap.size w w'∧∃ g,e=.returned (.slice (some ⟨g,0,none⟩) 1 1)∧VM w' w'.heap.size (.slice (some ⟨g,0,none⟩) 1 1) [l1]:=by
 refine(sW _ _ rfl).mono ?_;rintro e w' ⟨hb,rfl⟩;have a0:Below w.heap.size w (w.alloc (.cells #[v1] 23)):=aB (aDy _ _) _;exact⟨jI hb,_,rfl,aHd (VM.cb1 (aHl w 23 #[v1]) (h1.step a0)) hb⟩
theorem xO (w:World) {s1 s2:ByteArray} {q1 q2:Rat} (h1:bR s1.data.toList=(some q1,0)) (h2:bR s2.data.toList=(some q2,0)) (z1:s1.size≤3000000000) (z2:s2.size≤3000000000) (M:MaxL w) :
  Calls Tryz.prog 29 #[.slice (some ⟨w.heap.size,0,none⟩) 2 2] (w.alloc (.cells #[.string s1,.string s2] 9)) fun e w'=>Below w.heap.size w w'∧∃ A c,e=.returned (.slice A 2 c)∧VL w' w'.heap.size (.slice A 2 c) [q1,q2]:=by
 refine(uH _ _ _ _ [s1,s2] [q1,q2] (SS.cb2 (aHl w 9 #[.string s1,.string s2])) (by simp[h1,h2]) (by simp[z1,z2]) (by simp) (M.step (aB (aDy _ _) _))).mono ?_;rintro e w' ⟨hb,v,rfl,hv⟩;obtain⟨A,c,rfl,h⟩:=VL.open (n:=2) hv rfl;exact⟨jI hb,A,c,rfl,h⟩
theorem is2 (w:World) {s1 s2:ByteArray} :
  Calls Tryz.prog 30 #[.slice (some ⟨w.heap.size,0,none⟩) 2 2] (w.alloc (.cells #[.string s1,.string s2] 9)) fun e w'=>Below w.heap.size w w'∧∃ N,e=.returned (.func (.func 83) #[] #[.pointer (some ⟨N,0,none⟩)])∧IsC w' w'.heap.size N [s1,s2]:=by
 refine(oE _ _ _ _ [s1,s2] (SS.cb2 (aHl w 9 #[.string s1,.string s2]))).mono ?_;rintro e w' ⟨hb,h⟩;exact⟨jI hb,h⟩
theorem YB {s2:ByteArray} {q2:Rat} (hN:IsC w w.heap.size N [s1,s2]) (hx:VL w w.heap.size (.slice A 2 c) [q1,q2]) (h1:bR s1.data.toList=(some q1,0)) (h2:bR s2.data.toList=(some q2,0)) (z1:s1.size≤3000000000) (z2:s2.size≤3000000000) (M:MaxL w) :
  CV 83 #[.slice A 2 c,.int .i64 0,.pointer (some ⟨N,0,none⟩)] w fun e _=>e=.returned (.bool true):=
 OG [q1,q2] hN hx.rat (by simp[h1,h2]) (by simp[z1,z2]) (by simp) M
theorem YF {s2:ByteArray} {q2:Rat} (h:CB w b 9 #[.string s1,.string s2]) (h1:bR s1.data.toList=(some q1,0)) (h2:bR s2.data.toList=(some q2,0)) (z1:s1.size≤3000000000) (z2:s2.size≤3000000000) (M:MaxL w) :
  CV 29 #[.slice (some ⟨b,0,none⟩) 2 2] w fun e w'=>∃ A c,e=.returned (.slice A 2 c)∧VL w' w'.heap.size (.slice A 2 c) [q1,q2]:=by
 refine(uH _ _ _ _ [s1,s2] [q1,q2] (SS.cb2 h) (by simp[h1,h2]) (by simp[z1,z2]) (by simp) M).mono ?_;rintro e w' ⟨hb,v,rfl,hv⟩;obtain⟨A,c,rfl,h⟩:=VL.open (n:=2) hv rfl;exact⟨hb,A,c,rfl,h⟩
theorem CQ (w:World) {v1 v2:Value} {l1 l2:List Rat} (h1:VL w w.heap.size v1 l1) (h2:VL w w.heap.size v2 l2) :
  Calls Tryz.prog 28 #[.slice (some ⟨w.heap.size,0,none⟩) 2 2] (w.alloc (.cells #[v1,v2] 23)) fun e w'=>Below w.heap.size w w'∧∃ g,e=.returned (.slice (some ⟨g,0,none⟩) 2 2)∧VM w' w'.heap.size (.slice (some ⟨g,0,none⟩) 2 2) [l1,l2]:=by
 refine(sW _ _ rfl).mono ?_;rintro e w' ⟨hb,rfl⟩;have a0:Below w.heap.size w (w.alloc (.cells #[v1,v2] 23)):=aB (aDy _ _) _;exact⟨jI hb,_,rfl,aHd (VM.cb2 (aHl w 23 #[v1,v2]) (h1.step a0) (h2.step a0)) hb⟩
theorem aX:bR (ByteArray.mk #[49]).data.toList=(some (mkRat 1 1),0):=cS (fG (s:=[49]) (x:=1) (by decide +kernel)) (eV (x:=1) (d:=1) (by decide) (by decide +kernel) (by decide +kernel) (by decide +kernel))
theorem iN:bR (ByteArray.mk #[50]).data.toList=(some (mkRat 2 1),0):=cS (fG (s:=[50]) (x:=2) (by decide +kernel)) (eV (x:=2) (d:=1) (by decide) (by decide +kernel) (by decide +kernel) (by decide +kernel))
theorem kD:bR (ByteArray.mk #[51]).data.toList=(some (mkRat 3 1),0):=cS (fG (s:=[51]) (x:=3) (by decide +kernel)) (eV (x:=3) (d:=1) (by decide) (by decide +kernel) (by decide +kernel) (by decide +kernel))
theorem BE:bR (ByteArray.mk #[53]).data.toList=(some (mkRat 5 1),0):=cS (fG (s:=[53]) (x:=5) (by decide +kernel)) (eV (x:=5) (d:=1) (by decide) (by decide +kernel) (by decide +kernel) (by decide +kernel))
theorem xV:bR (ByteArray.mk #[52,47,53]).data.toList=(some (mkRat 4 5),0):=cS (lB (s1:=[52]) (s2:=[53]) (x:=4) (d:=5) (by decide +kernel) (by decide +kernel) (by decide) (by decide +kernel)) (eV (x:=4) (d:=5) (by decide) (by decide +kernel) (by decide +kernel) (by decide +kernel))
theorem xU:bR (ByteArray.mk #[55,47,53]).data.toList=(some (mkRat 7 5),0):=cS (lB (s1:=[55]) (s2:=[53]) (x:=7) (d:=5) (by decide +kernel) (by decide +kernel) (by decide) (by decide +kernel)) (eV (x:=7) (d:=5) (by decide) (by decide +kernel) (by decide +kernel) (by decide +kernel))
theorem nU:bR (ByteArray.mk #[52]).data.toList=(some (mkRat 4 1),0):=cS (fG (s:=[52]) (x:=4) (by decide +kernel)) (eV (x:=4) (d:=1) (by decide) (by decide +kernel) (by decide +kernel) (by decide +kernel))
theorem KZ:bR (ByteArray.mk #[49,49]).data.toList=(some (mkRat 11 1),0):=cS (fG (s:=[49,49]) (x:=11) (by decide +kernel)) (eV (x:=11) (d:=1) (by decide) (by decide +kernel) (by decide +kernel) (by decide +kernel))
theorem YY:bR (ByteArray.mk #[56]).data.toList=(some (mkRat 8 1),0):=cS (fG (s:=[56]) (x:=8) (by decide +kernel)) (eV (x:=8) (d:=1) (by decide) (by decide +kernel) (by decide +kernel) (by decide +kernel))
theorem tI:bR (ByteArray.mk #[49,49,47,53]).data.toList=(some (mkRat 11 5),0):=cS (lB (s1:=[49,49]) (s2:=[53]) (x:=11) (d:=5) (by decide +kernel) (by decide +kernel) (by decide) (by decide +kernel)) (eV (x:=11) (d:=5) (by decide) (by decide +kernel) (by decide +kernel) (by decide +kernel))
theorem oY:bR (ByteArray.mk #[49,49,47,49,48]).data.toList=(some (mkRat 11 10),0):=cS (lB (s1:=[49,49]) (s2:=[49,48]) (x:=11) (d:=10) (by decide +kernel) (by decide +kernel) (by decide) (by decide +kernel)) (eV (x:=11) (d:=10) (by decide) (by decide +kernel) (by decide +kernel) (by decide +kernel))
theorem xW:bR (ByteArray.mk #[49,47,50]).data.toList=(some (mkRat 1 2),0):=cS (lB (s1:=[49]) (s2:=[50]) (x:=1) (d:=2) (by decide +kernel) (by decide +kernel) (by decide) (by decide +kernel)) (eV (x:=1) (d:=2) (by decide) (by decide +kernel) (by decide +kernel) (by decide +kernel))
theorem pD:bR (ByteArray.mk #[50,47,53]).data.toList=(some (mkRat 2 5),0):=cS (lB (s1:=[50]) (s2:=[53]) (x:=2) (d:=5) (by decide +kernel) (by decide +kernel) (by decide) (by decide +kernel)) (eV (x:=2) (d:=5) (by decide) (by decide +kernel) (by decide +kernel) (by decide +kernel))
theorem LC:bR (ByteArray.mk #[45,49]).data.toList=(some (mkRat (-1) 1),0):=cS (fG (s:=[45,49]) (x:=(-1)) (by decide +kernel)) (eV (x:=(-1)) (d:=1) (by decide) (by decide +kernel) (by decide +kernel) (by decide +kernel))
theorem lU:bR (ByteArray.mk #[48]).data.toList=(some (mkRat 0 1),0):=cS (fG (s:=[48]) (x:=0) (by decide +kernel)) (eV (x:=0) (d:=1) (by decide) (by decide +kernel) (by decide +kernel) (by decide +kernel))
theorem wk1:gI (([[(mkRat 2 1),(mkRat 1 1)],[(mkRat 1 1),(mkRat 3 1)]]).map (List.map qx)) (([(mkRat 3 1),(mkRat 5 1)]).map qx)=(some [(mkRat 4 5),(mkRat 7 5)],0):=by rw[vH (cR (by decide +kernel)) (cB (by decide +kernel)),aEv (by decide +kernel),show aZ [[(mkRat 2 1),(mkRat 1 1)],[(mkRat 1 1),(mkRat 3 1)]] [(mkRat 3 1),(mkRat 5 1)]=some [(mkRat 4 5),(mkRat 7 5)] from by decide +kernel];exact jA (by decide +kernel)
theorem wk2:gI (([[(mkRat 1 1),(mkRat 2 1)],[(mkRat 2 1),(mkRat 4 1)]]).map (List.map qx)) (([(mkRat 1 1),(mkRat 2 1)]).map qx)=(none,7):=by rw[vH (cR (by decide +kernel)) (cB (by decide +kernel)),aEv (by decide +kernel),show aZ [[(mkRat 1 1),(mkRat 2 1)],[(mkRat 2 1),(mkRat 4 1)]] [(mkRat 1 1),(mkRat 2 1)]=none from by decide +kernel];exact rfl
theorem wk3:gI (([[(mkRat 1 1),(mkRat 2 1)]]).map (List.map qx)) (([(mkRat 1 1)]).map qx)=(none,2):=by rw[vH (cR (by decide +kernel)) (cB (by decide +kernel)),aEu (by decide +kernel)]
theorem wk4:gI (([]).map (List.map qx)) (([(mkRat 1 1)]).map qx)=(none,350):=by unfold gI;rw[aEu (fun h=>by have:=h.1;revert this;decide)]
theorem wk5:iU (([[(mkRat 1 1)],[(mkRat 2 1)]]).map (List.map qx)) (([(mkRat 3 1),(mkRat 4 1)]).map qx)=(some [(mkRat 11 5)],0):=by rw[vO (cR (by decide +kernel)) (cB (by decide +kernel)),aEv (by decide +kernel),show aZ (bB [[(mkRat 1 1)],[(mkRat 2 1)]]) (bG [[(mkRat 1 1)],[(mkRat 2 1)]] [(mkRat 3 1),(mkRat 4 1)])=some [(mkRat 11 5)] from by decide +kernel];exact jA (by decide +kernel)
theorem wk6:iU (([[(mkRat 1 1),(mkRat 1 1)],[(mkRat 2 1),(mkRat 2 1)]]).map (List.map qx)) (([(mkRat 1 1),(mkRat 1 1)]).map qx)=(none,7):=by rw[vO (cR (by decide +kernel)) (cB (by decide +kernel)),aEv (by decide +kernel),show aZ (bB [[(mkRat 1 1),(mkRat 1 1)],[(mkRat 2 1),(mkRat 2 1)]]) (bG [[(mkRat 1 1),(mkRat 1 1)],[(mkRat 2 1),(mkRat 2 1)]] [(mkRat 1 1),(mkRat 1 1)])=none from by decide +kernel];exact rfl
theorem wk7:eG (([[(mkRat 1 1)],[(mkRat 2 1)]]).map (List.map qx)) (([(mkRat 3 1),(mkRat 4 1)]).map qx) (([(mkRat 1 1)]).map qx) (qx (mkRat 5 1))=(some [(mkRat 11 10)],0):=by rw[oO (cR (by decide +kernel)) (cB (by decide +kernel)) (cB (by decide +kernel)) (QL.up (iM (by decide +kernel)) (by decide)),aEv (by decide +kernel),show aZ (eP (bB [[(mkRat 1 1)],[(mkRat 2 1)]]) (mkRat 5 1) [(mkRat 1 1)]) (bG [[(mkRat 1 1)],[(mkRat 2 1)]] [(mkRat 3 1),(mkRat 4 1)])=some [(mkRat 11 10)] from by decide +kernel];exact jA (by decide +kernel)
theorem wk8:eG (([[(mkRat 1 1),(mkRat 1 1)]]).map (List.map qx)) (([(mkRat 1 1)]).map qx) (([(mkRat 1 1),(mkRat 1 1)]).map qx) (qx (mkRat 1 2))=(some [(mkRat 2 5),(mkRat 2 5)],0):=by rw[oO (cR (by decide +kernel)) (cB (by decide +kernel)) (cB (by decide +kernel)) (QL.up (iM (by decide +kernel)) (by decide)),aEv (by decide +kernel),show aZ (eP (bB [[(mkRat 1 1),(mkRat 1 1)]]) (mkRat 1 2) [(mkRat 1 1),(mkRat 1 1)]) (bG [[(mkRat 1 1),(mkRat 1 1)]] [(mkRat 1 1)])=some [(mkRat 2 5),(mkRat 2 5)] from by decide +kernel];exact jA (by decide +kernel)
theorem wk9:eG (([[(mkRat 1 1)]]).map (List.map qx)) (([(mkRat 1 1)]).map qx) (([(mkRat 1 1)]).map qx) (qx (mkRat (-1) 1))=(none,2):=by rw[oO (cR (by decide +kernel)) (cB (by decide +kernel)) (cB (by decide +kernel)) (QL.up (iM (by decide +kernel)) (by decide)),aEu (by decide +kernel)]
theorem wk10:iV (([[(mkRat 1 1),(mkRat 0 1)],[(mkRat 0 1),(mkRat 1 1)]]).map (List.map qx)) (([(mkRat 3 1),(mkRat 4 1)]).map qx) (([[(mkRat 1 1),(mkRat 1 1)]]).map (List.map qx)) (([(mkRat 1 1)]).map qx)=(some [(mkRat 0 1),(mkRat 1 1)],0):=by rw[rI (cR (by decide +kernel)) (cB (by decide +kernel)) (cR (by decide +kernel)) (cB (by decide +kernel)),aEv (by decide +kernel),show sE [[(mkRat 1 1),(mkRat 0 1)],[(mkRat 0 1),(mkRat 1 1)]] [(mkRat 3 1),(mkRat 4 1)] [[(mkRat 1 1),(mkRat 1 1)]] [(mkRat 1 1)]=some (some [(mkRat 0 1),(mkRat 1 1)]) from by decide +kernel];exact jA (by decide +kernel)
theorem wk11:iV (([[(mkRat 1 1),(mkRat 0 1)]]).map (List.map qx)) (([(mkRat 1 1)]).map qx) (([[(mkRat 0 1),(mkRat 1 1)],[(mkRat 0 1),(mkRat 2 1)]]).map (List.map qx)) (([(mkRat 1 1),(mkRat 2 1)]).map qx)=(some [(mkRat 1 1),(mkRat 1 1)],0):=by rw[rI (cR (by decide +kernel)) (cB (by decide +kernel)) (cR (by decide +kernel)) (cB (by decide +kernel)),aEv (by decide +kernel),show sE [[(mkRat 1 1),(mkRat 0 1)]] [(mkRat 1 1)] [[(mkRat 0 1),(mkRat 1 1)],[(mkRat 0 1),(mkRat 2 1)]] [(mkRat 1 1),(mkRat 2 1)]=some (some [(mkRat 1 1),(mkRat 1 1)]) from by decide +kernel];exact jA (by decide +kernel)
theorem aDd:iV (([[(mkRat 1 1),(mkRat 0 1)]]).map (List.map qx)) (([(mkRat 1 1)]).map qx) (([[(mkRat 0 1),(mkRat 1 1)],[(mkRat 0 1),(mkRat 2 1)]]).map (List.map qx)) (([(mkRat 1 1),(mkRat 3 1)]).map qx)=(none,4):=by rw[rI (cR (by decide +kernel)) (cB (by decide +kernel)) (cR (by decide +kernel)) (cB (by decide +kernel)),aEv (by decide +kernel),show sE [[(mkRat 1 1),(mkRat 0 1)]] [(mkRat 1 1)] [[(mkRat 0 1),(mkRat 1 1)],[(mkRat 0 1),(mkRat 2 1)]] [(mkRat 1 1),(mkRat 3 1)]=none from by decide +kernel];exact rfl
theorem aCf:iV (([[(mkRat 1 1),(mkRat 0 1)]]).map (List.map qx)) (([(mkRat 1 1)]).map qx) (([[(mkRat 1 1),(mkRat 0 1)]]).map (List.map qx)) (([(mkRat 1 1)]).map qx)=(none,7):=by rw[rI (cR (by decide +kernel)) (cB (by decide +kernel)) (cR (by decide +kernel)) (cB (by decide +kernel)),aEv (by decide +kernel),show sE [[(mkRat 1 1),(mkRat 0 1)]] [(mkRat 1 1)] [[(mkRat 1 1),(mkRat 0 1)]] [(mkRat 1 1)]=some none from by decide +kernel];exact rfl
theorem wkN:dZ ([[mkRat 1 1],[mkRat 2 1]].map (List.map qx)) ([mkRat 3 1,mkRat 4 1].map qx)=(some ([[mkRat 5 1]],[mkRat 11 1]),0):=by
 rw[RL (cR (by decide +kernel)) (cB (by decide +kernel)),aEv (by decide),show bB [[mkRat 1 1],[mkRat 2 1]]=[[mkRat 5 1]] from by decide +kernel,show bG [[mkRat 1 1],[mkRat 2 1]] [mkRat 3 1,mkRat 4 1]=[mkRat 11 1] from by decide +kernel];exact aEv ⟨fun r hr q hq=>by simp at hr;subst hr;exact vP (by decide +kernel) q hq,fun q hq=>vP (l:=[mkRat 11 1]) (by decide +kernel) q hq⟩
theorem wkQ:cV ([[mkRat 1 1],[mkRat 2 1]].map (List.map qx)) ([mkRat 3 1,mkRat 4 1].map qx) ([mkRat 1 1].map qx)=(some (mkRat 8 1),0):=by
 rw[wK (cR (by decide +kernel)) (cB (by decide +kernel)) (fun q hq=>(iM (aEx.1 (show[mkRat 1 1].all uV=true by decide +kernel) q hq)).up (by decide)),aEv (by decide),show cF _ _ _=mkRat 8 1 from by decide +kernel];exact aEv (vP (l:=[mkRat 8 1]) (by decide +kernel) _ (by simp))
end Go.Proofs.YtencnahjgbdeoaaGreatDoor
