/- Texts put together: Layer 35, the law package: of, is, fails, rows; the reference's Same (written by gen_wa.py). Plain: what the functions of layer 35 answer at fractions with short parts. Layer 35, the law package: its functions at concrete lists (written by gen_wb.py). Layer 35: what its functions answer at the chapter's examples (written by gen_wc.py). -/
import Derived.Test.YtdigbofiebfkeaaGreatDoorQQ
import Derived.Test.YtdigbofiebfkeaaGreatDoorLlm
import Derived.Test.YtdigbofiebfkeaaGreatDoorLa1
import Derived.Test.YtdigbofiebfkeaaGreatDoorLr
namespace Go.Proofs.YtdigbofiebfkeaaGreatDoor
open Go Go.RowKit Dig
set_option maxRecDepth 100000
set_option maxHeartbeats 4000000
set_option linter.unusedSimpArgs false
def ES:Elem ByteArray:=fun _ _ cs s=>cs=[.string s]
theorem ES.stable:Elem.Stable ES:=⟨fun h _=>h,fun h _=>h⟩
abbrev SS:=SL 1 ES
theorem SS.elem {w:World} {B:Nat} {A:Option Addr} {n c j:Nat} {l:List ByteArray} (h:SS w B (.slice A n c) l) (hj:j<l.length):∃ g off,A=some ⟨g,off,none⟩∧g<B∧w.cell? ⟨g,off+j,none⟩=some (.string l[j]):=by
 obtain⟨A',c',he,h1,h2,h3⟩:=h;injection he with e1 e2 e3
 subst e1;subst e2;subst e3;obtain⟨g,off,rfl,hg,hx⟩:=h3 (by omega);obtain⟨cs,e1,e2,rfl⟩:=hx j hj;have:=e2 0 _ rfl;rw[Nat.add_zero,Nat.mul_one] at this;exact⟨g,off,rfl,hg,this⟩
theorem RSameQ_any (w:World) (va vb:Value) (n m n2 m2:Bool) (a b a2 b2:List Int) (ha:QR w w.heap.size va n a m b) (hb:QR w w.heap.size vb n2 a2 m2 b2) :
  Calls Tryz.prog 95 #[va,vb] w fun e w'=>Below w.heap.size w w'∧e=.returned (.bool (decide ((n=n2∧a=a2)∧(m=m2∧b=b2)))):=by
 obtain⟨A,l,c,A',l',c',rfl,ha⟩:=RI.of ha;obtain⟨B,k,d,B',k',d',rfl,hb⟩:=RI.of hb;have HA:=zz ha;have HB:=zz hb;clear ha hb;obtain⟨x,hx⟩:∃ x,x=decide ((n=n2∧a=a2)∧(m=m2∧b=b2)):=⟨_,rfl⟩;rw[← hx];have HX:=zz hx;clear hx;obtain⟨w0,hw0⟩:∃ w0:World,w0=((w.alloc (.cells #[.bool n,.slice A l c,.bool m,.slice A' l' c'] 33)).alloc (.cells #[.bool n2,.slice B k d,.bool m2,.slice B' k' d'] 33)):=⟨_,rfl⟩;have B0:=zz (n2_b hw0);have z0:=n2_z hw0;have La:=n2_0 hw0;have Lb:=n2_1 hw0;replace HA:=zz (QR.step HA.out B0.out);replace HB:=zz (QR.step HB.out B0.out);go_enter Tryz.func95,Tryz.ntmps95
 go_upto_region 1 with (fail)
 rw[← hw0];clear hw0;have l0:=La.cell 0 rfl;have m0:=La.cell 1 rfl;have n0:=La.cell 2 rfl;have o0:=La.cell 3 rfl;have E0:=La.lt;have p0:=Lb.cell 0 rfl;have q0:=Lb.cell 1 rfl;have r0:=Lb.cell 2 rfl;have s0:=Lb.cell 3 rfl;have F0:=Lb.lt;go_wp2_with fail
 refine(SameR_any _ _ _ _ _ _ _ (QR.fst HA.out) (QR.fst HB.out)).mono ?_;rintro e w1 ⟨i0,rfl⟩;have B4:=zz i0;have z4:=B4.out.size;have j0:=tr B0 B4;clear i0;clear l0 m0 n0 o0 E0 p0 q0 r0 s0 F0;by_cases h1:n=n2∧a=a2
 ·rw[decide_eq_true h1];have H1:=zz h1;clear h1;have a0:=CB.step La B4.out;have t0:=a0.cell 0 rfl;have u0:=a0.cell 1 rfl;have v0:=a0.cell 2 rfl;have x0:=a0.cell 3 rfl;have G0:=a0.lt;have b0:=CB.step Lb B4.out;have c0:=b0.cell 0 rfl;have d0:=b0.cell 1 rfl;have e0:=b0.cell 2 rfl;have f0:=b0.cell 3 rfl;have A0:=b0.lt;go_wp2_with fail
  have g0:=zz (QR.step HA.out B4.out);have h0:=zz (QR.step HB.out B4.out);refine(SameR_any _ _ _ _ _ _ _ (QR.snd g0.out) (QR.snd h0.out)).mono ?_;rintro e w6 ⟨k0,rfl⟩;have B13:=zz k0;have z13:=B13.out.size;have y0:=tr j0 B13;clear k0;clear t0 u0 v0 x0 G0 c0 d0 e0 f0 A0;rw[show decide (m=m2∧b=b2)=x by rw[HX.out];exact decide_eq_decide.2 ⟨fun h=>⟨H1.out,h⟩,fun h=>h.2⟩];go_wp2;go_ret;exact⟨y0.out,rfl⟩
 ·rw[decide_eq_false h1];have I0:=zz (show x=false by rw[HX.out];exact decide_eq_false (fun h=>h1 h.1));clear h1;go_wp2;go_ret;exact⟨j0.out,by rw[I0.out];rfl⟩
theorem rsame_any (w:World) (A B:Option Addr) (n c m d:Nat) (l k:List QX) (ha:QS w w.heap.size (.slice A n c) l) (hb:QS w w.heap.size (.slice B m d) k) :
  Calls Tryz.prog 62 #[.slice A n c,.slice B m d] w fun e w'=>Below w.heap.size w w'∧e=.returned (.bool (decide (l=k))):=by
 obtain⟨rfl,hn1,hn2⟩:=SL.len ha;obtain⟨rfl,hm1,hm2⟩:=SL.len hb;have HA:=zz ha;have HB:=zz hb;clear ha hb;have a0:=zz (Below.refl w.heap.size w);by_cases hlen:l.length=k.length
 case neg=>
  have HR:=zz (show decide (l=k)=false from decide_eq_false (fun e=>hlen (by rw[e])));have hne:((l.length:Int) != (k.length:Int))=true:=by rw[bne_iff_ne];omega
  go_enter Tryz.func62,Tryz.ntmps62
  go_wp2;go_ret;exact⟨a0.out,by rw[HR.out];rfl⟩
 case pos=>
  have hne:((l.length:Int) != (k.length:Int))=false:=by rw[bne_eq_false_iff_eq];omega
  have HK:=zz hlen;clear hlen;go_enter Tryz.func62,Tryz.ntmps62
  go_wp2;go_loopw [5] (fun iv wr=>∃ j:Nat,j≤l.length∧iv=.int .i64 j∧Hid (l.take j=k.take j)∧Hid (Below w.heap.size w wr)) (fun iv _=>l.length-(intOf iv).toNat)
  case atStart=>exact⟨0,Nat.zero_le _,rfl,zz rfl,a0⟩
  case round=>
   obtain⟨j,hj,rfl,HE,HW⟩:=hrel;have zr:=HW.out.size;by_cases hlt:j<l.length
   case pos=>
    have hlk:j<k.length:=by have:=HK.out;omega
    have hlt':(j:Int)<(l.length:Int):=by omega
    have hji:(0:Int)≤(j:Int)∧(j:Int)<(l.length:Int):=by omega
    have hjk:(j:Int)<(k.length:Int):=by omega
    obtain⟨g,off,xA,xl,xc,xB,xu,xd,rfl,hg,hE,hx⟩:=QS.elem HA.out (j:=j) hlt;replace hE:=hE.step HW.out;have HXx:=zz (QR.step hx HW.out);clear hx hg;obtain⟨g',off',yA,yl,yc,yB,yu,yd,rfl,hg',hE',hy⟩:=QS.elem HB.out (j:=j) hlk;replace hE':=hE'.step HW.out;have HXy:=zz (QR.step hy HW.out);clear hy hg';have htx:l.take (j+1)=l.take j++[l[j]]:=by rw[List.take_add_one,List.getElem?_eq_getElem hlt];rfl
    have hty:k.take (j+1)=k.take j++[k[j]]:=by rw[List.take_add_one,List.getElem?_eq_getElem hlk];rfl
    have m0:=zz (show l[j]≠k[j]→decide (l=k)=false from fun h=>decide_eq_false (fun e=>h (by subst e;rfl)));have n0:=zz htx;have o0:=zz hty;clear htx hty;obtain⟨⟨⟨xn,xa⟩,xm,xb⟩,hxj⟩:∃ x,x=l[j]:=⟨_,rfl⟩;rw[← hxj] at hE HXx m0 n0;clear hxj;simp only at hE HXx;obtain⟨⟨⟨yn,ya⟩,ym,yb⟩,hyj⟩:∃ x,x=k[j]:=⟨_,rfl⟩;rw[← hyj] at hE' HXy m0 o0;clear hyj;simp only at hE' HXy;cases hd:decide ((xn=yn∧xa=ya)∧(xm=ym∧xb=yb))
    case false=>
     have HD:=zz hd;have HR:=zz (m0.out (fun e=>by simp only[Prod.mk.injEq] at e;rw[decide_eq_false_iff_not] at hd;exact hd e));clear hd;go_upto_region 6 with (fail)
     refine Sweep.r0 [se 0 17 [] (.slice (some ⟨g,off,none⟩) l.length c),se 1 18 [] (.int .i64 (j:Int)),se 2 19 [0,1] (.pointer (some ⟨g,off+j*4,none⟩)),se 3 20 [2] (.agg #[.bool xn,.slice xA xl xc,.bool xm,.slice xB xu xd]),se 4 21 [] (.slice (some ⟨g',off',none⟩) k.length d),se 5 22 [] (.int .i64 (j:Int)),se 6 23 [4,5] (.pointer (some ⟨g',off'+j*4,none⟩)),se 7 24 [6] (.agg #[.bool yn,.slice yA yl yc,.bool ym,.slice yB yu yd]),se 8 25 [3,7] (.bool false),se 9 26 [8] (.bool true)] 0 (SC (fun _ h=>(E4.step hE h).c0) (SC (fun _ h=>(E4.step hE h).c1) (SC (fun _ h=>(E4.step hE h).c2) (SC (fun _ h=>(E4.step hE h).c3) (SC (fun _ h=>(E4.step hE' h).c0) (SC (fun _ h=>(E4.step hE' h).c1) (SC (fun _ h=>(E4.step hE' h).c2) (SC (fun _ h=>(E4.step hE' h).c3) S0)))))))) trivial ?_ ?_
     ·intro xs a_ hA;simp only[SX] at hA
      iterate 10 (refine ac ?_ ?_;rotate_left)
      exact all_nil
      all_goals (intro wk hb;simp only[SX,↓reduceIte,Nat.reduceEqDiff,Nat.reduceAdd];have b_:=zz hb;have z_:=hb.size;clear hb;subst hA)
      any_goals (intros;refine wpOp_step rfl ?_;intro K hK;go_simp;refine hK _ _ ⟨_,?_,Below.refl _ _,rfl⟩;simp only[*,FL] <;> kernel_rfl)
      ·intro f3 f7;intros;refine wpOp_step (o:=_) rfl (fun K hK=>?_);go_simp;have b0:=zz (QR.step HXx.out b_.out);have d0:=zz (QR.step HXy.out b_.out);(with_reducible refine((show Calls Tryz.prog _ _ _ _ from HD.out▸RSameQ_any _ _ _ xn xm yn ym xa xb ya yb b0.out d0.out)).mono ?_)
       rintro e wc3 ⟨h0,rfl⟩;refine hK _ _ ⟨.bool false,by simp only[FL,f3,f7] <;> kernel_rfl,h0,rfl⟩
     ·intro xs w0 hbf;simp only[SY];have B5:=zz hbf;have z5:=B5.out.size;have i0:=tr HW B5;clear hbf;refine ED ?_;(try simp only[Exit.then])
      go_wp2;go_ret;exact⟨i0.out,by rw[HR.out];rfl⟩
    case true=>
     have HD:=zz hd;have HR:=zz (show l.take (j+1)=k.take (j+1) by rw[decide_eq_true_eq] at hd;rw[n0.out,o0.out,HE.out,hd.1.1,hd.1.2,hd.2.1,hd.2.2]);clear hd;go_upto_region 6 with (fail)
     refine Sweep.r0 [se 0 17 [] (.slice (some ⟨g,off,none⟩) l.length c),se 1 18 [] (.int .i64 (j:Int)),se 2 19 [0,1] (.pointer (some ⟨g,off+j*4,none⟩)),se 3 20 [2] (.agg #[.bool xn,.slice xA xl xc,.bool xm,.slice xB xu xd]),se 4 21 [] (.slice (some ⟨g',off',none⟩) k.length d),se 5 22 [] (.int .i64 (j:Int)),se 6 23 [4,5] (.pointer (some ⟨g',off'+j*4,none⟩)),se 7 24 [6] (.agg #[.bool yn,.slice yA yl yc,.bool ym,.slice yB yu yd]),se 8 25 [3,7] (.bool true),se 9 26 [8] (.bool false)] 0 (SC (fun _ h=>(E4.step hE h).c0) (SC (fun _ h=>(E4.step hE h).c1) (SC (fun _ h=>(E4.step hE h).c2) (SC (fun _ h=>(E4.step hE h).c3) (SC (fun _ h=>(E4.step hE' h).c0) (SC (fun _ h=>(E4.step hE' h).c1) (SC (fun _ h=>(E4.step hE' h).c2) (SC (fun _ h=>(E4.step hE' h).c3) S0)))))))) trivial ?_ ?_
     ·intro xs a_ hA;simp only[SX] at hA
      iterate 10 (refine ac ?_ ?_;rotate_left)
      exact all_nil
      all_goals (intro wk hb;simp only[SX,↓reduceIte,Nat.reduceEqDiff,Nat.reduceAdd];have b_:=zz hb;have z_:=hb.size;clear hb;subst hA)
      any_goals (intros;refine wpOp_step rfl ?_;intro K hK;go_simp;refine hK _ _ ⟨_,?_,Below.refl _ _,rfl⟩;simp only[*,FL] <;> kernel_rfl)
      ·intro f3 f7;intros;refine wpOp_step (o:=_) rfl (fun K hK=>?_);go_simp;have e0:=zz (QR.step HXx.out b_.out);have f0:=zz (QR.step HXy.out b_.out);(with_reducible refine((show Calls Tryz.prog _ _ _ _ from HD.out▸RSameQ_any _ _ _ xn xm yn ym xa xb ya yb e0.out f0.out)).mono ?_)
       rintro e wc9 ⟨j0,rfl⟩;refine hK _ _ ⟨.bool true,by simp only[FL,f3,f7] <;> kernel_rfl,j0,rfl⟩
     ·intro xs v0 hbf;simp only[SY];have B11:=zz hbf;have z11:=B11.out.size;have g0:=tr HW B11;clear hbf;refine ED ?_;(try simp only[Exit.then])
      go_wp2;go_roundw
      case rel=>exact⟨j+1,hlt,by go_num,HR,g0⟩
      case measure=>simp[intOf];omega
   case neg=>
    obtain rfl:j=l.length:=by omega
    have HR:=zz (show decide (l=k)=true by have:=HE.out;rw[List.take_length,HK.out,List.take_length] at this;exact decide_eq_true this);have hlt':¬ (l.length:Int)<(l.length:Int):=by omega
    go_wp2;go_ret;exact⟨HW.out,by rw[HR.out];rfl⟩
theorem lof_any (w:World) (A:Option Addr) (n c:Nat) (l:List ByteArray) (q:List Rat) (h:SS w w.heap.size (.slice A n c) l) (hq:l.map (fun s=>parseQ s.data.toList)=q.map fun x=>(some x,0)) (hs:∀ s∈l,s.size≤3000000000) (hl:l.length≤3000000000) (M:MaxL w) :
  Calls Tryz.prog 23 #[.slice A n c] w fun e w'=>Below w.heap.size w w'∧∃ v,e=.returned v∧QS w' w'.heap.size v (q.map qx):=by
 obtain⟨rfl,hn1,hn2⟩:=SL.len h;have HS:=zz h;have HP:=zz hq;have HZ:=zz hs;have HM:=zz M;clear h hq hs M;have hkk:(l.length:Int)≤3000000000:=by omega
 have hlq:q.length=l.length:=by have:=congrArg List.length HP.out;simpa using this.symm
 have z0:=zz hlq;clear hlq;obtain⟨iq,hiq,hzq,hsq,hbq⟩:=info_parts info_quot;have o0:=zz (Below.refl w.heap.size w);go_enter Tryz.func23,Tryz.ntmps23
 go_wp2;go_loopw [3,10] (fun ov iv wr=>∃ j:Nat,j≤l.length∧iv=.int .i64 j∧Hid (OA 4 EQ 33 wr w.heap.size ov ((q.take j).map qx))∧Hid (Below w.heap.size w wr)) (fun _ iv _=>l.length-(intOf iv).toNat)
 case atStart=>exact⟨0,Nat.zero_le _,rfl,zz OA.nil,o0⟩
 case round=>
  obtain⟨j,hj,rfl,HO,HW⟩:=hrel;have zr:=HW.out.size;by_cases hlt:j<l.length
  case pos=>
   have hqt:j<q.length:=by have:=z0.out;omega
   have hlt':(j:Int)<(l.length:Int):=by omega
   have hji:(0:Int)≤(j:Int)∧(j:Int)<(l.length:Int):=by omega
   obtain⟨g,off,rfl,hg,hcell⟩:=SS.elem HS.out hlt;replace hcell:=(HW.out.cell (p:=⟨g,off+j,none⟩) hg).trans hcell;clear hg;have hps:parseQ l[j].data.toList=(some q[j],0):=by have:=congrArg (fun z=>z[j]?) HP.out;simpa[List.getElem?_eq_getElem hlt,List.getElem?_eq_getElem hqt] using this
   have hsz:=HZ.out l[j] (List.getElem_mem hlt);have htk:q.take (j+1)=q.take j++[q[j]]:=by rw[List.take_add_one,List.getElem?_eq_getElem hqt];rfl
   generalize l[j]=s at hcell hps hsz;generalize q[j]=x at hps htk;have C0:=zz hps;have D0:=zz hsz;have E0:=zz htk;clear hps hsz htk hqt;go_wp2_with fail
   refine(QParse_any _ s D0.out (HM.out.step HW.out)).mono ?_;rintro e w1 ⟨e0,hr⟩;have B2:=zz e0;have z2:=B2.out.size;have p0:=tr HW B2;clear e0;rw[C0.out] at hr;obtain⟨v,rfl,hv⟩:=hr;obtain⟨r0,s0,t0,u0,v0,b0,w0,rfl,ha4,f0,hc4⟩:=hv;have i0:=zz (show QV w1 w1.heap.size (.agg #[.bool r0,.slice s0 t0 u0,.bool false,.slice v0 b0 w0]) x from⟨_,_,_,_,_,_,_,rfl,ha4,f0,hc4⟩);clear ha4 f0 hc4;have F0:=zz (HO.out.step EQ.stable B2.out);go_upto_region 6 with (fail)
   obtain⟨w5,c0⟩:∃ w5:World,w5=(w1.alloc (.cells #[.bool r0,.slice s0 t0 u0,.bool false,.slice v0 b0 w0] 33)):=⟨_,rfl⟩;rw[← c0];have a0:=n1_0 c0;have za5:=n1_z c0;have B6:=zz (n1_b c0);have z6:=B6.out.size;have g0:=tr p0 B6;clear c0;have d0:Below w5.heap.size w5 (w5.alloc (.cells #[.bool r0,.slice s0 t0 u0,.bool false,.slice v0 b0 w0] 33)):=below_alloc1 (Below.refl _ _) _;have j0:=zz (QV.step i0.out B6.out);have G0:=zz ((F0.out.step EQ.stable B6.out).step EQ.stable d0);have H0:=zz ((QV.step j0.out d0).qr);have h0:=zz (g0.out.trans (d0.mono g0.out.size));clear d0;have k0:=a0.cell 0 rfl;have l0:=a0.cell 1 rfl;have m0:=a0.cell 2 rfl;have n0:=a0.cell 3 rfl;have y0:=a0.lt;go_wp2_with (at_builtin;go_loud (refine wpList_append_oa rfl _ _ _ rfl w.heap.size 33 iq _ 64 Tryz.underlying28 hiq hzq hsq hbq rfl (by decide) (by decide) EQ.stable EQ.soft G0.out rfl ⟨w5.heap.size,0,none⟩ 1 [qx x] rfl Nat.one_pos [.bool r0,.slice s0 t0 u0,.bool false,.slice v0 b0 w0] (EL.one rfl ⟨_,_,_,_,rfl,H0.out⟩) (cells_new _ _ [_,_,_,_]) (by intro u hu;simp at hu;rcases hu with rfl | rfl | rfl | rfl <;> rfl) (by simp only[List.length_map,List.length_take,List.length_cons,List.length_nil,maxLen];omega) (by simp only[List.length_map,List.length_take,List.length_cons,List.length_nil];omega) (by have:=h0.out.size;simpa using this) ?_))
   clear k0 l0 m0 n0 y0;intro v' w' hoa hb hs' hg' hat;have I0:Hid (OA 4 EQ 33 w' w.heap.size v' ((q.take (j+1)).map qx)):=zz (by rw[E0.out,List.map_append,List.map_take];exact hoa);have q0:=zz (h0.out.trans hb);clear hoa hb hs' hg' hat;go_wp2;go_roundw
   case rel=>exact⟨j+1,hlt,by go_num,I0,q0⟩
   case measure=>simp[intOf];omega
  case neg=>
   obtain rfl:j=l.length:=by omega
   rw[List.take_of_length_le (Nat.le_of_eq z0.out)] at HO;have hlt':¬ (l.length:Int)<(l.length:Int):=by omega
   go_wp2;go_ret;exact⟨HW.out,_,rfl,HO.out.sl⟩
def IsC (w:World) (B N:Nat) (l:List ByteArray):Prop:=N<B∧∃ A n c,One w N 112 (.slice A n c)∧SS w B (.slice A n c) l
theorem IsC.step {w w':World} {N:Nat} {l:List ByteArray} (h:IsC w w.heap.size N l) (hb:Below w.heap.size w w'):IsC w' w'.heap.size N l:=by
 obtain⟨h0,A,n,c,h1,h2⟩:=h;exact⟨Nat.lt_of_lt_of_le h0 hb.size,A,n,c,h1.step hb,h2.step ES.stable hb⟩
theorem lis_any (w:World) (A:Option Addr) (n c:Nat) (l:List ByteArray) (h:SS w w.heap.size (.slice A n c) l) :
  Calls Tryz.prog 24 #[.slice A n c] w fun e w'=>Below w.heap.size w w'∧∃ N,e=.returned (.func (.func 66) #[] #[.pointer (some ⟨N,0,none⟩)])∧IsC w' w'.heap.size N l:=by
 have HB:=zz (below_alloc1 (Below.refl w.heap.size w) (.cells #[.slice A n c] 112));have HL:=zz (One.new w 112 (.slice A n c));have HS:=zz (h.step ES.stable HB.out);clear h;go_enter Tryz.func24,Tryz.ntmps24
 go_wp2;go_ret;exact⟨HB.out,_,rfl,by simp,_,_,_,HL.out,HS.out⟩
theorem lis_yes {w:World} {N:Nat} {l:List ByteArray} {A:Option Addr} {n c:Nat} (q:List Rat) (hN:IsC w w.heap.size N l) (hx:QS w w.heap.size (.slice A n c) (q.map qx)) (hq:l.map (fun s=>parseQ s.data.toList)=q.map fun x=>(some x,0)) (hs:∀ s∈l,s.size≤3000000000) (hl:l.length≤3000000000) (M:MaxL w) :
  Calls Tryz.prog 66 #[.slice A n c,.int .i64 0,.pointer (some ⟨N,0,none⟩)] w fun e w'=>Below w.heap.size w w'∧e=.returned (.bool true):=by
 obtain⟨h0,A',n',c',h1,h2⟩:=hN;have HX:=zz hx;have HS:=zz h2;have HQ:=zz hq;have HZ:=zz hs;have HM:=zz M;clear hx h2 hq hs M;have q0:=h1.cell;have q1:=h1.lt;clear h1 h0;go_enter Tryz.func66,Tryz.ntmps66
 go_wp2_with fail
 refine(lof_any _ _ _ _ l q HS.out HQ.out HZ.out hl HM.out).mono ?_;rintro e w1 ⟨hb,v,rfl,hv⟩;have a0:=zz hb;clear hb q0 q1;obtain⟨B,d,hve,hd1,hd2⟩:=hv.slice;rw[List.length_map] at hve;subst hve;have HV:=zz hv;clear hv;go_wp2_with fail
 refine(rsame_any _ _ _ _ _ _ _ (q.map qx) (q.map qx) (HX.out.step EQ.stable a0.out) HV.out).mono ?_;rintro e w2 ⟨hb,rfl⟩;have b0:=zz (a0.out.trans (hb.mono a0.out.size));clear hb;have hd:decide (q.map qx=q.map qx)=true:=decide_eq_true rfl;rw[hd];clear hd;go_wp2;go_ret;exact⟨b0.out,rfl⟩
theorem lfails_any (w:World) (k:Int) :
  Calls Tryz.prog 26 #[.int .i64 k] w fun e w'=>Below w.heap.size w w'∧∃ N,e=.returned (.func (.func 68) #[] #[.pointer (some ⟨N,0,none⟩)])∧One w' N 37 (.int .i64 k):=by
 have HB:=zz (below_alloc1 (Below.refl w.heap.size w) (.cells #[.int .i64 k] 37));have HL:=zz (One.new w 37 (.int .i64 k));go_enter Tryz.func26,Tryz.ntmps26
 go_wp2;go_ret;exact⟨HB.out,_,rfl,HL.out⟩
theorem lfails_yes {w:World} {N:Nat} {k:Int} {A:Option Addr} {c:Nat} (hN:One w N 37 (.int .i64 k)) :
  Calls Tryz.prog 68 #[.slice A 0 c,.int .i64 k,.pointer (some ⟨N,0,none⟩)] w fun e w'=>Below w.heap.size w w'∧e=.returned (.bool true):=by
 have HB:=zz (Below.refl w.heap.size w);have q0:=hN.cell;have q1:=hN.lt;clear hN;go_enter Tryz.func68,Tryz.ntmps68
 go_wp2;go_ret;exact⟨HB.out,by simp⟩
theorem lrows_any (w:World) (v:Value) (_hv:v.cells.size=1) :
  Calls Tryz.prog 22 #[v] w fun e w'=>Below w.heap.size w w'∧e=.returned v:=by
 have HB:=zz (Below.refl w.heap.size w);go_enter Tryz.func22,Tryz.ntmps22
 go_wp2;go_ret;exact⟨HB.out,rfl⟩
def tinyR (q:Rat):Bool:=decide (q.num.natAbs<1000000000)&&decide (q.den<1000000000)
theorem tiny_ql {q:Rat} (h:tinyR q=true):QL 1 1 q:=by
 unfold tinyR at h;simp only[Bool.and_eq_true,decide_eq_true_eq] at h
 unfold QL;exact⟨dig_len_le.2 (show q.num.natAbs<bp 1 from h.1),dig_len_le.2 (show q.den<bp 1 from h.2)⟩
theorem QL.up {q:Rat} {a b:Nat} (h:QL a a q) (hab:a≤b):QL b b q:=h.mono hab hab
theorem qv_qx {q:Rat} (h:QL 600 600 q):qv (qx q)=some q:=by unfold QL at h;exact qOf_rat q h.1 h.2
theorem small_qx {q:Rat} (h:QL 4 4 q):smallX (qx q)=true:=by
 unfold smallX;rw[qv_qx (h.up (by decide))];unfold QL at h;have h1:=h.1;have h2:=h.2;simp[qx,ni_length,h1,h2]
theorem rats_qx {l:List Rat} (h:∀ q∈l,QL 600 600 q):rats (l.map qx)=l:=by
 unfold rats;rw[List.map_map]
 conv=>rhs;rw[← List.map_id l]
 exact List.map_congr_left fun q hq=>by simp[qv_qx (h q hq)]
def okV (l:List Rat):Prop:=(∀ q∈l,QL 4 4 q)∧1≤l.length∧l.length≤12
def okW (M:List (List Rat)):Prop:=Short 4 M∧Wide M (wideQ M)∧1≤M.length∧M.length≤12∧1≤wideQ M∧wideQ M≤6
theorem okL_qx {l:List Rat} (h:okV l):okL (l.map qx)=true:=by
 unfold okL;simp only[Bool.and_eq_true,decide_eq_true_eq,List.all_eq_true,List.length_map]
 exact⟨h.2,fun x hx=>by obtain⟨q,hq,rfl⟩:=List.mem_map.1 hx;exact small_qx (h.1 q hq)⟩
theorem getD_map_qx (M:List (List Rat)):((M.map (List.map qx)).getD 0 []).length=wideQ M:=by
 cases M with
 | nil=>rfl
 | cons r t=>simp[wideQ]
theorem okM_qx {M:List (List Rat)} (h:okW M):okM (M.map (List.map qx))=true:=by
 obtain⟨h1,h2,h3,h4,h5,h6⟩:=h;unfold okM;simp only[Bool.and_eq_true,decide_eq_true_eq,List.all_eq_true,List.length_map]
 refine⟨⟨h3,h4⟩,fun x hx=>?_⟩;obtain⟨r,hr,rfl⟩:=List.mem_map.1 hx;have hw:=h2 r hr;rw[getD_map_qx,List.length_map,hw];exact⟨⟨h6,rfl⟩,okL_qx ⟨h1 r hr,by omega,by omega⟩⟩
theorem ratM_qx {M:List (List Rat)} (h:Short 4 M):ratM (M.map (List.map qx))=M:=by
 unfold ratM;rw[List.map_map]
 conv=>rhs;rw[← List.map_id M]
 exact List.map_congr_left fun r hr=>by simp[rats_qx (fun q hq=>(h r hr q hq).up (show 4≤600 by decide))]
theorem ratsV {l:List Rat} (h:okV l):rats (l.map qx)=l:=rats_qx fun q hq=>(h.1 q hq).up (by decide)
section
variable {M C:List (List Rat)} {b d f x:List Rat} {l:Rat}
theorem solveA_q (hM:okW M) (hb:okV b):solveA (M.map (List.map qx)) (b.map qx)=if b.length=M.length∧M.length=wideQ M then toldO (solveQ M b) else (none,2):=by
 unfold solveA;rw[if_pos ⟨okM_qx hM,okL_qx hb⟩,ratM_qx hM.1,ratsV hb,getD_map_qx];simp only[List.length_map]
theorem normalA_q (hM:okW M) (hb:okV b):normalA (M.map (List.map qx)) (b.map qx)=if b.length=M.length then
  if (∀ r∈normM M,∀ q∈r,fitQ q)∧∀ q∈normV M b,fitQ q then (some (normM M,normV M b),0) else (none,6) else (none,2):=by
 unfold normalA;rw[if_pos ⟨okM_qx hM,okL_qx hb⟩,ratM_qx hM.1,ratsV hb];simp only[List.length_map]
theorem measureA_q (hM:okW M) (hb:okV b) (hx:∀ q∈x,QL 600 600 q):measureA (M.map (List.map qx)) (b.map qx) (x.map qx)=if b.length=M.length∧x.length=wideQ M then toldQ (squaresQ M b x) else (none,2):=by
 unfold measureA;rw[if_pos ⟨okM_qx hM,okL_qx hb⟩,if_pos (List.all_eq_true.2 fun y hy=>by obtain⟨q,hq,rfl⟩:=List.mem_map.1 hy;rw[qv_qx (hx q hq)];rfl),ratM_qx hM.1,ratsV hb,rats_qx hx,getD_map_qx];simp only[List.length_map]
theorem leastA_q (hM:okW M) (hb:okV b):leastA (M.map (List.map qx)) (b.map qx)=if b.length=M.length then toldO (solveQ (normM M) (normV M b)) else (none,2):=by
 unfold leastA;rw[if_pos ⟨okM_qx hM,okL_qx hb⟩,ratM_qx hM.1,ratsV hb];simp only[List.length_map]
theorem neg_qx {q:Rat}:(qx q).1.1=decide (q.num<0):=rfl
theorem dampedA_q (hM:okW M) (hb:okV b) (hd:okV d) (hl:QL 4 4 l):dampedA (M.map (List.map qx)) (b.map qx) (d.map qx) (qx l)=if b.length=M.length∧d.length=wideQ M∧0≤l.num∧(∀ q∈d,0≤q.num) then toldO (solveQ (dampQ (normM M) l d) (normV M b)) else (none,2):=by
 unfold dampedA;rw[if_pos ⟨okM_qx hM,okL_qx hb,okL_qx hd,small_qx hl⟩,ratM_qx hM.1,ratsV hb,ratsV hd,getD_map_qx,qv_qx (hl.up (by decide)),Option.getD_some];simp only[List.length_map,neg_qx]
 have e1:(decide (l.num<0)=false)↔0≤l.num:=by rw[decide_eq_false_iff_not];omega
 have e2:((d.map qx).all (fun q=>!q.1.1)=true)↔∀ q∈d,0≤q.num:=by
  rw[List.all_eq_true];refine⟨fun h q hq=>?_,fun h x hx=>?_⟩
  ·have:=h _ (List.mem_map_of_mem hq);rw[neg_qx,Bool.not_eq_true',decide_eq_false_iff_not] at this;omega
  ·obtain⟨q,hq,rfl⟩:=List.mem_map.1 hx;rw[neg_qx,Bool.not_eq_true',decide_eq_false_iff_not];have:=h q hq;omega
 by_cases h:b.length=M.length∧d.length=wideQ M∧0≤l.num∧∀ q∈d,0≤q.num
 ·rw[if_pos h,if_pos ⟨h.1,h.2.1,e1.2 h.2.2.1,e2.2 h.2.2.2⟩]
 ·rw[if_neg h,if_neg (fun k=>h ⟨k.1,k.2.1,e1.1 k.2.2.1,e2.1 k.2.2.2⟩)]
def boundQ (M:List (List Rat)) (b:List Rat) (C:List (List Rat)) (f:List Rat):Option (Option (List Rat)):=
 let n:=wideQ C;let e:=elimQ (withQ C f) n
 if solvQ e n=true then
  if waysQ e.1 e.2 n=[] then some (some (pointQ e.1 e.2 n))
  else some ((solveQ (normM (stepsQ M (waysQ e.1 e.2 n))) (normV (stepsQ M (waysQ e.1 e.2 n)) (leftQ M b (pointQ e.1 e.2 n)))).map fun t=>movedQ (pointQ e.1 e.2 n) (waysQ e.1 e.2 n) t)
 else none
def toldB:Option (Option (List Rat))→Option (List Rat) × Int
 | some o=>toldO o
 | none=>(none,4)
theorem boundA_q (hM:okW M) (hb:okV b) (hC:okW C) (hf:okV f):boundA (M.map (List.map qx)) (b.map qx) (C.map (List.map qx)) (f.map qx)=if b.length=M.length∧f.length=C.length∧wideQ C=wideQ M then toldB (boundQ M b C f) else (none,2):=by
 unfold boundA boundQ;rw[if_pos ⟨okM_qx hM,okL_qx hb,okM_qx hC,okL_qx hf⟩,ratM_qx hM.1,ratM_qx hC.1,ratsV hb,ratsV hf,getD_map_qx,getD_map_qx];simp only[List.length_map]
 split
 ·split
  ·split
   ·rfl
   ·split <;> simp_all [toldB,toldO]
  ·rfl
 ·rfl
end
-- concrete ones
def tinyL (l:List Rat):Bool:=l.all tinyR&&(decide (1≤l.length)&&decide (l.length≤12))
def tinyM (M:List (List Rat)):Bool:=M.all (fun r=>r.all tinyR&&decide (r.length=wideQ M))&&(decide (1≤M.length)&&decide (M.length≤12)&&(decide (1≤wideQ M)&&decide (wideQ M≤6)))
theorem tinyL_ok {l:List Rat} (h:tinyL l=true):okV l:=by
 unfold tinyL at h;simp only[Bool.and_eq_true,decide_eq_true_eq,List.all_eq_true] at h
 exact⟨fun q hq=>(tiny_ql (h.1 q hq)).up (by decide),h.2⟩
theorem tinyM_ok {M:List (List Rat)} (h:tinyM M=true):okW M:=by
 unfold tinyM at h;simp only[Bool.and_eq_true,decide_eq_true_eq,List.all_eq_true] at h
 exact⟨fun r hr q hq=>(tiny_ql ((h.1 r hr).1 q hq)).up (by decide),fun r hr=>(h.1 r hr).2,h.2.1.1,h.2.1.2,h.2.2.1,h.2.2.2⟩
theorem told_tiny {l:List Rat} (h:l.all tinyR=true):toldL l=(some l,0):=if_pos fun q hq=>by have h1:=(tiny_ql (List.all_eq_true.1 h q hq)).up (show 1≤600 by decide);unfold QL at h1;exact h1
def VL (w:World) (B:Nat) (v:Value) (l:List Rat):Prop:=QS w B v (l.map qx)
def VM (w:World) (B:Nat) (v:Value) (M:List (List Rat)):Prop:=QM w B v (M.map (List.map qx))
theorem VL.step {w w':World} {v:Value} {l:List Rat} (h:VL w w.heap.size v l) (hb:Below w.heap.size w w'):VL w' w'.heap.size v l:=SL.step h EQ.stable hb
theorem VM.step {w w':World} {v:Value} {l:List (List Rat)} (h:VM w w.heap.size v l) (hb:Below w.heap.size w w'):VM w' w'.heap.size v l:=SL.step h (SE.stable EQ.stable) hb
theorem VM.nil (w:World) (B:Nat):VM w B (.slice none 0 0) []:=SL.nil _ _ _ _
theorem SL.cb {α:Type} {k:Nat} {E:Elem α} {w:World} {B b:Nat} {T:TypeId} {cs:List Value} {l:List α} (h:CB w b T cs.toArray) (hb:b<B) (hc:l.length≤3000000000) (hE:∀ j (hj:j<l.length),∃ ds:List Value,ds.length=k∧(∀ (i:Nat) (v:Value),ds[i]?=some v→cs[j*k+i]?=some v)∧E w B ds l[j]) :
  SL k E w B (.slice (some ⟨b,0,none⟩) l.length l.length) l:=
 ⟨_,_,rfl,Nat.le_refl _,by omega,fun _=>⟨b,0,rfl,hb,fun j hj=>by
  obtain⟨ds,h1,h2,h3⟩:=hE j hj;exact⟨ds,h1,fun i v hv=>by have:=h.cell (j*k+i) (v:=v) (by simpa using h2 i v hv);simpa using this,h3⟩⟩⟩
theorem SS.cb1 {w:World} {b:Nat} {s:ByteArray} (h:CB w b 9 #[.string s]):SS w w.heap.size (.slice (some ⟨b,0,none⟩) 1 1) [s]:=
 SL.cb (l:=[s]) (cs:=[.string s]) h h.lt (by simp) fun j hj=>by
  have e:j=0:=by simp at hj;omega
  subst e;exact⟨[.string s],rfl,fun i v hv=>by simpa using hv,rfl⟩
theorem SS.cb2 {w:World} {b:Nat} {s t:ByteArray} (h:CB w b 9 #[.string s,.string t]):SS w w.heap.size (.slice (some ⟨b,0,none⟩) 2 2) [s,t]:=
 SL.cb (l:=[s,t]) (cs:=[.string s,.string t]) h h.lt (by simp) fun j hj=>by
  have e:j=0∨j=1:=by simp at hj;omega
  rcases e with rfl | rfl
  ·exact⟨[.string s],rfl,fun i v hv=>by rcases i with _ | i <;> simp_all,rfl⟩
  ·exact⟨[.string t],rfl,fun i v hv=>by rcases i with _ | i <;> simp_all,rfl⟩
theorem VL.cb1 {w:World} {b:Nat} {T:TypeId} {q:Rat} {c0 c1 c2 c3:Value} (h:CB w b T #[c0,c1,c2,c3]) (hq:QV w w.heap.size (.agg #[c0,c1,c2,c3]) q):VL w w.heap.size (.slice (some ⟨b,0,none⟩) 1 1) [q]:=
 SL.cb (l:=[qx q]) (cs:=[c0,c1,c2,c3]) h h.lt (by simp) fun j hj=>by
  have e:j=0:=by simp at hj;omega
  subst e;exact⟨[c0,c1,c2,c3],rfl,fun i v hv=>by simpa using hv,_,_,_,_,rfl,hq.qr⟩
theorem VM.cb1 {w:World} {b:Nat} {T:TypeId} {v:Value} {l:List Rat} (h:CB w b T #[v]) (hv:VL w w.heap.size v l):VM w w.heap.size (.slice (some ⟨b,0,none⟩) 1 1) [l]:=
 SL.cb (l:=[l.map qx]) (cs:=[v]) h h.lt (by simp) fun j hj=>by
  have e:j=0:=by simp at hj;omega
  subst e;exact⟨[v],rfl,fun i v hv=>by simpa using hv,_,rfl,hv⟩
theorem VM.cb2 {w:World} {b:Nat} {T:TypeId} {v v':Value} {l l':List Rat} (h:CB w b T #[v,v']) (hv:VL w w.heap.size v l) (hv':VL w w.heap.size v' l'):VM w w.heap.size (.slice (some ⟨b,0,none⟩) 2 2) [l,l']:=
 SL.cb (l:=[l.map qx,l'.map qx]) (cs:=[v,v']) h h.lt (by simp) fun j hj=>by
  have e:j=0∨j=1:=by simp at hj;omega
  rcases e with rfl | rfl
  ·exact⟨[v],rfl,fun i v hv=>by rcases i with _ | i <;> simp_all,_,rfl,hv⟩
  ·exact⟨[v'],rfl,fun i v hv=>by rcases i with _ | i <;> simp_all,_,rfl,hv'⟩
theorem VL.open {w:World} {v:Value} {l:List Rat} {n:Nat} (h:VL w w.heap.size v l) (hn:l.length=n):∃ A c,v=.slice A n c∧VL w w.heap.size (.slice A n c) l:=by
 obtain⟨A,c,e,-,-⟩:=SL.slice h;rw[List.length_map,hn] at e;subst e;exact⟨A,c,rfl,h⟩
theorem VM.open {w:World} {v:Value} {l:List (List Rat)} {n:Nat} (h:VM w w.heap.size v l) (hn:l.length=n):∃ A c,v=.slice A n c∧VM w w.heap.size (.slice A n c) l:=by
 obtain⟨A,c,e,-,-⟩:=SL.slice h;rw[List.length_map,hn] at e;subst e;exact⟨A,c,rfl,h⟩
theorem VL.rat {w:World} {B:Nat} {v:Value} {l:List Rat} (h:VL w B v l):QS w B v (l.map qx):=h
theorem VM.rat {w:World} {B:Nat} {v:Value} {l:List (List Rat)} (h:VM w B v l):QM w B v (l.map (List.map qx)):=h
theorem ret_list {w:World} {r:Option (List Rat) × Int} {e:Ending} {x:List Rat} {n:Nat} (h:RetLs w r e) (hr:r=(some x,0)) (hn:x.length=n):∃ A c,e=.returned (.tuple #[.slice A n c,.int .i64 0])∧VL w w.heap.size (.slice A n c) x:=by
 subst hr;obtain⟨v,rfl,hv⟩:=h;obtain⟨A,c,rfl,h⟩:=VL.open hv hn;exact⟨A,c,rfl,h⟩
theorem ret_err {w:World} {r:Option (List Rat) × Int} {e:Ending} {k:Int} (h:RetLs w r e) (hr:r=(none,k)):e=.returned (.tuple #[.slice none 0 0,.int .i64 k]):=by
 subst hr;obtain⟨v,rfl,hv⟩:=h;obtain rfl:v=.slice none 0 0:=hv
 rfl
theorem below_new {w w':World} {c:Obj} (h:Below (w.alloc c).heap.size (w.alloc c) w'):Below w.heap.size w w':=(below_alloc1 (Below.refl _ _) c).trans (h.mono (below_alloc1 (Below.refl _ _) c).size)
theorem VL.elem0 {w:World} {A:Option Addr} {n c:Nat} {q:Rat} (h:VL w w.heap.size (.slice A n c) [q]):∃ g off xA xl xc xB xu xd,A=some ⟨g,off,none⟩∧E4 w g off (.bool (qx q).1.1) (.slice xA xl xc) (.bool (qx q).2.1) (.slice xB xu xd)∧QR w w.heap.size (.agg #[.bool (qx q).1.1,.slice xA xl xc,.bool (qx q).2.1,.slice xB xu xd]) (qx q).1.1 (qx q).1.2 (qx q).2.1 (qx q).2.2:=by
 obtain⟨g,off,xA,xl,xc,xB,xu,xd,e,-,hE,hx⟩:=QS.elem h.rat (j:=0) (by simp);simp only[List.map_cons,List.getElem_cons_zero,Nat.zero_mul,Nat.add_zero] at hE hx
 exact⟨g,off,xA,xl,xc,xB,xu,xd,e,hE,hx⟩
theorem VM.row0 {w:World} {A:Option Addr} {n c:Nat} {q:Rat} (h:VM w w.heap.size (.slice A n c) [[q]]):∃ g off A' c',A=some ⟨g,off,none⟩∧w.cell? ⟨g,off,none⟩=some (.slice A' 1 c')∧VL w w.heap.size (.slice A' 1 c') [q]:=by
 obtain⟨g,off,A',c',e,-,h1,h2⟩:=SL.row h.rat (j:=0) (by simp);exact⟨g,off,A',c',e,h1,h2⟩
theorem ret_normal {w:World} {r:Option (List (List Rat) × List Rat) × Int} {e:Ending} {x:List (List Rat)} {y:List Rat} {n m:Nat} (h:RetN w r e) (hr:r=(some (x,y),0)) (hn:x.length=n) (hm:y.length=m):∃ A c B d,e=.returned (.tuple #[.slice A n c,.slice B m d,.int .i64 0])∧VM w w.heap.size (.slice A n c) x∧VL w w.heap.size (.slice B m d) y:=by
 subst hr;obtain⟨v1,v2,rfl,a0,b0⟩:=h;obtain⟨A,c,rfl,h1⟩:=VM.open a0 hn;obtain⟨B,d,rfl,h2⟩:=VL.open b0 hm;exact⟨A,c,B,d,rfl,h1,h2⟩
theorem ret_quot {w:World} {r:Option Rat × Int} {e:Ending} {x:Rat} (h:RetQ w r e) (hr:r=(some x,0)):∃ v,e=.returned (.tuple #[v,.int .i64 0])∧QV w w.heap.size v x:=by
 subst hr;exact h
theorem fit_tiny {l:List Rat} (h:l.all tinyR=true):∀ q∈l,fitQ q:=fun q hq=>by have h1:=(tiny_ql (List.all_eq_true.1 h q hq)).up (show 1≤600 by decide);unfold QL at h1;exact h1
theorem of1 (w:World) {s1:ByteArray} {q1:Rat} (h1:parseQ s1.data.toList=(some q1,0)) (z1:s1.size≤3000000000) (M:MaxL w) :
  Calls Tryz.prog 23 #[.slice (some ⟨w.heap.size,0,none⟩) 1 1] (w.alloc (.cells #[.string s1] 9)) fun e w'=>Below w.heap.size w w'∧∃ A c,e=.returned (.slice A 1 c)∧VL w' w'.heap.size (.slice A 1 c) [q1]:=by
 refine(lof_any _ _ _ _ [s1] [q1] (SS.cb1 (CB.new w 9 #[.string s1])) (by simp[h1]) (by simp[z1]) (by simp) (M.step (below_alloc1 (Below.refl _ _) _))).mono ?_;rintro e w' ⟨hb,v,rfl,hv⟩;obtain⟨A,c,rfl,h⟩:=VL.open (n:=1) hv rfl;exact⟨below_new hb,A,c,rfl,h⟩
theorem is1 (w:World) {s1:ByteArray} :
  Calls Tryz.prog 24 #[.slice (some ⟨w.heap.size,0,none⟩) 1 1] (w.alloc (.cells #[.string s1] 9)) fun e w'=>Below w.heap.size w w'∧∃ N,e=.returned (.func (.func 66) #[] #[.pointer (some ⟨N,0,none⟩)])∧IsC w' w'.heap.size N [s1]:=by
 refine(lis_any _ _ _ _ [s1] (SS.cb1 (CB.new w 9 #[.string s1]))).mono ?_;rintro e w' ⟨hb,h⟩;exact⟨below_new hb,h⟩
theorem yes1 {w:World} {N:Nat} {s1:ByteArray} {q1:Rat} {A:Option Addr} {c:Nat} (hN:IsC w w.heap.size N [s1]) (hx:VL w w.heap.size (.slice A 1 c) [q1]) (h1:parseQ s1.data.toList=(some q1,0)) (z1:s1.size≤3000000000) (M:MaxL w) :
  Calls Tryz.prog 66 #[.slice A 1 c,.int .i64 0,.pointer (some ⟨N,0,none⟩)] w fun e w'=>Below w.heap.size w w'∧e=.returned (.bool true):=
 lis_yes [q1] hN hx.rat (by simp[h1]) (by simp[z1]) (by simp) M
theorem rows1 (w:World) {v1:Value} {l1:List Rat} (h1:VL w w.heap.size v1 l1) :
  Calls Tryz.prog 22 #[.slice (some ⟨w.heap.size,0,none⟩) 1 1] (w.alloc (.cells #[v1] 28)) fun e w'=>Below w.heap.size w w'∧∃ g,e=.returned (.slice (some ⟨g,0,none⟩) 1 1)∧VM w' w'.heap.size (.slice (some ⟨g,0,none⟩) 1 1) [l1]:=by
 refine(lrows_any _ _ rfl).mono ?_;rintro e w' ⟨hb,rfl⟩;have a0:Below w.heap.size w (w.alloc (.cells #[v1] 28)):=below_alloc1 (Below.refl _ _) _;exact⟨below_new hb,_,rfl,VM.step (VM.cb1 (CB.new w 28 #[v1]) (h1.step a0)) hb⟩
theorem of2 (w:World) {s1 s2:ByteArray} {q1 q2:Rat} (h1:parseQ s1.data.toList=(some q1,0)) (h2:parseQ s2.data.toList=(some q2,0)) (z1:s1.size≤3000000000) (z2:s2.size≤3000000000) (M:MaxL w) :
  Calls Tryz.prog 23 #[.slice (some ⟨w.heap.size,0,none⟩) 2 2] (w.alloc (.cells #[.string s1,.string s2] 9)) fun e w'=>Below w.heap.size w w'∧∃ A c,e=.returned (.slice A 2 c)∧VL w' w'.heap.size (.slice A 2 c) [q1,q2]:=by
 refine(lof_any _ _ _ _ [s1,s2] [q1,q2] (SS.cb2 (CB.new w 9 #[.string s1,.string s2])) (by simp[h1,h2]) (by simp[z1,z2]) (by simp) (M.step (below_alloc1 (Below.refl _ _) _))).mono ?_;rintro e w' ⟨hb,v,rfl,hv⟩;obtain⟨A,c,rfl,h⟩:=VL.open (n:=2) hv rfl;exact⟨below_new hb,A,c,rfl,h⟩
theorem is2 (w:World) {s1 s2:ByteArray} :
  Calls Tryz.prog 24 #[.slice (some ⟨w.heap.size,0,none⟩) 2 2] (w.alloc (.cells #[.string s1,.string s2] 9)) fun e w'=>Below w.heap.size w w'∧∃ N,e=.returned (.func (.func 66) #[] #[.pointer (some ⟨N,0,none⟩)])∧IsC w' w'.heap.size N [s1,s2]:=by
 refine(lis_any _ _ _ _ [s1,s2] (SS.cb2 (CB.new w 9 #[.string s1,.string s2]))).mono ?_;rintro e w' ⟨hb,h⟩;exact⟨below_new hb,h⟩
theorem yes2 {w:World} {N:Nat} {s1 s2:ByteArray} {q1 q2:Rat} {A:Option Addr} {c:Nat} (hN:IsC w w.heap.size N [s1,s2]) (hx:VL w w.heap.size (.slice A 2 c) [q1,q2]) (h1:parseQ s1.data.toList=(some q1,0)) (h2:parseQ s2.data.toList=(some q2,0)) (z1:s1.size≤3000000000) (z2:s2.size≤3000000000) (M:MaxL w) :
  Calls Tryz.prog 66 #[.slice A 2 c,.int .i64 0,.pointer (some ⟨N,0,none⟩)] w fun e w'=>Below w.heap.size w w'∧e=.returned (.bool true):=
 lis_yes [q1,q2] hN hx.rat (by simp[h1,h2]) (by simp[z1,z2]) (by simp) M
theorem of2c {w:World} {b:Nat} {s1 s2:ByteArray} {q1 q2:Rat} (h:CB w b 9 #[.string s1,.string s2]) (h1:parseQ s1.data.toList=(some q1,0)) (h2:parseQ s2.data.toList=(some q2,0)) (z1:s1.size≤3000000000) (z2:s2.size≤3000000000) (M:MaxL w) :
  Calls Tryz.prog 23 #[.slice (some ⟨b,0,none⟩) 2 2] w fun e w'=>Below w.heap.size w w'∧∃ A c,e=.returned (.slice A 2 c)∧VL w' w'.heap.size (.slice A 2 c) [q1,q2]:=by
 refine(lof_any _ _ _ _ [s1,s2] [q1,q2] (SS.cb2 h) (by simp[h1,h2]) (by simp[z1,z2]) (by simp) M).mono ?_;rintro e w' ⟨hb,v,rfl,hv⟩;obtain⟨A,c,rfl,h⟩:=VL.open (n:=2) hv rfl;exact⟨hb,A,c,rfl,h⟩
theorem rows2 (w:World) {v1 v2:Value} {l1 l2:List Rat} (h1:VL w w.heap.size v1 l1) (h2:VL w w.heap.size v2 l2) :
  Calls Tryz.prog 22 #[.slice (some ⟨w.heap.size,0,none⟩) 2 2] (w.alloc (.cells #[v1,v2] 28)) fun e w'=>Below w.heap.size w w'∧∃ g,e=.returned (.slice (some ⟨g,0,none⟩) 2 2)∧VM w' w'.heap.size (.slice (some ⟨g,0,none⟩) 2 2) [l1,l2]:=by
 refine(lrows_any _ _ rfl).mono ?_;rintro e w' ⟨hb,rfl⟩;have a0:Below w.heap.size w (w.alloc (.cells #[v1,v2] 28)):=below_alloc1 (Below.refl _ _) _;exact⟨below_new hb,_,rfl,VM.step (VM.cb2 (CB.new w 28 #[v1,v2]) (h1.step a0) (h2.step a0)) hb⟩
theorem plit_49:parseQ (ByteArray.mk #[49]).data.toList=(some (mkRat 1 1),0):=parse_lit (lit_whole (s:=[49]) (x:=1) (by decide +kernel)) (lit_QL (x:=1) (d:=1) (by decide) (by decide +kernel) (by decide +kernel) (by decide +kernel))
theorem plit_50:parseQ (ByteArray.mk #[50]).data.toList=(some (mkRat 2 1),0):=parse_lit (lit_whole (s:=[50]) (x:=2) (by decide +kernel)) (lit_QL (x:=2) (d:=1) (by decide) (by decide +kernel) (by decide +kernel) (by decide +kernel))
theorem plit_51:parseQ (ByteArray.mk #[51]).data.toList=(some (mkRat 3 1),0):=parse_lit (lit_whole (s:=[51]) (x:=3) (by decide +kernel)) (lit_QL (x:=3) (d:=1) (by decide) (by decide +kernel) (by decide +kernel) (by decide +kernel))
theorem plit_53:parseQ (ByteArray.mk #[53]).data.toList=(some (mkRat 5 1),0):=parse_lit (lit_whole (s:=[53]) (x:=5) (by decide +kernel)) (lit_QL (x:=5) (d:=1) (by decide) (by decide +kernel) (by decide +kernel) (by decide +kernel))
theorem plit_52_47_53:parseQ (ByteArray.mk #[52,47,53]).data.toList=(some (mkRat 4 5),0):=parse_lit (lit_frac (s1:=[52]) (s2:=[53]) (x:=4) (d:=5) (by decide +kernel) (by decide +kernel) (by decide) (by decide +kernel)) (lit_QL (x:=4) (d:=5) (by decide) (by decide +kernel) (by decide +kernel) (by decide +kernel))
theorem plit_55_47_53:parseQ (ByteArray.mk #[55,47,53]).data.toList=(some (mkRat 7 5),0):=parse_lit (lit_frac (s1:=[55]) (s2:=[53]) (x:=7) (d:=5) (by decide +kernel) (by decide +kernel) (by decide) (by decide +kernel)) (lit_QL (x:=7) (d:=5) (by decide) (by decide +kernel) (by decide +kernel) (by decide +kernel))
theorem plit_52:parseQ (ByteArray.mk #[52]).data.toList=(some (mkRat 4 1),0):=parse_lit (lit_whole (s:=[52]) (x:=4) (by decide +kernel)) (lit_QL (x:=4) (d:=1) (by decide) (by decide +kernel) (by decide +kernel) (by decide +kernel))
theorem plit_49_49:parseQ (ByteArray.mk #[49,49]).data.toList=(some (mkRat 11 1),0):=parse_lit (lit_whole (s:=[49,49]) (x:=11) (by decide +kernel)) (lit_QL (x:=11) (d:=1) (by decide) (by decide +kernel) (by decide +kernel) (by decide +kernel))
theorem plit_56:parseQ (ByteArray.mk #[56]).data.toList=(some (mkRat 8 1),0):=parse_lit (lit_whole (s:=[56]) (x:=8) (by decide +kernel)) (lit_QL (x:=8) (d:=1) (by decide) (by decide +kernel) (by decide +kernel) (by decide +kernel))
theorem plit_49_49_47_53:parseQ (ByteArray.mk #[49,49,47,53]).data.toList=(some (mkRat 11 5),0):=parse_lit (lit_frac (s1:=[49,49]) (s2:=[53]) (x:=11) (d:=5) (by decide +kernel) (by decide +kernel) (by decide) (by decide +kernel)) (lit_QL (x:=11) (d:=5) (by decide) (by decide +kernel) (by decide +kernel) (by decide +kernel))
theorem plit_49_49_47_49_48:parseQ (ByteArray.mk #[49,49,47,49,48]).data.toList=(some (mkRat 11 10),0):=parse_lit (lit_frac (s1:=[49,49]) (s2:=[49,48]) (x:=11) (d:=10) (by decide +kernel) (by decide +kernel) (by decide) (by decide +kernel)) (lit_QL (x:=11) (d:=10) (by decide) (by decide +kernel) (by decide +kernel) (by decide +kernel))
theorem plit_49_47_50:parseQ (ByteArray.mk #[49,47,50]).data.toList=(some (mkRat 1 2),0):=parse_lit (lit_frac (s1:=[49]) (s2:=[50]) (x:=1) (d:=2) (by decide +kernel) (by decide +kernel) (by decide) (by decide +kernel)) (lit_QL (x:=1) (d:=2) (by decide) (by decide +kernel) (by decide +kernel) (by decide +kernel))
theorem plit_50_47_53:parseQ (ByteArray.mk #[50,47,53]).data.toList=(some (mkRat 2 5),0):=parse_lit (lit_frac (s1:=[50]) (s2:=[53]) (x:=2) (d:=5) (by decide +kernel) (by decide +kernel) (by decide) (by decide +kernel)) (lit_QL (x:=2) (d:=5) (by decide) (by decide +kernel) (by decide +kernel) (by decide +kernel))
theorem plit_45_49:parseQ (ByteArray.mk #[45,49]).data.toList=(some (mkRat (-1) 1),0):=parse_lit (lit_whole (s:=[45,49]) (x:=(-1)) (by decide +kernel)) (lit_QL (x:=(-1)) (d:=1) (by decide) (by decide +kernel) (by decide +kernel) (by decide +kernel))
theorem plit_48:parseQ (ByteArray.mk #[48]).data.toList=(some (mkRat 0 1),0):=parse_lit (lit_whole (s:=[48]) (x:=0) (by decide +kernel)) (lit_QL (x:=0) (d:=1) (by decide) (by decide +kernel) (by decide +kernel) (by decide +kernel))
theorem wk1:solveA (([[(mkRat 2 1),(mkRat 1 1)],[(mkRat 1 1),(mkRat 3 1)]]).map (List.map qx)) (([(mkRat 3 1),(mkRat 5 1)]).map qx)=(some [(mkRat 4 5),(mkRat 7 5)],0):=by rw[solveA_q (tinyM_ok (by decide +kernel)) (tinyL_ok (by decide +kernel)),if_pos (by decide +kernel),show solveQ [[(mkRat 2 1),(mkRat 1 1)],[(mkRat 1 1),(mkRat 3 1)]] [(mkRat 3 1),(mkRat 5 1)]=some [(mkRat 4 5),(mkRat 7 5)] from by decide +kernel];exact told_tiny (by decide +kernel)
theorem wk2:solveA (([[(mkRat 1 1),(mkRat 2 1)],[(mkRat 2 1),(mkRat 4 1)]]).map (List.map qx)) (([(mkRat 1 1),(mkRat 2 1)]).map qx)=(none,7):=by rw[solveA_q (tinyM_ok (by decide +kernel)) (tinyL_ok (by decide +kernel)),if_pos (by decide +kernel),show solveQ [[(mkRat 1 1),(mkRat 2 1)],[(mkRat 2 1),(mkRat 4 1)]] [(mkRat 1 1),(mkRat 2 1)]=none from by decide +kernel];exact rfl
theorem wk3:solveA (([[(mkRat 1 1),(mkRat 2 1)]]).map (List.map qx)) (([(mkRat 1 1)]).map qx)=(none,2):=by rw[solveA_q (tinyM_ok (by decide +kernel)) (tinyL_ok (by decide +kernel)),if_neg (by decide +kernel)]
theorem wk4:solveA (([]).map (List.map qx)) (([(mkRat 1 1)]).map qx)=(none,350):=by unfold solveA;rw[if_neg (fun h=>by have:=h.1;revert this;decide)]
theorem wk5:leastA (([[(mkRat 1 1)],[(mkRat 2 1)]]).map (List.map qx)) (([(mkRat 3 1),(mkRat 4 1)]).map qx)=(some [(mkRat 11 5)],0):=by rw[leastA_q (tinyM_ok (by decide +kernel)) (tinyL_ok (by decide +kernel)),if_pos (by decide +kernel),show solveQ (normM [[(mkRat 1 1)],[(mkRat 2 1)]]) (normV [[(mkRat 1 1)],[(mkRat 2 1)]] [(mkRat 3 1),(mkRat 4 1)])=some [(mkRat 11 5)] from by decide +kernel];exact told_tiny (by decide +kernel)
theorem wk6:leastA (([[(mkRat 1 1),(mkRat 1 1)],[(mkRat 2 1),(mkRat 2 1)]]).map (List.map qx)) (([(mkRat 1 1),(mkRat 1 1)]).map qx)=(none,7):=by rw[leastA_q (tinyM_ok (by decide +kernel)) (tinyL_ok (by decide +kernel)),if_pos (by decide +kernel),show solveQ (normM [[(mkRat 1 1),(mkRat 1 1)],[(mkRat 2 1),(mkRat 2 1)]]) (normV [[(mkRat 1 1),(mkRat 1 1)],[(mkRat 2 1),(mkRat 2 1)]] [(mkRat 1 1),(mkRat 1 1)])=none from by decide +kernel];exact rfl
theorem wk7:dampedA (([[(mkRat 1 1)],[(mkRat 2 1)]]).map (List.map qx)) (([(mkRat 3 1),(mkRat 4 1)]).map qx) (([(mkRat 1 1)]).map qx) (qx (mkRat 5 1))=(some [(mkRat 11 10)],0):=by rw[dampedA_q (tinyM_ok (by decide +kernel)) (tinyL_ok (by decide +kernel)) (tinyL_ok (by decide +kernel)) (QL.up (tiny_ql (by decide +kernel)) (by decide)),if_pos (by decide +kernel),show solveQ (dampQ (normM [[(mkRat 1 1)],[(mkRat 2 1)]]) (mkRat 5 1) [(mkRat 1 1)]) (normV [[(mkRat 1 1)],[(mkRat 2 1)]] [(mkRat 3 1),(mkRat 4 1)])=some [(mkRat 11 10)] from by decide +kernel];exact told_tiny (by decide +kernel)
theorem wk8:dampedA (([[(mkRat 1 1),(mkRat 1 1)]]).map (List.map qx)) (([(mkRat 1 1)]).map qx) (([(mkRat 1 1),(mkRat 1 1)]).map qx) (qx (mkRat 1 2))=(some [(mkRat 2 5),(mkRat 2 5)],0):=by rw[dampedA_q (tinyM_ok (by decide +kernel)) (tinyL_ok (by decide +kernel)) (tinyL_ok (by decide +kernel)) (QL.up (tiny_ql (by decide +kernel)) (by decide)),if_pos (by decide +kernel),show solveQ (dampQ (normM [[(mkRat 1 1),(mkRat 1 1)]]) (mkRat 1 2) [(mkRat 1 1),(mkRat 1 1)]) (normV [[(mkRat 1 1),(mkRat 1 1)]] [(mkRat 1 1)])=some [(mkRat 2 5),(mkRat 2 5)] from by decide +kernel];exact told_tiny (by decide +kernel)
theorem wk9:dampedA (([[(mkRat 1 1)]]).map (List.map qx)) (([(mkRat 1 1)]).map qx) (([(mkRat 1 1)]).map qx) (qx (mkRat (-1) 1))=(none,2):=by rw[dampedA_q (tinyM_ok (by decide +kernel)) (tinyL_ok (by decide +kernel)) (tinyL_ok (by decide +kernel)) (QL.up (tiny_ql (by decide +kernel)) (by decide)),if_neg (by decide +kernel)]
theorem wk10:boundA (([[(mkRat 1 1),(mkRat 0 1)],[(mkRat 0 1),(mkRat 1 1)]]).map (List.map qx)) (([(mkRat 3 1),(mkRat 4 1)]).map qx) (([[(mkRat 1 1),(mkRat 1 1)]]).map (List.map qx)) (([(mkRat 1 1)]).map qx)=(some [(mkRat 0 1),(mkRat 1 1)],0):=by rw[boundA_q (tinyM_ok (by decide +kernel)) (tinyL_ok (by decide +kernel)) (tinyM_ok (by decide +kernel)) (tinyL_ok (by decide +kernel)),if_pos (by decide +kernel),show boundQ [[(mkRat 1 1),(mkRat 0 1)],[(mkRat 0 1),(mkRat 1 1)]] [(mkRat 3 1),(mkRat 4 1)] [[(mkRat 1 1),(mkRat 1 1)]] [(mkRat 1 1)]=some (some [(mkRat 0 1),(mkRat 1 1)]) from by decide +kernel];exact told_tiny (by decide +kernel)
theorem wk11:boundA (([[(mkRat 1 1),(mkRat 0 1)]]).map (List.map qx)) (([(mkRat 1 1)]).map qx) (([[(mkRat 0 1),(mkRat 1 1)],[(mkRat 0 1),(mkRat 2 1)]]).map (List.map qx)) (([(mkRat 1 1),(mkRat 2 1)]).map qx)=(some [(mkRat 1 1),(mkRat 1 1)],0):=by rw[boundA_q (tinyM_ok (by decide +kernel)) (tinyL_ok (by decide +kernel)) (tinyM_ok (by decide +kernel)) (tinyL_ok (by decide +kernel)),if_pos (by decide +kernel),show boundQ [[(mkRat 1 1),(mkRat 0 1)]] [(mkRat 1 1)] [[(mkRat 0 1),(mkRat 1 1)],[(mkRat 0 1),(mkRat 2 1)]] [(mkRat 1 1),(mkRat 2 1)]=some (some [(mkRat 1 1),(mkRat 1 1)]) from by decide +kernel];exact told_tiny (by decide +kernel)
theorem wk12:boundA (([[(mkRat 1 1),(mkRat 0 1)]]).map (List.map qx)) (([(mkRat 1 1)]).map qx) (([[(mkRat 0 1),(mkRat 1 1)],[(mkRat 0 1),(mkRat 2 1)]]).map (List.map qx)) (([(mkRat 1 1),(mkRat 3 1)]).map qx)=(none,4):=by rw[boundA_q (tinyM_ok (by decide +kernel)) (tinyL_ok (by decide +kernel)) (tinyM_ok (by decide +kernel)) (tinyL_ok (by decide +kernel)),if_pos (by decide +kernel),show boundQ [[(mkRat 1 1),(mkRat 0 1)]] [(mkRat 1 1)] [[(mkRat 0 1),(mkRat 1 1)],[(mkRat 0 1),(mkRat 2 1)]] [(mkRat 1 1),(mkRat 3 1)]=none from by decide +kernel];exact rfl
theorem wk13:boundA (([[(mkRat 1 1),(mkRat 0 1)]]).map (List.map qx)) (([(mkRat 1 1)]).map qx) (([[(mkRat 1 1),(mkRat 0 1)]]).map (List.map qx)) (([(mkRat 1 1)]).map qx)=(none,7):=by rw[boundA_q (tinyM_ok (by decide +kernel)) (tinyL_ok (by decide +kernel)) (tinyM_ok (by decide +kernel)) (tinyL_ok (by decide +kernel)),if_pos (by decide +kernel),show boundQ [[(mkRat 1 1),(mkRat 0 1)]] [(mkRat 1 1)] [[(mkRat 1 1),(mkRat 0 1)]] [(mkRat 1 1)]=some none from by decide +kernel];exact rfl
theorem wkN:normalA ([[mkRat 1 1],[mkRat 2 1]].map (List.map qx)) ([mkRat 3 1,mkRat 4 1].map qx)=(some ([[mkRat 5 1]],[mkRat 11 1]),0):=by
 rw[normalA_q (tinyM_ok (by decide +kernel)) (tinyL_ok (by decide +kernel)),if_pos (by decide),show normM [[mkRat 1 1],[mkRat 2 1]]=[[mkRat 5 1]] from by decide +kernel,show normV [[mkRat 1 1],[mkRat 2 1]] [mkRat 3 1,mkRat 4 1]=[mkRat 11 1] from by decide +kernel];exact if_pos ⟨fun r hr q hq=>by simp at hr;subst hr;exact fit_tiny (by decide +kernel) q hq,fun q hq=>fit_tiny (l:=[mkRat 11 1]) (by decide +kernel) q hq⟩
theorem wkQ:measureA ([[mkRat 1 1],[mkRat 2 1]].map (List.map qx)) ([mkRat 3 1,mkRat 4 1].map qx) ([mkRat 1 1].map qx)=(some (mkRat 8 1),0):=by
 rw[measureA_q (tinyM_ok (by decide +kernel)) (tinyL_ok (by decide +kernel)) (fun q hq=>(tiny_ql (List.all_eq_true.1 (show[mkRat 1 1].all tinyR=true by decide +kernel) q hq)).up (by decide)),if_pos (by decide),show squaresQ _ _ _=mkRat 8 1 from by decide +kernel];exact if_pos (fit_tiny (l:=[mkRat 8 1]) (by decide +kernel) _ (by simp))
end Go.Proofs.YtdigbofiebfkeaaGreatDoor
