/- Texts put together. -/
import Derived.Test.YtencnahjgbdeoaaGreatDoorLb1
import Derived.Test.YtencnahjgbdeoaaGreatDoorQX
import Derived.Test.YtencnahjgbdeoaaGreatDoorLlm
namespace Go.Proofs.YtencnahjgbdeoaaGreatDoor
open Go Go.RowKit Dig
set_option maxRecDepth 100000
set_option maxHeartbeats 4000000
set_option linter.unusedSimpArgs false
theorem KR (w:World) (A A':Option Addr) (u c u' c':Nat) (n m:Bool) (a b:List Int) (h:QR w w.heap.size (.agg #[.bool n,.slice A u c,.bool m,.slice A' u' c']) n a m b) :
    CV 66 #[.agg #[.bool n,.slice A u c,.bool m,.slice A' u' c']] w fun e _=>e=.returned (.bool (eC ((n,a),(m,b)))):=by
  obtain⟨rfl,rfl⟩:=QR.lens h;have HX:=zz h;clear h;obtain⟨w0,hw0⟩:=ex (w.alloc (.cells #[.bool n,.slice A a.length c,.bool m,.slice A' b.length c'] 28));have B0:=zz (cK hw0);have z0:=cJ hw0;have Lq:=cL hw0;cases hs:(nS n a m b).isSome
  case false=>
    have HS:=zz hs;clear hs;go_enter Tryz.func66,Tryz.ntmps66
    go_upto_region 1 with (fail)
    rw[← hw0];clear hw0;have v0:=cz4 Lq;go_wp2_with fail
    have g0:=st aHz HX B0;refine(nx B0 (kO _ _ n a m b g0.o)).mono ?_;rintro e w1 ⟨⟨B4,z4,M0⟩,rfl⟩;clear v0;rw[HS.o];have c0:=aEd Lq B4.o;have C0:=cz4 c0;go_wp2;clear C0;go_ret;exact⟨M0.o,by unfold eC qv;rw[HS.o];rfl⟩
  case true=>
    have HS:=zz hs;clear hs;by_cases h4:a.length≤4
    case neg=>
      have h4':¬ (a.length:Int)≤4:=by omega
      go_enter Tryz.func66,Tryz.ntmps66
      go_upto_region 1 with (fail)
      rw[← hw0];clear hw0;have G0:=cz4 Lq;go_wp2_with fail
      have d0:=st aHz HX B0;refine(nx B0 (kO _ _ n a m b d0.o)).mono ?_;rintro e w8 ⟨⟨B11,z11,K0⟩,rfl⟩;clear G0;rw[HS.o];have a0:=aEd Lq B11.o;have h0:=cz4 a0;go_wp2;clear h0;go_ret;exact⟨K0.o,by unfold eC qv;rw[HS.o,aEe h4];rfl⟩
    case pos=>
      have h4':(a.length:Int)≤4:=by omega
      have h5:decide ((b.length:Int)≤4)=decide (b.length≤4):=by rw[aIu];omega
      have H5:=zz h5;clear h5;go_enter Tryz.func66,Tryz.ntmps66
      go_upto_region 1 with (fail)
      rw[← hw0];clear hw0;have l0:=cz4 Lq;go_wp2_with fail
      have e0:=st aHz HX B0;refine(nx B0 (kO _ _ n a m b e0.o)).mono ?_;rintro e w15 ⟨⟨B18,z18,L0⟩,rfl⟩;clear l0;rw[HS.o];have b0:=aEd Lq B18.o;have p0:=cz4 b0;go_wp2;clear p0;go_ret;exact⟨L0.o,by unfold eC qv;rw[HS.o,aEj h4,← H5.o];rfl⟩
theorem iG (w:World) (A:Option Addr) (n c:Nat) (l:List QX) (h:QS w w.heap.size (.slice A n c) l) :
    CV 43 #[.slice A n c] w fun e _=>e=.returned (.bool (dC l)):=by
  obtain⟨rfl,hn1,hn2⟩:=aHb h;have HQ:=zz h;clear h;have b0:=zz (aDy w.heap.size w);go_enter Tryz.func43,Tryz.ntmps43
  go_wp2;go_loopw [3] (fun iv wr=>∃ j:Nat,j≤l.length∧j≤13∧iv=.int .i64 j∧Hi ((l.take j).all eC=true)∧Hi (Below w.heap.size w wr)) (fun iv _=>l.length-(intOf iv).toNat)
  case atStart=>exact⟨0,aEy _,by omega,rfl,zz rfl,b0⟩
  case round=>
    obtain⟨j,hj,hj2,rfl,HP,HW⟩:=hrel;have zr:=HW.o.size;by_cases hlt:j<l.length∧j≤12
    case pos=>
      obtain⟨hlt,h12⟩:=hlt;have h12':(j:Int)≤12:=by omega
      have hlt':(j:Int)<(l.length:Int):=by omega
      have hji:(0:Int)≤(j:Int)∧(j:Int)<(l.length:Int):=by omega
      obtain⟨g,off,xA,xl,xc,xB,xu,xd,rfl,hg,hE,hx⟩:=aKm HQ.o (j:=j) hlt;replace hE:=hE.step HW.o;have hx2:=aHz hx HW.o;clear hx hg;obtain⟨⟨⟨xn,xa⟩,xm,xb⟩,hxj⟩:∃ x,x=l[j]:=⟨_,rfl⟩;rw[← hxj] at hE hx2;simp only at hE hx2;have f0:=zz hxj;clear hxj;have HX:=zz hx2;clear hx2;have q0:=ez4 hE;have HE:=zz hE;clear hE;go_wp2_with fail
      refine(KR _ _ _ _ _ _ _ xn xm xa xb HX.o).mono ?_;rintro e w1 ⟨hb,rfl⟩;have a0:=zz (HW.o.trans (hb.mono HW.o.size));have z1:=hb.size;clear hb q0;have ht:l.take (j+1)=l.take j++[((xn,xa),(xm,xb))]:=by rw[aFj,aEh hlt,f0.o];rfl
      cases hp:eC ((xn,xa),(xm,xb))
      case false=>
        have HF:=zz (show dC l=false by unfold dC;rw[List.all_eq_false.2 ⟨_,aEc hlt,by rw[← f0.o,hp];decide⟩,aMo]);clear ht hp;go_wp2;go_ret;exact⟨a0.o,by rw[HF.o];rfl⟩
      case true=>
        have HT:=zz (show(l.take (j+1)).all eC=true by rw[ht,List.all_append,HP.o];simp[hp]);clear ht hp;go_wp2;go_roundw
        case rel=>exact⟨j+1,hlt,by omega,by go_num,HT,a0⟩
        case measure=>exact ms
    case neg=>
      by_cases h0:1≤l.length
      case neg=>
        have hl0:l.length=0:=by omega
        have hj0:j=0:=by omega
        subst hj0;have HR:=zz (show dC l=false by unfold dC;rw[aEe h0];rfl);rw[hl0];clear hlt;go_wp2;go_ret;exact⟨HW.o,by rw[HR.o];rfl⟩
      case pos=>
        have h0':(1:Int)≤(l.length:Int):=by omega
        have HR:=zz (show dC l=decide ((l.length:Int)≤12) by
          unfold dC;rw[aEj h0,Bool.true_and];by_cases h12:l.length≤12
          · have hjl:j=l.length:=by omega
            have hp:=HP.o;rw[hjl,aFe] at hp;rw[hp,Bool.and_true,aIu];omega
          · rw[aEe h12,Bool.false_and,aEe (by omega)])
        by_cases hl:j<l.length
        case pos=>
          have hl':(j:Int)<(l.length:Int):=by omega
          have h13:¬ (j:Int)≤12:=by omega
          go_wp2;go_ret;exact⟨HW.o,by rw[HR.o];rfl⟩
        case neg=>
          have hl':¬ (j:Int)<(l.length:Int):=by omega
          go_wp2;go_ret;exact⟨HW.o,by rw[HR.o];rfl⟩
theorem eX (w:World) (A:Option Addr) (n c:Nat) (M:List (List QX)) (h:QM w w.heap.size (.slice A n c) M) :
    CV 42 #[.slice A n c] w fun e _=>e=.returned (.bool (eA M)):=by
  obtain⟨rfl,hn1,hn2⟩:=aHb h;have HQ:=zz h;clear h;have hok:eA M=((decide (1≤M.length)&&decide (M.length≤12))&&M.all (pG M)):=rfl;have HO:=zz hok;clear hok;have f0:=zz (aDy w.heap.size w);go_enter Tryz.func42,Tryz.ntmps42
  go_wp2;go_loopw [3] (fun iv wr=>∃ j:Nat,j≤M.length∧j≤13∧iv=.int .i64 j∧Hi ((M.take j).all (pG M)=true)∧Hi (Below w.heap.size w wr)) (fun iv _=>M.length-(intOf iv).toNat)
  case atStart=>exact⟨0,aEy _,by omega,rfl,zz rfl,f0⟩
  case round=>
    obtain⟨j,hj,hj2,rfl,HP,HW⟩:=hrel;have zr:=HW.o.size;by_cases hlt:j<M.length∧j≤12
    case pos=>
      obtain⟨hlt,h12⟩:=hlt;have h12':(j:Int)≤12:=by omega
      have hlt':(j:Int)<(M.length:Int):=by omega
      have hji:(0:Int)≤(j:Int)∧(j:Int)<(M.length:Int):=by omega
      have hM:0<M.length:=by omega
      have hM':(0:Int)<(M.length:Int):=by omega
      obtain⟨g0,off0,A0,c0,rfl,hg0,hc0,-⟩:=aKy HQ.o hM;rw[aGd] at hc0;obtain⟨g,off,A',c',hA,hg,hcell,hrow⟩:=aKy HQ.o hlt;obtain⟨rfl,rfl⟩:g0=g∧off0=off:=by injection hA with hA;injection hA with h1 h2;exact⟨h1,h2⟩
      have hc0:=(HW.o.cell (p:=⟨g0,off0,none⟩) hg).trans hc0;have hcell:=(HW.o.cell (p:=⟨g0,off0+j,none⟩) hg).trans hcell;have B0:=zz (hrow.step aEf HW.o);have v0:=zz (aEt hg HW.o.size);clear hrow hA hg hg0;have hall:(M.take (j+1)).all (pG M)=pG M M[j]:=by rw[aFj,aEh hlt,List.all_append,HP.o];simp
      have hfin:pG M M[j]=false→eA M=false:=fun hr=>by rw[HO.o,List.all_eq_false.2 ⟨_,aEc hlt,by rw[hr];decide⟩,aMo]
      have hrx:pG M M[j]=((decide (M[j].length≤6)&&decide (M[j].length=M[0].length))&&dC M[j]):=by unfold pG;rw[aG hM]
      have G0:=zz hall;have z0:=zz hfin;have y0:=zz hrx;clear hall hfin hrx;generalize hU:M[j].length=u at hcell B0 y0;generalize hV:M[0].length=v at hc0 y0;have HU:=zz hU;have HV:=zz hV;clear hU hV;have C0:=zz hc0;have w0:=zz hcell;clear hc0 hcell;go_upto_region 4 with (fail)
      by_cases h6:6<u
      case pos=>
        have h6':6<(u:Int):=by omega
        refine aFq [se 0 14 [] (.slice (some ⟨g0,off0,none⟩) M.length c),se 1 15 [] (.int .i64 (j:Int)),se 2 16 [0,1] (.pointer (some ⟨g0,off0+j,none⟩)),se 3 17 [2] (.slice A' u c'),se 4 18 [3] (.int .i64 (u:Int)),se 5 19 [4] (.bool true),se 6 20 [5] (.bool true),se 7 21 [6] undef,se 8 22 [6] undef,se 9 23 [6] undef,se 10 24 [6] undef,se 11 25 [6] undef,se 12 26 [6] undef,se 13 27 [6] undef,se 14 28 [6] undef,se 15 29 [6] undef,se 16 30 [6] undef,se 17 31 [6] (.bool true),se 18 32 [17] (.bool true),se 19 33 [18] undef,se 20 34 [18] undef,se 21 35 [18] undef,se 22 36 [18] undef,se 23 37 [18] undef,se 24 38 [18] undef,se 25 39 [18] (.bool true)] 0 S0 aFi ?_ ?_
        · intro xs a_ hA;simp only[SX,↓reduceIte,Nat.reduceEqDiff,Nat.reduceAdd] at hA⊢;subst hA;and_intros
          all_goals intro wk b_ z_
          any_goals (intro f2;intros;(refine aDz (i:=3) (o:=_) rfl (fun K hK=>?_));have qv0:=(aGn b_.o (p:=⟨g0,off0+j,none⟩) v0.o).trans w0.o;go_simp;(refine hK _ _ ⟨_,by simp only[FL,f2] <;> kernel_rfl,aDy _ _,rfl⟩))
          all_goals try exact pl
        · intro xs N0 hbf _;simp only[SY]
          have B2:=hbf;have z2:=B2.o.size;have i0:=tr HW B2;clear hbf;refine ED ?_;(try simp only[Exit.then])
          go_wp2;go_ret;exact⟨i0.o,by rw[z0.o (by rw[y0.o,aEe (by omega)];rfl)];rfl⟩
      case neg=>
        have h6':¬ 6<(u:Int):=by omega
        by_cases he:u=v
        case neg=>
          have he':((u:Int) != (v:Int))=true:=by rw[aJg];omega
          refine aFq [se 0 14 [] (.slice (some ⟨g0,off0,none⟩) M.length c),se 1 15 [] (.int .i64 (j:Int)),se 2 16 [0,1] (.pointer (some ⟨g0,off0+j,none⟩)),se 3 17 [2] (.slice A' u c'),se 4 18 [3] (.int .i64 (u:Int)),se 5 19 [4] (.bool false),se 6 20 [5] (.bool false),se 7 21 [6] (.slice (some ⟨g0,off0,none⟩) M.length c),se 8 22 [6] (.int .i64 (j:Int)),se 9 23 [6,7,8] (.pointer (some ⟨g0,off0+j,none⟩)),se 10 24 [6,9] (.slice A' u c'),se 11 25 [6,10] (.int .i64 (u:Int)),se 12 26 [6] (.slice (some ⟨g0,off0,none⟩) M.length c),se 13 27 [6,12] (.pointer (some ⟨g0,off0,none⟩)),se 14 28 [6,13] (.slice A0 v c0),se 15 29 [6,14] (.int .i64 (v:Int)),se 16 30 [6,11,15] (.bool true),se 17 31 [6,16] (.bool true),se 18 32 [17] (.bool true),se 19 33 [18] undef,se 20 34 [18] undef,se 21 35 [18] undef,se 22 36 [18] undef,se 23 37 [18] undef,se 24 38 [18] undef,se 25 39 [18] (.bool true)] 0 S0 aFi ?_ ?_
          · intro xs a_ hA;simp only[SX,↓reduceIte,Nat.reduceEqDiff,Nat.reduceAdd] at hA⊢;subst hA;and_intros
            all_goals intro wk b_ z_
            any_goals (intro f2;intros;(refine aDz (i:=3) (o:=_) rfl (fun K hK=>?_));have qv0:=(aGn b_.o (p:=⟨g0,off0+j,none⟩) v0.o).trans w0.o;go_simp;(refine hK _ _ ⟨_,by simp only[FL,f2] <;> kernel_rfl,aDy _ _,rfl⟩))
            any_goals (intro f6 f9;intros;refine aDz (i:=10) (o:=?go4) ?s0 ?gh4;(case s0=>exact rfl);intro K hK;have qv0:=(aGn b_.o (p:=⟨g0,off0+j,none⟩) v0.o).trans w0.o;go_simp;(refine hK _ _ ⟨_,by simp only[FL,f6,f9] <;> kernel_rfl,aDy _ _,rfl⟩))
            any_goals (intro f6 f13;intros;refine aDz (i:=14) (o:=?go5) ?t0 ?gh5;(case t0=>exact rfl);intro K hK;have qv0:=(aGn b_.o (p:=⟨g0,off0,none⟩) v0.o).trans C0.o;go_simp;(refine hK _ _ ⟨_,by simp only[FL,f6,f13] <;> kernel_rfl,aDy _ _,rfl⟩))
            all_goals try exact pl
          · intro xs O0 hbf _;simp only[SY]
            have B7:=hbf;have z7:=B7.o.size;have j0:=tr HW B7;clear hbf;refine ED ?_;(try simp only[Exit.then])
            go_wp2;go_ret;exact⟨j0.o,by rw[z0.o (by rw[y0.o,aEe he,aMo];rfl)];rfl⟩
        case pos=>
          have he':((u:Int) != (v:Int))=false:=by rw[aJh];omega
          have J0:=zz he;have K0:=zz (show u≤6 by omega);clear he h6;cases hl:dC M[j]
          case false=>
            have HL:=zz hl;clear hl;refine aFq [se 0 14 [] (.slice (some ⟨g0,off0,none⟩) M.length c),se 1 15 [] (.int .i64 (j:Int)),se 2 16 [0,1] (.pointer (some ⟨g0,off0+j,none⟩)),se 3 17 [2] (.slice A' u c'),se 4 18 [3] (.int .i64 (u:Int)),se 5 19 [4] (.bool false),se 6 20 [5] (.bool false),se 7 21 [6] (.slice (some ⟨g0,off0,none⟩) M.length c),se 8 22 [6] (.int .i64 (j:Int)),se 9 23 [6,7,8] (.pointer (some ⟨g0,off0+j,none⟩)),se 10 24 [6,9] (.slice A' u c'),se 11 25 [6,10] (.int .i64 (u:Int)),se 12 26 [6] (.slice (some ⟨g0,off0,none⟩) M.length c),se 13 27 [6,12] (.pointer (some ⟨g0,off0,none⟩)),se 14 28 [6,13] (.slice A0 v c0),se 15 29 [6,14] (.int .i64 (v:Int)),se 16 30 [6,11,15] (.bool false),se 17 31 [6,16] (.bool false),se 18 32 [17] (.bool false),se 19 33 [18] (.slice (some ⟨g0,off0,none⟩) M.length c),se 20 34 [18] (.int .i64 (j:Int)),se 21 35 [18,19,20] (.pointer (some ⟨g0,off0+j,none⟩)),se 22 36 [18,21] (.slice A' u c'),se 23 37 [18,22] (.bool false),se 24 38 [18,23] (.bool true),se 25 39 [18,24] (.bool true)] 0 S0 aFi ?_ ?_
            · intro xs a_ hA;simp only[SX,↓reduceIte,Nat.reduceEqDiff,Nat.reduceAdd] at hA⊢;subst hA;and_intros
              all_goals intro wk b_ z_
              any_goals (intro f2;intros;(refine aDz (i:=3) (o:=_) rfl (fun K hK=>?_));have qv0:=(aGn b_.o (p:=⟨g0,off0+j,none⟩) v0.o).trans w0.o;go_simp;(refine hK _ _ ⟨_,by simp only[FL,f2] <;> kernel_rfl,aDy _ _,rfl⟩))
              any_goals (intro f6 f9;intros;refine aDz (i:=10) (o:=?go9) ?u0 ?gh9;(case u0=>exact rfl);intro K hK;have qv0:=(aGn b_.o (p:=⟨g0,off0+j,none⟩) v0.o).trans w0.o;go_simp;(refine hK _ _ ⟨_,by simp only[FL,f6,f9] <;> kernel_rfl,aDy _ _,rfl⟩))
              any_goals (intro f6 f13;intros;refine aDz (i:=14) (o:=?go10) ?k0 ?gh10;(case k0=>exact rfl);intro K hK;have qv0:=(aGn b_.o (p:=⟨g0,off0,none⟩) v0.o).trans C0.o;go_simp;(refine hK _ _ ⟨_,by simp only[FL,f6,f13] <;> kernel_rfl,aDy _ _,rfl⟩))
              any_goals (intro f18 f21;intros;refine aDz (i:=22) (o:=?go11) ?l0 ?gh11;(case l0=>exact rfl);intro K hK;have qv0:=(aGn b_.o (p:=⟨g0,off0+j,none⟩) v0.o).trans w0.o;go_simp;(refine hK _ _ ⟨_,by simp only[FL,f18,f21] <;> kernel_rfl,aDy _ _,rfl⟩))
              all_goals try exact pl
              · intro f18 f22;intros
                refine aDz (o:=?_) ?m0 ?_
                case m0=>exact rfl
                intro K hK;go_simp;(with_reducible refine((show Calls Tryz.prog _ _ _ _ from HL.o▸iG _ A' u c' M[j] (B0.o.step aEf b_.o))).mono ?_)
                rintro e wc13 ⟨a0,rfl⟩;refine hK _ _ ⟨_,by simp only[FL,f18,f22] <;> kernel_rfl,a0,rfl⟩
            · intro xs L0 hbf _;simp only[SY]
              have B15:=hbf;have z15:=B15.o.size;have b0:=tr HW B15;clear hbf;refine ED ?_;(try simp only[Exit.then])
              go_wp2;go_ret;exact⟨b0.o,by rw[z0.o (by rw[y0.o,HL.o,aMo])];rfl⟩
          case true=>
            have HL:=zz hl;clear hl;refine aFq [se 0 14 [] (.slice (some ⟨g0,off0,none⟩) M.length c),se 1 15 [] (.int .i64 (j:Int)),se 2 16 [0,1] (.pointer (some ⟨g0,off0+j,none⟩)),se 3 17 [2] (.slice A' u c'),se 4 18 [3] (.int .i64 (u:Int)),se 5 19 [4] (.bool false),se 6 20 [5] (.bool false),se 7 21 [6] (.slice (some ⟨g0,off0,none⟩) M.length c),se 8 22 [6] (.int .i64 (j:Int)),se 9 23 [6,7,8] (.pointer (some ⟨g0,off0+j,none⟩)),se 10 24 [6,9] (.slice A' u c'),se 11 25 [6,10] (.int .i64 (u:Int)),se 12 26 [6] (.slice (some ⟨g0,off0,none⟩) M.length c),se 13 27 [6,12] (.pointer (some ⟨g0,off0,none⟩)),se 14 28 [6,13] (.slice A0 v c0),se 15 29 [6,14] (.int .i64 (v:Int)),se 16 30 [6,11,15] (.bool false),se 17 31 [6,16] (.bool false),se 18 32 [17] (.bool false),se 19 33 [18] (.slice (some ⟨g0,off0,none⟩) M.length c),se 20 34 [18] (.int .i64 (j:Int)),se 21 35 [18,19,20] (.pointer (some ⟨g0,off0+j,none⟩)),se 22 36 [18,21] (.slice A' u c'),se 23 37 [18,22] (.bool true),se 24 38 [18,23] (.bool false),se 25 39 [18,24] (.bool false)] 0 S0 aFi ?_ ?_
            · intro xs a_ hA;simp only[SX,↓reduceIte,Nat.reduceEqDiff,Nat.reduceAdd] at hA⊢;subst hA;and_intros
              all_goals intro wk b_ z_
              any_goals (intro f2;intros;(refine aDz (i:=3) (o:=_) rfl (fun K hK=>?_));have qv0:=(aGn b_.o (p:=⟨g0,off0+j,none⟩) v0.o).trans w0.o;go_simp;(refine hK _ _ ⟨_,by simp only[FL,f2] <;> kernel_rfl,aDy _ _,rfl⟩))
              any_goals (intro f6 f9;intros;refine aDz (i:=10) (o:=?go17) ?n0 ?gh17;(case n0=>exact rfl);intro K hK;have qv0:=(aGn b_.o (p:=⟨g0,off0+j,none⟩) v0.o).trans w0.o;go_simp;(refine hK _ _ ⟨_,by simp only[FL,f6,f9] <;> kernel_rfl,aDy _ _,rfl⟩))
              any_goals (intro f6 f13;intros;refine aDz (i:=14) (o:=?go18) ?o0 ?gh18;(case o0=>exact rfl);intro K hK;have qv0:=(aGn b_.o (p:=⟨g0,off0,none⟩) v0.o).trans C0.o;go_simp;(refine hK _ _ ⟨_,by simp only[FL,f6,f13] <;> kernel_rfl,aDy _ _,rfl⟩))
              any_goals (intro f18 f21;intros;refine aDz (i:=22) (o:=?go19) ?p0 ?gh19;(case p0=>exact rfl);intro K hK;have qv0:=(aGn b_.o (p:=⟨g0,off0+j,none⟩) v0.o).trans w0.o;go_simp;(refine hK _ _ ⟨_,by simp only[FL,f18,f21] <;> kernel_rfl,aDy _ _,rfl⟩))
              all_goals try exact pl
              · intro f18 f22;intros
                refine aDz (o:=?_) ?q0 ?_
                case q0=>exact rfl
                intro K hK;go_simp;(with_reducible refine((show Calls Tryz.prog _ _ _ _ from HL.o▸iG _ A' u c' M[j] (B0.o.step aEf b_.o))).mono ?_)
                rintro e wc21 ⟨d0,rfl⟩;refine hK _ _ ⟨_,by simp only[FL,f18,f22] <;> kernel_rfl,d0,rfl⟩
            · intro xs M0 hbf _;simp only[SY]
              have B23:=hbf;have z23:=B23.o.size;have e0:=tr HW B23;clear hbf;refine ED ?_;(try simp only[Exit.then])
              go_wp2;go_roundw
              case rel=>exact⟨j+1,hlt,by omega,by go_num,zz (by rw[G0.o,y0.o,HL.o,aEj J0.o,aEj K0.o];rfl),e0⟩
              case measure=>exact ms
    case neg=>
      by_cases h0:1≤M.length
      case neg=>
        have hl0:M.length=0:=by omega
        have hj0:j=0:=by omega
        subst hj0;have HR:=zz (show eA M=false by rw[HO.o,aEe h0];rfl);rw[hl0];clear hlt;go_wp2;go_ret;exact⟨HW.o,by rw[HR.o];rfl⟩
      case pos=>
        have h0':(1:Int)≤(M.length:Int):=by omega
        have HR:=zz (show eA M=decide ((M.length:Int)≤12) by
          rw[HO.o,aEj h0,Bool.true_and];by_cases h12:M.length≤12
          · have hjl:j=M.length:=by omega
            have hp:=HP.o;rw[hjl,aFe] at hp;rw[hp,Bool.and_true,aIu];omega
          · rw[aEe h12,Bool.false_and,aEe (by omega)])
        by_cases hl:j<M.length
        case pos=>
          have hl':(j:Int)<(M.length:Int):=by omega
          have h13:¬ (j:Int)≤12:=by omega
          go_wp2;go_ret;exact⟨HW.o,by rw[HR.o];rfl⟩
        case neg=>
          have hl':¬ (j:Int)<(M.length:Int):=by omega
          go_wp2;go_ret;exact⟨HW.o,by rw[HR.o];rfl⟩
theorem aBu (w:World) (A:Option Addr) (n c:Nat) (M:List (List QX)) (h:QM w w.heap.size (.slice A n c) M) :
    CV 14 #[.slice A n c] w fun e _=>e=.returned (.int .i64 (bD (eA M))):=by
  have HQ:=zz h;clear h;go_enter Tryz.func14,Tryz.ntmps14
  go_wp2_with fail
  refine(eX _ A n c M HQ.o).mono ?_;rintro e w1 ⟨hb,rfl⟩;have HB:=zz hb;clear hb;cases hk:eA M
  case false=>have HK:=zz hk;clear hk;go_wp2;go_ret;exact⟨HB.o,by rw[HK.o];rfl⟩
  case true=>have HK:=zz hk;clear hk;go_wp2;go_ret;exact⟨HB.o,by rw[HK.o];rfl⟩
theorem sN (w:World) (A:Option Addr) (n c:Nat) (l:List Rat) (h:QS w w.heap.size (.slice A n c) (l.map qx)) :
    CV 45 #[.slice A n c] w fun e w'=>mS w' (fO l) e:=by
  obtain⟨hn,hn1,hn2⟩:=aHb h;rw[aEb] at hn;subst hn;have HQ:=zz h;clear h;have a0:=zz (aDy w.heap.size w);go_enter Tryz.func45,Tryz.ntmps45
  go_wp2;go_loopw [4] (fun iv wr=>∃ j:Nat,j≤l.length∧iv=.int .i64 j∧Hi (∀ q∈l.take j,eS q)∧Hi (Below w.heap.size w wr)) (fun iv _=>l.length-(intOf iv).toNat)
  case atStart=>exact⟨0,aEy _,rfl,zz (fun q h=>by simp at h),a0⟩
  case round=>
    obtain⟨j,hj,rfl,HP,HW⟩:=hrel;have zr:=HW.o.size;by_cases hlt:j<l.length
    case pos=>
      have hlt':(j:Int)<(l.length:Int):=by omega
      have hji:(0:Int)≤(j:Int)∧(j:Int)<(l.length:Int):=by omega
      obtain⟨g,off,xA,xl,xc,xB,xu,xd,rfl,hg,hE,hx⟩:=aKm HQ.o (j:=j) (by simpa using hlt);replace hE:=hE.step HW.o;simp only[aGm] at hE hx;clear hg;have hxl:=QR.lens hx;clear hx;have ht:l.take (j+1)=l.take j++[l[j]]:=by rw[aFj,aEh hlt];rfl
      have hm:l[j]∈l:=aEc hlt;generalize l[j]=q at hE hxl ht hm;have HT:=zz ht;have HM:=zz hm;clear ht hm;rw[show(qx q).1.2.length=(dig q.num.natAbs).length from aC _,show(qx q).2.2.length=(dig q.den).length from aC _] at hxl;obtain⟨rfl,rfl⟩:=hxl;have q0:=ez4 hE;clear hE;by_cases h1:600<(dig q.num.natAbs).length
      case pos=>
        have HR:=zz (show fO l=(none,6) from aEu (fun h=>by have h1:=h q HM.o;unfold eS at h1;omega));generalize (dig q.num.natAbs).length=a at *;have h1':600<(a:Int):=by omega
        go_wp2;go_ret2;exact⟨HW.o,by rw[HR.o];exact⟨_,rfl,rfl⟩⟩
      case neg=>
        by_cases h2:600<(dig q.den).length
        case pos=>
          have HR:=zz (show fO l=(none,6) from aEu (fun h=>by have h1:=h q HM.o;unfold eS at h1;omega));generalize (dig q.num.natAbs).length=a at *;generalize (dig q.den).length=d at *;have h1':¬ 600<(a:Int):=by omega
          have h2':600<(d:Int):=by omega
          go_wp2;go_ret2;exact⟨HW.o,by rw[HR.o];exact⟨_,rfl,rfl⟩⟩
        case neg=>
          have h0:=zz (show ∀ q∈l.take (j+1),eS q from fun r h=>by rw[HT.o] at h;rcases aGb.1 h with h | h;exact HP.o r h;rw[aHt.1 h];exact⟨by omega,by omega⟩);generalize (dig q.num.natAbs).length=a at *;generalize (dig q.den).length=d at *;have h1':¬ 600<(a:Int):=by omega
          have h2':¬ 600<(d:Int):=by omega
          go_wp2;go_roundw
          case rel=>exact⟨j+1,hlt,by go_num,h0,HW⟩
          case measure=>exact ms
    case neg=>
      obtain rfl:j=l.length:=by omega
      rw[aFe] at HP;have hlt':¬ (l.length:Int)<(l.length:Int):=by omega
      have HR:=zz (show fO l=(some l,0) from aEv HP.o);go_wp2;go_ret2;exact⟨HW.o,by rw[HR.o];exact⟨_,rfl,HQ.o.step aEf HW.o⟩⟩
theorem wE (w:World) (n:Int) (h0:-9223372036854775808≤n) (h1:n≤9223372036854775807) :
    CV 79 #[.int .i64 n] w fun e w'=>∃ v,e=.returned v∧QV w' w'.heap.size v (mkRat n 1):=by
  obtain⟨w0,hw0⟩:=ex (w.alloc (.cells #[.bool false,.slice none 0 0,.bool false,.slice none 0 0] 28));have B0:=zz (cK hw0);have z0:=cJ hw0;have Lr2:=cL hw0;go_enter Tryz.func79,Tryz.ntmps79
  go_upto_region 1 with (fail)
  rw[← hw0];clear hw0;go_wp2_with fail
  refine(nx B0 (gL _ n h0 h1)).mono ?_;rintro e w1 ⟨⟨B2,z2,v0⟩,v,rfl,hv⟩;obtain⟨n4,D0,l4,c4,rfl,p0⟩:=hv.opened;have s0:=zz p0;clear hv p0;go_wp2_with fail
  refine(nx v0 (gL _ 1 (by decide) (by decide))).mono ?_;rintro e w5 ⟨⟨B6,z6,x0⟩,v,rfl,hv⟩;obtain⟨n8,E0,l8,c8,rfl,r0⟩:=hv.opened;have t0:=zz r0;clear hv r0;have u0:=st aFu s0 B6;have HQ:=zz (QV.of (d:=1) u0.o t0.o (by decide) (Nat.gcd_one_right _));have P0:=tr B2 B6;have a0:=aEd Lr2 P0.o;have d0:=cz4 a0;have i0:=fz4 a0;go_wp2;clear d0 i0;obtain⟨w14,b0⟩:=ex ((((w5.setCell ⟨w.heap.size,0,none⟩ (.bool n4)).setCell ⟨w.heap.size,1,none⟩ (.slice D0 l4 c4)).setCell ⟨w.heap.size,2,none⟩ (.bool n8)).setCell ⟨w.heap.size,3,none⟩ (.slice E0 l8 c8));rw[← b0];have S14:=zz (oU b0 a0 (by simp[aF,aE]));have c0:=oV b0 a0;have m0:=zz (oW b0 x0.o (by omega));have y0:=oT b0;clear b0;have n0:=zz (aKv HQ.o (S14.o));exact aFv (aMw rfl _ c0 rfl) rfl ⟨m0.o,_,rfl,n0.o⟩
theorem kR (w:World) (A B:Option Addr) (n c m d:Nat) (r s:List Rat) (hr:QS w w.heap.size (.slice A n c) (r.map qx)) (hs:QS w w.heap.size (.slice B m d) (s.map qx)) (hd:DotOK r s) :
    CV 81 #[.slice A n c,.slice B m d] w fun e w'=>∃ v,e=.returned v∧QV w' w'.heap.size v (bK r s):=by
  obtain⟨hn,hn1,hn2⟩:=aHb hr;rw[aEb] at hn;subst hn;obtain⟨hm,hm1,hm2⟩:=aHb hs;rw[aEb] at hm;subst hm;have K1:=zz hr;have L1:=zz hs;have hle:=hd.1;have HL:=zz hd.2;clear hr hs hd;obtain⟨w0,hw0⟩:=ex (w.alloc (.cells #[.bool false,.slice none 0 0,.bool false,.slice none 0 0] 28));have B0:=zz (cK hw0);have z0:=cJ hw0;have Lr4:=cL hw0;go_enter Tryz.func81,Tryz.ntmps81
  go_upto_region 1 with (fail)
  rw[← hw0];clear hw0;go_wp2_with fail
  refine(nx B0 (wE _ 0 (by decide) (by decide))).mono ?_;rintro e w1 ⟨⟨B2,z2,i1⟩,v,rfl,hv⟩;obtain⟨q1,r1,s1,t1,u1,g0,v1,rfl,ha4,Z0,hc4⟩:=hv;have a1:=zz (show QV w1 w1.heap.size (.agg #[.bool q1,.slice r1 s1 t1,.bool false,.slice u1 g0 v1]) (mkRat 0 1) from⟨_,_,_,_,_,_,_,rfl,ha4,Z0,hc4⟩);clear ha4 Z0 hc4;have H0:=zz (show QV w1 w1.heap.size (.agg #[.bool q1,.slice r1 s1 t1,.bool false,.slice u1 g0 v1]) (aJ r s 0) from a1.o);go_upto_region 2 with (fail)
  obtain⟨w5,e0⟩:=ex (w1.alloc (.cells #[.bool q1,.slice r1 s1 t1,.bool false,.slice u1 g0 v1] 28));rw[← e0];have l0:=cL e0;have za5:=cJ e0;have B6:=zz (cK e0);have z6:=B6.o.size;have j1:=tr i1 B6;clear e0;have x1:=zz (show w.heap.size<w1.heap.size by omega);have q0:=st aHf H0 B6;have W1:=tr B2 B6;have s0:=aEd Lr4 W1.o;go_wp2;go_loopw [6] (fun iv wr=>∃ (j:Nat) (on:Bool) (oA:Option Addr) (ol oc:Nat) (om_:Bool) (oB:Option Addr) (ou od:Nat),j≤r.length∧iv=.int .i64 j∧Hi (CB wr w1.heap.size 28 #[.bool on,.slice oA ol oc,.bool om_,.slice oB ou od])∧Hi (QV wr wr.heap.size (.agg #[.bool on,.slice oA ol oc,.bool om_,.slice oB ou od]) (aJ r s j))∧Hi (CB wr w.heap.size 28 #[.bool false,.slice none 0 0,.bool false,.slice none 0 0])∧Hi (Below w.heap.size w wr)) (fun iv _=>r.length-(intOf iv).toNat)
  case atStart=>exact⟨0,_,_,_,_,_,_,_,_,aEy _,rfl,zz l0,zz q0.o,zz s0,j1⟩
  case round=>
    obtain⟨j,on,oA,ol,oc,om_,oB,ou,od,hj,rfl,HC,HV,HR,HW⟩:=hrel;have zr:=HW.o.size;by_cases hlt:j<r.length
    case pos=>
      have hlt':(j:Int)<(r.length:Int):=by omega
      obtain⟨g,off,xA,xl,xc,xB,xu,xd,rfl,hg,hE,hx⟩:=aKm K1.o (j:=j) (by simpa using hlt);obtain⟨g',off',yA,yl,yc,yB,yu,yd,rfl,hg',hE',hy⟩:=aKm L1.o (j:=j) (by simpa using aEt hlt hle);have hjs2:=aEt hlt hle;simp only[aGm] at hE hx hE' hy;rw[← aG (d:=0) hlt] at hE hx;rw[← aG (d:=0) hjs2] at hE' hy;replace hE:=hE.step HW.o;replace hE':=hE'.step HW.o;have HX:=zz (aHf (QR.qv hx) HW.o);have HY:=zz (aHf (QR.qv hy) HW.o);clear hx hy hg hg' hjs2;obtain⟨hq1,hq2,hq3,hq4⟩:=HL.o j hlt;have hdt:aJ r s (j+1)=aJ r s j+r.getD j 0*s.getD j 0:=rfl;obtain⟨x,hx⟩:=ex (r.getD j 0);obtain⟨y,hy⟩:=ex (s.getD j 0);rw[← hx,← hy] at hdt hq3;rw[← hx] at hq1 HX hE;rw[← hy] at hq2 HY hE';clear hx hy;have HQ:=zz (aEn hq1 (aEn hq2 (aEn hq3 hq4)));have P1:=zz hdt;clear hq1 hq2 hq3 hq4 hdt;have hji:(0:Int)≤(j:Int)∧(j:Int)<(r.length:Int):=(by omega);have hjs:(j:Int)<(s.length:Int):=(by omega);go_upto_region 5 with (fail)
      have zl1:=HC.o.lt;have zl2:=HR.o.lt;refine aFq [se 0 14 [] (.agg #[.bool on,.slice oA ol oc,.bool om_,.slice oB ou od]),se 1 15 [] (.slice (some ⟨g,off,none⟩) r.length c),se 2 16 [] (.int .i64 (j:Int)),se 3 17 [1,2] (.pointer (some ⟨g,off+j*4,none⟩)),se 4 18 [3] (.agg #[.bool (qx x).1.1,.slice xA xl xc,.bool (qx x).2.1,.slice xB xu xd]),se 5 19 [] (.slice (some ⟨g',off',none⟩) s.length d),se 6 20 [] (.int .i64 (j:Int)),se 7 21 [5,6] (.pointer (some ⟨g',off'+j*4,none⟩)),se 8 22 [7] (.agg #[.bool (qx y).1.1,.slice yA yl yc,.bool (qx y).2.1,.slice yB yu yd]),sf 9 23 [4,8] (fun fv fw=>QV fw fw.heap.size fv (x*y)),sf 10 24 [0,9] (fun fv fw=>QV fw fw.heap.size fv (aJ r s j+x*y))] 1 (SB HC.o (SC (fun _ h=>(aIg hE h).c0) (SC (fun _ h=>(aIg hE h).c1) (SC (fun _ h=>(aIg hE h).c2) (SC (fun _ h=>(aIg hE h).c3) (SC (fun _ h=>(aIg hE' h).c0) (SC (fun _ h=>(aIg hE' h).c1) (SC (fun _ h=>(aIg hE' h).c2) (SC (fun _ h=>(aIg hE' h).c3) S0))))))))) (MA (fun _ _ _ h hb=>h.step hb) (MA (fun _ _ _ h hb=>h.step hb) aFi)) ?_ ?_
      · intro xs a_ hA;simp only[SX,↓reduceIte,Nat.reduceEqDiff,Nat.reduceAdd] at hA⊢;subst hA;and_intros
        all_goals intro wk b_ z_
        all_goals try exact pl
        · intro f4 f8;intros
          refine wo fun K hK=>?_;go_simp;have t0:=st aHf HX b_;have u0:=st aHf HY b_;(with_reducible refine(xH _ _ _ x y t0.o u0.o HQ.o.1 HQ.o.2.1).mono ?_)
          rintro e wc13 ⟨b1,v13,rfl,d1⟩;refine hK _ _ ⟨v13,by simp only[FL,f4,f8] <;> kernel_rfl,b1,d1⟩
        · intro f0 f9;intros
          refine wo fun K hK=>?_;go_simp;have i0:=st aHf HV b_;(with_reducible refine(tH _ _ _ (aJ r s j) (x*y) i0.o f9 HQ.o.2.2.2 HQ.o.2.2.1).mono ?_)
          rintro e wc15 ⟨e1,v15,rfl,f1⟩;refine hK _ _ ⟨v15,by simp only[FL,f0] <;> kernel_rfl,e1,f1⟩
      · intro xs p1 hbf _;simp only[SY]
        have B17:=hbf;have z17:=B17.o.size;have g1:=tr HW B17;clear hbf;generalize xs 9=x9,xs 10=x10;rintro f9 f10;clear f9;obtain⟨y1,z1,A1,B1,C1,h0,D1,rfl,ha19,m0,hc19⟩:=f10;have v0:=zz (show QV p1 p1.heap.size (.agg #[.bool y1,.slice z1 A1 B1,.bool false,.slice C1 h0 D1]) (aJ r s j+x*y) from⟨_,_,_,_,_,_,_,rfl,ha19,m0,hc19⟩);clear ha19 m0 hc19;have a0:=aEd HC.o B17.o;have x0:=cz4 a0;have D0:=fz4 a0;refine EN 11 rfl fun K hK=>?_;go_simp;refine hK _ _ ?_;clear hK K;(try simp only[PT])
        clear x0 D0;refine ED ?_;(try simp only[Exit.then])
        have n0:=aEd HR.o B17.o;obtain⟨w24,b0⟩:=ex ((((p1.setCell ⟨w1.heap.size,0,none⟩ (.bool y1)).setCell ⟨w1.heap.size,1,none⟩ (.slice z1 A1 B1)).setCell ⟨w1.heap.size,2,none⟩ (.bool false)).setCell ⟨w1.heap.size,3,none⟩ (.slice C1 h0 D1));rw[← b0];have S24:=zz (oU b0 a0 (by simp[aF,aE]));have o0:=rQ b0 n0 ((by have:=x1.o;omega));have j0:=oV b0 a0;have I0:=zz (oW b0 g1.o (by have:=x1.o;omega));have k1:=oT b0;clear b0;have J0:=zz (aKv v0.o (S24.o));go_wp2;go_roundw
        case rel=>exact⟨j+1,_,_,_,_,_,_,_,_,hlt,by go_num,zz j0,zz (by rw[P1.o];exact J0.o),zz o0,I0⟩
        case measure=>exact ms
    case neg=>
      obtain rfl:j=r.length:=by omega
      have hlt':¬ (r.length:Int)<(r.length:Int):=(by omega);have hob:=x1.o;have zl1:=HC.o.lt;have K0:=cz4 HC.o;have O0:=cz4 HR.o;have T0:=fz4 HR.o;go_wp2;clear K0 O0 T0;obtain⟨w29,d0⟩:=ex ((((wr.setCell ⟨w.heap.size,0,none⟩ (.bool on)).setCell ⟨w.heap.size,1,none⟩ (.slice oA ol oc)).setCell ⟨w.heap.size,2,none⟩ (.bool om_)).setCell ⟨w.heap.size,3,none⟩ (.slice oB ou od));rw[← d0];have S29:=zz (oU d0 HR.o (by simp[aF,aE]));have h1:=rQ d0 HC.o ((by omega));have p0:=oV d0 HR.o;have X0:=zz (oW d0 HW.o (by omega));have l1:=oT d0;clear d0;have k0:=zz (aKv HV.o (S29.o));exact aFv (aMw rfl _ p0 rfl) rfl ⟨X0.o,_,rfl,k0.o⟩
theorem nK (w:World) (A:Option Addr) (n c:Nat) (M:List (List Rat)) (m j:Nat) (h:QM w w.heap.size (.slice A n c) (M.map (List.map qx))) (hW:Wide M m) (hj:j<m) (hl:M.length≤3000000000) :
    CV 96 #[.slice A n c,.int .i64 (j:Int)] w fun e w'=>∃ v,e=.returned v∧QS w' w'.heap.size v ((dD M j).map qx):=by
  obtain⟨hn,hn1,hn2⟩:=aHb h;rw[aEb] at hn;subst hn;have HQ:=zz h;have i0:=zz hW;clear h hW;obtain⟨iq,hiq,hzq,hsq,hbq⟩:=aGf fH;have hmm:(M.length:Int)≤3000000000:=by omega
  have hcl:(dD M j).length=M.length:=by unfold dD;rw[aEb]
  have g0:=zz hcl;clear hcl;have e0:=zz (aDy w.heap.size w);go_enter Tryz.func96,Tryz.ntmps96
  go_wp2;go_loopw [5,6] (fun ov iv wr=>∃ i:Nat,i≤M.length∧iv=.int .i64 i∧Hi (OA 4 EQ 28 wr w.heap.size ov (((dD M j).take i).map qx))∧Hi (Below w.heap.size w wr)) (fun _ iv _=>M.length-(intOf iv).toNat)
  case atStart=>exact⟨0,aEy _,rfl,zz OA.nil,e0⟩
  case round=>
    obtain⟨i,hi,rfl,HO,HW⟩:=hrel;have zr:=HW.o.size;by_cases hlt:i<M.length
    case pos=>
      have hlt':(i:Int)<(M.length:Int):=by omega
      have hii:(0:Int)≤(i:Int)∧(i:Int)<(M.length:Int):=by omega
      obtain⟨g,off,A',c',rfl,hg,hcell,hrow⟩:=aKy HQ.o (j:=i) (by simpa using hlt);simp only[aGm,aEb] at hcell hrow
      have hrl:M[i].length=m:=i0.o _ (aEc hlt);have hat:(dD M j).take (i+1)=(dD M j).take i++[M[i].getD j 0]:=by rw[aFj,aEh (by rw[g0.o];exact hlt)];simp[dD]
      obtain⟨g',off',xA,xl,xc,xB,xu,xd,rfl,hg',hE,hx⟩:=aKm hrow (j:=j) (by rw[aEb,hrl];exact hj);simp only[aGm] at hE hx;rw[← aG (d:=0) (by rw[hrl];exact hj)] at hE hx;rw[hrl] at hcell;clear hrow hrl
      replace hE:=hE.step HW.o;replace hcell:=(HW.o.cell (p:=⟨g,off+i,none⟩) hg).trans hcell;have hx2:=aHz hx HW.o;clear hx hg hg';obtain⟨x,hx⟩:=ex (M[i].getD j 0);rw[← hx] at hE hx2 hat;have j0:=zz hat;clear hat hx;have a0:Below wr.heap.size wr (wr.alloc (.cells #[.bool (qx x).1.1,.slice xA xl xc,.bool (qx x).2.1,.slice xB xu xd] 28)):=aB (aDy _ _) _;have k0:=zz (aHl wr 28 #[.bool (qx x).1.1,.slice xA xl xc,.bool (qx x).2.1,.slice xB xu xd]);have l0:=zz (aHz hx2 a0);have m0:=zz (aNk HO.o aEf a0);have b0:=zz (HW.o.trans (a0.mono HW.o.size));clear a0 hx2;have q0:=ez4 hE;clear hE;have hji:(0:Int)≤(j:Int)∧(j:Int)<(m:Int):=by omega
      go_wp2_with (at_builtin;go_loud (refine aO rfl _ _ _ rfl w.heap.size 28 iq _ 64 Tryz.underlying23 hiq hzq hsq hbq rfl (by decide) (by decide) aEf aIz m0.o rfl ⟨wr.heap.size,0,none⟩ 1 [qx x] rfl Nat.one_pos [.bool (qx x).1.1,.slice xA xl xc,.bool (qx x).2.1,.slice xB xu xd] (aLt rfl ⟨_,_,_,_,rfl,l0.o⟩) (jP k0.o [_,_,_,_] rfl) (by intro u hu;simp at hu;rcases hu with rfl | rfl | rfl | rfl <;> rfl) (by simp only[aEb,aEk,aEl,aEm,maxLen];omega) (by simp only[aEb,aEk,aEl,aEm];omega) (by have:=b0.o.size;simpa using this) ?_))
      intro v9 w9 hoa hb hs' hg' hat';have n0:Hi (OA 4 EQ 28 w9 w.heap.size v9 (((dD M j).take (i+1)).map qx)):=zz (by rw[j0.o,aGc,List.map_take];exact hoa);have d0:=zz (b0.o.trans hb);clear hoa hb hs' hg' hat' q0 hcell;go_wp2;go_roundw
      case rel=>exact⟨i+1,hlt,by go_num,n0,d0⟩
      case measure=>exact ms
    case neg=>
      obtain rfl:i=M.length:=by omega
      rw[aFa (by rw[g0.o];exact aEa _)] at HO;have hlt':¬ (M.length:Int)<(M.length:Int):=by omega
      go_wp2;go_ret;exact⟨HW.o,_,rfl,HO.o.sl⟩
theorem IN (q r:Rat):Rat.divInt (q.num*(r.den:Int)) ((q.den:Int)*r.num)=q / r:=by
  rw[← Rat.divInt_mul_divInt,aMg,aKk,Rat.inv_def]
theorem aBy (w:World) (va vb:Value) (q r:Rat) (ha:QV w w.heap.size va q) (hb:QV w w.heap.size vb r) (h0:r≠0) (lq:QL 60000000 60000000 q) (lr:QL 60000000 60000000 r) :
    CV 124 #[va,vb] w fun e w'=>∃ v,e=.returned v∧QV w' w'.heap.size v (q / r):=by
  obtain⟨n,A,l,c,m,A',l',c',rfl⟩:=aMh (show QO w w.heap.size va (some q) from ha);obtain⟨n2,B,k,d,m2,B',k',d',rfl⟩:=aMh (show QO w w.heap.size vb (some r) from hb);obtain⟨p,hp⟩:=ex (q / r);rw[← hp];have HE:=zz hp;clear hp;have HD:=zz (show(q.den:Int)*r.num≠0 from Int.mul_ne_zero (aJz.2 q.den_nz) (fun e=>h0 (aMf.1 e)));unfold QL at lq lr;have hd1:(dig (q.den:Int).natAbs).length≤60000000:=lq.2;have hd2:(dig (r.den:Int).natAbs).length≤60000000:=lr.2;have HL:=zz (aEn lq.1 (aEn lq.2 (aEn lr.1 lr.2)));have W0:=zz (lW lq.1 hd2);have X0:=zz (lW hd1 lr.1);clear lq lr hd1 hd2 h0;have H1:=zz (QV.fst ha);have H2:=zz (QV.snd ha);have H3:=zz (QV.fst hb);have H4:=zz (QV.snd hb);clear ha hb;obtain⟨w0,hw0⟩:=ex (((w.alloc (.cells #[.bool n,.slice A l c,.bool m,.slice A' l' c'] 28)).alloc (.cells #[.bool n2,.slice B k d,.bool m2,.slice B' k' d'] 28)).alloc (.cells #[.bool false,.slice none 0 0,.bool false,.slice none 0 0] 28));have B0:=zz (rS hw0);have z0:=rR hw0;have La:=rX hw0;have Lb:=rW hw0;have Lr4:=rT hw0;replace H1:=st aFu H1 B0;replace H2:=st aFu H2 B0;replace H3:=st aFu H3 B0;replace H4:=st aFu H4 B0;go_enter Tryz.func124,Tryz.ntmps124
  go_upto_region 1 with (fail)
  rw[← hw0];clear hw0;have HV:=zz (show Rat.divInt (q.num*(r.den:Int)) ((q.den:Int)*r.num)=p from(IN q r).trans HE.o.symm);refine aFq [se 0 5 [] (.pointer (some ⟨w.heap.size,0,none⟩)),se 1 6 [0] (.agg #[.bool n,.slice A l c]),se 2 7 [] (.pointer (some ⟨w.heap.size+1,2,none⟩)),se 3 8 [2] (.agg #[.bool m2,.slice B' k' d']),sf 4 9 [1,3] (fun fv fw=>LV fw fw.heap.size fv (q.num*(r.den:Int))),se 5 10 [] (.pointer (some ⟨w.heap.size,2,none⟩)),se 6 11 [5] (.agg #[.bool m,.slice A' l' c']),se 7 12 [] (.pointer (some ⟨w.heap.size+1,0,none⟩)),se 8 13 [7] (.agg #[.bool n2,.slice B k d]),sf 9 14 [6,8] (fun fv fw=>LV fw fw.heap.size fv ((q.den:Int)*r.num)),sf 10 15 [4,9] (fun fv fw=>QV fw fw.heap.size fv p)] 1 (SB La (SC (v:=.bool m2) (fun _ h=>(aEd Lb h).cell 2 rfl) (SC (v:=.slice B' k' d') (fun _ h=>(aEd Lb h).cell 3 rfl) (SB Lb S0)))) (MA (fun _ _ _ h hb=>h.step hb) (MA (fun _ _ _ h hb=>h.step hb) (MA (fun _ _ _ h hb=>h.step hb) aFi))) ?_ ?_
  · intro xs a_ hA;simp only[SX,↓reduceIte,Nat.reduceEqDiff,Nat.reduceAdd] at hA⊢;subst hA;and_intros
    all_goals intro wk b_ z_
    all_goals try exact pl
    · intro f1 f3;intros
      refine wo fun K hK=>?_;go_simp;have i0:=st aFu H1 b_;have j0:=st aFu H4 b_;(with_reducible refine(iJ _ _ _ q.num (r.den:Int) i0.o j0.o (by have:=HL.o;omega) (by rw[aEr];have:=HL.o;omega)).mono ?_)
      rintro e wc3 ⟨C0,v3,rfl,D0⟩;refine hK _ _ ⟨v3,by simp only[FL,f1,f3] <;> kernel_rfl,C0,D0⟩
    · intro f6 f8;intros
      refine wo fun K hK=>?_;go_simp;have k0:=st aFu H2 b_;have l0:=st aFu H3 b_;(with_reducible refine(iJ _ _ _ (q.den:Int) r.num k0.o l0.o (by rw[aEr];have:=HL.o;omega) (by have:=HL.o;omega)).mono ?_)
      rintro e wc6 ⟨E0,v6,rfl,F0⟩;refine hK _ _ ⟨v6,by simp only[FL,f6,f8] <;> kernel_rfl,E0,F0⟩
    · intro f4 f9;intros
      refine wo fun K hK=>?_;go_simp;(with_reducible refine((show Calls Tryz.prog _ _ _ _ from HV.o▸fD _ _ _ (q.num*(r.den:Int)) ((q.den:Int)*r.num) f4 f9 HD.o (by have:=W0.o;omega) (by have:=X0.o;omega))).mono ?_)
      rintro e wc7 ⟨G0,v7,rfl,H0⟩;refine hK _ _ ⟨v7,by kernel_rfl,G0,H0⟩
  · intro xs L0 hbf _;simp only[SY]
    have B9:=hbf;have z9:=B9.o.size;have A0:=tr B0 B9;clear hbf;generalize xs 4=x4,xs 9=x9,xs 10=x10;rintro f4 f9 f10;clear f4;clear f9;obtain⟨M0,N0,O0,P0,Q0,c0,R0,rfl,ha11,f0,hc11⟩:=f10;have d0:=zz (show QV L0 L0.heap.size (.agg #[.bool M0,.slice N0 O0 P0,.bool false,.slice Q0 c0 R0]) p from⟨_,_,_,_,_,_,_,rfl,ha11,f0,hc11⟩);clear ha11 f0 hc11;have a0:=aEd Lr4 B9.o;have m0:=cz4 a0;have q0:=fz4 a0;refine EN 11 rfl fun K hK=>?_;go_simp;refine hK _ _ ?_;clear hK K;(try simp only[PT])
    clear m0 q0;have v0:=aEd La B9.o;have x0:=aEd Lb B9.o;obtain⟨w17,b0⟩:=ex ((((L0.setCell ⟨w.heap.size+2,0,none⟩ (.bool M0)).setCell ⟨w.heap.size+2,1,none⟩ (.slice N0 O0 P0)).setCell ⟨w.heap.size+2,2,none⟩ (.bool false)).setCell ⟨w.heap.size+2,3,none⟩ (.slice Q0 c0 R0));rw[← b0];have S17:=zz (oU b0 a0 (by simp[aF,aE]));have I0:=rQ b0 v0 (by omega);have J0:=rQ b0 x0 (by omega);have g0:=oV b0 a0;have y0:=zz (oW b0 A0.o (by omega));have K0:=oT b0;clear b0;refine ED ?_;(try simp only[Exit.then])
    go_wp2;have e0:=zz (aKv d0.o (S17.o));exact aFv (aMw rfl _ g0 rfl) rfl ⟨y0.o,_,rfl,e0.o⟩
theorem JE (w:World) (va:Value) (q:Rat) (ha:QV w w.heap.size va q) (lq:QL 300000000 300000000 q) :
    CV 80 #[va] w fun e w'=>∃ v,e=.returned v∧QV w' w'.heap.size v (-q):=by
  obtain⟨n,A,l,c,m,A',l',c',rfl⟩:=aMh (show QO w w.heap.size va (some q) from ha);unfold QL at lq;have HL:=zz lq.1;clear lq;have H1:=zz (QV.fst ha);have H2:=zz (QV.snd ha);clear ha;obtain⟨w0,hw0⟩:=ex ((w.alloc (.cells #[.bool n,.slice A l c,.bool m,.slice A' l' c'] 28)).alloc (.cells #[.bool false,.slice none 0 0,.bool false,.slice none 0 0] 28));have B0:=zz (pK hw0);have z0:=pJ hw0;have La:=pM hw0;have Lr2:=pL hw0;replace H1:=st aFu H1 B0;replace H2:=st aFu H2 B0;go_enter Tryz.func80,Tryz.ntmps80
  go_upto_region 1 with (fail)
  rw[← hw0];clear hw0;refine aFq [se 0 3 [] (.pointer (some ⟨w.heap.size,0,none⟩)),se 1 4 [0] (.agg #[.bool n,.slice A l c]),sf 2 5 [1] (fun fv fw=>LV fw fw.heap.size fv (-q.num)),se 3 6 [] (.pointer (some ⟨w.heap.size,2,none⟩)),se 4 7 [3] (.agg #[.bool m,.slice A' l' c']),sf 5 8 [2,4] (fun fv fw=>QV fw fw.heap.size fv (-q))] 1 (SB La S0) (MA (fun _ _ _ h hb=>h.step hb) (MA (fun _ _ _ h hb=>h.step hb) aFi)) ?_ ?_
  · intro xs a_ hA;simp only[SX,↓reduceIte,Nat.reduceEqDiff,Nat.reduceAdd] at hA⊢;subst hA;and_intros
    all_goals intro wk b_ z_
    all_goals try exact pl
    · intro f1;intros
      refine wo fun K hK=>?_;go_simp;have g0:=st aFu H1 b_;(with_reducible refine(jW _ _ q.num g0.o (aEg HL.o (by decide))).mono ?_)
      rintro e wc2 ⟨u0,v2,rfl,v0⟩;refine hK _ _ ⟨v2,by simp only[FL,f1] <;> kernel_rfl,u0,v0⟩
    · intro f2 f4;intros
      refine wo fun K hK=>?_;obtain⟨M0,N0,O0,P0,hx5,x0⟩:=LV.opened f2;rw[hx5];go_simp;have h0:=st aFu H2 b_;refine hK _ _ ⟨.agg #[.bool M0,.slice N0 O0 P0,.bool m,.slice A' l' c'],by simp only[FL,f4,hx5] <;> kernel_rfl,aDy _ _,QV.of2 (q:=-q) (by rw[Rat.neg_num];exact x0) (by rw[Rat.neg_den];exact h0.o)⟩
  · intro xs D0 hbf _;simp only[SY]
    have B5:=hbf;have z5:=B5.o.size;have y0:=tr B0 B5;clear hbf;generalize xs 2=x2,xs 5=x5;rintro f2 f5;clear f2;obtain⟨G0,H0,I0,J0,K0,d0,L0,rfl,ha7,o0,hc7⟩:=f5;have e0:=zz (show QV D0 D0.heap.size (.agg #[.bool G0,.slice H0 I0 J0,.bool false,.slice K0 d0 L0]) (-q) from⟨_,_,_,_,_,_,_,rfl,ha7,o0,hc7⟩);clear ha7 o0 hc7;have a0:=aEd Lr2 B5.o;have p0:=cz4 a0;have i0:=fz4 a0;refine EN 6 rfl fun K hK=>?_;go_simp;refine hK _ _ ?_;clear hK K;(try simp only[PT])
    clear p0 i0;have m0:=aEd La B5.o;obtain⟨w12,b0⟩:=ex ((((D0.setCell ⟨w.heap.size+1,0,none⟩ (.bool G0)).setCell ⟨w.heap.size+1,1,none⟩ (.slice H0 I0 J0)).setCell ⟨w.heap.size+1,2,none⟩ (.bool false)).setCell ⟨w.heap.size+1,3,none⟩ (.slice K0 d0 L0));rw[← b0];have S12:=zz (oU b0 a0 (by simp[aF,aE]));have A0:=rQ b0 m0 (by omega);have f0:=oV b0 a0;have n0:=zz (oW b0 y0.o (by omega));have C0:=oT b0;clear b0;refine ED ?_;(try simp only[Exit.then])
    go_wp2;have c0:=zz (aKv e0.o (S12.o));exact aFv (aMw rfl _ f0 rfl) rfl ⟨n0.o,_,rfl,c0.o⟩
end Go.Proofs.YtencnahjgbdeoaaGreatDoor
