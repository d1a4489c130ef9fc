/- Texts put together. -/
import Derived.Test.YtencnahjgbdeoaaGreatDoorRa
import Derived.Test.YtencnahjgbdeoaaGreatDoorLr
import Derived.Test.YtencnahjgbdeoaaGreatDoorLx
import Derived.Test.YtencnahjgbdeoaaGreatDoorLopq
import Derived.Test.YtencnahjgbdeoaaGreatDoorLt
namespace Go.Proofs.YtencnahjgbdeoaaGreatDoor
open Go Go.RowKit Dig
set_option maxRecDepth 100000
set_option maxHeartbeats 4000000
set_option linter.unusedSimpArgs false
variable {M:List (List Rat)} {w:World}
def xP (M:List (List Rat)) (m i:Nat):List QX:=(List.range m).map fun j=>qx (bK (dD M i) (dD M j))
theorem pS {α:Type} (f:Nat→α) {j m:Nat} (hj:j<m):((List.range m).map f).take (j+1)=((List.range m).map f).take j++[f j]:=by
  rw[aFj,aEh (by simpa using hj)];simp
section
variable {M:List (List Rat)} {b:List Rat} {m i j:Nat}
theorem tP (hW:Wide M m) (hM:0<M.length):cI M=(List.range m).map (dD M):=by
  unfold cI aM;rw[hW.getD hM]
theorem IR (hW:Wide M m) (hM:0<M.length):(bB M).map (List.map qx)=(List.range m).map (xP M m):=by
  unfold bB xP;rw[tP hW hM];simp[Function.comp_def]
theorem IQ (hW:Wide M m) (hM:0<M.length):(bG M b).map qx=(List.range m).map fun i=>qx (bK (dD M i) b):=by
  unfold bG;rw[tP hW hM];simp[Function.comp_def]
theorem kV:(xP M m i).length=m:=by simp[xP]
theorem RG (hj:j<m):(xP M m i).take (j+1)=(xP M m i).take j++[qx (bK (dD M i) (dD M j))]:=pS _ hj
theorem OA.pos {α:Type} {k:Nat} {E:Elem α} {T:TypeId} {B:Nat} {v:Value} {l:List α} (h:OA k E T w B v l) (hl:0<l.length):∃ g cap,v=.slice (some ⟨g,0,none⟩) l.length cap∧B≤g∧cap≤9223372036854775807∧OB k E T w g cap l:=by
  rcases h with ⟨-,rfl⟩ | h
  · exact absurd hl (by simp)
  · exact h
end
theorem xL (w:World) (A B:Option Addr) (n c nb cb:Nat) (M:List (List Rat)) (b:List Rat) (m:Nat) (ha:QM w w.heap.size (.slice A n c) (M.map (List.map qx))) (hb:QS w w.heap.size (.slice B nb cb) (b.map qx)) (hW:Wide M m) (hM:0<M.length) (hm:0<m) (hl:M.length≤3000000000) (hl2:m≤3000000000)
    (hd:∀ i j,i<m→j<m→DotOK (dD M i) (dD M j)) (hdb:∀ i,i<m→DotOK (dD M i) b) :
    CV 49 #[.slice A n c,.slice B nb cb] w fun e w'=>∃ A1 c1 A2 c2,e=.returned (.tuple #[.slice A1 m c1,.slice A2 m c2])∧QM w' w'.heap.size (.slice A1 m c1) ((bB M).map (List.map qx))∧QS w' w'.heap.size (.slice A2 m c2) ((bG M b).map qx):=by
  obtain⟨hn,hn1,hn2⟩:=aHb ha;rw[aEb] at hn;subst hn;have HQ:=zz ha;have HB:=zz hb;have S0:=zz hW;have HD:=zz hd;have m1:=zz hdb;have HL:=zz hl;clear ha hb hd hdb;obtain⟨iq,hiq,hzq,hsq,hbq⟩:=aGf fH;obtain⟨il,hil,hzl,hsl,hbl⟩:=aGf sX;obtain⟨NM,T0⟩:∃ l,l=(bB M).map (List.map qx):=⟨_,rfl⟩;obtain⟨NV,V0⟩:∃ l,l=(bG M b).map qx:=⟨_,rfl⟩;rw[← T0,← V0];have hnm:=T0.trans (IR hW hM);have hnv:=V0.trans (IQ hW hM);clear T0 V0;have n1:=zz (show ∀ i,i<m→NM.take (i+1)=NM.take i++[xP M m i] from fun i hi=>by rw[hnm];exact pS _ hi);have o1:=zz (show ∀ i,i<m→NV.take (i+1)=NV.take i++[qx (bK (dD M i) b)] from fun i hi=>by rw[hnv];exact pS _ hi);have v0:=zz (show NM.length=m∧NV.length=m by rw[hnm,hnv];simp);clear hnm hnv;obtain⟨g,off,A',c',hAe,hg,hcell,-⟩:=aKy HQ.o (j:=0) (by simpa using hM);subst hAe;simp only[aGm,aEb,aGd] at hcell;rw[hW _ (aEc hM)] at hcell;have HC:=zz (aEn hg hcell);clear hg hcell hW
  have hM':(0:Int)<(M.length:Int):=by omega
  have hmm:(m:Int)≤3000000000:=by omega
  have s0:=zz (aDy w.heap.size w);go_enter Tryz.func49,Tryz.ntmps49
  go_wp2;go_loopw [6,7,8] (fun mv vv iv wr=>∃ (i:Nat) (G C:Nat→Nat),i≤m∧iv=.int .i64 i∧Hi (OMV 4 EQ 28 23 wr w.heap.size mv G C (NM.take i))∧Hi (OA 4 EQ 28 wr w.heap.size vv (NV.take i))∧Hi (ApartV mv vv G i)∧Hi (Below w.heap.size w wr)) (fun _ _ iv _=>m-(intOf iv).toNat)
  case atStart=>exact⟨0,fun _=>0,fun _=>0,aEy _,rfl,zz OMV.nil,zz OA.nil,zz ApartV.nil,s0⟩
  case round=>
    obtain⟨i,G,C,hi,rfl,HO,HV,O0,HW⟩:=hrel;have zr:=HW.o.size;rename World=>wr
    have qh:=(HW.o.cell (p:=⟨g,off,none⟩) HC.o.1).trans HC.o.2;have ql:g<wr.heap.size:=aEt HC.o.1 HW.o.size;by_cases hlt:i<m
    case pos=>
      have hlt':(i:Int)<(m:Int):=by omega
      have p1:=zz (aDy wr.heap.size wr);go_wp2;clear qh ql;go_loopw [9,10] (fun rv jv wx=>∃ j:Nat,j≤m∧jv=.int .i64 j∧Hi (OA 4 EQ 28 wx wr.heap.size rv ((xP M m i).take j))∧Hi (Below wr.heap.size wr wx)) (fun _ jv _=>m-(intOf jv).toNat)
      case atStart=>exact⟨0,aEy _,rfl,zz OA.nil,p1⟩
      case round=>
        obtain⟨j,hj,rfl,HR,HX⟩:=hrel;have zx:=HX.o.size;rename World=>wx
        have u0:=tr HW HX;have zwx:=u0.o.size;have qh:=(u0.o.cell (p:=⟨g,off,none⟩) HC.o.1).trans HC.o.2;have ql:g<wx.heap.size:=aEt HC.o.1 u0.o.size;by_cases hjt:j<m
        case pos=>
          have hjt':(j:Int)<(m:Int):=by omega
          go_wp2_with fail
          clear qh ql;refine(nx HX (nK _ _ _ c M m i (aHo HQ.o (aFl aEf) u0.o) S0.o hlt HL.o)).mono ?_;rintro e w1 ⟨⟨B2,z2,e0⟩,v,rfl,hv⟩;obtain⟨Ak1,ck1,rfl,-⟩:=aHi hv;obtain⟨nk1,hnk⟩:∃ z,((dD M i).map qx).length=z:=⟨_,rfl⟩;rw[hnk] at hv ⊢;clear hnk;have Hk1:=zz hv;clear hv;go_wp2_with fail
          refine(nx e0 (nK _ _ _ c M m j (aHo HQ.o (aFl aEf) (u0.o.trans (B2.o.mono u0.o.size))) S0.o hjt HL.o)).mono ?_;rintro e w4 ⟨⟨B5,z5,t0⟩,v,rfl,hv⟩;obtain⟨Ak2,ck2,rfl,-⟩:=aHi hv;obtain⟨nk2,hnk⟩:∃ z,((dD M j).map qx).length=z:=⟨_,rfl⟩;rw[hnk] at hv ⊢;clear hnk;have Hk2:=zz hv;clear hv;go_wp2_with fail
          refine(nx t0 (kR _ _ _ _ _ _ _ (dD M i) (dD M j) (aHo Hk1.o aEf B5.o) Hk2.o (HD.o i j hlt hjt))).mono ?_;rintro e w7 ⟨⟨B8,z8,b0⟩,v,rfl,hv⟩;obtain⟨w0,x0,y0,z0,A0,c0,B0,rfl,ha10,f0,hc10⟩:=hv;have m0:=zz (show QV w7 w7.heap.size (.agg #[.bool w0,.slice x0 y0 z0,.bool false,.slice A0 c0 B0]) (bK (dD M i) (dD M j)) from⟨_,_,_,_,_,_,_,rfl,ha10,f0,hc10⟩);clear ha10 f0 hc10;have a0:Below w7.heap.size w7 (w7.alloc (.cells #[.bool w0,.slice x0 y0 z0,.bool false,.slice A0 c0 B0] 28)):=aB (aDy _ _) _;have W0:=tr B2 B5;have Q0:=tr W0 B8;have X0:=zz (aHl w7 28 #[.bool w0,.slice x0 y0 z0,.bool false,.slice A0 c0 B0]);have Y0:=zz ((aHf m0.o a0).qr);have Z0:=zz (aNk (aNk HR.o aEf Q0.o) aEf a0);have b0:=zz (b0.o.trans (a0.mono b0.o.size));have hz3:=a0.size
          go_wp2_with (at_builtin;go_loud (refine aO rfl _ _ _ rfl wr.heap.size 28 iq _ 64 Tryz.underlying23 hiq hzq hsq hbq rfl (by decide) (by decide) aEf aIz Z0.o rfl ⟨w7.heap.size,0,none⟩ 1 [qx (bK (dD M i) (dD M j))] rfl Nat.one_pos [.bool w0,.slice x0 y0 z0,.bool false,.slice A0 c0 B0] (aLt rfl ⟨_,_,_,_,rfl,Y0.o⟩) (jP X0.o [_,_,_,_] rfl) (by intro u hu;simp at hu;rcases hu with rfl | rfl | rfl | rfl <;> rfl) (by simp only[aEk,aEl,aEm,maxLen];omega) (by simp only[aEk,aEl,aEm];omega) (by have:=b0.o.size;simpa using this) ?_))
          intro v9 w9 hoa hb hs' hg' hat';have q1:Hi (OA 4 EQ 28 w9 wr.heap.size v9 ((xP M m i).take (j+1))):=zz (by rw[RG hjt];exact hoa);have r1:=zz (b0.o.trans hb);clear hoa hb hs' hg' hat' a0 hz3;go_wp2;go_roundw
          case rel=>exact⟨j+1,hjt,by go_num,q1,r1⟩
          case measure=>exact ms
        case neg=>
          obtain rfl:m=j:=by omega
          have hjt':¬ (m:Int)<(m:Int):=by omega
          rw[aFa (by rw[kV];exact aEa _)] at HR;obtain⟨gr,cap,rfl,hgr,hcap,hob⟩:=HR.o.pos (by rw[kV];exact hm);have hob2:=hob;rw[kV];have P0:=zz hgr;have C0:=zz hob;clear hob hob2 HR;have a0:Below wx.heap.size wx (wx.alloc (.cells #[.slice (some ⟨gr,0,none⟩) m cap] 23)):=aB (aDy _ _) _;have a1:=zz ((aNg HO.o aEf HX.o).step aEf a0);have e1:=zz ((aNk HV.o aEf HX.o).step aEf a0);have f1:=zz (aKi C0.o aEf a0);have e0:=zz (u0.o.trans (a0.mono u0.o.size));have hz3:=a0.size;clear a0;have hgx:gr<wx.heap.size:=C0.o.lt;have hcm:m≤cap:=by have:=C0.o.len;rwa [kV] at this
          go_wp2_with (at_builtin;go_loud (refine aO rfl _ _ _ rfl w.heap.size 23 il _ 24 Tryz.underlying22 hil hzl hsl hbl rfl (by decide) (by decide) aLi aLj a1.o.hdr rfl ⟨wx.heap.size,0,none⟩ 1 [.slice (some ⟨gr,0,none⟩) m cap] rfl Nat.one_pos [.slice (some ⟨gr,0,none⟩) m cap] (aLt rfl ⟨rfl,rfl⟩) (cell_one_new _ _ _) (by intro u hu;simp at hu;subst hu;rfl) (by simp only[aV,aEk,aEl,aEm,maxLen];omega) (by simp only[aV,aEk,aEl,aEm];omega) (by have:=e0.o.size;simpa using this) ?_))
          intro v8 w8 hoa hb hs' hg' hat;clear qh ql;have hil2:(NM.take i).length=i:=by rw[aEk,v0.o.1];omega
          have hub:∀ X',u7.ownBlock=some X'→X'<wr.heap.size:=fun X' e=>(HV.o.blk e).1
          have happ:=a1.o.app aIz (g:=gr) (c:=cap) (l:=xP M m i) ⟨by have:=P0.o;omega,fun e=>by have:=(HO.o.hdr.blk e).1;have:=P0.o;omega⟩ (fun i hi=>by have:=(HO.o.rows i hi).lt;have:=P0.o;omega) ⟨by rw[kV];exact hcm,hcap⟩ f1.o (by rw[kV];simpa[aV] using hoa) hs' hg' (by simpa using hat);rw[show(NM.take i).length=i from hil2] at happ;have hap2:=O0.o.push (g:=gr) (v':=v8) (Z:=wr.heap.size) hub P0.o hat (by have:=HX.o.size;simp at hz3 ⊢;omega);have h1:=zz (OA.grown e1.o aIz hg' (fun X' e e'=>(O0.o X' e).1 e') hs');have i1:Hi (OMV 4 EQ 28 23 w8 w.heap.size v8 _ _ (NM.take (i+1))):=zz (by rw[n1.o i hlt];exact happ);have M0:=zz hap2;have g0:=zz (e0.o.trans hb);clear happ hap2 hoa hb hs' hg' hat hz3 hub hil2 a1 e1 f1 e0 HO HV O0 HX u0 C0 hcap hgx hcm;have z8:=g0.o.size;go_wp2_with fail
          refine(nx g0 (nK _ _ _ c M m i (aHo HQ.o (aFl aEf) g0.o) S0.o hlt HL.o)).mono ?_;rintro e w13 ⟨⟨B14,z14,i0⟩,v,rfl,hv⟩;obtain⟨Ak3,ck3,rfl,-⟩:=aHi hv;obtain⟨nk3,hnk⟩:∃ z,((dD M i).map qx).length=z:=⟨_,rfl⟩;rw[hnk] at hv ⊢;clear hnk;have Hk3:=zz hv;clear hv;go_wp2_with fail
          refine(nx i0 (kR _ _ _ _ _ _ _ (dD M i) b Hk3.o (aHo HB.o aEf i0.o) (m1.o i hlt))).mono ?_;rintro e w16 ⟨⟨B17,z17,k0⟩,v,rfl,hv⟩;obtain⟨D0,E0,F0,G0,H0,d0,I0,rfl,ha19,l0,hc19⟩:=hv;have n0:=zz (show QV w16 w16.heap.size (.agg #[.bool D0,.slice E0 F0 G0,.bool false,.slice H0 d0 I0]) (bK (dD M i) b) from⟨_,_,_,_,_,_,_,rfl,ha19,l0,hc19⟩);clear ha19 l0 hc19;have a0:Below w16.heap.size w16 (w16.alloc (.cells #[.bool D0,.slice E0 F0 G0,.bool false,.slice H0 d0 I0] 28)):=aB (aDy _ _) _;have P1:=tr B14 B17;have X0:=zz (aHl w16 28 #[.bool D0,.slice E0 F0 G0,.bool false,.slice H0 d0 I0]);have Y0:=zz ((aHf n0.o a0).qr);have Z0:=zz (aNk (aNk h1.o aEf P1.o) aEf a0);have b0:=zz (k0.o.trans (a0.mono k0.o.size));have hz3:=a0.size;have N0:=zz ((aNg i1.o aEf P1.o).step aEf a0)
          go_wp2_with (at_builtin;go_loud (refine aO rfl _ _ _ rfl w.heap.size 28 iq _ 64 Tryz.underlying23 hiq hzq hsq hbq rfl (by decide) (by decide) aEf aIz Z0.o rfl ⟨w16.heap.size,0,none⟩ 1 [qx (bK (dD M i) b)] rfl Nat.one_pos [.bool D0,.slice E0 F0 G0,.bool false,.slice H0 d0 I0] (aLt rfl ⟨_,_,_,_,rfl,Y0.o⟩) (jP X0.o [_,_,_,_] rfl) (by intro u hu;simp at hu;rcases hu with rfl | rfl | rfl | rfl <;> rfl) (by simp only[aEk,aEl,aEm,maxLen];omega) (by simp only[aEk,aEl,aEm];omega) (by have:=b0.o.size;simpa using this) ?_))
          intro v9 w9 hoa hb hs' hg' hat;have hln:(NM.take (i+1)).length=i+1:=by rw[aEk,v0.o.1];omega
          have hov4:=OMV.grown N0.o aIz hg' ⟨fun X' e e'=>(M0.o X' e').1 e,fun k hk e'=>(M0.o _ e').2 k (by rw[hln] at hk;exact hk) rfl⟩ hs';have hap4:=M0.o.other (u':=v9) (fun X' e=>N0.o.blk e) (fun k hk=>(N0.o.rows k (by rw[hln];exact hk)).lt) (by simpa using hat);have j1:=zz hov4;have k1:=zz hap4;have l1:Hi (OA 4 EQ 28 w9 w.heap.size v9 (NV.take (i+1))):=zz (by rw[o1.o i hlt];exact hoa);have r0:=zz (b0.o.trans hb);clear hov4 hap4 hoa hb hs' hg' hat hln a0 hz3;go_wp2;go_roundw
          case rel=>exact⟨i+1,_,_,hlt,by go_num,j1,l1,k1,r0⟩
          case measure=>exact ms
    case neg=>
      obtain rfl:m=i:=by omega
      have hlt':¬ (m:Int)<(m:Int):=by omega
      rw[aFa (aGo v0.o.1)] at HO;rw[aFa (aGo v0.o.2)] at HV;have hs1:=HO.o.sl;have hs2:=HV.o.sl;obtain⟨A1,c1,rfl,-⟩:=aHi hs1;obtain⟨A2,c2,rfl,-⟩:=aHi hs2;rw[v0.o.1] at hs1;rw[v0.o.2] at hs2;rw[v0.o.1,v0.o.2];have H1:=zz hs1;have H2:=zz hs2;clear hs1 hs2 HO HV O0;go_wp2;go_ret2;exact⟨HW.o,_,_,_,_,rfl,H1.o,H2.o⟩
theorem BP {l j:Nat} (h:Short l M) (h1:1≤l):∀ q∈dD M j,QL l l q:=fun q hq=>by
  unfold dD at hq;obtain⟨r,hr,rfl⟩:=aFc.1 hq;exact aT (h r hr) h1 j
theorem qS {j:Nat}:(dD M j).length=M.length:=by unfold dD;rw[aEb]
theorem zJ {r s:List Rat} (hle:r.length≤s.length) (h12:r.length≤12) (hr:∀ q∈r,QL 4 4 q) (hs:∀ q∈s,QL 4 4 q):DotOK r s:=
  lQ hle hr hs (by decide) (by decide) (aEg (aFf _ (aMy h12)) (by decide))
theorem sL {l:List Rat} {e:Ending} (h:mS w (fO l) e) (hf:∀ q∈l,eS q):∃ v,e=.returned (.tuple #[v,.int .i64 0]):=by
  unfold fO at h;rw[aEv hf] at h;obtain⟨v,h,-⟩:=h;exact⟨v,h⟩
theorem sM {l:List Rat} {e:Ending} (h:mS w (fO l) e) (hf:¬ ∀ q∈l,eS q):e=.returned (.tuple #[.slice none 0 0,.int .i64 6]):=by
  unfold fO at h;rw[aEu hf] at h;obtain⟨v,h,hv⟩:=h;obtain rfl:v=.slice none 0 0:=hv;exact h
theorem aAm (w:World) (A B:Option Addr) (n c m d:Nat) (M:List (List QX)) (b:List QX) (ha:QM w w.heap.size (.slice A n c) M) (hb:QS w w.heap.size (.slice B m d) b) :
    CV 18 #[.slice A n c,.slice B m d] w fun e w'=>aBb w' (dZ M b) e:=by
  have HQ:=zz ha;have HS:=zz hb;obtain⟨T,hT⟩:=ex (dZ M b);rw[← hT];obtain⟨hn,hn1,hn2⟩:=aHb ha;obtain⟨hm,hm1,hm2⟩:=aHb hb;have z0:=zz (aEn hn hm);clear ha hb hn hm;have b0:=zz (aDy w.heap.size w);cases h1:eA M
  case false=>
    obtain rfl:T=(none,350):=by rw[hT];unfold dZ;rw[h1,aEu (fun h=>absurd h.1 (by decide))]
    have H1:=zz h1;clear h1 hT;go_enter Tryz.func18,Tryz.ntmps18
    go_wp2_with fail
    refine(nx b0 (eX _ _ _ _ M HQ.o)).mono ?_;rintro e w1 ⟨⟨B2,z2,u0⟩,rfl⟩;rw[H1.o];go_wp2;go_ret3;exact⟨u0.o,_,_,rfl,rfl,rfl⟩
  case true=>
    cases h2:dC b
    case false=>
      obtain rfl:T=(none,350):=by rw[hT];unfold dZ;rw[h2,aEu (fun h=>absurd h.2 (by decide))]
      have H1:=zz h1;have H2:=zz h2;clear h1 h2 hT;go_enter Tryz.func18,Tryz.ntmps18
      go_wp2_with fail
      refine(nx b0 (eX _ _ _ _ M HQ.o)).mono ?_;rintro e w4 ⟨⟨B5,z5,p0⟩,rfl⟩;rw[H1.o];go_wp2_with fail
      refine(nx p0 (iG _ _ _ _ b (aHo HS.o aEf p0.o))).mono ?_;rintro e w7 ⟨⟨B8,z8,v0⟩,rfl⟩;rw[H2.o];go_wp2;go_ret3;exact⟨v0.o,_,_,rfl,rfl,rfl⟩
    case true=>
      by_cases hf:b.length=M.length
      case neg=>
        obtain rfl:T=(none,2):=by rw[hT];unfold dZ;rw[h1,h2,aEv ⟨rfl,rfl⟩,aEu hf]
        have hne:((m:Int) != (n:Int))=true:=by rw[aJg];have:=z0.o;omega
        have H1:=zz h1;have H2:=zz h2;clear h1 h2 hT hf;go_enter Tryz.func18,Tryz.ntmps18
        go_wp2_with fail
        refine(nx b0 (eX _ _ _ _ M HQ.o)).mono ?_;rintro e w10 ⟨⟨B11,z11,d0⟩,rfl⟩;rw[H1.o];go_wp2_with fail
        refine(nx d0 (iG _ _ _ _ b (aHo HS.o aEf d0.o))).mono ?_;rintro e w13 ⟨⟨B14,z14,r0⟩,rfl⟩;rw[H2.o];go_wp2;go_ret3;exact⟨r0.o,_,_,rfl,rfl,rfl⟩
      case pos=>
        have hA:T=if (∀ r∈bB (aK M),∀ q∈r,eS q)∧∀ q∈bG (aK M) (aW b),eS q then (some (bB (aK M),bG (aK M) (aW b)),0) else (none,6):=by rw[hT];unfold dZ;rw[h1,h2,aEv ⟨rfl,rfl⟩,aEv hf]
        have hne:((m:Int) != (n:Int))=false:=by rw[aJh];have:=z0.o;omega
        obtain⟨k1,k2,k3,k4,k5,k6,k7⟩:=jM h1;obtain⟨g1,g2,g3,g4⟩:=fM h2;have HH:=zz (aEn h1 h2);have H1:=zz h1;have H2:=zz h2;clear h1 h2 hT;go_enter Tryz.func18,Tryz.ntmps18
        go_wp2_with fail
        refine(nx b0 (eX _ _ _ _ M HQ.o)).mono ?_;rintro e w16 ⟨⟨B17,z17,g0⟩,rfl⟩;rw[H1.o];go_wp2_with fail
        refine(nx g0 (iG _ _ _ _ b (aHo HS.o aEf g0.o))).mono ?_;rintro e w19 ⟨⟨B20,z20,a0⟩,rfl⟩;rw[H2.o];have hml:(aK M).length=n:=by rw[aK,aEb];exact z0.o.1.symm
        have hrl:(aW b).length=n:=by have:=z0.o;rw[aW,aEb];omega
        obtain⟨R,hR⟩:=ex (aK M);obtain⟨r,hr⟩:=ex (aW b);rw[← hR] at hA k1 k2 k3 k6 k7 hml;rw[← hr] at hA g1 g2 hrl;have G0:=zz (show QM w19 w19.heap.size (.slice A n c) (R.map (List.map qx)) from k1▸aHo HQ.o (aFl aEf) a0.o);have H0:=zz (show QS w19 w19.heap.size (.slice B m d) (r.map qx) from g1▸aHo HS.o aEf a0.o);obtain⟨k,hk⟩:=ex (aM R);rw[← hk] at k3 k6 k7;have C0:=zz (show(bB R).length=k∧(bG R r).length=k by rw[mZ,mY,← hk];exact⟨rfl,rfl⟩);have HK:=zz (aEn k2 (aEn k3 (aEn k6 k7)));have HG:=zz g2;have x0:=zz (aEn hml hrl);have y0:=zz (show 1≤n∧n≤12 by have:=z0.o;omega);clear k1 k2 k3 k4 k5 k6 k7 g1 g2 g3 g4 hR hr hk hml hrl hf HH;go_wp2_with fail
        refine(nx a0 (xL _ A B n c m d R r k G0.o H0.o HK.o.2.1 (by rw[x0.o.1];exact y0.o.1) HK.o.2.2.1 (by rw[x0.o.1];have:=y0.o;omega) (by have:=HK.o.2.2.2;omega) (fun i j _ _=>zJ (by rw[qS,qS];exact aEa _) (by rw[qS,x0.o.1];exact y0.o.2) (BP HK.o.1 (by decide)) (BP HK.o.1 (by decide))) (fun i _=>zJ (by rw[qS,x0.o.1,x0.o.2];exact aEa _) (by rw[qS,x0.o.1];exact y0.o.2) (BP HK.o.1 (by decide)) HG.o))).mono ?_;rintro e w22 ⟨⟨B23,z23,s0⟩,A1,c1,A2,c2,rfl,hm1,j0⟩;obtain⟨N,hN⟩:=ex (bB R);obtain⟨V,hV⟩:=ex (bG R r);rw[← hN] at hA hm1 C0;rw[← hV] at hA j0 C0;have HN:=zz hm1;have HV:=zz j0;have HA:=zz hA;clear hm1 j0 hA hN hV G0 H0;have w0:(k:Int)≤6:=by have:=HK.o.2.2.2;omega
        have M0:=zz (aDy w22.heap.size w22);have N0:=zz s0.o;go_wp2;go_loopw [9] (fun iv wr=>∃ i:Nat,i≤k∧iv=.int .i64 i∧Hi (∀ j,j<i→∀ q∈N.getD j [],eS q)∧Hi (Below w22.heap.size w22 wr)) (fun iv _=>k-(intOf iv).toNat)
        case atStart=>exact⟨0,aEy _,rfl,zz (fun j hj=>absurd hj (aNl _)),M0⟩
        case round=>
          obtain⟨i,hi,rfl,HF,HX⟩:=hrel;rename World=>wr;have I0:=tr N0 HX
          by_cases hlt:i<k
          case pos=>
            have hlt':(i:Int)<(k:Int):=by omega
            have hii:(0:Int)≤(i:Int)∧(i:Int)<(k:Int):=by omega
            have hiN:i<N.length:=by rw[C0.o.1];exact hlt
            obtain⟨g,off,A',c',hAe,hg,hcell,hrow⟩:=aKy HN.o (j:=i) (by simpa using hiN);subst hAe;simp only[aGm,aEb] at hcell hrow;rw[← aG (d:=[]) hiN] at hcell hrow
            have qh:=(HX.o.cell (p:=⟨g,off+i,none⟩) hg).trans hcell;have ql:g<wr.heap.size:=aEt hg HX.o.size;have J0:=zz (aHo hrow aEf HX.o);clear hg hcell hrow;obtain⟨y,hy⟩:=ex (N.getD i []);rw[← hy] at qh J0;have HY:=zz hy;clear hy;go_wp2_with fail
            clear qh ql;refine(nx I0 (sN _ _ _ _ y J0.o)).mono ?_;rintro e w25 ⟨⟨B26,z26,t0⟩,hr⟩;by_cases hf:∀ q∈y,eS q
            case pos=>
              obtain⟨v,rfl⟩:=sL hr hf;clear hr;have Q0:=zz (show ∀ j,j<i+1→∀ q∈N.getD j [],eS q from fun j hj=>by
                rcases aFk j i with h | h
                · exact HF.o j h
                · obtain rfl:j=i:=by omega
                  rw[← HY.o];exact hf);clear hf
              have R0:=tr HX B26;go_wp2;go_roundw
              case rel=>exact⟨i+1,hlt,by go_num,Q0,R0⟩
              case measure=>exact ms
            case neg=>
              obtain rfl:=sM hr hf;clear hr;obtain rfl:T=(none,6):=by rw[HA.o,aEu (fun h=>hf (fun q hq=>h.1 y (by rw[HY.o,aG hiN];exact aEc hiN) q hq))]
              clear hf HA;go_wp2;(try rw[aIq]);go_ret3;exact⟨t0.o,_,_,rfl,rfl,rfl⟩
          case neg=>
            obtain rfl:k=i:=by omega
            have hlt':¬ (k:Int)<(k:Int):=by omega
            have K0:=zz (aHo HV.o aEf HX.o);have S0:=zz (aHo HN.o (aFl aEf) HX.o);go_wp2_with fail
            refine(nx I0 (sN _ _ _ _ V K0.o)).mono ?_;rintro e w28 ⟨⟨B29,z29,m0⟩,hr⟩;have T0:=zz (show ∀ x∈N,∀ q∈x,eS q from fun x hx=>by
              obtain⟨j,hj,rfl⟩:=List.mem_iff_getElem.1 hx;rw[← aG (d:=[]) hj];exact HF.o j (by rw[← C0.o.1];exact hj))
            by_cases hf:∀ q∈V,eS q
            case pos=>
              obtain⟨v,rfl⟩:=sL hr hf;clear hr;obtain rfl:T=(some (N,V),0):=by rw[HA.o,aEv ⟨T0.o,hf⟩]
              have U0:=zz (aHo K0.o aEf B29.o);have V0:=zz (aHo S0.o (aFl aEf) B29.o);clear hf HA;go_wp2;go_ret3;exact⟨m0.o,_,_,rfl,V0.o,U0.o⟩
            case neg=>
              obtain rfl:=sM hr hf;clear hr;obtain rfl:T=(none,6):=by rw[HA.o,aEu (fun h=>hf h.2)]
              clear hf HA;go_wp2;go_ret3;exact⟨m0.o,_,_,rfl,rfl,rfl⟩
theorem BV (w:World) (A B D:Option Addr) (n c m d k e:Nat) (M:List (List Rat)) (b x:List Rat) (ha:QM w w.heap.size (.slice A n c) (M.map (List.map qx))) (hb:QS w w.heap.size (.slice B m d) (b.map qx)) (hx:QS w w.heap.size (.slice D k e) (x.map qx)) (hle:M.length≤b.length)
    (hP:∀ r∈M,DotOK r x∧QL 60000000 60000000 (bK r x)) (hB:∀ q∈b,QL 60000000 60000000 q) (hR:DotOK (fP M b x) (fP M b x)) :
    CV 57 #[.slice A n c,.slice B m d,.slice D k e] w fun e w'=>∃ v,e=.returned v∧QV w' w'.heap.size v (cF M b x):=by
  obtain⟨hn,hn1,hn2⟩:=aHb ha;rw[aEb] at hn;subst hn;obtain⟨hm,hm1,hm2⟩:=aHb hb;rw[aEb] at hm;subst hm;obtain⟨hk,O1,P1⟩:=aHb hx;rw[aEb] at hk;subst hk;obtain⟨R,d2⟩:=ex (fP M b x);have hrl:R.length=M.length:=by rw[d2,fP,aLb]
  have hri:∀ i (h:i<M.length),R.getD i 0=bK M[i] x+-(b.getD i 0):=fun i h=>by rw[aG (by rw[hrl];exact h)];simp only[d2,fP,aGy];rw[aHe]
  have hsq:cF M b x=aJ R R R.length:=by rw[d2];rfl
  rw[hsq];rw[← d2] at hR;have HQ:=zz ha;have HS:=zz hb;have HX:=zz hx;have HP:=zz hP;have HB:=zz hB;have J2:=zz hR.2;have K2:=zz hri;have L2:=zz hrl;clear ha hb hx hP hB hR hri d2 hsq;obtain⟨w0,hw0⟩:=ex (w.alloc (.cells #[.bool false,.slice none 0 0,.bool false,.slice none 0 0] 28));have B0:=zz (cK hw0);have z0:=cJ hw0;have Lr6:=cL hw0;go_enter Tryz.func57,Tryz.ntmps57
  go_upto_region 1 with (fail)
  rw[← hw0];clear hw0;go_wp2_with fail
  refine(nx B0 (wE _ 0 (by decide) (by decide))).mono ?_;rintro e w1 ⟨⟨B2,z2,J1⟩,v,rfl,hv⟩;obtain⟨i2,j2,k2,l2,m2,j0,n2,rfl,ha4,t1,hc4⟩:=hv;have u1:=zz (show QV w1 w1.heap.size (.agg #[.bool i2,.slice j2 k2 l2,.bool false,.slice m2 j0 n2]) (mkRat 0 1) from⟨_,_,_,_,_,_,_,rfl,ha4,t1,hc4⟩);clear ha4 t1 hc4;have H0:=zz (show QV w1 w1.heap.size (.agg #[.bool i2,.slice j2 k2 l2,.bool false,.slice m2 j0 n2]) (aJ R R 0) from u1.o);go_upto_region 2 with (fail)
  obtain⟨w5,i0⟩:=ex (w1.alloc (.cells #[.bool i2,.slice j2 k2 l2,.bool false,.slice m2 j0 n2] 28));rw[← i0];have q0:=cL i0;have za5:=cJ i0;have B6:=zz (cK i0);have z6:=B6.o.size;have K1:=tr J1 B6;clear i0;have o2:=zz (show w.heap.size<w1.heap.size by omega);have C0:=st aHf H0 B6;have W2:=tr B2 B6;have D0:=aEd Lr6 W2.o;go_wp2;go_loopw [8] (fun iv wr=>∃ (j:Nat) (on:Bool) (oA:Option Addr) (ol oc:Nat) (om_:Bool) (oB:Option Addr) (ou od:Nat),j≤M.length∧iv=.int .i64 j∧Hi (CB wr w1.heap.size 28 #[.bool on,.slice oA ol oc,.bool om_,.slice oB ou od])∧Hi (QV wr wr.heap.size (.agg #[.bool on,.slice oA ol oc,.bool om_,.slice oB ou od]) (aJ R R j))∧Hi (CB wr w.heap.size 28 #[.bool false,.slice none 0 0,.bool false,.slice none 0 0])∧Hi (Below w.heap.size w wr)) (fun iv _=>M.length-(intOf iv).toNat)
  case atStart=>exact⟨0,_,_,_,_,_,_,_,_,aEy _,rfl,zz q0,zz C0.o,zz D0,K1⟩
  case round=>
    obtain⟨j,on,oA,ol,oc,om_,oB,ou,od,hj,rfl,HC,HV,HR,HW⟩:=hrel;have zr:=HW.o.size;by_cases hlt:j<M.length
    case pos=>
      have hlt':(j:Int)<(M.length:Int):=by omega
      obtain⟨g,off,A',c',rfl,hg,hcell,hrow⟩:=aKy HQ.o (j:=j) (by simpa using hlt);simp only[aGm,aEb] at hcell hrow;have hjb:=aEt hlt hle;obtain⟨g',off',yA,yl,yc,yB,yu,yd,rfl,hg',hE',hy⟩:=aKm HS.o (j:=j) (by simpa using hjb);simp only[aGm] at hE' hy;rw[← aG (d:=0) hjb] at hE' hy
      replace hE':=hE'.step HW.o;have HY:=zz (aHf (QR.qv hy) HW.o);replace hcell:=(HW.o.cell (p:=⟨g,off+j,none⟩) hg).trans hcell;have G2:=zz hcell;have O2:=zz (aEt hg HW.o.size);have H2:=zz (hrow.step aEf HW.o);have P2:=zz (HX.o.step aEf HW.o);clear hy hg hg' hcell hrow;have hjr:j<R.length:=by rw[L2.o];exact hlt
      obtain⟨hq1,hq2,hq3,hq4⟩:=J2.o j hjr;have hdt:aJ R R (j+1)=aJ R R j+R.getD j 0*R.getD j 0:=rfl;have hri:=K2.o j hlt;obtain⟨hp1,hp2⟩:=HP.o _ (aEc hlt);have hqb:QL 60000000 60000000 (b.getD j 0):=aT HB.o (by decide) j;obtain⟨y,hy⟩:=ex (b.getD j 0);obtain⟨r,hr⟩:=ex (M[j]);rw[← hy] at hE' HY hri hqb;rw[← hr] at hri hp1 hp2 G2 H2;rw[hri] at hdt hq1 hq3;have h2:=zz (aEn hq1 (aEn hq3 hq4));have Q2:=zz hdt;have R2:=zz hp1;have S2:=zz hp2;have I2:=zz hqb;clear hq1 hq2 hq3 hq4 hdt hri hp1 hp2 hqb hy hr;have hji:(0:Int)≤(j:Int)∧(j:Int)<(M.length:Int):=(by omega);have hjs:(j:Int)<(b.length:Int):=(by omega);go_upto_region 5 with (fail)
      have zl1:=HC.o.lt;have zl2:=HR.o.lt;refine aMe [se 0 17 [] (.slice (some ⟨g,off,none⟩) M.length c),se 1 18 [] (.int .i64 (j:Int)),se 2 19 [0,1] (.pointer (some ⟨g,off+j,none⟩)),se 3 20 [2] (.slice A' r.length c'),se 4 21 [] (.slice D x.length e),sf 5 22 [3,4] (fun fv fw=>QV fw fw.heap.size fv (bK r x)),se 6 23 [] (.slice (some ⟨g',off',none⟩) b.length d),se 7 24 [] (.int .i64 (j:Int)),se 8 25 [6,7] (.pointer (some ⟨g',off'+j*4,none⟩)),se 9 26 [8] (.agg #[.bool (qx y).1.1,.slice yA yl yc,.bool (qx y).2.1,.slice yB yu yd]),sf 10 27 [9] (fun fv fw=>QV fw fw.heap.size fv (-y)),sf 11 28 [5,10] (fun fv fw=>QV fw fw.heap.size fv (bK r x+-y)),sf 12 9 [] (fun fv fw=>∃ b,fv=.pointer (some ⟨b,0,none⟩)∧CB fw b 28 #[.bool false,.slice none 0 0,.bool false,.slice none 0 0])] [] [12] 1 (SC (fun _ h=>(aIg hE' h).c0) (SC (fun _ h=>(aIg hE' h).c1) (SC (fun _ h=>(aIg hE' h).c2) (SC (fun _ h=>(aIg hE' h).c3) S0)))) (MA (fun _ _ _ h hb=>h.step hb) (MA (fun _ _ _ h hb=>h.step hb) (MA (fun _ _ _ h hb=>h.step hb) (MA (fun _ _ _ h hb=>let ⟨b,e,h⟩:=h;⟨b,e,h.step hb⟩) aFi)))) ?_ ?_ ?_
      · intro xs a_ hA;simp only[SX,↓reduceIte,Nat.reduceEqDiff,Nat.reduceAdd] at hA⊢;subst hA;and_intros
        all_goals intro wk b_ z_
        any_goals (intro f2;intros;(refine aDz (i:=3) (o:=_) rfl (fun K hK=>?_));have qv0:=(aGn b_.o (p:=⟨g,off+j,none⟩) O2.o).trans G2.o;go_simp;(refine hK _ _ ⟨.slice A' r.length c',by simp only[FL,f2] <;> kernel_rfl,aDy _ _,rfl,nF⟩))
        all_goals try exact pn
        · intro f3 f4;intros
          refine wo fun K hK=>?_;go_simp;(with_reducible refine(kR _ _ _ _ _ _ _ r x (H2.o.step aEf b_.o) (P2.o.step aEf b_.o) R2.o).mono ?_)
          rintro e wc11 ⟨v1,v11,rfl,x1⟩;refine hK _ _ ⟨v11,by simp only[FL,f3,f4] <;> kernel_rfl,v1,x1,nF⟩
        · intro f9;intros
          refine wo fun K hK=>?_;go_simp;have E0:=st aHf HY b_;(with_reducible refine(JE _ _ y E0.o (I2.o.mono (by decide) (by decide))).mono ?_)
          rintro e wc13 ⟨y1,v13,rfl,z1⟩;refine hK _ _ ⟨v13,by simp only[FL,f9] <;> kernel_rfl,y1,z1,nF⟩
        · intro f5 f10;intros
          refine wo fun K hK=>?_;go_simp;(with_reducible refine(tH _ _ _ (bK r x) (-y) f5 f10 S2.o I2.o.neg).mono ?_)
          rintro e wc14 ⟨A1,v14,rfl,B1⟩;refine hK _ _ ⟨v14,by kernel_rfl,A1,B1,nF⟩
        · intros
          refine wo fun K hK=>?_;go_simp;refine hK _ _ ⟨.pointer (some ⟨wk.heap.size,0,none⟩),by kernel_rfl,(aDy _ _).alloc (aEa _) _,⟨_,rfl,aHl _ _ _⟩,fun _=>⟨_,rfl,aEa _,by simp⟩⟩
      · exact fun _ _ _=>aFi
      · intro xs e2 hbf _ hn hd;simp only[SY]
        have n12:=hn 12 (by decide);clear hn hd;have B16:=hbf;have z16:=B16.o.size;have C1:=tr HW B16;clear hbf;generalize xs 5=x5,xs 10=x10,xs 11=x11,xs 12=x12 at *
        rintro f5 f10 f11 f12;clear f5;clear f10;obtain⟨V1,W1,X1,Y1,Z1,g0,a2,rfl,ha18,s0,hc18⟩:=f11;have F0:=zz (show QV e2 e2.heap.size (.agg #[.bool V1,.slice W1 X1 Y1,.bool false,.slice Z1 g0 a2]) (bK r x+-y) from⟨_,_,_,_,_,_,_,rfl,ha18,s0,hc18⟩);clear ha18 s0 hc18;obtain⟨R1,rfl,Q1⟩:=f12;have b2:=zz (show wr.heap.size≤R1 by obtain⟨b',e,h,-⟩:=n12;injection e with e;injection e with e;injection e with e _ _;omega);clear n12;have E2:=Q1.lt;have F2:=b2.o;have G0:=cz4 Q1;have L0:=fz4 Q1;refine EN 13 rfl fun K hK=>?_;go_simp;refine hK _ _ ?_;clear hK K;(try simp only[PT])
        clear G0 L0;have m0:=aEd HC.o B16.o;have t0:=aEd HR.o B16.o;obtain⟨w25,b0⟩:=ex ((((e2.setCell ⟨R1,0,none⟩ (.bool V1)).setCell ⟨R1,1,none⟩ (.slice W1 X1 Y1)).setCell ⟨R1,2,none⟩ (.bool false)).setCell ⟨R1,3,none⟩ (.slice Z1 g0 a2));rw[← b0];have S25:=zz (oU b0 Q1 (by simp[aF,aE]));have h0:=rQ b0 m0 (by omega);have u0:=rQ b0 t0 (by omega);have P0:=oV b0 Q1;have Q0:=zz (oW b0 C1.o (by omega));have L1:=oT b0;clear b0;refine ED ?_;(try simp only[Exit.then])
        go_upto_region 6 with (fail)
        refine aFq [se 0 29 [] (.agg #[.bool on,.slice oA ol oc,.bool om_,.slice oB ou od]),se 1 30 [] (.agg #[.bool V1,.slice W1 X1 Y1,.bool false,.slice Z1 g0 a2]),se 2 31 [] (.agg #[.bool V1,.slice W1 X1 Y1,.bool false,.slice Z1 g0 a2]),sf 3 32 [1,2] (fun fv fw=>QV fw fw.heap.size fv ((bK r x+-y)*(bK r x+-y))),sf 4 33 [0,3] (fun fv fw=>QV fw fw.heap.size fv (aJ R R j+(bK r x+-y)*(bK r x+-y)))] 1 (SB h0 (SB P0 S0)) (MA (fun _ _ _ h hb=>h.step hb) (MA (fun _ _ _ h hb=>h.step hb) aFi)) ?_ ?_
        · intro xs a_ hA;simp only[SX,↓reduceIte,Nat.reduceEqDiff,Nat.reduceAdd] at hA⊢;subst hA;and_intros
          all_goals intro wk b_ z_
          all_goals try exact pl
          · intro f1 f2;intros
            refine wo fun K hK=>?_;go_simp;have k0:=zz (aKv F0.o ((S25.o).trans (aJw b_.o)));(with_reducible refine(xH _ _ _ _ _ k0.o k0.o h2.o.1 h2.o.1).mono ?_)
            rintro e wc27 ⟨D1,v27,rfl,E1⟩;refine hK _ _ ⟨v27,by simp only[FL,f1,f2] <;> kernel_rfl,D1,E1⟩
          · intro f0 f3;intros
            refine wo fun K hK=>?_;go_simp;have n0:=zz (aKv HV.o (((aJw B16.o).trans (S25.o)).trans (aJw b_.o)));(with_reducible refine(tH _ _ _ (aJ R R j) _ n0.o f3 h2.o.2.2 h2.o.2.1).mono ?_)
            rintro e wc29 ⟨F1,v29,rfl,G1⟩;refine hK _ _ ⟨v29,by simp only[FL,f0] <;> kernel_rfl,F1,G1⟩
        · intro xs g2 hbf _;simp only[SY]
          have B31:=hbf;have z31:=B31.o.size;have H1:=tr Q0 B31;clear hbf;generalize xs 3=x3,xs 4=x4;rintro f3 f4;clear f3;obtain⟨r2,s2,t2,u2,v2,l0,w2,rfl,ha33,v0,hc33⟩:=f4;have R0:=zz (show QV g2 g2.heap.size (.agg #[.bool r2,.slice s2 t2 u2,.bool false,.slice v2 l0 w2]) (aJ R R j+(bK r x+-y)*(bK r x+-y)) from⟨_,_,_,_,_,_,_,rfl,ha33,v0,hc33⟩);clear ha33 v0 hc33;have a0:=aEd h0 B31.o;have T0:=cz4 a0;have X0:=fz4 a0;refine EN 5 rfl fun K hK=>?_;go_simp;refine hK _ _ ?_;clear hK K;(try simp only[PT])
          clear T0 X0;refine ED ?_;(try simp only[Exit.then])
          have x0:=aEd u0 B31.o;obtain⟨w38,d0⟩:=ex ((((g2.setCell ⟨w1.heap.size,0,none⟩ (.bool r2)).setCell ⟨w1.heap.size,1,none⟩ (.slice s2 t2 u2)).setCell ⟨w1.heap.size,2,none⟩ (.bool false)).setCell ⟨w1.heap.size,3,none⟩ (.slice v2 l0 w2));rw[← d0];have S38:=zz (oU d0 a0 (by simp[aF,aE]));have y0:=rQ d0 x0 ((by have:=o2.o;omega));have o0:=oV d0 a0;have b1:=zz (oW d0 H1.o (by have:=o2.o;omega));have M1:=oT d0;clear d0;have d1:=zz (aKv R0.o (S38.o));go_wp2;go_roundw
          case rel=>exact⟨j+1,_,_,_,_,_,_,_,_,hlt,by go_num,zz o0,zz (by rw[Q2.o];exact d1.o),zz y0,b1⟩
          case measure=>exact ms
    case neg=>
      obtain rfl:j=M.length:=by omega
      have hlt':¬ (M.length:Int)<(M.length:Int):=(by omega);have hob:=o2.o;have zl1:=HC.o.lt;have e1:=cz4 HC.o;have j1:=cz4 HR.o;have n1:=fz4 HR.o;go_wp2;clear e1 j1 n1;obtain⟨w43,e0⟩:=ex ((((wr.setCell ⟨w.heap.size,0,none⟩ (.bool on)).setCell ⟨w.heap.size,1,none⟩ (.slice oA ol oc)).setCell ⟨w.heap.size,2,none⟩ (.bool om_)).setCell ⟨w.heap.size,3,none⟩ (.slice oB ou od));rw[← e0];have S43:=zz (oU e0 HR.o (by simp[aF,aE]));have I1:=rQ e0 HC.o ((by omega));have A0:=oV e0 HR.o;have r1:=zz (oW e0 HW.o (by omega));have N1:=oT e0;clear e0;have p0:=zz (aKv HV.o (S43.o));exact aFv (aMw rfl _ A0 rfl) rfl ⟨r1.o,_,rfl,p0.o⟩
theorem NP {b x:List Rat} (hS:Short 4 M) (hw:∀ r∈M,r.length≤6) (hx:∀ q∈x,QL 600 600 q) (hb:∀ q∈b,QL 4 4 q):∀ q∈fP M b x,QL 4000 4000 q:=by
  intro q hq;unfold fP at hq;obtain⟨i,hi,rfl⟩:=aLg.1 hq;have h1:=eD (hS _ (aEc hi)) hx (by decide) (by decide) (M[i].length);have h2:=hw _ (aEc hi);have h3:(4+600+1)*M[i].length+1≤3631:=by omega
  exact(QL.sub2 (show QL 3631 3631 (bK M[i] x) from h1.mono h3 h3) (aT hb (by decide) i) (m:=3635) (by omega) (by omega)).mono (by omega) (by omega)
theorem WE {r x:List Rat} (hl:r.length=x.length) (h6:r.length≤6) (hr:∀ q∈r,QL 4 4 q) (hx:∀ q∈x,QL 600 600 q):DotOK r x∧QL 60000000 60000000 (bK r x):=by
  refine⟨lQ (aGo hl) hr hx (by decide) (by decide) (aEg (aFf _ (aMy h6)) (by decide)),?_⟩;have h1:=eD hr hx (by decide) (by decide) r.length;exact h1.mono (by omega) (by omega)
theorem RF {q:Rat} {e:Ending} (h:mS w (fO [q]) e):(eS q∧∃ v,e=.returned (.tuple #[v,.int .i64 0]))∨(¬ eS q∧e=.returned (.tuple #[.slice none 0 0,.int .i64 6])):=by
  by_cases hf:eS q
  · exact .inl ⟨hf,sL h (by simpa using hf)⟩
  · exact .inr ⟨hf,sM h (by simpa using hf)⟩
theorem YV {c0 c1 c2 c3:Value} {q:Rat} (h:QV w w.heap.size (.agg #[c0,c1,c2,c3]) q) :
    QS (w.alloc (.cells #[c0,c1,c2,c3] 28)) (w.alloc (.cells #[c0,c1,c2,c3] 28)).heap.size (.slice (some ⟨w.heap.size,0,none⟩) 1 1) ([q].map qx):=by
  refine⟨_,_,rfl,aEa _,by simp,fun _=>⟨w.heap.size,0,rfl,by simp,fun j hj=>?_⟩⟩;obtain rfl:j=0:=by simp at hj;omega
  refine⟨[c0,c1,c2,c3],rfl,fun i u hu=>?_,_,_,_,_,rfl,(aHf h (aB (aDy _ _) _)).qr⟩;have:=iI w 28 [c0,c1,c2,c3] i u hu;rw[Lib.add_plain] at this;simpa using this
theorem aAa (w:World) (A B D:Option Addr) (n c m d k e:Nat) (M:List (List QX)) (b x:List QX) (ha:QM w w.heap.size (.slice A n c) M) (hb:QS w w.heap.size (.slice B m d) b) (hx:QS w w.heap.size (.slice D k e) x) :
    CV 20 #[.slice A n c,.slice B m d,.slice D k e] w fun z w'=>uU w' (cV M b x) z:=by
  have HQ:=zz ha;have HS:=zz hb;have HX:=zz hx;obtain⟨T,hT⟩:=ex (cV M b x);rw[← hT];obtain⟨hn,hn1,hn2⟩:=aHb ha;obtain⟨hm,hm1,hm2⟩:=aHb hb;obtain⟨hk,o2,p2⟩:=aHb hx;have q2:=zz (aEn hn (aEn hm hk));clear ha hb hx hn hm hk;obtain⟨w0,hw0⟩:=ex (w.alloc (.cells #[.bool false,.slice none 0 0,.bool false,.slice none 0 0] 28));have B0:=zz (cK hw0);have z0:=cJ hw0;have Lr6:=cL hw0;cases h1:eA M
  case false=>
    obtain rfl:T=(none,350):=by rw[hT];unfold cV;rw[h1,aEu (fun h=>absurd h.1 (by decide))]
    have H1:=zz h1;clear h1 hT;go_enter Tryz.func20,Tryz.ntmps20
    go_upto_region 1 with (fail)
    rw[← hw0];clear hw0;go_wp2_with fail
    refine(nx B0 (eX _ _ _ _ M (aHo HQ.o (aFl aEf) B0.o))).mono ?_;rintro e w1 ⟨⟨B2,z2,m2⟩,rfl⟩;rw[H1.o];have f0:=aEd Lr6 B2.o;have U1:=cz4 f0;have Y1:=fz4 f0;go_wp2;clear U1 Y1;(try rw[aIq])
    exact aLp (r:=(none,350)) rfl f0 (by simp[aF,aE]) m2.o (by omega) (kA _ _) rfl rfl
  case true=>
    cases h2:dC b
    case false=>
      obtain rfl:T=(none,350):=by rw[hT];unfold cV;rw[h2,aEu (fun h=>absurd h.2 (by decide))]
      have H1:=zz h1;have H2:=zz h2;clear h1 h2 hT;go_enter Tryz.func20,Tryz.ntmps20
      go_upto_region 1 with (fail)
      rw[← hw0];clear hw0;go_wp2_with fail
      refine(nx B0 (eX _ _ _ _ M (aHo HQ.o (aFl aEf) B0.o))).mono ?_;rintro e w7 ⟨⟨B8,z8,S1⟩,rfl⟩;rw[H1.o];go_wp2_with fail
      refine(nx S1 (iG _ _ _ _ b (aHo HS.o aEf S1.o))).mono ?_;rintro e w10 ⟨⟨B11,z11,d2⟩,rfl⟩;rw[H2.o];have W2:=tr B8 B11;have a0:=aEd Lr6 W2.o;have x0:=cz4 a0;have D0:=fz4 a0;go_wp2;clear x0 D0;(try rw[aIq])
      exact aLp (r:=(none,350)) rfl a0 (by simp[aF,aE]) d2.o (by omega) (kA _ _) rfl rfl
    case true=>
      have hA:T=if (x.all fun q=>(qv q).isSome)=true then if b.length=M.length∧x.length=(M.getD 0 []).length then gY (cF (aK M) (aW b) (aW x)) else (none,2) else (none,40):=by rw[hT];unfold cV;rw[h1,h2,aEv ⟨rfl,rfl⟩]
      have HA:=zz hA;have I2:=zz (jM h1);have a3:=zz (fM h2);have H1:=zz h1;have H2:=zz h2;clear h1 h2 hT hA;go_enter Tryz.func20,Tryz.ntmps20
      go_upto_region 1 with (fail)
      rw[← hw0];clear hw0;go_wp2_with fail
      refine(nx B0 (eX _ _ _ _ M (aHo HQ.o (aFl aEf) B0.o))).mono ?_;rintro e w17 ⟨⟨B18,z18,n0⟩,rfl⟩;rw[H1.o];go_wp2_with fail
      refine(nx n0 (iG _ _ _ _ b (aHo HS.o aEf n0.o))).mono ?_;rintro e w20 ⟨⟨B21,z21,e2⟩,rfl⟩;rw[H2.o];have n2:(k:Int)≤9223372036854775807:=by omega
      have m3:=zz (aDy w20.heap.size w20);have Z2:=tr B18 B21;have p0:=aEd Lr6 Z2.o;have n3:=zz p0;have o3:=zz e2.o;go_wp2;go_loopw [8] (fun iv wr=>∃ i:Nat,i≤k∧iv=.int .i64 i∧Hi (∀ j (hj:j<x.length),j<i→(qv x[j]).isSome=true)∧Hi (Below w20.heap.size w20 wr)) (fun iv _=>k-(intOf iv).toNat)
      case atStart=>exact⟨0,aEy _,rfl,zz (fun j _ hj=>absurd hj (aNl _)),m3⟩
      case round=>
        obtain⟨i,hi,rfl,HF,HW⟩:=hrel;rename World=>wr;have zr:=HW.o.size;have r2:=tr o3 HW;have HOr:=st aEd n3 HW
        by_cases hlt:i<k
        case pos=>
          have hlt':(i:Int)<(k:Int):=by omega
          have hii:(0:Int)≤(i:Int)∧(i:Int)<(k:Int):=by omega
          have hix:i<x.length:=by rw[← q2.o.2.2];exact hlt
          have q3:=zz (aHo HX.o aEf r2.o);obtain⟨g,off,xA,xl,xc,xB,xu,xd,hAe,hg,hE,hxv⟩:=aKm q3.o hix;subst hAe;have H0:=ez4 hE;go_wp2_with fail
          clear H0;refine(nx r2 (kO _ _ _ _ _ _ hxv)).mono ?_;rintro e w26 ⟨⟨B27,z27,f2⟩,rfl⟩;by_cases hf:(qv x[i]).isSome=true
          case pos=>
            rw[show(nS x[i].1.1 x[i].1.2 x[i].2.1 x[i].2.2).isSome=true from hf];have r3:=zz (show ∀ j (hj:j<x.length),j<i+1→(qv x[j]).isSome=true from fun j hj hji=>by
              rcases aFk j i with h | h
              · exact HF.o j hj h
              · obtain rfl:j=i:=by omega
                exact hf);clear hf
            have s3:=tr HW B27;clear hE hxv;go_wp2;go_roundw
            case rel=>exact⟨i+1,hlt,by go_num,r3,s3⟩
            case measure=>exact ms
          case neg=>
            rw[show(nS x[i].1.1 x[i].1.2 x[i].2.1 x[i].2.2).isSome=false from Bool.eq_false_iff.2 hf];obtain rfl:T=(none,40):=by rw[HA.o,aEu (fun h=>hf (by simp only[aEx] at h;exact h _ (aEc hix)))]
            clear hf HA hE hxv;have b0:=aEd HOr.o B27.o;have L0:=cz4 b0;have P0:=fz4 b0;go_wp2;clear L0 P0;(try rw[aIq])
            exact aLp (r:=(none,40)) rfl b0 (by simp[aF,aE]) f2.o (by omega) (kA _ _) rfl rfl
        case neg=>
          obtain rfl:k=i:=by omega
          have hlt':¬ (k:Int)<(k:Int):=by omega
          have C2:=zz (show(x.all fun q=>(qv q).isSome)=true by
            simp only[aEx];intro q hq;obtain⟨j,hj,rfl⟩:=List.mem_iff_getElem.1 hq
            exact HF.o j hj (by rw[q2.o.2.2];exact hj));have b3:=zz (CZ C2.o)
          have hM0:0<M.length:=by have:=I2.o.2.2.2.1;omega
          have d3:=zz (aHo HQ.o (aFl aEf) r2.o);obtain⟨g,off,A',c',hAe,hg,hcell,-⟩:=aKy d3.o (j:=0) hM0;subst hAe;rw[aGd,← aG (d:=[]) hM0] at hcell;have hn0:(0:Int)<(n:Int):=by have:=q2.o.1;omega
          have hn0':0<n:=by have:=q2.o.1;omega
          obtain⟨wd,hwd⟩:=ex ((M.getD 0 []).length);rw[← hwd] at hcell;have D2:=zz hwd;clear hwd;by_cases hbm:m=n
          case neg=>
            have hne:((m:Int) != (n:Int))=true:=by rw[aJg];omega
            have hne2:¬ (m=n∧k=wd):=fun h=>hbm h.1
            obtain rfl:T=(none,2):=by rw[HA.o,aEv C2.o,aEu (fun h=>hne2 (by have:=q2.o;have:=D2.o;omega))]
            clear HA;have T0:=cz4 HOr.o;have X0:=fz4 HOr.o;go_wp2;clear T0 X0;(try rw[aIq])
            exact aLp (r:=(none,2)) rfl HOr.o (by simp[aF,aE]) r2.o (by omega) (kA _ _) rfl rfl
          case pos=>
            have hne:((m:Int) != (n:Int))=false:=by rw[aJh];omega
            have e3:=zz hbm;clear hbm;by_cases hkw:k=wd
            case neg=>
              have hne':((k:Int) != (wd:Int))=true:=by rw[aJg];omega
              have hne2:¬ (m=n∧k=wd):=fun h=>hkw h.2
              obtain rfl:T=(none,2):=by rw[HA.o,aEv C2.o,aEu (fun h=>hne2 (by have:=q2.o;have:=D2.o;omega))]
              clear HA;have b1:=cz4 HOr.o;have i1:=fz4 HOr.o;go_wp2;clear b1 i1;(try rw[aIq])
              exact aLp (r:=(none,2)) rfl HOr.o (by simp[aF,aE]) r2.o (by omega) (kA _ _) rfl rfl
            case pos=>
              have hne':((k:Int) != (wd:Int))=false:=by rw[aJh];omega
              have hA2:T=gY (cF (aK M) (aW b) (aW x)):=by rw[HA.o,aEv C2.o,aEv (by have:=q2.o;have:=D2.o;have:=e3.o;omega)]
              obtain⟨k1,k2,k3,k4,k5,k6,k7⟩:=I2.o;obtain⟨g1,g2,g3,g4⟩:=a3.o;obtain⟨v1,v2⟩:=b3.o;have hww:aM (aK M)=k:=by rw[hkw,D2.o];cases M with
                | nil=>simp at hM0
                | cons r t=>simp[aM,aK,aW]
              have hml:(aK M).length=n:=by rw[aK,aEb];exact q2.o.1.symm
              have hrl:(aW b).length=n:=by have:=q2.o;have:=e3.o;rw[aW,aEb];omega
              have hxl:(aW x).length=k:=by rw[aW,aEb];exact q2.o.2.2.symm
              clear hkw;obtain⟨R,hR⟩:=ex (aK M);obtain⟨r,hr⟩:=ex (aW b);obtain⟨y,hy⟩:=ex (aW x);rw[← hR] at hA2 k1 k2 k3 k6 k7 hml hww;rw[← hr] at hA2 g1 g2 hrl;rw[← hy] at hA2 v1 v2 hxl;have t3:=zz (show QM wr wr.heap.size (.slice (some ⟨g,off,none⟩) n c) (R.map (List.map qx)) from k1▸d3.o);have u3:=zz (show QS wr wr.heap.size (.slice B m d) (r.map qx) from g1▸aHo HS.o aEf r2.o);have v3:=zz (show QS wr wr.heap.size (.slice D k e) (y.map qx) from v1▸aHo HX.o aEf r2.o);rw[hww] at k3 k7;have hw6:∀ z∈R,z.length=y.length∧z.length≤6:=fun z hz=>by have:=k3 z hz;omega
              have HP:=zz (show(∀ z∈R,DotOK z y∧QL 60000000 60000000 (bK z y))∧(∀ q∈r,QL 60000000 60000000 q)∧DotOK (fP R r y) (fP R r y) from⟨fun z hz=>WE (hw6 z hz).1 (hw6 z hz).2 (k2 z hz) v2,fun q hq=>(g2 q hq).mono (by decide) (by decide),lQ (aEa _) (NP k2 (fun z hz=>(hw6 z hz).2) v2 g2) (NP k2 (fun z hz=>(hw6 z hz).2) v2 g2) (by decide) (by decide) (aEg (aFf _ (aMy (show(fP R r y).length≤12 by rw[fP,aLb];have:=q2.o;omega))) (by decide))⟩);have f3:=zz (aEn hml hrl);have E2:=zz hA2;clear hA2 HA k1 k2 k3 k4 k5 k6 k7 g1 g2 g3 g4 v1 v2 hww hml hrl hxl hR hr hy hw6 I2 a3 b3 C2;go_wp2_with fail
              clear hcell hg;refine(nx r2 (BV _ _ _ _ _ _ _ _ _ _ R r y t3.o u3.o v3.o (by rw[f3.o.1,f3.o.2];exact aEa _) HP.o.1 HP.o.2.1 HP.o.2.2)).mono ?_;rintro e w36 ⟨⟨B37,z37,i2⟩,v,rfl,hv⟩;obtain⟨s2,t2,u2,w2,x2,i0,y2,rfl,ha39,s0,hc39⟩:=hv;have n1:=zz (show QV w36 w36.heap.size (.agg #[.bool s2,.slice t2 u2 w2,.bool false,.slice x2 i0 y2]) (cF R r y) from⟨_,_,_,_,_,_,_,rfl,ha39,s0,hc39⟩);clear ha39 s0 hc39;go_upto_region 11 with (fail)
              obtain⟨w40,j0⟩:=ex (w36.alloc (.cells #[.bool s2,.slice t2 u2 w2,.bool false,.slice x2 i0 y2] 28));rw[← j0];have g0:=cL j0;have za40:=cJ j0;have B41:=zz (cK j0);have z41:=B41.o.size;have j2:=tr i2 B41;clear j0;have k0:=st aHf n1 B41;have t0:=zz (aB (aDy w40.heap.size w40) (.cells #[.bool s2,.slice t2 u2 w2,.bool false,.slice x2 i0 y2] 28));have h3:=zz (YV k0.o);have o1:=cz4 g0;go_wp2_with fail
              clear o1;obtain⟨wt,hwt⟩:=ex (w40.alloc (.cells #[.bool s2,.slice t2 u2 w2,.bool false,.slice x2 i0 y2] 28));rw[← hwt] at t0 h3 ⊢;clear hwt;have T1:=t0.o;clear t0;have B45:=zz T1;have z45:=B45.o.size;have l2:=tr j2 B45;clear T1;refine(nx l2 (sN _ _ _ _ [cF R r y] h3.o)).mono ?_;rintro e w47 ⟨⟨B48,z48,v0⟩,hr⟩;rcases RF hr with ⟨hf,v,rfl⟩ | ⟨hf,rfl⟩
              · obtain rfl:T=(some (cF R r y),0):=by rw[E2.o,gY,aEv hf]
                clear hf hr E2;have P3:=tr B45 B48;have h0:=aEd g0 P3.o;have s1:=cz4 h0;have y1:=st aHf k0 P3;have W3:=tr B37 B41;have Y3:=tr W3 B45;have X3:=tr Y3 B48;have d0:=aEd HOr.o X3.o;have z1:=cz4 d0;have D1:=fz4 d0;go_wp2;clear s1 z1 D1;(try rw[aIq])
                exact aLp (r:=(some (cF R r y),0)) rfl d0 (by simp[aF,aE]) v0.o (by omega) y1.o rfl rfl
              · obtain rfl:T=(none,6):=by rw[E2.o,gY,aEu hf]
                clear hf hr E2;have Z3:=tr B37 B41;have M3:=tr Z3 B45;have N3:=tr M3 B48;have e0:=aEd HOr.o N3.o;have I1:=cz4 e0;have M1:=fz4 e0;go_wp2;clear I1 M1;(try rw[aIq])
                exact aLp (r:=(none,6)) rfl e0 (by simp[aF,aE]) v0.o (by omega) (kA _ _) rfl rfl
end Go.Proofs.YtencnahjgbdeoaaGreatDoor
