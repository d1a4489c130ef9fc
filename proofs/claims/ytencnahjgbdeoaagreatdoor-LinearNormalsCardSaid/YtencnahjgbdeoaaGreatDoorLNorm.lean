/- The law LinearNormals, walked (written by gen_normals.py). -/
import Derived.Test.YtencnahjgbdeoaaGreatDoorWc
import Derived.Test.YtencnahjgbdeoaaGreatDoorWall
import Derived.Test.YtencnahjgbdeoaaGreatDoorRg
namespace Go.Proofs.YtencnahjgbdeoaaGreatDoor
open Go Go.RowKit Dig
set_option maxRecDepth 100000
set_option maxHeartbeats 4000000
set_option linter.unusedSimpArgs false
variable {w:World}
theorem retN_any {r:Option (List (List Rat) × List Rat) × Int} {e:Ending} (h:aBb w r e):∃ A n c B m d M v,e=.returned (.tuple #[.slice A n c,.slice B m d,.int .i64 r.2])∧QM w w.heap.size (.slice A n c) M∧QS w w.heap.size (.slice B m d) v∧M=((r.1.map Prod.fst).getD []).map (List.map qx)∧v=((r.1.map Prod.snd).getD []).map qx:=by
  obtain⟨v1,v2,rfl,hv⟩:=h;rcases r with ⟨_ | ⟨l,k⟩,n⟩
  · obtain⟨rfl,rfl⟩:v1=.slice none 0 0∧v2=.slice none 0 0:=hv
    exact⟨none,0,0,none,0,0,[],[],rfl,SL.nil _ _ _ _,SL.nil _ _ _ _,rfl,rfl⟩
  · obtain⟨h1,h2⟩:=hv
    obtain⟨A,c,rfl,-⟩:=aHi h1;obtain⟨B,d,rfl,-⟩:=aHi h2;exact⟨A,_,c,B,_,d,_,_,rfl,h1,h2,rfl,rfl⟩
noncomputable def qoX:Option Rat→QX
  | some q=>qx q
  | none=>((false,[]),(false,[]))
theorem retQ_any {r:Option Rat × Int} {e:Ending} (h:uU w r e):∃ n A l c m A' l' c',e=.returned (.tuple #[.agg #[.bool n,.slice A l c,.bool m,.slice A' l' c'],.int .i64 r.2])∧QR w w.heap.size (.agg #[.bool n,.slice A l c,.bool m,.slice A' l' c']) (qoX r.1).1.1 (qoX r.1).1.2 (qoX r.1).2.1 (qoX r.1).2.2:=by
  obtain⟨v,rfl,hv⟩:=h;obtain⟨n,A,l,c,m,A',l',c',rfl⟩:=aMh hv;refine⟨n,A,l,c,m,A',l',c',rfl,?_⟩;rcases r with ⟨_ | q,k⟩
  · exact hv
  · exact QV.qr hv
theorem alike_one {c0 c1 c2 c3 d0 d1 d2 d3:Value} {q:QX} {e:Int} {b1 b2:Nat} (h1:CB w b1 28 #[c0,c1,c2,c3]) (h2:CB w b2 28 #[d0,d1,d2,d3]) (ha:QR w w.heap.size (.agg #[c0,c1,c2,c3]) q.1.1 q.1.2 q.2.1 q.2.2) (hb:QR w w.heap.size (.agg #[d0,d1,d2,d3]) q.1.1 q.1.2 q.2.1 q.2.2) :
    CV 15 #[.slice (some ⟨b1,0,none⟩) 1 1,.int .i64 e,.slice (some ⟨b2,0,none⟩) 1 1,.int .i64 e] w fun x _=>x=.returned (.bool true):=by
  have one:∀ {b:Nat} {x0 x1 x2 x3:Value},CB w b 28 #[x0,x1,x2,x3]→QR w w.heap.size (.agg #[x0,x1,x2,x3]) q.1.1 q.1.2 q.2.1 q.2.2→QS w w.heap.size (.slice (some ⟨b,0,none⟩) 1 1) [q]:=fun {b x0 x1 x2 x3} h hq=>
    ⟨_,_,rfl,aEa _,by simp,fun _=>⟨b,0,rfl,h.lt,fun j hj=>by
      obtain rfl:j=0:=by simp at hj;omega
      exact⟨[x0,x1,x2,x3],rfl,fun i v hv=>by rw[show 0+0*4+i=i by omega];exact h.cell i (by simpa using hv),_,_,_,_,rfl,hq⟩⟩⟩
  exact alike_same (one h1 ha) (one h2 hb)
theorem LinearNormals_any (w:World) (_G:Glob w) (M:MaxL w) (vx:Value) (A C:List (List QX)) (b d f:List QX) (l:QX) (hx:RAWV w w.heap.size vx A C b d f l) (v:Value) (r c:Int) (N D:List Int) (h:DV w w.heap.size v r c N D) (v2:Value) (r2 c2:Int) (N2 D2:List Int) (h2:DV w w.heap.size v2 r2 c2 N2 D2) :
    CV 4 #[vx,v,v2] w fun e _=>e=.returned (.bool true):=by
  have a4:=zz hx;obtain⟨s0,s1,s2,s3,s4,c0,c1,c2',c3,rfl,hA,hC,hb,hd,hf,hl⟩:=hx;obtain⟨o0,p0,rfl,-⟩:=aHi hA;obtain⟨r0,u0,rfl,-⟩:=aHi hC;obtain⟨v0,x0,rfl,-⟩:=aHi hb;obtain⟨y0,A0,rfl,-⟩:=aHi hd;obtain⟨C0,D0,rfl,-⟩:=aHi hf;generalize hn0:A.length=E0 at *
  generalize hn1:C.length=F0 at *
  generalize hn2:b.length=G0 at *
  generalize hn3:d.length=H0 at *
  generalize hn4:f.length=I0 at *
  obtain⟨qA,ql,qc,qB,qu,qd,he,-⟩:=QX.cells hl;injection he with q0 he;injection he with q1 he;injection he with q2 he;injection he with q3 he;subst q0;subst q1;subst q2;subst q3;clear hl hA hC hb hd hf he hn0 hn1 hn2 hn3 hn4
  obtain⟨P,pa,P',pa',rfl,h0⟩:=h.parts;obtain⟨R,ra,R',ra',rfl,h02⟩:=h2.parts;have HM:=zz M;have b4:=zz h;have c4:=zz h2;clear h h2 h0 h02 M;obtain⟨w0,hw0⟩:=ex (((w.alloc (.cells #[.slice o0 E0 p0,.slice r0 F0 u0,.slice v0 G0 x0,.slice y0 H0 A0,.slice C0 I0 D0,.bool l.1.1,.slice qA ql qc,.bool l.2.1,.slice qB qu qd] 30)).alloc (.cells #[.int .u8 r,.int .u8 c,.slice P N.length pa,.slice P' D.length pa'] 34)).alloc (.cells #[.int .u8 r2,.int .u8 c2,.slice R N2.length ra,.slice R' D2.length ra'] 34));have B0:=zz (rS hw0);have z0:=rR hw0;have Lxb:=rX hw0;have Ldd:=rW hw0;have Ldc:=rT hw0;go_enter Tryz.func4,Tryz.ntmps4
  go_upto_region 1 with (fail)
  rw[← hw0];clear hw0;go_wp2_with fail
  refine(nx B0 (aCx _ (HM.o.step B0.o))).mono ?_;rintro e w1 ⟨⟨B2,z2,L0⟩,rfl⟩;have e0:=aEd Lxb B2.o;have f3:=e0.cell 0 rfl;have g3:=e0.cell 1 rfl;have h3:=e0.cell 2 rfl;have i3:=e0.cell 3 rfl;have j3:=e0.cell 4 rfl;have l3:=e0.cell 5 rfl;have m3:=e0.cell 6 rfl;have n3:=e0.cell 7 rfl;have o3:=e0.cell 8 rfl;have U3:=e0.lt;have j0:=aEd Ldd B2.o;have p3:=cz4 j0;have k0:=aEd Ldc B2.o;have u1:=cz4 k0;go_wp2_with fail
  refine(nx L0 (aDa _ _ A C b d f l (a4.o.step L0.o) _ r c N D (b4.o.step L0.o) _ r2 c2 N2 D2 (c4.o.step L0.o))).mono ?_;rintro e w4 ⟨⟨B11,z11,v3⟩,g,x,y,z,u,rfl,hR,hC⟩;clear f3 g3 h3 i3 j3 l3 m3 n3 o3 U3 p3 u1;have HR:=zz (raws_at hR hC);clear hR hC;go_wp2;go_loopw [27] (fun iv wr=>∃ i:Nat,i≤4∧iv=.int .i64 i∧Hi (Below w4.heap.size w4 wr)) (fun iv _=>4-(intOf iv).toNat)
  case atStart=>exact⟨0,by omega,rfl,zz (aDy _ _)⟩
  case round=>
    obtain⟨i,hi,rfl,HW⟩:=hrel;rename World=>wr;have zr:=HW.o.size;have W3:=tr v3 HW
    by_cases hlt:i<4
    case neg=>
      obtain rfl:i=4:=by omega
      have hlt':¬ ((4:Nat):Int)<4:=by decide
      go_wp2;go_ret;exact⟨W3.o,rfl⟩
    case pos=>
      have hlt':(i:Int)<4:=by omega
      have hii:(0:Int)≤(i:Int)∧(i:Int)<4:=by omega
      obtain⟨cs,hcs,hat⟩:=HR.o i hlt;have hat:=hat.step (by rw[hcs.len];decide) HW.o;obtain⟨o0,r0,v0,y0,C0,qA,qB,E0,p0,F0,u0,G0,x0,H0,A0,I0,D0,ql,qc,qu,qd,q0,q2,A',C',b',d',f',l',rfl,kA,kC,kb,kd,kf,kl⟩:=(hcs.step HW.o).open;clear hcs;have d4:=zz kA;have z4:=zz kC;have e4:=zz kb;have f4:=zz kd;have A4:=zz kf;have B4:=zz kl;clear kA kC kb kd kf kl;have hat9:g<wr.heap.size:=iX (hat 0 _ rfl);go_upto_region 5 with (fail)
      go_wp2_with (refine wll_at rfl 30 _ rfl g (i*9) rfl [.slice o0 E0 p0,.slice r0 F0 u0,.slice v0 G0 x0,.slice y0 H0 A0,.slice C0 I0 D0,.bool q0,.slice qA ql qc,.bool q2,.slice qB qu qd] _ hat Tryz.underlying30 rfl (by kernel_rfl) ?_)
      go_upto_region 6 with (fail)
      clear hat hat9;obtain⟨w13,l0⟩:=ex (wr.alloc (.cells #[.slice o0 E0 p0,.slice r0 F0 u0,.slice v0 G0 x0,.slice y0 H0 A0,.slice C0 I0 D0,.bool q0,.slice qA ql qc,.bool q2,.slice qB qu qd] 30));rw[← l0];have a0:=cL l0;have za13:=cJ l0;have B14:=zz (cK l0);have z14:=B14.o.size;have w3:=tr W3 B14;clear l0;obtain⟨t,ht⟩:∃ t,dZ A' b'=t:=⟨_,rfl⟩;have HT:=zz ht;clear ht;have C1:=a0.cell 0 rfl;have D1:=a0.cell 1 rfl;have E1:=a0.cell 2 rfl;have F1:=a0.cell 3 rfl;have G1:=a0.cell 4 rfl;have H1:=a0.cell 5 rfl;have I1:=a0.cell 6 rfl;have J1:=a0.cell 7 rfl;have K1:=a0.cell 8 rfl;have N3:=a0.lt;go_wp2_with fail
      have M0:=st QN.step d4 B14;have N0:=st QZ.step e4 B14;refine(nx w3 ((show Calls Tryz.prog _ _ _ _ from HT.o▸JG _ _ _ _ _ _ _ _ _ M0.o N0.o))).mono ?_;rintro e w16 ⟨⟨B20,z20,x3⟩,hr⟩;clear C1 D1 E1 F1 G1 H1 I1 J1 K1 N3;obtain⟨A1,n1,c1,B1,m1,d1,M1,V1,rfl,hm,hv,em,ev⟩:=retN_any hr;have h4:=zz hm;have i4:=zz hv;have X3:=zz em;have Y3:=zz ev;clear hr hm hv em ev;go_upto_region 7 with (fail)
      have b0:=aEd a0 B20.o;have L1:=b0.cell 0 rfl;have N1:=b0.cell 1 rfl;have O1:=b0.cell 2 rfl;have P1:=b0.cell 3 rfl;have Q1:=b0.cell 4 rfl;have R1:=b0.cell 5 rfl;have S1:=b0.cell 6 rfl;have T1:=b0.cell 7 rfl;have U1:=b0.cell 8 rfl;have O3:=b0.lt;go_wp2_with fail
      have O0:=st QN.step M0 B20;have P0:=st QZ.step N0 B20;refine(nx x3 ((show Calls Tryz.prog _ _ _ _ from HT.o▸aAm _ _ _ _ _ _ _ _ _ O0.o P0.o))).mono ?_;rintro e w22 ⟨⟨B27,z27,y3⟩,hr⟩;clear L1 N1 O1 P1 Q1 R1 S1 T1 U1 O3;have K0:=st QN.step h4 B27;obtain⟨A2,n2,c2_,B2,m2,d2,M2,V2,rfl,hm,hv,em,ev⟩:=retN_any hr;obtain rfl:M2=M1:=em.trans X3.o.symm;obtain rfl:V2=V1:=ev.trans Y3.o.symm;obtain⟨e1,e2,e3⟩:=aHb hm;obtain⟨k1,k2,k3⟩:=aHb K0.o;obtain rfl:n1=n2:=k1.trans e1.symm;have j4:=zz k1;have k4:=zz (show n1≤9223372036854775807 by omega);have l4:=zz hm;have m4:=zz hv;clear hr hm hv em ev X3 Y3 e1 e2 e3 k1 k2 k3;generalize t.2=E;go_upto_region 8 with (fail)
      go_wp2_with fail
      have V0:=st QZ.step i4 B27;refine(nx y3 (alike_same V0.o m4.o)).mono ?_;rintro e w30 ⟨⟨B32,z32,z3⟩,rfl⟩;have X0:=st QN.step K0 B32;have Y0:=st QN.step l4 B32;have M3:=tr B27 B32;have W1:=aEd b0 M3.o;have n4:=zz X0.o;have o4:=zz Y0.o;have Y1:=st QN.step O0 M3;have Z1:=st QZ.step P0 M3;have P4:=tr B14 B20;have W4:=tr P4 B27;have Y4:=tr W4 B32;have a2:=st QZ.step f4 Y4;go_wp2;go_loopw [64] (fun jv wx=>∃ j:Nat,j≤n1∧jv=.int .i64 j∧Hi (Below w30.heap.size w30 wx)) (fun jv _=>n1-(intOf jv).toNat)
      case atStart=>exact⟨0,aEy _,rfl,zz (aDy _ _)⟩
      case round=>
        obtain⟨j,hj,rfl,HX⟩:=hrel;rename World=>wx;have zx:=HX.o.size;have Z3:=tr z3 HX
        by_cases hjt:j<n1
        case pos=>
          have hjt':(j:Int)<(n1:Int):=by omega
          have hjj:(0:Int)≤(j:Int)∧(j:Int)<(n1:Int):=by omega
          have hnn:=k4.o;have hjm:j<M2.length:=by rw[← j4.o];exact hjt
          have Z0:=st QN.step n4 HX;have a1:=st QN.step o4 HX;obtain⟨g1,o1,X1,x1,hA1,hg1,hc1,hr1⟩:=aKy Z0.o hjm;obtain⟨g2,o2,X2,x2,hA2,hg2,hc2,hr2⟩:=aKy a1.o hjm;subst hA1;subst hA2;have p4:=zz hr1;have q4:=zz hr2;clear hr1 hr2;generalize r4:M2[j].length=rl at *;clear r4;go_upto_region 13 with (fail)
          have H3:∀ w':World,Below wx.heap.size wx w'→(Below wx.heap.size wx w'∧w'.cell? ⟨g1,o1+j,none⟩=some (.slice X1 rl x1)∧w'.cell? ⟨g2,o2+j,none⟩=some (.slice X2 rl x2)):=fun w' h=>⟨h,((h).cell hg1).trans hc1,((h).cell hg2).trans hc2⟩
          refine aIr 9 (fun w'=>Below wx.heap.size wx w'∧w'.cell? ⟨g1,o1+j,none⟩=some (.slice X1 rl x1)∧w'.cell? ⟨g2,o2+j,none⟩=some (.slice X2 rl x2)) (by kernel_rfl) ?_;refine ET 0 (.slice (some ⟨g1,o1,none⟩) n1 c1) rfl (Or.inl ⟨by rfl,?_⟩) ?_ ?_
          · intro w' hSw;obtain⟨-,t0,t1⟩:=hSw;go_simp
          · exact H3 _ (aA (aDy _ _))
          (try simp only[PT])
          refine ET 1 (.int .i64 (j:Int)) rfl (Or.inl ⟨by rfl,?_⟩) ?_ ?_
          · intro w' hSw;obtain⟨-,t0,t1⟩:=hSw;go_simp
          · exact H3 _ (aA (aDy _ _))
          (try simp only[PT])
          refine ET 2 (.pointer (some ⟨g1,o1+j,none⟩)) rfl (Or.inl ⟨by rfl,?_⟩) ?_ ?_
          · intro w' hSw;obtain⟨-,t0,t1⟩:=hSw;go_simp
          · exact H3 _ (aA (aDy _ _))
          (try simp only[PT])
          refine ET 3 (.slice X1 rl x1) rfl (Or.inl ⟨by rfl,?_⟩) ?_ ?_
          · intro w' hSw;obtain⟨-,t0,t1⟩:=hSw;go_simp
          · exact H3 _ (aA (aDy _ _))
          (try simp only[PT])
          refine ET 4 (.slice (some ⟨g2,o2,none⟩) n1 c2_) rfl (Or.inl ⟨by rfl,?_⟩) ?_ ?_
          · intro w' hSw;obtain⟨-,t0,t1⟩:=hSw;go_simp
          · exact H3 _ (aA (aDy _ _))
          (try simp only[PT])
          refine ET 5 (.int .i64 (j:Int)) rfl (Or.inl ⟨by rfl,?_⟩) ?_ ?_
          · intro w' hSw;obtain⟨-,t0,t1⟩:=hSw;go_simp
          · exact H3 _ (aA (aDy _ _))
          (try simp only[PT])
          refine ET 6 (.pointer (some ⟨g2,o2+j,none⟩)) rfl (Or.inl ⟨by rfl,?_⟩) ?_ ?_
          · intro w' hSw;obtain⟨-,t0,t1⟩:=hSw;go_simp
          · exact H3 _ (aA (aDy _ _))
          (try simp only[PT])
          refine ET 7 (.slice X2 rl x2) rfl (Or.inl ⟨by rfl,?_⟩) ?_ ?_
          · intro w' hSw;obtain⟨-,t0,t1⟩:=hSw;go_simp
          · exact H3 _ (aA (aDy _ _))
          (try simp only[PT])
          refine en 8 rfl fun K hK=>?_;go_simp;(with_reducible refine(yS _ _ _ _ _ _ _ _ _ (QZ.step p4.o (aA (aDy _ _))) (QZ.step q4.o (aA (aDy _ _)))).mono ?_)
          rintro e w47 ⟨J0,rfl⟩;replace J0:Below wx.heap.size wx w47:=aR J0;have B48:=zz J0;have z48:=B48.o.size;have F3:=tr Z3 B48;clear J0;refine hK _ _ (fun _=>H3 _ B48.o) ?_;clear hK K;(try simp only[PT])
          refine en 9 rfl fun K hK=>?_;go_simp;refine hK _ _ (fun _=>H3 _ (B48.o)) ?_;clear hK K;(try simp only[PT])
          refine aIj (by kernel_rfl) ?_ _;(try simp only[Exit.then])
          clear H3;have P3:=tr HX B48;go_wp2;go_roundw
          case rel=>exact⟨j+1,hjt,by go_num,P3⟩
          case measure=>exact ms
        case neg=>
          obtain rfl:n1=j:=by omega
          have hjt':¬ (n1:Int)<(n1:Int):=by omega
          obtain⟨q,hq⟩:∃ q,cV A' b' d'=q:=⟨_,rfl⟩;have HQ:=zz hq;clear hq;have d0:=aEd W1 HX.o;have b2:=d0.cell 0 rfl;have f2:=d0.cell 1 rfl;have i2:=d0.cell 2 rfl;have j2:=d0.cell 3 rfl;have l2:=d0.cell 4 rfl;have p2:=d0.cell 5 rfl;have t2:=d0.cell 6 rfl;have u2:=d0.cell 7 rfl;have w2:=d0.cell 8 rfl;have Q3:=d0.lt;go_wp2_with fail
          have Q0:=st QN.step Y1 HX;have R0:=st QZ.step Z1 HX;have S0:=st QZ.step a2 HX;refine(nx Z3 ((show Calls Tryz.prog _ _ _ _ from HQ.o▸CJ _ _ _ _ _ _ _ _ _ _ _ _ _ Q0.o R0.o S0.o))).mono ?_;rintro e w50 ⟨⟨B56,z56,A3⟩,hr⟩;clear b2 f2 i2 j2 l2 p2 t2 u2 w2 Q3;obtain⟨xn,xA,xl,xc,xm,xB,xu,xd,rfl,hx1⟩:=retQ_any hr;have u4:=zz hx1;clear hr hx1;go_upto_region 17 with (fail)
          obtain⟨w58,m0⟩:=ex (w50.alloc (.cells #[.bool xn,.slice xA xl xc,.bool xm,.slice xB xu xd] 28));rw[← m0];have f1:=cL m0;have za58:=cJ m0;have B59:=zz (cK m0);have z59:=B59.o.size;have B3:=tr A3 B59;clear m0;have X4:=tr B56 B59;have f0:=aEd d0 X4.o;have y2:=f0.cell 0 rfl;have C2:=f0.cell 1 rfl;have F2:=f0.cell 2 rfl;have G2:=f0.cell 3 rfl;have H2:=f0.cell 4 rfl;have I2:=f0.cell 5 rfl;have J2:=f0.cell 6 rfl;have K2:=f0.cell 7 rfl;have L2:=f0.cell 8 rfl;have R3:=f0.lt;go_wp2_with fail
          have O2:=st QN.step Q0 X4;have P2:=st QZ.step R0 X4;have Q2:=st QZ.step S0 X4;refine(nx B3 ((show Calls Tryz.prog _ _ _ _ from HQ.o▸aAa _ _ _ _ _ _ _ _ _ _ _ _ _ O2.o P2.o Q2.o))).mono ?_;rintro e w61 ⟨⟨B68,z68,C3⟩,hr⟩;clear y2 C2 F2 G2 H2 I2 J2 K2 L2 R3;obtain⟨yn,yA,yl,yc,ym,yB,yu,yd,rfl,hx2⟩:=retQ_any hr;have P3:=zz hx2;clear hr hx2;generalize q.2=E2;go_upto_region 18 with (fail)
          obtain⟨w70,n0⟩:=ex (w61.alloc (.cells #[.bool yn,.slice yA yl yc,.bool ym,.slice yB yu yd] 28));rw[← n0];have g0:=cL n0;have za70:=cJ n0;have B71:=zz (cK n0);have z71:=B71.o.size;have D3:=tr C3 B71;clear n0;have Z4:=tr B68 B71;have i0:=aEd f1 Z4.o;have R2:=cz4 i0;have W2:=cz4 g0;go_wp2_with fail
          have M4:=tr B59 B68;have N4:=tr M4 B71;have i1:=st aHz u4 N4;have j1:=st aHz P3 B71;obtain⟨wl,hwl⟩:=ex ((w70.alloc (.cells #[.bool xn,.slice xA xl xc,.bool xm,.slice xB xu xd] 28)).alloc (.cells #[.bool yn,.slice yA yl yc,.bool ym,.slice yB yu yd] 28));rw[← hwl];have hbl:=(pK hwl);have zl:=pJ hwl;have Ll1:=pM hwl;have Ll2:=pL hwl;clear hwl;have B81:=zz hbl;have z81:=B81.o.size;have E3:=tr D3 B81;clear hbl;clear R2 W2;have l1:=st aHz i1 B81;have p1:=st aHz j1 B81;refine(nx E3 (alike_one Ll1 Ll2 l1.o p1.o)).mono ?_;rintro e w83 ⟨⟨B86,z86,G3⟩,rfl⟩;have Q4:=tr Y4 HX;have P5:=tr Q4 B56;have W5:=tr P5 B59;have Y5:=tr W5 B68;have X5:=tr Y5 B71;have Z5:=tr X5 B81;have M5:=tr Z5 B86;have v4:=tr HW M5;go_wp2;go_roundw
          case rel=>exact⟨i+1,hlt,by go_num,v4⟩
          case measure=>exact ms
end Go.Proofs.YtencnahjgbdeoaaGreatDoor
