/- Texts put together. -/
import Derived.Test.YtencnahjgbdeoaaGreatDoorWd
import Derived.Test.YtencnahjgbdeoaaGreatDoorLx
import Derived.Test.YtencnahjgbdeoaaGreatDoorWab
import Derived.Test.YtencnahjgbdeoaaGreatDoorQK
import Derived.Test.YtencnahjgbdeoaaGreatDoorQL
namespace Go.Proofs.YtencnahjgbdeoaaGreatDoor
open Go Go.RowKit Dig
set_option maxRecDepth 100000
set_option maxHeartbeats 4000000
set_option linter.unusedSimpArgs false
def bE (N D:List Int) (f n:Nat):List Rat:=(List.range n).map fun i=>cQ N D (f+i)
theorem qC (N D:List Int) (f n:Nat):bE N D f (n+1)=bE N D f n++[cQ N D (f+n)]:=by unfold bE;rw[aNm,aGc];rfl
theorem bQ (N D:List Int) (f n:Nat):(bE N D f n).length=n:=by simp[bE]
theorem wH (w:World) (v:Value) (r c:Int) (N D:List Int) (n f:Nat) (h:DV w w.heap.size v r c N D) (hn:n≤1000) (hf:f≤1000) :
  CV 86 #[v,.int .i64 (n:Int),.int .i64 (f:Int)] w fun e w'=>∃ v,e=.returned v∧OA 4 EQ 28 w' w.heap.size v ((bE N D f n).map qx):=by
 obtain⟨A,ca,A',cd,rfl,h0,hN,hD⟩:=h;have y0:=zz (show DV w w.heap.size (.agg #[.int .u8 r,.int .u8 c,.slice A N.length ca,.slice A' D.length cd]) r c N D from⟨A,ca,A',cd,rfl,h0,hN,hD⟩);clear hN hD;obtain⟨iq,hiq,hzq,hsq,hbq⟩:=aGf fH;obtain⟨w0,hw0⟩:=ex (w.alloc (.cells #[.int .u8 r,.int .u8 c,.slice A N.length ca,.slice A' D.length cd] 34));have B0:=zz (cK hw0);have z0:=cJ hw0;have Ld:=cL hw0;go_enter Tryz.func86,Tryz.ntmps86
 go_upto_region 2 with (fail)
 rw[← hw0];clear hw0;have A0:=zz Ld;have hfn:(f:Int)≤1000∧(n:Int)≤1000:=by omega
 go_wp2;go_loopw [7,8] (fun ov iv wr=>∃ j:Nat,j≤n∧iv=.int .i64 j∧Hi (OA 4 EQ 28 wr w0.heap.size ov ((bE N D f j).map qx))∧Hi (Below w0.heap.size w0 wr)) (fun _ iv _=>n-(intOf iv).toNat)
 case atStart=>exact⟨0,aEy _,rfl,zz OA.nil,zz (aDy _ _)⟩
 case round=>
  obtain⟨j,hj,rfl,HO,HW⟩:=hrel;have zr:=HW.o.size;by_cases hlt:j<n
  case pos=>
   have hlt':(j:Int)<(n:Int):=by omega
   have D0:=zz (show f+j≤3000000000 by omega);have hfj:wrap64 ((f:Int)+(j:Int))=((f+j:Nat):Int):=by rw[lE (by omega) (by omega)];omega
   have v0:=tr B0 HW;have a0:=aEd A0.o HW.o;have g0:=cz4 a0;go_wp2_with fail
   refine(nx v0 (tQ _ _ r c N D (f+j) (y0.o.step v0.o) D0.o)).mono ?_;rintro e w3 ⟨⟨B4,z4,d0⟩,v,rfl,hv⟩;clear g0;obtain⟨o0,p0,q0,r0,s0,b0,t0,rfl,ha6,f0,hc6⟩:=hv;have l0:=zz (show QV w3 w3.heap.size (.agg #[.bool o0,.slice p0 q0 r0,.bool false,.slice s0 b0 t0]) (cQ N D (f+j)) from⟨_,_,_,_,_,_,_,rfl,ha6,f0,hc6⟩);clear ha6 f0 hc6;have E0:=zz (HO.o.step aEf B4.o);have x0:=zz (HW.o.trans ((B4.o).mono HW.o.size));have c0:Below w3.heap.size w3 (w3.alloc (.cells #[.bool o0,.slice p0 q0 r0,.bool false,.slice s0 b0 t0] 28)):=aB (aDy _ _) _;have F0:=zz (E0.o.step aEf c0);have G0:=zz ((aHf l0.o c0).qr);have d0:=zz (x0.o.trans (c0.mono x0.o.size));clear c0;go_wp2_with (at_builtin;go_loud (refine aO rfl _ _ _ rfl w0.heap.size 28 iq _ 64 Tryz.underlying23 hiq hzq hsq hbq rfl (by decide) (by decide) aEf aIz F0.o rfl ⟨w3.heap.size,0,none⟩ 1 [qx (cQ N D (f+j))] rfl Nat.one_pos [.bool o0,.slice p0 q0 r0,.bool false,.slice s0 b0 t0] (aLt rfl ⟨_,_,_,_,rfl,G0.o⟩) (iI _ _ [_,_,_,_]) (by intro u hu;simp at hu;rcases hu with rfl | rfl | rfl | rfl <;> rfl) (by simp only[aEb,bQ,aEl,aEm,maxLen];omega) (by simp only[aEb,bQ,aEl,aEm];omega) (by have:=d0.o.size;simpa using this) ?_))
   intro v' w' hoa hb hs' hg' hat;have H0:Hi (OA 4 EQ 28 w' w0.heap.size v' ((bE N D f (j+1)).map qx)):=zz (by rw[qC,aGc];exact hoa);have m0:=zz (d0.o.trans hb);clear hoa hb hs' hg' hat;go_wp2;go_roundw
   case rel=>exact⟨j+1,hlt,by go_num,H0,m0⟩
   case measure=>exact ms
  case neg=>
   obtain rfl:j=n:=by omega
   have hlt':¬ (j:Int)<(j:Int):=by omega
   go_wp2;go_ret;exact⟨B0.o.trans (HW.o.mono B0.o.size),_,rfl,HO.o.weak B0.o.size⟩
theorem KW (w:World) (v:Value) (r c:Int) (N D:List Int) (n f:Nat) (h:DV w w.heap.size v r c N D) (hn:n≤1000) (hf:f≤1000) :
  CV 86 #[v,.int .i64 (n:Int),.int .i64 (f:Int)] w fun e w'=>∃ v,e=.returned v∧QS w' w'.heap.size v ((bE N D f n).map qx):=
 (wH w v r c N D n f h hn hf).mono fun _ _ ⟨hb,v,e,ho⟩=>⟨hb,v,e,ho.sl⟩
theorem OA.block {α:Type} {k:Nat} {E:Elem α} {T:TypeId} {w:World} {B n:Nat} {v:Value} {l:List α} (h:OA k E T w B v l) (hn:l.length=n) (h0:0<n):∃ g cap,v=.slice (some ⟨g,0,none⟩) n cap∧B≤g∧(n≤cap∧cap≤9223372036854775807)∧OB k E T w g cap l:=by
 rcases h with ⟨-,rfl⟩ | ⟨g,cap,rfl,h2,h3,h4⟩
 ·simp at hn;omega
 ·exact⟨g,cap,by rw[hn],h2,⟨by rw[← hn];exact h4.len,h3⟩,h4⟩
theorem LL:(Tryz.prog.info? 23).map (fun i=>(i.zero,i.size,i.bytes))=some (some (.slice none 0 0),1,24):=by kernel_rfl
def oS (N D:List Int) (k i:Nat):List Rat:=bE N D (4*i) k
def aY (N D:List Int) (k n:Nat):List (List Rat):=(List.range n).map (oS N D k)
theorem KT (N D:List Int) (k n:Nat):aY N D k (n+1)=aY N D k n++[oS N D k n]:=by unfold aY;rw[aNm,aGc];rfl
theorem bY (N D:List Int) (k n:Nat):(aY N D k n).length=n:=by simp[aY]
def qN (r c:Int) (N D:List Int):List (List Rat):=aY N D (1+(c % 4).toNat) (1+(r % 6).toNat)
def NewMat (Z:Nat) (w:World) (v:Value) (M:List (List QX)):Prop:=∃ B G C,Z≤B∧OMV 4 EQ 28 23 w B v G C M
theorem tR (w:World) (v:Value) (r c:Int) (N D:List Int) (h:DV w w.heap.size v r c N D) :
  CV 85 #[v] w fun e w'=>∃ v,e=.returned v∧NewMat w.heap.size w' v ((qN r c N D).map (List.map qx)):=by
 obtain⟨A,ca,A',cd,rfl,h0,hN,hD⟩:=h;have e1:=zz (show DV w w.heap.size (.agg #[.int .u8 r,.int .u8 c,.slice A N.length ca,.slice A' D.length cd]) r c N D from⟨A,ca,A',cd,rfl,h0,hN,hD⟩);clear hN hD;obtain⟨iq,hiq,hzq,hsq,hbq⟩:=aGf fH;obtain⟨w0,hw0⟩:=ex (w.alloc (.cells #[.int .u8 r,.int .u8 c,.slice A N.length ca,.slice A' D.length cd] 34));have B0:=zz (cK hw0);have z0:=cJ hw0;have Ld:=cL hw0;go_enter Tryz.func85,Tryz.ntmps85
 go_upto_region 2 with (fail)
 rw[← hw0];clear hw0;obtain⟨n,hn⟩:∃ n:Nat,1+(r % 6).toNat=n:=⟨_,rfl⟩;have hn6:1≤n∧n≤6:=by omega
 obtain⟨k,hk⟩:∃ k:Nat,1+(c % 4).toNat=k:=⟨_,rfl⟩;have F0:1≤k∧k≤4:=by omega
 have f1:=zz (show qN r c N D=aY N D k n by unfold qN;rw[hn,hk]);obtain⟨y,hy⟩:∃ y,r % 6=y:=⟨_,rfl⟩;have hyt:Int.tmod r 6=y:=by rw[← hy];exact aJb h0.1
 obtain⟨z,hz⟩:∃ z,c % 4=z:=⟨_,rfl⟩;have hzt:Int.tmod c 4=z:=by rw[← hz];exact aJb h0.2.2.1
 have hy6:0≤y∧y<6:=by omega
 have hz4:0≤z∧z<4:=by omega
 have W0:=zz (show(n:Int)=1+y by omega);have X0:=zz (show(k:Int)=1+z by omega);have hwu8y:IntKind.u8.wrap y=y:=by unfold IntKind.wrap;simp only[IntKind.bits,IntKind.signed];simp;omega
 have hwu8z:IntKind.u8.wrap z=z:=by unfold IntKind.wrap;simp only[IntKind.bits,IntKind.signed];simp;omega
 have hwi64y:IntKind.i64.wrap y=y:=by unfold IntKind.wrap;simp only[IntKind.bits,IntKind.signed];simp;omega
 have hwi64z:IntKind.i64.wrap z=z:=by unfold IntKind.wrap;simp only[IntKind.bits,IntKind.signed];simp;omega
 have hy64:wrap64 y=y:=lE (by omega) (by omega);have hz64:wrap64 z=z:=lE (by omega) (by omega);clear hn hk hy hz;have g1:=zz Ld;obtain⟨il,hil,hzl,hsl,hbl⟩:=aGf LL;have d0:=aDy w0.heap.size w0;have j0:=zz d0;clear d0;have i1:Hi (OMV 4 EQ 28 23 w0 w0.heap.size (.slice none 0 0) (fun _=>0) (fun _=>0) ((aY N D k 0).map (List.map qx))):=zz OMV.nil;go_wp2;go_loopw [3,4] (fun ov iv wr=>∃ (i:Nat) (G C:Nat→Nat),i≤n∧iv=.int .i64 i∧Hi (OMV 4 EQ 28 23 wr w0.heap.size ov G C ((aY N D k i).map (List.map qx)))∧Hi (Below w0.heap.size w0 wr)) (fun _ iv _=>n-(intOf iv).toNat)
 case atStart=>exact⟨0,_,_,aEy _,rfl,i1,j0⟩
 case round=>
  obtain⟨i,G,C,hi,rfl,HO,HW⟩:=hrel;have zr:=HW.o.size;have G0:=st aEd g1 HW;by_cases hlt:i<n
  case pos=>
   have hlt':(i:Int)<1+y:=by have:=W0.o;omega
   rename World=>wA
   have j1:=zz (aDy wA.heap.size wA);have k0:=cz4 G0.o;go_upto_region 6 with (fail)
   clear k0;go_wp2;go_loopw [5,6] (fun rv jv wr=>∃ j:Nat,j≤k∧jv=.int .i64 j∧Hi (OA 4 EQ 28 wr wA.heap.size rv ((oS N D j i).map qx))∧Hi (Below wA.heap.size wA wr)) (fun _ jv _=>k-(intOf jv).toNat)
   case atStart=>exact⟨0,aEy _,rfl,zz OA.nil,j1⟩
   case round=>
    obtain⟨j,hj,rfl,HR,HV⟩:=hrel;have zv:=HV.o.size;have H0:=st aEd G0 HV;have Y0:=zz ((B0.o.trans (HW.o.mono B0.o.size)).trans (HV.o.mono (aEg B0.o.size HW.o.size)));by_cases hjt:j<k
    case pos=>
     have hjt':(j:Int)<1+z:=by have:=X0.o;omega
     have k1:=zz (show 4*i+j≤3000000000 by omega);have l1:=zz (show((oS N D j i).map qx).length+[qx (cQ N D (4*i+j))].length≤maxLen by rw[aEb,show(oS N D j i).length=j from bQ _ _ _ _];simp only[aEl,aEm,maxLen];omega);have m1:=zz (show(((oS N D j i).map qx).length+[qx (cQ N D (4*i+j))].length)*64≤140737488355328 by rw[aEb,show(oS N D j i).length=j from bQ _ _ _ _];simp only[aEl,aEm];omega);have h4i:wrap64 (4*(i:Int))=4*(i:Int):=lE (by omega) (by omega);have hij:wrap64 (4*(i:Int)+(j:Int))=((4*i+j:Nat):Int):=by rw[lE (by omega) (by omega)];omega
     have o0:=cz4 H0.o;go_wp2_with fail
     refine(nx Y0 (tQ _ _ r c N D (4*i+j) (e1.o.step Y0.o) k1.o)).mono ?_;rintro e w2 ⟨⟨B4,z4,e0⟩,v,rfl,hv⟩;clear o0;clear h4i hij;obtain⟨K0,L0,M0,N0,O0,a0,P0,rfl,ha6,g0,hc6⟩:=hv;have s0:=zz (show QV w2 w2.heap.size (.agg #[.bool K0,.slice L0 M0 N0,.bool false,.slice O0 a0 P0]) (cQ N D (4*i+j)) from⟨_,_,_,_,_,_,_,rfl,ha6,g0,hc6⟩);clear ha6 g0 hc6;have n1:=zz (HR.o.step aEf B4.o);have x1:=zz (show(oS N D j i).length=j from bQ _ _ _ _);have b0:Below w2.heap.size w2 (w2.alloc (.cells #[.bool K0,.slice L0 M0 N0,.bool false,.slice O0 a0 P0] 28)):=aB (aDy _ _) _;have o1:=zz (n1.o.step aEf b0);have p1:=zz ((aHf s0.o b0).qr);have e0:=zz ((HV.o.trans ((B4.o).mono HV.o.size)).trans (b0.mono (aEg HV.o.size B4.o.size)));clear b0;go_wp2_with (at_builtin;go_loud (refine aO rfl _ _ _ rfl wA.heap.size 28 iq _ 64 Tryz.underlying23 hiq hzq hsq hbq rfl (by decide) (by decide) aEf aIz o1.o rfl ⟨w2.heap.size,0,none⟩ 1 [qx (cQ N D (4*i+j))] rfl Nat.one_pos [.bool K0,.slice L0 M0 N0,.bool false,.slice O0 a0 P0] (aLt rfl ⟨_,_,_,_,rfl,p1.o⟩) (iI _ _ [_,_,_,_]) (by intro u hu;simp at hu;rcases hu with rfl | rfl | rfl | rfl <;> rfl) l1.o m1.o e0.o.size ?_))
     intro v' w' hoa hb hs' hg' hat;have q1:Hi (OA 4 EQ 28 w' wA.heap.size v' ((oS N D (j+1) i).map qx)):=zz (by unfold oS;rw[qC,aGc];exact hoa);have E0:=zz (e0.o.trans hb);clear hoa hb hs' hg' hat;go_wp2;go_roundw
     case rel=>exact⟨j+1,hjt,by go_num,q1,E0⟩
     case measure=>exact ms
    case neg=>
     obtain rfl:k=j:=by omega
     have hjt':¬ (k:Int)<1+z:=by have:=X0.o;omega
     have Z0:=zz (show(oS N D k i).length=k from bQ _ _ _ _);obtain⟨g,cap,rfl,hgA,hcap,hob⟩:∃ g cap,u5=.slice (some ⟨g,0,none⟩) k cap∧wA.heap.size≤g∧(k≤cap∧cap≤9223372036854775807)∧OB 4 EQ 28 wr g cap ((oS N D k i).map qx):=OA.block HR.o (by rw[aEb];exact Z0.o) (by omega);have r1:=zz (HO.o.step aEf HV.o);have HG:=zz hgA;have a1:=zz hcap;have s1:=zz hob;clear hgA hcap hob HR;have c0:Below wr.heap.size wr (wr.alloc (.cells #[.slice (some ⟨g,0,none⟩) k cap] 23)):=aB (aDy _ _) _;have d1:=zz (aKi s1.o aEf c0);have Q0:=zz (r1.o.step aEf c0);have i0:=zz ((HW.o.trans (HV.o.mono HW.o.size)).trans (c0.mono (aEg HW.o.size HV.o.size)));clear c0;have t1:=zz (show(tY G C ((aY N D k i).map (List.map qx))).length+[Value.slice (some ⟨g,0,none⟩) k cap].length≤maxLen by rw[aV,aEb,bY];simp only[aEl,aEm,maxLen];omega);have u1:=zz (show((tY G C ((aY N D k i).map (List.map qx))).length+[Value.slice (some ⟨g,0,none⟩) k cap].length)*24≤140737488355328 by rw[aV,aEb,bY];simp only[aEl,aEm];omega);have t0:=cz4 H0.o
     go_wp2_with (at_builtin;go_loud (refine aO rfl _ _ _ rfl w0.heap.size 23 il _ 24 Tryz.underlying22 hil hzl hsl hbl rfl (by decide) (by decide) aLi aLj Q0.o.hdr rfl ⟨wr.heap.size,0,none⟩ 1 [.slice (some ⟨g,0,none⟩) k cap] rfl Nat.one_pos [.slice (some ⟨g,0,none⟩) k cap] (aLt rfl ⟨rfl,rfl⟩) (cell_one_new _ _ _) (by intro u hu;simp at hu;subst hu;rfl) t1.o u1.o i0.o.size ?_))
     clear t0;intro v' w' hoa hb hs' hg' hat;have hl1:((oS N D k i).map qx).length=k:=by rw[aEb];exact Z0.o
     have ht:((aY N D k i).map (List.map qx))++[(oS N D k i).map qx]=(aY N D k (i+1)).map (List.map qx):=by rw[KT,aGc];rfl
     have happ:=Q0.o.app aIz (g:=g) (c:=cap) (l:=(oS N D k i).map qx) ⟨aEg HW.o.size HG.o,fun e=>by have:=HO.o.blk e;have:=HG.o;omega⟩ (fun x hx=>by have:=(HO.o.rows x hx).lt;have:=HG.o;omega) ⟨by rw[hl1];exact a1.o.1,a1.o.2⟩ d1.o (by rw[hl1];exact hoa) hs' hg' (by simpa using hat);rw[ht] at happ;have v1:=zz happ;have w1:=zz (i0.o.trans hb);clear happ ht hl1 hoa hb hs' hg' hat;go_wp2;go_roundw
     case rel=>exact⟨i+1,_,_,hlt,by go_num,v1,w1⟩
     case measure=>exact ms
  case neg=>
   obtain rfl:i=n:=by omega
   have hlt':¬ (i:Int)<1+y:=by have:=W0.o;omega
   have y0:=cz4 G0.o;have h1:=HO.o;rw[← f1.o] at h1;have H1:=zz (show NewMat w.heap.size wr u3 _ from⟨_,_,_,B0.o.size,h1⟩);clear h1;go_wp2;clear y0;go_ret;exact⟨B0.o.trans (HW.o.mono B0.o.size),_,rfl,H1.o⟩
theorem IF (w:World) (v:Value) (r c:Int) (N D:List Int) (h:DV w w.heap.size v r c N D) :
  CV 85 #[v] w fun e w'=>∃ v,e=.returned v∧QM w' w'.heap.size v ((qN r c N D).map (List.map qx)):=
 (tR w v r c N D h).mono fun _ _ ⟨h1,v,e,_,_,_,_,h2⟩=>⟨h1,v,e,h2.sl⟩
def PD (r s:List Rat):Prop:=∀ k,k<min r.length s.length→QL 600 600 (r.getD k 0)∧QL 600 600 (s.getD k 0)∧QL 600 600 (r.getD k 0*s.getD k 0)∧QL 600 600 (aJ r s k)∧QL 600 600 (aJ r s (k+1))
theorem aDm (w:World) (x y:Int) (c:Rat) (hx:-9223372036854775808≤x∧x≤9223372036854775807) (hy:-9223372036854775808≤y∧y≤9223372036854775807) (h0:y≠0) (hc:Rat.divInt x y=c) (l:QL 600 600 c) :
  CV 76 #[.int .i64 x,.int .i64 y] w fun e w'=>∃ v,e=.returned (.tuple #[v,.int .i64 0])∧QV w' w'.heap.size v c:=by
 have h:=BR w x y hx.1 hx.2 hy.1 hy.2;rw[BK h0 hc l] at h;exact h
theorem aCp:Rat.divInt 0 1=(0:Rat)∧QL 600 600 (0:Rat):=⟨by decide +kernel,(iM (by decide +kernel)).up (by decide)⟩
def aDc (a:List (List Rat)) (x b:List Rat):Prop:=a.length≤b.length∧∀ i,i<a.length→(a.getD i []).length=x.length∧PD (a.getD i []) x∧aJ (a.getD i []) x x.length=b.getD i 0
theorem aCe (w:World) (A B:Option Addr) (n c m d:Nat) (l k:List QX) (e f:Int) (ha:QS w w.heap.size (.slice A n c) l) (hb:QS w w.heap.size (.slice B m d) k) :
  CV 15 #[.slice A n c,.int .i64 e,.slice B m d,.int .i64 f] w fun x _=>x=.returned (.bool (decide (l=k)&&decide (e=f))):=by
 have HA:=zz ha;have HB:=zz hb;clear ha hb;have hef:(e==f)=decide (e=f):=rfl;go_enter Tryz.func15,Tryz.ntmps15
 go_wp2_with fail
 refine(yS _ _ _ _ _ _ _ l k HA.o HB.o).mono ?_;rintro x w1 ⟨hb,rfl⟩;have a0:=zz hb;clear hb;cases hlk:decide (l=k)
 case false=>go_wp2;go_ret;exact⟨a0.o,by rw[hlk];rfl⟩
 case true=>go_wp2;go_ret;exact⟨a0.o,by rw[hlk,Bool.true_and];rfl⟩
end Go.Proofs.YtencnahjgbdeoaaGreatDoor
