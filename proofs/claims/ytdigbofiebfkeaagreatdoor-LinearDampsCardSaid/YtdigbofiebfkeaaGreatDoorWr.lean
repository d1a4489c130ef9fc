/- slices.Repeat of one fraction, one to four times. -/
import Derived.Test.YtdigbofiebfkeaaGreatDoorLa1
import Derived.Test.YtdigbofiebfkeaaGreatDoorLlm
import Derived.Laws.CopyRow
namespace Go.Proofs.YtdigbofiebfkeaaGreatDoor
open Go Go.RowKit Dig
set_option maxRecDepth 100000
set_option maxHeartbeats 4000000
set_option linter.unusedSimpArgs false
theorem run_copyk (w:World) (dT sT ty elem:TypeId) (g o dLen dCap:Nat) (a:Addr) (sLen sCap k:Nat) (cur:Array Value) (t:TypeId) (cs:List Value)
    (hu:Tryz.prog.underlying dT=some (.slice elem)) (hs:(Tryz.prog.info? elem).map (·.size)=some k)
    (hg:w.heap[g]?=some (.cells cur t (0,0))) (hn:cs.length=Nat.min sLen dLen*k)
    (hsrc:∀ j v,cs[j]?=some v→w.cell? (a.add j)=some v) (hfit:o+cs.length≤cur.size) (h1:∀ v∈cs,v.oneCell'=true) :
    (Builtin.copy_ #[dT,sT] ty #[.slice (some ⟨g,o,none⟩) dLen dCap,.slice (some a) sLen sCap]).run Tryz.prog w =
      .ok (goInt (Nat.min sLen dLen)) (w.setRow g (cur.toList.take o++cs++cur.toList.drop (o+cs.length)).toArray):=by
  have hl:=run_loadCells_list (P:=Tryz.prog) w a cs hsrc;have hst:=run_storeCells_at Tryz.prog g o t cs 0 cur w hg (by simpa using hfit) h1;cases hq:Tryz.prog.info? elem with
  | none=>simp[hq] at hs
  | some i=>
    have hi:i.size=k:=by simpa[hq] using hs
    simp[Builtin.copy_,run_underlying hu,Builtin.lenOf,Builtin.firstCells,sizeOf,typeInfo,hq,hi,← hn,hl,hst]
theorem oper_copyk {w:World} {o:Oper} {a:Act} {K:Act→World→Prop} {Q:Exit→Act→World→Prop} (d s:Operand) (dT sT:TypeId)
    (ho:o.op=.call { callee:=.builtin .copy,args:=#[d,s],argTypes:=#[dT,sT] }) (elem:TypeId) (k:Nat) (hu:Tryz.prog.underlying dT=some (.slice elem)) (hsz:(Tryz.prog.info? elem).map (·.size)=some k)
    (g off dLen dCap:Nat) (ad:Addr) (sLen sCap:Nat) (hd:a.eval d=.slice (some ⟨g,off,none⟩) dLen dCap) (hs:a.eval s=.slice (some ad) sLen sCap)
    (cur:Array Value) (t:TypeId) (hg:CB w g t cur) (cs:List Value) (hn:cs.length=Nat.min sLen dLen*k)
    (hsrc:∀ j v,cs[j]?=some v→w.cell? (ad.add j)=some v) (hfit:off+cs.length≤cur.size) (h1:∀ v∈cs,v.oneCell'=true)
    (h:K (a.put o.dst (goInt (Nat.min sLen dLen))) (w.setRow g (cur.toList.take off++cs++cur.toList.drop (off+cs.length)).toArray)):Oper.wp Tryz.prog o a w K Q:=by
  have hrun:=run_copyk w dT sT o.type elem g off dLen dCap ad sLen sCap k cur t cs hu hsz hg hn hsrc hfit h1;unfold Oper.wp;simp[execOp,ho,resolve,invoke,builtin,hd,hs,hrun,Result.andThen]
  rw[List.append_assoc] at h;exact h
def rp (n:Nat) (l:List Value):List Value:=(List.replicate n l).flatten
theorem rp_len (n:Nat) (l:List Value):(rp n l).length=n*l.length:=by simp[rp]
theorem rp_add (n m:Nat) (l:List Value):rp (n+m) l=rp n l++rp m l:=by unfold rp;rw[← List.replicate_append_replicate,List.flatten_append]
theorem rp_one (l:List Value):rp 1 l=l:=by simp[rp]
theorem rp_at {n:Nat} {l:List Value}:∀ {j i:Nat},j<n→i<l.length→(rp n l)[j*l.length+i]?=l[i]?:=by
  induction n with
  | zero=>intro j i h;omega
  | succ n ih=>
    intro j i hj hi;have e:rp (n+1) l=l++rp n l:=by rw[Nat.add_comm,rp_add,rp_one]
    rw[e];rcases j with _ | j
    · rw[Nat.zero_mul,Nat.zero_add,List.getElem?_append_left hi]
    · rw[Nat.succ_mul,List.getElem?_append_right (by omega),show j*l.length+l.length+i-l.length=j*l.length+i by omega,ih (by omega) hi]
theorem rp_mem {n:Nat} {l:List Value} {v:Value} (h:v∈rp n l):v∈l:=by
  unfold rp at h;rw[List.mem_flatten] at h;obtain⟨a,ha,hv⟩:=h;rw[List.eq_of_mem_replicate ha] at hv;exact hv
theorem rp_copy {j m r:Nat} {x z:List Value} (hz:z.length=x.length):(rp j x++rp (m+r) z).take (j*x.length)++rp m x++(rp j x++rp (m+r) z).drop (j*x.length+(rp m x).length)=rp (j+m) x++rp r z:=by
  have e1:(rp j x).length=j*x.length:=rp_len _ _;have e2:(rp j x++rp m z).length=j*x.length+(rp m x).length:=by rw[List.length_append,rp_len,rp_len,rp_len,hz]
  rw[List.take_left' e1,rp_add m r z,← List.append_assoc,List.drop_left' e2,rp_add j m x]
def zq:List Value:=[.bool false,.slice none 0 0,.bool false,.slice none 0 0]
theorem made_rp {n:Nat} (h:n=1∨n=2∨n=3∨n=4):madeCells #[.bool false,.slice none 0 0,.bool false,.slice none 0 0] (n*4)=(rp n zq).toArray:=by
  rcases h with rfl | rfl | rfl | rfl <;> kernel_rfl
theorem mk_quots (n:Nat) (hn:n≤3000000000) (w:World):(Instr.makeSlice 28 (.int .i64 (n:Int)) (.int .i64 (n:Int))).run Tryz.prog w =
    .ok (.slice (some ⟨w.heap.size,0,none⟩) n n) (w.alloc (.cells (madeCells #[.bool false,.slice none 0 0,.bool false,.slice none 0 0] (n*4)) 33)):=by
  obtain⟨i,hi,hz,hs,hb⟩:=info_parts info_quot;have h:=run_make (P:=Tryz.prog) w 28 33 i _ Tryz.underlying28 hi hz .i64 .i64 n n (by omega) (by omega) (by rw[hb];omega) (by omega);rw[h,hs];simp[Value.cells]
theorem rp_list {w:World} {g n:Nat} {c0 c1 c2 c3:Value} {T:TypeId} {q:Rat} (h:CB w g T (rp n [c0,c1,c2,c3]).toArray) (hq:QV w w.heap.size (.agg #[c0,c1,c2,c3]) q) (hn:n≤9223372036854775807):QS w w.heap.size (.slice (some ⟨g,0,none⟩) n n) ((List.replicate n q).map qx):=by
  refine⟨some ⟨g,0,none⟩,n,by simp,by simp,hn,fun _=>⟨g,0,rfl,h.lt,fun j hj=>?_⟩⟩;simp at hj
  refine⟨[c0,c1,c2,c3],rfl,fun i v hv=>?_,?_⟩
  · have hi:i<4:=by have:=(List.getElem?_eq_some_iff.1 hv).1;simpa using this
    have:=rp_at (n:=n) (l:=[c0,c1,c2,c3]) (j:=j) (i:=i) hj hi;exact h.cell _ (by rw[Nat.zero_add];simpa[hv] using this)
  · simp only[List.getElem_map,List.getElem_replicate]
    exact⟨c0,c1,c2,c3,rfl,hq.qr⟩
theorem info_q4:(Tryz.prog.info? 33).map (·.size)=some 4:=by kernel_rfl
theorem oper_rep {w w0:World} {o:Oper} {a:Act} {K:Act→World→Prop} {Q:Exit→Act→World→Prop} {B g j m r dLen dCap sLen sCap:Nat} {T:TypeId} {X:List Value} (hX:X.length=4) (d s:Operand) (ad:Addr)
    (ho:o.op=.call { callee:=.builtin .copy,args:=#[d,s],argTypes:=#[28,28] })
    (hd:a.eval d=.slice (some ⟨g,j*4,none⟩) dLen dCap) (hs:a.eval s=.slice (some ad) sLen sCap) (hm:Nat.min sLen dLen=m)
    (hC:CB w g T (rp j X++rp (m+r) zq).toArray) (hsrc:∀ i v,(rp m X)[i]?=some v→w.cell? (ad.add i)=some v) (h1:∀ v∈X,v.oneCell'=true) (hb:Below B w0 w) (hBg:B≤g)
    (h:∀ w',CB w' g T (rp (j+m) X++rp r zq).toArray→Below B w0 w'→K (a.put o.dst (.int .i64 (m:Int))) w'):Oper.wp Tryz.prog o a w K Q:=by
  subst hm;have hl:(rp (Nat.min sLen dLen) X).length=Nat.min sLen dLen*4:=by rw[rp_len,hX]
  refine oper_copyk d s _ _ ho 33 4 Tryz.underlying28 info_q4 g (j*4) dLen dCap ad sLen sCap hd hs _ T hC (rp (Nat.min sLen dLen) X) hl hsrc ?_ (fun v hv=>h1 v (rp_mem hv)) ?_
  · simp only[List.size_toArray,List.length_append,rp_len,hX,show zq.length=4 from rfl]
    rw[Nat.add_mul];omega
  · refine h _ ?_ (hb.trans ⟨rfl,rfl,rfl,by simp[World.setRow],fun k hk=>setRow_other w g k _ (by omega)⟩)
    have e:=rp_copy (j:=j) (m:=Nat.min sLen dLen) (r:=r) (x:=X) (z:=zq) (by rw[hX];rfl);rw[hX] at e;have h2:=setRow_heap w g _ ((rp j X++rp (Nat.min sLen dLen+r) zq).take (j*4)++rp (Nat.min sLen dLen) X++(rp j X++rp (Nat.min sLen dLen+r) zq).drop (j*4+(rp (Nat.min sLen dLen) X).length)).toArray T _ hC;rw[e] at h2;unfold CB
    simpa[e] using h2
theorem list_rep {w w0:World} {ops:Array Oper} {rest:List Oper} {o:Oper} {a:Act} {Q:Exit→Act→World→Prop} {B g j m r dLen dCap sLen sCap:Nat} {T:TypeId} {X:List Value} (hgd:o.guard=none) (hX:X.length=4) (d s:Operand) (ad:Addr)
    (ho:o.op=.call { callee:=.builtin .copy,args:=#[d,s],argTypes:=#[28,28] })
    (hd:a.eval d=.slice (some ⟨g,j*4,none⟩) dLen dCap) (hs:a.eval s=.slice (some ad) sLen sCap) (hm:Nat.min sLen dLen=m)
    (hC:CB w g T (rp j X++rp (m+r) zq).toArray) (hsrc:∀ i v,(rp m X)[i]?=some v→w.cell? (ad.add i)=some v) (h1:∀ v∈X,v.oneCell'=true) (hb:Below B w0 w) (hBg:B≤g)
    (h:∀ w',CB w' g T (rp (j+m) X++rp r zq).toArray→Below B w0 w'→wpList Tryz.prog ops Q rest (a.put o.dst (.int .i64 (m:Int))) w'):wpList Tryz.prog ops Q (o :: rest) a w:=
  wpList_plain hgd fun _ hK=>oper_rep hX d s ad ho hd hs hm hC hsrc h1 hb hBg fun w' k1 k2=>hK _ _ (h w' k1 k2)
theorem mul64_any (w:World) (n:Int) (h:n=1∨n=2∨n=3∨n=4) :
    Calls Tryz.prog 99 #[.int .u64 1,.int .u64 n] w fun e w'=>w'=w∧e=.returned (.tuple #[.int .u64 0,.int .u64 n]):=by
  rcases h with rfl | rfl | rfl | rfl <;>
  · go_enter Tryz.func99,Tryz.ntmps99
    go_wp2;go_ret2;exact⟨rfl,rfl⟩
theorem mul_any (w:World) (n:Int) (h:n=1∨n=2∨n=3∨n=4) :
    Calls Tryz.prog 64 #[.int .u64 1,.int .u64 n] w fun e w'=>w'=w∧e=.returned (.tuple #[.int .u64 0,.int .u64 n]):=by
  go_enter Tryz.func64,Tryz.ntmps64
  go_wp2_with fail
  refine(mul64_any _ n h).mono ?_;rintro e w1 ⟨rfl,rfl⟩;go_wp2;go_ret2;exact⟨rfl,rfl⟩
theorem repeat_any (w:World) (b n:Nat) (c0 c1 c2 c3:Value) (q:Rat) (hC:CB w b 33 #[c0,c1,c2,c3]) (hq:QV w w.heap.size (.agg #[c0,c1,c2,c3]) q) (hn:1≤n∧n≤4) :
    Calls Tryz.prog 21 #[.slice (some ⟨b,0,none⟩) 1 1,.int .i64 (n:Int)] w fun e w'=>Below w.heap.size w w'∧∃ g,e=.returned (.slice (some ⟨g,0,none⟩) n n)∧QS w' w'.heap.size (.slice (some ⟨g,0,none⟩) n n) ((List.replicate n q).map qx):=by
  have h4:(n:Int)=1∨(n:Int)=2∨(n:Int)=3∨(n:Int)=4:=by omega
  have hon:∀ v∈[c0,c1,c2,c3],v.oneCell'=true:=by
    obtain⟨m,A,l,c,A',l',c',e,-,-,-⟩:=hq;injection e with e
    simp at e
    obtain⟨rfl,rfl,rfl,rfl⟩:=e;intro v hv;simp at hv
    rcases hv with rfl | rfl | rfl | rfl <;> rfl
  have hwu:IntKind.u64.wrap (n:Int)=(n:Int):=by unfold IntKind.wrap;simp only[IntKind.bits,IntKind.signed];simp;omega
  have hwi:IntKind.i64.wrap (n:Int)=(n:Int):=by unfold IntKind.wrap;simp only[IntKind.bits,IntKind.signed];simp;omega
  have hn0:¬ (n:Int)<0:=by omega
  have hn1:¬ (n:Int)>9223372036854775807:=by omega
  have hmk:=mk_quots n (by omega);have HC:=zz hC;have HQ:=zz hq;have l0:=zz hon;have hblt:=hC.lt;have B0:=zz hblt;have m0:Hid (CB (w.alloc (.cells (madeCells #[.bool false,.slice none 0 0,.bool false,.slice none 0 0] (n*4)) 33)) w.heap.size 33 (rp 0 [c0,c1,c2,c3]++rp (1+(n-1)) zq).toArray):=zz (by
    rw[made_rp (show n=1∨n=2∨n=3∨n=4 by omega),show 1+(n-1)=n by omega];exact CB.new _ _ _)
  have a0:=zz (below_alloc1 (Below.refl w.heap.size w) (.cells (madeCells #[.bool false,.slice none 0 0,.bool false,.slice none 0 0] (n*4)) 33));clear hC hq hon hblt;go_enter Tryz.func21,Tryz.ntmps21
  go_wp2_with fail
  refine(mul_any _ n h4).mono ?_;rintro e w1 ⟨h9,rfl⟩;obtain rfl:w=w1:=h9.symm;clear h9;go_upto_region 7 with (fail)
  clear hmk;have h0:Hid (∀ i v,(rp 1 [c0,c1,c2,c3])[i]?=some v→(w.alloc (.cells (madeCells #[.bool false,.slice none 0 0,.bool false,.slice none 0 0] (n*4)) 33)).cell? ((⟨b,0,none⟩:Addr).add i)=some v):=zz (fun i v hv=>by
    rw[rp_one] at hv;rw[Lib.add_plain,Nat.zero_add];exact(HC.out.step a0.out).cell i (by simpa using hv))
  have e0:=a0.out;have p0:Hid ([c0,c1,c2,c3].length=4):=zz rfl;generalize (w.alloc (.cells (madeCells #[.bool false,.slice none 0 0,.bool false,.slice none 0 0] (n*4)) 33))=w1 at *
  have hmn:Nat.min 1 n=1:=by show min 1 n=1;omega
  go_wp2_with (refine list_rep (j:=0) (m:=1) (r:=n-1) rfl rfl _ _ ⟨b,0,none⟩ rfl rfl rfl hmn m0.out h0.out l0.out a0.out (Nat.le_refl _) ?_)
  intro w2 hc2 b0;have q0:Hid (CB w2 w.heap.size 33 (rp 1 [c0,c1,c2,c3]++rp (n-1) zq).toArray):=zz hc2;have f0:=zz b0;clear hc2 b0 hmn e0 m0 h0 a0;go_wp2;go_loopw [8] (fun iv wr=>∃ j:Nat,(1≤j∧j≤n)∧iv=.int .i64 j∧Hid (CB wr w.heap.size 33 (rp j [c0,c1,c2,c3]++rp (n-j) zq).toArray)∧Hid (Below w.heap.size w wr)) (fun iv _=>n-(intOf iv).toNat)
  case atStart=>exact⟨1,⟨Nat.le_refl _,hn.1⟩,rfl,q0,f0⟩
  case round=>
    obtain⟨j,hj,rfl,i0,HW⟩:=hrel;have zr:=HW.out.size;by_cases hlt:j<n
    case pos=>
      have hlt':(j:Int)<(n:Int):=by omega
      have hj0:(0:Int)≤(j:Int):=by omega
      have hjn:(j:Int)≤(n:Int):=by omega
      have hnj:(n:Int)-(j:Int)=((n-j:Nat):Int):=by omega
      have hne:(n=j)=False:=by simp;omega
      obtain⟨m,hm⟩:∃ m,Nat.min j (n-j)=m:=⟨_,rfl⟩;have hm9:min j (n-j)=m:=hm;have hm1:1≤m∧m≤j∧j+m≤n:=by omega
      clear hm9;have n0:Hid (CB wr w.heap.size 33 (rp j [c0,c1,c2,c3]++rp (m+(n-(j+m))) zq).toArray):=zz (by rw[show m+(n-(j+m))=n-j by omega];exact i0.out);have h0:Hid (∀ i v,(rp m [c0,c1,c2,c3])[i]?=some v→wr.cell? ((⟨w.heap.size,0,none⟩:Addr).add i)=some v):=zz (fun i v hv=>by
        rw[Lib.add_plain,Nat.zero_add];refine i0.out.cell i ?_;have hi:i<(rp m [c0,c1,c2,c3]).length:=(List.getElem?_eq_some_iff.1 hv).1;rw[show j=m+(j-m) by omega,rp_add];simp only[List.append_assoc,List.getElem?_toArray]
        rw[List.getElem?_append_left hi];exact hv)
      have o0:=zz (show(1≤j+m∧j+m≤n)∧n-(j+m)<n-j by omega);have HM:=zz hm;have r0:=zz hm1;clear hm;go_upto_region 9 with (fail)
      refine Sweep.run [se 1 39 [] (.slice (some ⟨w.heap.size,0,none⟩) n n),se 2 40 [] (.int .i64 j),se 3 41 [1,2] (.slice (some ⟨w.heap.size,j*4,none⟩) (n-j) (n-j)),se 4 42 [] (.slice (some ⟨w.heap.size,0,none⟩) n n),se 5 43 [] (.int .i64 j),se 6 44 [4,5] (.slice (some ⟨w.heap.size,0,none⟩) j n)] [se 0 38 [] (.int .i64 j)] [] 3 S0 trivial ?_ ?_ ?_
      · intro xs a_ hA;simp only[SX] at hA
        iterate 6 (refine ac ?_ ?_;rotate_left)
        exact all_nil
        all_goals (intro wk hb;simp only[SX,↓reduceIte,Nat.reduceEqDiff,Nat.reduceAdd];subst hA)
        any_goals (intros;refine wpOp_step rfl ?_;intro K hK;go_simp;refine hK _ _ ⟨_,?_,Below.refl _ _,rfl,nF⟩;simp only[*,FL] <;> kernel_rfl)
      · intro xs a_ hA;simp only[SX] at hA
        refine ac ?_ all_nil;intro wk hb;simp only[SX,↓reduceIte,Nat.reduceEqDiff,Nat.reduceAdd];subst hA
        intros;refine⟨_,_,rfl,Or.inl ⟨by rfl,fun w=>?_⟩,rfl⟩;go_simp
      · intro xs wf hbf hn' hd;simp only[SY]
        clear hn' hd;have j0:=zz hbf;clear hbf;have s0:=tr HW j0;have t0:=zz (CB.step n0.out j0.out);have u0:Hid (∀ i v,(rp m [c0,c1,c2,c3])[i]?=some v→wf.cell? ((⟨w.heap.size,0,none⟩:Addr).add i)=some v):=zz (fun i v hv=>by
          have h1:=h0.out i v hv;exact(j0.out.cell (by rw[Lib.add_plain];exact n0.out.lt)).trans h1)
        refine EN 7 rfl fun K hK=>?_
        rw[if_pos (show Region.wanted _ _=true from rfl)];refine oper_rep (j:=j) (m:=m) (r:=n-(j+m)) p0.out _ _ ⟨w.heap.size,0,none⟩ rfl rfl rfl HM.out t0.out u0.out l0.out s0.out (Nat.le_refl _) ?_;intro w3 hc3 d0;have v0:=zz hc3;have g0:=zz d0;clear hc3 d0;refine hK _ _ ?_;clear hK K;(try simp only[PT]);have hjm:IntKind.i64.wrap ((j:Int)+(m:Int))=((j+m:Nat):Int):=by have:=r0.out;unfold IntKind.wrap;simp only[IntKind.bits,IntKind.signed];simp;omega
        refine EN 8 rfl fun K hK=>?_
        go_simp;refine hK _ _ ?_;clear hK K;(try simp only[PT]);refine EN 9 rfl fun K hK=>?_
        go_simp;refine hK _ _ ?_;clear hK K;(try simp only[PT]);refine ED ?_;(try simp only[Exit.then]);go_wp2;go_roundw
        case rel=>exact⟨j+m,o0.out.1,by go_num,v0,g0⟩
        case measure=>have h9:=o0.out.2;simp[intOf];omega
    case neg=>
      obtain rfl:n=j:=by omega
      have hlt':¬ (n:Int)<(n:Int):=by omega
      have HE:=zz (show CB _ w.heap.size 33 (rp n [c0,c1,c2,c3]).toArray by have h1:=i0.out;rw[Nat.sub_self] at h1;simpa[rp] using h1);have w0:=zz (QV.step HQ.out HW.out);go_wp2;go_ret;exact⟨HW.out,_,rfl,by have h1:=rp_list HE.out w0.out (show n≤9223372036854775807 by omega);simpa using h1⟩
end Go.Proofs.YtdigbofiebfkeaaGreatDoor
