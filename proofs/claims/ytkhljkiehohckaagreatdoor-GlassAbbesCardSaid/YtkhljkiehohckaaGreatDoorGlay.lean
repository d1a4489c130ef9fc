/- Texts put together: Behind a call that turned nothing of what was there, the arguments read as they did: the last step of every law. Layer 09: what every law of this seat shares: the listed variables in a world that meets the row (the table of functions among them); a world for the witness. The arguments of layer 09's laws, opened: a drafted glass, a change, two changes (written by gen_argsg.py). -/
import Derived.Below
import Derived.ChangeSame
import Derived.ChangeReads
import Derived.RowKit
import Derived.ChangeShapes
import Derived.Test.YtkhljkiehohckaaGreatDoorCards
import Derived.Test.YtkhljkiehohckaaGreatDoorTie
import Derived.Test.YtkhljkiehohckaaGreatDoorGf
import Derived.WalkKit
import Derived.ProofKit
import Derived.OpenShut
import Derived.LaidMore
import Derived.LaidHandle
import Derived.Laws.IdiomArrays
import Derived.Deep.DeepHandedRow
import Derived.Deep.DeepWitnessRowRef
import Derived.Lib.LaidTab
import Derived.Stop.LaidErr
import Derived.Test.YtkhljkiehohckaaGreatDoorGq
import Derived.Lib.SmallJoins
import Derived.ChangeArms
namespace Go.Proofs.YtkhljkiehohckaaGreatDoor
open Go Go.RowKit Go.WideShapes Go.ChangeShapes
section
variable {H:Type} {enc:TypeId × Value→H} {P:Program} {w w':World} {base:Nat} {sp:Nat→Bool}
theorem mapM_len {α β:Type} {f:α→Option β}:∀ {l:List α} {r:List β},l.mapM f=some r→r.length=l.length:=by
 intro l
 induction l with
 | nil=>intro r h;simp at h;subst h;rfl
 | cons x l ih=>
  intro r h;rw[List.mapM_cons] at h;obtain⟨y,-,h⟩:=Option.bind_eq_some_iff.1 h;obtain⟨ys,hys,h⟩:=Option.bind_eq_some_iff.1 h;cases h
  rw[List.length_cons,List.length_cons,ih hys]
theorem mapM_carry' {α β:Type} {f g:α→Option β}:∀ {l:List α} {r:List β},l.mapM f=some r→(∀ x y,x∈l→y∈r→f x=some y→g x=some y)→l.mapM g=some r:=by
 intro l
 induction l with
 | nil=>intro r h _;simpa using h
 | cons x l ih=>
  intro r h hk;rw[List.mapM_cons] at h ⊢;obtain⟨y,hy,h⟩:=Option.bind_eq_some_iff.1 h;obtain⟨ys,hys,h⟩:=Option.bind_eq_some_iff.1 h;cases h
  rw[hk x y (List.mem_cons_self ..) (List.mem_cons_self ..) hy,ih hys (fun a b ha hb=>hk a b (List.mem_cons_of_mem _ ha) (List.mem_cons_of_mem _ hb))]
  rfl
def goodAt (P:Program) (l:List TypeId) (t:TypeId):Bool:=
 match P.underlying t with
 | some (.slice e)=>decide (0<P.cellsOf e)&&l.contains e
 | some (.pointer e)=>l.contains e
 | some (.struct fs)=>fs.toList.all fun f=>l.contains f.type
 | some (.array _ e)=>l.contains e
 | some (.map _ e)=>l.contains e
 | _=>true
theorem trodStep_spare {l:List TypeId} (hl:∀ t,l.contains t=true→goodAt P l t=true) {r r':TypeId→List Value→Option (DataW H × List MemPlace)}
  (hr:∀ t cs x,l.contains t=true→r t cs=some x→(∀ p∈x.2,sp p.block=true)→r' t cs=some x) {t:TypeId} (ht:l.contains t=true) {cs:List Value} {x:DataW H × List MemPlace}
  (h:DataW.trodStep enc P w base (fun _=>true) true r t cs=some x) (hs:∀ p∈x.2,sp p.block=true):DataW.trodStep enc P w base sp true r' t cs=some x:=by
 have hg:=hl t ht;unfold goodAt at hg;unfold DataW.trodStep at h ⊢
 split at h
 case h_1=>exact h
 case h_2=>exact h
 case h_3=>exact h
 case h_4=>exact h
 case h_5=>exact h
 case h_6 e a hu=>
  rw[hu] at hg;simp only[Option.map_eq_some_iff,Option.bind_eq_some_iff] at h ⊢
  obtain⟨y,⟨cs',hc,hy⟩,rfl⟩:=h;exact⟨y,⟨cs',hc,hr _ _ _ hg hy (fun p hp=>hs p (by simp[hp]))⟩,rfl⟩
 case h_7=>exact h
 case h_8 e a len cap hu=>
  simp only at h ⊢
  rw[hu] at hg;simp only[Bool.and_eq_true,decide_eq_true_eq] at hg
  obtain⟨hpe,hge⟩:=hg
  split at h
  ·rename_i hc
   rw[if_pos hc];simp only[Option.map_eq_some_iff,Option.bind_eq_some_iff] at h ⊢
   obtain⟨elems,he,rest,hrest,rfl⟩:=h;rw[if_pos trivial] at hrest;have one:∀ (i:Nat) (y:DataW H × List MemPlace),y∈elems++rest →
     (w.cells? base (a.add (i*P.cellsOf e)) (P.cellsOf e)).bind (r e)=some y→(w.cells? base (a.add (i*P.cellsOf e)) (P.cellsOf e)).bind (r' e)=some y:=by
    intro i y hy hv;simp only[Option.bind_eq_some_iff] at hv ⊢
    obtain⟨cs',hc',hy'⟩:=hv;refine⟨cs',hc',hr _ _ _ hge hy' (fun p hp=>hs p ?_)⟩;simp only[List.mem_append,List.mem_flatMap]
    right
    exact⟨y,by simpa using hy,hp⟩
   refine⟨elems,mapM_carry' he (fun i y hi hy=>one i y (by simp[hy])),rest,?_,rfl⟩;have hrl:rest.length=cap-len:=by simpa using mapM_len hrest
   by_cases hsp:sp a.block=true
   ·rw[if_pos hsp];exact mapM_carry' hrest (fun j y hj hy=>one (len+j) y (by simp[hy]))
   ·rw[if_neg hsp];rcases Nat.eq_zero_or_pos rest.length with h0 | h0
    ·rw[List.eq_nil_of_length_eq_zero h0]
    ·refine absurd (hs (.cell a.block (a.off+0)) ?_) hsp;simp only[List.mem_append]
     left
     exact MemPlace.mem_row.2 ⟨0,Nat.mul_pos (by omega) hpe,rfl⟩
  ·cases h
 case h_9 hu=>
  rw[hu] at hg
  split at h
  ·rename_i hc
   rw[if_pos hc];simp only[Option.map_eq_some_iff] at h ⊢
   obtain⟨xs,hx,rfl⟩:=h;exact⟨xs,mapM_carry' hx (fun f y hf hy hv=>hr _ _ _ (List.all_eq_true.1 hg f hf) hv (fun p hp=>hs p (List.mem_flatMap.2 ⟨y,hy,hp⟩))),rfl⟩
  ·cases h
 case h_10 hu=>
  rw[hu] at hg
  split at h
  ·rename_i hc
   rw[if_pos hc];simp only[Option.map_eq_some_iff] at h ⊢
   obtain⟨xs,hx,rfl⟩:=h;exact⟨xs,mapM_carry' hx (fun f y _ hy hv=>hr _ _ _ hg hv (fun p hp=>hs p (List.mem_flatMap.2 ⟨y,hy,hp⟩))),rfl⟩
  ·cases h
 case h_11=>exact h
 case h_12=>
  exact h
 case h_13=>exact h
 case h_14 k e b hu=>
  rw[hu] at hg
  split at h
  ·rename_i es clock hb
   split at h
   ·rename_i hc
    simp only[Option.bind_eq_some_iff] at h
    obtain⟨entries,he,hd⟩:=h
    split at hd
    ·rename_i hris
     have hx:=Option.some.inj hd;subst hx;simp only[if_pos hc,Option.bind_eq_some_iff]
     refine⟨entries,mapM_carry' he (fun x y _ hy hv=>?_),by simp[hris]⟩;simp only[Option.bind_eq_some_iff] at hv ⊢
     obtain⟨key,hk,hz⟩:=hv;refine⟨key,hk,?_⟩
     split at hz
     ·rename_i hf
      rw[if_pos hf];simp only[Option.map_eq_some_iff] at hz ⊢
      obtain⟨q,hq,rfl⟩:=hz;exact⟨q,hr _ _ _ hg hq (fun p hp=>hs p (by simp only[List.mem_cons,List.mem_flatMap];right;exact⟨_,hy,hp⟩)),rfl⟩
     ·cases hz
    ·cases hd
   ·cases h
  ·cases h
 case h_15=>exact h
 case h_16=>exact h
 case h_17=>exact h
 case h_18=>exact h
 case h_19=>exact h
 case h_20=>exact h
 case h_21=>cases h
theorem trod_spare {l:List TypeId} (hl:∀ t,l.contains t=true→goodAt P l t=true):∀ (n:Nat) (t:TypeId) (cs:List Value) (x:DataW H × List MemPlace),l.contains t=true →
  DataW.trod enc P w base (fun _=>true) true n t cs=some x→(∀ p∈x.2,sp p.block=true)→DataW.trod enc P w base sp true n t cs=some x:=by
 intro n
 induction n with
 | zero=>intro t cs x _ h;simp[DataW.trod] at h
 | succ n ih=>
  intro t cs x ht h hs;rw[DataW.trod_step] at h ⊢;exact trodStep_spare hl ih ht h hs
theorem sameAt_below {B:Nat} (hb:Below B w w') {p:MemPlace} (hp:p.block<B):w.sameAt w' p:=by
 cases p with
 | cell b off=>exact hb.cell (p:=⟨b,off,none⟩) hp
 | map b=>exact hb.block b hp
theorem trodAll_back {l:List TypeId} (hl:∀ t,l.contains t=true→goodAt P l t=true) (hb:Below w.heap.size w w'):∀ {ts:List TypeId} {vs:List Value} {ds:List (DataW H)} {ps:List MemPlace},
  (∀ t∈ts,l.contains t=true)→DataW.TrodAll enc P w base (fun _=>true) true ts vs ds ps→(∀ p∈ps,p.block<w.heap.size)→(∀ p∈ps,sp p.block=true)→DataW.TrodAll enc P w' base sp true ts vs ds ps
 | [],[],[],_,_,h,_,_=>h
 | _ :: _,_ :: _,_ :: _,_,ht,⟨p,q,⟨fuel,hx⟩,hs,e⟩,hlt,hsp=>by
  subst e;refine⟨p,q,⟨fuel,?_⟩,trodAll_back hl hb (fun t h=>ht t (List.mem_cons_of_mem _ h)) hs (fun y hy=>hlt y (List.mem_append_right _ hy)) (fun y hy=>hsp y (List.mem_append_right _ hy)),rfl⟩;exact trod_spare hl _ _ _ _ (ht _ (List.mem_cons_self ..)) (DataW.trod_carry _ _ _ _ hx (fun y hy=>sameAt_below hb (hlt y (List.mem_append_left _ hy)))) (fun y hy=>hsp y (List.mem_append_left _ hy))
 | [],[],_ :: _,_,_,h,_,_=>h.elim
 | [],_ :: _,_,_,_,h,_,_=>by cases h
 | _ :: _,[],_,_,_,h,_,_=>by cases h
 | _ :: _,_ :: _,[],_,_,h,_,_=>by cases h
theorem post_of_below {f:Func} {s:ChangeSpec} {apart fresh handsOn again:Bool} {W W':World} {args:Array Value} {v:Value} {ds gs:List (DataW H)} {before pa pv:List MemPlace}
  (hW:DataW.Whole enc P f.params.toList s.vars apart W args.toList ds gs before)
  (hres:∀ (b:Nat) (sp:Nat→Bool) (hd:Bool),DataW.TrodAll enc P W' b sp hd f.resultTypes.toList (v.resultList f.resultTypes.size) (s.fn H (ds++gs)).results [])
  (hargs:∀ sp:Nat→Bool,(∀ p∈before,sp p.block=true)→DataW.TrodAll enc P W' 0 sp true f.params.toList args.toList (s.fn H (ds++gs)).args pa)
  (hvars:∀ sp:Nat→Bool,(∀ p∈before,sp p.block=true)→DataW.TrodVars enc P W' sp s.vars (s.fn H (ds++gs)).vars pv)
  (hps:before=pa++pv) (hb:Below W.heap.size W W')
  (hok:∀ (j:Nat) (t:TypeId) (r:Value),f.resultTypes[j]?=some t→(v.resultList f.resultTypes.size)[j]?=some r→Value.okWide P W' .any 0 t r) :
  s.post enc P f apart fresh handsOn again W args v W':=by
 have hlt:∀ p∈before,p.block<W.heap.size:=fun p hp=>hW.lt p hp
 have hold:∀ p∈before,(fun b=>decide (b<W.heap.size)) p.block=true:=fun p hp=>by simpa using hlt p hp
 refine⟨ds,gs,before,[],pa,pv,hW,hres _ _ _,hargs _ hold,hvars _ hold,World.keptBut_mono (fun p hp=>⟨hp,?_⟩) (hb.frame (·∈before)),fun _=>?_⟩
 ·rw[hps,List.mem_append] at hp;exact Or.inr hp
 ·obtain⟨_,_,_,_,_,hz,hn⟩:=hW;refine⟨hok,_,_,([]++pa)++pv,⟨[]++pa,pv,trodAll_append (hargs _ (fun _ _=>rfl)) (hres _ _ _),hvars _ (fun _ _=>rfl),rfl,?_,?_⟩,?_⟩
  ·intro b off hp;have hin:MemPlace.cell b off∈before:=by rw[hps];simpa using hp
   rw[hb.frozen (hlt _ hin)];exact hz b off hin
  ·intro ha;have:=hn ha;rw[hps] at this
   simpa using this
  ·intro p hp _;rw[hps]
   simpa using hp
theorem post_law {l:List TypeId} (hall:(l.all fun t=>goodAt P l t)=true) {f:Func} {s:ChangeSpec} {apart fresh handsOn again:Bool} {W W':World} {args:Array Value} {ds:List (DataW H)} {before:List MemPlace} {tb:TypeId}
  (hvs:s.vars=[]) (hrt:f.resultTypes=#[tb]) (htb:P.underlying tb=some .bool) (hfn:s.fn H ds={ results:=[.lit (.bool true)],args:=ds })
  (hts:(f.params.toList.all fun t=>l.contains t)=true) (hW:DataW.Whole enc P f.params.toList s.vars apart W args.toList ds [] before) (hb:Below W.heap.size W W') :
  s.post enc P f apart fresh handsOn again W args (.bool true) W':=by
 have hlt:∀ p∈before,p.block<W.heap.size:=fun p hp=>hW.lt p hp
 have a0:=hW;obtain⟨p,q,hA,hV,he,_,_⟩:=a0;rw[hvs] at hV;have hq:q=[]:=hV;subst hq;rw[List.append_nil] at he;subst he;refine post_of_below (pa:=before) (pv:=[]) hW (fun b sp hd=>?_) (fun sp hsp=>?_) (fun sp hsp=>?_) (by simp) hb ?_
 ·rw[hrt,List.append_nil,hfn];exact⟨[],[],⟨1,by simp[DataW.trod,htb,Value.cells]⟩,rfl,rfl⟩
 ·rw[List.append_nil,hfn];exact trodAll_back (fun t ht=>List.all_eq_true.1 hall t (by simpa using ht)) hb (fun t ht=>List.all_eq_true.1 hts t ht) hA hlt hsp
 ·rw[hvs,List.append_nil,hfn];exact rfl
 ·intro j t r h1 h2;rw[hrt] at h1 h2
  match j with
  | 0=>
   simp at h1 h2
   subst h1;have:r=.bool true:=by simpa[Value.resultList] using h2.symm
   subst this;simp[Value.okWide,htb,Cell.okWide,Cell.ok]
  | j+1=>simp at h1
end
end Go.Proofs.YtkhljkiehohckaaGreatDoor
namespace Go.Proofs.YtkhljkiehohckaaGreatDoor
open Go Go.RowKit Go.WideShapes Go.ChangeShapes
theorem own_knob:ownKnob Tryz.prog.godebug=none:=by kernel_rfl
theorem error_star: "*"++ "errors.errorString"= "*errors.errorString":=by decide
theorem error_row (u:TypeId) (h:Tryz.prog.typeName? 3 u=some "*errors.errorString"):u=198:=
 typeName_ptr_named (nm:= "errors.errorString") (by rw[error_star];kernel_rfl) (by kernel_rfl) (by decide) u (by rw[error_star];exact h)
def laidList:List (String × DataW Unit):=[("math/bits.deBruijn32tab",Rows.laid_math_bits_deBruijn32tab),("math/bits.deBruijn64tab",Rows.laid_math_bits_deBruijn64tab),("internal/strconv.uint64pow10",Rows.laid_internal_strconv_uint64pow10),("strconv.ErrRange",Rows.laid_strconv_ErrRange),("strconv.ErrSyntax",Rows.laid_strconv_ErrSyntax),("monocle/glass.formulas",Rows.laid_monocle_glass_formulas)]
theorem laid_glob {W:World} (hh:laidMetH Tryz.prog laidList W):Glob W:=by
 have h:laidMet Tryz.prog [("math/bits.deBruijn32tab",Rows.laid_math_bits_deBruijn32tab),("math/bits.deBruijn64tab",Rows.laid_math_bits_deBruijn64tab),("internal/strconv.uint64pow10",Rows.laid_internal_strconv_uint64pow10),("strconv.ErrRange",Rows.laid_strconv_ErrRange),("strconv.ErrSyntax",Rows.laid_strconv_ErrSyntax)] W:=(show laidMet Tryz.prog _ W∧handlesMet Tryz.prog _ W from hh).1;have h1:=laidMet.tail (laidMet.tail h);have h2:=laidMet.tail h1;refine⟨?_,?_⟩
 ·exact Lib.tabIs_of_head (g:=4) (t:=203) (e:=144) (n:=20) (by kernel_rfl) (by kernel_rfl) (by kernel_rfl) (by kernel_rfl) (by kernel_rfl) (by kernel_rfl) h1
 ·obtain⟨a,s,hv,_⟩:=laid_sentinel (g:=3) (ti:=109) (tp:=198) (te:=200) (ts:=9) h2 (by kernel_rfl) (by kernel_rfl) Tryz.underlying109 error_row Tryz.underlying198 Tryz.underlying200 rfl rfl Tryz.underlying9 (by kernel_rfl) (by kernel_rfl);exact⟨_,_,hv⟩
theorem laid_gf {W:World} (h:laidMetH Tryz.prog laidList W):GF W:=by
 refine⟨laid_glob h,?_⟩;obtain⟨g,t,cs,fuel,p,hg,ht,hv,hd⟩:=h.funcs (n:= "monocle/glass.formulas") (by unfold laidList;exact List.mem_cons_of_mem _ (List.mem_cons_of_mem _ (List.mem_cons_of_mem _ (List.mem_cons_of_mem _ (List.mem_cons_of_mem _ (List.mem_cons_self ..))))));obtain rfl:=Option.some.inj ((show Tryz.prog.globalNamed "monocle/glass.formulas"=some 0 by kernel_rfl).symm.trans hg);obtain rfl:=Option.some.inj ((show(Tryz.prog.globals[0]?).map (·.type)=some 77 by kernel_rfl).symm.trans ht);have hd':DataW.trod (funcToken Tryz.prog) Tryz.prog W 0 (fun _=>true) true fuel 77 cs.toList=some (.agg [.nil,.held [40,109,111,110,111,99,108,101,47,103,108,97,115,115,46,100,105,115,112,101,114,115,105,111,110,41,46,115,101,108,108,109,101,105,101,114],.held [40,109,111,110,111,99,108,101,47,103,108,97,115,115,46,100,105,115,112,101,114,115,105,111,110,41,46,99,97,117,99,104,121],.held [40,109,111,110,111,99,108,101,47,103,108,97,115,115,46,100,105,115,112,101,114,115,105,111,110,41,46,115,99,104,111,116,116]],p):=hd;have hu:Tryz.prog.underlying 77=some (.array 4 76):=Tryz.underlying77;obtain⟨xs,m,-,-,hl,-,-⟩:=DataW.trod_array hu hd';obtain⟨c0,c1,c2,c3,hcs⟩:∃ c0 c1 c2 c3,cs.toList=[c0,c1,c2,c3]:=by
  rw[show Tryz.prog.cellsOf 77=4 by kernel_rfl] at hl
  match cs.toList,hl with
  | [c0,c1,c2,c3],_=>exact⟨c0,c1,c2,c3,rfl⟩
 rw[hcs] at hd';obtain⟨⟨d0,q0⟩,⟨d1,q1⟩,⟨d2,q2⟩,⟨d3,q3⟩,n,hx,h0,h1,h2,h3⟩:=trod_array4 hu (by kernel_rfl) hd';have hx1:=congrArg Prod.fst hx;simp only[DataW.agg.injEq,List.cons.injEq] at hx1
 obtain⟨-,rfl,rfl,rfl,-⟩:=hx1;obtain rfl:=Go.func_of_trod (f0:=196) Tryz.underlying76 (by kernel_rfl) h1;obtain rfl:=Go.func_of_trod (f0:=190) Tryz.underlying76 (by kernel_rfl) h2;obtain rfl:=Go.func_of_trod (f0:=197) Tryz.underlying76 (by kernel_rfl) h3;obtain⟨l⟩:=cs;simp only at hcs;subst hcs
 intro k k1 k2;have hc:=World.var?_cell hg hv k;rw[hc];obtain rfl | rfl | rfl:k=1∨k=2∨k=3:=by omega
 ·rfl
 ·rfl
 ·rfl
noncomputable def laidWorld (os:Os):World:=World.doorLaid Tryz.prog 67 os
set_option maxRecDepth 100000 in
theorem laid_met (os:Os) (args:Array Value):laidMetH Tryz.prog laidList ((laidWorld os).forCall (fun _ _=>0) ⟨#[],args,[]⟩).memory:=
 laidMetH_of_parts3 (fuel:=8) (laidMet_of_run' 8 (by kernel_rfl) (by kernel_rfl)) (by kernel_rfl) (by kernel_rfl)
end Go.Proofs.YtkhljkiehohckaaGreatDoor
namespace Go.Proofs.YtkhljkiehohckaaGreatDoor
open Go Go.RowKit Go.WideShapes Go.ChangeShapes
section
variable {H:Type} {enc:TypeId × Value→H} {W:World}
theorem trod_struct5 {P:Program} {t:TypeId} {f0 f1 f2 f3 f4:Field} {fuel:Nat} {cs:List Value} {x:DataW H × List MemPlace} (ht:P.underlying t=some (.struct #[f0,f1,f2,f3,f4])) (h:DataW.trod enc P W 0 (fun _=>true) true fuel t cs=some x) :
  ∃ y0 y1 y2 y3 y4 n,DataW.trod enc P W 0 (fun _=>true) true n f0.type ((cs.drop f0.offset).take (P.cellsOf f0.type))=some y0∧DataW.trod enc P W 0 (fun _=>true) true n f1.type ((cs.drop f1.offset).take (P.cellsOf f1.type))=some y1 ∧
   DataW.trod enc P W 0 (fun _=>true) true n f2.type ((cs.drop f2.offset).take (P.cellsOf f2.type))=some y2∧DataW.trod enc P W 0 (fun _=>true) true n f3.type ((cs.drop f3.offset).take (P.cellsOf f3.type))=some y3∧DataW.trod enc P W 0 (fun _=>true) true n f4.type ((cs.drop f4.offset).take (P.cellsOf f4.type))=some y4:=by
 obtain⟨xs,n,_,rfl,hl,hlen,hf⟩:=DataW.trod_struct ht h
 match xs,hlen with
 | [y0,y1,y2,y3,y4],_=>exact⟨y0,y1,y2,y3,y4,n,by simpa using hf 0 f0 rfl,by simpa using hf 1 f1 rfl,by simpa using hf 2 f2 rfl,by simpa using hf 3 f3 rfl,by simpa using hf 4 f4 rfl⟩
theorem u8_of {fuel:Nat} {c:Value} {x:DataW H × List MemPlace} (h:DataW.trod enc Tryz.prog W 0 (fun _=>true) true fuel 5 [c]=some x):∃ n,c=.int .u8 n∧0≤n∧n≤255:=by
 obtain⟨a,ha,_,hwf⟩:=DataW.trod_int Tryz.underlying5 h;have w:0≤a∧a≤255:=by simpa[Lit.wf,IntKind.min,IntKind.max,IntKind.signed,IntKind.bits] using hwf
 exact⟨a,by simpa using ha,w⟩
theorem i8_of {fuel:Nat} {c:Value} {x:DataW H × List MemPlace} (h:DataW.trod enc Tryz.prog W 0 (fun _=>true) true fuel 22 [c]=some x):∃ n,c=.int .i8 n∧-128≤n∧n≤127:=by
 obtain⟨a,ha,_,hwf⟩:=DataW.trod_int Tryz.underlying22 h;exact⟨a,by simpa using ha,bounds_i8 hwf⟩
theorem i64_of {fuel:Nat} {c:Value} {x:DataW H × List MemPlace} (h:DataW.trod enc Tryz.prog W 0 (fun _=>true) true fuel 3 [c]=some x):∃ n,c=.int .i64 n:=by
 obtain⟨a,ha,_,hwf⟩:=DataW.trod_int Tryz.underlying3 h;exact⟨a,by simpa using ha⟩
theorem str_of {fuel:Nat} {c:Value} {x:DataW H × List MemPlace} (h:DataW.trod enc Tryz.prog W 0 (fun _=>true) true fuel 9 [c]=some x):∃ s:ByteArray,c=.string s∧s.size≤maxLen:=by
 obtain⟨a,ha,_,hwf⟩:=DataW.trod_string Tryz.underlying9 h;exact⟨a,by simpa using ha,hwf⟩
set_option maxRecDepth 100000 in
theorem gdraft_of {fuel:Nat} {x:DataW H × List MemPlace} {c0 c1 c2 c3 c4 c5 c6 c7 c8 c9:Value} (h:DataW.trod enc Tryz.prog W 0 (fun _=>true) true fuel 25 [c0,c1,c2,c3,c4,c5,c6,c7,c8,c9]=some x) :
  ∃ d:DR,d.wf∧[c0,c1,c2,c3,c4,c5,c6,c7,c8,c9]=[.int .u8 d.f,.int .i8 d.a0,.int .i8 d.a1,.int .i8 d.a2,.int .i8 d.a3,.int .i8 d.a4,.int .i8 d.a5,.int .u8 d.nm,.int .u8 d.lo,.int .u8 d.wd]:=by
 obtain⟨y0,y1,y2,y3,y4,n,h0,h1,h2,h3,h4⟩:=trod_struct5 Tryz.underlying25 h;have e0:([c0,c1,c2,c3,c4,c5,c6,c7,c8,c9].drop 0).take (Tryz.prog.cellsOf 5)=[c0]:=by rw[show Tryz.prog.cellsOf 5=1 by kernel_rfl];rfl
 replace h0:=(show DataW.trod enc Tryz.prog W 0 (fun _=>true) true n 5 [c0]=some _ from by rw[← e0];exact h0);have e1:([c0,c1,c2,c3,c4,c5,c6,c7,c8,c9].drop 1).take (Tryz.prog.cellsOf 23)=[c1,c2,c3,c4,c5,c6]:=by rw[show Tryz.prog.cellsOf 23=6 by kernel_rfl];rfl
 replace h1:=(show DataW.trod enc Tryz.prog W 0 (fun _=>true) true n 23 [c1,c2,c3,c4,c5,c6]=some _ from by rw[← e1];exact h1);have e2:([c0,c1,c2,c3,c4,c5,c6,c7,c8,c9].drop 7).take (Tryz.prog.cellsOf 5)=[c7]:=by rw[show Tryz.prog.cellsOf 5=1 by kernel_rfl];rfl
 replace h2:=(show DataW.trod enc Tryz.prog W 0 (fun _=>true) true n 5 [c7]=some _ from by rw[← e2];exact h2);have e3:([c0,c1,c2,c3,c4,c5,c6,c7,c8,c9].drop 8).take (Tryz.prog.cellsOf 5)=[c8]:=by rw[show Tryz.prog.cellsOf 5=1 by kernel_rfl];rfl
 replace h3:=(show DataW.trod enc Tryz.prog W 0 (fun _=>true) true n 5 [c8]=some _ from by rw[← e3];exact h3);have e4:([c0,c1,c2,c3,c4,c5,c6,c7,c8,c9].drop 9).take (Tryz.prog.cellsOf 5)=[c9]:=by rw[show Tryz.prog.cellsOf 5=1 by kernel_rfl];rfl
 replace h4:=(show DataW.trod enc Tryz.prog W 0 (fun _=>true) true n 5 [c9]=some _ from by rw[← e4];exact h4);obtain⟨xs,m,-,-,-,hl,hx⟩:=DataW.trod_array Tryz.underlying23 h1;rw[show Tryz.prog.cellsOf 22=1 by kernel_rfl] at hx;have g0:=hx 0 (by decide);rw[List.getElem?_eq_getElem (show 0<xs.length by rw[hl];decide)] at g0;obtain⟨a0,rfl,p0⟩:=i8_of (show DataW.trod enc Tryz.prog W 0 (fun _=>true) true m 22 [c1]=some _ from g0);have g1:=hx 1 (by decide);rw[List.getElem?_eq_getElem (show 1<xs.length by rw[hl];decide)] at g1;obtain⟨a1,rfl,p1⟩:=i8_of (show DataW.trod enc Tryz.prog W 0 (fun _=>true) true m 22 [c2]=some _ from g1);have g2:=hx 2 (by decide);rw[List.getElem?_eq_getElem (show 2<xs.length by rw[hl];decide)] at g2;obtain⟨a2,rfl,p2⟩:=i8_of (show DataW.trod enc Tryz.prog W 0 (fun _=>true) true m 22 [c3]=some _ from g2);have g3:=hx 3 (by decide);rw[List.getElem?_eq_getElem (show 3<xs.length by rw[hl];decide)] at g3;obtain⟨a3,rfl,p3⟩:=i8_of (show DataW.trod enc Tryz.prog W 0 (fun _=>true) true m 22 [c4]=some _ from g3);have g4:=hx 4 (by decide);rw[List.getElem?_eq_getElem (show 4<xs.length by rw[hl];decide)] at g4;obtain⟨a4,rfl,p4⟩:=i8_of (show DataW.trod enc Tryz.prog W 0 (fun _=>true) true m 22 [c5]=some _ from g4);have g5:=hx 5 (by decide);rw[List.getElem?_eq_getElem (show 5<xs.length by rw[hl];decide)] at g5;obtain⟨a5,rfl,p5⟩:=i8_of (show DataW.trod enc Tryz.prog W 0 (fun _=>true) true m 22 [c6]=some _ from g5);obtain⟨f,rfl,q0⟩:=u8_of h0;obtain⟨k,rfl,q2⟩:=u8_of h2
 obtain⟨lo,rfl,q3⟩:=u8_of h3;obtain⟨wd,rfl,q4⟩:=u8_of h4;refine⟨⟨f,a0,a1,a2,a3,a4,a5,k,lo,wd⟩,⟨q0,fun i=>?_,q2,q3,q4⟩,rfl⟩;rcases i with _ | _ | _ | _ | _ | i
 ·exact p0
 ·exact p1
 ·exact p2
 ·exact p3
 ·exact p4
 ·exact p5
set_option maxRecDepth 100000 in
theorem bend_of {fuel:Nat} {x:DataW H × List MemPlace} {c0 c1 c2 c3:Value} (h:DataW.trod enc Tryz.prog W 0 (fun _=>true) true fuel 27 [c0,c1,c2,c3]=some x) :
  ∃ (what ix n:Int) (tx:ByteArray),[c0,c1,c2,c3]=[.int .u8 what,.int .u8 ix,.int .i64 n,.string tx]∧(0≤what∧what≤255)∧(0≤ix∧ix≤255)∧tx.size≤maxLen:=by
 obtain⟨y0,y1,y2,y3,n,_,_,h0,h1,h2,h3⟩:=Joins.trod_struct4 Tryz.underlying27 h;have e0:([c0,c1,c2,c3].drop 0).take (Tryz.prog.cellsOf 5)=[c0]:=by rw[show Tryz.prog.cellsOf 5=1 by kernel_rfl];rfl
 replace h0:=(show DataW.trod enc Tryz.prog W 0 (fun _=>true) true n 5 [c0]=some _ from by rw[← e0];exact h0);have e1:([c0,c1,c2,c3].drop 1).take (Tryz.prog.cellsOf 5)=[c1]:=by rw[show Tryz.prog.cellsOf 5=1 by kernel_rfl];rfl
 replace h1:=(show DataW.trod enc Tryz.prog W 0 (fun _=>true) true n 5 [c1]=some _ from by rw[← e1];exact h1);have e2:([c0,c1,c2,c3].drop 2).take (Tryz.prog.cellsOf 3)=[c2]:=by rw[show Tryz.prog.cellsOf 3=1 by kernel_rfl];rfl
 replace h2:=(show DataW.trod enc Tryz.prog W 0 (fun _=>true) true n 3 [c2]=some _ from by rw[← e2];exact h2);have e3:([c0,c1,c2,c3].drop 3).take (Tryz.prog.cellsOf 9)=[c3]:=by rw[show Tryz.prog.cellsOf 9=1 by kernel_rfl];rfl
 replace h3:=(show DataW.trod enc Tryz.prog W 0 (fun _=>true) true n 9 [c3]=some _ from by rw[← e3];exact h3);obtain⟨a,rfl,p0⟩:=u8_of h0;obtain⟨b,rfl,p1⟩:=u8_of h1;obtain⟨k,rfl⟩:=i64_of h2;obtain⟨s,rfl,p3⟩:=str_of h3;exact⟨a,b,k,s,rfl,p0,p1,p3⟩
theorem arr4 {α:Type} {cs:Array α} (h:cs.size=4):∃ c0 c1 c2 c3,cs=#[c0,c1,c2,c3]:=by
 obtain⟨l⟩:=cs
 match l,h with
 | [c0,c1,c2,c3],_=>exact⟨c0,c1,c2,c3,rfl⟩
theorem arr8 {α:Type} {cs:Array α} (h:cs.size=8):∃ c0 c1 c2 c3 c4 c5 c6 c7,cs=#[c0,c1,c2,c3,c4,c5,c6,c7]:=by
 obtain⟨l⟩:=cs
 match l,h with
 | [c0,c1,c2,c3,c4,c5,c6,c7],_=>exact⟨c0,c1,c2,c3,c4,c5,c6,c7,rfl⟩
theorem arr10 {α:Type} {cs:Array α} (h:cs.size=10):∃ c0 c1 c2 c3 c4 c5 c6 c7 c8 c9,cs=#[c0,c1,c2,c3,c4,c5,c6,c7,c8,c9]:=by
 obtain⟨l⟩:=cs
 match l,h with
 | [c0,c1,c2,c3,c4,c5,c6,c7,c8,c9],_=>exact⟨c0,c1,c2,c3,c4,c5,c6,c7,c8,c9,rfl⟩
variable {r:Reach} {b0:Nat} {v:Value} {d:DataW H} {p:List MemPlace}
theorem okWide_array {P:Program} {T e:TypeId} {n:Nat} (ht:P.underlying T=some (.array n e)) (h:Value.okWide P W r b0 T v):∃ cs,v=.agg cs∧cs.size=P.cellsOf T:=by
 simp only[Value.okWide,ht] at h
 obtain⟨cs,h1,h2,_⟩:=h;exact⟨cs,h1,h2⟩
set_option maxRecDepth 100000 in
theorem open_gdraft (hv:Value.okWide Tryz.prog W r b0 25 v) (h:DataW.Trod enc Tryz.prog W 0 (fun _=>true) true 25 v d p) :
  ∃ d:DR,d.wf∧v=.agg #[.int .u8 d.f,.int .i8 d.a0,.int .i8 d.a1,.int .i8 d.a2,.int .i8 d.a3,.int .i8 d.a4,.int .i8 d.a5,.int .u8 d.nm,.int .u8 d.lo,.int .u8 d.wd]:=by
 obtain⟨cs,rfl,hsz⟩:=okWide_struct Tryz.underlying25 hv;obtain⟨c0,c1,c2,c3,c4,c5,c6,c7,c8,c9,rfl⟩:=arr10 (hsz.trans (show Tryz.prog.cellsOf 25=10 by kernel_rfl));obtain⟨fuel,hf⟩:=h;obtain⟨d,hd,e⟩:=gdraft_of (fuel:=fuel) hf;exact⟨d,hd,congrArg (fun l:List Value=>Value.agg l.toArray) e⟩
set_option maxRecDepth 100000 in
theorem open_bend (hv:Value.okWide Tryz.prog W r b0 27 v) (h:DataW.Trod enc Tryz.prog W 0 (fun _=>true) true 27 v d p) :
  ∃ (what ix n:Int) (tx:ByteArray),v=.agg #[.int .u8 what,.int .u8 ix,.int .i64 n,.string tx]∧(0≤what∧what≤255)∧(0≤ix∧ix≤255)∧tx.size≤maxLen:=by
 obtain⟨cs,rfl,hsz⟩:=okWide_struct Tryz.underlying27 hv;obtain⟨c0,c1,c2,c3,rfl⟩:=arr4 (hsz.trans (show Tryz.prog.cellsOf 27=4 by kernel_rfl));obtain⟨fuel,hf⟩:=h;obtain⟨a,b,k,s,e,h1,h2,h3⟩:=bend_of (fuel:=fuel) hf;exact⟨a,b,k,s,congrArg (fun l:List Value=>Value.agg l.toArray) e,h1,h2,h3⟩
set_option maxRecDepth 100000 in
theorem open_bend2 (hv:Value.okWide Tryz.prog W r b0 28 v) (h:DataW.Trod enc Tryz.prog W 0 (fun _=>true) true 28 v d p) :
  ∃ (what ix n:Int) (tx:ByteArray) (what' ix' n':Int) (tx':ByteArray),v=.agg #[.int .u8 what,.int .u8 ix,.int .i64 n,.string tx,.int .u8 what',.int .u8 ix',.int .i64 n',.string tx']∧(0≤what∧what≤255)∧(0≤ix∧ix≤255)∧tx.size≤maxLen∧(0≤what'∧what'≤255)∧(0≤ix'∧ix'≤255)∧tx'.size≤maxLen:=by
 obtain⟨cs,rfl,hsz⟩:=okWide_array Tryz.underlying28 hv;obtain⟨c0,c1,c2,c3,c4,c5,c6,c7,rfl⟩:=arr8 (hsz.trans (show Tryz.prog.cellsOf 28=8 by kernel_rfl));obtain⟨fuel,hf⟩:=h;obtain⟨xs,m,-,-,-,hl,hx⟩:=DataW.trod_array Tryz.underlying28 hf;rw[show Tryz.prog.cellsOf 27=4 by kernel_rfl] at hx;have g0:=hx 0 (by decide);rw[List.getElem?_eq_getElem (show 0<xs.length by rw[hl];decide)] at g0;have g1:=hx 1 (by decide);rw[List.getElem?_eq_getElem (show 1<xs.length by rw[hl];decide)] at g1;obtain⟨a,b,k,s,e,h1,h2,h3⟩:=bend_of (show DataW.trod enc Tryz.prog W 0 (fun _=>true) true m 27 [c0,c1,c2,c3]=some _ from g0);obtain⟨a',b',k',s',e',h1',h2',h3'⟩:=bend_of (show DataW.trod enc Tryz.prog W 0 (fun _=>true) true m 27 [c4,c5,c6,c7]=some _ from g1);simp only[List.cons.injEq,and_true] at e e'
 obtain⟨rfl,rfl,rfl,rfl⟩:=e;obtain⟨rfl,rfl,rfl,rfl⟩:=e';exact⟨a,b,k,s,a',b',k',s',rfl,h1,h2,h3,h1',h2',h3'⟩
end
end Go.Proofs.YtkhljkiehohckaaGreatDoor
