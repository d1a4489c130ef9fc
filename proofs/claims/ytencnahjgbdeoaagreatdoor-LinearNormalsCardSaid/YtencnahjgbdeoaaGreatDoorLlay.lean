/- Texts put together. -/
import Derived.Below
import Derived.ChangeSame
import Derived.ChangeReads
import Derived.RowKit
import Derived.ChangeShapes
import Derived.Test.YtencnahjgbdeoaaGreatDoorCards
import Derived.Test.YtencnahjgbdeoaaGreatDoorTie
import Derived.Test.YtencnahjgbdeoaaGreatDoorDec
import Derived.Test.YtencnahjgbdeoaaGreatDoorQN
import Derived.WalkKit
import Derived.ProofKit
import Derived.OpenShut
import Derived.Deep.DeepHandedRow
import Derived.Deep.DeepWitnessRowRef
import Derived.Lib.LaidTab
import Derived.Lib.LaidU8
import Derived.Stop.LaidErr
import Derived.Test.YtencnahjgbdeoaaGreatDoorWd
import Derived.Lib.SmallJoins
import Derived.ChangeArms
import Derived.Lib.ItoaMem
namespace Go.Proofs.YtencnahjgbdeoaaGreatDoor
open Go Go.RowKit Go.WideShapes Go.ChangeShapes
set_option maxRecDepth 100000
variable {W:World}
section
variable {H:Type} {enc:TypeId × Value→H} {P:Program} {w w':World} {base:Nat} {sp:Nat→Bool}
theorem WF {α β:Type} {f:α→Option β}:∀ {l:List α} {r:List β},l.mapM f=some r→r.length=l.length:=by
 intro l
 induction l with
 | nil=>intro r h;simp at h;subst h;rfl
 | cons x l ih=>
  intro r h;rw[List.mapM_cons] at h;obtain⟨y,-,h⟩:=aHg.1 h;obtain⟨ys,hys,h⟩:=aHg.1 h;cases h
  rw[aEl,aEl,ih hys]
theorem iS {α β:Type} {f g:α→Option β}:∀ {l:List α} {r:List β},l.mapM f=some r→(∀ x y,x∈l→y∈r→f x=some y→g x=some y)→l.mapM g=some r:=by
 intro l
 induction l with
 | nil=>intro r h _;simpa using h
 | cons x l ih=>
  intro r h hk;rw[List.mapM_cons] at h ⊢;obtain⟨y,hy,h⟩:=aHg.1 h;obtain⟨ys,hys,h⟩:=aHg.1 h;cases h
  rw[hk x y (aFh ..) (aFh ..) hy,ih hys (fun a b ha hb=>hk a b (aFo _ ha) (aFo _ hb))]
  rfl
def uZ (P:Program) (l:List TypeId) (t:TypeId):Bool:=
 match P.underlying t with
 | some (.slice e)=>decide (0<P.cellsOf e)&&l.contains e
 | some (.pointer e)=>l.contains e
 | some (.struct fs)=>fs.toList.all fun f=>l.contains f.type
 | some (.array _ e)=>l.contains e
 | some (.map _ e)=>l.contains e
 | _=>true
theorem xK {l:List TypeId} (hl:∀ t,l.contains t=true→uZ P l t=true) {r r':TypeId→List Value→Option (DataW H × List MemPlace)}
  (hr:∀ t cs x,l.contains t=true→r t cs=some x→(∀ p∈x.2,sp p.block=true)→r' t cs=some x) {t:TypeId} (ht:l.contains t=true) {cs:List Value} {x:DataW H × List MemPlace}
  (h:DataW.trodStep enc P w base (fun _=>true) true r t cs=some x) (hs:∀ p∈x.2,sp p.block=true):DataW.trodStep enc P w base sp true r' t cs=some x:=by
 have hg:=hl t ht;unfold uZ at hg;unfold DataW.trodStep at h ⊢
 split at h
 case h_1=>exact h
 case h_2=>exact h
 case h_3=>exact h
 case h_4=>exact h
 case h_5=>exact h
 case h_6 e a hu=>
  rw[hu] at hg;simp only[aKw,aHg] at h ⊢
  obtain⟨y,⟨cs',hc,hy⟩,rfl⟩:=h;exact⟨y,⟨cs',hc,hr _ _ _ hg hy (fun p hp=>hs p (by simp[hp]))⟩,rfl⟩
 case h_7=>exact h
 case h_8 e a len cap hu=>
  simp only at h ⊢
  rw[hu] at hg;simp only[aFs,aHc] at hg
  obtain⟨hpe,hge⟩:=hg
  split at h
  ·rename_i hc
   rw[aEv hc];simp only[aKw,aHg] at h ⊢
   obtain⟨elems,he,rest,hrest,rfl⟩:=h;rw[aEv aFi] at hrest;have one:∀ (i:Nat) (y:DataW H × List MemPlace),y∈elems++rest →
     (w.cells? base (a.add (i*P.cellsOf e)) (P.cellsOf e)).bind (r e)=some y→(w.cells? base (a.add (i*P.cellsOf e)) (P.cellsOf e)).bind (r' e)=some y:=by
    intro i y hy hv;simp only[aHg] at hv ⊢
    obtain⟨cs',hc',hy'⟩:=hv;refine⟨cs',hc',hr _ _ _ hge hy' (fun p hp=>hs p ?_)⟩;simp only[aGb,List.mem_flatMap]
    right
    exact⟨y,by simpa using hy,hp⟩
   refine⟨elems,iS he (fun i y hi hy=>one i y (by simp[hy])),rest,?_,rfl⟩;have hrl:rest.length=cap-len:=by simpa using WF hrest
   by_cases hsp:sp a.block=true
   ·rw[aEv hsp];exact iS hrest (fun j y hj hy=>one (len+j) y (by simp[hy]))
   ·rw[aEu hsp];rcases aGg rest.length with h0 | h0
    ·rw[aGh h0]
    ·refine absurd (hs (.cell a.block (a.off+0)) ?_) hsp;simp only[aGb]
     left
     exact MemPlace.mem_row.2 ⟨0,aKe (by omega) hpe,rfl⟩
  ·cases h
 case h_9 hu=>
  rw[hu] at hg
  split at h
  ·rename_i hc
   rw[aEv hc];simp only[aKw] at h ⊢
   obtain⟨xs,hx,rfl⟩:=h;exact⟨xs,iS hx (fun f y hf hy hv=>hr _ _ _ (aEx.1 hg f hf) hv (fun p hp=>hs p (List.mem_flatMap.2 ⟨y,hy,hp⟩))),rfl⟩
  ·cases h
 case h_10 hu=>
  rw[hu] at hg
  split at h
  ·rename_i hc
   rw[aEv hc];simp only[aKw] at h ⊢
   obtain⟨xs,hx,rfl⟩:=h;exact⟨xs,iS hx (fun f y _ hy hv=>hr _ _ _ hg hv (fun p hp=>hs p (List.mem_flatMap.2 ⟨y,hy,hp⟩))),rfl⟩
  ·cases h
 case h_11=>exact h
 case h_12=>
  exact h
 case h_13=>exact h
 case h_14 k e b hu=>
  rw[hu] at hg
  split at h
  ·rename_i es clock hb
   split at h
   ·rename_i hc
    simp only[aHg] at h
    obtain⟨entries,he,hd⟩:=h
    split at hd
    ·rename_i hris
     have hx:=aKh hd;subst hx;simp only[aEv hc,aHg]
     refine⟨entries,iS he (fun x y _ hy hv=>?_),by simp[hris]⟩;simp only[aHg] at hv ⊢
     obtain⟨key,hk,hz⟩:=hv;refine⟨key,hk,?_⟩
     split at hz
     ·rename_i hf
      rw[aEv hf];simp only[aKw] at hz ⊢
      obtain⟨q,hq,rfl⟩:=hz;exact⟨q,hr _ _ _ hg hq (fun p hp=>hs p (by simp only[aHp,List.mem_flatMap];right;exact⟨_,hy,hp⟩)),rfl⟩
     ·cases hz
    ·cases hd
   ·cases h
  ·cases h
 case h_15=>exact h
 case h_16=>exact h
 case h_17=>exact h
 case h_18=>exact h
 case h_19=>exact h
 case h_20=>exact h
 case h_21=>cases h
theorem KE {l:List TypeId} (hl:∀ t,l.contains t=true→uZ P l t=true):∀ (n:Nat) (t:TypeId) (cs:List Value) (x:DataW H × List MemPlace),l.contains t=true →
  DataW.trod enc P w base (fun _=>true) true n t cs=some x→(∀ p∈x.2,sp p.block=true)→DataW.trod enc P w base sp true n t cs=some x:=by
 intro n
 induction n with
 | zero=>intro t cs x _ h;simp[DataW.trod] at h
 | succ n ih=>
  intro t cs x ht h hs;rw[DataW.trod_step] at h ⊢;exact xK hl ih ht h hs
theorem BU {B:Nat} (hb:Below B w w') {p:MemPlace} (hp:p.block<B):w.sameAt w' p:=by
 cases p with
 | cell b off=>exact hb.cell (p:=⟨b,off,none⟩) hp
 | map b=>exact hb.block b hp
theorem rN {l:List TypeId} (hl:∀ t,l.contains t=true→uZ P l t=true) (hb:Below w.heap.size w w'):∀ {ts:List TypeId} {vs:List Value} {ds:List (DataW H)} {ps:List MemPlace},
  (∀ t∈ts,l.contains t=true)→DataW.TrodAll enc P w base (fun _=>true) true ts vs ds ps→(∀ p∈ps,p.block<w.heap.size)→(∀ p∈ps,sp p.block=true)→DataW.TrodAll enc P w' base sp true ts vs ds ps
 | [],[],[],_,_,h,_,_=>h
 | _ :: _,_ :: _,_ :: _,_,ht,⟨p,q,⟨fuel,hx⟩,hs,e⟩,hlt,hsp=>by
  subst e;refine⟨p,q,⟨fuel,?_⟩,rN hl hb (fun t h=>ht t (aFo _ h)) hs (fun y hy=>hlt y (aLh _ hy)) (fun y hy=>hsp y (aLh _ hy)),rfl⟩;exact KE hl _ _ _ _ (ht _ (aFh ..)) (DataW.trod_carry _ _ _ _ hx (fun y hy=>BU hb (hlt y (aKg _ hy)))) (fun y hy=>hsp y (aKg _ hy))
 | [],[],_ :: _,_,_,h,_,_=>h.elim
 | [],_ :: _,_,_,_,h,_,_=>by cases h
 | _ :: _,[],_,_,_,h,_,_=>by cases h
 | _ :: _,_ :: _,[],_,_,h,_,_=>by cases h
theorem xT {f:Func} {s:ChangeSpec} {apart fresh handsOn again:Bool} {W':World} {args:Array Value} {v:Value} {ds gs:List (DataW H)} {before pa pv:List MemPlace}
  (hW:DataW.Whole enc P f.params.toList s.vars apart W args.toList ds gs before)
  (hres:∀ (b:Nat) (sp:Nat→Bool) (hd:Bool),DataW.TrodAll enc P W' b sp hd f.resultTypes.toList (v.resultList f.resultTypes.size) (s.fn H (ds++gs)).results [])
  (hargs:∀ sp:Nat→Bool,(∀ p∈before,sp p.block=true)→DataW.TrodAll enc P W' 0 sp true f.params.toList args.toList (s.fn H (ds++gs)).args pa)
  (hvars:∀ sp:Nat→Bool,(∀ p∈before,sp p.block=true)→DataW.TrodVars enc P W' sp s.vars (s.fn H (ds++gs)).vars pv)
  (hps:before=pa++pv) (hb:Below W.heap.size W W')
  (hok:∀ (j:Nat) (t:TypeId) (r:Value),f.resultTypes[j]?=some t→(v.resultList f.resultTypes.size)[j]?=some r→Value.okWide P W' .any 0 t r) :
  s.post enc P f apart fresh handsOn again W args v W':=by
 have hlt:∀ p∈before,p.block<W.heap.size:=fun p hp=>hW.lt p hp
 have hold:∀ p∈before,(fun b=>decide (b<W.heap.size)) p.block=true:=fun p hp=>by simpa using hlt p hp
 refine⟨ds,gs,before,[],pa,pv,hW,hres _ _ _,hargs _ hold,hvars _ hold,World.keptBut_mono (fun p hp=>⟨hp,?_⟩) (hb.frame (·∈before)),fun _=>?_⟩
 ·rw[hps,aGb] at hp;exact Or.inr hp
 ·obtain⟨_,_,_,_,_,hz,hn⟩:=hW;refine⟨hok,_,_,([]++pa)++pv,⟨[]++pa,pv,trodAll_append (hargs _ (fun _ _=>rfl)) (hres _ _ _),hvars _ (fun _ _=>rfl),rfl,?_,?_⟩,?_⟩
  ·intro b off hp;have hin:MemPlace.cell b off∈before:=by rw[hps];simpa using hp
   rw[hb.frozen (hlt _ hin)];exact hz b off hin
  ·intro ha;have:=hn ha;rw[hps] at this
   simpa using this
  ·intro p hp _;rw[hps]
   simpa using hp
theorem aCr {l:List TypeId} (hall:(l.all fun t=>uZ P l t)=true) {f:Func} {s:ChangeSpec} {apart fresh handsOn again:Bool} {W W':World} {args:Array Value} {ds:List (DataW H)} {before:List MemPlace} {tb:TypeId}
  (hvs:s.vars=[]) (hrt:f.resultTypes=#[tb]) (htb:P.underlying tb=some .bool) (hfn:s.fn H ds={ results:=[.lit (.bool true)],args:=ds })
  (hts:(f.params.toList.all fun t=>l.contains t)=true) (hW:DataW.Whole enc P f.params.toList s.vars apart W args.toList ds [] before) (hb:Below W.heap.size W W') :
  s.post enc P f apart fresh handsOn again W args (.bool true) W':=by
 have hlt:∀ p∈before,p.block<W.heap.size:=fun p hp=>hW.lt p hp
 have a0:=hW;obtain⟨p,q,hA,hV,he,_,_⟩:=a0;rw[hvs] at hV;have hq:q=[]:=hV;subst hq;rw[aId] at he;subst he;refine xT (pa:=before) (pv:=[]) hW (fun b sp hd=>?_) (fun sp hsp=>?_) (fun sp hsp=>?_) (by simp) hb ?_
 ·rw[hrt,aId,hfn];exact⟨[],[],⟨1,by simp[DataW.trod,htb,Value.cells]⟩,rfl,rfl⟩
 ·rw[aId,hfn];exact rN (fun t ht=>aEx.1 hall t (by simpa using ht)) hb (fun t ht=>aEx.1 hts t ht) hA hlt hsp
 ·rw[hvs,aId,hfn];exact rfl
 ·intro j t r h1 h2;rw[hrt] at h1 h2
  match j with
  | 0=>
   simp at h1 h2
   subst h1;have:r=.bool true:=by simpa[Value.resultList] using h2.symm
   subst this;simp[Value.okWide,htb,Cell.okWide,Cell.ok]
  | j+1=>simp at h1
end
theorem aCs:ownKnob Tryz.prog.godebug=none:=by kernel_rfl
theorem wO: "*"++ "errors.errorString"= "*errors.errorString":=by decide
theorem SU (u:TypeId) (h:Tryz.prog.typeName? 3 u=some "*errors.errorString"):u=210:=
 typeName_ptr_named (nm:= "errors.errorString") (by rw[wO];kernel_rfl) (by kernel_rfl) (by decide) u (by rw[wO];exact h)
def EE:List (String × DataW Unit):=[("math/bits.deBruijn32tab",Rows.laid_math_bits_deBruijn32tab),("math/bits.deBruijn64tab",Rows.laid_math_bits_deBruijn64tab),("internal/strconv.uint64pow10",Rows.laid_internal_strconv_uint64pow10),("unicode/utf8.acceptRanges",Rows.laid_unicode_utf8_acceptRanges),("strconv.ErrRange",Rows.laid_strconv_ErrRange),("strconv.ErrSyntax",Rows.laid_strconv_ErrSyntax),("unicode/utf8.first",Rows.laid_unicode_utf8_first)]
theorem aBz (h:laidMet Tryz.prog EE W):Glob W:=by
 have h1:=laidMet.tail (laidMet.tail h);have h2:=laidMet.tail (laidMet.tail h1);refine⟨?_,?_⟩
 ·exact Lib.tabIs_of_head (g:=5) (t:=220) (e:=194) (n:=20) (by kernel_rfl) (by kernel_rfl) (by kernel_rfl) (by kernel_rfl) (by kernel_rfl) (by kernel_rfl) h1
 ·obtain⟨a,s,hv,_⟩:=laid_sentinel (g:=2) (ti:=155) (tp:=210) (te:=212) (ts:=9) h2 (by kernel_rfl) (by kernel_rfl) Tryz.underlying155 SU Tryz.underlying210 Tryz.underlying212 rfl rfl Tryz.underlying9 (by kernel_rfl) (by kernel_rfl);exact⟨_,_,hv⟩
noncomputable def SP (os:Os):World:=
 let N:=(World.settled Tryz.prog os).heap.size
 let w0:=World.holding Tryz.prog os ⟨#[.cells #[.string ⟨#[118,97,108,117,101,32,111,117,116,32,111,102,32,114,97,110,103,101]⟩] 212,.cells #[.string ⟨#[105,110,118,97,108,105,100,32,115,121,110,116,97,120]⟩] 212],#[],[]⟩
 let put (h:Array Obj) (g:Nat) (cs:Array Value):Array Obj:=h.modify g fun
  | .cells _ t frozen=>.cells cs t frozen
  | o=>o
 let ints (k:IntKind):DataW Unit→Array Value
  | .agg l=>(l.map fun | .lit (.int _ n)=>Value.int k n | _=>undef).toArray
  | _=>#[]
 let h1:=put w0.heap 2 #[.iface 210 (.pointer (some ⟨N,0,none⟩))]
 let h2:=put h1 1 #[.iface 210 (.pointer (some ⟨N+1,0,none⟩))]
 let h3:=put h2 5 (ints .u64 Rows.laid_internal_strconv_uint64pow10)
 let h4:=put h3 3 (ints .u8 Rows.laid_unicode_utf8_first)
 let h5:=put h4 4 ((List.range 16).flatMap fun i=>[Value.int .u8 (Lib.accLo i),Value.int .u8 (Lib.accHi i)]).toArray
 let h6:=put h5 6 (ints .u8 Rows.laid_math_bits_deBruijn32tab)
 let h7:=put h6 7 (ints .u8 Rows.laid_math_bits_deBruijn64tab)
 { w0 with heap:=h7 }
theorem aCu (os:Os) (args:Array Value):laidMet Tryz.prog EE ((SP os).forCall (fun _ _=>0) ⟨#[],args,[]⟩).memory:=
 laidMet_of_run' 8 (by kernel_rfl) (by kernel_rfl)
theorem aCy (h:W.ShapedOpen Tryz.prog):MaxL W:=
 Go.Proofs.cell_of_shapedOpen_int (zero:=#[.int .i64 0]) (t:=3) h (aGw (by kernel_rfl)) (by kernel_rfl) rfl (by kernel_rfl) (by kernel_rfl) Tryz.underlying3
section
variable {H:Type} {enc:TypeId × Value→H} {W:World} {fuel:Nat} {v:Value} {x:DataW H × List MemPlace} {r:Reach} {b0:Nat} {d:DataW H} {p:List MemPlace}
theorem aAh {k:IntKind} {E:Elem Int} {a:Addr} {len cap:Nat} {zs:List Int} (hl:len≤cap) (hm:cap≤maxLen) (hz:len≤zs.length) (hcell:∀ j,j<len→W.cell? (a.add j)=some (.int k (zs.getD j 0))) (hE:∀ z∈zs,E W W.heap.size [.int k z] z) :
  SL 1 E W W.heap.size (.slice (some a) len cap) (zs.take len):=by
 have hlen:(zs.take len).length=len:=by simp;omega
 obtain⟨b,off,spot⟩:=a;refine⟨some ⟨b,off,spot⟩,cap,by rw[hlen],by omega,by unfold maxLen at hm;omega,fun h0=>?_⟩;rw[hlen] at h0;have hspot:spot=none:=by simpa[Addr.add] using World.cell?_spot (hcell 0 (by omega))
 subst hspot;refine⟨b,off,rfl,World.block_lt_of_cell? W _ (hcell 0 (by omega)) |> (by simpa[Addr.add] using ·),fun j hj=>?_⟩;rw[hlen] at hj;have:=hcell j hj;rw[Lib.add_plain] at this;have hjz:j<zs.length:=by omega
 rw[List.getD,aEh hjz,aIw] at this;refine⟨[.int k zs[j]],rfl,fun i v hv=>?_,by rw[List.getElem_take];exact hE _ (aEc hjz)⟩;rcases i with _ | i
 ·rw[aJi,aGd];rw[this];exact hv
 ·cases hv
theorem TO:Tryz.prog.cellsOf 158=1:=by kernel_rfl
theorem XF:Tryz.prog.cellsOf 5=1:=by kernel_rfl
theorem aCm (h:DataW.trod enc Tryz.prog W 0 (fun _=>true) true fuel 31 [v]=some x):∃ l,SL 1 EI16 W W.heap.size v l:=by
 rcases open_ints Tryz.underlying31 Tryz.underlying158 TO h with ⟨hcs,_⟩ | ⟨a,len,cap,zs,hcs,_,hl,hm,hz,_,hcell,hwf⟩
 ·obtain rfl:v=.slice none 0 0:=by simpa using hcs
  exact⟨[],SL.nil _ _ _ _⟩
 ·obtain rfl:v=.slice (some a) len cap:=by simpa using hcs
  simp only[if_true] at hz
  refine⟨_,aAh (k:=.i16) (by omega) (by omega) (by omega) (fun j hj=>hcell j (by omega)) fun z hz'=>⟨rfl,?_⟩⟩;have:=hwf z hz';simp[Lit.wf,IntKind.min,IntKind.max,IntKind.signed,IntKind.bits] at this
  omega
theorem aCl (h:DataW.trod enc Tryz.prog W 0 (fun _=>true) true fuel 32 [v]=some x):∃ l,SL 1 EU W W.heap.size v l:=by
 rcases open_ints Tryz.underlying32 Tryz.underlying5 XF h with ⟨hcs,_⟩ | ⟨a,len,cap,zs,hcs,_,hl,hm,hz,_,hcell,hwf⟩
 ·obtain rfl:v=.slice none 0 0:=by simpa using hcs
  exact⟨[],SL.nil _ _ _ _⟩
 ·obtain rfl:v=.slice (some a) len cap:=by simpa using hcs
  simp only[if_true] at hz
  refine⟨_,aAh (k:=.u8) (by omega) (by omega) (by omega) (fun j hj=>hcell j (by omega)) fun z hz'=>⟨rfl,?_⟩⟩;have:=hwf z hz';simp[Lit.wf,IntKind.min,IntKind.max,IntKind.signed,IntKind.bits] at this
  omega
theorem aAd {c:Value} (h:DataW.trod enc Tryz.prog W 0 (fun _=>true) true fuel 5 [c]=some x):∃ n,c=.int .u8 n∧0≤n∧n≤255:=by
 obtain⟨a,ha,_,hwf⟩:=DataW.trod_int Tryz.underlying5 h;have w:0≤a∧a≤255:=by simpa[Lit.wf,IntKind.min,IntKind.max,IntKind.signed,IntKind.bits] using hwf
 exact⟨a,by simpa using ha,w⟩
theorem aAn (hv:Value.okWide Tryz.prog W r b0 34 v) (h:DataW.Trod enc Tryz.prog W 0 (fun _=>true) true 34 v d p):∃ r c N D,DV W W.heap.size v r c N D:=by
 obtain⟨cs,rfl,hsz⟩:=okWide_struct Tryz.underlying34 hv;obtain⟨c0,c1,c2,c3,rfl⟩:=Joins.array4 (hsz.trans (show Tryz.prog.cellsOf 34=4 by kernel_rfl));obtain⟨fuel,hf⟩:=h;obtain⟨y0,y1,y2,y3,n,_,_,h0,h1,h2,h3⟩:=Joins.trod_struct4 Tryz.underlying34 hf;have e0:([c0,c1,c2,c3].drop 0).take (Tryz.prog.cellsOf 5)=[c0]:=by rw[show Tryz.prog.cellsOf 5=1 by kernel_rfl];rfl
 have e1:([c0,c1,c2,c3].drop 1).take (Tryz.prog.cellsOf 5)=[c1]:=by rw[show Tryz.prog.cellsOf 5=1 by kernel_rfl];rfl
 have e2:([c0,c1,c2,c3].drop 2).take (Tryz.prog.cellsOf 31)=[c2]:=by rw[show Tryz.prog.cellsOf 31=1 by kernel_rfl];rfl
 have e3:([c0,c1,c2,c3].drop 3).take (Tryz.prog.cellsOf 32)=[c3]:=by rw[show Tryz.prog.cellsOf 32=1 by kernel_rfl];rfl
 replace h0:=(show DataW.trod enc Tryz.prog W 0 (fun _=>true) true n 5 [c0]=some _ from by rw[← e0];exact h0);replace h1:=(show DataW.trod enc Tryz.prog W 0 (fun _=>true) true n 5 [c1]=some _ from by rw[← e1];exact h1);replace h2:=(show DataW.trod enc Tryz.prog W 0 (fun _=>true) true n 31 [c2]=some _ from by rw[← e2];exact h2);replace h3:=(show DataW.trod enc Tryz.prog W 0 (fun _=>true) true n 32 [c3]=some _ from by rw[← e3];exact h3);obtain⟨r,rfl,hr⟩:=aAd h0;obtain⟨c,rfl,hc⟩:=aAd h1;obtain⟨N,hN⟩:=aCm h2;obtain⟨D,hD⟩:=aCl h3;obtain⟨A,ca,rfl,-,-⟩:=hN.slice;obtain⟨A',cd,rfl,-,-⟩:=hD.slice;exact⟨r,c,N,D,A,ca,A',cd,rfl,⟨hr.1,hr.2,hc.1,hc.2⟩,hN,hD⟩
end
end Go.Proofs.YtencnahjgbdeoaaGreatDoor
