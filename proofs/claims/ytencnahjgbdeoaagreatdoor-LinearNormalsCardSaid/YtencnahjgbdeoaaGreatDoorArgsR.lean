/- The arguments of layer 35's comparing laws, opened. -/
import Derived.Test.YtencnahjgbdeoaaGreatDoorLlay
import Derived.Test.YtencnahjgbdeoaaGreatDoorWall
import Derived.Deep.Slices
namespace Go.Proofs.YtencnahjgbdeoaaGreatDoor
open Go Go.RowKit Go.WideShapes Go.ChangeShapes
set_option maxRecDepth 100000
section
variable {H:Type} {enc:TypeId × Value→H} {W:World} {fuel:Nat} {v:Value} {x:DataW H × List MemPlace} {r:Reach} {b0:Nat} {d:DataW H} {p:List MemPlace}
theorem AV {α:Type} [Inhabited α] {k:Nat} {E:Elem α} {t e:TypeId} (ht:Tryz.prog.underlying t=some (.slice e)) (hk:Tryz.prog.cellsOf e=k) (a0:0<k)
    (hE:∀ (fuel:Nat) (cs:List Value) (x:DataW H × List MemPlace),cs.length=k→DataW.trod enc Tryz.prog W 0 (fun _=>true) true fuel e cs=some x→∃ a,E W W.heap.size cs a)
    (h:DataW.trod enc Tryz.prog W 0 (fun _=>true) true fuel t [v]=some x):∃ l,SL k E W W.heap.size v l:=by
  rcases Deep.open_slice ht h with ⟨hcs,_⟩ | ⟨a,len,cap,m,n,D,Pl,hcs,_,hl,hm,hmm,_,hx⟩
  · obtain rfl:v=.slice none 0 0:=by simpa using hcs
    exact⟨[],SL.nil _ _ _ _⟩
  · obtain rfl:v=.slice (some a) len cap:=by simpa using hcs
    rw[hk] at hx;simp only[if_true] at hmm
    have hx':∀ i,i<len→∃ y:List Value × α,y.1.length=k∧(∀ j,j<k→W.cell? ((a.add (i*k)).add j)=y.1[j]?)∧E W W.heap.size y.1 y.2:=fun i hi=>by
      obtain⟨cs',h1,h2⟩:=hx i (by omega);obtain⟨_,hlen,hc⟩:=World.cells?_some h1;obtain⟨b,hb⟩:=hE _ _ _ hlen h2;exact⟨(cs',b),hlen,hc,hb⟩
    obtain⟨f,hf⟩:=Deep.choose_lt hx';have hlen:((List.range len).map fun i=>(f i).2).length=len:=by simp
    refine⟨(List.range len).map fun i=>(f i).2,some a,cap,by rw[hlen],by omega,by unfold maxLen at hm;omega,fun h0=>?_⟩;rw[hlen] at h0;obtain⟨b,off,spot⟩:=a;obtain⟨g1,g2,-⟩:=hf 0 h0;have hc0:W.cell? ⟨b,off,spot⟩=some ((f 0).1[0]'(by omega)):=by
      have:=g2 0 a0;rw[aLf,aEh (by omega)] at this
      simpa[Addr.add] using this
    have hspot:spot=none:=World.cell?_spot hc0;subst hspot;refine⟨b,off,rfl,by simpa using World.block_lt_of_cell? W _ hc0,fun j hj=>?_⟩;rw[hlen] at hj;obtain⟨k1,k2,k3⟩:=hf j hj;refine⟨(f j).1,k1,fun i u hu=>?_,by simpa using k3⟩;have hi:i<k:=by rw[← k1];exact(aGu.1 hu).1
    have:=k2 i hi;rw[Lib.add_plain,Lib.add_plain,hu] at this;exact this
theorem TN:Tryz.prog.cellsOf 3=1:=by kernel_rfl
def aDl:Elem Int:=fun _ _ cs z=>cs=[.int .i64 z]
theorem ZL (h:DataW.trod enc Tryz.prog W 0 (fun _=>true) true fuel 24 [v]=some x):∃ l,RI W W.heap.size v l:=by
  obtain⟨l,hl⟩:=AV (E:=aDl) Tryz.underlying24 TN Nat.one_pos (fun fuel cs x hc h=>by
    obtain⟨c,rfl⟩:∃ c,cs=[c]:=by
      match cs,hc with
      | [c],_=>exact⟨c,rfl⟩
    obtain⟨a,ha,-,-⟩:=DataW.trod_int Tryz.underlying3 h;exact⟨a,ha⟩) h
  obtain⟨A,c,e,h1,h2,h3⟩:=hl;refine⟨l,A,c,e,h1,h2,fun h0=>?_⟩;obtain⟨g,off,k1,k2,k3⟩:=h3 h0;refine⟨g,off,k1,k2,fun j hj=>?_⟩;obtain⟨cs,-,q2,q3⟩:=k3 j hj;have:=q2 0 _ (by rw[show cs=_ from q3];rfl)
  rwa [aJi,aGd] at this
theorem DZ {c0 c1:Value} (h:DataW.trod enc Tryz.prog W 0 (fun _=>true) true fuel 26 [c0,c1]=some x):∃ neg l,c0=.bool neg∧RI W W.heap.size c1 l:=by
  obtain⟨y0,y1,n,_,_,h0,h1⟩:=trod_struct2 Tryz.underlying26 h;have e0:([c0,c1].drop 0).take (Tryz.prog.cellsOf 4)=[c0]:=by rw[show Tryz.prog.cellsOf 4=1 by kernel_rfl];rfl
  have e1:([c0,c1].drop 1).take (Tryz.prog.cellsOf 24)=[c1]:=by rw[show Tryz.prog.cellsOf 24=1 by kernel_rfl];rfl
  replace h0:=(show DataW.trod enc Tryz.prog W 0 (fun _=>true) true n 4 [c0]=some _ from by rw[← e0];exact h0);replace h1:=(show DataW.trod enc Tryz.prog W 0 (fun _=>true) true n 24 [c1]=some _ from by rw[← e1];exact h1);obtain⟨b,hb,_⟩:=DataW.trod_bool Tryz.underlying4 h0;obtain⟨l,hl⟩:=ZL h1;exact⟨b,l,by simpa using hb,hl⟩
theorem DL {cs:List Value} (hc:cs.length=4) (h:DataW.trod enc Tryz.prog W 0 (fun _=>true) true fuel 28 cs=some x):∃ q,EQ W W.heap.size cs q:=by
  obtain⟨c0,c1,c2,c3,rfl⟩:∃ c0 c1 c2 c3,cs=[c0,c1,c2,c3]:=by
    match cs,hc with
    | [c0,c1,c2,c3],_=>exact⟨c0,c1,c2,c3,rfl⟩
  obtain⟨y0,y1,k,_,_,h0,h1⟩:=trod_struct2 Tryz.underlying28 h;have e0:([c0,c1,c2,c3].drop 0).take (Tryz.prog.cellsOf 26)=[c0,c1]:=by rw[show Tryz.prog.cellsOf 26=2 by kernel_rfl];rfl
  have e1:([c0,c1,c2,c3].drop 2).take (Tryz.prog.cellsOf 26)=[c2,c3]:=by rw[show Tryz.prog.cellsOf 26=2 by kernel_rfl];rfl
  replace h0:=(show DataW.trod enc Tryz.prog W 0 (fun _=>true) true k 26 [c0,c1]=some _ from by rw[← e0];exact h0);replace h1:=(show DataW.trod enc Tryz.prog W 0 (fun _=>true) true k 26 [c2,c3]=some _ from by rw[← e1];exact h1);obtain⟨n,a,rfl,ha⟩:=DZ h0;obtain⟨m,b,rfl,hb⟩:=DZ h1;obtain⟨A,c,rfl⟩:=RI.slice ha;obtain⟨A',c',rfl⟩:=RI.slice hb;exact⟨((n,a),(m,b)),_,_,_,_,rfl,A,_,c,A',_,c',rfl,ha,hb⟩
theorem qZ (h:DataW.trod enc Tryz.prog W 0 (fun _=>true) true fuel 23 [v]=some x):∃ l,QS W W.heap.size v l:=
  AV Tryz.underlying23 (show Tryz.prog.cellsOf 28=4 by kernel_rfl) (by decide) (fun _ _ _ hc h=>DL hc h) h
theorem OD (h:DataW.trod enc Tryz.prog W 0 (fun _=>true) true fuel 22 [v]=some x):∃ M,QM W W.heap.size v M:=
  AV Tryz.underlying22 (show Tryz.prog.cellsOf 23=1 by kernel_rfl) Nat.one_pos (fun _ cs _ hc h=>by
    obtain⟨c,rfl⟩:∃ c,cs=[c]:=by
      match cs,hc with
      | [c],_=>exact⟨c,rfl⟩
    obtain⟨l,hl⟩:=qZ h;exact⟨l,c,rfl,hl⟩) h
theorem aBp {α:Type} {cs:Array α} (h:cs.size=9):∃ c0 c1 c2 c3 c4 c5 c6 c7 c8,cs=#[c0,c1,c2,c3,c4,c5,c6,c7,c8]:=by
  obtain⟨l⟩:=cs
  match l,h with
  | [c0,c1,c2,c3,c4,c5,c6,c7,c8],_=>exact⟨c0,c1,c2,c3,c4,c5,c6,c7,c8,rfl⟩
theorem aCt (hv:Value.okWide Tryz.prog W r b0 30 v) (h:DataW.Trod enc Tryz.prog W 0 (fun _=>true) true 30 v d p):∃ A C b e f l,RAWV W W.heap.size v A C b e f l:=by
  obtain⟨cs,rfl,hsz⟩:=okWide_struct Tryz.underlying30 hv;obtain⟨c0,c1,c2,c3,c4,c5,c6,c7,c8,rfl⟩:=aBp (hsz.trans (show Tryz.prog.cellsOf 30=9 by kernel_rfl));obtain⟨fuel,hf⟩:=h;obtain⟨xs,n,_,_,-,hlen,hff⟩:=DataW.trod_struct Tryz.underlying30 hf;obtain⟨y0,y1,y2,y3,y4,y5,rfl⟩:∃ y0 y1 y2 y3 y4 y5,xs=[y0,y1,y2,y3,y4,y5]:=by
    match xs,hlen with
    | [y0,y1,y2,y3,y4,y5],_=>exact⟨y0,y1,y2,y3,y4,y5,rfl⟩
  have e0:([c0,c1,c2,c3,c4,c5,c6,c7,c8].drop 0).take (Tryz.prog.cellsOf 22)=[c0]:=by rw[show Tryz.prog.cellsOf 22=1 by kernel_rfl];rfl
  have e1:([c0,c1,c2,c3,c4,c5,c6,c7,c8].drop 1).take (Tryz.prog.cellsOf 22)=[c1]:=by rw[show Tryz.prog.cellsOf 22=1 by kernel_rfl];rfl
  have e2:([c0,c1,c2,c3,c4,c5,c6,c7,c8].drop 2).take (Tryz.prog.cellsOf 23)=[c2]:=by rw[show Tryz.prog.cellsOf 23=1 by kernel_rfl];rfl
  have e3:([c0,c1,c2,c3,c4,c5,c6,c7,c8].drop 3).take (Tryz.prog.cellsOf 23)=[c3]:=by rw[show Tryz.prog.cellsOf 23=1 by kernel_rfl];rfl
  have e4:([c0,c1,c2,c3,c4,c5,c6,c7,c8].drop 4).take (Tryz.prog.cellsOf 23)=[c4]:=by rw[show Tryz.prog.cellsOf 23=1 by kernel_rfl];rfl
  have e5:([c0,c1,c2,c3,c4,c5,c6,c7,c8].drop 5).take (Tryz.prog.cellsOf 28)=[c5,c6,c7,c8]:=by rw[show Tryz.prog.cellsOf 28=4 by kernel_rfl];rfl
  have h0:DataW.trod enc Tryz.prog W 0 (fun _=>true) true n 22 [c0]=some y0:=by rw[← e0];exact hff 0 _ rfl
  have h1:DataW.trod enc Tryz.prog W 0 (fun _=>true) true n 22 [c1]=some y1:=by rw[← e1];exact hff 1 _ rfl
  have h2:DataW.trod enc Tryz.prog W 0 (fun _=>true) true n 23 [c2]=some y2:=by rw[← e2];exact hff 2 _ rfl
  have h3:DataW.trod enc Tryz.prog W 0 (fun _=>true) true n 23 [c3]=some y3:=by rw[← e3];exact hff 3 _ rfl
  have h4:DataW.trod enc Tryz.prog W 0 (fun _=>true) true n 23 [c4]=some y4:=by rw[← e4];exact hff 4 _ rfl
  have h5:DataW.trod enc Tryz.prog W 0 (fun _=>true) true n 28 [c5,c6,c7,c8]=some y5:=by rw[← e5];exact hff 5 _ rfl
  obtain⟨A,hA⟩:=OD h0;obtain⟨C,hC⟩:=OD h1;obtain⟨b,hb⟩:=qZ h2;obtain⟨e,he⟩:=qZ h3;obtain⟨f,hf⟩:=qZ h4;obtain⟨l,hl⟩:=DL rfl h5;exact⟨A,C,b,e,f,l,_,_,_,_,_,_,_,_,_,rfl,hA,hC,hb,he,hf,hl⟩
end
end Go.Proofs.YtencnahjgbdeoaaGreatDoor
