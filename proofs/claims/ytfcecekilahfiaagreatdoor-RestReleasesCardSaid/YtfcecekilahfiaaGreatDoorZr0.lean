/-
  Part 0 of the proof: own lemmas and contracts on plain data. No condition beyond those that each lemma states.
-/
import Derived.Test.YtfcecekilahfiaaGreatDoorRows
import Derived.Calls
import Derived.Below
import Derived.Deep.DeepAppendWide
import Derived.Laws.AppendOwn
import Derived.Deep.LoopGhost
import Derived.Scope
import Derived.OrdersIn
import Derived.Sort.LoopGhostIn
import Derived.RangeFuncWrites
import Derived.RangeFuncCalls
import Derived.Laws.StructEq
import Derived.Laws.Slices
import Derived.Laws.BytesString
import Derived.Lib.AppendZerosOnto
import Derived.Orders
import Derived.Still
import Derived.Laws.Cover3
import Derived.Lib.SliceRun
set_option linter.all false
set_option maxRecDepth 1000000
set_option maxHeartbeats 4000000
namespace Go.Ab
variable {w:World}
section
def GlobK:List Nat :=
 0 ::
 []
structure GlobW (w:World):Prop where
 tt:True
 maxLen : ∃ m:Int,w.cell? ⟨0,0,none⟩=some (.int .i64 m)
def GlobW.keep {w':World}(h:GlobW w) (hk : ∀ k∈GlobK,w'.heap[k]?=w.heap[k]?):GlobW w' where
 tt:=trivial
 maxLen:=by
  obtain⟨m,hm⟩:=h.maxLen;exact⟨m,(World.cell?_of_block (w:=w) (hk _ (by decide))).trans hm⟩
def gR {b i:Nat}{v:Value}(h:w.cell? ⟨b,i,none⟩=some v):b<w.heap.size:=by
 rcases Nat.lt_or_ge b w.heap.size with h' | h'
 .exact h'
 .simp[World.cell?,Array.getElem?_eq_none h'] at h
def GlobW.lt (h:GlobW w) : ∀ k∈GlobK,k<w.heap.size:=by
 obtain⟨m,hm⟩:=h.maxLen;have h1:=gR hm;intro k hk;simp only[GlobK,List.mem_cons,List.not_mem_nil,or_false] at hk;omega
end
section
def X4 (w:World) (o:Obj) (k:Nat) (h:k<w.heap.size):(w.alloc o).heap[k]?=w.heap[k]?:=(World.grownBy_alloc w o none).block k h (by simp)
section
inductive AV where
 | v (x:Value) | any
 | sl (n st:Nat) (full:Bool) (cells:List AV)
 | own (id ver n:Nat)
 | ptr (id ver off:Nat)
 | rp (cells:List AV)
 | agg (cells:List AV)
 | tup (vs:List AV)
 | clo (fn:Fn) (captured:List AV)
 | bnd (fn:Fn) (first:List AV)
 | fs (n st:Nat) (cells:List AV)
 | rx (b off:Nat) (cells:List AV)
 deriving Inhabited
inductive Ent where
 | mk (ver ty stride:Nat) (cells:List AV)
 | gone
 | free
 | raw (k:Nat) (o:Obj) (T:List AV) (vs:List Value)
 deriving Inhabited
abbrev AH:=List Ent
structure XB where
 p:Nat->Prop
 B:Nat->Prop
instance:CoeFun XB (λ_=>Nat->Prop):=⟨XB.p⟩
structure Gh where
 D:Nat->Prop
 loc:Nat->Nat->Option (Option Addr×Nat)
 df:List Deferred
 X:XB
mutual
def Rep (w:World) (g:Gh):AV->Value->Prop
  | .v x,y=>y=x
  | .any,_=>True
  | .sl n st full cells, y => cells.length = n * st /\ ∃ A cap, y = .slice A n cap /\ n <= cap /\ cap <= maxLen /\ (full = true -> n = cap) /\ (A = none -> cap = 0) /\
      (cells≠[] -> ∃ b off,A=some ⟨b,off,none⟩/\g.D b/\RepC w g cells b off)
  | .own id ver n,y => ∃ A cap,g.loc id ver=some (A,cap)/\n<=cap/\cap<=maxLen/\y=.slice A n cap
  | .ptr id ver off,y => ∃ b cap,g.loc id ver=some (some ⟨b,0,none⟩,cap)/\y=.pointer (some ⟨b,off,none⟩)
  | .rp cells,y => ∃ b off,y=.pointer (some ⟨b,off,none⟩)/\g.D b/\RepC w g cells b off
  | .agg cells,y => ∃ vs:Array Value,y=.agg vs/\RepL w g cells vs.toList
  | .tup l,y => ∃ vs:Array Value,y=.tuple vs/\RepL w g l vs.toList
  | .clo fn l,y => ∃ vs:Array Value,y=.func fn #[] vs/\RepL w g l vs.toList
  | .bnd fn l,y => ∃ vs:Array Value,y=.func fn vs #[]/\RepL w g l vs.toList
  | .fs n st cells, y => cells.length = n * st /\ ∃ A cap, y = .slice A n cap /\ n <= cap /\ cap <= maxLen /\ (A = none -> cap = 0) /\
      (cells≠[] -> ∃ b off,A=some ⟨b,off,none⟩/\(g.D b/\¬g.X.B b /\ ∃ arr ty,w.heap[b]?=some (.cells arr ty (0,0)))/\RepC w g cells b off)
  | .rx b off cells,y=>y=.pointer (some ⟨b,off,none⟩)/\g.D b/\RepC w g cells b off
def RepC (w:World) (g:Gh):List AV->Nat->Nat->Prop
  | [],_,_=>True
  | c::cs,b,off=>(∃ u,w.cell? ⟨b,off,none⟩=some u/\Rep w g c u)/\RepC w g cs b (off+1)
def RepL (w:World) (g:Gh):List AV->List Value->Prop
  | [],vs=>vs=[]
  | c::cs,vs => ∃ u us,vs=u::us/\Rep w g c u/\RepL w g cs us
end
structure Gh.le (g g':Gh):Prop where
 D : ∀ k,g.D k->g'.D k
 loc : ∀ id ver l,g.loc id ver=some l->g'.loc id ver=some l
 X:g'.X=g.X
def Gh.le.refl (g:Gh):g.le g:=⟨λ_ h=>h,λ_ _ _ h=>h,rfl⟩
def Gh.le.trans {a b c:Gh}(h:a.le b) (k:b.le c):a.le c:=⟨λ_ x=>k.D _ (h.D _ x),λ_ _ _ x=>k.loc _ _ _ (h.loc _ _ _ x),k.X.trans h.X⟩
mutual
def Rep.mono {w w':World}{g g':Gh}(hg:g.le g') (hw : ∀ k,g.D k->w'.heap[k]?=w.heap[k]?) : ∀ (c:AV) (y:Value),Rep w g c y->Rep w' g' c y
 | .v x,y,h=>by simp only[Rep] at h ⊢;exact h
 | .any,y,h=>by simp only[Rep]
 | .sl n st full cells,y,h=>by
  simp only[Rep] at h ⊢;obtain⟨h0,A,cap,h1,h2,h3,h4,h5,h6⟩:=h;refine⟨h0,A,cap,h1,h2,h3,h4,h5,λhne=>?_⟩;obtain⟨b,off,e,hd,hc⟩:=h6 hne;exact⟨b,off,e,hg.D _ hd,RepC.mono hg hw cells b off hd hc⟩
 | .own id ver n,y,h=>by
  simp only[Rep] at h ⊢;obtain⟨A,cap,h1,h2⟩:=h;exact⟨A,cap,hg.loc _ _ _ h1,h2⟩
 | .ptr id ver off,y,h=>by
  simp only[Rep] at h ⊢;obtain⟨b,cap,h1,h2⟩:=h;exact⟨b,cap,hg.loc _ _ _ h1,h2⟩
 | .rp cells,y,h=>by
  simp only[Rep] at h ⊢;obtain⟨b,off,e,hd,hc⟩:=h;exact⟨b,off,e,hg.D _ hd,RepC.mono hg hw cells b off hd hc⟩
 | .agg cells,y,h=>by
  simp only[Rep] at h ⊢;obtain⟨vs,e,hc⟩:=h;exact⟨vs,e,RepL.mono hg hw cells _ hc⟩
 | .tup cells,y,h=>by
  simp only[Rep] at h ⊢;obtain⟨vs,e,hc⟩:=h;exact⟨vs,e,RepL.mono hg hw cells _ hc⟩
 | .clo fn cells,y,h=>by
  simp only[Rep] at h ⊢;obtain⟨vs,e,hc⟩:=h;exact⟨vs,e,RepL.mono hg hw cells _ hc⟩
 | .bnd fn cells,y,h=>by
  simp only[Rep] at h ⊢;obtain⟨vs,e,hc⟩:=h;exact⟨vs,e,RepL.mono hg hw cells _ hc⟩
 | .fs n st cells,y,h=>by
  simp only[Rep] at h ⊢;obtain⟨h0,A,cap,h1,h2,h3,h5,h6⟩:=h;refine⟨h0,A,cap,h1,h2,h3,h5,λhne=>?_⟩;obtain⟨b,off,e,⟨hd,hf,ho⟩,hc⟩:=h6 hne;exact⟨b,off,e,⟨hg.D _ hd,by rw[hg.X];exact hf,by rw[hw b hd];exact ho⟩,RepC.mono hg hw cells b off hd hc⟩
 | .rx b off cells,y,h=>by
  simp only[Rep] at h ⊢;obtain⟨e,hd,hc⟩:=h;exact⟨e,hg.D _ hd,RepC.mono hg hw cells b off hd hc⟩
def RepC.mono {w w':World}{g g':Gh}(hg:g.le g') (hw : ∀ k,g.D k->w'.heap[k]?=w.heap[k]?) : ∀ (cs:List AV) (b off:Nat),g.D b->RepC w g cs b off->RepC w' g' cs b off
 | [],_,_,_,_=>by simp only[RepC]
 | c::cs,b,off,hd,h=>by
  simp only[RepC] at h ⊢;obtain⟨⟨u,h1,h2⟩,h3⟩:=h;exact⟨⟨u,(World.cell?_of_block (a:=⟨b,off,none⟩) (hw b hd)).trans h1,Rep.mono hg hw c u h2⟩,RepC.mono hg hw cs b (off+1) hd h3⟩
def RepL.mono {w w':World}{g g':Gh}(hg:g.le g') (hw : ∀ k,g.D k->w'.heap[k]?=w.heap[k]?) : ∀ (cs:List AV) (vs:List Value),RepL w g cs vs->RepL w' g' cs vs
 | [],_,h=>by simp only[RepL] at h ⊢;exact h
 | c::cs,vs,h=>by
  simp only[RepL] at h ⊢;obtain⟨u,us,e,h1,h2⟩:=h;exact⟨u,us,e,Rep.mono hg hw c u h1,RepL.mono hg hw cs us h2⟩
end
def Rep.fs {g:Gh}{n st:Nat}{cs:List AV}{y:Value}(h:Rep w g (.fs n st cs) y):Rep w g (.sl n st false cs) y:=by
 simp only[Rep] at h ⊢;obtain⟨h0,A,cap,h1,h2,h3,h4,h5⟩:=h;refine⟨h0,A,cap,h1,h2,h3,(λe=>by cases e),h4,λhne=>?_⟩;obtain⟨b,off,e,hd,hc⟩:=h5 hne;exact⟨b,off,e,hd.1,hc⟩
def OwAt (g:Gh) (h:AH) (i k:Nat):Prop := ∃ ver ty s c b cap,h[i]?=some (.mk ver ty s c)/\g.loc i ver=some (some b,cap)/\cap≠0/\b.block=k
def RwAt (h:AH) (i k:Nat):Prop := ∃ o T vs,h[i]?=some (.raw k o T vs)
def Ow (g:Gh) (h:AH) (k:Nat):Prop:=(∃ i,OwAt g h i k) \/ ∃ i,RwAt h i k
def EntAt (w:World) (g:Gh) (ty stride:Nat) (cells:List AV) (A:Option Addr) (cap:Nat):Prop :=
 (cells=[]/\cap=0) \/ ∃ b arr,A=some ⟨b,0,none⟩/\cap≠0/\¬g.D b/\w.heap[b]?=some (.cells arr ty (0,0))/\arr.size=cap*stride/\cells.length<=arr.size/\RepL w g cells (arr.toList.take cells.length)
structure GlobOk (w:World) (g:Gh):Prop where
 w:GlobW w
 d : ∀ k,k∈GlobK\/g.X.B k->g.D k
def GlobOk.mono {w':World}{g g':Gh}(h:GlobOk w g) (hD : ∀ k,g.D k->g'.D k) (hw : ∀ k,g.D k->w'.heap[k]?=w.heap[k]?) (hX:g'.X=g.X:=by rfl):GlobOk w' g' :=
 ⟨h.w.keep λk hk=>hw k (h.d k (.inl hk)),λk hk=>hD k (h.d k (by rw[hX] at hk;exact hk))⟩
structure SimH (w:World) (g:Gh) (h:AH):Prop where
 ent : ∀ id ver ty stride cells,h[id]?=some (.mk ver ty stride cells) -> ∃ A cap,g.loc id ver=some (A,cap)/\cap<=maxLen/\EntAt w g ty stride cells A cap
 inj : ∀ i j k,OwAt g h i k->OwAt g h j k->i=j
 lt : ∀ k,g.D k->k<w.heap.size
 fresh : ∀ id ver l,g.loc id ver=some l->id<h.length /\ ∀ v' ty s c,h[id]?=some (.mk v' ty s c)->ver<=v'
 free : ∀ id ver l,g.loc id ver=some l->h[id]?≠some .free
 glob:GlobOk w g
 raw : ∀ (i k:Nat) (o:Obj) (T:List AV) (vs:List Value),h[i]?=some (Ent.raw k o T vs)->w.heap[k]?=some o/\o.isCells=false/\¬g.D k/\RepL w g T vs
 rinj : ∀ i j k,RwAt h i k->RwAt h j k->i=j
 x : ∀ k,g.X k->k<w.heap.size/\¬g.D k/\¬Ow g h k
def SimH.xw {w':World}{g g':Gh}{h h':AH}(hs:SimH w g h) (hsz:w.heap.size<=w'.heap.size) (hX:g'.X=g.X) (hD : ∀ k,g'.D k->g.D k\/w.heap.size<=k) (ho : ∀ k,Ow g' h' k->Ow g h k\/w.heap.size<=k) : ∀ k,g'.X k->k<w'.heap.size/\¬g'.D k/\¬Ow g' h' k:=by
 intro k hk;rw[hX] at hk;obtain⟨x1,x2,x3⟩:=hs.x k hk;exact⟨Nat.lt_of_lt_of_le x1 hsz,λhd=>(hD k hd).elim x2 (λh=>by omega),λh=>(ho k h).elim x3 (λh=>by omega)⟩
structure Fr (w:World) (S:Nat->Prop) (w':World):Prop where
 os:w'.os=w.os
 tape:w'.tape=w.tape
 output:w'.output=w.output
 size:w.heap.size<=w'.heap.size
 block : ∀ k,k<w.heap.size->¬S k->w'.heap[k]?=w.heap[k]?
def Fr.refl (w:World) (S:Nat->Prop):Fr w S w:=⟨rfl,rfl,rfl,Nat.le_refl _,λ_ _ _=>rfl⟩
def Fr.trans {a b c:World}{S T:Nat->Prop}(h:Fr a S b) (k:Fr b T c) (hs : ∀ i,T i->i<a.heap.size->S i):Fr a S c :=
 ⟨k.os.trans h.os,k.tape.trans h.tape,k.output.trans h.output,Nat.le_trans h.size k.size,λi hi hn=>(k.block i (Nat.lt_of_lt_of_le hi h.size) (λht=>hn (hs i ht hi))).trans (h.block i hi hn)⟩
end
section
def Gh.le_of_put {g g':Gh}(hD:g'.D=g.D) (hloc : ∀ i v l,g.loc i v=some l->g'.loc i v=some l) (hX:g'.X=g.X:=by rfl):g.le g':=⟨λk h=>by rw[hD];exact h,hloc,hX⟩
def SimH.own_not_D {w:World}{g:Gh}{h:AH}(hs:SimH w g h) {k:Nat}(hk:Ow g h k):¬g.D k/\k<w.heap.size:=by
 rcases hk with ⟨id,ver,ty,s,c,b,cap,h1,h2,h3,h4⟩ | ⟨i,o,T,vs,h1⟩;rotate_left 1
 .obtain⟨r1,_,r2,_⟩:=hs.raw _ _ _ _ _ h1;exact⟨r2,(Array.getElem?_eq_some_iff.1 r1).1⟩
 obtain⟨A,cap',e1,_,e3⟩:=hs.ent _ _ _ _ _ h1;rw[h2] at e1;simp only[Option.some.injEq,Prod.mk.injEq] at e1;obtain⟨rfl,rfl⟩:=e1;rcases e3 with ⟨_,h0⟩ | ⟨b',arr,e,_,hd,hb,_⟩
 .exact absurd h0 h3
 .cases e;subst h4;exact⟨hd,(Array.getElem?_eq_some_iff.1 hb).1⟩
def SimH.own_cells {w:World}{g:Gh}{h:AH}(hs:SimH w g h) {i k:Nat}(hk:OwAt g h i k) : ∃ o,w.heap[k]?=some o/\o.isCells=true:=by
 obtain⟨ver,ty,s,c,b,cap,h1,h2,h3,h4⟩:=hk;obtain⟨A,cap',e1,_,e3⟩:=hs.ent _ _ _ _ _ h1;rw[h2] at e1;simp only[Option.some.injEq,Prod.mk.injEq] at e1;obtain⟨rfl,rfl⟩:=e1;rcases e3 with ⟨_,h0⟩ | ⟨b',arr,e,_,hd,hb,_⟩
 .exact absurd h0 h3
 .cases e;subst h4;exact⟨_,hb,rfl⟩
def SimH.own_ne_raw {w:World}{g:Gh}{h:AH}(hs:SimH w g h) {i j k:Nat}(hk:OwAt g h i k) (hr:RwAt h j k):False:=by
 obtain⟨o,h1,h2⟩:=hs.own_cells hk;obtain⟨o',T,vs,h3⟩:=hr;obtain⟨r1,r2,_⟩:=hs.raw _ _ _ _ _ h3;rw[h1] at r1;cases r1;rw[h2] at r2;cases r2
def EntAt.mono {w w':World}{g g':Gh}{ty stride:Nat}{cells:List AV}{A:Option Addr}{cap:Nat}(h:EntAt w g ty stride cells A cap) (hg:g.le g') (hd : ∀ k,A.map (·.block)=some k->cap≠0->g'.D k->g.D k)
  (hw : ∀ k,g.D k->w'.heap[k]?=w.heap[k]?) (hb : ∀ k,A.map (·.block)=some k->cap≠0->w'.heap[k]?=w.heap[k]?):EntAt w' g' ty stride cells A cap:=by
 refine h.imp id ?_;rintro⟨b,arr,rfl,f0,f2,f3,f4,f5,f6⟩;exact⟨b,arr,rfl,f0,λh=>f2 (hd b rfl f0 h),by rw[hb b rfl f0];exact f3,f4,f5,RepL.mono hg hw _ _ f6⟩
def SimH.put {w w':World}{g g':Gh}{h h':AH}(hs:SimH w g h) (id ver ty stride:Nat) (cells:List AV) (A:Option Addr) (cap:Nat)
  (hl : ∀ i,i≠id->h'[i]?=h[i]?) (h0:h'[id]?=some (.mk ver ty stride cells)) (hlen:h.length<=h'.length)
  (hD:g'.D=g.D) (hloc : ∀ i v l,g.loc i v=some l->g'.loc i v=some l) (hloc' : ∀ i v l,g'.loc i v=some l->g.loc i v=some l\/(i=id/\v=ver))
  (hA:g'.loc id ver=some (A,cap)) (hver : ∀ v l,g.loc id v=some l->v<=ver)
  (hw : ∀ k,g.D k\/(∃ i,i≠id/\OwAt g h i k)\/(∃ i,RwAt h i k)->w'.heap[k]?=w.heap[k]?) (hsz:w.heap.size<=w'.heap.size)
  (hcap:cap<=maxLen) (he:EntAt w' g' ty stride cells A cap) (hne : ∀ k,A.map (·.block)=some k->cap≠0 -> ∀ i,i≠id->¬OwAt g h i k) (hx : ∀ k,A.map (·.block)=some k->cap≠0->k<w.heap.size->Ow g h k) (hX:g'.X=g.X:=by rfl):SimH w' g' h'/\g.le g' /\ ∀ k,Ow g' h' k->Ow g h k\/(A.map (·.block)=some k/\cap≠0):=by
 have hle:g.le g':=Gh.le_of_put hD hloc hX;have hid:id<h'.length:=(List.getElem?_eq_some_iff.1 h0).1;have back : ∀ i k,i≠id->OwAt g' h' i k->OwAt g h i k:=by
  rintro i k hii ⟨v,ty',s,c,b,cap',e1,e2,e3,e4⟩;rw[hl i hii] at e1;exact⟨v,ty',s,c,b,cap',e1,(hloc' _ _ _ e2).resolve_right (λh=>hii h.1),e3,e4⟩
 have mine : ∀ k,OwAt g' h' id k->A.map (·.block)=some k/\cap≠0:=by
  rintro k ⟨v,ty',s,c,b,cap',e1,e2,e3,e4⟩;rw[h0] at e1;cases e1;rw[hA] at e2;simp only[Option.some.injEq,Prod.mk.injEq] at e2;obtain⟨rfl,rfl⟩:=e2;exact⟨by simpa using e4,e3⟩
 have backR : ∀ i k,RwAt h' i k->RwAt h i k:=by
  rintro i k ⟨o,T,vs,e1⟩;by_cases hii:i=id
  .subst hii;rw[h0] at e1;cases e1
  .rw[hl i hii] at e1;exact⟨o,T,vs,e1⟩
 refine⟨⟨?_,?_,?_,?_,?_,hs.glob.mono hle.D (λk hk=>hw k (.inl hk)) hle.X,?_,λi j k hi hj=>hs.rinj i j k (backR i k hi) (backR j k hj),λk hk=>?_⟩,hle,?_⟩
 .intro i v ty' s' c' hi;by_cases hii:i=id
  .subst hii;rw[h0] at hi;cases hi;exact⟨A,cap,hA,hcap,he⟩
  .rw[hl i hii] at hi;obtain⟨A',cap',e1,e2,e3⟩:=hs.ent _ _ _ _ _ hi;have how : ∀ k,A'.map (·.block)=some k->cap'≠0->OwAt g h i k:=by
    intro k hk h0;cases A' with
    | none=>simp at hk
    | some b=>exact⟨v,ty',s',c',b,cap',hi,e1,h0,by simpa using hk⟩
   refine⟨A',cap',hloc _ _ _ e1,e2,e3.mono hle (λk _ _ hk=>by rw[hD] at hk;exact hk) (λk hk=>hw k (.inl hk)) (λk hk h0=>hw k (.inr (.inl ⟨i,hii,how k hk h0⟩)))⟩
 .intro i j k hi hj;by_cases hii:i=id
  .subst hii;by_cases hjj:j=i
   .exact hjj.symm
   .obtain⟨h1,h2⟩:=mine k hi;exact absurd (back j k hjj hj) (hne k h1 h2 j hjj)
  .by_cases hjj:j=id
   .subst hjj;obtain⟨h1,h2⟩:=mine k hj;exact absurd (back i k hii hi) (hne k h1 h2 i hii)
   .exact hs.inj i j k (back i k hii hi) (back j k hjj hj)
 .intro k hk;rw[hD] at hk;exact Nat.lt_of_lt_of_le (hs.lt k hk) hsz
 .intro i v l hi;rcases hloc' _ _ _ hi with hi' | ⟨rfl,rfl⟩
  .obtain⟨f1,f2⟩:=hs.fresh _ _ _ hi';refine⟨Nat.lt_of_lt_of_le f1 hlen,λv' ty' s c hv=>?_⟩;by_cases hii:i=id
   .subst hii;rw[h0] at hv;cases hv;exact hver v l hi'
   .rw[hl i hii] at hv;exact f2 _ _ _ _ hv
  .refine⟨hid,λv' ty' s c hv=>?_⟩;rw[h0] at hv;cases hv;exact Nat.le_refl _
 .intro i v l hi;by_cases hii:i=id
  .subst hii;rw[h0];simp
  .rw[hl i hii];exact hs.free i v l ((hloc' _ _ _ hi).resolve_right (λh=>hii h.1))
 .intro i k o T vs hi;have hii:i≠id:=λe=>by subst e;rw[h0] at hi;cases hi
  rw[hl i hii] at hi;obtain⟨r1,r2,r3,r4⟩:=hs.raw _ _ _ _ _ hi;exact⟨(hw k (.inr (.inr ⟨i,o,T,vs,hi⟩))).trans r1,r2,by rw[hD];exact r3,RepL.mono hle (λk hk=>hw k (.inl hk)) _ _ r4⟩
 .rw[hX] at hk;obtain⟨x1,x2,x3⟩:=hs.x k hk;refine⟨Nat.lt_of_lt_of_le x1 hsz,by rw[hD];exact x2,?_⟩;rintro (⟨i,hi⟩ | ⟨i,hi⟩)
  .by_cases hii:i=id
   .subst hii;exact x3 (hx k (mine k hi).1 (mine k hi).2 x1)
   .exact x3 (.inl ⟨i,back i k hii hi⟩)
  .exact x3 (.inr ⟨i,backR i k hi⟩)
 .rintro k (⟨i,hi⟩ | ⟨i,hi⟩)
  .by_cases hii:i=id
   .subst hii;exact .inr (mine k hi)
   .exact .inl (.inl ⟨i,back i k hii hi⟩)
  .exact .inl (.inr ⟨i,backR i k hi⟩)
def SimH.world {w w':World}{g:Gh}{h:AH}(hs:SimH w g h) (hw : ∀ k,g.D k\/Ow g h k->w'.heap[k]?=w.heap[k]?) (hsz:w.heap.size<=w'.heap.size):SimH w' g h:=by
 refine⟨?_,hs.inj,λk hk=>Nat.lt_of_lt_of_le (hs.lt k hk) hsz,hs.fresh,hs.free,hs.glob.mono (λ_ h=>h) (λk hk=>hw k (.inl hk)),λi k o T vs hi=>?_,hs.rinj,λk hk=>let ⟨a,b,c⟩:=hs.x k hk;⟨Nat.lt_of_lt_of_le a hsz,b,c⟩⟩;rotate_left 1
 .obtain⟨r1,r2,r3,r4⟩:=hs.raw _ _ _ _ _ hi;exact⟨(hw k (.inr (.inr ⟨i,o,T,vs,hi⟩))).trans r1,r2,r3,RepL.mono (Gh.le.refl _) (λk hk=>hw k (.inl hk)) _ _ r4⟩
 intro i v ty s c hi;obtain⟨A,cap,e1,e2,e3⟩:=hs.ent _ _ _ _ _ hi;refine⟨A,cap,e1,e2,e3.mono (Gh.le.refl _) (λ_ _ _ h=>h) (λk hk=>hw k (.inl hk)) (λk hk h0=>hw k (.inr (.inl ⟨i,?_⟩)))⟩;cases A with
 | none=>simp at hk
 | some b=>exact⟨v,ty,s,c,b,cap,hi,e1,h0,by simpa using hk⟩
def Gh.add (g:Gh) (id ver:Nat) (l:Option Addr×Nat):Gh:=⟨g.D,λi v=>if i=id/\v=ver then some l else g.loc i v,g.df,g.X⟩
def SimH.alloc {w:World}{g:Gh}{h:AH}(hs:SimH w g h) {arr:Array Value}{cells:List AV}(ty stride cap:Nat) (hr:RepL w g cells (arr.toList.take cells.length)) (hl:cells.length<=arr.size) (hsz:arr.size=cap*stride) (hm:cap<=maxLen) (h0:cap≠0) :
    SimH (w.alloc (.cells arr ty)) (g.add h.length 0 (some ⟨w.heap.size,0,none⟩,cap)) (h++[.mk 0 ty stride cells])/\g.le (g.add h.length 0 (some ⟨w.heap.size,0,none⟩,cap)) /\
      Fr w (Ow g h) (w.alloc (.cells arr ty)) /\ ∀ k,Ow (g.add h.length 0 (some ⟨w.heap.size,0,none⟩,cap)) (h++[.mk 0 ty stride cells]) k->Ow g h k\/w.heap.size<=k:=by
  have hf : ∀ v l,g.loc h.length v=some l->False:=λv l hl=>absurd (hs.fresh _ _ _ hl).1 (Nat.lt_irrefl _);have hloc : ∀ i v l,g.loc i v=some l->(g.add h.length 0 (some ⟨w.heap.size,0,none⟩,cap)).loc i v=some l:=by
    intro i v l hi;simp only[Gh.add];rw[if_neg]
    . exact hi
    . rintro⟨rfl,rfl⟩;exact hf _ _ hi
  have hle:g.le (g.add h.length 0 (some ⟨w.heap.size,0,none⟩,cap)):=Gh.le_of_put rfl hloc;have hold : ∀ k,k<w.heap.size->(w.alloc (.cells arr ty)).heap[k]?=w.heap[k]?:=λk hk=>X4 w _ k hk;have how : ∀ k,g.D k\/(∃ i,i≠h.length/\OwAt g h i k)\/(∃ i,RwAt h i k)->k<w.heap.size:=by
    rintro k (hk | ⟨i,_,hk⟩ | hk)
    . exact hs.lt k hk
    . exact (hs.own_not_D (.inl ⟨i,hk⟩)).2
    . exact (hs.own_not_D (.inr hk)).2
  suffices hq : SimH (w.alloc (.cells arr ty)) (g.add h.length 0 (some ⟨w.heap.size, 0, none⟩, cap)) (h ++ [.mk 0 ty stride cells]) /\ g.le (g.add h.length 0 (some ⟨w.heap.size, 0, none⟩, cap)) /\
      ∀ k,Ow (g.add h.length 0 (some ⟨w.heap.size,0,none⟩,cap)) (h++[.mk 0 ty stride cells]) k->Ow g h k\/((some (⟨w.heap.size,0,none⟩:Addr)).map (·.block)=some k/\cap≠0) from ⟨hq.1,hq.2.1,⟨rfl,rfl,rfl,by simp,λk hk _=>hold k hk⟩,λk hk=>(hq.2.2 k hk).imp (λx=>x) (λh=>by have:=h.1;simp at this;omega)⟩
  refine hs.put h.length 0 ty stride cells (some ⟨w.heap.size,0,none⟩) cap ?_ ?_ ?_ rfl hloc ?_ ?_ (λv l hl=>(hf v l hl).elim) (λk hk=>hold k (how k hk)) (by simp) hm (.inr ?_) ?_ (λk hk _ hlt=>by simp at hk;omega)
  . intro i hi;by_cases hlt:i<h.length
    . rw[List.getElem?_append_left hlt]
    . rw[List.getElem?_eq_none (by simp;omega),List.getElem?_eq_none (by omega)]
  . simp
  . simp
  . intro i v l hi;simp only[Gh.add] at hi;split at hi
    . right;assumption
    . left;exact hi
  . simp[Gh.add]
  . refine⟨w.heap.size,arr,rfl,h0,λhd=>absurd (hs.lt _ hd) (Nat.lt_irrefl _),heap_alloc_new w _,hsz,hl,RepL.mono hle (λk hk=>hold k (hs.lt k hk)) _ _ hr⟩
  . intro k hk _ i _ how;simp at hk;subst hk;exact absurd (hs.own_not_D (.inl ⟨i,how⟩)).2 (Nat.lt_irrefl _)
end
section
def RepL.length {w:World}{g:Gh} : ∀ {cs:List AV}{vs:List Value},RepL w g cs vs->vs.length=cs.length
 | [],vs,h=>by simp only[RepL] at h;simp[h]
 | c::cs,vs,h=>by
  simp only[RepL] at h;obtain⟨u,us,rfl,_,h2⟩:=h;simp[RepL.length h2]
def RepL.get {w:World}{g:Gh} : ∀ {cs:List AV}{vs:List Value},RepL w g cs vs -> ∀ {k:Nat}{c:AV},cs[k]?=some c -> ∃ u,vs[k]?=some u/\Rep w g c u
 | [],_,_,k,c,hk=>by simp at hk
 | c::cs,vs,h,k,d,hk=>by
  simp only[RepL] at h;obtain⟨u,us,rfl,h1,h2⟩:=h;cases k with
  | zero=>simp at hk;subst hk;exact⟨u,by simp,h1⟩
  | succ k=>simp at hk ⊢;exact RepL.get h2 hk
def RepL.set {w:World}{g:Gh} : ∀ {cs:List AV}{vs:List Value},RepL w g cs vs -> ∀ {k:Nat}{c:AV}{u:Value},Rep w g c u->RepL w g (cs.set k c) (vs.set k u)
 | [],vs,h,k,c,u,_=>by simp only[RepL] at h;simp[h,RepL]
 | c::cs,vs,h,k,d,u,hk=>by
  simp only[RepL] at h;obtain⟨u',us,rfl,h1,h2⟩:=h;cases k with
  | zero=>simp only[List.set_cons_zero,RepL];exact⟨u,us,rfl,hk,h2⟩
  | succ k=>simp only[List.set_cons_succ,RepL];exact⟨u',us.set k u,rfl,h1,h2.set hk⟩
def RepL.take {w:World}{g:Gh} : ∀ {cs:List AV}{vs:List Value}(n:Nat),RepL w g cs vs->RepL w g (cs.take n) (vs.take n)
 | [],vs,n,h=>by simp only[RepL] at h;simp[h,RepL]
 | c::cs,vs,0,h=>by simp[RepL]
 | c::cs,vs,n+1,h=>by
  simp only[RepL] at h;obtain⟨u,us,rfl,h1,h2⟩:=h;simp only[List.take_succ_cons,RepL];exact⟨u,_,rfl,h1,RepL.take n h2⟩
def RepL.drop {w:World}{g:Gh} : ∀ {cs:List AV}{vs:List Value}(n:Nat),RepL w g cs vs->RepL w g (cs.drop n) (vs.drop n)
 | [],vs,n,h=>by simp only[RepL] at h;simp[h,RepL]
 | c::cs,vs,0,h=>h
 | c::cs,vs,n+1,h=>by
  simp only[RepL] at h;obtain⟨u,us,rfl,h1,h2⟩:=h;simpa using RepL.drop n h2
def RepL.append {w:World}{g:Gh} : ∀ {cs ds:List AV}{vs us:List Value},RepL w g cs vs->RepL w g ds us->RepL w g (cs++ds) (vs++us)
 | [],ds,vs,us,h,k=>by simp only[RepL] at h;simpa [h] using k
 | c::cs,ds,vs,us,h,k=>by
  simp only[RepL] at h;obtain⟨u,us',rfl,h1,h2⟩:=h;simp only[List.cons_append,RepL];exact⟨u,_,rfl,h1,h2.append k⟩
def RepC.of_row {w:World}{g:Gh}{b:Nat}{arr:Array Value}{ty:TypeId}{fr:Nat×Nat}(hb:w.heap[b]?=some (.cells arr ty fr)) :
  ∀ (cs:List AV) (off:Nat),RepL w g cs ((arr.toList.drop off).take cs.length)->RepC w g cs b off
 | [],_,_=>by simp only[RepC]
 | c::cs,off,h=>by
  simp only[RepL] at h;obtain⟨u,us,e,h1,h2⟩:=h;cases hd:arr.toList.drop off with
  | nil=>rw[hd] at e;simp at e
  | cons x xs =>
  rw[hd] at e;simp only[List.length_cons,List.take_succ_cons,List.cons.injEq] at e;obtain⟨rfl,e1⟩:=e;have e0:arr[off]?=some x:=by
   have:=congrArg (·[0]?) hd;simpa [List.getElem?_drop] using this
  have e2:arr.toList.drop (off+1)=xs:=by rw[<-List.tail_drop,hd];rfl
  simp only[RepC];exact⟨⟨x,by rw[cell_of_row w b off arr ty fr hb];exact e0,h1⟩,RepC.of_row hb cs (off+1) (by rw[e2,e1];exact h2)⟩
def RepC.list {w:World}{g:Gh} : ∀ {cs:List AV}{b off:Nat},RepC w g cs b off -> ∃ us:List Value,RepL w g cs us /\ ∀ j u,us[j]?=some u->w.cell? ⟨b,off+j,none⟩=some u
 | [],b,off,_=>⟨[],by simp only[RepL],by simp⟩
 | c::cs,b,off,h=>by
  simp only[RepC] at h;obtain⟨⟨u,h1,h2⟩,h3⟩:=h;obtain⟨us,g1,g2⟩:=RepC.list h3;refine⟨u::us,by simp only[RepL];exact⟨u,us,rfl,h2,g1⟩,?_⟩;intro j x hx;cases j with
  | zero=>simp at hx;subst hx;exact h1
  | succ j=>simp at hx;have:=g2 j x hx;rw[<-this];congr 2;omega
def RepC.drop {w:World}{g:Gh} : ∀ {cs:List AV}{b off:Nat}(n:Nat),RepC w g cs b off->RepC w g (cs.drop n) b (off+n)
 | [],b,off,n,_=>by simp[RepC]
 | c::cs,b,off,0,h=>h
 | c::cs,b,off,n+1,h=>by
  simp only[RepC] at h;have:=RepC.drop n h.2;simp only[List.drop_succ_cons];rw[show off+(n+1)=off+1+n by omega];exact this
def RepC.take {w:World}{g:Gh} : ∀ {cs:List AV}{b off:Nat}(n:Nat),RepC w g cs b off->RepC w g (cs.take n) b off
 | [],b,off,n,_=>by simp[RepC]
 | c::cs,b,off,0,h=>by simp[RepC]
 | c::cs,b,off,n+1,h=>by
  simp only[RepC] at h;simp only[List.take_succ_cons,RepC];exact⟨h.1,RepC.take n h.2⟩
def Fe (h:AH):AV->Option (List AV)
 | .rp cs=>some cs
 | .rx _ _ cs=>some cs
 | .ptr id ver off=>match h[id]? with
  | some (.mk v _ _ cells)=>if v=ver then some (cells.drop off) else none
  | _=>none
 | _=>none
def Vd {w:World}{g:Gh}{h:AH}(hs:SimH w g h) {av:AV}{y:Value}{cs:List AV}(hr:Rep w g av y) (hc:Fe h av=some cs) : ∃ b off,y=.pointer (some ⟨b,off,none⟩)/\RepC w g cs b off:=by
 cases av <;> simp only[Fe] at hc <;> try (cases hc;done)
 case rp cs' =>
  cases hc
  simp only[Rep] at hr
  obtain⟨b,off,e,_,h1⟩:=hr
  exact⟨b,off,e,h1⟩
 case rx b off cs' =>
  cases hc
  simp only[Rep] at hr
  obtain⟨e,_,h1⟩:=hr
  exact⟨b,off,e,h1⟩
 case ptr id ver off =>
  simp only[Rep] at hr
  obtain⟨b,cap,e1,e2⟩:=hr
  split at hc <;> try (cases hc;done)
  rename_i v ty s cells hi
  split at hc <;> try (cases hc;done)
  rename_i hv
  subst hv
  cases hc
  obtain⟨A,cap',f1,_,f3⟩:=hs.ent _ _ _ _ _ hi
  rw[e1] at f1
  simp only[Option.some.injEq,Prod.mk.injEq] at f1
  obtain⟨rfl,rfl⟩:=f1
  refine⟨b,off,e2,?_⟩
  rcases f3 with ⟨rfl,_⟩ | ⟨b',arr,e,_,_,hb,_,hl,hrl⟩
  .simp[RepC]
  .cases e
   refine RepC.of_row hb _ _ ?_
   have:=hrl.drop off
   rw[List.drop_take] at this
   simpa using this
def Ia (h:AH):AV->Option (Nat×List AV)
 | .sl n _ _ cs=>some (n,cs)
 | .own id ver n=>match h[id]? with
  | some (.mk v _ s cells)=>if v=ver/\n*s<=cells.length then some (n,cells.take (n*s)) else none
  | _=>none
 | _=>none
def W9 {w:World}{g:Gh}{h:AH}(hs:SimH w g h) {av:AV}{y:Value}{n:Nat}{cs:List AV}(hr:Rep w g av y) (hc:Ia h av=some (n,cs)) :
  ∃ A cap,y=.slice A n cap/\n<=cap/\cap<=maxLen/\(cs≠[] -> ∃ b off,A=some ⟨b,off,none⟩/\RepC w g cs b off):=by
 cases av <;> simp only[Ia] at hc <;> try (cases hc;done)
 case sl n' st full cs' =>
  cases hc
  simp only[Rep] at hr
  obtain⟨_,A,cap,e,h1,h2,_,_,h5⟩:=hr
  refine⟨A,cap,e,h1,h2,λhne=>?_⟩
  obtain⟨b,off,e',_,h6⟩:=h5 hne
  exact⟨b,off,e',h6⟩
 case own id ver n' =>
  simp only[Rep] at hr
  obtain⟨A,cap,e1,e2,e3,e4⟩:=hr
  split at hc <;> try (cases hc;done)
  rename_i v ty s cells hi
  split at hc <;> try (cases hc;done)
  rename_i hv
  obtain⟨rfl,hle⟩:=hv
  cases hc
  obtain⟨A',cap',f1,_,f3⟩:=hs.ent _ _ _ _ _ hi
  rw[e1] at f1
  simp only[Option.some.injEq,Prod.mk.injEq] at f1
  obtain⟨rfl,rfl⟩:=f1
  refine⟨A,cap,e4,e2,e3,λhne=>?_⟩
  rcases f3 with ⟨rfl,_⟩ | ⟨b',arr,e,_,_,hb,_,hl,hrl⟩
  .simp at hne
  .refine⟨b',0,e,RepC.of_row hb _ _ ?_⟩
   have:=hrl.take (n*s)
   rw[List.take_take] at this
   simpa [Nat.min_eq_left hle] using this
def SimH.store {w:World}{g:Gh}{h:AH}(hs:SimH w g h) {id ver ty s:Nat}{cells:List AV}{b:Nat}{cap k:Nat}{c:AV}{u:Value}(hi:h[id]?=some (.mk ver ty s cells)) (hl:g.loc id ver=some (some ⟨b,0,none⟩,cap))
  (hk:k<cells.length) (hu:Rep w g c u) :
  SimH (w.setCell ⟨b,k,none⟩ u) g (h.set id (.mk ver ty s (cells.set k c)))/\w.cell? ⟨b,k,none⟩≠none/\w.frozen? ⟨b,k,none⟩=false/\OwAt g h id b:=by
 obtain⟨A,cap',f1,fm,f3⟩:=hs.ent _ _ _ _ _ hi;rw[hl] at f1;simp only[Option.some.injEq,Prod.mk.injEq] at f1;obtain⟨rfl,rfl⟩:=f1;rcases f3 with ⟨rfl,_⟩ | ⟨b',arr,e,hc0,hd,hb,hsz,hle,hrl⟩
 .simp at hk
 cases e;have hid:id<h.length:=(List.getElem?_eq_some_iff.1 hi).1;have how:OwAt g h id b:=⟨ver,ty,s,cells,_,cap,hi,hl,hc0,rfl⟩;have hother : ∀ j,j≠b->(w.setCell ⟨b,k,none⟩ u).heap[j]?=w.heap[j]?:=λj hj=>heap_setCell_other w _ _ _ hj;have hw : ∀ j,g.D j\/(∃ i,i≠id/\OwAt g h i j)\/(∃ i,RwAt h i j)->(w.setCell ⟨b,k,none⟩ u).heap[j]?=w.heap[j]?:=by
  rintro j (hj | ⟨i,hne,hj⟩ | ⟨i,hj⟩);rotate_left 2
  .exact hother j (λe=>by subst e;exact hs.own_ne_raw how hj)
  .exact hother j (λe=>hd (e ▸ hj))
  .refine hother j (λe=>hne ?_);subst e;exact hs.inj i id j hj how
 refine⟨(hs.put (g':=g) id ver ty s (cells.set k c) (some ⟨b,0,none⟩) cap ?_ ?_ ?_ rfl (λ_ _ _ h=>h) (λ_ _ _ h=>.inl h) hl ?_ hw (by simp) fm (.inr ?_) ?_ (λk hk _ _=>by simp at hk;subst hk;exact .inl ⟨id,how⟩)).1,?_,?_,how⟩
 .intro i hne;rw[List.getElem?_set_ne (Ne.symm hne)]
 .rw[List.getElem?_set_self hid]
 .simp
 .intro v l hv;exact (hs.fresh _ _ _ hv).2 _ _ _ _ hi
 .refine⟨b,arr.setIfInBounds k u,rfl,hc0,hd,heap_setCell_same w b k arr ty u hb,by simpa using hsz,by simpa using hle,?_⟩;have h1:=RepL.mono (Gh.le.refl g) (λj hj=>hw j (.inl hj)) _ _ hrl;have h2:=h1.set (k:=k) (Rep.mono (Gh.le.refl g) (λj hj=>hw j (.inl hj)) _ _ hu);rw[Array.toList_setIfInBounds,List.length_set,List.take_set];exact h2
 .intro j hj _ i hne ho;simp at hj;subst hj;exact hne (hs.inj i id _ ho how)
 .rw[cell_of_row w b k arr ty (0,0) hb];have:k<arr.size:=by omega
  simp[this]
 .exact frozen_of_row w b k arr ty hb
end
section
variable {P : Program}
def Kt (w:World) (t u ty e:TypeId) (i:TypeInfo) (z:Value) (du:TypeDesc) (ht:P.underlying t=some (.slice e)) (hu:P.underlying u=some du) (hdu:du=.slice e\/du=.string)
  (hi:P.info? e=some i) (hz:i.zero=some z) (hzs:z.cells.size=i.size)
  (A:Option Addr) (n cap:Nat) (olds:List Value) (hlo:olds.length=n*i.size) (hn:n<=cap) (hcm:cap<=maxLen)
  (hA:cap=0 \/ ∃ b arr,A=some ⟨b,0,none⟩/\w.heap[b]?=some (.cells arr e (0,0))/\arr.size=cap*i.size/\arr.toList.take (n*i.size)=olds)
  (y:Value) (m:Nat) (news:List Value) (hl:news.length=m*i.size) (h1 : ∀ u∈news,u.oneCell'=true)
  (hlen : ∀ w',(Builtin.lenOf y).run P w'=.ok m w') (hf:(Builtin.firstCells i.size m y).run P w=.ok news.toArray w) (hf':(Builtin.firstCells i.size m y).run P w.drew=.ok news.toArray w.drew)
  (h63:n+m<=maxLen) (hbytes:(n+m)*i.bytes<=140737488355328\/((n+m)+(n+m)/4+192)*i.bytes<=281474976710656) :
  ∃ A' cap' w',(Builtin.append_ #[t,u] ty #[.slice A n cap,y]).run P w=.ok (.slice A' (n+m) cap') w'/\n+m<=cap'/\cap'<=maxLen /\
   w.grownBy w' (if cap=0 then none else A.map (·.block)) /\
   ((cap'=0) \/ ∃ b' arr',A'=some ⟨b',0,none⟩/\cap'≠0/\w'.heap[b']?=some (.cells arr' e (0,0))/\arr'.size=cap'*i.size/\arr'.toList.take ((n+m)*i.size)=olds++news /\
    ((w.heap.size<=b')\/(cap≠0/\A=some ⟨b',0,none⟩))):=by
 have hsmall:n+m<=9223372036854775807:=by simp only[maxLen] at h63;omega
 by_cases hroom:n+m<=cap
 .rcases hA with h0 | ⟨b,arr,rfl,hb,hsz,htk⟩
  .subst h0;obtain rfl:n=0:=by omega
   obtain rfl:m=0:=by omega
   have hnews:news=[]:=List.eq_nil_of_length_eq_zero (by simpa using hl);subst hnews;refine⟨A,0,w,?_,by omega,by simp[maxLen],⟨rfl,rfl,rfl,Nat.le_refl _,λ_ _ _=>rfl⟩,.inl rfl⟩;rcases hdu with rfl | rfl <;> cases A <;> simp[Builtin.append_,run_underlying ht,run_underlying hu,sizeOf,typeInfo,hi,hlen,hf,storeCells]
  .by_cases hc0:cap=0
   .subst hc0;obtain rfl:n=0:=by omega
    obtain rfl:m=0:=by omega
    have hnews:news=[]:=List.eq_nil_of_length_eq_zero (by simpa using hl);subst hnews;refine⟨some ⟨b,0,none⟩,0,w,?_,by omega,by simp[maxLen],⟨rfl,rfl,rfl,Nat.le_refl _,λ_ _ _=>rfl⟩,.inl rfl⟩;rcases hdu with rfl | rfl <;> simp[Builtin.append_,run_underlying ht,run_underlying hu,sizeOf,typeInfo,hi,hlen,hf,storeCells]
   .have hfit:n*i.size+news.length<=arr.size:=by rw[hl,hsz,<-Nat.add_mul];exact Nat.mul_le_mul_right _ hroom
    have hst:=run_storeCells_at P b (n*i.size) e news 0 arr w hb (by simpa using hfit) h1;simp only[Nat.add_zero] at hst;refine⟨some ⟨b,0,none⟩,cap,w.setRow b (arr.toList.take (n*i.size)++news++arr.toList.drop (n*i.size+news.length)).toArray,?_,hroom,hcm,?_,.inr ⟨b,_,rfl,hc0,setRow_heap w b arr _ e _ hb,?_,?_,.inr ⟨hc0,rfl⟩⟩⟩
    .rcases hdu with rfl | rfl <;> simp[Builtin.append_,run_underlying ht,run_underlying hu,sizeOf,typeInfo,hi,hlen,hroom,hf,Addr.add_lit,hst]
    .rw[if_neg hc0];exact⟨rfl,rfl,rfl,by simp,λk _ hk=>setRow_other w b k _ (λe=>hk (by simp[e]))⟩
    .simp only[List.size_toArray,List.length_append,List.length_take,List.length_drop,Array.length_toList];omega
    .rw[htk,Nat.add_mul,<-hl,<-hlo,<-List.length_append];exact List.take_left
 .have hfo:(Builtin.firstCells i.size n (.slice A n cap)).run P w.drew=.ok olds.toArray w.drew:=by
   rcases hA with h0 | ⟨b,arr,rfl,hb,hsz,htk⟩
   .subst h0;obtain rfl:n=0:=by omega
    have:olds=[]:=List.eq_nil_of_length_eq_zero (by simpa using hlo);subst this;cases A <;> simp[Builtin.firstCells,loadCells,loadCellsFrom]
   .refine run_firstCells_some w.drew i.size n ⟨b,0,none⟩ n cap olds hlo ?_;intro j v hj;have:(⟨b,0,none⟩:Addr).add j=⟨b,j,none⟩:=by unfold Addr.add;split <;> simp_all
    rw[this,World.cell?_drew,cell_of_row w b j arr e (0,0) hb];rw[<-htk,List.getElem?_take] at hj;split at hj
    .simpa using hj
    .cases hj
  have hgf:Builtin.nextslicecap (n+m) cap*i.bytes<=281474976710656:=hbytes.elim (growslice_fits (by omega)) (growslice_fits_wide (by omega));have h63':¬(9223372036854775807<((n:Int)+(m:Int))):=by omega
  have h48':¬(281474976710656<Builtin.nextslicecap (n+m) cap*i.bytes):=by omega
  have hge:=grownCap_ge w (n+m) cap e;have hcm':grownCap w (n+m) cap e<=maxLen:=grownCap_le_maxLen w (n+m) cap e h63
  refine⟨some ⟨w.heap.size,0,none⟩,grownCap w (n+m) cap e,w.drew.alloc (.cells (olds.toArray++news.toArray++Builtin.zeroCells z.cells (grownCap w (n+m) cap e-(n+m))) e),?_,hge,hcm',?_,
   .inr ⟨w.heap.size,_,rfl,by omega,heap_alloc_new w.drew _,?_,?_,.inl (Nat.le_refl _)⟩⟩
  .rcases hdu with rfl | rfl <;> simp[Builtin.append_,run_underlying ht,run_underlying hu,sizeOf,typeInfo,zeroValue,hi,hz,hlen,hroom,h63',h48',Question.forced,hf',hfo,newRow,grownCap] <;> (congr 2;apply Array.ext';simp[List.append_assoc])
  .exact⟨rfl,rfl,rfl,by simp,λk hk _=>X4 w.drew _ k hk⟩
  .simp only[Array.size_append,List.size_toArray,size_zeroCells,hzs,hlo,hl,<-Nat.add_mul];congr 1;omega
  .have hlen':(olds++news).length=(n+m)*i.size:=by rw[List.length_append,hlo,hl,Nat.add_mul]
   simp only[Array.toList_append,List.append_assoc];rw[<-List.append_assoc,<-hlen'];exact List.take_left
end
section
mutual
/-- every part of it names entries below n alone -/
def AV.lt (n:Nat):AV->Bool
 | .v _=>true
 | .any=>true
 | .sl _ _ _ cs=>AV.ltL n cs
 | .own id _ _=>decide (id<n)
 | .ptr id _ _=>decide (id<n)
 | .rp cs=>AV.ltL n cs
 | .agg cs=>AV.ltL n cs
 | .tup cs=>AV.ltL n cs
 | .clo _ cs=>AV.ltL n cs
 | .bnd _ cs=>AV.ltL n cs
 | .fs _ _ cs=>AV.ltL n cs
 | .rx _ _ cs=>AV.ltL n cs
def AV.ltL (n:Nat):List AV->Bool
 | []=>true
 | c::cs=>AV.lt n c&&AV.ltL n cs
end
def Gh.cut (g:Gh) (n:Nat):Gh:=⟨g.D,λi v=>if i<n then g.loc i v else none,g.df,g.X⟩
mutual
def Rep.cut {w:World}{g:Gh}{n:Nat} : ∀ (c:AV) (y:Value),c.lt n=true->Rep w g c y->Rep w (g.cut n) c y
 | .v x,y,_,h=>by simp only[Rep] at h ⊢;exact h
 | .any,y,_,h=>by simp only[Rep]
 | .sl m st full cells,y,hl,h=>by
  simp only[Rep] at h ⊢;simp only[AV.lt] at hl;obtain⟨h0,A,cap,h1,h2,h3,h4,h5,h6⟩:=h;refine⟨h0,A,cap,h1,h2,h3,h4,h5,λhne=>?_⟩;obtain⟨b,off,e,hd,hc⟩:=h6 hne;exact⟨b,off,e,hd,RepC.cut cells b off hl hc⟩
 | .own id ver m,y,hl,h=>by
  simp only[Rep] at h ⊢;simp only[AV.lt,decide_eq_true_eq] at hl;obtain⟨A,cap,h1,h2⟩:=h;exact⟨A,cap,by simp only[Gh.cut,if_pos hl];exact h1,h2⟩
 | .ptr id ver off,y,hl,h=>by
  simp only[Rep] at h ⊢;simp only[AV.lt,decide_eq_true_eq] at hl;obtain⟨b,cap,h1,h2⟩:=h;exact⟨b,cap,by simp only[Gh.cut,if_pos hl];exact h1,h2⟩
 | .rp cells,y,hl,h=>by
  simp only[Rep] at h ⊢;simp only[AV.lt] at hl;obtain⟨b,off,e,hd,hc⟩:=h;exact⟨b,off,e,hd,RepC.cut cells b off hl hc⟩
 | .agg cells,y,hl,h=>by
  simp only[Rep] at h ⊢;simp only[AV.lt] at hl;obtain⟨vs,e,hc⟩:=h;exact⟨vs,e,RepL.cut cells _ hl hc⟩
 | .tup cells,y,hl,h=>by
  simp only[Rep] at h ⊢;simp only[AV.lt] at hl;obtain⟨vs,e,hc⟩:=h;exact⟨vs,e,RepL.cut cells _ hl hc⟩
 | .clo fn cells,y,hl,h=>by
  simp only[Rep] at h ⊢;simp only[AV.lt] at hl;obtain⟨vs,e,hc⟩:=h;exact⟨vs,e,RepL.cut cells _ hl hc⟩
 | .bnd fn cells,y,hl,h=>by
  simp only[Rep] at h ⊢;simp only[AV.lt] at hl;obtain⟨vs,e,hc⟩:=h;exact⟨vs,e,RepL.cut cells _ hl hc⟩
 | .fs m st cells,y,hl,h=>by
  simp only[Rep] at h ⊢;simp only[AV.lt] at hl;obtain⟨h0,A,cap,h1,h2,h3,h5,h6⟩:=h;refine⟨h0,A,cap,h1,h2,h3,h5,λhne=>?_⟩;obtain⟨b,off,e,hd,hc⟩:=h6 hne;exact⟨b,off,e,hd,RepC.cut cells b off hl hc⟩
 | .rx b off cells,y,hl,h=>by
  simp only[Rep] at h ⊢;simp only[AV.lt] at hl;obtain⟨e,hd,hc⟩:=h;exact⟨e,hd,RepC.cut cells b off hl hc⟩
def RepC.cut {w:World}{g:Gh}{n:Nat} : ∀ (cs:List AV) (b off:Nat),AV.ltL n cs=true->RepC w g cs b off->RepC w (g.cut n) cs b off
 | [],_,_,_,_=>by simp only[RepC]
 | c::cs,b,off,hl,h=>by
  simp only[RepC] at h ⊢;simp only[AV.ltL,Bool.and_eq_true] at hl;obtain⟨⟨u,h1,h2⟩,h3⟩:=h;exact⟨⟨u,h1,Rep.cut c u hl.1 h2⟩,RepC.cut cs b (off+1) hl.2 h3⟩
def RepL.cut {w:World}{g:Gh}{n:Nat} : ∀ (cs:List AV) (vs:List Value),AV.ltL n cs=true->RepL w g cs vs->RepL w (g.cut n) cs vs
 | [],_,_,h=>by simp only[RepL] at h ⊢;exact h
 | c::cs,vs,hl,h=>by
  simp only[RepL] at h ⊢;simp only[AV.ltL,Bool.and_eq_true] at hl;obtain⟨u,us,e,h1,h2⟩:=h;exact⟨u,us,e,Rep.cut c u hl.1 h1,RepL.cut cs us hl.2 h2⟩
end
mutual
def Rep.lt {w:World}{g:Gh}{n:Nat}(hg : ∀ i v l,g.loc i v=some l->i<n) : ∀ (c:AV) (y:Value),Rep w g c y->c.lt n=true
 | .v x,y,h=>rfl
 | .any,y,h=>rfl
 | .sl m st full cells,y,h=>by
  simp only[Rep] at h;simp only[AV.lt];obtain⟨_,A,cap,h1,h2,h3,h4,h5,h6⟩:=h;by_cases hne:cells=[]
  .subst hne;rfl
  .obtain⟨b,off,e,hd,hc⟩:=h6 hne;exact RepC.lt hg cells b off hc
 | .own id ver m,y,h=>by
  simp only[Rep] at h;obtain⟨A,cap,h1,h2⟩:=h;simp only[AV.lt,decide_eq_true_eq];exact hg _ _ _ h1
 | .ptr id ver off,y,h=>by
  simp only[Rep] at h;obtain⟨b,cap,h1,h2⟩:=h;simp only[AV.lt,decide_eq_true_eq];exact hg _ _ _ h1
 | .rp cells,y,h=>by
  simp only[Rep] at h;obtain⟨b,off,e,hd,hc⟩:=h;exact RepC.lt hg cells b off hc
 | .agg cells,y,h=>by
  simp only[Rep] at h;obtain⟨vs,e,hc⟩:=h;exact RepL.lt hg cells _ hc
 | .tup cells,y,h=>by
  simp only[Rep] at h;obtain⟨vs,e,hc⟩:=h;exact RepL.lt hg cells _ hc
 | .clo fn cells,y,h=>by
  simp only[Rep] at h;obtain⟨vs,e,hc⟩:=h;exact RepL.lt hg cells _ hc
 | .bnd fn cells,y,h=>by
  simp only[Rep] at h;obtain⟨vs,e,hc⟩:=h;exact RepL.lt hg cells _ hc
 | .fs m st cells,y,h=>by
  simp only[Rep] at h;obtain⟨h0,A,cap,h1,h2,h3,h5,h6⟩:=h;by_cases hne:cells=[]
  .subst hne;rfl
  .obtain⟨b,off,e,hd,hc⟩:=h6 hne;exact RepC.lt hg cells b off hc
 | .rx b off cells,y,h=>by
  simp only[Rep] at h;obtain⟨e,hd,hc⟩:=h;exact RepC.lt hg cells b off hc
def RepC.lt {w:World}{g:Gh}{n:Nat}(hg : ∀ i v l,g.loc i v=some l->i<n) : ∀ (cs:List AV) (b off:Nat),RepC w g cs b off->AV.ltL n cs=true
 | [],_,_,_=>rfl
 | c::cs,b,off,h=>by
  simp only[RepC] at h;obtain⟨⟨u,h1,h2⟩,h3⟩:=h;simp only[AV.ltL,Bool.and_eq_true];exact⟨Rep.lt hg c u h2,RepC.lt hg cs b (off+1) h3⟩
def RepL.lt {w:World}{g:Gh}{n:Nat}(hg : ∀ i v l,g.loc i v=some l->i<n) : ∀ (cs:List AV) (vs:List Value),RepL w g cs vs->AV.ltL n cs=true
 | [],_,h=>rfl
 | c::cs,vs,h=>by
  simp only[RepL] at h;obtain⟨u,us,e,h1,h2⟩:=h;simp only[AV.ltL,Bool.and_eq_true];exact⟨Rep.lt hg c u h1,RepL.lt hg cs us h2⟩
end
def Ent.lt (n:Nat):Ent->Bool
 | .mk _ _ _ cs=>AV.ltL n cs
 | .gone=>true
 | .free=>true
 | .raw _ _ T _=>AV.ltL n T
def SimH.ltE {w:World}{g:Gh}{h:AH}(hs:SimH w g h) : ∀ e∈h,e.lt h.length=true:=by
 intro e he;obtain⟨i,hi,rfl⟩:=List.mem_iff_getElem.1 he;cases hh:h[i] with
 | gone=>rfl
 | free=>rfl
 | raw k o T vs=>exact RepL.lt (λi v l hl=>(hs.fresh _ _ _ hl).1) _ _ (hs.raw i k o T vs (by rw[List.getElem?_eq_getElem hi,hh])).2.2.2
 | mk v ty s cs =>
  obtain⟨A,cap,h1,h2,h3⟩:=hs.ent i v ty s cs (by rw[List.getElem?_eq_getElem hi,hh])
  rcases h3 with ⟨rfl,_⟩ | ⟨b,arr,_,_,_,_,_,_,hr⟩
  .rfl
  .exact RepL.lt (λi v l hl=>(hs.fresh _ _ _ hl).1) _ _ hr
def SimH.cut {w:World}{g:Gh}{h x:AH}(hs:SimH w g (h++x)) (hlt : ∀ e∈h,e.lt h.length=true):SimH w (g.cut h.length) h:=by
 have hi : ∀ {i:Nat} {e:Ent},h[i]?=some e->(h++x)[i]?=some e:=by
  intro i e he;have:i<h.length:=(List.getElem?_eq_some_iff.1 he).1;rw[List.getElem?_append_left this];exact he
 have how : ∀ i k,OwAt (g.cut h.length) h i k->OwAt g (h++x) i k:=by
  rintro i k ⟨v,ty,s,c,b,cap,e1,e2,e3,e4⟩;simp only[Gh.cut] at e2;split at e2
  .exact⟨v,ty,s,c,b,cap,hi e1,e2,e3,e4⟩
  .cases e2
 refine⟨?_,λi j k h1 h2=>hs.inj i j k (how i k h1) (how j k h2),hs.lt,?_,?_,⟨hs.glob.w,hs.glob.d⟩,λi k o T vs he=>?_,λi j k ⟨o,T,vs,e1⟩ ⟨o',T',vs',e2⟩=>hs.rinj i j k ⟨o,T,vs,hi e1⟩ ⟨o',T',vs',hi e2⟩,λk hk=>?_⟩;rotate_left 3
 .obtain⟨r1,r2,r3,r4⟩:=hs.raw _ _ _ _ _ (hi he);refine⟨r1,r2,r3,RepL.cut _ _ ?_ r4⟩;have:=hlt _ (List.mem_of_getElem? he);simpa [Ent.lt] using this
 .obtain⟨x1,x2,x3⟩:=hs.x k hk;refine⟨x1,x2,?_⟩;rintro (⟨i,e⟩ | ⟨i,o,T,vs,e⟩)
  .exact x3 (.inl ⟨i,how i k e⟩)
  .exact x3 (.inr ⟨i,o,T,vs,hi e⟩)
 .intro i v ty s cs he;have hlen:i<h.length:=(List.getElem?_eq_some_iff.1 he).1;obtain⟨A,cap,h1,h2,h3⟩:=hs.ent i v ty s cs (hi he);refine⟨A,cap,by simp only[Gh.cut,if_pos hlen];exact h1,h2,h3.imp (λx=>x) ?_⟩;rintro⟨b,arr,rfl,f0,f1,f2,f3,f4,f5⟩;refine⟨b,arr,rfl,f0,f1,f2,f3,f4,RepL.cut _ _ ?_ f5⟩;have:=hlt _ (List.mem_of_getElem? he);simpa [Ent.lt] using this
 .intro i v l hl;simp only[Gh.cut] at hl;split at hl
  .rename_i hlen;exact⟨hlen,λv' ty s c he=>(hs.fresh _ _ _ hl).2 _ _ _ _ (hi he)⟩
  .cases hl
 .intro i v l hl hfr;simp only[Gh.cut] at hl;split at hl
  .exact hs.free _ _ _ hl (hi hfr)
  .cases hl
def Gh.le.cut {g0 g:Gh}{n:Nat}(h:g0.le g) (hb : ∀ i v l,g0.loc i v=some l->i<n):g0.le (g.cut n) :=
 ⟨h.D,λi v l hl=>by simp only[Gh.cut,if_pos (hb _ _ _ hl)];exact h.loc _ _ _ hl,h.X⟩
def Ow.of_cut {g:Gh}{h x:AH}{k:Nat}(hk:Ow (g.cut h.length) h k):Ow g (h++x) k:=by
 rcases hk with ⟨i,v,ty,s,c,b,cap,e1,e2,e3,e4⟩ | ⟨i,o,T,vs,e1⟩;rotate_left 1
 .exact .inr ⟨i,o,T,vs,by rw[List.getElem?_append_left (List.getElem?_eq_some_iff.1 e1).1];exact e1⟩
 have hlen:i<h.length:=(List.getElem?_eq_some_iff.1 e1).1;simp only[Gh.cut,if_pos hlen] at e2;exact .inl ⟨i,v,ty,s,c,b,cap,by rw[List.getElem?_append_left hlen];exact e1,e2,e3,e4⟩
def Gh.ice (g:Gh) (h:AH) (id:Nat):Gh:=⟨λk=>g.D k\/OwAt g h id k,g.loc,g.df,g.X⟩
def Gh.le_ice (g:Gh) (h:AH) (id:Nat):g.le (g.ice h id):=⟨λ_ hk=>.inl hk,λ_ _ _ h=>h,rfl⟩
def SimH.ice {w:World}{g:Gh}{h:AH}(hs:SimH w g h) {id ver ty s:Nat}{cells:List AV}(hi:h[id]?=some (.mk ver ty s cells)) :
  SimH w (g.ice h id) (h.set id .gone)/\(∀ k,Ow (g.ice h id) (h.set id .gone) k->Ow g h k) /\
   ∀ n y,n*s<=cells.length->Rep w g (.own id ver n) y->Rep w (g.ice h id) (.fs n s (cells.take (n*s))) y:=by
 have hid:id<h.length:=(List.getElem?_eq_some_iff.1 hi).1;have hget : ∀ {i v ty s:Nat} {c:List AV},(h.set id .gone)[i]?=some (.mk v ty s c)->i≠id/\h[i]?=some (.mk v ty s c):=by
  intro i v ty s c he;by_cases hii:i=id
  .subst hii;rw[List.getElem?_set_self hid] at he;cases he
  .rw[List.getElem?_set_ne (Ne.symm hii)] at he;exact⟨hii,he⟩
 have hgr : ∀ {i k:Nat} {o:Obj} {T:List AV} {vs:List Value},(h.set id .gone)[i]?=some (.raw k o T vs)->h[i]?=some (.raw k o T vs):=by
  intro i k o T vs he;by_cases hii:i=id
  .subst hii;rw[List.getElem?_set_self hid] at he;cases he
  .rw[List.getElem?_set_ne (Ne.symm hii)] at he;exact he
 have hrw : ∀ i k,RwAt (h.set id .gone) i k->RwAt h i k:=λi k ⟨o,T,vs,e⟩=>⟨o,T,vs,hgr e⟩;have how : ∀ i k,OwAt (g.ice h id) (h.set id .gone) i k->i≠id/\OwAt g h i k:=by
  rintro i k ⟨v,ty,s,c,b,cap,e1,e2,e3,e4⟩;exact⟨(hget e1).1,v,ty,s,c,b,cap,(hget e1).2,e2,e3,e4⟩
 have hraw : ∀ (i k:Nat) (o:Obj) (T:List AV) (vs:List Value),(h.set id .gone)[i]?=some (Ent.raw k o T vs)->w.heap[k]?=some o/\o.isCells=false/\¬(g.ice h id).D k/\RepL w (g.ice h id) T vs:=by
  intro i k o T vs he;have he':=hgr he;obtain⟨r1,r2,r3,r4⟩:=hs.raw _ _ _ _ _ he';refine⟨r1,r2,?_,RepL.mono (g.le_ice h _) (λ_ _=>rfl) _ _ r4⟩;rintro (hd | hd)
  .exact r3 hd
  .exact hs.own_ne_raw hd ⟨o,T,vs,he'⟩
 refine⟨⟨?_,λi j k h1 h2=>hs.inj i j k (how i k h1).2 (how j k h2).2,?_,?_,?_,⟨hs.glob.w,λk hk=>.inl (hs.glob.d k hk)⟩,hraw,λi j k e1 e2=>hs.rinj i j k (hrw i k e1) (hrw j k e2),λk hk=>?_⟩,λk hk=>hk.imp (λ⟨i,hk⟩=>⟨i,(how i k hk).2⟩) (λ⟨i,hk⟩=>⟨i,hrw i k hk⟩),?_⟩
 .intro i v ty' s' cs he;obtain⟨hne,he'⟩:=hget he;obtain⟨A,cap,h1,h2,h3⟩:=hs.ent i v ty' s' cs he';refine⟨A,cap,h1,h2,h3.imp (λx=>x) ?_⟩;rintro⟨b,arr,rfl,f0,f1,f2,f3,f4,f5⟩;refine⟨b,arr,rfl,f0,?_,f2,f3,f4,RepL.mono (g.le_ice h _) (λ_ _=>rfl) _ _ f5⟩;rintro (hd | hd)
  .exact f1 hd
  .exact hne (hs.inj i _ b ⟨v,ty',s',cs,_,cap,he',h1,f0,rfl⟩ hd)
 .rintro k (hk | hk)
  .exact hs.lt k hk
  .exact (hs.own_not_D (.inl ⟨_,hk⟩)).2
 .intro i v l hl;have:=hs.fresh i v l hl;refine⟨by simpa using this.1,λv' ty s c he=>this.2 _ _ _ _ (hget he).2⟩
 .intro i v l hl hfr;by_cases hii:i=id
  .subst hii;rw[List.getElem?_set_self hid] at hfr;cases hfr
  .rw[List.getElem?_set_ne (Ne.symm hii)] at hfr;exact hs.free _ _ _ hl hfr
 .obtain⟨x1,x2,x3⟩:=hs.x k hk;refine⟨x1,λhd=>hd.elim x2 (λho=>x3 (.inl ⟨_,ho⟩)),λho=>x3 (ho.imp (λ⟨i,hk⟩=>⟨i,(how i k hk).2⟩) (λ⟨i,hk⟩=>⟨i,hrw i k hk⟩))⟩
 .intro n y hle hr;simp only[Rep] at hr ⊢;obtain⟨A,cap,h1,h2,h3,rfl⟩:=hr;obtain⟨A',cap',f1,_,f3⟩:=hs.ent _ _ _ _ _ hi;rw[h1] at f1;simp only[Option.some.injEq,Prod.mk.injEq] at f1;obtain⟨rfl,rfl⟩:=f1;refine⟨by rw[List.length_take];omega,A,cap,rfl,h2,h3,?_,?_⟩
  .rintro rfl;rcases f3 with ⟨_,h0⟩ | ⟨b,arr,e,_⟩
   .exact h0
   .cases e
  .intro hne;rcases f3 with ⟨rfl,_⟩ | ⟨b',arr,rfl,hc0,hnd,hb,_,hl,hrl⟩
   .simp at hne
   .refine⟨b',0,rfl,⟨.inr ⟨ver,ty,s,cells,_,cap,hi,h1,hc0,rfl⟩,λhB=>hnd (hs.glob.d _ (.inr hB)),_,_,hb⟩,RepC.of_row hb _ _ ?_⟩;have:=RepL.mono (g.le_ice h id) (λ_ _=>rfl) _ _ (hrl.take (n*s));rw[List.take_take] at this;simpa [Nat.min_eq_left hle] using this
end
section
variable {P : Program} {n0 : Nat}
inductive AX where
 | normal | exit (id:Nat) | ret | pan (c:AV)
inductive AE where
 | ret (c:AV) | pan (c:AV)
def ExR (w:World) (g:Gh):Exit->AX->Prop
 | .normal,.normal=>True
 | .exit i,.exit j=>i=j
 | .ret,.ret=>True
 | .panic ch,.pan c => ∃ v,ch=[{ v:=v,recovered:=false }]/\Rep w g c v
 | _,_=>False
class Rd where
 rd:Option Nat
abbrev rdN:Rd:=⟨none⟩
abbrev rdS (l:Nat):Rd:=⟨some l⟩
def Rd.F [r:Rd]:Fence:={ Fence.wide with round:=r.rd }
def callsF [Rd] {P:Program}{f:FuncId}{args:Array Value}{w:World}{R:Ending->World->Prop}(h:Calls P f args w R):CallsIn Rd.F 0 P f args w R:=by
 have:=(callsIn_wide (n:=0)).2 h;exact this
def Po {ro:Option Nat}{ρ:Operand->Value}{o:Oper}{P:Program}{w w':World}{x:Next}(h:(execOp ρ o).run P w=.ok x w') (hx : ∀ d,x ≠ .defer d):(o.semAt ro ρ).run P w=.ok x w':=by
 by_cases hd : ∃ c,o.op=.defer c
 .obtain⟨c,hc⟩:=hd;simp only[execOp,hc,Sem.run_bind] at h;cases hr:(resolve ρ c o.type).run P w with
  | ok d w1=>rw[hr] at h;simp[Result.andThen] at h;exact absurd h.1.symm (hx d)
  | halt s w1=>rw[hr] at h;simp[Result.andThen] at h
 .rw[Oper.semAt_eq _ _ _ (λc hc=>hd ⟨c,hc⟩)];exact h
section
variable [Rd] {P : Program} {o : Oper} {a : Act} {w w' : World} {K : Act -> World -> Prop} {Q : Exit -> Act -> World -> Prop}
def Oper.wpR_value {v:Value}(h:(execOp a.eval o).run P w=.ok (.value v) w') (hk:K (a.put o.dst v) w'):o.wpIn Rd.F 0 P a w K Q :=
 ⟨λ_ _=>trivial,by rw[Po h (by simp)];exact hk⟩
def Oper.wpR_skip (h:(execOp a.eval o).run P w=.ok .skip w') (hk:K (a.put o.dst undef) w'):o.wpIn Rd.F 0 P a w K Q :=
 ⟨λ_ _=>trivial,by rw[Po h (by simp)];exact hk⟩
def Oper.wpR_enter {f:FuncId}{vs:Array Value}(h:(execOp a.eval o).run P w=.ok (.enter f vs) w') (hk:Calls P f vs w' fun
  | .returned v,w''=>K (a.put o.dst v) w''
  | .panicked chain,w''=>Q (.panic chain) a w''
  | .outgrown,_=>LetsOut Q):o.wpIn Rd.F 0 P a w K Q :=
 ⟨λ_ _=>trivial,by rw[Po h (by simp)];exact⟨λh=>by simp[Rd.F,Fence.wide] at h,callsF hk⟩⟩
def Oper.wpR_round {l:Nat}{f:FuncId}{tmps:Array Value}{assign body:Code}(h:(execOp a.eval o).run P w=.ok (.round l f tmps assign body) w') (hk:RoundIn Fence.wide 0 P l f tmps assign body w' fun
  | .returned v,w''=>K (a.put o.dst v) w''
  | .panicked chain,w''=>Q (.panic chain) a w''
  | .outgrown,_=>LetsOut Q):o.wpIn Rd.F 0 P a w K Q :=
 ⟨λ_ _=>trivial,by rw[Po h (by simp)];exact⟨λh=>by simp[Rd.F,Fence.wide] at h,hk⟩⟩
def Oper.wpR_panic {v:Value}(h:(execOp a.eval o).run P w=.halt (.panic v) w') (ho : ∀ c,o.op ≠ .defer c) (hk:Q (.panic [{ v,recovered:=false }]) a w'):o.wpIn Rd.F 0 P a w K Q :=
 ⟨λ_ _=>trivial,by rw[Oper.semAt_eq _ _ _ ho,h];exact hk⟩
def rB {c:Code}(h:c.wpIn Rd.F 0 P (Exit.noGoto Q) a w):(Code.scope c).wpIn Rd.F 0 P Q a w:=by
 intro b k cs hro hb hr;have s0 : ∀ a w,step P (lone (b.atR a (.code (.scope c)::k)) cs w)=.next (lone (b.atR a (.code c::.inScope c::k)) cs w):=λa w=>step_lone_go (by simp[stepG,stepG.exec,Frame.atR]);have s1 : ∀ a w,step P (lone (b.atR a (.inScope c::k)) cs w)=.next (lone (b.atR a k) cs w):=λa w=>step_lone_go (by simp[stepG,stepG.exec,Frame.atR]);have h0:(lone (b.atR a (.code (.scope c)::k)) cs w).fenced P Rd.F:=fenced_calm hb hr rfl;obtain⟨e,a₁,w₁,hq,harr⟩:=h b (.inScope c::k) cs hro hb hr;cases e with
 | normal=>exact⟨.normal,a₁,w₁,hq,.head h0 (s0 _ _) (StepsIn.trans harr (.one (fenced_calm hb hr rfl) (s1 _ _)))⟩
 | exit id =>
  have hx:exitTo id (.inScope c::k)=exitTo id k:=by simp[exitTo]
  exact⟨.exit id,a₁,w₁,hq,λk' hk=>.head h0 (s0 _ _) (harr.1 k' (by rw[hx];exact hk)),λhr' hk=>let ⟨k₁,h1,h2⟩:=harr.2 hr' (by rw[hx];exact hk);⟨k₁,h1,.head h0 (s0 _ _) h2⟩⟩
 | goto l=>exact hq.elim
 | ret=>exact⟨_,a₁,w₁,hq,.of_steps (.one h0 (s0 _ _)) harr⟩
 | panic ch=>exact⟨_,a₁,w₁,hq,.of_steps (.one h0 (s0 _ _)) harr⟩
 | outgrown=>exact⟨_,a₁,w₁,hq,.of_steps (.one h0 (s0 _ _)) harr⟩
end
structure St (n0:Nat) (w0:World) (S0:Nat->Prop) (g0:Gh) (T:List AV) (h:AH) (a:Act) (w:World) (g:Gh):Prop where
 tmps:RepL w g T a.tmps.toList
 defers:a.defers=g0.df
 sim:SimH w g h
 fr:Fr w0 S0 w
 le:g0.le g
 bd : ∀ id ver l,g0.loc id ver=some l->id<n0
 ow : ∀ k,Ow g h k->S0 k\/w0.heap.size<=k
def AW [Rd] (P:Program) (n0:Nat) (c:Code) (Q:AX->List AV->AH->Prop) (T:List AV) (h:AH):Prop :=
 ∀ w0 S0 g0 a w g,St n0 w0 S0 g0 T h a w g->c.wpIn Rd.F 0 P (λe a' w' => ∃ x T' h' g',St n0 w0 S0 g0 T' h' a' w' g'/\ExR w' g' e x/\Q x T' h') a w
def Vj (n0:Nat) (w0:World) (S0:Nat->Prop) (g0:Gh) (Q:AX->List AV->AH->Prop):Exit->Act->World->Prop:=λe a' w' => ∃ x T' h' g',St n0 w0 S0 g0 T' h' a' w' g'/\ExR w' g' e x/\Q x T' h'
section
variable [Rd]
def AW.mono {c:Code}{Q Q':AX->List AV->AH->Prop}{T:List AV}{h:AH}(hw:AW P n0 c Q T h) (hq : ∀ x T h,Q x T h->Q' x T h):AW P n0 c Q' T h :=
 λw0 S0 g0 a w g hs=>wpIn_mono (hw w0 S0 g0 a w g hs) λ_ _ _ ⟨x,T',h',g',h1,h2,h3⟩=>⟨x,T',h',g',h1,h2,hq _ _ _ h3⟩
def qX {Q:AX->List AV->AH->Prop}{T:List AV}{h:AH}(hq:Q .normal T h):AW P n0 .skip Q T h :=
 λ_ _ _ _ _ g hs=>wpIn_skip ⟨.normal,T,h,g,hs,trivial,hq⟩
def AW_ret {Q:AX->List AV->AH->Prop}{T:List AV}{h:AH}(hq:Q .ret T h):AW P n0 .ret Q T h :=
 λ_ _ _ _ _ g hs=>wpIn_ret ⟨.ret,T,h,g,hs,trivial,hq⟩
def qZ {i:Nat}{Q:AX->List AV->AH->Prop}{T:List AV}{h:AH}(hq:Q (.exit i) T h):AW P n0 (.exit i) Q T h :=
 λ_ _ _ _ _ g hs=>wpIn_exit ⟨.exit i,T,h,g,hs,rfl,hq⟩
end
section
def AX.thn (next:List AV->AH->Prop) (Q:AX->List AV->AH->Prop):AX->List AV->AH->Prop
 | .normal,T,h=>next T h
 | e,T,h=>Q e T h
def AX.blk (id:Nat) (Q:AX->List AV->AH->Prop):AX->List AV->AH->Prop
 | .exit i,T,h=>if i=id then Q .normal T h else Q (.exit i) T h
 | e,T,h=>Q e T h
end
section
variable [Rd]
def AW_seq {x y:Code}{Q:AX->List AV->AH->Prop}{T:List AV}{h:AH}(hx:AW P n0 x (AX.thn (AW P n0 y Q) Q) T h):AW P n0 (.seq x y) Q T h:=by
 intro w0 S0 g0 a w g hs;refine wpIn_seq (wpIn_mono (hx w0 S0 g0 a w g hs) ?_);rintro e a' w' ⟨z,T',h',g',h1,h2,h3⟩;cases z <;> cases e <;> simp only[ExR] at h2 <;> simp only[Exit.then,AX.thn] at h3 ⊢;case normal.normal=>exact h3 w0 S0 g0 a' w' g' h1
 case exit.exit=>exact⟨_,T',h',g',h1,by simp only[ExR];exact h2,h3⟩
 case ret.ret=>exact⟨_,T',h',g',h1,by simp only[ExR],h3⟩
 case pan.panic=>exact⟨_,T',h',g',h1,by simp only[ExR];exact h2,h3⟩
def kO {c:Code}{id:Nat}{Q:AX->List AV->AH->Prop}{T:List AV}{h:AH}(hx:AW P n0 c (AX.blk id Q) T h):AW P n0 (.block id c) Q T h:=by
 intro w0 S0 g0 a w g hs;refine wpIn_block (wpIn_mono (hx w0 S0 g0 a w g hs) ?_);rintro e a' w' ⟨z,T',h',g',h1,h2,h3⟩;cases z <;> cases e <;> simp only[ExR] at h2 <;> simp only[Exit.inBlock,AX.blk] at h3 ⊢;case normal.normal=>exact⟨_,T',h',g',h1,by simp only[ExR],h3⟩
 case exit.exit i j =>
  subst h2
  split at h3 <;> rename_i hi
  .rw[if_pos hi];exact⟨.normal,T',h',g',h1,by simp only[ExR],h3⟩
  .rw[if_neg hi];exact⟨_,T',h',g',h1,by simp only[ExR],h3⟩
 case ret.ret=>exact⟨_,T',h',g',h1,by simp only[ExR],h3⟩
 case pan.panic=>exact⟨_,T',h',g',h1,by simp only[ExR];exact h2,h3⟩
def AW_scope {c:Code}{Q:AX->List AV->AH->Prop}{T:List AV}{h:AH}(hx:AW P n0 c Q T h):AW P n0 (.scope c) Q T h:=by
 intro w0 S0 g0 a w g hs;refine rB (wpIn_mono (hx w0 S0 g0 a w g hs) ?_);rintro e a' w' ⟨z,T',h',g',h1,h2,h3⟩;cases z <;> cases e <;> simp only[ExR] at h2 <;> exact⟨_,T',h',g',h1,by simp only[ExR] <;> (first | trivial | exact h2),h3⟩
end
section
def AV.ofCell:Value->AV
 | .slice none 0 0=>.sl 0 0 true []
 | x=>.v x
def AV.ofVal:Value->AV
 | .agg cs=>.agg (cs.toList.map AV.ofCell)
 | x=>AV.ofCell x
def Xd (w:World) (g:Gh) (v:Value):Rep w g (AV.ofCell v) v:=by
 unfold AV.ofCell;split
 .simp only[Rep];exact⟨rfl,none,0,rfl,Nat.le_refl _,by simp[maxLen],λ_=>rfl,λ_=>rfl,λh=>absurd rfl h⟩
 .simp only[Rep]
def G2 (w:World) (g:Gh) : ∀ vs:List Value,RepL w g (vs.map AV.ofCell) vs
 | []=>by simp only[List.map_nil,RepL]
 | v::vs=>by simp only[List.map_cons,RepL];exact⟨v,vs,rfl,Xd w g v,G2 w g vs⟩
def sD (w:World) (g:Gh) (v:Value):Rep w g (AV.ofVal v) v:=by
 unfold AV.ofVal;split
 .simp only[Rep];exact⟨_,rfl,G2 w g _⟩
 .exact Xd w g _
def Ae (T:List AV):Operand->AV
 | .tmp t=>(T[t]?).getD .any
 | .const v=>AV.ofVal v
 | .global _=>.any
 | .func f=>.v (.func (.func f) #[] #[])
def Fp {w:World}{g:Gh}{T:List AV}{a:Act}(ht:RepL w g T a.tmps.toList) (x:Operand):Rep w g (Ae T x) (a.eval x):=by
 cases x with
 | tmp t =>
  simp only[Ae,Act.eval]
  cases hT:T[t]? with
  | none=>simp only[Option.getD_none,Rep]
  | some c =>
   obtain⟨u,h1,h2⟩:=ht.get hT
   have:a.tmps.getD t undef=u:=by
    have:a.tmps[t]?=some u:=by simpa using h1
    simp[this]
   rw[this];exact h2
 | const v=>exact sD w g v
 | global g=>simp only[Ae,Rep]
 | func f=>simp only[Ae,Act.eval,Rep]
end
section
variable [Rd]
def rA {c:Operand}{x y:Code}{Q:AX->List AV->AH->Prop}{T:List AV}{h:AH}{b:Bool}(hc:Ae T c=.v (.bool b)) (ht:b=true->AW P n0 x Q T h) (hf:b=false->AW P n0 y Q T h):AW P n0 (.cond c x y) Q T h:=by
 intro w0 S0 g0 a w g hs;have:=Fp hs.tmps c;rw[hc] at this;simp only[Rep] at this;exact wpIn_cond_split this (λhb=>ht hb w0 S0 g0 a w g hs) (λhb=>hf hb w0 S0 g0 a w g hs)
def qY {c:Code}{Q:AX->List AV->AH->Prop}{T:List AV}{h:AH}(I:Nat->List AV->AH->Prop) (n:Nat) (h0:I n T h)
  (round : ∀ n T h,I n T h->AW P n0 c (AX.thn (λT' h' => ∃ m,m<n/\I m T' h') Q) T h):AW P n0 (.loop c) Q T h:=by
 intro w0 S0 g0 a w g hs;refine wpIn_loop_ghost (λn a w => ∃ T h g,St n0 w0 S0 g0 T h a w g/\I n T h) n ⟨T,h,g,hs,h0⟩ ?_;rintro n a w ⟨T,h,g,hs,hI⟩;refine wpIn_mono (round n T h hI w0 S0 g0 a w g hs) ?_;rintro e a' w' ⟨z,T',h',g',h1,h2,h3⟩;cases z <;> cases e <;> simp only[ExR] at h2 <;> simp only[Exit.then,AX.thn] at h3 ⊢;case normal.normal=>obtain⟨m,hm,hI⟩:=h3;exact⟨m,hm,T',h',g',h1,hI⟩
 case exit.exit=>exact⟨_,T',h',g',h1,by simp only[ExR];exact h2,h3⟩
 case ret.ret=>exact⟨_,T',h',g',h1,by simp only[ExR],h3⟩
 case pan.panic=>exact⟨_,T',h',g',h1,by simp only[ExR];exact h2,h3⟩
end
section
def ALe (n0:Nat) (T:List AV) (h:AH) (T':List AV) (h':AH):Prop := ∀ w0 S0 g0 a w g,St n0 w0 S0 g0 T h a w g -> ∃ g',St n0 w0 S0 g0 T' h' a w g'
def AW_le [Rd] {c:Code}{Q:AX->List AV->AH->Prop}{T T':List AV}{h h':AH}(hl:ALe n0 T h T' h') (hx:AW P n0 c Q T' h'):AW P n0 c Q T h:=by
 intro w0 S0 g0 a w g hs;obtain⟨g',hs'⟩:=hl w0 S0 g0 a w g hs;exact hx w0 S0 g0 a w g' hs'
end
end
section
variable {P : Program} {n0 : Nat}
def EndR (w:World) (g:Gh):Ending->AE->Prop
 | .returned v,.ret c=>Rep w g c v
 | .panicked ch,.pan c => ∃ v,ch=[{ v:=v,recovered:=false }]/\Rep w g c v
 | _,_=>False
def enters (P:Program) (f:FuncId):Bool:=match P.funcs[f]? with
 | some fn=>fn.name != "runtime.NumGoroutine" && fn.body.isSome
 | none=>false
def ACalls (P:Program) (f:FuncId) (args:List AV) (h:AH) (R:AE->AH->Prop):Prop :=
 enters P f=true /\ ∀ w g (vs:Array Value),SimH w g h->RepL w g args vs.toList->Calls P f vs w λe w' => ∃ x h' g',EndR w' g' e x/\SimH w' g' h'/\g.le g'/\Fr w (Ow g h) w'/\(∀ k,Ow g' h' k->Ow g h k\/w.heap.size<=k)/\R x h'
def ACalls.mono {f:FuncId}{args:List AV}{h:AH}{R R':AE->AH->Prop}(hc:ACalls P f args h R) (hr : ∀ x h',R x h'->R' x h'):ACalls P f args h R' :=
 ⟨hc.1,λw g vs hs ha=>(hc.2 w g vs hs ha).mono λ_ _ ⟨x,h',g',h1,h2,h3,h4,h5,h6⟩=>⟨x,h',g',h1,h2,h3,h4,h5,hr _ _ h6⟩⟩
def AE.lt (n:Nat):AE->Bool
 | .ret c=>c.lt n
 | .pan c=>c.lt n
variable {P : Program} {n0 : Nat}
def ACalls.gc {f:FuncId}{args:List AV}{h:AH}{R:AE->AH->Prop}(hc:ACalls P f args h λx h' => ∃ y z,h'=y++z/\y.length=h.length/\(∀ e∈y,e.lt h.length=true)/\x.lt h.length=true/\R x y):ACalls P f args h R:=by
 refine⟨hc.1,λw g vs hs ha=>(hc.2 w g vs hs ha).mono ?_⟩;rintro e w' ⟨x,h',g',h1,h2,h3,h4,h5,y,z,rfl,hl,hlt,hx,hR⟩;have hcut:=h2.cut (by rw[hl];exact hlt);refine⟨x,y,g'.cut y.length,?_,hcut,h3.cut (λi v l hi=>by rw[hl];exact (hs.fresh _ _ _ hi).1),h4,λk hk=>h5 k hk.of_cut,hR⟩;rw[hl];cases x <;> cases e <;> simp only[EndR] at h1 ⊢
 .exact Rep.cut _ _ hx h1
 .obtain⟨v,e1,e2⟩:=h1;exact⟨v,e1,Rep.cut _ _ hx e2⟩
def ACalls.gc_same {f:FuncId}{args:List AV}{h:AH}{R:AE->Prop}(hc:ACalls P f args h λx h' => ∃ z,h'=h++z/\x.lt h.length=true/\R x):ACalls P f args h λx h'=>h'=h/\R x:=by
 refine⟨hc.1,λw g vs hs ha=>?_⟩;have hlt:=hs.ltE;refine (ACalls.gc (R:=λx h'=>h'=h/\R x) ⟨hc.1,λw g vs hs ha=>(hc.2 w g vs hs ha).mono ?_⟩).2 w g vs hs ha;rintro e w' ⟨x,h',g',h1,h2,h3,h4,h5,z,rfl,hx,hR⟩;exact⟨x,_,g',h1,h2,h3,h4,h5,h,z,rfl,rfl,hlt,hx,rfl,hR⟩
def RetQ (P:Program) (fn:Func) (R:AE->AH->Prop):AX->List AV->AH->Prop
 | .normal,T,h | .ret,T,h => ∃ r,(∀ w g a,SimH w g h->RepL w g T a -> ∃ v,(results fn a.toArray).run P w=.ok v w/\Rep w g r v)/\R (.ret r) h
 | .pan c,_,h=>R (.pan c) h
 | _,_,_=>False
def Kw (w:World) (g:Gh) : ∀ vs:List Value,RepL w g (List.replicate vs.length .any) vs
 | []=>by simp only[List.length_nil,List.replicate_zero,RepL]
 | v::vs=>by simp only[List.length_cons,List.replicate_succ,RepL];exact⟨v,vs,rfl,by simp only[Rep],Kw w g vs⟩
def ACalls.of_AW {f:FuncId}{fn:Func}{c:Code}{args:List AV}{h:AH}{R:AE->AH->Prop}(hf:P.funcs[f]?=some fn) (hb:fn.body=some c) (hn:enters P f=true)
  (hw : @AW rdN P h.length c (RetQ P fn R) (args++List.replicate (fn.ntmps-args.length) .any) h):ACalls P f args h R:=by
 refine⟨hn,λw g vs hs ha=>calls_of_wp hf hb ?_⟩;have hlen:vs.size=args.length:=by simpa using ha.length
 have hst:St h.length w (Ow g h) ⟨g.D,g.loc,[],g.X⟩ (args++List.replicate (fn.ntmps-args.length) .any) h { tmps:=vs++Array.replicate (fn.ntmps-vs.size) undef,defers:=[] } w g:=by
  refine⟨?_,rfl,hs,Fr.refl _ _,⟨λ_ h=>h,λ_ _ _ h=>h,rfl⟩,λi v l hl=>(hs.fresh i v l hl).1,λk hk=>.inl hk⟩;simp only[Array.toList_append,Array.toList_replicate,hlen];refine ha.append ?_;have:=Kw w g (List.replicate (fn.ntmps-args.length) undef);simpa using this
 refine wp_mono (wpIn_wide.1 (hw w (Ow g h) ⟨g.D,g.loc,[],g.X⟩ _ w g hst)) ?_;rintro e a' w' ⟨x,T',h',g',h1,h2,h3⟩;cases x <;> cases e <;> simp only[ExR] at h2 <;> simp only[RetQ] at h3
 case normal.normal =>
  obtain⟨r,hr,hR⟩:=h3
  obtain⟨v,e1,e2⟩:=hr w' g' _ h1.sim h1.tmps
  exact⟨h1.defers,v,by simpa using e1,.ret r,h',g',e2,h1.sim,⟨h1.le.D,h1.le.loc,h1.le.X⟩,h1.fr,h1.ow,hR⟩
 case ret.ret =>
  obtain⟨r,hr,hR⟩:=h3
  obtain⟨v,e1,e2⟩:=hr w' g' _ h1.sim h1.tmps
  exact⟨h1.defers,v,by simpa using e1,.ret r,h',g',e2,h1.sim,⟨h1.le.D,h1.le.loc,h1.le.X⟩,h1.fr,h1.ow,hR⟩
 case pan.panic=>exact⟨h1.defers,.pan _,h',g',h2,h1.sim,⟨h1.le.D,h1.le.loc,h1.le.X⟩,h1.fr,h1.ow,h3⟩
def St.call {w0:World}{S0:Nat->Prop}{g0:Gh}{T:List AV}{h h':AH}{a:Act}{w w':World}{g g':Gh}(hs:St n0 w0 S0 g0 T h a w g) (h2:SimH w' g' h') (h3:g.le g') (h4:Fr w (Ow g h) w') (h5 : ∀ k,Ow g' h' k->Ow g h k\/w.heap.size<=k) :
  St n0 w0 S0 g0 T h' a w' g':=by
 refine⟨RepL.mono h3 (λk hk=>h4.block k (hs.sim.lt k hk) (λho=>(hs.sim.own_not_D ho).1 hk)) _ _ hs.tmps,hs.defers,h2,hs.fr.trans h4 ?_,hs.le.trans h3,hs.bd,?_⟩
 .intro i hi hlt;exact (hs.ow i hi).resolve_right (by omega)
 .intro k hk;rcases h5 k hk with ho | ho
  .exact hs.ow k ho
  .exact .inr (Nat.le_trans hs.fr.size ho)
def St.put {w0:World}{S0:Nat->Prop}{g0:Gh}{T:List AV}{h:AH}{a:Act}{w:World}{g:Gh}(hs:St n0 w0 S0 g0 T h a w g) {d:Nat}{c:AV}{v:Value}(hv:Rep w g c v):St n0 w0 S0 g0 (T.set d c) h (a.put (some d) v) w g :=
 ⟨by simpa [Act.put] using hs.tmps.set hv,hs.defers,hs.sim,hs.fr,hs.le,hs.bd,hs.ow⟩
def aPut (T:List AV) (d:Option Nat) (c:AV):List AV:=match d with
 | some d=>T.set d c
 | none=>T
def St.aput {w0:World}{S0:Nat->Prop}{g0:Gh}{T:List AV}{h:AH}{a:Act}{w:World}{g:Gh}(hs:St n0 w0 S0 g0 T h a w g) {d:Option Nat}{c:AV}{v:Value}(hv:Rep w g c v):St n0 w0 S0 g0 (aPut T d c) h (a.put d v) w g:=by
 cases d with
 | none=>exact hs
 | some d=>exact hs.put hv
end
end
section
section
inductive LK where
 | int | str | bool
 deriving DecidableEq
inductive AOp where
 | mv (x:Operand)
 | pick (c a b:Operand)
 | new (ty sz:Nat) (zero:List AV)
 | box (ty sz:Nat) (x:Operand)
 | build (zero:List AV) (parts:List (Nat×Nat×Operand))
 | lit (ty st len:Nat) (zero:List AV) (parts:List (Nat×Nat×Operand))
 | load (agg:Bool) (sz:Nat) (x:Operand)
 | loadR (agg:Bool) (sz:Nat) (x:Operand)
 | store (sz:Nat) (p x:Operand)
 | nck (x:Operand)
 | bin (op:BinOp) (x y:Operand)
 | eqb (neg:Bool) (x y:Operand)
 | eqs (neg:Bool) (ks:List LK) (x y:Operand)
 | eqn (neg:Bool) (x:Operand)
 | un (op:UnOp) (x:Operand)
 | cvi (k:IntKind) (x:Operand)
 | cvs (x:Operand)
 | b2s (x:Operand)
 | mkif (t:Nat) (x:Operand)
 | mkfn (f:Nat) (caps:List Operand)
 | mkbd (f:Nat) (first:List Operand)
 | slc (st:Nat) (x:Operand) (lo hi mx:Option Operand)
 | sls (x:Operand) (lo hi:Option Operand)
 | fa (off:Nat) (x:Operand)
 | fld (agg:Bool) (off sz:Nat) (x:Operand)
 | ia (st:Nat) (x i:Operand)
 | ix (x i:Operand)
 | ext (x:Operand) (n:Nat)
 | len (str:Bool) (x:Operand)
 | mm (isMax:Bool) (x y:Operand)
 | app (ty sz bytes:Nat) (s x:Operand)
 | appz (ty sz bytes:Nat) (s x:Operand)
 | cap (x:Operand)
 | call (f:Operand) (args:List Operand)
 | panic (x:Operand)
structure AOper where
 dst:Option Nat
 guard:Option (Nat×Bool)
 op:AOp
def D8:AV->Option (List AV)
 | .agg cs=>some cs
 | .v (.agg _)=>none
 | .v (.tuple _)=>none
 | .any=>none
 | .tup _=>none
 | x=>some [x]
def leaf:AV->Bool
 | .v (.agg _)=>false
 | .v (.tuple _)=>false
 | .any=>false
 | .agg _=>false
 | .tup _=>false
 | _=>true
def Ed:Bool->Nat->List AV->Option AV
 | true,sz,cs=>if sz<=cs.length then some (.agg (cs.take sz)) else none
 | false,_,c::_=>some c
 | false,_,[]=>none
def cY (agg:Bool) (off sz:Nat) (cs:List AV):Option AV:=Ed agg sz (cs.drop off)
def iBin (op:BinOp) (k:IntKind) (a b:Int):Option AV :=
 match op with
 | .add=>some (.v (.int k (k.wrap (a+b))))
 | .sub=>some (.v (.int k (k.wrap (a-b))))
 | .mul=>some (.v (.int k (k.wrap (a*b))))
 | .quo=>if b=0 then none else some (.v (.int k (k.wrap (a.tdiv b))))
 | .rem=>if b=0 then none else some (.v (.int k (a.tmod b)))
 | .and=>some (.v (.int k (k.wrap (BitVec.ofInt k.bits a &&& BitVec.ofInt k.bits b).toNat)))
 | .or=>some (.v (.int k (k.wrap (BitVec.ofInt k.bits a ||| BitVec.ofInt k.bits b).toNat)))
 | .xor=>some (.v (.int k (k.wrap (BitVec.ofInt k.bits a ^^^ BitVec.ofInt k.bits b).toNat)))
 | .eql=>some (.v (.bool (a==b)))
 | .neq=>some (.v (.bool (a != b)))
 | .lss=>some (.v (.bool (decide (a<b))))
 | .leq=>some (.v (.bool (decide (a<=b))))
 | .gtr=>some (.v (.bool (decide (a>b))))
 | .geq=>some (.v (.bool (decide (a>=b))))
 | _=>none
def sBin (op:BinOp) (a b:ByteArray):Option AV :=
 match op with
 | .add=>if a.size+b.size<=9223372036854775807 then some (.v (.string (a++b))) else none
 | .eql=>some (.v (.bool (a==b)))
 | .neq=>some (.v (.bool (!(a==b))))
 | .lss=>some (.v (.bool (Op.bytesLess a.toList b.toList)))
 | .leq=>some (.v (.bool (Op.bytesLess a.toList b.toList||a.toList==b.toList)))
 | .gtr=>some (.v (.bool (!(Op.bytesLess a.toList b.toList||a.toList==b.toList))))
 | .geq=>some (.v (.bool (!(Op.bytesLess a.toList b.toList))))
 | _=>none
def vBin (op:BinOp):Value->Value->Option AV
 | .int k a,.int k' b=>match op with
  | .shl=>if b<0 then none else some (.v (.int k (k.wrap (a*2 ^ (min b.toNat k.bits)))))
  | .shr=>if b<0 then none else some (.v (.int k (a.fdiv (2 ^ (min b.toNat k.bits)))))
  | op=>if k=k' then iBin op k a b else none
 | .string a,.string b=>sBin op a b
 | _,_=>none
def K7:LK->Value->Value->Option Bool
 | .int,.int k a,.int k' b=>if k=k' then some (a==b) else none
 | .str,.string a,.string b=>some (a==b)
 | .bool,.bool a,.bool b=>some (a==b)
 | _,_,_=>none
def Ei:List LK->List AV->List AV->Option Bool
 | [],[],[]=>some true
 | k::ks,.v a::xs,.v b::ys=>match K7 k a b,Ei ks xs ys with
  | some p,some q=>some (p&&q)
  | _,_=>none
 | _,_,_=>none
def Dy (s:ByteArray) (i:Nat):UInt8:=s.data.toList.getD i 0
def bytesOf:List AV->Option (List UInt8)
 | []=>some []
 | .v (.int .u8 n)::cs=>(bytesOf cs).map (UInt8.ofNat n.toNat :: ·)
 | _=>none
def allV:List AV->Option (List Value)
 | []=>some []
 | .v x::cs=>(allV cs).map (x :: ·)
 | _=>none
def setCells (cells:List AV) (off:Nat):List AV->List AV
 | []=>cells
 | c::cs=>setCells (cells.set off c) (off+1) cs
def Cm (τ:Operand->AV):List (Nat×Nat×Operand)->List AV->Option (List AV)
 | [],cells=>some cells
 | (off,sz,x)::ps,cells=>match D8 (τ x) with
  | some cs=>if cs.length=sz/\off+sz<=cells.length/\cs.all leaf then Cm τ ps (setCells cells off cs) else none
  | none=>none
def Dm (τ:Operand->AV) (d:Int):Option Operand->Option Int
 | none=>some d
 | some x=>match τ x with
  | .v (.int _ i)=>some i
  | _=>none
def aval (h:AH) (τ:Operand->AV):AOp->Option AV
  | .mv x=>some (τ x)
  | .pick c a b=>match τ c with
    | .v (.bool c)=>some (bif c then τ a else τ b)
    | _=>none
  | .build zero ps=>(Cm τ ps zero).map .agg
  | .load agg sz x=>(Fe h (τ x)).bind (Ed agg sz)
  | .loadR agg sz x=>match τ x with
    | .rp cs=>Ed agg sz cs
    | .rx _ _ cs=>Ed agg sz cs
    | _=>none
  | .nck x=>match τ x with
    | .ptr i v o=>some (.ptr i v o)
    | .rp cs=>some (.rp cs)
    | .v (.func (.func f) a b)=>some (.v (.func (.func f) a b))
    | .clo (.func f) cs=>some (.clo (.func f) cs)
    | _=>none
  | .bin op x y=>match τ x,τ y with
    | .v a,.v b=>vBin op a b
    | _,_=>none
  | .eqb neg x y=>match τ x,τ y with
    | .v (.bool a),.v (.bool b)=>some (.v (.bool (bif neg then !(a==b) else a==b)))
    | _,_=>none
  | .eqs neg ks x y=>match τ x,τ y with
    | .agg xs,.agg ys=>(Ei ks xs ys).map λb=>.v (.bool (bif neg then !b else b))
    | _,_=>none
  | .un op x=>match op,τ x with
    | .neg,.v (.int k n)=>some (.v (.int k (k.wrap (0-n))))
    | .not,.v (.bool b)=>some (.v (.bool (!b)))
    | _,_=>none
  | .cvi k x=>match τ x with
    | .v (.int _ n)=>some (.v (.int k (k.wrap n)))
    | _=>none
  | .cvs x=>match τ x with
    | .v (.string s)=>some (.v (.string s))
    | _=>none
  | .b2s x=>match Ia h (τ x) with
    | some (n,cs)=>if cs.length=n then (bytesOf cs).map λl=>.v (.string ⟨l.toArray⟩) else none
    | none=>none
  | .mkif t x=>match τ x with
    | .v a=>some (.v (.iface t a))
    | .agg cs=>(allV cs).map λl=>.v (.iface t (.agg l.toArray))
    | _=>none
  | .mkfn f caps=>some (.clo (.func f) (caps.map τ))
  | .mkbd f first=>some (.bnd (.func f) (first.map τ))
  | .slc st x lo hi mx=>match τ x with
    | .sl n st' full cs =>
      match Dm τ 0 lo,Dm τ n hi with
      | some l, some h => if st = st' /\ 0 <= l /\ l <= h /\ h <= n then
          match mx with
          | none=>some (.sl (h.toNat-l.toNat) st (full&&decide (h=n)) ((cs.drop (l.toNat*st)).take ((h.toNat-l.toNat)*st)))
          | some m=>match hi,τ m with
            | some _,.v (.int _ m)=>if h<=m/\m<=n then some (.sl (h.toNat-l.toNat) st (decide (h=m)) ((cs.drop (l.toNat*st)).take ((h.toNat-l.toNat)*st))) else none
            | _,_=>none
        else none
      | _,_=>none
    | .own i v n =>
      match lo,Dm τ n hi,mx with
      | none,some h,none=>if 0<=h/\h<=n then some (.own i v h.toNat) else none
      | _,some h,some m=>match Dm τ 0 lo,τ m with
        | some 0,.v (.int _ 0)=>if h=0/\hi.isSome=true then some (.sl 0 0 true []) else none
        | _,_=>none
      | _,_,_=>none
    | _=>none
  | .sls x lo hi=>match τ x with
    | .v (.string s)=>match Dm τ 0 lo,Dm τ s.size hi with
      | some l,some h=>if 0<=l/\l<=h/\h<=s.size then some (.v (.string (s.extract l.toNat h.toNat))) else none
      | _,_=>none
    | _=>none
  | .fa off x=>match τ x with
    | .ptr i v o=>some (.ptr i v (o+off))
    | .rp cs=>some (.rp (cs.drop off))
    | _=>none
  | .fld agg off sz x=>match τ x with
    | .agg cs=>cY agg off sz cs
    | _=>none
  | .ia st x i=>match τ x,τ i with
    | .sl n st' _ cs,.v (.int _ i)=>if st=st'/\0<st/\0<=i/\i<n then some (.rp ((cs.drop (i.toNat*st)).take st)) else none
    | .own id v n,.v (.int _ i)=>match h[id]? with
      | some (.mk v' _ s cells)=>if v'=v/\s=st/\0<st/\0<=i/\i<n/\n*st<=cells.length then some (.ptr id v (i.toNat*st)) else none
      | _=>none
    | _,_=>none
  | .ix x i=>match τ x,τ i with
    | .v (.string s),.v (.int _ i)=>if 0<=i/\i<s.size then some (.v (.int .u8 (Dy s i.toNat).toNat)) else none
    | _,_=>none
  | .ext x n=>match τ x with
    | .tup l=>l[n]?
    | _=>none
  | .len str x=>match str,τ x with
    | true,.v (.string s)=>some (.v (.int .i64 s.size))
    | false,.sl n _ _ _=>some (.v (.int .i64 n))
    | false,.own _ _ n=>some (.v (.int .i64 n))
    | _,_=>none
  | .cap x=>match τ x with
    | .sl n _ true _=>some (.v (.int .i64 n))
    | _=>none
  | .mm isMax x y=>match τ x,τ y with
    | .v (.int k a),.v (.int _ b)=>some (.v (.int k (bif isMax then (if b>a then b else a) else (if b<a then b else a))))
    | _,_=>none
  | _=>none
def Et (h:AH) (sz:Nat):AV->Option (Nat×List AV)
 | .v (.string s)=>if sz=1 then some (s.size,s.data.toList.map λb=>.v (.int .u8 b.toNat)) else none
 | x=>match Ia h x with
  | some (m,cs)=>if cs.length=m*sz then some (m,cs) else none
  | none=>none
def aeff (h:AH) (τ:Operand->AV):AOp->Option (AV×AH)
 | .new ty sz zero=>some (.ptr h.length 0 0,h++[.mk 0 ty sz zero])
 | .box ty sz x=>match D8 (τ x) with
  | some cs=>if cs.length=sz then some (.ptr h.length 0 0,h++[.mk 0 ty sz cs]) else none
  | none=>none
 | .lit ty st len zero ps=>match Cm τ ps zero with
  | some cs=>some (.own h.length 0 len,h++[.mk 0 ty st cs])
  | none=>none
 | .store sz p x=>match τ p,D8 (τ x) with
  | .ptr id ver off,some cs=>match h[id]? with
   | some (.mk v ty s cells)=>if v=ver/\cs.length=sz/\off+sz<=cells.length/\cs.all leaf then some (.v undef,h.set id (.mk v ty s (setCells cells off cs))) else none
   | _=>none
  | _,_=>none
 | .app ty sz bytes s x=>match Et h sz (τ x) with
  | some (m,news)=>match τ s with
   | .own id ver n=>match h[id]? with
    | some (.mk v ty' st cells)=>if v=ver/\ty'=ty/\st=sz/\cells.length=n*sz/\((n+m)*bytes<=140737488355328\/((n+m)+(n+m)/4+192)*bytes<=281474976710656)/\news.all leaf then some (.own id (ver+1) (n+m),h.set id (.mk (ver+1) ty sz (cells++news))) else none
    | _=>none
   | .sl 0 _ true _=>if m*bytes<=140737488355328/\news.all leaf then some (.own h.length 0 m,h++[.mk 0 ty sz news]) else none
   | _=>none
  | none=>none
 | .appz ty sz bytes s x=>match τ s,τ x with
  | .sl 0 _ true _,.v (.int _ k)=>if 0<k/\0<sz/\0<bytes/\k*bytes<=140737488355328 then some (.own h.length 0 k.toNat,h++[.mk 0 ty sz []]) else none
  | _,_=>none
 | _=>none
end
section
variable {P : Program}
def Sn {w:World}{g:Gh}{c:AV}{u:Value}(hl:leaf c=true) (hr:Rep w g c u):u.oneCell'=true:=by
 cases c <;> simp only[Rep] at hr <;> try (simp[leaf] at hl;done)
 case v x=>subst hr;cases u <;> first | rfl | (simp[leaf] at hl;done)
 case sl=>obtain⟨_,_,_,rfl,_⟩:=hr;rfl
 case own=>obtain⟨_,_,_,_,_,rfl⟩:=hr;rfl
 case ptr=>obtain⟨_,_,_,rfl⟩:=hr;rfl
 case rp=>obtain⟨_,_,rfl,_⟩:=hr;rfl
 case clo=>obtain⟨_,rfl,_⟩:=hr;rfl
 case bnd=>obtain⟨_,rfl,_⟩:=hr;rfl
 case fs=>obtain⟨_,_,_,rfl,_⟩:=hr;rfl
 case rx=>obtain⟨rfl,_⟩:=hr;rfl
def Gs {w:World}{g:Gh} : ∀ {cs:List AV}{us:List Value},cs.all leaf=true->RepL w g cs us -> ∀ u∈us,u.oneCell'=true
 | [],us,_,h,u,hu=>by simp only[RepL] at h;subst h;simp at hu
 | c::cs,us,hl,h,u,hu=>by
  simp only[RepL] at h;obtain⟨u',us',rfl,h1,h2⟩:=h;simp only[List.all_cons,Bool.and_eq_true] at hl;rcases List.mem_cons.1 hu with rfl | hu
  .exact Sn hl.1 h1
  .exact Gs hl.2 h2 u hu
def Ns {w:World}{g:Gh}{c:AV}{u:Value}{cs:List AV}(hc:D8 c=some cs) (hr:Rep w g c u):RepL w g cs u.cells.toList:=by
 cases c <;> simp only[Rep] at hr
 case v x =>
  subst hr
  cases u <;> simp only[D8] at hc <;> first | (cases hc;done) | (cases hc;simp only[Value.cells,RepL];exact⟨_,[],rfl,by simp only[Rep],rfl⟩)
 case any=>simp[D8] at hc
 case tup=>simp[D8] at hc
 case agg l=>simp only[D8] at hc;cases hc;obtain⟨vs,rfl,h⟩:=hr;exact h
 case sl=>simp only[D8] at hc;cases hc;obtain⟨h0,A,cap,rfl,h⟩:=hr;simp only[Value.cells,RepL];exact⟨_,[],rfl,by simp only[Rep];exact⟨h0,A,cap,rfl,h⟩,rfl⟩
 case own=>simp only[D8] at hc;cases hc;obtain⟨A,cap,h1,h2,h3,rfl⟩:=hr;simp only[Value.cells,RepL];exact⟨_,[],rfl,by simp only[Rep];exact⟨A,cap,h1,h2,h3,rfl⟩,rfl⟩
 case ptr=>simp only[D8] at hc;cases hc;obtain⟨A,cap,h1,rfl⟩:=hr;simp only[Value.cells,RepL];exact⟨_,[],rfl,by simp only[Rep];exact⟨A,cap,h1,rfl⟩,rfl⟩
 case rp=>simp only[D8] at hc;cases hc;obtain⟨A,cap,rfl,h⟩:=hr;simp only[Value.cells,RepL];exact⟨_,[],rfl,by simp only[Rep];exact⟨A,cap,rfl,h⟩,rfl⟩
 case clo=>simp only[D8] at hc;cases hc;obtain⟨A,rfl,h⟩:=hr;simp only[Value.cells,RepL];exact⟨_,[],rfl,by simp only[Rep];exact⟨A,rfl,h⟩,rfl⟩
 case bnd=>simp only[D8] at hc;cases hc;obtain⟨A,rfl,h⟩:=hr;simp only[Value.cells,RepL];exact⟨_,[],rfl,by simp only[Rep];exact⟨A,rfl,h⟩,rfl⟩
 case fs=>simp only[D8] at hc;cases hc;obtain⟨h0,A,cap,rfl,h⟩:=hr;simp only[Value.cells,RepL];exact⟨_,[],rfl,by simp only[Rep];exact⟨h0,A,cap,rfl,h⟩,rfl⟩
 case rx=>simp only[D8] at hc;cases hc;obtain⟨rfl,h⟩:=hr;simp only[Value.cells,RepL];exact⟨_,[],rfl,by simp only[Rep];exact⟨trivial,h⟩,rfl⟩
def Addr.add_off (b off j:Nat):(⟨b,off,none⟩:Addr).add j=⟨b,off+j,none⟩:=by unfold Addr.add;split <;> simp_all
def Wz {w:World}{g:Gh}{cs:List AV}{b off sz:Nat}{agg:Bool}{av:AV}{t:TypeId}(hc:RepC w g cs b off) (hl:Ed agg sz cs=some av)
  (hagg:(isAgg t).run P w=.ok agg w) (hsz:(sizeOf t).run P w=.ok sz w) : ∃ v,(Instr.loadAt t (.pointer (some ⟨b,off,none⟩))).run P w=.ok v w/\Rep w g av v:=by
 cases agg
 .cases cs with
  | nil=>simp[Ed] at hl
  | cons c cs =>
   simp only[Ed,Option.some.injEq] at hl
   subst hl
   simp only[RepC] at hc
   obtain⟨⟨u,h1,h2⟩,_⟩:=hc
   exact⟨u,by simp[Instr.loadAt,Instr.sureAddr,loadVar,hagg,h1],h2⟩
 .simp only[Ed] at hl;split at hl <;> try (cases hl;done)
  rename_i hle;cases hl;obtain⟨us,h1,h2⟩:=(hc.take sz).list;have hlen:us.length=sz:=by rw[h1.length,List.length_take];omega
  have hload:=run_loadCells_list (P:=P) (w:=w) ⟨b,off,none⟩ us (λj v hj=>by rw[Addr.add_off];exact h2 j v hj);rw[hlen] at hload;refine⟨.agg us.toArray,by simp[Instr.loadAt,Instr.sureAddr,loadVar,hagg,hsz,hload],?_⟩;simp only[Rep];exact⟨_,rfl,by simpa using h1⟩
def part_rep {w:World}{g:Gh}{cs:List AV}{vs:Array Value}{off sz:Nat}{agg:Bool}{av:AV}{t:TypeId}(hr:RepL w g cs vs.toList) (hl:cY agg off sz cs=some av)
  (hagg:(isAgg t).run P w=.ok agg w) (hsz:(sizeOf t).run P w=.ok sz w) : ∃ v,(part t vs off).run P w=.ok v w/\Rep w g av v:=by
 unfold cY at hl;have hd:=hr.drop off;cases agg
 .cases hcs:cs.drop off with
  | nil=>rw[hcs] at hl;simp[Ed] at hl
  | cons c cs' =>
   rw[hcs] at hl hd
   simp only[Ed,Option.some.injEq] at hl
   subst hl
   obtain⟨u,h1,h2⟩:=hd.get (k:=0) (c:=c) (by simp)
   have h1':vs[off]?=some u:=by simpa [List.getElem?_drop] using h1
   exact⟨u,by simp[part,hagg,h1'],h2⟩
 .simp only[Ed] at hl;split at hl <;> try (cases hl;done)
  rename_i hle;cases hl;refine⟨.agg (vs.extract off (off+sz)),by simp[part,hagg,hsz],?_⟩;simp only[Rep];refine⟨_,rfl,?_⟩;have:=hd.take sz;rw[Array.toList_extract,List.extract_eq_take_drop];simpa using this
def Ve {w:World}{g:Gh} : ∀ {cs:List AV}{l:List UInt8}{us:List Value},bytesOf cs=some l->RepL w g cs us -> ∃ ns:List Int,us=ns.map (Value.int .u8)/\l=ns.map λn=>UInt8.ofNat n.toNat
 | [],l,us,h,hr=>by simp only[bytesOf,Option.some.injEq] at h;simp only[RepL] at hr;subst h;subst hr;exact⟨[],rfl,rfl⟩
 | c::cs,l,us,h,hr=>by
  simp only[RepL] at hr;obtain⟨u,us',rfl,h1,h2⟩:=hr;cases c <;> try (simp[bytesOf] at h;done)
  rename_i x;cases x <;> try (simp[bytesOf] at h;done)
  rename_i k n;cases k <;> try (simp[bytesOf] at h;done)
  simp only[bytesOf,Option.map_eq_some_iff] at h;obtain⟨l',hl',rfl⟩:=h;simp only[Rep] at h1;obtain⟨ns,rfl,rfl⟩:=Ve hl' h2;exact⟨n::ns,by simp[h1],rfl⟩
def Ie:TypeDesc->Bool
 | .struct _=>true
 | .array _ _=>true
 | _=>false
def F3 {t:TypeId}{d:TypeDesc}(h:P.underlying t=some d) (w:World):(isAgg t).run P w=.ok (Ie d) w:=by
 cases d <;> simp[isAgg,run_underlying h,Ie]
def C8 {t:TypeId}{i:TypeInfo}(h:P.info? t=some i) (w:World):(sizeOf t).run P w=.ok i.size w:=by simp[sizeOf,typeInfo,h]
def Tu (f:TypeId->Option (List LK)):List Field->Nat->Option (List LK)
 | [],_=>some []
 | fd::fs,off=>if fd.offset=off/\fd.name ≠ "_" then match f fd.type with
  | some ks=>(Tu f fs (off+ks.length)).map (ks ++ ·)
  | none=>none
  else none
def leafs (P:Program):Nat->TypeId->Option (List LK)
 | 0,_=>none
 | d+1,t=>match P.underlying t with
  | some (.int _)=>some [.int]
  | some .string=>some [.str]
  | some .bool=>some [.bool]
  | some (.struct fs)=>if P.stoodInHeld t=false then match Tu (leafs P d) fs.toList 0,P.info? t with
   | some ks,some i=>if i.size=ks.length then some ks else none
   | _,_=>none
   else none
  | _=>none
def Rs (P:Program) (t:TypeId):Option Nat:=match P.underlying t with
 | some (.slice e)=>(P.info? e).map (·.size)
 | _=>none
def Jc (P:Program) (t:TypeId):Option (List AV):=match P.info? t with
 | some i=>match i.zero with
  | some z=>if z.cells.size=i.size then some (z.cells.toList.map AV.ofCell) else none
  | none=>none
 | none=>none
def Px (P:Program) (fs:Array Field):List (Nat×Operand)->Option (List (Nat×Nat×Operand))
 | []=>some []
 | (i,x)::ps=>match fs[i]? with
  | some f=>match P.info? f.type with
   | some j=>(Px P fs ps).map ((f.offset,j.size,x) :: ·)
   | none=>none
  | none=>none
def dI (z:Array Value) (n:Nat):List AV:=((Array.range n).map (z[· % z.size]!)).toList.map AV.ofCell
def L1 (P:Program) (op:BinOp) (t:TypeId) (x y:Operand):Option AOp :=
 match P.underlying t with
 | some (.int _)=>some (.bin op x y)
 | some .string=>some (.bin op x y)
 | some .bool=>match op with
  | .eql=>some (.eqb false x y)
  | .neq=>some (.eqb true x y)
  | _=>none
 | some (.struct _)=>match op,leafs P 20 t with
  | .eql,some ks=>if P.eqGuardType P.depth t=false then some (.eqs false ks x y) else none
  | .neq,some ks=>if P.eqGuardType P.depth t=false then some (.eqs true ks x y) else none
  | _,_=>none
 | some (.slice _)=>match op,y with
  | .eql,.const (.slice none 0 0)=>some (.eqn false x)
  | .neq,.const (.slice none 0 0)=>some (.eqn true x)
  | _,_=>none
 | _=>none
def L0 (P:Program) (s d:TypeId) (x:Operand):Option AOp :=
 match P.underlying s,P.underlying d with
 | some (.int _),some (.int k)=>some (.cvi k x)
 | some .string,some .string=>some (.cvs x)
 | some (.slice e),some .string=>match P.underlying e with
  | some (.int .u8)=>some (.b2s x)
  | _=>none
 | _,_=>none
def La (P:Program) (c:Call):Option AOp :=
 match c.callee with
 | .value f=>some (.call f c.args.toList)
 | .invoke _ _=>none
 | .builtin .len=>match c.args.toList,c.argTypes.toList with
  | [x],[t]=>match P.underlying t with
   | some .string=>some (.len true x)
   | some (.slice _)=>some (.len false x)
   | _=>none
  | _,_=>none
 | .builtin .cap=>match c.args.toList,c.argTypes.toList with
  | [x],[t]=>match P.underlying t with
   | some (.slice _)=>some (.cap x)
   | _=>none
  | _,_=>none
 | .builtin .max=>match c.args.toList with
  | [x,y]=>some (.mm true x y)
  | _=>none
 | .builtin .min=>match c.args.toList with
  | [x,y]=>some (.mm false x y)
  | _=>none
 | .builtin .append=>match c.args.toList,c.argTypes.toList with
  | [s,x],[t,u]=>match P.underlying t,P.underlying u with
   | some (.slice e),some (.slice e')=>match P.info? e,Jc P e with
    | some i,some _=>if e=e'/\0<i.bytes then some (.app e i.size i.bytes s x) else none
    | _,_=>none
   | some (.slice e),some (.int _)=>match P.info? e,Jc P e with
    | some i,some _=>some (.appz e i.size i.bytes s x)
    | _,_=>none
   | some (.slice e),some .string=>match P.info? e,Jc P e with
    | some i,some _=>if 0<i.bytes then some (.app e i.size i.bytes s x) else none
    | _,_=>none
   | _,_=>none
  | _,_=>none
 | _=>none
def K8 (P:Program) (o:Oper):Option AOp :=
 match o.op with
 | .move x=>some (.mv x)
 | .assign x=>some (.mv x)
 | .pick c a b=>some (.pick c a b)
 | .alloc e=>match P.info? e,Jc P e with
  | some i,some z=>some (.new e i.size z)
  | _,_=>none
 | .box e x=>(P.info? e).map λi=>.box e i.size x
 | .build t ps=>match P.underlying t,Jc P t with
  | some (.struct fs),some z=>if (fs.toList.all λf=>(P.info? f.type).isSome) then (Px P fs ps.toList).map (.build z) else none
  | _,_=>none
 | .buildSlice t n ps=>match P.underlying t with
  | some (.slice e)=>match P.info? e with
   | some i=>match i.zero with
    | some z=>if n=0/\ps = #[] then some (.lit e i.size 0 [] []) else if n≠0/\n<=maxLen/\n*i.size<=16777216 then some (.lit e i.size n (dI z.cells (n*i.size)) (ps.toList.map λp=>(p.1*i.size,i.size,p.2))) else none
    | none=>none
   | none=>none
  | _=>none
 | .load t x=>match P.underlying t,P.info? t with
  | some d,some i=>some (.load (Ie d) i.size x)
  | _,_=>none
 | .store t p x=>(P.info? t).map λi=>.store i.size p x
 | .nilCheck x=>some (.nck x)
 | .binOp op t x y _=>L1 P op t x y
 | .unOp op _ x=>some (.un op x)
 | .convert s d x=>L0 P s d x
 | .makeInterface t x=>match P.underlying t with
  | some (.interface _)=>none
  | some _=>some (.mkif t x)
  | none=>none
 | .makeFunc (.func f) first caps=>if first = #[] then some (.mkfn f caps.toList) else if caps = #[] then some (.mkbd f first.toList) else none
 | .slice t x lo hi mx=>match P.underlying t with
  | some (.slice e)=>(P.info? e).map λi=>.slc i.size x lo hi mx
  | some .string=>match mx with
   | none=>some (.sls x lo hi)
   | some _=>none
  | _=>none
 | .fieldAddr s x f=>match P.underlying s with
  | some (.struct fs)=>match fs[f]? with
   | some fd=>match P.info? fd.type with
    | some i=>if i.size≠0 then some (.fa fd.offset x) else none
    | none=>none
   | none=>none
  | _=>none
 | .field s x f=>match P.underlying s with
  | some (.struct fs)=>match fs[f]? with
   | some fd=>match P.underlying fd.type,P.info? fd.type with
    | some d,some i=>some (.fld (Ie d) fd.offset i.size x)
    | _,_=>none
   | none=>none
  | _=>none
 | .indexAddr t x i=>(Rs P t).map λs=>.ia s x i
 | .index t x i=>match P.underlying t with
  | some .string=>some (.ix x i)
  | _=>none
 | .extract x n=>some (.ext x n)
 | .call c=>La P c
 | .panic x=>some (.panic x)
 | _=>none
def toR:AOp->AOp
 | .load agg sz x=>.loadR agg sz x
 | x=>x
def Np (P:Program) (S:List Nat) (o:Oper):Option AOp :=
 if (match o.dst with
  | some d=>S.contains d
  | none=>false) then (K8 P o).map toR else K8 P o
end
section
variable {P : Program}
def Dp (P:Program) (o:Oper) (ao:AOp):Prop := ∀ (h:AH) (τ:Operand->AV) (av:AV),aval h τ ao=some av -> ∀ (w:World) (g:Gh) (ρ:Operand->Value),SimH w g h->(∀ x∈o.op.operands,Rep w g (τ x) (ρ x)) ->
 ∃ v,(execOp ρ o).run P w=.ok (.value v) w/\Rep w g av v
def Lr (w:World) (g:Gh) (x:Value):Rep w g (.v x) x:=by simp only[Rep]
def snd_mv {dst type pos after guard}(x:Operand) (op:Op) (hop:op=.move x\/op=.assign x):Dp P ⟨dst,op,type,pos,after,guard⟩ (.mv x):=by
 intro h τ av hv w g ρ hs hr;simp only[aval,Option.some.injEq] at hv;subst hv;rcases hop with rfl | rfl <;> exact⟨ρ x,by simp[execOp],hr x (by simp[Op.operands])⟩
def snd_pick {dst type pos after guard}(c a b:Operand):Dp P ⟨dst,.pick c a b,type,pos,after,guard⟩ (.pick c a b):=by
 intro h τ av hv w g ρ hs hr;simp only[aval] at hv;have h1:=hr c (by simp[Op.operands]);split at hv <;> try (cases hv;done)
 rename_i x hx;rw[hx] at h1;simp only[Rep] at h1;cases hv;cases x
 .exact⟨ρ b,by simp[execOp,h1,asBool],hr b (by simp[Op.operands])⟩
 .exact⟨ρ a,by simp[execOp,h1,asBool],hr a (by simp[Op.operands])⟩
def snd_load {dst type pos after guard}{t:TypeId}(x:Operand) {d:TypeDesc}{i:TypeInfo}(hd:P.underlying t=some d) (hi:P.info? t=some i):Dp P ⟨dst,.load t x,type,pos,after,guard⟩ (.load (Ie d) i.size x):=by
 intro h τ av hv w g ρ hs hr;simp only[aval,Option.bind_eq_some_iff] at hv;obtain⟨cs,h1,h2⟩:=hv;obtain⟨b,off,e,hc⟩:=Vd hs (hr x (by simp[Op.operands])) h1;obtain⟨v,h3,h4⟩:=Wz hc h2 (F3 hd w) (C8 hi w);exact⟨v,by simp[execOp,e,h3],h4⟩
def snd_nck {dst type pos after guard}(x:Operand):Dp P ⟨dst,.nilCheck x,type,pos,after,guard⟩ (.nck x):=by
 intro h τ av hv w g ρ hs hr;simp only[aval] at hv;have h1:=hr x (by simp[Op.operands]);split at hv <;> try (cases hv;done)
 all_goals
  rename_i hx
  rw[hx] at h1
  cases hv
  refine⟨ρ x,?_,h1⟩
  simp only[Rep] at h1
 .obtain⟨b,cap,_,e⟩:=h1;simp[execOp,e]
 .obtain⟨b,cap,e,_⟩:=h1;simp[execOp,e]
 .simp[execOp,h1]
 .obtain⟨vs,e,_⟩:=h1;simp[execOp,e]
def run_iBin {op:BinOp}{k:IntKind}{a b:Int}{av:AV}(h:iBin op k a b=some av) (hsl:op ≠ .shl) (hsr:op ≠ .shr) (t:TypeId) (w:World) : ∃ v,(binOp op t (.int k a) (.int k b)).run P w=.ok v w/\av=.v v:=by
 cases op <;> simp only[iBin] at h <;> first
  | (cases h;done)
  | (exact absurd rfl hsl)
  | (exact absurd rfl hsr)
  | (cases h;exact⟨_,by simp[binOp,Op.intArith,Op.intBits,Op.intCmp],rfl⟩)
  | skip
 all_goals
  split at h
  .cases h
  .rename_i hb;cases h;exact⟨_,by simp[binOp,Op.intDiv,hb],rfl⟩
def run_sBin {op:BinOp}{a b:ByteArray}{av:AV}(h:sBin op a b=some av) (t:TypeId) (w:World) : ∃ v,(binOp op t (.string a) (.string b)).run P w=.ok v w/\av=.v v:=by
  cases op <;> simp only[sBin] at h <;> first
    | (cases h;done)
    | (cases h;refine⟨_,?_,rfl⟩;simp[binOp,Op.stringOp,beq_toListBytes];done)
    | (split at h <;> try (cases h; done)
       cases h;rename_i hb
       refine⟨.string (a++b),?_,rfl⟩
       have:¬(IntKind.i64.max<((a.size:Int)+(b.size:Int))):=by simp[IntKind.max,IntKind.signed,IntKind.bits];omega
       simp[binOp,Op.stringOp,this];omega)
def run_vBin {op:BinOp}{a b:Value}{av:AV}(h:vBin op a b=some av) (t:TypeId) (w:World) : ∃ v,(binOp op t a b).run P w=.ok v w/\av=.v v:=by
 unfold vBin at h;split at h
 .rename_i k a k' b;split at h
  .split at h <;> try (cases h;done)
   rename_i hb;cases h;exact⟨_,by simp[binOp,Op.shift,hb],rfl⟩
  .split at h <;> try (cases h;done)
   rename_i hb;cases h;exact⟨_,by simp[binOp,Op.shift,hb],rfl⟩
  .rename_i h1 h2;split at h <;> try (cases h;done)
   rename_i hk;subst hk;exact run_iBin h (λe=>h1 e) (λe=>h2 e) t w
 .exact run_sBin h t w
 .cases h
def Lo (op:BinOp) (t:TypeId) (x y:Operand) (a b:Value) (ha:a.oneCell'=true) (hn:a ≠ .nilIface) (w:World):(eqGuard op t x y a b).run P w=.ok () w:=by
 unfold eqGuard;cases op <;> simp;all_goals (cases a <;> first | (simp[Value.oneCell'] at ha;done) | (exact absurd rfl hn) | (cases b <;> simp))
def oJ {dst type pos after guard}{op:BinOp}{t yt:TypeId}(x y:Operand):Dp P ⟨dst,.binOp op t x y yt,type,pos,after,guard⟩ (.bin op x y):=by
 intro h τ av hv w g ρ hs hr;simp only[aval] at hv;have h1:=hr x (by simp[Op.operands]);have h2:=hr y (by simp[Op.operands]);split at hv <;> try (cases hv;done)
 rename_i a b ha hb;rw[ha] at h1;rw[hb] at h2;simp only[Rep] at h1 h2;obtain⟨v,h3,rfl⟩:=run_vBin (P:=P) hv t w;refine⟨v,?_,by simp only[Rep]⟩;have hg:(eqGuard op t x y a b).run P w=.ok () w:=by
  refine Lo op t x y a b ?_ ?_ w
  .cases a <;> simp[vBin] at hv ⊢ <;> rfl
  .rintro rfl;simp[vBin] at hv
 simp[execOp,h1,h2,hg,h3]
def oI {dst type pos after guard}{op:BinOp}{t yt:TypeId}(neg:Bool) (x y:Operand) (ht:P.underlying t=some .bool) (hop:op=bif neg then .neq else .eql):Dp P ⟨dst,.binOp op t x y yt,type,pos,after,guard⟩ (.eqb neg x y):=by
 intro h τ av hv w g ρ hs hr;simp only[aval] at hv;have h1:=hr x (by simp[Op.operands]);have h2:=hr y (by simp[Op.operands]);split at hv <;> try (cases hv;done)
 rename_i a b ha hb;rw[ha] at h1;rw[hb] at h2;simp only[Rep] at h1 h2;cases hv;refine⟨.bool (bif neg then !(a==b) else a==b),?_,by simp only[Rep]⟩;have hg:(eqGuard op t x y (.bool a) (.bool b)).run P w=.ok () w:=Lo op t x y _ _ rfl (by simp) w;cases neg <;> simp at hop <;> subst hop <;> simp[execOp,h1,h2,hg,run_eql_bool w t a b ht,run_neq_bool w t a b ht]
end
section
variable {P : Program}
def snd_un {dst type pos after guard}{op:UnOp}{t:TypeId}(x:Operand):Dp P ⟨dst,.unOp op t x,type,pos,after,guard⟩ (.un op x):=by
 intro h τ av hv w g ρ hs hr;simp only[aval] at hv;have h1:=hr x (by simp[Op.operands]);split at hv <;> try (cases hv;done)
 all_goals
  rename_i hx
  rw[hx] at h1
  simp only[Rep] at h1
  cases hv
  refine⟨_,?_,Lr _ _ _⟩
  simp[execOp,h1,Op.unary,Op.intArith]
def snd_cvi {dst type pos after guard}{s d:TypeId}{j k:IntKind}(x:Operand) (h1:P.underlying s=some (.int j)) (h2:P.underlying d=some (.int k)):Dp P ⟨dst,.convert s d x,type,pos,after,guard⟩ (.cvi k x):=by
 intro h τ av hv w g ρ hs hr;simp only[aval] at hv;have h3:=hr x (by simp[Op.operands]);split at hv <;> try (cases hv;done)
 rename_i hx;rw[hx] at h3;simp only[Rep] at h3;cases hv;refine⟨_,?_,Lr _ _ _⟩;simp[execOp,h3,convert,run_underlying h1,run_underlying h2,Conv.intToInt]
def snd_cvs {dst type pos after guard}{s d:TypeId}(x:Operand) (h1:P.underlying s=some .string) (h2:P.underlying d=some .string):Dp P ⟨dst,.convert s d x,type,pos,after,guard⟩ (.cvs x):=by
 intro h τ av hv w g ρ hs hr;simp only[aval] at hv;have h3:=hr x (by simp[Op.operands]);split at hv <;> try (cases hv;done)
 rename_i hx;rw[hx] at h3;simp only[Rep] at h3;cases hv;refine⟨_,?_,Lr _ _ _⟩;simp[execOp,h3,convert,run_underlying h1,run_underlying h2]
def mG (ns:List Int) : ∀ (s:ByteArray),ns.foldl (λr n=>r.push (UInt8.ofNat n.toNat)) s=⟨s.data++(ns.map λn=>UInt8.ofNat n.toNat).toArray⟩:=by
 induction ns with
 | nil=>intro s;simp
 | cons n ns ih =>
  intro s
  simp only[List.foldl_cons,ih,List.map_cons]
  congr 1
  apply Array.ext'
  simp[ByteArray.push]
def snd_b2s {dst type pos after guard}{s d e:TypeId}(x:Operand) (h1:P.underlying s=some (.slice e)) (h2:P.underlying d=some .string) (h3:P.underlying e=some (.int .u8)):Dp P ⟨dst,.convert s d x,type,pos,after,guard⟩ (.b2s x):=by
 intro h τ av hv w g ρ hs hr;simp only[aval] at hv;have hx:=hr x (by simp[Op.operands]);split at hv <;> try (cases hv;done)
 rename_i n cs hrow;split at hv <;> try (cases hv;done)
 rename_i hcn;simp only[Option.map_eq_some_iff] at hv;obtain⟨l,hl,rfl⟩:=hv;obtain⟨A,cap,eq,hle,_,hne⟩:=W9 hs hx hrow;have hrun:=run_convert_bytes_string (P:=P) w s d e A n cap h1 h3 h2;refine⟨_,?_,Lr _ _ _⟩;simp only[execOp,eq];have key:(Conv.bytesToString (.slice A n cap)).run P w=.ok (.string ⟨l.toArray⟩) w:=by
  by_cases hc:cs=[]
  .subst hc;simp only[List.length_nil] at hcn;subst hcn;simp only[bytesOf,Option.some.injEq] at hl;subst hl;cases A with
   | none=>simp[Conv.bytesToString];rfl
   | some a =>
    have:=run_bytesToString (P:=P) w a 0 cap [] (by simp[loadCells,loadCellsFrom])
    rw[this];rfl
  .obtain⟨b,off,rfl,hrc⟩:=hne hc;obtain⟨us,g1,g2⟩:=hrc.list;obtain⟨ns,rfl,rfl⟩:=Ve hl g1;have hlen:(ns.map (Value.int .u8)).length=n:=by rw[g1.length,hcn]
   have hload:=run_loadCells_list (P:=P) (w:=w) ⟨b,off,none⟩ _ (λj v hj=>by rw[Addr.add_off];exact g2 j v hj);rw[hlen] at hload;rw[run_bytesToString w _ n cap ns hload,mG];simp
 simp[hrun,key]
def kH {w:World}{g:Gh} : ∀ {cs:List AV}{l us:List Value},allV cs=some l->RepL w g cs us->us=l
 | [],l,us,h,hr=>by simp only[allV,Option.some.injEq] at h;simp only[RepL] at hr;rw[hr,h]
 | c::cs,l,us,h,hr=>by
  simp only[RepL] at hr;obtain⟨u,us',rfl,h1,h2⟩:=hr;cases c <;> try (simp[allV] at h;done)
  simp only[allV,Option.map_eq_some_iff] at h;obtain⟨l',hl',rfl⟩:=h;simp only[Rep] at h1;rw[kH hl' h2,h1]
def snd_mkif {dst type pos after guard}{t:TypeId}{d:TypeDesc}(x:Operand) (ht:P.underlying t=some d) (hd : ∀ ms,d ≠ .interface ms):Dp P ⟨dst,.makeInterface t x,type,pos,after,guard⟩ (.mkif t x):=by
 intro h τ av hv w g ρ hs hr;simp only[aval] at hv;have h1:=hr x (by simp[Op.operands]);have hrun : ∀ v,(Instr.makeInterface t v).run P w=.ok (.iface t v) w:=by
  intro v;cases d <;> first | (exact absurd rfl (hd _)) | simp[Instr.makeInterface,run_underlying ht]
 split at hv <;> try (cases hv;done)
 .rename_i hx;rw[hx] at h1;simp only[Rep] at h1;cases hv;refine⟨_,?_,Lr _ _ _⟩;simp[execOp,h1,hrun]
 .rename_i cs hx;rw[hx] at h1;simp only[Rep] at h1;simp only[Option.map_eq_some_iff] at hv;obtain⟨l,hl,rfl⟩:=hv;obtain⟨vs,e,hrl⟩:=h1;have:=kH hl hrl;refine⟨_,?_,Lr _ _ _⟩;rw[<-this];simp[execOp,e,hrun]
def Kv {w:World}{g:Gh}{τ:Operand->AV}{ρ:Operand->Value} : ∀ (xs:List Operand),(∀ x∈xs,Rep w g (τ x) (ρ x))->RepL w g (xs.map τ) (xs.map ρ)
 | [],_=>by simp only[List.map_nil,RepL]
 | x::xs,h=>by simp only[List.map_cons,RepL];exact⟨_,_,rfl,h x (by simp),Kv xs λy hy=>h y (by simp[hy])⟩
def snd_mkfn {dst type pos after guard}{f:FuncId}{caps:Array Operand}:Dp P ⟨dst,.makeFunc (.func f) #[] caps,type,pos,after,guard⟩ (.mkfn f caps.toList):=by
 intro h τ av hv w g ρ hs hr;simp only[aval,Option.some.injEq] at hv;subst hv;refine⟨_,by simp[execOp,Instr.makeFunc];rfl,?_⟩;simp only[Rep];exact⟨_,rfl,by simpa using Kv caps.toList λx hx=>hr x (by simpa [Op.operands] using hx)⟩
def snd_mkbd {dst type pos after guard}{f:FuncId}{first:Array Operand}:Dp P ⟨dst,.makeFunc (.func f) first #[],type,pos,after,guard⟩ (.mkbd f first.toList):=by
 intro h τ av hv w g ρ hs hr;simp only[aval,Option.some.injEq] at hv;subst hv;refine⟨_,by simp[execOp,Instr.makeFunc];rfl,?_⟩;simp only[Rep];exact⟨_,rfl,by simpa using Kv first.toList λx hx=>hr x (by simpa [Op.operands] using hx)⟩
def snd_fa {dst type pos after guard}{s:TypeId}{f:Nat}{fs:Array Field}{fd:Field}{i:TypeInfo}(x:Operand) (hu:P.underlying s=some (.struct fs)) (hf:fs[f]?=some fd) (hi:P.info? fd.type=some i) (hn:i.size≠0) :
  Dp P ⟨dst,.fieldAddr s x f,type,pos,after,guard⟩ (.fa fd.offset x):=by
 intro h τ av hv w g ρ hs hr;simp only[aval] at hv;have h1:=hr x (by simp[Op.operands]);have hrun : ∀ b off,(Instr.fieldAt s (.pointer (some ⟨b,off,none⟩)) f).run P w=.ok (.pointer (some ⟨b,off+fd.offset,none⟩)) w:=by
  intro b off;simp[Instr.fieldAt,run_underlying hu,hf,Instr.sureAddr,fieldPlace,C8 hi,hn,Addr.add_off]
 split at hv <;> try (cases hv;done)
 .rename_i id v o hx;rw[hx] at h1;simp only[Rep] at h1;obtain⟨b,cap,e1,e2⟩:=h1;cases hv;refine⟨_,by simp[execOp,e2,hrun];rfl,?_⟩;simp only[Rep];exact⟨b,cap,e1,rfl⟩
 .rename_i cs hx;rw[hx] at h1;simp only[Rep] at h1;obtain⟨b,off,e1,hd,e2⟩:=h1;cases hv;refine⟨_,by simp[execOp,e1,hrun];rfl,?_⟩;simp only[Rep];exact⟨b,_,rfl,hd,e2.drop _⟩
def snd_fld {dst type pos after guard}{s:TypeId}{f:Nat}{fs:Array Field}{fd:Field}{i:TypeInfo}{d:TypeDesc}(x:Operand) (hu:P.underlying s=some (.struct fs)) (hf:fs[f]?=some fd) (hd:P.underlying fd.type=some d) (hi:P.info? fd.type=some i) :
  Dp P ⟨dst,.field s x f,type,pos,after,guard⟩ (.fld (Ie d) fd.offset i.size x):=by
 intro h τ av hv w g ρ hs hr;simp only[aval] at hv;have h1:=hr x (by simp[Op.operands]);split at hv <;> try (cases hv;done)
 rename_i cs hx;rw[hx] at h1;simp only[Rep] at h1;obtain⟨vs,e,hrl⟩:=h1;obtain⟨v,h3,h4⟩:=part_rep (P:=P) hrl hv (F3 hd w) (C8 hi w);exact⟨v,by simp[execOp,e,Instr.field,run_underlying hu,hf,asAgg,h3],h4⟩
def Zc {t:TypeId}{st:Nat}(h:Rs P t=some st) : ∃ e i,P.underlying t=some (.slice e)/\P.info? e=some i/\i.size=st:=by
 unfold Rs at h;split at h <;> try (cases h;done)
 rename_i e he;simp only[Option.map_eq_some_iff] at h;obtain⟨i,hi,rfl⟩:=h;exact⟨e,i,he,hi,rfl⟩
def snd_ia {dst type pos after guard}{t:TypeId}{st:Nat}(x i:Operand) (hst:Rs P t=some st):Dp P ⟨dst,.indexAddr t x i,type,pos,after,guard⟩ (.ia st x i):=by
 obtain⟨e,inf,hu,hi,rfl⟩:=Zc hst;intro h τ av hv w g ρ hs hr;simp only[aval] at hv;have h1:=hr x (by simp[Op.operands]);have h2:=hr i (by simp[Op.operands]);have hrun : ∀ (b off:Nat) (k:IntKind) (j:Int) (n cap:Nat),0<=j->j<n->(Instr.indexAt t (.slice (some ⟨b,off,none⟩) n cap) (.int k j)).run P w=.ok (.pointer (some ⟨b,off+j.toNat*inf.size,none⟩)) w:=by
  intro b off k j n cap hj0 hj1;simp[Instr.indexAt,asIntOf,run_underlying hu,C8 hi,hj0,hj1,Addr.add_off]
 split at hv <;> try (cases hv;done)
 .rename_i n st' full cs k j hx hj;split at hv <;> try (cases hv;done)
  rename_i hc;obtain⟨rfl,hpos,hj0,hj1⟩:=hc;cases hv;rw[hx] at h1;rw[hj] at h2;simp only[Rep] at h1 h2;obtain⟨hlen,A,cap,e1,_,_,_,_,hne⟩:=h1;have hjn:j.toNat<n:=by omega
  have hle:(j.toNat+1)*inf.size<=n*inf.size:=Nat.mul_le_mul_right _ hjn;rw[Nat.add_mul] at hle;have hcs:cs≠[]:=by rintro rfl;simp at hlen;omega
  obtain⟨b,off,rfl,hd,hrc⟩:=hne hcs;refine⟨_,by simp only[execOp,e1,h2];simp[hrun b off k j n cap hj0 hj1];rfl,?_⟩;simp only[Rep];exact⟨b,_,rfl,hd,(hrc.drop _).take _⟩
 .rename_i id v n k j hx hj;split at hv <;> try (cases hv;done)
  rename_i v' ty s cells hent;split at hv <;> try (cases hv;done)
  rename_i hc;obtain⟨rfl,rfl,hpos,hj0,hj1,hle⟩:=hc;cases hv;rw[hx] at h1;rw[hj] at h2;simp only[Rep] at h1 h2;obtain⟨A,cap,e1,e2,e3,e4⟩:=h1;obtain⟨A',cap',f1,_,f3⟩:=hs.ent _ _ _ _ _ hent;rw[e1] at f1;simp only[Option.some.injEq,Prod.mk.injEq] at f1;obtain⟨rfl,rfl⟩:=f1;have hjn:j.toNat<n:=by omega
  have hle':(j.toNat+1)*inf.size<=n*inf.size:=Nat.mul_le_mul_right _ hjn;rw[Nat.add_mul] at hle';rcases f3 with ⟨rfl,_⟩ | ⟨b,arr,rfl,_⟩
  .simp at hle;omega
  .have:=hrun b 0 k j n cap hj0 hj1;rw[Nat.zero_add] at this;refine⟨_,by simp only[execOp,e4,h2];simp[this];rfl,?_⟩;simp only[Rep];exact⟨b,_,e1,rfl⟩
def snd_ix {dst type pos after guard}{t:TypeId}(x i:Operand) (hu:P.underlying t=some .string):Dp P ⟨dst,.index t x i,type,pos,after,guard⟩ (.ix x i):=by
 intro h τ av hv w g ρ hs hr;simp only[aval] at hv;have h1:=hr x (by simp[Op.operands]);have h2:=hr i (by simp[Op.operands]);split at hv <;> try (cases hv;done)
 rename_i s k j hx hj;split at hv <;> try (cases hv;done)
 rename_i hc;obtain⟨hj0,hj1⟩:=hc;cases hv;rw[hx] at h1;rw[hj] at h2;simp only[Rep] at h1 h2;refine⟨_,?_,Lr _ _ _⟩;have hlt:j.toNat<s.size:=by omega
 have hb:Dy s j.toNat=s[j.toNat]:=by
  unfold Dy;rw[List.getD_eq_getElem?_getD,List.getElem?_eq_getElem (by simpa using hlt)];rfl
 rw[hb];simp[execOp,h1,h2,Instr.index,asIntOf,run_underlying hu,hj0,ByteArray.getElem?_lt' s _ hlt]
def snd_ext {dst type pos after guard}(x:Operand) (n:Nat):Dp P ⟨dst,.extract x n,type,pos,after,guard⟩ (.ext x n):=by
 intro h τ av hv w g ρ hs hr;simp only[aval] at hv;have h1:=hr x (by simp[Op.operands]);split at hv <;> try (cases hv;done)
 rename_i l hx;rw[hx] at h1;simp only[Rep] at h1;obtain⟨vs,e,hrl⟩:=h1;obtain⟨u,h2,h3⟩:=hrl.get hv;exact⟨u,by simp[execOp,e,Instr.extract,(by simpa using h2:vs[n]?=some u)],h3⟩
def snd_lenS {dst type pos after guard}{t:TypeId}(x:Operand) (hu:P.underlying t=some .string) :
  Dp P ⟨dst,.call { callee:=.builtin .len,args := #[x],argTypes := #[t] },type,pos,after,guard⟩ (.len true x):=by
 intro h τ av hv w g ρ hs hr;simp only[aval] at hv;have h1:=hr x (by simp[Op.operands,Call.operands]);split at hv <;> try (cases hv;done)
 .rename_i s _ hx;rw[hx] at h1;simp only[Rep] at h1;cases hv;refine⟨_,?_,Lr _ _ _⟩;simp[execOp,resolve,invoke,builtin,Builtin.len_,h1,run_underlying hu,goInt]
 .rename_i heq _;cases heq
 .rename_i heq _;cases heq
def snd_lenL {dst type pos after guard}{t e:TypeId}(x:Operand) (hu:P.underlying t=some (.slice e)) :
  Dp P ⟨dst,.call { callee:=.builtin .len,args := #[x],argTypes := #[t] },type,pos,after,guard⟩ (.len false x):=by
 intro h τ av hv w g ρ hs hr;simp only[aval] at hv;have h1:=hr x (by simp[Op.operands,Call.operands]);split at hv <;> try (cases hv;done)
 .rename_i heq _;cases heq
 .rename_i n st full cs _ hx;rw[hx] at h1;simp only[Rep] at h1;obtain⟨_,A,cap,e1,_⟩:=h1;cases hv;refine⟨_,?_,Lr _ _ _⟩;simp[execOp,resolve,invoke,builtin,Builtin.len_,e1,run_underlying hu,goInt]
 .rename_i id v n _ hx;rw[hx] at h1;simp only[Rep] at h1;obtain⟨A,cap,_,_,_,e1⟩:=h1;cases hv;refine⟨_,?_,Lr _ _ _⟩;simp[execOp,resolve,invoke,builtin,Builtin.len_,e1,run_underlying hu,goInt]
def snd_mm {dst type pos after guard}{ts:Array TypeId}(isMax:Bool) (x y:Operand) :
  Dp P ⟨dst,.call { callee:=.builtin (bif isMax then .max else .min),args := #[x,y],argTypes:=ts },type,pos,after,guard⟩ (.mm isMax x y):=by
 intro h τ av hv w g ρ hs hr;simp only[aval] at hv;have h1:=hr x (by cases isMax <;> simp[Op.operands,Call.operands]);have h2:=hr y (by cases isMax <;> simp[Op.operands,Call.operands]);split at hv <;> try (cases hv;done)
 rename_i k a k' b hx hy;rw[hx] at h1;rw[hy] at h2;simp only[Rep] at h1 h2;cases hv;refine⟨_,?_,Lr _ _ _⟩;cases isMax <;> simp[execOp,resolve,invoke,builtin,h1,h2,run_max_int2,run_min_int2]
def Ew {w:World}{g:Gh}{τ:Operand->AV}{ρ:Operand->Value}{d:Int}{x:Operand}{l:Int}(h:Dm τ d (some x)=some l) (hr:Rep w g (τ x) (ρ x)) : ∃ k,ρ x=.int k l:=by
 simp only[Dm] at h;split at h <;> try (cases h;done)
 rename_i k i hx;cases h;rw[hx] at hr;simp only[Rep] at hr;exact⟨k,hr⟩
def run_sls {w:World}{g:Gh}{τ:Operand->AV}{ρ:Operand->Value}{t:TypeId}{s:ByteArray}{lo hi:Option Operand}{l h:Int}(hu:P.underlying t=some .string)
  (hl:Dm τ 0 lo=some l) (hh:Dm τ s.size hi=some h) (h0:0<=l) (h1:l<=h) (h2:h<=s.size)
  (hlo : ∀ x,lo=some x->Rep w g (τ x) (ρ x)) (hhi : ∀ x,hi=some x->Rep w g (τ x) (ρ x)):(Instr.sliceAt t (.string s) (lo.map ρ) (hi.map ρ) none).run P w=.ok (.string (s.extract l.toNat h.toNat)) w:=by
 cases lo with
 | none =>
  simp only[Dm,Option.some.injEq] at hl
  subst hl
  cases hi with
  | none =>
   simp only[Dm,Option.some.injEq] at hh
   subst hh
   simp[Instr.sliceAt,Instr.slice,run_underlying hu,Instr.sliceBounds]
  | some y =>
   obtain⟨k,e⟩:=Ew hh (hhi y rfl)
   simp[Instr.sliceAt,Instr.slice,run_underlying hu,Instr.sliceBounds,e,run_sliceBound _ _ h _ _ h1 h2]
 | some x =>
  obtain⟨k,e⟩:=Ew hl (hlo x rfl)
  cases hi with
  | none =>
   simp only[Dm,Option.some.injEq] at hh
   subst hh
   simp[Instr.sliceAt,Instr.slice,run_underlying hu,Instr.sliceBounds,e,run_sliceBound _ _ l _ _ h0 h1]
  | some y =>
   obtain⟨k',e'⟩:=Ew hh (hhi y rfl)
   have h3:l<=(h.toNat:Int):=by omega
   simp[Instr.sliceAt,Instr.slice,run_underlying hu,Instr.sliceBounds,e,e',run_sliceBound _ _ h _ _ (by omega:0<=h) h2,run_sliceBound _ _ l h.toNat _ h0 h3]
def snd_sls {dst type pos after guard}{t:TypeId}(x:Operand) (lo hi:Option Operand) (hu:P.underlying t=some .string):Dp P ⟨dst,.slice t x lo hi none,type,pos,after,guard⟩ (.sls x lo hi):=by
 intro h τ av hv w g ρ hs hr;simp only[aval] at hv;have h1:=hr x (by simp[Op.operands]);split at hv <;> try (cases hv;done)
 rename_i s hx;rw[hx] at h1;simp only[Rep] at h1;split at hv <;> try (cases hv;done)
 rename_i l hh hl2 hh2;split at hv <;> try (cases hv;done)
 rename_i hc;obtain⟨c1,c2,c3⟩:=hc;cases hv;refine⟨_,?_,Lr _ _ _⟩;have:=run_sls (P:=P) (w:=w) (g:=g) (ρ:=ρ) hu hl2 hh2 c1 c2 c3 (λy hy=>hr y (by subst hy;simp[Op.operands])) (λy hy=>hr y (by subst hy;simp[Op.operands]));simp[execOp,h1,this]
end
section
variable {P : Program}
def Vy {w:World}{g:Gh}{τ:Operand->AV}{ρ:Operand->Value}{t e:TypeId}{i:TypeInfo}{A:Option Addr}{n cap:Nat}{lo hi mx:Option Operand}{l h m:Int}(hu:P.underlying t=some (.slice e)) (hi':P.info? e=some i)
  (hl:Dm τ 0 lo=some l) (hh:Dm τ n hi=some h) (hm:Dm τ cap mx=some m) (hmh:mx=none\/hi.isSome=true) (h0:0<=l) (h1:l<=h) (h2:h<=m) (h3:m<=cap)
  (hlo : ∀ x,lo=some x->Rep w g (τ x) (ρ x)) (hhi : ∀ x,hi=some x->Rep w g (τ x) (ρ x)) (hmx : ∀ x,mx=some x->Rep w g (τ x) (ρ x)) :
  (Instr.sliceAt t (.slice A n cap) (lo.map ρ) (hi.map ρ) (mx.map ρ)).run P w=.ok (.slice (if m.toNat=l.toNat then A else A.map (·.add (l.toNat*i.size))) (h.toNat-l.toNat) (m.toNat-l.toNat)) w:=by
 have hc:h<=(cap:Int):=by omega
 have e1:h<=(m.toNat:Int):=by omega
 have e2:l<=(h.toNat:Int):=by omega
 have e3:(0:Int)<=h:=by omega
 have e4:(0:Int)<=m:=by omega
 cases mx with
 | none =>
  simp only[Dm,Option.some.injEq] at hm
  subst hm
  cases lo with
  | none =>
   simp only[Dm,Option.some.injEq] at hl
   subst hl
   cases hi with
   | none =>
    simp only[Dm,Option.some.injEq] at hh
    subst hh
    simp[Instr.sliceAt,Instr.slice,run_underlying hu,Instr.sliceBounds,C8 hi']
   | some y =>
    obtain⟨k,e⟩:=Ew hh (hhi y rfl)
    simp[Instr.sliceAt,Instr.slice,run_underlying hu,Instr.sliceBounds,e,run_sliceBound _ _ h _ _ e3 hc,C8 hi']
  | some x =>
   obtain⟨k,e⟩:=Ew hl (hlo x rfl)
   cases hi with
   | none =>
    simp only[Dm,Option.some.injEq] at hh
    subst hh
    simp[Instr.sliceAt,Instr.slice,run_underlying hu,Instr.sliceBounds,e,run_sliceBound _ _ l _ _ h0 h1,C8 hi']
   | some y =>
    obtain⟨k',e'⟩:=Ew hh (hhi y rfl)
    simp[Instr.sliceAt,Instr.slice,run_underlying hu,Instr.sliceBounds,e,e',run_sliceBound _ _ h _ _ e3 hc,run_sliceBound _ _ l h.toNat _ h0 e2,C8 hi']
 | some z =>
  obtain⟨km,em⟩:=Ew hm (hmx z rfl)
  cases hi with
  | none=>simp at hmh
  | some y =>
   obtain⟨k',e'⟩:=Ew hh (hhi y rfl)
   cases lo with
   | none =>
    simp only[Dm,Option.some.injEq] at hl
    subst hl
    simp[Instr.sliceAt,Instr.slice,run_underlying hu,Instr.sliceBounds,e',em,run_sliceBound _ _ m _ _ e4 h3,run_sliceBound _ _ h _ _ e3 e1,C8 hi']
   | some x =>
    obtain⟨k,e⟩:=Ew hl (hlo x rfl)
    simp[Instr.sliceAt,Instr.slice,run_underlying hu,Instr.sliceBounds,e,e',em,run_sliceBound _ _ m _ _ e4 h3,run_sliceBound _ _ h _ _ e3 e1,run_sliceBound _ _ l h.toNat _ h0 e2,C8 hi']
def oP {w:World}{g:Gh}{A:Option Addr}{n st cap:Nat}{cs:List AV}{l h m:Nat}{full':Bool}(hlen:cs.length=n*st) (hn:n<=cap) (hcm:cap<=maxLen) (hA:A=none->cap=0)
  (hne:cs≠[] -> ∃ b off,A=some ⟨b,off,none⟩/\g.D b/\RepC w g cs b off) (h1:l<=h) (h2:h<=m) (h3:m<=cap) (hhn:h<=n) (hf:full'=true->h=m) :
  Rep w g (.sl (h-l) st full' ((cs.drop (l*st)).take ((h-l)*st))) (.slice (if m=l then A else A.map (·.add (l*st))) (h-l) (m-l)):=by
 simp only[Rep];have hcut:((cs.drop (l*st)).take ((h-l)*st)).length=(h-l)*st:=by
  have hle:h*st<=n*st:=Nat.mul_le_mul_right _ hhn;have hs:(h-l)*st=h*st-l*st:=Nat.sub_mul _ _ _;rw[List.length_take,List.length_drop,hlen];omega
 refine⟨hcut,_,_,rfl,by omega,by omega,λhf'=>by have:=hf hf';omega,?_,?_⟩
 .intro hnone;split at hnone
  .have:=hA hnone;omega
  .have:A=none:=by cases A <;> simp_all
   have:=hA this;omega
 .intro hc;have hcs:cs≠[]:=by rintro rfl;simp at hc
  obtain⟨b,off,rfl,hd,hrc⟩:=hne hcs;have hlm:¬m=l:=by
   intro e;have:h-l=0:=by omega
   rw[this] at hc;simp at hc
  rw[if_neg hlm];exact⟨b,_,by simp only[Option.map_some,Addr.add_off],hd,(hrc.drop _).take _⟩
def snd_slc {dst type pos after guard}{t e:TypeId}{i:TypeInfo}(x:Operand) (lo hi mx:Option Operand) (hu:P.underlying t=some (.slice e)) (hi':P.info? e=some i):Dp P ⟨dst,.slice t x lo hi mx,type,pos,after,guard⟩ (.slc i.size x lo hi mx):=by
 intro H τ av hv w g ρ hs hr;simp only[aval] at hv;have h1:=hr x (by simp[Op.operands]);have hlo : ∀ y,lo=some y->Rep w g (τ y) (ρ y):=λy hy=>hr y (by subst hy;simp[Op.operands]);have hhi : ∀ y,hi=some y->Rep w g (τ y) (ρ y):=λy hy=>hr y (by subst hy;simp[Op.operands]);have hmx : ∀ y,mx=some y->Rep w g (τ y) (ρ y):=λy hy=>hr y (by subst hy;simp[Op.operands]);split at hv <;> try (cases hv;done)
 .rename_i n st' full cs hx;rw[hx] at h1;simp only[Rep] at h1;obtain⟨hlen,A,cap,e1,hn,hcm,hfull,hA,hne⟩:=h1;split at hv <;> try (cases hv;done)
  rename_i l h hl hh;split at hv <;> try (cases hv;done)
  rename_i hc;obtain⟨rfl,c1,c2,c3⟩:=hc;split at hv
  .cases hv;have hrun:=Vy (P:=P) (w:=w) (g:=g) (ρ:=ρ) (A:=A) (cap:=cap) (mx:=none) (m:=cap) hu hi' hl hh rfl (.inl rfl) c1 c2 (by omega) (Int.le_refl _) hlo hhi hmx;refine⟨_,by simp only[execOp,e1];simp only[Option.map_none] at hrun ⊢;simp[hrun];rfl,?_⟩;have:=oP (w:=w) (g:=g) (A:=A) (m:=cap) (full':=full&&decide (h=n)) (l:=l.toNat) (h:=h.toNat) hlen hn hcm hA hne (by omega) (by omega) (Nat.le_refl _) (by omega) (by
    intro hf;simp only[Bool.and_eq_true,decide_eq_true_eq] at hf;have:=hfull hf.1;omega)
   simpa using this
  .rename_i m;split at hv <;> try (cases hv;done)
   rename_i y k mi hmi;split at hv <;> try (cases hv;done)
   rename_i hc2;obtain⟨c4,c5⟩:=hc2;cases hv;have hm':Dm τ cap (some m)=some mi:=by simp only[Dm,hmi]
   have hrun:=Vy (P:=P) (w:=w) (g:=g) (ρ:=ρ) (A:=A) (cap:=cap) (mx:=some m) (m:=mi) hu hi' hl hh hm' (.inr rfl) c1 c2 c4 (by omega) hlo hhi hmx;refine⟨_,by simp only[execOp,e1];simp only[Option.map_some] at hrun ⊢;simp[hrun];rfl,?_⟩;have:=oP (w:=w) (g:=g) (A:=A) (m:=mi.toNat) (full':=decide (h=mi)) (l:=l.toNat) (h:=h.toNat) hlen hn hcm hA hne (by omega) (by omega) (by omega) (by omega) (by
    intro hf;simp only[decide_eq_true_eq] at hf;omega)
   simpa using this
 .rename_i id v n hx;rw[hx] at h1;simp only[Rep] at h1;obtain⟨A,cap,hloc,hn,hcm,e1⟩:=h1;split at hv <;> try (cases hv;done)
  .rename_i h hh;split at hv <;> try (cases hv;done)
   rename_i hc;obtain⟨c1,c2⟩:=hc;cases hv;have hrun:=Vy (P:=P) (w:=w) (g:=g) (ρ:=ρ) (A:=A) (cap:=cap) (lo:=none) (mx:=none) (m:=cap) (l:=0) hu hi' rfl hh rfl (.inl rfl) (by omega) c1 (by omega) (Int.le_refl _) hlo hhi hmx;refine⟨_,by simp only[execOp,e1];simp only[Option.map_none] at hrun ⊢;simp[hrun];rfl,?_⟩;simp only[Rep];refine⟨A,cap,hloc,by omega,hcm,?_⟩;have:(if (cap:Nat)=0 then A else Option.map (λx=>x.add 0) A)=A:=by
    split
    .rfl
    .cases A <;> simp[Addr.add]
   simpa using this
  .rename_i _ h m hh;split at hv <;> try (cases hv;done)
   rename_i k hl hmi;split at hv <;> try (cases hv;done)
   rename_i hc;obtain⟨rfl,his⟩:=hc;cases hv;have hm':Dm τ cap (some m)=some 0:=by simp only[Dm,hmi]
   have hrun:=Vy (P:=P) (w:=w) (g:=g) (ρ:=ρ) (A:=A) (cap:=cap) (mx:=some m) (m:=0) hu hi' hl hh hm' (.inr his) (Int.le_refl _) (Int.le_refl _) (Int.le_refl _) (by omega) hlo hhi hmx;refine⟨_,by simp only[execOp,e1];simp only[Option.map_some] at hrun ⊢;simp[hrun];rfl,?_⟩;simp only[Rep];exact⟨rfl,A,0,by simp,Nat.le_refl _,by simp[maxLen],λ_=>rfl,λ_=>rfl,λh=>absurd rfl h⟩
end
section
variable {P : Program}
def setL (vs:List Value) (off:Nat):List Value->List Value
 | []=>vs
 | u::us=>setL (vs.set off u) (off+1) us
def Uo : ∀ (us vs:List Value) (off:Nat),(setL vs off us).length=vs.length
 | [],vs,off=>rfl
 | u::us,vs,off=>by simp only[setL];rw[Uo us];simp
def Q7 : ∀ (us:List Value) (k off:Nat) (cs:Array Value),((us.zipIdx k).foldl (λcs p=>cs.setIfInBounds (off+p.2) p.1) cs).toList=setL cs.toList (off+k) us
 | [],k,off,cs=>rfl
 | u::us,k,off,cs=>by
  simp only[List.zipIdx_cons,List.foldl_cons,setL];rw[Q7 us (k+1) off];simp[Array.toList_setIfInBounds,Nat.add_assoc]
def RepL.setCells {w:World}{g:Gh} : ∀ {cs:List AV}{us:List Value}{cells:List AV}{vs:List Value}(off:Nat),RepL w g cells vs->RepL w g cs us->RepL w g (setCells cells off cs) (setL vs off us)
 | [],us,cells,vs,off,h,hu=>by simp only[RepL] at hu;subst hu;exact h
 | c::cs,us,cells,vs,off,h,hu=>by
  simp only[RepL] at hu;obtain⟨u,us',rfl,h1,h2⟩:=hu;exact RepL.setCells (off+1) (h.set (k:=off) h1) h2
def Sv {w:World}{g:Gh}{τ:Operand->AV}{ρ:Operand->Value}(place:Nat->Option (Nat×Nat)) : ∀ (ps:List (Nat×Operand)) (qs:List (Nat×Nat×Operand)) (cells:List AV) (arr:Array Value) (out:List AV),
  (ps.map λp=>(place p.1).map λq=>(q.1,q.2,p.2))=qs.map some->(∀ p∈ps,Rep w g (τ p.2) (ρ p.2))->Cm τ qs cells=some out->RepL w g cells arr.toList ->
  ∃ arr',Instr.fill place arr (ps.map λp=>(p.1,ρ p.2))=some arr'/\RepL w g out arr'.toList/\arr'.size=arr.size
 | [],qs,cells,arr,out,he,hr,hf,hc=>by
  cases qs with
  | nil=>simp only[Cm,Option.some.injEq] at hf;subst hf;exact⟨arr,rfl,hc,rfl⟩
  | cons=>simp at he
 | p::ps,qs,cells,arr,out,he,hr,hf,hc=>by
  cases qs with
  | nil=>simp at he
  | cons q qs =>
   obtain⟨off,sz,x⟩:=q
   simp only[List.map_cons,List.cons.injEq,Option.map_eq_some_iff] at he
   obtain⟨⟨pl,hp,e⟩,he⟩:=he
   simp only[Prod.mk.injEq] at e
   obtain⟨rfl,rfl,rfl⟩:=e
   simp only[Cm] at hf
   split at hf <;> try (cases hf;done)
   rename_i cs hcs
   split at hf <;> try (cases hf;done)
   rename_i hcond
   obtain⟨h1,h2,h3⟩:=hcond
   have hrx:=Ns hcs (hr p (by simp))
   have hsz:(ρ p.2).cells.size=pl.2:=by have:=hrx.length;simpa [h1] using this
   have hclen:arr.size=cells.length:=by simpa using hc.length
   obtain⟨arr',g1,g2,g3⟩:=Sv place ps qs _ ((ρ p.2).cells.zipIdx.foldl (λcs (c,j)=>cs.setIfInBounds (pl.1+j) c) arr) out he (λq hq=>hr q (by simp[hq])) hf (by
    have:=hc.setCells pl.1 hrx;rw[<-Array.foldl_toList,Array.toList_zipIdx];rw[show (λ(cs:Array Value) (x:Value×Nat)=>match x with | (c,j)=>cs.setIfInBounds (pl.1+j) c)=λcs p=>cs.setIfInBounds (pl.1+p.2) p.1 from rfl,Q7];simpa using this)
   refine⟨arr',?_,g2,?_⟩
   .simp only[List.map_cons,Instr.fill,hp]
    rw[if_neg (by rw[Bool.or_eq_true];simp only[bne_iff_ne,ne_eq,decide_eq_true_eq];omega)]
    exact g1
   .have:=Uo (ρ p.2).cells.toList arr.toList pl.1
    have h2:=congrArg List.length (Q7 (ρ p.2).cells.toList 0 pl.1 arr)
    rw[g3,<-Array.foldl_toList,Array.toList_zipIdx]
    rw[show (λ(cs:Array Value) (x:Value×Nat)=>match x with | (c,j)=>cs.setIfInBounds (pl.1+j) c)=λcs p=>cs.setIfInBounds (pl.1+p.2) p.1 from rfl]
    simp only[Array.length_toList,Nat.add_zero] at h2 this
    rw[h2,this]
end
section
variable {P : Program}
def Qg {α β:Type}(f:α->Sem β) (k:α->β) (w:World) : ∀ (l:List α),(∀ x∈l,(f x).run P w=.ok (k x) w)->(l.mapM f).run P w=.ok (l.map k) w
 | [],_=>by simp
 | x::l,h=>by
  simp only[List.mapM_cons,Sem.run_bind,h x (by simp),Result.andThen_ok,Qg f k w l (λy hy=>h y (by simp[hy])),Sem.run_pure,List.map_cons]
def R8 {fs:Array Field} : ∀ {ps:List (Nat×Operand)}{qs:List (Nat×Nat×Operand)},Px P fs ps=some qs ->
  (ps.map λp=>((fs.map λf=>(f.offset,((P.info? f.type).map (·.size)).getD 0))[p.1]?).map λq=>(q.1,q.2,p.2))=qs.map some
 | [],qs,h=>by simp only[Px,Option.some.injEq] at h;subst h;rfl
 | (i,x)::ps,qs,h=>by
  simp only[Px] at h;split at h <;> try (cases h;done)
  rename_i f hf;split at h <;> try (cases h;done)
  rename_i j hj;simp only[Option.map_eq_some_iff] at h;obtain⟨qs',h1,rfl⟩:=h;simp only[List.map_cons,R8 h1];simp[hf,hj]
def Jt {t:TypeId}{z:List AV}(h:Jc P t=some z) : ∃ i v,P.info? t=some i/\i.zero=some v/\v.cells.size=i.size/\z=v.cells.toList.map AV.ofCell:=by
 unfold Jc at h;split at h <;> try (cases h;done)
 rename_i i hi;split at h <;> try (cases h;done)
 rename_i v hv;split at h <;> try (cases h;done)
 rename_i hs;cases h;exact⟨i,v,hi,hv,hs,rfl⟩
def rU {dst type pos after guard}{t:TypeId}{fs:Array Field}{z:List AV}{ps:Array (Nat×Operand)}{qs:List (Nat×Nat×Operand)}(hu:P.underlying t=some (.struct fs)) (hz:Jc P t=some z)
  (hall:(fs.toList.all λf=>(P.info? f.type).isSome)=true) (hp:Px P fs ps.toList=some qs):Dp P ⟨dst,.build t ps,type,pos,after,guard⟩ (.build z qs):=by
 intro h τ av hv w g ρ hs hr;obtain⟨i,v,hi,hzv,hsz,rfl⟩:=Jt hz;simp only[aval,Option.map_eq_some_iff] at hv;obtain⟨out,ho,rfl⟩:=hv;have hops : ∀ p∈ps.toList,Rep w g (τ p.2) (ρ p.2):=λp hp=>hr p.2 (by simp only[Op.operands];simp;exact⟨p.1,by simpa using hp⟩);obtain⟨arr',h1,h2,_⟩:=Sv (w:=w) (g:=g) (τ:=τ) (ρ:=ρ) ((fs.map λf=>(f.offset,((P.info? f.type).map (·.size)).getD 0))[·]?) ps.toList qs _ v.cells out (R8 hp) hops ho (G2 w g _);have hmap:(fs.mapM λf=>(do pure (f.offset,<-sizeOf f.type):Sem (Nat×Nat))).run P w=.ok (fs.map λf=>(f.offset,((P.info? f.type).map (·.size)).getD 0)) w:=by
  rw[Array.mapM_eq_mapM_toList];rw[Sem.run_map,Qg _ (λf:Field=>(f.offset,((P.info? f.type).map (·.size)).getD 0)) w fs.toList]
  .simp only[Result.andThen_ok];congr 1;apply Array.ext';simp
  .intro f hf;have:=List.all_eq_true.1 hall f hf;obtain⟨j,hj⟩:=Option.isSome_iff_exists.1 this;simp[sizeOf,typeInfo,hj]
 refine⟨.agg arr',?_,by simp only[Rep];exact⟨arr',rfl,h2⟩⟩;have hpl:(ps.map λ(x:Nat×Operand)=>(x.1,ρ x.2)).toList=ps.toList.map λp=>(p.1,ρ p.2):=by simp
 simp only[execOp,Instr.build,Sem.run_bind,zeroValue,typeInfo,run_program,Result.andThen_ok,hi,Sem.run_pure,hzv,run_underlying hu,hmap];simp only[hpl,h1,Sem.run_pure,Result.andThen_ok]
end
section
variable {P : Program}
def E2:List LK->List Value->List Value->Option Bool
 | [],[],[]=>some true
 | k::ks,a::xs,b::ys=>match K7 k a b,E2 ks xs ys with
  | some p,some q=>some (p&&q)
  | _,_=>none
 | _,_,_=>none
def Sw {w:World}{g:Gh} : ∀ {ks:List LK}{cs ds:List AV}{us vs:List Value}{b:Bool},Ei ks cs ds=some b->RepL w g cs us->RepL w g ds vs->E2 ks us vs=some b
 | [],[],[],us,vs,b,h,h1,h2=>by simp only[RepL] at h1 h2;subst h1;subst h2;simpa [Ei,E2] using h
 | [],_::_,_,_,_,_,h,_,_=>by simp[Ei] at h
 | [],[],_::_,_,_,_,h,_,_=>by simp[Ei] at h
 | _::_,[],_,_,_,_,h,_,_=>by simp[Ei] at h
 | k::ks,c::cs,[],us,vs,b,h,h1,h2=>by cases c <;> simp[Ei] at h
 | k::ks,c::cs,d::ds,us,vs,b,h,h1,h2=>by
  cases c <;> cases d <;> try (simp[Ei] at h;done)
  simp only[RepL] at h1 h2;obtain⟨u,us',rfl,e1,h1⟩:=h1;obtain⟨v,vs',rfl,e2,h2⟩:=h2;simp only[Rep] at e1 e2;subst e1;subst e2;simp only[Ei] at h;split at h <;> try (cases h;done)
  rename_i p q hp hq;simp only[E2,hp,Sw hq h1 h2];exact h
def Yg : ∀ {ks:List LK}{us vs:List Value}{b:Bool},E2 ks us vs=some b->us.length=ks.length/\vs.length=ks.length
 | [],[],[],_,_=>⟨rfl,rfl⟩
 | [],_::_,_,_,h=>by simp[E2] at h
 | [],[],_::_,_,h=>by simp[E2] at h
 | _::_,[],_,_,h=>by simp[E2] at h
 | _::_,_::_,[],_,h=>by simp[E2] at h
 | k::ks,u::us,v::vs,b,h=>by
  simp only[E2] at h;split at h <;> try (cases h;done)
  rename_i p q hp hq;have:=Yg hq;simp[this]
def Qm : ∀ {k1 k2:List LK}{us vs:List Value}{b:Bool},E2 (k1++k2) us vs=some b ->
  ∃ b1 b2,E2 k1 (us.take k1.length) (vs.take k1.length)=some b1/\E2 k2 (us.drop k1.length) (vs.drop k1.length)=some b2/\b=(b1&&b2)
 | [],k2,us,vs,b,h=>⟨true,b,by simp[E2],by simpa using h,by simp⟩
 | k::k1,k2,[],vs,b,h=>by simp[E2] at h
 | k::k1,k2,_::_,[],b,h=>by simp[E2] at h
 | k::k1,k2,u::us,v::vs,b,h=>by
  simp only[List.cons_append,E2] at h;split at h <;> try (cases h;done)
  rename_i p q hp hq;cases h;obtain⟨b1,b2,h1,h2,rfl⟩:=Qm hq;exact⟨p&&b1,b2,by simp[E2,hp,h1],by simpa using h2,by rw[Bool.and_assoc]⟩
def LeafOk (P:Program) (d:Nat):Prop := ∀ (t:TypeId) (ks:List LK),leafs P d t=some ks -> ∀ (D:Nat),d<=D -> ∀ (w:World) (xs ys:Array Value) (off:Nat) (b:Bool),
 E2 ks ((xs.toList.drop off).take ks.length) ((ys.toList.drop off).take ks.length)=some b ->
  ∃ X Y,(part t xs off).run P w=.ok X w/\(part t ys off).run P w=.ok Y w/\(Op.equalIn D t X Y).run P w=.ok b w
def Ni {d:Nat}(hd:LeafOk P d) : ∀ (fs:List Field) (ks:List LK) (off D:Nat) (w:World) (xs ys:Array Value) (b:Bool),Tu (leafs P d) fs off=some ks->d<=D ->
  E2 ks (xs.toList.drop off) (ys.toList.drop off)=some b->(Op.eqFields D xs ys fs).run P w=.ok b w
 | [],ks,off,D,w,xs,ys,b,h,_,he=>by
  simp only[Tu,Option.some.injEq] at h;subst h;have:b=true:=by
   cases h1:xs.toList.drop off <;> cases h2:ys.toList.drop off <;> simp[h1,h2,E2] at he;exact he
  simp[Op.eqFields,this]
 | f::fs,ks,off,D,w,xs,ys,b,h,hD,he=>by
  simp only[Tu] at h;split at h <;> try (cases h;done)
  rename_i hc;obtain⟨ho,hn⟩:=hc;split at h <;> try (cases h;done)
  rename_i k1 hk1;simp only[Option.map_eq_some_iff] at h;obtain⟨k2,hk2,rfl⟩:=h;obtain⟨b1,b2,e1,e2,rfl⟩:=Qm he;obtain⟨X,Y,g1,g2,g3⟩:=hd f.type k1 hk1 D hD w xs ys off b1 e1;have ih:=Ni hd fs k2 (off+k1.length) D w xs ys b2 hk2 hD (by rw[List.drop_drop,List.drop_drop] at e2;exact e2);subst ho;cases b1
  .simp[Op.eqFields,hn,g1,g2,g3]
  .simp[Op.eqFields,hn,g1,g2,g3,ih]
def leafOk : ∀ d,LeafOk P d
 | 0=>by intro t ks h;simp[leafs] at h
 | d+1=>by
  intro t ks h D hD w xs ys off b he;obtain⟨D,rfl⟩ : ∃ D',D=D'+1:=⟨D-1,by omega⟩;simp only[leafs] at h;have one : ∀ k,ks=[k] -> ∃ X Y,xs[off]?=some X/\ys[off]?=some Y/\K7 k X Y=some b:=by
   rintro k rfl;simp only[List.length_singleton] at he;cases h1:xs.toList.drop off with
   | nil=>simp[h1,E2] at he
   | cons X xs' =>
    cases h2:ys.toList.drop off with
    | nil=>simp[h1,h2,E2] at he
    | cons Y ys' =>
     simp[h1,h2,E2] at he
     have e1:xs[off]?=some X:=by have:=congrArg (·[0]?) h1;simpa [List.getElem?_drop] using this
     have e2:ys[off]?=some Y:=by have:=congrArg (·[0]?) h2;simpa [List.getElem?_drop] using this
     refine⟨X,Y,e1,e2,?_⟩
     cases hq:K7 k X Y with
     | none=>simp[hq] at he
     | some q=>simp[hq] at he;simp[he]
  split at h
  .rename_i k hu;cases h;obtain⟨X,Y,e1,e2,e3⟩:=one _ rfl;refine⟨X,Y,by simp[part,F3 hu,Ie,e1],by simp[part,F3 hu,Ie,e2],?_⟩;cases X <;> cases Y <;> simp[K7] at e3;obtain⟨rfl,rfl⟩:=e3;exact run_equalIn_int w D t _ _ _ _ hu
  .rename_i hu;cases h;obtain⟨X,Y,e1,e2,e3⟩:=one _ rfl;refine⟨X,Y,by simp[part,F3 hu,Ie,e1],by simp[part,F3 hu,Ie,e2],?_⟩;cases X <;> cases Y <;> simp[K7] at e3;subst e3;rw[run_equalIn_string w D t _ _ hu,beq_toListBytes]
  .rename_i hu;cases h;obtain⟨X,Y,e1,e2,e3⟩:=one _ rfl;refine⟨X,Y,by simp[part,F3 hu,Ie,e1],by simp[part,F3 hu,Ie,e2],?_⟩;cases X <;> cases Y <;> simp[K7] at e3;subst e3;exact run_equalIn_bool w D t _ _ hu
  .rename_i fs hu;split at h <;> try (cases h;done)
   rename_i hp;split at h <;> try (cases h;done)
   rename_i ks' i hks hi;split at h <;> try (cases h;done)
   rename_i hsz;cases h;have hfs:P.fieldsOf t=fs:=by simp[Program.fieldsOf,hu]
   refine⟨.agg (xs.extract off (off+i.size)),.agg (ys.extract off (off+i.size)),by simp[part,F3 hu,Ie,C8 hi],by simp[part,F3 hu,Ie,C8 hi],?_⟩;rw[run_equalIn_struct w D t _ _ (by rw[hfs];exact hu) hp,hfs];refine Ni (leafOk d) fs.toList ks 0 D w _ _ b hks (by omega) ?_;rw[Array.toList_extract,Array.toList_extract,List.extract_eq_take_drop,List.extract_eq_take_drop];simpa [hsz] using he
  .cases h
def dK {d:Nat}{t:TypeId}{fs:Array Field}{ks:List LK}(hu:P.underlying t=some (.struct fs)) (hk:leafs P (d+1) t=some ks):P.stoodInHeld t=false/\Tu (leafs P d) fs.toList 0=some ks:=by
 simp only[leafs,hu] at hk;split at hk <;> try (cases hk;done)
 rename_i hp;split at hk <;> try (cases hk;done)
 rename_i ks' i hks hi;split at hk <;> try (cases hk;done)
 cases hk;exact⟨hp,hks⟩
def oH {dst type pos after guard}{op:BinOp}{t yt:TypeId}{ks:List LK}{fs:Array Field}(neg:Bool) (x y:Operand) (hu:P.underlying t=some (.struct fs)) (hk:leafs P 20 t=some ks) (hg:P.eqGuardType P.depth t=false) (hop:op=bif neg then .neq else .eql) :
  Dp P ⟨dst,.binOp op t x y yt,type,pos,after,guard⟩ (.eqs neg ks x y):=by
 intro h τ av hv w g ρ hs hr;simp only[aval] at hv;have h1:=hr x (by simp[Op.operands]);have h2:=hr y (by simp[Op.operands]);split at hv <;> try (cases hv;done)
 rename_i cs ds hx hy;rw[hx] at h1;rw[hy] at h2;simp only[Rep] at h1 h2;obtain⟨us,e1,r1⟩:=h1;obtain⟨vs,e2,r2⟩:=h2;simp only[Option.map_eq_some_iff] at hv;obtain⟨b,hb,rfl⟩:=hv;refine⟨_,?_,Lr _ _ _⟩;have hev:=Sw hb r1 r2;have hlen:=Yg hev;obtain⟨hp,hks⟩:=dK (d:=19) hu hk;have hfs:P.fieldsOf t=fs:=by simp[Program.fieldsOf,hu]
 have hrun:(Op.equalIn 10000 t (.agg us) (.agg vs)).run P w=.ok b w:=by
  rw[run_equalIn_struct w 9999 t _ _ (by rw[hfs];exact hu) hp,hfs];exact Ni (leafOk 19) fs.toList ks 0 9999 w _ _ b hks (by omega) (by simpa using hev)
 cases neg <;> simp at hop <;> subst hop <;> simp[execOp,e1,e2,run_eqGuard_agg w _ t x y us vs hg,run_eql_struct,run_neq_struct,hrun]
end
section
variable {P : Program}
def Nx (P:Program) (o:Oper) (ao:AOp):Prop := ∀ (h:AH) (τ:Operand->AV) (av:AV) (h':AH),aeff h τ ao=some (av,h') -> ∀ (w:World) (g:Gh) (ρ:Operand->Value),SimH w g h->(∀ x∈o.op.operands,Rep w g (τ x) (ρ x)) ->
 ∃ n v w' g',(execOp ρ o).run P w=.ok n w'/\(n=.value v\/(n=.skip/\v=undef))/\Rep w' g' av v/\SimH w' g' h'/\g.le g'/\Fr w (Ow g h) w' /\ ∀ k,Ow g' h' k->Ow g h k\/w.heap.size<=k
def Ls {w:World}{g:Gh}{id cap b:Nat}:Rep w (g.add id 0 (some ⟨b,0,none⟩,cap)) (.ptr id 0 0) (.pointer (some ⟨b,0,none⟩)):=by
 simp only[Rep];exact⟨b,cap,by simp[Gh.add],rfl⟩
def snd_new {dst type pos after guard}{e:TypeId}{i:TypeInfo}{z:List AV}(hi:P.info? e=some i) (hz:Jc P e=some z):Nx P ⟨dst,.alloc e,type,pos,after,guard⟩ (.new e i.size z):=by
 intro h τ av h' hv w g ρ hs hr;obtain⟨i',v,hi',hzv,hsz,rfl⟩:=Jt hz;rw[hi] at hi';cases hi';simp only[aeff,Option.some.injEq,Prod.mk.injEq] at hv;obtain⟨rfl,rfl⟩:=hv;obtain⟨h1,h2,h3,h4⟩:=hs.alloc (arr:=v.cells) (cells:=v.cells.toList.map AV.ofCell) e i.size 1 (by have:=G2 w g v.cells.toList;rw[List.take_of_length_le (by simp)];exact this) (by simp) (by omega) (by simp[maxLen]) (by simp);exact⟨_,_,_,_,by simp[execOp,Instr.alloc,zeroValue,typeInfo,hi,hzv,newVar,newRow],.inl rfl,Ls,h1,h2,h3,h4⟩
def snd_box {dst type pos after guard}{e:TypeId}{sz:Nat}(x:Operand):Nx P ⟨dst,.box e x,type,pos,after,guard⟩ (.box e sz x):=by
 intro h τ av h' hv w g ρ hs hr;simp only[aeff] at hv;split at hv <;> try (cases hv;done)
 rename_i cs hcs;split at hv <;> try (cases hv;done)
 rename_i hsz;simp only[Option.some.injEq,Prod.mk.injEq] at hv;obtain⟨rfl,rfl⟩:=hv;have hrl:=Ns hcs (hr x (by simp[Op.operands]));have hlen:(ρ x).cells.size=cs.length:=by simpa using hrl.length
 obtain⟨h1,h2,h3,h4⟩:=hs.alloc (arr:=(ρ x).cells) (cells:=cs) e sz 1 (by rw[List.take_of_length_le (by simp[hlen])];exact hrl) (by omega) (by omega) (by simp[maxLen]) (by simp);exact⟨_,_,_,_,by simp[execOp,Instr.box,newVar,newRow],.inl rfl,Ls,h1,h2,h3,h4⟩
def Ks {id ver ty s b cap:Nat} : ∀ (cs:List AV) (us:List Value) (w:World) (g:Gh) (h:AH) (cells:List AV) (off i:Nat),SimH w g h->h[id]?=some (.mk ver ty s cells)->g.loc id ver=some (some ⟨b,0,none⟩,cap) ->
  off+i+cs.length<=cells.length->cs.all leaf=true->RepL w g cs us ->
  ∃ w',(storeCells ⟨b,off,none⟩ us i).run P w=.ok () w'/\SimH w' g (h.set id (.mk ver ty s (setCells cells (off+i) cs)))/\Fr w (Ow g h) w'
 | [],us,w,g,h,cells,off,i,hs,he,hl,hle,hlf,hr=>by
  simp only[RepL] at hr;subst hr;refine⟨w,by simp[storeCells],?_,Fr.refl _ _⟩;simp only[setCells];have hid:id<h.length:=(List.getElem?_eq_some_iff.1 he).1;have hself:h.set id (.mk ver ty s cells)=h:=by
   apply List.ext_getElem?;intro j;by_cases hj:j=id
   .subst hj;rw[List.getElem?_set_self hid,he]
   .rw[List.getElem?_set_ne (Ne.symm hj)]
  rw[hself];exact hs
 | c::cs,us,w,g,h,cells,off,i,hs,he,hl,hle,hlf,hr=>by
  simp only[RepL] at hr;obtain⟨u,us',rfl,h1,h2⟩:=hr;simp only[List.all_cons,Bool.and_eq_true] at hlf;simp only[List.length_cons] at hle;obtain⟨g1,g2,g3,g4⟩:=hs.store (k:=off+i) he hl (by omega) h1;have hid:id<h.length:=(List.getElem?_eq_some_iff.1 he).1;have hfr:Fr w (Ow g h) (w.setCell ⟨b,off+i,none⟩ u):=⟨rfl,rfl,rfl,by simp,λk hk hn=>heap_setCell_other w _ _ _ (λe=>hn (.inl ⟨id,by simpa [e] using g4⟩))⟩;have hmono:RepL (w.setCell ⟨b,off+i,none⟩ u) g cs us':=RepL.mono (Gh.le.refl g) (λk hk=>hfr.block k (hs.lt k hk) (λho=>(hs.own_not_D ho).1 hk)) _ _ h2;obtain⟨w',k1,k2,k3⟩:=Ks cs us' _ g _ (cells.set (off+i) c) off (i+1) g1 (by rw[List.getElem?_set_self hid]) hl (by simp;omega) hlf.2 hmono;refine⟨w',?_,?_,?_⟩
  .simp only[storeCells,Sem.run_bind,Addr.add_off];rw[run_store P w ⟨b,off+i,none⟩ u _ (Sn hlf.1 h1)];cases hc:w.cell? ⟨b,off+i,none⟩ with
   | none=>exact absurd hc g2
   | some u0=>simp[g3,k1]
  .simp only[setCells];rw[List.set_set] at k2;exact k2
  .refine hfr.trans k3 ?_;rintro k (⟨j,v,ty',s',c',b',cap',e1,e2,e3,e4⟩ | ⟨j,o,T,vs,e1⟩) _;rotate_left 1
   .refine .inr ⟨j,o,T,vs,?_⟩;by_cases hj:j=id
    .subst hj;rw[List.getElem?_set_self hid] at e1;cases e1
    .rw[List.getElem?_set_ne (Ne.symm hj)] at e1;exact e1
   by_cases hj:j=id
   .subst hj;rw[List.getElem?_set_self hid] at e1;cases e1;exact .inl ⟨j,ver,ty,s,cells,b',cap',he,e2,e3,e4⟩
   .rw[List.getElem?_set_ne (Ne.symm hj)] at e1;exact .inl ⟨j,v,ty',s',c',b',cap',e1,e2,e3,e4⟩
def Ow.of_set {g:Gh}{h:AH}{id ver ty s k:Nat}{cells cells':List AV}(he:h[id]?=some (.mk ver ty s cells)) (hk:Ow g (h.set id (.mk ver ty s cells')) k):Ow g h k:=by
 have hid:id<h.length:=(List.getElem?_eq_some_iff.1 he).1;rcases hk with ⟨j,v,ty',s',c',b',cap',e1,e2,e3,e4⟩ | ⟨j,o,T,vs,e1⟩
 .by_cases hj:j=id
  .subst hj;rw[List.getElem?_set_self hid] at e1;cases e1;exact .inl ⟨j,ver,ty,s,cells,b',cap',he,e2,e3,e4⟩
  .rw[List.getElem?_set_ne (Ne.symm hj)] at e1;exact .inl ⟨j,v,ty',s',c',b',cap',e1,e2,e3,e4⟩
 .by_cases hj:j=id
  .subst hj;rw[List.getElem?_set_self hid] at e1;cases e1
  .rw[List.getElem?_set_ne (Ne.symm hj)] at e1;exact .inr ⟨j,o,T,vs,e1⟩
def rT {dst type pos after guard}{t:TypeId}{i:TypeInfo}(p x:Operand) (hi:P.info? t=some i):Nx P ⟨dst,.store t p x,type,pos,after,guard⟩ (.store i.size p x):=by
 intro h τ av h' hv w g ρ hs hr;simp only[aeff] at hv;split at hv <;> try (cases hv;done)
 rename_i id ver off cs hp hcs;split at hv <;> try (cases hv;done)
 rename_i v ty s cells he;split at hv <;> try (cases hv;done)
 rename_i hc;obtain⟨rfl,hl,hle,hlf⟩:=hc;simp only[Option.some.injEq,Prod.mk.injEq] at hv;obtain⟨rfl,rfl⟩:=hv;have hrp:=hr p (by simp[Op.operands]);have hrx:=Ns hcs (hr x (by simp[Op.operands]));rw[hp] at hrp;simp only[Rep] at hrp;obtain⟨b,cap,hloc,e1⟩:=hrp;obtain⟨w',k1,k2,k3⟩:=Ks (P:=P) (b:=b) (cap:=cap) cs _ w g h cells off 0 hs he hloc (by omega) hlf hrx;have hsz:(ρ x).cells.size=i.size:=by have:=hrx.length;simpa [hl] using this
 refine⟨.skip,undef,w',g,?_,.inr ⟨rfl,rfl⟩,by simp only[Rep],k2,Gh.le.refl _,k3,λk hk=>.inl (Ow.of_set he hk)⟩;simp only[execOp,e1];simp[Instr.storeAt,Instr.sureAddr,storeVar,C8 hi,hsz,k1]
end
section
variable {P : Program}
def F8 {w:World}{g:Gh}{id ver cap n:Nat}{A:Option Addr}(h:n<=cap) (hm:cap<=maxLen):Rep w (g.add id ver (A,cap)) (.own id ver n) (.slice A n cap):=by
 simp only[Rep];exact⟨A,cap,by simp[Gh.add],h,hm,rfl⟩
def SimH.add0 {w w':World}{g:Gh}{h:AH}(hs:SimH w g h) (A:Option Addr) (ty stride:Nat) (hw : ∀ k,k<w.heap.size->w'.heap[k]?=w.heap[k]?) (hsz:w.heap.size<=w'.heap.size) :
  SimH w' (g.add h.length 0 (A,0)) (h++[.mk 0 ty stride []])/\g.le (g.add h.length 0 (A,0)) /\ ∀ k,Ow (g.add h.length 0 (A,0)) (h++[.mk 0 ty stride []]) k->Ow g h k\/w.heap.size<=k:=by
 have hf : ∀ v l,g.loc h.length v=some l->False:=λv l hl=>absurd (hs.fresh _ _ _ hl).1 (Nat.lt_irrefl _);have hloc : ∀ i v l,g.loc i v=some l->(g.add h.length 0 (A,0)).loc i v=some l:=by
  intro i v l hi;simp only[Gh.add];rw[if_neg]
  .exact hi
  .rintro⟨rfl,rfl⟩;exact hf _ _ hi
 have how : ∀ k,g.D k\/(∃ i,i≠h.length/\OwAt g h i k)\/(∃ i,RwAt h i k)->k<w.heap.size:=by
  rintro k (hk | ⟨i,_,hk⟩ | hk)
  .exact hs.lt k hk
  .exact (hs.own_not_D (.inl ⟨i,hk⟩)).2
  .exact (hs.own_not_D (.inr hk)).2
 have:=hs.put (w':=w') (g':=g.add h.length 0 (A,0)) (h':=h++[.mk 0 ty stride []]) h.length 0 ty stride [] A 0 ?_ ?_ ?_ rfl hloc ?_ ?_ (λv l hl=>(hf v l hl).elim) (λk hk=>hw k (how k hk)) hsz (by simp[maxLen]) (.inl ⟨rfl,rfl⟩) (λ_ _ h=>absurd rfl h) (λ_ _ h=>absurd rfl h)
 .exact⟨this.1,this.2.1,λk hk=>.inl ((this.2.2 k hk).resolve_right (λh=>h.2 rfl))⟩
 .intro i hi;by_cases hlt:i<h.length
  .rw[List.getElem?_append_left hlt]
  .rw[List.getElem?_eq_none (by simp;omega),List.getElem?_eq_none (by omega)]
 .simp
 .simp
 .intro i v l hi;simp only[Gh.add] at hi;split at hi
  .right;assumption
  .left;exact hi
 .simp[Gh.add]
def snd_lit0 {dst type pos after guard}{t e:TypeId}{i:TypeInfo}{z:Value}(hu:P.underlying t=some (.slice e)) (hi:P.info? e=some i) :
  Nx P ⟨dst,.buildSlice t 0 #[],type,pos,after,guard⟩ (.lit e i.size 0 [] []):=by
 intro h τ av h' hv w g ρ hs hr;simp only[aeff,Cm,Option.some.injEq,Prod.mk.injEq] at hv;obtain⟨rfl,rfl⟩:=hv;have hold : ∀ k,k<w.heap.size->(w.alloc (.cells #[] e)).heap[k]?=w.heap[k]?:=λk hk=>X4 w _ k hk;obtain⟨k1,k2,k3⟩:=hs.add0 (w':=w.alloc (.cells #[] e)) (some ⟨w.heap.size,0,none⟩) e i.size hold (by simp);refine⟨.value (.slice (some ⟨w.heap.size,0,none⟩) 0 0),_,_,_,?_,.inl rfl,F8 (Nat.le_refl _) (by simp[maxLen]),k1,k2,⟨rfl,rfl,rfl,by simp,λk hk _=>hold k hk⟩,k3⟩;have hempty:(Array.range 0).map (λx=>(#[]:Array Value)[x%(#[]:Array Value).size]!) = #[]:=Array.size_eq_zero_iff.1 (by simp);simp only[execOp,Instr.buildSlice,Sem.run_bind,run_underlying hu,Result.andThen_ok,C8 hi,Nat.zero_mul];simp only[show ¬(0>2 ^ 24) by omega,if_false,if_true,Sem.run_bind,Sem.run_pure,Result.andThen_ok,hempty];simp[newRow,Instr.fill]
def snd_lit {dst type pos after guard}{t e:TypeId}{i:TypeInfo}{z:Value}{n:Nat}{ps:Array (Nat×Operand)}(hu:P.underlying t=some (.slice e)) (hi:P.info? e=some i) (hz:i.zero=some z) (hb:n*i.size<=16777216) (hn0:n≠0) (hnm:n<=maxLen) :
  Nx P ⟨dst,.buildSlice t n ps,type,pos,after,guard⟩ (.lit e i.size n (dI z.cells (n*i.size)) (ps.toList.map λp=>(p.1*i.size,i.size,p.2))):=by
 intro h τ av h' hv w g ρ hs hr;simp only[aeff] at hv;split at hv <;> try (cases hv;done)
 rename_i cs hcs;simp only[Option.some.injEq,Prod.mk.injEq] at hv;obtain⟨rfl,rfl⟩:=hv;have hops : ∀ p∈ps.toList,Rep w g (τ p.2) (ρ p.2):=λp hp=>hr p.2 (by simp only[Op.operands];simp;exact⟨p.1,by simpa using hp⟩);obtain⟨arr',h1,h2,h3⟩:=Sv (w:=w) (g:=g) (τ:=τ) (ρ:=ρ) (λk=>some (k*i.size,i.size)) ps.toList _ _ ((Array.range (n*i.size)).map (z.cells[· % z.cells.size]!)) cs (by simp) hops hcs (G2 w g _);have hsz:arr'.size=n*i.size:=by rw[h3];simp
 have hcl:cs.length=arr'.size:=by have:=h2.length;simpa using this.symm
 obtain⟨k1,k2,k3,k4⟩:=hs.alloc (arr:=arr') (cells:=cs) e i.size n (by rw[List.take_of_length_le (by simp[hcl])];exact h2) (by omega) hsz hnm hn0;have hpl:(ps.map λ(x:Nat×Operand)=>(x.1,ρ x.2)).toList=ps.toList.map λp=>(p.1,ρ p.2):=by simp
 have hlim:¬(2 ^ 24<n*i.size):=by omega
 refine⟨.value (.slice (some ⟨w.heap.size,0,none⟩) n n),_,_,_,?_,.inl rfl,F8 (Nat.le_refl _) hnm,k1,k2,k3,k4⟩;by_cases hzero:n*i.size=0
 .have harr:((Array.range (n*i.size)).map (z.cells[· % z.cells.size]!)) = #[]:=Array.size_eq_zero_iff.1 (by simp[hzero]);have hempty:(Array.range 0).map (λx=>(#[]:Array Value)[x%(#[]:Array Value).size]!) = #[]:=Array.size_eq_zero_iff.1 (by simp);rw[harr] at h1;simp only[execOp,Instr.buildSlice,Sem.run_bind,run_underlying hu,Result.andThen_ok,C8 hi,hzero];simp only[show ¬(0>2 ^ 24) by omega,if_false,if_true,Sem.run_bind,Sem.run_pure,Result.andThen_ok,hpl,hempty,h1];simp[newRow]
 .simp only[execOp,Instr.buildSlice,Sem.run_bind,run_underlying hu,Result.andThen_ok,C8 hi,show ¬(n*i.size>2 ^ 24) by omega,if_false,hzero];simp only[zeroValue,typeInfo,Sem.run_bind,run_program,Result.andThen_ok,hi,hz,Sem.run_pure,hpl,h1];simp[newRow]
end
section
variable {P : Program}
def Z4 {w:World}{g:Gh}{α:Type}(f:α->Value) : ∀ (l:List α),RepL w g (l.map λb=>.v (f b)) (l.map f)
 | []=>by simp only[List.map_nil,RepL]
 | b::l=>by simp only[List.map_cons,RepL];exact⟨_,_,rfl,by simp only[Rep],Z4 f l⟩
def src_rep {w:World}{g:Gh}{h:AH}(hs:SimH w g h) {sz:Nat}{c:AV}{y:Value}{m:Nat}{news:List AV}(hc:Et h sz c=some (m,news)) (hr:Rep w g c y) :
  ∃ us:List Value,RepL w g news us/\us.length=m*sz/\(∀ w',(Builtin.lenOf y).run P w'=.ok m w')/\(Builtin.firstCells sz m y).run P w=.ok us.toArray w/\(Builtin.firstCells sz m y).run P w.drew=.ok us.toArray w.drew:=by
 have viaRows : ∀ n cs,Ia h c=some (n,cs)->cs.length=n*sz->m=n->news=cs -> ∃ us:List Value,RepL w g news us/\us.length=m*sz/\(∀ w',(Builtin.lenOf y).run P w'=.ok m w')/\(Builtin.firstCells sz m y).run P w=.ok us.toArray w/\(Builtin.firstCells sz m y).run P w.drew=.ok us.toArray w.drew:=by
  rintro n cs hrow hlen rfl rfl;obtain⟨A,cap,rfl,_,_,hne⟩:=W9 hs hr hrow;by_cases hz:news=[]
  .subst hz;have hm:m*sz=0:=by simpa using hlen.symm
   refine⟨[],by simp only[RepL],by simp[hm],λw'=>by simp[Builtin.lenOf],?_,?_⟩ <;> cases A <;> simp[Builtin.firstCells,loadCells,hm,loadCellsFrom]
  .obtain⟨b,off,rfl,hrc⟩:=hne hz;obtain⟨us,g1,g2⟩:=hrc.list;have hul:us.length=m*sz:=by rw[g1.length,hlen]
   refine⟨us,g1,hul,λw'=>by simp[Builtin.lenOf],run_firstCells_some w sz m _ m cap us hul (λj v hj=>by rw[Addr.add_off];exact g2 j v hj),run_firstCells_some w.drew sz m _ m cap us hul (λj v hj=>by rw[Addr.add_off];exact g2 j v hj)⟩
 unfold Et at hc;split at hc
 .rename_i s;split at hc <;> try (cases hc;done)
  rename_i h1;subst h1;cases hc;simp only[Rep] at hr;subst hr;have hext:s.extract 0 s.size=s:=ByteArray.extract_zero_size;refine⟨s.data.toList.map λb=>.int .u8 b.toNat,Z4 _ _,by simp,λw'=>by simp[Builtin.lenOf],?_,?_⟩ <;> (simp[Builtin.firstCells,hext];apply Array.ext';simp)
 .split at hc <;> try (cases hc;done)
  rename_i n cs hrow;split at hc <;> try (cases hc;done)
  rename_i hlen;cases hc;exact viaRows _ _ hrow hlen rfl rfl
def oK {dst type pos after guard}{t u e:TypeId}{du:TypeDesc}{i:TypeInfo}{z:List AV}(s x:Operand) (ht:P.underlying t=some (.slice e)) (hu:P.underlying u=some du) (hdu:du=.slice e\/du=.string)
    (hi:P.info? e=some i) (hz:Jc P e=some z) (hby:0<i.bytes):Nx P ⟨dst,.call { callee:=.builtin .append,args := #[s,x],argTypes := #[t,u] },type,pos,after,guard⟩ (.app e i.size i.bytes s x):=by
  intro h τ av h' hv w g ρ hs hr;obtain⟨i',v,hi',hzv,hsz,rfl⟩:=Jt hz;rw[hi] at hi';cases hi';have hrs:=hr s (by simp[Op.operands,Call.operands]);have hrx:=hr x (by simp[Op.operands,Call.operands]);have hexec : ∀ y A n cap,ρ s=.slice A n cap->ρ x=y->(execOp ρ ⟨dst,.call { callee:=.builtin .append,args := #[s,x],argTypes := #[t,u] },type,pos,after,guard⟩).run P w=((Builtin.append_ #[t,u] type #[.slice A n cap,y]).run P w).andThen λv w'=>.ok (.value v) w':=by
    intro y A n cap h1 h2;simp[execOp,resolve,invoke,builtin,h1,h2]
  simp only[aeff] at hv;split at hv <;> try (cases hv;done)
  rename_i m news hsrc;obtain⟨us,u1,u2,u3,u4,u5⟩:=src_rep (P:=P) hs hsrc hrx;have hnl:news.length=m*i.size:=by rw[<-u1.length];exact u2
  split at hv <;> try (cases hv;done)
  . rename_i id ver n hτs;rw[hτs] at hrs;simp only[Rep] at hrs;obtain⟨A,cap,hloc,hn,hcm,es⟩:=hrs;split at hv <;> try (cases hv;done)
    rename_i v' ty' st cells he;split at hv <;> try (cases hv;done)
    rename_i hc;obtain⟨rfl,rfl,rfl,hcl,hbytes,hlf⟩:=hc;simp only[Option.some.injEq,Prod.mk.injEq] at hv;obtain⟨rfl,rfl⟩:=hv;have h63:n+m<=maxLen:=by
      have h1:(n+m)*1<=(n+m)*i.bytes:=Nat.mul_le_mul_left _ hby;have h2:(n+m+(n+m)/4+192)*1<=(n+m+(n+m)/4+192)*i.bytes:=Nat.mul_le_mul_left _ hby;simp only[maxLen];rcases hbytes with h3 | h3
      . omega
      . have h4:=Nat.le_trans h2 h3;omega
    obtain⟨A',cap',f1,_,f3⟩:=hs.ent _ _ _ _ _ he;rw[hloc] at f1;simp only[Option.some.injEq,Prod.mk.injEq] at f1;obtain⟨rfl,rfl⟩:=f1;have hid:id<h.length:=(List.getElem?_eq_some_iff.1 he).1;have base : ∃ olds:List Value,RepL w g cells olds/\olds.length=n*i.size/\(cap=0 \/ ∃ b arr,A=some ⟨b,0,none⟩/\w.heap[b]?=some (.cells arr ty' (0,0))/\arr.size=cap*i.size/\arr.toList.take (n*i.size)=olds):=by
      rcases f3 with ⟨rfl,h0⟩ | ⟨b,arr,rfl,hc0,hd,hb,hsz',hle,hrl⟩
      . exact⟨[],by simp only[RepL],by simpa using hcl,.inl h0⟩
      . exact⟨_,hrl,by rw[hrl.length,hcl],.inr ⟨b,arr,rfl,hb,hsz',by rw[hcl]⟩⟩
    obtain⟨olds,o1,o2,o3⟩:=base;obtain⟨A2,cap2,w',hrun,hle2,hcm2,hgrow,hrow⟩:=Kt (P:=P) w t u type ty' i v du ht hu hdu hi hzv hsz A n cap olds o2 hn hcm o3 (ρ x) m us u2 (Gs hlf u1) u3 u4 u5 h63 hbytes;have how : ∀ k,A.map (·.block)=some k->cap≠0->OwAt g h id k:=by
      intro k hk h0;cases A with
      | none=>simp at hk
      | some b=>exact⟨_,_,_,_,b,cap,he,hloc,h0,by simpa using hk⟩
    have hrowk : ∀ k,(if cap=0 then none else A.map (·.block))=some k->OwAt g h id k:=by
      intro k hk;split at hk
      . cases hk
      . rename_i h0;exact how k hk h0
    have hfr:Fr w (Ow g h) w':=⟨hgrow.os,hgrow.tape,hgrow.output,hgrow.size,λk hk hn=>hgrow.block k hk (λe=>hn (.inl ⟨id,hrowk k e.symm⟩))⟩;have hfresh : ∀ l,g.loc id (v'+1)=some l->False:=λl hl=>by have:=(hs.fresh _ _ _ hl).2 _ _ _ _ he;omega
    have hlocm : ∀ j vv l,g.loc j vv=some l->(g.add id (v'+1) (A2,cap2)).loc j vv=some l:=by
      intro j vv l hj;simp only[Gh.add];rw[if_neg]
      . exact hj
      . rintro⟨rfl,rfl⟩;exact hfresh _ hj
    have hle':g.le (g.add id (v'+1) (A2,cap2)):=Gh.le_of_put rfl hlocm;have hDw : ∀ k,g.D k->w'.heap[k]?=w.heap[k]?:=λk hk=>hfr.block k (hs.lt k hk) (λho=>(hs.own_not_D ho).1 hk)
    have hput:=hs.put (w':=w') (g':=g.add id (v'+1) (A2,cap2)) (h':=h.set id (.mk (v'+1) ty' i.size (cells++news))) id (v'+1) ty' i.size (cells++news) A2 cap2
      (λj hj=>by rw[List.getElem?_set_ne (Ne.symm hj)]) (by rw[List.getElem?_set_self hid]) (by simp) rfl hlocm
      (λj vv l hj=>by
        simp only[Gh.add] at hj;split at hj
        . right;assumption
        . left;exact hj) (by simp[Gh.add]) (λvv l hl=>by have:=(hs.fresh _ _ _ hl).2 _ _ _ _ he;omega)
      (by
        rintro k (hk | ⟨j,hj,hk⟩ | ⟨j,hk⟩);rotate_left 2
        . exact hgrow.block k (hs.own_not_D (.inr ⟨j,hk⟩)).2 (λe=>hs.own_ne_raw (hrowk k e.symm) hk)
        . exact hDw k hk
        . refine hgrow.block k (hs.own_not_D (.inl ⟨j,hk⟩)).2 (λe=>hj (hs.inj j id k hk (hrowk k e.symm)))) hgrow.size hcm2
      (by
        rcases hrow with h0 | ⟨b',arr',rfl,hc0,hb',hs',htk,hor⟩
        . left;have hn0:n+m=0:=by omega
          refine⟨?_,h0⟩
          have l1 : cells.length = 0 := by rw [hcl]; have : n = 0 := by omega
                                           simp[this]
          have l2 : news.length = 0 := by rw [hnl]; have : m = 0 := by omega
                                          simp[this]
          rw[List.length_eq_zero_iff.1 l1,List.length_eq_zero_iff.1 l2];rfl
        . refine .inr ⟨b',arr',rfl,hc0,?_,hb',hs',?_,?_⟩
          . rcases hor with hge | ⟨h0,rfl⟩
            . exact λhd=>by have:=hs.lt _ hd;omega
            . exact (hs.own_not_D (.inl ⟨id,how b' rfl h0⟩)).1
          . rw[List.length_append,hcl,hnl,hs',<-Nat.add_mul];exact Nat.mul_le_mul_right _ hle2
          . have:(cells++news).length=(n+m)*i.size:=by rw[List.length_append,hcl,hnl,Nat.add_mul]
            rw[this,htk];exact RepL.mono hle' hDw _ _ (o1.append u1))
      (by
        rintro k hk h0 j hj ho;rcases hrow with h0' | ⟨b',arr',rfl,hc0,hb',hs',htk,hor⟩
        . exact h0 h0'
        . simp at hk;subst hk;rcases hor with hge | ⟨h0,rfl⟩
          . have:=(hs.own_not_D (.inl ⟨j,ho⟩)).2;omega
          . exact hj (hs.inj j id b' ho (how b' rfl h0)))
      (by
        intro k hk h0 hlt;rcases hrow with h0' | ⟨b',arr',rfl,hc0,hb',hs',htk,hor⟩
        . exact absurd h0' h0
        . simp at hk;subst hk;rcases hor with hge | ⟨h0,rfl⟩
          . omega
          . exact .inl ⟨id,how b' rfl h0⟩)
    refine⟨.value (.slice A2 (n+m) cap2),_,w',_,by rw[hexec (ρ x) A n cap es rfl,hrun];rfl,.inl rfl,F8 hle2 hcm2,hput.1,hput.2.1,hfr,?_⟩;intro k hk;rcases hput.2.2 k hk with ho | ⟨hk1,hk2⟩
    . exact .inl ho
    . rcases hrow with h0' | ⟨b',arr',rfl,hc0,hb',hs',htk,hor⟩
      . exact absurd h0' hk2
      . simp at hk1;subst hk1;rcases hor with hge | ⟨h0,rfl⟩
        . exact .inr hge
        . exact .inl (.inl ⟨id,how b' rfl h0⟩)
  . rename_i st0 cells0 hτs;rw[hτs] at hrs;simp only[Rep] at hrs;obtain⟨_,A,cap,es,hn,hcm,hfull,_,_⟩:=hrs;have hc0:cap=0:=by have:=hfull trivial;omega
    subst hc0;split at hv <;> try (cases hv;done)
    rename_i hc;obtain⟨hbytes,hlf⟩:=hc;simp only[Option.some.injEq,Prod.mk.injEq] at hv;obtain⟨rfl,rfl⟩:=hv;have h63:0+m<=maxLen:=by
      have:m*1<=m*i.bytes:=Nat.mul_le_mul_left _ hby;simp only[maxLen];omega
    obtain⟨A2,cap2,w',hrun,hle2,hcm2,hgrow,hrow⟩:=Kt (P:=P) w t u type e i v du ht hu hdu hi hzv hsz A 0 0 [] (by simp) (Nat.le_refl _) hcm (.inl rfl) (ρ x) m us u2 (Gs hlf u1) u3 u4 u5 h63 (.inl (by simpa using hbytes));simp only[if_true,Nat.zero_add,List.nil_append] at hgrow hrow hrun hle2;have hfr:Fr w (Ow g h) w':=⟨hgrow.os,hgrow.tape,hgrow.output,hgrow.size,λk hk _=>hgrow.block k hk (by simp)⟩;have hf : ∀ v l,g.loc h.length v=some l->False:=λv l hl=>absurd (hs.fresh _ _ _ hl).1 (Nat.lt_irrefl _);have hlocm : ∀ j vv l,g.loc j vv=some l->(g.add h.length 0 (A2,cap2)).loc j vv=some l:=by
      intro j vv l hj;simp only[Gh.add];rw[if_neg]
      . exact hj
      . rintro⟨rfl,rfl⟩;exact hf _ _ hj
    have hle':g.le (g.add h.length 0 (A2,cap2)):=Gh.le_of_put rfl hlocm;have hold : ∀ k,k<w.heap.size->w'.heap[k]?=w.heap[k]?:=λk hk=>hgrow.block k hk (by simp);have hDw : ∀ k,g.D k->w'.heap[k]?=w.heap[k]?:=λk hk=>hold k (hs.lt k hk);have hnew : ∀ (b':Nat) (arr':Array Value),A2=some ⟨b',0,none⟩->cap2≠0->(w.heap.size<=b'\/((0:Nat)≠0/\A=some ⟨b',0,none⟩))->w.heap.size<=b':=by
      rintro b' arr' _ _ (h | ⟨h,_⟩)
      . exact h
      . exact absurd rfl h
    have hput:=hs.put (w':=w') (g':=g.add h.length 0 (A2,cap2)) (h':=h++[.mk 0 e i.size news]) h.length 0 e i.size news A2 cap2
      (λj hj=>by
        by_cases hlt:j<h.length
        . rw[List.getElem?_append_left hlt]
        . rw[List.getElem?_eq_none (by simp;omega),List.getElem?_eq_none (by omega)]) (by simp) (by simp) rfl hlocm
      (λj vv l hj=>by
        simp only[Gh.add] at hj;split at hj
        . right;assumption
        . left;exact hj) (by simp[Gh.add]) (λvv l hl=>(hf vv l hl).elim)
      (by
        rintro k (hk | ⟨j,hj,hk⟩ | hk);rotate_left 2
        . exact hold k (hs.own_not_D (.inr hk)).2
        . exact hDw k hk
        . exact hold k (hs.own_not_D (.inl ⟨j,hk⟩)).2) hgrow.size hcm2
      (by
        rcases hrow with h0 | ⟨b',arr',rfl,hc0,hb',hs',htk,hor⟩
        . left;refine⟨?_,h0⟩
          have l2 : news.length = 0 := by rw [hnl]; have : m = 0 := by omega
                                          simp[this]
          exact List.length_eq_zero_iff.1 l2
        . have hge:=hnew b' arr' rfl hc0 hor;refine .inr ⟨b',arr',rfl,hc0,λhd=>by have:=hs.lt _ hd;omega,hb',hs',?_,?_⟩
          . rw[hnl,hs'];exact Nat.mul_le_mul_right _ hle2
          . rw[hnl,htk];exact RepL.mono hle' hDw _ _ u1)
      (by
        rintro k hk h0 j hj ho;rcases hrow with h0' | ⟨b',arr',rfl,hc0,hb',hs',htk,hor⟩
        . exact h0 h0'
        . simp at hk;subst hk;have hge:=hnew b' arr' rfl hc0 hor;have:=(hs.own_not_D (.inl ⟨j,ho⟩)).2;omega)
      (by
        intro k hk h0 hlt;rcases hrow with h0' | ⟨b',arr',rfl,hc0,hb',hs',htk,hor⟩
        . exact absurd h0' h0
        . simp at hk;subst hk;have hge:=hnew b' arr' rfl hc0 hor;omega)
    refine⟨.value (.slice A2 m cap2),_,w',_,by rw[hexec (ρ x) A 0 0 es rfl,hrun];rfl,.inl rfl,F8 hle2 hcm2,hput.1,hput.2.1,hfr,?_⟩;intro k hk;rcases hput.2.2 k hk with ho | ⟨hk1,hk2⟩
    . exact .inl ho
    . rcases hrow with h0' | ⟨b',arr',rfl,hc0,hb',hs',htk,hor⟩
      . exact absurd h0' hk2
      . simp at hk1;subst hk1;exact .inr (hnew b' arr' rfl hc0 hor)
def snd_cap {dst type pos after guard}{t e:TypeId}(x:Operand) (hu:P.underlying t=some (.slice e)) :
  Dp P ⟨dst,.call { callee:=.builtin .cap,args := #[x],argTypes := #[t] },type,pos,after,guard⟩ (.cap x):=by
 intro h τ av hv w g ρ hs hr;simp only[aval] at hv;have h1:=hr x (by simp[Op.operands,Call.operands]);split at hv <;> try (cases hv;done)
 rename_i n st cs hx;rw[hx] at h1;simp only[Rep] at h1;obtain⟨_,A,cap,e1,_,_,hf,_⟩:=h1;have:=hf trivial;subst this;cases hv;refine⟨_,?_,Lr _ _ _⟩;simp[execOp,resolve,invoke,builtin,Builtin.cap_,e1,run_underlying hu,goInt]
def snd_appz {dst type pos after guard}{t u e:TypeId}{kn:IntKind}{i:TypeInfo}{z:List AV}(s x:Operand) (ht:P.underlying t=some (.slice e)) (hu:P.underlying u=some (.int kn))
  (hi:P.info? e=some i) (hz:Jc P e=some z):Nx P ⟨dst,.call { callee:=.builtin .append,args := #[s,x],argTypes := #[t,u] },type,pos,after,guard⟩ (.appz e i.size i.bytes s x):=by
 intro h τ av h' hv w g ρ hs hr;obtain⟨i',v,hi',hzv,hsz,rfl⟩:=Jt hz;rw[hi] at hi';cases hi';have hrs:=hr s (by simp[Op.operands,Call.operands]);have hrx:=hr x (by simp[Op.operands,Call.operands]);simp only[aeff] at hv;split at hv <;> try (cases hv;done)
 rename_i st cs kq k hτs hτx;split at hv <;> try (cases hv;done)
 rename_i hc;obtain⟨hk0,hsz0,hb0,hby⟩:=hc;simp only[Option.some.injEq,Prod.mk.injEq] at hv;obtain⟨rfl,rfl⟩:=hv;rw[hτs] at hrs;rw[hτx] at hrx;simp only[Rep] at hrs hrx;obtain⟨_,A,cap,es,_,_,hf,_⟩:=hrs;obtain rfl:cap=0:=(hf trivial).symm;obtain⟨m,rfl⟩ : ∃ m:Nat,k=(m:Int):=⟨k.toNat,by omega⟩;have hm0:0<m:=by omega
 have hmb:m*i.bytes<=140737488355328:=by
  have h5:=hby;rw[<-Int.natCast_mul] at h5;omega
 have hd0:SimH w.drew g h:=hs.world (λ_ _=>rfl) (Nat.le_refl _)
 .have h63:m<=140737488355328:=Nat.le_trans (Nat.le_mul_of_pos_right m (by omega)) hmb;have hfc:(Builtin.firstCells i.size 0 (.slice A 0 0)).run P w.drew=.ok ([]:List Value).toArray w.drew:=by
   cases A <;> simp[Builtin.firstCells,loadCells,loadCellsFrom]
  have hrun:=Lib.run_append_grow_zeros (P:=P) w t u type e i v kq kn ht hu hi hzv A 0 0 [] hfc m hm0 hsz0 (by omega) (by omega) (by omega) (growslice_fits (by omega) (by simpa using hmb));have hG:=grownCap_ge w (0+m) 0 e;have hG2:=grownCap_le_maxLen w (0+m) 0 e (by simp only[maxLen];omega);generalize grownCap w (0+m) 0 e=G at hrun hG hG2;rw[Nat.zero_add] at hrun hG;obtain⟨h1,h2,h3,h4⟩:=hd0.alloc (arr := #[]++Builtin.zeroCells v.cells m++Builtin.zeroCells v.cells (G-m)) (cells:=[]) e i.size G (by simp only[List.length_nil,List.take_zero,RepL]) (by simp) (by
   simp only[Array.size_append,size_zeroCells,hsz,List.size_toArray,List.length_nil,Nat.zero_add,<-Nat.add_mul];congr 1;all_goals omega) hG2 (by omega)
  refine⟨_,.slice (some ⟨w.heap.size,0,none⟩) m G,_,_,?_,.inl rfl,?_,h1,h2,⟨h3.os,h3.tape,h3.output,h3.size,h3.block⟩,h4⟩
  .simp only[execOp,resolve,invoke,builtin];simp[es,hrx,hrun]
  .simp only[Rep,Int.toNat_natCast];exact⟨some ⟨w.heap.size,0,none⟩,G,by simp[Gh.add],hG,hG2,rfl⟩
end
section
variable {P : Program}
def Zg {dst type pos after guard}{op:BinOp}{t yt:TypeId}{x y:Operand}{ao:AOp}(h:L1 P op t x y=some ao):(Dp P ⟨dst,.binOp op t x y yt,type,pos,after,guard⟩ ao/\(∀ h τ,aeff h τ ao=none) /\ ∀ n x,ao ≠ .eqn n x) \/
  (∃ neg x' t' yt' e,ao=.eqn neg x'/\Op.binOp op t x y yt=.binOp (bif neg then .neq else .eql) t' x' (.const (.slice none 0 0)) yt'/\P.underlying t'=some (.slice e)):=by
 unfold L1 at h;split at h <;> try (cases h;done)
 .cases h;exact .inl ⟨oJ x y,λ_ _=>rfl,by simp⟩
 .cases h;exact .inl ⟨oJ x y,λ_ _=>rfl,by simp⟩
 .rename_i hu;split at h <;> try (cases h;done)
  .cases h;exact .inl ⟨oI false x y hu rfl,λ_ _=>rfl,by simp⟩
  .cases h;exact .inl ⟨oI true x y hu rfl,λ_ _=>rfl,by simp⟩
 .rename_i fs hu;split at h <;> try (cases h;done)
  .rename_i ks hk;split at h <;> try (cases h;done)
   rename_i hg;cases h;exact .inl ⟨oH false x y hu hk hg rfl,λ_ _=>rfl,by simp⟩
  .rename_i ks hk;split at h <;> try (cases h;done)
   rename_i hg;cases h;exact .inl ⟨oH true x y hu hk hg rfl,λ_ _=>rfl,by simp⟩
 .rename_i e hu;split at h <;> try (cases h;done)
  .cases h;exact .inr ⟨false,_,_,_,e,rfl,rfl,hu⟩
  .cases h;exact .inr ⟨true,_,_,_,e,rfl,rfl,hu⟩
def Zf {dst type pos after guard}{s d:TypeId}{x:Operand}{ao:AOp}(h:L0 P s d x=some ao):Dp P ⟨dst,.convert s d x,type,pos,after,guard⟩ ao /\ ∀ h τ,aeff h τ ao=none:=by
 unfold L0 at h;split at h <;> try (cases h;done)
 .rename_i h1 h2;cases h;exact⟨snd_cvi x h1 h2,λ_ _=>rfl⟩
 .rename_i h1 h2;cases h;exact⟨snd_cvs x h1 h2,λ_ _=>rfl⟩
 .rename_i h1 h2;split at h <;> try (cases h;done)
  rename_i h3;cases h;exact⟨snd_b2s x h1 h2 h3,λ_ _=>rfl⟩
def OSound (P:Program) (o:Oper) (ao:AOp):Prop :=
 (Dp P o ao/\Nx P o ao/\(∀ f xs,ao ≠ .call f xs)/\(∀ x,ao ≠ .panic x) /\ ∀ n x,ao ≠ .eqn n x) \/
 (∃ f xs ts,ao=.call f xs/\o.op=.call { callee:=.value f,args:=xs.toArray,argTypes:=ts })\/(∃ x,ao=.panic x/\o.op=.panic x)\/(∃ neg x t yt e,ao=.eqn neg x/\o.op=.binOp (bif neg then .neq else .eql) t x (.const (.slice none 0 0)) yt/\P.underlying t=some (.slice e))
def OSound.a {o:Oper}{ao:AOp}(h:Dp P o ao) (he : ∀ h τ,aeff h τ ao=none) (hc : ∀ f xs,ao ≠ .call f xs) (hp : ∀ x,ao ≠ .panic x) (hq : ∀ n x,ao ≠ .eqn n x):OSound P o ao :=
 .inl ⟨h,(by intro h τ av h' hv;rw[he] at hv;cases hv),hc,hp,hq⟩
def OSound.e {o:Oper}{ao:AOp}(h:Nx P o ao) (he : ∀ h τ,aval h τ ao=none) (hc : ∀ f xs,ao ≠ .call f xs) (hp : ∀ x,ao ≠ .panic x) (hq : ∀ n x,ao ≠ .eqn n x):OSound P o ao :=
 .inl ⟨(by intro h τ av hv;rw[he] at hv;cases hv),h,hc,hp,hq⟩
def list1 {α:Type}{a:Array α}{x:α}(h:a.toList=[x]):a = #[x]:=by rw[<-Array.toArray_toList (xs:=a),h]
def list2 {α:Type}{a:Array α}{x y:α}(h:a.toList=[x,y]):a = #[x,y]:=by rw[<-Array.toArray_toList (xs:=a),h]
def Yn {dst type pos after guard}{c:Call}{ao:AOp}(h:La P c=some ao):OSound P ⟨dst,.call c,type,pos,after,guard⟩ ao:=by
 obtain⟨callee,args,ts⟩:=c;unfold La at h;dsimp only at h;split at h <;> try (cases h;done)
 .rename_i f;cases h;exact .inr (.inl ⟨f,args.toList,ts,rfl,by simp⟩)
 .split at h <;> try (cases h;done)
  rename_i x t ha ht;have ha:=list1 ha;have ht:=list1 ht;subst ha;subst ht;split at h <;> try (cases h;done)
  .rename_i hu;cases h;exact .a (snd_lenS x hu) (λ_ _=>rfl) (by simp) (by simp) (by simp)
  .rename_i hu;cases h;exact .a (snd_lenL x hu) (λ_ _=>rfl) (by simp) (by simp) (by simp)
 .split at h <;> try (cases h;done)
  rename_i x t ha ht;have ha:=list1 ha;have ht:=list1 ht;subst ha;subst ht;split at h <;> try (cases h;done)
  rename_i hu;cases h;exact .a (snd_cap x hu) (λ_ _=>rfl) (by simp) (by simp) (by simp)
 .split at h <;> try (cases h;done)
  rename_i x y ha;have ha:=list2 ha;subst ha;cases h;exact .a (snd_mm true x y) (λ_ _=>rfl) (by simp) (by simp) (by simp)
 .split at h <;> try (cases h;done)
  rename_i x y ha;have ha:=list2 ha;subst ha;cases h;exact .a (snd_mm false x y) (λ_ _=>rfl) (by simp) (by simp) (by simp)
 .split at h <;> try (cases h;done)
  rename_i s x t u ha ht;have ha:=list2 ha;have ht:=list2 ht;subst ha;subst ht;split at h <;> try (cases h;done)
  .rename_i e e' h1 h2;split at h <;> try (cases h;done)
   rename_i i z hi hz;split at h <;> try (cases h;done)
   rename_i hcond;obtain⟨rfl,hb⟩:=hcond;cases h;exact .e (oK s x h1 h2 (.inl rfl) hi hz hb) (λ_ _=>rfl) (by simp) (by simp) (by simp)
  .rename_i e kn h1 h2;split at h <;> try (cases h;done)
   rename_i i z hi hz;cases h;exact .e (snd_appz s x h1 h2 hi hz) (λ_ _=>rfl) (by simp) (by simp) (by simp)
  .rename_i e h1 h2;split at h <;> try (cases h;done)
   rename_i i z hi hz;split at h <;> try (cases h;done)
   rename_i hb;cases h;exact .e (oK s x h1 h2 (.inr rfl) hi hz hb) (λ_ _=>rfl) (by simp) (by simp) (by simp)
def No {o:Oper}{ao:AOp}(h:K8 P o=some ao):OSound P o ao:=by
 obtain⟨dst,op,type,pos,after,guard⟩:=o;unfold K8 at h;dsimp only at h;split at h <;> try (cases h;done)
 .cases h;exact .a (snd_mv _ _ (.inl rfl)) (λ_ _=>rfl) (by simp) (by simp) (by simp)
 .cases h;exact .a (snd_mv _ _ (.inr rfl)) (λ_ _=>rfl) (by simp) (by simp) (by simp)
 .cases h;exact .a (snd_pick _ _ _) (λ_ _=>rfl) (by simp) (by simp) (by simp)
 .split at h <;> try (cases h;done)
  rename_i i z hi hz;cases h;exact .e (snd_new hi hz) (λ_ _=>rfl) (by simp) (by simp) (by simp)
 .simp only[Option.map_eq_some_iff] at h;obtain⟨i,hi,rfl⟩:=h;exact .e (snd_box _) (λ_ _=>rfl) (by simp) (by simp) (by simp)
 .split at h <;> try (cases h;done)
  rename_i fs z hu hz;split at h <;> try (cases h;done)
  rename_i hall;simp only[Option.map_eq_some_iff] at h;obtain⟨qs,hq,rfl⟩:=h;exact .a (rU hu hz hall hq) (λ_ _=>rfl) (by simp) (by simp) (by simp)
 .split at h <;> try (cases h;done)
  rename_i e hu;split at h <;> try (cases h;done)
  rename_i i hi;split at h <;> try (cases h;done)
  rename_i z hz;split at h
  .rename_i hc;obtain⟨rfl,rfl⟩:=hc;cases h;exact .e (snd_lit0 (z:=z) hu hi) (λ_ _=>rfl) (by simp) (by simp) (by simp)
  .split at h <;> try (cases h;done)
   rename_i hc;obtain⟨h0,hm,hb⟩:=hc;cases h;exact .e (snd_lit hu hi hz hb h0 hm) (λ_ _=>rfl) (by simp) (by simp) (by simp)
 .split at h <;> try (cases h;done)
  rename_i d i hd hi;cases h;exact .a (snd_load _ hd hi) (λ_ _=>rfl) (by simp) (by simp) (by simp)
 .simp only[Option.map_eq_some_iff] at h;obtain⟨i,hi,rfl⟩:=h;exact .e (rT _ _ hi) (λ_ _=>rfl) (by simp) (by simp) (by simp)
 .cases h;exact .a (snd_nck _) (λ_ _=>rfl) (by simp) (by simp) (by simp)
 .rcases Zg (dst:=dst) (type:=type) (pos:=pos) (after:=after) (guard:=guard) (yt:=_) h with ⟨h1,h2,h3⟩ | hq
  .refine .a h1 h2 ?_ ?_ h3
   all_goals
    unfold L1 at h
    intros
    rintro rfl
    (repeat' split at h) <;> cases h
  .obtain⟨neg,x',t',yt',e,q1,q2,q3⟩:=hq;exact .inr (.inr (.inr ⟨neg,x',t',yt',e,q1,q2,q3⟩))
 .cases h;exact .a (snd_un _) (λ_ _=>rfl) (by simp) (by simp) (by simp)
 .obtain⟨h1,h2⟩:=Zf (dst:=dst) (type:=type) (pos:=pos) (after:=after) (guard:=guard) h;refine .a h1 h2 ?_ ?_ ?_
  all_goals
   unfold L0 at h
   intros
   rintro rfl
   (repeat' split at h) <;> cases h
 .split at h <;> try (cases h;done)
  rename_i d hni hd;cases h;exact .a (snd_mkif _ hd (λms e=>hni ms e)) (λ_ _=>rfl) (by simp) (by simp) (by simp)
 .split at h
  .rename_i h1;cases h;subst h1;exact .a snd_mkfn (λ_ _=>rfl) (by simp) (by simp) (by simp)
  split at h <;> try (cases h;done)
  rename_i h1;cases h;subst h1;exact .a snd_mkbd (λ_ _=>rfl) (by simp) (by simp) (by simp)
 .split at h <;> try (cases h;done)
  .rename_i e hu;simp only[Option.map_eq_some_iff] at h;obtain⟨i,hi,rfl⟩:=h;exact .a (snd_slc _ _ _ _ hu hi) (λ_ _=>rfl) (by simp) (by simp) (by simp)
  .rename_i hu;split at h <;> try (cases h;done)
   cases h;exact .a (snd_sls _ _ _ hu) (λ_ _=>rfl) (by simp) (by simp) (by simp)
 .split at h <;> try (cases h;done)
  rename_i fs hu;split at h <;> try (cases h;done)
  rename_i fd hf;split at h <;> try (cases h;done)
  rename_i i hi;split at h <;> try (cases h;done)
  rename_i hn;cases h;exact .a (snd_fa _ hu hf hi hn) (λ_ _=>rfl) (by simp) (by simp) (by simp)
 .split at h <;> try (cases h;done)
  rename_i fs hu;split at h <;> try (cases h;done)
  rename_i fd hf;split at h <;> try (cases h;done)
  rename_i d i hd hi;cases h;exact .a (snd_fld _ hu hf hd hi) (λ_ _=>rfl) (by simp) (by simp) (by simp)
 .simp only[Option.map_eq_some_iff] at h;obtain⟨st,hst,rfl⟩:=h;exact .a (snd_ia _ _ hst) (λ_ _=>rfl) (by simp) (by simp) (by simp)
 .split at h <;> try (cases h;done)
  rename_i hu;cases h;exact .a (snd_ix _ _ hu) (λ_ _=>rfl) (by simp) (by simp) (by simp)
 .cases h;exact .a (snd_ext _ _) (λ_ _=>rfl) (by simp) (by simp) (by simp)
 .exact Yn h
 .cases h;exact .inr (.inr (.inl ⟨_,rfl,rfl⟩))
def M4 {o:Oper}{agg:Bool}{sz:Nat}{x:Operand}:K8 P o≠some (.loadR agg sz x):=by
 intro h;obtain⟨dst,op,type,pos,after,guard⟩:=o;cases op <;> simp only[K8] at h <;> (try unfold L1 at h) <;> (try unfold L0 at h) <;> (try unfold La at h) <;> (repeat' split at h) <;> first | (cases h;done) | (simp[Option.map_eq_some_iff] at h;done)
def OSound.toR {o:Oper}{ao:AOp}(h:OSound P o ao):OSound P o (toR ao):=by
 cases ao <;> try (exact h)
 rename_i agg sz x;rcases h with ⟨ha,he,hc,hp,hq⟩ | ⟨f,xs,ts,e,_⟩ | ⟨x,e,_⟩ | ⟨_,_,_,_,_,e,_⟩ <;> try (cases e;done)
 refine OSound.a ?_ (λ_ _=>rfl) (by simp[Go.Ab.toR]) (by simp[Go.Ab.toR]) (by simp[Go.Ab.toR]);intro h τ av hv;refine ha h τ av ?_;simp only[Go.Ab.toR,aval] at hv;split at hv <;> try (cases hv;done)
 all_goals
  rename_i cs hx
  simp only[aval,hx,Fe,Option.bind_some]
  exact hv
def Hw {S:List Nat}{o:Oper}{ao:AOp}(h:Np P S o=some ao):OSound P o ao:=by
  unfold Np at h;split at h <;> split at h
  all_goals first
    | exact No h
    | (simp only [Option.map_eq_some_iff] at h
       obtain⟨a,h1,rfl⟩:=h
       exact (No h1).toR)
end
section
variable {P : Program} {n0 : Nat}
def AYield (P:Program) (l:Nat) (args:List AV) (h:AH) (R:AE->AH->Prop):Prop :=
 ∀ w g (vs:Array Value),SimH w g h->RepL w g args vs.toList->YieldAt Fence.wide 0 P l vs w λe w' => ∃ x h' g',EndR w' g' e x/\SimH w' g' h'/\g.le g'/\Fr w (Ow g h) w'/\(∀ k,Ow g' h' k->Ow g h k\/w.heap.size<=k)/\R x h'
def ERun (P:Program) (o:Oper) (ρ:Operand->Value) (w:World) (R:Ending->World->Prop):Prop :=
 (∃ f vs,(execOp ρ o).run P w=.ok (.enter f vs) w/\Calls P f vs w R) \/
 (∃ l f tmps assign body,(execOp ρ o).run P w=.ok (.round l f tmps assign body) w/\RoundIn Fence.wide 0 P l f tmps assign body w R)
def ERun.mono {o:Oper}{ρ:Operand->Value}{w:World}{R R':Ending->World->Prop}(h:ERun P o ρ w R) (hr : ∀ e w',R e w'->R' e w'):ERun P o ρ w R':=by
 rcases h with ⟨f,vs,h1,h2⟩ | ⟨l,f,tmps,a,b,h1,h2⟩
 .exact .inl ⟨f,vs,h1,h2.mono hr⟩
 .exact .inr ⟨l,f,tmps,a,b,h1,h2.mono hr⟩
def ERun.wp [Rd] {o:Oper}{a:Act}{w:World}{K:Act->World->Prop}{Q:Exit->Act->World->Prop}(h:ERun P o a.eval w fun
  | .returned v,w''=>K (a.put o.dst v) w''
  | .panicked chain,w''=>Q (.panic chain) a w''
  | .outgrown,_=>LetsOut Q):o.wpIn Rd.F 0 P a w K Q:=by
 rcases h with ⟨f,vs,h1,h2⟩ | ⟨l,f,tmps,asg,b,h1,h2⟩
 .exact Oper.wpR_enter h1 h2
 .exact Oper.wpR_round h1 h2
def Hy (P:Program) (f:AV) (args:List AV) (h:AH) (R:AE->AH->Prop):Prop :=
 match f with
 | .v (.func (.func k) a b)=>a = #[]/\b = #[]/\ACalls P k args h R
 | .v (.func (.yield l) a b)=>a = #[]/\b = #[]/\AYield P l args h R
 | .clo (.func k) caps=>ACalls P k (args++caps) h R
 | .bnd (.func k) first=>ACalls P k (first++args) h R
 | _=>False
def agd (g:Option (Nat×Bool)) (T:List AV) (f:Bool->Prop):Prop :=
 match g with
 | none=>f true
 | some (t,want)=>match T[t]? with
  | some (.v (.bool b))=>f (b==want)
  | some (.v (.tuple _))=>f false
  | _=>False
def astep (P:Program) (Kp:AV->List AV->AH->Prop) (o:AOper) (T:List AV) (h:AH) (K:List AV->AH->Prop):Prop :=
 match o.op with
 | .call f xs=>Hy P (Ae T f) (xs.map (Ae T)) h λr h'=>match r with
  | .ret c=>K (aPut T o.dst c) h'
  | .pan c=>Kp c T h'
 | .panic x=>match Ae T x with
  | .v (.iface t v)=>Kp (.v (.iface t v)) T h
  | _=>False
 | .eqn neg x=>match Ae T x with
  | .sl n _ _ _ => ∀ b,(0<n->b=neg)->K (aPut T o.dst (.v (.bool b))) h
  | _=>False
 | op=>match aval h (Ae T) op with
  | some c=>K (aPut T o.dst c) h
  | none=>match aeff h (Ae T) op with
   | some (c,h')=>K (aPut T o.dst c) h'
   | none=>False
def arun (P:Program) (Kp:AV->List AV->AH->Prop):List AOper->List AV->AH->(List AV->AH->Prop)->Prop
 | [],T,h,K=>K T h
 | o::rest,T,h,K=>agd o.guard T λb=>(b=true->astep P Kp o T h λT h=>arun P Kp rest T h K)/\(b=false->arun P Kp rest (aPut T o.dst (.v undef)) h K)
def M5 (ops:Array Oper):Option (Nat×Bool)->Option (Option (Nat×Bool))
 | none=>some none
 | some (j,b)=>match (ops[j]?).bind (·.dst) with
  | some t=>some (some (t,b))
  | none=>none
def D6 (P:Program) (S:List Nat) (ops:Array Oper) (o:Oper):Option AOper :=
 match Np P S o,M5 ops o.guard with
 | some ao,some gd=>some ⟨o.dst,gd,ao⟩
 | _,_=>none
def nE {ops:Array Oper}{o:Oper}{gd:Option (Nat×Bool)}(hg:M5 ops o.guard=some gd) {T:List AV}{f:Bool->Prop}(h:agd gd T f) {w:World}{g:Gh}{a:Act}(ht:RepL w g T a.tmps.toList) :
  ∃ b,Region.wanted o (yielded ops a.tmps)=b/\f b:=by
 unfold M5 at hg;split at hg
 .rename_i hn;cases hg;exact⟨true,by simp[Region.wanted,hn],h⟩
 .rename_i j b hn;split at hg <;> try (cases hg;done)
  rename_i t hd;cases hg;simp only[agd] at h;split at h <;> try (exact h.elim)
  .rename_i c hT;obtain⟨u,h1,h2⟩:=ht.get hT;simp only[Rep] at h2;subst h2;have h1':a.tmps[t]?=some (.bool c):=by simpa using h1
   refine⟨c==b,?_,h⟩;simp only[Region.wanted,hn,yielded,hd];simp[h1']
  .rename_i vs hT;obtain⟨u,h1,h2⟩:=ht.get hT;simp only[Rep] at h2;subst h2;have h1':a.tmps[t]?=some (.tuple vs):=by simpa using h1
   refine⟨false,?_,h⟩;simp only[Region.wanted,hn,yielded,hd];simp[h1']
def Z2 (w:World) (g:Gh):Rep w g (.v undef) undef:=by simp only[Rep]
def KP (n0:Nat) (w0:World) (S0:Nat->Prop) (g0:Gh) (K:List AV->AH->Prop):Act->World->Prop:=λa w => ∃ T h g,St n0 w0 S0 g0 T h a w g/\K T h
def W4 {o:Oper}{f:Operand}{xs:List Operand}{ts:Array TypeId}(ho:o.op=.call { callee:=.value f,args:=xs.toArray,argTypes:=ts }) {ρ:Operand->Value}{fn:FuncId}{caps:Array Value}(hf:ρ f=.func (.func fn) #[] caps) (he:enters P fn=true) (w:World) :
  (execOp ρ o).run P w=.ok (.enter fn ((xs.map ρ).toArray++caps)) w:=by
 unfold enters at he;split at he <;> try (cases he;done)
 rename_i fd hfd;simp only[Bool.and_eq_true,bne_iff_ne,ne_eq] at he;have hb:fd.body≠none:=by intro e;simp[e] at he
 simp[execOp,ho,resolve,hf,Deferred.ofValue,invoke,callFunc,hfd,he.1,hb]
def rZ {o:Oper}{f:Operand}{xs:List Operand}{ts:Array TypeId}(ho:o.op=.call { callee:=.value f,args:=xs.toArray,argTypes:=ts }) {ρ:Operand->Value}{fn:FuncId}{fi:Array Value}(hf:ρ f=.func (.func fn) fi #[]) (he:enters P fn=true) (w:World) :
  (execOp ρ o).run P w=.ok (.enter fn (fi++(xs.map ρ).toArray)) w:=by
 unfold enters at he;split at he <;> try (cases he;done)
 rename_i fd hfd;simp only[Bool.and_eq_true,bne_iff_ne,ne_eq] at he;have hb:fd.body≠none:=by intro e;simp[e] at he
 simp[execOp,ho,resolve,hf,Deferred.ofValue,invoke,callFunc,hfd,he.1,hb]
def Qd {o:Oper}{f:Operand}{xs:List Operand}{ts:Array TypeId}(ho:o.op=.call { callee:=.value f,args:=xs.toArray,argTypes:=ts }) {T:List AV}{h:AH}{R:AE->AH->Prop}(hc:Hy P (Ae T f) (xs.map (Ae T)) h R) {w:World}{g:Gh}{ρ:Operand->Value}(hs:SimH w g h) (hf:Rep w g (Ae T f) (ρ f)) (hx : ∀ x∈xs,Rep w g (Ae T x) (ρ x)) :
  ERun P o ρ w λe w' => ∃ x h' g',EndR w' g' e x/\SimH w' g' h'/\g.le g'/\Fr w (Ow g h) w'/\(∀ k,Ow g' h' k->Ow g h k\/w.heap.size<=k)/\R x h':=by
 unfold Hy at hc;split at hc <;> try (exact hc.elim)
 .rename_i k a b he;rw[he] at hf;simp only[Rep] at hf;obtain⟨rfl,rfl,hen,hcall⟩:=hc;exact .inl ⟨k,_,W4 ho hf hen w,hcall w g _ hs (by simpa using Kv xs hx)⟩
 .rename_i l a b he;rw[he] at hf;simp only[Rep] at hf;obtain⟨rfl,rfl,hcall⟩:=hc;obtain⟨fn,tmps,asg,bd,h1,h2⟩:=hcall w g (xs.map ρ).toArray hs (by simpa using Kv xs hx);refine .inr ⟨l,fn,tmps,asg,bd,?_,h2⟩;simp[execOp,ho,resolve,hf,Deferred.ofValue,invoke,h1]
 .rename_i k caps he;rw[he] at hf;simp only[Rep] at hf;obtain⟨vs,e,hr⟩:=hf;obtain⟨hen,hcall⟩:=hc;exact .inl ⟨k,_,W4 ho e hen w,hcall w g _ hs (by simpa using (Kv xs hx).append hr)⟩
 .rename_i k caps he;rw[he] at hf;simp only[Rep] at hf;obtain⟨vs,e,hr⟩:=hf;obtain⟨hen,hcall⟩:=hc;exact .inl ⟨k,_,rZ ho e hen w,hcall w g _ hs (by simpa using hr.append (Kv xs hx))⟩
def kC [Rd] {o:Oper}{ao:AOp}{dst:Option Nat}{gd:Option (Nat×Bool)}(hd:dst=o.dst) (hos:OSound P o ao) {Q:AX->List AV->AH->Prop}{K:List AV->AH->Prop}{T:List AV}{h:AH}
    (hstep:astep P (λc T h=>Q (.pan c) T h) ⟨dst,gd,ao⟩ T h K) {w0:World} {S0:Nat->Prop} {g0:Gh} {a:Act} {w:World} {g:Gh} (hs:St n0 w0 S0 g0 T h a w g) :
    o.wpIn Rd.F 0 P a w (KP n0 w0 S0 g0 K) (Vj n0 w0 S0 g0 Q):=by
  subst hd;rcases hos with ⟨ha,he,hnc,hnp,hnq⟩ | ⟨f,xs,ts,rfl,ho⟩ | ⟨x,rfl,ho⟩ | ⟨neg,x,t,yt,e,rfl,ho,hu⟩
  . have hstep' : match aval h (Ae T) ao with
        | some c=>K (aPut T o.dst c) h
        | none=>match aeff h (Ae T) ao with
          | some (c,h')=>K (aPut T o.dst c) h'
          | none=>False:=by
      cases ao <;> first | exact hstep | exact absurd rfl (hnc _ _) | exact absurd rfl (hnp _) | exact absurd rfl (hnq _ _)
    have hr : ∀ x∈o.op.operands,Rep w g (Ae T x) (a.eval x):=λx _=>Fp hs.tmps x;cases hv:aval h (Ae T) ao with
    | some c =>
      rw[hv] at hstep'
      obtain⟨v,h1,h2⟩:=ha h (Ae T) c hv w g a.eval hs.sim hr
      exact Oper.wpR_value h1 ⟨_,h,g,hs.aput h2,hstep'⟩
    | none =>
      rw[hv] at hstep'
      cases hv2:aeff h (Ae T) ao with
      | none=>rw[hv2] at hstep';exact hstep'.elim
      | some p =>
        obtain⟨c,h'⟩:=p
        rw[hv2] at hstep'
        obtain⟨n,v,w',g',h1,h2,h3,h4,h5,h6,h7⟩:=he h (Ae T) c h' hv2 w g a.eval hs.sim hr
        have hst:=hs.call h4 h5 h6 h7
        rcases h2 with rfl | ⟨rfl,rfl⟩
        . exact Oper.wpR_value h1 ⟨_,h',g',hst.aput h3,hstep'⟩
        . exact Oper.wpR_skip h1 ⟨_,h',g',hst.aput h3,hstep'⟩
  . simp only[astep] at hstep;refine ((Qd ho hstep hs.sim (Fp hs.tmps f) (λx _=>Fp hs.tmps x)).mono ?_).wp;rintro e w' ⟨x,h',g',k1,k2,k3,k4,k5,k6⟩;have hst:=hs.call k2 k3 k4 k5;cases x <;> cases e <;> simp only[EndR] at k1 <;> simp only at k6
    . exact⟨_,h',g',hst.aput k1,k6⟩
    . exact⟨_,_,h',g',hst,by simp only[ExR];exact k1,k6⟩
  . simp only[astep] at hstep;split at hstep <;> try (exact hstep.elim)
    rename_i t v he;have hx:=Fp hs.tmps x;rw[he] at hx;simp only[Rep] at hx;have hrun:(execOp a.eval o).run P w=.halt (.panic (.iface t v)) w:=by
      simp[execOp,ho,hx,Instr.panic]
    exact Oper.wpR_panic hrun (by simp[ho]) ⟨_,T,h,g,hs,by simp only[ExR];exact⟨_,rfl,by simp only[Rep]⟩,hstep⟩
  . have key : ∀ (A:Option Addr) (n cap:Nat),a.eval x=.slice A n cap->(∀ b,(0<n->b=neg)->K (aPut T o.dst (.v (.bool b))) h)->(0<n->A≠none)->o.wpIn Rd.F 0 P a w (KP n0 w0 S0 g0 K) (Vj n0 w0 S0 g0 Q):=by
      intro A n cap hx hk hA;have hg : ∀ op,(eqGuard op t x (.const (.slice none 0 0)) (.slice A n cap) (.slice none 0 0)).run P w=.ok () w:=by
        intro op;unfold eqGuard;cases op <;> simp
      have hcn:a.eval (.const (.slice none 0 0))=.slice none 0 0:=rfl;have hrun:(execOp a.eval o).run P w=.ok (.value (.bool (bif neg then !A.isNone else A.isNone))) w:=by
        cases neg
        . have:=Lib.run_eql_slice_nil (P:=P) w t e A n cap 0 0 hu;simp only[execOp,ho,hx,cond_false,hcn,Sem.run_bind,hg,Result.andThen_ok,this,Sem.run_pure]
        . have:=run_neq_slice_nil (P:=P) (w:=w) t e A n cap hu;simp only[execOp,ho,hx,cond_true,hcn,Sem.run_bind,hg,Result.andThen_ok,this,Sem.run_pure]
      refine Oper.wpR_value hrun ⟨_,h,g,hs.aput (c:=.v (.bool (bif neg then !A.isNone else A.isNone))) (by simp only[Rep]),hk _ ?_⟩;intro h0;cases A with
      | none=>exact absurd rfl (hA h0)
      | some b=>cases neg <;> rfl
    simp only[astep] at hstep;have hx:=Fp hs.tmps x;split at hstep <;> try (exact hstep.elim)
    rename_i n st full cs he;rw[he] at hx;simp only[Rep] at hx;obtain⟨_,A,cap,h1,h2,_,_,h3,_⟩:=hx;exact key A n cap h1 hstep (λh0 hn=>by have:=h3 hn;omega)
def Yx [Rd] {S:List Nat}{ops:Array Oper}{Q:AX->List AV->AH->Prop}{w0:World}{S0:Nat->Prop}{g0:Gh} : ∀ (l:List Oper) (al:List AOper) (k:Nat),ops.toList.drop k=l->l.mapM (D6 P S ops)=some al ->
  ∀ (T:List AV) (h:AH) (a:Act) (w:World) (g:Gh),arun P (λc T h=>Q (.pan c) T h) al T h (λT h=>Q .normal T h)->St n0 w0 S0 g0 T h a w g->wpOpsIn Rd.F 0 P ops (Vj n0 w0 S0 g0 Q) (List.range' k l.length) a w
 | [],al,k,hl,hm,T,h,a,w,g,hr,hs=>by
  simp at hm;subst hm;simp only[List.length_nil,List.range'_zero,wpOpsIn];exact⟨.normal,T,h,g,hs,trivial,hr⟩
 | o::l,al,k,hl,hm,T,h,a,w,g,hr,hs=>by
  simp only[List.mapM_cons,Option.bind_eq_bind,Option.bind_eq_some_iff,Option.pure_def,Option.some.injEq] at hm;obtain⟨ao,h1,al',h2,rfl⟩:=hm;unfold D6 at h1;split at h1 <;> try (cases h1;done)
  rename_i aop gd hao hgd;cases h1;have hk:ops[k]?=some o:=by have:=congrArg (·[0]?) hl;simpa [List.getElem?_drop] using this
  have hk1:ops.toList.drop (k+1)=l:=by rw[<-List.tail_drop,hl];rfl
  have ih:=Yx (Q:=Q) (w0:=w0) (S0:=S0) (g0:=g0) l al' (k+1) hk1 h2;simp only[List.length_cons,List.range'_succ];rw[wpOpsIn_cons];unfold wpOpIn;simp only[hk];simp only[arun] at hr;obtain⟨b,hb,hf⟩:=nE hgd hr hs.tmps;rw[hb];cases b
  .simp only[Bool.false_eq_true,if_false];exact⟨λ_ _=>trivial,ih _ h _ w g (hf.2 rfl) (hs.aput (Z2 w g))⟩
  .simp only[if_true];refine Oper.wpIn_mono ?_ (kC rfl (Hw hao) (hf.1 rfl) hs);rintro a' w' ⟨T',h',g',hs',hk'⟩;exact ih T' h' a' w' g' hk' hs'
def bP [Rd] {S:List Nat}{id:Nat}{ops:Array Oper}{al:List AOper}{Q:AX->List AV->AH->Prop}{T:List AV}{h:AH}(hm:ops.toList.mapM (D6 P S ops)=some al)
  (hr:arun P (λc T h=>Q (.pan c) T h) al T h (λT h=>Q .normal T h)):AW P n0 (.region id ops false) Q T h:=by
 intro w0 S0 g0 a w g hs;refine wpIn_region ?_;have:=Yx (P:=P) (Q:=Q) (w0:=w0) (S0:=S0) (g0:=g0) ops.toList al 0 (by simp) hm T h a w g hr hs;rw[List.range_eq_range'];have this':wpOpsIn Rd.F 0 P ops (Vj n0 w0 S0 g0 Q) (List.range' 0 ops.size) a w:=by simpa using this
 exact this'
end
end
section
section
variable {P : Program} {n0 : Nat} {ops : Array Oper}
def AQuiet (P:Program) (o:Oper) (τ:Operand->AV) (h:AH) (c:AV):Prop :=
 ∀ w g (ρ:Operand->Value),SimH w g h->(∀ x∈o.op.operands,Rep w g (τ x) (ρ x)) ->
  (∃ v,(execOp ρ o).run P w=.ok (.value v) w/\Rep w g c v) \/
  ERun P o ρ w λe w' => ∃ v g',e=.returned v/\Rep w' g' c v/\SimH w' g' h/\g.le g'/\Fr w (Ow g h) w' /\ ∀ k,Ow g' h k->Ow g h k\/w.heap.size<=k
def AQuiet.congr {o:Oper}{τ τ':Operand->AV}{h:AH}{c:AV}(hq:AQuiet P o τ h c) (he : ∀ x∈o.op.operands,τ x=τ' x):AQuiet P o τ' h c :=
 λw g ρ hs hr=>hq w g ρ hs λx hx=>by rw[he x hx];exact hr x hx
def bN {T:List AV}{d:Option Nat}{c:AV}{x:Operand}(h : ∀ t,d=some t->x ≠ .tmp t):Ae (aPut T d c) x=Ae T x:=by
 cases d with
 | none=>rfl
 | some t =>
  cases x with
  | tmp u =>
   have hne:t≠u:=λe=>h t rfl (e ▸ rfl)
   simp[Ae,aPut,List.getElem?_set_ne hne]
  | _=>rfl
def AQuiet.put {o:Oper}{T:List AV}{d:Option Nat}{c c':AV}{h:AH}(hd : ∀ t,d=some t->t ∉ o.looksAt ops):AQuiet P o (Ae (aPut T d c')) h c↔AQuiet P o (Ae T) h c:=by
 have he : ∀ x∈o.op.operands,Ae (aPut T d c') x=Ae T x:=λx hx=>bN λt ht e=>hd t ht (by
  subst e;exact List.mem_append_left _ (List.mem_filterMap.2 ⟨.tmp t,by simpa using hx,rfl⟩))
 exact⟨λhq=>hq.congr he,λhq=>hq.congr λx hx=>(he x hx).symm⟩
def Kc (ops:Array Oper) (o:Oper) (T:List AV):Option Bool :=
 match o.guard with
 | none=>some true
 | some (j,want)=>match (ops[j]?).bind (·.dst) with
  | none=>none
  | some t=>match T[t]? with
   | some (.v (.bool b))=>some (b==want)
   | some (.v (.tuple _))=>some false
   | _=>none
def uR {o:Oper}{T:List AV}{d:Option Nat}{c:AV}(hd : ∀ t,d=some t->t ∉ o.looksAt ops):Kc ops o (aPut T d c)=Kc ops o T:=by
 cases d with
 | none=>rfl
 | some t =>
  unfold Kc
  cases hg:o.guard with
  | none=>rfl
  | some gw =>
   obtain⟨j,want⟩:=gw
   dsimp only
   cases ht:(ops[j]?).bind (·.dst) with
   | none=>rfl
   | some u =>
    have hne:t≠u:=λe=>hd t rfl (by subst e;simp[Oper.looksAt,hg,ht])
    simp[aPut,List.getElem?_set_ne hne]
def Y0 {o:Oper}{T:List AV}{b:Bool}(hb:Kc ops o T=some b) {w:World}{g:Gh}{a:Act}(ht:RepL w g T a.tmps.toList):Region.wanted o (yielded ops a.tmps)=b:=by
 unfold Kc at hb;split at hb
 .rename_i hn;cases hb;simp[Region.wanted,hn]
 .rename_i j want hn;split at hb <;> try (cases hb;done)
  rename_i t hd;split at hb <;> try (cases hb;done)
  .rename_i c hT;cases hb;obtain⟨u,h1,h2⟩:=ht.get hT;simp only[Rep] at h2;subst h2;have h1':a.tmps[t]?=some (.bool c):=by simpa using h1
   simp only[Region.wanted,hn,yielded,hd];simp[h1']
  .rename_i vs hT;cases hb;obtain⟨u,h1,h2⟩:=ht.get hT;simp only[Rep] at h2;subst h2;have h1':a.tmps[t]?=some (.tuple vs):=by simpa using h1
   simp only[Region.wanted,hn,yielded,hd];simp[h1']
def uS (T:List AV) {x y:Option Nat}(c d:AV) (h : ∀ t,x=some t->y≠some t):aPut (aPut T x c) y d=aPut (aPut T y d) x c:=by
 cases x with
 | none=>rfl
 | some s =>
  cases y with
  | none=>rfl
  | some t =>
   have hne:s≠t:=λhe=>h s rfl (he ▸ rfl)
   simp only[aPut]
   exact List.set_comm _ _ hne
def SimH.drew {w:World}{g:Gh}{h:AH}(hs:SimH w g h):SimH w.drew g h:=hs.world (λ_ _=>rfl) (Nat.le_refl _)
def St.drew {w0:World}{S0:Nat->Prop}{g0:Gh}{T:List AV}{h:AH}{a:Act}{w:World}{g:Gh}(hs:St n0 w0 S0 g0 T h a w g):St n0 w0 S0 g0 T h a w.drew g :=
 ⟨RepL.mono (w:=w) (w':=w.drew) (Gh.le.refl g) (λ_ _=>rfl) _ _ hs.tmps,hs.defers,hs.sim.drew,⟨hs.fr.os,hs.fr.tape,hs.fr.output,hs.fr.size,hs.fr.block⟩,hs.le,hs.bd,hs.ow⟩
def HExt (h0 h:AH):Prop := ∀ (i:Nat) (e:Ent),h0[i]?=some e->h[i]?=some e
def HExt.refl (h:AH):HExt h h:=λ_ _ h=>h
def HExt.append (h x:AH):HExt h (h++x):=λi e he=>by
 rw[List.getElem?_append_left (List.getElem?_eq_some_iff.1 he).1];exact he
def HExt.set {h0 h:AH}(hx:HExt h0 h) {id:Nat}(hid:h0.length<=id) (ent:Ent):HExt h0 (h.set id ent):=λi e he=>by
 have:i<h0.length:=(List.getElem?_eq_some_iff.1 he).1;rw[List.getElem?_set_ne (by omega)];exact hx i e he
def AAlloc (P:Program) (o:Oper) (τ:Operand->AV) (id:Nat) (ent:Ent) (c:AV):Prop :=
 ∀ w g (ρ:Operand->Value) (h:AH),SimH w g h->h[id]?=some .free->(∀ x∈o.op.operands,Rep w g (τ x) (ρ x)) ->
  ∃ v w' g',(execOp ρ o).run P w=.ok (.value v) w'/\Rep w' g' c v/\SimH w' g' (h.set id ent)/\g.le g'/\Fr w (Ow g h) w' /\ ∀ k,Ow g' (h.set id ent) k->Ow g h k\/w.heap.size<=k
def AAlloc.congr {o:Oper}{τ τ':Operand->AV}{id:Nat}{ent:Ent}{c:AV}(hq:AAlloc P o τ id ent c) (he : ∀ x∈o.op.operands,τ x=τ' x):AAlloc P o τ' id ent c :=
 λw g ρ h hs hf hr=>hq w g ρ h hs hf λx hx=>by rw[he x hx];exact hr x hx
def Ir {o:Oper}{T:List AV}{d:Option Nat}{c':AV}(hd : ∀ t,d=some t->t ∉ o.looksAt ops) : ∀ x∈o.op.operands,Ae (aPut T d c') x=Ae T x :=
 λx hx=>bN λt ht e=>hd t ht (by
  subst e;exact List.mem_append_left _ (List.mem_filterMap.2 ⟨.tmp t,by simpa using hx,rfl⟩))
def AAlloc.put {o:Oper}{T:List AV}{d:Option Nat}{c c':AV}{id:Nat}{ent:Ent}(hd : ∀ t,d=some t->t ∉ o.looksAt ops):AAlloc P o (Ae (aPut T d c')) id ent c↔AAlloc P o (Ae T) id ent c :=
 ⟨λhq=>hq.congr (Ir hd),λhq=>hq.congr λx hx=>(Ir hd x hx).symm⟩
inductive YA where
 | fr | rd
 | rdE (id:Nat) (e:Ent)
 | alloc (id:Nat) (ent:Ent)
 | step (h h':AH)
 | upd (need:List (Nat×Ent)) (id:Nat) (e2:Ent)
structure Yd where
 c:AV
 act:YA
def AEff (P:Program) (o:Oper) (τ:Operand->AV) (h h':AH) (c:AV):Prop :=
 ∀ w g (ρ:Operand->Value),SimH w g h->(∀ x∈o.op.operands,Rep w g (τ x) (ρ x)) ->
  (∃ n v w' g',(execOp ρ o).run P w=.ok n w'/\(n=.value v\/(n=.skip/\v=undef))/\Rep w' g' c v/\SimH w' g' h'/\g.le g'/\Fr w (Ow g h) w' /\ ∀ k,Ow g' h' k->Ow g h k\/w.heap.size<=k) \/
  ERun P o ρ w λe w' => ∃ v g',e=.returned v/\Rep w' g' c v/\SimH w' g' h'/\g.le g'/\Fr w (Ow g h) w' /\ ∀ k,Ow g' h' k->Ow g h k\/w.heap.size<=k
def AEff.congr {o:Oper}{τ τ':Operand->AV}{h h':AH}{c:AV}(hq:AEff P o τ h h' c) (he : ∀ x∈o.op.operands,τ x=τ' x):AEff P o τ' h h' c :=
 λw g ρ hs hr=>hq w g ρ hs λx hx=>by rw[he x hx];exact hr x hx
def YD (P:Program) (ops:Array Oper) (h0:AH) (o:Oper) (y:Yd) (T:List AV):Prop :=
 (Kc ops o T=some true/\match y.act with
  | .fr => ∀ h,AQuiet P o (Ae T) h y.c
  | .rd => ∀ h,HExt h0 h->AQuiet P o (Ae T) h y.c
  | .rdE id e => ∀ h,h[id]?=some e->AQuiet P o (Ae T) h y.c
  | .alloc id ent=>h0.length<=id/\AAlloc P o (Ae T) id ent y.c
  | .step h h'=>AEff P o (Ae T) h h' y.c
  | .upd need id e2 => ∀ h,(∀ p∈need,h[p.1]?=some p.2)->AEff P o (Ae T) h (h.set id e2) y.c)\/(Kc ops o T=some false/\y=⟨.v undef,.fr⟩)
def Yd.eff (y:Yd) (h:AH):AH:=match y.act with
 | .fr=>h
 | .rd=>h
 | .rdE _ _=>h
 | .alloc id ent=>h.set id ent
 | .step _ h'=>h'
 | .upd _ id e2=>h.set id e2
def Yd.okAt (h0:AH) (y:Yd) (h:AH):Prop:=match y.act with
 | .fr=>True
 | .rd=>HExt h0 h
 | .rdE id e=>h[id]?=some e
 | .alloc id _=>h0.length<=id/\h[id]?=some .free
 | .step h1 _=>h=h1
 | .upd need _ _ => ∀ p∈need,h[p.1]?=some p.2
def YD.put {h0:AH}{o:Oper}{y:Yd}{c':AV}{T:List AV}{d:Option Nat}(hd : ∀ t,d=some t->t ∉ o.looksAt ops):YD P ops h0 o y (aPut T d c')↔YD P ops h0 o y T:=by
 unfold YD;rw[uR hd];cases y.act with
 | fr =>
  dsimp only
  rw[show (∀ h,AQuiet P o (Ae (aPut T d c')) h y.c)↔(∀ h,AQuiet P o (Ae T) h y.c) from forall_congr' λh=>AQuiet.put hd]
 | rd =>
  dsimp only
  rw[show (∀ h,HExt h0 h->AQuiet P o (Ae (aPut T d c')) h y.c)↔(∀ h,HExt h0 h->AQuiet P o (Ae T) h y.c) from forall_congr' λh=>imp_congr_right λ_=>AQuiet.put hd]
 | rdE id e =>
  dsimp only
  rw[show (∀ h,h[id]?=some e->AQuiet P o (Ae (aPut T d c')) h y.c)↔(∀ h,h[id]?=some e->AQuiet P o (Ae T) h y.c) from forall_congr' λh=>imp_congr_right λ_=>AQuiet.put hd]
 | alloc id ent =>
  dsimp only
  rw[AAlloc.put hd]
 | step h h' =>
  dsimp only
  rw[show AEff P o (Ae (aPut T d c')) h h' y.c↔AEff P o (Ae T) h h' y.c from ⟨λhq=>hq.congr (Ir hd),λhq=>hq.congr λx hx=>(Ir hd x hx).symm⟩]
 | upd need id e2 =>
  dsimp only
  rw[show (∀ h,(∀ p∈need,h[p.1]?=some p.2)->AEff P o (Ae (aPut T d c')) h (h.set id e2) y.c)↔(∀ h,(∀ p∈need,h[p.1]?=some p.2)->AEff P o (Ae T) h (h.set id e2) y.c) from forall_congr' λh=>imp_congr_right λ_=>⟨λhq=>hq.congr (Ir hd),λhq=>hq.congr λx hx=>(Ir hd x hx).symm⟩]
def qOpD (P:Program) (ops:Array Oper) (h0:AH) (tr:Nat->Yd) (i:Nat) (K:List AV->AH->Prop) (T:List AV) (h:AH):Prop :=
 match ops[i]? with
 | none=>K T h
 | some o=>YD P ops h0 o (tr i) T/\(tr i).okAt h0 h/\K (aPut T o.dst (tr i).c) ((tr i).eff h)
def sI {h0:AH}{tr:Nat->Yd}{i:Nat}{T:List AV}{h:AH}{K K':List AV->AH->Prop}(hk : ∀ T h,K T h->K' T h) (hq:qOpD P ops h0 tr i K T h):qOpD P ops h0 tr i K' T h:=by
 unfold qOpD at *;split
 .rename_i ho;simp only[ho] at hq;exact hk _ _ hq
 .rename_i o ho;simp only[ho] at hq;exact⟨hq.1,hq.2.1,hk _ _ hq.2.2⟩
def N5 (P:Program) (md:Region.Mode) (ops:Array Oper) (h0:AH) (tr:Nat->Yd) (K:List AV->AH->Prop):Nat->Array Bool->List AV->AH->Prop
 | 0,listed,T,h=>Region.ready md ops listed=[]/\K T h
 | fuel+1,listed,T,h=>(Region.ready md ops listed=[]->K T h) /\
  ∀ i∈Region.ready md ops listed,qOpD P ops h0 tr i (N5 P md ops h0 tr K fuel (listed.setIfInBounds i true)) T h
def Compat (h0:AH) (y z:Yd):Prop:=match y.act,z.act with
 | .fr,_=>True
 | _,.fr=>True
 | .rdE id _,.step h1 h2=>h2[id]?=h1[id]?
 | .step h1 h2,.rdE id _=>h2[id]?=h1[id]?
 | .step _ _,_=>False
 | _,.step _ _=>False
 | .alloc a _,.alloc b _=>a≠b
 | .rdE id _,.alloc a _=>a≠id
 | .alloc a _,.rdE id _=>a≠id
 | .upd _ a _,.rd=>h0.length<=a
 | .rd,.upd _ a _=>h0.length<=a
 | .upd _ a _,.rdE id _=>a≠id
 | .rdE id _,.upd _ a _=>a≠id
 | .upd n a _,.alloc b _=>a≠b /\ ∀ p∈n,p.1≠b
 | .alloc b _,.upd n a _=>a≠b /\ ∀ p∈n,p.1≠b
 | .upd n a _,.upd m b _=>a≠b/\(∀ p∈n,p.1≠b) /\ ∀ p∈m,p.1≠a
 | _,_=>True
def HExt.set_iff {h0 h:AH}{id:Nat}(hid:h0.length<=id) (ent:Ent):HExt h0 (h.set id ent)↔HExt h0 h :=
 ⟨λhx i e he=>by
  have:i<h0.length:=(List.getElem?_eq_some_iff.1 he).1;have:=hx i e he;rw[List.getElem?_set_ne (by omega)] at this;exact this,λhx=>hx.set hid ent⟩
def Rw {h:AH}{n:List (Nat×Ent)}{a:Nat}{e:Ent}(hn : ∀ p∈n,p.1≠a):(∀ p∈n,(h.set a e)[p.1]?=some p.2) ↔ ∀ p∈n,h[p.1]?=some p.2 :=
 forall_congr' λp=>imp_congr_right λhp=>by rw[List.getElem?_set_ne (Ne.symm (hn p hp))]
def Compat.swap {h0:AH}{y z:Yd}(hc:Compat h0 y z) {h:AH}(hy:y.okAt h0 h) (hz:z.okAt h0 (y.eff h)):z.okAt h0 h/\y.okAt h0 (z.eff h)/\y.eff (z.eff h)=z.eff (y.eff h):=by
 obtain⟨c,ya⟩:=y;obtain⟨d,za⟩:=z;cases ya <;> cases za <;> simp only[Compat] at hc <;> simp only[Yd.okAt,Yd.eff] at hy hz ⊢;case fr.fr=>exact⟨trivial,trivial,trivial⟩
 case fr.rd=>exact⟨hz,trivial,trivial⟩
 case fr.alloc=>exact⟨hz,trivial,trivial⟩
 case fr.step=>exact⟨hz,trivial,trivial⟩
 case fr.upd=>exact⟨hz,trivial,trivial⟩
 case rd.fr=>exact⟨trivial,hy,trivial⟩
 case rd.rd=>exact⟨hz,hy,trivial⟩
 case rd.alloc id ent=>exact⟨hz,(HExt.set_iff hz.1 ent).2 hy,trivial⟩
 case rd.upd need id e2=>exact⟨hz,(HExt.set_iff hc e2).2 hy,trivial⟩
 case alloc.fr=>exact⟨trivial,hy,trivial⟩
 case alloc.rd id ent=>exact⟨(HExt.set_iff hy.1 ent).1 hz,hy,trivial⟩
 case alloc.alloc a e b f =>
  obtain⟨y1,y3⟩:=hy
  obtain⟨z1,z3⟩:=hz
  rw[List.getElem?_set_ne hc] at z3
  exact⟨⟨z1,z3⟩,⟨y1,by rw[List.getElem?_set_ne (Ne.symm hc)];exact y3⟩,List.set_comm _ _ (Ne.symm hc)⟩
 case alloc.upd a e need id e2 =>
  exact⟨(Rw hc.2).1 hz,⟨hy.1,by rw[List.getElem?_set_ne hc.1];exact hy.2⟩,List.set_comm _ _ hc.1⟩
 case upd.fr=>exact⟨trivial,hy,trivial⟩
 case upd.rd need id e2=>exact⟨(HExt.set_iff hc e2).1 hz,hy,trivial⟩
 case upd.alloc need id e2 a e =>
  refine⟨⟨hz.1,?_⟩,(Rw hc.2).2 hy,List.set_comm _ _ (Ne.symm hc.1)⟩
  have:=hz.2
  rwa [List.getElem?_set_ne hc.1] at this
 case upd.upd n a e m b f=>exact⟨(Rw hc.2.2).1 hz,(Rw hc.2.1).2 hy,List.set_comm _ _ (Ne.symm hc.1)⟩
 case step.fr=>exact⟨trivial,hy,trivial⟩
 case fr.rdE=>exact⟨hz,trivial,trivial⟩
 case rd.rdE=>exact⟨hz,hy,trivial⟩
 case rdE.fr=>exact⟨trivial,hy,trivial⟩
 case rdE.rd=>exact⟨hz,hy,trivial⟩
 case rdE.rdE=>exact⟨hz,hy,trivial⟩
 case rdE.alloc id e a f=>exact⟨hz,by rw[List.getElem?_set_ne hc];exact hy,trivial⟩
 case rdE.upd id e n a f=>exact⟨hz,by rw[List.getElem?_set_ne hc];exact hy,trivial⟩
 case alloc.rdE a f id e=>exact⟨by rw[List.getElem?_set_ne hc] at hz;exact hz,hy,trivial⟩
 case upd.rdE n a f id e=>exact⟨by rw[List.getElem?_set_ne hc] at hz;exact hz,hy,trivial⟩
 case rdE.step id e h1 h2=>exact⟨hz,by rw[hc,<-hz];exact hy,trivial⟩
 case step.rdE h1 h2 id e=>exact⟨by rw[hy,<-hc];exact hz,hy,trivial⟩
def qOpD_put {h0:AH}{tr:Nat->Yd}{i j:Nat}{oi oj:Oper}(hj:ops[j]?=some oj) (hap:oi.apart ops oj=true) (hne:Compat h0 (tr i) (tr j)) {K:List AV->AH->Prop}{T:List AV}{h:AH}
  (hy:YD P ops h0 oi (tr i) T) (hok:(tr i).okAt h0 h) (hq:qOpD P ops h0 tr j K (aPut T oi.dst (tr i).c) ((tr i).eff h)) :
  qOpD P ops h0 tr j (λT' h'=>YD P ops h0 oi (tr i) T'/\(tr i).okAt h0 h'/\K (aPut T' oi.dst (tr i).c) ((tr i).eff h')) T h:=by
 obtain⟨h1,h2,h3⟩:=Oper.apart_spec hap;unfold qOpD at *;simp only[hj] at *;obtain⟨q1,q2,q3⟩:=hq;obtain⟨s1,s2,s3⟩:=hne.swap hok q2;exact⟨(YD.put h1).1 q1,s1,(YD.put h3).2 hy,s2,by rw[<-uS T _ _ h2,s3];exact q3⟩
def anc (md:Region.Mode) (ops:Array Oper) (i:Nat):Nat->List Nat
 | 0=>match ops[i]? with
  | some o=>o.after.toList.filterMap λe=>if Region.binds md e then some e.on else none
  | none=>[]
 | n+1=>let S:=anc md ops i n
  (S++S.flatMap λj=>match ops[j]? with
   | some o=>o.after.toList.filterMap λe=>if Region.binds md e then some e.on else none
   | none=>[]).eraseDups
def Closed (md:Region.Mode) (ops:Array Oper) (listed:Array Bool):Prop := ∀ (k:Nat) (o:Oper),ops[k]?=some o->listed.getD k true=true -> ∀ e∈o.after,Region.binds md e=true->listed.getD e.on false=true
def Ri {md:Region.Mode}{listed:Array Bool}(hc:Closed md ops listed) {i:Nat}(hi:i∈Region.ready md ops listed) : ∀ (n:Nat),∀ j∈anc md ops i n,listed.getD j false=true
 | 0,j,hj=>by
  obtain⟨_,o,ho,hall⟩:=mem_ready.1 hi;simp only[anc,ho,List.mem_filterMap] at hj;obtain⟨e,he,h1⟩:=hj;split at h1 <;> try (cases h1;done)
  rename_i hb;cases h1;exact hall e (by simpa using he) hb
 | n+1,j,hj=>by
  have ih:=Ri hc hi n;simp only[anc] at hj;have hj':=List.mem_eraseDups.1 hj;rcases List.mem_append.1 hj' with h1 | h1
  .exact ih j h1
  .obtain⟨k,hk,h2⟩:=List.mem_flatMap.1 h1;split at h2
   .rename_i o ho;obtain⟨e,he,h3⟩:=List.mem_filterMap.1 h2;split at h3 <;> try (cases h3;done)
    rename_i hb;cases h3;have hkl:=ih k hk;have hkl':listed.getD k true=true:=by
     rcases Nat.lt_or_ge k listed.size with h' | h'
     .simp[h'] at hkl ⊢;exact hkl
     .simp[Array.getElem?_eq_none h'] at hkl
    exact hc k o ho hkl' e (by simpa using he) hb
   .simp at h2
def Closed.set {md:Region.Mode}{listed:Array Bool}(hc:Closed md ops listed) {i:Nat}(hi:i∈Region.ready md ops listed):Closed md ops (listed.setIfInBounds i true):=by
 intro k o ho hk e he hb;by_cases hki:i=k
 .subst hki;obtain⟨_,o',ho',hall⟩:=mem_ready.1 hi;rw[ho] at ho';cases ho';exact getD_set_true (hall e he hb)
 .rw[getD_set_ne true hki] at hk;exact getD_set_true (hc k o ho hk e he hb)
def bQ {md:Region.Mode}{h0:AH}{tr:Nat->Yd}{K:List AV->AH->Prop}{i:Nat}{oi:Oper}(hi:ops[i]?=some oi) :
  ∀ (fuel:Nat) (listed:Array Bool) (T:List AV) (h:AH),Closed md ops listed ->
   (∀ j oj,ops[j]?=some oj->j≠i->listed.getD j true=false->(∃ n,i∈anc md ops j n)\/(oi.apart ops oj=true/\Compat h0 (tr i) (tr j))) ->
   i∈Region.ready md ops listed->YD P ops h0 oi (tr i) T->(tr i).okAt h0 h ->
   N5 P md ops h0 tr K fuel (listed.setIfInBounds i true) (aPut T oi.dst (tr i).c) ((tr i).eff h)->N5 P md ops h0 tr K (fuel+1) listed T h:=by
 intro fuel;induction fuel with
 | zero =>
  intro listed T h hc _ hr hy hok H
  refine⟨(λh=>by rw[h] at hr;cases hr),λj hj=>?_⟩
  by_cases hji:j=i
  .subst hji;unfold qOpD;simp only[hi];exact⟨hy,hok,H⟩
  .have:=ready_mono hj hji
   rw[H.1] at this
   cases this
 | succ fuel ih =>
  intro listed T h hc hpair hr hy hok H
  refine⟨(λh=>by rw[h] at hr;cases hr),λj hj=>?_⟩
  by_cases hji:j=i
  .subst hji;unfold qOpD;simp only[hi];exact⟨hy,hok,H⟩
  .have h1:=H.2 j (ready_mono hj hji)
   obtain⟨hjun,oj,hoj,hall⟩:=mem_ready.1 hj
   rcases hpair j oj hoj hji hjun with ⟨n,hn⟩ | ⟨hap,hco⟩
   .have h1:=Ri hc hj n i hn
    have h2:=(mem_ready.1 hr).1
    rcases Nat.lt_or_ge i listed.size with h' | h'
    .simp[h'] at h1 h2;rw[h2] at h1;cases h1
    .simp[Array.getElem?_eq_none h'] at h1
   have h2:=qOpD_put hoj hap hco hy hok h1
   have hpair' : ∀ k ok,ops[k]?=some ok->k≠i->(listed.setIfInBounds j true).getD k true=false->(∃ n,i∈anc md ops k n)\/(oi.apart ops ok=true/\Compat h0 (tr i) (tr k)):=λk ok hk hki hun=>by
    refine hpair k ok hk hki ?_;by_cases hjk:j=k
    .subst hjk;exact hjun
    .rw[getD_set_ne true hjk] at hun;exact hun
   refine sI (λT' h' h3=>ih (listed.setIfInBounds j true) T' h' (hc.set hj) hpair' (ready_mono hr (Ne.symm hji)) h3.1 h3.2.1 ?_) h2
   rw[Array.setIfInBounds_comm _ _ hji]
   exact h3.2.2
end
section
variable {P : Program} {n0 : Nat} {ops : Array Oper}
def SimH.allocAt {w:World}{g:Gh}{h:AH}(hs:SimH w g h) {id:Nat}(hfr:h[id]?=some .free) {arr:Array Value}{cells:List AV}(ty stride cap:Nat) (hr:RepL w g cells (arr.toList.take cells.length)) (hl:cells.length<=arr.size) (hsz:arr.size=cap*stride) (hm:cap<=maxLen) (hc:cap=0->cells=[]) :
    SimH (w.alloc (.cells arr ty)) (g.add id 0 (some ⟨w.heap.size,0,none⟩,cap)) (h.set id (.mk 0 ty stride cells))/\g.le (g.add id 0 (some ⟨w.heap.size,0,none⟩,cap)) /\
      Fr w (Ow g h) (w.alloc (.cells arr ty)) /\ ∀ k,Ow (g.add id 0 (some ⟨w.heap.size,0,none⟩,cap)) (h.set id (.mk 0 ty stride cells)) k->Ow g h k\/w.heap.size<=k:=by
  have hid:id<h.length:=(List.getElem?_eq_some_iff.1 hfr).1;have hf : ∀ v l,g.loc id v=some l->False:=λv l hl=>hs.free _ _ _ hl hfr;have hloc : ∀ i v l,g.loc i v=some l->(g.add id 0 (some ⟨w.heap.size,0,none⟩,cap)).loc i v=some l:=by
    intro i v l hi;simp only[Gh.add];rw[if_neg]
    . exact hi
    . rintro⟨rfl,rfl⟩;exact hf _ _ hi
  have hle:g.le (g.add id 0 (some ⟨w.heap.size,0,none⟩,cap)):=Gh.le_of_put rfl hloc;have hold : ∀ k,k<w.heap.size->(w.alloc (.cells arr ty)).heap[k]?=w.heap[k]?:=λk hk=>X4 w _ k hk;have how : ∀ k,g.D k\/(∃ i,i≠id/\OwAt g h i k)\/(∃ i,RwAt h i k)->k<w.heap.size:=by
    rintro k (hk | ⟨i,_,hk⟩ | hk)
    . exact hs.lt k hk
    . exact (hs.own_not_D (.inl ⟨i,hk⟩)).2
    . exact (hs.own_not_D (.inr hk)).2
  suffices hq : SimH (w.alloc (.cells arr ty)) (g.add id 0 (some ⟨w.heap.size, 0, none⟩, cap)) (h.set id (.mk 0 ty stride cells)) /\ g.le (g.add id 0 (some ⟨w.heap.size, 0, none⟩, cap)) /\
      ∀ k,Ow (g.add id 0 (some ⟨w.heap.size,0,none⟩,cap)) (h.set id (.mk 0 ty stride cells)) k->Ow g h k\/((some (⟨w.heap.size,0,none⟩:Addr)).map (·.block)=some k/\cap≠0) from ⟨hq.1,hq.2.1,⟨rfl,rfl,rfl,by simp,λk hk _=>hold k hk⟩,λk hk=>(hq.2.2 k hk).imp (λx=>x) (λh=>by have:=h.1;simp at this;omega)⟩
  refine hs.put id 0 ty stride cells (some ⟨w.heap.size,0,none⟩) cap ?_ ?_ ?_ rfl hloc ?_ ?_ (λv l hl=>(hf v l hl).elim) (λk hk=>hold k (how k hk)) (by simp) hm ?_ ?_ (λk hk _ hlt=>by simp at hk;omega)
  . intro i hi;rw[List.getElem?_set_ne (Ne.symm hi)]
  . rw[List.getElem?_set_self hid]
  . simp
  . intro i v l hi;simp only[Gh.add] at hi;split at hi
    . right;assumption
    . left;exact hi
  . simp[Gh.add]
  . by_cases h0:cap=0
    . exact .inl ⟨hc h0,h0⟩
    . exact .inr ⟨w.heap.size,arr,rfl,h0,λhd=>absurd (hs.lt _ hd) (Nat.lt_irrefl _),heap_alloc_new w _,hsz,hl,RepL.mono hle (λk hk=>hold k (hs.lt k hk)) _ _ hr⟩
  . intro k hk _ i _ how;simp at hk;subst hk;exact absurd (hs.own_not_D (.inl ⟨i,how⟩)).2 (Nat.lt_irrefl _)
def aallo (id:Nat) (τ:Operand->AV):AOp->Option (AV×Ent)
 | .new ty sz zero=>some (.ptr id 0 0,.mk 0 ty sz zero)
 | .box ty sz x=>match D8 (τ x) with
  | some cs=>if cs.length=sz then some (.ptr id 0 0,.mk 0 ty sz cs) else none
  | none=>none
 | .lit ty st len zero ps=>match Cm τ ps zero with
  | some cs=>some (.own id 0 len,.mk 0 ty st cs)
  | none=>none
 | _=>none
def LSound (P:Program) (o:Oper) (ao:AOp):Prop := ∀ (id:Nat) (τ:Operand->AV) (c:AV) (ent:Ent),aallo id τ ao=some (c,ent)->AAlloc P o τ id ent c
def lsnd_new {dst type pos after guard}{e:TypeId}{i:TypeInfo}{z:List AV}(hi:P.info? e=some i) (hz:Jc P e=some z):LSound P ⟨dst,.alloc e,type,pos,after,guard⟩ (.new e i.size z):=by
 intro id τ c ent hv w g ρ h hs hfr hr;obtain⟨i',v,hi',hzv,hsz,rfl⟩:=Jt hz;rw[hi] at hi';cases hi';simp only[aallo,Option.some.injEq,Prod.mk.injEq] at hv;obtain⟨rfl,rfl⟩:=hv;obtain⟨h1,h2,h3,h4⟩:=hs.allocAt hfr (arr:=v.cells) (cells:=v.cells.toList.map AV.ofCell) e i.size 1 (by have:=G2 w g v.cells.toList;rw[List.take_of_length_le (by simp)];exact this) (by simp) (by omega) (by simp[maxLen]) (by simp);exact⟨_,_,_,by simp[execOp,Instr.alloc,zeroValue,typeInfo,hi,hzv,newVar,newRow],Ls,h1,h2,h3,h4⟩
def lsnd_box {dst type pos after guard}{e:TypeId}{sz:Nat}(x:Operand):LSound P ⟨dst,.box e x,type,pos,after,guard⟩ (.box e sz x):=by
 intro id τ c ent hv w g ρ h hs hfr hr;simp only[aallo] at hv;split at hv <;> try (cases hv;done)
 rename_i cs hcs;split at hv <;> try (cases hv;done)
 rename_i hsz;simp only[Option.some.injEq,Prod.mk.injEq] at hv;obtain⟨rfl,rfl⟩:=hv;have hrl:=Ns hcs (hr x (by simp[Op.operands]));have hlen:(ρ x).cells.size=cs.length:=by simpa using hrl.length
 obtain⟨h1,h2,h3,h4⟩:=hs.allocAt hfr (arr:=(ρ x).cells) (cells:=cs) e sz 1 (by rw[List.take_of_length_le (by simp[hlen])];exact hrl) (by omega) (by omega) (by simp[maxLen]) (by simp);exact⟨_,_,_,by simp[execOp,Instr.box,newVar,newRow],Ls,h1,h2,h3,h4⟩
def tJ {dst type pos after guard}{t e:TypeId}{i:TypeInfo}(hu:P.underlying t=some (.slice e)) (hi:P.info? e=some i) :
  LSound P ⟨dst,.buildSlice t 0 #[],type,pos,after,guard⟩ (.lit e i.size 0 [] []):=by
 intro id τ c ent hv w g ρ h hs hfr hr;simp only[aallo,Cm,Option.some.injEq,Prod.mk.injEq] at hv;obtain⟨rfl,rfl⟩:=hv;obtain⟨k1,k2,k3,k4⟩:=hs.allocAt hfr (arr := #[]) (cells:=[]) e i.size 0 (by simp only[List.length_nil,List.take_zero,RepL]) (by simp) (by simp) (by simp[maxLen]) (λ_=>rfl);refine⟨.slice (some ⟨w.heap.size,0,none⟩) 0 0,_,_,?_,F8 (Nat.le_refl _) (by simp[maxLen]),k1,k2,k3,k4⟩;have hempty:(Array.range 0).map (λx=>(#[]:Array Value)[x%(#[]:Array Value).size]!) = #[]:=Array.size_eq_zero_iff.1 (by simp);simp only[execOp,Instr.buildSlice,Sem.run_bind,run_underlying hu,Result.andThen_ok,C8 hi,Nat.zero_mul];simp only[show ¬(0>2 ^ 24) by omega,if_false,if_true,Sem.run_bind,Sem.run_pure,Result.andThen_ok,hempty];simp[newRow,Instr.fill]
def lsnd_lit {dst type pos after guard}{t e:TypeId}{i:TypeInfo}{z:Value}{n:Nat}{ps:Array (Nat×Operand)}(hu:P.underlying t=some (.slice e)) (hi:P.info? e=some i) (hz:i.zero=some z) (hb:n*i.size<=16777216) (hn0:n≠0) (hnm:n<=maxLen) :
  LSound P ⟨dst,.buildSlice t n ps,type,pos,after,guard⟩ (.lit e i.size n (dI z.cells (n*i.size)) (ps.toList.map λp=>(p.1*i.size,i.size,p.2))):=by
 intro id τ c ent hv w g ρ h hs hfr hr;simp only[aallo] at hv;split at hv <;> try (cases hv;done)
 rename_i cs hcs;simp only[Option.some.injEq,Prod.mk.injEq] at hv;obtain⟨rfl,rfl⟩:=hv;have hops : ∀ p∈ps.toList,Rep w g (τ p.2) (ρ p.2):=λp hp=>hr p.2 (by simp only[Op.operands];simp;exact⟨p.1,by simpa using hp⟩);obtain⟨arr',h1,h2,h3⟩:=Sv (w:=w) (g:=g) (τ:=τ) (ρ:=ρ) (λk=>some (k*i.size,i.size)) ps.toList _ _ ((Array.range (n*i.size)).map (z.cells[· % z.cells.size]!)) cs (by simp) hops hcs (G2 w g _);have hsz:arr'.size=n*i.size:=by rw[h3];simp
 have hcl:cs.length=arr'.size:=by have:=h2.length;simpa using this.symm
 obtain⟨k1,k2,k3,k4⟩:=hs.allocAt hfr (arr:=arr') (cells:=cs) e i.size n (by rw[List.take_of_length_le (by simp[hcl])];exact h2) (by omega) hsz hnm (λh=>absurd h hn0);have hpl:(ps.map λ(x:Nat×Operand)=>(x.1,ρ x.2)).toList=ps.toList.map λp=>(p.1,ρ p.2):=by simp
 refine⟨.slice (some ⟨w.heap.size,0,none⟩) n n,_,_,?_,F8 (Nat.le_refl _) hnm,k1,k2,k3,k4⟩;by_cases hzero:n*i.size=0
 .have harr:((Array.range (n*i.size)).map (z.cells[· % z.cells.size]!)) = #[]:=Array.size_eq_zero_iff.1 (by simp[hzero]);have hempty:(Array.range 0).map (λx=>(#[]:Array Value)[x%(#[]:Array Value).size]!) = #[]:=Array.size_eq_zero_iff.1 (by simp);rw[harr] at h1;simp only[execOp,Instr.buildSlice,Sem.run_bind,run_underlying hu,Result.andThen_ok,C8 hi,hzero];simp only[show ¬(0>2 ^ 24) by omega,if_false,if_true,Sem.run_bind,Sem.run_pure,Result.andThen_ok,hpl,hempty,h1];simp[newRow]
 .simp only[execOp,Instr.buildSlice,Sem.run_bind,run_underlying hu,Result.andThen_ok,C8 hi,show ¬(n*i.size>2 ^ 24) by omega,if_false,hzero];simp only[zeroValue,typeInfo,Sem.run_bind,run_program,Result.andThen_ok,hi,hz,Sem.run_pure,hpl,h1];simp[newRow]
def LSound.none {o:Oper}{ao:AOp}(h : ∀ id τ,aallo id τ ao=none):LSound P o ao:=by intro id τ c ent hv;rw[h] at hv;cases hv
def Qn {o:Oper}{ao:AOp}(h:K8 P o=some ao):LSound P o ao:=by
 cases hk:ao with
 | new ty sz z =>
  subst hk
  obtain⟨dst,op,type,pos,after,guard⟩:=o
  cases op <;> simp only[K8] at h <;> try (cases h;done)
  case alloc e =>
   split at h <;> try (cases h;done)
   rename_i i z hi hz
   cases h;exact lsnd_new hi hz
  all_goals (exfalso;(try unfold L1 at h);(try unfold L0 at h);(try unfold La at h);(repeat' split at h) <;> first | (cases h;done) | (simp[Option.map_eq_some_iff] at h;done) | (simp_all;done))
 | box ty sz x =>
  subst hk
  obtain⟨dst,op,type,pos,after,guard⟩:=o
  cases op <;> simp only[K8] at h <;> try (cases h;done)
  case box e x =>
   simp only[Option.map_eq_some_iff] at h
   obtain⟨i,hi,h⟩:=h
   cases h;exact lsnd_box _
  all_goals (exfalso;(try unfold L1 at h);(try unfold L0 at h);(try unfold La at h);(repeat' split at h) <;> first | (cases h;done) | (simp[Option.map_eq_some_iff] at h;done) | (simp_all;done))
 | lit ty st len zero ps =>
  subst hk
  obtain⟨dst,op,type,pos,after,guard⟩:=o
  cases op <;> simp only[K8] at h <;> try (cases h;done)
  case buildSlice t n ps =>
   split at h <;> try (cases h;done)
   rename_i e hu
   split at h <;> try (cases h;done)
   rename_i i hi
   split at h <;> try (cases h;done)
   rename_i z hz
   split at h
   .rename_i hc
    obtain⟨rfl,rfl⟩:=hc
    cases h;exact tJ hu hi
   .split at h <;> try (cases h;done)
    rename_i hc
    obtain⟨h0,hm,hb⟩:=hc
    cases h;exact lsnd_lit hu hi hz hb h0 hm
  all_goals (exfalso;(try unfold L1 at h);(try unfold L0 at h);(try unfold La at h);(repeat' split at h) <;> first | (cases h;done) | (simp[Option.map_eq_some_iff] at h;done) | (simp_all;done))
 | _=>exact .none λ_ _=>rfl
def Fb (id:Nat) (τ:Operand->AV):AOp->Option (AV×Ent)
 | .lit _ st len zero ps=>match Cm τ ps zero with
  | some cs=>if cs.length=len*st then some (.sl len st false cs,.gone) else none
  | none=>none
 | _=>none
def pG {o:Oper}{ao:AOp}(hl:LSound P o ao) : ∀ (id:Nat) (τ:Operand->AV) (c:AV) (ent:Ent),Fb id τ ao=some (c,ent)->AAlloc P o τ id ent c:=by
 intro id τ c ent hv;cases ao <;> simp only[Fb] at hv <;> try (cases hv;done)
 rename_i ty st len zero ps;split at hv <;> try (cases hv;done)
 rename_i cs hcs;split at hv <;> try (cases hv;done)
 rename_i hlen;cases hv;have hA:=hl id τ (.own id 0 len) (.mk 0 ty st cs) (by simp only[aallo,hcs]);intro w g ρ h hs hfr hr;obtain⟨v,w',g',k1,k2,k3,k4,k5,k6⟩:=hA w g ρ h hs hfr hr;have hid:id<h.length:=(List.getElem?_eq_some_iff.1 hfr).1;obtain⟨q1,q2,q3⟩:=k3.ice (List.getElem?_set_self hid);rw[List.set_set] at q1 q2;refine⟨v,w',_,k1,?_,q1,k4.trans (Gh.le_ice _ _ _),k5,λk hk=>k6 k (q2 k hk)⟩;have:=q3 len v (by omega) k2;rw[List.take_of_length_le (by omega)] at this;exact this.fs
def O4 {S:List Nat}{o:Oper}{ao:AOp}(h:Np P S o=some ao):LSound P o ao:=by
  unfold Np at h;split at h <;> split at h
  all_goals first
    | exact Qn h
    | (simp only [Option.map_eq_some_iff] at h
       obtain⟨a,h1,rfl⟩:=h
       have:=Qn h1
       cases a <;> first | exact this | exact .none λ_ _=>rfl)
end
section
variable {P : Program} {n0 : Nat} {ops : Array Oper}
def jT {h0 h:AH}(hx:HExt h0 h) {c:AV}{cs:List AV}(hc:Fe h0 c=some cs):Fe h c=some cs:=by
 cases c <;> simp only[Fe] at hc ⊢ <;> try (exact hc)
 rename_i id ver off;cases he:h0[id]? with
 | none=>simp[he] at hc
 | some e=>rw[hx id e he];rw[he] at hc;exact hc
def lI {h0 h:AH}(hx:HExt h0 h) {c:AV}{p:Nat×List AV}(hc:Ia h0 c=some p):Ia h c=some p:=by
 cases c <;> simp only[Ia] at hc ⊢ <;> try (exact hc)
 rename_i id ver n;cases he:h0[id]? with
 | none=>simp[he] at hc
 | some e=>rw[hx id e he];rw[he] at hc;exact hc
def Yw {h0 h:AH}(hx:HExt h0 h) {τ:Operand->AV}{ao:AOp}{c:AV}(hv:aval h0 τ ao=some c):aval h τ ao=some c:=by
 cases ao <;> try (exact hv)
 case load agg sz x =>
  simp only[aval,Option.bind_eq_some_iff] at hv ⊢
  obtain⟨cs,h1,h2⟩:=hv
  exact⟨cs,jT hx h1,h2⟩
 case b2s x =>
  simp only[aval] at hv ⊢
  split at hv <;> try (cases hv;done)
  rename_i n cs h1
  rw[lI hx h1]
  exact hv
 case ia st x i =>
  simp only[aval] at hv ⊢
  split at hv
  .rename_i n st' full cs k j h1 h2;exact hv
  .rename_i id v n k j h1 h2
   cases he:h0[id]? with
   | none=>simp[he] at hv
   | some e=>rw[hx id e he];rw[he] at hv;exact hv
  .cases hv
def adstep (P:Program) (rs:List Nat) (h0:AH) (o:AOper) (T:List AV) (ents:AH) (K:List AV->AH->Prop):Prop :=
 match o.op with
 | .call f xs => ∃ c,(∀ h,HExt h0 h->Hy P (Ae T f) (xs.map (Ae T)) h (λr h'=>h'=h/\r=.ret c))/\K (aPut T o.dst c) ents
 | .loadR agg sz x=>match Ae T x with
  | .rp cs=>match Ed agg sz cs with
   | some c=>K (aPut T o.dst c) ents
   | none=>False
  | .rx _ _ cs=>match Ed agg sz cs with
   | some c=>K (aPut T o.dst c) ents
   | none=>False
  | .ptr id v off => ∃ ty s cells c,h0[id]?=some (.mk v ty s cells)/\Ed agg sz (cells.drop off)=some c/\id∈rs/\K (aPut T o.dst c) ents
  | _=>False
 | op=>match aval h0 (Ae T) op with
  | some c=>K (aPut T o.dst c) ents
  | none => ∃ c ent,(aallo (h0.length+ents.length) (Ae T) op=some (c,ent)\/Fb (h0.length+ents.length) (Ae T) op=some (c,ent))/\K (aPut T o.dst c) (ents++[ent])
def adrun (P:Program) (rs:List Nat) (h0:AH):List AOper->List AV->AH->(List AV->AH->Prop)->Prop
 | [],T,ents,K=>K T ents
 | o::rest,T,ents,K=>agd o.guard T λb=>(b=true->adstep P rs h0 o T ents λT ents=>adrun P rs h0 rest T ents K)/\(b=false->adrun P rs h0 rest (aPut T o.dst (.v undef)) ents K)
def Mg (P:Program) (rs:List Nat) (o:AOper) (T:List AV) (h:AH) (K:List AV->AH->Prop):Prop :=
 match o.op with
 | .call f xs => ∃ c h',Hy P (Ae T f) (xs.map (Ae T)) h (λr h2=>h2=h'/\r=.ret c)/\(∀ id∈rs,h'[id]?=h[id]?)/\K (aPut T o.dst c) h'
 | .panic _=>False
 | .eqn _ _=>False
 | op=>match aval h (Ae T) op with
  | some c=>K (aPut T o.dst c) h
  | none=>match aeff h (Ae T) op with
   | some (c,h')=>(∀ id∈rs,h'[id]?=h[id]?)/\K (aPut T o.dst c) h'
   | none=>False
def En (P:Program) (rs:List Nat):List Bool->List AOper->List AV->AH->(List AV->AH->Prop)->Prop
 | _,[],T,h,K=>K T h
 | q,o::rest,T,h,K=>agd o.guard T λb=>(b=true->Mg P (bif q.headD true then rs else []) o T h λT h=>En P rs q.tail rest T h K)/\(b=false->En P rs q.tail rest (aPut T o.dst (.v undef)) h K)
def isF:AOp->Bool
 | .mv _=>true | .pick .. => true | .build .. => true | .nck _=>true | .bin .. => true | .eqb .. => true | .eqs .. => true | .un .. => true | .cvi .. => true | .cvs _=>true
 | .mkif .. => true | .mkfn .. => true | .mkbd .. => true | .slc .. => true | .sls .. => true | .fa .. => true | .fld .. => true | .ix .. => true | .ext .. => true | .len .. => true | .mm .. => true | .cap _=>true
 | _=>false
def isL:AOp->Bool
 | .loadR .. => true
 | _=>false
def aval_F {ao:AOp}(h:isF ao=true) (h1 h2:AH) (τ:Operand->AV):aval h1 τ ao=aval h2 τ ao:=by
 cases ao <;> first | rfl | (simp[isF] at h;done)
def aallo_F {ao:AOp}(h:isF ao=true) (id:Nat) (τ:Operand->AV):aallo id τ ao=none:=by
 cases ao <;> first | rfl | (simp[isF] at h;done)
def aalloI_F {ao:AOp}(h:isF ao=true) (id:Nat) (τ:Operand->AV):Fb id τ ao=none:=by
 cases ao <;> first | rfl | (simp[isF] at h;done)
def aeff_F {ao:AOp}(h:isF ao=true) (h1:AH) (τ:Operand->AV):aeff h1 τ ao=none:=by
 cases ao <;> first | rfl | (simp[isF] at h;done)
def Yd.ents (y:Yd) (ents:AH):AH:=match y.act with
 | .alloc _ e=>ents++[e]
 | _=>ents
def trB (P:Program) (ops:Array Oper) (rs:List Nat) (h0:AH):List Oper->List AOper->List Yd->List AV->AH->List AV->AH->Prop
 | [],[],[],T,ents,Tf,ef=>T=Tf/\ents=ef
 | o::l,ao::al,y::ys,T,ents,Tf,ef=>YD P ops h0 o y T/\(isF ao.op=true->y.act=.fr)/\(y.act=.fr\/y.act=.rd\/(∃ ent,y.act=.alloc (h0.length+ents.length) ent) \/ ∃ id e,y.act=.rdE id e/\id∈rs/\h0[id]?=some e)/\(isL ao.op=true->y.act=.fr \/ ∃ id e,y.act=.rdE id e/\id∈rs)/\trB P ops rs h0 l al ys (aPut T o.dst y.c) (y.ents ents) Tf ef
 | _,_,_,_,_,_,_=>False
def trT (P:Program) (ops:Array Oper) (rs:List Nat) (h0:AH):List Bool->List Oper->List AOper->List Yd->List AV->AH->List AV->AH->Prop
 | _,[],[],[],T,h,Tf,hf=>T=Tf/\h=hf
 | q,o::l,ao::al,y::ys,T,h,Tf,hf=>YD P ops h0 o y T/\(isF ao.op=true->y.act=.fr)/\(y.act=.fr \/ ∃ h',y.act=.step h h' /\ ∀ id∈(bif q.headD true then rs else []),h'[id]?=h[id]?)/\trT P ops rs h0 q.tail l al ys (aPut T o.dst y.c) (y.eff h) Tf hf
 | _,_,_,_,_,_,_,_=>False
def uQ {rs:List Nat}{h0:AH}{o:Oper}{ao:AOp}{dst:Option Nat}{gd:Option (Nat×Bool)}(hd:dst=o.dst) (hos:OSound P o ao) (hls:LSound P o ao) (hld : ∀ agg sz x,ao=.loadR agg sz x->Dp P o (.load agg sz x)) {K:List AV->AH->Prop}{T:List AV}{ents:AH}(hw:Kc ops o T=some true) (hstep:adstep P rs h0 ⟨dst,gd,ao⟩ T ents K) :
    ∃ y:Yd,YD P ops h0 o y T/\(isF ao=true->y.act=.fr)/\(y.act=.fr\/y.act=.rd\/(∃ ent,y.act=.alloc (h0.length+ents.length) ent) \/ ∃ id e,y.act=.rdE id e/\id∈rs/\h0[id]?=some e)/\(isL ao=true->y.act=.fr \/ ∃ id e,y.act=.rdE id e/\id∈rs)/\K (aPut T o.dst y.c) (y.ents ents):=by
  subst hd;rcases hos with ⟨ha,he,hnc,hnp,hnq⟩ | ⟨f,xs,ts,rfl,ho⟩ | ⟨x,rfl,ho⟩ | ⟨neg,x,t,yt,e,rfl,ho,hu⟩
  . by_cases hL:isL ao=true
    . cases ao <;> simp only[isL] at hL <;> try (cases hL;done)
      rename_i agg sz x;have hl2:=hld agg sz x rfl;simp only[adstep] at hstep;split at hstep <;> try (exact hstep.elim)
      . rename_i cs hx;split at hstep <;> try (exact hstep.elim)
        rename_i c hc;refine⟨⟨c,.fr⟩,.inl ⟨hw,?_⟩,λ_=>rfl,.inl rfl,λ_=>.inl rfl,hstep⟩;intro h w g ρ hs hr;exact .inl (hl2 h (Ae T) c (by simp only[aval,hx,Fe,Option.bind_some];exact hc) w g ρ hs hr)
      . rename_i cs hx;split at hstep <;> try (exact hstep.elim)
        rename_i c hc;refine⟨⟨c,.fr⟩,.inl ⟨hw,?_⟩,λ_=>rfl,.inl rfl,λ_=>.inl rfl,hstep⟩;intro h w g ρ hs hr;exact .inl (hl2 h (Ae T) c (by simp only[aval,hx,Fe,Option.bind_some];exact hc) w g ρ hs hr)
      . rename_i id v off hx;obtain⟨ty,s,cells,c,h1,h2,h3,h4⟩:=hstep;refine⟨⟨c,.rdE id (.mk v ty s cells)⟩,.inl ⟨hw,?_⟩,λhF=>(by simp[isF] at hF),.inr (.inr (.inr ⟨id,_,rfl,h3,h1⟩)),λ_=>.inr ⟨id,_,rfl,h3⟩,h4⟩;intro h hid w g ρ hs hr;exact .inl (hl2 h (Ae T) c (by simp only[aval,hx,Fe,hid,if_true,Option.bind_some];exact h2) w g ρ hs hr)
    . have hstep' : match aval h0 (Ae T) ao with
          | some c=>K (aPut T o.dst c) ents
          | none => ∃ c ent,(aallo (h0.length+ents.length) (Ae T) ao=some (c,ent)\/Fb (h0.length+ents.length) (Ae T) ao=some (c,ent))/\K (aPut T o.dst c) (ents++[ent]):=by
        cases ao <;> first | exact hstep | exact absurd rfl (hnc _ _) | exact absurd rfl (hnp _) | exact absurd rfl (hnq _ _) | exact absurd rfl hL
      cases hv:aval h0 (Ae T) ao with
      | some c =>
        rw[hv] at hstep'
        by_cases hF:isF ao=true
        . refine⟨⟨c,.fr⟩,.inl ⟨hw,?_⟩,λ_=>rfl,.inl rfl,λh=>absurd h hL,hstep'⟩
          intro h w g ρ hs hr
          exact .inl (ha h (Ae T) c (by rw[aval_F hF h h0];exact hv) w g ρ hs hr)
        . refine⟨⟨c,.rd⟩,.inl ⟨hw,?_⟩,λh=>absurd h hF,.inr (.inl rfl),λh=>absurd h hL,hstep'⟩
          intro h hx w g ρ hs hr
          exact .inl (ha h (Ae T) c (Yw hx hv) w g ρ hs hr)
      | none =>
        rw[hv] at hstep'
        obtain⟨c,ent,hv2,hk⟩:=hstep'
        refine⟨⟨c,.alloc (h0.length+ents.length) ent⟩,.inl ⟨hw,Nat.le_add_right _ _,hv2.elim (hls _ _ _ _) (pG hls _ _ _ _)⟩,λhF=>?_,.inr (.inr (.inl ⟨ent,rfl⟩)),λh=>absurd h hL,hk⟩
        rw[aallo_F hF,aalloI_F hF] at hv2
        rcases hv2 with h | h <;> cases h
  . simp only[adstep] at hstep;obtain⟨c,hc,hK⟩:=hstep;refine⟨⟨c,.rd⟩,.inl ⟨hw,?_⟩,λhF=>by simp[isF] at hF,.inr (.inl rfl),λhF=>by simp[isL] at hF,hK⟩;intro h hx w g ρ hs hr;refine .inr ?_;refine (Qd ho (hc h hx) hs (hr f (by simp[ho,Op.operands,Call.operands])) (λx hx=>hr x (by simp[ho,Op.operands,Call.operands,hx]))).mono ?_;rintro e w' ⟨x,h',g',k1,k2,k3,k4,k5,rfl,rfl⟩;cases e <;> simp only[EndR] at k1;exact⟨_,g',rfl,k1,k2,k3,k4,k5⟩
  . simp only[adstep,aval,aallo,Fb] at hstep;obtain⟨c,ent,h | h,_⟩:=hstep <;> cases h
  . simp only[adstep,aval,aallo,Fb] at hstep;obtain⟨c,ent,h | h,_⟩:=hstep <;> cases h
def uO {rs:List Nat}{h0 h:AH}{o:Oper}{ao:AOp}{dst:Option Nat}{gd:Option (Nat×Bool)}(hd:dst=o.dst) (hos:OSound P o ao) {K:List AV->AH->Prop}{T:List AV}(hw:Kc ops o T=some true) (hstep:Mg P rs ⟨dst,gd,ao⟩ T h K) :
    ∃ y:Yd,YD P ops h0 o y T/\(isF ao=true->y.act=.fr)/\(y.act=.fr \/ ∃ h',y.act=.step h h' /\ ∀ id∈rs,h'[id]?=h[id]?)/\K (aPut T o.dst y.c) (y.eff h):=by
  subst hd;rcases hos with ⟨ha,he,hnc,hnp,hnq⟩ | ⟨f,xs,ts,rfl,ho⟩ | ⟨x,rfl,ho⟩ | ⟨neg,x,t,yt,e,rfl,ho,hu⟩
  . have hstep' : match aval h (Ae T) ao with
        | some c=>K (aPut T o.dst c) h
        | none=>match aeff h (Ae T) ao with
          | some (c,h')=>(∀ id∈rs,h'[id]?=h[id]?)/\K (aPut T o.dst c) h'
          | none=>False:=by
      cases ao <;> first | exact hstep | exact absurd rfl (hnc _ _) | exact absurd rfl (hnp _) | exact absurd rfl (hnq _ _)
    cases hv:aval h (Ae T) ao with
    | some c =>
      rw[hv] at hstep'
      by_cases hF:isF ao=true
      . refine⟨⟨c,.fr⟩,.inl ⟨hw,?_⟩,λ_=>rfl,.inl rfl,hstep'⟩
        intro h' w g ρ hs hr
        exact .inl (ha h' (Ae T) c (by rw[aval_F hF h' h];exact hv) w g ρ hs hr)
      . refine⟨⟨c,.step h h⟩,.inl ⟨hw,?_⟩,λh=>absurd h hF,.inr ⟨h,rfl,λ_ _=>rfl⟩,hstep'⟩
        intro w g ρ hs hr
        obtain⟨v,h1,h2⟩:=ha h (Ae T) c hv w g ρ hs hr
        exact .inl ⟨_,v,w,g,h1,.inl rfl,h2,hs,Gh.le.refl g,Fr.refl _ _,λk hk=>.inl hk⟩
    | none =>
      rw[hv] at hstep'
      cases hv2:aeff h (Ae T) ao with
      | none=>rw[hv2] at hstep';exact hstep'.elim
      | some p =>
        obtain⟨c,h'⟩:=p
        rw[hv2] at hstep'
        refine⟨⟨c,.step h h'⟩,.inl ⟨hw,λw g ρ hs hr=>.inl (he h (Ae T) c h' hv2 w g ρ hs hr)⟩,λhF=>?_,.inr ⟨h',rfl,hstep'.1⟩,hstep'.2⟩
        rw[aeff_F hF] at hv2
        cases hv2
  . simp only[Mg] at hstep;obtain⟨c,h',hc,hr',hK⟩:=hstep;refine⟨⟨c,.step h h'⟩,.inl ⟨hw,?_⟩,λhF=>by simp[isF] at hF,.inr ⟨h',rfl,hr'⟩,hK⟩;intro w g ρ hs hr;refine .inr ?_;refine (Qd ho hc hs (hr f (by simp[ho,Op.operands,Call.operands])) (λx hx=>hr x (by simp[ho,Op.operands,Call.operands,hx]))).mono ?_;rintro e w' ⟨x,h',g',k1,k2,k3,k4,k5,rfl,rfl⟩;cases e <;> simp only[EndR] at k1;exact⟨_,g',rfl,k1,k2,k3,k4,k5⟩
  . simp only[Mg] at hstep
  . simp only[Mg] at hstep
def Nu {o:Oper}{gd:Option (Nat×Bool)}(hgd:M5 ops o.guard=some gd) {T:List AV}{f:Bool->Prop}(hr:agd gd T f) : ∃ b,Kc ops o T=some b/\f b:=by
 unfold M5 at hgd;split at hgd
 .rename_i hn;cases hgd;exact⟨true,by simp[Kc,hn],hr⟩
 .rename_i j want hn;split at hgd <;> try (cases hgd;done)
  rename_i t hd;cases hgd;simp only[agd] at hr;split at hr <;> try (exact hr.elim)
  .rename_i b hT;exact⟨b==want,by simp only[Kc,hn,hd,hT],hr⟩
  .rename_i vs hT;exact⟨false,by simp only[Kc,hn,hd,hT],hr⟩
def mW {S:List Nat}{o:Oper}{ao:AOp}(h:Np P S o=some ao) : ∀ agg sz x,ao=.loadR agg sz x->Dp P o (.load agg sz x):=by
  rintro agg sz x rfl;have key : ∀ a,K8 P o=some a->toR a=.loadR agg sz x->Dp P o (.load agg sz x):=by
    intro a h1 h2;have hs:=No h1;cases a <;> simp only[toR] at h2 <;> cases h2
    . rcases hs with ⟨ha,_⟩ | ⟨_,_,_,e,_⟩ | ⟨_,e,_⟩ | ⟨_,_,_,_,_,e,_⟩
      . exact ha
      all_goals cases e
    . exact absurd h1 M4
  unfold Np at h;split at h <;> split at h
  all_goals first
    | exact absurd h M4
    | (simp only [Option.map_eq_some_iff] at h
       obtain⟨a,h1,h2⟩:=h
       exact key a h1 h2)
def Yz {S rs:List Nat}{h0:AH}{K:List AV->AH->Prop} : ∀ (l:List Oper) (al:List AOper),l.mapM (D6 P S ops)=some al -> ∀ (T:List AV) (ents:AH),adrun P rs h0 al T ents K -> ∃ ys Tf ef,trB P ops rs h0 l al ys T ents Tf ef/\K Tf ef
 | [],al,hm,T,ents,hr=>by simp at hm;subst hm;exact⟨[],T,ents,⟨rfl,rfl⟩,hr⟩
 | o::l,al,hm,T,ents,hr=>by
  simp only[List.mapM_cons,Option.bind_eq_bind,Option.bind_eq_some_iff,Option.pure_def,Option.some.injEq] at hm;obtain⟨ao,h1,al',h2,rfl⟩:=hm;unfold D6 at h1;split at h1 <;> try (cases h1;done)
  rename_i aop gd hao hgd;cases h1;have ih:=Yz (rs:=rs) (h0:=h0) (K:=K) l al' h2;simp only[adrun] at hr;obtain⟨b,hb,hf1,hf2⟩:=Nu hgd hr;cases b
  .obtain⟨ys,Tf,ef,hy,hk⟩:=ih _ _ (hf2 rfl);exact⟨⟨.v undef,.fr⟩::ys,Tf,ef,⟨.inr ⟨hb,rfl⟩,λ_=>rfl,.inl rfl,λ_=>.inl rfl,hy⟩,hk⟩
  .obtain⟨y,y1,y2,y3,y3',y4⟩:=uQ rfl (Hw hao) (O4 hao) (mW hao) hb (hf1 rfl);obtain⟨ys,Tf,ef,hy,hk⟩:=ih _ _ y4;exact⟨y::ys,Tf,ef,⟨y1,y2,y3,y3',hy⟩,hk⟩
def Ge (o:AOper):Bool:=match o.op with
 | .call .. => false
 | .panic _=>false
 | .eqn .. => false
 | _=>true
def qU {S rs:List Nat}{h0:AH}{K:List AV->AH->Prop} : ∀ (l:List Oper) (al:List AOper),l.mapM (D6 P S ops)=some al -> ∀ (q:List Bool) (T:List AV) (h:AH),En P rs q al T h K -> ∃ ys Tf hf,trT P ops rs h0 q l al ys T h Tf hf/\K Tf hf
 | [],al,hm,q,T,h,hr=>by simp at hm;subst hm;exact⟨[],T,h,⟨rfl,rfl⟩,hr⟩
 | o::l,al,hm,q,T,h,hr=>by
  simp only[List.mapM_cons,Option.bind_eq_bind,Option.bind_eq_some_iff,Option.pure_def,Option.some.injEq] at hm;obtain⟨ao,h1,al',h2,rfl⟩:=hm;unfold D6 at h1;split at h1 <;> try (cases h1;done)
  rename_i aop gd hao hgd;cases h1;have ih:=qU (rs:=rs) (h0:=h0) (K:=K) l al' h2;simp only[En] at hr;obtain⟨b,hb,hf1,hf2⟩:=Nu hgd hr;cases b
  .obtain⟨ys,Tf,ef,hy,hk⟩:=ih _ _ _ (hf2 rfl);exact⟨⟨.v undef,.fr⟩::ys,Tf,ef,⟨.inr ⟨hb,rfl⟩,λ_=>rfl,.inl rfl,hy⟩,hk⟩
  .obtain⟨y,y1,y2,y3,y4⟩:=uO rfl (Hw hao) hb (hf1 rfl);obtain⟨ys,Tf,ef,hy,hk⟩:=ih _ _ _ y4;exact⟨y::ys,Tf,ef,⟨y1,y2,y3,hy⟩,hk⟩
def lexD (P:Program) (ops:Array Oper) (h0:AH) (tr:Nat->Yd) (K:List AV->AH->Prop):Nat->Nat->List AV->AH->Prop
 | 0,_,T,h=>K T h
 | m+1,k,T,h => ∃ o,ops[k]?=some o/\YD P ops h0 o (tr k) T/\(tr k).okAt h0 h/\lexD P ops h0 tr K m (k+1) (aPut T o.dst (tr k).c) ((tr k).eff h)
def aN {h0:AH}{tr:Nat->Yd}{K K':List AV->AH->Prop}(m':Nat) : ∀ (m k:Nat) (T:List AV) (h:AH),lexD P ops h0 tr K m k T h->(∀ T h,K T h->lexD P ops h0 tr K' m' (k+m) T h)->lexD P ops h0 tr K' (m+m') k T h
 | 0,k,T,h,hl,hk=>by rw[Nat.zero_add];exact hk T h hl
 | m+1,k,T,h,hl,hk=>by
  obtain⟨o,h1,h2,h3,h4⟩:=hl;rw[show m+1+m'=(m+m')+1 by omega];exact⟨o,h1,h2,h3,aN m' m (k+1) _ _ h4 λT h hK=>by rw[show k+1+m=k+(m+1) by omega];exact hk T h hK⟩
def Nb {md:Region.Mode}{h0:AH}{tr:Nat->Yd}{K:List AV->AH->Prop}
  (hpair : ∀ i j,i<j->j<ops.size->(∃ n,i∈anc md ops j n)\/Compat h0 (tr i) (tr j)) : ∀ (m k:Nat) (listed:Array Bool) (T:List AV) (h:AH),k+m=ops.size->listed.size=ops.size->Closed md ops listed->(∀ j,j<k->listed.getD j true=true) ->
  Region.lexFrom md ops m k listed=true->lexD P ops h0 tr K m k T h->N5 P md ops h0 tr K m listed T h
 | 0,k,listed,T,h,hk,hsz,hc,hl,hB,hq=>⟨by simpa [Region.lexFrom] using hB,hq⟩
 | m+1,k,listed,T,h,hk,hsz,hc,hl,hB,hq=>by
  obtain⟨o,ho,hy,hok,hq'⟩:=hq;simp only[Region.lexFrom,Bool.and_eq_true] at hB;obtain⟨⟨hr,hf⟩,hB'⟩:=hB;have hr':k∈Region.ready md ops listed:=by simpa using hr
  refine bQ ho m listed T h hc ?_ hr' hy hok ?_
  .intro j oj hj hne hun;have hjo:j<ops.size:=(Array.getElem?_eq_some_iff.1 hj).1;have hkj:k<j:=by
    rcases Nat.lt_trichotomy j k with h | h | h
    .rw[hl j h] at hun;cases hun
    .exact absurd h hne
    .exact h
   rcases hpair k j hkj hjo with h1 | h1
   .exact .inl h1
   .by_cases hd : ∃ e∈oj.after,Region.binds md e=true/\e.on=k
    .obtain⟨e,he,hb,heq⟩:=hd;refine .inl ⟨0,?_⟩;simp only[anc,hj,List.mem_filterMap];exact⟨e,by simpa using he,by simp[hb,heq]⟩
    .exact .inr ⟨Region.free_spec ho hf j oj hj hne hun (λe he hb heq=>hd ⟨e,he,hb,heq⟩),h1⟩
  .refine Nb hpair m (k+1) (listed.setIfInBounds k true) _ _ (by omega) (by simpa using hsz) (hc.set hr') ?_ hB' hq';intro j hj;by_cases hjk:k=j
   .subst hjk;have:k<listed.size:=by rw[hsz];exact (Array.getElem?_eq_some_iff.1 ho).1
    simp[this]
   .rw[getD_set_ne true hjk];exact hl j (by omega)
def Rn [Rd] {h0:AH}{tr:Nat->Yd}{i:Nat}{T:List AV}{h:AH}{K:List AV->AH->Prop}{w0:World}{S0:Nat->Prop}{g0:Gh}{K':Act->World->Prop}{Q':Exit->Act->World->Prop}{a:Act}{w:World}{g:Gh}(hs:St n0 w0 S0 g0 T h a w g)
  (hk : ∀ T h a w g,St n0 w0 S0 g0 T h a w g->K T h->K' a w) (hq:qOpD P ops h0 tr i K T h):wpOpIn Rd.F 0 P ops Q' i K' a w:=by
 unfold qOpD at hq;unfold wpOpIn;split
 .rename_i ho;simp only[ho] at hq;exact hk _ _ _ _ _ hs hq
 .rename_i o ho;simp only[ho] at hq;obtain⟨hy,hok,hK⟩:=hq;have quiet : ∀ c,AQuiet P o (Ae T) h c->K (aPut T o.dst c) h->o.wpIn Rd.F 0 P a w K' Q':=by
   intro c hqu hK;rcases hqu w g a.eval hs.sim (λx _=>Fp hs.tmps x) with ⟨v,h1,h2⟩ | h2
   .exact Oper.wpR_value h1 (hk _ _ _ _ _ (hs.aput h2) hK)
   .refine (h2.mono ?_).wp;rintro e w' ⟨v,g',rfl,k1,k2,k3,k4,k5⟩;exact hk _ _ _ _ _ ((hs.call k2 k3 k4 k5).aput k1) hK
  rcases hy with ⟨hw,hqu⟩ | ⟨hw,he⟩
  .rw[Y0 hw hs.tmps];simp only[if_true];generalize tr i=y at *;obtain⟨c,ya⟩:=y;cases ya with
   | fr=>exact quiet c (hqu h) hK
   | rd=>exact quiet c (hqu h hok) hK
   | rdE id e=>exact quiet c (hqu h hok) hK
   | alloc id ent =>
    obtain⟨hid,hal⟩:=hqu
    obtain⟨v,w',g',k1,k2,k3,k4,k5,k6⟩:=hal w g a.eval h hs.sim hok.2 (λx _=>Fp hs.tmps x)
    exact Oper.wpR_value k1 (hk _ _ _ _ _ ((hs.call k3 k4 k5 k6).aput k2) hK)
   | step h1 h2 =>
    have hh:h=h1:=hok
    subst hh
    rcases hqu w g a.eval hs.sim (λx _=>Fp hs.tmps x) with ⟨n,v,w',g',k1,k2,k3,k4,k5,k6,k7⟩ | k2
    .have hst:=(hs.call k4 k5 k6 k7).aput (d:=o.dst) k3
     rcases k2 with rfl | ⟨rfl,rfl⟩
     .exact Oper.wpR_value k1 (hk _ _ _ _ _ hst hK)
     .exact Oper.wpR_skip k1 (hk _ _ _ _ _ hst hK)
    .refine (k2.mono ?_).wp
     rintro e w' ⟨v,g',rfl,q1,q2,q3,q4,q5⟩
     exact hk _ _ _ _ _ ((hs.call q2 q3 q4 q5).aput q1) hK
   | upd need id e2 =>
    rcases hqu h hok w g a.eval hs.sim (λx _=>Fp hs.tmps x) with ⟨n,v,w',g',k1,k2,k3,k4,k5,k6,k7⟩ | k2
    .have hst:=(hs.call k4 k5 k6 k7).aput (d:=o.dst) k3
     rcases k2 with rfl | ⟨rfl,rfl⟩
     .exact Oper.wpR_value k1 (hk _ _ _ _ _ hst hK)
     .exact Oper.wpR_skip k1 (hk _ _ _ _ _ hst hK)
    .refine (k2.mono ?_).wp
     rintro e w' ⟨v,g',rfl,q1,q2,q3,q4,q5⟩
     exact hk _ _ _ _ _ ((hs.call q2 q3 q4 q5).aput q1) hK
  .rw[Y0 hw hs.tmps];simp only[Bool.false_eq_true,if_false];rw[he] at hK;exact⟨λ_ _=>trivial,hk _ _ _ _ _ (hs.aput (Z2 w g)) hK⟩
def Qp [Rd] {md:Region.Mode}{h0:AH}{tr:Nat->Yd}{K:List AV->AH->Prop}{Q':Exit->Act->World->Prop}{w0:World}{S0:Nat->Prop}{g0:Gh}(hK : ∀ T h a w g,St n0 w0 S0 g0 T h a w g->K T h->Q' .normal a w) :
  ∀ (fuel:Nat) (listed:Array Bool) (T:List AV) (h:AH) (a:Act) (w:World) (g:Gh),St n0 w0 S0 g0 T h a w g->N5 P md ops h0 tr K fuel listed T h->wpAnyIn Rd.F 0 P md ops Q' fuel listed a w
 | 0,_,_,_,_,_,_,hs,hq=>⟨hq.1,hK _ _ _ _ _ hs hq.2⟩
 | fuel+1,_,_,_,_,_,_,hs,hq=>⟨λh0=>hK _ _ _ _ _ hs (hq.1 h0),λi hi=>Rn hs (λT' h' a' w' g' hs' hk=>Qp hK fuel _ T' h' a' w' g' hs' hk) (hq.2 i hi)⟩
end
section
variable {P : Program} {n0 : Nat} {ops : Array Oper}
def aJ {α β:Type}(f:α->Option β) : ∀ (l:List α) (bs:List β) (s:Nat),l.mapM f=some bs->(l.take s).mapM f=some (bs.take s)/\(l.drop s).mapM f=some (bs.drop s)
 | [],bs,s,h=>by simp at h;subst h;simp
 | x::l,bs,0,h=>by simpa using h
 | x::l,bs,s+1,h=>by
  simp only[List.mapM_cons,Option.bind_eq_bind,Option.bind_eq_some_iff,Option.pure_def,Option.some.injEq] at h;obtain⟨b,h1,bs',h2,rfl⟩:=h;obtain⟨i1,i2⟩:=aJ f l bs' s h2;refine⟨?_,by simpa using i2⟩;simp only[List.take_succ_cons,List.mapM_cons,Option.bind_eq_bind,h1,i1];rfl
def Uv {α β:Type}(f:α->Option β) : ∀ (l:List α) (bs:List β),l.mapM f=some bs->bs.length=l.length
 | [],bs,h=>by simp at h;subst h;rfl
 | x::l,bs,h=>by
  simp only[List.mapM_cons,Option.bind_eq_bind,Option.bind_eq_some_iff,Option.pure_def,Option.some.injEq] at h;obtain⟨b,h1,bs',h2,rfl⟩:=h;simp[Uv f l bs' h2]
def SimH.reserve {w:World}{g:Gh}{h:AH}(hs:SimH w g h) (n:Nat):SimH w g (h++List.replicate n .free):=by
 have hget : ∀ {i v ty s:Nat} {c:List AV},(h++List.replicate n Ent.free)[i]?=some (.mk v ty s c)->h[i]?=some (.mk v ty s c):=by
  intro i v ty s c he;by_cases hi:i<h.length
  .rw[List.getElem?_append_left hi] at he;exact he
  .rw[List.getElem?_append_right (by omega),List.getElem?_replicate] at he;split at he <;> cases he
 have hgr : ∀ {i k:Nat} {o:Obj} {T:List AV} {vs:List Value},(h++List.replicate n Ent.free)[i]?=some (.raw k o T vs)->h[i]?=some (.raw k o T vs):=by
  intro i k o T vs he;by_cases hi:i<h.length
  .rw[List.getElem?_append_left hi] at he;exact he
  .rw[List.getElem?_append_right (by omega),List.getElem?_replicate] at he;split at he <;> cases he
 have how : ∀ i k,OwAt g (h++List.replicate n .free) i k->OwAt g h i k:=by
  rintro i k ⟨v,ty,s,c,b,cap,e1,e2,e3,e4⟩;exact⟨v,ty,s,c,b,cap,hget e1,e2,e3,e4⟩
 refine⟨λi v ty s c he=>hs.ent i v ty s c (hget he),λi j k h1 h2=>hs.inj i j k (how i k h1) (how j k h2),hs.lt,?_,?_,hs.glob,λi k o T vs he=>hs.raw i k o T vs (hgr he),λi j k ⟨o,T,vs,e1⟩ ⟨o',T',vs',e2⟩=>hs.rinj i j k ⟨o,T,vs,hgr e1⟩ ⟨o',T',vs',hgr e2⟩,hs.xw (Nat.le_refl _) rfl (λ_=>.inl) (λk hk=>.inl (hk.imp (λ⟨i,hk⟩=>⟨i,how i k hk⟩) (λ⟨i,o,T,vs,e⟩=>⟨i,o,T,vs,hgr e⟩)))⟩
 .intro i v l hl;have:=hs.fresh i v l hl;exact⟨by simp;omega,λv' ty s c he=>this.2 _ _ _ _ (hget he)⟩
 .intro i v l hl he;have:=(hs.fresh i v l hl).1;rw[List.getElem?_append_left this] at he;exact hs.free i v l hl he
def Ow.of_reserve {g:Gh}{h:AH}{n k:Nat}(hk:Ow g (h++List.replicate n .free) k):Ow g h k:=by
 rcases hk with ⟨i,v,ty,s,c,b,cap,e1,e2,e3,e4⟩ | ⟨i,o,T,vs,e1⟩;rotate_left 1
 .refine .inr ⟨i,o,T,vs,?_⟩;by_cases hi:i<h.length
  .rw[List.getElem?_append_left hi] at e1;exact e1
  .rw[List.getElem?_append_right (by omega),List.getElem?_replicate] at e1;split at e1 <;> cases e1
 refine .inl ⟨i,v,ty,s,c,b,cap,?_,e2,e3,e4⟩;by_cases hi:i<h.length
 .rw[List.getElem?_append_left hi] at e1;exact e1
 .rw[List.getElem?_append_right (by omega),List.getElem?_replicate] at e1;split at e1 <;> cases e1
def St.reserve {w0:World}{S0:Nat->Prop}{g0:Gh}{T:List AV}{h:AH}{a:Act}{w:World}{g:Gh}(hs:St n0 w0 S0 g0 T h a w g) (n:Nat):St n0 w0 S0 g0 T (h++List.replicate n .free) a w g :=
 ⟨hs.tmps,hs.defers,hs.sim.reserve n,hs.fr,hs.le,hs.bd,λk hk=>hs.ow k hk.of_reserve⟩
def YA.mk?:YA->Bool
 | .alloc _ _=>true
 | _=>false
def cnt:List Yd->Nat
 | []=>0
 | y::ys=>(if y.act.mk? then 1 else 0)+cnt ys
def nilY:Yd:=⟨.any,.fr⟩
def Va : ∀ (ys:List Yd) (i j:Nat),i<=j->cnt (ys.take i)<=cnt (ys.take j)
 | [],i,j,_=>by simp[cnt]
 | y::ys,0,j,_=>by simp[cnt]
 | y::ys,i+1,0,h=>by omega
 | y::ys,i+1,j+1,h=>by simp only[List.take_succ_cons,cnt];have:=Va ys i j (by omega);omega
def Qo : ∀ (ys:List Yd) (i id:Nat) (e:Ent),(ys.getD i nilY).act=.alloc id e->cnt (ys.take (i+1))=cnt (ys.take i)+1
 | [],i,id,e,h=>by simp[nilY] at h
 | y::ys,0,id,e,h=>by simp at h;simp[cnt,h,YA.mk?]
 | y::ys,i+1,id,e,h=>by
  have:=Qo ys i id e (by simpa using h);simp only[List.take_succ_cons,cnt] at this ⊢;omega
def bY {rs:List Nat}{h0:AH} : ∀ (l:List Oper) (al:List AOper) (ys:List Yd) (T:List AV) (ents:AH) (Tf:List AV) (ef:AH),trB P ops rs h0 l al ys T ents Tf ef->ys.length=l.length/\al.length=l.length
 | [],[],[],_,_,_,_,_=>⟨rfl,rfl⟩
 | o::l,ao::al,y::ys,T,ents,Tf,ef,h=>by
  have:=bY l al ys _ _ Tf ef h.2.2.2.2;simp[this]
 | [],[],_::_,_,_,_,_,h=>h.elim
 | [],_::_,[],_,_,_,_,h=>h.elim
 | [],_::_,_::_,_,_,_,_,h=>h.elim
 | _::_,[],[],_,_,_,_,h=>h.elim
 | _::_,[],_::_,_,_,_,_,h=>h.elim
 | _::_,_::_,[],_,_,_,_,h=>h.elim
def nV {rs:List Nat}{h0:AH} : ∀ (q:List Bool) (l:List Oper) (al:List AOper) (ys:List Yd) (T:List AV) (h:AH) (Tf:List AV) (hf:AH),trT P ops rs h0 q l al ys T h Tf hf->ys.length=l.length/\al.length=l.length
 | _,[],[],[],_,_,_,_,_=>⟨rfl,rfl⟩
 | q,o::l,ao::al,y::ys,T,h',Tf,hf,h=>by
  have:=nV q.tail l al ys _ _ Tf hf h.2.2.2;simp[this]
 | _,[],[],_::_,_,_,_,_,h=>h.elim
 | _,[],_::_,[],_,_,_,_,h=>h.elim
 | _,[],_::_,_::_,_,_,_,_,h=>h.elim
 | _,_::_,[],[],_,_,_,_,h=>h.elim
 | _,_::_,[],_::_,_,_,_,_,h=>h.elim
 | _,_::_,_::_,[],_,_,_,_,h=>h.elim
def Rq {rs:List Nat}{h0:AH} : ∀ (l:List Oper) (al:List AOper) (ys:List Yd) (T:List AV) (ents:AH) (Tf:List AV) (ef:AH),trB P ops rs h0 l al ys T ents Tf ef -> ∀ j,j<l.length ->
  ((∀ ao,al[j]?=some ao->isF ao.op=true->(ys.getD j nilY).act=.fr)/\((ys.getD j nilY).act=.fr\/(ys.getD j nilY).act=.rd\/(∃ ent,(ys.getD j nilY).act=.alloc (h0.length+ents.length+cnt (ys.take j)) ent) \/ ∃ id e,(ys.getD j nilY).act=.rdE id e/\id∈rs/\h0[id]?=some e) /\
   (∀ ao,al[j]?=some ao->isL ao.op=true->(ys.getD j nilY).act=.fr \/ ∃ id e,(ys.getD j nilY).act=.rdE id e/\id∈rs))
 | [],[],[],T,ents,Tf,ef,h,j,hj=>by simp at hj
 | o::l,ao::al,y::ys,T,ents,Tf,ef,h,0,hj=>by
  obtain⟨h1,h2,h3,h3',h4⟩:=h;refine⟨λao' e hF=>?_,?_,λao' e hF=>?_⟩
  .simp at e;subst e;simpa using h2 hF
  .rcases h3 with h3 | h3 | ⟨ent,h3⟩ | ⟨id,e,h3,h5⟩
   .exact .inl (by simpa using h3)
   .exact .inr (.inl (by simpa using h3))
   .exact .inr (.inr (.inl ⟨ent,by simpa [cnt] using h3⟩))
   .exact .inr (.inr (.inr ⟨id,e,by simpa using h3,h5⟩))
  .simp at e;subst e;simpa using h3' hF
 | o::l,ao::al,y::ys,T,ents,Tf,ef,h,j+1,hj=>by
  obtain⟨h1,h2,h3,h3',h4⟩:=h;have ih:=Rq l al ys _ _ Tf ef h4 j (by simpa using hj);refine⟨λao' e hF=>by simpa using ih.1 ao' (by simpa using e) hF,?_,λao' e hF=>by simpa using ih.2.2 ao' (by simpa using e) hF⟩;rcases ih.2.1 with i3 | i3 | ⟨ent,i3⟩ | ⟨id,e,i3,i5⟩
  .exact .inl (by simpa using i3)
  .exact .inr (.inl (by simpa using i3))
  .refine .inr (.inr (.inl ⟨ent,?_⟩));simp only[List.getD_cons_succ,List.take_succ_cons,cnt];rw[i3];congr 1;rcases h3 with h3 | h3 | ⟨e',h3⟩ | ⟨id,e,h3,_⟩
   .simp[Yd.ents,h3,YA.mk?]
   .simp[Yd.ents,h3,YA.mk?]
   .simp[Yd.ents,h3,YA.mk?];omega
   .simp[Yd.ents,h3,YA.mk?]
  .exact .inr (.inr (.inr ⟨id,e,by simpa using i3,i5⟩))
 | [],[],_::_,_,_,_,_,h,_,_=>h.elim
 | [],_::_,[],_,_,_,_,h,_,_=>h.elim
 | [],_::_,_::_,_,_,_,_,h,_,_=>h.elim
 | _::_,[],[],_,_,_,_,h,_,_=>h.elim
 | _::_,[],_::_,_,_,_,_,h,_,_=>h.elim
 | _::_,_::_,[],_,_,_,_,h,_,_=>h.elim
def nW {rs:List Nat}{h0:AH} : ∀ (q:List Bool) (l:List Oper) (al:List AOper) (ys:List Yd) (T:List AV) (h:AH) (Tf:List AV) (hf:AH),trT P ops rs h0 q l al ys T h Tf hf -> ∀ j ao,al[j]?=some ao->isF ao.op=true->(ys.getD j nilY).act=.fr
 | _,[],[],[],T,ents,Tf,ef,h,j,ao,hj,_=>by simp at hj
 | q,o::l,ao::al,y::ys,T,ents,Tf,ef,h,0,ao',hj,hF=>by
  simp at hj;subst hj;simpa using h.2.1 hF
 | q,o::l,ao::al,y::ys,T,ents,Tf,ef,h,j+1,ao',hj,hF=>by
  have ih:=nW q.tail l al ys _ _ Tf ef h.2.2.2 j ao' (by simpa using hj) hF;simpa using ih
 | _,[],[],_::_,_,_,_,_,h,_,_,_,_=>h.elim
 | _,[],_::_,[],_,_,_,_,h,_,_,_,_=>h.elim
 | _,[],_::_,_::_,_,_,_,_,h,_,_,_,_=>h.elim
 | _,_::_,[],[],_,_,_,_,h,_,_,_,_=>h.elim
 | _,_::_,[],_::_,_,_,_,_,h,_,_,_,_=>h.elim
 | _,_::_,_::_,[],_,_,_,_,h,_,_,_,_=>h.elim
def fD {rs:List Nat}{h0:AH} : ∀ (q:List Bool) (l:List Oper) (al:List AOper) (ys:List Yd) (T:List AV) (h:AH) (Tf:List AV) (hf:AH),trT P ops rs h0 q l al ys T h Tf hf -> ∀ j,(ys.getD j nilY).act=.fr \/ ∃ h1 h2,(ys.getD j nilY).act=.step h1 h2/\(q.getD j true=true -> ∀ id∈rs,h2[id]?=h1[id]?)
 | _,[],[],[],T,ents,Tf,ef,h,j=>.inl (by simp[nilY])
 | q,o::l,ao::al,y::ys,T,h',Tf,ef,h,0=>by
  rcases h.2.2.1 with h3 | ⟨h2,h3,h4⟩
  .exact .inl (by simpa using h3)
  .refine .inr ⟨h',h2,by simpa using h3,λhq=>?_⟩;have:q.headD true=true:=by
    cases q with
    | nil=>rfl
    | cons b q=>simpa using hq
   rw[this] at h4;exact h4
 | q,o::l,ao::al,y::ys,T,ents,Tf,ef,h,j+1=>by
  have ih:=fD q.tail l al ys _ _ Tf ef h.2.2.2 j;rcases ih with ih | ⟨h1,h2,ih,ih2⟩
  .exact .inl (by simpa using ih)
  .refine .inr ⟨h1,h2,by simpa using ih,λhq=>ih2 ?_⟩;cases q with
   | nil=>rfl
   | cons b q=>simpa using hq
 | _,[],[],_::_,_,_,_,_,h,_=>h.elim
 | _,[],_::_,[],_,_,_,_,h,_=>h.elim
 | _,[],_::_,_::_,_,_,_,_,h,_=>h.elim
 | _,_::_,[],[],_,_,_,_,h,_=>h.elim
 | _,_::_,[],_::_,_,_,_,_,h,_=>h.elim
 | _,_::_,_::_,[],_,_,_,_,h,_=>h.elim
def Wr {rs:List Nat}{h0:AH}{tr:Nat->Yd}{N:Nat} : ∀ (l:List Oper) (al:List AOper) (ys:List Yd) (k:Nat) (T:List AV) (ents:AH) (Tf:List AV) (ef:AH),(∀ j,j<l.length->l[j]?=ops[k+j]?)->(∀ j,j<l.length->tr (k+j)=ys.getD j nilY)->N=ents.length+cnt ys ->
  trB P ops rs h0 l al ys T ents Tf ef->lexD P ops h0 tr (λT h=>T=Tf/\h=h0++ef) l.length k T (h0++ents++List.replicate (N-ents.length) .free)
 | [],[],[],k,T,ents,Tf,ef,_,_,hN,h=>by
  simp only[List.length_nil,lexD];simp only[cnt,Nat.add_zero] at hN;obtain⟨rfl,rfl⟩:=h;exact⟨rfl,by simp[hN]⟩
 | o::l,ao::al,y::ys,k,T,ents,Tf,ef,hl,ht,hN,h=>by
  obtain⟨h1,h2,h3,h3',h4⟩:=h;have ho:ops[k]?=some o:=by have:=hl 0 (by simp);simpa using this.symm
  have hy:tr k=y:=by have:=ht 0 (by simp);simpa using this
  have hx:HExt h0 (h0++ents++List.replicate (N-ents.length) .free):=by rw[List.append_assoc];exact HExt.append _ _
  simp only[List.length_cons,lexD];simp only[cnt] at hN;refine⟨o,ho,by rw[hy];exact h1,?_,?_⟩
  .rw[hy];rcases h3 with h3 | h3 | ⟨ent,h3⟩ | ⟨id,e,h3,_,h5⟩;rotate_left 3
   .simp only[Yd.okAt,h3];exact hx id e h5
   .simp[Yd.okAt,h3]
   .simp only[Yd.okAt,h3];exact hx
   .simp only[Yd.okAt,h3];simp only[h3,YA.mk?,if_true] at hN;refine⟨by omega,?_⟩;rw[List.getElem?_append_right (by simp)];simp only[List.length_append,Nat.sub_self,List.getElem?_replicate];rw[if_pos (by omega)]
  .rw[hy];have ih:=Wr (tr:=tr) (N:=N) l al ys (k+1) (aPut T o.dst y.c) _ Tf ef (λj hj=>by have:=hl (j+1) (by simp;omega);simpa [Nat.add_assoc,Nat.add_comm 1 j] using this) (λj hj=>by have:=ht (j+1) (by simp;omega);simpa [Nat.add_assoc,Nat.add_comm 1 j] using this) (by
    rcases h3 with h3 | h3 | ⟨ent,h3⟩ | ⟨id,e,h3,_⟩;rotate_left 3
    .simp[h3,YA.mk?] at hN;simp[Yd.ents,h3];exact hN
    .simp[h3,YA.mk?] at hN;simp[Yd.ents,h3];exact hN
    .simp[h3,YA.mk?] at hN;simp[Yd.ents,h3];exact hN
    .simp[h3,YA.mk?] at hN;simp[Yd.ents,h3];omega) h4
   rcases h3 with h3 | h3 | ⟨ent,h3⟩ | ⟨id,e,h3,_⟩;rotate_left 3
   .simp only[Yd.ents,h3] at ih;simpa [Yd.eff,h3] using ih
   .simp only[Yd.ents,h3] at ih;simpa [Yd.eff,h3] using ih
   .simp only[Yd.ents,h3] at ih;simpa [Yd.eff,h3] using ih
   .simp only[Yd.ents,h3] at ih;simp only[Yd.eff,h3];simp only[h3,YA.mk?,if_true] at hN;have e:(h0++ents++List.replicate (N-ents.length) Ent.free).set (h0.length+ents.length) ent=h0++(ents++[ent])++List.replicate (N-(ents++[ent]).length) .free:=by
     rw[List.set_append_right _ _ (by simp)];simp only[List.length_append,Nat.sub_self,List.length_singleton];rw[show N-ents.length=(N-(ents.length+1))+1 by omega,List.replicate_succ];simp
    rw[e];exact ih
 | [],[],_::_,_,_,_,_,_,_,_,_,h=>h.elim
 | [],_::_,[],_,_,_,_,_,_,_,_,h=>h.elim
 | [],_::_,_::_,_,_,_,_,_,_,_,_,h=>h.elim
 | _::_,[],[],_,_,_,_,_,_,_,_,h=>h.elim
 | _::_,[],_::_,_,_,_,_,_,_,_,_,h=>h.elim
 | _::_,_::_,[],_,_,_,_,_,_,_,_,h=>h.elim
def fE {rs:List Nat}{h0:AH}{tr:Nat->Yd} : ∀ (q:List Bool) (l:List Oper) (al:List AOper) (ys:List Yd) (k:Nat) (T:List AV) (h:AH) (Tf:List AV) (hf:AH),(∀ j,j<l.length->l[j]?=ops[k+j]?)->(∀ j,j<l.length->tr (k+j)=ys.getD j nilY) ->
  trT P ops rs h0 q l al ys T h Tf hf->lexD P ops h0 tr (λT h=>T=Tf/\h=hf) l.length k T h
 | _,[],[],[],k,T,h,Tf,hf,_,_,hq=>hq
 | q,o::l,ao::al,y::ys,k,T,h,Tf,hf,hl,ht,hq=>by
  obtain⟨h1,h2,h3,h4⟩:=hq;have ho:ops[k]?=some o:=by have:=hl 0 (by simp);simpa using this.symm
  have hy:tr k=y:=by have:=ht 0 (by simp);simpa using this
  simp only[List.length_cons,lexD];refine⟨o,ho,by rw[hy];exact h1,?_,?_⟩
  .rw[hy];rcases h3 with h3 | ⟨h',h3,_⟩
   .simp[Yd.okAt,h3]
   .simp[Yd.okAt,h3]
  .rw[hy];exact fE (tr:=tr) q.tail l al ys (k+1) (aPut T o.dst y.c) _ Tf hf (λj hj=>by have:=hl (j+1) (by simp;omega);simpa [Nat.add_assoc,Nat.add_comm 1 j] using this) (λj hj=>by have:=ht (j+1) (by simp;omega);simpa [Nat.add_assoc,Nat.add_comm 1 j] using this) h4
 | _,[],[],_::_,_,_,_,_,_,_,_,h=>h.elim
 | _,[],_::_,[],_,_,_,_,_,_,_,h=>h.elim
 | _,[],_::_,_::_,_,_,_,_,_,_,_,h=>h.elim
 | _,_::_,[],[],_,_,_,_,_,_,_,h=>h.elim
 | _,_::_,[],_::_,_,_,_,_,_,_,_,h=>h.elim
 | _,_::_,_::_,[],_,_,_,_,_,_,_,h=>h.elim
def jR (ops:Array Oper) (al:List AOper) (s j:Nat):Bool :=
 (List.range s).any λi=>((al[i]?).map λo=>isL o.op).getD false&&!(anc .any ops j 12).contains i
def mZ {al:List AOper}{s i j:Nat}{ao:AOper}(h:jR ops al s j=false) (hi:i<s) (e:al[i]?=some ao) (hL:isL ao.op=true) : ∃ n,i∈anc .any ops j n:=by
 have:=List.any_eq_false.1 h i (List.mem_range.2 hi);simp[e,hL] at this;exact⟨12,this⟩
def cG (ops:Array Oper) (al:List AOper) (s:Nat):Bool :=
 (List.range ops.size).all λj=>decide (j<s)||((al[j]?).map λo=>isF o.op).getD false||(let A:=anc .any ops j 12
  (List.range j).all λi=>((al[i]?).map λo=>isF o.op||isL o.op&&decide (i<s)).getD false||A.contains i)
def cF {al:List AOper}{s:Nat}(h:cG ops al s=true) {i j:Nat}(hij:i<j) (hs:s<=j) (hj:j<ops.size) :
  (∃ ao,al[j]?=some ao/\isF ao.op=true)\/(∃ ao,al[i]?=some ao/\isF ao.op=true)\/(∃ ao,al[i]?=some ao/\isL ao.op=true/\i<s) \/ ∃ n,i∈anc .any ops j n:=by
 have:=List.all_eq_true.1 h j (List.mem_range.2 hj);simp only[Bool.or_eq_true,decide_eq_true_eq] at this;rcases this with (h1 | h1) | h1
 .omega
 .left;cases hq:al[j]? with
  | none=>simp[hq] at h1
  | some ao=>exact⟨ao,rfl,by simpa [hq] using h1⟩
 .have h2:=List.all_eq_true.1 h1 i (List.mem_range.2 hij);simp only[Bool.or_eq_true] at h2;rcases h2 with h2 | h2
  .right;cases hq:al[i]? with
   | none=>simp[hq] at h2
   | some ao =>
    have h2':isF ao.op=true\/(isL ao.op=true/\i<s):=by simpa [hq] using h2
    rcases h2' with h2 | h2
    .exact .inl ⟨ao,rfl,h2⟩
    .exact .inr (.inl ⟨ao,rfl,h2⟩)
  .exact .inr (.inr (.inr ⟨12,by simpa using h2⟩))
def Ha {h0:AH}{y z:Yd}(h:y.act=.fr):Compat h0 y z:=by unfold Compat;rw[h];trivial
def Es {h0:AH}{y z:Yd}(h:z.act=.fr):Compat h0 y z:=by unfold Compat;rw[h];cases y.act <;> trivial
def Vn [Rd] {S rs:List Nat}{id s:Nat}{al:List AOper}{Q:AX->List AV->AH->Prop}{T:List AV}{h:AH}(hfm:P.follows .mixedOrders=true) (hB:Region.lexB .any ops=true) (hm:ops.toList.mapM (D6 P S ops)=some al) (hs:s<=ops.size) (ht:cG ops al s=true)
    (hr:adrun P rs h (al.take s) T [] λT ents=>En P rs ((List.range' s (ops.size-s)).map (jR ops al s)) (al.drop s) T (h++ents) λT h=>Q .normal T h):AW P n0 (.region id ops true) Q T h:=by
  intro w0 S0 g0 a w g hst;simp only[Region.lexB,Bool.and_eq_true] at hB;obtain⟨hm1,hm2⟩:=aJ _ _ _ s hm;obtain⟨yB,T1,e1,hyB,hr2⟩:=Yz _ _ hm1 T [] hr;obtain⟨yT,T2,h2,hyT,hQ⟩:=qU (h0:=h) _ _ hm2 _ T1 (h++e1) hr2;have hlen:(ops.toList.take s).length=s:=by simp;omega
  have hlenT:(ops.toList.drop s).length=ops.size-s:=by simp
  have lB:=bY _ _ _ _ _ _ _ hyB;have lT:=nV _ _ _ _ _ _ _ _ hyT;rw[hlen] at lB;rw[hlenT] at lT;have hal:al.length=ops.size:=by have:=Uv _ _ _ hm;simpa using this
  let tr:Nat->Yd:=λk=>(yB++yT).getD k nilY;have trB_eq : ∀ j,j<s->tr j=yB.getD j nilY:=by
    intro j hj;show (yB++yT).getD j nilY=_;rw[List.getD_eq_getElem?_getD,List.getD_eq_getElem?_getD,List.getElem?_append_left (by omega)]
  have trT_eq : ∀ j,tr (s+j)=yT.getD j nilY:=by
    intro j;show (yB++yT).getD (s+j) nilY=_;rw[List.getD_eq_getElem?_getD,List.getD_eq_getElem?_getD,List.getElem?_append_right (by omega)];rw[show s+j-yB.length=j by omega]
  have frB : ∀ j ao,j<s->al[j]?=some ao->isF ao.op=true->(tr j).act=.fr:=by
    intro j ao hj e hF;rw[trB_eq j hj];exact (Rq _ _ _ _ _ _ _ hyB j (by omega)).1 ao (by rw[List.getElem?_take,if_pos hj];exact e) hF
  have frT : ∀ j ao,s<=j->al[j]?=some ao->isF ao.op=true->(tr j).act=.fr:=by
    intro j ao hj e hF;have:=nW _ _ _ _ _ _ _ _ hyT (j-s) ao (by rw[List.getElem?_drop,show s+(j-s)=j by omega];exact e) hF;rw[show j=s+(j-s) by omega,trT_eq];exact this
  have fr : ∀ j ao,al[j]?=some ao->isF ao.op=true->(tr j).act=.fr:=by
    intro j ao e hF;rcases Nat.lt_or_ge j s with h | h
    . exact frB j ao h e hF
    . exact frT j ao h e hF
  have hpair : ∀ i j,i<j->j<ops.size->(∃ n,i∈anc .any ops j n)\/Compat h (tr i) (tr j):=by
    intro i j hij hj;rcases Nat.lt_or_ge j s with hjs | hjs
    . right;have ai:=(Rq _ _ _ _ _ _ _ hyB i (by omega)).2.1;have aj:=(Rq _ _ _ _ _ _ _ hyB j (by omega)).2.1;rw[<-trB_eq i (by omega)] at ai;rw[<-trB_eq j hjs] at aj;have hlt : ∀ {id:Nat} {e:Ent},h[id]?=some e->id<h.length:=λhe=>(List.getElem?_eq_some_iff.1 he).1;rcases ai with ai | ai | ⟨ei,ai⟩ | ⟨idi,ei,ai,_,hi0⟩
      . exact Ha ai
      . rcases aj with aj | aj | ⟨ej,aj⟩ | ⟨idj,ej,aj,_,hj0⟩
        . exact Es aj
        . unfold Compat;rw[ai,aj];trivial
        . unfold Compat;rw[ai,aj];trivial
        . unfold Compat;rw[ai,aj];trivial
      . rcases aj with aj | aj | ⟨ej,aj⟩ | ⟨idj,ej,aj,_,hj0⟩
        . exact Es aj
        . unfold Compat;rw[ai,aj];trivial
        . unfold Compat;rw[ai,aj];have c1:=Qo yB i _ ei (by rw[<-trB_eq i (by omega)];exact ai);have c2:=Va yB (i+1) j hij;dsimp only;omega
        . unfold Compat;rw[ai,aj];have:=hlt hj0;dsimp only;omega
      . rcases aj with aj | aj | ⟨ej,aj⟩ | ⟨idj,ej,aj,_,hj0⟩
        . exact Es aj
        . unfold Compat;rw[ai,aj];trivial
        . unfold Compat;rw[ai,aj];have:=hlt hi0;dsimp only;omega
        . unfold Compat;rw[ai,aj];trivial
    . rcases cF ht hij hjs hj with ⟨ao,e,hF⟩ | ⟨ao,e,hF⟩ | ⟨ao,e,hF,his⟩ | h1
      . exact .inr (Es (fr j ao e hF))
      . exact .inr (Ha (fr i ao e hF))
      . cases hq':jR ops al s j with
        | false=>exact .inl (mZ hq' his e hF)
        | true =>
        have hq:((List.range' s (ops.size-s)).map (jR ops al s)).getD (j-s) true=true:=by
          rw[List.getD_eq_getElem?_getD,List.getElem?_map,List.getElem?_range' (by omega)];simp only[Option.map_some,Option.getD_some,Nat.one_mul];rw[show s+(j-s)=j by omega,hq']
        right;have ai:=(Rq _ _ _ _ _ _ _ hyB i (by omega)).2.2 ao (by rw[List.getElem?_take,if_pos his];exact e) hF;rw[<-trB_eq i his] at ai;rcases ai with ai | ⟨idi,ei,ai,hmem⟩
        . exact Ha ai
        . have aj:=fD _ _ _ _ _ _ _ _ hyT (j-s);rw[<-trT_eq,show s+(j-s)=j by omega] at aj;rcases aj with aj | ⟨h1,h2,aj,hrs⟩
          . exact Es aj
          . unfold Compat;rw[ai,aj];exact hrs hq idi hmem
      . exact .inl h1
  have hlexB := Wr (P := P) (ops := ops) (h0 := h) (tr := tr) (N := cnt yB) (ops.toList.take s) _ yB 0 T [] T1 e1 (λj hj => by
      rw[hlen] at hj;rw[List.getElem?_take,if_pos hj];simp) (λj hj=>by rw[hlen] at hj;rw[Nat.zero_add];exact trB_eq j hj) (by simp) hyB
  have hlexT:=fE (P:=P) (ops:=ops) (h0:=h) (tr:=tr) _ (ops.toList.drop s) _ yT s T1 (h++e1) T2 h2 (λj hj=>by rw[List.getElem?_drop];simp) (λj hj=>trT_eq j) hyT;rw[hlen] at hlexB;rw[hlenT] at hlexT;have hlex:=aN (ops.size-s) s 0 T _ hlexB (λT' h' hk=>by
    obtain⟨rfl,rfl⟩:=hk;rw[Nat.zero_add];exact hlexT)
  rw[show s+(ops.size-s)=ops.size by omega] at hlex;have hclosed:Closed .any ops (Array.replicate ops.size false):=by
    intro k o ho hk;have:k<ops.size:=(Array.getElem?_eq_some_iff.1 ho).1;simp[this] at hk
  have hD:=Nb (P:=P) (md:=.any) (h0:=h) (tr:=tr) hpair ops.size 0 (Array.replicate ops.size false) T _ (by omega) (by simp) hclosed (by omega) hB.2 hlex;refine wpIn_region_any hfm ?_;have hst':=hst.drew.reserve (cnt yB);refine Qp (P:=P) (md:=.any) (ops:=ops) (h0:=h) (tr:=tr) (Q':=Vj n0 w0 S0 g0 Q) (w0:=w0) (S0:=S0) (g0:=g0) (K:=λT h=>T=T2/\h=h2) ?_ ops.size (Array.replicate ops.size false) T _ a _ g hst' (by simpa using hD);rintro T' h' a' w' g' hs' ⟨rfl,rfl⟩;exact⟨.normal,T',h',g',hs',trivial,hQ⟩
end
section
variable {P : Program} {n0 : Nat} {ops : Array Oper}
def Vv (h:AH):AV->List (Nat×Ent)
 | .own id _ _=>match h[id]? with
  | some e=>[(id,e)]
  | none=>[]
 | _=>[]
def aupd (h:AH) (τ:Operand->AV):AOp->Option (AV×List (Nat×Ent)×Nat×Ent)
 | .store sz p x=>match τ p,D8 (τ x) with
  | .ptr id ver off,some cs=>match h[id]? with
   | some (.mk v ty s cells)=>if v=ver/\cs.length=sz/\off+sz<=cells.length/\cs.all leaf then some (.v undef,[(id,.mk v ty s cells)],id,.mk v ty s (setCells cells off cs)) else none
   | _=>none
  | _,_=>none
 | .app ty sz bytes s x=>match Et h sz (τ x) with
  | some (m,news)=>match τ s with
   | .own id ver n=>match h[id]? with
    | some (.mk v ty' st cells)=>if v=ver/\ty'=ty/\st=sz/\cells.length=n*sz/\((n+m)*bytes<=140737488355328\/((n+m)+(n+m)/4+192)*bytes<=281474976710656)/\news.all leaf then some (.own id (ver+1) (n+m),(id,.mk v ty' st cells)::Vv h (τ x),id,.mk (ver+1) ty sz (cells++news)) else none
    | _=>none
   | _=>none
  | none=>none
 | _=>none
def Zd {h h':AH}{sz:Nat}{x:AV}{r:Nat×List AV}(hs:Et h sz x=some r) (hn : ∀ p∈Vv h x,h'[p.1]?=some p.2):Et h' sz x=some r:=by
 cases x
 case own id ver n =>
  have key:Ia h' (.own id ver n)=Ia h (.own id ver n):=by
   simp only[Ia];cases he:h[id]? with
   | none=>simp[Et,Ia,he] at hs
   | some e =>
    have:=hn (id,e) (by simp[Vv,he])
    simp only at this
    rw[this]
  simp only[Et,key] at hs ⊢
  exact hs
 case v u=>cases u <;> exact hs
 all_goals exact hs
def uN {h:AH}{τ:Operand->AV}{ao:AOp}{c:AV}{need:List (Nat×Ent)}{id:Nat}{e2:Ent}(hu:aupd h τ ao=some (c,need,id,e2)) :
  (∀ h':AH,(∀ p∈need,h'[p.1]?=some p.2)->aeff h' τ ao=some (c,h'.set id e2))/\(∀ p∈need,h[p.1]?=some p.2) /\ ∃ e,(id,e)∈need:=by
 cases ao <;> simp only[aupd] at hu <;> try (cases hu;done)
 case store sz p x =>
  split at hu <;> try (cases hu;done)
  rename_i id' ver off cs hp hcs
  split at hu <;> try (cases hu;done)
  rename_i v ty s cells he
  split at hu <;> try (cases hu;done)
  rename_i hc
  cases hu
  refine⟨λh' hn=>?_,λp hp'=>by simp at hp';subst hp';exact he,.mk v ty s cells,by simp⟩
  have:=hn (id,.mk v ty s cells) (by simp)
  simp only[aeff,hp,hcs,this,if_pos hc]
 case app ty sz bytes sl x =>
  split at hu <;> try (cases hu;done)
  rename_i m news hsrc
  split at hu <;> try (cases hu;done)
  rename_i id' ver n hs
  split at hu <;> try (cases hu;done)
  rename_i v ty' st cells he
  split at hu <;> try (cases hu;done)
  rename_i hc
  cases hu
  refine⟨λh' hn=>?_,λp hp'=>?_,.mk v ty' st cells,by simp⟩
  .have h1:=hn _ (List.mem_cons_self ..)
   have h2:=Zd hsrc (λp hp=>hn p (List.mem_cons_of_mem _ hp))
   simp only[aeff,hs,h2,h1,if_pos hc]
  .rcases List.mem_cons.1 hp' with rfl | hp'
   .exact he
   .cases hx:τ x <;> rw[hx] at hp' <;> simp only[Vv] at hp' <;> try (simp at hp';done)
    split at hp'
    .rename_i e he';simp at hp';subst hp';exact he'
    .simp at hp'
def Ky (a b:Bool×List Nat):Prop:=(a.1=true/\b.1=true) \/ ∀ x∈a.2,x ∉ b.2
def austep (P:Program) (h0:AH) (o:AOper) (T:List AV) (h:AH) (K:Bool×List Nat->List AV->AH->Prop):Prop :=
  match o.op with
  | .call f xs => (∃ c, (∀ h, Hy P (Ae T f) (xs.map (Ae T)) h λr h' => h' = h /\ r = .ret c) /\ K (false, []) (aPut T o.dst c) h) \/
      (∃ c,(∀ h,HExt h0 h->Hy P (Ae T f) (xs.map (Ae T)) h λr h'=>h'=h/\r=.ret c)/\HExt h0 h/\K (true,List.range h0.length) (aPut T o.dst c) h) \/
      ∃ (c:AV) (need:List (Nat×Ent)) (id:Nat) (e2:Ent),(∀ h:AH,(∀ p∈need,h[p.1]?=some p.2)->Hy P (Ae T f) (xs.map (Ae T)) h λr h'=>h'=h.set id e2/\r=.ret c)/\(∀ p∈need,h[p.1]?=some p.2)/\(∃ e,(id,e)∈need)/\K (false,need.map (·.1)) (aPut T o.dst c) (h.set id e2)
  | .panic _=>False
  | .eqn _ _=>False
  | .loadR _ _ _=>False
  | op => (∃ c, aval [] (Ae T) op = some c /\ K (false, []) (aPut T o.dst c) h) \/
      (∃ c,aval h0 (Ae T) op=some c/\HExt h0 h/\K (true,List.range h0.length) (aPut T o.dst c) h) \/
      (∃ c need id e2,aupd h (Ae T) op=some (c,need,id,e2)/\K (false,need.map (·.1)) (aPut T o.dst c) (h.set id e2)) \/
      ∃ c ent,(aallo h.length (Ae T) op=some (c,ent)\/Fb h.length (Ae T) op=some (c,ent))/\K (false,[h.length]) (aPut T o.dst c) (h++[ent])
def Di (P:Program) (h0:AH):List (List Nat)->List AOper->List (Bool×List Nat)->List AV->AH->(List AV->AH->Prop)->Prop
  | _,[],_,T,h,K=>K T h
  | q, o :: rest, tc, T, h, K => agd o.guard T λb =>
      (b=true->austep P h0 o T h λt T h=>(∀ i∈q.headD [],Ky (tc.getD i (false,[])) t)/\Di P h0 q.tail rest (tc++[t]) T h K) /\
      (b=false->Di P h0 q.tail rest (tc++[(false,[])]) (aPut T o.dst (.v undef)) h K)
def Yd.tch (h0:AH) (y:Yd):Bool×List Nat:=match y.act with
 | .rd=>(true,List.range h0.length)
 | .alloc id _=>(false,[id])
 | .upd need _ _=>(false,need.map (·.1))
 | _=>(false,[])
def Yd.nxt (y:Yd) (h:AH):AH:=match y.act with
 | .alloc _ e=>h++[e]
 | .upd _ id e2=>h.set id e2
 | _=>h
def trU (P:Program) (ops:Array Oper) (h0:AH):List Oper->List Yd->List AV->AH->List AV->AH->Prop
  | [],[],T,h,Tf,hf=>T=Tf/\h=hf
  | o :: l, y :: ys, T, h, Tf, hf => YD P ops h0 o y T /\ (y.act = .fr \/ (y.act = .rd /\ HExt h0 h) \/ (∃ ent, y.act = .alloc h.length ent /\ h0.length <= h.length) \/ ∃ need id e2, y.act = .upd need id e2 /\ (∀ p ∈ need, h[p.1]? = some p.2) /\ ∃ e, (id, e) ∈ need) /\
      trU P ops h0 l ys (aPut T o.dst y.c) (y.nxt h) Tf hf
  | _,_,_,_,_,_=>False
def uM {h0 h:AH}{o:Oper}{ao:AOp}{dst:Option Nat}{gd:Option (Nat×Bool)}(hd:dst=o.dst) (hos:OSound P o ao) (hls:LSound P o ao) {K:Bool×List Nat->List AV->AH->Prop}{T:List AV}(hlen:h0.length<=h.length) (hw:Kc ops o T=some true) (hstep:austep P h0 ⟨dst,gd,ao⟩ T h K) :
    ∃ y:Yd,YD P ops h0 o y T/\(y.act=.fr\/(y.act=.rd/\HExt h0 h)\/(∃ ent,y.act=.alloc h.length ent/\h0.length<=h.length) \/ ∃ need id e2,y.act=.upd need id e2/\(∀ p∈need,h[p.1]?=some p.2) /\ ∃ e,(id,e)∈need)/\K (y.tch h0) (aPut T o.dst y.c) (y.nxt h):=by
  subst hd;rcases hos with ⟨ha,he,hnc,hnp,hnq⟩ | ⟨f,xs,ts,rfl,ho⟩ | ⟨x,rfl,ho⟩ | ⟨neg,x,t,yt,e,rfl,ho,hu⟩
  . have hstep':(∃ c,aval [] (Ae T) ao=some c/\K (false,[]) (aPut T o.dst c) h) \/
      (∃ c,aval h0 (Ae T) ao=some c/\HExt h0 h/\K (true,List.range h0.length) (aPut T o.dst c) h) \/
      (∃ c need id e2,aupd h (Ae T) ao=some (c,need,id,e2)/\K (false,need.map (·.1)) (aPut T o.dst c) (h.set id e2)) \/
      ∃ c ent,(aallo h.length (Ae T) ao=some (c,ent)\/Fb h.length (Ae T) ao=some (c,ent))/\K (false,[h.length]) (aPut T o.dst c) (h++[ent]):=by
      cases ao <;> first | exact hstep | exact absurd rfl (hnc _ _) | exact absurd rfl (hnp _) | exact absurd rfl (hnq _ _) | exact (hstep:False).elim
    rcases hstep' with ⟨c,hv0,hk⟩ | ⟨c,hv,hx,hk⟩ | ⟨c,need,id,e2,hu,hk⟩ | ⟨c,ent,hv2,hk⟩
    . refine⟨⟨c,.fr⟩,.inl ⟨hw,?_⟩,.inl rfl,hk⟩;intro h' w g ρ hs hr;exact .inl (ha h' (Ae T) c (Yw (λi e he=>by simp at he) hv0) w g ρ hs hr)
    . refine⟨⟨c,.rd⟩,.inl ⟨hw,?_⟩,.inr (.inl ⟨rfl,hx⟩),hk⟩;intro h' hx' w g ρ hs hr;exact .inl (ha h' (Ae T) c (Yw hx' hv) w g ρ hs hr)
    . obtain⟨u1,u2,u3⟩:=uN hu;exact⟨⟨c,.upd need id e2⟩,.inl ⟨hw,λh' hn w g ρ hs hr=>.inl (he h' (Ae T) c _ (u1 h' hn) w g ρ hs hr)⟩,.inr (.inr (.inr ⟨need,id,e2,rfl,u2,u3⟩)),hk⟩
    . exact⟨⟨c,.alloc h.length ent⟩,.inl ⟨hw,hlen,hv2.elim (hls _ _ _ _) (pG hls _ _ _ _)⟩,.inr (.inr (.inl ⟨ent,rfl,hlen⟩)),hk⟩
  . simp only[austep] at hstep
    have go : ∀ {h h2 : AH} {c : AV}, Hy P (Ae T f) (xs.map (Ae T)) h (λr h' => h' = h2 /\ r = .ret c) -> ∀ w g (ρ : Operand -> Value), SimH w g h -> (∀ x ∈ o.op.operands, Rep w g (Ae T x) (ρ x)) ->
        ERun P o ρ w λe w' => ∃ v g',e=.returned v/\Rep w' g' c v/\SimH w' g' h2/\g.le g'/\Fr w (Ow g h) w' /\ ∀ k,Ow g' h2 k->Ow g h k\/w.heap.size<=k:=by
      intro h h2 c hc w g ρ hs hr;refine (Qd ho hc hs (hr f (by simp[ho,Op.operands,Call.operands])) (λx hx=>hr x (by simp[ho,Op.operands,Call.operands,hx]))).mono ?_;rintro e w' ⟨x,h',g',k1,k2,k3,k4,k5,rfl,rfl⟩;cases e <;> simp only[EndR] at k1;exact⟨_,g',rfl,k1,k2,k3,k4,k5⟩
    rcases hstep with ⟨c,hc,hk⟩ | ⟨c,hc,hx,hk⟩ | ⟨c,need,id,e2,hc,hn,hm,hk⟩
    . exact⟨⟨c,.fr⟩,.inl ⟨hw,λh' w g ρ hs hr=>.inr (go (hc h') w g ρ hs hr)⟩,.inl rfl,hk⟩
    . exact⟨⟨c,.rd⟩,.inl ⟨hw,λh' hx' w g ρ hs hr=>.inr (go (hc h' hx') w g ρ hs hr)⟩,.inr (.inl ⟨rfl,hx⟩),hk⟩
    . exact⟨⟨c,.upd need id e2⟩,.inl ⟨hw,λh' hn' w g ρ hs hr=>.inr (go (hc h' hn') w g ρ hs hr)⟩,.inr (.inr (.inr ⟨need,id,e2,rfl,hn,hm⟩)),hk⟩
  . exact (hstep:False).elim
  . exact (hstep:False).elim
def Yd.nxt_len (y:Yd) (h:AH):h.length<=(y.nxt h).length:=by
 unfold Yd.nxt;split <;> simp
def bM {S:List Nat}{h0:AH}{K:List AV->AH->Prop} : ∀ (l:List Oper) (al:List AOper),l.mapM (D6 P S ops)=some al -> ∀ (q:List (List Nat)) (ys0:List Yd) (T:List AV) (h:AH),h0.length<=h.length->Di P h0 q al (ys0.map (·.tch h0)) T h K ->
    ∃ ys Tf hf,trU P ops h0 l ys T h Tf hf/\(∀ j i,j<l.length->i<ys0.length+j->i∈q.getD j []->Ky (((ys0++ys).getD i nilY).tch h0) ((ys.getD j nilY).tch h0))/\K Tf hf
  | [],al,hm,q,ys0,T,h,hl,hr=>by simp at hm;subst hm;exact⟨[],T,h,⟨rfl,rfl⟩,λj i hj=>by simp at hj,hr⟩
  | o::l,al,hm,q,ys0,T,h,hl,hr=>by
    simp only[List.mapM_cons,Option.bind_eq_bind,Option.bind_eq_some_iff,Option.pure_def,Option.some.injEq] at hm;obtain⟨ao,h1,al',h2,rfl⟩:=hm;unfold D6 at h1;split at h1 <;> try (cases h1;done)
    rename_i aop gd hao hgd;cases h1;have ih:=bM (S:=S) (h0:=h0) (K:=K) l al' h2;simp only[Di] at hr;obtain⟨b,hb,hf1,hf2⟩:=Nu hgd hr
    have fin : ∀ (y : Yd) (T' : List AV) (h' : AH), h0.length <= h'.length -> (∀ i ∈ q.headD [], Ky ((ys0.map (·.tch h0)).getD i (false, [])) (y.tch h0)) -> Di P h0 q.tail al' (ys0.map (·.tch h0) ++ [y.tch h0]) T' h' K ->
        ∃ ys Tf hf,trU P ops h0 l ys T' h' Tf hf/\(∀ j i,j<(o::l).length->i<ys0.length+j->i∈q.getD j []->Ky (((ys0++y::ys).getD i nilY).tch h0) (((y::ys).getD j nilY).tch h0))/\K Tf hf:=by
      intro y T' h' hl' hq hrun;obtain⟨ys,Tf,hf,i1,i2,i3⟩:=ih q.tail (ys0++[y]) T' h' hl' (by rw[List.map_append];exact hrun);refine⟨ys,Tf,hf,i1,λj i hj hi hmem=>?_,i3⟩;cases j with
      | zero =>
        have hq0:i∈q.headD []:=by
          cases q with
          | nil=>simp at hmem
          | cons a q=>simpa using hmem
        have:=hq i hq0
        simp only[List.getD_cons_zero]
        rw[List.getD_eq_getElem?_getD,List.getElem?_map,List.getElem?_eq_getElem (by omega)] at this
        rw[List.getD_eq_getElem?_getD,List.getElem?_append_left (by omega),List.getElem?_eq_getElem (by omega)]
        simpa using this
      | succ j =>
        have hq1:i∈q.tail.getD j []:=by
          cases q with
          | nil=>simp at hmem
          | cons a q=>simpa using hmem
        have:=i2 j i (by simpa using hj) (by simp;omega) hq1
        simpa [List.append_assoc] using this
    cases b
    . obtain⟨ys,Tf,hf,i1,i2,i3⟩:=fin ⟨.v undef,.fr⟩ _ _ hl (λi hi=>.inr λx hx hx2=>by simp[Yd.tch] at hx2) (hf2 rfl);exact⟨⟨.v undef,.fr⟩::ys,Tf,hf,⟨.inr ⟨hb,rfl⟩,.inl rfl,i1⟩,i2,i3⟩
    . obtain⟨y,y1,y2,y3,y4⟩:=uM rfl (Hw hao) (O4 hao) hl hb (hf1 rfl);obtain⟨ys,Tf,hf,i1,i2,i3⟩:=fin y _ _ (Nat.le_trans hl (y.nxt_len h)) y3 y4;exact⟨y::ys,Tf,hf,⟨y1,y2,i1⟩,i2,i3⟩
def nU {h0:AH} : ∀ (l:List Oper) (ys:List Yd) (T:List AV) (h:AH) (Tf:List AV) (hf:AH),trU P ops h0 l ys T h Tf hf->ys.length=l.length
 | [],[],_,_,_,_,_=>rfl
 | o::l,y::ys,T,h,Tf,hf,hq=>by
  have:=nU l ys _ _ Tf hf hq.2.2;simp[this]
 | [],_::_,_,_,_,_,h=>h.elim
 | _::_,[],_,_,_,_,h=>h.elim
def bX {h0:AH} : ∀ (l:List Oper) (ys:List Yd) (T:List AV) (h:AH) (Tf:List AV) (hf:AH),trU P ops h0 l ys T h Tf hf -> ∀ j,(ys.getD j nilY).act=.fr\/(ys.getD j nilY).act=.rd\/(∃ id ent,(ys.getD j nilY).act=.alloc id ent/\h0.length<=id) \/ ∃ need id e2,(ys.getD j nilY).act=.upd need id e2 /\ ∃ e,(id,e)∈need
 | [],[],T,h,Tf,hf,_,j=>.inl (by simp[nilY])
 | o::l,y::ys,T,h,Tf,hf,hq,0=>by
  rcases hq.2.1 with h3 | ⟨h3,_⟩ | ⟨ent,h3,h4⟩ | ⟨need,id,e2,h3,_,h4⟩
  .exact .inl (by simpa using h3)
  .exact .inr (.inl (by simpa using h3))
  .exact .inr (.inr (.inl ⟨_,ent,by simpa using h3,h4⟩))
  .exact .inr (.inr (.inr ⟨need,id,e2,by simpa using h3,h4⟩))
 | o::l,y::ys,T,h,Tf,hf,hq,j+1=>by
  have:=bX l ys _ _ Tf hf hq.2.2 j;simpa using this
 | [],_::_,_,_,_,_,h,_=>h.elim
 | _::_,[],_,_,_,_,h,_=>h.elim
def tch_rd {h0:AH}{y:Yd}(h:y.act=.rd):y.tch h0=(true,List.range h0.length):=by unfold Yd.tch;rw[h]
def cE {h0:AH}{y:Yd}{id:Nat}{e:Ent}(h:y.act=.alloc id e):y.tch h0=(false,[id]):=by unfold Yd.tch;rw[h]
def Pm {h0:AH}{y:Yd}{n:List (Nat×Ent)}{id:Nat}{e:Ent}(h:y.act=.upd n id e):y.tch h0=(false,n.map (·.1)):=by unfold Yd.tch;rw[h]
def Compat.of_tch {h0:AH}{y z:Yd}(hy:y.act=.fr\/y.act=.rd\/(∃ id ent,y.act=.alloc id ent/\h0.length<=id) \/ ∃ need id e2,y.act=.upd need id e2 /\ ∃ e,(id,e)∈need) (hz:z.act=.fr\/z.act=.rd\/(∃ id ent,z.act=.alloc id ent/\h0.length<=id) \/ ∃ need id e2,z.act=.upd need id e2 /\ ∃ e,(id,e)∈need)
  (hd:Ky (y.tch h0) (z.tch h0)):Compat h0 y z:=by
 rcases hy with hy | hy | ⟨a,e,hy,ha⟩ | ⟨n,a,e,hy,ea,hna⟩
 .exact Ha hy
 all_goals rcases hz with hz | hz | ⟨b,f,hz,hb⟩ | ⟨m,b,f,hz,eb,hmb⟩
 all_goals first
  | exact Es hz
  | (unfold Compat;rw[hy,hz];trivial)
  | skip
 .rw[tch_rd hy,Pm hz] at hd;replace hd:=hd.resolve_left (by simp);unfold Compat;rw[hy,hz];exact Nat.le_of_not_lt λh=>hd b (List.mem_range.2 h) (List.mem_map.2 ⟨_,hmb,rfl⟩)
 .rw[cE hy,cE hz] at hd;replace hd:=hd.resolve_left (by simp);unfold Compat;rw[hy,hz];intro h;subst h;exact hd a (by simp) (by simp)
 .rw[cE hy,Pm hz] at hd;replace hd:=hd.resolve_left (by simp);unfold Compat;rw[hy,hz];refine⟨λh=>?_,λp hp h=>hd a (by simp) (List.mem_map.2 ⟨p,hp,h⟩)⟩;exact hd a (by simp) (List.mem_map.2 ⟨_,hmb,h⟩)
 .rw[Pm hy,tch_rd hz] at hd;replace hd:=hd.resolve_left (by simp);unfold Compat;rw[hy,hz];exact Nat.le_of_not_lt λh=>hd a (List.mem_map.2 ⟨_,hna,rfl⟩) (List.mem_range.2 h)
 .rw[Pm hy,cE hz] at hd;replace hd:=hd.resolve_left (by simp);unfold Compat;rw[hy,hz];refine⟨λh=>?_,λp hp h=>hd p.1 (List.mem_map.2 ⟨p,hp,rfl⟩) (by simp[h])⟩;exact hd a (List.mem_map.2 ⟨_,hna,rfl⟩) (by simp[h])
 .rw[Pm hy,Pm hz] at hd;replace hd:=hd.resolve_left (by simp);unfold Compat;rw[hy,hz];refine⟨λh=>?_,λp hp h=>?_,λp hp h=>?_⟩
  .exact hd a (List.mem_map.2 ⟨_,hna,rfl⟩) (List.mem_map.2 ⟨_,hmb,h.symm⟩)
  .exact hd p.1 (List.mem_map.2 ⟨p,hp,rfl⟩) (List.mem_map.2 ⟨_,hmb,h.symm⟩)
  .exact hd a (List.mem_map.2 ⟨_,hna,rfl⟩) (List.mem_map.2 ⟨p,hp,h⟩)
def fC {h0:AH}{tr:Nat->Yd}{N:Nat} : ∀ (l:List Oper) (ys:List Yd) (k:Nat) (T:List AV) (h:AH) (Tf:List AV) (hf:AH),(∀ j,j<l.length->l[j]?=ops[k+j]?)->(∀ j,j<l.length->tr (k+j)=ys.getD j nilY)->N=h.length+cnt ys ->
  trU P ops h0 l ys T h Tf hf->lexD P ops h0 tr (λT h=>T=Tf/\h=hf) l.length k T (h++List.replicate (N-h.length) .free)
 | [],[],k,T,h,Tf,hf,_,_,hN,hq=>by
  simp only[List.length_nil,lexD];simp only[cnt,Nat.add_zero] at hN;obtain⟨rfl,rfl⟩:=hq;exact⟨rfl,by simp[hN]⟩
 | o::l,y::ys,k,T,h,Tf,hf,hl,ht,hN,hq=>by
  obtain⟨h1,h3,h4⟩:=hq;have ho:ops[k]?=some o:=by have:=hl 0 (by simp);simpa using this.symm
  have hy:tr k=y:=by have:=ht 0 (by simp);simpa using this
  have hfr : ∀ {p:Nat} {e:Ent},h[p]?=some e->(h++List.replicate (N-h.length) Ent.free)[p]?=some e:=λ{p e} he=>by
   rw[List.getElem?_append_left (List.getElem?_eq_some_iff.1 he).1];exact he
  simp only[List.length_cons,lexD];simp only[cnt] at hN;refine⟨o,ho,by rw[hy];exact h1,?_,?_⟩
  .rw[hy];rcases h3 with h3 | ⟨h3,hx⟩ | ⟨ent,h3,h5⟩ | ⟨need,id,e2,h3,h5,_⟩
   .simp[Yd.okAt,h3]
   .simp only[Yd.okAt,h3];exact λi e he=>hfr (hx i e he)
   .simp only[Yd.okAt,h3];simp only[h3,YA.mk?,if_true] at hN;refine⟨h5,?_⟩;rw[List.getElem?_append_right (Nat.le_refl _)];simp only[Nat.sub_self,List.getElem?_replicate];rw[if_pos (by omega)]
   .simp only[Yd.okAt,h3];exact λp hp=>hfr (h5 p hp)
  .rw[hy];have ih:=fC (tr:=tr) (N:=N) l ys (k+1) (aPut T o.dst y.c) _ Tf hf (λj hj=>by have:=hl (j+1) (by simp;omega);simpa [Nat.add_assoc,Nat.add_comm 1 j] using this) (λj hj=>by have:=ht (j+1) (by simp;omega);simpa [Nat.add_assoc,Nat.add_comm 1 j] using this) (by
    rcases h3 with h3 | ⟨h3,_⟩ | ⟨ent,h3,_⟩ | ⟨need,id,e2,h3,_⟩
    .simp[h3,YA.mk?] at hN;simp[Yd.nxt,h3];exact hN
    .simp[h3,YA.mk?] at hN;simp[Yd.nxt,h3];exact hN
    .simp[h3,YA.mk?] at hN;simp[Yd.nxt,h3];omega
    .simp[h3,YA.mk?] at hN;simp[Yd.nxt,h3];exact hN) h4
   rcases h3 with h3 | ⟨h3,_⟩ | ⟨ent,h3,_⟩ | ⟨need,id,e2,h3,h5,e,h6⟩
   .simp only[Yd.nxt,h3] at ih;simpa [Yd.eff,h3] using ih
   .simp only[Yd.nxt,h3] at ih;simpa [Yd.eff,h3] using ih
   .simp only[Yd.nxt,h3] at ih;simp only[Yd.eff,h3];simp only[h3,YA.mk?,if_true] at hN;have e:(h++List.replicate (N-h.length) Ent.free).set h.length ent=h++[ent]++List.replicate (N-(h++[ent]).length) .free:=by
     rw[List.set_append_right _ _ (Nat.le_refl _)];simp only[List.length_append,Nat.sub_self,List.length_singleton];rw[show N-h.length=(N-(h.length+1))+1 by omega,List.replicate_succ];simp
    rw[e];exact ih
   .simp only[Yd.nxt,h3] at ih;simp only[Yd.eff,h3];have hid:id<h.length:=(List.getElem?_eq_some_iff.1 (h5 _ h6)).1;rw[List.set_append_left _ _ hid];rw[List.length_set] at ih;exact ih
 | [],_::_,_,_,_,_,_,_,_,_,h=>h.elim
 | _::_,[],_,_,_,_,_,_,_,_,h=>h.elim
def dA (ops:Array Oper):List (List Nat):=(List.range ops.size).map λj=>(List.range j).filter λi=>!(anc .any ops j 12).contains i
def Vi [Rd] {S:List Nat}{id:Nat}{al:List AOper}{Q:AX->List AV->AH->Prop}{T:List AV}{h:AH}(hfm:P.follows .mixedOrders=true) (hB:Region.lexB .any ops=true) (hm:ops.toList.mapM (D6 P S ops)=some al)
  (hr:Di P h (dA ops) al [] T h λT h=>Q .normal T h):AW P n0 (.region id ops true) Q T h:=by
 intro w0 S0 g0 a w g hst;simp only[Region.lexB,Bool.and_eq_true] at hB;obtain⟨ys,T2,h2,hy,hdis,hQ⟩:=bM (h0:=h) _ _ hm (dA ops) [] T h (Nat.le_refl _) hr;have hlen:=nU _ _ _ _ _ _ hy;have hops:ops.toList.length=ops.size:=by simp
 let tr:Nat->Yd:=λk=>ys.getD k nilY;have hpair : ∀ i j,i<j->j<ops.size->(∃ n,i∈anc .any ops j n)\/Compat h (tr i) (tr j):=by
  intro i j hij hj;by_cases hA:(anc .any ops j 12).contains i=true
  .exact .inl ⟨12,by simpa using hA⟩
  .right;refine Compat.of_tch (bX _ _ _ _ _ _ hy i) (bX _ _ _ _ _ _ hy j) ?_;have:=hdis j i (by omega) (by simpa using hij) (by
    unfold dA;rw[List.getD_eq_getElem?_getD,List.getElem?_map,List.getElem?_range hj];simp only[Option.map_some,Option.getD_some,List.mem_filter,List.mem_range];exact⟨hij,by simpa using hA⟩)
   rw[List.nil_append] at this;exact this
 have hlex:=fC (P:=P) (ops:=ops) (h0:=h) (tr:=tr) (N:=h.length+cnt ys) ops.toList ys 0 T h T2 h2 (λj hj=>by simp) (λj hj=>by rw[Nat.zero_add]) rfl hy;rw[hops] at hlex;have hclosed:Closed .any ops (Array.replicate ops.size false):=by
  intro k o ho hk;have:k<ops.size:=(Array.getElem?_eq_some_iff.1 ho).1;simp[this] at hk
 have hD:=Nb (P:=P) (md:=.any) (h0:=h) (tr:=tr) hpair ops.size 0 (Array.replicate ops.size false) T _ (by omega) (by simp) hclosed (by omega) hB.2 hlex;refine wpIn_region_any hfm ?_;have hst':=hst.drew.reserve (cnt ys);refine Qp (P:=P) (md:=.any) (ops:=ops) (h0:=h) (tr:=tr) (Q':=Vj n0 w0 S0 g0 Q) (w0:=w0) (S0:=S0) (g0:=g0) (K:=λT h=>T=T2/\h=h2) ?_ ops.size (Array.replicate ops.size false) T _ a _ g hst' (by simpa using hD);rintro T' h' a' w' g' hs' ⟨rfl,rfl⟩;exact⟨.normal,T',h',g',hs',trivial,hQ⟩
end
section
variable {P : Program} {n0 : Nat}
inductive AC where
 | skip
 | reg (ops:List AOper)
 | drw (body:List AOper) (q:List Bool) (tail:List AOper)
 | drwU (q:List (List Nat)) (ops:List AOper)
 | orPan (a:AC) (x:Operand) (f:FuncId) (al:List AOper) (d0:Nat)
 | seq (a b:AC)
 | cond (c:Operand) (a b:AC)
 | block (id:Nat) (a:AC)
 | loop (a:AC)
 | exit (id:Nat)
 | ret
def isTail (o:AOper):Bool:=match o.op with
 | .app .. => true
 | .store .. => true
 | _=>false
def cH:List AOper->Nat
 | []=>0
 | o::l=>if isTail o then 0 else cH l+1
def gM (ops:Array Oper) (al:List AOper) (s:Nat):List Nat :=
 (List.range s).filterMap λi=>match al[i]? with
  | some o=>match o.op with
   | .load .. => if ((List.range ops.size).all λj=>decide (j<s)||((al[j]?).map λo=>isF o.op).getD false||(anc .any ops j 12).contains i) then none else o.dst
   | _=>none
  | none=>none
def cU (P:Program) (o:AOper):Bool:=match o.op with
 | .call (.func f) _=>match P.funcs[f]? with
  | some fn=>fn.params.any λt=>match P.underlying t with
   | some (.pointer _)=>true
   | _=>false
  | none=>false
 | .call (.tmp _) _=>true
 | _=>false
def Vs (P:Program):List AOper->Nat
 | []=>0
 | o::l=>if isTail o||cU P o then 0 else Vs P l+1
def drawn (P:Program) (ops:Array Oper) (S:List Nat) (s:Nat):Option AC :=
 match ops.toList.mapM (D6 P S ops) with
 | some al=>if P.follows .mixedOrders=true/\Region.lexB .any ops=true/\s<=ops.size/\cG ops al s=true then some (.drw (al.take s) ((List.range' s (ops.size-s)).map (jR ops al s)) (al.drop s)) else none
 | none=>none
def Q9 (P:Program) (ops:Array Oper):Option AC :=
 match ops.toList.mapM (D6 P [] ops) with
 | some al=>if P.follows .mixedOrders=true/\Region.lexB .any ops=true then some (.drwU (dA ops) al) else none
 | none=>none
def Do (ops:Array Oper) (i0:Nat) (x:Operand):Array Oper:=ops.mapIdx λj o=>if j=i0 then { o with op:=.move x } else if (anc .any ops j 12).contains i0 then { o with op:=.move (.const (.bool false)) } else o
def oneArg (P:Program) (o:AOper):Bool:=match o.op,o.dst,o.guard with
 | .call (.func _) [_],some _,none=>cU P o
 | _,_,_=>false
def panAt (P:Program) (ops:Array Oper) (al:List AOper) (i0:Nat):Option (Operand×FuncId×List AOper×Nat) :=
 match al[i0]? with
 | some ⟨some d0,none,.call (.func f) [x]⟩=>match (Do ops i0 x).toList.mapM (D6 P [] (Do ops i0 x)) with
  | some al'=>if P.follows .mixedOrders=true/\Region.lexB .any (Do ops i0 x)=true/\(((Do ops i0 x).toList.drop (i0+1)).all λo=>decide (o.dst≠some d0))=true/\(ops.toList.all λo=>o.guard.isNone)=true then some (x,f,al',d0) else none
  | none=>none
 | _=>none
def panOf (P:Program) (ops:Array Oper) (al:List AOper):Option (Operand×FuncId×List AOper×Nat) :=
 match (List.range al.length).reverse.find? λj=>((al[j]?).map (oneArg P)).getD false with
 | some i0=>panAt P ops al i0
 | none=>none
def gQ {α β:Type}(f:α->Option β) : ∀ (l:List α) (bs:List β) (i:Nat) (b:β),l.mapM f=some bs->bs[i]?=some b -> ∃ a,l[i]?=some a/\f a=some b
 | [],bs,i,b,hm,hb=>by simp at hm;subst hm;simp at hb
 | a::l,bs,i,b,hm,hb=>by
  simp only[List.mapM_cons,Option.bind_eq_bind,Option.bind_eq_some_iff,Option.pure_def,Option.some.injEq] at hm;obtain⟨b0,h1,bs',h2,rfl⟩:=hm;cases i with
  | zero=>simp at hb;subst hb;exact⟨a,by simp,h1⟩
  | succ i =>
   obtain⟨c,h3,h4⟩:=gQ f l bs' i b h2 (by simpa using hb)
   exact⟨c,by simpa using h3,h4⟩
def eC {ops:Array Oper}{i0:Nat}{x:Operand}:(Do ops i0 x).size=ops.size:=by simp[Do]
def Io {ops:Array Oper} {i0:Nat} {x:Operand} {j:Nat}:(Do ops i0 x)[j]?=(ops[j]?).map λo=>if j=i0 then { o with op:=.move x } else if (anc .any ops j 12).contains i0 then { o with op:=.move (.const (.bool false)) } else o:=by
 simp[Do,Array.getElem?_mapIdx]
def Mf {ops:Array Oper}{i0:Nat}{x:Operand}{j:Nat}{o:Oper}(h:(Do ops i0 x)[j]?=some o) : ∃ o',ops[j]?=some o'/\o.after=o'.after/\o.guard=o'.guard/\o.dst=o'.dst/\(j≠i0->(anc .any ops j 12).contains i0=false->o=o'):=by
 rw[Io,Option.map_eq_some_iff] at h;obtain⟨o',h1,rfl⟩:=h;refine⟨o',h1,?_,?_,?_,?_⟩
 .split
  .rfl
  .split <;> rfl
 .split
  .rfl
  .split <;> rfl
 .split
  .rfl
  .split <;> rfl
 .intro h2 h3;rw[if_neg h2,if_neg (by rw[h3];simp)]
def Xf {ops:Array Oper}{i0:Nat}{x:Operand}{listed:Array Bool}{j:Nat}:j∈Region.ready .any (Do ops i0 x) listed↔j∈Region.ready .any ops listed:=by
 rw[mem_ready,mem_ready];constructor
 .rintro⟨h0,o,ho,h⟩;obtain⟨o',h1,h2,_⟩:=Mf ho;exact⟨h0,o',h1,λe he=>h e (by rw[h2];exact he)⟩
 .rintro⟨h0,o,ho,h⟩;have hd:(Do ops i0 x)[j]?≠none:=by rw[Io,ho];simp
  obtain⟨o2,ho2⟩:=Option.ne_none_iff_exists'.1 hd;obtain⟨o',h1,h2,_⟩:=Mf ho2;rw[ho] at h1;cases h1;exact⟨h0,o2,ho2,λe he=>h e (by rw[<-h2];exact he)⟩
def gX {ops:Array Oper} : ∀ (m k:Nat) (listed:Array Bool),(∀ j,listed.getD j false=true->j<k)->Region.lexFrom .any ops m k listed=true -> ∀ j o,k<=j->j<k+m->ops[j]?=some o -> ∀ e∈o.after,Region.binds .any e=true->e.on<j
 | 0,k,listed,hl,hB,j,o,h1,h2,ho,e,he,hb=>by omega
 | m+1,k,listed,hl,hB,j,o,h1,h2,ho,e,he,hb=>by
  simp only[Region.lexFrom,Bool.and_eq_true] at hB;obtain⟨⟨hr,hf⟩,hB'⟩:=hB;have hr':k∈Region.ready .any ops listed:=by simpa using hr
  by_cases hjk:j=k
  .subst hjk;obtain⟨_,o',ho',hall⟩:=mem_ready.1 hr';rw[ho] at ho';cases ho';exact hl _ (hall e he hb)
  .refine gX m (k+1) (listed.setIfInBounds k true) ?_ hB' j o (by omega) (by omega) ho e he hb;intro i hi;by_cases hik:k=i
   .omega
   .have:=getD_set_ne (listed:=listed) false hik;rw[this] at hi;have:=hl i hi;omega
def Xe {ops:Array Oper}{listed:Array Bool}(hdep : ∀ j o,ops[j]?=some o -> ∀ e∈o.after,Region.binds .any e=true->e.on<j) (hsz:listed.size=ops.size) : ∀ (n j:Nat),j<=n->j<ops.size->listed.getD j true=false->Region.ready .any ops listed≠[]:=by
 intro n;induction n with
 | zero =>
  intro j hj hlt hun hr
  obtain rfl:j=0:=by omega
  have:(0:Nat)∈Region.ready .any ops listed:=mem_ready.2 ⟨hun,ops[0],by simp[hlt],λe he hb=>absurd (hdep 0 ops[0] (by simp[hlt]) e he hb) (by omega)⟩
  rw[hr] at this;cases this
 | succ n ih =>
  intro j hj hlt hun hr
  by_cases hall : ∀ e∈ops[j].after,Region.binds .any e=true->listed.getD e.on false=true
  .have:j∈Region.ready .any ops listed:=mem_ready.2 ⟨hun,ops[j],by simp[hlt],hall⟩
   rw[hr] at this;cases this
  .have hall' : ∃ e,e∈ops[j].after/\Region.binds .any e=true/\¬listed.getD e.on false=true:=Classical.byContradiction λhno=>hall λe he hb=>Classical.byContradiction λhne=>hno ⟨e,he,hb,hne⟩
   obtain⟨e,he,hb,hne⟩:=hall'
   have hej:=hdep j ops[j] (by simp[hlt]) e he hb
   have hel:e.on<listed.size:=by omega
   refine ih e.on (by omega) (by omega) ?_ hr
   have h1:listed.getD e.on false=listed[e.on]:=by simp[Array.getD,hel]
   have h2:listed.getD e.on true=listed[e.on]:=by simp[Array.getD,hel]
   rw[h2,<-h1]
   simpa using hne
def getD_unl {listed:Array Bool}{j:Nat}(h:listed.getD j true=false):listed.getD j false=false:=by
 by_cases hj:j<listed.size
 .have h1:listed.getD j false=listed[j]:=by simp[Array.getD,hj]
  have h2:listed.getD j true=listed[j]:=by simp[Array.getD,hj]
  rw[h1,<-h2,h]
 .simp[Array.getD,hj] at h
def Zo {h0:AH}{ops:Array Oper} : ∀ (l:List Oper) (al:List AOper) (ys:List Yd) (T:List AV) (ents:AH) (Tf:List AV) (ef:AH),trB P ops [] h0 l al ys T ents Tf ef->ents.length<=ef.length/\(ef.length=ents.length->(∀ y∈ys,y.act=.fr\/y.act=.rd)/\cnt ys=0)
 | [],[],[],T,ents,Tf,ef,h=>by obtain⟨_,rfl⟩:=h;exact⟨Nat.le_refl _,λ_=>⟨λy hy=>(by cases hy),rfl⟩⟩
 | o::l,ao::al,y::ys,T,ents,Tf,ef,h=>by
  obtain⟨_,_,h3,_,h5⟩:=h;obtain⟨i1,i2⟩:=Zo l al ys _ _ Tf ef h5;rcases h3 with h3 | h3 | ⟨ent,h3⟩ | ⟨id,e,h3,hm,_⟩
  .have he:y.ents ents=ents:=by unfold Yd.ents;rw[h3]
   rw[he] at i1 i2;refine⟨i1,λhl=>⟨λz hz=>?_,?_⟩⟩
   .rcases List.mem_cons.1 hz with rfl | hz
    .exact .inl h3
    .exact (i2 hl).1 z hz
   .have:=(i2 hl).2;simp[cnt,YA.mk?,h3,this]
  .have he:y.ents ents=ents:=by unfold Yd.ents;rw[h3]
   rw[he] at i1 i2;refine⟨i1,λhl=>⟨λz hz=>?_,?_⟩⟩
   .rcases List.mem_cons.1 hz with rfl | hz
    .exact .inr h3
    .exact (i2 hl).1 z hz
   .have:=(i2 hl).2;simp[cnt,YA.mk?,h3,this]
  .have he:(y.ents ents).length=ents.length+1:=by unfold Yd.ents;rw[h3];simp
   refine⟨by omega,λhl=>by omega⟩
  .cases hm
 | [],[],_::_,_,_,_,_,h=>h.elim
 | [],_::_,[],_,_,_,_,h=>h.elim
 | [],_::_,_::_,_,_,_,_,h=>h.elim
 | _::_,[],[],_,_,_,_,h=>h.elim
 | _::_,[],_::_,_,_,_,_,h=>h.elim
 | _::_,_::_,[],_,_,_,_,h=>h.elim
def fF {h0:AH}{ops:Array Oper}{d:Nat} : ∀ (l:List Oper) (al:List AOper) (ys:List Yd) (T:List AV) (ents:AH) (Tf:List AV) (ef:AH),trB P ops [] h0 l al ys T ents Tf ef->(∀ o∈l,o.dst≠some d)->Tf[d]?=T[d]?
 | [],[],[],T,ents,Tf,ef,h,_=>by obtain⟨rfl,_⟩:=h;rfl
 | o::l,ao::al,y::ys,T,ents,Tf,ef,h,hd=>by
  obtain⟨_,_,_,_,h5⟩:=h;rw[fF l al ys _ _ Tf ef h5 (λo ho=>hd o (List.mem_cons_of_mem _ ho))];have:=hd o (by simp);unfold aPut;cases hod:o.dst with
  | none=>rfl
  | some e =>
   simp only
   rw[List.getElem?_set_ne]
   intro he;apply this;rw[hod,he]
 | [],[],_::_,_,_,_,_,h,_=>h.elim
 | [],_::_,[],_,_,_,_,h,_=>h.elim
 | [],_::_,_::_,_,_,_,_,h,_=>h.elim
 | _::_,[],[],_,_,_,_,h,_=>h.elim
 | _::_,[],_::_,_,_,_,_,h,_=>h.elim
 | _::_,_::_,[],_,_,_,_,h,_=>h.elim
def trB_at {h0:AH}{ops:Array Oper}{d:Nat} : ∀ (l:List Oper) (al:List AOper) (ys:List Yd) (T:List AV) (ents:AH) (Tf:List AV) (ef:AH) (i:Nat) (o:Oper) (c:AV),trB P ops [] h0 l al ys T ents Tf ef->l[i]?=some o->o.dst=some d->(∀ o∈l.drop (i+1),o.dst≠some d)->Tf[d]?=some c->(ys.getD i nilY).c=c
 | [],[],[],_,_,_,_,i,o,c,_,ho,_,_,_=>by simp at ho
 | o::l,ao::al,y::ys,T,ents,Tf,ef,0,o',c,h,ho,hd,hn,hc=>by
  simp at ho;subst ho;obtain⟨_,_,_,_,h5⟩:=h;rw[fF l al ys _ _ Tf ef h5 (by simpa using hn),hd] at hc;simp only[aPut] at hc;rw[List.getElem?_set] at hc;simp only[if_true] at hc;split at hc
  .simpa using hc
  .cases hc
 | o::l,ao::al,y::ys,T,ents,Tf,ef,i+1,o',c,h,ho,hd,hn,hc=>by
  obtain⟨_,_,_,_,h5⟩:=h;have:=trB_at l al ys _ _ Tf ef i o' c h5 (by simpa using ho) hd (by simpa using hn) hc;simpa using this
 | [],[],_::_,_,_,_,_,_,_,_,h,_,_,_,_=>h.elim
 | [],_::_,[],_,_,_,_,_,_,_,h,_,_,_,_=>h.elim
 | [],_::_,_::_,_,_,_,_,_,_,_,h,_,_,_,_=>h.elim
 | _::_,[],[],_,_,_,_,_,_,_,h,_,_,_,_=>h.elim
 | _::_,[],_::_,_,_,_,_,_,_,_,h,_,_,_,_=>h.elim
 | _::_,_::_,[],_,_,_,_,_,_,_,h,_,_,_,_=>h.elim
def YD.dead {ops:Array Oper}{i0:Nat}{x:Operand}{h0:AH}{o:Oper}{y:Yd}{T:List AV}(hg:o.guard=none):YD P (Do ops i0 x) h0 o y T↔YD P ops h0 o y T:=by
 unfold YD Kc;rw[hg]
end
end
end Go.Ab
