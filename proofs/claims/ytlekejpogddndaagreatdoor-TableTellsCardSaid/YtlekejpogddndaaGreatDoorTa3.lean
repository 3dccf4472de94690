/-
  Part 3 of the proof: own lemmas and contracts on plain data. No condition beyond those that each lemma states.
-/
import Derived.Test.YtlekejpogddndaaGreatDoorTa2
import Derived.Shelf.SlSortCmp.WholeK
import Derived.Lib.ReplaceLaws
import Derived.Sort.OwnSorted
import Derived.Lib.RowBridge
set_option linter.all false
set_option maxRecDepth 1000000
set_option maxHeartbeats 4000000
section
namespace Go.Ab
section
variable {P : Program}
theorem SimH.setRaw {w:World}{g:Gh}{h:AH}(hs:SimH w g h) {i k:Nat}{o o':Obj}{T:List AV}{vs:List Value}(hi:h[i]?=some (.raw k o T vs)) (ho:o'.isCells=false) (e:Ent) (he:e=.raw k o' T vs∨e=.gone) :
  SimH (w.putObj k o') g (h.set i e)∧Fr w (Ow g h) (w.putObj k o') ∧ ∀ j,Ow g (h.set i e) j→Ow g h j:=by
 have hil:i<h.length:=(List.getElem?_eq_some_iff.1 hi).1
 obtain ⟨r1,r2,r3,r4⟩:=hs.raw _ _ _ _ _ hi
 have hkl:k<w.heap.size:=(Array.getElem?_eq_some_iff.1 r1).1
 have hget : ∀ {j v ty s:Nat} {c:List AV},(h.set i e)[j]?=some (.mk v ty s c)→j≠i∧h[j]?=some (.mk v ty s c):=by
  intro j v ty s c h1
  by_cases hj:j=i
  ·subst hj
   rw [List.getElem?_set_self hil] at h1
   rcases he with rfl | rfl <;> cases h1
  ·rw [List.getElem?_set_ne (Ne.symm hj)] at h1;exact ⟨hj,h1⟩
 have how : ∀ j b,OwAt g (h.set i e) j b→OwAt g h j b:=by
  rintro j b ⟨v,ty,s,c,a,cap,e1,e2⟩
  exact ⟨v,ty,s,c,a,cap,(hget e1).2,e2⟩
 have hrw : ∀ {j b:Nat} {x:Obj} {T':List AV} {vs':List Value},(h.set i e)[j]?=some (.raw b x T' vs')→(j=i∧b=k∧x=o'∧T'=T∧vs'=vs)∨(j≠i∧h[j]?=some (.raw b x T' vs')):=by
  intro j b x T' vs' h1
  rcases raw_or h1 with ⟨h2,h3⟩ | h2
  ·rcases he with rfl | rfl <;> cases h3
   exact .inl ⟨h2,rfl,rfl,rfl,rfl⟩
  ·exact .inr h2
 have hrw' : ∀ j b,RwAt (h.set i e) j b→RwAt h j b:=by
  rintro j b ⟨x,T',vs',h1⟩
  rcases hrw h1 with ⟨rfl,rfl,_⟩ | ⟨_,h2⟩
  ·exact ⟨_,_,_,hi⟩
  ·exact ⟨_,_,_,h2⟩
 have hD : ∀ b,g.D b→(w.putObj k o').heap[b]?=w.heap[b]?:=fun b hb=>putA _ _ _ _ (fun e=>r3 (e ▸ hb))
 have hne : ∀ {j b:Nat},OwAt g h j b→b≠k:=fun hb e=>hs.own_ne_raw hb (by subst e;exact ⟨o,T,vs,hi⟩)
 refine ⟨⟨?_,fun a b c h1 h2=>hs.inj a b c (how _ _ h1) (how _ _ h2),fun b hb=>by simpa using hs.lt b hb,fun j v l hl=>?_,fun j v l hl hf=>?_,hs.glob.mono (fun _ h=>h) hD,?_,fun a b c h1 h2=>hs.rinj a b c (hrw' _ _ h1) (hrw' _ _ h2)⟩,⟨rfl,rfl,rfl,by simp,fun b _ hn=>putA _ _ _ _ (fun e=>hn (.inr ⟨i,o,T,vs,by subst e;exact hi⟩))⟩,fun j hj=>hj.imp (fun ⟨a,h1⟩=>⟨a,how _ _ h1⟩) (fun ⟨a,h1⟩=>⟨a,hrw' _ _ h1⟩)⟩
 ·intro j v ty s c h1
  obtain ⟨hj,h2⟩:=hget h1
  obtain ⟨A,cap,e1,e2,e3⟩:=hs.ent _ _ _ _ _ h2
  refine ⟨A,cap,e1,e2,e3.mono (Gh.le.refl g) (fun _ _ _ h=>h) hD (fun b hb h0=>?_)⟩
  cases A with
  | none=>simp at hb
  | some a=>exact putA _ _ _ _ (hne (j:=j) ⟨v,ty,s,c,a,cap,h2,e1,h0,by simpa using hb⟩)
 ·have:=hs.fresh j v l hl
  exact ⟨by simpa using this.1,fun v' ty s c h1=>this.2 _ _ _ _ (hget h1).2⟩
 ·by_cases hj:j=i
  ·subst hj;rw [List.getElem?_set_self hil] at hf;rcases he with rfl | rfl <;> cases hf
  ·rw [List.getElem?_set_ne (Ne.symm hj)] at hf;exact hs.free _ _ _ hl hf
 ·intro j b x T' vs' h1
  rcases hrw h1 with ⟨rfl,rfl,rfl,rfl,rfl⟩ | ⟨hj,h2⟩
  ·exact ⟨World.putObj_heap_same hkl,ho,r3,RepL.mono (Gh.le.refl g) hD _ _ r4⟩
  ·obtain ⟨q1,q2,q3,q4⟩:=hs.raw _ _ _ _ _ h2
   exact ⟨(putA _ _ _ _ (fun e=>hj (hs.rinj j i b ⟨_,_,_,h2⟩ ⟨o,T,vs,by subst e;exact hi⟩))).trans q1,q2,q3,RepL.mono (Gh.le.refl g) hD _ _ q4⟩
theorem SimH.newRaw {w:World}{g:Gh}{h:AH}(hs:SimH w g h) {o:Obj}{T:List AV}{vs:List Value}(ho:o.isCells=false) (hr:RepL w g T vs) :
  SimH (w.alloc o) g (h++[.raw w.heap.size o T vs])∧Fr w (Ow g h) (w.alloc o) ∧ ∀ j,Ow g (h++[.raw w.heap.size o T vs]) j→Ow g h j∨w.heap.size≤j:=by
 have hget : ∀ {j v ty s:Nat} {c:List AV},(h++[.raw w.heap.size o T vs])[j]?=some (.mk v ty s c)→h[j]?=some (.mk v ty s c):=by
  intro j v ty s c h1
  by_cases hj:j<h.length
  ·rwa [List.getElem?_append_left hj] at h1
  ·rw [List.getElem?_append_right (by omega)] at h1
   cases hk:j-h.length with
   | zero=>rw [hk] at h1;simp at h1
   | succ m=>rw [hk] at h1;simp at h1
 have hrw : ∀ {j b:Nat} {x:Obj} {T':List AV} {vs':List Value},(h++[.raw w.heap.size o T vs])[j]?=some (.raw b x T' vs')→(j=h.length∧b=w.heap.size∧x=o∧T'=T∧vs'=vs)∨h[j]?=some (.raw b x T' vs'):=by
  intro j b x T' vs' h1
  by_cases hj:j<h.length
  ·rw [List.getElem?_append_left hj] at h1;exact .inr h1
  ·rw [List.getElem?_append_right (by omega)] at h1
   cases hk:j-h.length with
   | zero=>rw [hk] at h1;simp at h1;obtain ⟨rfl,rfl,rfl,rfl⟩:=h1;exact .inl ⟨by omega,rfl,rfl,rfl,rfl⟩
   | succ m=>rw [hk] at h1;simp at h1
 have how : ∀ j b,OwAt g (h++[.raw w.heap.size o T vs]) j b→OwAt g h j b:=by
  rintro j b ⟨v,ty,s,c,a,cap,e1,e2⟩
  exact ⟨v,ty,s,c,a,cap,hget e1,e2⟩
 have hold : ∀ b,b<w.heap.size→(w.alloc o).heap[b]?=w.heap[b]?:=fun b hb=>Zsc _ _ _ hb
 have hD : ∀ b,g.D b→(w.alloc o).heap[b]?=w.heap[b]?:=fun b hb=>hold b (hs.lt b hb)
 have hlt : ∀ {j b:Nat},RwAt h j b→b<w.heap.size:=fun hb=>(hs.own_not_D (.inr ⟨_,hb⟩)).2
 refine ⟨⟨?_,fun a b c h1 h2=>hs.inj a b c (how _ _ h1) (how _ _ h2),fun b hb=>by have:=hs.lt b hb;simp;omega,fun j v l hl=>?_,fun j v l hl hf=>?_,hs.glob.mono (fun _ h=>h) hD,?_,?_⟩,⟨rfl,rfl,rfl,by simp,fun b hb _=>hold b hb⟩,?_⟩
 ·intro j v ty s c h1
  have h2:=hget h1
  obtain ⟨A,cap,e1,e2,e3⟩:=hs.ent _ _ _ _ _ h2
  refine ⟨A,cap,e1,e2,e3.mono (Gh.le.refl g) (fun _ _ _ h=>h) hD (fun b hb h0=>?_)⟩
  cases A with
  | none=>simp at hb
  | some a=>exact hold b (hs.own_not_D (.inl ⟨j,v,ty,s,c,a,cap,h2,e1,h0,by simpa using hb⟩)).2
 ·have:=hs.fresh j v l hl
  exact ⟨by simp;omega,fun v' ty s c h1=>this.2 _ _ _ _ (hget h1)⟩
 ·have:=(hs.fresh j v l hl).1
  rw [List.getElem?_append_left this] at hf
  exact hs.free _ _ _ hl hf
 ·intro j b x T' vs' h1
  rcases hrw h1 with ⟨rfl,rfl,rfl,rfl,rfl⟩ | h2
  ·exact ⟨World.alloc_heap_new w _,ho,fun hd=>Nat.lt_irrefl _ (hs.lt _ hd),RepL.mono (Gh.le.refl g) hD _ _ hr⟩
  ·obtain ⟨q1,q2,q3,q4⟩:=hs.raw _ _ _ _ _ h2
   exact ⟨(hold b (hlt ⟨_,_,_,h2⟩)).trans q1,q2,q3,RepL.mono (Gh.le.refl g) hD _ _ q4⟩
 ·rintro a b c ⟨x1,x2,x3,h1⟩ ⟨y1,y2,y3,h2⟩
  rcases hrw h1 with ⟨rfl,rfl,_⟩ | h1'
  ·rcases hrw h2 with ⟨rfl,_⟩ | h2'
   ·rfl
   ·exact absurd (hlt ⟨_,_,_,h2'⟩) (Nat.lt_irrefl _)
  ·rcases hrw h2 with ⟨rfl,rfl,_⟩ | h2'
   ·exact absurd (hlt ⟨_,_,_,h1'⟩) (Nat.lt_irrefl _)
   ·exact hs.rinj a b c ⟨_,_,_,h1'⟩ ⟨_,_,_,h2'⟩
 ·rintro b (⟨a,h1⟩ | ⟨a,x1,x2,x3,h1⟩)
  ·exact .inl (.inl ⟨a,how _ _ h1⟩)
  ·rcases hrw h1 with ⟨_,rfl,_⟩ | h2
   ·exact .inr (Nat.le_refl _)
   ·exact .inl (.inr ⟨a,_,_,_,h2⟩)
theorem St.start {w:World}{g:Gh}{h:AH}{T:List AV}{a:Act}(hs:SimH w g h) (ht:RepL w g T a.tmps.toList):St h.length w (Ow g h) ⟨g.D,g.loc,a.defers⟩ T h a w g :=
 ⟨ht,rfl,hs,Fr.refl _ _,⟨fun _ h=>h,fun _ _ _ h=>h⟩,fun i v l hl=>(hs.fresh i v l hl).1,fun k hk=>.inl hk⟩
structure LkY (w:World) (g:Gh) (h:AH) (w':World) (g':Gh) (h':AH):Prop where
 sim:SimH w' g' h'
 le:g.le g'
 fr:Fr w (Ow g h) w'
 ow : ∀ k,Ow g' h' k→Ow g h k∨w.heap.size≤k
theorem LkY.trans {a b c:World}{ga gb gc:Gh}{ha hb hc:AH}(h:LkY a ga ha b gb hb) (k:LkY b gb hb c gc hc):LkY a ga ha c gc hc:=by
 refine ⟨k.sim,h.le.trans k.le,h.fr.trans k.fr ?_,?_⟩
 ·intro i hi hlt
  exact (h.ow i hi).resolve_right (by omega)
 ·intro i hi
  rcases k.ow i hi with ho | ho
  ·exact h.ow i ho
  ·exact .inr (Nat.le_trans h.fr.size ho)
theorem LkY.of_st {w w':World}{g g':Gh}{h h':AH}{n0:Nat}{df:List Deferred}{T:List AV}{a:Act}(st:St n0 w (Ow g h) ⟨g.D,g.loc,df⟩ T h' a w' g'):LkY w g h w' g' h':=⟨st.sim,⟨st.le.D,st.le.loc⟩,st.fr,st.ow⟩
theorem LkY.rep {w w':World}{g g':Gh}{h h':AH}(hs:SimH w g h) (k:LkY w g h w' g' h') {T:List AV}{vs:List Value}(ht:RepL w g T vs):RepL w' g' T vs :=
 RepL.mono k.le (fun b hb=>k.fr.block b (hs.lt b hb) (fun ho=>(hs.own_not_D ho).1 hb)) _ _ ht
theorem LkY.setRaw {w:World}{g:Gh}{h:AH}(hs:SimH w g h) {i k:Nat}{o o':Obj}{T:List AV}{vs:List Value}(hi:h[i]?=some (.raw k o T vs)) (ho:o'.isCells=false) (e:Ent) (he:e=.raw k o' T vs∨e=.gone):LkY w g h (w.putObj k o') g (h.set i e):=by
 obtain ⟨h1,h2,h3⟩:=hs.setRaw hi ho e he
 exact ⟨h1,Gh.le.refl g,h2,fun k hk=>.inl (h3 k hk)⟩
theorem LkY.newRaw {w:World}{g:Gh}{h:AH}(hs:SimH w g h) {o:Obj}{T:List AV}{vs:List Value}(ho:o.isCells=false) (hr:RepL w g T vs):LkY w g h (w.alloc o) g (h++[.raw w.heap.size o T vs]):=by
 obtain ⟨h1,h2,h3⟩:=hs.newRaw ho hr
 exact ⟨h1,Gh.le.refl g,h2,h3⟩
structure RgC where
 pre:List Code
 id:Nat
 g:Operand
 ps:Array Tmp
 asg:Code
 body:Code
 post:List Code
def Zsl:Code→List Code
 | .seq a b=>Zsl a++Zsl b
 | c=>[c]
def ZbZ:List Code→Option RgC
 | []=>none
 | .block id (.rangeFunc g ps a b)::y=>some ⟨[],id,g,ps,a,b,y⟩
 | x::y=>(ZbZ y).map fun r=>{ r with pre:=x::r.pre }
def splitR (c:Code):Option RgC:=ZbZ (Zsl c)
def wpL (F:Fence) (n:Nat) (P:Program):List Code→(Exit→Act→World→Prop)→Act→World→Prop
 | [],Q,a,w=>Q .normal a w
 | x::l,Q,a,w=>x.wpIn F n P (Exit.then (wpL F n P l Q) Q) a w
theorem Zkh {F:Fence}{n:Nat} : ∀ {l:List Code}{Q Q':Exit→Act→World→Prop}{a:Act}{w:World},wpL F n P l Q a w→(∀ e a w,Q e a w→Q' e a w)→wpL F n P l Q' a w
 | [],Q,Q',a,w,hq,h=>h _ _ _ hq
 | x::l,Q,Q',a,w,hq,h=>by
  refine wpIn_mono hq ?_
  intro e a w hq
  cases e with
  | normal=>exact Zkh hq h
  | _=>exact h _ _ _ hq
theorem Zki {F:Fence}{n:Nat} : ∀ (l m:List Code) {Q:Exit→Act→World→Prop}{a:Act}{w:World},wpL F n P (l++m) Q a w↔wpL F n P l (Exit.then (wpL F n P m Q) Q) a w
 | [],m,Q,a,w=>Iff.rfl
 | x::l,m,Q,a,w=>by
  constructor
  ·intro hq
   refine wpIn_mono hq ?_
   intro e a w hq
   cases e with
   | normal=>exact (Zki l m).1 hq
   | _=>exact hq
  ·intro hq
   refine wpIn_mono hq ?_
   intro e a w hq
   cases e with
   | normal=>exact (Zki l m).2 hq
   | _=>exact hq
theorem ZpJ {F:Fence}{n:Nat}(c:Code) : ∀ {Q:Exit→Act→World→Prop}{a:Act}{w:World},wpL F n P (Zsl c) Q a w→c.wpIn F n P Q a w:=by
 fun_induction Zsl c with
 | case1 x y ihx ihy =>
  intro Q a w hq
  refine wpIn_seq (wpIn_mono (ihx ((Zki _ _).1 hq)) ?_)
  intro e a w hq
  cases e with
  | normal=>exact ihy hq
  | _=>exact hq
 | case2 c hc =>
  intro Q a w hq
  refine wpIn_mono (show c.wpIn F n P (Exit.then (wpL F n P [] Q) Q) a w from hq) ?_
  intro e a w hq
  cases e <;> exact hq
theorem Zra : ∀ {l:List Code}{r:RgC},ZbZ l=some r→l=r.pre++Code.block r.id (.rangeFunc r.g r.ps r.asg r.body)::r.post:=by
 intro l
 fun_induction ZbZ l with
 | case1=>intro r h;cases h
 | case2 id g ps x b y=>intro r h;cases h;rfl
 | case3 x y hx ih =>
  intro r h
  obtain ⟨r',h1,rfl⟩:=Option.map_eq_some_iff.1 h
  rw [ih h1];rfl
theorem ZlD {F:Fence}{n:Nat}{Q:Exit→Act→World→Prop}(c:Code) {r:RgC}(hc:splitR c=some r) {a:Act}{w:World}
  (hw:wpL F n P r.pre (Exit.then ((Code.block r.id (.rangeFunc r.g r.ps r.asg r.body)).wpIn F n P (Exit.then (wpL F n P r.post Q) Q)) Q) a w):c.wpIn F n P Q a w:=by
 refine ZpJ c ?_
 rw [Zra hc]
 exact (Zki _ _).2 hw
structure AFR where
 pre:List AC
 g:Operand
 ps:Array Tmp
 asg:AC
 body:AC
 post:AC
 res:List AR
 ntmps:Nat
def Zhk (P:Program) (f:FuncId):Option AFR :=
 match P.funcs[f]? with
 | some fn=>if fn.name == "runtime.NumGoroutine" then none else match fn.body with
  | some c=>match splitR c with
   | some r=>match r.pre.mapM (comp P),comp P r.asg,comp P r.body,r.post.mapM (comp P),fn.results.toList.mapM (ZfK P) with
    | some p,some a,some b,some q,some rs=>some ⟨p,r.g,r.ps,a,b,q.foldr .seq .skip,rs,fn.ntmps⟩
    | _,_,_,_,_=>none
   | none=>none
  | none=>none
 | none=>none
theorem ZhM {n0:Nat} : ∀ (l:List Code) (al:List AC),l.mapM (comp P)=some al → ∀ {Q:AX→List AV→AH→Prop}{T:List AV}{h:AH},aw P n0 (al.foldr .seq .skip) Q T h →
  ∀ w0 S0 g0 a w g,St n0 w0 S0 g0 T h a w g→wpL Fence.wide 0 P l (ZmO n0 w0 S0 g0 Q) a w
 | [],al,hm,Q,T,h,hw,w0,S0,g0,a,w,g,st=>by
  simp at hm;subst hm
  exact ⟨.normal,T,h,g,st,trivial,hw⟩
 | x::l,al,hm,Q,T,h,hw,w0,S0,g0,a,w,g,st=>by
  simp only [List.mapM_cons,Option.bind_eq_bind,Option.bind_eq_some_iff,Option.pure_def,Option.some.injEq] at hm
  obtain ⟨ac,h1,al',h2,rfl⟩:=hm
  refine wpIn_mono (@Zfg P n0 rdN x ac h1 _ _ _ hw w0 S0 g0 a w g st) ?_
  rintro e a' w' ⟨z,T',h',g',k1,k2,k3⟩
  cases z <;> cases e <;> simp only [ExR] at k2 <;> simp only [Exit.then,AX.thn] at k3 ⊢
  case normal.normal =>
   obtain ⟨T1,h1,hle,hq⟩:=k3
   obtain ⟨g1,st1⟩:=hle w0 S0 g0 a' w' g' k1
   exact ZhM l al' h2 hq w0 S0 g0 a' w' g1 st1
  case exit.exit=>exact ⟨_,T',h',g',k1,by simp only [ExR];exact k2,k3⟩
  case ret.ret=>exact ⟨_,T',h',g',k1,by simp only [ExR],k3⟩
  case pan.panic=>exact ⟨_,T',h',g',k1,by simp only [ExR];exact k2,k3⟩
def setPs (T:List AV) (ps:Array Tmp) (as1:List AV):List AV:=(ps.toList.zip as1).foldl (fun T p=>T.set p.1 p.2) T
theorem ZlM {w:World}{g:Gh} : ∀ (ps:List Tmp) (as1:List AV) (args:List Value) (T:List AV) (tm:List Value),RepL w g T tm→RepL w g as1 args →
  RepL w g ((ps.zip as1).foldl (fun T p=>T.set p.1 p.2) T) ((ps.zip args).foldl (fun T p=>T.set p.1 p.2) tm)
 | [],_,_,_,_,ht,_=>by simpa using ht
 | p::ps,[],args,T,tm,ht,ha=>by simp only [RepL] at ha;subst ha;simpa using ht
 | p::ps,c::as1,args,T,tm,ht,ha=>by
  simp only [RepL] at ha
  obtain ⟨u,us,rfl,h1,h2⟩:=ha
  simp only [List.zip_cons_cons,List.foldl_cons]
  exact ZlM ps as1 us _ _ (ht.set h1) h2
theorem ZjE : ∀ (l:List (Tmp×Value)) (tm:Array Value),(l.foldl (fun t p=>t.setIfInBounds p.1 p.2) tm).toList=l.foldl (fun T p=>T.set p.1 p.2) tm.toList
 | [],tm=>rfl
 | p::l,tm=>by simp only [List.foldl_cons];rw [ZjE l];simp
def ZsM (i l:Nat) (rdy bsy fin:Obj) (T:List AV) (vs:List Value) (R2:AE→AH→Prop):AX→List AV→AH→Prop
 | .normal,_,h=>h[i]?=some (.raw l bsy T vs)∧R2 (.ret (.v (.bool true))) (h.set i (.raw l rdy T vs))
 | .ret,_,h=>h[i]?=some (.raw l bsy T vs)∧R2 (.ret (.v (.bool false))) (h.set i (.raw l fin T vs))
 | _,_,_=>False
def asgQ (P:Program) (fr:AFR) (i l:Nat) (rdy bsy fin:Obj) (T:List AV) (vs:List Value) (R2:AE→AH→Prop) (x:AX) (T1:List AV) (h2:AH):Prop :=
 x=.normal∧h2[i]?=some (.raw l rdy T vs) ∧ ∀ n1,(h2.set i (.raw l bsy T vs)).length=n1→(∀ e∈h2.set i (.raw l bsy T vs),e.lt n1=true)→aw P n1 fr.body (ZsM i l rdy bsy fin T vs R2) T1 (h2.set i (.raw l bsy T vs))
def Zk7 (P:Program) (fr:AFR) (i l:Nat) (rdy bsy fin:Obj) (T:List AV) (vs:List Value):Prop :=
 ∀ (as1:List AV) (h:AH) (R2:AE→AH→Prop),as1.length=fr.ps.size→h[i]?=some (.raw l rdy T vs) →
  (∀ n0,h.length=n0→(∀ e∈h,e.lt n0=true)→AV.ltL n0 as1=true→AV.bdL as1→AV.bdL T→aw P n0 fr.asg (asgQ P fr i l rdy bsy fin T vs R2) (setPs T fr.ps as1) h)→AYield P l as1 h R2
def ZeU (rs:List AR) (N D:Nat) (R:AE→AH→Prop):AX→List AV→AH→Prop
 | .normal,T,h=>h[N]?=some (mkD D)∧match aRes rs T (h.set N .gone) with
  | some c=>R (.ret c) (h.set N .gone)
  | none=>False
 | .ret,T,h=>h[N]?=some (mkD D)∧match aRes rs T (h.set N .gone) with
  | some c=>R (.ret c) (h.set N .gone)
  | none=>False
 | _,_,_=>False
def rangeA (P:Program) (fr:AFR) (R:AE→AH→Prop) (T:List AV) (h:AH):Prop :=
  ∃ gf caps,Zam T fr.g=.clo (.func gf) caps ∧ ∀ (l D:Nat) (rdy bsy fin:Obj) (vs:List Value),(∀ e∈h,e.lt h.length=true)→AV.ltL h.length T=true→Zk7 P fr (h.length+1) l rdy bsy fin T vs →
    ACalls P gf (.v (.func (.yield l) #[] #[])::caps) (h++[mkD D,.raw l rdy T vs]) fun r h3=>(∃ c,r=.ret c) ∧
      ((h3[h.length+1]?=some (.raw l rdy T vs) ∧ ∀ n0,(h3.set (h.length+1) .gone).length=n0→(∀ e∈h3.set (h.length+1) .gone,e.lt n0=true)→aw P n0 fr.post (ZeU fr.res h.length D R) T (h3.set (h.length+1) .gone)) ∨
       (h3[h.length+1]?=some (.raw l fin T vs)∧ZeU fr.res h.length D R .ret T (h3.set (h.length+1) .gone)))
def preQ (P:Program) (fr:AFR) (n0:Nat) (R:AE→AH→Prop):AX→List AV→AH→Prop
 | .normal,T,h => ∃ T1 h1,ALe n0 T h T1 h1∧rangeA P fr R T1 h1
 | .ret,T,h=>match aRes fr.res T h with
  | some c=>R (.ret c) h
  | none=>False
 | _,_,_=>False
theorem yrule {fr:AFR}{asg body:Code}(ha:comp P asg=some fr.asg) (hb:comp P body=some fr.body) {i D l:Nat}{T:List AV}{tm:Array Value}{rec:LoopState→Option Code→Loop}{fn:FuncId}
    (hrec:rec=fun st pe=>{ state:=st,pending:=pe,fn:=fn,tmps:=tm,params:=fr.ps,assign:=asg,body:=body,defers:=D }) :
    Zk7 P fr i l (.loop (rec .ready none)) (.loop (rec .busy none)) (.loop (rec .done (some .ret))) T tm.toList:=by
  intro as1 h R2 hsz hi hw w g vs hs hr
  obtain ⟨q1,q2,q3,q4⟩:=hs.raw _ _ _ _ _ hi
  have hvs:vs.size=fr.ps.size:=by have:=hr.length;simp only [Array.length_toList] at this;omega
  have hy:=run_yield (P:=P) (args:=vs) q1 (by rw [hrec];exact hvs)
  rw [hrec] at hy
  refine ⟨fn,_,asg,body,hy,roundIn_of_wpIn trivial ?_⟩
  have ht:RepL w g (setPs T fr.ps as1) ((fr.ps.zip vs).foldl (fun t p=>t.setIfInBounds p.1 p.2) tm).toList:=by
    have:=ZlM fr.ps.toList as1 vs.toList T tm.toList q4 hr
    rw [←Array.foldl_toList,ZjE,Array.toList_zip]
    exact this
  letI:Rd:=rdS l
  refine wpIn_mono (Zfg asg fr.asg ha (hw _ rfl hs.ltE (RepL.lt (fun i v l hl=>(hs.fresh i v l hl).1) _ _ hr) (RepL.bd _ _ hr) (RepL.bd _ _ q4)) w _ _ _ w g (St.start (a:={ tmps:=(fr.ps.zip vs).foldl (fun t p=>t.setIfInBounds p.1 p.2) tm,defers:=[] }) hs ht)) ?_
  rintro e a1 w1 ⟨x1,T1,h2,g1,st1,hx1,rfl,hi2,hw1⟩
  cases e <;> simp only [ExR] at hx1
  simp only [Exit.then]
  have k1:=LkY.of_st st1
  obtain ⟨r1,_,_,_⟩:=k1.sim.raw _ _ _ _ _ hi2
  refine ⟨_,run_beginRound r1 (by rw [hrec]),?_⟩
  have e0:({ rec .ready none with state:=.busy }:Loop)=rec .busy none:=by rw [hrec]
  rw [e0]
  have k2:=LkY.setRaw k1.sim hi2 (o':=.loop (rec .busy none)) rfl (.raw l (.loop (rec .busy none)) T tm.toList) (.inl rfl)
  have st2:=St.start (a:=a1) k2.sim (k2.rep k1.sim st1.tmps)
  refine wpIn_mono (Zfg body fr.body hb (hw1 _ rfl k2.sim.ltE) _ _ _ _ _ g1 st2) ?_
  rintro e a2 w2 ⟨x2,T2,h3,g2,st3,hx2,hq⟩
  have k3:=(k1.trans k2).trans (LkY.of_st st3)
  have fin : ∀ (jump : Option Code) (b : Bool), h3[i]? = some (.raw l (.loop (rec .busy none)) T tm.toList) → b = jump.isNone →
      R2 (.ret (.v (.bool b))) (h3.set i (.raw l (.loop (rec (if jump.isNone then .ready else .done) jump)) T tm.toList)) →
      ∃ v w',(Instr.endRound l jump).run P w2=.ok v w' ∧ ∃ x h' g',EndR w' g' (.returned v) x∧SimH w' g' h'∧g.le g'∧Fr w (Ow g h) w'∧(∀ k,Ow g' h' k→Ow g h k∨w.heap.size≤k)∧R2 x h':=by
    rintro jump b hi3 rfl hR
    obtain ⟨p1,_,_,_⟩:=k3.sim.raw _ _ _ _ _ hi3
    refine ⟨_,_,run_endRound jump p1,?_⟩
    have e1:({ rec .busy none with state:=if jump.isNone then .ready else .done,pending:=jump }:Loop)=rec (if jump.isNone then .ready else .done) jump:=by rw [hrec]
    rw [e1]
    have k4:=LkY.setRaw k3.sim hi3 (o':=.loop (rec (if jump.isNone then .ready else .done) jump)) rfl (.raw l (.loop (rec (if jump.isNone then .ready else .done) jump)) T tm.toList) (.inl rfl)
    have k5:=k3.trans k4
    exact ⟨.ret (.v (.bool jump.isNone)),_,g2,by simp only [EndR,Rep],k5.sim,k5.le,k5.fr,k5.ow,hR⟩
  cases x2 <;> cases e <;> simp only [ExR] at hx2 <;> simp only [ZsM] at hq <;> try (exact hq.elim)
  · exact fin none true hq.1 rfl hq.2
  · exact fin (some .ret) false hq.1 rfl hq.2
theorem Zir {f:FuncId}(he:enters P f=true) (args:Array Value) (w:World):(callFunc f args).run P w=.ok (.enter f args) w:=by
 unfold enters at he
 split at he <;> try (cases he;done)
 rename_i fd hfd
 simp only [Bool.and_eq_true,bne_iff_ne,ne_eq] at he
 have hb:fd.body≠none:=by intro e;simp [e] at he
 simp [callFunc,hfd,he.1,hb]
theorem ACalls.of_range {f:FuncId}{fr:AFR}(hc:Zhk P f=some fr) {args:List AV}{h:AH}{R:AE→AH→Prop}(hw:aw P h.length (fr.pre.foldr .seq .skip) (preQ P fr h.length R) (args++List.replicate (fr.ntmps-args.length) .any) h):ACalls P f args h R:=by
  unfold Zhk at hc
  split at hc <;> try (cases hc;done)
  rename_i fn hfn
  split at hc <;> try (cases hc;done)
  rename_i hname
  split at hc <;> try (cases hc;done)
  rename_i c hb
  split at hc <;> try (cases hc;done)
  rename_i rg hrg
  split at hc <;> try (cases hc;done)
  rename_i ap aa ab aq rs hap haa hab haq hrs
  cases hc
  simp only at hw
  refine ⟨?_,fun w g vs hs ha=>(callsIn_wide (n:=0)).1 (callsIn_of_wp_marks hfn hb trivial (ZlD c hrg ?_) rfl)⟩
  · simp only [enters,hfn,hb]
    simp only [Bool.not_eq_true] at hname
    simp [bne,hname]
  have hlen:vs.size=args.length:=by simpa using ha.length
  have ht:RepL w g (args++List.replicate (fn.ntmps-args.length) .any) (vs++Array.replicate (fn.ntmps-vs.size) undef).toList:=by
    simp only [Array.toList_append,Array.toList_replicate,hlen]
    refine ha.append ?_
    have:=ZkE w g (List.replicate (fn.ntmps-args.length) undef)
    simpa using this
  have fin : ∀ {w1 : World} {g1 : Gh} {h1 : AH} {T1 : List AV} {a1 : Act} {c : AV}, LkY w g h w1 g1 h1 → RepL w1 g1 T1 a1.tmps.toList → aRes rs T1 h1 = some c → R (.ret c) h1 →
      LeavesInM Fence.wide 0 P fn a1.tmps (fun e w' => ∃ x h' g',EndR w' g' e x∧SimH w' g' h'∧g.le g'∧Fr w (Ow g h) w'∧(∀ k,Ow g' h' k→Ow g h k∨w.heap.size≤k)∧R x h') [] .returning w1:=by
    intro w1 g1 h1 T1 a1 c k1 ht1 hres hR
    obtain ⟨v,r1,r2⟩:=Zdx hrs hres k1.sim ht1
    exact ⟨v,by simpa using r1,.ret c,h1,g1,r2,k1.sim,k1.le,k1.fr,k1.ow,hR⟩
  have hpre:=ZhM rg.pre ap hap hw w _ _ _ w g (St.start (a:={ tmps:=vs++Array.replicate (fn.ntmps-vs.size) undef,defers:=[] }) hs ht)
  refine Zkh hpre ?_
  rintro e1 a1 w1 ⟨x1,T1,h1,g1,st1,hx1,hq1⟩
  have hdf:a1.defers=[]:=st1.defers
  cases x1 <;> cases e1 <;> simp only [ExR] at hx1 <;> simp only [preQ] at hq1 <;> try (exact hq1.elim)
  rotate_left 1
  · split at hq1 <;> try (exact hq1.elim)
    rename_i c0 hc0
    show LeavesInM Fence.wide 0 P fn a1.tmps _ a1.defers .returning w1
    rw [hdf]
    exact fin (LkY.of_st st1) st1.tmps hc0 hq1
  obtain ⟨T1',h1',hle1,gf,caps,hgf,hit⟩:=hq1
  obtain ⟨g1',st1⟩:=hle1 _ _ _ _ _ _ st1
  have k1:=LkY.of_st st1
  simp only [Exit.then]
  refine wpIn_block (wpIn_rangeFunc ?_)
  intro fn1 _
  show ∃ (l:Nat) (mark:List Deferred) (w₁:World) (d:Deferred) (w₁':World) (f:FuncId) (args:Array Value) (w₂:World),(Instr.enterLoop fn1 a1.tmps rg.ps rg.asg rg.body none).run P w1=_∧_
  obtain ⟨rec,hrec⟩ : ∃ rec:LoopState→Option Code→Loop,rec=fun st pe=>{ state:=st,pending:=pe,fn:=fn1,tmps:=a1.tmps,params:=rg.ps,assign:=rg.asg,body:=rg.body,defers:=w1.heap.size }:=⟨_,rfl⟩
  have k2:=LkY.newRaw k1.sim (o:=dfo) (T:=[]) (vs:=[]) rfl (by simp only [RepL])
  have k3:=LkY.newRaw k2.sim (o:=.loop (rec .ready none)) (T:=T1') (vs:=a1.tmps.toList) rfl (k2.rep k1.sim st1.tmps)
  rw [World.size_alloc,List.append_assoc,List.cons_append,List.nil_append] at k3
  have k123:=(k1.trans k2).trans k3
  have hcallee:=Zb7 st1.tmps rg.g
  rw [hgf] at hcallee
  simp only [Rep] at hcallee
  obtain ⟨cv,hcv,hcr⟩:=hcallee
  have hy:=yrule (P:=P) (fr:=⟨ap,rg.g,rg.ps,aa,ab,aq.foldr .seq .skip,rs,fn.ntmps⟩) haa hab (i:=h1'.length+1) (D:=w1.heap.size) (l:=w1.heap.size+1) (T:=T1') hrec
  obtain ⟨heng,hcall⟩:=hit (w1.heap.size+1) w1.heap.size _ _ _ a1.tmps.toList st1.sim.ltE (RepL.lt (fun i v l hl=>(st1.sim.fresh i v l hl).1) _ _ st1.tmps) hy
  refine ⟨w1.heap.size+1,[{ target:=.collected w1.heap.size,args := #[] }],(w1.alloc dfo).alloc (.loop (rec .ready none)),{ target:=.fn (.func gf) cv,args := #[.func (.yield (w1.heap.size+1)) #[] #[]] },(w1.alloc dfo).alloc (.loop (rec .ready none)),gf,
    #[.func (.yield (w1.heap.size+1)) #[] #[]]++cv,(w1.alloc dfo).alloc (.loop (rec .ready none)),(by rw [hrec];exact run_enterLoop_outer _ _ _ _ _),?_,fun _ _=>trivial,?_,fun h=>by simp [Fence.wide] at h,?_⟩
  · simp only [resolve,hcv]
    simp [go_sem]
  · simp [invoke,go_sem,Zir heng]
  refine callsIn_wide.2 ((hcall _ g1' _ k123.sim (by
    rw [Array.toList_append]
    have hcr':=(k2.trans k3).rep k1.sim hcr
    simp only [List.cons_append,List.nil_append,RepL]
    exact ⟨_,_,rfl,by simp only [Rep],hcr'⟩)).mono ?_)
  rintro e3 w3 ⟨x3,h3,g3,hx3,hs3,hle3,hfr3,how3,⟨c3,rfl⟩,hcase⟩
  cases e3 <;> simp only [EndR] at hx3
  have k4:LkY w g h w3 g3 h3:=k123.trans ⟨hs3,hle3,hfr3,how3⟩
  have ht3:RepL w3 g3 T1' a1.tmps.toList:=(LkY.mk hs3 hle3 hfr3 how3).rep k123.sim ((k2.trans k3).rep k1.sim st1.tmps)
  -- the end, with the mark taken up
  have fin2 : ∀ {w5 : World} {g5 : Gh} {h5 : AH} {T5 : List AV} {a5 : Act}, LkY w g h w5 g5 h5 → RepL w5 g5 T5 a5.tmps.toList → a5.defers = [{ target := .collected w1.heap.size, args := #[] }] → ZeU rs h1'.length w1.heap.size R .ret T5 h5 →
      LeavesInM Fence.wide 0 P fn a5.tmps (fun e w' => ∃ x h' g',EndR w' g' e x∧SimH w' g' h'∧g.le g'∧Fr w (Ow g h) w'∧(∀ k,Ow g' h' k→Ow g h k∨w.heap.size≤k)∧R x h') a5.defers .returning w5:=by
    rintro w5 g5 h5 T5 a5 k5 ht5 hd5 ⟨hi5,hR5⟩
    split at hR5 <;> try (exact hR5.elim)
    rename_i c5 hres
    rw [hd5]
    obtain ⟨p1,_,_,_⟩:=k5.sim.raw _ _ _ _ _ hi5
    have k6:=LkY.setRaw k5.sim hi5 (o':=.deferred none) rfl .gone (.inr rfl)
    have ht6:=k6.rep k5.sim ht5
    refine ⟨by simp,.inl ⟨_,_,rfl,run_takeDeferred p1,?_⟩⟩
    exact fin (k5.trans k6) ht6 hres hR5
  have drop : ∀ (o : Obj) (st : LoopState) (jump : Option Code), o = .loop (rec st jump) → h3[h1'.length + 1]? = some (.raw (w1.heap.size + 1) o T1' a1.tmps.toList) → st ≠ .busy →
      ∃ w4,(Instr.endLoop (w1.heap.size+1)).run P w3=.ok jump w4∧LkY w g h w4 g3 (h3.set (h1'.length+1) .gone)∧RepL w4 g3 T1' a1.tmps.toList:=by
    rintro o st jump rfl hi3 hst
    obtain ⟨p1,_,_,_⟩:=hs3.raw _ _ _ _ _ hi3
    have k5:=LkY.setRaw hs3 hi3 (o':=.loop { rec st jump with state:=.exhausted }) rfl .gone (.inr rfl)
    have ht5:=k5.rep hs3 ht3
    refine ⟨_,?_,k4.trans k5,ht5⟩
    have:=run_endLoop (P:=P) p1 (by rw [hrec];exact hst)
    rw [this]
    rw [hrec]
  rcases hcase with ⟨hi3,hpost⟩ | ⟨hi3,hpost⟩
  · obtain ⟨w4,r4,k5,ht5⟩:=drop _ .ready none rfl hi3 (by simp)
    refine ⟨none,w4,r4,?_⟩
    show wpL Fence.wide 0 P rg.post _ _ w4
    have st5:=St.start (a:={ a1 with defers:=[{ target:=.collected w1.heap.size,args := #[] }]++a1.defers }) k5.sim ht5
    refine Zkh (ZhM rg.post aq haq (hpost _ rfl k5.sim.ltE) _ _ _ _ _ g3 st5) ?_
    rintro e6 a6 w6 ⟨x6,T6,h6,g6,st6,hx6,hq6⟩
    have k6:=k5.trans (LkY.of_st st6)
    have hd6:a6.defers=[{ target:=.collected w1.heap.size,args := #[] }]:=by rw [st6.defers];simp [hdf]
    cases x6 <;> cases e6 <;> simp only [ExR] at hx6 <;> simp only [ZeU] at hq6 <;> try (exact hq6.elim)
    · exact fin2 k6 st6.tmps hd6 hq6
    · exact fin2 k6 st6.tmps hd6 hq6
  · obtain ⟨w4,r4,k5,ht5⟩:=drop _ .done (some .ret) rfl hi3 (by simp)
    refine ⟨some .ret,w4,r4,wpIn_ret ?_⟩
    exact fin2 (a5:={ a1 with defers:=[{ target:=.collected w1.heap.size,args := #[] }]++a1.defers }) k5 ht5 (by simp [hdf]) hpost
end
section
variable {P : Program} {Kp : AV → List AV → AH → Prop} {K : List AV → AH → Prop} {T T' : List AV} {h h' : AH} {d : Option Nat} {c : AV} {rest : List AOper}
theorem Zhs {f:FuncId}{fr:AFR}(hc:Zhk P f=some fr):enters P f=true:=by
 unfold Zhk at hc
 split at hc <;> try (cases hc;done)
 rename_i fn hfn
 split at hc <;> try (cases hc;done)
 rename_i hname
 split at hc <;> try (cases hc;done)
 rename_i c hb
 simp only [enters,hfn,hb]
 simp only [Bool.not_eq_true] at hname
 simp [bne,hname]
theorem tR' {f:FuncId}{fr:AFR}{args:List AV}{R:AE→Prop}(hc:Zhk P f=some fr) (hw : ∀ n,h.length=n→(∀ e∈h,e.lt n=true)→AV.ltL n args=true→AV.bdL args→aw P n (fr.pre.foldr .seq .skip) (preQ P fr n fun x h' => ∃ z,h'=h++z∧x.lt n=true∧R x) (tA' args fr.ntmps) (h++[]))
  (hl:Nat.ble args.length fr.ntmps=true:=by rfl):ACalls P f args h fun x h'=>h'=h∧R x:=by
 refine ACalls.gc_same ⟨Zhs hc,fun w g vs hs ha=>(ACalls.of_range hc ?_).2 w g vs hs ha⟩
 have:=hw h.length rfl hs.ltE (RepL.lt (fun i v l hl=>(hs.fresh i v l hl).1) _ _ ha) (RepL.bd _ _ ha)
 rw [List.append_nil] at this
 rw [ZhZ _ _ (Nat.le_of_ble_eq_true hl)]
 exact this
theorem ZrA {fr:AFR}{n0 gf l0:Nat}{R:AE→AH→Prop}{T1 caps:List AV}{h1:AH}(hl:ALe n0 T h T1 h1) (hg:Zam T1 fr.g=.clo (.func gf) caps) (hn:h1.length=l0)
    (hi : ∀ (l D:Nat) (rdy bsy fin:Obj) (vs:List Value),(∀ e∈h1,e.lt l0=true)→AV.ltL l0 T1=true→Zk7 P fr (l0+1) l rdy bsy fin T1 vs →
      ACalls P gf (.v (.func (.yield l) #[] #[])::caps) (h1++[mkD D,.raw l rdy T1 vs]) fun r h3=>(∃ c,r=.ret c) ∧
      ((h3[l0+1]?=some (.raw l rdy T1 vs) ∧ ∀ n0,(h3.set (l0+1) .gone).length=n0→(∀ e∈h3.set (l0+1) .gone,e.lt n0=true)→aw P n0 fr.post (ZeU fr.res l0 D R) T1 (h3.set (l0+1) .gone)) ∨
       (h3[l0+1]?=some (.raw l fin T1 vs)∧ZeU fr.res l0 D R .ret T1 (h3.set (l0+1) .gone)))):preQ P fr n0 R .normal T h:=by
  subst hn;exact ⟨T1,h1,hl,gf,caps,hg,hi⟩
theorem Zrm {l:Nat}{x:Operand}{xs:List Operand}{as1:List AV}(hf:Zam T x=.v (.func (.yield l) #[] #[])) (hx:xs.map (Zam T)=as1) (hc:AYield P l as1 h fun r h''=>r=.ret c∧h''=h') (hp:aPut T d c=T') (hk:arun P Kp rest T' h' K):arun P Kp (⟨d,none,.call x xs⟩::rest) T h K:=by
 subst hp hx
 refine ⟨fun _=>?_,fun h=>by cases h⟩
 simp only [astep,hf,Zfx]
 refine ⟨trivial,trivial,fun w g vs hs ha=>?_⟩
 obtain ⟨f,t,a,b,h1,h2⟩:=hc w g vs hs ha
 refine ⟨f,t,a,b,h1,h2.mono ?_⟩
 rintro e w' ⟨x,h',g',k1,k2,k3,k4,k5,rfl,rfl⟩
 exact ⟨_,_,g',k1,k2,k3,k4,k5,hk⟩
theorem AYield.mono {l:Nat}{as1:List AV}{R R':AE→AH→Prop}(hc:AYield P l as1 h R) (hr : ∀ r h,R r h→R' r h):AYield P l as1 h R':=fun w g vs hs ha=>by
 obtain ⟨f,t,a,b,h1,h2⟩:=hc w g vs hs ha
 exact ⟨f,t,a,b,h1,h2.mono fun _ _ ⟨x,h',g',h1,h2,h3,h4,h5,h6⟩=>⟨x,h',g',h1,h2,h3,h4,h5,hr _ _ h6⟩⟩
theorem Zib {fr:AFR}{n0:Nat}{R:AE→AH→Prop}(hr:aRes fr.res T h=some c) (hR:R (.ret c) h):preQ P fr n0 R .ret T h:=by simp only [preQ,hr];exact hR
theorem ZdN {rs:List AR}{k D:Nat}{R:AE→AH→Prop}(h1:h[k]?=some (mkD D)) (h2:h.set k .gone=h') (hr:aRes rs T h'=some c) (hR:R (.ret c) h'):ZeU rs k D R .ret T h:=by subst h2;simp only [ZeU,hr];exact ⟨h1,hR⟩
theorem YieldAt.gc {l:Nat}{as1:List AV}{R:AE→AH→Prop}(hc:AYield P l as1 h fun x h' => ∃ y z,h'=y++z∧y.length=h.length∧(∀ e∈y,e.lt h.length=true)∧x.lt h.length=true∧R x y):AYield P l as1 h R:=fun w g vs hs ha=>by
 obtain ⟨f,t,a,b,q1,q2⟩:=hc w g vs hs ha
 refine ⟨f,t,a,b,q1,q2.mono ?_⟩
 rintro e w' ⟨x,h',g',h1,h2,h3,h4,h5,y,z,rfl,hl,hlt,hx,hR⟩
 have hcut:=h2.cut (by rw [hl];exact hlt)
 refine ⟨x,y,g'.cut y.length,?_,hcut,h3.cut (fun i v l hi=>by rw [hl];exact (hs.fresh _ _ _ hi).1),h4,fun k hk=>h5 k hk.of_cut,hR⟩
 rw [hl]
 cases x <;> cases e <;> simp only [EndR] at h1 ⊢
 ·exact Rep.cut _ _ hx h1
 ·obtain ⟨v,e1,e2⟩:=h1;exact ⟨v,e1,Rep.cut _ _ hx e2⟩
theorem y_go {fr:AFR}{i l:Nat}{rdy bsy fin:Obj}{T:List AV}{vs:List Value}(hY:Zk7 P fr i l rdy bsy fin T vs) {as1:List AV}(hi:h[i]?=some (.raw l rdy T vs)) (hsz:as1.length=fr.ps.size)
  (hw : ∀ n0,h.length=n0→(∀ e∈h,e.lt n0=true)→AV.ltL n0 as1=true→AV.bdL as1→AV.bdL T→aw P n0 fr.asg (asgQ P fr i l rdy bsy fin T vs fun x h2 => ∃ y z,h2=y++z∧y.length=n0∧(∀ e∈y,e.lt n0=true)∧x.lt n0=true∧x=.ret c∧y=h') (setPs T fr.ps as1) h) :
  AYield P l as1 h fun r h''=>r=.ret c∧h''=h' :=
 YieldAt.gc (hY as1 h _ hsz hi fun n0 hn hlt q1 q2 q3=>by subst hn;exact hw _ rfl hlt q1 q2 q3)
theorem ZsR {fr:AFR}{i l:Nat}{rdy bsy fin:Obj}{vs:List Value}{R2:AE→AH→Prop}{T0:List AV}(hi:h[i]?=some (.raw l rdy T0 vs)) (hs:h.set i (.raw l bsy T0 vs)=h') (hw : ∀ n1,h'.length=n1→(∀ e∈h',e.lt n1=true)→aw P n1 fr.body (ZsM i l rdy bsy fin T0 vs R2) T h'):asgQ P fr i l rdy bsy fin T0 vs R2 .normal T h:=by
 subst hs;exact ⟨rfl,hi,hw⟩
theorem Ziz {i l:Nat}{rdy bsy fin:Obj}{vs:List Value}{R2:AE→AH→Prop}{T0:List AV}(hi:h[i]?=some (.raw l bsy T0 vs)) (hs:h.set i (.raw l rdy T0 vs)=h') (hR:R2 (.ret (.v (.bool true))) h'):ZsM i l rdy bsy fin T0 vs R2 .normal T h:=by
 subst hs;exact ⟨hi,hR⟩
theorem Zpa {i l:Nat}{rdy bsy fin:Obj}{vs:List Value}{R2:AE→AH→Prop}{T0:List AV}(hi:h[i]?=some (.raw l bsy T0 vs)) (hs:h.set i (.raw l fin T0 vs)=h') (hR:R2 (.ret (.v (.bool false))) h'):ZsM i l rdy bsy fin T0 vs R2 .ret T h:=by
 subst hs;exact ⟨hi,hR⟩
theorem AYield.args {l:Nat}{as1 as2:List AV}{R:AE→AH→Prop}(hc:AYield P l as1 h R) (e:as2=as1):AYield P l as2 h R:=e ▸ hc
theorem k_callY {m:Bool}{q:List Bool}{rs:List Nat}{l:Nat}{x:Operand}{xs:List Operand}{as1:List AV}(hf:Zam T x=.v (.func (.yield l) #[] #[])) (hx:xs.map (Zam T)=as1) (hc:AYield P l as1 h fun r h''=>r=.ret c∧h''=h') (hr : ∀ id∈(bif m then rs else []),h'[id]?=h[id]?) (hp:aPut T d c=T') (hk:Zcq P rs q rest T' h' K):Zcq P rs (m::q) (⟨d,none,.call x xs⟩::rest) T h K:=by
 subst hp hx
 refine ⟨fun _=>?_,fun h=>by cases h⟩
 refine ⟨c,h',?_,hr,hk⟩
 simp only [hf,Zfx]
 exact ⟨trivial,trivial,hc.mono fun r h2 hr=>⟨hr.2,hr.1⟩⟩
theorem s_callE {ι:Type}{H:ι→AH}{J:ι→Prop}{f:FuncId}{xs:List Operand}{as1:List AV}(hx:xs.map (Zam T)=as1) (hc:ACalls P f as1 h fun r h''=>r=.ret c ∧ ∃ i,J i∧h''=H i) (hp:aPut T d c=T') (hk : ∀ i,J i→arun P Kp rest T' (H i) K):arun P Kp (⟨d,none,.call (.func f) xs⟩::rest) T h K:=by
 subst hp
 refine ZlG hx hc ?_
 rintro r h'' ⟨rfl,i,h1,rfl⟩
 exact hk i h1
theorem v_ldOF {α:Type}{f:α→List AV}{sz k off id v ty s:Nat}{l:List α}{x:Operand}(hx:Zam T x=.ptr id v (k*sz+off)) (he:h[id]?=some (.mk v ty s (rows f l))) (hf : ∀ x,(f x).length=sz) (hk:k<l.length) (ho:off<sz) (hc:(f l[k])[off]?=some c):aval h (Zam T) (.load false 1 x)=some c:=by
 refine Zac hx he ?_
 rw [←ZkB hf hk,List.getElem?_take_of_lt ho,List.getElem?_drop] at hc
 exact hc
theorem v_ldOFA {α:Type}{f:α→List AV}{sz k off id v ty s m:Nat}{l:List α}{x:Operand}{cs:List AV}(hx:Zam T x=.ptr id v (k*sz+off)) (he:h[id]?=some (.mk v ty s (rows f l))) (hf : ∀ x,(f x).length=sz) (hk:k<l.length) (ho:off+m≤sz) (hc:((f l[k]).drop off).take m=cs) (hl:cs.length=m):aval h (Zam T) (.load true m x)=some (.agg cs):=by
 refine Zan hx he ?_ hl
 rw [←ZkB hf hk,List.drop_take,List.take_take,List.drop_drop,Nat.min_eq_left (by omega)] at hc
 exact hc
end
end Go.Ab
end
section
namespace Go.Proofs.YtlekejpogddndaaGreatDoor
open Go.Ab Civ
attribute [local simp] Zbk Zln ZdY
section
theorem Zkf {a0 a1 a2 a3 a4 a5 a6 a7 a8 a9 a10:AV}{l:List AV}:(a0::a1::a2::a3::a4::a5::a6::a7::a8::a9::a10::l).take 11=[a0,a1,a2,a3,a4,a5,a6,a7,a8,a9,a10]:=rfl
theorem ZiW {a0 a1 a2 a3 a4 a5 a6 a7 a8 a9 a10 c0 c1 c2 c3 c4 c5 c6 c7 c8 c9 c10:AV}{l:List AV}:setCells (a0::a1::a2::a3::a4::a5::a6::a7::a8::a9::a10::l) 0 [c0,c1,c2,c3,c4,c5,c6,c7,c8,c9,c10]=c0::c1::c2::c3::c4::c5::c6::c7::c8::c9::c10::l:=rfl
theorem ZiV {a0 a1 a2 a3 a4 a5 a6 a7 a8 a9 a10:AV}{l:List AV}:((a0::a1::a2::a3::a4::a5::a6::a7::a8::a9::a10::l).drop 0).take 11=[a0,a1,a2,a3,a4,a5,a6,a7,a8,a9,a10]:=rfl
theorem ZqE {a0 a1 a2 a3 a4 a5 a6:AV}{l:List AV}:((a0::a1::a2::a3::a4::a5::a6::l).drop 4).take 3=[a4,a5,a6]:=rfl
theorem ZqG {a0 a1 a2 c0 c1 c2:AV}{l:List AV}:setCells (a0::a1::a2::l) 0 [c0,c1,c2]=c0::c1::c2::l:=rfl
theorem ZqF {a0 a1 a2:AV}{l:List AV}:((a0::a1::a2::l).drop 0).take 3=[a0,a1,a2]:=rfl
theorem Zi8 {τ:Operand→AV}{y0 y1:Operand}{x0_0 x1_0 x1_1 x1_2 x1_3 x1_4 x1_5 x1_6 x1_7 x1_8 x1_9 x1_10:AV}(h0:Zav (τ y0)=some [x0_0]) (l0:[x0_0].all leaf=true) (h1:Zav (τ y1)=some [x1_0,x1_1,x1_2,x1_3,x1_4,x1_5,x1_6,x1_7,x1_8,x1_9,x1_10]) (l1:[x1_0,x1_1,x1_2,x1_3,x1_4,x1_5,x1_6,x1_7,x1_8,x1_9,x1_10].all leaf=true):Zas τ [(0,1,y0),(1,11,y1)] [(.v (.int .i64 0)),(.v (.string ⟨#[]⟩)),(.v (.int .i64 0)),(.v (.int .i64 0)),(.v (.int .i64 0)),(.v (.int .i64 0)),(.v (.int .i64 0)),(.v (.int .i64 0)),(.v (.int .i64 0)),(.v (.int .i64 0)),(.v (.int .i64 0)),(.v (.string ⟨#[]⟩))]=some [x0_0,x1_0,x1_1,x1_2,x1_3,x1_4,x1_5,x1_6,x1_7,x1_8,x1_9,x1_10]:=by
 simp only [Zas,h0,l0,h1,l1]
 rfl
end
def c158:AC:=(Sr [Oo 2 (.box 36 11 (.tmp 0)),Mb 3 false] (Sr [Fa 4 0 2,Ld 5 4,Ld 6 1,Bn 7 .eql 5 6,Mv 3 7] .ret))
theorem k158:ZaA Tryz.prog 158=some ⟨c158,[(.tmp 3)],8⟩:=by kernel_rfl
def c86:AC:=(Sr [Oo 4 (.box 9 1 (.tmp 1)),Mc 6 0] (.seq (Sr [Mv 10 0,Oo 11 (.len false (.tmp 10)),Bc 12 .gtr 11 40] (Cd 12 (Sr [Mc 6 2] .ret) .skip)) (.seq (Sr [Mv 13 0,Oo 14 (.len false (.tmp 13)),Mc 15 0] (.block 0 (.loop (Sr [Bn 16 .lss 15 14] (.seq (Cd 16 .skip (.exit 0)) (.seq (.block 1 (Sr [Oo 17 (.ia 11 (.tmp 13) (.tmp 15)),Oo 18 (.load true 11 (.tmp 17)),Oo 8 (.new 36 11 [Ss,(iv 0),(iv 0),(iv 0),(iv 0),(iv 0),(iv 0),(iv 0),(iv 0),(iv 0),Ss]),⟨none,none,(.store 11 (.tmp 8) (.tmp 18))⟩] (Sr [Oo 19 (.load true 11 (.tmp 8)),Cl 20 156 [(.tmp 19)],Mv 9 20] (Sr [Mv 21 9,Bc 22 .neq 21 0] (Cd 22 (Sr [Mv 23 9,Mv 6 23] .ret) .skip))))) (.reg [Bc 24 .add 15 1,Mv 15 24]))))))) (.seq (.block 2 (Sr [Mv 26 2,Oo 27 (.bin .lss (.tmp 26) (.const (.int .i64 (-64800)))),Mv 28 27,Of 29 28 (mt 2),Of 30 28 (.bin .gtr (.tmp 29) (Ci 64800)),Oo 31 (.pick (.tmp 28) (.const (.bool true)) (.tmp 30)),Mv 25 31] (Cd 25 (Sr [Mc 6 3] .ret) (Sr [Mv 33 0,Oo 34 (.mkfn 158 [(.tmp 4)]),Cl 35 157 [(.tmp 33),(.tmp 34)],Oo 36 (.un .not (.tmp 35)),Mv 32 36] (Cd 32 (Sr [Mc 6 5] .ret) .skip))))) (Sr [Mc 6 0] .ret)))))
theorem k86:ZaA Tryz.prog 86=some ⟨c86,[(.tmp 6)],37⟩:=by kernel_rfl
def c91:AC:=(Sr [Oo 3 (.box 36 11 (.tmp 0)),Mc 6 0] (.seq (Sr [Fa 7 8 3,Ld 8 7] (.block 0 (Sr [Bc 10 .eql 8 1,Mv 9 10] (Cd 9 (Sr [Mv 11 1,Mv 12 2,Bn 13 .add 11 12,Mv 6 13] .ret) (Sr [Bc 15 .eql 8 2,Mv 14 15] (Cd 14 (Sr [Mv 16 1,Mv 6 16] .ret) .skip)))))) (Sr [Mc 6 0] .ret)))
theorem k91:ZaA Tryz.prog 91=some ⟨c91,[(.tmp 6)],17⟩:=by kernel_rfl
def c87:AC:=(Sr [Oo 2 (.box 22 1 (.tmp 0)),Oo 3 (.box 9 1 (.tmp 1)),Oo 4 (.mv (.const .nilFunc))] (Sr [Oo 5 (.mkfn 159 [(.tmp 2),(.tmp 3)]),Mv 4 5] .ret))
theorem k87:ZaA Tryz.prog 87=some ⟨c87,[(.tmp 4)],6⟩:=by kernel_rfl
def c159:AC:=(Sr [Ld 9 1,Oo 10 (.len false (.tmp 9)),Mc 11 0] (.block 0 (.loop (Sr [Bn 12 .lss 11 10] (.seq (Cd 12 .skip (.exit 0)) (.seq (.block 1 (Sr [Oo 13 (.ia 11 (.tmp 9) (.tmp 11)),Oo 14 (.load true 11 (.tmp 13)),Oo 5 (.new 36 11 [Ss,(iv 0),(iv 0),(iv 0),(iv 0),(iv 0),(iv 0),(iv 0),(iv 0),(iv 0),Ss]),⟨none,none,(.store 11 (.tmp 5) (.tmp 14))⟩] (.seq (Sr [Fa 15 0 5,Ld 16 15,Ld 17 2,Bn 18 .neq 16 17] (Cd 18 (.exit 1) .skip)) (Sr [Fa 19 1 5,Ld 20 19,Mv 6 20] (.block 2 (.loop (.seq (Sr [Mv 21 6,Fa 22 2 5,Ld 23 22,Bn 24 .leq 21 23] (Cd 24 .skip (.exit 2))) (.seq (.block 3 (Sr [Mv 28 6,Fa 29 3 5,Ld 30 29,Fa 31 4 5,Oo 32 (.load true 3 (.tmp 31)),Cl 33 94 [(.tmp 28),(.tmp 30),(.tmp 32)],Mv 27 33,Ex 34 27 0,Ex 35 27 1,Oo 7 (.new 59 3 [(iv 0),(iv 0),(iv 0)]),⟨none,none,(.store 3 (.tmp 7) (.tmp 34))⟩,Mv 8 35] (.seq (.drw [Mv 36 0,Oo 37 (.load true 3 (.tmp 7)),Cl 38 98 [(.tmp 37)],Bc 39 .mul 38 86400,Fa 40 7 5,Ld 41 40,Bn 42 .add 39 41,Oo 43 (.load true 11 (.tmp 5)),Oo 44 (.build [(iv 0),Ss,(iv 0),(iv 0),(iv 0),(iv 0),(iv 0),(iv 0),(iv 0),(iv 0),(iv 0),Ss] [(0,(1,(.tmp 42))),(1,(11,(.tmp 43)))])] [false,false] [Oo 45 (.call (.tmp 36) [(.tmp 44)]),Oo 46 (.un .not (.tmp 45))]) (Cd 46 .ret .skip)))) (.reg [Mv 25 6,Bc 26 .add 25 1,Mv 6 26]))))))))) (.reg [Bc 47 .add 11 1,Mv 11 47])))))))
theorem k159:ZaA Tryz.prog 159=some ⟨c159,[],48⟩:=by kernel_rfl
def okRs (l:List Rul):Prop := ∀ r∈l,r.1.size≤maxLen∧r.2.2.2.2.2.2.2.2.size≤maxLen
theorem ready1_a {nm:ByteArray}{r:Rul}{h:AH}:Ac 158 [.agg (rulC r),.rp [sv nm]] h (bv (decide (r.1=nm))):=by
 obtain ⟨n,f,t,m,⟨k,w,d⟩,a,c,s,lt⟩:=r
 refine tI' k158 fun N hn hlt hlA hbd=>?_
 simp only [tb'] at hbd ⊢
 refine wr'<|E' (Zba (cvl lk rfl) rfl (hl0 hn) ha0) pt<|mv' lkb pt<|sn'<|wr'<|V' (Zab lk) pt<|V' (Zac lk (hga hn rfl) gt0) pt<|V' (ZaD lk gt) pt<|V' (ZcD lk lk) pt<|mv' lk pt<|Zar<|?_
 exact Zah<|Zaa<|Zaf rz<|rT' rfl
theorem ready_a {l:List Rul}{nm:ByteArray}{sh:Int}{h:AH}(hok:okRs l) (hl:l.length≤9223372036854775807):Ac 86 [.sl l.length 11 false (rows rulC l),sv nm,iv sh] h (iv (Zdz l nm sh)):=by
 have hll:=hl
 refine tI' k86 fun N hn hlt hlA hbd=>?_
 simp only [tb'] at hbd ⊢
 refine wr'<|E' (Zba (cvl lk rfl) rfl (hl0 hn) ha0) pt<|mv' lki pt<|Zar<|?_
 refine Za6 (ALe.icePtr (hga hn rfl) gt4 (by simp) pt4 (hs0 hn)) ?_
 refine Zal<|wr'<|mv' lk pt<|V' (ZaL lk) pt<|V' (Zbs lk lki) pt<|sn'<|?_
 refine cd' lk (fun hc1=>?_) (fun hc1=>?_)
 ·have hR:Zdz l nm sh=2:=if_pos (by omega)
  refine wr'<|mv' lki pt<|sn'<|Zaa<|Zag<|Zaf rz<|rT'<|?_
  rw [hR]
 have hR:Zdz l nm sh=if Za1 Zbu l≠0 then Za1 Zbu l else if sh < -64800∨sh>64800 then 3 else if l.any (fun r=>decide (r.1=nm))=false then 5 else 0:=if_neg (by omega)
 refine Zae<|Zah<|Zal<|wr'<|mv' lk pt<|V' (ZaL lk) pt<|mv' lki pt<|sn'<|Zap<|?_
 refine w_lp (ι:=Nat) (fun (k:Nat)=>[(15,iv (k:Int)),(6,.any),(8,.any),(9,.any)]++rn' 16 9) (fun (k:Nat)=>[]) (fun (k:Nat)=>k≤l.length∧Za1 Zbu l=Za1 Zbu (l.drop k)) (fun (k:Nat)=>l.length-k) (0) (by exact ⟨Nat.zero_le _,rfl⟩) ?_
 rintro k hi1
 try simp only [sm',Nat.reduceAdd]
 obtain ⟨hk1,hk2⟩:=hi1
 refine wr'<|V' (Za9 lk lk) pt<|sn'<|Zal<|?_
 refine cd' lk (fun hc2=>?_) (fun hc2=>?_)
 ·have hk:k<l.length:=by omega
  have ho:=hok _ (List.getElem_mem hk)
  rw [ZdD hk] at hk2
  refine Zae<|Zah<|Zal<|Zap<|wr'<|?_
  refine V' (ZaU lk lk Zfa (nb' rfl) ro (by omega) ro rfl) pt ?_
  refine V' (ZaI lk Zkf rfl) pt<|E' (ZaV (hl1 hn) ha1) pt<|E' (Zak lk (cvl lk rfl) (hga hn rfl) rfl (nb' rfl) rfl ZiW (hs1 hn)) ptn<|sn'<|wr'<|V' (Zan lk (hga hn rfl) ZiV rfl) pt<|Zad mp (rule_b ho.1 ho.2) pt<|mv' lk pt<|sn'<|wr'<|?_
  refine mv' lk pt<|V' (ZaZ lk lki) pt<|sn'<|?_
  refine cd' lk (fun hc3=>?_) (fun hc3=>?_)
  ·have hc3':Zbu l[k]≠0:=hc3
   rw [if_pos hc3'] at hk2
   rw [if_pos (by rw [hk2];exact hc3'),hk2] at hR
   refine wr'<|mv' lk pt<|mv' lk pt<|sn'<|Zaa<|Zaq<|Zag<|Zag<|Zaq<|Zag<|Zaf rz<|rT'<|?_
   rw [hR]
  have hc3':¬Zbu l[k]≠0:=hc3
  rw [if_neg hc3'] at hk2
  refine Zae<|Zaz<|Zah<|Zat<|?_
  refine V' (Zay lk lki (by omega) (by omega)) pt ?_
  refine mv' lk pt<|Zar<|ZaB<|?_
  refine lU' (k+1) (by (try dsimp only);exact ⟨by omega,hk2⟩) (by (try dsimp only);(try simp only [sm',Nat.reduceAdd]);exact bk' 1 hn hlt)
 rw [List.drop_of_length_le (by omega)] at hk2
 rw [if_neg (by rw [hk2];simp [Za1])] at hR
 refine ZaM<|ZaC<|ZaC<|Za7<|Zah<|Zal<|Zap<|wr'<|mv' lk pt<|V' (Za9 lk lki) pt<|mv' lk pt<|?_
 refine sp' (t:=28) gt pt pt (fun hg28=>?_) (fun hg28=>?_)
 ·rw [if_pos (.inl (by omega))] at hR
  refine s_no gt pt<|s_no gt pt<|V' (Zaj lk lkb) pt<|mv' lk pt<|sn'<|ZaF lk<|wr'<|mv' lki pt<|sn'<|Zaa<|Zaq<|?_
  refine Zag<|Zaf rz<|rT'<|?_
  rw [hR]
 refine s_do gt<|mv' lk pt<|s_do gt<|V' (Zbs lk lki) pt<|V' (Zai lk lk) pt<|mv' lk pt<|sn'<|?_
 refine cd' lk (fun hc4=>?_) (fun hc4=>?_)
 ·rw [if_pos (.inr (by omega))] at hR
  refine wr'<|mv' lki pt<|sn'<|Zaa<|Zaq<|Zag<|Zaf rz<|rT'<|?_
  rw [hR]
 rw [if_neg (by omega)] at hR
 refine wr'<|mv' lk pt<|V' (ZfW mp) pt<|?_
 refine Zad mp (Zmb (p:=fun r=>decide (r.1=nm)) (fun c _ _=>ready1_a) hll) pt ?_
 refine V' (Zax lk) pt<|mv' lk pt<|sn'<|?_
 refine Zau lk (fun hc5=>?_) (fun hc5=>?_)
 ·rw [if_pos (by simpa using hc5)] at hR
  refine wr'<|mv' lki pt<|sn'<|Zaa<|Zaq<|Zag<|Zaf rz<|rT'<|?_
  rw [hR]
 rw [if_neg (by simpa using hc5)] at hR
 refine Zae<|Zaz<|Zah<|wr'<|mv' lki pt<|sn'<|Zaa<|Zaf rz<|rT'<|?_
 rw [hR]
theorem off_a {r:Rul}{sh sa:Int}{h:AH}(h1 : -64800≤sh∧sh≤64800) (h2:0≤sa∧sa≤10800):Ac 91 [.agg (rulC r),iv sh,iv sa] h (iv (offV r sh sa)):=by
 obtain ⟨n,f,t,m,⟨k,w,d⟩,a,c,s,lt⟩:=r
 refine tI' k91 fun N hn hlt hlA hbd=>?_
 simp only [tb'] at hbd ⊢
 refine wr'<|E' (Zba (cvl lk rfl) rfl (hl0 hn) ha0) pt<|mv' lki pt<|sn'<|Zal<|wr'<|V' (Zab lk) pt<|V' (Zac lk (hga hn rfl) gt8) pt<|sn'<|Zap<|?_
 refine wr'<|V' (ZaQ lk lki) pt<|mv' lk pt<|sn'<|?_
 refine cd' lk (fun hc1=>?_) (fun hc1=>?_)
 ·refine wr'<|mv' lk pt<|mv' lk pt<|?_
  refine V' (Zay lk lk (by omega) (by omega)) pt ?_
  refine mv' lk pt<|sn'<|Zaa<|Zaq<|Zag<|Zaf rz<|rT'<|?_
  refine ivx ?_;unfold offV;rw [if_pos (by assumption)]
 refine wr'<|V' (ZaQ lk lki) pt<|mv' lk pt<|sn'<|?_
 refine cd' lk (fun hc2=>?_) (fun hc2=>?_)
 ·refine wr'<|mv' lk pt<|mv' lk pt<|sn'<|Zaa<|Zaq<|Zag<|Zaf rz<|rT'<|?_
  refine ivx ?_;unfold offV;rw [if_neg (by assumption),if_pos (by assumption)]
 refine Zae<|Zaz<|Zah<|wr'<|mv' lki pt<|sn'<|Zaa<|Zaf rz<|rT'<|?_
 refine ivx ?_;unfold offV;rw [if_neg (by assumption),if_neg (by assumption)]
theorem turns_a {l:List Rul}{nm:ByteArray}{h:AH}:Ac 87 [.sl l.length 11 false (rows rulC l),sv nm] h (.clo (.func 159) [.rp [.sl l.length 11 false (rows rulC l)],.rp [sv nm]]):=by
 refine tI' k87 fun N hn hlt hlA hbd=>?_
 simp only [tb'] at hbd ⊢
 refine wr'<|E' (Zba (cvl lk rfl) rfl (hl0 hn) ha0) pt<|E' (Zba (cvl lk rfl) rfl (hl1 hn) ha1) pt<|mv' rfl pt<|Zar<|?_
 refine Za6 (ALe.trans (ALe.icePtr (hga hn rfl) gt2 (by simp) pt2 (hs0 hn)) (ALe.icePtr (hga hn rfl) gt3 (by simp) pt3 (hs1 hn))) ?_
 exact wr'<|V' (ZfW mp) pt<|mv' lk pt<|sn'<|Zaa<|Zaf rz<|rT' rfl
theorem on_r {r:Rul}{y:Int}{h:AH}(hr:Zbu r=0) (hy:1900≤y∧y≤2100):Ac 94 [iv y,iv r.2.2.2.1,.agg [iv r.2.2.2.2.1.1,iv r.2.2.2.2.1.2.1,iv r.2.2.2.2.1.2.2]] h (.tup [.agg [iv (ZbV (rDy r y)).1,iv (ZbV (rDy r y)).2.1,iv (ZbV (rDy r y)).2.2],iv 0]):=by
 have:=on_a (y:=y) (m:=r.2.2.2.1) (k:=r.2.2.2.2.1.1) (wk:=r.2.2.2.2.1.2.1) (n:=r.2.2.2.2.1.2.2) (h:=h)
 rw [(Zna hr hy).1] at this
 exact this
theorem num_r {k:Int}{h:AH}(hk : -30000≤k∧k≤50000):Ac 98 [.agg [iv (ZbV k).1,iv (ZbV k).2.1,iv (ZbV k).2.2]] h (iv k):=by
 obtain ⟨h1,h2⟩:=Zis (days:=k) (by omega) (by omega)
 have hd:=Zcn.1 h1
 have hm:=ZdW (ZbV k).1 (ZbV k).2.1
 have:=ZhF (y:=(ZbV k).1) (m:=(ZbV k).2.1) (d:=(ZbV k).2.2) (h:=h) (by omega) (by omega) (by omega) (by omega) (by omega) (by omega)
 rwa [h2] at this
theorem ZmR {r:Rul}{j:Nat}(hj:(j:Int)<r.2.2.1+1-r.2.1):(Zc4 r).take (j+1)=(Zc4 r).take j++[(ZhQ r (r.2.1+(j:Int)),r)]:=by
 have hl:j<(Zc4 r).length:=by unfold Zc4;rw [List.length_map,Zlj];show j<(r.2.2.1+1-r.2.1).toNat;omega
 rw [List.take_succ_eq_append_getElem hl]
 congr 2
 simp [Zc4,Zjf]
theorem ZmQ {l:List Rul}{nm:ByteArray}{k:Nat}(hk:k<l.length) (hn:l[k].1=nm) : ∃ m,Zbg l nm=Zbg (l.take k) nm++(Zc4 l[k]++m):=by
 refine ⟨Zbg (l.drop (k+1)) nm,?_⟩
 have e:l=l.take k++l[k]::l.drop (k+1):=by rw [←List.drop_eq_getElem_cons hk,List.take_append_drop]
 have:Zbg l nm=Zbg (l.take k++l[k]::l.drop (k+1)) nm:=by rw [←e]
 rw [this]
 unfold Zbg
 rw [List.flatMap_append,List.flatMap_cons,if_pos hn]
theorem turns1_a {l:List Rul}{nm:ByteArray}{lp M0:Nat}{H:List Trn→AH}(hok : ∀ r∈l,Zbu r=0) (hz:l.length≤40) (hH : ∀ d,(H d).length=M0) (hHlt : ∀ d,∀ e∈H d,e.lt M0=true)
  (hY : ∀ (d:List Trn) (t:Trn) (e f:Ent),d.length<(Zbg l nm).length→AYield Tryz.prog lp [.agg (trnC t)] (H d++[e,f]) fun r h''=>r=.ret (.v (.bool true))∧h''=H (d++[t])++[e,f]) :
  ACalls Tryz.prog 159 [.v (.func (.yield lp) #[] #[]),.rp [.sl l.length 11 false (rows rulC l)],.rp [sv nm]] (H []) fun x h'=>x=.ret (.tup [])∧h'=H (Zbg l nm):=by
 refine tJ' k159 fun N hn hlt hlA hbd=>?_
 simp only [tb'] at hbd ⊢
 have hMN:M0=N:=(hH []).symm.trans hn
 simp only [hMN] at hH hHlt
 refine wr'<|V' (ZaD lk gt) pt<|V' (ZaL lk) pt<|mv' lki pt<|sn'<|Zap<|?_
 refine ZqT (ι:=Nat) (fun (k:Nat)=>[(11,iv (k:Int))]++rn' 5 4++rn' 12 36) (fun (k:Nat)=>H (Zbg (l.take k) nm)++[]) (fun (k:Nat)=>k≤l.length) (fun (k:Nat)=>l.length-k) (0) (by exact Nat.zero_le _) (by try simp only [sm',Nat.reduceAdd];exact ALe.same wA' rfl) ?_
 rintro k hi1
 try simp only [sm',Nat.reduceAdd]
 replace hi1:k≤l.length:=hi1
 refine wr'<|V' (Za9 lk lk) pt<|sn'<|Zal<|?_
 refine cd' lk (fun hc1=>?_) (fun hc1=>?_)
 ·have hk:k<l.length:=by omega
  have hr:=hok _ (List.getElem_mem hk)
  obtain ⟨hr1,hr2,hr3⟩:1900≤l[k].2.1∧l[k].2.1≤l[k].2.2.1∧l[k].2.2.1≤2100:=⟨(Zcl hr).1,(Zcl hr).2.1,(Zcl hr).2.2.1⟩
  obtain ⟨hr4,hr5⟩:(Zc4 l[k]).length≤201∧((Zc4 l[k]).length:Int)=l[k].2.2.1-l[k].2.1+1:=ZgH hr
  refine Zae<|Zah<|Zal<|Zap<|wr'<|?_
  refine V' (ZaU lk lk Zfa (nb' rfl) ro (by omega) ro rfl) pt ?_
  refine V' (ZaI lk Zkf rfl) pt<|E' (ZaV (hl0 (hH _)) ha0) pt<|E' (Zak lk (cvl lk rfl) (hga (hH _) rfl) rfl (nb' rfl) rfl ZiW (hs0 (hH _))) ptn<|sn'<|Zal<|wr'<|V' (Zab lk) pt<|V' (Zac lk (hga (hH _) rfl) gt0) pt<|V' (ZaD lk gt) pt<|V' (ZcC lk lk) pt<|sn'<|?_
  refine cd' lk (fun hc2=>?_) (fun hc2=>?_)
  ·refine ZaM<|ZaC<|Za7<|Zah<|Zat<|?_
   refine V' (Zay lk lki (by omega) (by omega)) pt ?_
   refine mv' lk pt<|Zar<|ZaB<|?_
   refine lU' (k+1) (by (try dsimp only);omega) (by (try dsimp only);(try simp only [sm',Nat.reduceAdd]);exact ALe.trans (ALe.back wA' rfl (E1:=[]) (k:=N+0) (by simp only [List.length_cons,List.length_nil,(hH _)]) (by omega) (by exact lt') (ltw (by omega) (hHlt _)) (by rfl)) (ALe.same (WkL.refl _) (by rw [Zjg hk,if_neg hc2,List.append_nil (Zbg _ _)])))
  have hnm:l[k].1=nm:=Decidable.of_not_not hc2
  obtain ⟨mm,hmm⟩:=ZmQ hk hnm
  refine Zae<|Zah<|wr'<|V' (Zab lk) pt<|V' (Zac lk (hga (hH _) rfl) gt1) pt<|mv' lk pt<|sn'<|Zap<|?_
  refine ZqT (ι:=Nat) (fun (j:Nat)=>[(6,iv (l[k].2.1+(j:Int))),(7,.any),(8,.any)]++rn' 21 26) (fun (j:Nat)=>H (Zbg (l.take k) nm++(Zc4 l[k]).take j)++[Ent.mk 0 36 11 (rulC l[k])]) (fun (j:Nat)=>(j:Int)≤l[k].2.2.1-l[k].2.1+1) (fun (j:Nat)=>(Zc4 l[k]).length-j) (0) (by show (0:Int)≤_;omega) (by try simp only [sm',Nat.reduceAdd];exact ALe.same wA' (by rw [List.take_zero,List.append_nil])) ?_
  rintro j hi2
  try simp only [sm',Nat.reduceAdd]
  replace hi2:(j:Int)≤l[k].2.2.1-l[k].2.1+1:=hi2
  refine Zal<|wr'<|mv' lk pt<|V' (Zab lk) pt<|V' (Zac lk (hga (hH _) rfl) gt2) pt<|V' (Zc1 lk lk) pt<|sn'<|?_
  refine cd' lk (fun hc3=>?_) (fun hc3=>?_)
  ·have hy:1900≤l[k].2.1+(j:Int)∧l[k].2.1+(j:Int)≤2100:=by omega
   obtain ⟨hd1,hd2⟩:=Zna hr hy
   have ha6:0≤l[k].2.2.2.2.2.1∧l[k].2.2.2.2.2.1≤172800:=(Zcl hr).2.2.2.2.2.1
   have hd3 : -30000≤rDy l[k] (l[k].2.1+(j:Int))∧rDy l[k] (l[k].2.1+(j:Int))≤50000:=hd2
   refine Zae<|Zah<|Zal<|Zap<|wr'<|mv' lk pt<|V' (Zab lk) pt<|V' (Zac lk (hga (hH _) rfl) gt3) pt<|V' (Zab lk) pt<|V' (Zan lk (hga (hH _) rfl) ZqE rfl) pt<|Zad mp (on_r hr hy) pt<|mv' lk pt<|V' (Zbb lk gt) pt<|?_
   refine V' (Zbb lk gt) pt<|E' (ZaV (hl1 (hH _)) ha1) pt<|E' (Zak lk (cvl lk rfl) (hga (hH _) rfl) rfl (nb' rfl) rfl ZqG (hs1 (hH _))) ptn<|mv' lk pt<|sn'<|Zal<|Zoe []<|D' (v_mv lk) pt<|D' (Zan lk (hga (hH _) rfl) ZqF rfl) pt<|?_
   refine ZaY mp (fun hE hX=>num_r hd2) pt ?_
   refine D' (ZeJ lk lki (by omega) (by omega)) pt ?_
   refine D' (Zab lk) pt<|D' (Zac lk (hga (hH _) rfl) gt7) pt<|?_
   refine D' (Zay lk lk (by omega) (by omega)) pt ?_
   refine D' (Zan lk (hga (hH _) rfl) ZiV rfl) pt<|D' (Zaw (Zi8 (cvl lk rfl) rfl (cvl lk rfl) rfl)) pt<|ZbI<|Znl<|?_
   refine k_callY lk mp (hY _ (ZhQ l[k] (l[k].2.1+(j:Int)),l[k]) _ _ (by rw [hmm,List.length_append,List.length_append,List.length_append,List.length_take];omega)) (by intro i hi;simp at hi) pt ?_
   refine ZpG rfl (Zax lk) pt<|Zr8<|Zah<|ZaN lk<|Zae<|Zaz<|Zah<|Zat<|mv' lk pt<|?_
   refine V' (Zay lk lki (by omega) (by omega)) pt ?_
   refine mv' lk pt<|Zar<|ZaB<|?_
   refine lU' (j+1) (by (try dsimp only);omega) (by (try dsimp only);(try simp only [sm',Nat.reduceAdd]);exact ALe.trans (ALe.back wA' rfl (E1:=[Ent.mk 0 36 11 (rulC l[k])]) (k:=N+1) (by simp only [List.length_cons,List.length_nil,(hH _)]) (by omega) (by exact lt') (ltw (by omega) (hHlt _)) (by exact lt')) (ALe.same (WkL.refl _) (by rw [ZmR (by omega),List.append_assoc])))
  refine ZaM<|ZaC<|ZaC<|Za7<|Zaz<|Zah<|Zat<|?_
  refine V' (Zay lk lki (by omega) (by omega)) pt ?_
  refine mv' lk pt<|Zar<|ZaB<|?_
  refine lU' (k+1) (by (try dsimp only);omega) (by (try dsimp only);(try simp only [sm',Nat.reduceAdd]);exact ALe.trans (ALe.back wA' rfl (E1:=[]) (k:=N+0) (by simp only [List.length_cons,List.length_nil,(hH _)]) (by omega) (by exact lt') (ltw (by omega) (hHlt _)) (by rfl)) (ALe.same (WkL.refl _) (by rw [Zjg hk,if_pos hnm,List.take_of_length_le (l:=Zc4 l[k]) (by omega)])))
 refine ZaM<|ZaC<|ZaC<|Za7<|w_end (rs0)<|?_
 exact ⟨_,_,rfl,hH _,hHlt _,rfl,rfl,by rw [List.take_of_length_le (by omega)]⟩
end Go.Proofs.YtlekejpogddndaaGreatDoor
end
section
namespace Go.Ab
open Go.RowKit Go.Sort
section
variable {P : Program}
theorem Zm4 (w:World) (g:Gh) : ∀ {vs us:List Value},RepL w g (vs.map .v) us↔us=vs
 | [],us=>by simp only [List.map_nil,RepL]
 | v::vs,us=>by
  simp only [List.map_cons,RepL,Rep,Zm4 w g (vs:=vs)]
  constructor
  ·rintro ⟨u,us',rfl,rfl,rfl⟩;rfl
  ·rintro rfl;exact ⟨_,_,rfl,rfl,rfl⟩
theorem ACalls.of_turn {f:FuncId}{args:List AV}{h:AH}{id ver ty st:Nat}{cells:List AV}{R':List AV→Prop}(he:enters P f=true) (hi:h[id]?=some (.mk ver ty st cells)) (hne:cells≠[])
  (hc : ∀ w g (vs:Array Value) b cap arr,SimH w g h→RepL w g args vs.toList→g.loc id ver=some (some ⟨b,0,none⟩,cap)→w.heap[b]?=some (.cells arr ty (0,0))→arr.size=cap*st→cells.length≤arr.size→RepL w g cells (arr.toList.take cells.length) →
   Calls P f vs w fun e w'=>e=.returned (.tuple #[]) ∧ ∃ (vs':List Value) (arr':Array Value),R' (vs'.map .v)∧w'.heap[b]?=some (.cells arr' ty (0,0))∧arr'.size=arr.size∧vs'.length=cells.length∧arr'.toList.take cells.length=vs' ∧
    w'.os=w.os∧w'.tape=w.tape∧w'.output=w.output∧w.heap.size≤w'.heap.size ∧ ∀ k,k<w.heap.size→k≠b→w'.heap[k]?=w.heap[k]?) :
  ACalls P f args h fun x h'=>x=.ret (.tup []) ∧ ∃ cells',R' cells'∧h'=h.set id (.mk ver ty st cells'):=by
 refine ⟨he,fun w g vs hs ha=>?_⟩
 obtain ⟨A,cap,f1,fm,f3⟩:=hs.ent _ _ _ _ _ hi
 rcases f3 with ⟨e,_⟩ | ⟨b,arr,rfl,hc0,hd,hb,hsz,hle,hrl⟩
 ·exact absurd e hne
 have hid:id<h.length:=(List.getElem?_eq_some_iff.1 hi).1
 have how:OwAt g h id b:=⟨ver,ty,st,cells,_,cap,hi,f1,hc0,rfl⟩
 refine (hc w g vs b cap arr hs ha f1 hb hsz hle hrl).mono ?_
 rintro e w' ⟨rfl,vs',arr',hR,h1,h2,h3,h4,h5,h6,h7,h8,h9⟩
 have hother : ∀ j,g.D j∨(∃ i,i≠id∧OwAt g h i j)∨(∃ i,RwAt h i j)→w'.heap[j]?=w.heap[j]?:=by
  rintro j (hj | ⟨i,hne',hj⟩ | ⟨i,hj⟩)
  rotate_left 2
  ·exact h9 j (hs.own_not_D (.inr ⟨i,hj⟩)).2 (fun e=>by subst e;exact hs.own_ne_raw how hj)
  ·exact h9 j (hs.lt j hj) (fun e=>hd (e ▸ hj))
  ·exact h9 j (hs.own_not_D (.inl ⟨i,hj⟩)).2 (fun e=>hne' (hs.inj i id j hj (e ▸ how)))
 obtain ⟨k1,k2,k3⟩:=hs.put (w':=w') (g':=g) (h':=h.set id (.mk ver ty st (vs'.map .v))) id ver ty st (vs'.map .v) (some ⟨b,0,none⟩) cap
  (fun i hne'=>by rw [List.getElem?_set_ne (Ne.symm hne')]) (by rw [List.getElem?_set_self hid]) (by simp) rfl (fun _ _ _ h=>h) (fun _ _ _ h=>.inl h) f1 (fun v l hv=>(hs.fresh _ _ _ hv).2 _ _ _ _ hi) hother h8 fm
  (.inr ⟨b,arr',rfl,hc0,hd,h1,by rw [h2,hsz],by rw [List.length_map,h3,h2];exact hle,by rw [List.length_map,h3,h4];exact (Zm4 w' g).2 rfl⟩)
  (fun j hj _ i hne' ho=>by
   simp at hj
   subst hj
   exact hne' (hs.inj i id _ ho how))
 refine ⟨.ret (.tup []),_,g,?_,k1,k2,⟨h5,h6,h7,h8,fun k hk hn=>h9 k hk (fun e=>hn (.inl ⟨id,e ▸ how⟩))⟩,fun k hk=>?_,rfl,_,hR,rfl⟩
 ·simp only [EndR,Rep];exact ⟨#[],rfl,by simp only [RepL]⟩
 ·rcases k3 k hk with ho | ⟨ho,_⟩
  ·exact .inl ho
  ·simp at ho;subst ho;exact .inl (.inl ⟨id,how⟩)
end
section
variable {P : Program} {α : Type}
theorem Zsk {enc:α→List Value}{k:Nat}(hk : ∀ x,(enc x).length=k) : ∀ (l:List α) (i j:Nat) (h:i<l.length),j<k→(l.flatMap enc)[i*k+j]?=(enc l[i])[j]?
 | [],i,j,h,_=>by simp at h
 | x::l,0,j,h,hj=>by
  rw [List.flatMap_cons,Nat.zero_mul,Nat.zero_add,List.getElem?_append_left (by rw [hk];exact hj)];rfl
 | x::l,i+1,j,h,hj=>by
  have ih:=Zsk hk l i j (by simpa using h) hj
  rw [List.flatMap_cons,List.getElem?_append_right (by rw [hk,Nat.succ_mul];omega),hk,show (i+1)*k+j-k=i*k+j by rw [Nat.succ_mul];omega,ih];rfl
theorem Zer {enc:α→List Value}{k:Nat}(hk : ∀ x,(enc x).length=k) : ∀ (l:List α),(l.flatMap enc).length=l.length*k
 | []=>by simp
 | x::l=>by rw [List.flatMap_cons,List.length_append,hk,Zer hk l,List.length_cons,Nat.succ_mul];omega
theorem ZjH [Inhabited α] {enc:α→List Value}{k:Nat}(hk0:0<k) (hk : ∀ x,(enc x).length=k) (d:Array α):(Go.Sort.flatK enc k d).toList=d.toList.flatMap enc:=by
 apply List.ext_getElem?
 intro t
 by_cases ht:t<d.size*k
 ·have h1:t/k<d.size:=Nat.div_lt_of_lt_mul (by rw [Nat.mul_comm];exact ht)
  have h2:t%k<k:=Nat.mod_lt _ hk0
  have h3:=Zsk hk d.toList (t/k) (t%k) (by simpa using h1) h2
  rw [Nat.mul_comm (t/k) k,Nat.div_add_mod] at h3
  rw [h3]
  have hs:t<(Go.Sort.flatK enc k d).size:=by simpa using ht
  have h4:=Go.Sort.get_flatK enc k d t ht
  rw [getElem!_pos _ t hs,getElem!_pos _ (t/k) h1,getElem!_pos _ (t%k) (by rw [hk];exact h2)] at h4
  rw [Array.getElem?_toList,Array.getElem?_eq_getElem hs,h4,Array.getElem_toList,List.getElem?_eq_getElem (by rw [hk];exact h2)]
  rfl
 ·rw [List.getElem?_eq_none (by simpa using ht),List.getElem?_eq_none (by rw [Zer hk];simpa using ht)]
theorem rows_v {enc:α→List Value}(l:List α):rows (fun x=>(enc x).map .v) l=(l.flatMap enc).map .v:=by
 unfold rows
 rw [List.map_flatMap]
theorem sort_a [Inhabited α] {ρ:Go.Shelf.Ren}(L:Go.Proofs.SlLaysF0.n6 P ρ) {k:Nat}(hk0:0<k) (aE : ∀ w,(isAgg (ρ.t 24)).run P w=.ok true w) (zE : ∀ w,(Go.sizeOf (ρ.t 24)).run P w=.ok k w) {enc:α→List Value}(hk : ∀ x,(enc x).length=k) (h1 : ∀ x,∀ v∈enc x,v.oneCell'=true) {cf:α→α→Int}(hO:SWO (Go.Proofs.ltOf cf)) {g0:Nat}
  (eg : ∀ args w,(callFunc g0 args).run P w=.ok (.enter g0 args) w) (hcmp : ∀ blk off size w,Go.Proofs.CmpLays P g0 #[] enc k cf blk off size w) {h:AH} {id ver ty:Nat} {l:List α} (hi:h[id]?=some (.mk ver ty k (rows (fun x=>(enc x).map .v) l))) (hl:l≠[]) (hz:l.length<4611686018427387904) (he:enters P (ρ.f 6)=true) :
  ACalls P (ρ.f 6) [.own id ver l.length,.v (.func (.func g0) #[] #[])] h fun x h'=>x=.ret (.tup []) ∧ ∃ l':List α,l'.Perm l∧(∀ i j (hi:i<l'.length) (hj:j<l'.length),i<j→Go.Proofs.ltOf cf l'[j] l'[i]=false)∧h'=h.set id (.mk ver ty k (rows (fun x=>(enc x).map .v) l')):=by
 have hlen:=Za2 (f:=fun x=>(enc x).map .v) (st:=k) (fun x=>by rw [List.length_map,hk]) l
 have hpos:0<l.length:=List.length_pos_iff.2 hl
 refine (ACalls.of_turn (R':=fun cs => ∃ l':List α,l'.Perm l∧(∀ i j (hi:i<l'.length) (hj:j<l'.length),i<j→Go.Proofs.ltOf cf l'[j] l'[i]=false)∧cs=rows (fun x=>(enc x).map .v) l') he hi ?_ ?_).mono ?_
 ·intro e
  have:=congrArg List.length e
  rw [hlen] at this
  have h0:0<l.length*k:=Nat.mul_pos hpos hk0
  simp at this;omega
 ·intro w g vs b cap arr hs ha hloc hb hsz hle hr
  simp only [RepL,Rep,hloc] at ha
  obtain ⟨u1,us1,e1,⟨A,c,e2,hn1,hn2,rfl⟩,u2,us2,rfl,rfl,rfl⟩:=ha
  simp only [Option.some.injEq,Prod.mk.injEq] at e2
  obtain ⟨rfl,rfl⟩:=e2
  obtain rfl:vs = #[.slice (some ⟨b,0,none⟩) l.length cap,.func (.func g0) #[] #[]]:=by cases vs;simp_all
  have hr':arr.toList.take (l.length*k)=l.flatMap enc:=by
   rw [hlen,rows_v] at hr
   exact (Zm4 w g).1 hr
  have hblk:b<w.heap.size:=(Array.getElem?_eq_some_iff.1 hb).1
  have hflat:=ZjH hk0 hk l.toArray
  have hgetF : ∀ (d:Array α) (t:Nat),t<d.size*k→(Go.Sort.flatK enc k d).toList[t]?=some (Go.Sort.flatK enc k d)[t]!:=by
   intro d t ht
   have hs:t<(Go.Sort.flatK enc k d).size:=by simpa using ht
   rw [getElem!_pos _ t hs,Array.getElem?_toList,Array.getElem?_eq_getElem hs]
  have hH:Go.Sort.HoldsK enc k w b 0 l.toArray:=by
   intro j hj
   have hj':j<l.length*k:=by simpa using hj
   rw [Nat.zero_add]
   refine ⟨?_,frozen_of_row w b j arr ty hb⟩
   rw [cell_of_row w b j arr ty (0,0) hb,←Array.getElem?_toList]
   have h5:arr.toList[j]?=(l.flatMap enc)[j]?:=by rw [←hr',List.getElem?_take_of_lt hj']
   rw [h5,show l.flatMap enc=(Go.Sort.flatK enc k l.toArray).toList from hflat.symm,hgetF _ _ (by simpa using hj')];rfl
  refine (Go.Proofs.AnyQ.slices_SortFunc L k aE zE enc hk h1 cf hO g0 #[] b 0 cap l.toArray w eg (hcmp b 0 l.toArray.size w) hH hblk (by simpa using hz)).mono ?_
  rintro e w' ⟨rfl,d',n,os,⟨p1,_,p3⟩,hso,rfl⟩
  have hds:d'.size=l.length:=by simpa using p1
  have hw' : ∀ j,j<w.heap.size→(Go.Proofs.sortWorldK enc k w b 0 n d' os).heap[j]?=(w.heap.modify b (onCells (putCells _root_.id 0 (Go.Sort.flatK enc k d'))))[j]?:=by
   intro j hj
   show ((w.heap.modify b (onCells (putCells _root_.id 0 (Go.Sort.flatK enc k d'))))++os)[j]?=_
   rw [Array.getElem?_append_left (by simpa using hj)]
  have hsz2:arr.size=(putCells _root_.id 0 (Go.Sort.flatK enc k d') arr).size:=by simp [putCells]
  refine ⟨rfl,d'.toList.flatMap enc,putCells _root_.id 0 (Go.Sort.flatK enc k d') arr,⟨d'.toList,?_,?_,(rows_v _).symm⟩,?_,hsz2.symm,?_,?_,rfl,rfl,rfl,?_,?_⟩
  ·have e1:d'.extract 0 l.toArray.size=d':=by rw [←p1];simp
   have e2:l.toArray.extract 0 l.toArray.size=l.toArray:=by simp
   rw [e1,e2] at p3
   simpa using p3
  ·intro i j hi hj hij
   have:=hso i j (Nat.zero_le _) hij (by simpa [hds] using hj)
   rw [getElem!_pos d' j (by simpa using hj),getElem!_pos d' i (by simpa using hi)] at this
   simpa using this
  ·rw [hw' b hblk,Array.getElem?_modify,if_pos rfl,hb];rfl
  ·rw [Zer hk,hlen,Array.length_toList,hds]
  ·rw [hlen]
   apply List.ext_getElem?
   intro t
   by_cases ht:t<l.length*k
   ·have ht2:t<d'.size*k:=by rw [hds];exact ht
    have hta:t<arr.size:=by rw [hlen] at hle;omega
    rw [List.getElem?_take_of_lt ht,←ZjH hk0 hk d',hgetF d' t ht2]
    unfold putCells
    rw [Array.getElem?_toList,Array.getElem?_mapIdx,Array.getElem?_eq_getElem hta,Option.map_some,if_pos ⟨Nat.zero_le _,by simpa using ht2⟩]
    rfl
   ·rw [List.getElem?_eq_none (by simp;omega),List.getElem?_eq_none (by rw [Zer hk,Array.length_toList,hds];omega)]
  ·show w.heap.size≤((w.heap.modify b (onCells (putCells _root_.id 0 (Go.Sort.flatK enc k d'))))++os).size
   simp
  ·intro j hj hjb
   rw [hw' j hj,Array.getElem?_modify,if_neg (Ne.symm hjb)]
 ·rintro x h' ⟨rfl,cs,⟨l',hp,hs,rfl⟩,rfl⟩
  exact ⟨rfl,l',hp,hs,rfl⟩
end
end Go.Ab
end
section
namespace Go.Proofs
open Go.Shelf
def Tryz.sl9_ren:Go.Shelf.Ren:=⟨fun | 6=>88 | 15=>161 | 14=>160 | 28=>243 | 29=>244 | 20=>235 | 21=>236 | 22=>237 | 23=>238 | 24=>239 | 25=>240 | 26=>241 | 27=>242 | 46=>283 | 47=>284 | 48=>285 | 49=>286 | 50=>287 | 57=>322 | n=>n,fun | 22=>140 | 24=>144 | 25=>147 | 3=>3 | 39=>211 | 0=>0 | 53=>279 | 55=>281 | 4=>4 | 46=>273 | 45=>272 | 50=>170 | 5=>5 | 9=>9 | 66=>311 | 70=>315 | 76=>337 | 77=>307 | n=>n,fun | n=>n⟩
theorem Tryz.sl9:Go.Proofs.SlLaysF0.n6 Tryz.prog Tryz.sl9_ren:={
 mixed:=by kernel_rfl
 f6:=⟨Tryz.f88.name,by decide,Tryz.func88.trans (congrArg some (by kernel_rfl))⟩
 f14:=⟨Tryz.f160.name,by decide,Tryz.func160.trans (congrArg some (by kernel_rfl))⟩
 f15:=Tryz.func161.trans (congrArg some (by kernel_rfl))
 f20:=⟨Tryz.f235.name,by decide,Tryz.func235.trans (congrArg some (by kernel_rfl))⟩
 f21:=⟨Tryz.f236.name,by decide,Tryz.func236.trans (congrArg some (by kernel_rfl))⟩
 f22:=⟨Tryz.f237.name,by decide,Tryz.func237.trans (congrArg some (by kernel_rfl))⟩
 f23:=⟨Tryz.f238.name,by decide,Tryz.func238.trans (congrArg some (by kernel_rfl))⟩
 f24:=⟨Tryz.f239.name,by decide,Tryz.func239.trans (congrArg some (by kernel_rfl))⟩
 f25:=⟨Tryz.f240.name,by decide,Tryz.func240.trans (congrArg some (by kernel_rfl))⟩
 f26:=⟨Tryz.f241.name,by decide,Tryz.func241.trans (congrArg some (by kernel_rfl))⟩
 f27:=⟨Tryz.f242.name,by decide,Tryz.func242.trans (congrArg some (by kernel_rfl))⟩
 f28:=Tryz.func243.trans (congrArg some (by kernel_rfl))
 f29:=Tryz.func244.trans (congrArg some (by kernel_rfl))
 f46:=⟨Tryz.f283.name,by decide,Tryz.func283.trans (congrArg some (by kernel_rfl))⟩
 f47:=Tryz.func284.trans (congrArg some (by kernel_rfl))
 f48:=Tryz.func285.trans (congrArg some (by kernel_rfl))
 f49:=⟨Tryz.f286.name,by decide,Tryz.func286.trans (congrArg some (by kernel_rfl))⟩
 f50:=⟨Tryz.f287.name,by decide,Tryz.func287.trans (congrArg some (by kernel_rfl))⟩
 f57:=⟨Tryz.f322.name,by decide,Tryz.func322.trans (congrArg some (by kernel_rfl))⟩
 t0:=Tryz.underlying0
 a0:=Tryz.isAgg0
 z0:=Tryz.sizeOf0
 v0:=Tryz.zeroValue0
 t3:=Tryz.underlying3
 a3:=Tryz.isAgg3
 z3:=Tryz.sizeOf3
 v3:=Tryz.zeroValue3
 t4:=Tryz.underlying4
 a4:=Tryz.isAgg4
 z4:=Tryz.sizeOf4
 v4:=Tryz.zeroValue4
 t5:=Tryz.underlying5
 a5:=Tryz.isAgg5
 z5:=Tryz.sizeOf5
 v5:=Tryz.zeroValue5
 t9:=Tryz.underlying9
 a9:=Tryz.isAgg9
 z9:=Tryz.sizeOf9
 v9:=Tryz.zeroValue9
 t22:=Tryz.underlying140
 a22:=Tryz.isAgg140
 z22:=Tryz.sizeOf140
 v22:=Tryz.zeroValue140
 t25:=Tryz.underlying147
 a25:=Tryz.isAgg147
 z25:=Tryz.sizeOf147
 v25:=Tryz.zeroValue147
 t39:=Tryz.underlying211
 a39:=Tryz.isAgg211
 z39:=Tryz.sizeOf211
 v39:=Tryz.zeroValue211
 t45:=Tryz.underlying272
 a45:=Tryz.isAgg272
 z45:=Tryz.sizeOf272
 v45:=Tryz.zeroValue272
 t46:=Tryz.underlying273
 a46:=Tryz.isAgg273
 z46:=Tryz.sizeOf273
 v46:=Tryz.zeroValue273
 t50:=Tryz.underlying170
 a50:=Tryz.isAgg170
 z50:=Tryz.sizeOf170
 v50:=Tryz.zeroValue170
 t53:=Tryz.underlying279
 a53:=Tryz.isAgg279
 z53:=Tryz.sizeOf279
 v53:=Tryz.zeroValue279
 t55:=Tryz.underlying281
 a55:=Tryz.isAgg281
 z55:=Tryz.sizeOf281
 v55:=Tryz.zeroValue281
 t66:=Tryz.underlying311
 a66:=Tryz.isAgg311
 z66:=Tryz.sizeOf311
 v66:=Tryz.zeroValue311
 t70:=Tryz.underlying315
 a70:=Tryz.isAgg315
 z70:=Tryz.sizeOf315
 v70:=Tryz.zeroValue315
 t76:=Tryz.underlying337
 a76:=Tryz.isAgg337
 z76:=Tryz.sizeOf337
 v76:=Tryz.zeroValue337
 t77:=Tryz.underlying307
 a77:=Tryz.isAgg307
 z77:=Tryz.sizeOf307
 v77:=Tryz.zeroValue307 }
end Go.Proofs
end
section
namespace Go.Proofs
open Go.Shelf
def Tryz.lays122_ren:Go.Shelf.Ren:=⟨fun | 122=>90 | 215=>162 | n=>n,fun | 3=>3 | 4=>4 | n=>n,fun | n=>n⟩
theorem Tryz.lays122:Go.Proofs.Lays.n122 Tryz.prog Tryz.lays122_ren:={
 mixed:=by kernel_rfl
 f122:=Tryz.func90.trans (congrArg some (by kernel_rfl))
 f215:=Tryz.func162.trans (congrArg some (by kernel_rfl))
 t3:=Tryz.underlying3
 a3:=Tryz.isAgg3
 z3:=Tryz.sizeOf3
 v3:=Tryz.zeroValue3
 t4:=Tryz.underlying4
 a4:=Tryz.isAgg4
 z4:=Tryz.sizeOf4
 v4:=Tryz.zeroValue4 }
open Go.RowKit in
theorem Tryz.cmp_Compare_int (x y:Int) (w:World) :
  Calls Tryz.prog 90 #[.int .i64 x,.int .i64 y] w fun e w'=>e=.returned (.int .i64 (Lib.compareInt x y))∧w'=w:=Any.cmp_Compare_int Tryz.lays122 x y w
end Go.Proofs
end
section
namespace Go.Proofs.YtlekejpogddndaaGreatDoor
open Go.Ab Go.RowKit Civ Go.Sort
def trnV (t:Trn):List Value:=[.int .i64 t.1,.string t.2.1,.int .i64 t.2.2.1,.int .i64 t.2.2.2.1,.int .i64 t.2.2.2.2.1,.int .i64 t.2.2.2.2.2.1.1,.int .i64 t.2.2.2.2.2.1.2.1,.int .i64 t.2.2.2.2.2.1.2.2,.int .i64 t.2.2.2.2.2.2.1,.int .i64 t.2.2.2.2.2.2.2.1,.int .i64 t.2.2.2.2.2.2.2.2.1,.string t.2.2.2.2.2.2.2.2.2]
def cmpT (a b:Trn):Int:=Lib.compareInt a.1 b.1
theorem ZsF (a b:Trn):Go.Proofs.ltOf cmpT a b=decide (a.1<b.1):=by
 unfold Go.Proofs.ltOf cmpT Lib.compareInt
 rw [Bool.eq_iff_iff]
 simp only [decide_eq_true_eq]
 repeat' split
 all_goals omega
theorem cmpT_swo:SWO (Go.Proofs.ltOf cmpT):=by
 refine ⟨fun x=>?_,fun x y z=>?_,fun x y z=>?_⟩ <;> simp only [ZsF,decide_eq_true_eq,decide_eq_false_iff_not] <;> omega
theorem cmp_walk (x y:Trn) (w:World):Calls Tryz.prog 89 #[.agg (trnV x).toArray,.agg (trnV y).toArray] w fun e w'=>e=.returned (.int .i64 (cmpT x y)) ∧ ∃ q os,w'=grow (w.drewN q) os:=by
 obtain ⟨a,n,f,t,m,⟨k,v,d⟩,c,e,s,l⟩:=x
 obtain ⟨a2,n2,f2,t2,m2,⟨k2,v2,d2⟩,c2,e2,s2,l2⟩:=y
 simp only [trnV]
 go_enter Tryz.func89,Tryz.ntmps89
 go_wp2_with (go_at_call 90;refine (Tryz.cmp_Compare_int _ _ _).mono ?_;rintro e w' ⟨rfl,rfl⟩)
 go_ret
 refine ⟨rfl,?_⟩
 rw [alloc_eq_grow,alloc_eq_grow,grow_grow]
 exact ⟨0,_,rfl⟩
def ordT (l l':List Trn):Prop:=l'.Perm l∧l'.Pairwise fun a b=>a.1≤b.1
theorem sortT_a {h:AH}{id ver ty:Nat}{l:List Trn}(hi:h[id]?=some (.mk ver ty 12 (rows trnC l))) (hl:l≠[]) (hz:l.length<4611686018427387904) :
  ACalls Tryz.prog 88 [.own id ver l.length,.v (.func (.func 89) #[] #[])] h fun x h'=>x=.ret (.tup []) ∧ ∃ l',ordT l l'∧h'=h.set id (.mk ver ty 12 (rows trnC l')):=by
 refine (sort_a (P:=Tryz.prog) Tryz.sl9 (k:=12) (by omega) (fun w=>by kernel_rfl) (fun w=>by kernel_rfl) (enc:=trnV) (fun _=>rfl) (fun t v hv=>?_) cmpT_swo (g0:=89) (fun args w=>?_) (fun blk off size w m os dk hd x y=>cmp_walk x y _) hi hl hz (by kernel_rfl)).mono ?_
 ·unfold trnV at hv
  simp only [List.mem_cons,List.not_mem_nil,or_false] at hv
  rcases hv with rfl | rfl | rfl | rfl | rfl | rfl | rfl | rfl | rfl | rfl | rfl | rfl <;> rfl
 ·exact Zir (by kernel_rfl) args w
 ·rintro x h' ⟨rfl,l',hp,hs,rfl⟩
  refine ⟨rfl,l',⟨hp,List.pairwise_iff_getElem.2 fun i j hi hj hij=>?_⟩,rfl⟩
  have:=hs i j hi hj hij
  rw [ZsF] at this
  simp only [decide_eq_false_iff_not] at this
  omega
end Go.Proofs.YtlekejpogddndaaGreatDoor
end
section
namespace Go.Proofs.YtlekejpogddndaaGreatDoor
open Go.Ab Go.RowKit Civ
attribute [local simp] Zbk Zln ZdY
section
theorem ZiU {a0 a1 a2 a3 a4 a5 a6 a7 a8 a9 a10 a11 c0 c1 c2 c3 c4 c5 c6 c7 c8 c9 c10 c11:AV}{l:List AV}:setCells (a0::a1::a2::a3::a4::a5::a6::a7::a8::a9::a10::a11::l) 0 [c0,c1,c2,c3,c4,c5,c6,c7,c8,c9,c10,c11]=c0::c1::c2::c3::c4::c5::c6::c7::c8::c9::c10::c11::l:=rfl
theorem Zoa {a0 a1 a2 a3 a4 a5 a6 a7 a8 a9 a10 a11:AV}{l:List AV}:((a0::a1::a2::a3::a4::a5::a6::a7::a8::a9::a10::a11::l).drop 0).take 12=[a0,a1,a2,a3,a4,a5,a6,a7,a8,a9,a10,a11]:=rfl
theorem ZmG {τ:Operand→AV}{y0:Operand}{x0_0 x0_1 x0_2 x0_3 x0_4 x0_5 x0_6 x0_7 x0_8 x0_9 x0_10 x0_11:AV}(h0:Zav (τ y0)=some [x0_0,x0_1,x0_2,x0_3,x0_4,x0_5,x0_6,x0_7,x0_8,x0_9,x0_10,x0_11]) (l0:[x0_0,x0_1,x0_2,x0_3,x0_4,x0_5,x0_6,x0_7,x0_8,x0_9,x0_10,x0_11].all leaf=true):Zas τ [(0,12,y0)] [(.v (.int .i64 0)),(.v (.string ⟨#[]⟩)),(.v (.int .i64 0)),(.v (.int .i64 0)),(.v (.int .i64 0)),(.v (.int .i64 0)),(.v (.int .i64 0)),(.v (.int .i64 0)),(.v (.int .i64 0)),(.v (.int .i64 0)),(.v (.int .i64 0)),(.v (.string ⟨#[]⟩))]=some [x0_0,x0_1,x0_2,x0_3,x0_4,x0_5,x0_6,x0_7,x0_8,x0_9,x0_10,x0_11]:=by
 simp only [Zas,h0,l0]
 rfl
theorem ZqC {a0 a1 a2 a3 a4 a5 a6 a7 a8 a9 a10 a11:AV}{l:List AV}:(a0::a1::a2::a3::a4::a5::a6::a7::a8::a9::a10::a11::l).take 12=[a0,a1,a2,a3,a4,a5,a6,a7,a8,a9,a10,a11]:=rfl
theorem ZqD {a0 c0:AV}{l:List AV}:setCells (a0::l) 0 [c0]=c0::l:=rfl
theorem ZiT {a0 a1 a2 a3 a4 a5 a6 a7 a8 a9 a10 a11:AV}{l:List AV}:((a0::a1::a2::a3::a4::a5::a6::a7::a8::a9::a10::a11::l).drop 1).take 11=[a1,a2,a3,a4,a5,a6,a7,a8,a9,a10,a11]:=rfl
theorem ZgB {τ:Operand→AV}{y0 y1 y2:Operand}{x0_0 x1_0 x2_0:AV}(h0:Zav (τ y0)=some [x0_0]) (l0:[x0_0].all leaf=true) (h1:Zav (τ y1)=some [x1_0]) (l1:[x1_0].all leaf=true) (h2:Zav (τ y2)=some [x2_0]) (l2:[x2_0].all leaf=true):Zas τ [(0,1,y0),(1,1,y1),(2,1,y2)] [(.v (.int .i64 0)),(.v (.int .i64 0)),(.v (.string ⟨#[]⟩))]=some [x0_0,x1_0,x2_0]:=by
 simp only [Zas,h0,l0,h1,l1,h2,l2]
 rfl
theorem ZgA {τ:Operand→AV}{y0:Operand}{x0_0 x0_1 x0_2:AV}(h0:Zav (τ y0)=some [x0_0,x0_1,x0_2]) (l0:[x0_0,x0_1,x0_2].all leaf=true):Zas τ [(0,3,y0)] [(.v (.int .i64 0)),(.v (.int .i64 0)),(.v (.string ⟨#[]⟩))]=some [x0_0,x0_1,x0_2]:=by
 simp only [Zas,h0,l0]
 rfl
theorem ZmF { e:Ent}:([]:AH)++[e]=[e]:=rfl
theorem Zke {e0 e1 e2 e3 e4 e5 d0:Ent}:([e0,e1,e2,e3,e4,e5]:AH)++[d0]=[e0,e1,e2,e3,e4,e5,d0]:=rfl
theorem ZmE {a0 a1 a2:AV}{l:List AV}:(a0::a1::a2::l).take 3=[a0,a1,a2]:=rfl
end
def c31p:AC:=(.seq (.reg [⟨(some 6),none,(.mv (.const (.slice none 0 0)))⟩,⟨(some 7),none,(.mv (.const (.int .i64 0)))⟩]) (.seq (.reg [⟨(some 15),none,(.mv (.tmp 0))⟩,⟨(some 16),none,(.mv (.tmp 1))⟩,⟨(some 17),none,(.mv (.tmp 2))⟩,⟨(some 18),none,(.call (.func 86) [(.tmp 15),(.tmp 16),(.tmp 17)])⟩,⟨(some 8),none,(.mv (.tmp 18))⟩]) (.seq (.reg [⟨(some 19),none,(.mv (.tmp 8))⟩,⟨(some 20),none,(.bin .neq (.tmp 19) (.const (.int .i64 0)))⟩]) (.seq (.cond (.tmp 20) (.seq (.reg [⟨(some 21),none,(.mv (.tmp 8))⟩,⟨(some 6),none,(.mv (.const (.slice none 0 0)))⟩,⟨(some 7),none,(.mv (.tmp 21))⟩]) .ret) .skip) (.seq (.reg [⟨(some 9),none,(.new 140 1 [(.sl 0 0 true [])])⟩]) (.seq (.reg [⟨(some 22),none,(.mv (.tmp 0))⟩,⟨(some 23),none,(.mv (.tmp 1))⟩,⟨(some 24),none,(.call (.func 87) [(.tmp 22),(.tmp 23)])⟩]) .skip))))))
def c31a:AC:=(.reg [⟨(some 10),none,(.new 144 12 [(.v (.int .i64 0)),(.v (.string ⟨#[]⟩)),(.v (.int .i64 0)),(.v (.int .i64 0)),(.v (.int .i64 0)),(.v (.int .i64 0)),(.v (.int .i64 0)),(.v (.int .i64 0)),(.v (.int .i64 0)),(.v (.int .i64 0)),(.v (.int .i64 0)),(.v (.string ⟨#[]⟩))])⟩,⟨none,none,(.store 12 (.tmp 10) (.tmp 25))⟩])
def c31b:AC:=(.block 1 (.reg [⟨(some 26),none,(.load false 1 (.tmp 9))⟩,⟨(some 27),none,(.load true 12 (.tmp 10))⟩,⟨(some 28),none,(.lit 144 12 1 [(.v (.int .i64 0)),(.v (.string ⟨#[]⟩)),(.v (.int .i64 0)),(.v (.int .i64 0)),(.v (.int .i64 0)),(.v (.int .i64 0)),(.v (.int .i64 0)),(.v (.int .i64 0)),(.v (.int .i64 0)),(.v (.int .i64 0)),(.v (.int .i64 0)),(.v (.string ⟨#[]⟩))] [(0,(12,(.tmp 27)))])⟩,⟨(some 29),none,(.app 144 12 112 (.tmp 26) (.tmp 28))⟩,⟨none,none,(.store 1 (.tmp 9) (.tmp 29))⟩]))
def c31q:AC:=(.seq (.reg [⟨(some 30),none,(.load false 1 (.tmp 9))⟩,⟨(some 31),none,(.call (.func 88) [(.tmp 30),(.func 89)])⟩]) (.seq (.reg [⟨(some 11),none,(.mv (.const (.slice none 0 0)))⟩]) (.seq (.reg [⟨(some 12),none,(.mv (.const (.int .i64 0)))⟩]) (.seq (.reg [⟨(some 32),none,(.load false 1 (.tmp 9))⟩,⟨(some 33),none,(.len false (.tmp 32))⟩,⟨(some 34),none,(.mv (.const (.int .i64 0)))⟩]) (.seq (.block 2 (.loop (.seq (.reg [⟨(some 35),none,(.bin .lss (.tmp 34) (.tmp 33))⟩]) (.seq (.cond (.tmp 35) .skip (.exit 2)) (.seq (.block 3 (.seq (.reg [⟨(some 36),none,(.mv (.tmp 34))⟩,⟨(some 37),none,(.ia 12 (.tmp 32) (.tmp 34))⟩,⟨(some 38),none,(.load true 12 (.tmp 37))⟩,⟨(some 14),none,(.new 144 12 [(.v (.int .i64 0)),(.v (.string ⟨#[]⟩)),(.v (.int .i64 0)),(.v (.int .i64 0)),(.v (.int .i64 0)),(.v (.int .i64 0)),(.v (.int .i64 0)),(.v (.int .i64 0)),(.v (.int .i64 0)),(.v (.int .i64 0)),(.v (.int .i64 0)),(.v (.string ⟨#[]⟩))])⟩,⟨(some 13),none,(.mv (.tmp 36))⟩,⟨none,none,(.store 12 (.tmp 14) (.tmp 38))⟩]) (.seq (.seq (.drw [⟨(some 39),none,(.mv (.tmp 13))⟩,⟨(some 40),none,(.bin .gtr (.tmp 39) (.const (.int .i64 0)))⟩,⟨(some 41),none,(.mv (.tmp 40))⟩,⟨(some 42),(some (41,true)),(.fa 0 (.tmp 14))⟩,⟨(some 43),(some (41,true)),(.load false 1 (.tmp 42))⟩,⟨(some 44),(some (41,true)),(.load false 1 (.tmp 9))⟩,⟨(some 45),(some (41,true)),(.mv (.tmp 13))⟩,⟨(some 46),(some (41,true)),(.bin .sub (.tmp 45) (.const (.int .i64 1)))⟩,⟨(some 47),(some (41,true)),(.ia 12 (.tmp 44) (.tmp 46))⟩,⟨(some 48),(some (41,true)),(.fa 0 (.tmp 47))⟩,⟨(some 49),(some (41,true)),(.load false 1 (.tmp 48))⟩,⟨(some 50),(some (41,true)),(.bin .sub (.tmp 43) (.tmp 49))⟩,⟨(some 51),(some (41,true)),(.bin .lss (.tmp 50) (.const (.int .i64 172800)))⟩,⟨(some 52),none,(.pick (.tmp 41) (.tmp 51) (.const (.bool false)))⟩] [] []) (.cond (.tmp 52) (.seq (.reg [⟨(some 6),none,(.mv (.const (.slice none 0 0)))⟩,⟨(some 7),none,(.mv (.const (.int .i64 4)))⟩]) .ret) .skip)) (.seq (.drw [⟨(some 53),none,(.mv (.tmp 11))⟩,⟨(some 54),none,(.fa 0 (.tmp 14))⟩,⟨(some 55),none,(.load false 1 (.tmp 54))⟩,⟨(some 56),none,(.fa 1 (.tmp 14))⟩,⟨(some 57),none,(.load true 11 (.tmp 56))⟩,⟨(some 58),none,(.mv (.tmp 2))⟩,⟨(some 59),none,(.mv (.tmp 12))⟩,⟨(some 60),none,(.call (.func 91) [(.tmp 57),(.tmp 58),(.tmp 59)])⟩,⟨(some 61),none,(.bin .sub (.tmp 55) (.tmp 60))⟩,⟨(some 62),none,(.fa 1 (.tmp 14))⟩,⟨(some 63),none,(.fa 9 (.tmp 62))⟩,⟨(some 64),none,(.load false 1 (.tmp 63))⟩,⟨(some 65),none,(.fa 1 (.tmp 14))⟩,⟨(some 66),none,(.fa 10 (.tmp 65))⟩,⟨(some 67),none,(.load false 1 (.tmp 66))⟩,⟨(some 68),none,(.build [(.v (.int .i64 0)),(.v (.int .i64 0)),(.v (.string ⟨#[]⟩))] [(0,(1,(.tmp 61))),(1,(1,(.tmp 64))),(2,(1,(.tmp 67)))])⟩,⟨(some 69),none,(.lit 136 3 1 [(.v (.int .i64 0)),(.v (.int .i64 0)),(.v (.string ⟨#[]⟩))] [(0,(3,(.tmp 68)))])⟩] [false,false] [⟨(some 70),none,(.app 136 3 32 (.tmp 53) (.tmp 69))⟩,⟨(some 11),none,(.mv (.tmp 70))⟩]) (.reg [⟨(some 71),none,(.fa 1 (.tmp 14))⟩,⟨(some 72),none,(.fa 9 (.tmp 71))⟩,⟨(some 73),none,(.load false 1 (.tmp 72))⟩,⟨(some 12),none,(.mv (.tmp 73))⟩]))))) (.reg [⟨(some 74),none,(.bin .add (.tmp 34) (.const (.int .i64 1)))⟩,⟨(some 34),none,(.mv (.tmp 74))⟩])))))) (.seq (.reg [⟨(some 75),none,(.mv (.tmp 11))⟩,⟨(some 76),none,(.len false (.tmp 75))⟩,⟨(some 77),none,(.bin .gtr (.tmp 76) (.const (.int .i64 1000)))⟩]) (.seq (.cond (.tmp 77) (.seq (.reg [⟨(some 6),none,(.mv (.const (.slice none 0 0)))⟩,⟨(some 7),none,(.mv (.const (.int .i64 2)))⟩]) .ret) .skip) (.seq (.reg [⟨(some 78),none,(.mv (.tmp 11))⟩,⟨(some 6),none,(.mv (.tmp 78))⟩,⟨(some 7),none,(.mv (.const (.int .i64 0)))⟩]) (.seq .ret .skip)))))))))
abbrev fr31:AFR:=⟨[(.reg [⟨(some 6),none,(.mv (.const (.slice none 0 0)))⟩,⟨(some 7),none,(.mv (.const (.int .i64 0)))⟩]),(.reg [⟨(some 15),none,(.mv (.tmp 0))⟩,⟨(some 16),none,(.mv (.tmp 1))⟩,⟨(some 17),none,(.mv (.tmp 2))⟩,⟨(some 18),none,(.call (.func 86) [(.tmp 15),(.tmp 16),(.tmp 17)])⟩,⟨(some 8),none,(.mv (.tmp 18))⟩]),(.reg [⟨(some 19),none,(.mv (.tmp 8))⟩,⟨(some 20),none,(.bin .neq (.tmp 19) (.const (.int .i64 0)))⟩]),(.cond (.tmp 20) (.seq (.reg [⟨(some 21),none,(.mv (.tmp 8))⟩,⟨(some 6),none,(.mv (.const (.slice none 0 0)))⟩,⟨(some 7),none,(.mv (.tmp 21))⟩]) .ret) .skip),(.reg [⟨(some 9),none,(.new 140 1 [(.sl 0 0 true [])])⟩]),(.reg [⟨(some 22),none,(.mv (.tmp 0))⟩,⟨(some 23),none,(.mv (.tmp 1))⟩,⟨(some 24),none,(.call (.func 87) [(.tmp 22),(.tmp 23)])⟩])],(.tmp 24),#[25],c31a,c31b,c31q,[(.tmp 6),(.tmp 7)],79⟩
theorem k31:Zhk Tryz.prog 31=some fr31:=by kernel_rfl
theorem turns_ne {l:List Rul}{nm:ByteArray}(h : ∀ r∈l,Zbu r=0) (hn : ∃ r∈l,r.1=nm):Zbg l nm≠[]:=by
 obtain ⟨r,hr,e⟩:=hn
 have h1:=ZgH (h r hr)
 obtain ⟨_,q2,_⟩:=Zcl (h r hr)
 intro hE
 have:Zc4 r=[]:=by
  unfold Zbg at hE
  rw [List.flatMap_eq_nil_iff] at hE
  have:=hE r hr
  rwa [if_pos e] at this
 rw [this] at h1
 simp at h1
 have q2:r.2.1≤r.2.2.1:=q2
 have h2:(0:Int)=r.2.2.1-r.2.1+1:=h1
 omega
abbrev timT (N:Nat) (l:List Rul) (nm:ByteArray) (sh:Int) (x:AV):List AV:=[.sl l.length 11 false (rows rulC l),sv nm,iv sh,.any,.any,.any,.any,.any,.any,.ptr (N+0) 0 0,.any,.any,.any,.any,.any,.any,.any,.any,.any,.any,.any,.any,.any,.any,.clo (.func 159) [.rp [.sl l.length 11 false (rows rulC l)],.rp [sv nm]],x,.any,.any,.any,.any,.any,.any,.any,.any,.any,.any,.any,.any,.any,.any,.any,.any,.any,.any,.any,.any,.any,.any,.any,.any,.any,.any,.any,.any,.any,.any,.any,.any,.any,.any,.any,.any,.any,.any,.any,.any,.any,.any,.any,.any,.any,.any,.any,.any,.any,.any,.any,.any,.any]
abbrev timH (h:AH) (D l N:Nat) (o:Obj) (T:List AV) (vs:List Value) (d:List Trn):AH:=h++[.mk 0 140 1 [.own (N+1) d.length d.length],.mk d.length 144 12 (rows trnC d),mkD D,.raw l o T vs]
abbrev timJ (h:AH) (D l N:Nat) (o:Obj) (T:List AV) (vs:List Value) (d:List Trn) (e f:Ent):AH:=h++[.mk 0 140 1 [.own (N+1) d.length d.length],.mk d.length 144 12 (rows trnC d),mkD D,.raw l o T vs,e,f]
theorem ZoJ {n:Nat} : ∀ {a b:List AV},AV.ltL n (a++b)=(AV.ltL n a&&AV.ltL n b)
 | [],b=>by simp [AV.ltL]
 | c::a,b=>by simp [AV.ltL,ZoJ (a:=a) (b:=b),Bool.and_assoc]
theorem Zq3 {h:AH}{D l N:Nat}{o:Obj}{T:List AV}{vs:List Value}{d:List Trn}{e f:Ent}:timH h D l N o T vs d++[e,f]=timJ h D l N o T vs d e f:=by simp
abbrev timK (P:Program) (lp N D:Nat) (rdy bsy fin:Obj) (l:List Rul) (nm:ByteArray) (sh:Int) (vs:List Value):Prop:=Zk7 P fr31 (N+2+1) lp rdy bsy fin (timT N l nm sh .any) vs
theorem timT_lt {N:Nat}{l:List Rul}{nm:ByteArray}{sh:Int}:AV.ltL (N+4) (timT N l nm sh .any)=true:=by simp [AV.ltL,AV.lt,Zbk]
theorem timH_lt {h:AH}{D lp N:Nat}{o:Obj}{l:List Rul}{nm:ByteArray}{sh:Int}{vs:List Value}(hlt : ∀ e∈h,e.lt N=true) (d:List Trn) : ∀ e∈timH h D lp N o (timT N l nm sh .any) vs d,e.lt (N+4)=true:=by
 intro e he
 rcases List.mem_append.1 he with he | he
 ·exact ltw (by omega) hlt e he
 simp only [List.mem_cons,List.not_mem_nil,or_false] at he
 rcases he with rfl | rfl | rfl | rfl
 ·simp [Ent.lt,AV.ltL,AV.lt]
 ·simp [Ent.lt,Zln]
 ·simp [Ent.lt,AV.ltL]
 simpa [Ent.lt] using timT_lt
theorem app62 {h:AH}{a b c d e f p q:Ent}:h++[a,b,c,d,e,f,p,q]=(h++[a,b,c,d,e,f])++[p,q]:=by simp
theorem ZmW {h:AH}{lp N D:Nat}{rdy bsy fin:Obj}{l:List Rul}{nm:ByteArray}{sh:Int}{vs:List Value}(hn:h.length=N) (hlt : ∀ e∈h,e.lt N=true) (hY:timK Tryz.prog lp N D rdy bsy fin l nm sh vs) {d:List Trn}{t:Trn}{e f:Ent}(hd:d.length<10000) :
  AYield Tryz.prog lp [.agg (trnC t)] (timJ h D lp N rdy (timT N l nm sh .any) vs d e f) fun r h''=>r=.ret (.v (.bool true))∧h''=timJ h D lp N rdy (timT N l nm sh .any) vs (d++[t]) e f:=by
 refine y_go hY (hga (k:=3) hn rfl) rfl fun n0 hn0 hlt0 q1 q2 q3=>?_
 obtain ⟨a,n,fr,tt,m,⟨kd,wk,dn⟩,at_,ck,sv_,lt⟩:=t
 show aw _ _ c31a _ _ _
 show aw _ _ _ _ (timT N l nm sh (.agg (trnC (a,n,fr,tt,m,(kd,wk,dn),at_,ck,sv_,lt)))) (h++[.mk 0 140 1 [.own (N+1) d.length d.length],.mk d.length 144 12 (rows trnC d),mkD D,.raw lp rdy (timT N l nm sh .any) vs,e,f])
 refine Zat<|E' (ZaV (hl6 hn) ha6) pt<|E' (Zak lk (cvl lk rfl) (hga hn rfl) rfl (nb' rfl) rfl ZiU (hs6 hn)) ptn<|Zar<|?_
 refine ZsR (i:=N+3) (hga hn rfl) (hs3 hn) fun n1 hn1 hlt1=>?_
 show aw _ _ c31b _ _ _
 refine Zap<|Zat<|V' (Zac lk (hga hn rfl) gt0) pt<|V' (Zan lk (hga hn rfl) Zoa rfl) pt<|E' (ZdH (ZmG (cvl lk rfl) rfl) (hl7 hn) ha7) pt<|?_
 refine E' (Zdj (Zcr lk (hga hn rfl) rfl ZqC (nb' rfl)) lk (hga hn rfl) (trn_len _) (by omega) rfl (hs1 hn)) pt ?_
 refine E' (Zak lk (cvl lk rfl) (hga hn rfl) rfl (nb' rfl) rfl ZqD (hs0 hn)) ptn<|Zar<|Zaz<|?_
 refine Ziz (i:=N+3) (hga hn rfl) (hs3 hn) ?_
 refine ⟨_,_,app62,?_,fun x hx=>?_,rfl,rfl,?_⟩
 ·rw [←hn0];simp
 ·have hm:n0=N+6:=by rw [←hn0];simp [hn]
  subst hm
  rcases List.mem_append.1 hx with hx | hx
  ·exact ltw (by omega) hlt x hx
  simp only [List.mem_cons,List.not_mem_nil,or_false] at hx
  rcases hx with rfl | rfl | rfl | rfl | rfl | rfl
  ·simp [Ent.lt,AV.ltL,AV.lt]
  ·simp [Ent.lt,Zln,ZoJ,AV.ltL,AV.lt]
  ·simp [Ent.lt,AV.ltL]
  ·exact hlt0 _ (by simp)
  ·exact hlt0 _ (by simp)
  exact hlt0 _ (by simp)
 unfold timJ;rw [Za3,Zbv,List.length_append];rfl
theorem sortT_b {h:AH}{N:Nat}{a:Ent}{l:AH}{v ty:Nat}{S:List Trn}(hn:h.length=N) (hl:S≠[]) (hz:S.length<4611686018427387904) :
  ACalls Tryz.prog 88 [.own (N+1) v S.length,.v (.func (.func 89) #[] #[])] (h++(a::.mk v ty 12 (rows trnC S)::l)) fun x h'=>x=.ret (.tup []) ∧ ∃ S',ordT S S'∧h'=h++(a::.mk v ty 12 (rows trnC S')::l):=by
 refine (sortT_a (hga (k:=1) hn rfl) hl hz).mono ?_
 rintro x h' ⟨rfl,S',h1,rfl⟩
 exact ⟨rfl,S',h1,hs1 hn⟩
theorem gapB_pre {l:List Trn}{i:Nat}(h:i<l.length) (h0:0<i) (hg:l[i].1-(l[i-1]'(by omega)).1<172800):gapB l=true:=by
 obtain ⟨i,rfl⟩ : ∃ i0,i=i0+1:=⟨i-1,by omega⟩
 exact Zsf h hg
theorem gap_ok {S:List Trn}{i:Nat}(hi : ∀ j (h:j+1<S.length),j+1<i→172800≤S[j+1].1-S[j].1) (hl:S.length≤i):gapB S=false:=(ZkL S).2 fun j h=>hi j h (by omega)
theorem Zpi {h:AH}{lp N D n0:Nat}{o:Obj}{l:List Rul}{nm:ByteArray}{sh:Int}{vs:List Value}(hn:h.length=N) (hlt : ∀ e∈h,e.lt N=true) (hr0:Zdz l nm sh=0) (hn0:N+4=n0) :
  aw Tryz.prog n0 c31q (ZeU fr31.res (N+2) D fun x h' => ∃ z,h'=h++z∧x.lt N=true ∧ ∃ c,x=.ret c∧Wk c (.tup [.sl (Za8 l nm sh).1.length 3 false (rows timC (Za8 l nm sh).1),iv (Za8 l nm sh).2])) (timT N l nm sh .any)
   (h++[.mk 0 140 1 [.own (N+1) (Zbg l nm).length (Zbg l nm).length],.mk (Zbg l nm).length 144 12 (rows trnC (Zbg l nm)),mkD D,.gone]):=by
 obtain ⟨g1,g2,g3,g4⟩:=Zf8 hr0
 have hne:=turns_ne g2 g4
 have htl:=ZhP (nm:=nm) g2
 have htO : ∀ t∈Zbg l nm,Zbu t.2=0 ∧ -2592000000≤t.1∧t.1≤4320172800:=fun t ht=>Zkk g2 ht
 subst hn0
 show aw _ _ c31q _ _ _
 refine wr'<|V' (Zac lk (hga hn rfl) gt0) pt<|?_
 refine s_callE mp (sortT_b hn hne (by omega)) pt ?_
 rintro S hS
 have hSl:=hS.1.length_eq
 have hSO : ∀ t∈S,Zbu t.2=0 ∧ -2592000000≤t.1∧t.1≤4320172800:=fun t ht=>htO t (hS.1.mem_iff.1 ht)
 have hTV:=Zop (sh:=sh) hr0 hS.1 hS.2
 rw [←hSl]
 refine sn'<|wr'<|mv' lkn pt11<|Zar<|Za6 (ALe.own0' (st':=3) (ty:=136) gt11 (hl4 hn) pt11 ha4)<|wr'<|mv' lki pt12<|sn'<|wr'<|?_
 refine V' (Zac lk (hga hn rfl) gt0) pt<|V' (Zc2 lk) pt<|mv' lki pt<|sn'<|Zal<|Zap<|?_
 refine w_lp (ι:=Nat) (fun (i:Nat)=>[(11,.own (N+4) i (outV sh 0 (S.take i)).length),(12,iv (svAt S i)),(34,iv (i:Int)),(6,.any),(7,.any),(13,.any),(14,.any)]++rn' 35 40) (fun (i:Nat)=>[(4,.mk i 136 3 (rows timC (outV sh 0 (S.take i))))]) (fun (i:Nat)=>i≤S.length ∧ ∀ j (h:j+1<S.length),j+1<i→172800≤S[j+1].1-S[j].1) (fun (i:Nat)=>S.length-i) (0) (by exact ⟨Nat.zero_le _,fun j _ h=>by omega⟩) ?_
 rintro i hi1
 try simp only [sm',Nat.reduceAdd]
 obtain ⟨hi1,hi2⟩:=hi1
 refine wr'<|V' (Za9 lk lk) pt<|sn'<|Zal<|?_
 refine cd' lk (fun hc1=>?_) (fun hc1=>?_)
 ·have hi:i<S.length:=by omega
  obtain ⟨hb0,hb1⟩:=hSO _ (List.getElem_mem hi)
  have hsv:=svAt_bd (i:=i) fun t ht=>(hSO t ht).1
  have hoff:=ZrL (r:=S[i].2) g3 hsv
  have hol2:(outV sh 0 (S.take (i+1))).length=i+1:=by rw [Zgb,List.length_take];omega
  have hol:(outV sh 0 (S.take i)).length=i:=by rw [Zgb,List.length_take];omega
  refine Zae<|Zah<|Zal<|Zap<|wr'<|mv' lk pt<|?_
  refine V' (Zog lk lk (hga hn rfl) ZfY (nb' rfl) ro (by omega) (by first | rfl | (simp;done) | omega)) pt ?_
  refine V' (v_ldOR lk (hga hn rfl) ZfY (by omega) rfl) pt ?_
  refine E' (ZaV (hl5 hn) ha5) pt<|mv' lk pt<|E' (Zak lk (cvl lk rfl) (hga hn rfl) rfl (nb' rfl) rfl ZiU (hs5 hn)) ptn<|sn'<|Zal<|Zal<|Zb2<|D' (v_mv lk) pt<|D' (Zbs lk lki) pt<|D' (v_mv lk) pt<|?_
  refine dq' (t:=41) gt pt pt (fun hg41=>?_) (fun hg41=>?_)
  ·obtain ⟨hb3,hb4⟩:=hSO _ (List.getElem_mem (show i-1<S.length by omega))
   refine d_do gt<|D' (Zab lk) pt<|d_do gt<|D' (Zac lk (hga hn rfl) gt0) pt<|d_do gt<|D' (Zac lk (hga hn rfl) gt0) pt<|d_do gt<|D' (v_mv lk) pt<|d_do gt<|?_
   refine D' (ZbA lk lki (by omega) (by omega)) pt ?_
   refine d_do gt ?_
   refine D' (Zog (k:=i-1) lk lk (hga hn rfl) ZfY (nb' rfl) ro (by omega) (by first | rfl | (simp;done) | omega)) pt ?_
   refine d_do gt<|D' (ZbM lk) pt<|d_do gt<|?_
   refine D' (v_ldOF lk (hga hn rfl) ZfY (by omega) (nb' rfl) gt0) pt ?_
   refine d_do gt ?_
   refine D' (ZbA lk lk (by omega) (by omega)) pt ?_
   refine d_do gt<|D' (Za9 lk lki) pt<|D' (Zaj lk lk) pt<|ZbI<|?_
   refine Zcf ?_
   refine sn' ?_
   refine cd' lk (fun hc2=>?_) (fun hc2=>?_)
   ·have hG:gapB S=true:=gapB_pre hi (by omega) hc2
    refine wr'<|mv' lkn pt<|mv' lki pt<|sn'<|Zaa<|Zag<|Zaq<|Zag<|Zag<|Zaq<|Zag<|?_
    refine ZdN (hga hn rfl) (hs2 hn) ry ?_
    refine rtW' ?_
    rw [hTV,if_pos hG];exact Wk.tup (wkw Wk.nilF (wk1 rfl wk0))
   refine Zae<|Zah<|Zal<|Zb2<|D' (v_mv lk) pt<|D' (Zab lk) pt<|D' (Zac lk (hga hn rfl) gt0) pt<|D' (Zab lk) pt<|D' (Zan lk (hga hn rfl) ZiT rfl) pt<|D' (v_mv lk) pt<|D' (v_mv lk) pt<|?_
   refine ZaY mp (fun hE hX=>off_a g3 hsv) pt ?_
   refine D' (ZbA lk lk (by omega) (by omega)) pt ?_
   refine D' (Zab lk) pt<|D' (ZbM lk) pt<|D' (Zac lk (hga hn rfl) gt10) pt<|D' (Zab lk) pt<|D' (ZbM lk) pt<|D' (Zac lk (hga hn rfl) gt11) pt<|D' (Zaw (ZgB (cvl lk rfl) rfl (cvl lk rfl) rfl (cvl lk rfl) rfl)) pt<|Zmk rfl rfl (hlk hn rfl) (l_lit (ZgA (cvl lk rfl) rfl)) pt ZmF<|ZbI<|?_
   refine Znz Zke ?_
   refine E' (Zdj (Zcr lk (hga hn rfl) rfl ZmE (nb' rfl)) lk (hga hn rfl) (Zkn _) (by omega) rfl (hs4 hn)) pt ?_
   refine mv' lk pt<|sn'<|Zat<|V' (Zab lk) pt<|V' (ZbM lk) pt<|V' (Zac lk (hga hn rfl) gt10) pt<|mv' lk pt<|Zar<|Zaz<|Zah<|Zat<|?_
   refine V' (Zay lk lki (by omega) (by omega)) pt ?_
   refine mv' lk pt<|Zar<|ZaB<|?_
   refine lU' (i+1) (by (try dsimp only);exact ⟨by omega,fun j hj h=>by by_cases e:j+1=i;(subst e;(try simp only [Nat.add_sub_cancel] at hc2);omega);exact hi2 j hj (by omega)⟩) (by (try dsimp only);(try simp only [sm',Nat.reduceAdd]);exact bkE' 5 hn hlt (by repeat (first | exact wk0 | refine wka ?_ | refine wk1 rfl ?_ | refine wk1 (by first | rfl | exact ivx (by omega) | (rw [hol2,hol];done) | (rw [hol2,hol]) | (rw [Zh0 hi])) ?_)) (by rw [ZlU hi,Za3,Zbv];rfl))
  refine d_no gt pt<|d_no gt pt<|d_no gt pt<|d_no gt pt<|d_no gt pt<|d_no gt pt<|d_no gt pt<|d_no gt pt<|d_no gt pt<|d_no gt pt<|D' (Zai lk lkb) pt<|ZbI<|?_
  refine Zcf ?_
  refine sn'<|ZaN lk<|Zae<|Zah<|Zal<|Zb2<|D' (v_mv lk) pt<|D' (Zab lk) pt<|D' (Zac lk (hga hn rfl) gt0) pt<|D' (Zab lk) pt<|D' (Zan lk (hga hn rfl) ZiT rfl) pt<|D' (v_mv lk) pt<|D' (v_mv lk) pt<|?_
  refine ZaY mp (fun hE hX=>off_a g3 hsv) pt ?_
  refine D' (ZbA lk lk (by omega) (by omega)) pt ?_
  refine D' (Zab lk) pt<|D' (ZbM lk) pt<|D' (Zac lk (hga hn rfl) gt10) pt<|D' (Zab lk) pt<|D' (ZbM lk) pt<|D' (Zac lk (hga hn rfl) gt11) pt<|D' (Zaw (ZgB (cvl lk rfl) rfl (cvl lk rfl) rfl (cvl lk rfl) rfl)) pt<|Zmk rfl rfl (hlk hn rfl) (l_lit (ZgA (cvl lk rfl) rfl)) pt ZmF<|ZbI<|?_
  refine Znz Zke ?_
  refine E' (Zdj (Zcr lk (hga hn rfl) rfl ZmE (nb' rfl)) lk (hga hn rfl) (Zkn _) (by omega) rfl (hs4 hn)) pt ?_
  refine mv' lk pt<|sn'<|Zat<|V' (Zab lk) pt<|V' (ZbM lk) pt<|V' (Zac lk (hga hn rfl) gt10) pt<|mv' lk pt<|Zar<|Zaz<|Zah<|Zat<|?_
  refine V' (Zay lk lki (by omega) (by omega)) pt ?_
  refine mv' lk pt<|Zar<|ZaB<|?_
  refine lU' (i+1) (by (try dsimp only);exact ⟨by omega,fun j hj h=>by by_cases e:j+1=i;(subst e;(try simp only [Nat.add_sub_cancel] at hc2);omega);exact hi2 j hj (by omega)⟩) (by (try dsimp only);(try simp only [sm',Nat.reduceAdd]);exact bkE' 5 hn hlt (by repeat (first | exact wk0 | refine wka ?_ | refine wk1 rfl ?_ | refine wk1 (by first | rfl | exact ivx (by omega) | (rw [hol2,hol];done) | (rw [hol2,hol]) | (rw [Zh0 hi])) ?_)) (by rw [ZlU hi,Za3,Zbv];rfl))
 have hie:i=S.length:=by omega
 subst hie
 rw [List.take_length]
 have hG:gapB S=false:=gap_ok hi2 (Nat.le_refl _)
 rw [if_neg (by rw [hG];simp)] at hTV
 have hol:=Zgb S sh 0
 refine ZaM<|ZaC<|ZaC<|Za7<|Zah<|wr'<|mv' lk pt<|V' (Zc2 lk) pt<|V' (Zbs lk lki) pt<|sn'<|Zal<|?_
 refine cd' lk (fun hc3=>?_) (fun hc3=>?_)
 ·refine wr'<|mv' lkn pt<|mv' lki pt<|sn'<|Zaa<|Zag<|?_
  refine ZdN (hga hn rfl) (hs2 hn) ry ?_
  refine rtW' ?_
  rw [hTV,if_pos (by omega)];exact Wk.tup (wkw Wk.nilF (wk1 rfl wk0))
 refine Zae ?_
 refine Za6 (ALe.iceR (hga hn rfl) gt11 (List.take_of_length_le (by rw [Zkn];exact Nat.le_refl _)) (by rw [Zkn];exact Nat.le_refl _) pt11 (hs4 hn)) ?_
 refine wr'<|mv' lk pt<|mv' lk pt<|mv' lki pt<|sn'<|Zal<|Zaa<|Zag<|?_
 refine ZdN (hga hn rfl) (hs2 hn) ry ?_
 refine rtW' ?_
 rw [hTV,if_neg (by omega)];exact Wk.tup (wkw Wk.full (wk1 rfl wk0))
theorem Zpj {h:AH}{lp N D:Nat}{rdy bsy fin:Obj}{l:List Rul}{nm:ByteArray}{sh:Int}{vs:List Value}(hn:h.length=N) (hlt : ∀ e∈h,e.lt N=true) (hr0:Zdz l nm sh=0) (hY:timK Tryz.prog lp N D rdy bsy fin l nm sh vs) {R:AE→AH→Prop}
    (hR:R=fun x h' => ∃ z,h'=h++z∧x.lt N=true ∧ ∃ c,x=.ret c∧Wk c (.tup [.sl (Za8 l nm sh).1.length 3 false (rows timC (Za8 l nm sh).1),iv (Za8 l nm sh).2])) :
    ACalls Tryz.prog 159 (.v (.func (.yield lp) #[] #[])::[.rp [.sl l.length 11 false (rows rulC l)],.rp [sv nm]]) (timH h D lp N rdy (timT N l nm sh .any) vs []) fun r h3=>(∃ c,r=.ret c) ∧
      ((h3[N+2+1]?=some (.raw lp rdy (timT N l nm sh .any) vs) ∧ ∀ n0,(h3.set (N+2+1) .gone).length=n0→(∀ e∈h3.set (N+2+1) .gone,e.lt n0=true)→aw Tryz.prog n0 fr31.post (ZeU fr31.res (N+2) D R) (timT N l nm sh .any) (h3.set (N+2+1) .gone)) ∨
       (h3[N+2+1]?=some (.raw lp fin (timT N l nm sh .any) vs)∧ZeU fr31.res (N+2) D R .ret (timT N l nm sh .any) (h3.set (N+2+1) .gone))):=by
  obtain ⟨g1,g2,g3,g4⟩:=Zf8 hr0
  have htl:=ZhP (nm:=nm) g2
  refine (turns1_a (H:=timH h D lp N rdy (timT N l nm sh .any) vs) g2 g1 (fun d=>hl4 hn) (timH_lt hlt) (fun d t e f hd=>?_)).mono ?_
  · rw [Zq3,Zq3]
    exact ZmW hn hlt hY (by omega)
  rintro x h3 ⟨rfl,rfl⟩
  refine ⟨⟨_,rfl⟩,.inl ⟨hga (k:=3) hn rfl,fun n0 hn0 _=>?_⟩⟩
  have hs:(timH h D lp N rdy (timT N l nm sh .any) vs (Zbg l nm)).set (N+2+1) .gone=h++[.mk 0 140 1 [.own (N+1) (Zbg l nm).length (Zbg l nm).length],.mk (Zbg l nm).length 144 12 (rows trnC (Zbg l nm)),mkD D,.gone]:=hs3 hn
  rw [hs] at hn0 ⊢
  subst hR
  exact Zpi (o:=rdy) (lp:=lp) (vs:=vs) hn hlt hr0 ((hl4 hn).symm.trans hn0)
theorem Zq1 {l:List Rul}{nm:ByteArray}{sh:Int}{h:AH}(hok:okRs l) (hl:l.length≤9223372036854775807) :
  Ac 31 [.sl l.length 11 false (rows rulC l),sv nm,iv sh] h (.tup [.sl (Za8 l nm sh).1.length 3 false (rows timC (Za8 l nm sh).1),iv (Za8 l nm sh).2]):=by
 refine ACalls.weak (tR' k31 fun N hn hlt hlA hbd=>?_)
 show aw _ _ c31p _ _ _
 show aw _ _ _ _ [.sl l.length 11 false (rows rulC l),sv nm,iv sh,.any,.any,.any,.any,.any,.any,.any,.any,.any,.any,.any,.any,.any,.any,.any,.any,.any,.any,.any,.any,.any,.any,.any,.any,.any,.any,.any,.any,.any,.any,.any,.any,.any,.any,.any,.any,.any,.any,.any,.any,.any,.any,.any,.any,.any,.any,.any,.any,.any,.any,.any,.any,.any,.any,.any,.any,.any,.any,.any,.any,.any,.any,.any,.any,.any,.any,.any,.any,.any,.any,.any,.any,.any,.any,.any,.any] _
 refine wr'<|mv' lkn pt<|mv' lki pt<|sn'<|wr'<|mv' lk pt<|mv' lk pt<|mv' lk pt<|Zad mp (ready_a hok hl) pt<|mv' lk pt<|Zar<|?_
 refine Zah<|wr'<|mv' lk pt<|V' (ZaZ lk lki) pt<|sn'<|Zal<|?_
 refine cd' lk (fun hc1=>?_) (fun hc1=>?_)
 ·refine wr'<|mv' lk pt<|mv' lkn pt<|mv' lk pt<|sn'<|Zaa<|Zag<|?_
  refine Zib ry ?_
  refine rtW' ?_
  rw [Zlq hc1];exact Wk.tup (wkw Wk.nilF (wk1 rfl wk0))
 refine Zae<|Zah<|wr'<|E' (ZaV (hl0 hn) ha0) pt<|Zar<|?_
 refine Za6 (ALe.own0Cell (st':=12) (ty:=144) (hga hn rfl) gt0 (hl1 hn) pt0 (Eq.trans (congrArg (fun z=>List.set z _ _) ha1) (hs0 hn))) ?_
 refine wr'<|mv' lk pt<|mv' lk pt<|Zad mp (turns_a) pt<|sn'<|Zae<|?_
 refine ZrA (T1:=timT N l nm sh .any) (ALe.same wA' rfl) rfl (hl2 hn) fun lp D rdy bsy fin vs hle hlT hY=>?_
 have hgo:=Zpj (D:=D) hn hlt (Decidable.of_not_not hc1) hY rfl
 rw [show (h++[Ent.mk 0 140 1 [.own (N+1) 0 0],Ent.mk 0 144 12 []]++[mkD D,Ent.raw lp rdy (timT N l nm sh .any) vs]:AH)=timH h D lp N rdy (timT N l nm sh .any) vs [] by simp [rows]]
 exact hgo
end Go.Proofs.YtlekejpogddndaaGreatDoor
end
section
namespace Go.Proofs.YtlekejpogddndaaGreatDoor
open Go.Ab
abbrev intC (n:Int):List AV:=[iv n]
theorem ZdB {n:Nat}(l:List Int):AV.ltL n (rows intC l)=true:=Zdy (fun _ _=>rfl) l
theorem Zep : ∀ x,(intC x).length=1:=fun _=>rfl
theorem ZkI (l:List Int):(rows intC l).length=l.length*1:=Za2 Zep l
end Go.Proofs.YtlekejpogddndaaGreatDoor
end
section
namespace Go.Proofs.YtlekejpogddndaaGreatDoor
open Go.Ab Go.RowKit Civ
attribute [local simp] Zbk Zbx Zbr Zbt Zb9 ZdB
section
theorem Zs5 {a0 a1 a2:AV}{l:List AV}:(a0::a1::a2::l).take 3=[a0,a1,a2]:=rfl
theorem Zp8 {a0 a1 a2 a3 a4 a5 a6 a7 a8 a9:AV}{l:List AV}:(a0::a1::a2::a3::a4::a5::a6::a7::a8::a9::l).take 10=[a0,a1,a2,a3,a4,a5,a6,a7,a8,a9]:=rfl
theorem Zn1 {a0 a1 a2 a3 a4 a5 a6 a7 a8 a9 c0 c1 c2 c3 c4 c5 c6 c7 c8 c9:AV}{l:List AV}:setCells (a0::a1::a2::a3::a4::a5::a6::a7::a8::a9::l) 0 [c0,c1,c2,c3,c4,c5,c6,c7,c8,c9]=c0::c1::c2::c3::c4::c5::c6::c7::c8::c9::l:=rfl
theorem Zp9 {a0 a1 a2 a3 a4 a5 a6 a7:AV}{l:List AV}:((a0::a1::a2::a3::a4::a5::a6::a7::l).drop 5).take 3=[a5,a6,a7]:=rfl
theorem Zhm {τ:Operand→AV}{y0:Operand}{x0_0:AV}(h0:Zav (τ y0)=some [x0_0]) (l0:[x0_0].all leaf=true):Zas τ [(0,1,y0)] [(.v (.int .i64 0))]=some [x0_0]:=by
 simp only [Zas,h0,l0]
 rfl
theorem Zmx {a0:AV}{l:List AV}:(a0::l).take 1=[a0]:=rfl
theorem Zqa {a0 a1:AV}{l:List AV}:((a0::a1::l).drop 0).take 2=[a0,a1]:=rfl
theorem Zqc {a0 c0:AV}{l:List AV}:setCells (a0::l) 0 [c0]=c0::l:=rfl
theorem Zg4 {a0 a1 a2:AV}{l:List AV}:((a0::a1::a2::l).drop 0).take 3=[a0,a1,a2]:=rfl
theorem Zk6 {τ:Operand→AV}{y0 y1 y2:Operand}{x0_0 x1_0 x2_0:AV}(h0:Zav (τ y0)=some [x0_0]) (l0:[x0_0].all leaf=true) (h1:Zav (τ y1)=some [x1_0]) (l1:[x1_0].all leaf=true) (h2:Zav (τ y2)=some [x2_0]) (l2:[x2_0].all leaf=true):Zas τ [(0,1,y0),(1,1,y1),(2,1,y2)] [(.v (.int .i64 0)),(.v (.int .i64 0)),(.v (.string ⟨#[]⟩))]=some [x0_0,x1_0,x2_0]:=by
 simp only [Zas,h0,l0,h1,l1,h2,l2]
 rfl
theorem Zqb {a0 a1 a2 c0 c1 c2:AV}{l:List AV}:setCells (a0::a1::a2::l) 0 [c0,c1,c2]=c0::c1::c2::l:=rfl
end
def c280:AC:=(Sr [Oo 2 (.box 53 2 (.tmp 0)),Mb 3 false] (Sr [Fa 4 0 2,Ld 5 4,Ld 6 1,Bn 7 .eql 5 6,Mv 3 7] .ret))
theorem k280:ZaA Tryz.prog 280=some ⟨c280,[(.tmp 3)],8⟩:=by kernel_rfl
def c215:AC:=(Sr [Oo 2 (.box 26 3 (.tmp 0)),Oo 3 (.box 9 1 (.tmp 1)),Mc 4 0] (Sr [Fa 5 1 2,Ld 6 5,Oo 7 (.mkfn 280 [(.tmp 3)]),Cl 8 218 [(.tmp 6),(.tmp 7)],Mv 4 8] .ret))
theorem k215:ZaA Tryz.prog 215=some ⟨c215,[(.tmp 4)],9⟩:=by kernel_rfl
def c219:AC:=(Sr [Oo 2 (.box 129 2 (.tmp 0)),Mb 3 false] (Sr [Fa 4 1 2,Ld 5 4,Ld 6 1,Bn 7 .eql 5 6,Mv 3 7] .ret))
theorem k219:ZaA Tryz.prog 219=some ⟨c219,[(.tmp 3)],8⟩:=by kernel_rfl
def c139:AC:=(Sr [Oo 2 (.box 26 3 (.tmp 0)),Oo 3 (.box 9 1 (.tmp 1)),Mc 4 0] (Sr [Fa 6 2 2,Ld 7 6,Oo 8 (.mkfn 219 [(.tmp 3)]),Cl 9 171 [(.tmp 7),(.tmp 8)],Mv 5 9] (.seq (Sr [Mv 10 5,Bc 11 .geq 10 0] (Cd 11 (.reg [Fa 12 2 2,Ld 13 12,Mv 14 5,Oo 15 (.ia 2 (.tmp 13) (.tmp 14)),Fa 16 0 15,Ld 17 16,Sc 3 17]) .skip)) (Sr [Oo 18 (.load true 3 (.tmp 2)),Ld 19 3,Cl 20 215 [(.tmp 18),(.tmp 19)],Mv 4 20] .ret))))
theorem k139:ZaA Tryz.prog 139=some ⟨c139,[(.tmp 4)],21⟩:=by kernel_rfl
def c214:AC:=(Sr [Oo 2 (.box 129 2 (.tmp 0)),Mb 3 false] (Sr [Oo 4 (.load true 3 (.tmp 1)),Fa 5 0 2,Ld 6 5,Cl 7 215 [(.tmp 4),(.tmp 6)],Bc 8 .lss 7 0,Mv 3 8] .ret))
theorem k214:ZaA Tryz.prog 214=some ⟨c214,[(.tmp 3)],9⟩:=by kernel_rfl
def c216:AC:=(Sr [Oo 2 (.box 36 11 (.tmp 0)),Mb 3 false] (Sr [Fa 4 0 2,Ld 5 4,Fa 6 1 1,Ld 7 6,Bn 8 .eql 5 7,Mv 3 8] .ret))
theorem k216:ZaA Tryz.prog 216=some ⟨c216,[(.tmp 3)],9⟩:=by kernel_rfl
def c131:AC:=(Sr [Oo 1 (.box 53 2 (.tmp 0)),Oo 2 (.mv (.const (.slice none 0 0)))] (Sr [Oo 3 (.mv (.const (.slice none 0 0)))] (.seq (Sr [Fa 7 1 1,Ld 8 7,Oo 9 (.len false (.tmp 8)),Mc 10 0] (.block 0 (.loop (Sr [Bn 11 .lss 10 9] (.seq (Cd 11 .skip (.exit 0)) (.seq (.block 1 (Sr [Oo 12 (.ia 10 (.tmp 8) (.tmp 10)),Oo 13 (.load true 10 (.tmp 12)),Oo 5 (.new 63 10 [(iv 0),Ss,(iv 0),Ss,(.v (.bool false)),(iv 0),(iv 0),(iv 0),(iv 0),(iv 0)]),⟨none,none,(.store 10 (.tmp 5) (.tmp 13))⟩] (.seq (Sr [Fa 14 4 5,Ld 15 14] (Cd 15 (.exit 0) .skip)) (Sd [Fa 16 5 5,Fa 17 0 16,Oo 18 (.load true 3 (.tmp 17)),Cl 19 98 [(.tmp 18)],Bc 20 .mul 19 86400,Fa 21 5 5,Fa 22 3 21,Ld 23 22,Bn 24 .add 20 23,Mv 6 24] (.seq (Sr [Fa 25 5 5,Fa 26 4 25,Ld 27 26,Bc 28 .eql 27 2] (Cd 28 (.reg [Mv 29 6,Fa 30 0 5,Ld 31 30,Bn 32 .sub 29 31,Mv 6 32]) .skip)) (.reg [Mv 33 3,Mv 34 6,Oo 35 (.lit 3 1 1 [(iv 0)] [(0,(1,(.tmp 34)))]),Oo 36 (.app 3 1 8 (.tmp 33) (.tmp 35)),Mv 3 36])))))) (.reg [Bc 37 .add 10 1,Mv 10 37]))))))) (Sr [Mv 38 3,Mv 2 38] .ret))))
theorem k131:ZaA Tryz.prog 131=some ⟨c131,[(.tmp 2)],39⟩:=by kernel_rfl
def c138:AC:=(Sr [Mb 2 false] (.seq (Sr [Mc 3 1] (.block 0 (.loop (.seq (Sr [Mv 4 3,Mv 5 0,Oo 6 (.len false (.tmp 5)),Bn 7 .lss 4 6] (Cd 7 .skip (.exit 0))) (.seq (.block 1 (Sd [Mv 10 0,Mv 11 3,Oo 12 (.ia 1 (.tmp 10) (.tmp 11)),Ld 13 12,Mv 14 0,Mv 15 3,Bc 16 .sub 15 1,Oo 17 (.ia 1 (.tmp 14) (.tmp 16)),Ld 18 17,Bn 19 .leq 13 18] (Cd 19 (Sr [Mb 2 false] .ret) .skip))) (.reg [Mv 8 3,Bc 9 .add 8 1,Mv 3 9])))))) (Sr [Mb 2 true] .ret)))
theorem k138:ZaA Tryz.prog 138=some ⟨c138,[(.tmp 2)],20⟩:=by kernel_rfl
def c137:AC:=(Sr [Oo 1 (.box 53 2 (.tmp 0)),Mb 2 false] (Sr [Oo 3 (.load true 2 (.tmp 1)),Cl 4 131 [(.tmp 3)],Cl 5 138 [(.tmp 4)],Oo 6 (.un .not (.tmp 5)),Mv 2 6] .ret))
theorem k137:ZaA Tryz.prog 137=some ⟨c137,[(.tmp 2)],7⟩:=by kernel_rfl
def c135:AC:=(Sr [Oo 1 (.box 26 3 (.tmp 0)),Oo 2 (.mv (.const .nilFunc))] (Sr [Oo 3 (.mkfn 217 [(.tmp 1)]),Mv 2 3] .ret))
theorem k135:ZaA Tryz.prog 135=some ⟨c135,[(.tmp 2)],4⟩:=by kernel_rfl
def c281:AC:=(Sr [Ms 6] (Sr [Mv 11 0,Oo 12 (.call (.func 320) [(.tmp 11),(.const (.string ⟨#[47]⟩))]),Mv 10 12,Ex 13 10 0,Ex 14 10 1,Ex 15 10 2,Mv 7 13,Mv 8 14,Mv 9 15] (.seq (.block 0 (Sr [Mv 17 9,Oo 18 (.un .not (.tmp 17)),Mv 16 18] (Cd 16 (Sr [Mv 19 0,Mv 20 1,Oo 21 (.call (.func 321) [(.tmp 19),(.const (.string ⟨#[37,115]⟩)),(.tmp 20),(Ci 1)]),Mv 6 21] .ret) (Sr [Mv 23 2,Bc 24 .gtr 23 0,Mv 22 24] (Cd 22 (Sr [Mv 25 8,Mv 6 25] .ret) .skip))))) (Sr [Mv 26 7,Mv 6 26] .ret))))
theorem k281:ZaA Tryz.prog 281=some ⟨c281,[(.tmp 6)],27⟩:=by kernel_rfl
def c220:AC:=(Sr [Oo 2 (.box 63 10 (.tmp 0)),Oo 3 (.box 136 3 (.tmp 1)),Oo 4 (.new 29 3 [(iv 0),(iv 0),Ss])] (.seq (.drw [Fa 5 0 2,Ld 6 5,Fa 7 1 3,Ld 8 7,Bn 9 .add 6 8,Fa 10 1 3,Ld 11 10,Fa 12 3 2,Ld 13 12,Fa 14 2 3,Ld 15 14,Fa 16 1 3,Ld 17 16,Cl 18 281 [(.tmp 13),(.tmp 15),(.tmp 17)],Oo 19 (.build [(iv 0),(iv 0),Ss] [(0,(1,(.tmp 9))),(1,(1,(.tmp 11))),(2,(1,(.tmp 18)))])] [false] [⟨none,none,(.store 3 (.tmp 4) (.tmp 19))⟩]) .ret))
theorem k220:ZaA Tryz.prog 220=some ⟨c220,[(.cell 4 true 3)],20⟩:=by kernel_rfl
def c222:AC:=(Sr [Oo 2 (.box 121 4 (.tmp 0)),Mb 3 false] (Sr [Fa 4 0 2,Ld 5 4,Ld 6 1,Bn 7 .geq 5 6,Mv 3 7] .ret))
theorem k222:ZaA Tryz.prog 222=some ⟨c222,[(.tmp 3)],8⟩:=by kernel_rfl
def c143:AC:=(Sr [Oo 3 (.box 3 1 (.tmp 1)),Oo 4 (.mv (.const (.slice none 0 0)))] (Sr [Mv 6 0,Oo 7 (.mkfn 222 [(.tmp 3)]),Cl 8 221 [(.tmp 6),(.tmp 7)],Mv 5 8] (.seq (Sr [Mv 9 5,Bc 10 .lss 9 0] (Cd 10 (Sr [Mv 11 0,Mv 4 11] .ret) .skip)) (Sr [Mv 12 0,Mv 13 5,Oo 14 (.slc 4 (.tmp 12) none (some (.tmp 13)) none),Mv 4 14] .ret))))
theorem k143:ZaA Tryz.prog 143=some ⟨c143,[(.tmp 4)],15⟩:=by kernel_rfl
theorem place1_a {nm:ByteArray}{z:Zon}{h:AH}:Ac 280 [.agg (zonC z),.rp [sv nm]] h (bv (decide (z.1=nm))):=by
 refine tI' k280 fun N hn hlt hlA hbd=>?_
 simp only [tb'] at hbd ⊢
 refine wr'<|E' (Zba (cvl lk rfl) rfl (hl0 hn) ha0) pt<|mv' lkb pt<|sn'<|wr'<|V' (Zab lk) pt<|V' (Zac lk (hga hn rfl) gt0) pt<|V' (ZaD lk gt) pt<|V' (ZcD lk lk) pt<|mv' lk pt<|Zar<|?_
 exact Zah<|Zaa<|Zaf rz<|rT' rfl
def Zid (zs:List Zon) (nm:ByteArray):Int:=idxV (fun z:Zon=>decide (z.1=nm)) zs
theorem Zm8 {a:List Rul}{z:List Zon}{k:List Lnk}{nm:ByteArray}{h:AH}(hz:z.length≤9223372036854775807):Ac 215 [.agg [.sl a.length 11 false (rows rulC a),.sl z.length 2 false (rows zonC z),.sl k.length 2 false (rows lnkC k)],sv nm] h (iv (Zid z nm)):=by
 refine tI' k215 fun N hn hlt hlA hbd=>?_
 simp only [tb'] at hbd ⊢
 refine wr'<|E' (Zba (cvl lk rfl) rfl (hl0 hn) ha0) pt<|E' (Zba (cvl lk rfl) rfl (hl1 hn) ha1) pt<|mv' lki pt<|Zar<|?_
 refine Za6 (ALe.icePtr (hga hn rfl) gt3 (by simp) pt3 (hs1 hn)) ?_
 refine wr'<|V' (Zab lk) pt<|V' (Zac lk (hga hn rfl) gt1) pt<|V' (ZfW mp) pt<|?_
 refine Zad mp (ixZonC_a (p:=fun z=>decide (z.1=nm)) (fun c _ _=>place1_a) hz) pt ?_
 exact mv' lk pt<|sn'<|Zaa<|Zaf rz<|rT' rfl
theorem miss1_a {a:List Rul}{z:List Zon}{k:List Lnk}{l:Lnk}{h:AH}(hz:z.length≤9223372036854775807):Ac 214 [.agg (lnkC l),.rp [.sl a.length 11 false (rows rulC a),.sl z.length 2 false (rows zonC z),.sl k.length 2 false (rows lnkC k)]] h (bv (decide (Zid z l.1<0))):=by
 refine tI' k214 fun N hn hlt hlA hbd=>?_
 simp only [tb'] at hbd ⊢
 refine wr'<|E' (Zba (cvl lk rfl) rfl (hl0 hn) ha0) pt<|mv' lkb pt<|sn'<|wr'<|V' (ZaI lk Zs5 rfl) pt<|V' (Zab lk) pt<|V' (Zac lk (hga hn rfl) gt0) pt<|Zad mp (Zm8 hz) pt<|V' (Za9 lk lki) pt<|mv' lk pt<|?_
 exact sn'<|Zaa<|Zaf rz<|rT' rfl
theorem Znx {x:Era}{last:Bool}(h:eraX x last=0):(xRl x≠⟨#[]⟩→Zcs (xRl x)=true)∧ZbN (xFm x)=true∧(-64800≤xSh x∧xSh x≤64800)∧(0≤xSv x∧xSv x≤10800)∧(xRl x≠⟨#[]⟩→xSv x=0)∧xOp x=last ∧
  (xOp x=false→Zbd x.2.2.2.2.2.1.1 x.2.2.2.2.2.1.2.1 x.2.2.2.2.2.1.2.2=true∧0≤x.2.2.2.2.2.2.1∧x.2.2.2.2.2.2.1≤172800):=by
 unfold eraX eraE at h
 split at h
 ·cases h
 rename_i h1
 split at h
 ·cases h
 rename_i h2
 split at h
 ·cases h
 rename_i h3
 split at h
 ·cases h
 rename_i h4
 have p1:xRl x≠⟨#[]⟩→Zcs (xRl x)=true:=fun hn=>Decidable.of_not_not fun e=>h1 (.inl ⟨hn,e⟩)
 have p2:ZbN (xFm x)=true:=Decidable.of_not_not fun e=>h1 (.inr e)
 have p3:=ZbE.1 (Decidable.of_not_not fun e=>h2 (.inl e))
 have p4:=ZbE.1 (Decidable.of_not_not fun e=>h2 (.inr e))
 have p5:xRl x≠⟨#[]⟩→xSv x=0:=fun hn=>Decidable.of_not_not fun e=>h3 ⟨hn,e⟩
 refine ⟨p1,p2,p3,p4,p5,Decidable.of_not_not h4,fun ho=>?_⟩
 rw [if_neg (by rw [show x.2.2.2.2.1=false from ho];simp)] at h
 split at h
 ·cases h
 rename_i h5
 split at h
 ·cases h
 rename_i h6
 exact ⟨Decidable.of_not_not h5,ZbE.1 (Decidable.of_not_not h6)⟩
theorem Zmf : ∀ {l:List Era},Zgi l=0 → ∀ k (h:k<l.length),eraX l[k] (decide (k+1=l.length))=0
 | [],_,k,h=>by simp at h
 | x::l,he,k,h=>by
  rw [Zgi] at he
  split at he
  ·rename_i h1;exact absurd he h1
  rename_i h1
  cases k with
  | zero =>
   have h2:=Decidable.of_not_not h1
   have e:l.isEmpty=decide (0+1=(x::l).length):=by rw [Bool.eq_iff_iff,List.isEmpty_iff,decide_eq_true_iff,List.length_cons];cases l <;> simp
   rw [←e];exact h2
  | succ k =>
   have:=Zmf he k (by simpa using h)
   simpa using this
structure okZ (es:List Era):Prop where
 ne:es≠[]
 fm : ∀ x∈es,ZbN (xFm x)=true∧(-64800≤xSh x∧xSh x≤64800)∧(0≤xSv x∧xSv x≤10800)∧(xRl x≠⟨#[]⟩→xSv x=0)
 op : ∀ k (h:k<es.length),xOp es[k]=decide (k+1=es.length)
 un : ∀ k (h:k<es.length),k+1<es.length→Zbd es[k].2.2.2.2.2.1.1 es[k].2.2.2.2.2.1.2.1 es[k].2.2.2.2.2.1.2.2=true∧0≤es[k].2.2.2.2.2.2.1∧es[k].2.2.2.2.2.2.1≤172800
 len:es.length≤8
theorem okZ_of {z:Zon}(h:ZeL z=0) (hl:z.2.length≤8):okZ z.2:=by
 unfold ZeL at h
 split at h
 ·cases h
 rename_i h1
 have hne:z.2≠[]:=fun e=>h1 (.inr (by rw [e];rfl))
 have hg:=Zmf h
 refine ⟨hne,fun x hx=>?_,fun k hk=>(Znx (hg k hk)).2.2.2.2.2.1,fun k hk hk2=>?_,hl⟩
 ·obtain ⟨k,hk,rfl⟩:=List.getElem_of_mem hx
  obtain ⟨_,q2,q3,q4,q5,_⟩:=Znx (hg k hk)
  exact ⟨q2,q3,q4,q5⟩
 obtain ⟨_,_,_,_,_,q6,q7⟩:=Znx (hg k hk)
 exact q7 (by rw [q6];simp;omega)
theorem endV_bd {x:Era}(h1:Zbd x.2.2.2.2.2.1.1 x.2.2.2.2.2.1.2.1 x.2.2.2.2.2.1.2.2=true) (h2:0≤x.2.2.2.2.2.2.1∧x.2.2.2.2.2.2.1≤172800) (h3 : -64800≤xSh x∧xSh x≤64800) : -100000000000≤endV x∧endV x≤300000000000:=by
 have:=ZoF h1
 unfold endV
 split <;> omega
theorem ZkS {α:Type}{l:List α}{k:Nat}(h:k+1<l.length):l.dropLast.take (k+1)=l.dropLast.take k++[l[k]]:=by
 have hk:k<l.dropLast.length:=by simp;omega
 rw [List.take_succ_eq_append_getElem hk]
 congr 2
 simp
theorem Zmg {es:List Era}{k:Nat}(h:k+1<es.length):(Zcb es).take (k+1)=(Zcb es).take k++[endV es[k]]:=by
 unfold Zcb
 rw [←List.map_take,←List.map_take,ZkS h,List.map_append,List.map_cons,List.map_nil]
theorem ends_a {nm:ByteArray}{es:List Era}{h:AH}(hz:okZ es):Ac 131 [.agg [sv nm,.sl es.length 10 false (rows eraC es)]] h (.sl (Zcb es).length 1 false (rows intC (Zcb es))):=by
 have hlen:=hz.len
 have hne:=List.length_pos_iff.2 hz.ne
 have hel:=ZkQ es
 refine tW' k131 fun N hn hlt hlA hbd=>?_
 simp only [tb'] at hbd ⊢
 refine wr'<|E' (Zba (cvl lk0 rfl) rfl (hl0 hn) ha0) pt1<|mv' lkn pt2<|sn'<|wr'<|mv' lkn pt3<|Zar<|Za6 (ALe.own0' (st':=1) (ty:=3) gt3 (hl1 hn) pt3 ha1)<|Zal<|wr'<|?_
 refine V' (Zab lk) pt<|V' (Zac lk (hga hn rfl) gt1) pt<|V' (ZaL lk) pt<|mv' lki pt<|sn'<|Zap<|?_
 refine w_lp (ι:=Nat) (fun (k:Nat)=>[(3,.own (N+1) k k),(10,iv (k:Int)),(5,.any),(6,.any)]++rn' 11 27) (fun (k:Nat)=>[(1,.mk k 3 1 (rows intC ((Zcb es).take k)))]) (fun (k:Nat)=>k<es.length) (fun (k:Nat)=>es.length-k) (0) (by exact hne) ?_
 rintro k hi1
 try simp only [sm',Nat.reduceAdd]
 replace hi1:k<es.length:=hi1
 refine wr'<|V' (Za9 lk lk) pt<|sn'<|Zal<|?_
 refine Zds lk (by exact decide_eq_true (by omega)) ?_
 refine Zae<|Zah<|Zal<|Zap<|wr'<|?_
 refine V' (ZaU lk lk ZdP (nb' rfl) ro (by omega) ro rfl) pt ?_
 refine V' (ZaI lk Zp8 rfl) pt<|E' (ZaV (hl2 hn) ha2) pt<|E' (Zak lk (cvl lk rfl) (hga hn rfl) rfl (nb' rfl) rfl Zn1 (hs2 hn)) ptn<|sn'<|Zal<|wr'<|V' (Zab lk) pt<|V' (Zac lk (hga hn rfl) gt4) pt<|sn'<|?_
 have hop:=hz.op k hi1
 have htl:((Zcb es).take k).length=k:=by rw [List.length_take,hel];omega
 refine cd' lk (fun hc2=>?_) (fun hc2=>?_)
 ·rw [show es[k].2.2.2.2.1=decide (k+1=es.length) from hop] at hc2
  have hke:k+1=es.length:=of_decide_eq_true hc2
  refine ZaM<|ZaC<|x_pas (Nat.ne_of_beq_eq_false rfl)<|ZaC<|ZaC<|Za7<|?_
  refine Za6 (ALe.iceR (hga hn rfl) gt3 (List.take_of_length_le (by rw [ZkI,htl];omega)) (by rw [ZkI,htl];omega) pt3 (hs1 hn)) ?_
  refine wr'<|mv' lk pt<|mv' lk pt<|sn'<|Zaa<|Zaf rz<|rtW'<|?_
  rw [show k=(Zcb es).length by omega,List.take_length];exact Wk.full
 rw [show es[k].2.2.2.2.1=decide (k+1=es.length) from hop] at hc2
 have hke:k+1<es.length:=by have:=of_decide_eq_false hc2;omega
 obtain ⟨hd,ha1,ha2⟩:=hz.un k hi1 hke
 have hsh : -64800≤es[k].1∧es[k].1≤64800:=(hz.fm _ (List.getElem_mem hi1)).2.1
 have hnb:=ZoF hd
 have hdi:=Zcn.1 hd
 have hml:=ZdW es[k].2.2.2.2.2.1.1 es[k].2.2.2.2.2.1.2.1
 refine Zae<|Zah<|Zal<|Zb2<|D' (Zab lk) pt<|D' (ZbM lk) pt<|D' (Zan lk (hga hn rfl) Zp9 rfl) pt<|?_
 refine ZaY mp (fun hE hX=>ZhF (by omega) (by omega) (by omega) (by omega) (by omega) (by omega)) pt ?_
 refine D' (ZeJ lk lki (by omega) (by omega)) pt ?_
 refine D' (Zab lk) pt<|D' (ZbM lk) pt<|D' (Zac lk (hga hn rfl) gt8) pt<|?_
 refine D' (Zay lk lk (by omega) (by omega)) pt ?_
 refine D' (v_mv lk) pt<|ZbI<|?_
 refine Zcf ?_
 refine sn'<|Zal<|wr'<|V' (Zab lk) pt<|V' (ZbM lk) pt<|V' (Zac lk (hga hn rfl) gt9) pt<|V' (ZaQ lk lki) pt<|sn'<|?_
 refine cd' lk (fun hc3=>?_) (fun hc3=>?_)
 ·have hev:endV es[k]=num es[k].2.2.2.2.2.1.1 es[k].2.2.2.2.2.1.2.1 es[k].2.2.2.2.2.1.2.2*86400+es[k].2.2.2.2.2.2.1-es[k].1:=by unfold endV;rw [if_pos hc3]
  refine Zat<|mv' lk pt<|V' (Zab lk) pt<|V' (Zac lk (hga hn rfl) gt0) pt<|?_
  refine V' (ZbA lk lk (by omega) (by omega)) pt ?_
  refine mv' lk pt<|sn'<|Zat<|mv' lk pt<|mv' lk pt<|E' (ZdH (Zhm (cvl lk rfl) rfl) (hl3 hn) ha3) pt<|?_
  refine E' (Zdj (Zcr lk (hga hn rfl) rfl Zmx (nb' rfl)) lk (hga hn rfl) ((ZkI _).trans (by rw [htl])) (by omega) rfl (hs1 hn)) pt ?_
  refine mv' lk pt<|Zar<|Zaz<|Zah<|Zat<|?_
  refine V' (Zay lk lki (by omega) (by omega)) pt ?_
  refine mv' lk pt<|Zar<|ZaB<|?_
  refine lU' (k+1) (by (try dsimp only);omega) (by (try dsimp only);(try simp only [sm',Nat.reduceAdd]);exact bk' 2 hn hlt (by rw [Zmg hke,hev,Za3,Zbv];rfl))
 have hev:endV es[k]=num es[k].2.2.2.2.2.1.1 es[k].2.2.2.2.2.1.2.1 es[k].2.2.2.2.2.1.2.2*86400+es[k].2.2.2.2.2.2.1:=by unfold endV;rw [if_neg hc3,Int.sub_zero]
 refine Zae<|Zah<|Zat<|mv' lk pt<|mv' lk pt<|E' (ZdH (Zhm (cvl lk rfl) rfl) (hl3 hn) ha3) pt<|?_
 refine E' (Zdj (Zcr lk (hga hn rfl) rfl Zmx (nb' rfl)) lk (hga hn rfl) ((ZkI _).trans (by rw [htl])) (by omega) rfl (hs1 hn)) pt ?_
 refine mv' lk pt<|Zar<|Zaz<|Zah<|Zat<|?_
 refine V' (Zay lk lki (by omega) (by omega)) pt ?_
 refine mv' lk pt<|Zar<|ZaB<|?_
 refine lU' (k+1) (by (try dsimp only);omega) (by (try dsimp only);(try simp only [sm',Nat.reduceAdd]);exact bk' 2 hn hlt (by rw [Zmg hke,hev,Za3,Zbv];rfl))
theorem rising_a {l:List Int}{full:Bool}{h:AH}(hl:l.length≤9223372036854775807):Ac 138 [.sl l.length 1 full (rows intC l)] h (bv (risL l)):=by
 refine tI' k138 fun N hn hlt hlA hbd=>?_
 simp only [tb'] at hbd ⊢
 refine wr'<|mv' lkb pt<|sn'<|Zal<|wr'<|mv' lki pt<|sn'<|Zap<|?_
 refine w_lp (ι:=Nat) (fun (k:Nat)=>[(3,iv ((k:Int)+1)),(2,.any)]++rn' 4 16) (fun (k:Nat)=>[]) (fun (k:Nat)=>(k+1≤l.length∨k=0) ∧ ∀ i (h:i+1<l.length),i<k→l[i]<l[i+1]) (fun (k:Nat)=>l.length-k) (0) (by exact ⟨.inr rfl,fun i _ h=>by omega⟩) ?_
 rintro k hi1
 try simp only [sm',Nat.reduceAdd]
 obtain ⟨hk1,hk2⟩:=hi1
 refine Zal<|wr'<|mv' lk pt<|mv' lk pt<|V' (ZaL lk) pt<|V' (Za9 lk lk) pt<|sn'<|?_
 refine cd' lk (fun hc1=>?_) (fun hc1=>?_)
 ·have hk:k+1<l.length:=by omega
  refine Zae<|Zah<|Zal<|Zap<|Zal<|Zb2<|D' (v_mv lk) pt<|D' (v_mv lk) pt<|?_
  refine D' (ZaU (k:=k+1) lk lk Zep (nb' rfl) ro (by omega) ro rfl) pt ?_
  refine D' (ZaD lk gt) pt<|D' (v_mv lk) pt<|D' (v_mv lk) pt<|?_
  refine D' (ZbA lk lki (by omega) (by omega)) pt ?_
  refine D' (ZaU (k:=k) lk lk Zep (nb' rfl) ro (by omega) ro rfl) pt ?_
  refine D' (ZaD lk gt) pt<|D' (Zc1 lk lk) pt<|ZbI<|?_
  refine Zcf ?_
  refine sn' ?_
  refine cd' lk (fun hc2=>?_) (fun hc2=>?_)
  ·have hR:risL l=false:=Zpv hk (by omega)
   refine wr'<|mv' lkb pt<|sn'<|Zaa<|Zaq<|Zag<|Zag<|Zaq<|Zag<|Zaf rz<|rT'<|?_
   rw [hR]
  refine Zae<|Zaz<|Zah<|Zat<|mv' lk pt<|?_
  refine V' (Zay lk lki (by omega) (by omega)) pt ?_
  refine mv' lk pt<|Zar<|ZaB<|?_
  refine lU' (k+1) (by (try dsimp only);exact ⟨by omega,fun i hi h=>by by_cases e:i=k;(subst e;omega);exact hk2 i hi (by omega)⟩) (by (try dsimp only);(try simp only [sm',Nat.reduceAdd]);exact ALe.same (by repeat (first | exact wk0 | refine wka ?_ | refine wk1 rfl ?_ | refine wk1 (by first | rfl | exact ivx (by omega)) ?_)) rfl)
 refine ZaM<|ZaC<|ZaC<|Za7<|Zah<|wr'<|mv' lkb pt<|sn'<|Zaa<|Zaf rz<|rT'<|?_
 exact bvx (ZlK fun i hi=>hk2 i hi (by omega)).symm
theorem check1_a {z:Zon}{h:AH}(hz:okZ z.2):Ac 137 [.agg (zonC z)] h (bv (!risL (Zcb z.2))):=by
 obtain ⟨nm,es⟩:=z
 have hel:(Zcb es).length=es.length-1:=ZkQ es
 have hlen:es.length≤8:=hz.len
 refine tI' k137 fun N hn hlt hlA hbd=>?_
 simp only [tb'] at hbd ⊢
 refine wr'<|E' (Zba (cvl lk rfl) rfl (hl0 hn) ha0) pt<|mv' lkb pt<|sn'<|wr'<|V' (Zan lk (hga hn rfl) Zqa rfl) pt<|Zad mp (ends_a hz) pt<|?_
 refine Zad mp (rising_a (show (Zcb es).length≤9223372036854775807 by omega)) pt ?_
 exact V' (Zax lk) pt<|mv' lk pt<|sn'<|Zaa<|Zaf rz<|rT' rfl
theorem eras_a {a:List Rul}{z:List Zon}{k:List Lnk}{h:AH}:Ac 135 [.agg [.sl a.length 11 false (rows rulC a),.sl z.length 2 false (rows zonC z),.sl k.length 2 false (rows lnkC k)]] h (.clo (.func 217) [.rp [.sl a.length 11 false (rows rulC a),.sl z.length 2 false (rows zonC z),.sl k.length 2 false (rows lnkC k)]]):=by
 refine tI' k135 fun N hn hlt hlA hbd=>?_
 simp only [tb'] at hbd ⊢
 refine wr'<|E' (Zba (cvl lk rfl) rfl (hl0 hn) ha0) pt<|mv' rfl pt<|Zar<|?_
 refine Za6 (ALe.icePtr (hga hn rfl) gt1 (by simp) pt1 (hs0 hn)) ?_
 exact wr'<|V' (ZfW mp) pt<|mv' lk pt<|sn'<|Zaa<|Zaf rz<|rT' rfl
theorem look1p_a {nm:ByteArray}{l:Lnk}{id:Nat}{h:AH}(he:h[id]?=some (.mk 0 9 1 [sv nm])):Ac 219 [.agg (lnkC l),.ptr id 0 0] h (bv (decide (l.2=nm))):=by
 refine tI' k219 fun N hn hlt hlA hbd=>?_
 simp only [tb'] at hbd ⊢
 refine wr'<|E' (Zba (cvl lk rfl) rfl (hl0 hn) ha0) pt<|mv' lkb pt<|sn'<|wr'<|V' (Zab lk) pt<|V' (Zac lk (hga hn rfl) gt1) pt<|V' (Zac lk (ZeF he) gt0) pt<|V' (ZcD lk lk) pt<|mv' lk pt<|Zar<|?_
 exact Zah<|Zaa<|Zaf rz<|rT' rfl
def ZpC (s:Src) (nm:ByteArray):Int:=Zid s.2.1 (match s.2.2[s.2.2.findIdx fun l=>decide (l.2=nm)]? with
 | some l=>l.1
 | none=>nm)
theorem look_a {a:List Rul}{z:List Zon}{k:List Lnk}{nm:ByteArray}{h:AH}(hz:z.length≤9223372036854775807) (hk:k.length≤9223372036854775807):Ac 139 [.agg [.sl a.length 11 false (rows rulC a),.sl z.length 2 false (rows zonC z),.sl k.length 2 false (rows lnkC k)],sv nm] h (iv (ZpC (a,z,k) nm)):=by
 have hkk:=hk
 refine tI' k139 fun N hn hlt hlA hbd=>?_
 simp only [tb'] at hbd ⊢
 refine wr'<|E' (Zba (cvl lk rfl) rfl (hl0 hn) ha0) pt<|E' (Zba (cvl lk rfl) rfl (hl1 hn) ha1) pt<|mv' lki pt<|sn'<|wr'<|V' (Zab lk) pt<|V' (Zac lk (hga hn rfl) gt2) pt<|V' (ZfW mp) pt<|?_
 refine Zad mp (ZoR (p:=fun l:Lnk=>decide (l.2=nm)) (fun c _ E=>look1p_a (ZeF (hga hn rfl))) hkk) pt ?_
 refine mv' lk pt<|sn'<|Zal<|wr'<|mv' lk pt<|V' (Zft lk lki) pt<|sn'<|?_
 refine cd' lk (fun hc1=>?_) (fun hc1=>?_)
 ·have hlt':k.findIdx (fun l:Lnk=>decide (l.2=nm))<k.length:=by unfold idxV at hc1;split at hc1;assumption;omega
  have hix:idxV (fun l:Lnk=>decide (l.2=nm)) k=((k.findIdx fun l:Lnk=>decide (l.2=nm):Nat):Int):=if_pos hlt'
  refine Zat<|V' (Zab lk) pt<|V' (Zac lk (hga hn rfl) gt2) pt<|mv' lk pt<|?_
  refine V' (ZaU (k:=k.findIdx fun l:Lnk=>decide (l.2=nm)) lk lk ZdO (nb' rfl) ro (by omega) ro rfl) pt ?_
  refine V' (ZbB lk dp0) pt<|V' (ZaD lk gt) pt<|E' (Zak lk (cvl lk rfl) (hga hn rfl) rfl (nb' rfl) rfl Zqc (hs1 hn)) ptn<|sn'<|wr'<|V' (Zan lk (hga hn rfl) Zg4 rfl) pt<|V' (Zac lk (hga hn rfl) gt0) pt<|Zad mp (Zm8 hz) pt<|mv' lk pt<|sn'<|Zaa<|?_
  refine Zaf rz<|rT'<|?_
  refine ivx ?_;unfold ZpC;rw [show (a,z,k).2.2[(a,z,k).2.2.findIdx fun l=>decide (l.2=nm)]?=some k[k.findIdx fun l:Lnk=>decide (l.2=nm)] from List.getElem?_eq_getElem hlt']
 have hlt':¬k.findIdx (fun l:Lnk=>decide (l.2=nm))<k.length:=fun h=>hc1 (by unfold idxV;rw [if_pos h];omega)
 refine Zae<|Zah<|wr'<|V' (Zan lk (hga hn rfl) Zg4 rfl) pt<|V' (Zac lk (hga hn rfl) gt0) pt<|Zad mp (Zm8 hz) pt<|mv' lk pt<|sn'<|Zaa<|Zaf rz<|rT'<|?_
 refine ivx ?_;unfold ZpC;rw [show (a,z,k).2.2[(a,z,k).2.2.findIdx fun l=>decide (l.2=nm)]?=none from List.getElem?_eq_none (Nat.le_of_not_lt hlt')]
theorem repl_one {s lt:Bs}:Lib.replace s [37,115] lt 1=if (Lib.cut s [37,115]).2.2=true then (Lib.cut s [37,115]).1++lt++(Lib.cut s [37,115]).2.1 else s:=by
 have hge:=Lib.index_ge s [37,115]
 unfold Lib.cut
 by_cases h0:0≤Lib.index s [37,115]
 ·rw [if_pos h0]
  obtain ⟨i,hi⟩ : ∃ i:Nat,Lib.index s [37,115]=i:=⟨(Lib.index s [37,115]).toNat,by omega⟩
  simp only [if_true,hi,Int.toNat_natCast,List.length_cons,List.length_nil]
  unfold Lib.replace
  split
  ·rename_i e
   have e:[37,115]=lt:=by simpa using e
   subst e
   rcases Lib.index_spec s [37,115] with ⟨h1,_⟩ | ⟨j,h1,h2,h3,_⟩
   ·omega
   obtain rfl:i=j:=by omega
   have h4:[37,115] <+: s.drop i:=by simpa [Lib.occAt] using h3
   obtain ⟨t,ht⟩:=h4
   have e2:s.drop (i+2)=t:=by rw [←List.drop_drop,←ht];rfl
   rw [e2,List.append_assoc,ht,List.take_append_drop]
  have hc:0<Lib.count s [37,115]:=by rw [Lib.count_hit (by simp) hi];omega
  unfold Lib.replaceNum
  rw [if_neg (by omega)]
  rw [show (1:Int).toNat=0+1 from rfl,Lib.replaceK_hit _ _ _ _ _ hi]
  rfl
 rw [if_neg h0]
 simp only [Bool.false_eq_true,if_false]
 unfold Lib.replace
 split
 ·rfl
 have hm:Lib.index s [37,115] = -1:=by omega
 unfold Lib.replaceNum
 rw [if_pos (.inr (by rw [Lib.count_miss hm];simp)),Lib.count_miss hm];rfl
theorem Zrr {s lt:ByteArray}{h:AH}(h1:s.size≤24) (h2:lt.size≤24):Ac 321 [sv s,sv (bA [37,115]),sv lt,iv 1] h (sv (if (cutL s [37,115]).2.2=true then bA ((cutL s [37,115]).1++aB lt++(cutL s [37,115]).2.1) else s)):=by
 refine ACalls.of_below (by kernel_rfl) fun w g vs hs ha=>?_
 simp only [RepL,Rep] at ha
 obtain ⟨u1,us1,e1,rfl,u2,us2,rfl,rfl,u3,us3,rfl,rfl,u4,us4,rfl,rfl,rfl⟩:=ha
 obtain rfl:vs = #[.string s,.string (bA [37,115]),.string lt,.int .i64 1]:=by cases vs;simp_all
 obtain ⟨m,hm⟩:=hs.glob.w.maxLen
 have hc:=Lib.countB_le (bA [37,115]) (by decide) s.size s (Nat.le_refl _)
 have hc2:Lib.countB s (bA [37,115])*lt.size≤24*24:=Nat.mul_le_mul (by omega) h2
 refine (Tryz.strings_Replace s (bA [37,115]) lt 1 m w (by omega) hm (by decide) (by omega)).mono ?_
 rintro e w' ⟨rfl,hb⟩
 refine ⟨_,rfl,hb,?_⟩
 simp only [Rep]
 have:=repl_one (s:=aB s) (lt:=aB lt)
 show Value.string (bA (Lib.replace (aB s) [37,115] (aB lt) 1))=_
 rw [this]
 unfold cutL
 split <;> rfl
theorem named_a {fm lt:ByteArray}{sa:Int}{h:AH}(h1:fm.size≤24) (h2:lt.size≤24):Ac 281 [sv fm,sv lt,iv sa] h (sv (ZkH fm lt sa)):=by
 refine tI' k281 fun N hn hlt hlA hbd=>?_
 simp only [tb'] at hbd ⊢
 refine wr'<|mv' lks pt<|sn'<|wr'<|mv' lk pt<|Zad mp (cut1_a h1) pt<|mv' lk pt<|V' (Zbb lk gt) pt<|V' (Zbb lk gt) pt<|V' (Zbb lk gt) pt<|mv' lk pt<|?_
 refine mv' lk pt<|mv' lk pt<|sn'<|Zal<|Zap<|wr'<|mv' lk pt<|V' (Zax lk) pt<|mv' lk pt<|sn'<|?_
 refine Zau lk (fun hc1=>?_) (fun hc1=>?_)
 ·refine wr'<|mv' lk pt<|mv' lk pt<|Zad mp (Zrr h1 h2) pt<|mv' lk pt<|sn'<|Zaa<|Zaq<|Zag<|Zaf rz<|rT'<|?_
  unfold ZkH;exact congrArg (fun z=>sv z) (if_neg (by have:=hc1;rw [Bool.not_eq_true'] at this;rw [this];simp)).symm
 refine wr'<|mv' lk pt<|V' (Zbs lk lki) pt<|mv' lk pt<|sn'<|?_
 refine cd' lk (fun hc2=>?_) (fun hc2=>?_)
 ·refine wr'<|mv' lk pt<|mv' lk pt<|sn'<|Zaa<|Zaq<|Zag<|Zaf rz<|rT'<|?_
  unfold ZkH;rw [if_pos (by have:=hc1;rwa [Bool.not_eq_false'] at this),if_pos hc2]
 refine Zae<|Zaz<|Zah<|wr'<|mv' lk pt<|mv' lk pt<|sn'<|Zaa<|Zaf rz<|rT'<|?_
 unfold ZkH;rw [if_pos (by have:=hc1;rwa [Bool.not_eq_false'] at this),if_neg hc2]
theorem Znf {x:Era}{t:Tim}{h:AH}(h1:(xFm x).size≤24) (h2:t.2.2.size≤24) (h3 : -64800≤xSh x∧xSh x≤64800) (h4:0≤t.2.1∧t.2.1≤10800):ACalls Tryz.prog 220 [.agg (eraC x),.agg (timC t)] h fun y h'=>h'=h∧y=.ret (.agg [iv (locV x t.2.1 t.2.2).1,iv (locV x t.2.1 t.2.2).2.1,sv (locV x t.2.1 t.2.2).2.2]):=by
 obtain ⟨sh,rl,sa,fm,op,⟨⟨y,m,d⟩,a,c⟩⟩:=x
 obtain ⟨at_,sv_,lt⟩:=t
 simp only [xFm,xSh] at h1 h3
 simp only at h2 h4
 show ACalls _ _ [.agg [iv sh,sv rl,iv sa,sv fm,bv op,iv y,iv m,iv d,iv a,iv c],.agg [iv at_,iv sv_,sv lt]] h _
 refine tI' k220 fun N hn hlt hlA hbd=>?_
 simp only [tb'] at hbd ⊢
 refine wr'<|E' (Zba (cvl lk rfl) rfl (hl0 hn) ha0) pt<|E' (Zba (cvl lk rfl) rfl (hl1 hn) ha1) pt<|E' (ZaV (hl2 hn) ha2) pt<|sn'<|Zal<|Zb2<|D' (Zab lk) pt<|D' (Zac lk (hga hn rfl) gt0) pt<|D' (Zab lk) pt<|D' (Zac lk (hga hn rfl) gt1) pt<|?_
 refine D' (Zay lk lk (by omega) (by omega)) pt ?_
 refine D' (Zab lk) pt<|D' (Zac lk (hga hn rfl) gt1) pt<|D' (Zab lk) pt<|D' (Zac lk (hga hn rfl) gt3) pt<|D' (Zab lk) pt<|D' (Zac lk (hga hn rfl) gt2) pt<|D' (Zab lk) pt<|D' (Zac lk (hga hn rfl) gt1) pt<|?_
 refine ZaY mp (fun hE hX=>named_a h1 h2) pt ?_
 refine D' (Zaw (Zk6 (cvl lk rfl) rfl (cvl lk rfl) rfl (cvl lk rfl) rfl)) pt<|ZbI<|?_
 refine Zcf ?_
 exact E' (Zak lk (cvl lk rfl) (hga hn rfl) rfl (nb' rfl) rfl Zqb (hs2 hn)) ptn<|sn'<|Zaa<|Zaf (rs1 (rr_c gt (hga hn rfl) (ld1 Zg4 rfl)))<|rT' rfl
theorem cut1p_a {c:Chg}{e:Int}{h:AH}:ACalls Tryz.prog 222 [.agg (chgC c),.rp [iv e]] h fun y h'=>h'=h∧y=.ret (bv (decide (e≤c.1))):=by
 obtain ⟨c1,c2,c3,c4⟩:=c
 refine tI' k222 fun N hn hlt hlA hbd=>?_
 simp only [tb'] at hbd ⊢
 refine wr'<|E' (Zba (cvl lk rfl) rfl (hl0 hn) ha0) pt<|mv' lkb pt<|sn'<|wr'<|V' (Zab lk) pt<|V' (Zac lk (hga hn rfl) gt0) pt<|V' (ZaD lk gt) pt<|V' (Zft lk lk) pt<|mv' lk pt<|Zar<|?_
 refine Zah<|Zaa<|Zaf rz<|rT'<|?_
 exact bvx (by first | rfl | (rw [Bool.eq_iff_iff];simp))
theorem ZsA {l:List Chg}{e:Int}:cutV l e=l.take (l.findIdx fun c=>decide (e≤c.1)):=by
 unfold cutV
 induction l with
 | nil=>rfl
 | cons c l ih =>
  rw [List.takeWhile_cons,List.findIdx_cons]
  by_cases h:c.1<e
  ·rw [if_pos (by simpa using h),ih,show decide (e≤c.1)=false by simp;omega];rfl
  rw [if_neg (by simpa using h),show decide (e≤c.1)=true by simp;omega];rfl
theorem zcut_a {l:List Chg}{e:Int}{full:Bool}{h:AH}(hl:l.length≤9223372036854775807):ACalls Tryz.prog 143 [.sl l.length 4 full (rows chgC l),iv e] h fun y h'=>h'=h∧y=.ret (.sl (cutV l e).length 4 false (rows chgC (cutV l e))):=by
 have hll:=hl
 refine tW' k143 fun N hn hlt hlA hbd=>?_
 simp only [tb'] at hbd ⊢
 refine wr'<|E' (Zba (cvl lk rfl) rfl (hl0 hn) ha0) pt<|mv' lkn pt<|Zar<|?_
 refine Za6 (ALe.icePtr (hga hn rfl) gt3 (by simp) pt3 (hs0 hn)) ?_
 refine wr'<|mv' lk pt<|V' (ZfW mp) pt<|?_
 refine Zad mp (ixPrtC_a (p:=fun c:Chg=>decide (e≤c.1)) (fun c _ _=>cut1p_a) hll) pt ?_
 refine mv' lk pt<|sn'<|Zal<|wr'<|mv' lk pt<|V' (Za9 lk lki) pt<|sn'<|?_
 refine cd' lk (fun hc1=>?_) (fun hc1=>?_)
 ·have hi:¬l.findIdx (fun c:Chg=>decide (e≤c.1))<l.length:=by unfold idxV at hc1;split at hc1;omega;assumption
  refine wr'<|mv' lk pt<|mv' lk pt<|sn'<|Zaa<|Zag<|Zaf rz<|rtW'<|?_
  rw [ZsA,List.take_of_length_le (by omega)];exact Wk.full
 have hi:l.findIdx (fun c:Chg=>decide (e≤c.1))<l.length:=by unfold idxV at hc1;split at hc1;assumption;omega
 have hix:idxV (fun c:Chg=>decide (e≤c.1)) l=((l.findIdx fun c:Chg=>decide (e≤c.1):Nat):Int):=if_pos hi
 refine Zae<|Zah<|wr'<|mv' lk pt<|mv' lk pt<|?_
 refine V' (v_hi (k:=l.findIdx fun c:Chg=>decide (e≤c.1)) lk lk ZbQ ro (by omega) ro) pt ?_
 refine mv' lk pt<|sn'<|Zaa<|Zaf rz<|rtW'<|?_
 rw [ZsA,List.length_take,Nat.min_eq_left (Nat.le_of_lt hi)];exact Wk.full
end Go.Proofs.YtlekejpogddndaaGreatDoor
end
section
namespace Go.Proofs.YtlekejpogddndaaGreatDoor
open Go.Ab Go.RowKit Civ
attribute [local simp] Zbk Zbx Zbr Zbt Zb9 ZdB
section
theorem Zs4 {a0 a1:AV}{l:List AV}:(a0::a1::l).take 2=[a0,a1]:=rfl
theorem Zp7 {a0 a1 c0 c1:AV}{l:List AV}:setCells (a0::a1::l) 0 [c0,c1]=c0::c1::l:=rfl
theorem Zp6 {a0 a1 a2 a3 a4 a5 a6 a7 a8 a9:AV}{l:List AV}:(a0::a1::a2::a3::a4::a5::a6::a7::a8::a9::l).take 10=[a0,a1,a2,a3,a4,a5,a6,a7,a8,a9]:=rfl
theorem ZiF {a0 a1 a2 a3 a4 a5 a6 a7 a8 a9 c0 c1 c2 c3 c4 c5 c6 c7 c8 c9:AV}{l:List AV}:setCells (a0::a1::a2::a3::a4::a5::a6::a7::a8::a9::l) 0 [c0,c1,c2,c3,c4,c5,c6,c7,c8,c9]=c0::c1::c2::c3::c4::c5::c6::c7::c8::c9::l:=rfl
theorem Zn0 {a0 a1 a2 a3 a4 a5 a6 a7 a8 a9:AV}{l:List AV}:((a0::a1::a2::a3::a4::a5::a6::a7::a8::a9::l).drop 0).take 10=[a0,a1,a2,a3,a4,a5,a6,a7,a8,a9]:=rfl
theorem Zg3 {a0 c0:AV}{l:List AV}:setCells (a0::l) 0 [c0]=c0::l:=rfl
theorem Zs3 {a0 a1 a2:AV}{l:List AV}:(a0::a1::a2::l).take 3=[a0,a1,a2]:=rfl
end
def c217:AC:=(Sr [Fa 7 1 1,Ld 8 7,Oo 9 (.len false (.tmp 8)),Mc 10 0] (.block 0 (.loop (Sr [Bn 11 .lss 10 9] (.seq (Cd 11 .skip (.exit 0)) (.seq (.block 1 (Sr [Oo 12 (.ia 2 (.tmp 8) (.tmp 10)),Oo 13 (.load true 2 (.tmp 12)),Oo 4 (.new 53 2 [Ss,(.sl 0 0 true [])]),⟨none,none,(.store 2 (.tmp 4) (.tmp 13))⟩] (Sr [Fa 14 1 4,Ld 15 14,Oo 16 (.len false (.tmp 15)),Mc 17 0] (.block 2 (.loop (Sr [Bn 18 .lss 17 16] (.seq (Cd 18 .skip (.exit 2)) (.seq (.block 3 (Sr [Oo 19 (.ia 10 (.tmp 15) (.tmp 17)),Oo 20 (.load true 10 (.tmp 19)),Oo 6 (.new 63 10 [(iv 0),Ss,(iv 0),Ss,(.v (.bool false)),(iv 0),(iv 0),(iv 0),(iv 0),(iv 0)]),⟨none,none,(.store 10 (.tmp 6) (.tmp 20))⟩] (Sr [Mv 21 0,Oo 22 (.load true 10 (.tmp 6)),Oo 23 (.call (.tmp 21) [(.tmp 22)]),Oo 24 (.un .not (.tmp 23))] (Cd 24 .ret .skip)))) (.reg [Bc 25 .add 17 1,Mv 17 25]))))))))) (.reg [Bc 26 .add 10 1,Mv 10 26])))))))
theorem k217:ZaA Tryz.prog 217=some ⟨c217,[],27⟩:=by kernel_rfl
def c134p:AC:=(.seq (.reg [⟨(some 1),none,(.box 26 3 (.tmp 0))⟩,⟨(some 2),none,(.new 4 1 [(.v (.bool false))])⟩]) (.seq (.reg [⟨(some 4),none,(.fa 2 (.tmp 1))⟩,⟨(some 5),none,(.load false 1 (.tmp 4))⟩,⟨(some 6),none,(.mkfn 214 [(.tmp 1)])⟩,⟨(some 7),none,(.call (.func 213) [(.tmp 5),(.tmp 6)])⟩]) (.seq (.cond (.tmp 7) (.seq (.reg [⟨none,none,(.store 1 (.tmp 2) (.const (.bool true)))⟩]) .ret) .skip) (.seq (.reg [⟨(some 8),none,(.load true 3 (.tmp 1))⟩,⟨(some 9),none,(.call (.func 135) [(.tmp 8)])⟩]) .skip))))
def c134a:AC:=(.reg [⟨(some 3),none,(.new 63 10 [(.v (.int .i64 0)),(.v (.string ⟨#[]⟩)),(.v (.int .i64 0)),(.v (.string ⟨#[]⟩)),(.v (.bool false)),(.v (.int .i64 0)),(.v (.int .i64 0)),(.v (.int .i64 0)),(.v (.int .i64 0)),(.v (.int .i64 0))])⟩,⟨none,none,(.store 10 (.tmp 3) (.tmp 10))⟩])
def c134b:AC:=(.block 1 (.seq (.reg [⟨(some 11),none,(.fa 1 (.tmp 3))⟩,⟨(some 12),none,(.load false 1 (.tmp 11))⟩,⟨(some 13),none,(.bin .neq (.tmp 12) (.const (.string ⟨#[]⟩)))⟩,⟨(some 14),none,(.mv (.tmp 13))⟩,⟨(some 15),(some (14,true)),(.fa 0 (.tmp 1))⟩,⟨(some 16),(some (14,true)),(.load false 1 (.tmp 15))⟩,⟨(some 17),(some (14,true)),(.mkfn 216 [(.tmp 3)])⟩,⟨(some 18),(some (14,true)),(.call (.func 157) [(.tmp 16),(.tmp 17)])⟩,⟨(some 19),(some (14,true)),(.un .not (.tmp 18))⟩,⟨(some 20),none,(.pick (.tmp 14) (.tmp 19) (.const (.bool false)))⟩]) (.cond (.tmp 20) (.seq (.reg [⟨none,none,(.store 1 (.tmp 2) (.const (.bool true)))⟩]) .ret) .skip)))
def c134q:AC:=(.seq (.reg [⟨none,none,(.store 1 (.tmp 2) (.const (.bool false)))⟩]) (.seq .ret .skip))
abbrev fr134:AFR:=⟨[(.reg [⟨(some 1),none,(.box 26 3 (.tmp 0))⟩,⟨(some 2),none,(.new 4 1 [(.v (.bool false))])⟩]),(.reg [⟨(some 4),none,(.fa 2 (.tmp 1))⟩,⟨(some 5),none,(.load false 1 (.tmp 4))⟩,⟨(some 6),none,(.mkfn 214 [(.tmp 1)])⟩,⟨(some 7),none,(.call (.func 213) [(.tmp 5),(.tmp 6)])⟩]),(.cond (.tmp 7) (.seq (.reg [⟨none,none,(.store 1 (.tmp 2) (.const (.bool true)))⟩]) .ret) .skip),(.reg [⟨(some 8),none,(.load true 3 (.tmp 1))⟩,⟨(some 9),none,(.call (.func 135) [(.tmp 8)])⟩])],(.tmp 9),#[10],c134a,c134b,c134q,[(.cell 2 false 1)],21⟩
theorem k134:Zhk Tryz.prog 134=some fr134:=by kernel_rfl
def Zdd (z:List Zon):List Era:=z.flatMap (·.2)
theorem Znw {z:List Zon}{i j:Nat}(hi:i<z.length) (hj:j<z[i].2.length) : ∃ r,Zdd z=Zdd (z.take i)++(z[i].2.take j++z[i].2[j]::r):=by
 refine ⟨z[i].2.drop (j+1)++Zdd (z.drop (i+1)),?_⟩
 have e:z=z.take i++z[i]::z.drop (i+1):=by rw [←List.drop_eq_getElem_cons hi,List.take_append_drop]
 have e2:z[i].2=z[i].2.take j++z[i].2[j]::z[i].2.drop (j+1):=by rw [←List.drop_eq_getElem_cons hj,List.take_append_drop]
 have h1:Zdd z=Zdd (z.take i++z[i]::z.drop (i+1)):=by rw [←e]
 rw [h1]
 unfold Zdd
 rw [List.flatMap_append,List.flatMap_cons]
 have h2:z[i].2++(z.drop (i+1)).flatMap (·.2)=z[i].2.take j++z[i].2[j]::(z[i].2.drop (j+1)++(z.drop (i+1)).flatMap (·.2)):=by
  conv=>lhs;rw [e2]
  rw [List.append_assoc];rfl
 rw [h2]
theorem ZpP {z:List Zon}{i:Nat}(hi:i<z.length):Zdd (z.take (i+1))=Zdd (z.take i)++z[i].2:=by
 unfold Zdd
 rw [List.take_succ_eq_append_getElem hi,List.flatMap_append,List.flatMap_cons,List.flatMap_nil,List.append_nil]
theorem Zso {p:Era→Bool}{l m r:List Era}{x:Era}(hl : ∀ y∈l,p y=false) (hm : ∀ y∈m,p y=false) (hx:p x=true):(l++(m++x::r)).find? p=some x:=by
 rw [List.find?_append,List.find?_eq_none.2 (fun y hy=>by rw [hl y hy];simp),Option.none_or,List.find?_append,List.find?_eq_none.2 (fun y hy=>by rw [hm y hy];simp),Option.none_or,List.find?_cons,hx]
def stopH (h:AH) (hS:Era→AH):Option Era→AH
 | none=>h
 | some x=>hS x
theorem Zsr {a:List Rul}{z:List Zon}{k:List Lnk}{lp:Nat}{h:AH}{p:Era→Bool}{hS:Era→AH}(hz:z.length≤20) (hz2 : ∀ y∈z,y.2.length≤8) (hSl : ∀ x,(hS x).length=h.length) (hSlt : ∀ x,∀ e∈hS x,e.lt h.length=true)
  (hY : ∀ x∈Zdd z,∀ e f:Ent,p x=false→AYield Tryz.prog lp [.agg (eraC x)] (h++[e,f]) fun r h''=>r=.ret (.v (.bool true))∧h''=h++[e,f])
  (hN : ∀ x∈Zdd z,∀ e f:Ent,p x=true→AYield Tryz.prog lp [.agg (eraC x)] (h++[e,f]) fun r h''=>r=.ret (.v (.bool false))∧h''=hS x++[e,f]) :
  ACalls Tryz.prog 217 [.v (.func (.yield lp) #[] #[]),.rp [.sl a.length 11 false (rows rulC a),.sl z.length 2 false (rows zonC z),.sl k.length 2 false (rows lnkC k)]] h fun y h'=>y=.ret (.tup [])∧h'=stopH h hS ((Zdd z).find? p):=by
 refine tJ' k217 fun N hn hlt hlA hbd=>?_
 simp only [tb'] at hbd ⊢
 refine wr'<|V' (ZbB lk dp1) pt<|V' (ZaD lk gt) pt<|V' (ZaL lk) pt<|mv' lki pt<|sn'<|Zap<|?_
 refine w_lp (ι:=Nat) (fun (i:Nat)=>[(10,iv (i:Int)),(4,.any),(6,.any)]++rn' 11 16) (fun (i:Nat)=>[]) (fun (i:Nat)=>i≤z.length ∧ ∀ x∈Zdd (z.take i),p x=false) (fun (i:Nat)=>z.length-i) (0) (by exact ⟨Nat.zero_le _,fun x hx=>by cases hx⟩) ?_
 rintro i hi1
 try simp only [sm',Nat.reduceAdd]
 obtain ⟨hk1,hk2⟩:=hi1
 refine wr'<|V' (Za9 lk lk) pt<|sn'<|Zal<|?_
 refine cd' lk (fun hc1=>?_) (fun hc1=>?_)
 ·have hi:i<z.length:=by omega
  have hz3:=hz2 _ (List.getElem_mem hi)
  refine Zae<|Zah<|Zal<|Zap<|wr'<|?_
  refine V' (ZaU lk lk ZcK (nb' rfl) ro (by omega) ro rfl) pt ?_
  refine V' (ZaI lk Zs4 rfl) pt<|E' (ZaV (hl0 hn) ha0) pt<|E' (Zak lk (cvl lk rfl) (hga hn rfl) rfl (nb' rfl) rfl Zp7 (hs0 hn)) ptn<|sn'<|wr'<|V' (Zab lk) pt<|V' (Zac lk (hga hn rfl) gt1) pt<|?_
  refine V' ((by first | exact ZaL lk | exact Zc2 lk)) pt ?_
  refine mv' lki pt<|sn'<|Zap<|?_
  refine w_lp (ι:=Nat) (fun (j:Nat)=>[(17,iv (j:Int)),(6,.any)]++rn' 18 8) (fun (j:Nat)=>[]) (fun (j:Nat)=>j≤z[i].2.length ∧ ∀ x∈z[i].2.take j,p x=false) (fun (j:Nat)=>z[i].2.length-j) (0) (by exact ⟨Nat.zero_le _,fun x hx=>by cases hx⟩) ?_
  rintro j hi2
  try simp only [sm',Nat.reduceAdd]
  obtain ⟨hj1,hj2⟩:=hi2
  refine wr'<|V' (Za9 lk lk) pt<|sn'<|Zal<|?_
  refine cd' lk (fun hc2=>?_) (fun hc2=>?_)
  ·have hj:j<z[i].2.length:=by omega
   obtain ⟨rr,hrr⟩:=Znw hi hj
   have hmem:z[i].2[j]∈Zdd z:=by rw [hrr];simp
   refine Zae<|Zah<|Zal<|Zap<|wr'<|?_
   refine V' (ZaU lk lk ZdP (nb' rfl) ro (by omega) ro rfl) pt ?_
   refine V' (ZaI lk Zp6 rfl) pt<|E' (ZaV (hl1 hn) ha1) pt<|E' (Zak lk (cvl lk rfl) (hga hn rfl) rfl (nb' rfl) rfl ZiF (hs1 hn)) ptn<|sn'<|wr'<|mv' lk pt<|V' (Zan lk (hga hn rfl) Zn0 rfl) pt<|?_
   by_cases hs21:p z[i].2[j]=true
   ·refine Zrm lk mp (hN _ hmem _ _ hs21) pt<|V' (Zax lk) pt<|sn'<|ZaF lk<|Zaa<|Zaq<|Zag<|Zag<|Zaq<|Zaq<|Zag<|Zag<|Zaq<|?_
    refine Zaf (rs0) ?_
    exact ⟨_,_,rfl,(hSl _).trans hn,by rw [←hn];exact hSlt _,rfl,rfl,by rw [hrr,Zso hk2 hj2 hs21];rfl⟩
   refine Zrm lk mp (hY _ hmem _ _ (by simpa using hs21)) pt ?_
   refine V' (Zax lk) pt<|sn'<|ZaN lk<|Zae<|Zaz<|Zah<|Zat<|?_
   refine V' (Zay lk lki (by omega) (by omega)) pt ?_
   refine mv' lk pt<|Zar<|ZaB<|?_
   refine lU' (j+1) (by (try dsimp only);refine ⟨by omega,fun x hx=>?_⟩;rw [List.take_succ_eq_append_getElem hj] at hx;rcases List.mem_append.1 hx with hx | hx;exact hj2 x hx;simp only [List.mem_singleton] at hx;subst hx;simpa using hs21) (by (try dsimp only);(try simp only [sm',Nat.reduceAdd]);exact bk' 1 hn hlt)
  have hje:z[i].2.length≤j:=by omega
  rw [List.take_of_length_le hje] at hj2
  refine ZaM<|ZaC<|ZaC<|Za7<|Zaz<|Zah<|Zat<|?_
  refine V' (Zay lk lki (by omega) (by omega)) pt ?_
  refine mv' lk pt<|Zar<|ZaB<|?_
  refine lU' (i+1) (by (try dsimp only);refine ⟨by omega,fun x hx=>?_⟩;rw [ZpP hi] at hx;rcases List.mem_append.1 hx with hx | hx;exact hk2 x hx;exact hj2 x hx) (by (try dsimp only);(try simp only [sm',Nat.reduceAdd]);exact bk' 0 hn hlt)
 rw [List.take_of_length_le (by omega)] at hk2
 refine ZaM<|ZaC<|ZaC<|Za7<|w_end (rs0)<|?_
 exact ⟨_,_,rfl,hn,hlt,rfl,rfl,by rw [List.find?_eq_none.2 (fun y hy=>by rw [hk2 y hy];simp)];rfl⟩
theorem miss2p_a {r:Rul}{x:Era}{id:Nat}{h:AH}(he:h[id]?=some (.mk 0 63 10 (eraC x))):ACalls Tryz.prog 216 [.agg (rulC r),.ptr id 0 0] h fun x' h'=>h'=h∧x'=.ret (bv (decide (r.1=xRl x))):=by
 obtain ⟨n,f,t,m,⟨k,w,d⟩,a,c,s,lt⟩:=r
 refine tI' k216 fun N hn hlt hlA hbd=>?_
 simp only [tb'] at hbd ⊢
 refine wr'<|E' (Zba (cvl lk rfl) rfl (hl0 hn) ha0) pt<|mv' lkb pt<|sn'<|wr'<|V' (Zab lk) pt<|V' (Zac lk (hga hn rfl) gt0) pt<|V' (Zab lk) pt<|V' (Zac lk (ZeF he) gt1) pt<|V' (ZcD lk lk) pt<|mv' lk pt<|?_
 exact sn'<|Zaa<|Zaf rz<|rT' rfl
abbrev srcB (a:List Rul) (z:List Zon) (k:List Lnk):List AV:=[.sl a.length 11 false (rows rulC a),.sl z.length 2 false (rows zonC z),.sl k.length 2 false (rows lnkC k)]
abbrev ergH (h:AH) (D l ty:Nat) (o:Obj) (T:List AV) (vs:List Value) (c:AV):AH:=h++[.gone,.mk 0 ty 1 [c],mkD D,.raw l o T vs]
abbrev ergJ (h:AH) (D l ty:Nat) (o:Obj) (T:List AV) (vs:List Value) (c:AV) (e f:Ent):AH:=h++[.gone,.mk 0 ty 1 [c],mkD D,.raw l o T vs,e,f]
theorem ZgU {h:AH}{D l ty:Nat}{o:Obj}{T:List AV}{vs:List Value}{c:AV}{e f:Ent}:ergH h D l ty o T vs c++[e,f]=ergJ h D l ty o T vs c e f:=by simp
theorem Zsq {h:AH}{D l ty N:Nat}{o:Obj}{T:List AV}{vs:List Value}{c:AV}(hlt : ∀ e∈h,e.lt N=true) (hT:AV.ltL (N+4) T=true) (hc:c.lt (N+4)=true) : ∀ e∈ergH h D l ty o T vs c,e.lt (N+4)=true:=by
 intro e he
 rcases List.mem_append.1 he with he | he
 ·exact ltw (by omega) hlt e he
 simp only [List.mem_cons,List.not_mem_nil,or_false] at he
 rcases he with rfl | rfl | rfl | rfl
 ·simp [Ent.lt]
 ·simp [Ent.lt,AV.ltL,hc]
 ·simp [Ent.lt,AV.ltL]
 simpa [Ent.lt] using hT
def misP (a:List Rul) (x:Era):Bool:=decide (xRl x≠⟨#[]⟩)&&!a.any fun r=>decide (r.1=xRl x)
def Zi3 (s:Src):Bool:=(s.2.2.any fun l=>decide (Zid s.2.1 l.1<0))||(Zdd s.2.1).any (misP s.1)
abbrev misT (N:Nat) (a:List Rul) (z:List Zon) (k:List Lnk) (x:AV):List AV:=[.any,.rp (srcB a z k),.ptr (N+1) 0 0,.any,.any,.any,.any,.any,.any,.clo (.func 217) [.rp (srcB a z k)],x,.any,.any,.any,.any,.any,.any,.any,.any,.any,.any]
theorem ZrU {N:Nat}{a:List Rul}{z:List Zon}{k:List Lnk}:AV.ltL (N+4) (misT N a z k .any)=true:=by simp [AV.ltL,AV.lt,Zbk,Zbr,Zbt]
theorem app61 {h:AH}{a b c d e f p:Ent}:h++[a,b,c,d,e,f,p]=(h++[a,b,c,d,e,f])++[p]:=by simp
theorem Zjw {h:AH}{lp N D:Nat}{rdy bsy fin:Obj}{a:List Rul}{z:List Zon}{k:List Lnk}{vs:List Value}(hn:h.length=N) (hlt : ∀ e∈h,e.lt N=true) (ha:a.length≤9223372036854775807)
  (hY:Zk7 Tryz.prog fr134 (N+2+1) lp rdy bsy fin (misT N a z k .any) vs) {x:Era} {e f:Ent} :
  AYield Tryz.prog lp [.agg (eraC x)] (ergJ h D lp 4 rdy (misT N a z k .any) vs (bv false) e f) fun r h''=>r=.ret (.v (.bool (!misP a x)))∧h''=ergJ h D lp 4 (if misP a x=true then fin else rdy) (misT N a z k .any) vs (bv (misP a x)) e f:=by
 refine y_go hY (hga (k:=3) hn rfl) rfl fun n0 hn0 hlt0 q1 q2 q3=>?_
 have hm:n0=N+6:=by rw [←hn0];simp [hn]
 have hT0:=ZrU (N:=N) (a:=a) (z:=z) (k:=k)
 have hE:=hlt0 e (by simp)
 have hF:=hlt0 f (by simp)
 have hR:=hlt0 (.raw lp rdy (misT N a z k .any) vs) (by simp)
 show aw _ _ c134a _ _ _
 show aw _ _ _ _ (misT N a z k (.agg (eraC x))) (h++[.gone,.mk 0 4 1 [bv false],mkD D,.raw lp rdy (misT N a z k .any) vs,e,f])
 refine Zat<|E' (ZaV (hl6 hn) ha6) pt<|E' (Zak lk (cvl lk rfl) (hga hn rfl) rfl (nb' rfl) rfl ZiF (hs6 hn)) ptn<|Zar<|?_
 refine ZsR (i:=N+3) (hga hn rfl) (hs3 hn) fun n1 hn1 hlt1=>?_
 have fin2 : ∀ (b:Bool) (o:Obj) (E:Ent),b=misP a x→o=(if misP a x=true then fin else rdy)→o.isCells=o.isCells→Ent.lt n0 (.raw lp o (misT N a z k .any) vs)=true → ∃ y z',h++[.gone,.mk 0 4 1 [bv b],mkD D,.raw lp o (misT N a z k .any) vs,e,f,E]=y++z'∧y.length=n0∧(∀ e∈y,e.lt n0=true)∧(AE.ret (.v (.bool (!b)))).lt n0=true∧AE.ret (.v (.bool (!b)))=.ret (.v (.bool (!misP a x)))∧y=ergJ h D lp 4 (if misP a x=true then fin else rdy) (misT N a z k .any) vs (bv (misP a x)) e f:=by
  rintro b o E rfl rfl _ hro
  refine ⟨_,_,app61,by rw [←hn0];simp,fun y hy=>?_,rfl,rfl,rfl⟩
  rcases List.mem_append.1 hy with hy | hy
  ·exact ltw (by omega) hlt y hy
  simp only [List.mem_cons,List.not_mem_nil,or_false] at hy
  rcases hy with rfl | rfl | rfl | rfl | rfl | rfl
  ·simp [Ent.lt]
  ·simp [Ent.lt,AV.ltL,AV.lt]
  ·simp [Ent.lt,AV.ltL]
  ·exact hro
  ·exact hE
  exact hF
 have hro : ∀ o:Obj,Ent.lt n0 (.raw lp o (misT N a z k .any) vs)=true:=fun o=>by simpa [Ent.lt] using hR
 show aw _ _ c134b _ _ _
 refine Zap<|wr'<|V' (Zab lk) pt<|V' (Zac lk (hga hn rfl) gt1) pt<|V' (ZcC lk lks) pt<|mv' lk pt<|?_
 refine sp' (t:=14) gt pt pt (fun hg14=>?_) (fun hg14=>?_)
 ·refine s_do gt<|V' (ZbB lk dp0) pt<|s_do gt<|V' (ZaD lk gt) pt<|s_do gt<|V' (ZfW mp) pt<|s_do gt<|?_
  refine Zad mp (Zmb (p:=fun r:Rul=>decide (r.1=xRl x)) (fun c _ E=>miss2p_a (ZeF (hga hn rfl))) ha) pt ?_
  refine s_do gt<|V' (Zax lk) pt<|V' (Zaj lk lk) pt<|sn'<|?_
  refine Zau lk (fun hc1=>?_) (fun hc1=>?_)
  ·have hP:misP a x=true:=by unfold misP;rw [Bool.and_eq_true];exact ⟨decide_eq_true hg14,hc1⟩
   refine wr'<|E' (Zak lk (cvl lkb rfl) (hga hn rfl) rfl (nb' rfl) rfl Zg3 (hs1 hn)) ptn<|sn'<|Zaa<|Zaq<|?_
   refine Zpa (i:=N+3) (hga hn rfl) (hs3 hn) (fin2 true fin _ hP.symm (by rw [if_pos hP]) rfl (hro _))
  have hP:misP a x=false:=by unfold misP;rw [Bool.and_eq_false_iff];exact .inr hc1
  refine Zae<|Zaz<|?_
  exact Ziz (i:=N+3) (hga hn rfl) (hs3 hn) (fin2 false rdy _ hP.symm (by rw [hP];rfl) rfl (hro _))
 have hP:misP a x=false:=by unfold misP;rw [Bool.and_eq_false_iff];exact .inl (decide_eq_false hg14)
 refine s_no gt pt<|s_no gt pt<|s_no gt pt<|s_no gt pt<|s_no gt pt<|V' (Zai lk lkb) pt<|sn'<|ZaN lk<|Zae<|Zaz<|?_
 exact Ziz (i:=N+3) (hga hn rfl) (hs3 hn) (fin2 false rdy _ hP.symm (by rw [hP];rfl) rfl (hro _))
theorem any_find {p:Era→Bool} {l:List Era}:(match l.find? p with | none=>false | some _=>true)=l.any p:=by
 induction l with
 | nil=>rfl
 | cons x l ih=>rw [List.find?_cons,List.any_cons];cases p x <;> simp [ih]
theorem ZrT {h:AH}{lp N D:Nat}{rdy bsy fin:Obj}{a:List Rul}{z:List Zon}{k:List Lnk}{vs:List Value}(hn:h.length=N) (hlt : ∀ e∈h,e.lt N=true) (ha:a.length≤9223372036854775807) (hz:z.length≤20) (hz2 : ∀ y∈z,y.2.length≤8)
    (hY:Zk7 Tryz.prog fr134 (N+2+1) lp rdy bsy fin (misT N a z k .any) vs) (hl0:(k.any fun l=>decide (Zid z l.1<0))=false) {R:AE→AH→Prop} (hR:R=fun x h' => ∃ z',h'=h++z'∧x.lt N=true∧x=.ret (bv (Zi3 (a,z,k)))) :
    ACalls Tryz.prog 217 (.v (.func (.yield lp) #[] #[])::[.rp (srcB a z k)]) (ergH h D lp 4 rdy (misT N a z k .any) vs (bv false)) fun r h3=>(∃ c,r=.ret c) ∧
      ((h3[N+2+1]?=some (.raw lp rdy (misT N a z k .any) vs) ∧ ∀ n0,(h3.set (N+2+1) .gone).length=n0→(∀ e∈h3.set (N+2+1) .gone,e.lt n0=true)→aw Tryz.prog n0 fr134.post (ZeU fr134.res (N+2) D R) (misT N a z k .any) (h3.set (N+2+1) .gone)) ∨
       (h3[N+2+1]?=some (.raw lp fin (misT N a z k .any) vs)∧ZeU fr134.res (N+2) D R .ret (misT N a z k .any) (h3.set (N+2+1) .gone))):=by
  have hmis:Zi3 (a,z,k)=(Zdd z).any (misP a):=by unfold Zi3;rw [hl0,Bool.false_or]
  refine (Zsr (h:=ergH h D lp 4 rdy (misT N a z k .any) vs (bv false)) (p:=misP a) (hS:=fun _=>ergH h D lp 4 fin (misT N a z k .any) vs (bv true)) hz hz2 (fun _=>(hl4 hn).trans (hl4 hn).symm) (fun _=>by rw [hl4 hn];exact Zsq hlt ZrU rfl) (fun x _ e f hp=>?_) (fun x _ e f hp=>?_)).mono ?_
  · have:=Zjw (e:=e) (f:=f) (D:=D) (x:=x) hn hlt ha hY
    rw [hp] at this
    rw [ZgU]
    exact this
  · have:=Zjw (e:=e) (f:=f) (D:=D) (x:=x) hn hlt ha hY
    rw [hp] at this
    rw [ZgU,ZgU]
    exact this
  rintro x h3 ⟨rfl,rfl⟩
  refine ⟨⟨_,rfl⟩,?_⟩
  rw [←any_find] at hmis
  subst hR
  cases hf:(Zdd z).find? (misP a) with
  | none =>
    rw [hf] at hmis
    refine .inl ⟨hga (k:=3) hn rfl,fun n0 hn0 _=>?_⟩
    have hs:(ergH h D lp 4 rdy (misT N a z k .any) vs (bv false)).set (N+2+1) .gone=h++[.gone,.mk 0 4 1 [bv false],mkD D,.gone]:=hs3 hn
    show aw _ _ _ _ _ ((ergH h D lp 4 rdy (misT N a z k .any) vs (bv false)).set (N+2+1) .gone)
    rw [hs]
    show aw _ _ c134q _ _ _
    refine wr'<|E' (Zak lk (cvl lkb rfl) (hga hn rfl) rfl (nb' rfl) rfl Zg3 (hs1 hn)) ptn<|sn'<|Zal<|Zaa<|Zag<|?_
    refine ZdN (hga hn rfl) (hs2 hn) (rs1 (rr_c gt (hga hn rfl) (ld0 gt))) ?_
    refine rT' ?_
    rw [hmis]
  | some x =>
    rw [hf] at hmis
    refine .inr ⟨hga (k:=3) hn rfl,?_⟩
    have hs:(ergH h D lp 4 fin (misT N a z k .any) vs (bv true)).set (N+2+1) .gone=h++[.gone,.mk 0 4 1 [bv true],mkD D,.gone]:=hs3 hn
    show ZeU _ _ _ _ _ _ ((ergH h D lp 4 fin (misT N a z k .any) vs (bv true)).set (N+2+1) .gone)
    rw [hs]
    exact ZdN (hga (k:=2) hn rfl) (hs2 hn) (rs1 (rr_c gt (hga (k:=1) hn rfl) (ld0 gt))) (rT' (by rw [hmis]))
theorem ZrS {a:List Rul}{z:List Zon}{k:List Lnk}{h:AH}(ha:a.length≤9223372036854775807) (hz:z.length≤20) (hz2 : ∀ y∈z,y.2.length≤8) (hk:k.length≤9223372036854775807):Ac 134 [.agg (srcB a z k)] h (bv (Zi3 (a,z,k))):=by
 have hkk:=hk
 refine tR' k134 fun N hn hlt hlA hbd=>?_
 show aw _ _ c134p _ _ _
 show aw _ _ _ _ [.agg (srcB a z k),.any,.any,.any,.any,.any,.any,.any,.any,.any,.any,.any,.any,.any,.any,.any,.any,.any,.any,.any,.any] _
 refine wr'<|E' (Zba (cvl lk rfl) rfl (hl0 hn) ha0) pt<|E' (ZaV (hl1 hn) ha1) pt<|Zar<|?_
 refine Za6 (ALe.icePtr (hga hn rfl) gt1 (by simp) pt1 (hs0 hn)) ?_
 refine wr'<|V' (ZbB lk dp2) pt<|V' (ZaD lk gt) pt<|V' (ZfW mp) pt<|?_
 refine Zad mp (Zse (p:=fun l:Lnk=>decide (Zid z l.1<0)) (fun c _ _=>miss1_a (by omega)) hkk) pt ?_
 refine sn'<|Zal<|?_
 refine Zau lk (fun hc1=>?_) (fun hc1=>?_)
 ·have hm:Zi3 (a,z,k)=true:=by unfold Zi3;rw [show (k.any fun l=>decide (Zid z l.1<0))=true from hc1];rfl
  refine wr'<|E' (Zak lk (cvl lkb rfl) (hga hn rfl) rfl (nb' rfl) rfl Zg3 (hs1 hn)) ptn<|sn'<|Zaa<|Zag<|?_
  refine Zib (rs1 (rr_c gt (hga hn rfl) (ld0 gt))) ?_
  refine rT' ?_
  rw [hm]
 refine Zae<|Zah<|wr'<|V' (ZaI lk Zs3 rfl) pt<|Zad mp (eras_a) pt<|sn'<|Zae<|?_
 refine ZrA (T1:=misT N a z k .any) (ALe.same wA' rfl) rfl (hl2 hn) fun lp D rdy bsy fin vs hle hlT hY=>?_
 have hgo:=ZrT (D:=D) hn hlt ha hz hz2 hY hc1 rfl
 rw [show (h++[Ent.gone,Ent.mk 0 4 1 [bv false]]++[mkD D,Ent.raw lp rdy (misT N a z k .any) vs]:AH)=ergH h D lp 4 rdy (misT N a z k .any) vs (bv false) by simp]
 exact hgo
end Go.Proofs.YtlekejpogddndaaGreatDoor
end
section
namespace Go.Ab
section
variable {P : Program} {n0 : Nat}
def Zmp (P:Program):Code→Option AC
 | .skip=>some .skip
 | .region _ ops draw=>match ops.toList.mapM (ZbH P [] ops) with
  | some al=>if draw=false then some (.reg al) else ZjL P ops
  | none=>none
 | .seq a b=>match Zmp P a,Zmp P b with
  | some x,some y=>some (.seq x y)
  | _,_=>none
 | .block id a=>(Zmp P a).map (.block id)
 | .exit id=>some (.exit id)
 | .ret=>some .ret
 | _=>none
theorem ZnF [Rd] : ∀ (c:Code) (ac:AC),Zmp P c=some ac → ∀ {Q:AX→List AV→AH→Prop}{T:List AV}{h:AH},aw P n0 ac Q T h→AW P n0 c Q T h:=by
 intro c
 induction c with
 | skip=>intro ac hc Q T h hw;cases hc;exact Ztd hw
 | region id ops draw =>
  intro ac hc Q T h hw
  simp only [Zmp] at hc
  split at hc <;> try (cases hc;done)
  rename_i al hm
  split at hc
  ·rename_i hd;subst hd;cases hc;exact ZmM hm hw
  ·rename_i hd
   obtain rfl:draw=true:=by simpa using hd
   unfold ZjL at hc
   split at hc <;> try (cases hc;done)
   rename_i al2 hm2
   split at hc <;> try (cases hc;done)
   rename_i hcond
   cases hc
   exact ZiZ hcond.1 hcond.2 hm2 hw
 | seq a b iha ihb =>
  intro ac hc Q T h hw
  simp only [Zmp] at hc
  split at hc <;> try (cases hc;done)
  rename_i x y hx hy
  cases hc
  refine AW_seq ((iha x hx hw).mono ?_)
  intro z T' h' hq
  cases z <;> simp only [AX.thn] at hq ⊢ <;> first | exact hq | (obtain ⟨T1,h1,hle,hq⟩:=hq;exact AW_le hle (ihb y hy hq))
 | cond c a b iha ihb=>intro ac hc;cases hc
 | block id a iha =>
  intro ac hc Q T h hw
  simp only [Zmp,Option.map_eq_some_iff] at hc
  obtain ⟨x,hx,rfl⟩:=hc
  exact Zpg (iha x hx hw)
 | loop a iha=>intro ac hc;cases hc
 | rangeFunc f ps x y iha ihb=>intro ac hc;cases hc
 | exit id=>intro ac hc Q T h hw;cases hc;exact Zte hw
 | scope a iha=>intro ac hc;cases hc
 | label l=>intro ac hc;cases hc
 | goto l=>intro ac hc;cases hc
 | ret=>intro ac hc Q T h hw;cases hc;exact AW_ret hw
 | refuse w=>intro ac hc;cases hc
def ZjO (P:Program) (f:FuncId):Option AF :=
 match P.funcs[f]? with
 | some fn=>if fn.name == "runtime.NumGoroutine" then none else match fn.body with
  | some c=>match Zmp P c,fn.results.toList.mapM (ZfK P) with
   | some ac,some rs=>some ⟨ac,rs,fn.ntmps⟩
   | _,_=>none
  | none=>none
 | none=>none
theorem ACalls.of_awU {f:FuncId}{af:AF}(hc:ZjO P f=some af) {args:List AV}{h:AH}{R:AE→AH→Prop}(hw:aw P h.length af.code (retA af.res R) (args++List.replicate (af.ntmps-args.length) .any) h):ACalls P f args h R:=by
 unfold ZjO at hc
 split at hc <;> try (cases hc;done)
 rename_i fn hfn
 split at hc <;> try (cases hc;done)
 rename_i hname
 split at hc <;> try (cases hc;done)
 rename_i c hb
 split at hc <;> try (cases hc;done)
 rename_i ac rs hac hrs
 cases hc
 letI:Rd:=rdN
 refine ACalls.of_AW hfn hb ?_ ((ZnF c ac hac hw).mono ?_)
 ·simp only [enters,hfn,hb]
  simp only [Bool.not_eq_true] at hname
  simp [bne,hname]
 ·intro x T' h' hq
  cases x <;> simp only [retA,RetQ] at hq ⊢
  ·split at hq <;> try (exact hq.elim)
   rename_i r hr
   exact ⟨r,fun w g a hs ht=>Zdx hrs hr hs ht,hq⟩
  ·split at hq <;> try (exact hq.elim)
   rename_i r hr
   exact ⟨r,fun w g a hs ht=>Zdx hrs hr hs ht,hq⟩
  ·exact hq
theorem Zhr {f:FuncId}{af:AF}(hc:ZjO P f=some af):enters P f=true:=by
 unfold ZjO at hc
 split at hc <;> try (cases hc;done)
 rename_i fn hfn
 split at hc <;> try (cases hc;done)
 rename_i hname
 split at hc <;> try (cases hc;done)
 rename_i c hb
 simp only [enters,hfn,hb]
 simp only [Bool.not_eq_true] at hname
 simp [bne,hname]
theorem tU' {f:FuncId}{c:AC}{rs:List AR}{m:Nat}{args:List AV}{h:AH}{R:AE→Prop}(hc:ZjO P f=some ⟨c,rs,m⟩) (hw : ∀ n,h.length=n→(∀ e∈h,e.lt n=true)→AV.ltL n args=true→AV.bdL args→aw P n c (retA rs fun x h' => ∃ z,h'=h++z∧x.lt n=true∧R x) (tA' args m) (h++[])) (hl:Nat.ble args.length m=true:=by rfl):ACalls P f args h fun x h'=>h'=h∧R x:=by
 refine ACalls.gc_same ⟨Zhr hc,fun w g vs hs ha=>(ACalls.of_awU hc ?_).2 w g vs hs ha⟩
 have:=hw h.length rfl hs.ltE (RepL.lt (fun i v l hl=>(hs.fresh i v l hl).1) _ _ ha) (RepL.bd _ _ ha)
 rw [List.append_nil] at this
 show aw P h.length c _ (args++List.replicate (m-args.length) .any) h
 rw [ZhZ _ _ (Nat.le_of_ble_eq_true hl)]
 exact this
theorem ZkD {w:World}{g:Gh} : ∀ {vs us:List Value},RepL w g (vs.map .v) us↔us=vs
 | [],us=>by simp only [List.map_nil,RepL]
 | v::vs,us=>by
  simp only [List.map_cons,RepL,Rep,ZkD (vs:=vs)]
  constructor
  ·rintro ⟨u,us',rfl,rfl,rfl⟩;rfl
  ·rintro rfl;exact ⟨_,_,rfl,rfl,rfl⟩
theorem ACalls.of_turnR {f:FuncId}{args:List AV}{h:AH}{id ver ty st:Nat}{cells cells':List AV}{c:AV}(he:enters P f=true) (hi:h[id]?=some (.mk ver ty st cells)) (hne:cells≠[])
  (hc : ∀ w g (vs:Array Value) b cap arr,SimH w g h→RepL w g args vs.toList→g.loc id ver=some (some ⟨b,0,none⟩,cap)→w.heap[b]?=some (.cells arr ty (0,0))→arr.size=cap*st→cells.length≤arr.size→RepL w g cells (arr.toList.take cells.length) →
   Calls P f vs w fun e w' => ∃ (v:Value) (vs':List Value) (arr':Array Value),e=.returned v∧cells'=vs'.map .v∧w'.heap[b]?=some (.cells arr' ty (0,0))∧arr'.size=arr.size∧vs'.length=cells.length∧arr'.toList.take cells.length=vs' ∧
    w'.os=w.os∧w'.tape=w.tape∧w'.output=w.output∧w.heap.size≤w'.heap.size∧(∀ k,k<w.heap.size→k≠b→w'.heap[k]?=w.heap[k]?)∧Rep w' g c v) :
  ACalls P f args h fun x h'=>x=.ret c∧h'=h.set id (.mk ver ty st cells'):=by
 refine ⟨he,fun w g vs hs ha=>?_⟩
 obtain ⟨A,cap,f1,fm,f3⟩:=hs.ent _ _ _ _ _ hi
 rcases f3 with ⟨e,_⟩ | ⟨b,arr,rfl,hc0,hd,hb,hsz,hle,hrl⟩
 ·exact absurd e hne
 have hid:id<h.length:=(List.getElem?_eq_some_iff.1 hi).1
 have how:OwAt g h id b:=⟨ver,ty,st,cells,_,cap,hi,f1,hc0,rfl⟩
 refine (hc w g vs b cap arr hs ha f1 hb hsz hle hrl).mono ?_
 rintro e w' ⟨v,vs',arr',rfl,rfl,h1,h2,h3,h4,h5,h6,h7,h8,h9,hv⟩
 have hother : ∀ j,g.D j∨(∃ i,i≠id∧OwAt g h i j)∨(∃ i,RwAt h i j)→w'.heap[j]?=w.heap[j]?:=by
  rintro j (hj | ⟨i,hne',hj⟩ | ⟨i,hj⟩)
  rotate_left 2
  ·exact h9 j (hs.own_not_D (.inr ⟨i,hj⟩)).2 (fun e=>by subst e;exact hs.own_ne_raw how hj)
  ·exact h9 j (hs.lt j hj) (fun e=>hd (e ▸ hj))
  ·exact h9 j (hs.own_not_D (.inl ⟨i,hj⟩)).2 (fun e=>hne' (hs.inj i id j hj (e ▸ how)))
 obtain ⟨k1,k2,k3⟩:=hs.put (w':=w') (g':=g) (h':=h.set id (.mk ver ty st (vs'.map .v))) id ver ty st (vs'.map .v) (some ⟨b,0,none⟩) cap
  (fun i hne'=>by rw [List.getElem?_set_ne (Ne.symm hne')]) (by rw [List.getElem?_set_self hid]) (by simp) rfl (fun _ _ _ h=>h) (fun _ _ _ h=>.inl h) f1 (fun v l hv=>(hs.fresh _ _ _ hv).2 _ _ _ _ hi) hother h8 fm
  (.inr ⟨b,arr',rfl,hc0,hd,h1,by rw [h2,hsz],by rw [List.length_map,h3,h2];exact hle,by rw [List.length_map,h3,h4];exact ZkD.2 rfl⟩)
  (fun j hj _ i hne' ho=>by
   simp at hj
   subst hj
   exact hne' (hs.inj i id _ ho how))
 refine ⟨.ret c,_,g,hv,k1,k2,⟨h5,h6,h7,h8,fun k hk hn=>h9 k hk (fun e=>hn (.inl ⟨id,e ▸ how⟩))⟩,fun k hk=>?_,rfl,rfl⟩
 ·rcases k3 k hk with ho | ⟨ho,_⟩
  ·exact .inl ho
  ·simp at ho;subst ho;exact .inl (.inl ⟨id,how⟩)
end
end Go.Ab
end
section
namespace Go.Proofs.YtlekejpogddndaaGreatDoor
open Go.Ab Go.Sort
def bsL (l:List ByteArray):List Bs:=l.map aB
def sbL (l:List Bs):List ByteArray:=l.map bA
theorem sb_bs (l:List ByteArray):sbL (bsL l)=l:=by
 unfold sbL bsL;rw [List.map_map]
 have:(bA ∘ aB)=id:=by funext z;rfl
 rw [this,List.map_id]
theorem ZkA (l:List Bs):rows strC (sbL l)=(l.map encStr).map .v:=by
 unfold sbL
 induction l with
 | nil=>rfl
 | cons x l ih=>rw [List.map_cons,List.map_cons,List.map_cons,←ih];rfl
theorem Zd2 (l:List ByteArray):rows strC l=((bsL l).map encStr).map .v:=by rw [←ZkA,sb_bs]
def Zeg (l:List ByteArray):List ByteArray:=sbL ((bsL l).mergeSort fun x y=>decide (x≤y))
def Zfv (l:List ByteArray):List Bs:=Lib.compact (bsL l)
theorem Zrc (l:List ByteArray):(Zeg l).length=l.length:=by simp [Zeg,sbL,bsL]
theorem Zrb {l:List ByteArray}{id v ty:Nat}{h:AH}(he:h[id]?=some (.mk v ty 1 (rows strC l))) (h0:l≠[]) (hl:l.length<4611686018427387904) :
  ACalls Tryz.prog 211 [.own id v l.length] h fun r h'=>r=.ret (.tup [])∧h'=h.set id (.mk v ty 1 (rows strC (Zeg l))):=by
 refine ACalls.of_turnR (by kernel_rfl) he ?_ ?_
 ·rw [Zd2];simpa [bsL] using h0
 ·intro w g vs b cap arr hs ha hloc hb hsz hle hr
  simp only [RepL,Rep,hloc] at ha
  obtain ⟨u1,us1,e1,⟨A,c,e2,hn1,hn2,rfl⟩,rfl⟩:=ha
  simp only [Option.some.injEq,Prod.mk.injEq] at e2
  obtain ⟨rfl,rfl⟩:=e2
  obtain rfl:vs = #[.slice (some ⟨b,0,none⟩) l.length cap]:=by cases vs;simp_all
  have hlen:(rows strC l).length=(bsL l).length:=by rw [Zd2];simp
  have hbl:(bsL l).length=l.length:=by simp [bsL]
  rw [hlen] at hr hle
  rw [Zd2] at hr
  have hr2:=ZkD.1 hr
  have hb':b<w.heap.size:=(Array.getElem?_eq_some_iff.1 hb).1
  have:=Tryz.slices_Sort_string b 0 cap (bsL l) w (holds_of_block hb hr2) hb' (by rw [hbl];exact hl)
  rw [hbl] at this
  refine this.mono ?_
  rintro e w' ⟨rfl,n,os,rfl⟩
  obtain ⟨q1,q2,q3,q4,q5⟩:=grownBy_sorted (w:=w) (g:=b) (n:=n) (os:=os) ((bsL l).mergeSort fun x y=>decide (x≤y)).toArray
  have hml:((bsL l).mergeSort fun x y=>decide (x≤y)).length=(bsL l).length:=List.length_mergeSort _
  refine ⟨_,((bsL l).mergeSort fun x y=>decide (x≤y)).map encStr,_,rfl,by unfold Zeg;rw [ZkA],heap_sorted _ hb,by simp [putCells],by rw [hlen];simp,?_,q1,q2,q3,q4,fun k hk hne=>q5 k hk (by simpa using hne),?_⟩
  ·rw [hlen,←hml]
   exact take_putCells arr _ (by rw [hml];exact hle)
  ·simp only [Rep];exact ⟨#[],rfl,by simp only [RepL]⟩
theorem ZsE {l:List ByteArray}{id v ty:Nat}{h:AH}(he:h[id]?=some (.mk v ty 1 (rows strC l))) (h0:l≠[]) (hl:l.length≤9223372036854775807) :
  ACalls Tryz.prog 212 [.own id v l.length] h fun r h'=>r=.ret (.own id v (Zfv l).length)∧h'=h.set id (.mk v ty 1 (rows strC (sbL (Zfv l++List.replicate ((bsL l).length-(Zfv l).length) [])))):=by
 refine ACalls.of_turnR (by kernel_rfl) he ?_ ?_
 ·rw [Zd2];simpa [bsL] using h0
 ·intro w g vs b cap arr hs ha hloc hb hsz hle hr
  simp only [RepL,Rep,hloc] at ha
  obtain ⟨u1,us1,e1,⟨A,c,e2,hn1,hn2,rfl⟩,rfl⟩:=ha
  simp only [Option.some.injEq,Prod.mk.injEq] at e2
  obtain ⟨rfl,rfl⟩:=e2
  obtain rfl:vs = #[.slice (some ⟨b,0,none⟩) l.length cap]:=by cases vs;simp_all
  have hlen:(rows strC l).length=(bsL l).length:=by rw [Zd2];simp
  have hbl:(bsL l).length=l.length:=by simp [bsL]
  rw [hlen] at hr hle
  rw [Zd2] at hr
  have hr2:=ZkD.1 hr
  have hcl:(Zfv l).length≤(bsL l).length:=Lib.compact_length_le _
  have:=Tryz.slices_Compact_string b 0 cap (bsL l) w (holds_of_block hb hr2) (by rw [hbl];exact hl) (by rw [hbl];omega)
  rw [hbl] at this
  refine this.mono ?_
  rintro e w' ⟨rfl,q,rfl⟩
  have e0:putRow encStr (Sort.ahead w q) b 0 (Lib.compact (bsL l)++List.replicate (l.length-(Lib.compact (bsL l)).length) []).toArray=grow (putRow encStr (Sort.ahead w q) b 0 (Zfv l++List.replicate ((bsL l).length-(Zfv l).length) []).toArray) #[]:=by rw [grow_empty,hbl];rfl
  rw [e0]
  obtain ⟨q1,q2,q3,q4,q5⟩:=grownBy_sorted (w:=w) (g:=b) (n:=q) (os := #[]) (Zfv l++List.replicate ((bsL l).length-(Zfv l).length) []).toArray
  have hml:(Zfv l++List.replicate ((bsL l).length-(Zfv l).length) []).length=(bsL l).length:=by rw [List.length_append,List.length_replicate];omega
  refine ⟨_,(Zfv l++List.replicate ((bsL l).length-(Zfv l).length) []).map encStr,_,rfl,by rw [ZkA],heap_sorted _ hb,by simp [putCells],by rw [hlen,List.length_map,hml],?_,q1,q2,q3,q4,fun k hk hne=>q5 k hk (by simpa using hne),?_⟩
  ·rw [hlen]
   exact (congrArg (fun n=>List.take n _) hml.symm).trans (take_putCells arr _ (by rw [hml];exact hle))
  ·simp only [Rep];exact ⟨_,_,hloc,by omega,hn2,rfl⟩
theorem Zm1 {l:List ByteArray}{id v ty:Nat}{h:AH}(he:h[id]?=some (.mk v ty 1 (rows strC l))) (hl:l.length<4611686018427387904) :
  ACalls Tryz.prog 211 [.own id v l.length] h fun r h'=>r=.ret (.tup [])∧h'=h.set id (.mk v ty 1 (rows strC (Zeg l))):=by
 by_cases h0:l=[]
 ·subst h0
  refine ⟨by kernel_rfl,fun w g vs hs ha=>?_⟩
  simp only [RepL,Rep] at ha
  obtain ⟨val,us,e,⟨A,cap,e1,e2,e3,rfl⟩,rfl⟩:=ha
  obtain rfl:vs = #[.slice A 0 cap]:=by cases vs;simp_all
  refine (Tryz.slices_Sort_string_none A cap w).mono ?_
  rintro e w' ⟨rfl,rfl⟩
  refine ⟨.ret (.tup []),h,g,?_,hs,Gh.le.refl g,Fr.refl _ _,fun k hk=>.inl hk,rfl,?_⟩
  ·exact (by simp only [EndR,Rep];exact ⟨#[],rfl,by simp [RepL]⟩)
  ·rw [show Zeg []=[] by simp [Zeg,bsL,sbL]]
   exact (ZcT he).symm
 ·exact Zrb he h0 hl
theorem ZnG {l:List ByteArray}{id v ty:Nat}{h:AH}(he:h[id]?=some (.mk v ty 1 (rows strC l))) (hl:l.length≤9223372036854775807) :
  ACalls Tryz.prog 212 [.own id v l.length] h fun r h'=>r=.ret (.own id v (Zfv l).length)∧h'=h.set id (.mk v ty 1 (rows strC (sbL (Zfv l++List.replicate ((bsL l).length-(Zfv l).length) [])))):=by
 by_cases h0:l=[]
 ·subst h0
  refine ⟨by kernel_rfl,fun w g vs hs ha=>?_⟩
  simp only [RepL,Rep] at ha
  obtain ⟨val,us,e,⟨A,cap,e1,e2,e3,rfl⟩,rfl⟩:=ha
  obtain rfl:vs = #[.slice A 0 cap]:=by cases vs;simp_all
  refine (Tryz.slices_Compact_string_empty A cap w).mono ?_
  rintro e w' ⟨rfl,rfl⟩
  refine ⟨.ret (.own id v 0),h,g,?_,hs,Gh.le.refl g,Fr.refl _ _,fun k hk=>.inl hk,rfl,?_⟩
  ·exact (by simp only [EndR,Rep];exact ⟨A,cap,e1,Nat.zero_le _,e3,rfl⟩)
  ·exact (ZcT he).symm
 ·exact ZsE he h0 hl
theorem le_tr (a b c:Bs):a≤b→b≤c→a≤c:=fun h1 h2=>List.le_trans h1 h2
theorem ZqU {l:List ByteArray}:decide ((Zfv (Zeg l)).length<l.length)=decide (¬l.Nodup):=by
 have hperm:(bsL (Zeg l)).Perm (bsL l):=by
  have:bsL (Zeg l)=(bsL l).mergeSort fun x y=>decide (x≤y):=by
   unfold Zeg sbL bsL
   rw [List.map_map]
   have:(aB ∘ bA)=id:=by funext z;simp [aB,bA]
   rw [this,List.map_id]
  rw [this];exact List.mergeSort_perm _ _
 have hsort:(bsL (Zeg l)).Pairwise (· ≤ ·):=by
  have e:bsL (Zeg l)=(bsL l).mergeSort fun x y=>decide (x≤y):=by
   unfold Zeg sbL bsL
   rw [List.map_map]
   have:(aB ∘ bA)=id:=by funext z;simp [aB,bA]
   rw [this,List.map_id]
  rw [e]
  have h:=List.pairwise_mergeSort (le:=fun a b:Bs=>decide (a≤b)) (fun a b c h1 h2=>by simp only [decide_eq_true_eq] at *;exact le_tr _ _ _ h1 h2) (fun a b=>by simp only [Bool.or_eq_true,decide_eq_true_eq];exact List.le_total a b) (bsL l)
  exact h.imp fun h=>by simpa using h
 have hnd:l.Nodup↔(bsL (Zeg l)).Nodup:=by
  rw [hperm.nodup_iff]
  unfold bsL
  constructor
  ·intro h
   exact List.pairwise_map.2 (h.imp fun hne e=>hne (by have:=congrArg bA e;exact this))
  ·intro h
   exact (List.pairwise_map.1 h).imp fun hne e=>hne (by rw [e])
 have hlen:(bsL (Zeg l)).length=l.length:=by rw [hperm.length_eq];simp [bsL]
 rw [Bool.eq_iff_iff,decide_eq_true_iff,decide_eq_true_iff,hnd,←hlen]
 show (Lib.compact (bsL (Zeg l))).length<_↔_
 generalize bsL (Zeg l)=L at hsort
 have e:(Lib.compact L).length=((List.range L.length).filter (Lib.keeps L.toArray)).length:=by unfold Lib.compact Lib.compactUpTo;rw [List.length_map]
 rw [e]
 have hr:L.length=(List.range L.length).length:=by simp
 conv=>lhs;rhs;rw [hr]
 rw [List.length_filter_lt_length_iff_exists]
 have hget : ∀ j (h:j<L.length),L.toArray[j]! = L[j]:=fun j h=>by simp [h]
 constructor
 ·rintro ⟨j,hj,hk⟩ hnd
  have hj:=List.mem_range.1 hj
  unfold Lib.keeps at hk
  simp only [decide_eq_true_eq,not_or,Decidable.not_not] at hk
  obtain ⟨h0,h1⟩:=hk
  rw [hget j hj,hget (j-1) (by omega)] at h1
  exact List.pairwise_iff_getElem.1 hnd (j-1) j (by omega) hj (by omega) h1.symm
 ·intro hnd
  refine Decidable.byContradiction fun hne=>hnd (List.pairwise_iff_getElem.2 fun i j hi hj hij e=>hne ⟨j,List.mem_range.2 hj,?_⟩)
  unfold Lib.keeps
  simp only [decide_eq_true_eq,not_or,Decidable.not_not]
  refine ⟨by omega,?_⟩
  rw [hget j hj,hget (j-1) (by omega)]
  have h1:L[j-1]≤L[j]:=List.pairwise_iff_getElem.1 hsort (j-1) j (by omega) hj (by omega)
  have h2:L[i]≤L[j-1]:=by
   by_cases hh:i=j-1
   ·subst hh;exact List.le_refl _
   ·exact List.pairwise_iff_getElem.1 hsort i (j-1) hi (by omega) (by omega)
  rw [←e] at h1
  rw [←e]
  exact List.le_antisymm h2 h1
end Go.Proofs.YtlekejpogddndaaGreatDoor
end
section
namespace Go.Proofs.YtlekejpogddndaaGreatDoor
open Go.Ab Go.RowKit Civ
attribute [local simp] Zbk Zbx Zbr Zbt Zb9 ZdB ZbU
section
theorem Zgw {a0 a1:AV}{l:List AV}:(a0::a1::l).take 2=[a0,a1]:=rfl
theorem Zfm {a0 a1 c0 c1:AV}{l:List AV}:setCells (a0::a1::l) 0 [c0,c1]=c0::c1::l:=rfl
theorem Zgz {τ:Operand→AV}{y0:Operand}{x0_0:AV}(h0:Zav (τ y0)=some [x0_0]) (l0:[x0_0].all leaf=true):Zas τ [(0,1,y0)] [(.v (.string ⟨#[]⟩))]=some [x0_0]:=by
 simp only [Zas,h0,l0]
 rfl
theorem Zgx {a0:AV}{l:List AV}:(a0::l).take 1=[a0]:=rfl
theorem Zgy {τ:Operand→AV}{y0:Operand}{x0_0:AV}(h0:Zav (τ y0)=some [x0_0]) (l0:[x0_0].all leaf=true):Zas τ [(0,1,y0)] [(.v (.string ⟨#[]⟩))]=some [x0_0]:=by
 simp only [Zas,h0,l0]
 rfl
theorem Zmw {a0 a1 a2:AV}{l:List AV}:(a0::a1::a2::l).take 3=[a0,a1,a2]:=rfl
end
def c210:AC:=(Sr [Oo 1 (.box 26 3 (.tmp 0)),Oo 2 (.mv (.const (.slice none 0 0)))] (Sr [Oo 3 (.mv (.const (.slice none 0 0)))] (.seq (Sr [Fa 8 1 1,Ld 9 8,Oo 10 (.len false (.tmp 9)),Mc 11 0] (.block 0 (.loop (Sr [Bn 12 .lss 11 10] (.seq (Cd 12 .skip (.exit 0)) (.seq (.block 1 (Sr [Oo 13 (.ia 2 (.tmp 9) (.tmp 11)),Oo 14 (.load true 2 (.tmp 13)),Oo 5 (.new 53 2 [Ss,(.sl 0 0 true [])]),⟨none,none,(.store 2 (.tmp 5) (.tmp 14))⟩] (.reg [Mv 15 3,Fa 16 0 5,Ld 17 16,Oo 18 (.lit 9 1 1 [Ss] [(0,(1,(.tmp 17)))]),Oo 19 (.app 9 1 16 (.tmp 15) (.tmp 18)),Mv 3 19]))) (.reg [Bc 20 .add 11 1,Mv 11 20]))))))) (.seq (Sr [Fa 21 2 1,Ld 22 21,Oo 23 (.len false (.tmp 22)),Mc 24 0] (.block 2 (.loop (Sr [Bn 25 .lss 24 23] (.seq (Cd 25 .skip (.exit 2)) (.seq (.block 3 (Sr [Oo 26 (.ia 2 (.tmp 22) (.tmp 24)),Oo 27 (.load true 2 (.tmp 26)),Oo 7 (.new 129 2 [Ss,Ss]),⟨none,none,(.store 2 (.tmp 7) (.tmp 27))⟩] (.reg [Mv 28 3,Fa 29 1 7,Ld 30 29,Oo 31 (.lit 9 1 1 [Ss] [(0,(1,(.tmp 30)))]),Oo 32 (.app 9 1 16 (.tmp 28) (.tmp 31)),Mv 3 32]))) (.reg [Bc 33 .add 24 1,Mv 24 33]))))))) (Sr [Mv 34 3,Mv 2 34] .ret)))))
theorem k210:ZaA Tryz.prog 210=some ⟨c210,[(.tmp 2)],35⟩:=by kernel_rfl
def c133:AC:=(Sr [Oo 1 (.box 26 3 (.tmp 0)),Mb 2 false] (Sr [Oo 4 (.load true 3 (.tmp 1)),Cl 5 210 [(.tmp 4)],Mv 3 5] (Sr [Mv 6 3,Cl 7 211 [(.tmp 6)]] (.seq (.drwU [[],[],[],[0,1,2],[2],[2],[],[]] [Mv 8 3,Cl 9 212 [(.tmp 8)],Oo 10 (.len false (.tmp 9)),Oo 11 (.load true 3 (.tmp 1)),Cl 12 210 [(.tmp 11)],Oo 13 (.len false (.tmp 12)),Bn 14 .lss 10 13,Mv 2 14]) .ret))))
theorem k133:ZjO Tryz.prog 133=some ⟨c133,[(.tmp 2)],15⟩:=by kernel_rfl
def Zdf (z:List Zon) (k:List Lnk):List ByteArray:=z.map (·.1)++k.map (·.2)
theorem ZgQ (z:List Zon) (k:List Lnk):(Zdf z k).length=z.length+k.length:=by simp [Zdf]
theorem Zkr (x:ByteArray):rows strC [x]=[sv x]:=rfl
theorem names_o {a:List Rul}{z:List Zon}{k:List Lnk}{h:AH}{q:Nat}(hq:h.length+1=q) (hz:z.length≤20) (hk:k.length≤20):ACalls Tryz.prog 210 [.agg (srcB a z k)] h fun x h'=>x=.ret (.own q (Zdf z k).length (Zdf z k).length)∧h'=h++[.mk 0 26 3 (srcB a z k),.mk (Zdf z k).length 9 1 (rows strC (Zdf z k))]:=by
 have hnl:=ZgQ z k
 have hkk:=hk
 refine tN' k210 fun N hn hlt hlA hbd=>?_
 simp only [tb'] at hbd ⊢
 refine wr'<|E' (Zba (cvl lk0 rfl) rfl (hl0 hn) ha0) pt1<|mv' lkn pt2<|sn'<|wr'<|mv' lkn pt3<|Zar<|Za6 (ALe.own0' (st':=1) (ty:=9) gt3 (hl1 hn) pt3 ha1)<|Zal<|wr'<|?_
 refine V' (Zab lk) pt<|V' (Zac lk (hga hn rfl) gt1) pt<|V' (ZaL lk) pt<|mv' lki pt<|sn'<|Zap<|?_
 refine w_lp (ι:=Nat) (fun (i:Nat)=>[(3,.own (N+1) i i),(11,iv (i:Int)),(5,.any)]++rn' 12 9) (fun (i:Nat)=>[(1,.mk i 9 1 (rows strC ((z.map (·.1)).take i)))]) (fun (i:Nat)=>i≤z.length) (fun (i:Nat)=>z.length-i) (0) (by exact Nat.zero_le _) ?_
 rintro i hi1
 try simp only [sm',Nat.reduceAdd]
 replace hi1:i≤z.length:=hi1
 have htl:((z.map (·.1)).take i).length=i:=by rw [List.length_take,List.length_map];omega
 refine wr'<|V' (Za9 lk lk) pt<|sn'<|Zal<|?_
 refine cd' lk (fun hc1=>?_) (fun hc1=>?_)
 ·have hi:i<z.length:=by omega
  have htk:(z.map (·.1)).take (i+1)=(z.map (·.1)).take i++[z[i].1]:=by rw [List.take_succ_eq_append_getElem (by simpa using hi)];simp
  refine Zae<|Zah<|Zal<|Zap<|wr'<|?_
  refine V' (ZaU lk lk ZcK (nb' rfl) ro (by omega) ro rfl) pt ?_
  refine V' (ZaI lk Zgw rfl) pt<|E' (ZaV (hl2 hn) ha2) pt<|E' (Zak lk (cvl lk rfl) (hga hn rfl) rfl (nb' rfl) rfl Zfm (hs2 hn)) ptn<|sn'<|Zat<|mv' lk pt<|V' (Zab lk) pt<|V' (Zac lk (hga hn rfl) gt0) pt<|E' (ZdH (Zgz (cvl lk rfl) rfl) (hl3 hn) ha3) pt<|?_
  refine E' (Zdj (Zcr lk (hga hn rfl) rfl Zgx (nb' rfl)) lk (hga hn rfl) ((Zef _).trans (by rw [htl])) (by omega) rfl (hs1 hn)) pt ?_
  refine mv' lk pt<|Zar<|Zaz<|Zah<|Zat<|?_
  refine V' (Zay lk lki (by omega) (by omega)) pt ?_
  refine mv' lk pt<|Zar<|ZaB<|?_
  refine lU' (i+1) (by (try dsimp only);omega) (by (try dsimp only);(try simp only [sm',Nat.reduceAdd]);exact bk' 2 hn hlt (by rw [htk,Za3,Zkr];rfl))
 have hie:i=z.length:=by omega
 subst hie
 rw [show (z.map (·.1)).take z.length=z.map (·.1) from List.take_of_length_le (by simp)]
 refine ZaM<|ZaC<|ZaC<|Za7<|Zah<|Zal<|wr'<|V' (Zab lk) pt<|V' (Zac lk (hga hn rfl) gt2) pt<|V' (ZaL lk) pt<|mv' lki pt<|sn'<|?_
 refine Zap ?_
 refine Zha (ι:=Nat) (fun (j:Nat)=>[(3,.own (N+1) (z.length+j) (z.length+j)),(24,iv (j:Int)),(7,.any)]++rn' 25 9) (fun (j:Nat)=>[(1,.mk (z.length+j) 9 1 (rows strC (z.map (·.1)++(k.map (·.2)).take j)))]) (fun (j:Nat)=>j≤k.length) (fun (j:Nat)=>k.length-j) (0) (by exact Nat.zero_le _) (by try simp only [sm',Nat.reduceAdd];exact ALe.same wA' (by rw [List.take_zero,List.append_nil];rfl)) ?_
 rintro j hi2
 try simp only [sm',Nat.reduceAdd]
 replace hi2:j≤k.length:=hi2
 have htl2:(z.map (·.1)++(k.map (·.2)).take j).length=z.length+j:=by rw [List.length_append,List.length_map,List.length_take,List.length_map];omega
 refine wr'<|V' (Za9 lk lk) pt<|sn'<|Zal<|?_
 refine cd' lk (fun hc2=>?_) (fun hc2=>?_)
 ·have hj:j<k.length:=by omega
  have htk2:(k.map (·.2)).take (j+1)=(k.map (·.2)).take j++[k[j].2]:=by rw [List.take_succ_eq_append_getElem (by simpa using hj)];simp
  refine Zae<|Zah<|Zal<|Zap<|wr'<|?_
  refine V' (ZaU lk lk ZdO (nb' rfl) ro (by omega) ro rfl) pt ?_
  refine V' (ZaI lk Zgw rfl) pt<|E' (ZaV (hl2 hn) ha2) pt<|E' (Zak lk (cvl lk rfl) (hga hn rfl) rfl (nb' rfl) rfl Zfm (hs2 hn)) ptn<|sn'<|Zat<|mv' lk pt<|V' (Zab lk) pt<|V' (Zac lk (hga hn rfl) gt1) pt<|E' (ZdH (Zgy (cvl lk rfl) rfl) (hl3 hn) ha3) pt<|?_
  refine E' (Zdj (Zcr lk (hga hn rfl) rfl Zgx (nb' rfl)) lk (hga hn rfl) ((Zef _).trans (by rw [htl2])) (by omega) rfl (hs1 hn)) pt ?_
  refine mv' lk pt<|Zar<|Zaz<|Zah<|Zat<|?_
  refine V' (Zay lk lki (by omega) (by omega)) pt ?_
  refine mv' lk pt<|Zar<|ZaB<|?_
  refine lU' (j+1) (by (try dsimp only);omega) (by (try dsimp only);(try simp only [sm',Nat.reduceAdd]);exact bk' 2 hn hlt (by simp only [htk2,Za3,Zkr,List.append_assoc];rfl))
 have hje:j=k.length:=by omega
 subst hje
 rw [show (k.map (·.2)).take k.length=k.map (·.2) from List.take_of_length_le (by simp)]
 refine ZaM<|ZaC<|ZaC<|Za7<|Zah<|wr'<|mv' lk pt<|mv' lk pt<|sn'<|Zaa<|Zaf rz<|?_
 rw [←hq,hnl,hn];exact ⟨rfl,rfl⟩
theorem names_q {a:List Rul}{z:List Zon}{k:List Lnk}{h:AH}(hz:z.length≤20) (hk:k.length≤20):Ac 210 [.agg (srcB a z k)] h (.sl (Zdf z k).length 1 false (rows strC (Zdf z k))):=by
 have hnl:=ZgQ z k
 have hkk:=hk
 refine tW' k210 fun N hn hlt hlA hbd=>?_
 simp only [tb'] at hbd ⊢
 refine wr'<|E' (Zba (cvl lk0 rfl) rfl (hl0 hn) ha0) pt1<|mv' lkn pt2<|sn'<|wr'<|mv' lkn pt3<|Zar<|Za6 (ALe.own0' (st':=1) (ty:=9) gt3 (hl1 hn) pt3 ha1)<|Zal<|wr'<|?_
 refine V' (Zab lk) pt<|V' (Zac lk (hga hn rfl) gt1) pt<|V' (ZaL lk) pt<|mv' lki pt<|sn'<|Zap<|?_
 refine w_lp (ι:=Nat) (fun (i:Nat)=>[(3,.own (N+1) i i),(11,iv (i:Int)),(5,.any)]++rn' 12 9) (fun (i:Nat)=>[(1,.mk i 9 1 (rows strC ((z.map (·.1)).take i)))]) (fun (i:Nat)=>i≤z.length) (fun (i:Nat)=>z.length-i) (0) (by exact Nat.zero_le _) ?_
 rintro i hi1
 try simp only [sm',Nat.reduceAdd]
 replace hi1:i≤z.length:=hi1
 have htl:((z.map (·.1)).take i).length=i:=by rw [List.length_take,List.length_map];omega
 refine wr'<|V' (Za9 lk lk) pt<|sn'<|Zal<|?_
 refine cd' lk (fun hc1=>?_) (fun hc1=>?_)
 ·have hi:i<z.length:=by omega
  have htk:(z.map (·.1)).take (i+1)=(z.map (·.1)).take i++[z[i].1]:=by rw [List.take_succ_eq_append_getElem (by simpa using hi)];simp
  refine Zae<|Zah<|Zal<|Zap<|wr'<|?_
  refine V' (ZaU lk lk ZcK (nb' rfl) ro (by omega) ro rfl) pt ?_
  refine V' (ZaI lk Zgw rfl) pt<|E' (ZaV (hl2 hn) ha2) pt<|E' (Zak lk (cvl lk rfl) (hga hn rfl) rfl (nb' rfl) rfl Zfm (hs2 hn)) ptn<|sn'<|Zat<|mv' lk pt<|V' (Zab lk) pt<|V' (Zac lk (hga hn rfl) gt0) pt<|E' (ZdH (Zgz (cvl lk rfl) rfl) (hl3 hn) ha3) pt<|?_
  refine E' (Zdj (Zcr lk (hga hn rfl) rfl Zgx (nb' rfl)) lk (hga hn rfl) ((Zef _).trans (by rw [htl])) (by omega) rfl (hs1 hn)) pt ?_
  refine mv' lk pt<|Zar<|Zaz<|Zah<|Zat<|?_
  refine V' (Zay lk lki (by omega) (by omega)) pt ?_
  refine mv' lk pt<|Zar<|ZaB<|?_
  refine lU' (i+1) (by (try dsimp only);omega) (by (try dsimp only);(try simp only [sm',Nat.reduceAdd]);exact bk' 2 hn hlt (by rw [htk,Za3,Zkr];rfl))
 have hie:i=z.length:=by omega
 subst hie
 rw [show (z.map (·.1)).take z.length=z.map (·.1) from List.take_of_length_le (by simp)]
 refine ZaM<|ZaC<|ZaC<|Za7<|Zah<|Zal<|wr'<|V' (Zab lk) pt<|V' (Zac lk (hga hn rfl) gt2) pt<|V' (ZaL lk) pt<|mv' lki pt<|sn'<|?_
 refine Zap ?_
 refine Zha (ι:=Nat) (fun (j:Nat)=>[(3,.own (N+1) (z.length+j) (z.length+j)),(24,iv (j:Int)),(7,.any)]++rn' 25 9) (fun (j:Nat)=>[(1,.mk (z.length+j) 9 1 (rows strC (z.map (·.1)++(k.map (·.2)).take j)))]) (fun (j:Nat)=>j≤k.length) (fun (j:Nat)=>k.length-j) (0) (by exact Nat.zero_le _) (by try simp only [sm',Nat.reduceAdd];exact ALe.same wA' (by rw [List.take_zero,List.append_nil];rfl)) ?_
 rintro j hi2
 try simp only [sm',Nat.reduceAdd]
 replace hi2:j≤k.length:=hi2
 have htl2:(z.map (·.1)++(k.map (·.2)).take j).length=z.length+j:=by rw [List.length_append,List.length_map,List.length_take,List.length_map];omega
 refine wr'<|V' (Za9 lk lk) pt<|sn'<|Zal<|?_
 refine cd' lk (fun hc2=>?_) (fun hc2=>?_)
 ·have hj:j<k.length:=by omega
  have htk2:(k.map (·.2)).take (j+1)=(k.map (·.2)).take j++[k[j].2]:=by rw [List.take_succ_eq_append_getElem (by simpa using hj)];simp
  refine Zae<|Zah<|Zal<|Zap<|wr'<|?_
  refine V' (ZaU lk lk ZdO (nb' rfl) ro (by omega) ro rfl) pt ?_
  refine V' (ZaI lk Zgw rfl) pt<|E' (ZaV (hl2 hn) ha2) pt<|E' (Zak lk (cvl lk rfl) (hga hn rfl) rfl (nb' rfl) rfl Zfm (hs2 hn)) ptn<|sn'<|Zat<|mv' lk pt<|V' (Zab lk) pt<|V' (Zac lk (hga hn rfl) gt1) pt<|E' (ZdH (Zgy (cvl lk rfl) rfl) (hl3 hn) ha3) pt<|?_
  refine E' (Zdj (Zcr lk (hga hn rfl) rfl Zgx (nb' rfl)) lk (hga hn rfl) ((Zef _).trans (by rw [htl2])) (by omega) rfl (hs1 hn)) pt ?_
  refine mv' lk pt<|Zar<|Zaz<|Zah<|Zat<|?_
  refine V' (Zay lk lki (by omega) (by omega)) pt ?_
  refine mv' lk pt<|Zar<|ZaB<|?_
  refine lU' (j+1) (by (try dsimp only);omega) (by (try dsimp only);(try simp only [sm',Nat.reduceAdd]);exact bk' 2 hn hlt (by simp only [htk2,Za3,Zkr,List.append_assoc];rfl))
 have hje:j=k.length:=by omega
 subst hje
 rw [show (k.map (·.2)).take k.length=k.map (·.2) from List.take_of_length_le (by simp)]
 refine ZaM<|ZaC<|ZaC<|Za7<|?_
 refine Za6 (ALe.iceR (hga hn rfl) gt3 (List.take_of_length_le (by rw [Zef];simp)) (by rw [Zef];simp) pt3 (hs1 hn)) ?_
 refine wr'<|mv' lk pt<|mv' lk pt<|sn'<|Zaa<|Zaf rz<|rtW'<|?_
 rw [hnl];exact Wk.full
theorem twice_a {a:List Rul}{z:List Zon}{k:List Lnk}{h:AH}(hz:z.length≤20) (hk:k.length≤20):Ac 133 [.agg (srcB a z k)] h (bv (decide (¬(Zdf z k).Nodup))):=by
 have hnl:=ZgQ z k
 have hsl:=Zrc (Zdf z k)
 refine tU' k133 fun N hn hlt hlA hbd=>?_
 simp only [tb'] at hbd ⊢
 refine wr'<|E' (Zba (cvl lk rfl) rfl (hl0 hn) ha0) pt<|mv' lkb pt<|Zar<|?_
 refine Za6 (ALe.icePtr (hga hn rfl) gt1 (by simp) pt1 (hs0 hn)) ?_
 refine wr'<|V' (ZaI lk Zmw rfl) pt<|?_
 refine s_callh mp ((names_o (q:=N+2) (by rw [hl1 hn]) hz hk).mono (fun x h' hh=>⟨hh.1,hh.2.trans (show _=h++[_,_,_] from List.append_assoc _ _ _)⟩)) pt ?_
 refine mv' lk pt<|sn'<|wr'<|mv' lk pt<|?_
 refine ZaO mp (Zm1 (hga hn rfl) (by omega)) (hs2 hn) pt ?_
 refine sn'<|Zal<|Zb1<|u_fr rfl (v_mv lk) pt<|?_
 refine ZcS mp (hga hn rfl) (fun hU hUe=>(by have:=ZnG (h:=hU) (l:=Zeg (Zdf z k)) hUe (by omega);rwa [hsl] at this)) nh (hs2 hn) pt ?_
 refine u_fr rfl (Zc2 lk) pt<|u_fr rfl (ZaI lk Zmw rfl) pt<|?_
 refine u_callF mp (fun hU=>names_q hz hk) pt ?_
 refine u_fr rfl (ZaL lk) pt<|u_fr rfl (Za9 lk lk) pt<|u_fr rfl (v_mv lk) pt<|Zc3<|Zah<|Zaa<|Zaf rz<|rT'<|?_
 exact bvx (by rw [←ZqU];simp)
end Go.Proofs.YtlekejpogddndaaGreatDoor
end
section
namespace Go.Proofs.YtlekejpogddndaaGreatDoor
open Go.Ab Go.RowKit Civ
attribute [local simp] Zbk Zbx Zbr Zbt Zb9 ZdB ZdY
section
theorem ZnZ {a0 a1 a2 a3 a4 a5 a6 a7 a8 a9 c0 c1 c2 c3 c4 c5 c6 c7 c8 c9:AV}{l:List AV}:setCells (a0::a1::a2::a3::a4::a5::a6::a7::a8::a9::l) 0 [c0,c1,c2,c3,c4,c5,c6,c7,c8,c9]=c0::c1::c2::c3::c4::c5::c6::c7::c8::c9::l:=rfl
theorem Zdo {a0 c0:AV}{l:List AV}:setCells (a0::l) 0 [c0]=c0::l:=rfl
theorem Zgv {a0 a1 a2:AV}{l:List AV}:(a0::a1::a2::l).take 3=[a0,a1,a2]:=rfl
end
def c65p:AC:=(.seq (.reg [⟨(some 1),none,(.box 26 3 (.tmp 0))⟩,⟨(some 2),none,(.new 30 1 [(.v (.int .i64 0))])⟩]) (.seq (.reg [⟨(some 7),none,(.load true 3 (.tmp 1))⟩,⟨(some 8),none,(.call (.func 132) [(.tmp 7)])⟩,⟨(some 3),none,(.mv (.tmp 8))⟩]) (.seq (.block 0 (.seq (.reg [⟨(some 10),none,(.mv (.tmp 3))⟩,⟨(some 11),none,(.bin .neq (.tmp 10) (.const (.int .i64 0)))⟩,⟨(some 9),none,(.mv (.tmp 11))⟩]) (.cond (.tmp 9) (.seq (.reg [⟨(some 12),none,(.mv (.tmp 3))⟩,⟨none,none,(.store 1 (.tmp 2) (.tmp 12))⟩]) .ret) (.seq (.reg [⟨(some 14),none,(.load true 3 (.tmp 1))⟩,⟨(some 15),none,(.call (.func 133) [(.tmp 14)])⟩,⟨(some 13),none,(.mv (.tmp 15))⟩]) (.cond (.tmp 13) (.seq (.reg [⟨none,none,(.store 1 (.tmp 2) (.const (.int .i64 6)))⟩]) .ret) (.seq (.reg [⟨(some 17),none,(.load true 3 (.tmp 1))⟩,⟨(some 18),none,(.call (.func 134) [(.tmp 17)])⟩,⟨(some 16),none,(.mv (.tmp 18))⟩]) (.cond (.tmp 16) (.seq (.reg [⟨none,none,(.store 1 (.tmp 2) (.const (.int .i64 5)))⟩]) .ret) .skip))))))) (.seq (.reg [⟨(some 19),none,(.load true 3 (.tmp 1))⟩,⟨(some 20),none,(.call (.func 135) [(.tmp 19)])⟩]) .skip))))
def c65a:AC:=(.reg [⟨(some 4),none,(.new 63 10 [(.v (.int .i64 0)),(.v (.string ⟨#[]⟩)),(.v (.int .i64 0)),(.v (.string ⟨#[]⟩)),(.v (.bool false)),(.v (.int .i64 0)),(.v (.int .i64 0)),(.v (.int .i64 0)),(.v (.int .i64 0)),(.v (.int .i64 0))])⟩,⟨none,none,(.store 10 (.tmp 4) (.tmp 21))⟩])
def c65b:AC:=(.block 2 (.seq (.seq (.reg [⟨(some 22),none,(.fa 1 (.tmp 4))⟩,⟨(some 23),none,(.load false 1 (.tmp 22))⟩,⟨(some 24),none,(.bin .eql (.tmp 23) (.const (.string ⟨#[]⟩)))⟩]) (.cond (.tmp 24) (.exit 2) .skip)) (.seq (.reg [⟨(some 26),none,(.fa 0 (.tmp 1))⟩,⟨(some 27),none,(.load false 1 (.tmp 26))⟩,⟨(some 28),none,(.fa 1 (.tmp 4))⟩,⟨(some 29),none,(.load false 1 (.tmp 28))⟩,⟨(some 30),none,(.fa 0 (.tmp 4))⟩,⟨(some 31),none,(.load false 1 (.tmp 30))⟩,⟨(some 32),none,(.call (.func 31) [(.tmp 27),(.tmp 29),(.tmp 31)])⟩,⟨(some 25),none,(.mv (.tmp 32))⟩,⟨(some 33),none,(.ext (.tmp 25) 0)⟩,⟨(some 34),none,(.ext (.tmp 25) 1)⟩,⟨(some 5),none,(.mv (.tmp 33))⟩,⟨(some 6),none,(.mv (.tmp 34))⟩]) (.seq (.reg [⟨(some 35),none,(.mv (.tmp 6))⟩,⟨(some 36),none,(.bin .neq (.tmp 35) (.const (.int .i64 0)))⟩]) (.cond (.tmp 36) (.seq (.reg [⟨(some 37),none,(.mv (.tmp 6))⟩,⟨none,none,(.store 1 (.tmp 2) (.tmp 37))⟩]) .ret) .skip)))))
def c65q:AC:=(.seq (.reg [⟨(some 38),none,(.fa 1 (.tmp 1))⟩,⟨(some 39),none,(.load false 1 (.tmp 38))⟩,⟨(some 40),none,(.call (.func 136) [(.tmp 39),(.func 137)])⟩]) (.seq (.cond (.tmp 40) (.seq (.reg [⟨none,none,(.store 1 (.tmp 2) (.const (.int .i64 4)))⟩]) .ret) .skip) (.seq (.reg [⟨none,none,(.store 1 (.tmp 2) (.const (.int .i64 0)))⟩]) (.seq .ret .skip))))
abbrev fr65:AFR:=⟨[(.reg [⟨(some 1),none,(.box 26 3 (.tmp 0))⟩,⟨(some 2),none,(.new 30 1 [(.v (.int .i64 0))])⟩]),(.reg [⟨(some 7),none,(.load true 3 (.tmp 1))⟩,⟨(some 8),none,(.call (.func 132) [(.tmp 7)])⟩,⟨(some 3),none,(.mv (.tmp 8))⟩]),(.block 0 (.seq (.reg [⟨(some 10),none,(.mv (.tmp 3))⟩,⟨(some 11),none,(.bin .neq (.tmp 10) (.const (.int .i64 0)))⟩,⟨(some 9),none,(.mv (.tmp 11))⟩]) (.cond (.tmp 9) (.seq (.reg [⟨(some 12),none,(.mv (.tmp 3))⟩,⟨none,none,(.store 1 (.tmp 2) (.tmp 12))⟩]) .ret) (.seq (.reg [⟨(some 14),none,(.load true 3 (.tmp 1))⟩,⟨(some 15),none,(.call (.func 133) [(.tmp 14)])⟩,⟨(some 13),none,(.mv (.tmp 15))⟩]) (.cond (.tmp 13) (.seq (.reg [⟨none,none,(.store 1 (.tmp 2) (.const (.int .i64 6)))⟩]) .ret) (.seq (.reg [⟨(some 17),none,(.load true 3 (.tmp 1))⟩,⟨(some 18),none,(.call (.func 134) [(.tmp 17)])⟩,⟨(some 16),none,(.mv (.tmp 18))⟩]) (.cond (.tmp 16) (.seq (.reg [⟨none,none,(.store 1 (.tmp 2) (.const (.int .i64 5)))⟩]) .ret) .skip))))))),(.reg [⟨(some 19),none,(.load true 3 (.tmp 1))⟩,⟨(some 20),none,(.call (.func 135) [(.tmp 19)])⟩])],(.tmp 20),#[21],c65a,c65b,c65q,[(.cell 2 false 1)],41⟩
theorem k65:Zhk Tryz.prog 65=some fr65:=by kernel_rfl
def errX (a:List Rul) (x:Era):Int:=if xRl x=⟨#[]⟩ then 0 else (Za8 a (xRl x) (xSh x)).2
def Zb6 (s:Src):Int :=
 if ZbR s≠0 then ZbR s else if ¬(Zdf s.2.1 s.2.2).Nodup then 6 else if Zi3 s=true then 5
 else if Za1 (errX s.1) (Zdd s.2.1)≠0 then Za1 (errX s.1) (Zdd s.2.1)
 else if (s.2.1.any fun z=>!risL (Zcb z.2))=true then 4 else 0
theorem Ziq {p:Era→Int}{l:List Era}:Za1 p l=match l.find? (fun x=>decide (p x≠0)) with
  | none=>0
  | some x=>p x:=by
 induction l with
 | nil=>rfl
 | cons x l ih =>
  rw [Za1,List.find?_cons]
  by_cases h:p x≠0
  ·rw [if_pos h,decide_eq_true h]
  rw [if_neg h,decide_eq_false h];exact ih
theorem Zd5 {s:Src}(h:ZbR s=0):s.1.length≤40∧s.2.1.length≤20∧s.2.2.length≤20∧(∀ z∈s.2.1,z.2.length≤8)∧(∀ r∈s.1,Zbu r=0)∧(∀ z∈s.2.1,ZeL z=0) ∧ ∀ l∈s.2.2,Zen l=0:=by
 unfold ZbR at h
 split at h
 ·cases h
 rename_i h1
 split at h
 ·rename_i h2;exact absurd h h2
 rename_i h2
 split at h
 ·rename_i h3;exact absurd h h3
 rename_i h3
 have h1:ZeK s=false:=by simpa using h1
 unfold ZeK at h1
 simp only [Bool.or_eq_false_iff,decide_eq_false_iff_not,List.any_eq_false,decide_eq_true_eq] at h1
 exact ⟨by omega,by omega,by omega,fun z hz=>by have:=h1.1.1.1 z hz;omega,Zdn (Decidable.of_not_not h2),Zdn (Decidable.of_not_not h3),Zdn h⟩
theorem ZgZ {s:Src}(h:ZbR s=0) {z:Zon}(hz:z∈s.2.1):okZ z.2:=by
 obtain ⟨_,_,_,h4,_,h6,_⟩:=Zd5 h
 exact okZ_of (h6 z hz) (h4 z hz)
abbrev chkT (N:Nat) (a:List Rul) (z:List Zon) (k:List Lnk) (x:AV):List AV:=[.any,.rp (srcB a z k),.ptr (N+1) 0 0,.any,.any,.any,.any,.any,.any,.any,.any,.any,.any,.any,.any,.any,.any,.any,.any,.any,.clo (.func 217) [.rp (srcB a z k)],x,.any,.any,.any,.any,.any,.any,.any,.any,.any,.any,.any,.any,.any,.any,.any,.any,.any,.any,.any]
theorem chkT_lt {N:Nat}{a:List Rul}{z:List Zon}{k:List Lnk}:AV.ltL (N+4) (chkT N a z k .any)=true:=by simp [AV.ltL,AV.lt,Zbk,Zbr,Zbt]
theorem Ziv {h:AH}{lp N D:Nat}{rdy bsy fin:Obj}{a:List Rul}{z:List Zon}{k:List Lnk}{vs:List Value}(hn:h.length=N) (hlt : ∀ e∈h,e.lt N=true) (ha:a.length≤9223372036854775807) (hok:okRs a)
  (hY:Zk7 Tryz.prog fr65 (N+2+1) lp rdy bsy fin (chkT N a z k .any) vs) {x:Era} {e f:Ent} :
  AYield Tryz.prog lp [.agg (eraC x)] (ergJ h D lp 30 rdy (chkT N a z k .any) vs (iv 0) e f) fun r h''=>r=.ret (.v (.bool (!decide (errX a x≠0))))∧h''=ergJ h D lp 30 (if errX a x≠0 then fin else rdy) (chkT N a z k .any) vs (iv (errX a x)) e f:=by
 refine y_go hY (hga (k:=3) hn rfl) rfl fun n0 hn0 hlt0 q1 q2 q3=>?_
 have hm:n0=N+6:=by rw [←hn0];simp [hn]
 have hE:=hlt0 e (by simp)
 have hF:=hlt0 f (by simp)
 have hR:=hlt0 (.raw lp rdy (chkT N a z k .any) vs) (by simp)
 show aw _ _ c65a _ _ _
 show aw _ _ _ _ (chkT N a z k (.agg (eraC x))) (h++[.gone,.mk 0 30 1 [iv 0],mkD D,.raw lp rdy (chkT N a z k .any) vs,e,f])
 refine Zat<|E' (ZaV (hl6 hn) ha6) pt<|E' (Zak lk (cvl lk rfl) (hga hn rfl) rfl (nb' rfl) rfl ZnZ (hs6 hn)) ptn<|Zar<|?_
 refine ZsR (i:=N+3) (hga hn rfl) (hs3 hn) fun n1 hn1 hlt1=>?_
 have hro : ∀ o:Obj,Ent.lt n0 (.raw lp o (chkT N a z k .any) vs)=true:=fun o=>by simpa [Ent.lt] using hR
 have fin2 : ∀ (n:Int) (b:Bool) (o:Obj) (E:Ent),n=errX a x→b=!decide (errX a x≠0)→o=(if errX a x≠0 then fin else rdy) → ∃ y z',h++[.gone,.mk 0 30 1 [iv n],mkD D,.raw lp o (chkT N a z k .any) vs,e,f,E]=y++z'∧y.length=n0∧(∀ e∈y,e.lt n0=true)∧(AE.ret (.v (.bool b))).lt n0=true∧AE.ret (.v (.bool b))=.ret (.v (.bool (!decide (errX a x≠0))))∧y=ergJ h D lp 30 (if errX a x≠0 then fin else rdy) (chkT N a z k .any) vs (iv (errX a x)) e f:=by
  rintro n b o E rfl rfl rfl
  refine ⟨_,_,app61,by rw [←hn0];simp,fun y hy=>?_,rfl,rfl,rfl⟩
  rcases List.mem_append.1 hy with hy | hy
  ·exact ltw (by omega) hlt y hy
  simp only [List.mem_cons,List.not_mem_nil,or_false] at hy
  rcases hy with rfl | rfl | rfl | rfl | rfl | rfl
  ·simp [Ent.lt]
  ·simp [Ent.lt,AV.ltL,AV.lt]
  ·simp [Ent.lt,AV.ltL]
  ·exact hro _
  ·exact hE
  exact hF
 show aw _ _ c65b _ _ _
 refine Zap<|Zal<|wr'<|V' (Zab lk) pt<|V' (Zac lk (hga hn rfl) gt1) pt<|V' (ZcD lk lks) pt<|sn'<|?_
 refine cd' lk (fun hc1=>?_) (fun hc1=>?_)
 ·have hP:errX a x=0:=if_pos hc1
  refine ZaM<|ZaC<|Za7<|?_
  exact Ziz (i:=N+3) (hga hn rfl) (hs3 hn) (fin2 0 true rdy _ hP.symm (by rw [hP];rfl) (by rw [hP];rfl))
 have hP:errX a x=(Za8 a (xRl x) (xSh x)).2:=if_neg hc1
 refine Zae<|Zah<|wr'<|V' (ZbB lk dp0) pt<|V' (ZaD lk gt) pt<|V' (Zab lk) pt<|V' (Zac lk (hga hn rfl) gt1) pt<|V' (Zab lk) pt<|V' (Zac lk (hga hn rfl) gt0) pt<|Zad mp (Zq1 hok ha) pt<|mv' lk pt<|V' (Zbb lk gt) pt<|V' (Zbb lk gt) pt<|?_
 refine mv' lk pt<|mv' lk pt<|sn'<|wr'<|mv' lk pt<|V' (ZaZ lk lki) pt<|sn'<|?_
 refine cd' lk (fun hc2=>?_) (fun hc2=>?_)
 ·have hP2:errX a x≠0:=by rw [hP];exact hc2
  refine wr'<|mv' lk pt<|E' (Zak lk (cvl lk rfl) (hga hn rfl) rfl (nb' rfl) rfl Zdo (hs1 hn)) ptn<|sn'<|Zaa<|Zaq<|?_
  refine Zpa (i:=N+3) (hga hn rfl) (hs3 hn) (fin2 _ false fin _ hP.symm (by rw [decide_eq_true hP2];rfl) (by rw [if_pos hP2]))
 have hP2:errX a x=0:=by rw [hP];exact Decidable.of_not_not hc2
 refine Zae<|Zaz<|?_
 exact Ziz (i:=N+3) (hga hn rfl) (hs3 hn) (fin2 0 true rdy _ hP2.symm (by rw [hP2];rfl) (by rw [hP2];rfl))
theorem ZpU {h:AH}{lp N D:Nat}{rdy bsy fin:Obj}{a:List Rul}{z:List Zon}{k:List Lnk}{vs:List Value}(hn:h.length=N) (hlt : ∀ e∈h,e.lt N=true) (hok:okRs a) (hc:ZbR (a,z,k)=0)
    (hY:Zk7 Tryz.prog fr65 (N+2+1) lp rdy bsy fin (chkT N a z k .any) vs) (hnd:(Zdf z k).Nodup) (hms:Zi3 (a,z,k)=false) {R:AE→AH→Prop} (hR:R=fun x h' => ∃ z',h'=h++z'∧x.lt N=true∧x=.ret (iv (Zb6 (a,z,k)))) :
    ACalls Tryz.prog 217 (.v (.func (.yield lp) #[] #[])::[.rp (srcB a z k)]) (ergH h D lp 30 rdy (chkT N a z k .any) vs (iv 0)) fun r h3=>(∃ c,r=.ret c) ∧
      ((h3[N+2+1]?=some (.raw lp rdy (chkT N a z k .any) vs) ∧ ∀ n0,(h3.set (N+2+1) .gone).length=n0→(∀ e∈h3.set (N+2+1) .gone,e.lt n0=true)→aw Tryz.prog n0 fr65.post (ZeU fr65.res (N+2) D R) (chkT N a z k .any) (h3.set (N+2+1) .gone)) ∨
       (h3[N+2+1]?=some (.raw lp fin (chkT N a z k .any) vs)∧ZeU fr65.res (N+2) D R .ret (chkT N a z k .any) (h3.set (N+2+1) .gone))):=by
  obtain ⟨q1,q2,q3,q4,q5,q6,q7⟩:=Zd5 hc
  simp only at q1 q2 q3 q4 q5 q6 q7
  have hZ:Zb6 (a,z,k)=if Za1 (errX a) (Zdd z)≠0 then Za1 (errX a) (Zdd z) else if (z.any fun z=>!risL (Zcb z.2))=true then 4 else 0:=by
    unfold Zb6
    rw [if_neg (by rw [hc];simp),if_neg (by simpa using hnd),if_neg (by rw [hms];simp)]
  refine (Zsr (h:=ergH h D lp 30 rdy (chkT N a z k .any) vs (iv 0)) (p:=fun x=>decide (errX a x≠0)) (hS:=fun x=>ergH h D lp 30 fin (chkT N a z k .any) vs (iv (errX a x))) q2 q4 (fun _=>(hl4 hn).trans (hl4 hn).symm) (fun _=>by rw [hl4 hn];exact Zsq hlt chkT_lt rfl) (fun x _ e f hp=>?_) (fun x _ e f hp=>?_)).mono ?_
  · have hp':errX a x=0:=by simpa using hp
    have:=Ziv (e:=e) (f:=f) (D:=D) (x:=x) hn hlt (by omega) hok hY
    rw [hp'] at this
    rw [ZgU]
    exact this
  · have hp':errX a x≠0:=by simpa using hp
    have:=Ziv (e:=e) (f:=f) (D:=D) (x:=x) hn hlt (by omega) hok hY
    rw [if_pos hp',decide_eq_true hp'] at this
    rw [ZgU,ZgU]
    exact this
  rintro x h3 ⟨rfl,rfl⟩
  refine ⟨⟨_,rfl⟩,?_⟩
  rw [Ziq] at hZ
  subst hR
  cases hf:(Zdd z).find? (fun x=>decide (errX a x≠0)) with
  | none =>
    rw [hf] at hZ
    simp only [ne_eq,not_true_eq_false,if_false] at hZ
    refine .inl ⟨hga (k:=3) hn rfl,fun n0 hn0 _=>?_⟩
    have hs:(ergH h D lp 30 rdy (chkT N a z k .any) vs (iv 0)).set (N+2+1) .gone=h++[.gone,.mk 0 30 1 [iv 0],mkD D,.gone]:=hs3 hn
    show aw _ _ _ _ _ ((ergH h D lp 30 rdy (chkT N a z k .any) vs (iv 0)).set (N+2+1) .gone)
    rw [hs]
    show aw _ _ c65q _ _ _
    refine wr'<|V' (ZbB lk dp1) pt<|V' (ZaD lk gt) pt<|?_
    refine Zad mp (Zsd (p:=fun z:Zon=>!risL (Zcb z.2)) (fun c hc' _=>check1_a (ZgZ (s:=(a,z,k)) hc hc')) (by omega)) pt ?_
    refine sn'<|Zal<|?_
    refine Zau lk (fun hc1=>?_) (fun hc1=>?_)
    · rw [if_pos hc1] at hZ
      refine wr'<|E' (Zak lk (cvl lki rfl) (hga hn rfl) rfl (nb' rfl) rfl Zdo (hs1 hn)) ptn<|sn'<|Zaa<|Zag<|?_
      refine ZdN (hga hn rfl) (hs2 hn) (rs1 (rr_c gt (hga hn rfl) (ld0 gt))) ?_
      refine rT' ?_
      rw [hZ]
    rw [if_neg (by rw [hc1];simp)] at hZ
    refine Zae<|Zah<|wr'<|E' (Zak lk (cvl lki rfl) (hga hn rfl) rfl (nb' rfl) rfl Zdo (hs1 hn)) ptn<|sn'<|Zal<|Zaa<|Zag<|?_
    refine ZdN (hga hn rfl) (hs2 hn) (rs1 (rr_c gt (hga hn rfl) (ld0 gt))) ?_
    refine rT' ?_
    rw [hZ]
  | some x =>
    rw [hf] at hZ
    have hx:errX a x≠0:=by have:=List.find?_some hf;simpa using this
    simp only at hZ
    rw [if_pos hx] at hZ
    refine .inr ⟨hga (k:=3) hn rfl,?_⟩
    have hs:(ergH h D lp 30 fin (chkT N a z k .any) vs (iv (errX a x))).set (N+2+1) .gone=h++[.gone,.mk 0 30 1 [iv (errX a x)],mkD D,.gone]:=hs3 hn
    show ZeU _ _ _ _ _ _ ((ergH h D lp 30 fin (chkT N a z k .any) vs (iv (errX a x))).set (N+2+1) .gone)
    rw [hs]
    exact ZdN (hga (k:=2) hn rfl) (hs2 hn) (rs1 (rr_c gt (hga (k:=1) hn rfl) (ld0 gt))) (rT' (by rw [hZ]))
theorem ZrJ {s:Src}(h:Zgd s):okRs s.1:=fun r hr=>h.1 r hr
theorem zcheck_a {a:List Rul}{z:List Zon}{k:List Lnk}{h:AH}(hok:Zgd (a,z,k)):Ac 65 [.agg (srcB a z k)] h (iv (Zb6 (a,z,k))):=by
 refine tR' k65 fun N hn hlt hlA hbd=>?_
 show aw _ _ c65p _ _ _
 show aw _ _ _ _ [.agg (srcB a z k),.any,.any,.any,.any,.any,.any,.any,.any,.any,.any,.any,.any,.any,.any,.any,.any,.any,.any,.any,.any,.any,.any,.any,.any,.any,.any,.any,.any,.any,.any,.any,.any,.any,.any,.any,.any,.any,.any,.any,.any] _
 refine wr'<|E' (Zba (cvl lk rfl) rfl (hl0 hn) ha0) pt<|E' (ZaV (hl1 hn) ha1) pt<|Zar<|?_
 refine Za6 (ALe.icePtr (hga hn rfl) gt1 (by simp) pt1 (hs0 hn)) ?_
 refine wr'<|V' (ZaI lk Zgv rfl) pt<|Zad mp (scheck_b hok) pt<|mv' lk pt<|sn'<|Zal<|Zap<|wr'<|mv' lk pt<|V' (ZaZ lk lki) pt<|mv' lk pt<|?_
 refine sn' ?_
 refine cd' lk (fun hc1=>?_) (fun hc1=>?_)
 ·have hZ:Zb6 (a,z,k)=ZbR (a,z,k):=if_pos hc1
  refine wr'<|mv' lk pt<|E' (Zak lk (cvl lk rfl) (hga hn rfl) rfl (nb' rfl) rfl Zdo (hs1 hn)) ptn<|sn'<|Zaa<|Zaq<|Zag<|?_
  refine Zib (rs1 (rr_c gt (hga hn rfl) (ld0 gt))) ?_
  refine rT' ?_
  rw [hZ]
 have hc:ZbR (a,z,k)=0:=Decidable.of_not_not hc1
 obtain ⟨q1,q2,q3,q4,q5,q6,q7⟩:=Zd5 hc
 simp only at q1 q2 q3 q4 q5 q6 q7
 refine wr'<|V' (ZaI lk Zgv rfl) pt<|Zad mp (twice_a q2 q3) pt<|mv' lk pt<|sn'<|?_
 refine Zau lk (fun hc2=>?_) (fun hc2=>?_)
 ·have hZ:Zb6 (a,z,k)=6:=by unfold Zb6;rw [if_neg hc1,if_pos (of_decide_eq_true hc2)]
  refine wr'<|E' (Zak lk (cvl lki rfl) (hga hn rfl) rfl (nb' rfl) rfl Zdo (hs1 hn)) ptn<|sn'<|Zaa<|Zaq<|Zag<|?_
  refine Zib (rs1 (rr_c gt (hga hn rfl) (ld0 gt))) ?_
  refine rT' ?_
  rw [hZ]
 have hnd:(Zdf z k).Nodup:=Decidable.of_not_not (of_decide_eq_false hc2)
 refine wr'<|V' (ZaI lk Zgv rfl) pt<|?_
 refine Zad mp (ZrS (by omega) q2 q4 (by omega)) pt ?_
 refine mv' lk pt<|sn'<|?_
 refine Zau lk (fun hc3=>?_) (fun hc3=>?_)
 ·have hZ:Zb6 (a,z,k)=5:=by unfold Zb6;rw [if_neg hc1,if_neg (by simpa using hnd),if_pos hc3]
  refine wr'<|E' (Zak lk (cvl lki rfl) (hga hn rfl) rfl (nb' rfl) rfl Zdo (hs1 hn)) ptn<|sn'<|Zaa<|Zaq<|Zag<|?_
  refine Zib (rs1 (rr_c gt (hga hn rfl) (ld0 gt))) ?_
  refine rT' ?_
  rw [hZ]
 refine Zae<|Zaz<|Zah<|wr'<|V' (ZaI lk Zgv rfl) pt<|Zad mp (eras_a) pt<|sn'<|Zae<|?_
 refine ZrA (T1:=chkT N a z k .any) (ALe.same wA' rfl) rfl (hl2 hn) fun lp D rdy bsy fin vs hle hlT hY=>?_
 have hgo:=ZpU (D:=D) hn hlt (ZrJ hok) hc hY hnd hc3 rfl
 rw [show (h++[Ent.gone,Ent.mk 0 30 1 [iv 0]]++[mkD D,Ent.raw lp rdy (chkT N a z k .any) vs]:AH)=ergH h D lp 30 rdy (chkT N a z k .any) vs (iv 0) by simp]
 exact hgo
end Go.Proofs.YtlekejpogddndaaGreatDoor
end
section
namespace Go.Proofs.YtlekejpogddndaaGreatDoor
open Go.Ab Go.RowKit Civ
attribute [local simp] Zbk Zbx Zbr Zbt Zb9 ZdB ZdY
section
theorem Zg2 {a0 a1 a2:AV}{l:List AV}:((a0::a1::a2::l).drop 0).take 3=[a0,a1,a2]:=rfl
theorem ZnY {τ:Operand→AV}:Zas τ [] [(.v (.string ⟨#[]⟩)),(.sl 0 0 true [])]=some [(.v (.string ⟨#[]⟩)),(.sl 0 0 true [])]:=rfl
theorem Zea {a0 a1 c0 c1:AV}{l:List AV}:setCells (a0::a1::l) 0 [c0,c1]=c0::c1::l:=rfl
theorem Zd9 {a0 a1:AV}{l:List AV}:((a0::a1::l).drop 0).take 2=[a0,a1]:=rfl
theorem Zmv {τ:Operand→AV}:Zas τ [] [(.v (.string ⟨#[]⟩)),(.sl 0 0 true [])]=some [(.v (.string ⟨#[]⟩)),(.sl 0 0 true [])]:=rfl
theorem Zs2 {a0 a1:AV}{l:List AV}:(a0::a1::l).take 2=[a0,a1]:=rfl
theorem Zp5 {τ:Operand→AV}:Zas τ [] []=some []:=rfl
theorem Zp4 {a0 a1 c0:AV}{l:List AV}:setCells (a0::a1::l) 1 [c0]=a0::c0::l:=rfl
end
def c66:AC:=(Sr [Oo 2 (.box 26 3 (.tmp 0)),Oo 4 (.new 53 2 [Ss,(.sl 0 0 true [])]),Mc 5 0] (.seq (Sr [Oo 8 (.load true 3 (.tmp 2)),Cl 9 65 [(.tmp 8)],Mv 6 9] (Sr [Mv 10 6,Bc 11 .neq 10 0] (Cd 11 (Sr [Oo 12 (.build [Ss,(.sl 0 0 true [])] []),Mv 13 6,⟨none,none,(.store 2 (.tmp 4) (.tmp 12))⟩,Mv 5 13] .ret) .skip))) (Sr [Oo 14 (.load true 3 (.tmp 2)),Mv 15 1,Cl 16 139 [(.tmp 14),(.tmp 15)],Mv 7 16] (.seq (Sr [Mv 17 7,Bc 18 .lss 17 0] (Cd 18 (Sr [Oo 19 (.build [Ss,(.sl 0 0 true [])] []),⟨none,none,(.store 2 (.tmp 4) (.tmp 19))⟩,Mc 5 5] .ret) .skip)) (Sr [Fa 20 1 2,Ld 21 20,Mv 22 7,Oo 23 (.ia 2 (.tmp 21) (.tmp 22)),Oo 24 (.load true 2 (.tmp 23)),⟨none,none,(.store 2 (.tmp 4) (.tmp 24))⟩,Mc 5 0] .ret)))))
theorem k66:ZaA Tryz.prog 66=some ⟨c66,[(.cell 4 true 2),(.tmp 5)],25⟩:=by kernel_rfl
def c30:AC:=(Sr [Oo 2 (.box 26 3 (.tmp 0)),Oo 4 (.new 53 2 [Ss,(.sl 0 0 true [])]),Mc 5 0] (Sr [Oo 9 (.load true 3 (.tmp 2)),Mv 10 1,Cl 11 66 [(.tmp 9),(.tmp 10)],Mv 8 11,Ex 12 8 0,Ex 13 8 1,Oo 6 (.new 53 2 [Ss,(.sl 0 0 true [])]),⟨none,none,(.store 2 (.tmp 6) (.tmp 12))⟩,Mv 7 13] (Sr [Fa 14 1 6,Ld 15 14,Cl 16 85 [(.tmp 15)],Fa 17 1 6,Sc 17 16] (Sr [Oo 18 (.load true 2 (.tmp 6)),Mv 19 7,⟨none,none,(.store 2 (.tmp 4) (.tmp 18))⟩,Mv 5 19] .ret))))
theorem k30:ZaA Tryz.prog 30=some ⟨c30,[(.cell 4 true 2),(.tmp 5)],20⟩:=by kernel_rfl
def c85:AC:=(Sr [Oo 2 (.mv (.const (.slice none 0 0)))] (.seq (Sr [Mv 3 0,Oo 4 (.eqn false (.tmp 3))] (Cd 4 (Sr [Oo 2 (.mv (.const (.slice none 0 0)))] .ret) .skip)) (Sr [Oo 5 (.lit 63 10 0 [] []),Mv 6 0,Oo 7 (.app 63 10 96 (.tmp 5) (.tmp 6)),Mv 2 7] .ret)))
theorem k85:ZaA Tryz.prog 85=some ⟨c85,[(.tmp 2)],8⟩:=by kernel_rfl
def zonO:Zon:=(⟨#[]⟩,[])
def tgtV (s:Src) (nm:ByteArray):ByteArray:=match s.2.2[s.2.2.findIdx fun l=>decide (l.2=nm)]? with
 | some l=>l.1
 | none=>nm
def ZcI (s:Src) (nm:ByteArray):Zon×Int :=
 if Zb6 s≠0 then (zonO,Zb6 s) else match s.2.1[s.2.1.findIdx fun z=>decide (z.1=tgtV s nm)]? with
 | some z=>(z,0)
 | none=>(zonO,5)
theorem ZpN {s:Src}{nm:ByteArray}(h0:Zb6 s=0) (h:¬s.2.1.findIdx (fun z=>decide (z.1=tgtV s nm))<s.2.1.length):ZcI s nm=(zonO,5):=by
 unfold ZcI;rw [if_neg (by simp [h0]),List.getElem?_eq_none (Nat.le_of_not_lt h)]
theorem ZpM {s:Src}{nm:ByteArray}(h0:Zb6 s=0) (h:s.2.1.findIdx (fun z=>decide (z.1=tgtV s nm))<s.2.1.length):ZcI s nm=(s.2.1[s.2.1.findIdx fun z=>decide (z.1=tgtV s nm)],0):=by
 unfold ZcI;rw [if_neg (by simp [h0]),List.getElem?_eq_getElem h]
theorem ZqQ {e:AV}:Wk (.tup [.agg [sv ⟨#[]⟩,.sl 0 0 true []],e]) (.tup [.agg (zonC zonO),e]):=Wk.tup (wkw (Wk.agg (wk1 rfl (wkw Wk.nilF wk0))) (wk1 rfl wk0))
theorem find_a {a:List Rul}{z:List Zon}{k:List Lnk}{nm:ByteArray}{h:AH}(hok:Zgd (a,z,k)):Ac 66 [.agg (srcB a z k),sv nm] h (.tup [.agg (zonC (ZcI (a,z,k) nm).1),iv (ZcI (a,z,k) nm).2]):=by
 refine tW' k66 fun N hn hlt hlA hbd=>?_
 simp only [tb'] at hbd ⊢
 refine wr'<|E' (Zba (cvl lk rfl) rfl (hl0 hn) ha0) pt<|E' (ZaV (hl1 hn) ha1) pt<|mv' lki pt<|sn'<|Zal<|wr'<|V' (Zan lk (hga hn rfl) Zg2 rfl) pt<|Zad mp (zcheck_a hok) pt<|mv' lk pt<|Zar<|?_
 refine Zah<|wr'<|mv' lk pt<|V' (ZaZ lk lki) pt<|sn'<|?_
 refine cd' lk (fun hc1=>?_) (fun hc1=>?_)
 ·have hF:ZcI (a,z,k) nm=(zonO,Zb6 (a,z,k)):=if_pos hc1
  refine wr'<|V' (Zaw ZnY) pt<|mv' lk pt<|E' (Zak lk (cvl lk rfl) (hga hn rfl) rfl (nb' rfl) rfl Zea (hs1 hn)) ptn<|mv' lk pt<|sn'<|Zaa<|Zag<|Zaf (rsn (rm1 (rr_c gt (hga hn rfl) (ld1 Zd9 rfl)) (rm1 (rr_t gt) rm0)))<|rtW'<|?_
  rw [hF];exact ZqQ
 have hz0:Zb6 (a,z,k)=0:=Decidable.of_not_not hc1
 have hce:ZbR (a,z,k)=0:=by unfold Zb6 at hz0;split at hz0;(rename_i hh;exact absurd hz0 hh);(rename_i hh;exact Decidable.of_not_not hh)
 obtain ⟨q1,q2,q3,q4,q5,q6,q7⟩:=Zd5 hce
 simp only at q1 q2 q3 q4 q5 q6 q7
 refine Zae<|Zah<|wr'<|V' (Zan lk (hga hn rfl) Zg2 rfl) pt<|mv' lk pt<|?_
 refine Zad mp (look_a (by omega) (by omega)) pt ?_
 refine mv' lk pt<|sn'<|Zal<|wr'<|mv' lk pt<|V' (Za9 lk lki) pt<|sn'<|?_
 refine cd' lk (fun hc2=>?_) (fun hc2=>?_)
 ·have hlt':¬z.findIdx (fun y:Zon=>decide (y.1=tgtV (a,z,k) nm))<z.length:=fun hh=>by have:ZpC (a,z,k) nm=((z.findIdx fun y:Zon=>decide (y.1=tgtV (a,z,k) nm):Nat):Int):=if_pos hh;omega
  have hF:ZcI (a,z,k) nm=(zonO,5):=ZpN hz0 hlt'
  refine wr'<|V' (Zaw Zmv) pt<|E' (Zak lk (cvl lk rfl) (hga hn rfl) rfl (nb' rfl) rfl Zea (hs1 hn)) ptn<|mv' lki pt<|sn'<|Zaa<|Zag<|Zaf (rsn (rm1 (rr_c gt (hga hn rfl) (ld1 Zd9 rfl)) (rm1 (rr_t gt) rm0)))<|rtW'<|?_
  rw [hF];exact ZqQ
 have hlt':z.findIdx (fun y:Zon=>decide (y.1=tgtV (a,z,k) nm))<z.length:=Decidable.byContradiction fun hh=>by have:ZpC (a,z,k) nm = -1:=if_neg hh;omega
 have hix:ZpC (a,z,k) nm=((z.findIdx fun y:Zon=>decide (y.1=tgtV (a,z,k) nm):Nat):Int):=if_pos hlt'
 have hF:ZcI (a,z,k) nm=(z[z.findIdx fun y:Zon=>decide (y.1=tgtV (a,z,k) nm)],0):=ZpM hz0 hlt'
 refine Zae<|Zah<|wr'<|V' (Zab lk) pt<|V' (Zac lk (hga hn rfl) gt1) pt<|mv' lk pt<|?_
 refine V' (ZaU lk lk (fun _=>rfl) (nb' rfl) ro (by omega) ro rfl) pt ?_
 refine V' (ZaI lk Zs2 rfl) pt<|E' (Zak lk (cvl lk rfl) (hga hn rfl) rfl (nb' rfl) rfl Zea (hs1 hn)) ptn<|mv' lki pt<|sn'<|Zaa<|Zaf (rsn (rm1 (rr_c gt (hga hn rfl) (ld1 Zd9 rfl)) (rm1 (rr_t gt) rm0)))<|rtW'<|?_
 rw [hF];exact Wk.refl _
theorem ZkX {s:Src}(h:Zb6 s=0):ZbR s=0:=by
 unfold Zb6 at h
 split at h
 ·rename_i hh;exact absurd h hh
 rename_i hh;exact Decidable.of_not_not hh
theorem Zsn {s:Src}{nm:ByteArray}(h:(ZcI s nm).2=0):Zb6 s=0∧(ZcI s nm).1∈s.2.1∧(ZcI s nm).1.1=tgtV s nm:=by
 unfold ZcI at h ⊢
 split at h
 ·rename_i h1;exact absurd h h1
 rename_i h1
 rw [if_neg h1]
 split at h
 ·rename_i z hz
  refine ⟨Decidable.of_not_not h1,List.mem_of_getElem? hz,?_⟩
  obtain ⟨hlt,rfl⟩:=List.getElem?_eq_some_iff.1 hz
  have:=List.findIdx_getElem (w:=hlt)
  simpa using this
 cases h
theorem find_bad {s:Src}{nm:ByteArray}(h:(ZcI s nm).2≠0):(ZcI s nm).1=zonO:=by
 unfold ZcI at h ⊢
 split
 ·rfl
 rename_i h1
 rw [if_neg h1] at h
 split
 ·rename_i z hz;rw [hz] at h;exact absurd rfl h
 rfl
theorem ZpV {s:Src}(h:Zb6 s=0):ZbR s=0∧(Zdf s.2.1 s.2.2).Nodup∧Zi3 s=false∧(∀ x∈Zdd s.2.1,errX s.1 x=0) ∧ ∀ z∈s.2.1,risL (Zcb z.2)=true:=by
 have hE:=ZkX h
 unfold Zb6 at h
 rw [if_neg (by simp [hE])] at h
 split at h
 ·cases h
 rename_i h1
 split at h
 ·cases h
 rename_i h2
 split at h
 ·rename_i h3;exact absurd h h3
 rename_i h3
 split at h
 ·cases h
 rename_i h4
 refine ⟨hE,Decidable.of_not_not h1,by simpa using h2,Zdn (Decidable.of_not_not h3),fun z hz=>?_⟩
 simp only [List.any_eq_true,not_exists,not_and,Bool.not_eq_true',Bool.not_eq_false] at h4
 exact h4 z hz
theorem cloneE_a {l:List Era}{full:Bool}{h:AH}(hl:l.length≤300000000000):ACalls Tryz.prog 85 [.sl l.length 10 full (rows eraC l)] h fun r h' => ∃ v,r=.ret (.own h.length v l.length)∧h'=h++[.mk v 63 10 (rows eraC l)]:=by
 refine tN' k85 fun N hn hlt hlA hbd=>?_
 simp only [tb'] at hbd ⊢
 refine wr'<|mv' lkn pt<|sn'<|Zal<|wr'<|mv' lk pt<|?_
 refine s_eqn lk (fun _=>pt) (fun bn3 hbn3=>?_)
 refine sn' ?_
 refine cd' lk (fun hc1=>?_) (fun hc1=>?_)
 ·refine wr'<|mv' lkn pt2<|Zar<|Za6 (ALe.own0 (d:=2) (st':=10) (ty:=63) rfl)<|Zaa<|Zag<|Zaf (rs1 (rr_t gt2))<|?_
  have h0:l=[]:=List.eq_nil_of_length_eq_zero ((Nat.eq_zero_or_pos _).resolve_right (fun e=>by have:=hbn3 e;rw [hc1] at this;cases this))
  subst h0
  exact ⟨0,by simp,by simp [rows]⟩
 refine Zae<|Zah<|wr'<|E' (ZdH Zp5 (hl0 hn) ha0) pt<|mv' lk pt<|?_
 refine E' (Zdj (sc_sl lk (ZkO _)) lk (hga hn rfl) rfl (by omega) (era_leaf _) (hs0 hn)) pt ?_
 refine mv' lk pt<|sn'<|Zaa<|Zaf rz<|?_
 exact ⟨0+1,by simp [hn],by simp⟩
theorem Zsp {s:Src}{nm:ByteArray}:(ZcI s nm).1.2.length≤8:=by
 by_cases h:(ZcI s nm).2=0
 ·obtain ⟨h1,h2,_⟩:=Zsn h
  exact (Zd5 (ZkX h1)).2.2.2.1 _ h2
 rw [find_bad h];simp [zonO]
theorem zfind_a {a:List Rul}{z:List Zon}{k:List Lnk}{nm:ByteArray}{h:AH}(hok:Zgd (a,z,k)):Ac 30 [.agg (srcB a z k),sv nm] h (.tup [.agg (zonC (ZcI (a,z,k) nm).1),iv (ZcI (a,z,k) nm).2]):=by
 have hfl:=Zsp (s:=(a,z,k)) (nm:=nm)
 refine tW' k30 fun N hn hlt hlA hbd=>?_
 simp only [tb'] at hbd ⊢
 refine wr'<|E' (Zba (cvl lk rfl) rfl (hl0 hn) ha0) pt<|E' (ZaV (hl1 hn) ha1) pt<|mv' lki pt<|sn'<|wr'<|V' (Zan lk (hga hn rfl) Zg2 rfl) pt<|mv' lk pt<|Zad mp (find_a hok) pt<|mv' lk pt<|V' (Zbb lk gt) pt<|?_
 refine V' (Zbb lk gt) pt<|E' (ZaV (hl2 hn) ha2) pt<|E' (Zak lk (cvl lk rfl) (hga hn rfl) rfl (nb' rfl) rfl Zea (hs2 hn)) ptn<|mv' lk pt<|sn'<|wr'<|V' (Zab lk) pt<|V' (Zac lk (hga hn rfl) gt1) pt<|?_
 refine s_calla mp (cloneE_a (by omega)) (hl3 hn) (fun _=>ha3) (fun _=>pt) (fun va15=>?_)
 refine V' (Zab lk) pt<|E' (Zak lk (cvl lk rfl) (hga hn rfl) rfl (nb' rfl) rfl Zp4 (hs2 hn)) ptn<|Zar<|?_
 refine Za6 (ALe.iceCellR (hga hn rfl) (hga hn rfl) (by omega) gt1 (List.take_of_length_le (by rw [Za2 ZdP];first | exact Nat.le_refl _ | omega)) (by rw [Za2 ZdP];first | exact Nat.le_refl _ | omega) pt1 (hs3 hn) (hs2 hn)) ?_
 refine wr'<|V' (Zan lk (hga hn rfl) Zd9 rfl) pt<|mv' lk pt<|E' (Zak lk (cvl lk rfl) (hga hn rfl) rfl (nb' rfl) rfl Zea (hs1 hn)) ptn<|mv' lk pt<|sn'<|Zaa<|Zaf (rsn (rm1 (rr_c gt (hga hn rfl) (ld1 Zd9 rfl)) (rm1 (rr_t gt) rm0)))<|rtW'<|?_
 exact Wk.tup (wkw (Wk.agg (wk1 rfl (wkw Wk.full wk0))) (wk1 rfl wk0))
theorem ZrG : ∀ {l:List Trn}{sh sa:Int}{t:Tim},t∈outV sh sa l→(0≤sa∧sa≤10800)→(∀ u∈l,Zbu u.2=0) → ∃ u∈l,∃ sa',(0≤sa'∧sa'≤10800)∧t=timV sh sa' u
 | u::l,sh,sa,t,ht,hs,hr=>by
  rw [outV] at ht
  rcases List.mem_cons.1 ht with rfl | ht
  ·exact ⟨u,by simp,sa,hs,rfl⟩
  have h8:=(Zcl (hr u (by simp))).2.2.2.2.2.2.2
  obtain ⟨v,hv,sa',h1,h2⟩:=ZrG ht h8 fun x hx=>hr x (by simp [hx])
  exact ⟨v,by simp [hv],sa',h1,h2⟩
theorem ruleE_lt {r:Rul}(h:Zbu r=0):(rLt r).size≤24:=by
 unfold Zbu at h
 split at h
 ·cases h
 rename_i h1
 have:=(Decidable.of_not_not h1).2
 unfold Zcm at this
 simp only [Bool.and_eq_true,decide_eq_true_eq] at this
 exact this.1
theorem Zlp {l:List Rul}{nm:ByteArray}{sh:Int}{t:Tim}(ht:t∈(Za8 l nm sh).1):(-2600000000≤t.1∧t.1≤4330172800)∧(0≤t.2.1∧t.2.1≤10800)∧t.2.2.size≤24:=by
 unfold Za8 at ht
 split at ht
 ·cases ht
 rename_i h1
 split at ht
 ·cases ht
 split at ht
 ·cases ht
 obtain ⟨g1,g2,g3,_⟩:=Zf8 (Decidable.of_not_not h1)
 have hm : ∀ u∈srtT (Zbg l nm),Zbu u.2=0 ∧ -2592000000≤u.1∧u.1≤4320172800:=fun u hu=>Zkk g2 ((Zks _).mem_iff.1 hu)
 obtain ⟨u,hu,sa',hs,rfl⟩:=ZrG ht (by omega) fun u hu=>(hm u hu).1
 obtain ⟨hr,hb1,hb2⟩:=hm u hu
 have ho:=ZrL (r:=u.2) g3 hs
 obtain ⟨_,_,_,_,_,_,_,h8⟩:=Zcl hr
 exact ⟨⟨by show -2600000000≤u.1-offV u.2 sh sa';omega,by show u.1-offV u.2 sh sa'≤4330172800;omega⟩,h8,ruleE_lt hr⟩
theorem ZhT {l:List Rul}{nm:ByteArray}{sh:Int}:(Za8 l nm sh).1.length≤1000:=by
 unfold Za8
 split
 ·simp
 split
 ·simp
 split
 ·simp
 rw [Zgb,srt_len];omega
theorem ZrF : ∀ {l:List Trn}{sh sa:Int},(-64800≤sh∧sh≤64800)→(0≤sa∧sa≤10800)→(∀ u∈l,Zbu u.2=0)→gapB l=false→(outV sh sa l).Pairwise fun a b=>a.1<b.1
 | [],_,_,_,_,_,_=>.nil
 | [u],_,_,_,_,_,_=>by simp [outV]
 | u::v::l,sh,sa,h1,h2,hr,hg=>by
  rw [Zgh,Bool.or_eq_false_iff] at hg
  have hu8:=(Zcl (hr u (by simp))).2.2.2.2.2.2.2
  have ih:=ZrF (l:=v::l) (sh:=sh) (sa:=rSv u.2) h1 hu8 (fun x hx=>hr x (by simp [hx])) hg.2
  rw [outV,List.pairwise_cons]
  refine ⟨fun t ht=>?_,ih⟩
  have hgap:172800≤v.1-u.1:=by have:=hg.1;simp only [decide_eq_false_iff_not] at this;omega
  have hfirst:(timV sh sa u).1<(timV sh (rSv u.2) v).1:=by
   show u.1-offV u.2 sh sa<v.1-offV v.2 sh (rSv u.2)
   unfold offV
   split <;> split <;> (try split) <;> (try split) <;> omega
  rw [outV] at ht
  rcases List.mem_cons.1 ht with rfl | ht
  ·exact hfirst
  rw [outV,List.pairwise_cons] at ih
  have:=ih.1 t ht
  omega
theorem Zq0 {l:List Rul}{nm:ByteArray}{sh:Int}:(Za8 l nm sh).1.Pairwise fun a b=>a.1<b.1:=by
 unfold Za8
 split
 ·exact .nil
 rename_i h1
 split
 ·exact .nil
 rename_i h2
 split
 ·exact .nil
 obtain ⟨g1,g2,g3,_⟩:=Zf8 (Decidable.of_not_not h1)
 exact ZrF g3 (by omega) (fun u hu=>(Zkk g2 ((Zks _).mem_iff.1 hu)).1) (by simpa using h2)
theorem risT_all (rl:List Rul) (x:Era):risT rl x:=by
 unfold risT Zbh
 split
 ·exact .nil
 exact Zq0
theorem Zjh {rl:List Rul}{x:Era}{t:Tim}(ht:t∈Zbh rl x):(-2600000000≤t.1∧t.1≤4330172800)∧(0≤t.2.1∧t.2.1≤10800)∧t.2.2.size≤24:=by
 unfold Zbh at ht
 split at ht
 ·cases ht
 exact Zlp ht
theorem Ze9 {rl:List Rul}{x:Era}:(Zbh rl x).length≤1000:=by
 unfold Zbh
 split
 ·simp
 exact ZhT
theorem Zip {fm:ByteArray}(h:ZbN fm=true):fm.size≤24:=by
 unfold ZbN at h
 split at h
 ·cases h
 rename_i h1;omega
end Go.Proofs.YtlekejpogddndaaGreatDoor
end
section
namespace Go.Proofs.YtlekejpogddndaaGreatDoor
open Go.Ab Go.RowKit Civ
attribute [local simp] Zbk Zbx Zbr Zbt Zb9 ZdB ZdY
section
theorem Zfl {a0 a1 a2 a3 a4 a5 a6 a7 a8 a9:AV}{l:List AV}:(a0::a1::a2::a3::a4::a5::a6::a7::a8::a9::l).take 10=[a0,a1,a2,a3,a4,a5,a6,a7,a8,a9]:=rfl
theorem ZnX {τ:Operand→AV}{y0:Operand}{x0_0:AV}(h0:Zav (τ y0)=some [x0_0]) (l0:[x0_0].all leaf=true):Zas τ [(1,1,y0)] [(.v (.int .i64 0)),(.v (.int .i64 0)),(.v (.string ⟨#[]⟩))]=some [(.v (.int .i64 0)),x0_0,(.v (.string ⟨#[]⟩))]:=by
 simp only [Zas,h0,l0]
 rfl
theorem ZnW {τ:Operand→AV}{y0 y1:Operand}{x0_0 x1_0 x1_1 x1_2:AV}(h0:Zav (τ y0)=some [x0_0]) (l0:[x0_0].all leaf=true) (h1:Zav (τ y1)=some [x1_0,x1_1,x1_2]) (l1:[x1_0,x1_1,x1_2].all leaf=true):Zas τ [(0,1,y0),(1,3,y1)] [(.v (.int .i64 0)),(.v (.int .i64 0)),(.v (.int .i64 0)),(.v (.string ⟨#[]⟩))]=some [x0_0,x1_0,x1_1,x1_2]:=by
 simp only [Zas,h0,l0,h1,l1]
 rfl
theorem ZnV {τ:Operand→AV}{y0:Operand}{x0_0 x0_1 x0_2 x0_3:AV}(h0:Zav (τ y0)=some [x0_0,x0_1,x0_2,x0_3]) (l0:[x0_0,x0_1,x0_2,x0_3].all leaf=true):Zas τ [(0,4,y0)] [(.v (.int .i64 0)),(.v (.int .i64 0)),(.v (.int .i64 0)),(.v (.string ⟨#[]⟩))]=some [x0_0,x0_1,x0_2,x0_3]:=by
 simp only [Zas,h0,l0]
 rfl
theorem ZnU {τ:Operand→AV}:Zas τ [] [(.v (.int .i64 0)),(.v (.int .i64 0)),(.v (.string ⟨#[]⟩))]=some [(.v (.int .i64 0)),(.v (.int .i64 0)),(.v (.string ⟨#[]⟩))]:=rfl
theorem ZnT {τ:Operand→AV}{y0 y1:Operand}{x0_0 x1_0 x1_1 x1_2:AV}(h0:Zav (τ y0)=some [x0_0]) (l0:[x0_0].all leaf=true) (h1:Zav (τ y1)=some [x1_0,x1_1,x1_2]) (l1:[x1_0,x1_1,x1_2].all leaf=true):Zas τ [(0,1,y0),(1,3,y1)] [(.v (.int .i64 0)),(.v (.int .i64 0)),(.v (.int .i64 0)),(.v (.string ⟨#[]⟩))]=some [x0_0,x1_0,x1_1,x1_2]:=by
 simp only [Zas,h0,l0,h1,l1]
 rfl
theorem ZnS {τ:Operand→AV}{y0:Operand}{x0_0 x0_1 x0_2 x0_3:AV}(h0:Zav (τ y0)=some [x0_0,x0_1,x0_2,x0_3]) (l0:[x0_0,x0_1,x0_2,x0_3].all leaf=true):Zas τ [(0,4,y0)] [(.v (.int .i64 0)),(.v (.int .i64 0)),(.v (.int .i64 0)),(.v (.string ⟨#[]⟩))]=some [x0_0,x0_1,x0_2,x0_3]:=by
 simp only [Zas,h0,l0]
 rfl
theorem ZiD {a0 a1 a2:AV}{l:List AV}:(a0::a1::a2::l).take 3=[a0,a1,a2]:=rfl
theorem Zp2 {a0 a1 a2 c0 c1 c2:AV}{l:List AV}:setCells (a0::a1::a2::l) 0 [c0,c1,c2]=c0::c1::c2::l:=rfl
theorem Zp0 {a0 a1 a2:AV}{l:List AV}:((a0::a1::a2::l).drop 0).take 3=[a0,a1,a2]:=rfl
theorem ZnR {τ:Operand→AV}{y0 y1:Operand}{x0_0 x1_0 x1_1 x1_2:AV}(h0:Zav (τ y0)=some [x0_0]) (l0:[x0_0].all leaf=true) (h1:Zav (τ y1)=some [x1_0,x1_1,x1_2]) (l1:[x1_0,x1_1,x1_2].all leaf=true):Zas τ [(0,1,y0),(1,3,y1)] [(.v (.int .i64 0)),(.v (.int .i64 0)),(.v (.int .i64 0)),(.v (.string ⟨#[]⟩))]=some [x0_0,x1_0,x1_1,x1_2]:=by
 simp only [Zas,h0,l0,h1,l1]
 rfl
theorem Zs1 { e:Ent}:([]:AH)++[e]=[e]:=rfl
theorem Zp3 {e0 e1 e2 e3 d0:Ent}:([e0,e1,e2,e3]:AH)++[d0]=[e0,e1,e2,e3,d0]:=rfl
theorem Zp1 {a0 a1 a2 a3 c0 c1 c2 c3:AV}{l:List AV}:setCells (a0::a1::a2::a3::l) 0 [c0,c1,c2,c3]=c0::c1::c2::c3::l:=rfl
theorem ZjZ {a0 a1 a2 a3:AV}{l:List AV}:((a0::a1::a2::a3::l).drop 0).take 4=[a0,a1,a2,a3]:=rfl
theorem ZnQ {τ:Operand→AV}{y0:Operand}{x0_0 x0_1 x0_2 x0_3:AV}(h0:Zav (τ y0)=some [x0_0,x0_1,x0_2,x0_3]) (l0:[x0_0,x0_1,x0_2,x0_3].all leaf=true):Zas τ [(0,4,y0)] [(.v (.int .i64 0)),(.v (.int .i64 0)),(.v (.int .i64 0)),(.v (.string ⟨#[]⟩))]=some [x0_0,x0_1,x0_2,x0_3]:=by
 simp only [Zas,h0,l0]
 rfl
theorem ZsZ {a0 a1 a2 a3:AV}{l:List AV}:(a0::a1::a2::a3::l).take 4=[a0,a1,a2,a3]:=rfl
theorem Zs0 {a0 a1:AV}{l:List AV}:(a0::a1::l).take 2=[a0,a1]:=rfl
theorem ZnP {a0 a1 a2 a3 a4 a5 a6 a7 a8 a9 c0 c1 c2 c3 c4 c5 c6 c7 c8 c9:AV}{l:List AV}:setCells (a0::a1::a2::a3::a4::a5::a6::a7::a8::a9::l) 0 [c0,c1,c2,c3,c4,c5,c6,c7,c8,c9]=c0::c1::c2::c3::c4::c5::c6::c7::c8::c9::l:=rfl
theorem ZiE {a0 a1 a2 a3 a4 a5 a6 a7 a8 a9:AV}{l:List AV}:((a0::a1::a2::a3::a4::a5::a6::a7::a8::a9::l).drop 0).take 10=[a0,a1,a2,a3,a4,a5,a6,a7,a8,a9]:=rfl
end
def c142:AC:=(Sr [Oo 3 (.box 26 3 (.tmp 0)),Oo 4 (.box 63 10 (.tmp 1)),Oo 6 (.mv (.const (.slice none 0 0)))] (.seq (Sr [Fa 13 1 4,Ld 14 13,Oo 15 (.bin .eql (.tmp 14) (.const (.string ⟨#[]⟩)))] (Cd 15 (Sr [Mv 16 2,Oo 17 (.load true 10 (.tmp 4)),Fa 18 2 4,Ld 19 18,Oo 20 (.build [(iv 0),(iv 0),Ss] [(1,(1,(.tmp 19)))]),Cl 21 220 [(.tmp 17),(.tmp 20)],Oo 22 (.build [(iv 0),(iv 0),(iv 0),Ss] [(0,(1,(.tmp 16))),(1,(3,(.tmp 21)))]),Oo 23 (.lit 121 4 1 [(iv 0),(iv 0),(iv 0),Ss] [(0,(4,(.tmp 22)))]),Mv 6 23] .ret) .skip)) (Sr [Fa 25 0 3,Ld 26 25,Fa 27 1 4,Ld 28 27,Fa 29 0 4,Ld 30 29,Cl 31 31 [(.tmp 26),(.tmp 28),(.tmp 30)],Mv 24 31,Ex 32 24 0,Ex 33 24 1,Mv 7 32,Mv 8 33] (Sr [Mv 34 2,Oo 35 (.load true 10 (.tmp 4)),Oo 36 (.build [(iv 0),(iv 0),Ss] []),Cl 37 220 [(.tmp 35),(.tmp 36)],Oo 38 (.build [(iv 0),(iv 0),(iv 0),Ss] [(0,(1,(.tmp 34))),(1,(3,(.tmp 37)))]),Oo 39 (.lit 121 4 1 [(iv 0),(iv 0),(iv 0),Ss] [(0,(4,(.tmp 38)))]),Mv 9 39] (.seq (Sr [Mv 40 7,Oo 41 (.len false (.tmp 40)),Mc 42 0] (.block 0 (.loop (Sr [Bn 43 .lss 42 41] (.seq (Cd 43 .skip (.exit 0)) (.seq (.block 1 (Sr [Oo 44 (.ia 3 (.tmp 40) (.tmp 42)),Oo 45 (.load true 3 (.tmp 44)),Oo 11 (.new 136 3 [(iv 0),(iv 0),Ss]),⟨none,none,(.store 3 (.tmp 11) (.tmp 45))⟩] (.seq (.drw [Mv 46 2,Fa 47 0 11,Ld 48 47,Oo 49 (.mm true (.tmp 46) (.tmp 48)),Oo 50 (.load true 10 (.tmp 4)),Oo 51 (.load true 3 (.tmp 11)),Cl 52 220 [(.tmp 50),(.tmp 51)],Oo 53 (.build [(iv 0),(iv 0),(iv 0),Ss] [(0,(1,(.tmp 49))),(1,(3,(.tmp 52)))]),Oo 12 (.new 121 4 [(iv 0),(iv 0),(iv 0),Ss])] [false] [⟨none,none,(.store 4 (.tmp 12) (.tmp 53))⟩]) (Sr [Fa 54 0 11,Ld 55 54,Mv 56 2,Bn 57 .leq 55 56] (Cd 57 (.reg [Mv 58 9,Oo 59 (.load true 4 (.tmp 12)),Oo 60 (.ia 4 (.tmp 58) (Ci 0)),⟨none,none,(.store 4 (.tmp 60) (.tmp 59))⟩]) (.reg [Mv 61 9,Oo 62 (.load true 4 (.tmp 12)),Oo 63 (.lit 121 4 1 [(iv 0),(iv 0),(iv 0),Ss] [(0,(4,(.tmp 62)))]),Oo 64 (.app 121 4 40 (.tmp 61) (.tmp 63)),Mv 9 64])))))) (.reg [Bc 65 .add 42 1,Mv 42 65]))))))) (Sr [Mv 66 9,Mv 6 66] .ret))))))
theorem k142:ZaA Tryz.prog 142=some ⟨c142,[(.tmp 6)],67⟩:=by kernel_rfl
def c69:AC:=(Sr [Oo 3 (.box 26 3 (.tmp 0)),Oo 4 (.box 53 2 (.tmp 1)),Oo 6 (.mv (.const (.slice none 0 0)))] (Sr [Oo 7 (.mv (.const (.slice none 0 0)))] (Sr [Oo 13 (.load true 2 (.tmp 4)),Cl 14 131 [(.tmp 13)],Mv 8 14] (.seq (Sr [Fa 15 1 4,Ld 16 15,Oo 17 (.len false (.tmp 16)),Mc 18 0] (.block 0 (.loop (Sr [Bn 19 .lss 18 17] (.seq (Cd 19 .skip (.exit 0)) (.seq (.block 1 (Sr [Mv 20 18,Oo 21 (.ia 10 (.tmp 16) (.tmp 18)),Oo 22 (.load true 10 (.tmp 21)),Oo 10 (.new 63 10 [(iv 0),Ss,(iv 0),Ss,(.v (.bool false)),(iv 0),(iv 0),(iv 0),(iv 0),(iv 0)]),Mv 9 20,⟨none,none,(.store 10 (.tmp 10) (.tmp 22))⟩] (.seq (Sr [Mv 23 9,Mv 24 8,Oo 25 (.len false (.tmp 24)),Bn 26 .lss 23 25,Mv 27 26,Ot 28 27 (mt 8),Ot 29 27 (mt 9),Ot 30 27 (.ia 1 (.tmp 28) (.tmp 29)),Ot 31 27 (.load false 1 (.tmp 30)),Ot 32 27 (mt 2),Ot 33 27 (.bin .leq (.tmp 31) (.tmp 32)),Oo 34 (.pick (.tmp 27) (.tmp 33) (.const (.bool false)))] (Cd 34 (.exit 1) .skip)) (Sr [Mv 35 2,Mv 11 35] (.seq (Sr [Mv 36 9,Bc 37 .gtr 36 0] (Cd 37 (.reg [Mv 38 2,Mv 39 8,Mv 40 9,Bc 41 .sub 40 1,Oo 42 (.ia 1 (.tmp 39) (.tmp 41)),Ld 43 42,Oo 44 (.mm true (.tmp 38) (.tmp 43)),Mv 11 44]) .skip)) (Sr [Oo 45 (.load true 3 (.tmp 3)),Oo 46 (.load true 10 (.tmp 10)),Mv 47 11,Cl 48 142 [(.tmp 45),(.tmp 46),(.tmp 47)],Mv 12 48] (.seq (Sr [Mv 49 9,Mv 50 8,Oo 51 (.len false (.tmp 50)),Bn 52 .lss 49 51] (Cd 52 (.reg [Mv 53 12,Mv 54 8,Mv 55 9,Oo 56 (.ia 1 (.tmp 54) (.tmp 55)),Ld 57 56,Cl 58 143 [(.tmp 53),(.tmp 57)],Mv 12 58]) .skip)) (.reg [Mv 59 7,Mv 60 12,Oo 61 (.app 121 4 40 (.tmp 59) (.tmp 60)),Mv 7 61])))))))) (.reg [Bc 62 .add 18 1,Mv 18 62]))))))) (Sr [Mv 63 7,Mv 6 63] .ret)))))
theorem k69:ZaA Tryz.prog 69=some ⟨c69,[(.tmp 6)],64⟩:=by kernel_rfl
structure okX (x:Era):Prop where
 fm:ZbN (xFm x)=true
 sh : -64800≤xSh x∧xSh x≤64800
 sv:0≤xSv x∧xSv x≤10800
 no:xRl x≠⟨#[]⟩→xSv x=0
theorem okX_of {es:List Era}(h:okZ es) {x:Era}(hx:x∈es):okX x:=by
 obtain ⟨h1,h2,h3,h4⟩:=h.fm x hx
 exact ⟨h1,h2,h3,h4⟩
theorem Zgj {x:Era}{b:Int}(ts:List Tim):(eraG x b ts).length≤ts.length+1:=by
 unfold eraG
 rw [List.length_cons,List.length_map]
 have:=List.length_filter_le (fun t:Tim=>decide (b<t.1)) ts
 omega
theorem Zo1 {x:Era}{b:Int}:eraG x b []=[(b,locV x (xSv x) ⟨#[]⟩)]:=rfl
theorem eraG_set {x:Era}{b:Int}{ts:List Tim}{t:Tim}(h:t.1≤b):eraG x b (ts++[t])=(eraG x b ts).set 0 (b,locV x t.2.1 t.2.2):=by
 rw [eraG_low h];rfl
theorem eraG_pos {x:Era}{b:Int}{ts:List Tim}:0<(eraG x b ts).length:=by unfold eraG;simp
theorem era_z {a:List Rul}{z:List Zon}{k:List Lnk}{x:Era}{b:Int}{h:AH}(hok:okRs a) (ha:a.length≤9223372036854775807) (hx:okX x) (hb : -9000000000000000000≤b∧b≤9000000000000000000) :
  ACalls Tryz.prog 142 [.agg (srcB a z k),.agg (eraC x),iv b] h fun y h'=>h'=h∧y=.ret (.sl (eraG x b (Zbh a x)).length 4 false (rows chgC (eraG x b (Zbh a x)))):=by
 obtain ⟨hx1,hx2,hx3,hx4⟩:=hx
 have hfl:=Zip hx1
 refine tW' k142 fun N hn hlt hlA hbd=>?_
 simp only [tb'] at hbd ⊢
 refine wr'<|E' (Zba (cvl lk rfl) rfl (hl0 hn) ha0) pt<|E' (Zba (cvl lk rfl) rfl (hl1 hn) ha1) pt<|mv' lkn pt<|Zar<|?_
 refine Za6 (ALe.trans (ALe.icePtr (hga hn rfl) gt3 (by simp) pt3 (hs0 hn)) (ALe.icePtr (hga hn rfl) gt4 (by simp) pt4 (hs1 hn))) ?_
 refine Zal<|wr'<|V' (ZbB lk dp1) pt<|V' (ZaD lk gt) pt<|V' (ZcD lk lks) pt<|sn'<|?_
 refine cd' lk (fun hc1=>?_) (fun hc1=>?_)
 ·have hT:Zbh a x=[]:=if_pos hc1
  refine wr'<|mv' lk pt<|V' (ZaI lk Zfl rfl) pt<|V' (ZbB lk dp2) pt<|V' (ZaD lk gt) pt<|V' (Zaw (ZnX (cvl lk rfl) rfl)) pt<|?_
  refine Zad mp (Znf (x:=x) (t:=(0,xSv x,⟨#[]⟩)) hfl (show (0:Nat)≤24 by decide) hx2 hx3) pt ?_
  refine V' (Zaw (ZnW (cvl lk16 rfl) rfl (cvl lk21 rfl) rfl)) pt22<|E' (ZdH (ZnV (cvl lk22 rfl) rfl) (hl2 hn) ha2) pt23<|mv' lk23 pt6<|Zar<|Za6 (ALe.iceR (hga hn rfl) gt6 rfl (nb' rfl) pt6 (hs2 hn))<|Zaa<|Zag<|Zaf (rs1 (rr_t gt6))<|rtW'<|?_
  rw [hT,Zo1];exact Wk.full
 have hT:Zbh a x=(Za8 a x.2.1 x.1).1:=if_neg hc1
 have hsv0:xSv x=0:=hx4 hc1
 have hTl:(Za8 a x.2.1 x.1).1.length≤1000:=ZhT
 refine Zae<|Zah<|wr'<|V' (ZbB lk dp0) pt<|V' (ZaD lk gt) pt<|V' (ZbB lk dp1) pt<|V' (ZaD lk gt) pt<|V' (ZbB lk dp0) pt<|V' (ZaD lk gt) pt<|Zad mp (Zq1 hok ha) pt<|mv' lk pt<|V' (Zbb lk gt) pt<|V' (Zbb lk gt) pt<|?_
 refine mv' lk pt<|mv' lk pt<|sn'<|wr'<|mv' lk pt<|V' (ZaI lk Zfl rfl) pt<|V' (Zaw ZnU) pt<|?_
 refine Zad mp (Znf (x:=x) (t:=(0,0,⟨#[]⟩)) hfl (by decide) hx2 (by decide)) pt ?_
 refine V' (Zaw (ZnT (cvl lk rfl) rfl (cvl lk rfl) rfl)) pt<|E' (ZdH (ZnS (cvl lk rfl) rfl) (hl2 hn) ha2) pt<|mv' lk pt<|sn'<|Zal<|wr'<|mv' lk pt<|V' (ZaL lk) pt<|mv' lki pt<|sn'<|Zap<|?_
 refine Zha (ι:=Nat×Nat) (fun (x_:Nat×Nat)=>match x_ with | ⟨i,v⟩=>[(9,.own (N+2) v (eraG x b ((Za8 a x.2.1 x.1).1.take i)).length),(42,iv (i:Int)),(11,.any),(12,.any)]++rn' 43 23) (fun (x_:Nat×Nat)=>match x_ with | ⟨i,v⟩=>[(2,.mk v 121 4 (rows chgC (eraG x b ((Za8 a x.2.1 x.1).1.take i))))]) (fun (x_:Nat×Nat)=>match x_ with | ⟨i,v⟩=>i≤(Za8 a x.2.1 x.1).1.length) (fun (x_:Nat×Nat)=>match x_ with | ⟨i,v⟩=>(Za8 a x.2.1 x.1).1.length-i) (⟨0,0⟩) (by exact Nat.zero_le _) (by try simp only [sm',Nat.reduceAdd];exact ALe.same wA' (by rw [List.take_zero,Zo1,hsv0];rfl)) ?_
 rintro ⟨i,v⟩ hi1
 try simp only [sm',Nat.reduceAdd]
 replace hi1:i≤(Za8 a x.2.1 x.1).1.length:=hi1
 refine wr'<|V' (Za9 lk lk) pt<|sn'<|Zal<|?_
 refine cd' lk (fun hc2=>?_) (fun hc2=>?_)
 ·have hi:i<(Za8 a x.2.1 x.1).1.length:=by omega
  obtain ⟨hm1,hm2,hm3⟩:=Zlp (List.getElem_mem hi)
  have hel:=Zgj (x:=x) (b:=b) ((Za8 a x.2.1 x.1).1.take i)
  rw [List.length_take] at hel
  have htk:=List.take_succ_eq_append_getElem hi
  refine Zae<|Zah<|Zal<|Zap<|wr'<|?_
  refine V' (ZaU lk lk Zoq (nb' rfl) ro (by omega) ro rfl) pt ?_
  refine V' (ZaI lk ZiD rfl) pt<|E' (ZaV (hl3 hn) ha3) pt<|E' (Zak lk (cvl lk rfl) (hga hn rfl) rfl (nb' rfl) rfl Zp2 (hs3 hn)) ptn<|sn'<|Zal<|Zb2<|D' (v_mv lk) pt<|D' (Zab lk) pt<|D' (Zac lk (hga hn rfl) gt0) pt<|D' (v_mm lk lk) pt<|D' (ZaI lk Zfl rfl) pt<|D' (Zan lk (hga hn rfl) Zp0 rfl) pt<|?_
  refine ZaY mp (fun hE hX=>Znf (x:=x) (t:=(Za8 a x.2.1 x.1).1[i]) hfl hm3 hx2 hm2) pt ?_
  refine D' (Zaw (ZnR (cvl lk rfl) rfl (cvl lk rfl) rfl)) pt<|Zmk rfl rfl (hlk hn rfl) (l_new) pt Zs1<|ZbI<|?_
  refine Znz Zp3 ?_
  refine E' (Zak lk (cvl lk rfl) (hga hn rfl) rfl (nb' rfl) rfl Zp1 (hs4 hn)) ptn<|sn'<|wr'<|V' (Zab lk) pt<|V' (Zac lk (hga hn rfl) gt0) pt<|mv' lk pt<|V' (Zc1 lk lk) pt<|sn'<|?_
  refine cd' lk (fun hc3=>?_) (fun hc3=>?_)
  ·have hmx:(if (Za8 a x.2.1 x.1).1[i].1>b then (Za8 a x.2.1 x.1).1[i].1 else b)=b:=if_neg (by omega)
   simp only [cond_true,hmx]
   have hE:=eraG_set (x:=x) (ts:=(Za8 a x.2.1 x.1).1.take i) hc3
   have hep:=eraG_pos (x:=x) (b:=b) (ts:=(Za8 a x.2.1 x.1).1.take i)
   rw [←htk] at hE
   refine Zat<|mv' lk pt<|V' (Zan lk (hga hn rfl) ZjZ rfl) pt<|?_
   refine V' (Zog (k:=0) lk lki (hga hn rfl) ZbQ (nb' rfl) ro (by omega) (by first | rfl | (simp;done) | omega)) pt ?_
   refine E' (e_stOR (z:=(b,locV x (Za8 a x.2.1 x.1).1[i].2.1 (Za8 a x.2.1 x.1).1[i].2.2)) lk (cvl lk rfl) (hga hn rfl) ZbQ rfl (by omega) (hs2 hn)) ptn ?_
   refine Zar<|Zaz<|Zah<|Zat<|?_
   refine V' (Zay lk lki (by omega) (by omega)) pt ?_
   refine mv' lk pt<|Zar<|ZaB<|?_
   refine lU' (⟨i+1,v⟩) (by (try dsimp only);omega) (by (try dsimp only);(try simp only [sm',Nat.reduceAdd]);exact bkE' 3 hn hlt (by repeat (first | exact wk0 | refine wka ?_ | refine wk1 rfl ?_ | refine wk1 (by first | rfl | exact ivx (by omega) | (rw [hE,List.length_set];done) | (rw [hE,List.length_append];rfl) | (rw [hE,List.length_set])) ?_)) (by rw [hE];rfl) (hT:=by simp [AV.lt,AV.ltL,Ent.lt]) (hE:=by simp [AV.lt,AV.ltL,Ent.lt]))
  have hmx:(if (Za8 a x.2.1 x.1).1[i].1>b then (Za8 a x.2.1 x.1).1[i].1 else b)=(Za8 a x.2.1 x.1).1[i].1:=if_pos (by omega)
  simp only [cond_true,hmx]
  have hE:=Zst (x:=x) (ts:=(Za8 a x.2.1 x.1).1.take i) hc3
  rw [←htk] at hE
  refine Zat<|mv' lk pt<|V' (Zan lk (hga hn rfl) ZjZ rfl) pt<|E' (ZdH (ZnQ (cvl lk rfl) rfl) (hl5 hn) ha5) pt<|?_
  refine E' (Zdj (Zcr lk (hga hn rfl) rfl ZsZ (nb' rfl)) lk (hga hn rfl) (ZcO _) (by omega) rfl (hs2 hn)) pt ?_
  refine mv' lk pt<|Zar<|Zaz<|Zah<|Zat<|?_
  refine V' (Zay lk lki (by omega) (by omega)) pt ?_
  refine mv' lk pt<|Zar<|ZaB<|?_
  refine lU' (⟨i+1,v+1⟩) (by (try dsimp only);omega) (by (try dsimp only);(try simp only [sm',Nat.reduceAdd]);exact bkE' 3 hn hlt (by repeat (first | exact wk0 | refine wka ?_ | refine wk1 rfl ?_ | refine wk1 (by first | rfl | exact ivx (by omega) | (rw [hE,List.length_set];done) | (rw [hE,List.length_append];rfl) | (rw [hE,List.length_set])) ?_)) (by rw [hE,Za3,Zbv];rfl) (hT:=by simp [AV.lt,AV.ltL,Ent.lt]) (hE:=by simp [AV.lt,AV.ltL,Ent.lt]))
 refine ZaM<|ZaC<|ZaC<|Za7<|?_
 refine Za6 (ALe.iceR (hga hn rfl) gt9 (List.take_of_length_le (by rw [ZcO];exact Nat.le_refl _)) (by rw [ZcO];exact Nat.le_refl _) pt9 (hs2 hn)) ?_
 refine wr'<|mv' lk pt<|mv' lk pt<|sn'<|Zaa<|Zaf rz<|rtW'<|?_
 rw [hT,List.take_of_length_le (by omega)];exact Wk.full
def Zel (es:List Era):Nat→Option Int
 | 0=>none
 | j+1=>(es[j]?).map endV
theorem Zfd {es:List Era}{i:Nat}(h:i<es.length):Zel es (i+1)=some (endV es[i]):=by
 show (es[i]?).map endV=_
 rw [List.getElem?_eq_getElem h];rfl
theorem Zpz {rl:List Rul}{f:Int}{es:List Era}{prev:Option Int}{i:Nat}(h:i<es.length) (hl:es.length≤i+1):ZaX rl f prev (es.drop i)=eraG es[i] (ZbK prev f) (Zbh rl es[i]):=by
 rw [List.drop_eq_getElem_cons h,List.drop_of_length_le hl];rfl
theorem Zpy {rl:List Rul}{f:Int}{es:List Era}{prev:Option Int}{i:Nat}(h:i+1<es.length) (hc:endV es[i]≤f):ZaX rl f prev (es.drop i)=ZaX rl f (Zel es (i+1)) (es.drop (i+1)):=by
 rw [Zfd (by omega),List.drop_eq_getElem_cons (show i<es.length by omega),List.drop_eq_getElem_cons h,ZaX,if_pos hc,List.nil_append]
theorem Zpx {rl:List Rul}{f:Int}{es:List Era}{prev:Option Int}{i:Nat}(h:i+1<es.length) (hc:¬endV es[i]≤f):ZaX rl f prev (es.drop i)=cutV (eraG es[i] (ZbK prev f) (Zbh rl es[i])) (endV es[i])++ZaX rl f (Zel es (i+1)) (es.drop (i+1)):=by
 rw [Zfd (by omega),List.drop_eq_getElem_cons (show i<es.length by omega),List.drop_eq_getElem_cons h,ZaX,if_neg hc]
theorem Zo3 (l:List Chg) (e:Int):(cutV l e).length≤l.length:=(List.takeWhile_sublist _).length_le
theorem Zny {es:List Era}(hz:okZ es) {i:Nat}(h:i+1<es.length) : -100000000000≤endV es[i]∧endV es[i]≤300000000000:=by
 obtain ⟨h1,h2,h3⟩:=hz.un i (by omega) h
 exact endV_bd h1 ⟨h2,h3⟩ (hz.fm _ (List.getElem_mem _)).2.1
theorem parts_a {a:List Rul}{z:List Zon}{k:List Lnk}{nm:ByteArray}{es:List Era}{f:Int}{h:AH}(hok:okRs a) (ha:a.length≤9223372036854775807) (hz:okZ es) (hf : -1000000000000≤f∧f≤1000000000000) :
  ACalls Tryz.prog 69 [.agg (srcB a z k),.agg [sv nm,.sl es.length 10 false (rows eraC es)],iv f] h fun y h'=>h'=h∧y=.ret (.sl (ZaX a f none es).length 4 false (rows chgC (ZaX a f none es))):=by
 have hel:=ZkQ es
 have hlen:=hz.len
 refine tW' k69 fun N hn hlt hlA hbd=>?_
 simp only [tb'] at hbd ⊢
 refine wr'<|E' (Zba (cvl lk rfl) rfl (hl0 hn) ha0) pt<|E' (Zba (cvl lk rfl) rfl (hl1 hn) ha1) pt<|mv' lkn pt<|Zar<|?_
 refine Za6 (ALe.trans (ALe.icePtr (hga hn rfl) gt3 (by simp) pt3 (hs0 hn)) (ALe.icePtr (hga hn rfl) gt4 (by simp) pt4 (hs1 hn))) ?_
 refine wr'<|mv' lkn pt7<|Zar<|Za6 (ALe.own0' (st':=4) (ty:=121) gt7 (hl2 hn) pt7 ha2)<|wr'<|V' (ZaI lk4 Zs0 rfl) pt13<|Zad (mp1 lk13 mp0) (ends_a hz) pt14<|mv' lk14 pt8<|sn'<|Zal<|Zal<|?_
 refine Zat<|V' (ZbB lk dp1) pt<|V' (ZaD lk gt) pt<|V' (ZaL lk) pt<|mv' lki pt<|sn'<|Zap<|?_
 refine w_lp (ι:=Nat×List Chg×Nat) (fun (x_:Nat×List Chg×Nat)=>match x_ with | ⟨i,O,v⟩=>[(7,.own (N+2) v O.length),(18,iv (i:Int))]++rn' 9 4++rn' 19 44) (fun (x_:Nat×List Chg×Nat)=>match x_ with | ⟨i,O,v⟩=>[(2,.mk v 121 4 (rows chgC O))]) (fun (x_:Nat×List Chg×Nat)=>match x_ with | ⟨i,O,v⟩=>i≤es.length∧ZaX a f none es=O++ZaX a f (Zel es i) (es.drop i)∧O.length≤1001*i) (fun (x_:Nat×List Chg×Nat)=>match x_ with | ⟨i,O,v⟩=>es.length-i) (⟨0,[],0⟩) (by exact ⟨Nat.zero_le _,rfl,Nat.zero_le _⟩) ?_
 rintro ⟨i,O,v⟩ hi1
 try simp only [sm',Nat.reduceAdd]
 obtain ⟨hi1,hi2,hi3⟩:=hi1
 refine wr'<|V' (Za9 lk lk) pt<|sn'<|Zal<|?_
 refine cd' lk (fun hc1=>?_) (fun hc1=>?_)
 ·have hi:i<es.length:=by omega
  have hxo:=okX_of hz (List.getElem_mem hi)
  refine Zae<|Zah<|Zal<|Zap<|wr'<|mv' lk pt<|?_
  refine V' (ZaU lk lk ZdP (nb' rfl) ro (by omega) ro rfl) pt ?_
  refine V' (ZaI lk Zfl rfl) pt<|E' (ZaV (hl3 hn) ha3) pt<|mv' lk pt<|E' (Zak lk (cvl lk rfl) (hga hn rfl) rfl (nb' rfl) rfl ZnP (hs3 hn)) ptn<|sn'<|Zal<|wr'<|mv' lk pt<|mv' lk pt<|V' (ZaL lk) pt<|V' (Za9 lk lk) pt<|mv' lk pt<|?_
  refine sp' (t:=27) gt pt pt (fun hg27=>?_) (fun hg27=>?_)
  ·have hn1:i+1<es.length:=by omega
   have hen:(Zcb es)[i]'(by omega)=endV es[i]:=ZkR (by omega) hi
   have heb:=Zny hz hn1
   refine s_do gt<|mv' lk pt<|s_do gt<|mv' lk pt<|s_do gt<|?_
   refine V' (ZaU lk lk Zep (nb' rfl) ro (by omega) ro rfl) pt ?_
   refine s_do gt<|V' (ZaD lk gt) pt<|s_do gt<|mv' lk pt<|s_do gt<|V' (Zc1 lk lk) pt<|V' (Zaj lk lk) pt<|sn'<|?_
   refine cd' lk (fun hc2=>?_) (fun hc2=>?_)
   ·have hsk:=Zpy (rl:=a) (f:=f) (prev:=Zel es i) hn1 (by rw [←hen];exact hc2)
    refine ZaM<|ZaC<|Za7<|Zah<|Zat<|?_
    refine V' (Zay lk lki (by omega) (by omega)) pt ?_
    refine mv' lk pt<|Zar<|ZaB<|?_
    refine lU' (⟨i+1,O,v⟩) (by (try dsimp only);exact ⟨by omega,by rw [hi2,hsk],by omega⟩) (by (try dsimp only);(try simp only [sm',Nat.reduceAdd]);exact bkE' 3 hn hlt (by repeat (first | exact wk0 | refine wka ?_ | refine wk1 rfl ?_ | refine wk1 (by first | rfl | exact ivx (by omega) | (rw [List.length_append])) ?_)) (hT:=by simp [AV.lt,AV.ltL,Ent.lt]) (hE:=by simp [AV.lt,AV.ltL,Ent.lt]))
   have hnc:¬endV es[i]≤f:=by rw [←hen];exact hc2
   refine Zae<|Zah<|wr'<|mv' lk pt<|mv' lk pt<|sn'<|?_
   refine ZfT (ι:=Int) (fun (B:Int)=>[(11,iv B)]++rn' 36 9) (fun (B:Int)=>[]) (fun (B:Int)=>ZbK (Zel es i) f=B ∧ -9000000000000000000≤B∧B≤9000000000000000000) ?_ ?_
   ·try simp only [sm',Nat.reduceAdd]
    refine wr'<|mv' lk pt<|V' (Zbs lk lki) pt<|sn'<|?_
    refine cd' lk (fun hc3=>?_) (fun hc3=>?_)
    ·have hi0:i-1+1<es.length:=by omega
     have hen0:(Zcb es)[i-1]'(by omega)=endV (es[i-1]'(by omega)):=ZkR (by omega) (by omega)
     have heb0:=Zny hz hi0
     have hB:(if (Zcb es)[i-1]'(by omega)>f then (Zcb es)[i-1]'(by omega) else f)=ZbK (Zel es i) f:=by rw [hen0,show Zel es i=some (endV (es[i-1]'(by omega))) from by have:=Zfd (es:=es) (i:=i-1) (by omega);rwa [show i-1+1=i by omega] at this];show _=max f _;omega
     have hBb : -9000000000000000000≤ZbK (Zel es i) f∧ZbK (Zel es i) f≤9000000000000000000:=by rw [←hB,hen0];split <;> omega
     refine Zat<|mv' lk pt<|mv' lk pt<|mv' lk pt<|?_
     refine V' (ZbA lk lki (by omega) (by omega)) pt ?_
     refine V' (ZaU (k:=i-1) lk lk Zep (nb' rfl) ro (by omega) ro rfl) pt ?_
     refine V' (ZaD lk gt) pt<|V' (v_mm lk lk) pt<|?_
     simp only [cond_true,hB]
     refine mv' lk pt<|Zar<|ZaB<|?_
     exact cT' (ZbK (Zel es i) f) (by exact ⟨rfl,hBb.1,hBb.2⟩)
    refine Zae<|ZaB<|?_
    exact cT' (f) (by exact ⟨by rw [show i=0 by omega];rfl,by omega,by omega⟩)
   rintro B hq12
   try simp only [sm',Nat.reduceAdd]
   obtain ⟨hBd,hB1,hB2⟩:=hq12
   refine wr'<|V' (ZaI lk ZiD rfl) pt<|V' (Zan lk (hga hn rfl) ZiE rfl) pt<|mv' lk pt<|Zad mp (era_z hok ha hxo ⟨hB1,hB2⟩) pt<|mv' lk pt<|sn'<|Zal<|wr'<|mv' lk pt<|mv' lk pt<|?_
   refine V' (ZaL lk) pt<|V' (Za9 lk lk) pt<|sn'<|?_
   have hgl:=Zgj (x:=es[i]) (b:=B) (Zbh a es[i])
   have htl:=Ze9 (rl:=a) (x:=es[i])
   refine Zds lk (by exact decide_eq_true (by omega)) ?_
   refine Zat<|mv' lk pt<|mv' lk pt<|mv' lk pt<|?_
   refine V' (ZaU lk lk Zep (nb' rfl) ro (by omega) ro rfl) pt ?_
   refine V' (ZaD lk gt) pt ?_
   refine Zad mp (zcut_a (by omega)) pt ?_
   have hcl:=Zo3 (eraG es[i] B (Zbh a es[i])) ((Zcb es)[i]'(by omega))
   have hT:=Zpx (rl:=a) (f:=f) (prev:=Zel es i) hn1 hnc
   rw [hBd,←hen] at hT
   refine mv' lk pt<|sn'<|Zat<|mv' lk pt<|mv' lk pt<|?_
   refine E' (Zdj (sc_sl lk (ZcO _)) lk (hga hn rfl) (ZcO _) (by omega) (Zo9 _) (hs2 hn)) pt ?_
   refine mv' lk pt<|Zar<|Zaz<|Zah<|Zat<|?_
   refine V' (Zay lk lki (by omega) (by omega)) pt ?_
   refine mv' lk pt<|Zar<|ZaB<|?_
   refine lU' (⟨i+1,O++cutV (eraG es[i] B (Zbh a es[i])) ((Zcb es)[i]'(by omega)),v+1⟩) (by (try dsimp only);exact ⟨by omega,by rw [hi2,hT,List.append_assoc],by rw [List.length_append];omega⟩) (by (try dsimp only);(try simp only [sm',Nat.reduceAdd]);exact bkE' 3 hn hlt (by repeat (first | exact wk0 | refine wka ?_ | refine wk1 rfl ?_ | refine wk1 (by first | rfl | exact ivx (by omega) | (rw [List.length_append])) ?_)) (by rw [Za3];rfl) (hT:=by simp [AV.lt,AV.ltL,Ent.lt]) (hE:=by simp [AV.lt,AV.ltL,Ent.lt]))
  have hn1:es.length≤i+1:=by omega
  refine s_no gt pt<|s_no gt pt<|s_no gt pt<|s_no gt pt<|s_no gt pt<|s_no gt pt<|V' (Zai lk lkb) pt<|sn'<|ZaN lk<|Zae<|Zah<|wr'<|?_
  refine mv' lk pt<|mv' lk pt<|sn'<|?_
  refine ZfT (ι:=Int) (fun (B:Int)=>[(11,iv B)]++rn' 36 9) (fun (B:Int)=>[]) (fun (B:Int)=>ZbK (Zel es i) f=B ∧ -9000000000000000000≤B∧B≤9000000000000000000) ?_ ?_
  ·try simp only [sm',Nat.reduceAdd]
   refine wr'<|mv' lk pt<|V' (Zbs lk lki) pt<|sn'<|?_
   refine cd' lk (fun hc3=>?_) (fun hc3=>?_)
   ·have hi0:i-1+1<es.length:=by omega
    have hen0:(Zcb es)[i-1]'(by omega)=endV (es[i-1]'(by omega)):=ZkR (by omega) (by omega)
    have heb0:=Zny hz hi0
    have hB:(if (Zcb es)[i-1]'(by omega)>f then (Zcb es)[i-1]'(by omega) else f)=ZbK (Zel es i) f:=by rw [hen0,show Zel es i=some (endV (es[i-1]'(by omega))) from by have:=Zfd (es:=es) (i:=i-1) (by omega);rwa [show i-1+1=i by omega] at this];show _=max f _;omega
    have hBb : -9000000000000000000≤ZbK (Zel es i) f∧ZbK (Zel es i) f≤9000000000000000000:=by rw [←hB,hen0];split <;> omega
    refine Zat<|mv' lk pt<|mv' lk pt<|mv' lk pt<|?_
    refine V' (ZbA lk lki (by omega) (by omega)) pt ?_
    refine V' (ZaU (k:=i-1) lk lk Zep (nb' rfl) ro (by omega) ro rfl) pt ?_
    refine V' (ZaD lk gt) pt<|V' (v_mm lk lk) pt<|?_
    simp only [cond_true,hB]
    refine mv' lk pt<|Zar<|ZaB<|?_
    exact cT' (ZbK (Zel es i) f) (by exact ⟨rfl,hBb.1,hBb.2⟩)
   refine Zae<|ZaB<|?_
   exact cT' (f) (by exact ⟨by rw [show i=0 by omega];rfl,by omega,by omega⟩)
  rintro B hq12
  try simp only [sm',Nat.reduceAdd]
  obtain ⟨hBd,hB1,hB2⟩:=hq12
  refine wr'<|V' (ZaI lk ZiD rfl) pt<|V' (Zan lk (hga hn rfl) ZiE rfl) pt<|mv' lk pt<|Zad mp (era_z hok ha hxo ⟨hB1,hB2⟩) pt<|mv' lk pt<|sn'<|Zal<|wr'<|mv' lk pt<|mv' lk pt<|?_
  refine V' (ZaL lk) pt<|V' (Za9 lk lk) pt<|sn'<|?_
  have hgl:=Zgj (x:=es[i]) (b:=B) (Zbh a es[i])
  have htl:=Ze9 (rl:=a) (x:=es[i])
  have hT:=Zpz (rl:=a) (f:=f) (prev:=Zel es i) hi hn1
  rw [hBd] at hT
  refine Zc0 lk (by exact decide_eq_false (by omega)) ?_
  refine Zae<|Zah<|Zat<|mv' lk pt<|mv' lk pt<|?_
  refine E' (Zdj (sc_sl lk (ZcO _)) lk (hga hn rfl) (ZcO _) (by omega) (Zo9 _) (hs2 hn)) pt ?_
  refine mv' lk pt<|Zar<|Zaz<|Zah<|Zat<|?_
  refine V' (Zay lk lki (by omega) (by omega)) pt ?_
  refine mv' lk pt<|Zar<|ZaB<|?_
  refine lU' (⟨i+1,O++eraG es[i] B (Zbh a es[i]),v+1⟩) (by (try dsimp only);exact ⟨by omega,by rw [hi2,hT,List.drop_of_length_le hn1];exact (List.append_nil _).symm,by rw [List.length_append];omega⟩) (by (try dsimp only);(try simp only [sm',Nat.reduceAdd]);exact bkE' 3 hn hlt (by repeat (first | exact wk0 | refine wka ?_ | refine wk1 rfl ?_ | refine wk1 (by first | rfl | exact ivx (by omega) | (rw [List.length_append])) ?_)) (by rw [Za3];rfl) (hT:=by simp [AV.lt,AV.ltL,Ent.lt]) (hE:=by simp [AV.lt,AV.ltL,Ent.lt]))
 rw [List.drop_of_length_le (by omega)] at hi2
 have hPO:ZaX a f none es=O:=hi2.trans (List.append_nil _)
 refine ZaM<|ZaC<|ZaC<|Za7<|?_
 refine Za6 (ALe.iceR (hga hn rfl) gt7 (List.take_of_length_le (by rw [ZcO];exact Nat.le_refl _)) (by rw [ZcO];exact Nat.le_refl _) pt7 (hs2 hn)) ?_
 refine wr'<|mv' lk pt<|mv' lk pt<|sn'<|Zaa<|Zaf rz<|rtW'<|?_
 rw [hPO];exact Wk.full
theorem ZoC {s:Src}{z:Zon}(h:Zb6 s=0) (hm:z∈s.2.1) (f:Int):(∃ l,ZaX s.1 f none z.2=(f,ZcL s.1 z.2 f)::l)∧(ZaX s.1 f none z.2).Pairwise (fun a b=>a.1<b.1)∧(∀ c∈ZaX s.1 f none z.2,f≤c.1∧c.2=ZcL s.1 z.2 c.1) ∧
  ∀ u v,f≤u→u≤v→(∀ c∈ZaX s.1 f none z.2,¬(u<c.1∧c.1≤v))→ZcL s.1 z.2 u=ZcL s.1 z.2 v:=by
 obtain ⟨hE,_,_,_,h5⟩:=ZpV h
 exact ZlS (f:=f) (prev:=none) (ZgZ hE hm).ne (fun x _=>risT_all _ x) ((ZkC _).1 (h5 z hm)) trivial
end Go.Proofs.YtlekejpogddndaaGreatDoor
end
section
namespace Go.Proofs.YtlekejpogddndaaGreatDoor
open Go.Ab Civ
theorem ZlA {s:Src}{z:Zon}(h:Zb6 s=0) (hm:z∈s.2.1):stV (inP (ZaX s.1 tMin none z.2))=Zhb s.1 z.2:=by
 obtain ⟨⟨l,h1⟩,h2,h3,h4⟩:=ZoC h hm tMin
 have hp:=ZrB (rl:=s.1) (f:=tMin) (es:=z.2) fun c hc=>(h3 c hc).2
 have hs:((ZaX s.1 tMin none z.2).map (·.1)).Pairwise (· < ·):=by rw [List.pairwise_map];exact h2
 have hL:(ZaX s.1 tMin none z.2).map (·.1)=tMin::l.map (·.1):=by rw [h1];rfl
 rw [hp,hL]
 rw [hL] at hs
 rw [stV_tab hs]
 refine table_of (hs.imp fun h=>Int.le_of_lt h) fun u v h5 h6 h7=>h4 u v h5 h6 fun c hc hh=>h7 c.1 ?_ hh
 rw [←hL]
 exact List.mem_map.2 ⟨c,hc,rfl⟩
def ofV (s:Src) (z:Zon):Tab×Int:=tabR (Zhb s.1 z.2)
def ZnE (s:Src) (nm:ByteArray):Tab×Int:=if (ZcI s nm).2≠0 then (noTab,(ZcI s nm).2) else ofV s (ZcI s nm).1
theorem ZmY {rl:List Rul}{es:List Era}:((Zf0 rl es).mergeSort fun a b=>decide (a≤b)).Pairwise (· ≤ ·):=by
 have h:=List.pairwise_mergeSort (le:=fun a b:Int=>decide (a≤b)) (fun a b c h1 h2=>by simp at *;omega) (fun a b=>by simp;omega) (Zf0 rl es)
 exact h.imp fun h=>by simpa using h
theorem Zlv {rl:List Rul}{es:List Era}(h:(tabR (Zhb rl es)).2=0):Zbe (Zhb rl es)=0:=Zpk ZmY h
end Go.Proofs.YtlekejpogddndaaGreatDoor
end
section
namespace Go.Proofs.YtlekejpogddndaaGreatDoor
open Go.Ab
attribute [local simp] Zbk Zbx Zbr Zbt
section
theorem Zkc {a0 a1 a2:AV}{l:List AV}:((a0::a1::a2::l).drop 0).take 3=[a0,a1,a2]:=rfl
theorem Zn5 {a0 b0:Int}{a1 b1:Int}{a2 b2:Int}:Zbm [.int,.int,.int] [iv a0,iv a1,iv a2] [iv b0,iv b1,iv b2]=some (decide (a0=b0∧a1=b1∧a2=b2)):=by
 simp only [Zbm,ZdQ,if_true,ZcP,Option.some.injEq]
 simp only [Bool.decide_and,Bool.and_true]
 try (congr 1 <;> simp)
 try rfl
end
def c226:AC:=(Sr [Oo 2 (.box 61 5 (.tmp 0)),Oo 3 (.box 61 5 (.tmp 1)),Mb 4 false] (Sr [Fa 5 0 2,Oo 6 (.load true 3 (.tmp 5)),Fa 7 0 3,Oo 8 (.load true 3 (.tmp 7)),Oo 9 (.eqs false [.int,.int,.int] (.tmp 6) (.tmp 8)),Mv 10 9,Ot 11 10 (.fa 3 (.tmp 2)),Ot 12 10 (.load false 1 (.tmp 11)),Ot 13 10 (.fa 3 (.tmp 3)),Ot 14 10 (.load false 1 (.tmp 13)),Ot 15 10 (.bin .eql (.tmp 12) (.tmp 14)),Oo 16 (.pick (.tmp 10) (.tmp 15) (.const (.bool false))),Mv 17 16,Ot 18 17 (.fa 4 (.tmp 2)),Ot 19 17 (.load false 1 (.tmp 18)),Ot 20 17 (.fa 4 (.tmp 3)),Ot 21 17 (.load false 1 (.tmp 20)),Ot 22 17 (.bin .eql (.tmp 19) (.tmp 21)),Oo 23 (.pick (.tmp 17) (.tmp 22) (.const (.bool false))),Mv 4 23] .ret))
theorem k226:ZaA Tryz.prog 226=some ⟨c226,[(.tmp 4)],24⟩:=by kernel_rfl
theorem ZdL {u v:Unt}{h:AH}:Ac 226 [.agg (untC u),.agg (untC v)] h (bv (decide (u=v))):=by
 obtain ⟨⟨y,m,d⟩,a,c⟩:=u
 obtain ⟨⟨y2,m2,d2⟩,a2,c2⟩:=v
 refine tI' k226 fun N hn hlt hlA hbd=>?_
 simp only [tb'] at hbd ⊢
 refine wr'<|E' (Zba (cvl lk rfl) rfl (hl0 hn) ha0) pt<|E' (Zba (cvl lk rfl) rfl (hl1 hn) ha1) pt<|mv' lkb pt<|sn'<|wr'<|V' (Zab lk) pt<|V' (Zan lk (hga hn rfl) Zkc rfl) pt<|V' (Zab lk) pt<|V' (Zan lk (hga hn rfl) Zkc rfl) pt<|V' (ZeM lk lk Zn5) pt<|?_
 refine mv' lk pt ?_
 refine sp' (t:=10) gt pt pt (fun hg10=>?_) (fun hg10=>?_)
 ·refine s_do gt<|V' (Zab lk) pt<|s_do gt<|V' (Zac lk (hga hn rfl) gt3) pt<|s_do gt<|V' (Zab lk) pt<|s_do gt<|V' (Zac lk (hga hn rfl) gt3) pt<|s_do gt<|V' (ZaQ lk lk) pt<|V' (Zaj lk lk) pt<|mv' lk pt<|?_
  refine sp' (t:=17) gt pt pt (fun hg17=>?_) (fun hg17=>?_)
  ·refine s_do gt<|V' (Zab lk) pt<|s_do gt<|V' (Zac lk (hga hn rfl) gt4) pt<|s_do gt<|V' (Zab lk) pt<|s_do gt<|V' (Zac lk (hga hn rfl) gt4) pt<|s_do gt<|V' (ZaQ lk lk) pt<|V' (Zaj lk lk) pt<|mv' lk pt<|sn'<|?_
   refine Zaa<|Zaf rz<|rT'<|?_
   refine bvx ?_;simp_all
  refine s_no gt pt<|s_no gt pt<|s_no gt pt<|s_no gt pt<|s_no gt pt<|V' (Zai lk lkb) pt<|mv' lk pt<|sn'<|Zaa<|Zaf rz<|rT'<|?_
  refine bvx ?_;simp_all
 refine s_no gt pt<|s_no gt pt<|s_no gt pt<|s_no gt pt<|s_no gt pt<|V' (Zai lk lkb) pt<|mv' lk pt<|s_no gt pt<|s_no gt pt<|s_no gt pt<|s_no gt pt<|s_no gt pt<|V' (Zai lk lkb) pt<|mv' lk pt<|?_
 refine sn'<|Zaa<|Zaf rz<|rT'<|?_
 refine bvx ?_;simp_all
end Go.Proofs.YtlekejpogddndaaGreatDoor
end
section
namespace Go.Proofs.YtlekejpogddndaaGreatDoor
open Go.Ab Go.RowKit Civ
attribute [local simp] Zbk Zbx Zbr Zbt
section
theorem Zqv {a0 a1 a2 a3 a4 a5 a6:AV}{l:List AV}:((a0::a1::a2::a3::a4::a5::a6::l).drop 4).take 3=[a4,a5,a6]:=rfl
theorem Zqw {a0 a1 a2 c0 c1 c2:AV}{l:List AV}:setCells (a0::a1::a2::l) 0 [c0,c1,c2]=c0::c1::c2::l:=rfl
theorem Zfp {a0 a1 a2 a3 a4 a5 a6 a7 a8 a9:AV}{l:List AV}:((a0::a1::a2::a3::a4::a5::a6::a7::a8::a9::l).drop 5).take 5=[a5,a6,a7,a8,a9]:=rfl
theorem Zcv {τ:Operand→AV}:Zas τ [] [(.v (.int .i64 0)),(.v (.int .i64 0)),(.v (.int .i64 0)),(.v (.int .i64 0)),(.v (.int .i64 0))]=some [(.v (.int .i64 0)),(.v (.int .i64 0)),(.v (.int .i64 0)),(.v (.int .i64 0)),(.v (.int .i64 0))]:=rfl
theorem Zfq {a0 a1 a2 a3 a4 a5 a6 a7:AV}{l:List AV}:((a0::a1::a2::a3::a4::a5::a6::a7::l).drop 5).take 3=[a5,a6,a7]:=rfl
theorem Zqt {a0 a1 a2 a3 a4 a5 a6 a7 a8 a9 a10:AV}{l:List AV}:(a0::a1::a2::a3::a4::a5::a6::a7::a8::a9::a10::l).take 11=[a0,a1,a2,a3,a4,a5,a6,a7,a8,a9,a10]:=rfl
theorem Zqu {a0 a1 a2 a3 a4 a5 a6 a7 a8 a9:AV}{l:List AV}:(a0::a1::a2::a3::a4::a5::a6::a7::a8::a9::l).take 10=[a0,a1,a2,a3,a4,a5,a6,a7,a8,a9]:=rfl
end
def c151:AC:=(Sr [Oo 1 (.box 36 11 (.tmp 0)),Mc 2 0] (.seq (Sr [Fa 5 0 1,Ld 6 5,Cl 7 115 [(.tmp 6)],Oo 8 (.un .not (.tmp 7)),Mv 9 8,Of 10 9 (.fa 10 (.tmp 1)),Of 11 9 (.load false 1 (.tmp 10)),Of 12 9 (.call (.func 224) [(.tmp 11)]),Of 13 9 (.un .not (.tmp 12)),Oo 14 (.pick (.tmp 9) (.const (.bool true)) (.tmp 13))] (Cd 14 (Sr [Mc 2 1] .ret) .skip)) (.seq (Sr [Fa 15 1 1,Ld 16 15,Fa 17 2 1,Ld 18 17,Cl 19 73 [(.tmp 16),(Ci 1900),(.tmp 18)],Oo 20 (.un .not (.tmp 19)),Mv 21 20,Of 22 21 (.fa 2 (.tmp 1)),Of 23 21 (.load false 1 (.tmp 22)),Of 24 21 (.bin .gtr (.tmp 23) (Ci 2100)),Oo 25 (.pick (.tmp 21) (.const (.bool true)) (.tmp 24)),Mv 26 25,Of 27 26 (.fa 3 (.tmp 1)),Of 28 26 (.load false 1 (.tmp 27)),Of 29 26 (.call (.func 73) [(.tmp 28),(Ci 1),(Ci 12)]),Of 30 26 (.un .not (.tmp 29)),Oo 31 (.pick (.tmp 26) (.const (.bool true)) (.tmp 30))] (Cd 31 (Sr [Mc 2 3] .ret) .skip)) (Sr [Fa 33 3 1,Ld 34 33,Fa 35 4 1,Oo 36 (.load true 3 (.tmp 35)),Cl 37 153 [(Ci 2001),(.tmp 34),(.tmp 36)],Mv 32 37,Ex 38 32 0,Ex 39 32 1,Oo 3 (.new 59 3 [(iv 0),(iv 0),(iv 0)]),⟨none,none,(.store 3 (.tmp 3) (.tmp 38))⟩,Mv 4 39] (.seq (Sr [Mv 40 4,Bc 41 .neq 40 0] (Cd 41 (Sr [Mv 42 4,Mv 2 42] .ret) .skip)) (.seq (Sr [Fa 43 7 1,Ld 44 43,Cl 45 73 [(.tmp 44),(Ci 0),(Ci 172800)],Oo 46 (.un .not (.tmp 45))] (Cd 46 (Sr [Mc 2 3] .ret) .skip)) (.seq (Sr [Fa 47 8 1,Ld 48 47,Cl 49 73 [(.tmp 48),(Ci 1),(Ci 3)],Oo 50 (.un .not (.tmp 49))] (Cd 50 (Sr [Mc 2 7] .ret) .skip)) (.seq (Sr [Fa 51 9 1,Ld 52 51,Cl 53 73 [(.tmp 52),(Ci 0),(Ci 10800)],Oo 54 (.un .not (.tmp 53))] (Cd 54 (Sr [Mc 2 3] .ret) .skip)) (Sr [Mc 2 0] .ret)))))))))
theorem k151:ZaA Tryz.prog 151=some ⟨c151,[(.tmp 2)],55⟩:=by kernel_rfl
def c152:AC:=(Sr [Oo 2 (.box 63 10 (.tmp 0)),Mc 4 0] (.seq (Sr [Fa 5 1 2,Ld 6 5,Oo 7 (.bin .neq (.tmp 6) (.const (.string ⟨#[]⟩))),Mv 8 7,Ot 9 8 (.fa 1 (.tmp 2)),Ot 10 8 (.load false 1 (.tmp 9)),Ot 11 8 (.call (.func 115) [(.tmp 10)]),Ot 12 8 (.un .not (.tmp 11)),Oo 13 (.pick (.tmp 8) (.tmp 12) (.const (.bool false))),Mv 14 13,Of 15 14 (.fa 3 (.tmp 2)),Of 16 14 (.load false 1 (.tmp 15)),Of 17 14 (.call (.func 225) [(.tmp 16)]),Of 18 14 (.un .not (.tmp 17)),Oo 19 (.pick (.tmp 14) (.const (.bool true)) (.tmp 18))] (Cd 19 (Sr [Mc 4 1] .ret) .skip)) (.seq (Sr [Fa 20 0 2,Ld 21 20,Cl 22 73 [(.tmp 21),(.const (.int .i64 (-64800))),(Ci 64800)],Oo 23 (.un .not (.tmp 22)),Mv 24 23,Of 25 24 (.fa 2 (.tmp 2)),Of 26 24 (.load false 1 (.tmp 25)),Of 27 24 (.call (.func 73) [(.tmp 26),(Ci 0),(Ci 10800)]),Of 28 24 (.un .not (.tmp 27)),Oo 29 (.pick (.tmp 24) (.const (.bool true)) (.tmp 28))] (Cd 29 (Sr [Mc 4 3] .ret) .skip)) (.seq (Sr [Fa 30 1 2,Ld 31 30,Oo 32 (.bin .neq (.tmp 31) (.const (.string ⟨#[]⟩))),Mv 33 32,Ot 34 33 (.fa 2 (.tmp 2)),Ot 35 33 (.load false 1 (.tmp 34)),Ot 36 33 (.bin .neq (.tmp 35) (Ci 0)),Oo 37 (.pick (.tmp 33) (.tmp 36) (.const (.bool false)))] (Cd 37 (Sr [Mc 4 1] .ret) .skip)) (.seq (Sr [Fa 38 4 2,Ld 39 38,Mv 40 1,Oo 41 (.eqb true (.tmp 39) (.tmp 40))] (Cd 41 (Sr [Mc 4 4] .ret) .skip)) (.seq (Sr [Fa 42 4 2,Ld 43 42] (Cd 43 (.seq (Sr [Fa 44 5 2,Oo 45 (.load true 5 (.tmp 44)),Oo 46 (.build [(iv 0),(iv 0),(iv 0),(iv 0),(iv 0)] []),Cl 47 226 [(.tmp 45),(.tmp 46)],Oo 48 (.un .not (.tmp 47))] (Cd 48 (Sr [Mc 4 1] .ret) .skip)) (Sr [Mc 4 0] .ret)) .skip)) (.seq (Sr [Fa 49 5 2,Fa 50 0 49,Oo 51 (.load true 3 (.tmp 50)),Cl 52 227 [(.tmp 51)],Oo 53 (.un .not (.tmp 52)),Mv 54 53,Of 55 54 (.fa 5 (.tmp 2)),Of 56 54 (.fa 3 (.tmp 55)),Of 57 54 (.load false 1 (.tmp 56)),Of 58 54 (.call (.func 73) [(.tmp 57),(Ci 0),(Ci 172800)]),Of 59 54 (.un .not (.tmp 58)),Oo 60 (.pick (.tmp 54) (.const (.bool true)) (.tmp 59))] (Cd 60 (Sr [Mc 4 3] .ret) .skip)) (.seq (Sr [Fa 61 5 2,Fa 62 4 61,Ld 63 62,Bc 64 .neq 63 2,Mv 65 64,Ot 66 65 (.fa 5 (.tmp 2)),Ot 67 65 (.fa 4 (.tmp 66)),Ot 68 65 (.load false 1 (.tmp 67)),Ot 69 65 (.bin .neq (.tmp 68) (Ci 3)),Oo 70 (.pick (.tmp 65) (.tmp 69) (.const (.bool false)))] (Cd 70 (Sr [Mc 4 7] .ret) .skip)) (Sr [Mc 4 0] .ret)))))))))
theorem k152:ZaA Tryz.prog 152=some ⟨c152,[(.tmp 4)],71⟩:=by kernel_rfl
def c79:AC:=(Sr [Oo 1 (.box 26 3 (.tmp 0)),Mc 2 0] (.seq (Sr [Fa 11 0 1,Ld 12 11,Oo 13 (.len false (.tmp 12)),Bc 14 .gtr 13 40,Mv 15 14,Of 16 15 (.fa 1 (.tmp 1)),Of 17 15 (.load false 1 (.tmp 16)),Of 18 15 (.len false (.tmp 17)),Of 19 15 (.bin .gtr (.tmp 18) (Ci 20)),Oo 20 (.pick (.tmp 15) (.const (.bool true)) (.tmp 19)),Mv 21 20,Of 22 21 (.fa 2 (.tmp 1)),Of 23 21 (.load false 1 (.tmp 22)),Of 24 21 (.len false (.tmp 23)),Of 25 21 (.bin .gtr (.tmp 24) (Ci 20)),Oo 26 (.pick (.tmp 21) (.const (.bool true)) (.tmp 25))] (Cd 26 (Sr [Mc 2 2] .ret) .skip)) (.seq (Sr [Mc 3 0] (.block 0 (.loop (.seq (Sr [Mv 27 3,Fa 28 1 1,Ld 29 28,Oo 30 (.len false (.tmp 29)),Bn 31 .lss 27 30] (Cd 31 .skip (.exit 0))) (.seq (.block 1 (Sr [Fa 34 1 1,Ld 35 34,Mv 36 3,Oo 37 (.ia 2 (.tmp 35) (.tmp 36)),Fa 38 1 37,Ld 39 38,Oo 40 (.len false (.tmp 39)),Bc 41 .gtr 40 8] (Cd 41 (Sr [Mc 2 2] .ret) .skip))) (.reg [Mv 32 3,Bc 33 .add 32 1,Mv 3 33])))))) (.seq (Sr [Mc 4 0] (.block 2 (.loop (.seq (Sr [Mv 42 4,Fa 43 0 1,Ld 44 43,Oo 45 (.len false (.tmp 44)),Bn 46 .lss 42 45] (Cd 46 .skip (.exit 2))) (.seq (.block 3 (Sr [Fa 49 0 1,Ld 50 49,Mv 51 4,Oo 52 (.ia 11 (.tmp 50) (.tmp 51)),Oo 53 (.load true 11 (.tmp 52)),Cl 54 151 [(.tmp 53)],Mv 5 54] (Sr [Mv 55 5,Bc 56 .neq 55 0] (Cd 56 (Sr [Mv 57 5,Mv 2 57] .ret) .skip)))) (.reg [Mv 47 4,Bc 48 .add 47 1,Mv 4 48])))))) (.seq (Sr [Mc 6 0] (.block 4 (.loop (.seq (Sr [Mv 58 6,Fa 59 1 1,Ld 60 59,Oo 61 (.len false (.tmp 60)),Bn 62 .lss 58 61] (Cd 62 .skip (.exit 4))) (.seq (.block 5 (Sr [Fa 65 1 1,Ld 66 65,Mv 67 6,Oo 68 (.ia 2 (.tmp 66) (.tmp 67)),Fa 69 1 68,Ld 70 69,Mv 7 70] (.seq (Sr [Fa 71 1 1,Ld 72 71,Mv 73 6,Oo 74 (.ia 2 (.tmp 72) (.tmp 73)),Fa 75 0 74,Ld 76 75,Cl 77 115 [(.tmp 76)],Oo 78 (.un .not (.tmp 77)),Mv 79 78,Of 80 79 (mt 7),Of 81 79 (.len false (.tmp 80)),Of 82 79 (.bin .eql (.tmp 81) (Ci 0)),Oo 83 (.pick (.tmp 79) (.const (.bool true)) (.tmp 82))] (Cd 83 (Sr [Mc 2 1] .ret) .skip)) (Sr [Mc 8 0] (.block 6 (.loop (.seq (Sr [Mv 84 8,Mv 85 7,Oo 86 (.len false (.tmp 85)),Bn 87 .lss 84 86] (Cd 87 .skip (.exit 6))) (.seq (.block 7 (Sr [Mv 90 7,Mv 91 8,Oo 92 (.ia 10 (.tmp 90) (.tmp 91)),Oo 93 (.load true 10 (.tmp 92)),Mv 94 8,Mv 95 7,Oo 96 (.len false (.tmp 95)),Bc 97 .sub 96 1,Bn 98 .eql 94 97,Cl 99 152 [(.tmp 93),(.tmp 98)],Mv 9 99] (Sr [Mv 100 9,Bc 101 .neq 100 0] (Cd 101 (Sr [Mv 102 9,Mv 2 102] .ret) .skip)))) (.reg [Mv 88 8,Bc 89 .add 88 1,Mv 8 89]))))))))) (.reg [Mv 63 6,Bc 64 .add 63 1,Mv 6 64])))))) (.seq (Sr [Mc 10 0] (.block 8 (.loop (.seq (Sr [Mv 103 10,Fa 104 2 1,Ld 105 104,Oo 106 (.len false (.tmp 105)),Bn 107 .lss 103 106] (Cd 107 .skip (.exit 8))) (.seq (.block 9 (Sr [Fa 110 2 1,Ld 111 110,Mv 112 10,Oo 113 (.ia 2 (.tmp 111) (.tmp 112)),Fa 114 0 113,Ld 115 114,Cl 116 115 [(.tmp 115)],Oo 117 (.un .not (.tmp 116)),Mv 118 117,Of 119 118 (.fa 2 (.tmp 1)),Of 120 118 (.load false 1 (.tmp 119)),Of 121 118 (mt 10),Of 122 118 (.ia 2 (.tmp 120) (.tmp 121)),Of 123 118 (.fa 1 (.tmp 122)),Of 124 118 (.load false 1 (.tmp 123)),Of 125 118 (.call (.func 115) [(.tmp 124)]),Of 126 118 (.un .not (.tmp 125)),Oo 127 (.pick (.tmp 118) (.const (.bool true)) (.tmp 126))] (Cd 127 (Sr [Mc 2 1] .ret) .skip))) (.reg [Mv 108 10,Bc 109 .add 108 1,Mv 10 109])))))) (Sr [Mc 2 0] .ret)))))))
theorem k79:ZaA Tryz.prog 79=some ⟨c79,[(.tmp 2)],128⟩:=by kernel_rfl
theorem ZlP {nm lt:ByteArray}{f t m k w n a c s:Int}{h:AH}(hnm:nm.size≤maxLen) (hlt':lt.size≤maxLen):Ac 151 [.agg [sv nm,iv f,iv t,iv m,iv k,iv w,iv n,iv a,iv c,iv s,sv lt]] h (iv (Zbu (nm,f,t,m,(k,w,n),a,c,s,lt))):=by
 refine tI' k151 fun N hn hlt hlA hbd=>?_
 simp only [tb'] at hbd ⊢
 refine wr'<|E' (Zba (cvl lk rfl) rfl (hl0 hn) ha0) pt<|mv' lki pt<|sn'<|Zal<|wr'<|V' (Zab lk) pt<|V' (Zac lk (hga hn rfl) gt0) pt<|Zad mp (Zc6 hnm) pt<|V' (Zax lk) pt<|mv' lk pt<|?_
 refine ZaG (t:=9) gt pt pt (fun hg9=>?_) (fun hg9=>?_)
 ·refine s_no gt pt<|s_no gt pt<|s_no gt pt<|s_no gt pt<|V' (Zaj lk lkb) pt<|sn'<|ZaF lk<|wr'<|mv' lki pt<|sn'<|Zaa<|?_
  refine Zag<|Zaf rz<|rT'<|?_
  rw [show Zbu (nm,f,t,m,(k,w,n),a,c,s,lt)=1 by unfold Zbu;simp_all]
 refine s_do gt<|V' (Zab lk) pt<|s_do gt<|V' (Zac lk (hga hn rfl) gt10) pt<|s_do gt<|Zad mp (Zhf hlt') pt<|s_do gt<|V' (Zax lk) pt<|V' (Zai lk lk) pt<|sn'<|?_
 refine Zau lk (fun hc1=>?_) (fun hc1=>?_)
 ·refine wr'<|mv' lki pt<|sn'<|Zaa<|Zag<|Zaf rz<|rT'<|?_
  rw [show Zbu (nm,f,t,m,(k,w,n),a,c,s,lt)=1 by unfold Zbu;simp_all]
 have h1:Zcs nm=true∧Zcm lt=true:=by simp_all
 have hR:Zbu (nm,f,t,m,(k,w,n),a,c,s,lt)=if f<1900∨f>t∨t>2100∨¬wi m 1 12=true then 3 else if (onV 2001 m k w n).2≠0 then (onV 2001 m k w n).2 else if ¬wi a 0 172800=true then 3 else if ¬clkB c true=true then 7 else if ¬wi s 0 10800=true then 3 else 0:=if_neg (by simp [h1])
 have hC:clkB c true=wi c 1 3:=by unfold clkB;simp
 rw [hC] at hR
 refine Zae<|Zah<|Zal<|wr'<|V' (Zab lk) pt<|V' (Zac lk (hga hn rfl) gt1) pt<|V' (Zab lk) pt<|V' (Zac lk (hga hn rfl) gt2) pt<|Zad mp (ZaT) pt<|V' (Zax lk) pt<|mv' lk pt<|?_
 refine ZaG (t:=21) gt pt pt (fun hg21=>?_) (fun hg21=>?_)
 ·have hw:¬wi f 1900 t=true:=by simpa using hg21
  have hw':¬(1900≤f∧f≤t):=by unfold wi at hw;simpa using hw
  rw [if_pos (by omega)] at hR
  refine s_no gt pt<|s_no gt pt<|s_no gt pt<|V' (Zaj lk lkb) pt<|mv' lk pt<|s_no gt pt<|s_no gt pt<|s_no gt pt<|s_no gt pt<|V' (Zaj lk lkb) pt<|sn'<|ZaF lk<|Zal<|?_
  refine Zat<|mv' lki pt<|sn'<|Zaa<|Zag<|Zaf rz<|rT'<|?_
  rw [hR]
 have hw:wi f 1900 t=true:=by simpa using hg21
 have hw':1900≤f∧f≤t:=by unfold wi at hw;simpa using hw
 refine s_do gt<|V' (Zab lk) pt<|s_do gt<|V' (Zac lk (hga hn rfl) gt2) pt<|s_do gt<|V' (Zbs lk lki) pt<|V' (Zai lk lk) pt<|mv' lk pt<|?_
 refine sp' (t:=26) gt pt pt (fun hg26=>?_) (fun hg26=>?_)
 ·rw [if_pos (.inr (.inr (.inl (by omega))))] at hR
  refine s_no gt pt<|s_no gt pt<|s_no gt pt<|s_no gt pt<|V' (Zaj lk lkb) pt<|sn'<|ZaF lk<|wr'<|mv' lki pt<|sn'<|Zaa<|?_
  refine Zag<|Zaf rz<|rT'<|?_
  rw [hR]
 refine s_do gt<|V' (Zab lk) pt<|s_do gt<|V' (Zac lk (hga hn rfl) gt3) pt<|s_do gt<|Zad mp (ZaT) pt<|s_do gt<|V' (Zax lk) pt<|V' (Zai lk lk) pt<|sn'<|?_
 refine Zau lk (fun hc2=>?_) (fun hc2=>?_)
 ·rw [if_pos (.inr (.inr (.inr (by simpa using hc2))))] at hR
  refine wr'<|mv' lki pt<|sn'<|Zaa<|Zag<|Zaf rz<|rT'<|?_
  rw [hR]
 have hw2:wi m 1 12=true:=by simpa using hc2
 have h2:¬(f<1900∨f>t∨t>2100∨¬wi m 1 12=true):=by rw [hw2];simp;omega
 rw [if_neg h2] at hR
 refine Zae<|Zah<|wr'<|V' (Zab lk) pt<|V' (Zac lk (hga hn rfl) gt3) pt<|V' (Zab lk) pt<|V' (Zan lk (hga hn rfl) Zqv rfl) pt<|Zad mp (ron_a) pt<|mv' lk pt<|V' (Zbb lk gt) pt<|V' (Zbb lk gt) pt<|E' (ZaV (hl1 hn) ha1) pt<|E' (Zak lk (cvl lk rfl) (hga hn rfl) rfl (nb' rfl) rfl Zqw (hs1 hn)) ptn<|?_
 refine mv' lk pt<|sn'<|Zal<|wr'<|mv' lk pt<|V' (ZaZ lk lki) pt<|sn'<|?_
 refine cd' lk (fun hc3=>?_) (fun hc3=>?_)
 ·rw [if_pos hc3] at hR
  refine wr'<|mv' lk pt<|mv' lk pt<|sn'<|Zaa<|Zag<|Zaf rz<|rT'<|?_
  rw [hR]
 rw [if_neg hc3] at hR
 refine Zae<|Zah<|Zal<|wr'<|V' (Zab lk) pt<|V' (Zac lk (hga hn rfl) gt7) pt<|Zad mp (ZaT) pt<|V' (Zax lk) pt<|sn'<|?_
 refine Zau lk (fun hc4=>?_) (fun hc4=>?_)
 ·rw [if_pos (by simpa using hc4)] at hR
  refine wr'<|mv' lki pt<|sn'<|Zaa<|Zag<|Zaf rz<|rT'<|?_
  rw [hR]
 rw [if_neg (by simpa using hc4)] at hR
 refine Zae<|Zah<|Zal<|wr'<|V' (Zab lk) pt<|V' (Zac lk (hga hn rfl) gt8) pt<|Zad mp (ZaT) pt<|V' (Zax lk) pt<|sn'<|?_
 refine Zau lk (fun hc5=>?_) (fun hc5=>?_)
 ·rw [if_pos (by simpa using hc5)] at hR
  refine wr'<|mv' lki pt<|sn'<|Zaa<|Zag<|Zaf rz<|rT'<|?_
  rw [hR]
 rw [if_neg (by simpa using hc5)] at hR
 refine Zae<|Zah<|Zal<|wr'<|V' (Zab lk) pt<|V' (Zac lk (hga hn rfl) gt9) pt<|Zad mp (ZaT) pt<|V' (Zax lk) pt<|sn'<|?_
 refine Zau lk (fun hc6=>?_) (fun hc6=>?_)
 ·rw [if_pos (by simpa using hc6)] at hR
  refine wr'<|mv' lki pt<|sn'<|Zaa<|Zag<|Zaf rz<|rT'<|?_
  rw [hR]
 rw [if_neg (by simpa using hc6)] at hR
 refine Zae<|Zah<|wr'<|mv' lki pt<|sn'<|Zaa<|Zaf rz<|rT'<|?_
 rw [hR]
theorem Zht (c:Int):clkB c false=decide (c=2∨c=3):=by unfold clkB wi;rw [Bool.eq_iff_iff];simp;omega
theorem Zm5 {rl fm:ByteArray}{sh sa y m d a c:Int}{op last:Bool}{h:AH}(hrl:rl.size≤maxLen) (hfm:fm.size≤maxLen):Ac 152 [.agg [iv sh,sv rl,iv sa,sv fm,bv op,iv y,iv m,iv d,iv a,iv c],bv last] h (iv (eraE sh rl sa fm op y m d a c last)):=by
 refine tI' k152 fun N hn hlt hlA hbd=>?_
 simp only [tb'] at hbd ⊢
 refine wr'<|E' (Zba (cvl lk rfl) rfl (hl0 hn) ha0) pt<|mv' lki pt<|sn'<|Zal<|wr'<|V' (Zab lk) pt<|V' (Zac lk (hga hn rfl) gt1) pt<|V' (ZcC lk lks) pt<|mv' lk pt<|?_
 refine sp' (t:=8) gt pt pt (fun hg8=>?_) (fun hg8=>?_)
 ·refine s_do gt<|V' (Zab lk) pt<|s_do gt<|V' (Zac lk (hga hn rfl) gt1) pt<|s_do gt<|Zad mp (Zc6 hrl) pt<|s_do gt<|V' (Zax lk) pt<|V' (Zaj lk lk) pt<|mv' lk pt<|?_
  refine ZaG (t:=14) gt pt pt (fun hg14=>?_) (fun hg14=>?_)
  ·refine s_no gt pt<|s_no gt pt<|s_no gt pt<|s_no gt pt<|V' (Zaj lk lkb) pt<|sn'<|ZaF lk<|wr'<|mv' lki pt<|sn'<|Zaa<|?_
   refine Zag<|Zaf rz<|rT'<|?_
   refine ivx ?_;unfold eraE;simp_all
  refine s_do gt<|V' (Zab lk) pt<|s_do gt<|V' (Zac lk (hga hn rfl) gt3) pt<|s_do gt<|Zad mp (ZfE hfm) pt<|s_do gt<|V' (Zax lk) pt<|V' (Zai lk lk) pt<|sn'<|?_
  refine Zau lk (fun hc1=>?_) (fun hc1=>?_)
  ·refine wr'<|mv' lki pt<|sn'<|Zaa<|Zag<|Zaf rz<|rT'<|?_
   refine ivx ?_;unfold eraE;simp_all
  refine Zae<|Zah<|Zal<|wr'<|V' (Zab lk) pt<|V' (Zac lk (hga hn rfl) gt0) pt<|Zad mp (ZaT) pt<|V' (Zax lk) pt<|mv' lk pt<|?_
  refine ZaG (t:=24) gt pt pt (fun hg24=>?_) (fun hg24=>?_)
  ·refine s_no gt pt<|s_no gt pt<|s_no gt pt<|s_no gt pt<|V' (Zaj lk lkb) pt<|sn'<|ZaF lk<|wr'<|mv' lki pt<|sn'<|Zaa<|?_
   refine Zag<|Zaf rz<|rT'<|?_
   refine ivx ?_;unfold eraE;simp_all
  refine s_do gt<|V' (Zab lk) pt<|s_do gt<|V' (Zac lk (hga hn rfl) gt2) pt<|s_do gt<|Zad mp (ZaT) pt<|s_do gt<|V' (Zax lk) pt<|V' (Zai lk lk) pt<|sn'<|?_
  refine Zau lk (fun hc2=>?_) (fun hc2=>?_)
  ·refine wr'<|mv' lki pt<|sn'<|Zaa<|Zag<|Zaf rz<|rT'<|?_
   refine ivx ?_;unfold eraE;simp_all
  refine Zae<|Zah<|Zal<|wr'<|V' (Zab lk) pt<|V' (Zac lk (hga hn rfl) gt1) pt<|V' (ZcC lk lks) pt<|mv' lk pt<|?_
  refine sp' (t:=33) gt pt pt (fun hg33=>?_) (fun hg33=>?_)
  ·refine s_do gt<|V' (Zab lk) pt<|s_do gt<|V' (Zac lk (hga hn rfl) gt2) pt<|s_do gt<|V' (ZaZ lk lki) pt<|V' (Zaj lk lk) pt<|sn'<|?_
   refine cd' lk (fun hc3=>?_) (fun hc3=>?_)
   ·refine wr'<|mv' lki pt<|sn'<|Zaa<|Zag<|Zaf rz<|rT'<|?_
    refine ivx ?_;unfold eraE;simp_all
   refine Zae<|Zah<|Zal<|wr'<|V' (Zab lk) pt<|V' (Zac lk (hga hn rfl) gt4) pt<|mv' lk pt<|V' (ZdI lk lk) pt<|sn'<|?_
   refine cd' lk (fun hc4=>?_) (fun hc4=>?_)
   ·refine wr'<|mv' lki pt<|sn'<|Zaa<|Zag<|Zaf rz<|rT'<|?_
    refine ivx ?_;unfold eraE;simp_all
   refine Zae<|Zah<|Zal<|wr'<|V' (Zab lk) pt<|V' (Zac lk (hga hn rfl) gt4) pt<|sn'<|?_
   refine Zau lk (fun hc5=>?_) (fun hc5=>?_)
   ·refine Zal<|wr'<|V' (Zab lk) pt<|V' (Zan lk (hga hn rfl) Zfp rfl) pt<|V' (Zaw Zcv) pt<|Zad mp (ZdL (u:=((y,m,d),a,c)) (v:=((0,0,0),0,0))) pt<|V' (Zax lk) pt<|sn'<|?_
    refine Zau lk (fun hc6=>?_) (fun hc6=>?_)
    ·refine wr'<|mv' lki pt<|sn'<|Zaa<|Zag<|Zag<|Zaf rz<|rT'<|?_
     refine ivx ?_;unfold eraE;simp_all <;> (try intros) <;> omega
    refine Zae<|Zah<|wr'<|mv' lki pt<|sn'<|Zaa<|Zag<|Zaf rz<|rT'<|?_
    refine ivx ?_;unfold eraE;simp_all
   refine Zae<|Zah<|Zal<|wr'<|V' (Zab lk) pt<|V' (ZbM lk) pt<|V' (Zan lk (hga hn rfl) Zfq rfl) pt<|Zad mp (Zfb) pt<|V' (Zax lk) pt<|mv' lk pt<|?_
   refine ZaG (t:=54) gt pt pt (fun hg54=>?_) (fun hg54=>?_)
   ·refine s_no gt pt<|s_no gt pt<|s_no gt pt<|s_no gt pt<|s_no gt pt<|V' (Zaj lk lkb) pt<|sn'<|ZaF lk<|wr'<|mv' lki pt<|sn'<|?_
    refine Zaa<|Zag<|Zaf rz<|rT'<|?_
    refine ivx ?_;unfold eraE;simp_all
   refine s_do gt<|V' (Zab lk) pt<|s_do gt<|V' (ZbM lk) pt<|s_do gt<|V' (Zac lk (hga hn rfl) gt8) pt<|s_do gt<|Zad mp (ZaT) pt<|s_do gt<|V' (Zax lk) pt<|V' (Zai lk lk) pt<|sn'<|?_
   refine Zau lk (fun hc7=>?_) (fun hc7=>?_)
   ·refine wr'<|mv' lki pt<|sn'<|Zaa<|Zag<|Zaf rz<|rT'<|?_
    refine ivx ?_;unfold eraE;simp_all
   refine Zae<|Zah<|Zal<|wr'<|V' (Zab lk) pt<|V' (ZbM lk) pt<|V' (Zac lk (hga hn rfl) gt9) pt<|V' (ZaZ lk lki) pt<|mv' lk pt<|?_
   refine sp' (t:=65) gt pt pt (fun hg65=>?_) (fun hg65=>?_)
   ·refine s_do gt<|V' (Zab lk) pt<|s_do gt<|V' (ZbM lk) pt<|s_do gt<|V' (Zac lk (hga hn rfl) gt9) pt<|s_do gt<|V' (ZaZ lk lki) pt<|V' (Zaj lk lk) pt<|sn'<|?_
    refine cd' lk (fun hc8=>?_) (fun hc8=>?_)
    ·refine wr'<|mv' lki pt<|sn'<|Zaa<|Zag<|Zaf rz<|rT'<|?_
     refine ivx ?_;unfold eraE;rw [Zht];simp_all
    refine Zae<|Zah<|wr'<|mv' lki pt<|sn'<|Zaa<|Zaf rz<|rT'<|?_
    refine ivx ?_;unfold eraE;rw [Zht];simp_all
   refine s_no gt pt<|s_no gt pt<|s_no gt pt<|s_no gt pt<|V' (Zai lk lkb) pt<|sn'<|ZaN lk<|Zae<|Zah<|wr'<|mv' lki pt<|Zar<|?_
   refine Zah<|Zaa<|Zaf rz<|rT'<|?_
   refine ivx ?_;unfold eraE;rw [Zht];simp_all
  refine s_no gt pt<|s_no gt pt<|s_no gt pt<|V' (Zai lk lkb) pt<|sn'<|ZaN lk<|Zae<|Zah<|Zal<|wr'<|V' (Zab lk) pt<|V' (Zac lk (hga hn rfl) gt4) pt<|?_
  refine mv' lk pt<|V' (ZdI lk lk) pt<|sn'<|?_
  refine cd' lk (fun hc4=>?_) (fun hc4=>?_)
  ·refine wr'<|mv' lki pt<|sn'<|Zaa<|Zag<|Zaf rz<|rT'<|?_
   refine ivx ?_;unfold eraE;simp_all
  refine Zae<|Zah<|Zal<|wr'<|V' (Zab lk) pt<|V' (Zac lk (hga hn rfl) gt4) pt<|sn'<|?_
  refine Zau lk (fun hc5=>?_) (fun hc5=>?_)
  ·refine Zal<|wr'<|V' (Zab lk) pt<|V' (Zan lk (hga hn rfl) Zfp rfl) pt<|V' (Zaw Zcv) pt<|Zad mp (ZdL (u:=((y,m,d),a,c)) (v:=((0,0,0),0,0))) pt<|V' (Zax lk) pt<|sn'<|?_
   refine Zau lk (fun hc6=>?_) (fun hc6=>?_)
   ·refine wr'<|mv' lki pt<|sn'<|Zaa<|Zag<|Zag<|Zaf rz<|rT'<|?_
    refine ivx ?_;unfold eraE;simp_all <;> (try intros) <;> omega
   refine Zae<|Zah<|wr'<|mv' lki pt<|sn'<|Zaa<|Zag<|Zaf rz<|rT'<|?_
   refine ivx ?_;unfold eraE;simp_all
  refine Zae<|Zah<|Zal<|wr'<|V' (Zab lk) pt<|V' (ZbM lk) pt<|V' (Zan lk (hga hn rfl) Zfq rfl) pt<|Zad mp (Zfb) pt<|V' (Zax lk) pt<|mv' lk pt<|?_
  refine ZaG (t:=54) gt pt pt (fun hg54=>?_) (fun hg54=>?_)
  ·refine s_no gt pt<|s_no gt pt<|s_no gt pt<|s_no gt pt<|s_no gt pt<|V' (Zaj lk lkb) pt<|sn'<|ZaF lk<|wr'<|mv' lki pt<|sn'<|?_
   refine Zaa<|Zag<|Zaf rz<|rT'<|?_
   refine ivx ?_;unfold eraE;simp_all
  refine s_do gt<|V' (Zab lk) pt<|s_do gt<|V' (ZbM lk) pt<|s_do gt<|V' (Zac lk (hga hn rfl) gt8) pt<|s_do gt<|Zad mp (ZaT) pt<|s_do gt<|V' (Zax lk) pt<|V' (Zai lk lk) pt<|sn'<|?_
  refine Zau lk (fun hc7=>?_) (fun hc7=>?_)
  ·refine wr'<|mv' lki pt<|sn'<|Zaa<|Zag<|Zaf rz<|rT'<|?_
   refine ivx ?_;unfold eraE;simp_all
  refine Zae<|Zah<|Zal<|wr'<|V' (Zab lk) pt<|V' (ZbM lk) pt<|V' (Zac lk (hga hn rfl) gt9) pt<|V' (ZaZ lk lki) pt<|mv' lk pt<|?_
  refine sp' (t:=65) gt pt pt (fun hg65=>?_) (fun hg65=>?_)
  ·refine s_do gt<|V' (Zab lk) pt<|s_do gt<|V' (ZbM lk) pt<|s_do gt<|V' (Zac lk (hga hn rfl) gt9) pt<|s_do gt<|V' (ZaZ lk lki) pt<|V' (Zaj lk lk) pt<|sn'<|?_
   refine cd' lk (fun hc8=>?_) (fun hc8=>?_)
   ·refine wr'<|mv' lki pt<|sn'<|Zaa<|Zag<|Zaf rz<|rT'<|?_
    refine ivx ?_;unfold eraE;rw [Zht];simp_all
   refine Zae<|Zah<|wr'<|mv' lki pt<|sn'<|Zaa<|Zaf rz<|rT'<|?_
   refine ivx ?_;unfold eraE;rw [Zht];simp_all
  refine s_no gt pt<|s_no gt pt<|s_no gt pt<|s_no gt pt<|V' (Zai lk lkb) pt<|sn'<|ZaN lk<|Zae<|Zah<|wr'<|mv' lki pt<|Zar<|?_
  refine Zah<|Zaa<|Zaf rz<|rT'<|?_
  refine ivx ?_;unfold eraE;rw [Zht];simp_all
 refine s_no gt pt<|s_no gt pt<|s_no gt pt<|s_no gt pt<|V' (Zai lk lkb) pt<|mv' lk pt<|s_do gt<|V' (Zab lk) pt<|s_do gt<|V' (Zac lk (hga hn rfl) gt3) pt<|s_do gt<|Zad mp (ZfE hfm) pt<|s_do gt<|V' (Zax lk) pt<|?_
 refine V' (Zai lk lk) pt<|sn'<|?_
 refine Zau lk (fun hc1=>?_) (fun hc1=>?_)
 ·refine wr'<|mv' lki pt<|sn'<|Zaa<|Zag<|Zaf rz<|rT'<|?_
  refine ivx ?_;unfold eraE;simp_all
 refine Zae<|Zah<|Zal<|wr'<|V' (Zab lk) pt<|V' (Zac lk (hga hn rfl) gt0) pt<|Zad mp (ZaT) pt<|V' (Zax lk) pt<|mv' lk pt<|?_
 refine ZaG (t:=24) gt pt pt (fun hg24=>?_) (fun hg24=>?_)
 ·refine s_no gt pt<|s_no gt pt<|s_no gt pt<|s_no gt pt<|V' (Zaj lk lkb) pt<|sn'<|ZaF lk<|wr'<|mv' lki pt<|sn'<|Zaa<|?_
  refine Zag<|Zaf rz<|rT'<|?_
  refine ivx ?_;unfold eraE;simp_all
 refine s_do gt<|V' (Zab lk) pt<|s_do gt<|V' (Zac lk (hga hn rfl) gt2) pt<|s_do gt<|Zad mp (ZaT) pt<|s_do gt<|V' (Zax lk) pt<|V' (Zai lk lk) pt<|sn'<|?_
 refine Zau lk (fun hc2=>?_) (fun hc2=>?_)
 ·refine wr'<|mv' lki pt<|sn'<|Zaa<|Zag<|Zaf rz<|rT'<|?_
  refine ivx ?_;unfold eraE;simp_all
 refine Zae<|Zah<|Zal<|wr'<|V' (Zab lk) pt<|V' (Zac lk (hga hn rfl) gt1) pt<|V' (ZcC lk lks) pt<|mv' lk pt<|?_
 refine sp' (t:=33) gt pt pt (fun hg33=>?_) (fun hg33=>?_)
 ·refine s_do gt<|V' (Zab lk) pt<|s_do gt<|V' (Zac lk (hga hn rfl) gt2) pt<|s_do gt<|V' (ZaZ lk lki) pt<|V' (Zaj lk lk) pt<|sn'<|?_
  refine cd' lk (fun hc3=>?_) (fun hc3=>?_)
  ·refine wr'<|mv' lki pt<|sn'<|Zaa<|Zag<|Zaf rz<|rT'<|?_
   refine ivx ?_;unfold eraE;simp_all
  refine Zae<|Zah<|Zal<|wr'<|V' (Zab lk) pt<|V' (Zac lk (hga hn rfl) gt4) pt<|mv' lk pt<|V' (ZdI lk lk) pt<|sn'<|?_
  refine cd' lk (fun hc4=>?_) (fun hc4=>?_)
  ·refine wr'<|mv' lki pt<|sn'<|Zaa<|Zag<|Zaf rz<|rT'<|?_
   refine ivx ?_;unfold eraE;simp_all
  refine Zae<|Zah<|Zal<|wr'<|V' (Zab lk) pt<|V' (Zac lk (hga hn rfl) gt4) pt<|sn'<|?_
  refine Zau lk (fun hc5=>?_) (fun hc5=>?_)
  ·refine Zal<|wr'<|V' (Zab lk) pt<|V' (Zan lk (hga hn rfl) Zfp rfl) pt<|V' (Zaw Zcv) pt<|Zad mp (ZdL (u:=((y,m,d),a,c)) (v:=((0,0,0),0,0))) pt<|V' (Zax lk) pt<|sn'<|?_
   refine Zau lk (fun hc6=>?_) (fun hc6=>?_)
   ·refine wr'<|mv' lki pt<|sn'<|Zaa<|Zag<|Zag<|Zaf rz<|rT'<|?_
    refine ivx ?_;unfold eraE;simp_all <;> (try intros) <;> omega
   refine Zae<|Zah<|wr'<|mv' lki pt<|sn'<|Zaa<|Zag<|Zaf rz<|rT'<|?_
   refine ivx ?_;unfold eraE;simp_all
  refine Zae<|Zah<|Zal<|wr'<|V' (Zab lk) pt<|V' (ZbM lk) pt<|V' (Zan lk (hga hn rfl) Zfq rfl) pt<|Zad mp (Zfb) pt<|V' (Zax lk) pt<|mv' lk pt<|?_
  refine ZaG (t:=54) gt pt pt (fun hg54=>?_) (fun hg54=>?_)
  ·refine s_no gt pt<|s_no gt pt<|s_no gt pt<|s_no gt pt<|s_no gt pt<|V' (Zaj lk lkb) pt<|sn'<|ZaF lk<|wr'<|mv' lki pt<|sn'<|?_
   refine Zaa<|Zag<|Zaf rz<|rT'<|?_
   refine ivx ?_;unfold eraE;simp_all
  refine s_do gt<|V' (Zab lk) pt<|s_do gt<|V' (ZbM lk) pt<|s_do gt<|V' (Zac lk (hga hn rfl) gt8) pt<|s_do gt<|Zad mp (ZaT) pt<|s_do gt<|V' (Zax lk) pt<|V' (Zai lk lk) pt<|sn'<|?_
  refine Zau lk (fun hc7=>?_) (fun hc7=>?_)
  ·refine wr'<|mv' lki pt<|sn'<|Zaa<|Zag<|Zaf rz<|rT'<|?_
   refine ivx ?_;unfold eraE;simp_all
  refine Zae<|Zah<|Zal<|wr'<|V' (Zab lk) pt<|V' (ZbM lk) pt<|V' (Zac lk (hga hn rfl) gt9) pt<|V' (ZaZ lk lki) pt<|mv' lk pt<|?_
  refine sp' (t:=65) gt pt pt (fun hg65=>?_) (fun hg65=>?_)
  ·refine s_do gt<|V' (Zab lk) pt<|s_do gt<|V' (ZbM lk) pt<|s_do gt<|V' (Zac lk (hga hn rfl) gt9) pt<|s_do gt<|V' (ZaZ lk lki) pt<|V' (Zaj lk lk) pt<|sn'<|?_
   refine cd' lk (fun hc8=>?_) (fun hc8=>?_)
   ·refine wr'<|mv' lki pt<|sn'<|Zaa<|Zag<|Zaf rz<|rT'<|?_
    refine ivx ?_;unfold eraE;rw [Zht];simp_all
   refine Zae<|Zah<|wr'<|mv' lki pt<|sn'<|Zaa<|Zaf rz<|rT'<|?_
   refine ivx ?_;unfold eraE;rw [Zht];simp_all
  refine s_no gt pt<|s_no gt pt<|s_no gt pt<|s_no gt pt<|V' (Zai lk lkb) pt<|sn'<|ZaN lk<|Zae<|Zah<|wr'<|mv' lki pt<|Zar<|?_
  refine Zah<|Zaa<|Zaf rz<|rT'<|?_
  refine ivx ?_;unfold eraE;rw [Zht];simp_all
 refine s_no gt pt<|s_no gt pt<|s_no gt pt<|V' (Zai lk lkb) pt<|sn'<|ZaN lk<|Zae<|Zah<|Zal<|wr'<|V' (Zab lk) pt<|V' (Zac lk (hga hn rfl) gt4) pt<|?_
 refine mv' lk pt<|V' (ZdI lk lk) pt<|sn'<|?_
 refine cd' lk (fun hc4=>?_) (fun hc4=>?_)
 ·refine wr'<|mv' lki pt<|sn'<|Zaa<|Zag<|Zaf rz<|rT'<|?_
  refine ivx ?_;unfold eraE;simp_all
 refine Zae<|Zah<|Zal<|wr'<|V' (Zab lk) pt<|V' (Zac lk (hga hn rfl) gt4) pt<|sn'<|?_
 refine Zau lk (fun hc5=>?_) (fun hc5=>?_)
 ·refine Zal<|wr'<|V' (Zab lk) pt<|V' (Zan lk (hga hn rfl) Zfp rfl) pt<|V' (Zaw Zcv) pt<|Zad mp (ZdL (u:=((y,m,d),a,c)) (v:=((0,0,0),0,0))) pt<|V' (Zax lk) pt<|sn'<|?_
  refine Zau lk (fun hc6=>?_) (fun hc6=>?_)
  ·refine wr'<|mv' lki pt<|sn'<|Zaa<|Zag<|Zag<|Zaf rz<|rT'<|?_
   refine ivx ?_;unfold eraE;simp_all <;> (try intros) <;> omega
  refine Zae<|Zah<|wr'<|mv' lki pt<|sn'<|Zaa<|Zag<|Zaf rz<|rT'<|?_
  refine ivx ?_;unfold eraE;simp_all
 refine Zae<|Zah<|Zal<|wr'<|V' (Zab lk) pt<|V' (ZbM lk) pt<|V' (Zan lk (hga hn rfl) Zfq rfl) pt<|Zad mp (Zfb) pt<|V' (Zax lk) pt<|mv' lk pt<|?_
 refine ZaG (t:=54) gt pt pt (fun hg54=>?_) (fun hg54=>?_)
 ·refine s_no gt pt<|s_no gt pt<|s_no gt pt<|s_no gt pt<|s_no gt pt<|V' (Zaj lk lkb) pt<|sn'<|ZaF lk<|wr'<|mv' lki pt<|sn'<|?_
  refine Zaa<|Zag<|Zaf rz<|rT'<|?_
  refine ivx ?_;unfold eraE;simp_all
 refine s_do gt<|V' (Zab lk) pt<|s_do gt<|V' (ZbM lk) pt<|s_do gt<|V' (Zac lk (hga hn rfl) gt8) pt<|s_do gt<|Zad mp (ZaT) pt<|s_do gt<|V' (Zax lk) pt<|V' (Zai lk lk) pt<|sn'<|?_
 refine Zau lk (fun hc7=>?_) (fun hc7=>?_)
 ·refine wr'<|mv' lki pt<|sn'<|Zaa<|Zag<|Zaf rz<|rT'<|?_
  refine ivx ?_;unfold eraE;simp_all
 refine Zae<|Zah<|Zal<|wr'<|V' (Zab lk) pt<|V' (ZbM lk) pt<|V' (Zac lk (hga hn rfl) gt9) pt<|V' (ZaZ lk lki) pt<|mv' lk pt<|?_
 refine sp' (t:=65) gt pt pt (fun hg65=>?_) (fun hg65=>?_)
 ·refine s_do gt<|V' (Zab lk) pt<|s_do gt<|V' (ZbM lk) pt<|s_do gt<|V' (Zac lk (hga hn rfl) gt9) pt<|s_do gt<|V' (ZaZ lk lki) pt<|V' (Zaj lk lk) pt<|sn'<|?_
  refine cd' lk (fun hc8=>?_) (fun hc8=>?_)
  ·refine wr'<|mv' lki pt<|sn'<|Zaa<|Zag<|Zaf rz<|rT'<|?_
   refine ivx ?_;unfold eraE;rw [Zht];simp_all
  refine Zae<|Zah<|wr'<|mv' lki pt<|sn'<|Zaa<|Zaf rz<|rT'<|?_
  refine ivx ?_;unfold eraE;rw [Zht];simp_all
 refine s_no gt pt<|s_no gt pt<|s_no gt pt<|s_no gt pt<|V' (Zai lk lkb) pt<|sn'<|ZaN lk<|Zae<|Zah<|wr'<|mv' lki pt<|Zar<|?_
 refine Zah<|Zaa<|Zaf rz<|rT'<|?_
 refine ivx ?_;unfold eraE;rw [Zht];simp_all
theorem ZlQ {r:Rul}{h:AH}(h1:r.1.size≤maxLen) (h2:r.2.2.2.2.2.2.2.2.size≤maxLen):Ac 151 [.agg (rulC r)] h (iv (Zbu r)):=ZlP h1 h2
theorem Zm6 {x:Era}{last:Bool}{h:AH}(ho:ZrK x):ACalls Tryz.prog 152 [.agg (eraC x),bv last] h fun y h'=>h'=h∧y=.ret (iv (eraX x last)):=Zm5 ho.1 ho.2
theorem Zrv {a:List Rul}{z:List Zon}{l:List Lnk}{h:AH}(hok:Zgd (a,z,l)):Ac 79 [.agg [.sl a.length 11 false (rows rulC a),.sl z.length 2 false (rows zonC z),.sl l.length 2 false (rows lnkC l)]] h (iv (ZbR (a,z,l))):=by
 refine tI' k79 fun N hn hlt hlA hbd=>?_
 simp only [tb'] at hbd ⊢
 refine wr'<|E' (Zba (cvl lk rfl) rfl (hl0 hn) ha0) pt<|mv' lki pt<|sn'<|Zal<|wr'<|V' (Zab lk) pt<|V' (Zac lk (hga hn rfl) gt0) pt<|V' (ZaL lk) pt<|V' (Zbs lk lki) pt<|mv' lk pt<|?_
 refine sp' (t:=15) gt pt pt (fun hg15=>?_) (fun hg15=>?_)
 ·have hM:ZeK (a,z,l)=true:=by unfold ZeK;simp;omega
  refine s_no gt pt<|s_no gt pt<|s_no gt pt<|s_no gt pt<|V' (Zaj lk lkb) pt<|mv' lk pt<|s_no gt pt<|s_no gt pt<|s_no gt pt<|s_no gt pt<|V' (Zaj lk lkb) pt<|sn'<|ZaF lk<|?_
  refine wr'<|mv' lki pt<|sn'<|Zaa<|Zag<|Zaf rz<|rT'<|?_
  refine ivx ?_;unfold ZbR;rw [if_pos hM]
 refine s_do gt<|V' (Zab lk) pt<|s_do gt<|V' (Zac lk (hga hn rfl) gt1) pt<|s_do gt<|V' (ZaL lk) pt<|s_do gt<|V' (Zbs lk lki) pt<|V' (Zai lk lk) pt<|mv' lk pt<|?_
 refine sp' (t:=21) gt pt pt (fun hg21=>?_) (fun hg21=>?_)
 ·have hM:ZeK (a,z,l)=true:=by unfold ZeK;simp;omega
  refine s_no gt pt<|s_no gt pt<|s_no gt pt<|s_no gt pt<|V' (Zaj lk lkb) pt<|sn'<|ZaF lk<|wr'<|mv' lki pt<|sn'<|Zaa<|?_
  refine Zag<|Zaf rz<|rT'<|?_
  refine ivx ?_;unfold ZbR;rw [if_pos hM]
 refine s_do gt<|V' (Zab lk) pt<|s_do gt<|V' (Zac lk (hga hn rfl) gt2) pt<|s_do gt<|V' (ZaL lk) pt<|s_do gt<|V' (Zbs lk lki) pt<|V' (Zai lk lk) pt<|sn'<|?_
 refine cd' lk (fun hc1=>?_) (fun hc1=>?_)
 ·have hM:ZeK (a,z,l)=true:=by unfold ZeK;simp;omega
  refine wr'<|mv' lki pt<|sn'<|Zaa<|Zag<|Zaf rz<|rT'<|?_
  refine ivx ?_;unfold ZbR;rw [if_pos hM]
 refine Zae<|Zah<|Zal<|wr'<|mv' lki pt<|sn'<|Zap<|?_
 refine w_lp (ι:=Nat) (fun (k:Nat)=>[(3,iv (k:Int)),(2,.any)]++rn' 27 15) (fun (k:Nat)=>[]) (fun (k:Nat)=>k≤z.length∧(z.take k).any (fun z=>decide (8<z.2.length))=false) (fun (k:Nat)=>z.length-k) (0) (by exact ⟨Nat.zero_le _,rfl⟩) ?_
 rintro k hi1
 try simp only [sm',Nat.reduceAdd]
 obtain ⟨hk1,hk2⟩:=hi1
 refine Zal<|wr'<|mv' lk pt<|V' (Zab lk) pt<|V' (Zac lk (hga hn rfl) gt1) pt<|V' (ZaL lk) pt<|V' (Za9 lk lk) pt<|sn'<|?_
 refine cd' lk (fun hc2=>?_) (fun hc2=>?_)
 ·have hk:k<z.length:=by omega
  refine Zae<|Zah<|Zal<|Zap<|wr'<|V' (Zab lk) pt<|V' (Zac lk (hga hn rfl) gt1) pt<|mv' lk pt<|?_
  refine V' (ZaU lk lk ZcK (nb' rfl) ro (by omega) ro rfl) pt ?_
  refine V' (ZbB lk dp1) pt<|V' (ZaD lk gt) pt<|?_
  refine V' ((by first | exact ZaL lk | exact Zc2 lk)) pt ?_
  refine V' (Zbs lk lki) pt<|sn'<|?_
  refine cd' lk (fun hc3=>?_) (fun hc3=>?_)
  ·have hM:ZeK (a,z,l)=true:=by unfold ZeK;rw [show z.any (fun z=>decide (8<z.2.length))=true from List.any_eq_true.2 ⟨z[k],List.getElem_mem hk,decide_eq_true (by omega)⟩];simp
   refine wr'<|mv' lki pt<|sn'<|Zaa<|Zaq<|Zag<|Zag<|Zaq<|Zag<|Zaf rz<|rT'<|?_
   refine ivx ?_;unfold ZbR;rw [if_pos hM]
  refine Zae<|Zaz<|Zah<|Zat<|mv' lk pt<|?_
  refine V' (Zay lk lki (by omega) (by omega)) pt ?_
  refine mv' lk pt<|Zar<|ZaB<|?_
  refine lT' (k+1) (by (try dsimp only);exact ⟨by omega,by rw [List.take_succ_eq_append_getElem hk,List.any_append,hk2];simp;omega⟩)
 rw [List.take_of_length_le (by omega)] at hk2
 have hM:ZeK (a,z,l)=false:=by unfold ZeK;rw [hk2];simp;omega
 have hE:ZbR (a,z,l)=if Za1 Zbu a≠0 then Za1 Zbu a else if Za1 ZeL z≠0 then Za1 ZeL z else Za1 Zen l:=by unfold ZbR;rw [if_neg (by rw [hM];simp)]
 refine ZaM<|ZaC<|ZaC<|Za7<|Zah<|Zal<|wr'<|mv' lki pt<|sn'<|Zap<|?_
 refine w_lp (ι:=Nat) (fun (i2:Nat)=>[(4,iv (i2:Int)),(2,.any),(5,.any)]++rn' 42 16) (fun (i2:Nat)=>[]) (fun (i2:Nat)=>i2≤a.length∧Za1 Zbu a=Za1 Zbu (a.drop i2)) (fun (i2:Nat)=>a.length-i2) (0) (by exact ⟨Nat.zero_le _,rfl⟩) ?_
 rintro i2 hi2
 try simp only [sm',Nat.reduceAdd]
 obtain ⟨hu1,hu2⟩:=hi2
 refine Zal<|wr'<|mv' lk pt<|V' (Zab lk) pt<|V' (Zac lk (hga hn rfl) gt0) pt<|V' (ZaL lk) pt<|V' (Za9 lk lk) pt<|sn'<|?_
 refine cd' lk (fun hc4=>?_) (fun hc4=>?_)
 ·have hk4:i2<a.length:=by omega
  rw [ZdD hk4] at hu2
  have ho4:=hok.1 _ (List.getElem_mem hk4)
  refine Zae<|Zah<|Zal<|Zap<|wr'<|V' (Zab lk) pt<|V' (Zac lk (hga hn rfl) gt0) pt<|mv' lk pt<|?_
  refine V' (ZaU lk lk Zfa (nb' rfl) ro (by omega) ro rfl) pt ?_
  refine V' (ZaI lk Zqt rfl) pt<|Zad mp (ZlQ (r:=a[i2]) ho4.1 ho4.2) pt<|mv' lk pt<|sn'<|wr'<|mv' lk pt<|V' (ZaZ lk lki) pt<|sn'<|?_
  refine cd' lk (fun hc5=>?_) (fun hc5=>?_)
  ·rw [if_pos hc5] at hu2
   refine wr'<|mv' lk pt<|mv' lk pt<|sn'<|Zaa<|Zaq<|Zag<|Zag<|Zaq<|Zag<|Zaf rz<|rT'<|?_
   refine ivx ?_;rw [hE,hu2,if_pos hc5]
  rw [if_neg hc5] at hu2
  refine Zae<|Zaz<|Zah<|Zat<|mv' lk pt<|?_
  refine V' (Zay lk lki (by omega) (by omega)) pt ?_
  refine mv' lk pt<|Zar<|ZaB<|?_
  refine lT' (i2+1) (by (try dsimp only);exact ⟨by omega,hu2⟩)
 rw [List.drop_of_length_le (by omega)] at hu2
 rw [hu2,if_neg (by simp [Za1])] at hE
 refine ZaM<|ZaC<|ZaC<|Za7<|Zah<|Zal<|wr'<|mv' lki pt<|sn'<|Zap<|?_
 refine w_lp (ι:=Nat) (fun (i3:Nat)=>[(6,iv (i3:Int)),(2,.any)]++rn' 7 3++rn' 58 45) (fun (i3:Nat)=>[]) (fun (i3:Nat)=>i3≤z.length∧Za1 ZeL z=Za1 ZeL (z.drop i3)) (fun (i3:Nat)=>z.length-i3) (0) (by exact ⟨Nat.zero_le _,rfl⟩) ?_
 rintro i3 hi3
 try simp only [sm',Nat.reduceAdd]
 obtain ⟨hv1,hv2⟩:=hi3
 refine Zal<|wr'<|mv' lk pt<|V' (Zab lk) pt<|V' (Zac lk (hga hn rfl) gt1) pt<|V' (ZaL lk) pt<|V' (Za9 lk lk) pt<|sn'<|?_
 refine cd' lk (fun hc6=>?_) (fun hc6=>?_)
 ·have hk6:i3<z.length:=by omega
  rw [ZdD hk6] at hv2
  have ho6:=hok.2.1 _ (List.getElem_mem hk6)
  have h8:(z[i3]).2.length≤8:=by have:=List.any_eq_false.1 hk2 _ (List.getElem_mem hk6);simpa using this
  refine Zae<|Zah<|Zal<|Zap<|wr'<|V' (Zab lk) pt<|V' (Zac lk (hga hn rfl) gt1) pt<|mv' lk pt<|?_
  refine V' (ZaU lk lk ZcK (nb' rfl) ro (by omega) ro rfl) pt ?_
  refine V' (ZbB lk dp1) pt<|V' (ZaD lk gt) pt<|mv' lk pt<|sn'<|Zal<|wr'<|V' (Zab lk) pt<|V' (Zac lk (hga hn rfl) gt1) pt<|mv' lk pt<|?_
  refine V' (ZaU lk lk ZcK (nb' rfl) ro (by omega) ro rfl) pt ?_
  refine V' (ZbB lk dp0) pt<|V' (ZaD lk gt) pt<|Zad mp (Zc6 ho6.1) pt<|V' (Zax lk) pt<|mv' lk pt<|?_
  refine ZaG (t:=79) gt pt pt (fun hg79=>?_) (fun hg79=>?_)
  ·have hZ:ZeL z[i3]=1:=if_pos (.inl (by simpa using hg79))
   refine s_no gt pt<|s_no gt pt<|s_no gt pt<|V' (Zaj lk lkb) pt<|sn'<|ZaF lk<|wr'<|mv' lki pt<|sn'<|Zaa<|Zag<|?_
   refine Zaq<|Zag<|Zag<|Zaq<|Zag<|Zaf rz<|rT'<|?_
   refine ivx ?_;rw [hE,hv2,if_pos (by rw [hZ];simp),if_pos (by rw [hZ];simp),hZ]
  refine s_do gt<|mv' lk pt<|s_do gt<|?_
  refine V' ((by first | exact ZaL lk | exact Zc2 lk)) pt ?_
  refine s_do gt<|V' (ZaQ lk lki) pt<|V' (Zai lk lk) pt<|sn'<|?_
  refine cd' lk (fun hc7=>?_) (fun hc7=>?_)
  ·have hZ:ZeL z[i3]=1:=if_pos (.inr (by omega))
   refine wr'<|mv' lki pt<|sn'<|Zaa<|Zag<|Zaq<|Zag<|Zag<|Zaq<|Zag<|Zaf rz<|rT'<|?_
   refine ivx ?_;rw [hE,hv2,if_pos (by rw [hZ];simp),if_pos (by rw [hZ];simp),hZ]
  have hZ:ZeL z[i3]=Zgi z[i3].2:=if_neg (by rintro (h1 | h1);exact h1 (by simpa using hg79);omega)
  refine Zae<|Zah<|wr'<|mv' lki pt<|sn'<|Zap<|?_
  refine w_lp (ι:=Nat) (fun (i4:Nat)=>[(8,iv (i4:Int)),(2,.any),(9,.any)]++rn' 84 19) (fun (i4:Nat)=>[]) (fun (i4:Nat)=>i4≤(z[i3]).2.length∧Zgi (z[i3]).2=Zgi ((z[i3]).2.drop i4)) (fun (i4:Nat)=>(z[i3]).2.length-i4) (0) (by exact ⟨Nat.zero_le _,rfl⟩) ?_
  rintro i4 hi4
  try simp only [sm',Nat.reduceAdd]
  obtain ⟨hx1,hx2⟩:=hi4
  refine Zal<|wr'<|mv' lk pt<|mv' lk pt<|?_
  refine V' ((by first | exact ZaL lk | exact Zc2 lk)) pt ?_
  refine V' (Za9 lk lk) pt<|sn'<|?_
  refine cd' lk (fun hc8=>?_) (fun hc8=>?_)
  ·have hk8:i4<(z[i3]).2.length:=by omega
   rw [ZoZ hk8] at hx2
   have ho8:=ho6.2 _ (List.getElem_mem hk8)
   refine Zae<|Zah<|Zal<|Zap<|wr'<|mv' lk pt<|mv' lk pt<|?_
   refine V' (ZaU lk lk ZdP (nb' rfl) ro (by omega) ro rfl) pt ?_
   refine V' (ZaI lk Zqu rfl) pt<|mv' lk pt<|mv' lk pt<|?_
   refine V' ((by first | exact ZaL lk | exact Zc2 lk)) pt ?_
   refine V' (ZbA lk lki (by omega) (by omega)) pt ?_
   refine V' (ZaQ lk lk) pt<|Zad mp (Zm6 (x:=(z[i3]).2[i4]) (last:=decide ((i4:Int)=((z[i3]).2.length:Int)-1)) ho8) pt<|mv' lk pt<|sn'<|wr'<|mv' lk pt<|V' (ZaZ lk lki) pt<|sn'<|?_
   refine cd' lk (fun hc9=>?_) (fun hc9=>?_)
   ·rw [if_pos hc9] at hx2
    refine wr'<|mv' lk pt<|mv' lk pt<|sn'<|Zaa<|Zaq<|Zag<|Zag<|Zaq<|Zaq<|Zag<|Zag<|?_
    refine Zaq<|Zag<|Zaf rz<|rT'<|?_
    refine ivx ?_;rw [hE,hv2,hZ,hx2,if_pos hc9,if_pos hc9]
   rw [if_neg hc9] at hx2
   refine Zae<|Zaz<|Zah<|Zat<|mv' lk pt<|?_
   refine V' (Zay lk lki (by omega) (by omega)) pt ?_
   refine mv' lk pt<|Zar<|ZaB<|?_
   refine lT' (i4+1) (by (try dsimp only);exact ⟨by omega,hx2⟩)
  rw [List.drop_of_length_le (by omega)] at hx2
  rw [hZ,hx2,if_neg (by simp [Zgi])] at hv2
  refine ZaM<|ZaC<|ZaC<|Za7<|Zaz<|Zah<|Zat<|mv' lk pt<|?_
  refine V' (Zay lk lki (by omega) (by omega)) pt ?_
  refine mv' lk pt<|Zar<|ZaB<|?_
  refine lT' (i3+1) (by (try dsimp only);exact ⟨by omega,hv2⟩)
 rw [List.drop_of_length_le (by omega)] at hv2
 rw [hv2,if_neg (by simp [Za1])] at hE
 refine ZaM<|ZaC<|ZaC<|Za7<|Zah<|Zal<|wr'<|mv' lki pt<|sn'<|Zap<|?_
 refine w_lp (ι:=Nat) (fun (i5:Nat)=>[(10,iv (i5:Int)),(2,.any)]++rn' 103 25) (fun (i5:Nat)=>[]) (fun (i5:Nat)=>i5≤l.length∧Za1 Zen l=Za1 Zen (l.drop i5)) (fun (i5:Nat)=>l.length-i5) (0) (by exact ⟨Nat.zero_le _,rfl⟩) ?_
 rintro i5 hi5
 try simp only [sm',Nat.reduceAdd]
 obtain ⟨hy1,hy2⟩:=hi5
 refine Zal<|wr'<|mv' lk pt<|V' (Zab lk) pt<|V' (Zac lk (hga hn rfl) gt2) pt<|V' (ZaL lk) pt<|V' (Za9 lk lk) pt<|sn'<|?_
 refine cd' lk (fun hc10=>?_) (fun hc10=>?_)
 ·have hk10:i5<l.length:=by omega
  rw [ZdD hk10] at hy2
  have ho10:=hok.2.2 _ (List.getElem_mem hk10)
  refine Zae<|Zah<|Zal<|Zap<|wr'<|V' (Zab lk) pt<|V' (Zac lk (hga hn rfl) gt2) pt<|mv' lk pt<|?_
  refine V' (ZaU lk lk ZdO (nb' rfl) ro (by omega) ro rfl) pt ?_
  refine V' (ZbB lk dp0) pt<|V' (ZaD lk gt) pt<|Zad mp (Zc6 ho10.1) pt<|V' (Zax lk) pt<|mv' lk pt<|?_
  refine ZaG (t:=118) gt pt pt (fun hg118=>?_) (fun hg118=>?_)
  ·have hK:Zen l[i5]=1:=by unfold Zen;simp_all
   refine s_no gt pt<|s_no gt pt<|s_no gt pt<|s_no gt pt<|s_no gt pt<|s_no gt pt<|s_no gt pt<|s_no gt pt<|V' (Zaj lk lkb) pt<|sn'<|ZaF lk<|wr'<|?_
   refine mv' lki pt<|sn'<|Zaa<|Zaq<|Zag<|Zag<|Zaq<|Zag<|Zaf rz<|rT'<|?_
   refine ivx ?_;rw [hE,hy2,if_pos (by rw [hK];simp),hK]
  refine s_do gt<|V' (Zab lk) pt<|s_do gt<|V' (Zac lk (hga hn rfl) gt2) pt<|s_do gt<|mv' lk pt<|s_do gt<|?_
  refine V' (ZaU lk lk ZdO (nb' rfl) ro (by omega) ro rfl) pt ?_
  refine s_do gt<|V' (ZbB lk dp1) pt<|s_do gt<|V' (ZaD lk gt) pt<|s_do gt<|Zad mp (Zc6 ho10.2) pt<|s_do gt<|V' (Zax lk) pt<|V' (Zai lk lk) pt<|sn'<|?_
  refine Zau lk (fun hc11=>?_) (fun hc11=>?_)
  ·have hK:Zen l[i5]=1:=by unfold Zen;simp_all
   refine wr'<|mv' lki pt<|sn'<|Zaa<|Zaq<|Zag<|Zag<|Zaq<|Zag<|Zaf rz<|rT'<|?_
   refine ivx ?_;rw [hE,hy2,if_pos (by rw [hK];simp),hK]
  have hK:Zen l[i5]=0:=by unfold Zen;simp_all
  rw [hK,if_neg (by simp)] at hy2
  refine Zae<|Zaz<|Zah<|Zat<|mv' lk pt<|?_
  refine V' (Zay lk lki (by omega) (by omega)) pt ?_
  refine mv' lk pt<|Zar<|ZaB<|?_
  refine lT' (i5+1) (by (try dsimp only);exact ⟨by omega,hy2⟩)
 rw [List.drop_of_length_le (by omega)] at hy2
 refine ZaM<|ZaC<|ZaC<|Za7<|Zah<|wr'<|mv' lki pt<|sn'<|Zaa<|Zaf rz<|rT'<|?_
 refine ivx ?_;rw [hE,hy2];rfl
end Go.Proofs.YtlekejpogddndaaGreatDoor
end
section
namespace Go.Proofs.YtlekejpogddndaaGreatDoor
open Go.Ab Go.RowKit Civ
attribute [local simp] Zbk Zbx Zbr Zbt Zb9 ZdB ZdY ZbU
theorem Znt {p:Era→Int}{l:List Era}(h : ∀ y∈l,p y=0):Za1 p l=0:=by
 rw [Ziq,List.find?_eq_none.2 (fun y hy=>by simp [h y hy])]
end Go.Proofs.YtlekejpogddndaaGreatDoor
end
section
namespace Go.Proofs.YtlekejpogddndaaGreatDoor
open Go.Ab
abbrev PS:=Src×Bool
def Zcy (x:Era):Bool:=x.2.2.2.2.1
def Zpe:List Zon→Era→List Zon
 | [],_=>[]
 | [z],x=>[(z.1,z.2++[x])]
 | z::y::l,x=>z::Zpe (y::l) x
theorem ZfN (l:List Zon) (z:Zon) (x:Era):Zpe (l++[z]) x=l++[(z.1,z.2++[x])]:=by
 induction l with
 | nil=>rfl
 | cons a l ih =>
  cases l with
  | nil=>rfl
  | cons b l=>exact congrArg (a :: ·) ih
def ruleA:ByteArray:=bA [82,117,108,101]
def zoneA:ByteArray:=bA [90,111,110,101]
def linkA:ByteArray:=bA [76,105,110,107]
def Zcw (p:Src) (x:Era):PS:=((p.1,Zpe p.2.1 x,p.2.2),!Zcy x)
def ZsL (p:PS):RM PS :=
 if p.2=true then ZbS rEra fun x=>retR (Zcw p.1 x)
 else ZbS Zek fun w =>
  if w=ruleA then ZbS rRule fun r=>retR ((p.1.1++[r],p.1.2.1,p.1.2.2),false)
  else if w=zoneA then ZbS Zrx fun n=>ZbS rEra fun x=>retR (Zcw (p.1.1,p.1.2.1++[(n,[])],p.1.2.2) x)
  else if w=linkA then ZbS Zrx fun a=>ZbS Zrx fun b=>retR ((p.1.1,p.1.2.1,p.1.2.2++[(a,b)]),false)
  else Zcz none
def Zey (p:PS):TS→PS×TS :=
 if p.2=true then Zb0 tEra fun x=>ret2 (Zcw p.1 x)
 else Zb0 ZaP fun w =>
  if w=ruleA then Zb0 Zkp fun r=>ret2 ((p.1.1++[r],p.1.2.1,p.1.2.2),false)
  else if w=zoneA then Zb0 ZeP fun n=>Zb0 tEra fun x=>ret2 (Zcw (p.1.1,p.1.2.1++[(n,[])],p.1.2.2) x)
  else if w=linkA then Zb0 ZeP fun a=>Zb0 ZeP fun b=>ret2 ((p.1.1,p.1.2.1,p.1.2.2++[(a,b)]),false)
  else fun t=>(p,bad t)
theorem Zpd (p:PS):Agr (Zey p) (ZsL p):=by
 unfold Zey ZsL
 split
 ·exact agr_era.bind fun x=>Agr.ret _
 ·refine agr_next.bind fun w=>?_
  split
  ·exact agr_rule.bind fun r=>Agr.ret _
  ·split
   ·exact agr_name.bind fun n=>agr_era.bind fun x=>Agr.ret _
   ·split
    ·exact agr_name.bind fun a=>agr_name.bind fun b=>Agr.ret _
    ·exact Agr.lift (fun t h=>rfl) (fun l=>rfl)
def Zl6 (p:PS) (x:Ln):Option PS:=if x.2.1≠p.2 then none else match ZsL p x.2.2 with
 | some (q,[])=>some q
 | _=>none
def badT (p:PS) (x:Ln):Prop:=(Zey p (x.2.2,false)).2.2=true∨(Zey p (x.2.2,false)).2.1≠[]∨x.2.1≠p.2
theorem Zr3 {p:PS}{x:Ln}(h:badT p x):Zl6 p x=none:=by
 unfold Zl6
 by_cases hi:x.2.1=p.2
 ·rw [if_neg (by simp [hi])]
  have hA:=(Zpd p x.2.2).2
  unfold badT at h
  revert hA
  cases hb:ZsL p x.2.2 with
  | none=>intro;rfl
  | some q =>
   obtain ⟨q,l⟩:=q
   intro hA
   simp only at hA
   rw [hA] at h
   cases l with
   | nil=>simp [hi] at h
   | cons c l=>rfl
 ·rw [if_pos hi]
theorem lineR_ok {p:PS}{x:Ln}(h:¬badT p x):Zl6 p x=some (Zey p (x.2.2,false)).1:=by
 unfold Zl6
 unfold badT at h
 simp only [not_or,Decidable.not_not] at h
 obtain ⟨h1,h2,h3⟩:=h
 rw [if_neg (by simp [h3])]
 have hA:=(Zpd p x.2.2).2
 revert hA
 cases hb:ZsL p x.2.2 with
 | none=>intro hA;exact absurd hA h1
 | some q =>
  obtain ⟨q,l⟩:=q
  intro hA
  simp only at hA
  rw [hA] at h2 ⊢
  simp only at h2
  subst h2
  rfl
def runR:PS→List Ln→PS ⊕ Int
 | p,[]=>.inl p
 | p,x::l=>match Zl6 p x with
  | none=>.inr x.1
  | some q=>runR q l
def srcZ:Src:=([],[],[])
def endP (p:PS):Src×Int×Int:=if p.2=true then (srcZ,0,1) else if ZbR p.1≠0 then (srcZ,0,ZbR p.1) else (p.1,0,0)
def outP (l:List Ln):Src×Int×Int:=match runR (srcZ,false) l with
 | .inr n=>(srcZ,n,1)
 | .inl p=>endP p
def ZbJ (s:ByteArray):Src×Int×Int:=if (ZbZ s).2.2≠0 then (srcZ,(ZbZ s).2.1,(ZbZ s).2.2) else outP (ZbZ s).1
theorem runR_at {l:List Ln}{k:Nat}(h:k<l.length) (p:PS):runR p (l.drop k)=match Zl6 p l[k] with
  | none=>.inr l[k].1
  | some q=>runR q (l.drop (k+1)):=by
 rw [List.drop_eq_getElem_cons h,runR]
end Go.Proofs.YtlekejpogddndaaGreatDoor
end
section
namespace Go.Proofs.YtlekejpogddndaaGreatDoor
open Go.Ab Go.RowKit Civ
attribute [local simp] ZbU
section
theorem ZcG {a0 a1 c0:AV}{l:List AV}:setCells (a0::a1::l) 1 [c0]=a0::c0::l:=rfl
theorem Zqs {a0 c0:AV}{l:List AV}:setCells (a0::l) 0 [c0]=c0::l:=rfl
end
def c200:AC:=(Sr [Ms 2] (.seq (Sr [Mv 4 0,Nk 5 4,Fa 6 1 5,Ld 7 6,Mv 8 7,Of 9 8 (mt 0),Of 10 8 (.nck (.tmp 9)),Of 11 8 (.fa 0 (.tmp 10)),Of 12 8 (.load false 1 (.tmp 11)),Of 13 8 (.len false (.tmp 12)),Of 14 8 (.bin .eql (.tmp 13) (Ci 0)),Oo 15 (.pick (.tmp 8) (.const (.bool true)) (.tmp 14))] (Cd 15 (Sr [Mv 16 0,Nk 17 16,Fa 18 1 17,⟨none,none,(.store 1 (.tmp 18) (.const (.bool true)))⟩] (Sr [Ms 2] .ret)) .skip)) (Sr [Mv 19 0,Nk 20 19,Fa 21 0 20,Ld 22 21,Oo 23 (.ia 1 (.tmp 22) (Ci 0)),Ld 24 23,Mv 3 24] (Sr [Mv 25 0,Mv 26 0,Nk 27 26,Fa 28 0 27,Ld 29 28,Oo 30 (.slc 1 (.tmp 29) (some (Ci 1)) none none),Nk 31 25,Fa 32 0 31,Sc 32 30] (Sr [Mv 33 3,Mv 2 33] .ret)))))
theorem k200:ZaA Tryz.prog 200=some ⟨c200,[(.tmp 2)],34⟩:=by kernel_rfl
def c274:AC:=(Sr [Mc 8 0] (.seq (Sr [Mv 11 1,Oo 12 (.len true (.tmp 11)),Mv 13 2,Mv 14 3,Cl 15 73 [(.tmp 12),(.tmp 13),(.tmp 14)],Oo 16 (.un .not (.tmp 15))] (Cd 16 (Sr [Mv 17 0,Nk 18 17,Fa 19 1 18,⟨none,none,(.store 1 (.tmp 19) (.const (.bool true)))⟩] (Sr [Mc 8 0] .ret)) .skip)) (Sr [Mc 9 0] (.seq (Sr [Mc 10 0] (.block 0 (.loop (.seq (Sr [Mv 20 10,Mv 21 1,Oo 22 (.len true (.tmp 21)),Bn 23 .lss 20 22] (Cd 23 .skip (.exit 0))) (.seq (.block 1 (.seq (Sr [Mv 26 1,Mv 27 10,Oo 28 (.ix (.tmp 26) (.tmp 27)),Cl 29 191 [(.tmp 28)],Oo 30 (.un .not (.tmp 29))] (Cd 30 (Sr [Mv 31 0,Nk 32 31,Fa 33 1 32,⟨none,none,(.store 1 (.tmp 33) (.const (.bool true)))⟩] (Sr [Mc 8 0] .ret)) .skip)) (.reg [Mv 34 9,Oo 35 (.bin .mul (Ci 10) (.tmp 34)),Mv 36 1,Mv 37 10,Oo 38 (.ix (.tmp 36) (.tmp 37)),Oo 39 (.cvi .i64 (.tmp 38)),Bn 40 .add 35 39,Bc 41 .sub 40 48,Mv 9 41]))) (.reg [Mv 24 10,Bc 25 .add 24 1,Mv 10 25])))))) (Sr [Mv 42 9,Mv 8 42] .ret)))))
theorem k274:ZaA Tryz.prog 274=some ⟨c274,[(.tmp 8)],43⟩:=by kernel_rfl
def c203:AC:=(Sr [Ms 2] (Sr [Mv 4 0,Cl 5 200 [(.tmp 4)],Mv 3 5] (.seq (Sr [Mv 6 3,Cl 7 115 [(.tmp 6)],Oo 8 (.un .not (.tmp 7))] (Cd 8 (.reg [Mv 9 0,Nk 10 9,Fa 11 1 10,⟨none,none,(.store 1 (.tmp 11) (.const (.bool true)))⟩]) .skip)) (Sr [Mv 12 3,Mv 2 12] .ret))))
theorem k203:ZaA Tryz.prog 203=some ⟨c203,[(.tmp 2)],13⟩:=by kernel_rfl
def c308:AC:=(Sr [Mc 4 0] (.seq (Sr [Mc 5 0] (.block 0 (.loop (.seq (Sr [Mv 6 5,Bc 7 .add 6 3,Mv 8 0,Oo 9 (.len true (.tmp 8)),Bn 10 .leq 7 9,Mv 11 10,Ot 12 11 (mt 1),Ot 13 11 (.len true (.tmp 12)),Ot 14 11 (.bin .eql (.tmp 13) (Ci 3)),Oo 15 (.pick (.tmp 11) (.tmp 14) (.const (.bool false)))] (Cd 15 .skip (.exit 0))) (.seq (.block 1 (Sr [Mv 18 0,Mv 19 5,Mv 20 5,Bc 21 .add 20 3,Oo 22 (.sls (.tmp 18) (some (.tmp 19)) (some (.tmp 21))),Mv 23 1,Bn 24 .eql 22 23] (Cd 24 (Sr [Mv 25 5,Bc 26 .quo 25 3,Mv 4 26] .ret) .skip))) (.reg [Mv 16 5,Bc 17 .add 16 3,Mv 5 17])))))) (Sr [Oo 4 (.mv (.const (.int .i64 (-1))))] .ret)))
theorem k308:ZaA Tryz.prog 308=some ⟨c308,[(.tmp 4)],27⟩:=by kernel_rfl
def c275:AC:=(Sr [Mc 2 0] (Sr [Mv 4 0,Cl 5 200 [(.tmp 4)],Oo 6 (.call (.func 308) [(.const (.string ⟨#[74,97,110,70,101,98,77,97,114,65,112,114,77,97,121,74,117,110,74,117,108,65,117,103,83,101,112,79,99,116,78,111,118,68,101,99]⟩)),(.tmp 5)]),Mv 3 6] (.seq (Sr [Mv 7 3,Bc 8 .lss 7 0] (Cd 8 (.reg [Mv 9 0,Nk 10 9,Fa 11 1 10,⟨none,none,(.store 1 (.tmp 11) (.const (.bool true)))⟩]) .skip)) (Sr [Mv 12 3,Bc 13 .add 12 1,Mv 2 13] .ret))))
theorem k275:ZaA Tryz.prog 275=some ⟨c275,[(.tmp 2)],14⟩:=by kernel_rfl
def c309:AC:=(Sr [Mc 4 0] (Sr [Mv 6 1,Oo 7 (.call (.func 308) [(.const (.string ⟨#[83,117,110,77,111,110,84,117,101,87,101,100,84,104,117,70,114,105,83,97,116]⟩)),(.tmp 6)]),Mv 5 7] (.seq (Sr [Mv 8 5,Bc 9 .lss 8 0] (Cd 9 (Sr [Mv 10 0,Nk 11 10,Fa 12 1 11,⟨none,none,(.store 1 (.tmp 12) (.const (.bool true)))⟩] (Sr [Mc 4 0] .ret)) .skip)) (Sr [Mv 13 5,Mv 4 13] .ret))))
theorem k309:ZaA Tryz.prog 309=some ⟨c309,[(.tmp 4)],14⟩:=by kernel_rfl
def c307:AC:=(Sr [Mc 4 0] (Sr [Mv 6 0,Mv 7 1,Cl 8 274 [(.tmp 6),(.tmp 7),(Ci 2),(Ci 2)],Mv 5 8] (.seq (Sr [Mv 9 5,Bc 10 .gtr 9 59] (Cd 10 (.reg [Mv 11 0,Nk 12 11,Fa 13 1 12,⟨none,none,(.store 1 (.tmp 13) (.const (.bool true)))⟩]) .skip)) (Sr [Mv 14 5,Mv 4 14] .ret))))
theorem k307:ZaA Tryz.prog 307=some ⟨c307,[(.tmp 4)],15⟩:=by kernel_rfl
abbrev takE (t:TS):Ent:=.mk 0 250 2 [.sl t.1.length 1 false (rows strC t.1),bv t.2]
theorem ZaK {l:List ByteArray}{b:Bool}{n:Nat}:(Ent.mk 0 250 2 [.sl l.length 1 false (rows strC l),.v (.bool b)]).lt n=true:=by simp [Ent.lt,AV.lt,AV.ltL,ZbU]
theorem tnext_b {l:List ByteArray}{b:Bool}{id:Nat}{h:AH}(h1:h[id]?=some (takE (l,b))):ACalls Tryz.prog 200 [.ptr id 0 0] h fun x h'=>x=.ret (sv (ZaP (l,b)).1)∧h'=h.set id (takE (ZaP (l,b)).2):=by
 have hid:id<h.length:=(List.getElem?_eq_some_iff.1 h1).1
 refine tJ' k200 fun N hn hlt hlA hbd=>?_
 simp only [tb'] at hbd ⊢
 refine ZdE (h1:=h.set id (.mk 0 250 2 [.sl l.length 1 false (rows strC l),bv b])++[]) (by rw [ZcT h1]) ?_
 refine wr'<|mv' lks pt<|sn'<|Zal<|wr'<|mv' lk pt<|V' (Zbq lk) pt<|V' (Zab lk) pt<|V' (Zac lk (ZaW hid) gt1) pt<|mv' lk pt<|?_
 refine ZaG (t:=8) gt pt pt (fun hg8=>?_) (fun hg8=>?_)
 ·have hb:b=true:=hg8
  have hT:ZaP (l,b)=(⟨#[]⟩,l,true):=if_pos (.inl hb)
  refine s_no gt pt<|s_no gt pt<|s_no gt pt<|s_no gt pt<|s_no gt pt<|s_no gt pt<|V' (Zaj lk lkb) pt<|sn'<|ZaF lk<|wr'<|mv' lk pt<|V' (Zbq lk) pt<|?_
  refine V' (Zab lk) pt<|E' (Zak lk (cvl lkb rfl) (ZaW hid) rfl (nb' rfl) rfl ZcG (ZaJ hid)) ptn<|sn'<|wr'<|mv' lks pt<|sn'<|Zaa<|Zag<|Zaf rz<|?_
  exact ⟨_,_,rfl,Zao hn,ZbW hlt ZaK,rfl,by rw [hT],by rw [hT]⟩
 have hb:b=false:=by simpa using hg8
 refine s_do gt<|mv' lk pt<|s_do gt<|V' (Zbq lk) pt<|s_do gt<|V' (Zab lk) pt<|s_do gt<|V' (Zac lk (ZaW hid) gt0) pt<|s_do gt<|V' (ZaL lk) pt<|s_do gt<|V' (ZaQ lk lki) pt<|V' (Zai lk lk) pt<|Zar<|?_
 refine Zah ?_
 refine cd' lk (fun hc1=>?_) (fun hc1=>?_)
 ·have hT:ZaP (l,b)=(⟨#[]⟩,l,true):=if_pos (.inr (List.eq_nil_of_length_eq_zero (show l.length=0 by have hc1':(l.length:Int)=0:=hc1;omega)))
  refine wr'<|mv' lk pt<|V' (Zbq lk) pt<|V' (Zab lk) pt<|E' (Zak lk (cvl lkb rfl) (ZaW hid) rfl (nb' rfl) rfl ZcG (ZaJ hid)) ptn<|sn'<|wr'<|mv' lks pt<|sn'<|Zaa<|?_
  refine Zag<|Zaf rz<|?_
  exact ⟨_,_,rfl,Zao hn,ZbW hlt ZaK,rfl,by rw [hT],by rw [hT]⟩
 have hlen:0<l.length:=by have hc1':¬(l.length:Int)=0:=hc1;omega
 have hne:l≠[]:=by intro e;rw [e] at hlen;cases hlen
 have hT:ZaP (l,b)=(l[0],l.drop 1,b):=by
  cases l with
  | nil=>exact absurd rfl hne
  | cons a l=>subst hb;rfl
 refine Zae<|Zah<|wr'<|mv' lk pt<|V' (Zbq lk) pt<|V' (Zab lk) pt<|V' (Zac lk (ZaW hid) gt0) pt<|?_
 refine V' (ZaU (k:=0) lk lki ZbY (nb' rfl) ro (by omega) ro rfl) pt ?_
 refine V' (ZaD lk gt) pt<|mv' lk pt<|sn'<|wr'<|mv' lk pt<|mv' lk pt<|V' (Zbq lk) pt<|V' (Zab lk) pt<|V' (Zac lk (ZaW hid) gt0) pt<|?_
 refine V' (v_lo (k:=1) lk lki ZbY ro (by omega) ro) pt ?_
 refine V' (Zbq lk) pt<|V' (Zab lk) pt<|E' (Zak lk (cvl lk rfl) (ZaW hid) rfl (nb' rfl) rfl Zqs (ZaJ hid)) ptn<|sn'<|wr'<|mv' lk pt<|mv' lk pt<|sn'<|Zaa<|Zaf rz<|?_
 exact ⟨_,_,rfl,Zao hn,ZbW hlt ZaK,rfl,by rw [hT],by rw [hT]⟩
theorem ZmU {t:TS}{id:Nat}{h:AH}(h1:h[id]?=some (takE t)):ACalls Tryz.prog 200 [.ptr id 0 0] h fun x h'=>x=.ret (sv (ZaP t).1)∧h'=h.set id (takE (ZaP t).2):=tnext_b h1
theorem ZnA {n:Int}(h:digB n=true):48≤n∧n≤57:=by unfold digB at h;simpa using h
end Go.Proofs.YtlekejpogddndaaGreatDoor
end
