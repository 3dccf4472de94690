/-
  Part 1 of the proof: own lemmas and contracts on plain data. No condition beyond those that each lemma states.
-/
import Derived.Test.YtgjchdhdopgkkaaGreatDoorV0
import Derived.KernelRfl
import Derived.Defers
import Derived.Recover
import Derived.Tactics
import Derived.Tactics2
import Derived.Lib.SplitLaws
import Derived.Lib.Join
import Derived.Lib.IndexAny
import Derived.Shelf.Strings.Builder1
import Derived.Shelf.Strings.Builder2
import Derived.Shelf.Strings.OnBuilder
import Derived.Shelf.Small.Utf8
import Derived.Shelf.Small.Strs
import Derived.Shelf.Small.Wraps
import Derived.Shelf.Strings.BuilderF
import Derived.Shelf.Strings.BuilderK
import Derived.Shelf.Strings.Builder2Cap
import Derived.Shelf.Strconv.Atoi
import Derived.Shelf.Strconv.Itoa0
import Derived.Shelf.Strconv.Itoa1
import Derived.Shelf.LaysM
import Derived.Shelf.Strconv.Itoa2
import Derived.Shelf.Strconv.Itoa3
import Derived.Shelf.Strings.Search1
import Derived.Shelf.Strings.Search2
import Derived.Shelf.Strings.Search3
import Derived.Shelf.Strings.Cut
import Derived.Shelf.Strings.Count
import Derived.Shelf.Strings.Shaped
import Derived.Shelf.Strings.Prefix
import Derived.Shelf.Strings.Split
import Derived.Shelf.Strings.SplitShaped
import Derived.Shelf.Unicode.Decode
import Derived.Shelf.Strings.Runes
import Derived.Shelf.Strings.RuneCount
import Derived.Shelf.Strings.IndexAny
import Derived.Shelf.Strings.AsciiSet
import Derived.Shelf.Strings.IndexAnyAll
import Derived.Shelf.Strings.Explode
import Derived.Shelf.Unicode.DecodeSlow
import Derived.Shelf.Unicode.DecodeAny
import Derived.Shelf.Strings.BuilderCap
import Derived.Shelf.Slices.Turned
import Derived.Lib.AtoiErrMem
set_option linter.all false
set_option maxRecDepth 100000
section
namespace Go.Ab
section
variable {P : Program} {n0 : Nat}
theorem comp_sound : ∀ (c:Code) (ac:AC),comp P c=some ac → ∀ {Q:AX→List AV→AH→Prop}{T:List AV}{h:AH},aw P n0 ac Q T h→AW P n0 c Q T h:=by
 intro c
 induction c with
 | skip=>intro ac hc Q T h hw;cases hc;exact AW_skip hw
 | region id ops draw =>
  intro ac hc Q T h hw
  simp only [comp] at hc
  split at hc <;> try (cases hc;done)
  rename_i al hm
  split at hc
  ·rename_i hd;subst hd;cases hc;exact AW_region hm hw
  ·rename_i hd
   obtain rfl:draw=true:=by simpa using hd
   rw [Option.map_eq_some_iff] at hc
   obtain ⟨ac,hc,rfl⟩:=hc
   cases hp:panOf P ops al with
   | none=>rw [hp] at hw;exact region_base hc hw
   | some p =>
    obtain ⟨x,f,al',d0⟩:=p
    rw [hp] at hw
    rcases hw with hw | ⟨cp,Pp,c,h1,h2,h3⟩
    ·exact region_base hc hw
    ·unfold panOf at hp
     split at hp <;> try (cases hp;done)
     rename_i i0 hf0
     exact region_pan hm hp h1 h2 h3
 | seq a b iha ihb =>
  intro ac hc Q T h hw
  simp only [comp] at hc
  split at hc <;> try (cases hc;done)
  rename_i x y hx hy
  cases hc
  refine AW_seq ((iha x hx hw).mono ?_)
  intro z T' h' hq
  cases z <;> simp only [AX.thn] at hq ⊢ <;> first | exact hq | (obtain ⟨T1,h1,hle,hq⟩:=hq;exact AW_le hle (ihb y hy hq))
 | cond c a b iha ihb =>
  intro ac hc Q T h hw
  simp only [comp] at hc
  split at hc <;> try (cases hc;done)
  rename_i x y hx hy
  cases hc
  simp only [aw] at hw
  split at hw <;> try (exact hw.elim)
  rename_i t ht
  exact AW_cond ht (fun e=>iha x hx (hw.1 e)) (fun e=>ihb y hy (hw.2 e))
 | block id a iha =>
  intro ac hc Q T h hw
  simp only [comp,Option.map_eq_some_iff] at hc
  obtain ⟨x,hx,rfl⟩:=hc
  exact AW_block (iha x hx hw)
 | loop a iha =>
  intro ac hc Q T h hw
  simp only [comp,Option.map_eq_some_iff] at hc
  obtain ⟨x,hx,rfl⟩:=hc
  obtain ⟨I,n,h0,hr⟩:=hw
  refine AW_loop (fun n T h => ∃ T1 h1,ALe n0 T h T1 h1∧I n T1 h1) n h0 ?_
  rintro n T h ⟨T1,h1,hle,hI⟩
  exact AW_le hle (iha x hx (hr n T1 h1 hI))
 | rangeFunc f ps x y iha ihb=>intro ac hc;cases hc
 | exit id=>intro ac hc Q T h hw;cases hc;exact AW_exit hw
 | scope a iha=>intro ac hc Q T h hw;exact AW_scope (iha ac hc hw)
 | label l=>intro ac hc;cases hc
 | goto l=>intro ac hc;cases hc
 | ret=>intro ac hc Q T h hw;cases hc;exact AW_ret hw
 | refuse w=>intro ac hc;cases hc
inductive AR where
 | tmp (t:Nat)
 | cell (t:Nat) (agg:Bool) (sz:Nat)
def aRes1 (T:List AV) (h:AH):AR→Option AV
 | .tmp t=>T[t]?
 | .cell t agg sz=>match T[t]? with
  | some p=>(cellsAt h p).bind (loadAV agg sz)
  | none=>none
def aRes (rs:List AR) (T:List AV) (h:AH):Option AV :=
 match rs.mapM (aRes1 T h) with
 | some [c]=>some c
 | some cs=>some (.tup cs)
 | none=>none
def compRes (P:Program):ResultVar→Option AR
 | .tmp t=>some (.tmp t)
 | .cell a t=>match P.underlying t,P.info? t with
  | some d,some i=>some (.cell a (isAggD d) i.size)
  | _,_=>none
def retA (rs:List AR) (R:AE→AH→Prop):AX→List AV→AH→Prop
 | .normal,T,h=>match aRes rs T h with
  | some c=>R (.ret c) h
  | none=>False
 | .ret,T,h=>match aRes rs T h with
  | some c=>R (.ret c) h
  | none=>False
 | .pan c,_,h=>R (.pan c) h
 | .exit _,_,_=>False
def rvS (tmps:Array Value) (r:ResultVar):Sem Value :=
 match r with
 | .tmp t=>pure (tmps.getD t undef)
 | .cell a t=>do loadVar t (←asAddr (tmps.getD a undef))
theorem results_rvS (fn:Func) (tmps:Array Value):results fn tmps=(do
  let vs ←fn.results.mapM (rvS tmps)
  pure (if h:vs.size=1 then vs[0] else .tuple vs)):=by
 unfold results
 congr 2
theorem run_results1 {r:ResultVar}{ar:AR}(hc:compRes P r=some ar) {T:List AV}{h:AH}{c:AV}(hv:aRes1 T h ar=some c) {w:World}{g:Gh}{a:List Value}(hs:SimH w g h) (ht:RepL w g T a) :
  ∃ v,(rvS a.toArray r).run P w = .ok v w∧Rep w g c v:=by
 cases r with
 | tmp t =>
  cases hc
  obtain ⟨u,h1,h2⟩:=ht.get (show T[t]?=some c from hv)
  refine ⟨u,?_,h2⟩
  have:a.toArray[t]?=some u:=by simpa using h1
  simp [rvS,this]
 | cell b t =>
  simp only [compRes] at hc
  split at hc <;> try (cases hc;done)
  rename_i d i hd hi
  cases hc
  simp only [aRes1] at hv
  split at hv <;> try (cases hv;done)
  rename_i p hp
  simp only [Option.bind_eq_some_iff] at hv
  obtain ⟨cs,h1,h2⟩:=hv
  obtain ⟨u,h3,h4⟩:=ht.get hp
  obtain ⟨bb,off,e,hrc⟩:=cellsAt_rep hs h4 h1
  obtain ⟨v,h5,h6⟩:=run_loadAV (P:=P) hrc h2 (run_isAgg hd w) (run_sizeOf hi w)
  refine ⟨v,?_,h6⟩
  have hu:a.toArray[b]?=some u:=by simpa using h3
  have:a.toArray.getD b undef = .pointer (some ⟨bb,off,none⟩):=by simp [hu,e]
  simp only [rvS,this]
  simpa [asAddr,Instr.loadAt,Instr.sureAddr] using h5
theorem run_resultsL {T:List AV}{h:AH}{w:World}{g:Gh}{a:List Value}(hs:SimH w g h) (ht:RepL w g T a) : ∀ (rl:List ResultVar) (rs:List AR) (cs:List AV),rl.mapM (compRes P)=some rs→rs.mapM (aRes1 T h)=some cs →
  ∃ vs,(rl.mapM (rvS a.toArray)).run P w = .ok vs w∧RepL w g cs vs
 | [],rs,cs,h1,h2=>by simp at h1;subst h1;simp at h2;subst h2;exact ⟨[],by simp,by simp only [RepL]⟩
 | r::rl,rs,cs,h1,h2=>by
  simp only [List.mapM_cons,Option.bind_eq_bind,Option.bind_eq_some_iff,Option.pure_def,Option.some.injEq] at h1
  obtain ⟨ar,k1,rs',k2,rfl⟩:=h1
  simp only [List.mapM_cons,Option.bind_eq_bind,Option.bind_eq_some_iff,Option.pure_def,Option.some.injEq] at h2
  obtain ⟨c,k3,cs',k4,rfl⟩:=h2
  obtain ⟨v,e1,e2⟩:=run_results1 k1 k3 hs ht
  obtain ⟨vs,e3,e4⟩:=run_resultsL hs ht rl rs' cs' k2 k4
  refine ⟨v::vs,?_,by simp only [RepL];exact ⟨v,vs,rfl,e2,e4⟩⟩
  simp only [List.mapM_cons,Sem.run_bind,e1,Result.andThen_ok,e3,Sem.run_pure]
theorem run_results {fn:Func}{rs:List AR}(hrs:fn.results.toList.mapM (compRes P)=some rs) {T:List AV}{h:AH}{c:AV}(hc:aRes rs T h=some c) {w:World}{g:Gh}{a:List Value}(hs:SimH w g h) (ht:RepL w g T a) :
  ∃ v,(results fn a.toArray).run P w = .ok v w∧Rep w g c v:=by
 unfold aRes at hc
 cases hm:rs.mapM (aRes1 T h) with
 | none=>simp [hm] at hc
 | some cs =>
  obtain ⟨vs,h1,h2⟩:=run_resultsL hs ht fn.results.toList rs cs hrs hm
  have hrun:(results fn a.toArray).run P w = .ok (if h:vs.toArray.size=1 then vs.toArray[0] else .tuple vs.toArray) w:=by
   rw [results_rvS]
   rw [Array.mapM_eq_mapM_toList]
   simp only [Sem.run_bind,Sem.run_map]
   rw [h1]
   simp
  have hl:=h2.length
  rw [hm] at hc
  match cs,hc with
  | [c'],hc =>
   cases hc
   simp only [RepL] at h2
   obtain ⟨u,us,rfl,h3,rfl⟩:=h2
   exact ⟨u,by rw [hrun];simp,h3⟩
  | [],hc =>
   cases hc
   have:vs=[]:=by simpa using hl
   subst this
   exact ⟨.tuple #[],by rw [hrun];simp,by simp only [Rep];exact ⟨#[],rfl,by simp only [RepL]⟩⟩
  | c1::c2::cs',hc =>
   cases hc
   have hne:¬vs.toArray.size=1:=by simp [hl]
   exact ⟨.tuple vs.toArray,by rw [hrun,dif_neg hne],by simp only [Rep];exact ⟨_,rfl,by simpa using h2⟩⟩
structure AF where
 code:AC
 res:List AR
 ntmps:Nat
def compF (P:Program) (f:FuncId):Option AF :=
 match P.funcs[f]? with
 | some fn=>if fn.name == "runtime.NumGoroutine" then none else match fn.body with
  | some c=>match comp P c,fn.results.toList.mapM (compRes P) with
   | some ac,some rs=>some ⟨ac,rs,fn.ntmps⟩
   | _,_=>none
  | none=>none
 | none=>none
theorem ACalls.of_aw {f:FuncId}{af:AF}(hc:compF P f=some af) {args:List AV}{h:AH}{R:AE→AH→Prop}(hw:aw P h.length af.code (retA af.res R) (args++List.replicate (af.ntmps-args.length) .any) h):ACalls P f args h R:=by
 unfold compF at hc
 split at hc <;> try (cases hc;done)
 rename_i fn hfn
 split at hc <;> try (cases hc;done)
 rename_i hname
 split at hc <;> try (cases hc;done)
 rename_i c hb
 split at hc <;> try (cases hc;done)
 rename_i ac rs hac hrs
 cases hc
 refine ACalls.of_AW hfn hb ?_ ((comp_sound c ac hac hw).mono ?_)
 ·simp only [enters,hfn,hb]
  simp only [Bool.not_eq_true] at hname
  simp [bne,hname]
 ·intro x T' h' hq
  cases x <;> simp only [retA,RetQ] at hq ⊢
  ·split at hq <;> try (exact hq.elim)
   rename_i r hr
   exact ⟨r,fun w g a hs ht=>run_results hrs hr hs ht,hq⟩
  ·split at hq <;> try (exact hq.elim)
   rename_i r hr
   exact ⟨r,fun w g a hs ht=>run_results hrs hr hs ht,hq⟩
  ·exact hq
end
end Go.Ab
end
section
namespace Go.Ab
section
variable {P : Program} {n0 : Nat}
mutual
theorem lt_mono {n m:Nat}(hnm:n≤m) : ∀ (c:AV),c.lt n=true→c.lt m=true
 | .v _,_=>rfl
 | .any,_=>rfl
 | .sl _ _ _ cs,h=>by simp only [AV.lt] at h ⊢;exact ltL_mono hnm cs h
 | .own id _ _,h=>by simp only [AV.lt,decide_eq_true_eq] at h ⊢;omega
 | .ptr id _ _,h=>by simp only [AV.lt,decide_eq_true_eq] at h ⊢;omega
 | .rp cs,h=>by simp only [AV.lt] at h ⊢;exact ltL_mono hnm cs h
 | .agg cs,h=>by simp only [AV.lt] at h ⊢;exact ltL_mono hnm cs h
 | .tup cs,h=>by simp only [AV.lt] at h ⊢;exact ltL_mono hnm cs h
 | .clo _ cs,h=>by simp only [AV.lt] at h ⊢;exact ltL_mono hnm cs h
theorem ltL_mono {n m:Nat}(hnm:n≤m) : ∀ (cs:List AV),AV.ltL n cs=true→AV.ltL m cs=true
 | [],_=>rfl
 | c::cs,h=>by simp only [AV.ltL,Bool.and_eq_true] at h ⊢;exact ⟨lt_mono hnm c h.1,ltL_mono hnm cs h.2⟩
end
theorem Ent.lt_mono {n m:Nat}(hnm:n≤m) {e:Ent}(h:e.lt n=true):e.lt m=true:=by
 cases e <;> simp only [Ent.lt] at h ⊢
 exact ltL_mono hnm _ h
def Sub:List AV→List AV→Prop
 | [],[]=>True
 | c::cs,d::ds=>(d=c∨d = .any)∧Sub cs ds
 | _,_=>False
theorem Sub.refl : ∀ T,Sub T T
 | []=>trivial
 | c::cs=>⟨.inl rfl,Sub.refl cs⟩
theorem RepL.sub {w:World}{g:Gh} : ∀ {T T1:List AV}{vs:List Value},Sub T T1→RepL w g T vs→RepL w g T1 vs
 | [],[],vs,_,h=>h
 | c::cs,d::ds,vs,hs,h=>by
  simp only [RepL] at h ⊢
  obtain ⟨u,us,e,h1,h2⟩:=h
  refine ⟨u,us,e,?_,RepL.sub hs.2 h2⟩
  rcases hs.1 with rfl | rfl
  ·exact h1
  ·simp only [Rep]
 | [],_::_,_,hs,_=>hs.elim
 | _::_,[],_,hs,_=>hs.elim
theorem ALe.sub {T T1:List AV}{h:AH}(hs:Sub T T1):ALe n0 T h T1 h:=fun w0 S0 g0 a w g st=>⟨g,st.tmps.sub hs,st.defers,st.sim,st.fr,st.le,st.bd,st.ow⟩
theorem ALe.refl {T:List AV}{h:AH}:ALe n0 T h T h:=fun w0 S0 g0 a w g st=>⟨g,st⟩
theorem ALe.trans {T T1 T2:List AV}{h h1 h2:AH}(a:ALe n0 T h T1 h1) (b:ALe n0 T1 h1 T2 h2):ALe n0 T h T2 h2:=fun w0 S0 g0 x w g st=>by
 obtain ⟨g1,s1⟩:=a w0 S0 g0 x w g st
 exact b w0 S0 g0 x w g1 s1
theorem ALe.cut {T:List AV}{h x:AH}(hn:n0≤h.length) (hT:AV.ltL h.length T=true) (hh : ∀ e∈h,e.lt h.length=true):ALe n0 T (h++x) T h:=fun w0 S0 g0 a w g st =>
 ⟨g.cut h.length,RepL.cut _ _ hT st.tmps,st.defers,st.sim.cut hh,st.fr,st.le.cut (fun i v l hl=>Nat.lt_of_lt_of_le (st.bd i v l hl) hn),st.bd,fun k hk=>st.ow k hk.of_cut⟩
theorem ALe.ice {T:List AV}{h:AH}{id ver ty s d n:Nat}{cells:List AV}(hi:h[id]?=some (.mk ver ty s cells)) (hd:T[d]?=some (.own id ver n)) (hl:n*s≤cells.length) :
  ALe n0 T h (T.set d (.sl n s false (cells.take (n*s)))) (h.set id .gone):=fun w0 S0 g0 a w g st=>by
 obtain ⟨h1,h2,h3⟩:=st.sim.ice hi
 have htm:=RepL.mono (g.le_ice h id) (fun _ _=>rfl) _ _ st.tmps
 obtain ⟨u,hu,hr⟩:=st.tmps.get hd
 have hset:=htm.set (k:=d) (h3 n u hl hr)
 have hself:a.tmps.toList.set d u=a.tmps.toList:=by
  apply List.ext_getElem?
  intro j
  by_cases hj:j=d
  ·subst hj
   have:j<a.tmps.toList.length:=(List.getElem?_eq_some_iff.1 hu).1
   rw [List.getElem?_set_self this,hu]
  ·rw [List.getElem?_set_ne (Ne.symm hj)]
 rw [hself] at hset
 exact ⟨g.ice h id,hset,st.defers,h1,st.fr,st.le.trans (g.le_ice h id),st.bd,fun k hk=>st.ow k (h2 k hk)⟩
theorem SimH.tell {w:World}{g:Gh}{h:AH}(hs:SimH w g h) {id ver ty s k:Nat}{cells:List AV}{c c':AV}(hi:h[id]?=some (.mk ver ty s cells)) (hk:cells[k]?=some c) (hc : ∀ u,Rep w g c u→Rep w g c' u) :
  SimH w g (h.set id (.mk ver ty s (cells.set k c'))) ∧ ∀ j,Ow g (h.set id (.mk ver ty s (cells.set k c'))) j→Ow g h j:=by
 have hid:id<h.length:=(List.getElem?_eq_some_iff.1 hi).1
 have hget : ∀ {i v t s':Nat} {cs:List AV},(h.set id (.mk ver ty s (cells.set k c')))[i]?=some (.mk v t s' cs) → ∃ cs',h[i]?=some (.mk v t s' cs')∧(i≠id→cs'=cs)∧(i=id→cs'=cells∧cs=cells.set k c'):=by
  intro i v t s' cs he
  by_cases hii:i=id
  ·subst hii
   rw [List.getElem?_set_self hid] at he
   cases he
   exact ⟨cells,hi,fun h=>absurd rfl h,fun _=>⟨rfl,rfl⟩⟩
  ·rw [List.getElem?_set_ne (Ne.symm hii)] at he
   exact ⟨cs,he,fun _=>rfl,fun h=>absurd h hii⟩
 have how : ∀ i j,OwAt g (h.set id (.mk ver ty s (cells.set k c'))) i j→OwAt g h i j:=by
  rintro i j ⟨v,t,s',cs,b,cap,e1,e2,e3,e4⟩
  obtain ⟨cs',f1,_⟩:=hget e1
  exact ⟨v,t,s',cs',b,cap,f1,e2,e3,e4⟩
 refine ⟨⟨?_,fun i j k' h1 h2=>hs.inj i j k' (how i k' h1) (how j k' h2),hs.lt,?_,?_,⟨hs.glob.w,hs.glob.d⟩⟩,fun j ⟨i,hj⟩=>⟨i,how i j hj⟩⟩
 ·intro i v t s' cs he
  obtain ⟨cs',f1,f2,f3⟩:=hget he
  obtain ⟨A,cap,e1,e2,e3⟩:=hs.ent _ _ _ _ _ f1
  refine ⟨A,cap,e1,e2,?_⟩
  by_cases hii:i=id
  ·obtain ⟨rfl,rfl⟩:=f3 hii
   rcases e3 with ⟨h0,h1⟩ | ⟨b,arr,rfl,x1,x2,x3,x4,x5,x6⟩
   ·rw [h0] at hk;simp at hk
   ·refine .inr ⟨b,arr,rfl,x1,x2,x3,x4,by simpa using x5,?_⟩
    obtain ⟨u,hu,hr⟩:=x6.get hk
    have:=x6.set (k:=k) (hc u hr)
    have hself:(arr.toList.take cs'.length).set k u=arr.toList.take cs'.length:=by
     apply List.ext_getElem?
     intro j
     by_cases hj:j=k
     ·subst hj
      have:j<(arr.toList.take cs'.length).length:=(List.getElem?_eq_some_iff.1 hu).1
      rw [List.getElem?_set_self this,hu]
     ·rw [List.getElem?_set_ne (Ne.symm hj)]
    rw [hself] at this
    simpa using this
  ·rw [←f2 hii];exact e3
 ·intro i v l hl
  have:=hs.fresh i v l hl
  refine ⟨by simpa using this.1,fun v' t s' cs he=>?_⟩
  obtain ⟨cs',f1,_⟩:=hget he
  exact this.2 _ _ _ _ f1
 ·intro i v l hl he
  by_cases hii:i=id
  ·subst hii;rw [List.getElem?_set_self hid] at he;cases he
  ·rw [List.getElem?_set_ne (Ne.symm hii)] at he;exact hs.free _ _ _ hl he
theorem ALe.iceCell {T:List AV}{h:AH}{id ver ty s n j v' t' s' k:Nat}{cells cs:List AV}(hi:h[id]?=some (.mk ver ty s cells)) (hj:h[j]?=some (.mk v' t' s' cs)) (hne:j≠id) (hk:cs[k]?=some (.own id ver n)) (hl:n*s≤cells.length) :
  ALe n0 T h T ((h.set id .gone).set j (.mk v' t' s' (cs.set k (.sl n s false (cells.take (n*s)))))):=fun w0 S0 g0 a w g st=>by
 obtain ⟨h1,h2,h3⟩:=st.sim.ice hi
 have htm:=RepL.mono (g.le_ice h id) (fun _ _=>rfl) _ _ st.tmps
 obtain ⟨k1,k2⟩:=h1.tell (id:=j) (by rw [List.getElem?_set_ne (Ne.symm hne)];exact hj) hk (fun u hu=>h3 n u hl (by
  simp only [Rep] at hu ⊢
  exact hu))
 exact ⟨g.ice h id,htm,st.defers,k1,st.fr,st.le.trans (g.le_ice h id),st.bd,fun i hi=>st.ow i (h2 i (k2 i hi))⟩
theorem enters_of_compF {f:FuncId}{af:AF}(hc:compF P f=some af):enters P f=true:=by
 unfold compF at hc
 split at hc <;> try (cases hc;done)
 rename_i fn hfn
 split at hc <;> try (cases hc;done)
 rename_i hname
 split at hc <;> try (cases hc;done)
 rename_i c hb
 simp only [enters,hfn,hb]
 simp only [Bool.not_eq_true] at hname
 simp [bne,hname]
theorem ACalls.enter {f:FuncId}{af:AF}(hc:compF P f=some af) {args:List AV}{h:AH}{R:AE→Prop}
  (hw : ∀ n,h.length=n→(∀ e∈h,e.lt n=true)→AV.ltL n args=true→aw P n af.code (retA af.res fun x h' => ∃ z,h'=h++z∧x.lt n=true∧R x) (args++List.replicate (af.ntmps-args.length) .any) (h++[])):ACalls P f args h fun x h'=>h'=h∧R x :=
 ⟨enters_of_compF hc,fun w g vs hs ha=>(ACalls.gc_same (ACalls.of_aw hc (by
  have:=hw h.length rfl hs.ltE (RepL.lt (fun i v l hl=>(hs.fresh i v l hl).1) _ _ ha)
  rwa [List.append_nil] at this))).2 w g vs hs ha⟩
theorem ACalls.enterG {f:FuncId}{af:AF}(hc:compF P f=some af) {args:List AV}{h:AH}{R:AE→AH→Prop}
  (hw : ∀ n,h.length=n→(∀ e∈h,e.lt n=true)→AV.ltL n args=true→aw P n af.code (retA af.res fun x h' => ∃ y z,h'=y++z∧y.length=n∧(∀ e∈y,e.lt n=true)∧x.lt n=true∧R x y) (args++List.replicate (af.ntmps-args.length) .any) (h++[])):ACalls P f args h R :=
 ⟨enters_of_compF hc,fun w g vs hs ha=>(ACalls.gc (ACalls.of_aw hc (by
  have:=hw h.length rfl hs.ltE (RepL.lt (fun i v l hl=>(hs.fresh i v l hl).1) _ _ ha)
  rwa [List.append_nil] at this))).2 w g vs hs ha⟩
def LoopTo (n0:Nat) {ι:Type}(S:ι→List AV×AH) (I:ι→Prop) (m:ι→Nat) (i:ι) (T:List AV) (h:AH):Prop :=
 ∃ k,k<m i ∧ ∃ T1 h1,ALe n0 T h T1 h1 ∧ ∃ j,m j=k∧I j∧T1=(S j).1∧h1=(S j).2
theorem LoopTo.mk {ι:Type}{S:ι→List AV×AH}{I:ι→Prop}{m:ι→Nat}{i:ι}{T:List AV}{h:AH}(j:ι) (hm:m j<m i) (hI:I j) (hl:ALe n0 T h (S j).1 (S j).2):LoopTo n0 S I m i T h :=
 ⟨m j,hm,_,_,hl,j,rfl,hI,rfl,rfl⟩
theorem aw_loop {a:AC}{Q:AX→List AV→AH→Prop}{T:List AV}{h:AH}{ι:Type}(S:ι→List AV×AH) (I:ι→Prop) (m:ι→Nat) (i0:ι) (hI:I i0) (h0:ALe n0 T h (S i0).1 (S i0).2)
  (round : ∀ i,I i→aw P n0 a (AX.thn (LoopTo n0 S I m i) Q) (S i).1 (S i).2):aw P n0 (.loop a) Q T h:=by
 refine ⟨fun n T h => ∃ i,m i=n∧I i∧T=(S i).1∧h=(S i).2,m i0,⟨_,_,h0,i0,rfl,hI,rfl,rfl⟩,?_⟩
 rintro n T h ⟨i,rfl,hi,rfl,rfl⟩
 exact round i hi
end
section
variable {P : Program} {n0 : Nat}
abbrev iv (n:Int):AV:=.v (.int .i64 n)
abbrev bv (b:Bool):AV:=.v (.bool b)
abbrev sv (s:ByteArray):AV:=.v (.string s)
section run
variable {Kp : AV → List AV → AH → Prop} {K : List AV → AH → Prop} {rest : List AOper} {T T' : List AV} {h h' h0 ents ents' : AH} {rs : List Nat} {d : Option Nat} {op : AOp} {c : AV}
def noD (o:AOper):Bool:=noCall o&&!isL o.op
theorem s_val (hn:noCall ⟨d,none,op⟩=true) (hv:aval h (aEval T) op=some c) (hp:aPut T d c=T') (hk:arun P Kp rest T' h K):arun P Kp (⟨d,none,op⟩::rest) T h K:=by
  subst hp
  refine ⟨fun _=>?_,fun h=>by cases h⟩
  have : (match aval h (aEval T) op with
      | some c=>arun P Kp rest (aPut T d c) h K
      | none=>match aeff h (aEval T) op with
        | some (c,h')=>arun P Kp rest (aPut T d c) h' K
        | none=>False):=by rw [hv];exact hk
  cases op <;> first | exact this | (simp [noCall] at hn;done)
theorem s_eff (hn:noCall ⟨d,none,op⟩=true) (hv:aval h (aEval T) op=none) (he:aeff h (aEval T) op=some (c,h')) (hp:aPut T d c=T') (hk:arun P Kp rest T' h' K):arun P Kp (⟨d,none,op⟩::rest) T h K:=by
  subst hp
  refine ⟨fun _=>?_,fun h=>by cases h⟩
  have : (match aval h (aEval T) op with
      | some c=>arun P Kp rest (aPut T d c) h K
      | none=>match aeff h (aEval T) op with
        | some (c,h')=>arun P Kp rest (aPut T d c) h' K
        | none=>False):=by rw [hv,he];exact hk
  cases op <;> first | exact this | (simp [noCall] at hn;done)
theorem d_val (hn:noD ⟨d,none,op⟩=true) (hv:aval h0 (aEval T) op=some c) (hp:aPut T d c=T') (hk:adrun P rs h0 rest T' ents K):adrun P rs h0 (⟨d,none,op⟩::rest) T ents K:=by
  subst hp
  refine ⟨fun _=>?_,fun h=>by cases h⟩
  have : (match aval h0 (aEval T) op with
      | some c=>adrun P rs h0 rest (aPut T d c) ents K
      | none => ∃ c ent,(aallo (h0.length+ents.length) (aEval T) op=some (c,ent)∨aalloI (h0.length+ents.length) (aEval T) op=some (c,ent))∧adrun P rs h0 rest (aPut T d c) (ents++[ent]) K):=by rw [hv];exact hk
  cases op <;> first | exact this | (simp [noD,noCall,isL] at hn;done)
theorem d_eff {ent:Ent}{id:Nat}(hn:noD ⟨d,none,op⟩=true) (hv:aval h0 (aEval T) op=none) (hl:h0.length+ents.length=id) (he:aallo id (aEval T) op=some (c,ent)) (hp:aPut T d c=T') (hx:ents++[ent]=ents') (hk:adrun P rs h0 rest T' ents' K):adrun P rs h0 (⟨d,none,op⟩::rest) T ents K:=by
  subst hp hx hl
  refine ⟨fun _=>?_,fun h=>by cases h⟩
  have : (match aval h0 (aEval T) op with
      | some c=>adrun P rs h0 rest (aPut T d c) ents K
      | none => ∃ c ent,(aallo (h0.length+ents.length) (aEval T) op=some (c,ent)∨aalloI (h0.length+ents.length) (aEval T) op=some (c,ent))∧adrun P rs h0 rest (aPut T d c) (ents++[ent]) K):=by rw [hv];exact ⟨c,ent,.inl he,hk⟩
  cases op <;> first | exact this | (simp [noD,noCall,isL] at hn;done)
theorem d_effI {ent:Ent}{id:Nat}(hn:noD ⟨d,none,op⟩=true) (hv:aval h0 (aEval T) op=none) (hl:h0.length+ents.length=id) (he:aalloI id (aEval T) op=some (c,ent)) (hp:aPut T d c=T') (hx:ents++[ent]=ents') (hk:adrun P rs h0 rest T' ents' K):adrun P rs h0 (⟨d,none,op⟩::rest) T ents K:=by
  subst hp hx hl
  refine ⟨fun _=>?_,fun h=>by cases h⟩
  have : (match aval h0 (aEval T) op with
      | some c=>adrun P rs h0 rest (aPut T d c) ents K
      | none => ∃ c ent,(aallo (h0.length+ents.length) (aEval T) op=some (c,ent)∨aalloI (h0.length+ents.length) (aEval T) op=some (c,ent))∧adrun P rs h0 rest (aPut T d c) (ents++[ent]) K):=by rw [hv];exact ⟨c,ent,.inr he,hk⟩
  cases op <;> first | exact this | (simp [noD,noCall,isL] at hn;done)
theorem d_ldP {agg:Bool}{sz id v off ty s:Nat}{cells:List AV}{x:Operand}(hx:aEval T x = .ptr id v off) (he:h0[id]?=some (.mk v ty s cells)) (hc:loadAV agg sz (cells.drop off)=some c) (hm:id∈rs) (hp:aPut T d c=T') (hk:adrun P rs h0 rest T' ents K):adrun P rs h0 (⟨d,none,.loadR agg sz x⟩::rest) T ents K:=by
 subst hp
 refine ⟨fun _=>?_,fun h=>by cases h⟩
 simp only [adstep,hx]
 exact ⟨ty,s,cells,c,he,hc,hm,hk⟩
theorem k_nil {q:List Bool}(hk:K T h):arunK P rs q [] T h K:=by cases q <;> exact hk
theorem k_val {m:Bool}{q:List Bool}(hn:noCall ⟨d,none,op⟩=true) (hv:aval h (aEval T) op=some c) (hp:aPut T d c=T') (hk:arunK P rs q rest T' h K):arunK P rs (m::q) (⟨d,none,op⟩::rest) T h K:=by
  subst hp
  refine ⟨fun _=>?_,fun h=>by cases h⟩
  have : (match aval h (aEval T) op with
      | some c=>arunK P rs q rest (aPut T d c) h K
      | none=>match aeff h (aEval T) op with
        | some (c,h')=>(∀ id∈(bif m then rs else []),h'[id]?=h[id]?)∧arunK P rs q rest (aPut T d c) h' K
        | none=>False):=by rw [hv];exact hk
  cases op <;> first | exact this | (simp [noCall] at hn;done)
theorem k_eff {m:Bool}{q:List Bool}(hn:noCall ⟨d,none,op⟩=true) (hv:aval h (aEval T) op=none) (he:aeff h (aEval T) op=some (c,h')) (hr : ∀ id∈(bif m then rs else []),h'[id]?=h[id]?) (hp:aPut T d c=T') (hk:arunK P rs q rest T' h' K):arunK P rs (m::q) (⟨d,none,op⟩::rest) T h K:=by
  subst hp
  refine ⟨fun _=>?_,fun h=>by cases h⟩
  have : (match aval h (aEval T) op with
      | some c=>arunK P rs q rest (aPut T d c) h K
      | none=>match aeff h (aEval T) op with
        | some (c,h')=>(∀ id∈(bif m then rs else []),h'[id]?=h[id]?)∧arunK P rs q rest (aPut T d c) h' K
        | none=>False):=by rw [hv,he];exact ⟨hr,hk⟩
  cases op <;> first | exact this | (simp [noCall] at hn;done)
theorem k_call {m:Bool}{q:List Bool}{f:FuncId}{xs:List Operand}{ats:List AV}(hx:xs.map (aEval T)=ats) (hc:ACalls P f ats h fun r h2=>r = .ret c∧h2=h') (hr : ∀ id∈(bif m then rs else []),h'[id]?=h[id]?) (hp:aPut T d c=T') (hk:arunK P rs q rest T' h' K):arunK P rs (m::q) (⟨d,none,.call (.func f) xs⟩::rest) T h K:=by
 subst hp hx
 refine ⟨fun _=>?_,fun h=>by cases h⟩
 exact ⟨c,h',⟨rfl,rfl,hc.mono fun r h2 hr=>⟨hr.2,hr.1⟩⟩,hr,hk⟩
theorem agd_mono {g:Option (Nat×Bool)}{T:List AV}{f f':Bool→Prop}(hf : ∀ b,f b→f' b) (h:agd g T f):agd g T f':=by
 unfold agd at *
 split
 ·exact hf _ h
 ·split <;> rename_i hx <;> simp only [hx] at h <;> first | exact hf _ h | exact h
theorem k_of_s : ∀ {al:List AOper}{q:List Bool}{T:List AV}{h:AH},al.all noCall=true→arun P Kp al T h K→arunK P [] q al T h K
 | [],q,_,_,_,hr=>k_nil hr
 | ⟨d,g,op⟩::al,q,T,h,hn,hr=>by
  simp only [List.all_cons,Bool.and_eq_true] at hn
  simp only [arun] at hr
  simp only [arunK]
  refine agd_mono (fun b hb=>⟨fun e=>?_,fun e=>k_of_s hn.2 (hb.2 e)⟩) hr
  have h1:=hb.1 e
  have:(match aval h (aEval T) op with
   | some c=>arunK P [] q.tail al (aPut T d c) h K
   | none=>match aeff h (aEval T) op with
    | some (c,h')=>(∀ id∈(bif q.headD true then ([]:List Nat) else []),h'[id]?=h[id]?)∧arunK P [] q.tail al (aPut T d c) h' K
    | none=>False):=by
   have h2:(match aval h (aEval T) op with
    | some c=>arun P Kp al (aPut T d c) h K
    | none=>match aeff h (aEval T) op with
     | some (c,h')=>arun P Kp al (aPut T d c) h' K
     | none=>False):=by
    cases op <;> first | exact h1 | (simp [noCall] at hn;done)
   cases hv:aval h (aEval T) op with
   | some c=>rw [hv] at h2;exact k_of_s hn.2 h2
   | none =>
    rw [hv] at h2
    cases hv2:aeff h (aEval T) op with
    | some p=>rw [hv2] at h2;exact ⟨fun _ hm=>(by cases hq:q.headD true <;> rw [hq] at hm <;> cases hm),k_of_s hn.2 h2⟩
    | none=>rw [hv2] at h2;exact h2
  cases op <;> first | exact this | (simp [noCall] at hn;done)
theorem s_do {t:Nat}{b:Bool}(ht:T[t]?=some (.v (.bool b))) (hk:arun P Kp (⟨d,none,op⟩::rest) T h K):arun P Kp (⟨d,some (t,b),op⟩::rest) T h K:=by
 have h1:=hk.1 rfl
 simp only [arun,agd,ht]
 cases b <;> exact ⟨fun _=>h1,fun h=>(by cases h)⟩
theorem s_no {t:Nat}{b:Bool}(ht:T[t]?=some (.v (.bool (!b)))) (hp:aPut T d (.v undef)=T') (hk:arun P Kp rest T' h K):arun P Kp (⟨d,some (t,b),op⟩::rest) T h K:=by
 subst hp
 simp only [arun,agd,ht]
 cases b <;> exact ⟨fun h=>(by cases h),fun _=>hk⟩
theorem s_nu {t:Nat}{b:Bool}{vs:Array Value}(ht:T[t]?=some (.v (.tuple vs))) (hp:aPut T d (.v undef)=T') (hk:arun P Kp rest T' h K):arun P Kp (⟨d,some (t,b),op⟩::rest) T h K:=by
 subst hp
 simp only [arun,agd,ht]
 exact ⟨fun h=>(by cases h),fun _=>hk⟩
theorem d_do {t:Nat}{b:Bool}(ht:T[t]?=some (.v (.bool b))) (hk:adrun P rs h0 (⟨d,none,op⟩::rest) T ents K):adrun P rs h0 (⟨d,some (t,b),op⟩::rest) T ents K:=by
 have h1:=hk.1 rfl
 simp only [adrun,agd,ht]
 cases b <;> exact ⟨fun _=>h1,fun h=>(by cases h)⟩
theorem d_no {t:Nat}{b:Bool}(ht:T[t]?=some (.v (.bool (!b)))) (hp:aPut T d (.v undef)=T') (hk:adrun P rs h0 rest T' ents K):adrun P rs h0 (⟨d,some (t,b),op⟩::rest) T ents K:=by
 subst hp
 simp only [adrun,agd,ht]
 cases b <;> exact ⟨fun h=>(by cases h),fun _=>hk⟩
theorem d_nu {t:Nat}{b:Bool}{vs:Array Value}(ht:T[t]?=some (.v (.tuple vs))) (hp:aPut T d (.v undef)=T') (hk:adrun P rs h0 rest T' ents K):adrun P rs h0 (⟨d,some (t,b),op⟩::rest) T ents K:=by
 subst hp
 simp only [adrun,agd,ht]
 exact ⟨fun h=>(by cases h),fun _=>hk⟩
theorem s_call {f:FuncId}{xs:List Operand}{ats:List AV}{R:AE→AH→Prop}(hx:xs.map (aEval T)=ats) (hc:ACalls P f ats h R) (hk : ∀ r h',R r h'→match r with
  | .ret c=>arun P Kp rest (aPut T d c) h' K
  | .pan c=>Kp c T h'):arun P Kp (⟨d,none,.call (.func f) xs⟩::rest) T h K:=by
 subst hx
 refine ⟨fun _=>?_,fun h=>by cases h⟩
 exact ⟨rfl,rfl,hc.mono fun r h' hr=>hk r h' hr⟩
theorem s_callp {f:FuncId}{xs:List Operand}{ats:List AV}(hx:xs.map (aEval T)=ats) (hc:ACalls P f ats h fun r h'=>h'=h∧r = .ret c) (hp:aPut T d c=T') (hk:arun P Kp rest T' h K):arun P Kp (⟨d,none,.call (.func f) xs⟩::rest) T h K:=by
 subst hp
 refine s_call hx hc ?_
 rintro r h' ⟨rfl,rfl⟩
 exact hk
theorem d_callp {f:FuncId}{xs:List Operand}{ats:List AV}(hx:xs.map (aEval T)=ats) (hc : ∀ h,HExt h0 h→ACalls P f ats h fun r h'=>h'=h∧r = .ret c) (hp:aPut T d c=T') (hk:adrun P rs h0 rest T' ents K):adrun P rs h0 (⟨d,none,.call (.func f) xs⟩::rest) T ents K:=by
 subst hp hx
 refine ⟨fun _=>⟨c,fun h hh=>⟨rfl,rfl,hc h hh⟩,hk⟩,fun h=>by cases h⟩
end run
section vals
variable {h : AH} {T : List AV} {x y i : Operand} {c : AV}
theorem v_mv (hx:aEval T x=c):aval h (aEval T) (.mv x)=some c:=by simp only [aval,hx]
theorem v_pickT {a b k:Operand}(hk:aEval T k=bv true) (ha:aEval T a=c):aval h (aEval T) (.pick k a b)=some c:=by simp only [aval,hk,cond_true,ha]
theorem v_pickF {a b k:Operand}(hk:aEval T k=bv false) (hb:aEval T b=c):aval h (aEval T) (.pick k a b)=some c:=by simp only [aval,hk,cond_false,hb]
theorem v_loadp {sz id v o ty s:Nat}{cells:List AV}(hx:aEval T x = .ptr id v o) (he:h[id]?=some (.mk v ty s cells)) (hc:cells[o]?=some c):aval h (aEval T) (.load false sz x)=some c:=by
 simp only [aval,hx,cellsAt,he,if_true,Option.bind_some]
 have:cells.drop o=c::cells.drop (o+1):=by
  obtain ⟨hlt,rfl⟩:=List.getElem?_eq_some_iff.1 hc
  exact List.drop_eq_getElem_cons hlt
 rw [this];rfl
theorem v_loadpA {sz id v o ty s:Nat}{cells cs:List AV}(hx:aEval T x = .ptr id v o) (he:h[id]?=some (.mk v ty s cells)) (hc:(cells.drop o).take sz=cs) (hl:cs.length=sz):aval h (aEval T) (.load true sz x)=some (.agg cs):=by
 simp only [aval,hx,cellsAt,he,if_true,Option.bind_some,loadAV]
 subst hc
 rw [List.length_take] at hl
 rw [if_pos (by omega)]
theorem v_loadr {sz:Nat}{cells:List AV}(hx:aEval T x = .rp cells) (hc:cells[0]?=some c):aval h (aEval T) (.load false sz x)=some c:=by
 simp only [aval,hx,cellsAt,Option.bind_some]
 cases cells with
 | nil=>simp at hc
 | cons a l=>simp at hc;subst hc;rfl
theorem v_loadrA {sz:Nat}{cells cs:List AV}(hx:aEval T x = .rp cells) (hc:cells.take sz=cs) (hl:cs.length=sz):aval h (aEval T) (.load true sz x)=some (.agg cs):=by
 simp only [aval,hx,cellsAt,Option.bind_some,loadAV]
 subst hc
 rw [List.length_take] at hl
 rw [if_pos (by omega)]
theorem v_nckp {id v o:Nat}(hx:aEval T x = .ptr id v o):aval h (aEval T) (.nck x)=some (.ptr id v o):=by simp only [aval,hx]
theorem v_fap {off id v o:Nat}(hx:aEval T x = .ptr id v o):aval h (aEval T) (.fa off x)=some (.ptr id v (o+off)):=by simp only [aval,hx]
theorem v_fap0 {off id v:Nat}(hx:aEval T x = .ptr id v 0):aval h (aEval T) (.fa off x)=some (.ptr id v off):=by simp only [aval,hx,Nat.zero_add]
theorem v_far {off:Nat}{cs ds:List AV}(hx:aEval T x = .rp cs) (hd:cs.drop off=ds):aval h (aEval T) (.fa off x)=some (.rp ds):=by simp only [aval,hx,hd]
theorem v_bin {op:BinOp}{a b:Value}(hx:aEval T x = .v a) (hy:aEval T y = .v b) (hv:vBin op a b=some c):aval h (aEval T) (.bin op x y)=some c:=by simp only [aval,hx,hy,hv]
theorem w64 {e:Int}(h1 : -9223372036854775808≤e) (h2:e≤9223372036854775807):IntKind.i64.wrap e=e:=by rw [IntKind.wrap_i64];omega
theorem v_add {a b:Int}(hx:aEval T x=iv a) (hy:aEval T y=iv b) (h1 : -9223372036854775808≤a+b) (h2:a+b≤9223372036854775807):aval h (aEval T) (.bin .add x y)=some (iv (a+b)):=v_bin hx hy (by simp only [vBin,if_true,iBin,w64 h1 h2])
theorem v_sub {a b:Int}(hx:aEval T x=iv a) (hy:aEval T y=iv b) (h1 : -9223372036854775808≤a-b) (h2:a-b≤9223372036854775807):aval h (aEval T) (.bin .sub x y)=some (iv (a-b)):=v_bin hx hy (by simp only [vBin,if_true,iBin,w64 h1 h2])
theorem v_mul {a b:Int}(hx:aEval T x=iv a) (hy:aEval T y=iv b) (h1 : -9223372036854775808≤a*b) (h2:a*b≤9223372036854775807):aval h (aEval T) (.bin .mul x y)=some (iv (a*b)):=v_bin hx hy (by simp only [vBin,if_true,iBin,w64 h1 h2])
theorem v_quo {a b:Int}(hx:aEval T x=iv a) (hy:aEval T y=iv b) (h0:0≤a) (hb:0<b) (h2:a≤9223372036854775807):aval h (aEval T) (.bin .quo x y)=some (iv (a/b)):=v_bin hx hy (by
 have e:a.tdiv b=a/b:=Int.tdiv_eq_ediv_of_nonneg h0
 have h3:a/b≤a:=Int.ediv_le_self _ h0
 have h4:0≤a/b:=Int.ediv_nonneg h0 (by omega)
 simp only [vBin,if_true,iBin,if_neg (show ¬b=0 by omega),e,w64 (show -9223372036854775808≤a/b by omega) (show a/b≤9223372036854775807 by omega)])
theorem v_rem {a b:Int}{k:IntKind}(hx:aEval T x = .v (.int k a)) (hy:aEval T y = .v (.int k b)) (h0:0≤a) (hb:b≠0):aval h (aEval T) (.bin .rem x y)=some (.v (.int k (a%b))):=v_bin hx hy (by
 have e:a.tmod b=a%b:=Int.tmod_eq_emod_of_nonneg h0
 simp only [vBin,if_true,iBin,if_neg hb,e])
theorem v_remw {a b:Int}{k:IntKind}(hx:aEval T x = .v (.int k a)) (hy:aEval T y = .v (.int k b)) (hb:b≠0):aval h (aEval T) (.bin .rem x y)=some (.v (.int k (a.tmod b))):=v_bin hx hy (by simp only [vBin,if_true,iBin,if_neg hb])
theorem v_lss {a b:Int}{k:IntKind}(hx:aEval T x = .v (.int k a)) (hy:aEval T y = .v (.int k b)):aval h (aEval T) (.bin .lss x y)=some (bv (decide (a<b))):=v_bin hx hy (by simp only [vBin,if_true,iBin])
theorem v_leq {a b:Int}{k:IntKind}(hx:aEval T x = .v (.int k a)) (hy:aEval T y = .v (.int k b)):aval h (aEval T) (.bin .leq x y)=some (bv (decide (a≤b))):=v_bin hx hy (by simp only [vBin,if_true,iBin])
theorem v_gtr {a b:Int}{k:IntKind}(hx:aEval T x = .v (.int k a)) (hy:aEval T y = .v (.int k b)):aval h (aEval T) (.bin .gtr x y)=some (bv (decide (b<a))):=v_bin hx hy (by simp only [vBin,if_true,iBin,gt_iff_lt])
theorem v_geq {a b:Int}{k:IntKind}(hx:aEval T x = .v (.int k a)) (hy:aEval T y = .v (.int k b)):aval h (aEval T) (.bin .geq x y)=some (bv (decide (b≤a))):=v_bin hx hy (by simp only [vBin,if_true,iBin,ge_iff_le])
theorem v_eql {a b:Int}{k:IntKind}(hx:aEval T x = .v (.int k a)) (hy:aEval T y = .v (.int k b)):aval h (aEval T) (.bin .eql x y)=some (bv (decide (a=b))):=v_bin hx hy (by simp only [vBin,if_true,iBin];rfl)
theorem v_neq {a b:Int}{k:IntKind}(hx:aEval T x = .v (.int k a)) (hy:aEval T y = .v (.int k b)):aval h (aEval T) (.bin .neq x y)=some (bv (decide (a≠b))):=v_bin hx hy (by
 simp only [vBin,if_true,iBin]
 by_cases hab:a=b <;> simp [hab])
theorem bytes_beq (a b:ByteArray):(a==b)=decide (a=b):=by
 rw [beq_toListBytes,ByteArray.toList_eq,ByteArray.toList_eq]
 by_cases h:a=b
 ·subst h;simp
 ·have:a.data≠b.data:=fun e=>h (ByteArray.ext e)
  simp [h,this]
theorem v_eqlS {a b:ByteArray}(hx:aEval T x=sv a) (hy:aEval T y=sv b):aval h (aEval T) (.bin .eql x y)=some (bv (decide (a=b))):=v_bin hx hy (by simp only [vBin,sBin,bytes_beq])
theorem v_neqS {a b:ByteArray}(hx:aEval T x=sv a) (hy:aEval T y=sv b):aval h (aEval T) (.bin .neq x y)=some (bv (decide (a≠b))):=v_bin hx hy (by
 simp only [vBin,sBin,bytes_beq]
 by_cases hab:a=b <;> simp [hab])
theorem v_addS {a b:ByteArray}(hx:aEval T x=sv a) (hy:aEval T y=sv b) (hl:a.size+b.size≤9223372036854775807):aval h (aEval T) (.bin .add x y)=some (sv (a++b)):=v_bin hx hy (by simp only [vBin,sBin,if_pos hl])
theorem v_eqb {neg a b:Bool}(hx:aEval T x=bv a) (hy:aEval T y=bv b):aval h (aEval T) (.eqb neg x y)=some (bv (bif neg then !(a==b) else a==b)):=by simp only [aval,hx,hy]
theorem v_eqs {neg b:Bool}{ks:List LK}{cs ds:List AV}(hx:aEval T x = .agg cs) (hy:aEval T y = .agg ds) (he:eqCells ks cs ds=some b):aval h (aEval T) (.eqs neg ks x y)=some (bv (bif neg then !b else b)):=by simp only [aval,hx,hy,he,Option.map_some]
theorem v_neg {a:Int}(hx:aEval T x=iv a) (h1 : -9223372036854775807≤a) (h2:a≤9223372036854775807):aval h (aEval T) (.un .neg x)=some (iv (-a)):=by simp only [aval,hx,Int.zero_sub,w64 (show -9223372036854775808 ≤ -a by omega) (show -a≤9223372036854775807 by omega)]
theorem v_not {p:Prop} [Decidable p] (hx:aEval T x=bv (decide p)):aval h (aEval T) (.un .not x)=some (bv (decide (¬p))):=by
 simp only [aval,hx]
 by_cases hp:p <;> simp [hp]
theorem v_cvi {a:Int}{k k':IntKind}(hx:aEval T x = .v (.int k' a)):aval h (aEval T) (.cvi k x)=some (.v (.int k (k.wrap a))):=by simp only [aval,hx]
theorem v_cvi64 {a:Int}{k':IntKind}(hx:aEval T x = .v (.int k' a)) (h1 : -9223372036854775808≤a) (h2:a≤9223372036854775807):aval h (aEval T) (.cvi .i64 x)=some (iv a):=by simp only [aval,hx,w64 h1 h2]
theorem v_ix {s:ByteArray}{j:Int}{k:IntKind}(hx:aEval T x=sv s) (hi:aEval T i = .v (.int k j)) (h0:0≤j) (h1:j<s.size):aval h (aEval T) (.ix x i)=some (.v (.int .u8 (byteAt s j.toNat).toNat)):=by simp only [aval,hx,hi,if_pos (And.intro h0 h1)]
theorem v_ext {n:Nat}{l:List AV}(hx:aEval T x = .tup l) (hl:l[n]?=some c):aval h (aEval T) (.ext x n)=some c:=by simp only [aval,hx,hl]
theorem v_lenS {s:ByteArray}(hx:aEval T x=sv s):aval h (aEval T) (.len true x)=some (iv s.size):=by simp only [aval,hx]
theorem v_lenL {n st:Nat}{full:Bool}{cs:List AV}(hx:aEval T x = .sl n st full cs):aval h (aEval T) (.len false x)=some (iv n):=by simp only [aval,hx]
theorem v_lenO {id v n:Nat}(hx:aEval T x = .own id v n):aval h (aEval T) (.len false x)=some (iv n):=by simp only [aval,hx]
theorem v_ia {st n:Nat}{full:Bool}{cs ds:List AV}{j:Int}{k:IntKind}(hx:aEval T x = .sl n st full cs) (hi:aEval T i = .v (.int k j)) (hst:0<st) (h0:0≤j) (h1:j<n) (hd:(cs.drop (j.toNat*st)).take st=ds):aval h (aEval T) (.ia st x i)=some (.rp ds):=by
 simp [aval,hx,hi,hst,h0,h1,hd]
theorem v_iaO {st n id v ty:Nat}{cells:List AV}{j:Int}{k:IntKind}(hx:aEval T x = .own id v n) (hi:aEval T i = .v (.int k j)) (he:h[id]?=some (.mk v ty st cells)) (hst:0<st) (h0:0≤j) (h1:j<n) (hl:n*st≤cells.length):aval h (aEval T) (.ia st x i)=some (.ptr id v (j.toNat*st)):=by
 simp [aval,hx,hi,he,hst,h0,h1,hl]
theorem v_build {zero cs:List AV}{ps:List (Nat×Nat×Operand)}(hf:fillAV (aEval T) ps zero=some cs):aval h (aEval T) (.build zero ps)=some (.agg cs):=by simp only [aval,hf,Option.map_some]
theorem v_sls {s:ByteArray}{lo hi:Option Operand}{l u:Int}(hx:aEval T x=sv s) (hl:optInt (aEval T) 0 lo=some l) (hh:optInt (aEval T) s.size hi=some u) (h0:0≤l) (h1:l≤u) (h2:u≤s.size):aval h (aEval T) (.sls x lo hi)=some (sv (s.extract l.toNat u.toNat)):=by
 simp only [aval,hx,hl,hh,if_pos (And.intro h0 (And.intro h1 h2))]
theorem v_slc {n st:Nat}{full:Bool}{cs:List AV}{lo hi:Option Operand}{l u:Int}(hx:aEval T x = .sl n st full cs) (hl:optInt (aEval T) 0 lo=some l) (hh:optInt (aEval T) n hi=some u) (h0:0≤l) (h1:l≤u) (h2:u≤n) :
  aval h (aEval T) (.slc st x lo hi none)=some (.sl (u.toNat-l.toNat) st (full&&decide (u=n)) ((cs.drop (l.toNat*st)).take ((u.toNat-l.toNat)*st))):=by
 simp [aval,hx,hl,hh,h0,h1,h2]
end vals
section effs
variable {h h' : AH} {T : List AV} {x y : Operand} {c : AV}
theorem e_new {ty sz id:Nat}{z:List AV}(hl:h.length=id) (hh:h++[.mk 0 ty sz z]=h'):aeff h (aEval T) (.new ty sz z)=some (.ptr id 0 0,h'):=by subst hl hh;rfl
theorem e_box {ty sz id:Nat}{cs:List AV}(hc:cellsV (aEval T x)=some cs) (hs:cs.length=sz) (hl:h.length=id) (hh:h++[.mk 0 ty sz cs]=h'):aeff h (aEval T) (.box ty sz x)=some (.ptr id 0 0,h'):=by
 subst hl hh;simp only [aeff,hc,if_pos hs]
theorem e_lit {ty st len id:Nat}{zero cs:List AV}{ps:List (Nat×Nat×Operand)}(hf:fillAV (aEval T) ps zero=some cs) (hl:h.length=id) (hh:h++[.mk 0 ty st cs]=h'):aeff h (aEval T) (.lit ty st len zero ps)=some (.own id 0 len,h'):=by
 subst hl hh;simp only [aeff,hf]
theorem e_store {sz id v o ty s:Nat}{cells cs cells':List AV}(hp:aEval T x = .ptr id v o) (hc:cellsV (aEval T y)=some cs) (he:h[id]?=some (.mk v ty s cells)) (hs:cs.length=sz) (hle:o+sz≤cells.length) (hlf:cs.all leaf=true) (hst:setCells cells o cs=cells') (hh:h.set id (.mk v ty s cells')=h') :
  aeff h (aEval T) (.store sz x y)=some (.v undef,h'):=by
 subst hst hh;simp only [aeff,hp,hc,he];rw [if_pos ⟨trivial,hs,hle,hlf⟩]
theorem e_app {ty sz bytes id v n m:Nat}{cells news:List AV}(hx:srcCells h sz (aEval T y)=some (m,news)) (hs:aEval T x = .own id v n) (he:h[id]?=some (.mk v ty sz cells)) (hl:cells.length=n*sz) (hb:(n+m)*bytes≤140737488355328) (hlf:news.all leaf=true) (hh:h.set id (.mk (v+1) ty sz (cells++news))=h') :
  aeff h (aEval T) (.app ty sz bytes x y)=some (.own id (v+1) (n+m),h'):=by
 subst hh;simp only [aeff,hx,hs,he];rw [if_pos ⟨trivial,trivial,trivial,hl,hb,hlf⟩]
theorem l_litI {ty st len id:Nat}{zero cs:List AV}{ps:List (Nat×Nat×Operand)}(hf:fillAV (aEval T) ps zero=some cs) (hl:cs.length=len*st):aalloI id (aEval T) (.lit ty st len zero ps)=some (.sl len st false cs,.gone):=by simp only [aalloI,hf,if_pos hl]
theorem l_lit {ty st len id:Nat}{zero cs:List AV}{ps:List (Nat×Nat×Operand)}(hf:fillAV (aEval T) ps zero=some cs):aallo id (aEval T) (.lit ty st len zero ps)=some (.own id 0 len,.mk 0 ty st cs):=by simp only [aallo,hf]
end effs
section code
variable {Q : AX → List AV → AH → Prop} {T : List AV} {h : AH} {a b : AC}
theorem w_reg {al:List AOper}(hr:arun P (fun c T h=>Q (.pan c) T h) al T h (fun T h=>Q .normal T h)):aw P n0 (.reg al) Q T h:=hr
theorem w_drw {bl tl:List AOper}{q:List Bool}{rs:List Nat}(hr:adrun P rs h bl T [] fun T ents=>arunK P rs q tl T (h++ents) (fun T h=>Q .normal T h)):aw P n0 (.drw bl q tl) Q T h:=⟨rs,hr⟩
theorem w_seq (hr:aw P n0 a (AX.thn (fun T h => ∃ T1 h1,ALe n0 T h T1 h1∧aw P n0 b Q T1 h1) Q) T h):aw P n0 (.seq a b) Q T h:=hr
theorem w_block {id:Nat}(hr:aw P n0 a (AX.blk id Q) T h):aw P n0 (.block id a) Q T h:=hr
theorem w_cond {c:Operand}{p:Prop} [Decidable p] (hc:aEval T c=bv (decide p)) (hy:p→aw P n0 a Q T h) (hn:¬p→aw P n0 b Q T h):aw P n0 (.cond c a b) Q T h:=by
 simp only [aw,hc]
 exact ⟨fun e=>hy (of_decide_eq_true e),fun e=>hn (of_decide_eq_false e)⟩
theorem w_condT {c:Operand}(hc:aEval T c=bv true) (hy:aw P n0 a Q T h):aw P n0 (.cond c a b) Q T h:=by
 simp only [aw,hc]
 exact ⟨fun _=>hy,fun e=>(by cases e)⟩
theorem w_condF {c:Operand}(hc:aEval T c=bv false) (hn:aw P n0 b Q T h):aw P n0 (.cond c a b) Q T h:=by
 simp only [aw,hc]
 exact ⟨fun e=>(by cases e),fun _=>hn⟩
theorem w_ret {rs:List AR}{R:AE→AH→Prop}{c:AV}(hr:aRes rs T h=some c) (hR:R (.ret c) h):retA rs R .ret T h:=by simp only [retA,hr];exact hR
theorem w_end {rs:List AR}{R:AE→AH→Prop}{c:AV}(hr:aRes rs T h=some c) (hR:R (.ret c) h):retA rs R .normal T h:=by simp only [retA,hr];exact hR
end code
end
section
variable {g i j o p q r t u v w y z A B C D E F G H I J K L M N O P Q R S U V W X Y Z α β γ δ ε ζ η θ ι κ μ ν ξ π ρ σ τ υ φ χ ψ ω b60 b61 b62 b63 b64 b65 b66 b67 b68 b69 c d : AV} {l m : List AV}
theorem lk0:aEval (g::l) (.tmp 0)=g:=rfl
theorem pt0:aPut (g::l) (some 0) c=c::l:=rfl
theorem gt0:(g::l)[0]?=some g:=rfl
theorem lk1:aEval (g::i::l) (.tmp 1)=i:=rfl
theorem pt1:aPut (g::i::l) (some 1) c=g::c::l:=rfl
theorem gt1:(g::i::l)[1]?=some i:=rfl
theorem lk2:aEval (g::i::j::l) (.tmp 2)=j:=rfl
theorem pt2:aPut (g::i::j::l) (some 2) c=g::i::c::l:=rfl
theorem gt2:(g::i::j::l)[2]?=some j:=rfl
theorem lk3:aEval (g::i::j::o::l) (.tmp 3)=o:=rfl
theorem pt3:aPut (g::i::j::o::l) (some 3) c=g::i::j::c::l:=rfl
theorem gt3:(g::i::j::o::l)[3]?=some o:=rfl
theorem lk4:aEval (g::i::j::o::p::l) (.tmp 4)=p:=rfl
theorem pt4:aPut (g::i::j::o::p::l) (some 4) c=g::i::j::o::c::l:=rfl
theorem gt4:(g::i::j::o::p::l)[4]?=some p:=rfl
theorem lk5:aEval (g::i::j::o::p::q::l) (.tmp 5)=q:=rfl
theorem pt5:aPut (g::i::j::o::p::q::l) (some 5) c=g::i::j::o::p::c::l:=rfl
theorem gt5:(g::i::j::o::p::q::l)[5]?=some q:=rfl
theorem lk6:aEval (g::i::j::o::p::q::r::l) (.tmp 6)=r:=rfl
theorem pt6:aPut (g::i::j::o::p::q::r::l) (some 6) c=g::i::j::o::p::q::c::l:=rfl
theorem gt6:(g::i::j::o::p::q::r::l)[6]?=some r:=rfl
theorem lk7:aEval (g::i::j::o::p::q::r::t::l) (.tmp 7)=t:=rfl
theorem pt7:aPut (g::i::j::o::p::q::r::t::l) (some 7) c=g::i::j::o::p::q::r::c::l:=rfl
theorem gt7:(g::i::j::o::p::q::r::t::l)[7]?=some t:=rfl
theorem lk8:aEval (g::i::j::o::p::q::r::t::u::l) (.tmp 8)=u:=rfl
theorem pt8:aPut (g::i::j::o::p::q::r::t::u::l) (some 8) c=g::i::j::o::p::q::r::t::c::l:=rfl
theorem gt8:(g::i::j::o::p::q::r::t::u::l)[8]?=some u:=rfl
theorem lk9:aEval (g::i::j::o::p::q::r::t::u::v::l) (.tmp 9)=v:=rfl
theorem pt9:aPut (g::i::j::o::p::q::r::t::u::v::l) (some 9) c=g::i::j::o::p::q::r::t::u::c::l:=rfl
theorem gt9:(g::i::j::o::p::q::r::t::u::v::l)[9]?=some v:=rfl
theorem lk10:aEval (g::i::j::o::p::q::r::t::u::v::w::l) (.tmp 10)=w:=rfl
theorem pt10:aPut (g::i::j::o::p::q::r::t::u::v::w::l) (some 10) c=g::i::j::o::p::q::r::t::u::v::c::l:=rfl
theorem gt10:(g::i::j::o::p::q::r::t::u::v::w::l)[10]?=some w:=rfl
theorem lk11:aEval (g::i::j::o::p::q::r::t::u::v::w::y::l) (.tmp 11)=y:=rfl
theorem pt11:aPut (g::i::j::o::p::q::r::t::u::v::w::y::l) (some 11) c=g::i::j::o::p::q::r::t::u::v::w::c::l:=rfl
theorem gt11:(g::i::j::o::p::q::r::t::u::v::w::y::l)[11]?=some y:=rfl
theorem lk12:aEval (g::i::j::o::p::q::r::t::u::v::w::y::z::l) (.tmp 12)=z:=rfl
theorem pt12:aPut (g::i::j::o::p::q::r::t::u::v::w::y::z::l) (some 12) c=g::i::j::o::p::q::r::t::u::v::w::y::c::l:=rfl
theorem gt12:(g::i::j::o::p::q::r::t::u::v::w::y::z::l)[12]?=some z:=rfl
theorem lk13:aEval (g::i::j::o::p::q::r::t::u::v::w::y::z::A::l) (.tmp 13)=A:=rfl
theorem pt13:aPut (g::i::j::o::p::q::r::t::u::v::w::y::z::A::l) (some 13) c=g::i::j::o::p::q::r::t::u::v::w::y::z::c::l:=rfl
theorem gt13:(g::i::j::o::p::q::r::t::u::v::w::y::z::A::l)[13]?=some A:=rfl
theorem lk14:aEval (g::i::j::o::p::q::r::t::u::v::w::y::z::A::B::l) (.tmp 14)=B:=rfl
theorem pt14:aPut (g::i::j::o::p::q::r::t::u::v::w::y::z::A::B::l) (some 14) c=g::i::j::o::p::q::r::t::u::v::w::y::z::A::c::l:=rfl
theorem gt14:(g::i::j::o::p::q::r::t::u::v::w::y::z::A::B::l)[14]?=some B:=rfl
theorem lk15:aEval (g::i::j::o::p::q::r::t::u::v::w::y::z::A::B::C::l) (.tmp 15)=C:=rfl
theorem pt15:aPut (g::i::j::o::p::q::r::t::u::v::w::y::z::A::B::C::l) (some 15) c=g::i::j::o::p::q::r::t::u::v::w::y::z::A::B::c::l:=rfl
theorem gt15:(g::i::j::o::p::q::r::t::u::v::w::y::z::A::B::C::l)[15]?=some C:=rfl
theorem lk16:aEval (g::i::j::o::p::q::r::t::u::v::w::y::z::A::B::C::D::l) (.tmp 16)=D:=rfl
theorem pt16:aPut (g::i::j::o::p::q::r::t::u::v::w::y::z::A::B::C::D::l) (some 16) c=g::i::j::o::p::q::r::t::u::v::w::y::z::A::B::C::c::l:=rfl
theorem gt16:(g::i::j::o::p::q::r::t::u::v::w::y::z::A::B::C::D::l)[16]?=some D:=rfl
theorem lk17:aEval (g::i::j::o::p::q::r::t::u::v::w::y::z::A::B::C::D::E::l) (.tmp 17)=E:=rfl
theorem pt17:aPut (g::i::j::o::p::q::r::t::u::v::w::y::z::A::B::C::D::E::l) (some 17) c=g::i::j::o::p::q::r::t::u::v::w::y::z::A::B::C::D::c::l:=rfl
theorem gt17:(g::i::j::o::p::q::r::t::u::v::w::y::z::A::B::C::D::E::l)[17]?=some E:=rfl
theorem lk18:aEval (g::i::j::o::p::q::r::t::u::v::w::y::z::A::B::C::D::E::F::l) (.tmp 18)=F:=rfl
theorem pt18:aPut (g::i::j::o::p::q::r::t::u::v::w::y::z::A::B::C::D::E::F::l) (some 18) c=g::i::j::o::p::q::r::t::u::v::w::y::z::A::B::C::D::E::c::l:=rfl
theorem gt18:(g::i::j::o::p::q::r::t::u::v::w::y::z::A::B::C::D::E::F::l)[18]?=some F:=rfl
theorem lk19:aEval (g::i::j::o::p::q::r::t::u::v::w::y::z::A::B::C::D::E::F::G::l) (.tmp 19)=G:=rfl
theorem pt19:aPut (g::i::j::o::p::q::r::t::u::v::w::y::z::A::B::C::D::E::F::G::l) (some 19) c=g::i::j::o::p::q::r::t::u::v::w::y::z::A::B::C::D::E::F::c::l:=rfl
theorem gt19:(g::i::j::o::p::q::r::t::u::v::w::y::z::A::B::C::D::E::F::G::l)[19]?=some G:=rfl
theorem lk20:aEval (g::i::j::o::p::q::r::t::u::v::w::y::z::A::B::C::D::E::F::G::H::l) (.tmp 20)=H:=rfl
theorem pt20:aPut (g::i::j::o::p::q::r::t::u::v::w::y::z::A::B::C::D::E::F::G::H::l) (some 20) c=g::i::j::o::p::q::r::t::u::v::w::y::z::A::B::C::D::E::F::G::c::l:=rfl
theorem gt20:(g::i::j::o::p::q::r::t::u::v::w::y::z::A::B::C::D::E::F::G::H::l)[20]?=some H:=rfl
theorem lk21:aEval (g::i::j::o::p::q::r::t::u::v::w::y::z::A::B::C::D::E::F::G::H::I::l) (.tmp 21)=I:=rfl
theorem pt21:aPut (g::i::j::o::p::q::r::t::u::v::w::y::z::A::B::C::D::E::F::G::H::I::l) (some 21) c=g::i::j::o::p::q::r::t::u::v::w::y::z::A::B::C::D::E::F::G::H::c::l:=rfl
theorem gt21:(g::i::j::o::p::q::r::t::u::v::w::y::z::A::B::C::D::E::F::G::H::I::l)[21]?=some I:=rfl
theorem lk22:aEval (g::i::j::o::p::q::r::t::u::v::w::y::z::A::B::C::D::E::F::G::H::I::J::l) (.tmp 22)=J:=rfl
theorem pt22:aPut (g::i::j::o::p::q::r::t::u::v::w::y::z::A::B::C::D::E::F::G::H::I::J::l) (some 22) c=g::i::j::o::p::q::r::t::u::v::w::y::z::A::B::C::D::E::F::G::H::I::c::l:=rfl
theorem gt22:(g::i::j::o::p::q::r::t::u::v::w::y::z::A::B::C::D::E::F::G::H::I::J::l)[22]?=some J:=rfl
theorem lk23:aEval (g::i::j::o::p::q::r::t::u::v::w::y::z::A::B::C::D::E::F::G::H::I::J::K::l) (.tmp 23)=K:=rfl
theorem pt23:aPut (g::i::j::o::p::q::r::t::u::v::w::y::z::A::B::C::D::E::F::G::H::I::J::K::l) (some 23) c=g::i::j::o::p::q::r::t::u::v::w::y::z::A::B::C::D::E::F::G::H::I::J::c::l:=rfl
theorem gt23:(g::i::j::o::p::q::r::t::u::v::w::y::z::A::B::C::D::E::F::G::H::I::J::K::l)[23]?=some K:=rfl
theorem lk24:aEval (g::i::j::o::p::q::r::t::u::v::w::y::z::A::B::C::D::E::F::G::H::I::J::K::L::l) (.tmp 24)=L:=rfl
theorem pt24:aPut (g::i::j::o::p::q::r::t::u::v::w::y::z::A::B::C::D::E::F::G::H::I::J::K::L::l) (some 24) c=g::i::j::o::p::q::r::t::u::v::w::y::z::A::B::C::D::E::F::G::H::I::J::K::c::l:=rfl
theorem gt24:(g::i::j::o::p::q::r::t::u::v::w::y::z::A::B::C::D::E::F::G::H::I::J::K::L::l)[24]?=some L:=rfl
theorem lk25:aEval (g::i::j::o::p::q::r::t::u::v::w::y::z::A::B::C::D::E::F::G::H::I::J::K::L::M::l) (.tmp 25)=M:=rfl
theorem pt25:aPut (g::i::j::o::p::q::r::t::u::v::w::y::z::A::B::C::D::E::F::G::H::I::J::K::L::M::l) (some 25) c=g::i::j::o::p::q::r::t::u::v::w::y::z::A::B::C::D::E::F::G::H::I::J::K::L::c::l:=rfl
theorem gt25:(g::i::j::o::p::q::r::t::u::v::w::y::z::A::B::C::D::E::F::G::H::I::J::K::L::M::l)[25]?=some M:=rfl
theorem lk26:aEval (g::i::j::o::p::q::r::t::u::v::w::y::z::A::B::C::D::E::F::G::H::I::J::K::L::M::N::l) (.tmp 26)=N:=rfl
theorem pt26:aPut (g::i::j::o::p::q::r::t::u::v::w::y::z::A::B::C::D::E::F::G::H::I::J::K::L::M::N::l) (some 26) c=g::i::j::o::p::q::r::t::u::v::w::y::z::A::B::C::D::E::F::G::H::I::J::K::L::M::c::l:=rfl
theorem gt26:(g::i::j::o::p::q::r::t::u::v::w::y::z::A::B::C::D::E::F::G::H::I::J::K::L::M::N::l)[26]?=some N:=rfl
theorem lk27:aEval (g::i::j::o::p::q::r::t::u::v::w::y::z::A::B::C::D::E::F::G::H::I::J::K::L::M::N::O::l) (.tmp 27)=O:=rfl
theorem pt27:aPut (g::i::j::o::p::q::r::t::u::v::w::y::z::A::B::C::D::E::F::G::H::I::J::K::L::M::N::O::l) (some 27) c=g::i::j::o::p::q::r::t::u::v::w::y::z::A::B::C::D::E::F::G::H::I::J::K::L::M::N::c::l:=rfl
theorem gt27:(g::i::j::o::p::q::r::t::u::v::w::y::z::A::B::C::D::E::F::G::H::I::J::K::L::M::N::O::l)[27]?=some O:=rfl
theorem lk28:aEval (g::i::j::o::p::q::r::t::u::v::w::y::z::A::B::C::D::E::F::G::H::I::J::K::L::M::N::O::P::l) (.tmp 28)=P:=rfl
theorem pt28:aPut (g::i::j::o::p::q::r::t::u::v::w::y::z::A::B::C::D::E::F::G::H::I::J::K::L::M::N::O::P::l) (some 28) c=g::i::j::o::p::q::r::t::u::v::w::y::z::A::B::C::D::E::F::G::H::I::J::K::L::M::N::O::c::l:=rfl
theorem gt28:(g::i::j::o::p::q::r::t::u::v::w::y::z::A::B::C::D::E::F::G::H::I::J::K::L::M::N::O::P::l)[28]?=some P:=rfl
theorem lk29:aEval (g::i::j::o::p::q::r::t::u::v::w::y::z::A::B::C::D::E::F::G::H::I::J::K::L::M::N::O::P::Q::l) (.tmp 29)=Q:=rfl
theorem pt29:aPut (g::i::j::o::p::q::r::t::u::v::w::y::z::A::B::C::D::E::F::G::H::I::J::K::L::M::N::O::P::Q::l) (some 29) c=g::i::j::o::p::q::r::t::u::v::w::y::z::A::B::C::D::E::F::G::H::I::J::K::L::M::N::O::P::c::l:=rfl
theorem gt29:(g::i::j::o::p::q::r::t::u::v::w::y::z::A::B::C::D::E::F::G::H::I::J::K::L::M::N::O::P::Q::l)[29]?=some Q:=rfl
theorem lk30:aEval (g::i::j::o::p::q::r::t::u::v::w::y::z::A::B::C::D::E::F::G::H::I::J::K::L::M::N::O::P::Q::R::l) (.tmp 30)=R:=rfl
theorem pt30:aPut (g::i::j::o::p::q::r::t::u::v::w::y::z::A::B::C::D::E::F::G::H::I::J::K::L::M::N::O::P::Q::R::l) (some 30) c=g::i::j::o::p::q::r::t::u::v::w::y::z::A::B::C::D::E::F::G::H::I::J::K::L::M::N::O::P::Q::c::l:=rfl
theorem gt30:(g::i::j::o::p::q::r::t::u::v::w::y::z::A::B::C::D::E::F::G::H::I::J::K::L::M::N::O::P::Q::R::l)[30]?=some R:=rfl
theorem lk31:aEval (g::i::j::o::p::q::r::t::u::v::w::y::z::A::B::C::D::E::F::G::H::I::J::K::L::M::N::O::P::Q::R::S::l) (.tmp 31)=S:=rfl
theorem pt31:aPut (g::i::j::o::p::q::r::t::u::v::w::y::z::A::B::C::D::E::F::G::H::I::J::K::L::M::N::O::P::Q::R::S::l) (some 31) c=g::i::j::o::p::q::r::t::u::v::w::y::z::A::B::C::D::E::F::G::H::I::J::K::L::M::N::O::P::Q::R::c::l:=rfl
theorem lk32:aEval (g::i::j::o::p::q::r::t::u::v::w::y::z::A::B::C::D::E::F::G::H::I::J::K::L::M::N::O::P::Q::R::S::U::l) (.tmp 32)=U:=rfl
theorem pt32:aPut (g::i::j::o::p::q::r::t::u::v::w::y::z::A::B::C::D::E::F::G::H::I::J::K::L::M::N::O::P::Q::R::S::U::l) (some 32) c=g::i::j::o::p::q::r::t::u::v::w::y::z::A::B::C::D::E::F::G::H::I::J::K::L::M::N::O::P::Q::R::S::c::l:=rfl
theorem gt32:(g::i::j::o::p::q::r::t::u::v::w::y::z::A::B::C::D::E::F::G::H::I::J::K::L::M::N::O::P::Q::R::S::U::l)[32]?=some U:=rfl
theorem lk33:aEval (g::i::j::o::p::q::r::t::u::v::w::y::z::A::B::C::D::E::F::G::H::I::J::K::L::M::N::O::P::Q::R::S::U::V::l) (.tmp 33)=V:=rfl
theorem pt33:aPut (g::i::j::o::p::q::r::t::u::v::w::y::z::A::B::C::D::E::F::G::H::I::J::K::L::M::N::O::P::Q::R::S::U::V::l) (some 33) c=g::i::j::o::p::q::r::t::u::v::w::y::z::A::B::C::D::E::F::G::H::I::J::K::L::M::N::O::P::Q::R::S::U::c::l:=rfl
theorem gt33:(g::i::j::o::p::q::r::t::u::v::w::y::z::A::B::C::D::E::F::G::H::I::J::K::L::M::N::O::P::Q::R::S::U::V::l)[33]?=some V:=rfl
theorem lk34:aEval (g::i::j::o::p::q::r::t::u::v::w::y::z::A::B::C::D::E::F::G::H::I::J::K::L::M::N::O::P::Q::R::S::U::V::W::l) (.tmp 34)=W:=rfl
theorem pt34:aPut (g::i::j::o::p::q::r::t::u::v::w::y::z::A::B::C::D::E::F::G::H::I::J::K::L::M::N::O::P::Q::R::S::U::V::W::l) (some 34) c=g::i::j::o::p::q::r::t::u::v::w::y::z::A::B::C::D::E::F::G::H::I::J::K::L::M::N::O::P::Q::R::S::U::V::c::l:=rfl
theorem lk35:aEval (g::i::j::o::p::q::r::t::u::v::w::y::z::A::B::C::D::E::F::G::H::I::J::K::L::M::N::O::P::Q::R::S::U::V::W::X::l) (.tmp 35)=X:=rfl
theorem pt35:aPut (g::i::j::o::p::q::r::t::u::v::w::y::z::A::B::C::D::E::F::G::H::I::J::K::L::M::N::O::P::Q::R::S::U::V::W::X::l) (some 35) c=g::i::j::o::p::q::r::t::u::v::w::y::z::A::B::C::D::E::F::G::H::I::J::K::L::M::N::O::P::Q::R::S::U::V::W::c::l:=rfl
theorem gt35:(g::i::j::o::p::q::r::t::u::v::w::y::z::A::B::C::D::E::F::G::H::I::J::K::L::M::N::O::P::Q::R::S::U::V::W::X::l)[35]?=some X:=rfl
theorem lk36:aEval (g::i::j::o::p::q::r::t::u::v::w::y::z::A::B::C::D::E::F::G::H::I::J::K::L::M::N::O::P::Q::R::S::U::V::W::X::Y::l) (.tmp 36)=Y:=rfl
theorem pt36:aPut (g::i::j::o::p::q::r::t::u::v::w::y::z::A::B::C::D::E::F::G::H::I::J::K::L::M::N::O::P::Q::R::S::U::V::W::X::Y::l) (some 36) c=g::i::j::o::p::q::r::t::u::v::w::y::z::A::B::C::D::E::F::G::H::I::J::K::L::M::N::O::P::Q::R::S::U::V::W::X::c::l:=rfl
theorem lk37:aEval (g::i::j::o::p::q::r::t::u::v::w::y::z::A::B::C::D::E::F::G::H::I::J::K::L::M::N::O::P::Q::R::S::U::V::W::X::Y::Z::l) (.tmp 37)=Z:=rfl
theorem pt37:aPut (g::i::j::o::p::q::r::t::u::v::w::y::z::A::B::C::D::E::F::G::H::I::J::K::L::M::N::O::P::Q::R::S::U::V::W::X::Y::Z::l) (some 37) c=g::i::j::o::p::q::r::t::u::v::w::y::z::A::B::C::D::E::F::G::H::I::J::K::L::M::N::O::P::Q::R::S::U::V::W::X::Y::c::l:=rfl
theorem lk38:aEval (g::i::j::o::p::q::r::t::u::v::w::y::z::A::B::C::D::E::F::G::H::I::J::K::L::M::N::O::P::Q::R::S::U::V::W::X::Y::Z::α::l) (.tmp 38)=α:=rfl
theorem pt38:aPut (g::i::j::o::p::q::r::t::u::v::w::y::z::A::B::C::D::E::F::G::H::I::J::K::L::M::N::O::P::Q::R::S::U::V::W::X::Y::Z::α::l) (some 38) c=g::i::j::o::p::q::r::t::u::v::w::y::z::A::B::C::D::E::F::G::H::I::J::K::L::M::N::O::P::Q::R::S::U::V::W::X::Y::Z::c::l:=rfl
theorem gt38:(g::i::j::o::p::q::r::t::u::v::w::y::z::A::B::C::D::E::F::G::H::I::J::K::L::M::N::O::P::Q::R::S::U::V::W::X::Y::Z::α::l)[38]?=some α:=rfl
theorem lk39:aEval (g::i::j::o::p::q::r::t::u::v::w::y::z::A::B::C::D::E::F::G::H::I::J::K::L::M::N::O::P::Q::R::S::U::V::W::X::Y::Z::α::β::l) (.tmp 39)=β:=rfl
theorem pt39:aPut (g::i::j::o::p::q::r::t::u::v::w::y::z::A::B::C::D::E::F::G::H::I::J::K::L::M::N::O::P::Q::R::S::U::V::W::X::Y::Z::α::β::l) (some 39) c=g::i::j::o::p::q::r::t::u::v::w::y::z::A::B::C::D::E::F::G::H::I::J::K::L::M::N::O::P::Q::R::S::U::V::W::X::Y::Z::α::c::l:=rfl
theorem gt39:(g::i::j::o::p::q::r::t::u::v::w::y::z::A::B::C::D::E::F::G::H::I::J::K::L::M::N::O::P::Q::R::S::U::V::W::X::Y::Z::α::β::l)[39]?=some β:=rfl
theorem lk40:aEval (g::i::j::o::p::q::r::t::u::v::w::y::z::A::B::C::D::E::F::G::H::I::J::K::L::M::N::O::P::Q::R::S::U::V::W::X::Y::Z::α::β::γ::l) (.tmp 40)=γ:=rfl
theorem pt40:aPut (g::i::j::o::p::q::r::t::u::v::w::y::z::A::B::C::D::E::F::G::H::I::J::K::L::M::N::O::P::Q::R::S::U::V::W::X::Y::Z::α::β::γ::l) (some 40) c=g::i::j::o::p::q::r::t::u::v::w::y::z::A::B::C::D::E::F::G::H::I::J::K::L::M::N::O::P::Q::R::S::U::V::W::X::Y::Z::α::β::c::l:=rfl
theorem gt40:(g::i::j::o::p::q::r::t::u::v::w::y::z::A::B::C::D::E::F::G::H::I::J::K::L::M::N::O::P::Q::R::S::U::V::W::X::Y::Z::α::β::γ::l)[40]?=some γ:=rfl
theorem lk41:aEval (g::i::j::o::p::q::r::t::u::v::w::y::z::A::B::C::D::E::F::G::H::I::J::K::L::M::N::O::P::Q::R::S::U::V::W::X::Y::Z::α::β::γ::δ::l) (.tmp 41)=δ:=rfl
theorem pt41:aPut (g::i::j::o::p::q::r::t::u::v::w::y::z::A::B::C::D::E::F::G::H::I::J::K::L::M::N::O::P::Q::R::S::U::V::W::X::Y::Z::α::β::γ::δ::l) (some 41) c=g::i::j::o::p::q::r::t::u::v::w::y::z::A::B::C::D::E::F::G::H::I::J::K::L::M::N::O::P::Q::R::S::U::V::W::X::Y::Z::α::β::γ::c::l:=rfl
theorem lk42:aEval (g::i::j::o::p::q::r::t::u::v::w::y::z::A::B::C::D::E::F::G::H::I::J::K::L::M::N::O::P::Q::R::S::U::V::W::X::Y::Z::α::β::γ::δ::ε::l) (.tmp 42)=ε:=rfl
theorem pt42:aPut (g::i::j::o::p::q::r::t::u::v::w::y::z::A::B::C::D::E::F::G::H::I::J::K::L::M::N::O::P::Q::R::S::U::V::W::X::Y::Z::α::β::γ::δ::ε::l) (some 42) c=g::i::j::o::p::q::r::t::u::v::w::y::z::A::B::C::D::E::F::G::H::I::J::K::L::M::N::O::P::Q::R::S::U::V::W::X::Y::Z::α::β::γ::δ::c::l:=rfl
theorem gt42:(g::i::j::o::p::q::r::t::u::v::w::y::z::A::B::C::D::E::F::G::H::I::J::K::L::M::N::O::P::Q::R::S::U::V::W::X::Y::Z::α::β::γ::δ::ε::l)[42]?=some ε:=rfl
theorem lk43:aEval (g::i::j::o::p::q::r::t::u::v::w::y::z::A::B::C::D::E::F::G::H::I::J::K::L::M::N::O::P::Q::R::S::U::V::W::X::Y::Z::α::β::γ::δ::ε::ζ::l) (.tmp 43)=ζ:=rfl
theorem pt43:aPut (g::i::j::o::p::q::r::t::u::v::w::y::z::A::B::C::D::E::F::G::H::I::J::K::L::M::N::O::P::Q::R::S::U::V::W::X::Y::Z::α::β::γ::δ::ε::ζ::l) (some 43) c=g::i::j::o::p::q::r::t::u::v::w::y::z::A::B::C::D::E::F::G::H::I::J::K::L::M::N::O::P::Q::R::S::U::V::W::X::Y::Z::α::β::γ::δ::ε::c::l:=rfl
theorem gt43:(g::i::j::o::p::q::r::t::u::v::w::y::z::A::B::C::D::E::F::G::H::I::J::K::L::M::N::O::P::Q::R::S::U::V::W::X::Y::Z::α::β::γ::δ::ε::ζ::l)[43]?=some ζ:=rfl
theorem lk44:aEval (g::i::j::o::p::q::r::t::u::v::w::y::z::A::B::C::D::E::F::G::H::I::J::K::L::M::N::O::P::Q::R::S::U::V::W::X::Y::Z::α::β::γ::δ::ε::ζ::η::l) (.tmp 44)=η:=rfl
theorem pt44:aPut (g::i::j::o::p::q::r::t::u::v::w::y::z::A::B::C::D::E::F::G::H::I::J::K::L::M::N::O::P::Q::R::S::U::V::W::X::Y::Z::α::β::γ::δ::ε::ζ::η::l) (some 44) c=g::i::j::o::p::q::r::t::u::v::w::y::z::A::B::C::D::E::F::G::H::I::J::K::L::M::N::O::P::Q::R::S::U::V::W::X::Y::Z::α::β::γ::δ::ε::ζ::c::l:=rfl
theorem gt44:(g::i::j::o::p::q::r::t::u::v::w::y::z::A::B::C::D::E::F::G::H::I::J::K::L::M::N::O::P::Q::R::S::U::V::W::X::Y::Z::α::β::γ::δ::ε::ζ::η::l)[44]?=some η:=rfl
theorem lk45:aEval (g::i::j::o::p::q::r::t::u::v::w::y::z::A::B::C::D::E::F::G::H::I::J::K::L::M::N::O::P::Q::R::S::U::V::W::X::Y::Z::α::β::γ::δ::ε::ζ::η::θ::l) (.tmp 45)=θ:=rfl
theorem pt45:aPut (g::i::j::o::p::q::r::t::u::v::w::y::z::A::B::C::D::E::F::G::H::I::J::K::L::M::N::O::P::Q::R::S::U::V::W::X::Y::Z::α::β::γ::δ::ε::ζ::η::θ::l) (some 45) c=g::i::j::o::p::q::r::t::u::v::w::y::z::A::B::C::D::E::F::G::H::I::J::K::L::M::N::O::P::Q::R::S::U::V::W::X::Y::Z::α::β::γ::δ::ε::ζ::η::c::l:=rfl
theorem gt45:(g::i::j::o::p::q::r::t::u::v::w::y::z::A::B::C::D::E::F::G::H::I::J::K::L::M::N::O::P::Q::R::S::U::V::W::X::Y::Z::α::β::γ::δ::ε::ζ::η::θ::l)[45]?=some θ:=rfl
theorem lk46:aEval (g::i::j::o::p::q::r::t::u::v::w::y::z::A::B::C::D::E::F::G::H::I::J::K::L::M::N::O::P::Q::R::S::U::V::W::X::Y::Z::α::β::γ::δ::ε::ζ::η::θ::ι::l) (.tmp 46)=ι:=rfl
theorem pt46:aPut (g::i::j::o::p::q::r::t::u::v::w::y::z::A::B::C::D::E::F::G::H::I::J::K::L::M::N::O::P::Q::R::S::U::V::W::X::Y::Z::α::β::γ::δ::ε::ζ::η::θ::ι::l) (some 46) c=g::i::j::o::p::q::r::t::u::v::w::y::z::A::B::C::D::E::F::G::H::I::J::K::L::M::N::O::P::Q::R::S::U::V::W::X::Y::Z::α::β::γ::δ::ε::ζ::η::θ::c::l:=rfl
theorem gt46:(g::i::j::o::p::q::r::t::u::v::w::y::z::A::B::C::D::E::F::G::H::I::J::K::L::M::N::O::P::Q::R::S::U::V::W::X::Y::Z::α::β::γ::δ::ε::ζ::η::θ::ι::l)[46]?=some ι:=rfl
theorem lk47:aEval (g::i::j::o::p::q::r::t::u::v::w::y::z::A::B::C::D::E::F::G::H::I::J::K::L::M::N::O::P::Q::R::S::U::V::W::X::Y::Z::α::β::γ::δ::ε::ζ::η::θ::ι::κ::l) (.tmp 47)=κ:=rfl
theorem pt47:aPut (g::i::j::o::p::q::r::t::u::v::w::y::z::A::B::C::D::E::F::G::H::I::J::K::L::M::N::O::P::Q::R::S::U::V::W::X::Y::Z::α::β::γ::δ::ε::ζ::η::θ::ι::κ::l) (some 47) c=g::i::j::o::p::q::r::t::u::v::w::y::z::A::B::C::D::E::F::G::H::I::J::K::L::M::N::O::P::Q::R::S::U::V::W::X::Y::Z::α::β::γ::δ::ε::ζ::η::θ::ι::c::l:=rfl
theorem gt47:(g::i::j::o::p::q::r::t::u::v::w::y::z::A::B::C::D::E::F::G::H::I::J::K::L::M::N::O::P::Q::R::S::U::V::W::X::Y::Z::α::β::γ::δ::ε::ζ::η::θ::ι::κ::l)[47]?=some κ:=rfl
theorem lk48:aEval (g::i::j::o::p::q::r::t::u::v::w::y::z::A::B::C::D::E::F::G::H::I::J::K::L::M::N::O::P::Q::R::S::U::V::W::X::Y::Z::α::β::γ::δ::ε::ζ::η::θ::ι::κ::μ::l) (.tmp 48)=μ:=rfl
theorem pt48:aPut (g::i::j::o::p::q::r::t::u::v::w::y::z::A::B::C::D::E::F::G::H::I::J::K::L::M::N::O::P::Q::R::S::U::V::W::X::Y::Z::α::β::γ::δ::ε::ζ::η::θ::ι::κ::μ::l) (some 48) c=g::i::j::o::p::q::r::t::u::v::w::y::z::A::B::C::D::E::F::G::H::I::J::K::L::M::N::O::P::Q::R::S::U::V::W::X::Y::Z::α::β::γ::δ::ε::ζ::η::θ::ι::κ::c::l:=rfl
theorem gt48:(g::i::j::o::p::q::r::t::u::v::w::y::z::A::B::C::D::E::F::G::H::I::J::K::L::M::N::O::P::Q::R::S::U::V::W::X::Y::Z::α::β::γ::δ::ε::ζ::η::θ::ι::κ::μ::l)[48]?=some μ:=rfl
theorem lk49:aEval (g::i::j::o::p::q::r::t::u::v::w::y::z::A::B::C::D::E::F::G::H::I::J::K::L::M::N::O::P::Q::R::S::U::V::W::X::Y::Z::α::β::γ::δ::ε::ζ::η::θ::ι::κ::μ::ν::l) (.tmp 49)=ν:=rfl
theorem pt49:aPut (g::i::j::o::p::q::r::t::u::v::w::y::z::A::B::C::D::E::F::G::H::I::J::K::L::M::N::O::P::Q::R::S::U::V::W::X::Y::Z::α::β::γ::δ::ε::ζ::η::θ::ι::κ::μ::ν::l) (some 49) c=g::i::j::o::p::q::r::t::u::v::w::y::z::A::B::C::D::E::F::G::H::I::J::K::L::M::N::O::P::Q::R::S::U::V::W::X::Y::Z::α::β::γ::δ::ε::ζ::η::θ::ι::κ::μ::c::l:=rfl
theorem gt49:(g::i::j::o::p::q::r::t::u::v::w::y::z::A::B::C::D::E::F::G::H::I::J::K::L::M::N::O::P::Q::R::S::U::V::W::X::Y::Z::α::β::γ::δ::ε::ζ::η::θ::ι::κ::μ::ν::l)[49]?=some ν:=rfl
theorem lk50:aEval (g::i::j::o::p::q::r::t::u::v::w::y::z::A::B::C::D::E::F::G::H::I::J::K::L::M::N::O::P::Q::R::S::U::V::W::X::Y::Z::α::β::γ::δ::ε::ζ::η::θ::ι::κ::μ::ν::ξ::l) (.tmp 50)=ξ:=rfl
theorem pt50:aPut (g::i::j::o::p::q::r::t::u::v::w::y::z::A::B::C::D::E::F::G::H::I::J::K::L::M::N::O::P::Q::R::S::U::V::W::X::Y::Z::α::β::γ::δ::ε::ζ::η::θ::ι::κ::μ::ν::ξ::l) (some 50) c=g::i::j::o::p::q::r::t::u::v::w::y::z::A::B::C::D::E::F::G::H::I::J::K::L::M::N::O::P::Q::R::S::U::V::W::X::Y::Z::α::β::γ::δ::ε::ζ::η::θ::ι::κ::μ::ν::c::l:=rfl
theorem gt50:(g::i::j::o::p::q::r::t::u::v::w::y::z::A::B::C::D::E::F::G::H::I::J::K::L::M::N::O::P::Q::R::S::U::V::W::X::Y::Z::α::β::γ::δ::ε::ζ::η::θ::ι::κ::μ::ν::ξ::l)[50]?=some ξ:=rfl
theorem lk51:aEval (g::i::j::o::p::q::r::t::u::v::w::y::z::A::B::C::D::E::F::G::H::I::J::K::L::M::N::O::P::Q::R::S::U::V::W::X::Y::Z::α::β::γ::δ::ε::ζ::η::θ::ι::κ::μ::ν::ξ::π::l) (.tmp 51)=π:=rfl
theorem pt51:aPut (g::i::j::o::p::q::r::t::u::v::w::y::z::A::B::C::D::E::F::G::H::I::J::K::L::M::N::O::P::Q::R::S::U::V::W::X::Y::Z::α::β::γ::δ::ε::ζ::η::θ::ι::κ::μ::ν::ξ::π::l) (some 51) c=g::i::j::o::p::q::r::t::u::v::w::y::z::A::B::C::D::E::F::G::H::I::J::K::L::M::N::O::P::Q::R::S::U::V::W::X::Y::Z::α::β::γ::δ::ε::ζ::η::θ::ι::κ::μ::ν::ξ::c::l:=rfl
theorem gt51:(g::i::j::o::p::q::r::t::u::v::w::y::z::A::B::C::D::E::F::G::H::I::J::K::L::M::N::O::P::Q::R::S::U::V::W::X::Y::Z::α::β::γ::δ::ε::ζ::η::θ::ι::κ::μ::ν::ξ::π::l)[51]?=some π:=rfl
theorem lk52:aEval (g::i::j::o::p::q::r::t::u::v::w::y::z::A::B::C::D::E::F::G::H::I::J::K::L::M::N::O::P::Q::R::S::U::V::W::X::Y::Z::α::β::γ::δ::ε::ζ::η::θ::ι::κ::μ::ν::ξ::π::ρ::l) (.tmp 52)=ρ:=rfl
theorem pt52:aPut (g::i::j::o::p::q::r::t::u::v::w::y::z::A::B::C::D::E::F::G::H::I::J::K::L::M::N::O::P::Q::R::S::U::V::W::X::Y::Z::α::β::γ::δ::ε::ζ::η::θ::ι::κ::μ::ν::ξ::π::ρ::l) (some 52) c=g::i::j::o::p::q::r::t::u::v::w::y::z::A::B::C::D::E::F::G::H::I::J::K::L::M::N::O::P::Q::R::S::U::V::W::X::Y::Z::α::β::γ::δ::ε::ζ::η::θ::ι::κ::μ::ν::ξ::π::c::l:=rfl
theorem gt52:(g::i::j::o::p::q::r::t::u::v::w::y::z::A::B::C::D::E::F::G::H::I::J::K::L::M::N::O::P::Q::R::S::U::V::W::X::Y::Z::α::β::γ::δ::ε::ζ::η::θ::ι::κ::μ::ν::ξ::π::ρ::l)[52]?=some ρ:=rfl
theorem lk53:aEval (g::i::j::o::p::q::r::t::u::v::w::y::z::A::B::C::D::E::F::G::H::I::J::K::L::M::N::O::P::Q::R::S::U::V::W::X::Y::Z::α::β::γ::δ::ε::ζ::η::θ::ι::κ::μ::ν::ξ::π::ρ::σ::l) (.tmp 53)=σ:=rfl
theorem pt53:aPut (g::i::j::o::p::q::r::t::u::v::w::y::z::A::B::C::D::E::F::G::H::I::J::K::L::M::N::O::P::Q::R::S::U::V::W::X::Y::Z::α::β::γ::δ::ε::ζ::η::θ::ι::κ::μ::ν::ξ::π::ρ::σ::l) (some 53) c=g::i::j::o::p::q::r::t::u::v::w::y::z::A::B::C::D::E::F::G::H::I::J::K::L::M::N::O::P::Q::R::S::U::V::W::X::Y::Z::α::β::γ::δ::ε::ζ::η::θ::ι::κ::μ::ν::ξ::π::ρ::c::l:=rfl
theorem gt53:(g::i::j::o::p::q::r::t::u::v::w::y::z::A::B::C::D::E::F::G::H::I::J::K::L::M::N::O::P::Q::R::S::U::V::W::X::Y::Z::α::β::γ::δ::ε::ζ::η::θ::ι::κ::μ::ν::ξ::π::ρ::σ::l)[53]?=some σ:=rfl
theorem lk54:aEval (g::i::j::o::p::q::r::t::u::v::w::y::z::A::B::C::D::E::F::G::H::I::J::K::L::M::N::O::P::Q::R::S::U::V::W::X::Y::Z::α::β::γ::δ::ε::ζ::η::θ::ι::κ::μ::ν::ξ::π::ρ::σ::τ::l) (.tmp 54)=τ:=rfl
theorem pt54:aPut (g::i::j::o::p::q::r::t::u::v::w::y::z::A::B::C::D::E::F::G::H::I::J::K::L::M::N::O::P::Q::R::S::U::V::W::X::Y::Z::α::β::γ::δ::ε::ζ::η::θ::ι::κ::μ::ν::ξ::π::ρ::σ::τ::l) (some 54) c=g::i::j::o::p::q::r::t::u::v::w::y::z::A::B::C::D::E::F::G::H::I::J::K::L::M::N::O::P::Q::R::S::U::V::W::X::Y::Z::α::β::γ::δ::ε::ζ::η::θ::ι::κ::μ::ν::ξ::π::ρ::σ::c::l:=rfl
theorem gt54:(g::i::j::o::p::q::r::t::u::v::w::y::z::A::B::C::D::E::F::G::H::I::J::K::L::M::N::O::P::Q::R::S::U::V::W::X::Y::Z::α::β::γ::δ::ε::ζ::η::θ::ι::κ::μ::ν::ξ::π::ρ::σ::τ::l)[54]?=some τ:=rfl
theorem lk55:aEval (g::i::j::o::p::q::r::t::u::v::w::y::z::A::B::C::D::E::F::G::H::I::J::K::L::M::N::O::P::Q::R::S::U::V::W::X::Y::Z::α::β::γ::δ::ε::ζ::η::θ::ι::κ::μ::ν::ξ::π::ρ::σ::τ::υ::l) (.tmp 55)=υ:=rfl
theorem pt55:aPut (g::i::j::o::p::q::r::t::u::v::w::y::z::A::B::C::D::E::F::G::H::I::J::K::L::M::N::O::P::Q::R::S::U::V::W::X::Y::Z::α::β::γ::δ::ε::ζ::η::θ::ι::κ::μ::ν::ξ::π::ρ::σ::τ::υ::l) (some 55) c=g::i::j::o::p::q::r::t::u::v::w::y::z::A::B::C::D::E::F::G::H::I::J::K::L::M::N::O::P::Q::R::S::U::V::W::X::Y::Z::α::β::γ::δ::ε::ζ::η::θ::ι::κ::μ::ν::ξ::π::ρ::σ::τ::c::l:=rfl
theorem gt55:(g::i::j::o::p::q::r::t::u::v::w::y::z::A::B::C::D::E::F::G::H::I::J::K::L::M::N::O::P::Q::R::S::U::V::W::X::Y::Z::α::β::γ::δ::ε::ζ::η::θ::ι::κ::μ::ν::ξ::π::ρ::σ::τ::υ::l)[55]?=some υ:=rfl
theorem lk56:aEval (g::i::j::o::p::q::r::t::u::v::w::y::z::A::B::C::D::E::F::G::H::I::J::K::L::M::N::O::P::Q::R::S::U::V::W::X::Y::Z::α::β::γ::δ::ε::ζ::η::θ::ι::κ::μ::ν::ξ::π::ρ::σ::τ::υ::φ::l) (.tmp 56)=φ:=rfl
theorem pt56:aPut (g::i::j::o::p::q::r::t::u::v::w::y::z::A::B::C::D::E::F::G::H::I::J::K::L::M::N::O::P::Q::R::S::U::V::W::X::Y::Z::α::β::γ::δ::ε::ζ::η::θ::ι::κ::μ::ν::ξ::π::ρ::σ::τ::υ::φ::l) (some 56) c=g::i::j::o::p::q::r::t::u::v::w::y::z::A::B::C::D::E::F::G::H::I::J::K::L::M::N::O::P::Q::R::S::U::V::W::X::Y::Z::α::β::γ::δ::ε::ζ::η::θ::ι::κ::μ::ν::ξ::π::ρ::σ::τ::υ::c::l:=rfl
theorem gt56:(g::i::j::o::p::q::r::t::u::v::w::y::z::A::B::C::D::E::F::G::H::I::J::K::L::M::N::O::P::Q::R::S::U::V::W::X::Y::Z::α::β::γ::δ::ε::ζ::η::θ::ι::κ::μ::ν::ξ::π::ρ::σ::τ::υ::φ::l)[56]?=some φ:=rfl
theorem lk57:aEval (g::i::j::o::p::q::r::t::u::v::w::y::z::A::B::C::D::E::F::G::H::I::J::K::L::M::N::O::P::Q::R::S::U::V::W::X::Y::Z::α::β::γ::δ::ε::ζ::η::θ::ι::κ::μ::ν::ξ::π::ρ::σ::τ::υ::φ::χ::l) (.tmp 57)=χ:=rfl
theorem pt57:aPut (g::i::j::o::p::q::r::t::u::v::w::y::z::A::B::C::D::E::F::G::H::I::J::K::L::M::N::O::P::Q::R::S::U::V::W::X::Y::Z::α::β::γ::δ::ε::ζ::η::θ::ι::κ::μ::ν::ξ::π::ρ::σ::τ::υ::φ::χ::l) (some 57) c=g::i::j::o::p::q::r::t::u::v::w::y::z::A::B::C::D::E::F::G::H::I::J::K::L::M::N::O::P::Q::R::S::U::V::W::X::Y::Z::α::β::γ::δ::ε::ζ::η::θ::ι::κ::μ::ν::ξ::π::ρ::σ::τ::υ::φ::c::l:=rfl
theorem gt57:(g::i::j::o::p::q::r::t::u::v::w::y::z::A::B::C::D::E::F::G::H::I::J::K::L::M::N::O::P::Q::R::S::U::V::W::X::Y::Z::α::β::γ::δ::ε::ζ::η::θ::ι::κ::μ::ν::ξ::π::ρ::σ::τ::υ::φ::χ::l)[57]?=some χ:=rfl
theorem lk58:aEval (g::i::j::o::p::q::r::t::u::v::w::y::z::A::B::C::D::E::F::G::H::I::J::K::L::M::N::O::P::Q::R::S::U::V::W::X::Y::Z::α::β::γ::δ::ε::ζ::η::θ::ι::κ::μ::ν::ξ::π::ρ::σ::τ::υ::φ::χ::ψ::l) (.tmp 58)=ψ:=rfl
theorem pt58:aPut (g::i::j::o::p::q::r::t::u::v::w::y::z::A::B::C::D::E::F::G::H::I::J::K::L::M::N::O::P::Q::R::S::U::V::W::X::Y::Z::α::β::γ::δ::ε::ζ::η::θ::ι::κ::μ::ν::ξ::π::ρ::σ::τ::υ::φ::χ::ψ::l) (some 58) c=g::i::j::o::p::q::r::t::u::v::w::y::z::A::B::C::D::E::F::G::H::I::J::K::L::M::N::O::P::Q::R::S::U::V::W::X::Y::Z::α::β::γ::δ::ε::ζ::η::θ::ι::κ::μ::ν::ξ::π::ρ::σ::τ::υ::φ::χ::c::l:=rfl
theorem gt58:(g::i::j::o::p::q::r::t::u::v::w::y::z::A::B::C::D::E::F::G::H::I::J::K::L::M::N::O::P::Q::R::S::U::V::W::X::Y::Z::α::β::γ::δ::ε::ζ::η::θ::ι::κ::μ::ν::ξ::π::ρ::σ::τ::υ::φ::χ::ψ::l)[58]?=some ψ:=rfl
theorem lk59:aEval (g::i::j::o::p::q::r::t::u::v::w::y::z::A::B::C::D::E::F::G::H::I::J::K::L::M::N::O::P::Q::R::S::U::V::W::X::Y::Z::α::β::γ::δ::ε::ζ::η::θ::ι::κ::μ::ν::ξ::π::ρ::σ::τ::υ::φ::χ::ψ::ω::l) (.tmp 59)=ω:=rfl
theorem pt59:aPut (g::i::j::o::p::q::r::t::u::v::w::y::z::A::B::C::D::E::F::G::H::I::J::K::L::M::N::O::P::Q::R::S::U::V::W::X::Y::Z::α::β::γ::δ::ε::ζ::η::θ::ι::κ::μ::ν::ξ::π::ρ::σ::τ::υ::φ::χ::ψ::ω::l) (some 59) c=g::i::j::o::p::q::r::t::u::v::w::y::z::A::B::C::D::E::F::G::H::I::J::K::L::M::N::O::P::Q::R::S::U::V::W::X::Y::Z::α::β::γ::δ::ε::ζ::η::θ::ι::κ::μ::ν::ξ::π::ρ::σ::τ::υ::φ::χ::ψ::c::l:=rfl
theorem lk60:aEval (g::i::j::o::p::q::r::t::u::v::w::y::z::A::B::C::D::E::F::G::H::I::J::K::L::M::N::O::P::Q::R::S::U::V::W::X::Y::Z::α::β::γ::δ::ε::ζ::η::θ::ι::κ::μ::ν::ξ::π::ρ::σ::τ::υ::φ::χ::ψ::ω::b60::l) (.tmp 60)=b60:=rfl
theorem pt60:aPut (g::i::j::o::p::q::r::t::u::v::w::y::z::A::B::C::D::E::F::G::H::I::J::K::L::M::N::O::P::Q::R::S::U::V::W::X::Y::Z::α::β::γ::δ::ε::ζ::η::θ::ι::κ::μ::ν::ξ::π::ρ::σ::τ::υ::φ::χ::ψ::ω::b60::l) (some 60) c=g::i::j::o::p::q::r::t::u::v::w::y::z::A::B::C::D::E::F::G::H::I::J::K::L::M::N::O::P::Q::R::S::U::V::W::X::Y::Z::α::β::γ::δ::ε::ζ::η::θ::ι::κ::μ::ν::ξ::π::ρ::σ::τ::υ::φ::χ::ψ::ω::c::l:=rfl
theorem lk61:aEval (g::i::j::o::p::q::r::t::u::v::w::y::z::A::B::C::D::E::F::G::H::I::J::K::L::M::N::O::P::Q::R::S::U::V::W::X::Y::Z::α::β::γ::δ::ε::ζ::η::θ::ι::κ::μ::ν::ξ::π::ρ::σ::τ::υ::φ::χ::ψ::ω::b60::b61::l) (.tmp 61)=b61:=rfl
theorem pt61:aPut (g::i::j::o::p::q::r::t::u::v::w::y::z::A::B::C::D::E::F::G::H::I::J::K::L::M::N::O::P::Q::R::S::U::V::W::X::Y::Z::α::β::γ::δ::ε::ζ::η::θ::ι::κ::μ::ν::ξ::π::ρ::σ::τ::υ::φ::χ::ψ::ω::b60::b61::l) (some 61) c=g::i::j::o::p::q::r::t::u::v::w::y::z::A::B::C::D::E::F::G::H::I::J::K::L::M::N::O::P::Q::R::S::U::V::W::X::Y::Z::α::β::γ::δ::ε::ζ::η::θ::ι::κ::μ::ν::ξ::π::ρ::σ::τ::υ::φ::χ::ψ::ω::b60::c::l:=rfl
theorem gt61:(g::i::j::o::p::q::r::t::u::v::w::y::z::A::B::C::D::E::F::G::H::I::J::K::L::M::N::O::P::Q::R::S::U::V::W::X::Y::Z::α::β::γ::δ::ε::ζ::η::θ::ι::κ::μ::ν::ξ::π::ρ::σ::τ::υ::φ::χ::ψ::ω::b60::b61::l)[61]?=some b61:=rfl
theorem lk62:aEval (g::i::j::o::p::q::r::t::u::v::w::y::z::A::B::C::D::E::F::G::H::I::J::K::L::M::N::O::P::Q::R::S::U::V::W::X::Y::Z::α::β::γ::δ::ε::ζ::η::θ::ι::κ::μ::ν::ξ::π::ρ::σ::τ::υ::φ::χ::ψ::ω::b60::b61::b62::l) (.tmp 62)=b62:=rfl
theorem pt62:aPut (g::i::j::o::p::q::r::t::u::v::w::y::z::A::B::C::D::E::F::G::H::I::J::K::L::M::N::O::P::Q::R::S::U::V::W::X::Y::Z::α::β::γ::δ::ε::ζ::η::θ::ι::κ::μ::ν::ξ::π::ρ::σ::τ::υ::φ::χ::ψ::ω::b60::b61::b62::l) (some 62) c=g::i::j::o::p::q::r::t::u::v::w::y::z::A::B::C::D::E::F::G::H::I::J::K::L::M::N::O::P::Q::R::S::U::V::W::X::Y::Z::α::β::γ::δ::ε::ζ::η::θ::ι::κ::μ::ν::ξ::π::ρ::σ::τ::υ::φ::χ::ψ::ω::b60::b61::c::l:=rfl
theorem lk63:aEval (g::i::j::o::p::q::r::t::u::v::w::y::z::A::B::C::D::E::F::G::H::I::J::K::L::M::N::O::P::Q::R::S::U::V::W::X::Y::Z::α::β::γ::δ::ε::ζ::η::θ::ι::κ::μ::ν::ξ::π::ρ::σ::τ::υ::φ::χ::ψ::ω::b60::b61::b62::b63::l) (.tmp 63)=b63:=rfl
theorem pt63:aPut (g::i::j::o::p::q::r::t::u::v::w::y::z::A::B::C::D::E::F::G::H::I::J::K::L::M::N::O::P::Q::R::S::U::V::W::X::Y::Z::α::β::γ::δ::ε::ζ::η::θ::ι::κ::μ::ν::ξ::π::ρ::σ::τ::υ::φ::χ::ψ::ω::b60::b61::b62::b63::l) (some 63) c=g::i::j::o::p::q::r::t::u::v::w::y::z::A::B::C::D::E::F::G::H::I::J::K::L::M::N::O::P::Q::R::S::U::V::W::X::Y::Z::α::β::γ::δ::ε::ζ::η::θ::ι::κ::μ::ν::ξ::π::ρ::σ::τ::υ::φ::χ::ψ::ω::b60::b61::b62::c::l:=rfl
theorem lk64:aEval (g::i::j::o::p::q::r::t::u::v::w::y::z::A::B::C::D::E::F::G::H::I::J::K::L::M::N::O::P::Q::R::S::U::V::W::X::Y::Z::α::β::γ::δ::ε::ζ::η::θ::ι::κ::μ::ν::ξ::π::ρ::σ::τ::υ::φ::χ::ψ::ω::b60::b61::b62::b63::b64::l) (.tmp 64)=b64:=rfl
theorem pt64:aPut (g::i::j::o::p::q::r::t::u::v::w::y::z::A::B::C::D::E::F::G::H::I::J::K::L::M::N::O::P::Q::R::S::U::V::W::X::Y::Z::α::β::γ::δ::ε::ζ::η::θ::ι::κ::μ::ν::ξ::π::ρ::σ::τ::υ::φ::χ::ψ::ω::b60::b61::b62::b63::b64::l) (some 64) c=g::i::j::o::p::q::r::t::u::v::w::y::z::A::B::C::D::E::F::G::H::I::J::K::L::M::N::O::P::Q::R::S::U::V::W::X::Y::Z::α::β::γ::δ::ε::ζ::η::θ::ι::κ::μ::ν::ξ::π::ρ::σ::τ::υ::φ::χ::ψ::ω::b60::b61::b62::b63::c::l:=rfl
theorem lk65:aEval (g::i::j::o::p::q::r::t::u::v::w::y::z::A::B::C::D::E::F::G::H::I::J::K::L::M::N::O::P::Q::R::S::U::V::W::X::Y::Z::α::β::γ::δ::ε::ζ::η::θ::ι::κ::μ::ν::ξ::π::ρ::σ::τ::υ::φ::χ::ψ::ω::b60::b61::b62::b63::b64::b65::l) (.tmp 65)=b65:=rfl
theorem pt65:aPut (g::i::j::o::p::q::r::t::u::v::w::y::z::A::B::C::D::E::F::G::H::I::J::K::L::M::N::O::P::Q::R::S::U::V::W::X::Y::Z::α::β::γ::δ::ε::ζ::η::θ::ι::κ::μ::ν::ξ::π::ρ::σ::τ::υ::φ::χ::ψ::ω::b60::b61::b62::b63::b64::b65::l) (some 65) c=g::i::j::o::p::q::r::t::u::v::w::y::z::A::B::C::D::E::F::G::H::I::J::K::L::M::N::O::P::Q::R::S::U::V::W::X::Y::Z::α::β::γ::δ::ε::ζ::η::θ::ι::κ::μ::ν::ξ::π::ρ::σ::τ::υ::φ::χ::ψ::ω::b60::b61::b62::b63::b64::c::l:=rfl
theorem gt65:(g::i::j::o::p::q::r::t::u::v::w::y::z::A::B::C::D::E::F::G::H::I::J::K::L::M::N::O::P::Q::R::S::U::V::W::X::Y::Z::α::β::γ::δ::ε::ζ::η::θ::ι::κ::μ::ν::ξ::π::ρ::σ::τ::υ::φ::χ::ψ::ω::b60::b61::b62::b63::b64::b65::l)[65]?=some b65:=rfl
theorem lk66:aEval (g::i::j::o::p::q::r::t::u::v::w::y::z::A::B::C::D::E::F::G::H::I::J::K::L::M::N::O::P::Q::R::S::U::V::W::X::Y::Z::α::β::γ::δ::ε::ζ::η::θ::ι::κ::μ::ν::ξ::π::ρ::σ::τ::υ::φ::χ::ψ::ω::b60::b61::b62::b63::b64::b65::b66::l) (.tmp 66)=b66:=rfl
theorem pt66:aPut (g::i::j::o::p::q::r::t::u::v::w::y::z::A::B::C::D::E::F::G::H::I::J::K::L::M::N::O::P::Q::R::S::U::V::W::X::Y::Z::α::β::γ::δ::ε::ζ::η::θ::ι::κ::μ::ν::ξ::π::ρ::σ::τ::υ::φ::χ::ψ::ω::b60::b61::b62::b63::b64::b65::b66::l) (some 66) c=g::i::j::o::p::q::r::t::u::v::w::y::z::A::B::C::D::E::F::G::H::I::J::K::L::M::N::O::P::Q::R::S::U::V::W::X::Y::Z::α::β::γ::δ::ε::ζ::η::θ::ι::κ::μ::ν::ξ::π::ρ::σ::τ::υ::φ::χ::ψ::ω::b60::b61::b62::b63::b64::b65::c::l:=rfl
theorem lk67:aEval (g::i::j::o::p::q::r::t::u::v::w::y::z::A::B::C::D::E::F::G::H::I::J::K::L::M::N::O::P::Q::R::S::U::V::W::X::Y::Z::α::β::γ::δ::ε::ζ::η::θ::ι::κ::μ::ν::ξ::π::ρ::σ::τ::υ::φ::χ::ψ::ω::b60::b61::b62::b63::b64::b65::b66::b67::l) (.tmp 67)=b67:=rfl
theorem pt67:aPut (g::i::j::o::p::q::r::t::u::v::w::y::z::A::B::C::D::E::F::G::H::I::J::K::L::M::N::O::P::Q::R::S::U::V::W::X::Y::Z::α::β::γ::δ::ε::ζ::η::θ::ι::κ::μ::ν::ξ::π::ρ::σ::τ::υ::φ::χ::ψ::ω::b60::b61::b62::b63::b64::b65::b66::b67::l) (some 67) c=g::i::j::o::p::q::r::t::u::v::w::y::z::A::B::C::D::E::F::G::H::I::J::K::L::M::N::O::P::Q::R::S::U::V::W::X::Y::Z::α::β::γ::δ::ε::ζ::η::θ::ι::κ::μ::ν::ξ::π::ρ::σ::τ::υ::φ::χ::ψ::ω::b60::b61::b62::b63::b64::b65::b66::c::l:=rfl
theorem lk68:aEval (g::i::j::o::p::q::r::t::u::v::w::y::z::A::B::C::D::E::F::G::H::I::J::K::L::M::N::O::P::Q::R::S::U::V::W::X::Y::Z::α::β::γ::δ::ε::ζ::η::θ::ι::κ::μ::ν::ξ::π::ρ::σ::τ::υ::φ::χ::ψ::ω::b60::b61::b62::b63::b64::b65::b66::b67::b68::l) (.tmp 68)=b68:=rfl
theorem pt68:aPut (g::i::j::o::p::q::r::t::u::v::w::y::z::A::B::C::D::E::F::G::H::I::J::K::L::M::N::O::P::Q::R::S::U::V::W::X::Y::Z::α::β::γ::δ::ε::ζ::η::θ::ι::κ::μ::ν::ξ::π::ρ::σ::τ::υ::φ::χ::ψ::ω::b60::b61::b62::b63::b64::b65::b66::b67::b68::l) (some 68) c=g::i::j::o::p::q::r::t::u::v::w::y::z::A::B::C::D::E::F::G::H::I::J::K::L::M::N::O::P::Q::R::S::U::V::W::X::Y::Z::α::β::γ::δ::ε::ζ::η::θ::ι::κ::μ::ν::ξ::π::ρ::σ::τ::υ::φ::χ::ψ::ω::b60::b61::b62::b63::b64::b65::b66::b67::c::l:=rfl
theorem lk69:aEval (g::i::j::o::p::q::r::t::u::v::w::y::z::A::B::C::D::E::F::G::H::I::J::K::L::M::N::O::P::Q::R::S::U::V::W::X::Y::Z::α::β::γ::δ::ε::ζ::η::θ::ι::κ::μ::ν::ξ::π::ρ::σ::τ::υ::φ::χ::ψ::ω::b60::b61::b62::b63::b64::b65::b66::b67::b68::b69::l) (.tmp 69)=b69:=rfl
theorem pt69:aPut (g::i::j::o::p::q::r::t::u::v::w::y::z::A::B::C::D::E::F::G::H::I::J::K::L::M::N::O::P::Q::R::S::U::V::W::X::Y::Z::α::β::γ::δ::ε::ζ::η::θ::ι::κ::μ::ν::ξ::π::ρ::σ::τ::υ::φ::χ::ψ::ω::b60::b61::b62::b63::b64::b65::b66::b67::b68::b69::l) (some 69) c=g::i::j::o::p::q::r::t::u::v::w::y::z::A::B::C::D::E::F::G::H::I::J::K::L::M::N::O::P::Q::R::S::U::V::W::X::Y::Z::α::β::γ::δ::ε::ζ::η::θ::ι::κ::μ::ν::ξ::π::ρ::σ::τ::υ::φ::χ::ψ::ω::b60::b61::b62::b63::b64::b65::b66::b67::b68::c::l:=rfl
theorem lkS {k:Nat}(h:aEval l (.tmp k)=d):aEval (g::i::j::o::p::q::r::t::u::v::w::y::z::A::B::C::D::E::F::G::H::I::J::K::L::M::N::O::P::Q::R::S::U::V::W::X::Y::Z::α::β::γ::δ::ε::ζ::η::θ::ι::κ::μ::ν::ξ::π::ρ::σ::τ::υ::φ::χ::ψ::ω::b60::b61::b62::b63::b64::b65::b66::b67::b68::b69::l) (.tmp (k+70))=d:=h
theorem ptS {k:Nat}(h:aPut l (some k) c=m):aPut (g::i::j::o::p::q::r::t::u::v::w::y::z::A::B::C::D::E::F::G::H::I::J::K::L::M::N::O::P::Q::R::S::U::V::W::X::Y::Z::α::β::γ::δ::ε::ζ::η::θ::ι::κ::μ::ν::ξ::π::ρ::σ::τ::υ::φ::χ::ψ::ω::b60::b61::b62::b63::b64::b65::b66::b67::b68::b69::l) (some (k+70)) c=g::i::j::o::p::q::r::t::u::v::w::y::z::A::B::C::D::E::F::G::H::I::J::K::L::M::N::O::P::Q::R::S::U::V::W::X::Y::Z::α::β::γ::δ::ε::ζ::η::θ::ι::κ::μ::ν::ξ::π::ρ::σ::τ::υ::φ::χ::ψ::ω::b60::b61::b62::b63::b64::b65::b66::b67::b68::b69::m:=by rw [←h];rfl
theorem gtS {k:Nat}(h:l[k]?=some d):(g::i::j::o::p::q::r::t::u::v::w::y::z::A::B::C::D::E::F::G::H::I::J::K::L::M::N::O::P::Q::R::S::U::V::W::X::Y::Z::α::β::γ::δ::ε::ζ::η::θ::ι::κ::μ::ν::ξ::π::ρ::σ::τ::υ::φ::χ::ψ::ω::b60::b61::b62::b63::b64::b65::b66::b67::b68::b69::l)[k+70]?=some d:=h
theorem hs0 {h:AH}{n:Nat}(hn:h.length=n) {e0 e:Ent}{l:AH}:(h++(e0::l)).set (n+0) e=h++(e::l):=by subst hn;simp
theorem hl0 {h:AH}{n:Nat}(hn:h.length=n):(h++[]).length=n+0:=by subst hn;simp
theorem ha0 {h:AH}{ e:Ent}:(h++[])++[e]=h++[e]:=by simp
theorem hs1 {h:AH}{n:Nat}(hn:h.length=n) {e0 e1 e:Ent}{l:AH}:(h++(e0::e1::l)).set (n+1) e=h++(e0::e::l):=by subst hn;simp
theorem hl1 {h:AH}{n:Nat}(hn:h.length=n) {e0:Ent}:(h++[e0]).length=n+1:=by subst hn;simp
theorem ha1 {h:AH}{e0 e:Ent}:(h++[e0])++[e]=h++[e0,e]:=by simp
theorem hs2 {h:AH}{n:Nat}(hn:h.length=n) {e0 e1 e2 e:Ent}{l:AH}:(h++(e0::e1::e2::l)).set (n+2) e=h++(e0::e1::e::l):=by subst hn;simp
theorem hl2 {h:AH}{n:Nat}(hn:h.length=n) {e0 e1:Ent}:(h++[e0,e1]).length=n+2:=by subst hn;simp
theorem ha2 {h:AH}{e0 e1 e:Ent}:(h++[e0,e1])++[e]=h++[e0,e1,e]:=by simp
theorem hs3 {h:AH}{n:Nat}(hn:h.length=n) {e0 e1 e2 e3 e:Ent}{l:AH}:(h++(e0::e1::e2::e3::l)).set (n+3) e=h++(e0::e1::e2::e::l):=by subst hn;simp
theorem hl3 {h:AH}{n:Nat}(hn:h.length=n) {e0 e1 e2:Ent}:(h++[e0,e1,e2]).length=n+3:=by subst hn;simp
theorem ha3 {h:AH}{e0 e1 e2 e:Ent}:(h++[e0,e1,e2])++[e]=h++[e0,e1,e2,e]:=by simp
theorem hs4 {h:AH}{n:Nat}(hn:h.length=n) {e0 e1 e2 e3 e4 e:Ent}{l:AH}:(h++(e0::e1::e2::e3::e4::l)).set (n+4) e=h++(e0::e1::e2::e3::e::l):=by subst hn;simp
theorem hl4 {h:AH}{n:Nat}(hn:h.length=n) {e0 e1 e2 e3:Ent}:(h++[e0,e1,e2,e3]).length=n+4:=by subst hn;simp
theorem ha4 {h:AH}{e0 e1 e2 e3 e:Ent}:(h++[e0,e1,e2,e3])++[e]=h++[e0,e1,e2,e3,e]:=by simp
theorem hg5 {h:AH}{n:Nat}(hn:h.length=n) {e0 e1 e2 e3 e4 e5:Ent}{l:AH}:(h++(e0::e1::e2::e3::e4::e5::l))[n+5]?=some e5:=by subst hn;simp
theorem hs5 {h:AH}{n:Nat}(hn:h.length=n) {e0 e1 e2 e3 e4 e5 e:Ent}{l:AH}:(h++(e0::e1::e2::e3::e4::e5::l)).set (n+5) e=h++(e0::e1::e2::e3::e4::e::l):=by subst hn;simp
theorem hl5 {h:AH}{n:Nat}(hn:h.length=n) {e0 e1 e2 e3 e4:Ent}:(h++[e0,e1,e2,e3,e4]).length=n+5:=by subst hn;simp
theorem ha5 {h:AH}{e0 e1 e2 e3 e4 e:Ent}:(h++[e0,e1,e2,e3,e4])++[e]=h++[e0,e1,e2,e3,e4,e]:=by simp
theorem hg6 {h:AH}{n:Nat}(hn:h.length=n) {e0 e1 e2 e3 e4 e5 e6:Ent}{l:AH}:(h++(e0::e1::e2::e3::e4::e5::e6::l))[n+6]?=some e6:=by subst hn;simp
theorem hs6 {h:AH}{n:Nat}(hn:h.length=n) {e0 e1 e2 e3 e4 e5 e6 e:Ent}{l:AH}:(h++(e0::e1::e2::e3::e4::e5::e6::l)).set (n+6) e=h++(e0::e1::e2::e3::e4::e5::e::l):=by subst hn;simp
theorem hl6 {h:AH}{n:Nat}(hn:h.length=n) {e0 e1 e2 e3 e4 e5:Ent}:(h++[e0,e1,e2,e3,e4,e5]).length=n+6:=by subst hn;simp
theorem ha6 {h:AH}{e0 e1 e2 e3 e4 e5 e:Ent}:(h++[e0,e1,e2,e3,e4,e5])++[e]=h++[e0,e1,e2,e3,e4,e5,e]:=by simp
theorem hg7 {h:AH}{n:Nat}(hn:h.length=n) {e0 e1 e2 e3 e4 e5 e6 e7:Ent}{l:AH}:(h++(e0::e1::e2::e3::e4::e5::e6::e7::l))[n+7]?=some e7:=by subst hn;simp
theorem hs7 {h:AH}{n:Nat}(hn:h.length=n) {e0 e1 e2 e3 e4 e5 e6 e7 e:Ent}{l:AH}:(h++(e0::e1::e2::e3::e4::e5::e6::e7::l)).set (n+7) e=h++(e0::e1::e2::e3::e4::e5::e6::e::l):=by subst hn;simp
theorem hl7 {h:AH}{n:Nat}(hn:h.length=n) {e0 e1 e2 e3 e4 e5 e6:Ent}:(h++[e0,e1,e2,e3,e4,e5,e6]).length=n+7:=by subst hn;simp
theorem ha7 {h:AH}{e0 e1 e2 e3 e4 e5 e6 e:Ent}:(h++[e0,e1,e2,e3,e4,e5,e6])++[e]=h++[e0,e1,e2,e3,e4,e5,e6,e]:=by simp
theorem hg8 {h:AH}{n:Nat}(hn:h.length=n) {e0 e1 e2 e3 e4 e5 e6 e7 e8:Ent}{l:AH}:(h++(e0::e1::e2::e3::e4::e5::e6::e7::e8::l))[n+8]?=some e8:=by subst hn;simp
theorem hs8 {h:AH}{n:Nat}(hn:h.length=n) {e0 e1 e2 e3 e4 e5 e6 e7 e8 e:Ent}{l:AH}:(h++(e0::e1::e2::e3::e4::e5::e6::e7::e8::l)).set (n+8) e=h++(e0::e1::e2::e3::e4::e5::e6::e7::e::l):=by subst hn;simp
theorem hl8 {h:AH}{n:Nat}(hn:h.length=n) {e0 e1 e2 e3 e4 e5 e6 e7:Ent}:(h++[e0,e1,e2,e3,e4,e5,e6,e7]).length=n+8:=by subst hn;simp
theorem ha8 {h:AH}{e0 e1 e2 e3 e4 e5 e6 e7 e:Ent}:(h++[e0,e1,e2,e3,e4,e5,e6,e7])++[e]=h++[e0,e1,e2,e3,e4,e5,e6,e7,e]:=by simp
theorem hg9 {h:AH}{n:Nat}(hn:h.length=n) {e0 e1 e2 e3 e4 e5 e6 e7 e8 e9:Ent}{l:AH}:(h++(e0::e1::e2::e3::e4::e5::e6::e7::e8::e9::l))[n+9]?=some e9:=by subst hn;simp
theorem hl9 {h:AH}{n:Nat}(hn:h.length=n) {e0 e1 e2 e3 e4 e5 e6 e7 e8:Ent}:(h++[e0,e1,e2,e3,e4,e5,e6,e7,e8]).length=n+9:=by subst hn;simp
theorem ha9 {h:AH}{e0 e1 e2 e3 e4 e5 e6 e7 e8 e:Ent}:(h++[e0,e1,e2,e3,e4,e5,e6,e7,e8])++[e]=h++[e0,e1,e2,e3,e4,e5,e6,e7,e8,e]:=by simp
theorem dp0 {l:List AV}:(l).drop 0=l:=rfl
theorem dp1 {g:AV}{l:List AV}:(g::l).drop 1=l:=rfl
theorem dp2 {g i:AV}{l:List AV}:(g::i::l).drop 2=l:=rfl
theorem lki {T:List AV}{k:IntKind}{n:Int}:aEval T (.const (.int k n)) = .v (.int k n):=rfl
theorem lkb {T:List AV}{b:Bool}:aEval T (.const (.bool b))=bv b:=rfl
theorem lks {T:List AV}{s:ByteArray}:aEval T (.const (.string s))=sv s:=rfl
theorem lkn {T:List AV}:aEval T (.const (.slice none 0 0)) = .sl 0 0 true []:=rfl
theorem lkf {T:List AV}{f:FuncId}:aEval T (.func f) = .v (.func (.func f) #[] #[]):=rfl
theorem ptn {T:List AV}{c:AV}:aPut T none c=T:=rfl
theorem mp0 {T:List AV}:([]:List Operand).map (aEval T)=[]:=rfl
theorem mp1 {T:List AV}{x:Operand}{a:AV}{xs:List Operand}{ats:List AV}(h:aEval T x=a) (hs:xs.map (aEval T)=ats):(x::xs).map (aEval T)=a::ats:=by rw [List.map_cons,h,hs]
end
end Go.Ab
end
section
namespace Go.Ab
section
variable {P : Program} {n0 : Nat}
theorem AX.thn_mono {N N':List AV→AH→Prop}{Q Q':AX→List AV→AH→Prop}(hn : ∀ T h,N T h→N' T h) (hq : ∀ x T h,Q x T h→Q' x T h) : ∀ x T h,AX.thn N Q x T h→AX.thn N' Q' x T h:=by
 intro x T h hx
 cases x <;> simp only [AX.thn] at hx ⊢ <;> first | exact hn _ _ hx | exact hq _ _ _ hx
theorem aCall_mono {f:AV}{xs:List AV}{h:AH}{R R':AE→AH→Prop}(hr : ∀ r h,R r h→R' r h) (hc:aCall P f xs h R):aCall P f xs h R':=by
 unfold aCall at *
 split
 ·exact ⟨hc.1,hc.2.1,hc.2.2.mono hr⟩
 ·exact hc.mono hr
 ·rename_i h1 h2
  split at hc
  ·exact absurd rfl (h1 _ _ _)
  ·exact absurd rfl (h2 _ _)
  ·exact hc
theorem astep_mono {Kp Kp':AV→List AV→AH→Prop}{K K':List AV→AH→Prop}(hp : ∀ c T h,Kp c T h→Kp' c T h) (hk : ∀ T h,K T h→K' T h) {o:AOper}{T:List AV}{h:AH}(hs:astep P Kp o T h K):astep P Kp' o T h K':=by
 unfold astep at *
 split
 ·rename_i heq
  rw [heq] at hs
  refine aCall_mono ?_ hs
  intro r h' hr
  cases r <;> first | exact hk _ _ hr | exact hp _ _ _ hr
 ·rename_i heq
  rw [heq] at hs
  dsimp only at hs
  split at hs
  ·exact hp _ _ _ hs
  ·exact hs.elim
 ·rename_i heq
  rw [heq] at hs
  dsimp only at hs
  split at hs <;> rename_i hx
  ·exact fun b hb=>hk _ _ (hs b hb)
  ·exact hs.elim
 ·rename_i h1 h2 h3
  have hs':(match aval h (aEval T) o.op with
   | some c=>K (aPut T o.dst c) h
   | none=>match aeff h (aEval T) o.op with
    | some (c,h')=>K (aPut T o.dst c) h'
    | none=>False):=by
   split at hs
   ·rename_i heq;exact absurd heq (h1 _ _)
   ·rename_i heq;exact absurd heq (h2 _)
   ·rename_i heq;exact absurd heq (h3 _ _)
   ·exact hs
  cases hv:aval h (aEval T) o.op with
  | some c=>rw [hv] at hs';exact hk _ _ hs'
  | none =>
   rw [hv] at hs'
   cases hv2:aeff h (aEval T) o.op with
   | some p=>rw [hv2] at hs';exact hk _ _ hs'
   | none=>rw [hv2] at hs';exact hs'
theorem arun_mono {Kp Kp':AV→List AV→AH→Prop}{K K':List AV→AH→Prop}(hp : ∀ c T h,Kp c T h→Kp' c T h) (hk : ∀ T h,K T h→K' T h) : ∀ (l:List AOper) (T:List AV) (h:AH),arun P Kp l T h K→arun P Kp' l T h K'
 | [],T,h,hr=>hk _ _ hr
 | o::l,T,h,hr=>agd_mono (fun b ⟨h1,h2⟩=>⟨fun e=>astep_mono hp (fun T h hr=>arun_mono hp hk l T h hr) (h1 e),fun e=>arun_mono hp hk l _ _ (h2 e)⟩) hr
theorem adstep_mono {rs:List Nat}{K K':List AV→AH→Prop}(hk : ∀ T h,K T h→K' T h) {h0:AH}{o:AOper}{T:List AV}{ents:AH}(hs:adstep P rs h0 o T ents K):adstep P rs h0 o T ents K':=by
 unfold adstep at *
 split
 ·rename_i heq
  rw [heq] at hs
  obtain ⟨c,h1,h2⟩:=hs
  exact ⟨c,h1,hk _ _ h2⟩
 ·rename_i agg sz x heq
  rw [heq] at hs
  dsimp only at hs
  split at hs <;> rename_i hx
  ·split at hs <;> rename_i hy
   ·exact hk _ _ hs
   ·exact hs.elim
  ·obtain ⟨ty,s,cells,c,h1,h2,h3,h4⟩:=hs
   exact ⟨ty,s,cells,c,h1,h2,h3,hk _ _ h4⟩
  ·exact hs.elim
 ·rename_i h1 h1b
  have hs':(match aval h0 (aEval T) o.op with
   | some c=>K (aPut T o.dst c) ents
   | none => ∃ c ent,(aallo (h0.length+ents.length) (aEval T) o.op=some (c,ent)∨aalloI (h0.length+ents.length) (aEval T) o.op=some (c,ent))∧K (aPut T o.dst c) (ents++[ent])):=by
   split at hs
   ·rename_i heq;exact absurd heq (h1 _ _)
   ·rename_i heq;exact absurd heq (h1b _ _ _)
   ·exact hs
  cases hv:aval h0 (aEval T) o.op with
  | some c=>rw [hv] at hs';exact hk _ _ hs'
  | none =>
   rw [hv] at hs'
   obtain ⟨c,ent,h1,h2⟩:=hs'
   exact ⟨c,ent,h1,hk _ _ h2⟩
theorem adrun_mono {rs:List Nat}{K K':List AV→AH→Prop}(hk : ∀ T h,K T h→K' T h) {h0:AH} : ∀ (l:List AOper) (T:List AV) (h:AH),adrun P rs h0 l T h K→adrun P rs h0 l T h K'
 | [],T,h,hr=>hk _ _ hr
 | o::l,T,h,hr=>agd_mono (fun b ⟨h1,h2⟩=>⟨fun e=>adstep_mono (fun T h hr=>adrun_mono hk l T h hr) (h1 e),fun e=>adrun_mono hk l _ _ (h2 e)⟩) hr
theorem astepK_mono {rs:List Nat}{K K':List AV→AH→Prop}(hk : ∀ T h,K T h→K' T h) {o:AOper}{T:List AV}{h:AH}(hs:astepK P rs o T h K):astepK P rs o T h K':=by
 unfold astepK at *
 split
 ·rename_i heq
  rw [heq] at hs
  obtain ⟨c,h',h1,h2,h3⟩:=hs
  exact ⟨c,h',h1,h2,hk _ _ h3⟩
 ·rename_i heq;rw [heq] at hs;exact hs
 ·rename_i heq;rw [heq] at hs;exact hs
 ·rename_i h1 h2 h3
  have hs':(match aval h (aEval T) o.op with
   | some c=>K (aPut T o.dst c) h
   | none=>match aeff h (aEval T) o.op with
    | some (c,h')=>(∀ id∈rs,h'[id]?=h[id]?)∧K (aPut T o.dst c) h'
    | none=>False):=by
   split at hs
   ·rename_i heq;exact absurd heq (h1 _ _)
   ·rename_i heq;exact absurd heq (h2 _)
   ·rename_i heq;exact absurd heq (h3 _ _)
   ·exact hs
  cases hv:aval h (aEval T) o.op with
  | some c=>rw [hv] at hs';exact hk _ _ hs'
  | none =>
   rw [hv] at hs'
   cases hv2:aeff h (aEval T) o.op with
   | some p=>rw [hv2] at hs';exact ⟨hs'.1,hk _ _ hs'.2⟩
   | none=>rw [hv2] at hs';exact hs'
theorem arunK_mono {rs:List Nat}{K K':List AV→AH→Prop}(hk : ∀ T h,K T h→K' T h) : ∀ (q:List Bool) (l:List AOper) (T:List AV) (h:AH),arunK P rs q l T h K→arunK P rs q l T h K'
 | q,[],T,h,hr=>by cases q <;> exact hk _ _ hr
 | q,o::l,T,h,hr=>agd_mono (fun b ⟨h1,h2⟩=>⟨fun e=>astepK_mono (fun T h hr=>arunK_mono hk q.tail l T h hr) (h1 e),fun e=>arunK_mono hk q.tail l _ _ (h2 e)⟩) hr
theorem austep_mono {K K':Bool×List Nat→List AV→AH→Prop}(hk : ∀ t T h,K t T h→K' t T h) {h0:AH}{o:AOper}{T:List AV}{h:AH}(hs:austep P h0 o T h K):austep P h0 o T h K':=by
 unfold austep at *
 split
 ·rename_i heq
  rw [heq] at hs
  rcases hs with ⟨c,a,b⟩ | ⟨c,a,b,d⟩ | ⟨c,n,i,e,a,b,d,k⟩
  ·exact .inl ⟨c,a,hk _ _ _ b⟩
  ·exact .inr (.inl ⟨c,a,b,hk _ _ _ d⟩)
  ·exact .inr (.inr ⟨c,n,i,e,a,b,d,hk _ _ _ k⟩)
 ·rename_i heq;rw [heq] at hs;exact hs
 ·rename_i heq;rw [heq] at hs;exact hs
 ·rename_i heq;rw [heq] at hs;exact hs
 ·rename_i h1 h2 h3 h4
  split at hs
  ·rename_i heq;exact absurd heq (h1 _ _)
  ·rename_i heq;exact absurd heq (h2 _)
  ·rename_i heq;exact absurd heq (h3 _ _)
  ·rename_i heq;exact absurd heq (h4 _ _ _)
  ·rcases hs with ⟨c,a,b⟩ | ⟨c,a,b,d⟩ | ⟨c,n,i,e,a,b⟩ | ⟨c,e,a,b⟩
   ·exact .inl ⟨c,a,hk _ _ _ b⟩
   ·exact .inr (.inl ⟨c,a,b,hk _ _ _ d⟩)
   ·exact .inr (.inr (.inl ⟨c,n,i,e,a,hk _ _ _ b⟩))
   ·exact .inr (.inr (.inr ⟨c,e,a,hk _ _ _ b⟩))
theorem adrunU_mono {K K':List AV→AH→Prop}(hk : ∀ T h,K T h→K' T h) {h0:AH} : ∀ (q:List (List Nat)) (l:List AOper) (tc:List (Bool×List Nat)) (T:List AV) (h:AH),adrunU P h0 q l tc T h K→adrunU P h0 q l tc T h K'
 | q,[],tc,T,h,hr=>by cases q <;> exact hk _ _ hr
 | q,o::l,tc,T,h,hr=>agd_mono (fun b ⟨h1,h2⟩=>⟨fun e=>austep_mono (fun t T h hr=>⟨hr.1,adrunU_mono hk q.tail l _ T h hr.2⟩) (h1 e),fun e=>adrunU_mono hk q.tail l _ _ _ (h2 e)⟩) hr
theorem aw_mono : ∀ (c:AC) {Q Q':AX→List AV→AH→Prop},(∀ x T h,Q x T h→Q' x T h) → ∀ T h,aw P n0 c Q T h→aw P n0 c Q' T h:=by
 intro c
 induction c with
 | skip=>intro Q Q' hq T h hw;exact hq _ _ _ hw
 | reg al=>intro Q Q' hq T h hw;exact arun_mono (fun c T h hk=>hq _ _ _ hk) (fun T h hk=>hq _ _ _ hk) _ _ _ hw
 | drw b q t =>
  intro Q Q' hq T h hw
  obtain ⟨rs,hw⟩:=hw
  exact ⟨rs,adrun_mono (fun T h hk=>arunK_mono (fun T h hk=>hq _ _ _ hk) _ _ _ _ hk) _ _ _ hw⟩
 | drwU q al=>intro Q Q' hq T h hw;exact adrunU_mono (fun T h hk=>hq _ _ _ hk) _ _ _ _ _ hw
 | orPan a x f al d0 iha =>
  intro Q Q' hq T h hw
  rcases hw with hw | ⟨cp,Pp,c,h1,h2,h3⟩
  ·exact .inl (iha hq _ _ hw)
  ·exact .inr ⟨cp,Pp,c,h1,h2,fun T'' h'' hp=>hq _ _ _ (h3 T'' h'' hp)⟩
 | seq a b iha ihb =>
  intro Q Q' hq T h hw
  exact iha (AX.thn_mono (fun T h ⟨T1,h1,hl,hk⟩=>⟨T1,h1,hl,ihb hq _ _ hk⟩) hq) _ _ hw
 | cond c a b iha ihb =>
  intro Q Q' hq T h hw
  simp only [aw] at hw ⊢
  split at hw <;> rename_i hx <;> try (exact hw.elim)
  exact ⟨fun e=>iha hq _ _ (hw.1 e),fun e=>ihb hq _ _ (hw.2 e)⟩
 | block id a iha =>
  intro Q Q' hq T h hw
  refine iha ?_ _ _ hw
  intro x T h hx
  cases x <;> simp only [AX.blk] at hx ⊢ <;> try (exact hq _ _ _ hx)
  split at hx
  ·rename_i e;rw [if_pos e];exact hq _ _ _ hx
  ·rename_i e;rw [if_neg e];exact hq _ _ _ hx
 | loop a iha =>
  intro Q Q' hq T h hw
  obtain ⟨I,n,h0,hr⟩:=hw
  exact ⟨I,n,h0,fun n T h hI=>iha (AX.thn_mono (fun _ _ hk=>hk) hq) _ _ (hr n T h hI)⟩
 | exit id=>intro Q Q' hq T h hw;exact hq _ _ _ hw
 | ret=>intro Q Q' hq T h hw;exact hq _ _ _ hw
def Wk (c d:AV):Prop := ∀ (w:World) (g:Gh) (v:Value),Rep w g c v→Rep w g d v
theorem Wk.refl (c:AV):Wk c c:=fun _ _ _ h=>h
theorem Wk.any (c:AV):Wk c .any:=fun _ _ _ _=>by simp only [Rep]
theorem Wk.trans {a b c:AV}(h:Wk a b) (k:Wk b c):Wk a c:=fun w g v x=>k w g v (h w g v x)
theorem Wk.nil {st st':Nat}{full:Bool}:Wk (.sl 0 st full []) (.sl 0 st' full []):=fun w g v h=>by
 simp only [Rep] at h ⊢
 obtain ⟨_,A,cap,h1,h2,h3,h4,h5,_⟩:=h
 exact ⟨by simp,A,cap,h1,h2,h3,h4,h5,fun h=>absurd rfl h⟩
theorem Wk.full {n st:Nat}{full:Bool}{cs:List AV}:Wk (.sl n st full cs) (.sl n st false cs):=fun w g v h=>by
 simp only [Rep] at h ⊢
 obtain ⟨h0,A,cap,h1,h2,h3,h4,h5,h6⟩:=h
 exact ⟨h0,A,cap,h1,h2,h3,fun h=>(by cases h),h5,h6⟩
theorem Wk.nilF {st st':Nat}{full:Bool}:Wk (.sl 0 st full []) (.sl 0 st' false []):=Wk.nil.trans Wk.full
def WkL:List AV→List AV→Prop
 | [],[]=>True
 | c::cs,d::ds=>Wk c d∧WkL cs ds
 | _,_=>False
theorem WkL.refl : ∀ l,WkL l l
 | []=>trivial
 | c::cs=>⟨Wk.refl c,WkL.refl cs⟩
theorem RepL.wk {w:World}{g:Gh} : ∀ {cs ds:List AV}{vs:List Value},WkL cs ds→RepL w g cs vs→RepL w g ds vs
 | [],[],vs,_,h=>h
 | c::cs,d::ds,vs,hs,h=>by
  simp only [RepL] at h ⊢
  obtain ⟨u,us,e,h1,h2⟩:=h
  exact ⟨u,us,e,hs.1 _ _ _ h1,RepL.wk hs.2 h2⟩
 | [],_::_,_,hs,_=>hs.elim
 | _::_,[],_,hs,_=>hs.elim
theorem Wk.agg {cs ds:List AV}(h:WkL cs ds):Wk (.agg cs) (.agg ds):=fun w g v hr=>by
 simp only [Rep] at hr ⊢
 obtain ⟨vs,e,hc⟩:=hr
 exact ⟨vs,e,hc.wk h⟩
theorem Wk.tup {cs ds:List AV}(h:WkL cs ds):Wk (.tup cs) (.tup ds):=fun w g v hr=>by
 simp only [Rep] at hr ⊢
 obtain ⟨vs,e,hc⟩:=hr
 exact ⟨vs,e,hc.wk h⟩
theorem ALe.wk {T T1:List AV}{h:AH}(hs:WkL T T1):ALe n0 T h T1 h:=fun w0 S0 g0 a w g st=>⟨g,st.tmps.wk hs,st.defers,st.sim,st.fr,st.le,st.bd,st.ow⟩
theorem ACalls.wk {f:FuncId}{as1 bs:List AV}{h:AH}{R:AE→AH→Prop}(hw:WkL as1 bs) (hc:ACalls P f bs h R):ACalls P f as1 h R:=⟨hc.1,fun w g vs hs ha=>hc.2 w g vs hs (ha.wk hw)⟩
section code
variable {Kp : AV → List AV → AH → Prop} {K N : List AV → AH → Prop} {Q : AX → List AV → AH → Prop} {T : List AV} {h : AH} {a b : AC} {i j : Nat}
theorem s_nil (hk:K T h):arun P Kp [] T h K:=hk
theorem d_nil {rs:List Nat}{h0:AH}(hk:K T h):adrun P rs h0 [] T h K:=hk
theorem w_skip (hq:Q .normal T h):aw P n0 .skip Q T h:=hq
theorem w_exit (hq:Q (.exit i) T h):aw P n0 (.exit i) Q T h:=hq
theorem w_rets (hq:Q .ret T h):aw P n0 .ret Q T h:=hq
theorem n_seq (hr:aw P n0 b Q T h):AX.thn (fun T h => ∃ T1 h1,ALe n0 T h T1 h1∧aw P n0 b Q T1 h1) Q .normal T h:=⟨T,h,ALe.refl,hr⟩
theorem n_seqw {T1:List AV}{h1:AH}(hl:ALe n0 T h T1 h1) (hr:aw P n0 b Q T1 h1):AX.thn (fun T h => ∃ T1 h1,ALe n0 T h T1 h1∧aw P n0 b Q T1 h1) Q .normal T h:=⟨T1,h1,hl,hr⟩
theorem n_thn (hr:N T h):AX.thn N Q .normal T h:=hr
theorem n_blk (hr:Q .normal T h):AX.blk i Q .normal T h:=hr
theorem x_thn (hr:Q (.exit i) T h):AX.thn N Q (.exit i) T h:=hr
theorem x_blk (hr:Q .normal T h):AX.blk i Q (.exit i) T h:=by simp only [AX.blk,if_true];exact hr
theorem r_thn (hr:Q .ret T h):AX.thn N Q .ret T h:=hr
theorem r_blk (hr:Q .ret T h):AX.blk i Q .ret T h:=hr
theorem w_condB {c:Operand}{t:Bool}(hc:aEval T c=bv t) (hy:t=true→aw P n0 a Q T h) (hn:t=false→aw P n0 b Q T h):aw P n0 (.cond c a b) Q T h:=by
 simp only [aw,hc]
 exact ⟨hy,hn⟩
theorem set_self {t:Nat}{c:AV}(ht:T[t]?=some c):T.set t c=T:=by
 apply List.ext_getElem?
 intro j
 by_cases hj:j=t
 ·subst hj
  have:j<T.length:=(List.getElem?_eq_some_iff.1 ht).1
  rw [List.getElem?_set_self this,ht]
 ·rw [List.getElem?_set_ne (Ne.symm hj)]
theorem s_splitB {t:Nat}{p:Bool}{T1 T2:List AV}{al:List AOper}(ht:T[t]?=some (bv p)) (hp1:aPut T (some t) (bv true)=T1) (hp2:aPut T (some t) (bv false)=T2) (hy:p=true→arun P Kp al T1 h K) (hn:p=false→arun P Kp al T2 h K):arun P Kp al T h K:=by
 have hs:=set_self ht
 cases p
 ·rw [←hs];have:=hn rfl;rw [←hp2] at this;exact this
 ·rw [←hs];have:=hy rfl;rw [←hp1] at this;exact this
theorem d_splitB {rs:List Nat}{h0:AH}{t:Nat}{p:Bool}{T1 T2:List AV}{al:List AOper}(ht:T[t]?=some (bv p)) (hp1:aPut T (some t) (bv true)=T1) (hp2:aPut T (some t) (bv false)=T2) (hy:p=true→adrun P rs h0 al T1 h K) (hn:p=false→adrun P rs h0 al T2 h K):adrun P rs h0 al T h K:=by
 have hs:=set_self ht
 cases p
 ·rw [←hs];have:=hn rfl;rw [←hp2] at this;exact this
 ·rw [←hs];have:=hy rfl;rw [←hp1] at this;exact this
theorem s_known {t:Nat}{p b:Bool}{T1:List AV}{al:List AOper}(ht:T[t]?=some (bv p)) (hb:p=b) (hp1:aPut T (some t) (bv b)=T1) (hy:arun P Kp al T1 h K):arun P Kp al T h K:=by
 have hs:=set_self ht
 subst hb
 rw [←hs];rw [←hp1] at hy;exact hy
theorem d_known {rs:List Nat}{h0:AH}{t:Nat}{p b:Bool}{T1:List AV}{al:List AOper}(ht:T[t]?=some (bv p)) (hb:p=b) (hp1:aPut T (some t) (bv b)=T1) (hy:adrun P rs h0 al T1 h K):adrun P rs h0 al T h K:=by
 have hs:=set_self ht
 subst hb
 rw [←hs];rw [←hp1] at hy;exact hy
theorem w_condK {c:Operand}{p:Bool}(hc:aEval T c=bv p) (hp:p=true) (hy:aw P n0 a Q T h):aw P n0 (.cond c a b) Q T h:=w_condT (by rw [hc,hp]) hy
theorem w_condKF {c:Operand}{p:Bool}(hc:aEval T c=bv p) (hp:p=false) (hy:aw P n0 b Q T h):aw P n0 (.cond c a b) Q T h:=w_condF (by rw [hc,hp]) hy
theorem w_seqc {ι:Type}(S:ι→List AV×AH) (J:ι→Prop) (ha:aw P n0 a (AX.thn (fun T h => ∃ i,J i∧ALe n0 T h (S i).1 (S i).2) Q) T h) (hb : ∀ i,J i→aw P n0 b Q (S i).1 (S i).2):aw P n0 (.seq a b) Q T h :=
 aw_mono a (AX.thn_mono (fun T h ⟨i,hi,hl⟩=>⟨_,_,hl,hb i hi⟩) (fun _ _ _ hq=>hq)) T h ha
def setsT:List AV→List (Nat×AV)→List AV
 | T,[]=>T
 | T,(k,c)::ps=>setsT (T.set k c) ps
def setsE:AH→List (Nat×Ent)→AH
 | E,[]=>E
 | E,(k,e)::ps=>setsE (E.set k e) ps
theorem w_seqC {b:AC}{E:AH}{h0:AH}{ι:Type}(f:ι→List (Nat×AV)) (g:ι→List (Nat×Ent)) (J:ι→Prop) (ha:aw P n0 a (AX.thn (fun T' h' => ∃ i,J i∧ALe n0 T' h' (setsT T (f i)) (h0++setsE E (g i))) Q) T (h0++E)) (hb : ∀ i,J i→aw P n0 b Q (setsT T (f i)) (h0++setsE E (g i))):aw P n0 (.seq a b) Q T (h0++E) :=
 w_seqc (fun i=>(setsT T (f i),h0++setsE E (g i))) J ha hb
theorem w_loop {E:AH}{h0:AH}{ι:Type}(f:ι→List (Nat×AV)) (g:ι→List (Nat×Ent)) (I:ι→Prop) (m:ι→Nat) (i0:ι) (hI:I i0) (hl:ALe n0 T (h0++E) (setsT T (f i0)) (h0++setsE E (g i0)))
  (round : ∀ i,I i→aw P n0 a (AX.thn (LoopTo n0 (fun i=>(setsT T (f i),h0++setsE E (g i))) I m i) Q) (setsT T (f i)) (h0++setsE E (g i))):aw P n0 (.loop a) Q T (h0++E) :=
 aw_loop (fun i=>(setsT T (f i),h0++setsE E (g i))) I m i0 hI hl round
theorem ALe.back {T T1:List AV}{h0 E E1 x:AH}{k:Nat}(hs:WkL T T1) (he:E=E1++x) (hk:h0.length+E1.length=k) (hn:n0≤k) (hT:AV.ltL k T1=true) (hh : ∀ e∈h0,e.lt k=true) (hE:E1.all (Ent.lt k)=true):ALe n0 T (h0++E) T1 (h0++E1):=by
 subst he hk
 refine (ALe.wk hs).trans ?_
 have hl:(h0++E1).length=h0.length+E1.length:=by simp
 rw [←List.append_assoc]
 refine ALe.cut (by rw [hl];exact hn) (by rw [hl];exact hT) ?_
 rw [hl]
 intro e he
 rcases List.mem_append.1 he with h1 | h1
 ·exact hh e h1
 ·exact List.all_eq_true.1 hE e h1
theorem ALe.same {T T1:List AV}{h h1:AH}(hs:WkL T T1) (he:h=h1):ALe n0 T h T1 h1:=by subst he;exact ALe.wk hs
theorem wk1 {c d:AV}{cs ds:List AV}(h:d=c) (hs:WkL cs ds):WkL (c::cs) (d::ds):=⟨by subst h;exact Wk.refl _,hs⟩
theorem wka {c:AV}{cs ds:List AV}(hs:WkL cs ds):WkL (c::cs) (.any::ds):=⟨Wk.any _,hs⟩
theorem wkw {c d:AV}{cs ds:List AV}(h:Wk c d) (hs:WkL cs ds):WkL (c::cs) (d::ds):=⟨h,hs⟩
theorem wk0:WkL [] []:=trivial
theorem ivx {a b:Int}(h:a=b):iv a=iv b:=by rw [h]
theorem hga {l:AH}{n k:Nat}{e:Ent}(hn:h.length=n) (hk:l[k]?=some e):(h++l)[n+k]?=some e:=by subst hn;rw [List.getElem?_append_right (by omega),Nat.add_sub_cancel_left,hk]
theorem ltw {n m:Nat}(h:n≤m) {l:AH}(hl : ∀ e∈l,e.lt n=true) : ∀ e∈l,e.lt m=true:=fun e he=>Ent.lt_mono h (hl e he)
end code
section run
variable {Kp : AV → List AV → AH → Prop} {K : List AV → AH → Prop} {rest : List AOper} {T T' : List AV} {h h' h0 ents ents' : AH} {d : Option Nat} {op : AOp} {c : AV}
theorem s_eqn {neg:Bool}{x:Operand}{n st:Nat}{full:Bool}{cs:List AV}{T1:Bool→List AV}(hx:aEval T x = .sl n st full cs) (hp : ∀ b,aPut T d (bv b)=T1 b) (hk : ∀ b,(0<n→b=neg)→arun P Kp rest (T1 b) h K):arun P Kp (⟨d,none,.eqn neg x⟩::rest) T h K:=by
 refine ⟨fun _=>?_,fun h=>by cases h⟩
 simp only [astep,hx]
 intro b hb
 rw [hp]
 exact hk b hb
theorem s_callT {f:FuncId}{x:Operand}{xs:List Operand}{as1:List AV}(hf:aEval T x = .v (.func (.func f) #[] #[])) (hx:xs.map (aEval T)=as1) (hc:ACalls P f as1 h fun r h'=>h'=h∧r = .ret c) (hp:aPut T d c=T') (hk:arun P Kp rest T' h K):arun P Kp (⟨d,none,.call x xs⟩::rest) T h K:=by
 subst hp hx
 refine ⟨fun _=>?_,fun h=>by cases h⟩
 simp only [astep,hf,aCall]
 refine ⟨trivial,trivial,hc.mono ?_⟩
 rintro r h' ⟨rfl,rfl⟩
 exact hk
theorem s_callh {f:FuncId}{xs:List Operand}{as1:List AV}(hx:xs.map (aEval T)=as1) (hc:ACalls P f as1 h fun r h''=>r = .ret c∧h''=h') (hp:aPut T d c=T') (hk:arun P Kp rest T' h' K):arun P Kp (⟨d,none,.call (.func f) xs⟩::rest) T h K:=by
 subst hp
 refine s_call hx hc ?_
 rintro r h' ⟨rfl,rfl⟩
 exact hk
theorem s_calla {f:FuncId}{xs:List Operand}{as1 cells:List AV}{ty st id m:Nat}{H:Nat→AH}{T1:Nat→List AV}(hx:xs.map (aEval T)=as1) (hc:ACalls P f as1 h fun r h'' => ∃ v,r = .ret (.own h.length v m)∧h''=h++[.mk v ty st cells]) (hl:h.length=id) (hh : ∀ v,h++[.mk v ty st cells]=H v) (hp : ∀ v,aPut T d (.own id v m)=T1 v) (hk : ∀ v,arun P Kp rest (T1 v) (H v) K):arun P Kp (⟨d,none,.call (.func f) xs⟩::rest) T h K:=by
 subst hl
 refine s_call hx hc ?_
 rintro r h' ⟨v,rfl,rfl⟩
 have:=hk v
 rw [←hp,←hh] at this
 exact this
theorem s_call2 {f:FuncId}{xs:List Operand}{as1:List AV}{e e2:Ent}{id id2:Nat}{h1:AH}(hx:xs.map (aEval T)=as1) (hc:ACalls P f as1 h fun r h''=>r = .ret c∧h''=(h.set id e).set id2 e2) (hh:h.set id e=h1) (hh2:h1.set id2 e2=h') (hp:aPut T d c=T') (hk:arun P Kp rest T' h' K):arun P Kp (⟨d,none,.call (.func f) xs⟩::rest) T h K:=by
 subst hp hh2 hh
 refine s_call hx hc ?_
 rintro r h' ⟨rfl,rfl⟩
 exact hk
theorem s_calls {f:FuncId}{xs:List Operand}{as1:List AV}{e:Ent}{id:Nat}(hx:xs.map (aEval T)=as1) (hc:ACalls P f as1 h fun r h''=>r = .ret c∧h''=h.set id e) (hh:h.set id e=h') (hp:aPut T d c=T') (hk:arun P Kp rest T' h' K):arun P Kp (⟨d,none,.call (.func f) xs⟩::rest) T h K:=by
 subst hp hh
 refine s_call hx hc ?_
 rintro r h' ⟨rfl,rfl⟩
 exact hk
theorem k_calls {m:Bool}{q:List Bool}{rs:List Nat}{f:FuncId}{xs:List Operand}{as1:List AV}{e:Ent}{id:Nat}(hx:xs.map (aEval T)=as1) (hc:ACalls P f as1 h fun r h''=>r = .ret c∧h''=h.set id e) (hh:h.set id e=h') (hr : ∀ id∈(bif m then rs else []),h'[id]?=h[id]?) (hp:aPut T d c=T') (hk:arunK P rs q rest T' h' K):arunK P rs (m::q) (⟨d,none,.call (.func f) xs⟩::rest) T h K:=by
 subst hh
 exact k_call hx hc hr hp hk
end run
section more
variable {Q : AX → List AV → AH → Prop} {T : List AV} {h : AH} {a : AC}
theorem aw_heap {c:AC}{h1:AH}(he:h1=h) (hw:aw P n0 c Q T h1):aw P n0 c Q T h:=by subst he;exact hw
theorem w_loopH {ι:Type}(f:ι→List (Nat×AV)) (H:ι→AH) (I:ι→Prop) (m:ι→Nat) (i0:ι) (hI:I i0) (hl:ALe n0 T h (setsT T (f i0)) (H i0))
  (round : ∀ i,I i→aw P n0 a (AX.thn (LoopTo n0 (fun i=>(setsT T (f i),H i)) I m i) Q) (setsT T (f i)) (H i)):aw P n0 (.loop a) Q T h :=
 aw_loop (fun i=>(setsT T (f i),H i)) I m i0 hI hl round
theorem hx_at {h E:AH}{id:Nat}{e:Ent}(hid:id<h.length):(h.set id e++E)[id]?=some e:=by
 rw [List.getElem?_append_left (by simpa using hid),List.getElem?_set_self hid]
theorem hx_set {h E:AH}{id:Nat}{e e':Ent}(hid:id<h.length):(h.set id e++E).set id e'=h.set id e'++E:=by
 rw [List.set_append_left _ _ (by simpa using hid),List.set_set]
theorem hx_self {h:AH}{id:Nat}{e:Ent}(he:h[id]?=some e):h.set id e=h:=by
 apply List.ext_getElem?
 intro j
 by_cases hj:j=id
 ·subst hj
  have:j<h.length:=(List.getElem?_eq_some_iff.1 he).1
  rw [List.getElem?_set_self this,he]
 ·rw [List.getElem?_set_ne (Ne.symm hj)]
theorem hx_len {h:AH}{id n:Nat}{e:Ent}(hn:h.length=n):(h.set id e).length=n:=by simpa using hn
theorem hx_lt {h:AH}{id n:Nat}{e:Ent}(hlt : ∀ x∈h,x.lt n=true) (he:e.lt n=true) : ∀ x∈h.set id e,x.lt n=true:=by
 intro x hx
 rcases List.mem_or_eq_of_mem_set hx with h1 | rfl
 ·exact hlt x h1
 ·exact he
theorem ALe.iceR {T T':List AV}{h h':AH}{id ver ty s d n:Nat}{cells cs:List AV}(hi:h[id]?=some (.mk ver ty s cells)) (hd:T[d]?=some (.own id ver n)) (hc:cells.take (n*s)=cs) (hl:n*s≤cells.length) (hp:aPut T (some d) (.sl n s false cs)=T') (hh:h.set id .gone=h'):ALe n0 T h T' h':=by
 subst hp hh hc
 exact ALe.ice hi hd hl
theorem ALe.iceCellR {T:List AV}{h h1 h2:AH}{id j ver ty s n k v' t' s':Nat}{cells cs cs' ds:List AV}(hi:h[id]?=some (.mk ver ty s cells)) (hj:h[j]?=some (.mk v' t' s' cs)) (hne:j≠id) (hk:cs[k]?=some (.own id ver n)) (hc:cells.take (n*s)=ds) (hl:n*s≤cells.length) (hp:aPut cs (some k) (.sl n s false ds)=cs') (e1:h.set id .gone=h1) (e2:h1.set j (.mk v' t' s' cs')=h2):ALe n0 T h T h2:=by
 subst e2 e1 hp hc
 exact ALe.iceCell hi hj hne hk hl
theorem ALe.iceN {T T':List AV}{h h':AH}{id ver ty s d n n':Nat}{cells cs:List AV}(hi:h[id]?=some (.mk ver ty s cells)) (hd:T[d]?=some (.own id ver n)) (hc:cells.take (n*s)=cs) (hl:n*s≤cells.length) (hn:n=n') (hp:aPut T (some d) (.sl n' s false cs)=T') (hh:h.set id .gone=h'):ALe n0 T h T' h':=by
 subst hn
 exact ALe.iceR hi hd hc hl hp hh
theorem SimH.tell1 {w:World}{g:Gh}{h:AH}(hs:SimH w g h) {id ver ty s k:Nat}{cells:List AV}{c c':AV}(hi:h[id]?=some (.mk ver ty s cells)) (hk:cells[k]?=some c)
  (hc : ∀ b cap u,g.loc id ver=some (some ⟨b,0,none⟩,cap)→w.cell? ⟨b,k,none⟩=some u→Rep w g c u→Rep w g c' u) :
  SimH w g (h.set id (.mk ver ty s (cells.set k c'))) ∧ ∀ j,Ow g (h.set id (.mk ver ty s (cells.set k c'))) j→Ow g h j:=by
 have hid:id<h.length:=(List.getElem?_eq_some_iff.1 hi).1
 have hget : ∀ {i v t s':Nat} {cs:List AV},(h.set id (.mk ver ty s (cells.set k c')))[i]?=some (.mk v t s' cs) → ∃ cs',h[i]?=some (.mk v t s' cs')∧(i≠id→cs'=cs)∧(i=id→v=ver∧cs'=cells∧cs=cells.set k c'):=by
  intro i v t s' cs he
  by_cases hii:i=id
  ·subst hii
   rw [List.getElem?_set_self hid] at he
   cases he
   exact ⟨cells,hi,fun h=>absurd rfl h,fun _=>⟨rfl,rfl,rfl⟩⟩
  ·rw [List.getElem?_set_ne (Ne.symm hii)] at he
   exact ⟨cs,he,fun _=>rfl,fun h=>absurd h hii⟩
 have how : ∀ i j,OwAt g (h.set id (.mk ver ty s (cells.set k c'))) i j→OwAt g h i j:=by
  rintro i j ⟨v,t,s',cs,b,cap,e1,e2,e3,e4⟩
  obtain ⟨cs',f1,_⟩:=hget e1
  exact ⟨v,t,s',cs',b,cap,f1,e2,e3,e4⟩
 refine ⟨⟨?_,fun i j k' h1 h2=>hs.inj i j k' (how i k' h1) (how j k' h2),hs.lt,?_,?_,⟨hs.glob.w,hs.glob.d⟩⟩,fun j ⟨i,hj⟩=>⟨i,how i j hj⟩⟩
 ·intro i v t s' cs he
  obtain ⟨cs',f1,f2,f3⟩:=hget he
  obtain ⟨A,cap,e1,e2,e3⟩:=hs.ent _ _ _ _ _ f1
  refine ⟨A,cap,e1,e2,?_⟩
  by_cases hii:i=id
  ·obtain ⟨rfl,rfl,rfl⟩:=f3 hii
   rcases e3 with ⟨h0,h1⟩ | ⟨b,arr,rfl,x1,x2,x3,x4,x5,x6⟩
   ·rw [h0] at hk;simp at hk
   ·refine .inr ⟨b,arr,rfl,x1,x2,x3,x4,by simpa using x5,?_⟩
    obtain ⟨u,hu,hr⟩:=x6.get hk
    have hcell:w.cell? ⟨b,k,none⟩=some u:=by
     rw [cell_of_row w b k arr t (0,0) x3]
     rw [List.getElem?_take] at hu
     split at hu
     ·simpa using hu
     ·cases hu
    subst hii
    have:=x6.set (k:=k) (hc b cap u e1 hcell hr)
    have hself:(arr.toList.take cs'.length).set k u=arr.toList.take cs'.length:=by
     apply List.ext_getElem?
     intro j
     by_cases hj:j=k
     ·subst hj
      have:j<(arr.toList.take cs'.length).length:=(List.getElem?_eq_some_iff.1 hu).1
      rw [List.getElem?_set_self this,hu]
     ·rw [List.getElem?_set_ne (Ne.symm hj)]
    rw [hself] at this
    simpa using this
  ·rw [←f2 hii];exact e3
 ·intro i v l hl
  have:=hs.fresh i v l hl
  refine ⟨by simpa using this.1,fun v' t s' cs he=>?_⟩
  obtain ⟨cs',f1,_⟩:=hget he
  exact this.2 _ _ _ _ f1
 ·intro i v l hl he
  by_cases hii:i=id
  ·subst hii;rw [List.getElem?_set_self hid] at he;cases he
  ·rw [List.getElem?_set_ne (Ne.symm hii)] at he;exact hs.free _ _ _ hl he
theorem hx2_at1 {h E:AH}{i j:Nat}{e f:Ent}(hne:i≠j) (hi:i<h.length):((h.set i e).set j f++E)[i]?=some e:=by
 rw [List.getElem?_append_left (by simpa using hi),List.getElem?_set_ne (Ne.symm hne),List.getElem?_set_self hi]
theorem hx2_at2 {h E:AH}{i j:Nat}{e f:Ent}(hj:j<h.length):((h.set i e).set j f++E)[j]?=some f:=by
 rw [List.getElem?_append_left (by simpa using hj),List.getElem?_set_self (by simpa using hj)]
theorem hx2_set1 {h E:AH}{i j:Nat}{e f e':Ent}(hne:i≠j) (hi:i<h.length):((h.set i e).set j f++E).set i e'=(h.set i e').set j f++E:=by
 rw [List.set_append_left _ _ (by simpa using hi),List.set_comm _ _ (Ne.symm hne),List.set_set]
theorem hx2_set2 {h E:AH}{i j:Nat}{e f f':Ent}(hj:j<h.length):((h.set i e).set j f++E).set j f'=(h.set i e).set j f'++E:=by
 rw [List.set_append_left _ _ (by simpa using hj),List.set_set]
theorem hx2_self {h:AH}{i j:Nat}{e f:Ent}(he:h[i]?=some e) (hf:h[j]?=some f):(h.set i e).set j f=h:=by
 rw [hx_self he,hx_self hf]
theorem hx2_len {h:AH}{i j n:Nat}{e f:Ent}(hn:h.length=n):((h.set i e).set j f).length=n:=by simpa using hn
theorem hx2_lt {h:AH}{i j n:Nat}{e f:Ent}(hlt : ∀ x∈h,x.lt n=true) (he:e.lt n=true) (hf:f.lt n=true) : ∀ x∈(h.set i e).set j f,x.lt n=true:=hx_lt (hx_lt hlt he) hf
theorem hx_app {h E:AH}{i:Nat}{e:Ent}(he:h[i]?=some e):(h++E)[i]?=some e:=by
 rw [List.getElem?_append_left (List.getElem?_eq_some_iff.1 he).1];exact he
theorem ALe.own0Cell {T:List AV}{h h1:AH}{j v' t' s' k st st' ty id:Nat}{cs ds cs':List AV}(hj:h[j]?=some (.mk v' t' s' cs)) (hk:cs[k]?=some (.sl 0 st true ds)) (hl:h.length=id) (hp:aPut cs (some k) (.own id 0 0)=cs') (he:(h++[Ent.mk 0 ty st' []]:AH).set j (Ent.mk v' t' s' cs')=h1):ALe n0 T h T h1:=fun w0 S0 g0 a w g s=>by
 subst hl he hp
 obtain ⟨A1,cap1,l1,l2,l3⟩:=s.sim.ent _ _ _ _ _ hj
 have hjl:j<h.length:=(List.getElem?_eq_some_iff.1 hj).1
 rcases l3 with ⟨h0,_⟩ | ⟨b,arr,rfl,x1,x2,x3,x4,x5,x6⟩
 ·rw [h0] at hk;simp at hk
 obtain ⟨u,hu,hr⟩:=x6.get hk
 have hcell:w.cell? ⟨b,k,none⟩=some u:=by
  rw [cell_of_row w b k arr t' (0,0) x3]
  rw [List.getElem?_take] at hu
  split at hu
  ·simpa using hu
  ·cases hu
 simp only [Rep] at hr
 obtain ⟨_,A,cap,rfl,_,_,hc,_,_⟩:=hr
 obtain rfl:cap=0:=(hc trivial).symm
 obtain ⟨q1,q2,q3⟩:=s.sim.add0 (w':=w) A ty st' (fun _ _=>rfl) (Nat.le_refl _)
 have htm:=RepL.mono q2 (fun _ _=>rfl) _ _ s.tmps
 obtain ⟨r1,r2⟩:=q1.tell1 (id:=j) (c':=.own h.length 0 0) (by rw [List.getElem?_append_left hjl];exact hj) hk (by
  intro b' cap' u' e1 e2 _
  have:=q2.loc _ _ _ l1
  rw [this] at e1
  simp only [Option.some.injEq,Prod.mk.injEq,Addr.mk.injEq] at e1
  obtain ⟨⟨rfl,_⟩,_⟩:=e1
  rw [hcell] at e2
  cases e2
  exact rep_own_new (Nat.le_refl _) (by simp [maxLen]))
 exact ⟨_,htm,s.defers,r1,s.fr,s.le.trans q2,s.bd,fun i hi=>(q3 i (r2 i hi)).elim (s.ow i) (fun h=>.inr (Nat.le_trans s.fr.size h))⟩
theorem ALe.own0 {T:List AV}{d st st' ty:Nat}{cs:List AV}(hd:T[d]?=some (.sl 0 st true cs)):ALe n0 T h (T.set d (.own h.length 0 0)) (h++[.mk 0 ty st' []]):=fun w0 S0 g0 a w g s=>by
 obtain ⟨u,hu,hr⟩:=s.tmps.get hd
 simp only [Rep] at hr
 obtain ⟨_,A,cap,rfl,_,_,hc,_,_⟩:=hr
 obtain rfl:cap=0:=(hc trivial).symm
 obtain ⟨h1,h2,h3⟩:=s.sim.add0 (w':=w) A ty st' (fun _ _=>rfl) (Nat.le_refl _)
 have htm:=RepL.mono h2 (fun _ _=>rfl) _ _ s.tmps
 have hset:=htm.set (k:=d) (c:=.own h.length 0 0) (u:=.slice A 0 0) (rep_own_new (Nat.le_refl _) (by simp [maxLen]))
 have hself:a.tmps.toList.set d (.slice A 0 0)=a.tmps.toList:=by
  apply List.ext_getElem?
  intro j
  by_cases hj:j=d
  ·subst hj
   have:j<a.tmps.toList.length:=(List.getElem?_eq_some_iff.1 hu).1
   rw [List.getElem?_set_self this,hu]
  ·rw [List.getElem?_set_ne (Ne.symm hj)]
 rw [hself] at hset
 exact ⟨_,hset,s.defers,h1,s.fr,s.le.trans h2,s.bd,fun k hk=>(h3 k hk).elim (s.ow k) (fun h=>.inr (Nat.le_trans s.fr.size h))⟩
theorem ALe.own0' {T T':List AV}{h h':AH}{d st st' ty id:Nat}{cs:List AV}(hd:T[d]?=some (.sl 0 st true cs)) (hl:h.length=id) (hp:aPut T (some d) (.own id 0 0)=T') (hh:h++[.mk 0 ty st' []]=h'):ALe n0 T h T' h':=by
 subst hl hp hh
 exact ALe.own0 hd
end more
end
section
variable {P : Program} {n0 : Nat}
mutual
/-- how long slices are -/
def AV.bd:AV→Prop
 | .sl n _ _ cs=>n≤9223372036854775807∧AV.bdL cs
 | .own _ _ n=>n≤9223372036854775807
 | .rp cs=>AV.bdL cs
 | .agg cs=>AV.bdL cs
 | .tup cs=>AV.bdL cs
 | .clo _ cs=>AV.bdL cs
 | _=>True
def AV.bdL:List AV→Prop
 | []=>True
 | c::cs=>AV.bd c∧AV.bdL cs
end
mutual
theorem Rep.bd {w:World}{g:Gh} : ∀ (c:AV) (y:Value),Rep w g c y→c.bd
 | .v x,y,_=>by simp only [AV.bd]
 | .any,y,_=>by simp only [AV.bd]
 | .sl n st full cells,y,h=>by
  simp only [Rep] at h
  obtain ⟨_,A,cap,h1,h2,h3,h4,h5,h6⟩:=h
  simp only [AV.bd]
  refine ⟨by simp only [maxLen] at h3;omega,?_⟩
  by_cases hc:cells=[]
  ·subst hc;simp only [AV.bdL]
  ·obtain ⟨b,off,_,_,h7⟩:=h6 hc
   exact RepC.bd cells b off h7
 | .own id ver n,y,h=>by
  simp only [Rep] at h
  obtain ⟨A,cap,h1,h2,h3,_⟩:=h
  simp only [AV.bd]
  simp only [maxLen] at h3
  omega
 | .ptr id ver off,y,h=>by simp only [AV.bd]
 | .rp cells,y,h=>by
  simp only [Rep] at h
  obtain ⟨b,off,e,hd,hc⟩:=h
  simp only [AV.bd]
  exact RepC.bd cells b off hc
 | .agg cells,y,h=>by
  simp only [Rep] at h
  obtain ⟨vs,e,hc⟩:=h
  simp only [AV.bd]
  exact RepL.bd cells _ hc
 | .tup cells,y,h=>by
  simp only [Rep] at h
  obtain ⟨vs,e,hc⟩:=h
  simp only [AV.bd]
  exact RepL.bd cells _ hc
 | .clo fn cells,y,h=>by
  simp only [Rep] at h
  obtain ⟨vs,e,hc⟩:=h
  simp only [AV.bd]
  exact RepL.bd cells _ hc
theorem RepC.bd {w:World}{g:Gh} : ∀ (cs:List AV) (b off:Nat),RepC w g cs b off→AV.bdL cs
 | [],_,_,_=>by simp only [AV.bdL]
 | c::cs,b,off,h=>by
  simp only [RepC] at h
  obtain ⟨⟨u,h1,h2⟩,h3⟩:=h
  simp only [AV.bdL]
  exact ⟨Rep.bd c u h2,RepC.bd cs b (off+1) h3⟩
theorem RepL.bd {w:World}{g:Gh} : ∀ (cs:List AV) (vs:List Value),RepL w g cs vs→AV.bdL cs
 | [],_,_=>by simp only [AV.bdL]
 | c::cs,vs,h=>by
  simp only [RepL] at h
  obtain ⟨u,us,e,h1,h2⟩:=h
  simp only [AV.bdL]
  exact ⟨Rep.bd c u h1,RepL.bd cs us h2⟩
end
theorem ACalls.into {f:FuncId}{af:AF}(hc:compF P f=some af) {args T0:List AV}{h:AH}{R:AE→Prop}(hT:args++List.replicate (af.ntmps-args.length) .any=T0)
  (hw : ∀ n,h.length=n→(∀ e∈h,e.lt n=true)→AV.ltL n args=true→AV.bdL args→aw P n af.code (retA af.res fun x h' => ∃ z,h'=h++z∧x.lt n=true∧R x) T0 (h++[])):ACalls P f args h fun x h'=>h'=h∧R x:=by
 subst hT
 exact ⟨enters_of_compF hc,fun w g vs hs ha=>(ACalls.enter (R:=R) hc fun n h1 h2 h3=>hw n h1 h2 h3 (RepL.bd _ _ ha)).2 w g vs hs ha⟩
theorem ACalls.intoG {f:FuncId}{af:AF}(hc:compF P f=some af) {args T0:List AV}{h:AH}{R:AE→AH→Prop}(hT:args++List.replicate (af.ntmps-args.length) .any=T0)
  (hw : ∀ n,h.length=n→(∀ e∈h,e.lt n=true)→AV.ltL n args=true→AV.bdL args→aw P n af.code (retA af.res fun x h' => ∃ y z,h'=y++z∧y.length=n∧(∀ e∈y,e.lt n=true)∧x.lt n=true∧R x y) T0 (h++[])):ACalls P f args h R:=by
 subst hT
 exact ⟨enters_of_compF hc,fun w g vs hs ha=>(ACalls.enterG (R:=R) hc fun n h1 h2 h3=>hw n h1 h2 h3 (RepL.bd _ _ ha)).2 w g vs hs ha⟩
theorem ACalls.intoN {f:FuncId}{af:AF}(hc:compF P f=some af) {args T0:List AV}{h:AH}{R:AE→AH→Prop}(hT:args++List.replicate (af.ntmps-args.length) .any=T0)
  (hw : ∀ n,h.length=n→(∀ e∈h,e.lt n=true)→AV.ltL n args=true→AV.bdL args→aw P n af.code (retA af.res R) T0 (h++[])):ACalls P f args h R:=by
 subst hT
 refine ⟨enters_of_compF hc,fun w g vs hs ha=>(ACalls.of_aw (R:=R) hc ?_).2 w g vs hs ha⟩
 have:=hw h.length rfl hs.ltE (RepL.lt (fun i v l hl=>(hs.fresh i v l hl).1) _ _ ha) (RepL.bd _ _ ha)
 rwa [List.append_nil] at this
theorem ACalls.weak {f:FuncId}{args:List AV}{h:AH}{res:AV}(hc:ACalls P f args h fun x h'=>h'=h ∧ ∃ c,x = .ret c∧Wk c res):ACalls P f args h fun x h'=>h'=h∧x = .ret res:=by
 refine ⟨hc.1,fun w g vs hs ha=>(hc.2 w g vs hs ha).mono ?_⟩
 rintro e w' ⟨x,h',g',h1,h2,h3,h4,h5,rfl,c,rfl,hw⟩
 refine ⟨.ret res,_,g',?_,h2,h3,h4,h5,rfl,rfl⟩
 cases e <;> simp only [EndR] at h1 ⊢
 exact hw _ _ _ h1
theorem rtw {n:Nat}{h E:AH}{c res:AV}(hl:c.lt n=true) (he:Wk c res) : ∃ z,h++E=h++z∧(AE.ret c).lt n=true ∧ ∃ d,AE.ret c = .ret d∧Wk d res:=⟨E,rfl,hl,c,rfl,he⟩
theorem rt {n:Nat}{h E:AH}{c res:AV}(hl:c.lt n=true) (he:c=res) : ∃ z,h++E=h++z∧(AE.ret c).lt n=true∧AE.ret c = .ret res:=⟨E,rfl,hl,by rw [he]⟩
section
variable {T : List AV} {h : AH} {x y i : Operand} {c : AV}
theorem cvl {cs:List AV}(hx:aEval T x=c) (hc:cellsV c=some cs):cellsV (aEval T x)=some cs:=by rw [hx];exact hc
theorem oi {τ:Operand→AV}{d:Int}{k:IntKind}{j:Int}(hx:τ x = .v (.int k j)):optInt τ d (some x)=some j:=by simp only [optInt,hx]
theorem on_ {τ:Operand→AV}{d:Int}:optInt τ d none=some d:=rfl
theorem v_notB {b:Bool}(hx:aEval T x=bv b):aval h (aEval T) (.un .not x)=some (bv (!b)):=by simp only [aval,hx]
theorem v_eqsT {b:Bool}{ks:List LK}{cs ds:List AV}(hx:aEval T x = .agg cs) (hy:aEval T y = .agg ds) (he:eqCells ks cs ds=some b):aval h (aEval T) (.eqs false ks x y)=some (bv b):=v_eqs hx hy he
theorem v_eqsN {p:Prop} [Decidable p] {ks:List LK}{cs ds:List AV}(hx:aEval T x = .agg cs) (hy:aEval T y = .agg ds) (he:eqCells ks cs ds=some (decide p)):aval h (aEval T) (.eqs true ks x y)=some (bv (decide (¬p))):=by
 rw [v_eqs hx hy he]
 by_cases hp:p <;> simp [hp]
theorem v_eqbT {a b:Bool}(hx:aEval T x=bv a) (hy:aEval T y=bv b):aval h (aEval T) (.eqb false x y)=some (bv (decide (a=b))):=by
 rw [v_eqb hx hy]
 cases a <;> cases b <;> rfl
theorem v_eqbN {a b:Bool}(hx:aEval T x=bv a) (hy:aEval T y=bv b):aval h (aEval T) (.eqb true x y)=some (bv (decide (a≠b))):=by
 rw [v_eqb hx hy]
 cases a <;> cases b <;> rfl
theorem sc_sl {m st sz:Nat}{full:Bool}{cs:List AV}(hx:aEval T x = .sl m st full cs) (hl:cs.length=m*sz):srcCells h sz (aEval T x)=some (m,cs):=by
 simp only [srcCells,hx,rowsAt,if_pos hl]
theorem sc_own {id v m ty st sz:Nat}{cells cs:List AV}(hx:aEval T x = .own id v m) (he:h[id]?=some (.mk v ty st cells)) (hs:st=sz) (hc:cells.take (m*sz)=cs) (hl:m*sz≤cells.length):srcCells h sz (aEval T x)=some (m,cs):=by
 subst hc hs
 have:(cells.take (m*st)).length=m*st:=by rw [List.length_take];omega
 simp only [srcCells,hx,rowsAt,he,if_pos (And.intro trivial hl),if_pos this]
theorem sc_str {s:ByteArray}(hx:aEval T x=sv s):srcCells h 1 (aEval T x)=some (s.size,s.data.toList.map fun b=>.v (.int .u8 b.toNat)):=by simp only [srcCells,hx,if_true]
def rows {α:Type}(f:α→List AV) (l:List α):List AV:=l.flatMap f
theorem rows_len {α:Type}{f:α→List AV}{st:Nat}(hf : ∀ x,(f x).length=st) : ∀ l,(rows f l).length=l.length*st
 | []=>by simp [rows]
 | x::l=>by
  have:=rows_len hf l
  simp only [rows] at this
  simp only [rows,List.flatMap_cons,List.length_append,hf,this,List.length_cons,Nat.add_mul,Nat.one_mul]
  omega
theorem rows_drop {α:Type}{f:α→List AV}{st:Nat}(hf : ∀ x,(f x).length=st) : ∀ (k:Nat) (l:List α),(rows f l).drop (k*st)=rows f (l.drop k)
 | 0,l=>by simp
 | k+1,[]=>by simp [rows]
 | k+1,x::l=>by
  have:=rows_drop hf k l
  simp only [rows] at this
  simp only [rows,List.flatMap_cons,List.drop_succ_cons]
  rw [Nat.add_mul,Nat.one_mul,Nat.add_comm,←List.drop_drop,←hf x,List.drop_left,hf x]
  exact this
theorem rows_at {α:Type}{f:α→List AV}{st:Nat}(hf : ∀ x,(f x).length=st) {l:List α}{k:Nat}(hk:k<l.length):((rows f l).drop (k*st)).take st=f l[k]:=by
 rw [rows_drop hf,List.drop_eq_getElem_cons hk]
 simp only [rows,List.flatMap_cons]
 rw [←hf l[k],List.take_left]
theorem rows_app {α:Type}{f:α→List AV}(l m:List α):rows f (l++m)=rows f l++rows f m:=by simp [rows]
theorem rows_one {α:Type}{f:α→List AV}(x:α):rows f [x]=f x:=by simp [rows]
theorem rows_lt {α:Type}{f:α→List AV}(hf : ∀ n x,AV.ltL n (f x)=true) {n:Nat} : ∀ l,AV.ltL n (rows f l)=true
 | []=>rfl
 | x::l=>by
  have:=rows_lt hf (n:=n) l
  simp only [rows] at this
  simp only [rows,List.flatMap_cons]
  have key : ∀ a b:List AV,AV.ltL n a=true→AV.ltL n b=true→AV.ltL n (a++b)=true:=by
   intro a
   induction a with
   | nil=>intro b _ hb;exact hb
   | cons c cs ih=>intro b ha hb;simp only [AV.ltL,List.cons_append,Bool.and_eq_true] at ha ⊢;exact ⟨ha.1,ih b ha.2 hb⟩
  exact key _ _ (hf n x) this
theorem rows_leaf {α:Type}{f:α→List AV}(hf : ∀ x,(f x).all leaf=true) : ∀ l,(rows f l).all leaf=true
 | []=>rfl
 | x::l=>by
  have:=rows_leaf hf l
  simp only [rows] at this
  simp only [rows,List.flatMap_cons,List.all_append,hf x,this,Bool.and_self]
theorem v_iaR {α:Type}{f:α→List AV}{st n k:Nat}{full:Bool}{l:List α}{j:Int}{kd:IntKind}{ds:List AV}(hx:aEval T x = .sl n st full (rows f l)) (hi:aEval T i = .v (.int kd j)) (hf : ∀ x,(f x).length=st) (hst:0<st) (hj:j=(k:Int)) (hk:k<l.length) (hn:n=l.length) (hd:f l[k]=ds):aval h (aEval T) (.ia st x i)=some (.rp ds):=by
 subst hj hn hd
 exact v_ia hx hi hst (by omega) (by omega) (by rw [Int.toNat_natCast];exact rows_at hf hk)
theorem v_lo {α:Type}{f:α→List AV}{st n k:Nat}{full:Bool}{l:List α}{j:Int}{kd:IntKind}{lo:Operand}(hx:aEval T x = .sl n st full (rows f l)) (hi:aEval T lo = .v (.int kd j)) (hf : ∀ x,(f x).length=st) (hj:j=(k:Int)) (hk:k≤l.length) (hn:n=l.length) :
  aval h (aEval T) (.slc st x (some lo) none none)=some (.sl (l.drop k).length st full (rows f (l.drop k))):=by
 subst hj hn
 rw [v_slc hx (oi hi) on_ (by omega) (by omega) (by omega)]
 simp only [Int.toNat_natCast,decide_true,Bool.and_true,rows_drop hf,List.length_drop]
 congr 2
 rw [List.take_of_length_le]
 rw [rows_len hf,List.length_drop]
 exact Nat.le_refl _
theorem v_iaOR {α:Type}{f:α→List AV}{st n k id v ty:Nat}{l:List α}{j:Int}{kd:IntKind}(hx:aEval T x = .own id v n) (hi:aEval T i = .v (.int kd j)) (he:h[id]?=some (.mk v ty st (rows f l))) (hf : ∀ x,(f x).length=st) (hst:0<st) (hj:j=(k:Int)) (hk:k<l.length) (hn:n=l.length):aval h (aEval T) (.ia st x i)=some (.ptr id v (k*st)):=by
 subst hj hn
 rw [v_iaO hx hi he hst (by omega) (by omega) (by rw [rows_len hf];exact Nat.le_refl _),Int.toNat_natCast]
theorem v_ldOR1 {α:Type}{f:α→List AV}{k id v ty s:Nat}{l:List α}(hx:aEval T x = .ptr id v (k*1)) (he:h[id]?=some (.mk v ty s (rows f l))) (hf : ∀ x,(f x).length=1) (hk:k<l.length) (hc:f l[k]=[c]):aval h (aEval T) (.load false 1 x)=some c:=by
 refine v_loadp hx he ?_
 have h1:=rows_at hf hk
 rw [hc] at h1
 have:=congrArg (·[0]?) h1
 simpa [List.getElem?_drop] using this
theorem setCells_app (f1:List AV) : ∀ (cs a b:List AV),cs.length=a.length→setCells (f1++(a++b)) f1.length cs=f1++(cs++b)
 | [],[],b,_=>rfl
 | [],_::_,_,h=>by simp at h
 | _::_,[],_,h=>by simp at h
 | c::cs,x::a,b,h=>by
  simp only [setCells]
  have h1:(f1++(x::a++b)).set f1.length c=(f1++[c])++(a++b):=by simp
  rw [h1]
  have h2:f1.length+1=(f1++[c]).length:=by simp
  rw [h2,setCells_app (f1++[c]) cs a b (by simpa using h)]
  simp
theorem rows_set {α:Type}{f:α→List AV}{st:Nat}(hf : ∀ x,(f x).length=st) {l:List α}{k:Nat}(hk:k<l.length) (x:α):setCells (rows f l) (k*st) (f x)=rows f (l.set k x):=by
 have h1:rows f l=rows f (l.take k)++(f l[k]++rows f (l.drop (k+1))):=by
  have:l=l.take k++(l[k]::l.drop (k+1)):=by rw [←List.drop_eq_getElem_cons hk,List.take_append_drop]
  calc rows f l=rows f (l.take k++(l[k]::l.drop (k+1))):=by rw [←this]
   _=_:=by rw [rows_app];simp only [rows,List.flatMap_cons]
 have h2:(rows f (l.take k)).length=k*st:=by rw [rows_len hf,List.length_take,Nat.min_eq_left (by omega)]
 rw [h1,←h2,setCells_app _ _ _ _ (by rw [hf,hf])]
 have h3:l.set k x=l.take k++(x::l.drop (k+1)):=by
  rw [List.set_eq_take_append_cons_drop,if_pos hk]
 rw [h3,rows_app]
 simp [rows]
theorem e_stOR {α:Type}{f:α→List AV}{sz k id v ty s:Nat}{l:List α}{y:Operand}{z:α}{h':AH}(hx:aEval T x = .ptr id v (k*sz)) (hc:cellsV (aEval T y)=some (f z)) (he:h[id]?=some (.mk v ty s (rows f l))) (hf : ∀ x,(f x).length=sz) (hlf:(f z).all leaf=true) (hk:k<l.length) (hh:h.set id (.mk v ty s (rows f (l.set k z)))=h') :
  aeff h (aEval T) (.store sz x y)=some (.v undef,h') :=
 e_store hx hc he (hf z) (by rw [rows_len hf];have:=Nat.mul_le_mul_right sz hk;rw [Nat.succ_mul] at this;exact this) hlf (rows_set hf hk z) hh
theorem byteAt_get {s:ByteArray}{k:Nat}(hk:k<s.size):byteAt s k=s[k]:=by
 unfold byteAt
 rw [List.getD_eq_getElem?_getD,List.getElem?_eq_getElem (by simpa using hk)]
 rfl
abbrev u8R (b:UInt8):List AV:=[.v (.int .u8 (b.toNat:Int))]
theorem bytes_rows : ∀ L:List UInt8,bytesOf (rows u8R L)=some L
 | []=>rfl
 | b::L=>by
  have:=bytes_rows L
  simp only [rows] at this
  simp only [rows,List.flatMap_cons,u8R,List.singleton_append,bytesOf,Int.toNat_natCast,UInt8.ofNat_toNat]
  rw [show List.flatMap (fun b=>[AV.v (Value.int IntKind.u8 (b.toNat:Int))]) L=List.flatMap u8R L from rfl,this]
  rfl
theorem v_b2sO {id v n ty:Nat}{M:List UInt8}(hx:aEval T x = .own id v n) (he:h[id]?=some (.mk v ty 1 (rows u8R M))) (hn:n=M.length):aval h (aEval T) (.b2s x)=some (sv ⟨M.toArray⟩):=by
 subst hn
 have hl:(rows u8R M).length=M.length:=by rw [rows_len (st:=1) (fun _=>rfl)];omega
 have ht:(rows u8R M).take (M.length*1)=rows u8R M:=List.take_of_length_le (by omega)
 simp only [aval,hx,rowsAt,he]
 rw [if_pos (And.intro trivial (by omega))]
 simp only [ht,hl,if_true,bytes_rows,Option.map_some]
theorem rr_t {t:Nat}(ht:T[t]?=some c):aRes1 T h (.tmp t)=some c:=ht
theorem rr_c {t id v o ty s sz:Nat}{agg:Bool}{cells:List AV}(ht:T[t]?=some (.ptr id v o)) (he:h[id]?=some (.mk v ty s cells)) (hl:loadAV agg sz (cells.drop o)=some c):aRes1 T h (.cell t agg sz)=some c:=by
 simp only [aRes1,ht,cellsAt,he,if_true,Option.bind_some,hl]
theorem ld0 {sz:Nat}{l:List AV}{o:Nat}(hc:l[o]?=some c):loadAV false sz (l.drop o)=some c:=by
 have:l.drop o=c::l.drop (o+1):=by
  obtain ⟨hlt,rfl⟩:=List.getElem?_eq_some_iff.1 hc
  exact List.drop_eq_getElem_cons hlt
 rw [this];rfl
theorem ld1 {sz:Nat}{l cs:List AV}{o:Nat}(hc:(l.drop o).take sz=cs) (hl:cs.length=sz):loadAV true sz (l.drop o)=some (.agg cs):=by
 subst hc
 rw [List.length_take] at hl
 simp only [loadAV]
 rw [if_pos (by omega)]
theorem rm0:([]:List AR).mapM (aRes1 T h)=some []:=rfl
theorem rm1 {r:AR}{rs:List AR}{cs:List AV}(h1:aRes1 T h r=some c) (h2:rs.mapM (aRes1 T h)=some cs):(r::rs).mapM (aRes1 T h)=some (c::cs):=by
 simp only [List.mapM_cons,h1,h2];rfl
theorem rs1 {r:AR}(h1:aRes1 T h r=some c):aRes [r] T h=some c:=by simp only [aRes,rm1 h1 rm0]
theorem rsn {rs:List AR}{c1 c2:AV}{cs:List AV}(hm:rs.mapM (aRes1 T h)=some (c1::c2::cs)):aRes rs T h=some (.tup (c1::c2::cs)):=by simp only [aRes,hm]
theorem rs0:aRes [] T h=some (.tup []):=rfl
end
section
variable {Kp : AV → List AV → AH → Prop} {K : List AV → AH → Prop} {Q : AX → List AV → AH → Prop} {T : List AV} {h h0 E E' ents : AH}
theorem w_drwE {bl tl:List AOper}{q:List Bool}(hr:adrun P [] (h0++E) bl T [] fun T ents=>arun P (fun c T h=>Q (.pan c) T h) tl T (h0++(E++ents)) (fun T h=>Q .normal T h)) (hn:tl.all noCall=true:=by rfl):aw P n0 (.drw bl q tl) Q T (h0++E):=by
 refine w_drw (rs:=[]) (adrun_mono ?_ _ _ _ hr)
 intro T ents hk
 rw [List.append_assoc];exact k_of_s hn hk
theorem w_drwR (rs:List Nat) {bl tl:List AOper}{q:List Bool}(hr:adrun P rs (h0++E) bl T [] fun T ents=>arunK P rs q tl T (h0++(E++ents)) (fun T h=>Q .normal T h)):aw P n0 (.drw bl q tl) Q T (h0++E):=by
 refine w_drw (rs:=rs) (adrun_mono ?_ _ _ _ hr)
 intro T ents hk
 rw [List.append_assoc];exact hk
theorem k_e_nil {rs:List Nat}{q:List Bool}{tl:List AOper}(hr:arunK P rs q tl T (h0++E) K):arunK P rs q tl T (h0++(E++[])) K:=by rw [List.append_nil];exact hr
theorem k_e_ent {rs:List Nat}{q:List Bool}{tl:List AOper}(he:E++ents=E') (hr:arunK P rs q tl T (h0++E') K):arunK P rs q tl T (h0++(E++ents)) K:=by rw [he];exact hr
theorem e_nil {tl:List AOper}(hr:arun P Kp tl T (h0++E) K):arun P Kp tl T (h0++(E++[])) K:=by rw [List.append_nil];exact hr
theorem e_ent {tl:List AOper}(he:E++ents=E') (hr:arun P Kp tl T (h0++E') K):arun P Kp tl T (h0++(E++ents)) K:=by rw [he];exact hr
theorem hlk {n k:Nat}(hn:h.length=n) (hk:E.length+ents.length=k):(h++E).length+ents.length=n+k:=by subst hn hk;simp;omega
end
end
section
variable {K : List AV → AH → Prop} {Q : AX → List AV → AH → Prop} {T T' : List AV} {h h' h0 : AH} {q : List (List Nat)} {tc : List (Bool × List Nat)} {rest : List AOper} {d : Option Nat} {op : AOp} {c : AV} {P : Program} {n0 : Nat}
theorem w_orl {a:AC}{x:Operand}{f:FuncId}{al:List AOper}{d0:Nat}(hr:aw P n0 a Q T h):aw P n0 (.orPan a x f al d0) Q T h:=.inl hr
theorem w_drwU {al:List AOper}(hr:adrunU P h q al [] T h fun T h=>Q .normal T h):aw P n0 (.drwU q al) Q T h:=hr
def plainU (op:AOp):Bool:=match op with
 | .call _ _=>false
 | .panic _=>false
 | .eqn _ _=>false
 | .loadR _ _ _=>false
 | _=>true
theorem austep_of {gd : Option (Nat × Bool)} {K : Bool × List Nat → List AV → AH → Prop} (hn : plainU op = true) (hk : (∃ c, aval [] (aEval T) op = some c ∧ K (false, []) (aPut T d c) h) ∨
      (∃ c,aval h0 (aEval T) op=some c∧HExt h0 h∧K (true,List.range h0.length) (aPut T d c) h) ∨
      (∃ c need id e2,aupd h (aEval T) op=some (c,need,id,e2)∧K (false,need.map (·.1)) (aPut T d c) (h.set id e2)) ∨
      ∃ c ent,(aallo h.length (aEval T) op=some (c,ent)∨aalloI h.length (aEval T) op=some (c,ent))∧K (false,[h.length]) (aPut T d c) (h++[ent])):austep P h0 ⟨d,gd,op⟩ T h K:=by
  cases op <;> first | exact hk | cases hn
theorem u_nil (hk:K T h):adrunU P h0 q [] tc T h K:=hk
theorem u_fr (hn:plainU op=true) (hv:aval [] (aEval T) op=some c) (hp:aPut T d c=T') (hk:adrunU P h0 q.tail rest (tc++[(false,[])]) T' h K):adrunU P h0 q (⟨d,none,op⟩::rest) tc T h K:=by
 subst hp
 exact ⟨fun _=>austep_of hn (.inl ⟨c,hv,fun i _=>.inr fun x _=>by simp,hk⟩),fun h=>by cases h⟩
theorem u_rd (hn:plainU op=true) (hv:aval h0 (aEval T) op=some c) (hx:HExt h0 h) (hc : ∀ i∈q.headD [],noHit (tc.getD i (false,[])) (true,List.range h0.length)) (hp:aPut T d c=T') (hk:adrunU P h0 q.tail rest (tc++[(true,List.range h0.length)]) T' h K):adrunU P h0 q (⟨d,none,op⟩::rest) tc T h K:=by
 subst hp
 exact ⟨fun _=>austep_of hn (.inr (.inl ⟨c,hv,hx,hc,hk⟩)),fun h=>by cases h⟩
theorem u_st {sz id v off:Nat}{p x:Operand}(he:aeff h (aEval T) (.store sz p x)=some (c,h')) (hp':aEval T p = .ptr id v off) (hc : ∀ i∈q.headD [],noHit (tc.getD i (false,[])) (false,[id])) (hp:aPut T d c=T') (hk:adrunU P h0 q.tail rest (tc++[(false,[id])]) T' h' K):adrunU P h0 q (⟨d,none,.store sz p x⟩::rest) tc T h K:=by
 subst hp
 refine ⟨fun _=>austep_of rfl (.inr (.inr (.inl ?_))),fun h=>by cases h⟩
 simp only [aeff,hp'] at he
 split at he <;> try (cases he;done)
 rename_i e1 cs hid hcs
 cases hid
 split at he <;> try (cases he;done)
 rename_i v' ty s cells hcell
 split at he <;> try (cases he;done)
 rename_i hcond
 cases he
 exact ⟨_,[(_,.mk v' ty s cells)],_,_,by simp only [aupd,hp',hcs,hcell];rw [if_pos hcond],hc,hk⟩
theorem u_al {id:Nat} (hk1:(match op with | .new _ _ _=>true | .box _ _ _=>true | .lit _ _ _ _ _=>true | _=>false)=true) (he:aeff h (aEval T) op=some (c,h')) (hl:h.length=id) (hc : ∀ i∈q.headD [],noHit (tc.getD i (false,[])) (false,[id])) (hp:aPut T d c=T') (hk:adrunU P h0 q.tail rest (tc++[(false,[id])]) T' h' K):adrunU P h0 q (⟨d,none,op⟩::rest) tc T h K:=by
 subst hp hl
 cases op <;> simp only at hk1 <;> try (cases hk1;done)
 all_goals refine ⟨fun _=>austep_of rfl (.inr (.inr (.inr ?_))),fun h=>by cases h⟩
 all_goals simp only [aeff] at he
 ·cases he
  exact ⟨_,_,.inl rfl,hc,hk⟩
 ·split at he <;> try (cases he;done)
  rename_i cs hcs
  split at he <;> try (cases he;done)
  rename_i hsz
  cases he
  exact ⟨_,_,.inl (by simp only [aallo,hcs];rw [if_pos hsz]),hc,hk⟩
 ·split at he <;> try (cases he;done)
  rename_i cs hcs
  cases he
  exact ⟨_,_,.inl (by simp only [aallo,hcs]),hc,hk⟩
theorem hx_l {E F E':AH}(he:E++F=E'):HExt (h++E) (h++E'):=by subst he;rw [←List.append_assoc];exact HExt.append _ _
theorem u_callU {f:FuncId}{xs:List Operand}{as1:List AV}{id:Nat}{e e2:Ent}(hx:xs.map (aEval T)=as1) (he:h[id]?=some e) (hc : ∀ h,h[id]?=some e→ACalls P f as1 h fun r h'=>r = .ret c∧h'=h.set id e2) (hh : ∀ i∈q.headD [],noHit (tc.getD i (false,[])) (false,[id])) (hs:h.set id e2=h') (hp:aPut T d c=T') (hk:adrunU P h0 q.tail rest (tc++[(false,[id])]) T' h' K):adrunU P h0 q (⟨d,none,.call (.func f) xs⟩::rest) tc T h K:=by
 subst hp hs hx
 unfold adrunU agd
 refine ⟨fun _=>?_,fun h=>by cases h⟩
 exact .inr (.inr ⟨c,[(id,e)],id,e2,fun h hn=>⟨rfl,rfl,(hc h (hn (id,e) (by simp))).mono fun r h' hr=>⟨hr.2,hr.1⟩⟩,fun p hp=>by simp at hp;subst hp;exact he,⟨e,by simp⟩,hh,hk⟩)
theorem u_rdn {n:Nat}(hn:plainU op=true) (hv:aval h0 (aEval T) op=some c) (hx:HExt h0 h) (hl:h0.length=n) (hc : ∀ i∈q.headD [],noHit (tc.getD i (false,[])) (true,List.range n)) (hp:aPut T d c=T') (hk:adrunU P h0 q.tail rest (tc++[(true,List.range n)]) T' h K):adrunU P h0 q (⟨d,none,op⟩::rest) tc T h K:=by
 subst hl;exact u_rd hn hv hx hc hp hk
end
end Go.Ab
end
section
namespace Go.Ab
section
theorem lt' {p:Prop}(h:p:=by first | rfl | (simp only [AV.lt,AV.ltL,Ent.lt,List.all_cons,List.all_nil,Bool.and_true,Bool.and_self,decide_true];done) | (simp [AV.lt,AV.ltL,Ent.lt, *];done) | (simp [AV.lt,AV.ltL,Ent.lt, *];omega)):p:=h
theorem rT' {n:Nat}{h E:AH}{c res:AV}(he:c=res) (hl:c.lt n=true:=by exact lt') : ∃ z,h++E=h++z∧(AE.ret c).lt n=true∧AE.ret c = .ret res:=rt hl he
theorem rtW' {n:Nat}{h E:AH}{c res:AV}(he:Wk c res) (hl:c.lt n=true:=by exact lt') : ∃ z,h++E=h++z∧(AE.ret c).lt n=true ∧ ∃ d,AE.ret c = .ret d∧Wk d res:=rtw hl he
theorem wA' {cs ds:List AV}(h:WkL cs ds:=by repeat (first | exact wk0 | refine wka ?_ | refine wk1 rfl ?_ | refine wk1 (by first | exact ivx (by omega) | (simp;done)) ?_)):WkL cs ds:=h
theorem z' {α:Type}{x b:α}{l:List α}:(x::l).set 0 b=b::l:=rfl
theorem s' {α:Type}{x b:α}{n:Nat}{l:List α}:(x::l).set (n+1) b=x::l.set n b:=rfl
theorem la' {α:Type}{x:α}{l m:List α}:(x::l)++m=x::(l++m):=rfl
theorem ln' {α:Type}{m:List α}:[]++m=m:=rfl
def rn' (a:Nat):Nat→List (Nat×AV)
 | 0=>[]
 | k+1=>(a,.any)::rn' (a+1) k
def tA':List AV→Nat→List AV
 | _,0=>[]
 | x::l,m+1=>x::tA' l m
 | [],m+1=>.any::tA' [] m
theorem tA'_eq : ∀ (l:List AV) (m:Nat),l.length≤m→l++List.replicate (m-l.length) .any=tA' l m
 | [],0,_=>rfl
 | [],m+1,_=>by
  have:=tA'_eq [] m (Nat.zero_le _)
  simp only [List.nil_append,List.length_nil,Nat.sub_zero] at this ⊢
  rw [List.replicate_succ,this];rfl
 | x::l,0,h=>by simp at h
 | x::l,m+1,h=>by
  have:=tA'_eq l m (by simpa using h)
  simp only [List.cons_append,List.length_cons,Nat.add_sub_add_right,this];rfl
variable {P : Program} {f : FuncId} {c : AC} {rs : List AR} {m : Nat} {args : List AV} {h : AH}
theorem tI' {R:AE→Prop}(hc:compF P f=some ⟨c,rs,m⟩) (hw : ∀ n,h.length=n→(∀ e∈h,e.lt n=true)→AV.ltL n args=true→AV.bdL args→aw P n c (retA rs fun x h' => ∃ z,h'=h++z∧x.lt n=true∧R x) (tA' args m) (h++[])) (hl:Nat.ble args.length m=true:=by rfl):ACalls P f args h fun x h'=>h'=h∧R x :=
 ACalls.into hc (tA'_eq _ _ (Nat.le_of_ble_eq_true hl)) hw
theorem tW' {res:AV}(hc:compF P f=some ⟨c,rs,m⟩) (hw : ∀ n,h.length=n→(∀ e∈h,e.lt n=true)→AV.ltL n args=true→AV.bdL args→aw P n c (retA rs fun x h' => ∃ z,h'=h++z∧x.lt n=true ∧ ∃ c,x = .ret c∧Wk c res) (tA' args m) (h++[])) (hl:Nat.ble args.length m=true:=by rfl):ACalls P f args h fun x h'=>h'=h∧x = .ret res :=
 ACalls.weak (tI' hc hw hl)
theorem tN' {R:AE→AH→Prop}(hc:compF P f=some ⟨c,rs,m⟩) (hw : ∀ n,h.length=n→(∀ e∈h,e.lt n=true)→AV.ltL n args=true→AV.bdL args→aw P n c (retA rs R) (tA' args m) (h++[])) (hl:Nat.ble args.length m=true:=by rfl):ACalls P f args h R :=
 ACalls.intoN hc (tA'_eq _ _ (Nat.le_of_ble_eq_true hl)) hw
theorem tJ' {R:AE→AH→Prop}(hc:compF P f=some ⟨c,rs,m⟩) (hw : ∀ n,h.length=n→(∀ e∈h,e.lt n=true)→AV.ltL n args=true→AV.bdL args→aw P n c (retA rs fun x h' => ∃ y z,h'=y++z∧y.length=n∧(∀ e∈y,e.lt n=true)∧x.lt n=true∧R x y) (tA' args m) (h++[])) (hl:Nat.ble args.length m=true:=by rfl):ACalls P f args h R :=
 ACalls.intoG hc (tA'_eq _ _ (Nat.le_of_ble_eq_true hl)) hw
end
section
variable {P : Program} {n0 : Nat} {T T1 : List AV} {a : AC} {Q : AX → List AV → AH → Prop}
theorem bkE' {h0 E E1 x:AH}{N:Nat}(K:Nat) (hn:h0.length=N) (hh : ∀ e∈h0,e.lt N=true) (hs:WkL T T1) (he:E=E1++x:=by rfl) (hT:AV.ltL (N+K) T1=true:=by exact lt') (hE:E1.all (Ent.lt (N+K))=true:=by exact lt') (hK:E1.length=K:=by rfl) (h0':n0≤N+K:=by omega):ALe n0 T (h0++E) T1 (h0++E1) :=
 ALe.back hs he (by rw [hn,hK]) h0' hT (ltw (Nat.le_add_right _ _) hh) hE
theorem bk' {h0 E E1 x:AH}{N:Nat}(K:Nat) (hn:h0.length=N) (hh : ∀ e∈h0,e.lt N=true) (he:E=E1++x:=by rfl) (hs:WkL T T1:=by exact wA') (hT:AV.ltL (N+K) T1=true:=by exact lt') (hE:E1.all (Ent.lt (N+K))=true:=by exact lt') (hK:E1.length=K:=by rfl) (h0':n0≤N+K:=by omega):ALe n0 T (h0++E) T1 (h0++E1) :=
 bkE' K hn hh hs he hT hE hK h0'
theorem lU' {ι:Type}{S:ι→List AV×AH}{I:ι→Prop}{m:ι→Nat}{i:ι}{h:AH}(j:ι) (hI:I j) (hl:ALe n0 T h (S j).1 (S j).2) (hm:m j<m i:=by first | omega | (dsimp only;omega)):LoopTo n0 S I m i T h:=LoopTo.mk j hm hI hl
theorem lT' {ι:Type}{S:ι→List AV×AH}{I:ι→Prop}{m:ι→Nat}{i:ι}{h:AH}(j:ι) (hI:I j) (hm:m j<m i:=by first | omega | (dsimp only;omega)) (hl:ALe n0 T h (S j).1 (S j).2:=by (try dsimp only);(try simp only [setsT,setsE,z',s',rn',la',ln',Nat.reduceAdd]);exact ALe.same wA' rfl):LoopTo n0 S I m i T h:=LoopTo.mk j hm hI hl
theorem cT' {ι:Type}{J:ι→Prop}{A:ι→List AV}{B:ι→AH}{h:AH}(j:ι) (hI:J j) (hl:ALe n0 T h (A j) (B j):=by (try dsimp only);(try simp only [setsT,setsE,z',s',rn',la',ln',Nat.reduceAdd]);exact ALe.same wA' rfl) : ∃ i,J i∧ALe n0 T h (A i) (B i):=⟨j,hI,hl⟩
theorem w_lp {E:AH}{h0:AH}{ι:Type}(f:ι→List (Nat×AV)) (g:ι→List (Nat×Ent)) (I:ι→Prop) (m:ι→Nat) (i0:ι) (hI:I i0)
  (round : ∀ i,I i→aw P n0 a (AX.thn (LoopTo n0 (fun i=>(setsT T (f i),h0++setsE E (g i))) I m i) Q) (setsT T (f i)) (h0++setsE E (g i))) (hl:ALe n0 T (h0++E) (setsT T (f i0)) (h0++setsE E (g i0)):=by (try simp only [setsT,setsE,z',s',rn',la',ln',Nat.reduceAdd]);exact ALe.same wA' rfl):aw P n0 (.loop a) Q T (h0++E):=w_loop f g I m i0 hI hl round
end
section
variable {K : List AV → AH → Prop} {Q : AX → List AV → AH → Prop} {T T' : List AV} {h : AH} {Kp : AV → List AV → AH → Prop} {rest : List AOper} {d : Option Nat} {c : AV} {P : Program} {n0 : Nat} {a b : AC} {al : List AOper}
theorem mv' {x:Operand}(hx:aEval T x=c) (hp:aPut T d c=T') (hk:arun P Kp rest T' h K):arun P Kp (⟨d,none,.mv x⟩::rest) T h K:=s_val rfl (v_mv hx) hp hk
theorem sn' (hr:aw P n0 b Q T h):arun P Kp [] T h (fun T h=>AX.thn (fun T h => ∃ T1 h1,ALe n0 T h T1 h1∧aw P n0 b Q T1 h1) Q .normal T h):=s_nil (n_seq hr)
theorem wr' (hr:arun P (fun c T h=>AX.thn (fun T h => ∃ T1 h1,ALe n0 T h T1 h1∧aw P n0 b Q T1 h1) Q (.pan c) T h) al T h (fun T h=>AX.thn (fun T h => ∃ T1 h1,ALe n0 T h T1 h1∧aw P n0 b Q T1 h1) Q .normal T h)):aw P n0 (.seq (.reg al) b) Q T h:=w_seq (w_reg hr)
theorem cd' {c:Operand}{v:Bool}{p q:Prop}(hc:aEval T c=bv v) (hy:p→aw P n0 a Q T h) (hn:q→aw P n0 b Q T h) (h1:v=true→p:=by first | exact fun e=>of_decide_eq_true e | exact fun e=>e) (h2:v=false→q:=by first | exact fun e=>of_decide_eq_false e | exact fun e=>e):aw P n0 (.cond c a b) Q T h:=w_condB hc (fun e=>hy (h1 e)) (fun e=>hn (h2 e))
theorem V' {op:AOp}(hv:aval h (aEval T) op=some c) (hp:aPut T d c=T') (hk:arun P Kp rest T' h K) (hn:noCall ⟨d,none,op⟩=true:=by rfl):arun P Kp (⟨d,none,op⟩::rest) T h K:=s_val hn hv hp hk
theorem E' {op:AOp}{h':AH}(he:aeff h (aEval T) op=some (c,h')) (hp:aPut T d c=T') (hk:arun P Kp rest T' h' K) (hn:noCall ⟨d,none,op⟩=true:=by rfl) (hv:aval h (aEval T) op=none:=by rfl):arun P Kp (⟨d,none,op⟩::rest) T h K:=s_eff hn hv he hp hk
theorem D' {op:AOp}{rs:List Nat}{h0:AH}{ents:AH}(hv:aval h0 (aEval T) op=some c) (hp:aPut T d c=T') (hk:adrun P rs h0 rest T' ents K) (hn:noD ⟨d,none,op⟩=true:=by rfl):adrun P rs h0 (⟨d,none,op⟩::rest) T ents K:=d_val hn hv hp hk
theorem sp' {t:Nat}{v:Bool}{p q:Prop}{T1 T2:List AV}(ht:T[t]?=some (bv v)) (hp1:aPut T (some t) (bv true)=T1) (hp2:aPut T (some t) (bv false)=T2) (hy:p→arun P Kp al T1 h K) (hn:q→arun P Kp al T2 h K) (h1:v=true→p:=by first | exact fun e=>of_decide_eq_true e | exact fun e=>e) (h2:v=false→q:=by first | exact fun e=>of_decide_eq_false e | exact fun e=>e):arun P Kp al T h K:=s_splitB ht hp1 hp2 (fun e=>hy (h1 e)) (fun e=>hn (h2 e))
theorem dq' {rs:List Nat}{h0:AH}{t:Nat}{v:Bool}{p q:Prop}{T1 T2:List AV}(ht:T[t]?=some (bv v)) (hp1:aPut T (some t) (bv true)=T1) (hp2:aPut T (some t) (bv false)=T2) (hy:p→adrun P rs h0 al T1 h K) (hn:q→adrun P rs h0 al T2 h K) (h1:v=true→p:=by first | exact fun e=>of_decide_eq_true e | exact fun e=>e) (h2:v=false→q:=by first | exact fun e=>of_decide_eq_false e | exact fun e=>e):adrun P rs h0 al T h K:=d_splitB ht hp1 hp2 (fun e=>hy (h1 e)) (fun e=>hn (h2 e))
theorem nb' {n m:Nat}(h:Nat.ble n m=true):n≤m:=Nat.le_of_ble_eq_true h
@[reducible] def Mv (d x:Nat):AOper:=⟨some d,none,.mv (.tmp x)⟩
@[reducible] def Nk (d x:Nat):AOper:=⟨some d,none,.nck (.tmp x)⟩
@[reducible] def Fa (d k x:Nat):AOper:=⟨some d,none,.fa k (.tmp x)⟩
@[reducible] def Ld (d x:Nat):AOper:=⟨some d,none,.load false 1 (.tmp x)⟩
@[reducible] def Ex (d x k:Nat):AOper:=⟨some d,none,.ext (.tmp x) k⟩
@[reducible] def Oo (d:Nat) (o:AOp):AOper:=⟨some d,none,o⟩
@[reducible] def Ot (d g:Nat) (o:AOp):AOper:=⟨some d,some (g,true),o⟩
@[reducible] def Of (d g:Nat) (o:AOp):AOper:=⟨some d,some (g,false),o⟩
@[reducible] def Ci (n:Int):Operand:=.const (.int .i64 n)
@[reducible] def Ss:AV:=.v (.string ⟨#[]⟩)
end
end Go.Ab
end
section
namespace Go.Proofs.YtgjchdhdopgkkaaGreatDoor
namespace Civ
def leapB (y:Int):Bool:=y%4==0&&(y%100 != 0||y%400==0)
def lp (y:Int):Int:=if leapB y then 1 else 0
def bef (y:Int):Int:=365*(y-1)+(y-1)/4-(y-1)/100+(y-1)/400
def mlen (y m:Int):Int :=
 if m=2 then 28+lp y else if m=4 then 30 else if m=6 then 30 else if m=9 then 30 else if m=11 then 30 else 31
def cum (y m:Int):Int:=if m≤2 then 31*(m-1) else 59+lp y+(153*(m-3)+2)/5
def num (y m d:Int):Int:=bef y-719162+d-1+cum y m
def isDate (y m d:Int):Bool:=decide (1≤y)&&decide (y≤9999)&&decide (1≤m)&&decide (m≤12)&&decide (1≤d)&&decide (d≤mlen y m)
theorem isDate_iff {y m d:Int}:isDate y m d=true↔1≤y∧y≤9999∧1≤m∧m≤12∧1≤d∧d≤mlen y m:=by
 simp [isDate,and_assoc]
theorem lp_iff (y:Int):lp y=if y%4=0∧(y%100≠0∨y%400=0) then 1 else 0:=by
 unfold lp leapB
 congr 1
 simp
theorem lp_01 (y:Int):0≤lp y∧lp y≤1:=by unfold lp;split <;> omega
theorem bef_succ (y:Int):bef (y+1)=bef y+365+lp y:=by
 rw [lp_iff];unfold bef;split <;> omega
theorem bef_mono {a b:Int}(h:a≤b):bef a≤bef b:=by unfold bef;omega
theorem bef_step {a b:Int}(h:a<b):bef a+365≤bef b:=by unfold bef;omega
theorem bef_bd {y:Int}(h0:1≤y) (h:y≤20000):0≤bef y∧bef y≤8000000:=by unfold bef;omega
theorem bef_1970:bef 1970=719162:=by decide
theorem bef_1:bef 1=0:=by decide
theorem bef_10000:bef 10000=3652059:=by decide
theorem mlen_bd (y m:Int):28≤mlen y m∧mlen y m≤31:=by
 have:=lp_01 y;unfold mlen;split <;> (try split) <;> (try split) <;> (try split) <;> (try split) <;> omega
theorem cum_succ {y m:Int}(h1:1≤m) (h2:m≤12):cum y (m+1)=cum y m+mlen y m:=by
 have:m=1∨m=2∨m=3∨m=4∨m=5∨m=6∨m=7∨m=8∨m=9∨m=10∨m=11∨m=12:=by omega
 rcases this with h | h | h | h | h | h | h | h | h | h | h | h <;> subst h <;> simp [cum,mlen] <;> omega
theorem cum_1 (y:Int):cum y 1=0:=by simp [cum]
theorem cum_13 (y:Int):cum y 13=365+lp y:=by simp [cum];omega
theorem cum_bd {y m:Int}(h1:1≤m) (h2:m≤13):0≤cum y m∧cum y m≤366:=by
 have:=lp_01 y;unfold cum;split <;> omega
theorem cum_le {y a b:Int}(h1:1≤a) (h:a≤b):cum y a≤cum y b:=by
 have:=lp_01 y;unfold cum;split <;> split <;> omega
theorem cum_mono {y a b:Int}(h1:1≤a) (h:a<b) (h2:b≤13):cum y a+mlen y a≤cum y b:=by
 rw [←cum_succ (y:=y) h1 (by omega)]
 exact cum_le (by omega) (by omega)
theorem num_year {y m d:Int}(h:isDate y m d=true):bef y≤num y m d+719162∧num y m d+719162<bef (y+1):=by
 rw [isDate_iff] at h
 have hs:=bef_succ y
 have hc:=cum_bd (y:=y) (m:=m) (by omega) (by omega)
 have:cum y m+mlen y m≤365+lp y:=by rw [←cum_13];exact cum_mono h.2.2.1 (by omega) (by omega)
 unfold num;omega
theorem num_bd {y m d:Int}(h:isDate y m d=true) : -719162≤num y m d∧num y m d≤2932896:=by
 have h1:=num_year h
 rw [isDate_iff] at h
 have a:=bef_mono (a:=1) (b:=y) (by omega)
 have b:=bef_mono (a:=y+1) (b:=10000) (by omega)
 rw [bef_1] at a;rw [bef_10000] at b;omega
theorem num_lt_year {y m d y' m' d':Int}(h:isDate y m d=true) (h':isDate y' m' d'=true) (hl:y<y'):num y m d<num y' m' d':=by
 have a:=num_year h;have b:=num_year h'
 have c:=bef_mono (a:=y+1) (b:=y') (by omega);omega
theorem num_lt_month {y m d m' d':Int}(h:isDate y m d=true) (h':isDate y m' d'=true) (hl:m<m'):num y m d<num y m' d':=by
 rw [isDate_iff] at h h'
 have:=cum_mono (y:=y) h.2.2.1 hl (by omega)
 unfold num;omega
theorem num_lt_iff {y m d y' m' d':Int}(h:isDate y m d=true) (h':isDate y' m' d'=true) :
  num y m d<num y' m' d'↔y<y'∨y=y'∧(m<m'∨m=m'∧d<d'):=by
 constructor
 ·intro hlt
  rcases Int.lt_trichotomy y y' with a | a | a
  ·exact .inl a
  ·subst a
   rcases Int.lt_trichotomy m m' with b | b | b
   ·exact .inr ⟨rfl,.inl b⟩
   ·subst b;refine .inr ⟨rfl,.inr ⟨rfl,?_⟩⟩;unfold num at hlt;omega
   ·have:=num_lt_month h' h b;omega
  ·have:=num_lt_year h' h a;omega
 ·rintro (a | ⟨rfl,a | ⟨rfl,a⟩⟩)
  ·exact num_lt_year h h' a
  ·exact num_lt_month h h' a
  ·unfold num;omega
theorem num_inj {y m d y' m' d':Int}(h:isDate y m d=true) (h':isDate y' m' d'=true) (he:num y m d=num y' m' d'):y=y'∧m=m'∧d=d':=by
 have a:=(num_lt_iff h h').2;have b:=(num_lt_iff h' h).2
 rcases Int.lt_trichotomy y y' with c | c | c
 ·have:=a (.inl c);omega
 ·subst c
  rcases Int.lt_trichotomy m m' with c | c | c
  ·have:=a (.inr ⟨rfl,.inl c⟩);omega
  ·subst c;unfold num at he;exact ⟨rfl,rfl,by omega⟩
  ·have:=b (.inr ⟨rfl,.inl c⟩);omega
 ·have:=b (.inl c);omega
def yrUp:Nat→Int→Int→Int
 | 0,_,y=>y
 | k+1,n,y=>if bef (y+1)≤n then yrUp k n (y+1) else y
def moUp:Nat→Int→Int→Int→Int×Int
 | 0,_,m,r=>(m,r)
 | k+1,y,m,r=>if mlen y m≤r then moUp k y (m+1) (r-mlen y m) else (m,r)
def yrOf (days:Int):Int:=yrUp 60 (days+719162) ((days+719162)/366+1)
def dateOf (days:Int):Int×Int×Int :=
 let y:=yrOf days
 let p:=moUp 12 y 1 (days+719162-bef y)
 (y,p.1,p.2+1)
theorem yrUp_spec : ∀ (k:Nat) (n y:Int),bef y≤n→n<bef y+365*(k:Int)+365→bef (yrUp k n y)≤n∧n<bef (yrUp k n y+1)
 | 0,n,y,h1,h2=>by
  simp only [yrUp]
  have:=bef_succ y;have:=lp_01 y
  exact ⟨h1,by simp at h2;omega⟩
 | k+1,n,y,h1,h2=>by
  simp only [yrUp]
  split
  ·rename_i h
   refine yrUp_spec k n (y+1) h ?_
   have:=bef_step (a:=y) (b:=y+1) (by omega)
   simp only [Int.natCast_add,Int.cast_ofNat_Int] at h2;omega
  ·exact ⟨h1,by omega⟩
theorem guess_le {n:Int}(h0:0≤n):bef (n/366+1)≤n:=by unfold bef;omega
theorem guess_near {n:Int}(h0:0≤n) (h1:n≤3652058):n<bef (n/366+1)+365*60:=by unfold bef;omega
theorem yrOf_spec {days:Int}(h0 : -719162≤days) (h1:days≤2932896):bef (yrOf days)≤days+719162∧days+719162<bef (yrOf days+1):=by
 refine yrUp_spec 60 _ _ (guess_le (by omega)) ?_
 have:=guess_near (n:=days+719162) (by omega) (by omega)
 simp;omega
theorem moUp_spec (y:Int) : ∀ (k:Nat) (m r:Int),1≤m→m+k=13→0≤r→cum y m+r<365+lp y →
  1≤(moUp k y m r).1∧(moUp k y m r).1≤12∧0≤(moUp k y m r).2∧(moUp k y m r).2<mlen y (moUp k y m r).1∧cum y (moUp k y m r).1+(moUp k y m r).2=cum y m+r
 | 0,m,r,h1,h2,h3,h4=>by
  have:m=13:=by simpa using h2
  subst this;rw [cum_13] at h4;omega
 | k+1,m,r,h1,h2,h3,h4=>by
  simp only [Int.natCast_add,Int.cast_ofNat_Int] at h2
  have hs:=cum_succ (y:=y) (m:=m) h1 (by omega)
  simp only [moUp]
  split
  ·rename_i h
   have ih:=moUp_spec y k (m+1) (r-mlen y m) (by omega) (by omega) (by omega) (by omega)
   omega
  ·exact ⟨h1,by omega,h3,by show r<mlen y m;omega,rfl⟩
theorem dateOf_spec {days:Int}(h0 : -719162≤days) (h1:days≤2932896) :
  isDate (dateOf days).1 (dateOf days).2.1 (dateOf days).2.2=true∧num (dateOf days).1 (dateOf days).2.1 (dateOf days).2.2=days:=by
 have hy:=yrOf_spec h0 h1
 have hs:=bef_succ (yrOf days)
 have hm:=moUp_spec (yrOf days) 12 1 (days+719162-bef (yrOf days)) (by omega) (by omega) (by omega) (by rw [cum_1];omega)
 rw [cum_1] at hm
 rw [isDate_iff]
 have y1:1≤yrOf days:=by
  rcases Int.lt_or_le (yrOf days) 1 with c | c
  ·have:=bef_mono (a:=yrOf days+1) (b:=1) (by omega);rw [bef_1] at this;omega
  ·exact c
 have y2:yrOf days≤9999:=by
  rcases Int.lt_or_le 9999 (yrOf days) with c | c
  ·have:=bef_mono (a:=10000) (b:=yrOf days) (by omega);rw [bef_10000] at this;omega
  ·exact c
 unfold dateOf num
 dsimp only
 refine ⟨⟨y1,y2,hm.1,hm.2.1,by omega,by omega⟩,by omega⟩
theorem dateOf_num {y m d:Int}(h:isDate y m d=true):dateOf (num y m d)=(y,m,d):=by
 have hb:=num_bd h
 have hs:=dateOf_spec hb.1 hb.2
 obtain ⟨a,b,c⟩:=num_inj hs.1 h hs.2
 ext <;> simp [a,b,c]
theorem dateOf_eq {days y m d:Int}(h:isDate y m d=true) (hn:num y m d=days):dateOf days=(y,m,d):=by
 rw [←hn];exact dateOf_num h
def wd (n:Int):Int:=(n+4)%7
theorem wd_bd (n:Int):0≤wd n∧wd n≤6:=by unfold wd;omega
theorem tmod7 (n:Int):n.tmod 7=if 0≤n then n%7 else -((-n)%7):=by
 split
 ·rename_i h;exact Int.tmod_eq_emod_of_nonneg h
 ·rename_i h
  have:n = - (-n):=by omega
  rw [this,Int.neg_tmod,Int.tmod_eq_emod_of_nonneg (by omega)];simp
theorem wd_go (n:Int):(((n.tmod 7+4).tmod 7)+7).tmod 7=wd n:=by
 simp only [tmod7,wd]
 repeat' split
 all_goals omega
end Civ
end Go.Proofs.YtgjchdhdopgkkaaGreatDoor
namespace Go.Proofs.YtgjchdhdopgkkaaGreatDoor
def wi (n a b:Int):Bool:=decide (a≤n)&&decide (n≤b)
end Go.Proofs.YtgjchdhdopgkkaaGreatDoor
end
section
namespace Go.Proofs.YtgjchdhdopgkkaaGreatDoor
open Civ
def letB (n:Int):Bool:=decide (97≤n∧n≤122∨65≤n∧n≤90)
def digB (n:Int):Bool:=decide (48≤n∧n≤57)
def plainB (n:Int):Bool:=letB n||digB n||n==43||n==45
def allB (p:Int→Bool) (s:ByteArray):Bool:=s.data.toList.all fun c=>p c.toNat
theorem allB_no {p:Int→Bool}{s:ByteArray}{k:Nat}(hk:k<s.size) (h:p s[k].toNat=false):allB p s=false:=by
 unfold allB
 rw [List.all_eq_false]
 refine ⟨s[k],?_,by simpa using h⟩
 have:s[k]=s.data.toList[k]'(by simpa using hk):=rfl
 rw [this];exact List.getElem_mem _
theorem allB_yes {p:Int→Bool}{s:ByteArray}(h : ∀ k (hk:k<s.size),p s[k].toNat=true):allB p s=true:=by
 unfold allB
 rw [List.all_eq_true]
 intro x hx
 obtain ⟨i,hi,rfl⟩:=List.getElem_of_mem hx
 exact h i (by simpa using hi)
end Go.Proofs.YtgjchdhdopgkkaaGreatDoor
end
section
namespace Go.Proofs.YtgjchdhdopgkkaaGreatDoor
open Go.Ab Civ
def c116:AC:=(.seq (.reg [Oo 2 (.mv (.const (.bool false)))]) (.seq (.reg [Mv 3 0,Oo 4 (.bin .geq (.tmp 3) (.const (.int .u8 97))),Mv 5 4,Ot 6 5 (.mv (.tmp 0)),Ot 7 5 (.bin .leq (.tmp 6) (.const (.int .u8 122))),Oo 8 (.pick (.tmp 5) (.tmp 7) (.const (.bool false))),Mv 9 8,Of 10 9 (.mv (.tmp 0)),Of 11 9 (.bin .geq (.tmp 10) (.const (.int .u8 65))),Of 12 9 (.mv (.tmp 11)),Ot 13 12 (.mv (.tmp 0)),Ot 14 12 (.bin .leq (.tmp 13) (.const (.int .u8 90))),Of 15 9 (.pick (.tmp 12) (.tmp 14) (.const (.bool false))),Oo 16 (.pick (.tmp 9) (.const (.bool true)) (.tmp 15)),Mv 2 16]) .ret))
theorem k116:compF Tryz.prog 116=some ⟨c116,[(.tmp 2)],17⟩:=by kernel_rfl
def c119:AC:=(.seq (.reg [Oo 2 (.mv (.const (.bool false)))]) (.seq (.reg [Mv 3 0,Oo 4 (.bin .geq (.tmp 3) (.const (.int .u8 48))),Mv 5 4,Ot 6 5 (.mv (.tmp 0)),Ot 7 5 (.bin .leq (.tmp 6) (.const (.int .u8 57))),Oo 8 (.pick (.tmp 5) (.tmp 7) (.const (.bool false))),Mv 2 8]) .ret))
theorem k119:compF Tryz.prog 119=some ⟨c119,[(.tmp 2)],9⟩:=by kernel_rfl
def c179:AC:=(.seq (.reg [Oo 2 (.mv (.const (.bool false)))]) (.seq (.reg [Mv 3 0,Oo 4 (.call (.func 116) [(.tmp 3)]),Mv 5 4,Of 6 5 (.mv (.tmp 0)),Of 7 5 (.call (.func 119) [(.tmp 6)]),Oo 8 (.pick (.tmp 5) (.const (.bool true)) (.tmp 7)),Mv 9 8,Of 10 9 (.mv (.tmp 0)),Of 11 9 (.bin .eql (.tmp 10) (.const (.int .u8 43))),Oo 12 (.pick (.tmp 9) (.const (.bool true)) (.tmp 11)),Mv 13 12,Of 14 13 (.mv (.tmp 0)),Of 15 13 (.bin .eql (.tmp 14) (.const (.int .u8 45))),Oo 16 (.pick (.tmp 13) (.const (.bool true)) (.tmp 15)),Mv 2 16]) .ret))
theorem k179:compF Tryz.prog 179=some ⟨c179,[(.tmp 2)],17⟩:=by kernel_rfl
def c117:AC:=(.seq (.reg [Oo 4 (.mv (.const (.bool false)))]) (.seq (.seq (.reg [Mv 6 0,Oo 7 (.len true (.tmp 6)),Oo 8 (.mv (Ci 0))]) (.block 0 (.loop (.seq (.reg [Oo 9 (.bin .lss (.tmp 8) (.tmp 7))]) (.seq (.cond (.tmp 9) .skip (.exit 0)) (.seq (.block 1 (.seq (.reg [Mv 10 8,Mv 5 10]) (.seq (.reg [Mv 11 1,Mv 12 0,Mv 13 5,Oo 14 (.ix (.tmp 12) (.tmp 13)),Oo 15 (.call (.tmp 11) [(.tmp 14)]),Oo 16 (.un .not (.tmp 15))]) (.cond (.tmp 16) (.seq (.reg [Oo 4 (.mv (.const (.bool false)))]) .ret) .skip)))) (.reg [Oo 17 (.bin .add (.tmp 8) (Ci 1)),Mv 8 17]))))))) (.seq (.reg [Oo 4 (.mv (.const (.bool true)))]) .ret)))
theorem k117:compF Tryz.prog 117=some ⟨c117,[(.tmp 4)],18⟩:=by kernel_rfl
def c159:AC:=(.seq (.reg [Oo 2 (.mv (.const (.bool false)))]) (.seq (.reg [Mv 3 0,Oo 4 (.call (.func 117) [(.tmp 3),(.func 179)]),Mv 2 4]) .ret))
theorem k159:compF Tryz.prog 159=some ⟨c159,[(.tmp 2)],5⟩:=by kernel_rfl
def c150:AC:=(.seq (.reg [Oo 2 (.mv (Ci 0))]) (.seq (.reg [Mv 3 0,Oo 4 (.bin .sub (.tmp 3) (Ci 1)),Mv 0 4]) (.seq (.reg [Mv 5 0,Oo 6 (.bin .mul (Ci 365) (.tmp 5)),Mv 7 0,Oo 8 (.bin .quo (.tmp 7) (Ci 4)),Oo 9 (.bin .add (.tmp 6) (.tmp 8)),Mv 10 0,Oo 11 (.bin .quo (.tmp 10) (Ci 100)),Oo 12 (.bin .sub (.tmp 9) (.tmp 11)),Mv 13 0,Oo 14 (.bin .quo (.tmp 13) (Ci 400)),Oo 15 (.bin .add (.tmp 12) (.tmp 14)),Mv 2 15]) .ret)))
theorem k150:compF Tryz.prog 150=some ⟨c150,[(.tmp 2)],16⟩:=by kernel_rfl
def c151:AC:=(.seq (.reg [Oo 0 (.mv (Ci 0))]) (.seq (.reg [Oo 1 (.call (.func 150) [(Ci 1970)]),Mv 0 1]) .ret))
theorem k151:compF Tryz.prog 151=some ⟨c151,[(.tmp 0)],2⟩:=by kernel_rfl
def c155:AC:=(.seq (.reg [Oo 0 (.mv (Ci 0))]) (.seq (.reg [Oo 1 (.call (.func 151) []),Oo 2 (.un .neg (.tmp 1)),Mv 0 2]) .ret))
theorem k155:compF Tryz.prog 155=some ⟨c155,[(.tmp 0)],3⟩:=by kernel_rfl
def c156:AC:=(.seq (.reg [Oo 0 (.mv (Ci 0))]) (.seq (.reg [Oo 1 (.call (.func 150) [(Ci 10000)]),Oo 2 (.call (.func 151) []),Oo 3 (.bin .sub (.tmp 1) (.tmp 2)),Oo 4 (.bin .sub (.tmp 3) (Ci 1)),Mv 0 4]) .ret))
theorem k156:compF Tryz.prog 156=some ⟨c156,[(.tmp 0)],5⟩:=by kernel_rfl
abbrev uv (n:Int):AV:=.v (.int .u8 n)
theorem bvx {a b:Bool}(h:a=b):bv a=bv b:=by rw [h]
theorem letter_a {n:Int}{h:AH}:ACalls Tryz.prog 116 [uv n] h fun x h'=>h'=h∧x = .ret (bv (letB n)):=by
 refine tI' k116 fun N hn hlt hlA hbd=>?_
 simp only [tA',AV.bdL,AV.bd,and_true,true_and] at hbd ⊢
 refine wr'<|mv' lkb pt2<|sn'<|wr'<|mv' lk0 pt3<|V' (v_geq lk3 lki) pt4<|mv' lk4 pt5<|?_
 refine sp' gt5 pt5 pt5 (fun hg5=>?_) (fun hg5=>?_)
 ·refine s_do gt5<|mv' lk0 pt6<|s_do gt5<|V' (v_leq lk6 lki) pt7<|V' (v_pickT lk5 lk7) pt8<|mv' lk8 pt9<|?_
  refine sp' gt9 pt9 pt9 (fun hg9=>?_) (fun hg9=>?_)
  ·refine s_no gt9 pt10<|s_no gt9 pt11<|s_no gt9 pt12<|s_nu gt12 pt13<|s_nu gt12 pt14<|s_no gt9 pt15<|V' (v_pickT lk9 lkb) pt16<|mv' lk16 pt2<|sn'<|w_rets<|w_ret (rs1 (rr_t gt2))<|rT'<|?_
   refine bvx ?_;unfold letB;rw [Bool.eq_iff_iff];simp;omega
  refine s_do gt9<|mv' lk0 pt10<|s_do gt9<|V' (v_geq lk10 lki) pt11<|s_do gt9<|mv' lk11 pt12<|?_
  refine sp' gt12 pt12 pt12 (fun hg12=>?_) (fun hg12=>?_)
  ·refine s_do gt12<|mv' lk0 pt13<|s_do gt12<|V' (v_leq lk13 lki) pt14<|s_do gt9<|V' (v_pickT lk12 lk14) pt15<|V' (v_pickF lk9 lk15) pt16<|mv' lk16 pt2<|sn'<|w_rets<|w_ret (rs1 (rr_t gt2))<|rT'<|?_
   refine bvx ?_;unfold letB;rw [Bool.eq_iff_iff];simp;omega
  refine s_no gt12 pt13<|s_no gt12 pt14<|s_do gt9<|V' (v_pickF lk12 lkb) pt15<|V' (v_pickF lk9 lk15) pt16<|mv' lk16 pt2<|sn'<|w_rets<|w_ret (rs1 (rr_t gt2))<|rT'<|?_
  refine bvx ?_;unfold letB;rw [Bool.eq_iff_iff];simp;omega
 refine s_no gt5 pt6<|s_no gt5 pt7<|V' (v_pickF lk5 lkb) pt8<|mv' lk8 pt9<|s_do gt9<|mv' lk0 pt10<|s_do gt9<|V' (v_geq lk10 lki) pt11<|s_do gt9<|mv' lk11 pt12<|?_
 refine sp' gt12 pt12 pt12 (fun hg12=>?_) (fun hg12=>?_)
 ·refine s_do gt12<|mv' lk0 pt13<|s_do gt12<|V' (v_leq lk13 lki) pt14<|s_do gt9<|V' (v_pickT lk12 lk14) pt15<|V' (v_pickF lk9 lk15) pt16<|mv' lk16 pt2<|sn'<|w_rets<|w_ret (rs1 (rr_t gt2))<|rT'<|?_
  refine bvx ?_;unfold letB;rw [Bool.eq_iff_iff];simp;omega
 refine s_no gt12 pt13<|s_no gt12 pt14<|s_do gt9<|V' (v_pickF lk12 lkb) pt15<|V' (v_pickF lk9 lk15) pt16<|mv' lk16 pt2<|sn'<|w_rets<|w_ret (rs1 (rr_t gt2))<|rT'<|?_
 refine bvx ?_;unfold letB;rw [Bool.eq_iff_iff];simp;omega
theorem digit_a {n:Int}{h:AH}:ACalls Tryz.prog 119 [uv n] h fun x h'=>h'=h∧x = .ret (bv (digB n)):=by
 refine tI' k119 fun N hn hlt hlA hbd=>?_
 simp only [tA',AV.bdL,AV.bd,and_true,true_and] at hbd ⊢
 refine wr'<|mv' lkb pt2<|sn'<|wr'<|mv' lk0 pt3<|V' (v_geq lk3 lki) pt4<|mv' lk4 pt5<|?_
 refine sp' gt5 pt5 pt5 (fun hg5=>?_) (fun hg5=>?_)
 ·refine s_do gt5<|mv' lk0 pt6<|s_do gt5<|V' (v_leq lk6 lki) pt7<|V' (v_pickT lk5 lk7) pt8<|mv' lk8 pt2<|sn'<|w_rets<|w_ret (rs1 (rr_t gt2))<|rT'<|?_
  refine bvx ?_;unfold digB;rw [Bool.eq_iff_iff];simp;omega
 refine s_no gt5 pt6<|s_no gt5 pt7<|V' (v_pickF lk5 lkb) pt8<|mv' lk8 pt2<|sn'<|w_rets<|w_ret (rs1 (rr_t gt2))<|rT'<|?_
 refine bvx ?_;unfold digB;rw [Bool.eq_iff_iff];simp;omega
theorem plain1_a {n:Int}{h:AH}:ACalls Tryz.prog 179 [uv n] h fun x h'=>h'=h∧x = .ret (bv (plainB n)):=by
 refine tI' k179 fun N hn hlt hlA hbd=>?_
 simp only [tA',AV.bdL,AV.bd,and_true,true_and] at hbd ⊢
 refine wr'<|mv' lkb pt2<|sn'<|wr'<|mv' lk0 pt3<|s_callp (mp1 lk3 mp0) (letter_a) pt4<|mv' lk4 pt5<|?_
 refine s_splitB gt5 pt5 pt5 (fun hg5=>?_) (fun hg5=>?_)
 ·refine s_no gt5 pt6<|s_no gt5 pt7<|V' (v_pickT lk5 lkb) pt8<|mv' lk8 pt9<|s_no gt9 pt10<|s_no gt9 pt11<|V' (v_pickT lk9 lkb) pt12<|mv' lk12 pt13<|s_no gt13 pt14<|s_no gt13 pt15<|V' (v_pickT lk13 lkb) pt16<|mv' lk16 pt2<|sn'<|?_
  refine w_rets<|w_ret (rs1 (rr_t gt2))<|rT'<|?_
  refine bvx ?_;unfold plainB;rw [Bool.eq_iff_iff];simp_all
 refine s_do gt5<|mv' lk0 pt6<|s_do gt5<|s_callp (mp1 lk6 mp0) (digit_a) pt7<|V' (v_pickF lk5 lk7) pt8<|mv' lk8 pt9<|?_
 refine s_splitB gt9 pt9 pt9 (fun hg9=>?_) (fun hg9=>?_)
 ·refine s_no gt9 pt10<|s_no gt9 pt11<|V' (v_pickT lk9 lkb) pt12<|mv' lk12 pt13<|s_no gt13 pt14<|s_no gt13 pt15<|V' (v_pickT lk13 lkb) pt16<|mv' lk16 pt2<|sn'<|w_rets<|w_ret (rs1 (rr_t gt2))<|rT'<|?_
  refine bvx ?_;unfold plainB;rw [Bool.eq_iff_iff];simp_all
 refine s_do gt9<|mv' lk0 pt10<|s_do gt9<|V' (v_eql lk10 lki) pt11<|V' (v_pickF lk9 lk11) pt12<|mv' lk12 pt13<|?_
 refine sp' gt13 pt13 pt13 (fun hg13=>?_) (fun hg13=>?_)
 ·refine s_no gt13 pt14<|s_no gt13 pt15<|V' (v_pickT lk13 lkb) pt16<|mv' lk16 pt2<|sn'<|w_rets<|w_ret (rs1 (rr_t gt2))<|rT'<|?_
  refine bvx ?_;unfold plainB;rw [Bool.eq_iff_iff];simp_all
 refine s_do gt13<|mv' lk0 pt14<|s_do gt13<|V' (v_eql lk14 lki) pt15<|V' (v_pickF lk13 lk15) pt16<|mv' lk16 pt2<|sn'<|w_rets<|w_ret (rs1 (rr_t gt2))<|rT'<|?_
 refine bvx ?_;unfold plainB;rw [Bool.eq_iff_iff];simp_all
theorem all_a {p:Int→Bool}{f:FuncId}(hp : ∀ (n:Int) (h:AH),ACalls Tryz.prog f [uv n] h fun x h'=>h'=h∧x = .ret (bv (p n))) {s:ByteArray}(hs:s.size≤maxLen) {h:AH} :
  ACalls Tryz.prog 117 [sv s,.v (.func (.func f) #[] #[])] h fun x h'=>h'=h∧x = .ret (bv (allB p s)):=by
 have hm:s.size≤9223372036854775807:=by simpa [maxLen] using hs
 refine tI' k117 fun N hn hlt hlA hbd=>?_
 simp only [tA',AV.bdL,AV.bd,and_true,true_and] at hbd ⊢
 refine wr'<|mv' lkb pt4<|sn'<|w_seq<|wr'<|mv' lk0 pt6<|V' (v_lenS lk6) pt7<|mv' lki pt8<|sn'<|w_block<|?_
 refine w_lp (ι:=Nat) (fun (k:Nat)=>[(8,iv (k:Int)),(4,.any),(5,.any)]++rn' 9 9) (fun (k:Nat)=>[]) (fun (k:Nat)=>k≤s.size ∧ ∀ j (hj:j<s.size),j<k→p s[j].toNat=true) (fun (k:Nat)=>s.size-k) (0) (by exact ⟨by omega,fun j hj h0=>absurd h0 (by omega)⟩) ?_
 rintro k hi1
 try simp only [setsT,setsE,z',s',rn',la',ln',Nat.reduceAdd]
 obtain ⟨hk1,hk2⟩:=hi1
 refine wr'<|V' (v_lss lk8 lk7) pt9<|sn'<|w_seq<|?_
 refine cd' lk9 (fun hc1=>?_) (fun hc1=>?_)
 ·refine w_skip<|n_seq<|w_seq<|w_block<|wr'<|mv' lk8 pt10<|mv' lk10 pt5<|sn'<|wr'<|mv' lk1 pt11<|mv' lk0 pt12<|?_
  refine mv' lk5 pt13 ?_
  refine V' (v_ix lk12 lk13 (by omega) (by omega)) pt14 ?_
  refine s_callT lk11 (mp1 lk14 mp0) (hp _ _) pt15<|V' (v_notB lk15) pt16<|sn'<|?_
  rw [byteAt_get (by omega)] at *
  refine w_condB lk16 (fun hc2=>?_) (fun hc2=>?_)
  ·refine wr'<|mv' lkb pt4<|sn'<|w_rets<|r_blk<|r_thn<|r_thn<|r_blk<|r_thn<|w_ret (rs1 (rr_t gt4))<|rT'<|?_
   refine bvx ?_;rw [allB_no (k:=k) (by omega) (by simpa [byteAt_get (show k<s.size by omega)] using hc2)]
  refine w_skip<|n_blk<|n_seq<|w_reg<|?_
  refine V' (v_add lk8 lki (by omega) (by omega)) pt17 ?_
  refine mv' lk17 pt8<|s_nil<|n_thn<|?_
  refine lT' (k+1) (by (try dsimp only);refine ⟨by omega,fun j hj h0=>?_⟩;by_cases e:j=k;subst e;simpa [byteAt_get hj] using hc2;exact hk2 j hj (by omega))
 refine w_exit<|x_thn<|x_thn<|x_blk<|n_seq<|wr'<|mv' lkb pt4<|sn'<|w_rets<|w_ret (rs1 (rr_t gt4))<|rT'<|?_
 refine bvx ?_;rw [allB_yes fun j hj=>hk2 j hj (by omega)]
theorem plain_a {s:ByteArray}{h:AH}(hs:s.size≤maxLen:=by first | assumption | omega):ACalls Tryz.prog 159 [sv s] h fun x h'=>h'=h∧x = .ret (bv (allB plainB s)):=by
 refine tI' k159 fun N hn hlt hlA hbd=>?_
 simp only [tA',AV.bdL,AV.bd,and_true,true_and] at hbd ⊢
 refine wr'<|mv' lkb pt2<|sn'<|wr'<|mv' lk0 pt3<|?_
 refine s_callp (mp1 lk3 (mp1 lkf mp0)) (all_a (fun _ _=>plain1_a) hs) pt4 ?_
 exact mv' lk4 pt2<|sn'<|w_rets<|w_ret (rs1 (rr_t gt2))<|rT' rfl
theorem before_a {y:Int}{h:AH}(h0:1≤y) (h1:y≤20000):ACalls Tryz.prog 150 [iv y] h fun x h'=>h'=h∧x = .ret (iv (bef y)):=by
 refine tI' k150 fun N hn hlt hlA hbd=>?_
 simp only [tA',AV.bdL,AV.bd,and_true,true_and] at hbd ⊢
 refine wr'<|mv' lki pt2<|sn'<|wr'<|mv' lk0 pt3<|?_
 refine V' (v_sub lk3 lki (by omega) (by omega)) pt4 ?_
 refine mv' lk4 pt0<|sn'<|wr'<|mv' lk0 pt5<|?_
 refine V' (v_mul lki lk5 (by omega) (by omega)) pt6 ?_
 refine mv' lk0 pt7 ?_
 refine V' (v_quo lk7 lki (by omega) (by omega) (by omega)) pt8 ?_
 refine V' (v_add lk6 lk8 (by omega) (by omega)) pt9 ?_
 refine mv' lk0 pt10 ?_
 refine V' (v_quo lk10 lki (by omega) (by omega) (by omega)) pt11 ?_
 refine V' (v_sub lk9 lk11 (by omega) (by omega)) pt12 ?_
 refine mv' lk0 pt13 ?_
 refine V' (v_quo lk13 lki (by omega) (by omega) (by omega)) pt14 ?_
 refine V' (v_add lk12 lk14 (by omega) (by omega)) pt15 ?_
 refine mv' lk15 pt2<|sn'<|w_rets<|w_ret (rs1 (rr_t gt2))<|rT'<|?_
 unfold bef;rfl
theorem epoch_a {h:AH}:ACalls Tryz.prog 151 [] h fun x h'=>h'=h∧x = .ret (iv 719162):=by
 refine tI' k151 fun N hn hlt hlA hbd=>?_
 simp only [tA',AV.bdL,AV.bd,and_true,true_and] at hbd ⊢
 refine wr'<|mv' lki pt0<|sn'<|wr'<|?_
 refine s_callp (mp1 lki mp0) (before_a (by first | assumption | omega) (by first | assumption | omega)) pt1 ?_
 refine mv' lk1 pt0<|sn'<|w_rets<|w_ret (rs1 (rr_t gt0))<|rT'<|?_
 rw [bef_1970]
theorem first_a {h:AH}:ACalls Tryz.prog 155 [] h fun x h'=>h'=h∧x = .ret (iv (-719162)):=by
 refine tI' k155 fun N hn hlt hlA hbd=>?_
 simp only [tA',AV.bdL,AV.bd,and_true,true_and] at hbd ⊢
 refine wr'<|mv' lki pt0<|sn'<|wr'<|s_callp mp0 (epoch_a) pt1<|?_
 refine V' (v_neg lk1 (by omega) (by omega)) pt2 ?_
 exact mv' lk2 pt0<|sn'<|w_rets<|w_ret (rs1 (rr_t gt0))<|rT' rfl
theorem last_a {h:AH}:ACalls Tryz.prog 156 [] h fun x h'=>h'=h∧x = .ret (iv 2932896):=by
 refine tI' k156 fun N hn hlt hlA hbd=>?_
 simp only [tA',AV.bdL,AV.bd,and_true,true_and] at hbd ⊢
 refine wr'<|mv' lki pt0<|sn'<|wr'<|?_
 refine s_callp (mp1 lki mp0) (before_a (by omega) (by omega)) pt1 ?_
 refine s_callp mp0 (epoch_a) pt2 ?_
 refine V' (v_sub lk1 lk2 (by rw [bef_10000];omega) (by rw [bef_10000];omega)) pt3 ?_
 refine V' (v_sub lk3 lki (by rw [bef_10000];omega) (by rw [bef_10000];omega)) pt4 ?_
 refine mv' lk4 pt0<|sn'<|w_rets<|w_ret (rs1 (rr_t gt0))<|rT'<|?_
 rw [bef_10000];rfl
end Go.Proofs.YtgjchdhdopgkkaaGreatDoor
end
section
namespace Go.Proofs.YtgjchdhdopgkkaaGreatDoor
open Go.Ab
abbrev Bs:=List UInt8
def bA (l:Bs):ByteArray:=⟨l.toArray⟩
def aB (s:ByteArray):Bs:=s.data.toList
theorem aB_bA (l:Bs):aB (bA l)=l:=rfl
theorem bA_aB (s:ByteArray):bA (aB s)=s:=rfl
theorem aB_len (s:ByteArray):(aB s).length=s.size:=rfl
theorem bA_size (l:Bs):(bA l).size=l.length:=rfl
theorem bA_app (a b:Bs):bA a++bA b=bA (a++b):=by
 apply ByteArray.ext
 rw [ByteArray.data_append]
 show a.toArray++b.toArray=(a++b).toArray
 simp
theorem bA_ext (s:ByteArray) (a b:Nat):s.extract a b=bA (((aB s).drop a).take (b-a)):=by
 apply ByteArray.ext
 rw [ByteArray.data_extract]
 apply Array.ext'
 rw [Array.toList_extract,List.extract_eq_take_drop]
 rfl
theorem aB_at {s:ByteArray}{k:Nat}(h:k<s.size):(aB s).drop k=byteAt s k::(aB s).drop (k+1):=by
 have h':k<s.data.toList.length:=h
 unfold aB byteAt
 rw [List.drop_eq_getElem_cons h',List.getD_eq_getElem?_getD,List.getElem?_eq_getElem h']
 rfl
theorem aB_end {s:ByteArray}{k:Nat}(h:s.size≤k):(aB s).drop k=[]:=List.drop_of_length_le h
theorem emp_size {f:ByteArray}:f=⟨#[]⟩↔f.size=0:=by
 constructor
 ·rintro rfl;rfl
 ·intro h
  exact ByteArray.ext (Array.eq_empty_of_size_eq_zero h)
theorem byte_lt (c:UInt8):(0:Int)≤(c.toNat:Int)∧(c.toNat:Int)<256:=by have:=c.toNat_lt;omega
def blkN (n:Int):Bool:=decide (n=32∨n=9)
def plnN (n:Int):Bool:=decide (32≤n∧n≤126∨n=9)
def moreL:Bs→Bool
 | []=>false
 | c::_=>decide ((c.toNat:Int)≠35)
def headN:Bs→Int
 | []=>0
 | c::_=>c.toNat
def runL (p:Int→Bool):Bs→Option Nat
 | []=>some 0
 | c::l=>if p c.toNat=true then (if plnN c.toNat=true then (runL p l).map (· + 1) else none) else some 0
theorem runL_le {p:Int→Bool} : ∀ {l:Bs}{n:Nat},runL p l=some n→n≤l.length
 | [],n,h=>by simp [runL] at h;omega
 | c::l,n,h=>by
  unfold runL at h
  split at h
  ·split at h
   ·rw [Option.map_eq_some_iff] at h
    obtain ⟨m,hm,rfl⟩:=h
    have:=runL_le hm
    simp;omega
   ·cases h
  ·simp at h;subst h;omega
theorem runL_end {p:Int→Bool}{s:ByteArray}{k:Nat}(h:s.size≤k):runL p ((aB s).drop k)=some 0:=by rw [aB_end h];rfl
theorem runL_stop {p:Int→Bool}{s:ByteArray}{k:Nat}(h:k<s.size) (hp:p (byteAt s k).toNat=false):runL p ((aB s).drop k)=some 0:=by
 rw [aB_at h,runL,if_neg (by simp [hp])]
theorem runL_bad {p:Int→Bool}{s:ByteArray}{k:Nat}(h:k<s.size) (hp:p (byteAt s k).toNat=true) (hq:plnN (byteAt s k).toNat=false):runL p ((aB s).drop k)=none:=by
 rw [aB_at h,runL,if_pos hp,if_neg (by simp [hq])]
theorem runL_go {p:Int→Bool}{s:ByteArray}{k:Nat}(h:k<s.size) (hp:p (byteAt s k).toNat=true) (hq:plnN (byteAt s k).toNat=true):runL p ((aB s).drop k)=(runL p ((aB s).drop (k+1))).map (· + 1):=by
 rw [aB_at h,runL,if_pos hp,if_pos hq]
theorem moreL_at {s:ByteArray}{k:Nat}:moreL ((aB s).drop k)=(decide (k<s.size)&&decide (((byteAt s k).toNat:Int)≠35)):=by
 rcases Nat.lt_or_ge k s.size with h | h
 ·rw [aB_at h,moreL];simp [h]
 ·rw [aB_end h,moreL];simp [Nat.not_lt.2 h]
theorem headN_at {s:ByteArray}{k:Nat}(h:k<s.size):headN ((aB s).drop k)=((byteAt s k).toNat:Int):=by rw [aB_at h];rfl
def quoP (n:Int):Bool:=decide (n≠34)
def fldP (n:Int):Bool:=!blkN n&&decide (n≠35)&&decide (n≠34)
def fieldL:Bs→Option (Nat×Nat×Nat)
  | []=>none
  | c :: l => if (c.toNat : Int) = 34 then
      match runL quoP l with
      | none=>none
      | some n=>if n=l.length then none else if moreL (l.drop (n+1))=true∧blkN (headN (l.drop (n+1)))=false then none else some (1,n,n+2)
    else match runL fldP (c::l) with
      | none=>none
      | some n=>if moreL ((c::l).drop n)=true∧headN ((c::l).drop n)=34 then none else some (0,n,n)
def cutF (l:Bs) (x:Nat×Nat×Nat):ByteArray:=bA ((l.drop x.1).take x.2.1)
def skipN (l:Bs):Nat:=(l.takeWhile fun c=>blkN c.toNat).length
def fldsL:Nat→List ByteArray→Bs→List ByteArray×Int
  | 0,acc,_=>(acc,0)
  | k + 1, acc, l => if moreL (l.drop (skipN l)) = true then
      match fieldL (l.drop (skipN l)) with
      | none=>([],1)
      | some x=>if 24<x.2.1∨12<acc.length+1 then ([],2) else fldsL k (acc++[cutF (l.drop (skipN l)) x]) ((l.drop (skipN l)).drop x.2.2)
    else (acc,0)
def lineL (l:Bs):List ByteArray×Int:=fldsL 13 [] l
theorem fieldL_le {l:Bs}{x:Nat×Nat×Nat}(h:fieldL l=some x):x.1+x.2.1≤x.2.2∧x.2.2≤l.length∧(x.1=0∨x.1=1):=by
 cases l with
 | nil=>cases h
 | cons c l =>
  by_cases hc:(c.toNat:Int)=34
  ·rw [fieldL,if_pos hc] at h
   cases hr:runL quoP l with
   | none=>rw [hr] at h;cases h
   | some n =>
    have:=runL_le hr
    rw [hr] at h
    simp only at h
    split at h
    ·cases h
    ·split at h
     ·cases h
     ·rename_i h1 _
      cases h
      refine ⟨by simp;omega,by simp;omega,.inr rfl⟩
  ·rw [fieldL,if_neg hc] at h
   cases hr:runL fldP (c::l) with
   | none=>rw [hr] at h;cases h
   | some n =>
    have:=runL_le hr
    rw [hr] at h
    simp only at h
    split at h
    ·cases h
    ·cases h
     exact ⟨by simp,this,.inl rfl⟩
end Go.Proofs.YtgjchdhdopgkkaaGreatDoor
end
section
namespace Go.Proofs.YtgjchdhdopgkkaaGreatDoor
open Go.Ab
def c132:AC:=(.seq (.reg [Oo 2 (.mv (.const (.bool false)))]) (.seq (.reg [Mv 3 0,Oo 4 (.bin .geq (.tmp 3) (.const (.int .u8 32))),Mv 5 4,Ot 6 5 (.mv (.tmp 0)),Ot 7 5 (.bin .leq (.tmp 6) (.const (.int .u8 126))),Oo 8 (.pick (.tmp 5) (.tmp 7) (.const (.bool false))),Mv 9 8,Of 10 9 (.mv (.tmp 0)),Of 11 9 (.bin .eql (.tmp 10) (.const (.int .u8 9))),Oo 12 (.pick (.tmp 9) (.const (.bool true)) (.tmp 11)),Mv 2 12]) .ret))
theorem k132:compF Tryz.prog 132=some ⟨c132,[(.tmp 2)],13⟩:=by kernel_rfl
abbrev u8v (n:Int):AV:=.v (.int .u8 n)
theorem lnplain_a {n:Int}{h:AH}:ACalls Tryz.prog 132 [u8v n] h fun x h'=>h'=h∧x = .ret (bv (plnN n)):=by
 refine tI' k132 fun N hn hlt hlA hbd=>?_
 simp only [tA',AV.bdL,AV.bd,and_true,true_and] at hbd ⊢
 refine wr'<|mv' lkb pt2<|sn'<|wr'<|mv' lk0 pt3<|V' (v_geq lk3 lki) pt4<|mv' lk4 pt5<|?_
 refine sp' gt5 pt5 pt5 (fun hg5=>?_) (fun hg5=>?_)
 ·refine s_do gt5<|mv' lk0 pt6<|s_do gt5<|V' (v_leq lk6 lki) pt7<|V' (v_pickT lk5 lk7) pt8<|mv' lk8 pt9<|?_
  refine sp' gt9 pt9 pt9 (fun hg9=>?_) (fun hg9=>?_)
  ·refine s_no gt9 pt10<|s_no gt9 pt11<|V' (v_pickT lk9 lkb) pt12<|mv' lk12 pt2<|sn'<|w_rets<|w_ret (rs1 (rr_t gt2))<|rT'<|?_
   refine bvx ?_;unfold plnN;rw [Bool.eq_iff_iff];simp;omega
  refine s_do gt9<|mv' lk0 pt10<|s_do gt9<|V' (v_eql lk10 lki) pt11<|V' (v_pickF lk9 lk11) pt12<|mv' lk12 pt2<|sn'<|w_rets<|w_ret (rs1 (rr_t gt2))<|rT'<|?_
  refine bvx ?_;unfold plnN;rw [Bool.eq_iff_iff];simp;omega
 refine s_no gt5 pt6<|s_no gt5 pt7<|V' (v_pickF lk5 lkb) pt8<|mv' lk8 pt9<|s_do gt9<|mv' lk0 pt10<|s_do gt9<|V' (v_eql lk10 lki) pt11<|V' (v_pickF lk9 lk11) pt12<|mv' lk12 pt2<|sn'<|w_rets<|w_ret (rs1 (rr_t gt2))<|?_
 refine rT' ?_
 refine bvx ?_;unfold plnN;rw [Bool.eq_iff_iff];simp;omega
theorem fieldL_q {s : ByteArray} {k : Nat} (hk : k < s.size) (hq : ((byteAt s k).toNat : Int) = 34) : fieldL ((aB s).drop k) = match runL quoP ((aB s).drop (k + 1)) with
      | none=>none
      | some n=>if k+1+n=s.size then none else if moreL ((aB s).drop (k+n+2))=true∧blkN (headN ((aB s).drop (k+n+2)))=false then none else some (1,n,n+2):=by
  rw [aB_at hk,fieldL,if_pos hq]
  cases hr:runL quoP ((aB s).drop (k+1)) with
  | none=>rfl
  | some n =>
    have hle:=runL_le hr
    have hl:((aB s).drop (k+1)).length=s.size-(k+1):=by rw [List.length_drop,aB_len]
    simp only [hl,List.drop_drop,show k+1+(n+1)=k+n+2 by omega]
    by_cases h:k+1+n=s.size
    · rw [if_pos (by omega),if_pos h]
    rw [if_neg (by omega),if_neg h]
theorem fieldL_f {s : ByteArray} {k : Nat} (hk : k < s.size) (hq : ¬ ((byteAt s k).toNat : Int) = 34) : fieldL ((aB s).drop k) = match runL fldP ((aB s).drop k) with
      | none=>none
      | some n=>if moreL ((aB s).drop (k+n))=true∧headN ((aB s).drop (k+n))=34 then none else some (0,n,n):=by
  conv=>lhs;rw [aB_at hk,fieldL,if_neg hq,←aB_at hk]
  simp only [List.drop_drop]
  all_goals cases runL fldP ((aB s).drop k) <;> rfl
end Go.Proofs.YtgjchdhdopgkkaaGreatDoor
end
section
namespace Go.Ab
section
variable {P : Program}
structure AFD where
 al:List AOper
 d:Nat
 k:Nat
 caps:List Operand
 af:AF
def ADef (P:Program) (k:FuncId) (cv:List AV) (m:Option AV) (h:AH) (R:AH→Prop):Prop :=
  ∀ w g (vs:Array Value),SimH w g h→RepL w g cv vs.toList→match m with
    | none=>CallsD P k vs .returning w fun e u' w'=>(∃ v,e = .returned v)∧u' = .returning ∧ ∃ h' g',SimH w' g' h'∧g.le g'∧Fr w (Ow g h) w'∧(∀ k,Ow g' h' k→Ow g h k∨w.heap.size≤k)∧R h'
    | some c => ∀ v, Rep w g c v → CallsD P k vs (.panicking [{ v := v, recovered := false }]) w fun e u' w' => (∃ x, e = .returned x) ∧ (∃ x, u' = .panicking [{ v := x, recovered := true }]) ∧
        ∃ h' g',SimH w' g' h'∧g.le g'∧Fr w (Ow g h) w'∧(∀ k,Ow g' h' k→Ow g h k∨w.heap.size≤k)∧R h'
def doorA (P:Program) (k:FuncId) (cv:List AV) (rs:List AR) (R:AE→AH→Prop):AX→List AV→AH→Prop
 | .normal,T,h=>ADef P k cv none h fun h' => ∃ c,aRes rs T h'=some c∧R (.ret c) h'
 | .ret,T,h=>ADef P k cv none h fun h' => ∃ c,aRes rs T h'=some c∧R (.ret c) h'
 | .pan c,T,h=>ADef P k cv (some c) h fun h' => ∃ r,aRes rs T h'=some r∧R (.ret r) h'
 | .exit _,_,_=>False
def afterR0 (P:Program) (fd:AFD) (R:AE→AH→Prop) (x:AX) (T1:List AV) (h1:AH):Prop:=x = .normal∧fd.d<T1.length∧aw P h1.length fd.af.code (doorA P fd.k (fd.caps.map (aEval T1)) fd.af.res R) (T1.set fd.d .any) h1
theorem afterR0.mk {fd:AFD}{R:AE→AH→Prop}{T T1 cv:List AV}{h:AH}{n:Nat}(hd:fd.d<T.length) (hp:aPut T (some fd.d) .any=T1) (hc:fd.caps.map (aEval T)=cv) (hn:h.length=n) (hw : ∀ M,M=n→aw P M fd.af.code (doorA P fd.k cv fd.af.res R) T1 h):afterR0 P fd R .normal T h:=by
 subst hp hc;exact ⟨rfl,hd,hw _ hn⟩
end
end Go.Ab
end
section
namespace Go.Proofs.YtgjchdhdopgkkaaGreatDoor
open Go.Ab
abbrev strC (s:ByteArray):List AV:=[sv s]
theorem str_lt {n:Nat}(l:List ByteArray):AV.ltL n (rows strC l)=true:=rows_lt (fun _ _=>rfl) l
attribute [local simp] str_lt
theorem str_len1 : ∀ x,(strC x).length=1:=fun _=>rfl
theorem str_len (l:List ByteArray):(rows strC l).length=l.length*1:=rows_len str_len1 l
theorem str_leaf (l:List ByteArray):(rows strC l).all leaf=true:=rows_leaf (fun _=>rfl) l
def fldsT (m:Nat) (acc:List ByteArray) (l:Bs):List ByteArray×Int :=
  if moreL l = true then
      match fieldL l with
      | none=>([],1)
      | some x=>if 24<x.2.1∨12<acc.length+1 then ([],2) else fldsL m (acc++[cutF l x]) (l.drop x.2.2)
    else (acc,0)
theorem fldsL_T (m:Nat) (acc:List ByteArray) (l:Bs):fldsL (m+1) acc l=fldsT m acc (l.drop (skipN l)):=rfl
theorem cutF_size {l:Bs}{y:Nat×Nat×Nat}(h:fieldL l=some y):(cutF l y).size=y.2.1:=by
 obtain ⟨h1,h2,h3⟩:=fieldL_le h
 unfold cutF
 rw [bA_size,List.length_take,List.length_drop];omega
theorem fldsT_no {m:Nat}{fs:List ByteArray}{l:Bs}(h:moreL l=false):fldsT m fs l=(fs,0):=by rw [fldsT,if_neg (by simp [h])]
theorem fldsT_bad {m:Nat}{fs:List ByteArray}{l:Bs}(h:moreL l=true) (hf:fieldL l=none):fldsT m fs l=([],1):=by rw [fldsT,if_pos h,hf]
theorem fldsT_many {m:Nat}{fs:List ByteArray}{l:Bs}{y:Nat×Nat×Nat}(h:moreL l=true) (hf:fieldL l=some y) (hm:24<y.2.1∨12<fs.length+1):fldsT m fs l=([],2):=by rw [fldsT,if_pos h,hf];exact if_pos hm
theorem fldsT_go {m:Nat}{fs:List ByteArray}{l:Bs}{y:Nat×Nat×Nat}(h:moreL l=true) (hf:fieldL l=some y) (hm:¬(24<y.2.1∨12<fs.length+1)):fldsT (m+1) fs l=fldsT m (fs++[cutF l y]) ((l.drop y.2.2).drop (skipN (l.drop y.2.2))):=by rw [fldsT,if_pos h,hf];exact if_neg hm
theorem fldsT_at {m k:Nat}{fs:List ByteArray}{l:Bs}{y:Nat×Nat×Nat}(h:moreL (l.drop k)=true) (hf:fieldL (l.drop k)=some y) (hm:¬(24<y.2.1∨12<fs.length+1)) :
  fldsT (m+1) fs (l.drop k)=fldsT m (fs++[cutF (l.drop k) y]) (l.drop (k+y.2.2+skipN (l.drop (k+y.2.2)))):=by
 rw [fldsT_go h hf hm]
 simp only [List.drop_drop]
end Go.Proofs.YtgjchdhdopgkkaaGreatDoor
end
section
namespace Go.Proofs.YtgjchdhdopgkkaaGreatDoor
open Go.Ab
def cutC (x:UInt8):Bs→List Bs
 | []=>[[]]
 | c::l=>if c=x then []::cutC x l else match cutC x l with
  | []=>[[c]]
  | y::ys=>(c::y)::ys
theorem cutC_ne (x:UInt8) : ∀ l,cutC x l≠[]
 | []=>by simp [cutC]
 | c::l=>by
  unfold cutC
  split
  ·simp
  ·split <;> simp
theorem index_one_hit {x:UInt8} : ∀ {l:Bs}{i:Nat},Lib.index l [x]=i→cutC x l=l.take i::cutC x (l.drop (i+1))∧i<l.length∧l[i]?=some x
 | [],i,h=>by simp [Lib.index] at h
 | c::l,i,h=>by
  unfold Lib.index at h
  by_cases hc:x=c
  ·subst hc
   simp at h
   obtain rfl:i=0:=by omega
   simp [cutC]
  ·have h0:[x].isPrefixOf (c::l)=false:=by simp [List.isPrefixOf,hc]
   rw [h0] at h
   simp only [Bool.false_eq_true,if_false] at h
   have hge:=Lib.index_ge l [x]
   by_cases e:Lib.index l [x] = -1
   ·rw [if_pos (by simpa using e)] at h;omega
   ·rw [if_neg (by simpa using e)] at h
    obtain ⟨j,rfl⟩ : ∃ j,i=j+1:=⟨i-1,by omega⟩
    have hj:Lib.index l [x]=(j:Int):=by
     omega
    obtain ⟨h1,h2,h3⟩:=index_one_hit hj
    refine ⟨?_,by simp;omega,by simpa using h3⟩
    rw [cutC,if_neg (Ne.symm hc),h1]
    rfl
end Go.Proofs.YtgjchdhdopgkkaaGreatDoor
end
section
namespace Go.Ab
open Go.RowKit
section
variable {P : Program}
theorem ACalls.of_below {f:FuncId}{args:List AV}{h:AH}{c:AV}(he:enters P f=true)
  (hc : ∀ w g (vs:Array Value),SimH w g h→RepL w g args vs.toList→Calls P f vs w fun e w' => ∃ v,e = .returned v∧Below w.heap.size w w'∧Rep w' g c v):ACalls P f args h fun x h'=>h'=h∧x = .ret c:=by
 refine ⟨he,fun w g vs hs ha=>(hc w g vs hs ha).mono ?_⟩
 rintro e w' ⟨v,rfl,hb,hr⟩
 have hold : ∀ k,k<w.heap.size→w'.heap[k]?=w.heap[k]?:=fun k hk=>hb.block k hk
 have hs':SimH w' g h:=hs.world (fun k hk=>hold k (hk.elim (hs.lt k) (fun ho=>(hs.own_not_D ho).2))) hb.size
 exact ⟨.ret c,h,g,hr,hs',Gh.le.refl g,⟨hb.os,hb.tape,hb.output,hb.size,fun k hk _=>hold k hk⟩,fun k hk=>.inl hk,rfl,rfl⟩
theorem repL_v {α:Type}(f:α→Value) {w:World}{g:Gh} : ∀ {l:List α}{vs:List Value},RepL w g (rows (fun x=>[AV.v (f x)]) l) vs↔vs=l.map f
 | [],vs=>by simp [rows,RepL]
 | n::l,vs=>by
  rw [show rows (fun x=>[AV.v (f x)]) (n::l)=AV.v (f n)::rows (fun x=>[AV.v (f x)]) l from rfl]
  simp only [RepL,Rep,List.map_cons]
  constructor
  ·rintro ⟨u,us,rfl,rfl,h⟩
   rw [(repL_v f).1 h]
  ·rintro rfl
   exact ⟨_,_,rfl,rfl,(repL_v f).2 rfl⟩
end
end Go.Ab
end
section
namespace Go.Proofs
open Go.Shelf
def Tryz.lays156_ren:Go.Shelf.Ren:=⟨fun | 156=>64 | 165=>97 | 166=>61 | 169=>66 | 240=>95 | 241=>135 | 276=>133 | 277=>166 | n=>n,fun | 31=>65 | 9=>9 | 3=>3 | 4=>4 | 0=>0 | 20=>20 | 72=>102 | 76=>106 | 70=>99 | 37=>100 | 75=>105 | 127=>132 | 164=>156 | 5=>5 | 80=>91 | n=>n,fun | n=>n⟩
theorem Tryz.lays156:Go.Proofs.Lays.n156 Tryz.prog Tryz.lays156_ren:={
 mixed:=by kernel_rfl
 f156:=Tryz.func64.trans (congrArg some (by kernel_rfl))
 f165:=Tryz.func97.trans (congrArg some (by kernel_rfl))
 f166:=Tryz.func61.trans (congrArg some (by kernel_rfl))
 f169:=Tryz.func66.trans (congrArg some (by kernel_rfl))
 f240:=Tryz.func95.trans (congrArg some (by kernel_rfl))
 f241:=Tryz.func135.trans (congrArg some (by kernel_rfl))
 f276:=Tryz.func133.trans (congrArg some (by kernel_rfl))
 f277:=Tryz.func166.trans (congrArg some (by kernel_rfl))
 t0:=Tryz.underlying0
 a0:=Tryz.isAgg0
 z0:=Tryz.sizeOf0
 v0:=Tryz.zeroValue0
 t3:=Tryz.underlying3
 a3:=Tryz.isAgg3
 z3:=Tryz.sizeOf3
 v3:=Tryz.zeroValue3
 t4:=Tryz.underlying4
 a4:=Tryz.isAgg4
 z4:=Tryz.sizeOf4
 v4:=Tryz.zeroValue4
 t9:=Tryz.underlying9
 a9:=Tryz.isAgg9
 z9:=Tryz.sizeOf9
 v9:=Tryz.zeroValue9
 t20:=Tryz.underlying20
 a20:=Tryz.isAgg20
 z20:=Tryz.sizeOf20
 v20:=Tryz.zeroValue20
 t31:=Tryz.underlying65
 a31:=Tryz.isAgg65
 z31:=Tryz.sizeOf65
 v31:=Tryz.zeroValue65
 t37:=Tryz.underlying100
 a37:=Tryz.isAgg100
 z37:=Tryz.sizeOf100
 v37:=Tryz.zeroValue100
 t70:=Tryz.underlying99
 a70:=Tryz.isAgg99
 z70:=Tryz.sizeOf99
 v70:=Tryz.zeroValue99
 t72:=Tryz.underlying102
 a72:=Tryz.isAgg102
 z72:=Tryz.sizeOf102
 v72:=Tryz.zeroValue102
 t75:=Tryz.underlying105
 a75:=Tryz.isAgg105
 z75:=Tryz.sizeOf105
 v75:=Tryz.zeroValue105
 t76:=Tryz.underlying106
 a76:=Tryz.isAgg106
 z76:=Tryz.sizeOf106
 v76:=Tryz.zeroValue106
 t127:=Tryz.underlying132
 a127:=Tryz.isAgg132
 z127:=Tryz.sizeOf132
 v127:=Tryz.zeroValue132
 t164:=Tryz.underlying156
 a164:=Tryz.isAgg156
 z164:=Tryz.sizeOf156
 v164:=Tryz.zeroValue156 }
theorem Tryz.Builder_Extra_156:Builder.Extra Tryz.prog Tryz.lays156_ren:={
 sizeBuilder:=by kernel_rfl
 liesBuilder:=by kernel_rfl
 t5:=Tryz.underlying5
 a5:=Tryz.isAgg5
 z5:=Tryz.sizeOf5
 v5:=Tryz.zeroValue5
 infoByte:=by kernel_rfl
 cellsByte:=by kernel_rfl
 sizeByte:=by kernel_rfl
 neB5:=by decide }
open Go.RowKit in
theorem Tryz.strings_Join (bk o c:Nat) (xs:List ByteArray) (sep:ByteArray) (w:World) (hcells : ∀ (j:Nat) x,xs[j]?=some x→w.cell? ⟨bk,o+j,none⟩=some (.string x)) (hbk:bk<w.heap.size) (hN:xs.length≤140737488355328) (hcap:xs.length≤c) (hlen:(Lib.join (xs.map (·.data.toList)) sep.data.toList).length≤140737488355328) :
  Calls Tryz.prog 64 #[.slice (some ⟨bk,o,none⟩) xs.length c,.string sep] w fun e w'=>e = .returned (.string ⟨(Lib.join (xs.map (·.data.toList)) sep.data.toList).toArray⟩)∧Below w.heap.size w w':=Any.strings_Join Tryz.lays156 Tryz.Builder_Extra_156 bk o c xs sep w hcells hbk hN hcap hlen
def Tryz.lays137_ren:Go.Shelf.Ren:=⟨fun | 137=>120 | 217=>148 | 266=>177 | n=>n,fun | 9=>9 | 5=>5 | 3=>3 | n=>n,fun | n=>n⟩
theorem Tryz.lays137:Go.Proofs.Lays.n137 Tryz.prog Tryz.lays137_ren:={
 mixed:=by kernel_rfl
 f137:=Tryz.func120.trans (congrArg some (by kernel_rfl))
 f217:=Tryz.func148.trans (congrArg some (by kernel_rfl))
 f266:=Tryz.func177.trans (congrArg some (by kernel_rfl))
 t3:=Tryz.underlying3
 a3:=Tryz.isAgg3
 z3:=Tryz.sizeOf3
 v3:=Tryz.zeroValue3
 t5:=Tryz.underlying5
 a5:=Tryz.isAgg5
 z5:=Tryz.sizeOf5
 v5:=Tryz.zeroValue5
 t9:=Tryz.underlying9
 a9:=Tryz.isAgg9
 z9:=Tryz.sizeOf9
 v9:=Tryz.zeroValue9 }
open Go.RowKit in
theorem Tryz.strings_IndexByte (s:ByteArray) (c:Int) (w:World) :
  Calls Tryz.prog 120 #[.string s,.int .u8 c] w fun e w'=>e = .returned (.int .i64 (Lib.indexByte s.data.toList c.toNat.toUInt8))∧w'=w:=Any.strings_IndexByte Tryz.lays137 s c w
def Tryz.laysM171_ren:Go.Shelf.Ren:=⟨fun | 171=>92 | 243=>131 | 246=>161 | 283=>180 | 284=>181 | 285=>182 | 286=>183 | 129=>194 | 317=>193 | 318=>195 | 319=>196 | 320=>197 | 337=>205 | 338=>206 | n=>n,fun | 3=>3 | 9=>9 | 2=>2 | 4=>4 | 171=>183 | 0=>0 | 53=>184 | 37=>100 | 5=>5 | 173=>187 | 212=>194 | 51=>195 | 20=>20 | 213=>196 | 46=>190 | 232=>216 | 233=>217 | n=>n,fun | 17=>1 | 18=>6 | 19=>7 | n=>n⟩
theorem Tryz.laysM171:Go.Proofs.LaysM.n171 Tryz.prog Tryz.laysM171_ren:={
 mixed:=by kernel_rfl
 f129:=Tryz.func194.trans (congrArg some (by kernel_rfl))
 f171:=Tryz.func92.trans (congrArg some (by kernel_rfl))
 f243:=Tryz.func131.trans (congrArg some (by kernel_rfl))
 f246:=Tryz.func161.trans (congrArg some (by kernel_rfl))
 f283:=Tryz.func180.trans (congrArg some (by kernel_rfl))
 f284:=Tryz.func181.trans (congrArg some (by kernel_rfl))
 f285:=Tryz.func182.trans (congrArg some (by kernel_rfl))
 f286:=Tryz.func183.trans (congrArg some (by kernel_rfl))
 f317:=Tryz.func193.trans (congrArg some (by kernel_rfl))
 f318:=Tryz.func195.trans (congrArg some (by kernel_rfl))
 f319:=Tryz.func196.trans (congrArg some (by kernel_rfl))
 f320:=Tryz.func197.trans (congrArg some (by kernel_rfl))
 f337:=Tryz.func205.trans (congrArg some (by kernel_rfl))
 f338:=Tryz.func206.trans (congrArg some (by kernel_rfl))
 t0:=Tryz.underlying0
 a0:=Tryz.isAgg0
 z0:=Tryz.sizeOf0
 v0:=Tryz.zeroValue0
 t2:=Tryz.underlying2
 a2:=Tryz.isAgg2
 z2:=Tryz.sizeOf2
 v2:=Tryz.zeroValue2
 t3:=Tryz.underlying3
 a3:=Tryz.isAgg3
 z3:=Tryz.sizeOf3
 v3:=Tryz.zeroValue3
 t4:=Tryz.underlying4
 a4:=Tryz.isAgg4
 z4:=Tryz.sizeOf4
 v4:=Tryz.zeroValue4
 t5:=Tryz.underlying5
 a5:=Tryz.isAgg5
 z5:=Tryz.sizeOf5
 v5:=Tryz.zeroValue5
 t9:=Tryz.underlying9
 a9:=Tryz.isAgg9
 z9:=Tryz.sizeOf9
 v9:=Tryz.zeroValue9
 t20:=Tryz.underlying20
 a20:=Tryz.isAgg20
 z20:=Tryz.sizeOf20
 v20:=Tryz.zeroValue20
 t37:=Tryz.underlying100
 a37:=Tryz.isAgg100
 z37:=Tryz.sizeOf100
 v37:=Tryz.zeroValue100
 t46:=Tryz.underlying190
 a46:=Tryz.isAgg190
 z46:=Tryz.sizeOf190
 v46:=Tryz.zeroValue190
 t51:=Tryz.underlying195
 a51:=Tryz.isAgg195
 z51:=Tryz.sizeOf195
 v51:=Tryz.zeroValue195
 t53:=Tryz.underlying184
 a53:=Tryz.isAgg184
 z53:=Tryz.sizeOf184
 v53:=Tryz.zeroValue184
 t171:=Tryz.underlying183
 a171:=Tryz.isAgg183
 z171:=Tryz.sizeOf183
 v171:=Tryz.zeroValue183
 t173:=Tryz.underlying187
 a173:=Tryz.isAgg187
 z173:=Tryz.sizeOf187
 v173:=Tryz.zeroValue187
 t212:=Tryz.underlying194
 a212:=Tryz.isAgg194
 z212:=Tryz.sizeOf194
 v212:=Tryz.zeroValue194
 t213:=Tryz.underlying196
 a213:=Tryz.isAgg196
 z213:=Tryz.sizeOf196
 t232:=Tryz.underlying216
 a232:=Tryz.isAgg216
 z232:=Tryz.sizeOf216
 v232:=Tryz.zeroValue216
 t233:=Tryz.underlying217
 a233:=Tryz.isAgg217
 z233:=Tryz.sizeOf217
 v233:=Tryz.zeroValue217
 g17:=by kernel_rfl
 g18:=by kernel_rfl
 g19:=by kernel_rfl
 i0:=by kernel_rfl
 i2:=by kernel_rfl
 i3:=by kernel_rfl
 i4:=by kernel_rfl
 i5:=by kernel_rfl
 i9:=by kernel_rfl
 i20:=by kernel_rfl
 i37:=by kernel_rfl
 i46:=by kernel_rfl
 i51:=by kernel_rfl
 i53:=by kernel_rfl
 i171:=by kernel_rfl
 i173:=by kernel_rfl
 i212:=by kernel_rfl
 i232:=by kernel_rfl
 i233:=by kernel_rfl
 m17:=by kernel_rfl
 m18:=by kernel_rfl
 m19:=by kernel_rfl }
open Go.RowKit Go.Sort Go.Lib in
theorem Tryz.strconv_Itoa (n:Int) (h0 : -9223372036854775808≤n) (h1:n≤9223372036854775807) (w:World) (htab:Lib.TabIs Tryz.prog w "internal/strconv.uint64pow10" .u64 Lib.pow10Tab) :
  Calls Tryz.prog 92 #[.int .i64 n] w fun e w'=>e = .returned (.string ⟨(Lib.itoa n).toArray⟩) ∧ ∃ k os,w'=grow (w.drewN k) os:=Any.strconv_Itoa Tryz.laysM171 n h0 h1 w htab
def Tryz.lays145_ren:Go.Shelf.Ren:=⟨fun | 145=>158 | 220=>178 | 219=>170 | 217=>148 | 225=>186 | 224=>185 | 267=>188 | 266=>177 | 314=>198 | n=>n,fun | 9=>9 | 4=>4 | 59=>164 | 3=>3 | 5=>5 | 46=>190 | 146=>202 | 51=>195 | n=>n,fun | 1=>0 | n=>n⟩
theorem Tryz.lays145:Go.Proofs.Lays.n145 Tryz.prog Tryz.lays145_ren:={
 mixed:=by kernel_rfl
 f145:=Tryz.func158.trans (congrArg some (by kernel_rfl))
 f217:=Tryz.func148.trans (congrArg some (by kernel_rfl))
 f219:=Tryz.func170.trans (congrArg some (by kernel_rfl))
 f220:=Tryz.func178.trans (congrArg some (by kernel_rfl))
 f224:=Tryz.func185.trans (congrArg some (by kernel_rfl))
 f225:=Tryz.func186.trans (congrArg some (by kernel_rfl))
 f266:=Tryz.func177.trans (congrArg some (by kernel_rfl))
 f267:=Tryz.func188.trans (congrArg some (by kernel_rfl))
 f314:=Tryz.func198.trans (congrArg some (by kernel_rfl))
 t3:=Tryz.underlying3
 a3:=Tryz.isAgg3
 z3:=Tryz.sizeOf3
 v3:=Tryz.zeroValue3
 t4:=Tryz.underlying4
 a4:=Tryz.isAgg4
 z4:=Tryz.sizeOf4
 v4:=Tryz.zeroValue4
 t5:=Tryz.underlying5
 a5:=Tryz.isAgg5
 z5:=Tryz.sizeOf5
 v5:=Tryz.zeroValue5
 t9:=Tryz.underlying9
 a9:=Tryz.isAgg9
 z9:=Tryz.sizeOf9
 v9:=Tryz.zeroValue9
 t46:=Tryz.underlying190
 a46:=Tryz.isAgg190
 z46:=Tryz.sizeOf190
 v46:=Tryz.zeroValue190
 t51:=Tryz.underlying195
 a51:=Tryz.isAgg195
 z51:=Tryz.sizeOf195
 v51:=Tryz.zeroValue195
 t59:=Tryz.underlying164
 a59:=Tryz.isAgg164
 z59:=Tryz.sizeOf164
 v59:=Tryz.zeroValue164
 t146:=Tryz.underlying202
 a146:=Tryz.isAgg202
 z146:=Tryz.sizeOf202
 v146:=Tryz.zeroValue202
 g1:=by kernel_rfl }
open Go.RowKit Go.Lib in
theorem Tryz.strings_Cut (s sep:ByteArray) (m:Int) (w:World) (hs:s.size<4294967281) (hm:w.cell? ⟨0,0,none⟩=some (.int .i64 m)) :
  Calls Tryz.prog 158 #[.string s,.string sep] w fun e w'=>e = .returned (.tuple #[.string ⟨(Lib.cut s.data.toList sep.data.toList).1.toArray⟩,.string ⟨(Lib.cut s.data.toList sep.data.toList).2.1.toArray⟩,.bool (Lib.cut s.data.toList sep.data.toList).2.2]) ∧ ∃ n,w'=w.drewN n:=Any.strings_Cut Tryz.lays145 s sep m w hs hm
def Tryz.lays150_ren:Go.Shelf.Ren:=⟨fun | 150=>96 | 153=>134 | 152=>162 | 226=>163 | 227=>164 | 228=>165 | 137=>120 | 119=>184 | 224=>185 | 225=>186 | 217=>148 | 266=>177 | n=>n,fun | 9=>9 | 4=>4 | 3=>3 | 5=>5 | 21=>21 | 117=>170 | 116=>169 | 0=>0 | 46=>190 | 124=>191 | n=>n,fun | n=>n⟩
theorem Tryz.lays150:Go.Proofs.Lays.n150 Tryz.prog Tryz.lays150_ren:={
 mixed:=by kernel_rfl
 f119:=Tryz.func184.trans (congrArg some (by kernel_rfl))
 f137:=Tryz.func120.trans (congrArg some (by kernel_rfl))
 f150:=Tryz.func96.trans (congrArg some (by kernel_rfl))
 f152:=Tryz.func162.trans (congrArg some (by kernel_rfl))
 f153:=Tryz.func134.trans (congrArg some (by kernel_rfl))
 f217:=Tryz.func148.trans (congrArg some (by kernel_rfl))
 f224:=Tryz.func185.trans (congrArg some (by kernel_rfl))
 f225:=Tryz.func186.trans (congrArg some (by kernel_rfl))
 f226:=Tryz.func163.trans (congrArg some (by kernel_rfl))
 f227:=Tryz.func164.trans (congrArg some (by kernel_rfl))
 f228:=Tryz.func165.trans (congrArg some (by kernel_rfl))
 f266:=Tryz.func177.trans (congrArg some (by kernel_rfl))
 t0:=Tryz.underlying0
 a0:=Tryz.isAgg0
 z0:=Tryz.sizeOf0
 v0:=Tryz.zeroValue0
 t3:=Tryz.underlying3
 a3:=Tryz.isAgg3
 z3:=Tryz.sizeOf3
 v3:=Tryz.zeroValue3
 t4:=Tryz.underlying4
 a4:=Tryz.isAgg4
 z4:=Tryz.sizeOf4
 v4:=Tryz.zeroValue4
 t5:=Tryz.underlying5
 a5:=Tryz.isAgg5
 z5:=Tryz.sizeOf5
 v5:=Tryz.zeroValue5
 t9:=Tryz.underlying9
 a9:=Tryz.isAgg9
 z9:=Tryz.sizeOf9
 v9:=Tryz.zeroValue9
 t21:=Tryz.underlying21
 a21:=Tryz.isAgg21
 z21:=Tryz.sizeOf21
 v21:=Tryz.zeroValue21
 t46:=Tryz.underlying190
 a46:=Tryz.isAgg190
 z46:=Tryz.sizeOf190
 v46:=Tryz.zeroValue190
 t116:=Tryz.underlying169
 a116:=Tryz.isAgg169
 z116:=Tryz.sizeOf169
 t117:=Tryz.underlying170
 a117:=Tryz.isAgg170
 z117:=Tryz.sizeOf170
 v117:=Tryz.zeroValue170
 t124:=Tryz.underlying191
 a124:=Tryz.isAgg191
 z124:=Tryz.sizeOf191
 v124:=Tryz.zeroValue191 }
open Go.RowKit Go.Lib in
theorem Tryz.strings_ContainsAny (hv116 : ∀ w,(zeroValue 169).run Tryz.prog w = .ok (.agg (Array.replicate 256 (.bool false))) w) (s chars:ByteArray) (w:World) (hs:s.size<4294967281) (hcs:chars.size<4294967281) (has : ∀ (j:Nat) b,s.data.toList[j]?=some b→b.toNat<128) (hac : ∀ (j:Nat) b,chars.data.toList[j]?=some b→b.toNat<128) :
  Calls Tryz.prog 96 #[.string s,.string chars] w fun e w'=>e = .returned (.bool (Lib.containsAny s.data.toList chars.data.toList))∧Below w.heap.size w w':=Any.strings_ContainsAny Tryz.lays150 hv116 (by kernel_rfl) s chars w hs hcs has hac
end Go.Proofs
end
section
namespace Go.Proofs.YtgjchdhdopgkkaaGreatDoor
open Go.Ab Go.RowKit
attribute [local simp] str_lt
theorem repL_str {w:World}{g:Gh}{l:List ByteArray}{vs:List Value}:RepL w g (rows strC l) vs↔vs=l.map Value.string:=repL_v Value.string
abbrev Ln:=Int×Bool×List ByteArray
abbrev lnC (x:Ln):List AV:=[iv x.1,bv x.2.1,.sl x.2.2.length 1 false (rows strC x.2.2)]
theorem ln_lt {n:Nat}(l:List Ln):AV.ltL n (rows lnC l)=true:=rows_lt (fun n x=>by simp [AV.ltL,AV.lt,str_lt]) l
attribute [local simp] ln_lt
theorem ln_len1 : ∀ x,(lnC x).length=3:=fun _=>rfl
theorem ln_len (l:List Ln):(rows lnC l).length=l.length*3:=rows_len ln_len1 l
def linesL:Int→List Bs→List Ln→List Ln×Int×Int
 | _,[],acc=>(acc,0,0)
 | n,x::xs,acc=>if (lineL x).2≠0 then ([],n,(lineL x).2) else linesL (n+1) xs (if (lineL x).1=[] then acc else acc++[(n,blkN (headN x),(lineL x).1)])
def splitL (s:ByteArray):List Ln×Int×Int :=
 if 8000<s.size then ([],0,2) else
  if (linesL 1 (cutC 10 (aB s)) []).2.2≠0 then linesL 1 (cutC 10 (aB s)) [] else if 200<(linesL 1 (cutC 10 (aB s)) []).1.length then ([],0,2) else linesL 1 (cutC 10 (aB s)) []
theorem lineL_ne {x:Bs}(h:(lineL x).1≠[]):0<x.length:=by
 cases x with
 | nil=>exact absurd rfl h
 | cons c l=>simp
end Go.Proofs.YtgjchdhdopgkkaaGreatDoor
end
section
namespace Go.Proofs.YtgjchdhdopgkkaaGreatDoor
open Go.Ab
attribute [local simp] str_lt
section
theorem LineR_FieldsOf_138 {τ:Operand→AV}{y0:Operand}{x0_0:AV}(h0:cellsV (τ y0)=some [x0_0]) (l0:[x0_0].all leaf=true):fillAV τ [(0,1,y0)] [(.v (.string ⟨#[]⟩))]=some [x0_0]:=by
 simp only [fillAV,h0,l0]
 rfl
theorem LineR_tk_1 {a0:AV}{l:List AV}:(a0::l).take 1=[a0]:=rfl
end
def c68:AC:=(.seq (.reg [Oo 6 (.mv (.const (.bool false)))]) (.seq (.reg [Mv 7 0,Mv 8 1,Oo 9 (.bin .geq (.tmp 7) (.tmp 8)),Mv 10 9,Ot 11 10 (.mv (.tmp 0)),Ot 12 10 (.mv (.tmp 2)),Ot 13 10 (.bin .leq (.tmp 11) (.tmp 12)),Oo 14 (.pick (.tmp 10) (.tmp 13) (.const (.bool false))),Mv 6 14]) .ret))
theorem k68:compF Tryz.prog 68=some ⟨c68,[(.tmp 6)],15⟩:=by kernel_rfl
def c28:AC:=(.seq (.reg [Oo 2 (.mv (.const (.bool false)))]) (.seq (.reg [Mv 3 0,Oo 4 (.bin .eql (.tmp 3) (.const (.int .u8 32))),Mv 5 4,Of 6 5 (.mv (.tmp 0)),Of 7 5 (.bin .eql (.tmp 6) (.const (.int .u8 9))),Oo 8 (.pick (.tmp 5) (.const (.bool true)) (.tmp 7)),Mv 2 8]) .ret))
theorem k28:compF Tryz.prog 28=some ⟨c28,[(.tmp 2)],9⟩:=by kernel_rfl
def c27:AC:=(.seq (.reg [Oo 2 (.mv (.const (.bool false)))]) (.seq (.reg [Mv 3 0,Oo 4 (.cvi .i64 (.tmp 3)),Oo 5 (.call (.func 68) [(.tmp 4),(Ci 32),(Ci 126)]),Mv 6 5,Of 7 6 (.mv (.tmp 0)),Of 8 6 (.bin .eql (.tmp 7) (.const (.int .u8 9))),Oo 9 (.pick (.tmp 6) (.const (.bool true)) (.tmp 8)),Mv 2 9]) .ret))
theorem k27:compF Tryz.prog 27=some ⟨c27,[(.tmp 2)],10⟩:=by kernel_rfl
def c86:AC:=(.seq (.reg [Oo 2 (.mv (.const (.slice none 0 0))),Oo 3 (.mv (Ci 0))]) (.seq (.reg [Oo 4 (.mv (.const (.slice none 0 0)))]) (.seq (.reg [Oo 5 (.mv (Ci 0))]) (.block 0 (.loop (.block 1 (.seq (.block 2 (.loop (.seq (.seq (.reg [Mv 7 5,Mv 8 0,Oo 9 (.len true (.tmp 8)),Oo 10 (.bin .lss (.tmp 7) (.tmp 9)),Mv 11 10,Ot 12 11 (.mv (.tmp 0)),Ot 13 11 (.mv (.tmp 5)),Ot 14 11 (.ix (.tmp 12) (.tmp 13)),Ot 15 11 (.call (.func 28) [(.tmp 14)]),Oo 16 (.pick (.tmp 11) (.tmp 15) (.const (.bool false)))]) (.cond (.tmp 16) .skip (.exit 2))) (.block 3 (.reg [Mv 17 5,Oo 18 (.bin .add (.tmp 17) (Ci 1)),Mv 5 18]))))) (.seq (.seq (.reg [Mv 19 5,Mv 20 0,Oo 21 (.len true (.tmp 20)),Oo 22 (.bin .eql (.tmp 19) (.tmp 21)),Mv 23 22,Of 24 23 (.mv (.tmp 0)),Of 25 23 (.mv (.tmp 5)),Of 26 23 (.ix (.tmp 24) (.tmp 25)),Of 27 23 (.bin .eql (.tmp 26) (.const (.int .u8 35))),Oo 28 (.pick (.tmp 23) (.const (.bool true)) (.tmp 27))]) (.cond (.tmp 28) (.seq (.reg [Mv 29 4,Mv 2 29,Oo 3 (.mv (Ci 0))]) .ret) .skip)) (.seq (.reg [Oo 6 (.mv (.const (.string ⟨#[]⟩)))]) (.seq (.seq (.reg [Mv 30 0,Mv 31 5,Oo 32 (.ix (.tmp 30) (.tmp 31)),Oo 33 (.bin .eql (.tmp 32) (.const (.int .u8 34)))]) (.cond (.tmp 33) (.seq (.reg [Mv 34 5,Oo 35 (.bin .add (.tmp 34) (Ci 1)),Mv 5 35]) (.seq (.block 4 (.loop (.seq (.seq (.reg [Mv 36 5,Mv 37 0,Oo 38 (.len true (.tmp 37)),Oo 39 (.bin .lss (.tmp 36) (.tmp 38)),Mv 40 39,Ot 41 40 (.mv (.tmp 0)),Ot 42 40 (.mv (.tmp 5)),Ot 43 40 (.ix (.tmp 41) (.tmp 42)),Ot 44 40 (.bin .neq (.tmp 43) (.const (.int .u8 34))),Oo 45 (.pick (.tmp 40) (.tmp 44) (.const (.bool false)))]) (.cond (.tmp 45) .skip (.exit 4))) (.block 5 (.seq (.seq (.reg [Mv 46 0,Mv 47 5,Oo 48 (.ix (.tmp 46) (.tmp 47)),Oo 49 (.call (.func 27) [(.tmp 48)]),Oo 50 (.un .not (.tmp 49))]) (.cond (.tmp 50) (.seq (.reg [Oo 2 (.mv (.const (.slice none 0 0))),Oo 3 (.mv (Ci 1))]) .ret) .skip)) (.seq (.reg [Mv 51 6,Mv 52 0,Mv 53 5,Mv 54 5,Oo 55 (.bin .add (.tmp 54) (Ci 1)),Oo 56 (.sls (.tmp 52) (some (.tmp 53)) (some (.tmp 55))),Oo 57 (.bin .add (.tmp 51) (.tmp 56)),Mv 6 57]) (.reg [Mv 58 5,Oo 59 (.bin .add (.tmp 58) (Ci 1)),Mv 5 59]))))))) (.seq (.seq (.reg [Mv 60 5,Mv 61 0,Oo 62 (.len true (.tmp 61)),Oo 63 (.bin .eql (.tmp 60) (.tmp 62))]) (.cond (.tmp 63) (.seq (.reg [Oo 2 (.mv (.const (.slice none 0 0))),Oo 3 (.mv (Ci 1))]) .ret) .skip)) (.seq (.reg [Mv 64 5,Oo 65 (.bin .add (.tmp 64) (Ci 1)),Mv 5 65]) (.seq (.reg [Mv 66 5,Mv 67 0,Oo 68 (.len true (.tmp 67)),Oo 69 (.bin .lss (.tmp 66) (.tmp 68)),Mv 70 69,Ot 71 70 (.mv (.tmp 0)),Ot 72 70 (.mv (.tmp 5)),Ot 73 70 (.ix (.tmp 71) (.tmp 72)),Ot 74 70 (.call (.func 28) [(.tmp 73)]),Ot 75 70 (.un .not (.tmp 74)),Oo 76 (.pick (.tmp 70) (.tmp 75) (.const (.bool false))),Mv 77 76,Ot 78 77 (.mv (.tmp 0)),Ot 79 77 (.mv (.tmp 5)),Ot 80 77 (.ix (.tmp 78) (.tmp 79)),Ot 81 77 (.bin .neq (.tmp 80) (.const (.int .u8 35))),Oo 82 (.pick (.tmp 77) (.tmp 81) (.const (.bool false)))]) (.cond (.tmp 82) (.seq (.reg [Oo 2 (.mv (.const (.slice none 0 0))),Oo 3 (.mv (Ci 1))]) .ret) .skip)))))) (.block 6 (.loop (.seq (.seq (.reg [Mv 83 5,Mv 84 0,Oo 85 (.len true (.tmp 84)),Oo 86 (.bin .lss (.tmp 83) (.tmp 85)),Mv 87 86,Ot 88 87 (.mv (.tmp 0)),Ot 89 87 (.mv (.tmp 5)),Ot 90 87 (.ix (.tmp 88) (.tmp 89)),Ot 91 87 (.call (.func 28) [(.tmp 90)]),Ot 92 87 (.un .not (.tmp 91)),Oo 93 (.pick (.tmp 87) (.tmp 92) (.const (.bool false))),Mv 94 93,Ot 95 94 (.mv (.tmp 0)),Ot 96 94 (.mv (.tmp 5)),Ot 97 94 (.ix (.tmp 95) (.tmp 96)),Ot 98 94 (.bin .neq (.tmp 97) (.const (.int .u8 35))),Oo 99 (.pick (.tmp 94) (.tmp 98) (.const (.bool false)))]) (.cond (.tmp 99) .skip (.exit 6))) (.block 7 (.seq (.seq (.reg [Mv 100 0,Mv 101 5,Oo 102 (.ix (.tmp 100) (.tmp 101)),Oo 103 (.call (.func 27) [(.tmp 102)]),Oo 104 (.un .not (.tmp 103)),Mv 105 104,Of 106 105 (.mv (.tmp 0)),Of 107 105 (.mv (.tmp 5)),Of 108 105 (.ix (.tmp 106) (.tmp 107)),Of 109 105 (.bin .eql (.tmp 108) (.const (.int .u8 34))),Oo 110 (.pick (.tmp 105) (.const (.bool true)) (.tmp 109))]) (.cond (.tmp 110) (.seq (.reg [Oo 2 (.mv (.const (.slice none 0 0))),Oo 3 (.mv (Ci 1))]) .ret) .skip)) (.seq (.reg [Mv 111 6,Mv 112 0,Mv 113 5,Mv 114 5,Oo 115 (.bin .add (.tmp 114) (Ci 1)),Oo 116 (.sls (.tmp 112) (some (.tmp 113)) (some (.tmp 115))),Oo 117 (.bin .add (.tmp 111) (.tmp 116)),Mv 6 117]) (.reg [Mv 118 5,Oo 119 (.bin .add (.tmp 118) (Ci 1)),Mv 5 119]))))))))) (.seq (.reg [Mv 120 4,Mv 121 6,Oo 122 (.lit 9 1 1 [Ss] [(0,(1,(.tmp 121)))]),Oo 123 (.app 9 1 16 (.tmp 120) (.tmp 122)),Mv 4 123]) (.seq (.reg [Mv 124 6,Oo 125 (.len true (.tmp 124)),Oo 126 (.bin .gtr (.tmp 125) (Ci 24)),Mv 127 126,Of 128 127 (.mv (.tmp 4)),Of 129 127 (.len false (.tmp 128)),Of 130 127 (.bin .gtr (.tmp 129) (Ci 12)),Oo 131 (.pick (.tmp 127) (.const (.bool true)) (.tmp 130))]) (.cond (.tmp 131) (.seq (.reg [Oo 2 (.mv (.const (.slice none 0 0))),Oo 3 (.mv (Ci 2))]) .ret) .skip)))))))))))))
theorem k86:compF Tryz.prog 86=some ⟨c86,[(.tmp 2),(.tmp 3)],132⟩:=by kernel_rfl
theorem rlbetween_a {n a b:Int}{h:AH}:ACalls Tryz.prog 68 [iv n,iv a,iv b] h fun x h'=>h'=h∧x = .ret (bv (wi n a b)):=by
 refine tI' k68 fun N hn hlt hlA hbd=>?_
 simp only [tA',AV.bdL,AV.bd,and_true,true_and] at hbd ⊢
 refine wr'<|mv' lkb pt6<|sn'<|wr'<|mv' lk0 pt7<|mv' lk1 pt8<|V' (v_geq lk7 lk8) pt9<|mv' lk9 pt10<|?_
 refine sp' gt10 pt10 pt10 (fun hg10=>?_) (fun hg10=>?_)
 ·refine s_do gt10<|mv' lk0 pt11<|s_do gt10<|mv' lk2 pt12<|s_do gt10<|V' (v_leq lk11 lk12) pt13<|V' (v_pickT lk10 lk13) pt14<|mv' lk14 pt6<|sn'<|w_rets<|w_ret (rs1 (rr_t gt6))<|rT'<|?_
  refine bvx ?_;unfold wi;rw [Bool.eq_iff_iff];simp;omega
 refine s_no gt10 pt11<|s_no gt10 pt12<|s_no gt10 pt13<|V' (v_pickF lk10 lkb) pt14<|mv' lk14 pt6<|sn'<|w_rets<|w_ret (rs1 (rr_t gt6))<|rT'<|?_
 refine bvx ?_;unfold wi;rw [Bool.eq_iff_iff];simp;omega
theorem risBlank_a {n:Int}{h:AH}:ACalls Tryz.prog 28 [u8v n] h fun x h'=>h'=h∧x = .ret (bv (blkN n)):=by
 refine tI' k28 fun N hn hlt hlA hbd=>?_
 simp only [tA',AV.bdL,AV.bd,and_true,true_and] at hbd ⊢
 refine wr'<|mv' lkb pt2<|sn'<|wr'<|mv' lk0 pt3<|V' (v_eql lk3 lki) pt4<|mv' lk4 pt5<|?_
 refine sp' gt5 pt5 pt5 (fun hg5=>?_) (fun hg5=>?_)
 ·refine s_no gt5 pt6<|s_no gt5 pt7<|V' (v_pickT lk5 lkb) pt8<|mv' lk8 pt2<|sn'<|w_rets<|w_ret (rs1 (rr_t gt2))<|rT'<|?_
  refine bvx ?_;unfold blkN;simp_all
 refine s_do gt5<|mv' lk0 pt6<|s_do gt5<|V' (v_eql lk6 lki) pt7<|V' (v_pickF lk5 lk7) pt8<|mv' lk8 pt2<|sn'<|w_rets<|w_ret (rs1 (rr_t gt2))<|rT'<|?_
 refine bvx ?_;unfold blkN;simp_all
theorem risPlain_a {c:UInt8}{h:AH}:ACalls Tryz.prog 27 [u8v c.toNat] h fun x h'=>h'=h∧x = .ret (bv (plnN c.toNat)):=by
 have hb:=byte_lt c
 refine tI' k27 fun N hn hlt hlA hbd=>?_
 simp only [tA',AV.bdL,AV.bd,and_true,true_and] at hbd ⊢
 refine wr'<|mv' lkb pt2<|sn'<|wr'<|mv' lk0 pt3<|?_
 refine V' (v_cvi64 lk3 (by omega) (by omega)) pt4 ?_
 refine s_callp (mp1 lk4 (mp1 lki (mp1 lki mp0))) (rlbetween_a) pt5<|mv' lk5 pt6<|?_
 refine s_splitB gt6 pt6 pt6 (fun hg6=>?_) (fun hg6=>?_)
 ·refine s_no gt6 pt7<|s_no gt6 pt8<|V' (v_pickT lk6 lkb) pt9<|mv' lk9 pt2<|sn'<|w_rets<|w_ret (rs1 (rr_t gt2))<|rT'<|?_
  refine bvx ?_;unfold wi at *;unfold plnN;first | (simp_all;done) | (simp_all;omega)
 refine s_do gt6<|mv' lk0 pt7<|s_do gt6<|V' (v_eql lk7 lki) pt8<|V' (v_pickF lk6 lk8) pt9<|mv' lk9 pt2<|sn'<|w_rets<|w_ret (rs1 (rr_t gt2))<|rT'<|?_
 refine bvx ?_;unfold wi at *;unfold plnN;first | (simp_all;done) | (simp_all;omega)
theorem ext_snoc {s:ByteArray}{a n:Nat}(h:a+n<s.size):bA (((aB s).drop a).take n)++s.extract (a+n) (a+n+1)=bA (((aB s).drop a).take (n+1)):=by
 rw [bA_ext,bA_app,Nat.add_sub_cancel_left,List.take_add,List.drop_drop]
theorem skipN_end {s:ByteArray}{k:Nat}(h:s.size≤k):skipN ((aB s).drop k)=0:=by rw [aB_end h];rfl
theorem skipN_stop {s:ByteArray}{k:Nat}(h:k<s.size) (hp:blkN (byteAt s k).toNat=false):skipN ((aB s).drop k)=0:=by
 rw [aB_at h];simp [skipN,List.takeWhile_cons,hp]
theorem skipN_go {s:ByteArray}{k:Nat}(h:k<s.size) (hp:blkN (byteAt s k).toNat=true):skipN ((aB s).drop k)=skipN ((aB s).drop (k+1))+1:=by
 rw [aB_at h];simp [skipN,List.takeWhile_cons,hp]
theorem fldP_of {n:Int}(h1:blkN n=false) (h2:n≠35) (h3:n≠34):fldP n=true:=by unfold fldP;simp [h1,h2,h3]
set_option maxHeartbeats 2000000 in
theorem rfieldsOf_a {s:ByteArray}{h:AH}(hz:s.size≤8000):ACalls Tryz.prog 86 [sv s] h fun x h'=>h'=h∧x = .ret (.tup [.sl (lineL (aB s)).1.length 1 false (rows strC (lineL (aB s)).1),iv (lineL (aB s)).2]):=by
 refine tW' k86 fun N hn hlt hlA hbd=>?_
 simp only [tA',AV.bdL,AV.bd,and_true,true_and] at hbd ⊢
 refine wr'<|mv' lkn pt2<|mv' lki pt3<|sn'<|wr'<|mv' lkn pt4<|s_nil<|n_seqw (ALe.own0' (st':=1) (ty:=9) gt4 (hl0 hn) pt4 ha0)<|wr'<|mv' lki pt5<|?_
 refine sn'<|w_block<|?_
 refine w_lp (ι:=Nat×List ByteArray×Nat×Nat) (fun (x_:Nat×List ByteArray×Nat×Nat)=>match x_ with | ⟨k,fs,v,m⟩=>[(4,.own (N+0) v fs.length),(5,iv (k:Int)),(2,.any),(3,.any)]++rn' 6 126) (fun (x_:Nat×List ByteArray×Nat×Nat)=>match x_ with | ⟨k,fs,v,m⟩=>[(0,.mk v 9 1 (rows strC fs))]) (fun (x_:Nat×List ByteArray×Nat×Nat)=>match x_ with | ⟨k,fs,v,m⟩=>k≤s.size∧fs.length+m=12∧lineL (aB s)=fldsL (m+1) fs ((aB s).drop k)) (fun (x_:Nat×List ByteArray×Nat×Nat)=>match x_ with | ⟨k,fs,v,m⟩=>m) (⟨0,[],0,12⟩) (by exact ⟨Nat.zero_le _,rfl,rfl⟩) ?_
 rintro ⟨k,fs,v,m⟩ hi1
 try simp only [setsT,setsE,z',s',rn',la',ln',Nat.reduceAdd]
 obtain ⟨hi1,hi2,hi3⟩:=hi1
 rw [fldsL_T,List.drop_drop] at hi3
 refine w_block ?_
 refine w_seqC (ι:=Nat) (fun (p:Nat)=>[(5,iv (p:Int))]++rn' 7 12) (fun (p:Nat)=>[]) (fun (p:Nat)=>p≤s.size∧lineL (aB s)=fldsT m fs ((aB s).drop p)) ?_ ?_
 ·try simp only [setsT,setsE,z',s',rn',la',ln',Nat.reduceAdd]
  refine w_block ?_
  refine w_lp (ι:=Nat) (fun (j:Nat)=>[(5,iv ((k+j:Nat):Int))]++rn' 7 12) (fun (j:Nat)=>[]) (fun (j:Nat)=>k+j≤s.size∧skipN ((aB s).drop k)=skipN ((aB s).drop (k+j))+j) (fun (j:Nat)=>s.size-(k+j)) (0) (by exact ⟨hi1,rfl⟩) ?_
  rintro j hi2
  try simp only [setsT,setsE,z',s',rn',la',ln',Nat.reduceAdd]
  obtain ⟨hj1,hj2⟩:=hi2
  refine w_seq<|wr'<|mv' lk5 pt7<|mv' lk0 pt8<|V' (v_lenS lk8) pt9<|V' (v_lss lk7 lk9) pt10<|mv' lk10 pt11<|?_
  refine sp' gt11 pt11 pt11 (fun hg11=>?_) (fun hg11=>?_)
  ·refine s_do gt11<|mv' lk0 pt12<|s_do gt11<|mv' lk5 pt13<|s_do gt11<|?_
   refine V' (v_ix lk12 lk13 (by omega) (by omega)) pt14 ?_
   refine s_do gt11<|s_callp (mp1 lk14 mp0) (risBlank_a) pt15<|V' (v_pickT lk11 lk15) pt16<|sn'<|?_
   refine w_condB lk16 (fun hc1=>?_) (fun hc1=>?_)
   ·have hG:=skipN_go (s:=s) (k:=k+j) (by omega) hc1
    rw [hG] at hj2
    refine w_skip<|n_seq<|w_block<|w_reg<|mv' lk5 pt17<|?_
    refine V' (v_add lk17 lki (by omega) (by omega)) pt18 ?_
    refine mv' lk18 pt5<|s_nil<|n_blk<|n_thn<|?_
    refine lT' (j+1) (by (try dsimp only);exact ⟨by omega,by rw [show k+(j+1)=k+j+1 from rfl];omega⟩)
   have hE:=skipN_stop (s:=s) (k:=k+j) (by omega) hc1
   rw [hE,Nat.zero_add] at hj2
   rw [hj2] at hi3
   refine w_exit<|x_thn<|x_thn<|x_blk<|n_thn<|?_
   exact cT' (k+j) (by exact ⟨hj1,hi3⟩)
  have hE:=skipN_end (s:=s) (k:=k+j) (by omega)
  rw [hE,Nat.zero_add] at hj2
  rw [hj2] at hi3
  refine s_no gt11 pt12<|s_no gt11 pt13<|s_no gt11 pt14<|s_no gt11 pt15<|V' (v_pickF lk11 lkb) pt16<|sn'<|w_condF lk16<|w_exit<|x_thn<|x_thn<|x_blk<|n_thn<|?_
  exact cT' (k+j) (by exact ⟨hj1,hi3⟩)
 rintro p hq6
 try simp only [setsT,setsE,z',s',rn',la',ln',Nat.reduceAdd]
 obtain ⟨hp1,hp2⟩:=hq6
 refine w_seq<|wr'<|mv' lk5 pt19<|mv' lk0 pt20<|V' (v_lenS lk20) pt21<|V' (v_eql lk19 lk21) pt22<|mv' lk22 pt23<|?_
 refine sp' gt23 pt23 pt23 (fun hg23=>?_) (fun hg23=>?_)
 ·rw [fldsT_no (by rw [moreL_at];simp;omega)] at hp2
  refine s_no gt23 pt24<|s_no gt23 pt25<|s_no gt23 pt26<|s_no gt23 pt27<|V' (v_pickT lk23 lkb) pt28<|sn'<|w_condT lk28<|wr'<|mv' lk4 pt29<|mv' lk29 pt2<|mv' lki pt3<|s_nil<|?_
  refine n_seqw (ALe.iceR (hga hn rfl) gt2 (List.take_of_length_le (by rw [rows_len str_len1];first | exact Nat.le_refl _ | omega)) (by rw [rows_len str_len1];first | exact Nat.le_refl _ | omega) pt2 (hs0 hn)) ?_
  refine w_rets<|r_thn<|r_blk<|r_thn<|r_blk<|w_ret (rsn (rm1 (rr_t gt2) (rm1 (rr_t gt3) rm0)))<|rtW'<|?_
  rw [hp2];exact Wk.tup (wkw (Wk.refl _) (wk1 rfl wk0))
 refine s_do gt23<|mv' lk0 pt24<|s_do gt23<|mv' lk5 pt25<|s_do gt23<|?_
 refine V' (v_ix lk24 lk25 (by omega) (by omega)) pt26 ?_
 refine s_do gt23<|V' (v_eql lk26 lki) pt27<|V' (v_pickF lk23 lk27) pt28<|sn'<|?_
 refine cd' lk28 (fun hc2=>?_) (fun hc2=>?_)
 ·have hc2':((byteAt s p).toNat:Int)=35:=hc2
  rw [fldsT_no (by rw [moreL_at];simp [hc2'])] at hp2
  refine wr'<|mv' lk4 pt29<|mv' lk29 pt2<|mv' lki pt3<|s_nil<|?_
  refine n_seqw (ALe.iceR (hga hn rfl) gt2 (List.take_of_length_le (by rw [rows_len str_len1];first | exact Nat.le_refl _ | omega)) (by rw [rows_len str_len1];first | exact Nat.le_refl _ | omega) pt2 (hs0 hn)) ?_
  refine w_rets<|r_thn<|r_blk<|r_thn<|r_blk<|w_ret (rsn (rm1 (rr_t gt2) (rm1 (rr_t gt3) rm0)))<|rtW'<|?_
  rw [hp2];exact Wk.tup (wkw (Wk.refl _) (wk1 rfl wk0))
 have hps:p<s.size:=by omega
 have hc2':¬((byteAt s p).toNat:Int)=35:=hc2
 have hm:moreL ((aB s).drop p)=true:=by rw [moreL_at];simp only [hps,hc2',decide_true,Bool.and_self,ne_eq,not_false_eq_true]
 refine w_skip<|n_seq<|wr'<|mv' lks pt6<|sn'<|?_
 refine w_seqC (ι:=Nat×Nat×Nat) (fun (y:Nat×Nat×Nat)=>[(5,iv ((p+y.2.2:Nat):Int)),(6,sv (cutF ((aB s).drop p) y)),(2,.any),(3,.any)]++rn' 30 90) (fun (y:Nat×Nat×Nat)=>[]) (fun (y:Nat×Nat×Nat)=>fieldL ((aB s).drop p)=some y) ?_ ?_
 ·try simp only [setsT,setsE,z',s',rn',la',ln',Nat.reduceAdd]
  refine wr'<|mv' lk0 pt30<|mv' lk5 pt31<|?_
  refine V' (v_ix lk30 lk31 (by omega) (by omega)) pt32 ?_
  refine V' (v_eql lk32 lki) pt33<|sn'<|?_
  refine cd' lk33 (fun hc3=>?_) (fun hc3=>?_)
  ·have hF:=fieldL_q hps hc3
   refine wr'<|mv' lk5 pt34<|?_
   refine V' (v_add lk34 lki (by omega) (by omega)) pt35 ?_
   refine mv' lk35 pt5<|sn'<|w_seq<|w_block<|?_
   refine w_lp (ι:=Nat) (fun (n:Nat)=>[(5,iv ((p+1+n:Nat):Int)),(6,sv (bA (((aB s).drop (p+1)).take n))),(2,.any),(3,.any)]++rn' 36 24) (fun (n:Nat)=>[]) (fun (n:Nat)=>p+1+n≤s.size∧runL quoP ((aB s).drop (p+1))=(runL quoP ((aB s).drop (p+1+n))).map (· + n)) (fun (n:Nat)=>s.size-(p+1+n)) (0) (by exact ⟨by omega,by simp⟩) ?_
   rintro n hi3
   try simp only [setsT,setsE,z',s',rn',la',ln',Nat.reduceAdd]
   obtain ⟨hn1,hn2⟩:=hi3
   refine w_seq<|wr'<|mv' lk5 pt36<|mv' lk0 pt37<|V' (v_lenS lk37) pt38<|V' (v_lss lk36 lk38) pt39<|mv' lk39 pt40<|?_
   refine sp' gt40 pt40 pt40 (fun hg40=>?_) (fun hg40=>?_)
   ·refine s_do gt40<|mv' lk0 pt41<|s_do gt40<|mv' lk5 pt42<|s_do gt40<|?_
    refine V' (v_ix lk41 lk42 (by omega) (by omega)) pt43 ?_
    refine s_do gt40<|V' (v_neq lk43 lki) pt44<|V' (v_pickT lk40 lk44) pt45<|sn'<|?_
    refine cd' lk45 (fun hc4=>?_) (fun hc4=>?_)
    ·have hq:quoP (byteAt s (p+1+n)).toNat=true:=decide_eq_true hc4
     refine w_skip<|n_seq<|w_block<|w_seq<|wr'<|mv' lk0 pt46<|mv' lk5 pt47<|?_
     refine V' (v_ix lk46 lk47 (by omega) (by omega)) pt48 ?_
     refine s_callp (mp1 lk48 mp0) (risPlain_a) pt49<|V' (v_notB lk49) pt50<|sn'<|?_
     refine w_condB lk50 (fun hc5=>?_) (fun hc5=>?_)
     ·rw [runL_bad (s:=s) (k:=p+1+n) (by omega) hq (by have:=hc5;rw [Bool.not_eq_true'] at this;exact this)] at hn2
      simp only [Option.map_none] at hn2
      rw [hn2] at hF
      rw [fldsT_bad hm hF] at hp2
      refine wr'<|mv' lkn pt2<|mv' lki pt3<|sn'<|w_rets<|r_thn<|r_blk<|r_thn<|r_blk<|r_thn<|r_thn<|r_blk<|?_
      refine r_thn<|r_blk<|w_ret (rsn (rm1 (rr_t gt2) (rm1 (rr_t gt3) rm0)))<|rtW'<|?_
      rw [hp2];exact Wk.tup (wkw Wk.nilF (wk1 rfl wk0))
     rw [runL_go (s:=s) (k:=p+1+n) (by omega) hq (by have:=hc5;rw [Bool.not_eq_false'] at this;exact this)] at hn2
     have hsn:=ext_snoc (s:=s) (a:=p+1) (n:=n) (by omega)
     refine w_skip<|n_seq<|wr'<|mv' lk6 pt51<|mv' lk0 pt52<|mv' lk5 pt53<|mv' lk5 pt54<|?_
     refine V' (v_add lk54 lki (by omega) (by omega)) pt55 ?_
     refine V' (v_sls lk52 (oi lk53) (oi lk55) (by omega) (by omega) (by omega)) pt56 ?_
     refine V' (v_addS lk51 lk56 (by first | omega | (rw [bA_size,List.length_take,ByteArray.size_extract];omega))) pt57 ?_
     refine mv' lk57 pt6<|sn'<|w_reg<|mv' lk5 pt58<|?_
     refine V' (v_add lk58 lki (by omega) (by omega)) pt59 ?_
     refine mv' lk59 pt5<|s_nil<|n_blk<|n_thn<|?_
     refine lU' (n+1) (by (try dsimp only);exact ⟨by omega,by rw [hn2,Option.map_map];rw [show p+1+(n+1)=p+1+n+1 from rfl];congr 1;funext x;simp;omega⟩) (by (try dsimp only);(try simp only [setsT,setsE,z',s',rn',la',ln',Nat.reduceAdd]);exact ALe.same (by repeat (first | exact wk0 | refine wka ?_ | refine wk1 rfl ?_ | refine wk1 (by first | rfl | exact ivx (by omega) | (exact congrArg sv hsn.symm)) ?_)) rfl)
    have hc4':((byteAt s (p+1+n)).toNat:Int)=34:=Decidable.of_not_not hc4
    rw [runL_stop (s:=s) (k:=p+1+n) (by omega) (by rw [hc4'];decide)] at hn2
    simp only [Option.map_some,Nat.zero_add] at hn2
    rw [hn2] at hF
    simp only at hF
    refine w_exit<|x_thn<|x_thn<|x_blk<|n_seq<|w_seq<|wr'<|mv' lk5 pt60<|mv' lk0 pt61<|V' (v_lenS lk61) pt62<|V' (v_eql lk60 lk62) pt63<|sn'<|?_
    refine cd' lk63 (fun hc6=>?_) (fun hc6=>?_)
    ·rw [if_pos (by omega)] at hF
     rw [fldsT_bad hm hF] at hp2
     refine wr'<|mv' lkn pt2<|mv' lki pt3<|sn'<|w_rets<|r_thn<|r_thn<|r_blk<|r_thn<|r_blk<|w_ret (rsn (rm1 (rr_t gt2) (rm1 (rr_t gt3) rm0)))<|rtW'<|?_
     rw [hp2];exact Wk.tup (wkw Wk.nilF (wk1 rfl wk0))
    rw [if_neg (by omega)] at hF
    refine w_skip<|n_seq<|wr'<|mv' lk5 pt64<|?_
    refine V' (v_add lk64 lki (by omega) (by omega)) pt65 ?_
    refine mv' lk65 pt5<|sn'<|?_
    rw [show (((p+1+n:Nat):Int)+1)=((p+n+2:Nat):Int) by omega]
    refine wr'<|mv' lk5 pt66<|mv' lk0 pt67<|V' (v_lenS lk67) pt68<|V' (v_lss lk66 lk68) pt69<|mv' lk69 (ptS pt0)<|?_
    refine sp' (gtS gt0) (ptS pt0) (ptS pt0) (fun hg70=>?_) (fun hg70=>?_)
    ·refine s_do (gtS gt0)<|mv' lk0 (ptS pt1)<|s_do (gtS gt0)<|mv' lk5 (ptS pt2)<|s_do (gtS gt0)<|?_
     refine V' (v_ix (lkS lk1) (lkS lk2) (by omega) (by omega)) (ptS pt3) ?_
     refine s_do (gtS gt0)<|s_callp (mp1 (lkS lk3) mp0) (risBlank_a) (ptS pt4)<|s_do (gtS gt0)<|V' (v_notB (lkS lk4)) (ptS pt5)<|V' (v_pickT (lkS lk0) (lkS lk5)) (ptS pt6)<|mv' (lkS lk6) (ptS pt7)<|?_
     refine s_splitB (gtS gt7) (ptS pt7) (ptS pt7) (fun hg77=>?_) (fun hg77=>?_)
     ·refine s_do (gtS gt7)<|mv' lk0 (ptS pt8)<|s_do (gtS gt7)<|mv' lk5 (ptS pt9)<|s_do (gtS gt7)<|?_
      refine V' (v_ix (lkS lk8) (lkS lk9) (by omega) (by omega)) (ptS pt10) ?_
      refine s_do (gtS gt7)<|V' (v_neq (lkS lk10) lki) (ptS pt11)<|V' (v_pickT (lkS lk7) (lkS lk11)) (ptS pt12)<|sn'<|?_
      refine cd' (lkS lk12) (fun hc7=>?_) (fun hc7=>?_)
      ·have hb:blkN (byteAt s (p+n+2)).toNat=false:=by have:=hg77;rw [Bool.not_eq_true'] at this;exact this
       have hc7':((byteAt s (p+n+2)).toNat:Int)≠35:=hc7
       rw [if_pos ⟨by rw [moreL_at];simp only [show p+n+2<s.size by omega,hc7',decide_true,Bool.and_self,ne_eq,not_false_eq_true],by rw [headN_at (by omega),hb]⟩] at hF
       rw [fldsT_bad hm hF] at hp2
       refine wr'<|mv' lkn pt2<|mv' lki pt3<|sn'<|w_rets<|r_thn<|r_blk<|r_thn<|r_blk<|w_ret (rsn (rm1 (rr_t gt2) (rm1 (rr_t gt3) rm0)))<|rtW'<|?_
       rw [hp2];exact Wk.tup (wkw Wk.nilF (wk1 rfl wk0))
      have hc7':((byteAt s (p+n+2)).toNat:Int)=35:=Decidable.of_not_not hc7
      rw [if_neg (by rw [moreL_at];simp [hc7'])] at hF
      refine w_skip<|n_thn<|?_
      exact cT' ((1,n,n+2)) (by exact hF) (by (try dsimp only);(try simp only [setsT,setsE,z',s',rn',la',ln',Nat.reduceAdd]);exact ALe.same (by repeat (first | exact wk0 | refine wka ?_ | refine wk1 rfl ?_ | refine wk1 (by first | rfl | exact ivx (by simp;omega) | (simp [cutF,List.drop_drop];done)) ?_)) rfl)
     have hb:blkN (byteAt s (p+n+2)).toNat=true:=by have:=hg77;rw [Bool.not_eq_false'] at this;exact this
     rw [if_neg (by rw [headN_at (by omega),hb];simp)] at hF
     refine s_no (gtS gt7) (ptS pt8)<|s_no (gtS gt7) (ptS pt9)<|s_no (gtS gt7) (ptS pt10)<|s_no (gtS gt7) (ptS pt11)<|V' (v_pickF (lkS lk7) lkb) (ptS pt12)<|sn'<|w_condF (lkS lk12)<|w_skip<|n_thn<|?_
     exact cT' ((1,n,n+2)) (by exact hF) (by (try dsimp only);(try simp only [setsT,setsE,z',s',rn',la',ln',Nat.reduceAdd]);exact ALe.same (by repeat (first | exact wk0 | refine wka ?_ | refine wk1 rfl ?_ | refine wk1 (by first | rfl | exact ivx (by simp;omega) | (simp [cutF,List.drop_drop];done)) ?_)) rfl)
    rw [if_neg (by rw [moreL_at];simp;omega)] at hF
    refine s_no (gtS gt0) (ptS pt1)<|s_no (gtS gt0) (ptS pt2)<|s_no (gtS gt0) (ptS pt3)<|s_no (gtS gt0) (ptS pt4)<|s_no (gtS gt0) (ptS pt5)<|V' (v_pickF (lkS lk0) lkb) (ptS pt6)<|mv' (lkS lk6) (ptS pt7)<|s_no (gtS gt7) (ptS pt8)<|s_no (gtS gt7) (ptS pt9)<|s_no (gtS gt7) (ptS pt10)<|s_no (gtS gt7) (ptS pt11)<|V' (v_pickF (lkS lk7) lkb) (ptS pt12)<|sn'<|?_
    refine w_condF (lkS lk12)<|w_skip<|n_thn<|?_
    exact cT' ((1,n,n+2)) (by exact hF) (by (try dsimp only);(try simp only [setsT,setsE,z',s',rn',la',ln',Nat.reduceAdd]);exact ALe.same (by repeat (first | exact wk0 | refine wka ?_ | refine wk1 rfl ?_ | refine wk1 (by first | rfl | exact ivx (by simp;omega) | (simp [cutF,List.drop_drop];done)) ?_)) rfl)
   rw [runL_end (s:=s) (k:=p+1+n) (by omega)] at hn2
   simp only [Option.map_some,Nat.zero_add] at hn2
   rw [hn2] at hF
   simp only at hF
   refine s_no gt40 pt41<|s_no gt40 pt42<|s_no gt40 pt43<|s_no gt40 pt44<|V' (v_pickF lk40 lkb) pt45<|sn'<|w_condF lk45<|w_exit<|x_thn<|x_thn<|x_blk<|n_seq<|w_seq<|?_
   refine wr'<|mv' lk5 pt60<|mv' lk0 pt61<|V' (v_lenS lk61) pt62<|V' (v_eql lk60 lk62) pt63<|sn'<|?_
   refine cd' lk63 (fun hc6=>?_) (fun hc6=>?_)
   ·rw [if_pos (by omega)] at hF
    rw [fldsT_bad hm hF] at hp2
    refine wr'<|mv' lkn pt2<|mv' lki pt3<|sn'<|w_rets<|r_thn<|r_thn<|r_blk<|r_thn<|r_blk<|w_ret (rsn (rm1 (rr_t gt2) (rm1 (rr_t gt3) rm0)))<|rtW'<|?_
    rw [hp2];exact Wk.tup (wkw Wk.nilF (wk1 rfl wk0))
   rw [if_neg (by omega)] at hF
   refine w_skip<|n_seq<|wr'<|mv' lk5 pt64<|?_
   refine V' (v_add lk64 lki (by omega) (by omega)) pt65 ?_
   refine mv' lk65 pt5<|sn'<|?_
   rw [show (((p+1+n:Nat):Int)+1)=((p+n+2:Nat):Int) by omega]
   refine wr'<|mv' lk5 pt66<|mv' lk0 pt67<|V' (v_lenS lk67) pt68<|V' (v_lss lk66 lk68) pt69<|mv' lk69 (ptS pt0)<|?_
   refine sp' (gtS gt0) (ptS pt0) (ptS pt0) (fun hg70=>?_) (fun hg70=>?_)
   ·refine s_do (gtS gt0)<|mv' lk0 (ptS pt1)<|s_do (gtS gt0)<|mv' lk5 (ptS pt2)<|s_do (gtS gt0)<|?_
    refine V' (v_ix (lkS lk1) (lkS lk2) (by omega) (by omega)) (ptS pt3) ?_
    refine s_do (gtS gt0)<|s_callp (mp1 (lkS lk3) mp0) (risBlank_a) (ptS pt4)<|s_do (gtS gt0)<|V' (v_notB (lkS lk4)) (ptS pt5)<|V' (v_pickT (lkS lk0) (lkS lk5)) (ptS pt6)<|mv' (lkS lk6) (ptS pt7)<|?_
    refine s_splitB (gtS gt7) (ptS pt7) (ptS pt7) (fun hg77=>?_) (fun hg77=>?_)
    ·refine s_do (gtS gt7)<|mv' lk0 (ptS pt8)<|s_do (gtS gt7)<|mv' lk5 (ptS pt9)<|s_do (gtS gt7)<|?_
     refine V' (v_ix (lkS lk8) (lkS lk9) (by omega) (by omega)) (ptS pt10) ?_
     refine s_do (gtS gt7)<|V' (v_neq (lkS lk10) lki) (ptS pt11)<|V' (v_pickT (lkS lk7) (lkS lk11)) (ptS pt12)<|sn'<|?_
     refine cd' (lkS lk12) (fun hc7=>?_) (fun hc7=>?_)
     ·have hb:blkN (byteAt s (p+n+2)).toNat=false:=by have:=hg77;rw [Bool.not_eq_true'] at this;exact this
      have hc7':((byteAt s (p+n+2)).toNat:Int)≠35:=hc7
      rw [if_pos ⟨by rw [moreL_at];simp only [show p+n+2<s.size by omega,hc7',decide_true,Bool.and_self,ne_eq,not_false_eq_true],by rw [headN_at (by omega),hb]⟩] at hF
      rw [fldsT_bad hm hF] at hp2
      refine wr'<|mv' lkn pt2<|mv' lki pt3<|sn'<|w_rets<|r_thn<|r_blk<|r_thn<|r_blk<|w_ret (rsn (rm1 (rr_t gt2) (rm1 (rr_t gt3) rm0)))<|rtW'<|?_
      rw [hp2];exact Wk.tup (wkw Wk.nilF (wk1 rfl wk0))
     have hc7':((byteAt s (p+n+2)).toNat:Int)=35:=Decidable.of_not_not hc7
     rw [if_neg (by rw [moreL_at];simp [hc7'])] at hF
     refine w_skip<|n_thn<|?_
     exact cT' ((1,n,n+2)) (by exact hF) (by (try dsimp only);(try simp only [setsT,setsE,z',s',rn',la',ln',Nat.reduceAdd]);exact ALe.same (by repeat (first | exact wk0 | refine wka ?_ | refine wk1 rfl ?_ | refine wk1 (by first | rfl | exact ivx (by simp;omega) | (simp [cutF,List.drop_drop];done)) ?_)) rfl)
    have hb:blkN (byteAt s (p+n+2)).toNat=true:=by have:=hg77;rw [Bool.not_eq_false'] at this;exact this
    rw [if_neg (by rw [headN_at (by omega),hb];simp)] at hF
    refine s_no (gtS gt7) (ptS pt8)<|s_no (gtS gt7) (ptS pt9)<|s_no (gtS gt7) (ptS pt10)<|s_no (gtS gt7) (ptS pt11)<|V' (v_pickF (lkS lk7) lkb) (ptS pt12)<|sn'<|w_condF (lkS lk12)<|w_skip<|n_thn<|?_
    exact cT' ((1,n,n+2)) (by exact hF) (by (try dsimp only);(try simp only [setsT,setsE,z',s',rn',la',ln',Nat.reduceAdd]);exact ALe.same (by repeat (first | exact wk0 | refine wka ?_ | refine wk1 rfl ?_ | refine wk1 (by first | rfl | exact ivx (by simp;omega) | (simp [cutF,List.drop_drop];done)) ?_)) rfl)
   rw [if_neg (by rw [moreL_at];simp;omega)] at hF
   refine s_no (gtS gt0) (ptS pt1)<|s_no (gtS gt0) (ptS pt2)<|s_no (gtS gt0) (ptS pt3)<|s_no (gtS gt0) (ptS pt4)<|s_no (gtS gt0) (ptS pt5)<|V' (v_pickF (lkS lk0) lkb) (ptS pt6)<|mv' (lkS lk6) (ptS pt7)<|s_no (gtS gt7) (ptS pt8)<|s_no (gtS gt7) (ptS pt9)<|s_no (gtS gt7) (ptS pt10)<|s_no (gtS gt7) (ptS pt11)<|V' (v_pickF (lkS lk7) lkb) (ptS pt12)<|sn'<|?_
   refine w_condF (lkS lk12)<|w_skip<|n_thn<|?_
   exact cT' ((1,n,n+2)) (by exact hF) (by (try dsimp only);(try simp only [setsT,setsE,z',s',rn',la',ln',Nat.reduceAdd]);exact ALe.same (by repeat (first | exact wk0 | refine wka ?_ | refine wk1 rfl ?_ | refine wk1 (by first | rfl | exact ivx (by simp;omega) | (simp [cutF,List.drop_drop];done)) ?_)) rfl)
  have hF:=fieldL_f hps hc3
  refine w_block ?_
  refine w_lp (ι:=Nat) (fun (n:Nat)=>[(5,iv ((p+n:Nat):Int)),(6,sv (bA (((aB s).drop p).take n))),(2,.any),(3,.any)]++rn' 83 37) (fun (n:Nat)=>[]) (fun (n:Nat)=>p+n≤s.size∧runL fldP ((aB s).drop p)=(runL fldP ((aB s).drop (p+n))).map (· + n)) (fun (n:Nat)=>s.size-(p+n)) (0) (by exact ⟨by omega,by simp⟩) ?_
  rintro n hi4
  try simp only [setsT,setsE,z',s',rn',la',ln',Nat.reduceAdd]
  obtain ⟨hn1,hn2⟩:=hi4
  refine w_seq<|wr'<|mv' lk5 (ptS pt13)<|mv' lk0 (ptS pt14)<|V' (v_lenS (lkS lk14)) (ptS pt15)<|V' (v_lss (lkS lk13) (lkS lk15)) (ptS pt16)<|mv' (lkS lk16) (ptS pt17)<|?_
  refine sp' (gtS gt17) (ptS pt17) (ptS pt17) (fun hg87=>?_) (fun hg87=>?_)
  ·refine s_do (gtS gt17)<|mv' lk0 (ptS pt18)<|s_do (gtS gt17)<|mv' lk5 (ptS pt19)<|s_do (gtS gt17)<|?_
   refine V' (v_ix (lkS lk18) (lkS lk19) (by omega) (by omega)) (ptS pt20) ?_
   refine s_do (gtS gt17)<|s_callp (mp1 (lkS lk20) mp0) (risBlank_a) (ptS pt21)<|s_do (gtS gt17)<|V' (v_notB (lkS lk21)) (ptS pt22)<|V' (v_pickT (lkS lk17) (lkS lk22)) (ptS pt23)<|mv' (lkS lk23) (ptS pt24)<|?_
   refine s_splitB (gtS gt24) (ptS pt24) (ptS pt24) (fun hg94=>?_) (fun hg94=>?_)
   ·refine s_do (gtS gt24)<|mv' lk0 (ptS pt25)<|s_do (gtS gt24)<|mv' lk5 (ptS pt26)<|s_do (gtS gt24)<|?_
    refine V' (v_ix (lkS lk25) (lkS lk26) (by omega) (by omega)) (ptS pt27) ?_
    refine s_do (gtS gt24)<|V' (v_neq (lkS lk27) lki) (ptS pt28)<|V' (v_pickT (lkS lk24) (lkS lk28)) (ptS pt29)<|sn'<|?_
    refine cd' (lkS lk29) (fun hc8=>?_) (fun hc8=>?_)
    ·have hb:blkN (byteAt s (p+n)).toNat=false:=by have:=hg94;rw [Bool.not_eq_true'] at this;exact this
     have hc8':((byteAt s (p+n)).toNat:Int)≠35:=hc8
     refine w_skip<|n_seq<|w_block<|w_seq<|wr'<|mv' lk0 (ptS pt30)<|mv' lk5 (ptS pt31)<|?_
     refine V' (v_ix (lkS lk30) (lkS lk31) (by omega) (by omega)) (ptS pt32) ?_
     refine s_callp (mp1 (lkS lk32) mp0) (risPlain_a) (ptS pt33)<|V' (v_notB (lkS lk33)) (ptS pt34)<|mv' (lkS lk34) (ptS pt35)<|?_
     refine s_splitB (gtS gt35) (ptS pt35) (ptS pt35) (fun hg105=>?_) (fun hg105=>?_)
     ·have hpl:plnN (byteAt s (p+n)).toNat=false:=by have:=hg105;rw [Bool.not_eq_true'] at this;exact this
      have hfp:fldP (byteAt s (p+n)).toNat=true:=fldP_of hb hc8' (fun e=>by rw [e] at hpl;revert hpl;decide)
      rw [runL_bad (s:=s) (k:=p+n) (by omega) hfp hpl] at hn2
      simp only [Option.map_none] at hn2
      rw [hn2] at hF
      rw [fldsT_bad hm hF] at hp2
      refine s_no (gtS gt35) (ptS pt36)<|s_no (gtS gt35) (ptS pt37)<|s_no (gtS gt35) (ptS pt38)<|s_no (gtS gt35) (ptS pt39)<|V' (v_pickT (lkS lk35) lkb) (ptS pt40)<|sn'<|w_condT (lkS lk40)<|wr'<|mv' lkn pt2<|mv' lki pt3<|sn'<|?_
      refine w_rets<|r_thn<|r_blk<|r_thn<|r_blk<|r_thn<|r_blk<|r_thn<|r_blk<|w_ret (rsn (rm1 (rr_t gt2) (rm1 (rr_t gt3) rm0)))<|rtW'<|?_
      rw [hp2];exact Wk.tup (wkw Wk.nilF (wk1 rfl wk0))
     have hpl:plnN (byteAt s (p+n)).toNat=true:=by have:=hg105;rw [Bool.not_eq_false'] at this;exact this
     refine s_do (gtS gt35)<|mv' lk0 (ptS pt36)<|s_do (gtS gt35)<|mv' lk5 (ptS pt37)<|s_do (gtS gt35)<|?_
     refine V' (v_ix (lkS lk36) (lkS lk37) (by omega) (by omega)) (ptS pt38) ?_
     refine s_do (gtS gt35)<|V' (v_eql (lkS lk38) lki) (ptS pt39)<|V' (v_pickF (lkS lk35) (lkS lk39)) (ptS pt40)<|sn'<|?_
     refine cd' (lkS lk40) (fun hc9=>?_) (fun hc9=>?_)
     ·have hc9':((byteAt s (p+n)).toNat:Int)=34:=hc9
      rw [runL_stop (s:=s) (k:=p+n) (by omega) (by rw [hc9'];decide)] at hn2
      simp only [Option.map_some,Nat.zero_add] at hn2
      rw [hn2] at hF
      simp only at hF
      rw [if_pos ⟨by rw [moreL_at,hc9'];simp;omega,by rw [headN_at (by omega),hc9']⟩] at hF
      rw [fldsT_bad hm hF] at hp2
      refine wr'<|mv' lkn pt2<|mv' lki pt3<|sn'<|w_rets<|r_thn<|r_blk<|r_thn<|r_blk<|r_thn<|r_blk<|r_thn<|?_
      refine r_blk<|w_ret (rsn (rm1 (rr_t gt2) (rm1 (rr_t gt3) rm0)))<|rtW'<|?_
      rw [hp2];exact Wk.tup (wkw Wk.nilF (wk1 rfl wk0))
     have hc9':((byteAt s (p+n)).toNat:Int)≠34:=hc9
     rw [runL_go (s:=s) (k:=p+n) (by omega) (fldP_of hb hc8' hc9') hpl] at hn2
     have hsn:=ext_snoc (s:=s) (a:=p) (n:=n) (by omega)
     refine w_skip<|n_seq<|wr'<|mv' lk6 (ptS pt41)<|mv' lk0 (ptS pt42)<|mv' lk5 (ptS pt43)<|mv' lk5 (ptS pt44)<|?_
     refine V' (v_add (lkS lk44) lki (by omega) (by omega)) (ptS pt45) ?_
     refine V' (v_sls (lkS lk42) (oi (lkS lk43)) (oi (lkS lk45)) (by omega) (by omega) (by omega)) (ptS pt46) ?_
     refine V' (v_addS (lkS lk41) (lkS lk46) (by first | omega | (rw [bA_size,List.length_take,ByteArray.size_extract];omega))) (ptS pt47) ?_
     refine mv' (lkS lk47) pt6<|sn'<|w_reg<|mv' lk5 (ptS pt48)<|?_
     refine V' (v_add (lkS lk48) lki (by omega) (by omega)) (ptS pt49) ?_
     refine mv' (lkS lk49) pt5<|s_nil<|n_blk<|n_thn<|?_
     refine lU' (n+1) (by (try dsimp only);exact ⟨by omega,by rw [hn2,Option.map_map];rw [show p+(n+1)=p+n+1 from rfl];congr 1;funext x;simp;omega⟩) (by (try dsimp only);(try simp only [setsT,setsE,z',s',rn',la',ln',Nat.reduceAdd]);exact ALe.same (by repeat (first | exact wk0 | refine wka ?_ | refine wk1 rfl ?_ | refine wk1 (by first | rfl | exact ivx (by omega) | (exact congrArg sv hsn.symm)) ?_)) rfl)
    have hc8':((byteAt s (p+n)).toNat:Int)=35:=Decidable.of_not_not hc8
    rw [runL_stop (s:=s) (k:=p+n) (by omega) (by rw [hc8'];decide)] at hn2
    simp only [Option.map_some,Nat.zero_add] at hn2
    rw [hn2] at hF
    simp only at hF
    rw [if_neg (by rw [headN_at (by omega),hc8'];simp)] at hF
    refine w_exit<|x_thn<|x_thn<|x_blk<|n_thn<|?_
    exact cT' ((0,n,n)) (by exact hF) (by (try dsimp only);(try simp only [setsT,setsE,z',s',rn',la',ln',Nat.reduceAdd]);exact ALe.same (by repeat (first | exact wk0 | refine wka ?_ | refine wk1 rfl ?_ | refine wk1 (by first | rfl | exact ivx (by simp;omega) | (simp [cutF,List.drop_drop];done)) ?_)) rfl)
   have hb:blkN (byteAt s (p+n)).toNat=true:=by have:=hg94;rw [Bool.not_eq_false'] at this;exact this
   rw [runL_stop (s:=s) (k:=p+n) (by omega) (by unfold fldP;rw [hb];rfl)] at hn2
   simp only [Option.map_some,Nat.zero_add] at hn2
   rw [hn2] at hF
   simp only at hF
   rw [if_neg (by rw [headN_at (by omega)];rintro ⟨_,e⟩;rw [e] at hb;revert hb;decide)] at hF
   refine s_no (gtS gt24) (ptS pt25)<|s_no (gtS gt24) (ptS pt26)<|s_no (gtS gt24) (ptS pt27)<|s_no (gtS gt24) (ptS pt28)<|V' (v_pickF (lkS lk24) lkb) (ptS pt29)<|sn'<|w_condF (lkS lk29)<|w_exit<|x_thn<|x_thn<|x_blk<|n_thn<|?_
   exact cT' ((0,n,n)) (by exact hF) (by (try dsimp only);(try simp only [setsT,setsE,z',s',rn',la',ln',Nat.reduceAdd]);exact ALe.same (by repeat (first | exact wk0 | refine wka ?_ | refine wk1 rfl ?_ | refine wk1 (by first | rfl | exact ivx (by simp;omega) | (simp [cutF,List.drop_drop];done)) ?_)) rfl)
  rw [runL_end (s:=s) (k:=p+n) (by omega)] at hn2
  simp only [Option.map_some,Nat.zero_add] at hn2
  rw [hn2] at hF
  simp only at hF
  rw [if_neg (by rw [moreL_at];simp;omega)] at hF
  refine s_no (gtS gt17) (ptS pt18)<|s_no (gtS gt17) (ptS pt19)<|s_no (gtS gt17) (ptS pt20)<|s_no (gtS gt17) (ptS pt21)<|s_no (gtS gt17) (ptS pt22)<|V' (v_pickF (lkS lk17) lkb) (ptS pt23)<|mv' (lkS lk23) (ptS pt24)<|s_no (gtS gt24) (ptS pt25)<|s_no (gtS gt24) (ptS pt26)<|s_no (gtS gt24) (ptS pt27)<|s_no (gtS gt24) (ptS pt28)<|V' (v_pickF (lkS lk24) lkb) (ptS pt29)<|sn'<|?_
  refine w_condF (lkS lk29)<|w_exit<|x_thn<|x_thn<|x_blk<|n_thn<|?_
  exact cT' ((0,n,n)) (by exact hF) (by (try dsimp only);(try simp only [setsT,setsE,z',s',rn',la',ln',Nat.reduceAdd]);exact ALe.same (by repeat (first | exact wk0 | refine wka ?_ | refine wk1 rfl ?_ | refine wk1 (by first | rfl | exact ivx (by simp;omega) | (simp [cutF,List.drop_drop];done)) ?_)) rfl)
 rintro y hq32
 try simp only [setsT,setsE,z',s',rn',la',ln',Nat.reduceAdd]
 refine wr'<|mv' lk4 (ptS pt50)<|mv' lk6 (ptS pt51)<|E' (e_lit (LineR_FieldsOf_138 (cvl (lkS lk51) rfl) rfl) (hl1 hn) ha1) (ptS pt52)<|?_
 refine E' (e_app (sc_own (lkS lk52) (hga hn rfl) rfl LineR_tk_1 (nb' rfl)) (lkS lk50) (hga hn rfl) (str_len _) (by omega) rfl (hs0 hn)) (ptS pt53) ?_
 refine mv' (lkS lk53) pt4<|sn'<|wr'<|mv' lk6 (ptS pt54)<|V' (v_lenS (lkS lk54)) (ptS pt55)<|V' (v_gtr (lkS lk55) lki) (ptS pt56)<|mv' (lkS lk56) (ptS pt57)<|?_
 refine sp' (gtS gt57) (ptS pt57) (ptS pt57) (fun hg127=>?_) (fun hg127=>?_)
 ·have hcs:=cutF_size hq32
  rw [hcs] at hg127;rw [fldsT_many hm hq32 (.inl (by omega))] at hp2
  refine s_no (gtS gt57) (ptS pt58)<|s_no (gtS gt57) (ptS pt59)<|s_no (gtS gt57) (ptS pt60)<|V' (v_pickT (lkS lk57) lkb) (ptS pt61)<|sn'<|w_condT (lkS lk61)<|wr'<|mv' lkn pt2<|mv' lki pt3<|sn'<|w_rets<|?_
  refine r_blk<|r_thn<|r_blk<|w_ret (rsn (rm1 (rr_t gt2) (rm1 (rr_t gt3) rm0)))<|rtW'<|?_
  rw [hp2];exact Wk.tup (wkw Wk.nilF (wk1 rfl wk0))
 have hcs:=cutF_size hq32
 rw [hcs] at hg127
 refine s_do (gtS gt57)<|mv' lk4 (ptS pt58)<|s_do (gtS gt57)<|V' (v_lenO (lkS lk58)) (ptS pt59)<|s_do (gtS gt57)<|V' (v_gtr (lkS lk59) lki) (ptS pt60)<|V' (v_pickF (lkS lk57) (lkS lk60)) (ptS pt61)<|sn'<|?_
 refine cd' (lkS lk61) (fun hc10=>?_) (fun hc10=>?_)
 ·rw [fldsT_many hm hq32 (.inr (by omega))] at hp2
  refine wr'<|mv' lkn pt2<|mv' lki pt3<|sn'<|w_rets<|r_blk<|r_thn<|r_blk<|w_ret (rsn (rm1 (rr_t gt2) (rm1 (rr_t gt3) rm0)))<|rtW'<|?_
  rw [hp2];exact Wk.tup (wkw Wk.nilF (wk1 rfl wk0))
 have hle:=fieldL_le hq32
 have hL:((aB s).drop p).length=s.size-p:=by rw [List.length_drop,aB_len]
 obtain ⟨m',rfl⟩ : ∃ m',m=m'+1:=⟨m-1,by omega⟩
 rw [fldsT_at hm hq32 (by omega)] at hp2
 refine w_skip<|n_blk<|n_thn<|?_
 refine lU' (⟨p+y.2.2,fs++[cutF ((aB s).drop p) y],v+1,m'⟩) (by (try dsimp only);exact ⟨by omega,by simp;omega,by rw [fldsL_T,List.drop_drop];exact hp2⟩) (by (try dsimp only);(try simp only [setsT,setsE,z',s',rn',la',ln',Nat.reduceAdd]);exact bkE' 1 hn hlt (by repeat (first | exact wk0 | refine wka ?_ | refine wk1 rfl ?_ | refine wk1 (by first | rfl | exact ivx (by omega) | (simp;done)) ?_)) (by simp only [rows_app,rows_one,strC];rfl)) (by exact Nat.lt_succ_self _)
end Go.Proofs.YtgjchdhdopgkkaaGreatDoor
end
section
namespace Go.Proofs.YtgjchdhdopgkkaaGreatDoor
open Go.Ab
attribute [local simp] str_lt ln_lt
section
theorem LineS_SplitOf_55 {τ:Operand→AV}{y0 y1 y2:Operand}{x0_0 x1_0 x2_0:AV}(h0:cellsV (τ y0)=some [x0_0]) (l0:[x0_0].all leaf=true) (h1:cellsV (τ y1)=some [x1_0]) (l1:[x1_0].all leaf=true) (h2:cellsV (τ y2)=some [x2_0]) (l2:[x2_0].all leaf=true):fillAV τ [(0,1,y0),(1,1,y1),(2,1,y2)] [(.v (.int .i64 0)),(.v (.bool false)),(.sl 0 0 true [])]=some [x0_0,x1_0,x2_0]:=by
 simp only [fillAV,h0,l0,h1,l1,h2,l2]
 rfl
theorem LineS_SplitOf_56 {τ:Operand→AV}{y0:Operand}{x0_0 x0_1 x0_2:AV}(h0:cellsV (τ y0)=some [x0_0,x0_1,x0_2]) (l0:[x0_0,x0_1,x0_2].all leaf=true):fillAV τ [(0,3,y0)] [(.v (.int .i64 0)),(.v (.bool false)),(.sl 0 0 true [])]=some [x0_0,x0_1,x0_2]:=by
 simp only [fillAV,h0,l0]
 rfl
theorem LineS_tk_3 {a0 a1 a2:AV}{l:List AV}:(a0::a1::a2::l).take 3=[a0,a1,a2]:=rfl
end
def c48:AC:=(.seq (.reg [Oo 2 (.mv (.const (.slice none 0 0))),Oo 3 (.mv (Ci 0)),Oo 4 (.mv (Ci 0))]) (.seq (.seq (.reg [Mv 11 0,Oo 12 (.len true (.tmp 11)),Oo 13 (.bin .gtr (.tmp 12) (Ci 8000))]) (.cond (.tmp 13) (.seq (.reg [Oo 2 (.mv (.const (.slice none 0 0))),Oo 3 (.mv (Ci 0)),Oo 4 (.mv (Ci 2))]) .ret) .skip)) (.seq (.reg [Oo 5 (.mv (.const (.slice none 0 0)))]) (.seq (.reg [Oo 6 (.mv (Ci 0)),Oo 7 (.mv (Ci 1))]) (.seq (.seq (.reg [Oo 8 (.mv (Ci 0))]) (.block 0 (.loop (.seq (.seq (.reg [Mv 14 8,Mv 15 0,Oo 16 (.len true (.tmp 15)),Oo 17 (.bin .leq (.tmp 14) (.tmp 16))]) (.cond (.tmp 17) .skip (.exit 0))) (.seq (.block 1 (.seq (.seq (.reg [Mv 20 8,Mv 21 0,Oo 22 (.len true (.tmp 21)),Oo 23 (.bin .lss (.tmp 20) (.tmp 22)),Mv 24 23,Ot 25 24 (.mv (.tmp 0)),Ot 26 24 (.mv (.tmp 8)),Ot 27 24 (.ix (.tmp 25) (.tmp 26)),Ot 28 24 (.bin .neq (.tmp 27) (.const (.int .u8 10))),Oo 29 (.pick (.tmp 24) (.tmp 28) (.const (.bool false)))]) (.cond (.tmp 29) (.exit 1) .skip)) (.seq (.reg [Mv 31 0,Mv 32 6,Mv 33 8,Oo 34 (.sls (.tmp 31) (some (.tmp 32)) (some (.tmp 33))),Oo 35 (.call (.func 86) [(.tmp 34)]),Mv 30 35,Ex 36 30 0,Ex 37 30 1,Mv 9 36,Mv 10 37]) (.seq (.seq (.reg [Mv 38 10,Oo 39 (.bin .neq (.tmp 38) (Ci 0))]) (.cond (.tmp 39) (.seq (.reg [Mv 40 7,Mv 41 10,Oo 2 (.mv (.const (.slice none 0 0))),Mv 3 40,Mv 4 41]) .ret) .skip)) (.seq (.seq (.reg [Mv 42 9,Oo 43 (.len false (.tmp 42)),Oo 44 (.bin .gtr (.tmp 43) (Ci 0))]) (.cond (.tmp 44) (.reg [Mv 45 5,Mv 46 7,Mv 47 0,Mv 48 6,Oo 49 (.ix (.tmp 47) (.tmp 48)),Oo 50 (.call (.func 28) [(.tmp 49)]),Mv 51 9,Oo 52 (.build [(iv 0),(.v (.bool false)),(.sl 0 0 true [])] [(0,(1,(.tmp 46))),(1,(1,(.tmp 50))),(2,(1,(.tmp 51)))]),Oo 53 (.lit 67 3 1 [(iv 0),(.v (.bool false)),(.sl 0 0 true [])] [(0,(3,(.tmp 52)))]),Oo 54 (.app 67 3 40 (.tmp 45) (.tmp 53)),Mv 5 54]) .skip)) (.seq (.reg [Mv 55 8,Oo 56 (.bin .add (.tmp 55) (Ci 1)),Mv 6 56]) (.reg [Mv 57 7,Oo 58 (.bin .add (.tmp 57) (Ci 1)),Mv 7 58]))))))) (.reg [Mv 18 8,Oo 19 (.bin .add (.tmp 18) (Ci 1)),Mv 8 19])))))) (.seq (.seq (.reg [Mv 59 5,Oo 60 (.len false (.tmp 59)),Oo 61 (.bin .gtr (.tmp 60) (Ci 200))]) (.cond (.tmp 61) (.seq (.reg [Oo 2 (.mv (.const (.slice none 0 0))),Oo 3 (.mv (Ci 0)),Oo 4 (.mv (Ci 2))]) .ret) .skip)) (.seq (.reg [Mv 62 5,Mv 2 62,Oo 3 (.mv (Ci 0)),Oo 4 (.mv (Ci 0))]) .ret)))))))
theorem k48:compF Tryz.prog 48=some ⟨c48,[(.tmp 2),(.tmp 3),(.tmp 4)],63⟩:=by kernel_rfl
theorem cutC_clean {x:UInt8} : ∀ {a:Bs},x ∉ a→cutC x a=[a]
 | [],_=>rfl
 | c::l,h=>by
  simp only [List.mem_cons,not_or] at h
  rw [cutC,if_neg (Ne.symm h.1),cutC_clean h.2]
theorem cutC_at {x:UInt8} : ∀ {a b:Bs},x ∉ a→cutC x (a++x::b)=a::cutC x b
 | [],b,_=>by simp [cutC]
 | c::l,b,h=>by
  simp only [List.mem_cons,not_or] at h
  rw [List.cons_append,cutC,if_neg (Ne.symm h.1),cutC_at h.2]
def clean (x:UInt8) (s:ByteArray) (f i:Nat):Prop:=x ∉ ((aB s).drop f).take (i-f)
theorem clean_self {x:UInt8}{s:ByteArray}{f:Nat}:clean x s f f:=by simp [clean]
theorem clean_go {x:UInt8}{s:ByteArray}{f i:Nat}(h:clean x s f i) (hf:f≤i) (hi:i<s.size) (hx:byteAt s i≠x):clean x s f (i+1):=by
 unfold clean at *
 rw [show i+1-f=(i-f)+1 by omega,List.take_add,List.drop_drop,show f+(i-f)=i by omega,aB_at hi]
 simp only [List.take_succ_cons,List.take_zero,List.mem_append,List.mem_singleton,not_or]
 exact ⟨h,fun e=>hx e.symm⟩
theorem cutC_seg {x:UInt8}{s:ByteArray}{f i:Nat}(h:clean x s f i) (hf:f≤i) (hi:i<s.size) (hx:byteAt s i=x):cutC x ((aB s).drop f)=aB (s.extract f i)::cutC x ((aB s).drop (i+1)):=by
 have e:(aB s).drop f=((aB s).drop f).take (i-f)++x::(aB s).drop (i+1):=by
  conv=>lhs;rw [←List.take_append_drop (i-f) ((aB s).drop f)]
  rw [List.drop_drop,show f+(i-f)=i by omega,aB_at hi,hx]
 rw [e,cutC_at h,bA_ext,aB_bA]
theorem cutC_last {x:UInt8}{s:ByteArray}{f i:Nat}(h:clean x s f i) (hf:f≤i) (hi:i=s.size):cutC x ((aB s).drop f)=[aB (s.extract f i)]:=by
 have e:((aB s).drop f).take (i-f)=(aB s).drop f:=List.take_of_length_le (by rw [List.length_drop,aB_len];omega)
 unfold clean at h
 rw [e] at h
 rw [cutC_clean h,bA_ext,aB_bA,e]
theorem byte_eq {c:UInt8}{n:Nat}(hn:n<256) (h:(c.toNat:Int)=n):c=UInt8.ofNat n:=by
 have:c.toNat=n:=by omega
 rw [←this];simp
theorem byte_ne {c:UInt8}{n:Nat}(hn:n<256) (h:¬(c.toNat:Int)=n):c≠UInt8.ofNat n:=by
 rintro rfl
 apply h
 simp [UInt8.toNat_ofNat,Nat.mod_eq_of_lt hn]
theorem headN_ext {s:ByteArray}{f i:Nat}(h:f<i) (hi:i≤s.size):headN (aB (s.extract f i))=((byteAt s f).toNat:Int):=by
 rw [bA_ext,aB_bA,aB_at (by omega),show i-f=(i-f-1)+1 by omega]
 rfl
set_option maxHeartbeats 1000000 in
theorem rsplitOf_a {s:ByteArray}{h:AH}:ACalls Tryz.prog 48 [sv s] h fun x h'=>h'=h∧x = .ret (.tup [.sl (splitL s).1.length 3 false (rows lnC (splitL s).1),iv (splitL s).2.1,iv (splitL s).2.2]):=by
 refine tW' k48 fun N hn hlt hlA hbd=>?_
 simp only [tA',AV.bdL,AV.bd,and_true,true_and] at hbd ⊢
 refine wr'<|mv' lkn pt2<|mv' lki pt3<|mv' lki pt4<|sn'<|w_seq<|wr'<|mv' lk0 pt11<|V' (v_lenS lk11) pt12<|V' (v_gtr lk12 lki) pt13<|s_nil<|?_
 refine n_seq ?_
 refine cd' lk13 (fun hc1=>?_) (fun hc1=>?_)
 ·have hS:splitL s=([],0,2):=if_pos (by omega)
  refine wr'<|mv' lkn pt2<|mv' lki pt3<|mv' lki pt4<|sn'<|w_rets<|r_thn<|w_ret (rsn (rm1 (rr_t gt2) (rm1 (rr_t gt3) (rm1 (rr_t gt4) rm0))))<|rtW'<|?_
  rw [hS];exact Wk.tup (wkw Wk.nilF (wk1 rfl (wk1 rfl wk0)))
 have hz:s.size≤8000:=by omega
 have hS:splitL s=if (linesL 1 (cutC 10 (aB s)) []).2.2≠0 then linesL 1 (cutC 10 (aB s)) [] else if 200<(linesL 1 (cutC 10 (aB s)) []).1.length then ([],0,2) else linesL 1 (cutC 10 (aB s)) []:=if_neg (by omega)
 obtain ⟨X,hX⟩ : ∃ X,X=linesL 1 (cutC 10 (aB s)) []:=⟨_,rfl⟩
 rw [←hX] at hS
 refine w_skip<|n_seq<|wr'<|mv' lkn pt5<|s_nil<|n_seqw (ALe.own0' (st':=3) (ty:=67) gt5 (hl0 hn) pt5 ha0)<|wr'<|mv' lki pt6<|mv' lki pt7<|sn'<|w_seq<|?_
 refine wr'<|mv' lki pt8<|sn'<|w_block<|?_
 refine w_lp (ι:=Nat×Nat×Nat×List Ln×Nat) (fun (x_:Nat×Nat×Nat×List Ln×Nat)=>match x_ with | ⟨f,i,q,acc,v⟩=>[(5,.own (N+0) v acc.length),(6,iv (f:Int)),(7,iv (q:Int)),(8,iv (i:Int)),(9,.any),(10,.any)]++rn' 2 3++rn' 14 45) (fun (x_:Nat×Nat×Nat×List Ln×Nat)=>match x_ with | ⟨f,i,q,acc,v⟩=>[(0,.mk v 67 3 (rows lnC acc))]) (fun (x_:Nat×Nat×Nat×List Ln×Nat)=>match x_ with | ⟨f,i,q,acc,v⟩=>i≤s.size+1∧f≤i∧q≤i+1∧acc.length≤i∧(i≤s.size→clean 10 s f i∧X=linesL (q:Int) (cutC 10 ((aB s).drop f)) acc)∧(i=s.size+1→X=(acc,0,0))) (fun (x_:Nat×Nat×Nat×List Ln×Nat)=>match x_ with | ⟨f,i,q,acc,v⟩=>s.size+1-i) (⟨0,0,1,[],0⟩) (by exact ⟨by omega,by omega,by omega,by simp,fun _=>⟨clean_self,hX⟩,fun h=>by omega⟩) ?_
 rintro ⟨f,i,q,acc,v⟩ hi1
 try simp only [setsT,setsE,z',s',rn',la',ln',Nat.reduceAdd]
 obtain ⟨hk1,hk2,hk3,hk4,hk5,hk6⟩:=hi1
 refine w_seq<|wr'<|mv' lk8 pt14<|mv' lk0 pt15<|V' (v_lenS lk15) pt16<|V' (v_leq lk14 lk16) pt17<|sn'<|?_
 refine cd' lk17 (fun hc2=>?_) (fun hc2=>?_)
 ·have hi:i≤s.size:=by omega
  obtain ⟨hk7,hk8⟩:=hk5 hi
  refine w_skip<|n_seq<|w_seq<|w_block<|w_seq<|wr'<|mv' lk8 pt20<|mv' lk0 pt21<|V' (v_lenS lk21) pt22<|V' (v_lss lk20 lk22) pt23<|mv' lk23 pt24<|?_
  refine sp' gt24 pt24 pt24 (fun hg24=>?_) (fun hg24=>?_)
  ·refine s_do gt24<|mv' lk0 pt25<|s_do gt24<|mv' lk8 pt26<|s_do gt24<|?_
   refine V' (v_ix lk25 lk26 (by omega) (by omega)) pt27 ?_
   refine s_do gt24<|V' (v_neq lk27 lki) pt28<|V' (v_pickT lk24 lk28) pt29<|sn'<|?_
   refine cd' lk29 (fun hc3=>?_) (fun hc3=>?_)
   ·have hx:byteAt s i≠10:=fun e=>hc3 (show ((byteAt s i).toNat:Int)=10 by rw [e];rfl)
    have hcl:=clean_go hk7 hk2 (by omega) hx
    refine w_exit<|x_thn<|x_blk<|n_seq<|w_reg<|mv' lk8 pt18<|?_
    refine V' (v_add lk18 lki (by omega) (by omega)) pt19 ?_
    refine mv' lk19 pt8<|s_nil<|n_thn<|?_
    refine lU' (⟨f,i+1,q,acc,v⟩) (by (try dsimp only);exact ⟨by omega,by omega,by omega,by omega,fun _=>⟨hcl,hk8⟩,fun h=>by omega⟩) (by (try dsimp only);(try simp only [setsT,setsE,z',s',rn',la',ln',Nat.reduceAdd]);exact ALe.same (by repeat (first | exact wk0 | refine wka ?_ | refine wk1 rfl ?_ | refine wk1 (by first | rfl | exact ivx (by omega) | (simp;done)) ?_)) rfl)
   have hx:byteAt s i=10:=byte_eq (n:=10) (by omega) (Decidable.of_not_not hc3)
   have hseg:=cutC_seg hk7 hk2 (by omega) hx
   obtain ⟨R,hR⟩ : ∃ R:List Bs,R=cutC 10 ((aB s).drop (i+1)):=⟨_,rfl⟩
   rw [hseg,←hR] at hk8
   have hR2:(i+1≤s.size→R=cutC 10 ((aB s).drop (i+1)))∧(i=s.size→R=[]):=⟨fun _=>hR,fun h=>by omega⟩
   refine w_skip<|n_seq<|?_
   rw [linesL] at hk8
   obtain ⟨y,hy⟩ : ∃ y,y=s.extract f i:=⟨_,rfl⟩
   have hys:y.size=i-f:=by rw [hy,ByteArray.size_extract];omega
   refine wr'<|mv' lk0 pt31<|mv' lk6 pt32<|mv' lk8 pt33<|?_
   refine V' (v_sls lk31 (oi lk32) (oi lk33) (by omega) (by omega) (by omega)) pt34 ?_
   rw [show s.extract (f:Int).toNat (i:Int).toNat=y from hy.symm]
   refine s_callp (mp1 lk34 mp0) (rfieldsOf_a (s:=y) (by omega)) pt35 ?_
   rw [←hy] at hk8
   refine mv' lk35 pt30<|V' (v_ext lk30 gt0) pt36<|V' (v_ext lk30 gt1) pt37<|mv' lk36 pt9<|mv' lk37 pt10<|sn'<|w_seq<|wr'<|mv' lk10 pt38<|V' (v_neq lk38 lki) pt39<|sn'<|?_
   refine cd' lk39 (fun hc4=>?_) (fun hc4=>?_)
   ·have hc4':(lineL (aB y)).2≠0:=hc4
    rw [if_pos hc4'] at hk8
    rw [hk8,if_pos hc4'] at hS
    refine wr'<|mv' lk7 pt40<|mv' lk10 pt41<|mv' lkn pt2<|mv' lk40 pt3<|mv' lk41 pt4<|sn'<|w_rets<|r_thn<|r_blk<|r_thn<|r_thn<|?_
    refine r_blk<|r_thn<|w_ret (rsn (rm1 (rr_t gt2) (rm1 (rr_t gt3) (rm1 (rr_t gt4) rm0))))<|rtW'<|?_
    rw [hS];exact Wk.tup (wkw Wk.nilF (wk1 rfl (wk1 rfl wk0)))
   rw [if_neg hc4] at hk8
   refine w_skip<|n_seq<|w_seq<|wr'<|mv' lk9 pt42<|V' (v_lenL lk42) pt43<|V' (v_gtr lk43 lki) pt44<|sn'<|?_
   refine cd' lk44 (fun hc5=>?_) (fun hc5=>?_)
   ·have hne:(lineL (aB y)).1≠[]:=fun e=>by rw [e] at hc5;simp at hc5
    have hp:=lineL_ne hne
    rw [aB_len] at hp
    rw [if_neg hne] at hk8
    have hh:headN (aB y)=((byteAt s f).toNat:Int):=by rw [hy];exact headN_ext (by omega) hi
    rw [hh] at hk8
    refine w_reg<|mv' lk5 pt45<|mv' lk7 pt46<|mv' lk0 pt47<|mv' lk6 pt48<|?_
    refine V' (v_ix lk47 lk48 (by omega) (by omega)) pt49 ?_
    refine s_callp (mp1 lk49 mp0) (risBlank_a) pt50<|mv' lk9 pt51<|V' (v_build (LineS_SplitOf_55 (cvl lk46 rfl) rfl (cvl lk50 rfl) rfl (cvl lk51 rfl) rfl)) pt52<|E' (e_lit (LineS_SplitOf_56 (cvl lk52 rfl) rfl) (hl1 hn) ha1) pt53<|?_
    refine E' (e_app (sc_own lk53 (hga hn rfl) rfl LineS_tk_3 (nb' rfl)) lk45 (hga hn rfl) (ln_len _) (by omega) rfl (hs0 hn)) pt54 ?_
    refine mv' lk54 pt5<|sn'<|wr'<|mv' lk8 pt55<|?_
    refine V' (v_add lk55 lki (by omega) (by omega)) pt56 ?_
    refine mv' lk56 pt6<|sn'<|w_reg<|mv' lk7 pt57<|?_
    refine V' (v_add lk57 lki (by omega) (by omega)) pt58 ?_
    refine mv' lk58 pt7<|s_nil<|n_blk<|n_seq<|w_reg<|mv' lk8 pt18<|?_
    refine V' (v_add lk18 lki (by omega) (by omega)) pt19 ?_
    refine mv' lk19 pt8<|s_nil<|n_thn<|?_
    refine lU' (⟨i+1,i+1,q+1,acc++[((q:Int),blkN ((byteAt s f).toNat:Int),(lineL (aB y)).1)],v+1⟩) (by (try dsimp only);exact ⟨by omega,by omega,by omega,by simp;omega,fun h=>⟨clean_self,by rw [←hR2.1 h];exact hk8⟩,fun h=>by rw [hR2.2 (by omega),linesL] at hk8;exact hk8⟩) (by (try dsimp only);(try simp only [setsT,setsE,z',s',rn',la',ln',Nat.reduceAdd]);exact bkE' 1 hn hlt (by repeat (first | exact wk0 | refine wka ?_ | refine wk1 rfl ?_ | refine wk1 (by first | rfl | exact ivx (by omega) | (simp;done)) ?_)) (by simp only [rows_app,rows_one,lnC];rfl))
   have hne:(lineL (aB y)).1=[]:=List.eq_nil_of_length_eq_zero (by omega)
   rw [if_pos hne] at hk8
   refine w_skip<|n_seq<|wr'<|mv' lk8 pt55<|?_
   refine V' (v_add lk55 lki (by omega) (by omega)) pt56 ?_
   refine mv' lk56 pt6<|sn'<|w_reg<|mv' lk7 pt57<|?_
   refine V' (v_add lk57 lki (by omega) (by omega)) pt58 ?_
   refine mv' lk58 pt7<|s_nil<|n_blk<|n_seq<|w_reg<|mv' lk8 pt18<|?_
   refine V' (v_add lk18 lki (by omega) (by omega)) pt19 ?_
   refine mv' lk19 pt8<|s_nil<|n_thn<|?_
   refine lU' (⟨i+1,i+1,q+1,acc,v⟩) (by (try dsimp only);exact ⟨by omega,by omega,by omega,by omega,fun h=>⟨clean_self,by rw [←hR2.1 h];exact hk8⟩,fun h=>by rw [hR2.2 (by omega),linesL] at hk8;exact hk8⟩) (by (try dsimp only);(try simp only [setsT,setsE,z',s',rn',la',ln',Nat.reduceAdd]);exact ALe.same (by repeat (first | exact wk0 | refine wka ?_ | refine wk1 rfl ?_ | refine wk1 (by first | rfl | exact ivx (by omega) | (simp;done)) ?_)) rfl)
  have hseg:cutC 10 ((aB s).drop f)=[aB (s.extract f i)]:=cutC_last hk7 hk2 (by omega)
  obtain ⟨R,hR⟩ : ∃ R:List Bs,R=[]:=⟨_,rfl⟩
  rw [hseg,←hR] at hk8
  have hR2:(i+1≤s.size→R=cutC 10 ((aB s).drop (i+1)))∧(i=s.size→R=[]):=⟨fun h=>by omega,fun _=>hR⟩
  refine s_no gt24 pt25<|s_no gt24 pt26<|s_no gt24 pt27<|s_no gt24 pt28<|V' (v_pickF lk24 lkb) pt29<|sn'<|w_condF lk29<|w_skip<|n_seq<|?_
  rw [linesL] at hk8
  obtain ⟨y,hy⟩ : ∃ y,y=s.extract f i:=⟨_,rfl⟩
  have hys:y.size=i-f:=by rw [hy,ByteArray.size_extract];omega
  refine wr'<|mv' lk0 pt31<|mv' lk6 pt32<|mv' lk8 pt33<|?_
  refine V' (v_sls lk31 (oi lk32) (oi lk33) (by omega) (by omega) (by omega)) pt34 ?_
  rw [show s.extract (f:Int).toNat (i:Int).toNat=y from hy.symm]
  refine s_callp (mp1 lk34 mp0) (rfieldsOf_a (s:=y) (by omega)) pt35 ?_
  rw [←hy] at hk8
  refine mv' lk35 pt30<|V' (v_ext lk30 gt0) pt36<|V' (v_ext lk30 gt1) pt37<|mv' lk36 pt9<|mv' lk37 pt10<|sn'<|w_seq<|wr'<|mv' lk10 pt38<|V' (v_neq lk38 lki) pt39<|sn'<|?_
  refine cd' lk39 (fun hc4=>?_) (fun hc4=>?_)
  ·have hc4':(lineL (aB y)).2≠0:=hc4
   rw [if_pos hc4'] at hk8
   rw [hk8,if_pos hc4'] at hS
   refine wr'<|mv' lk7 pt40<|mv' lk10 pt41<|mv' lkn pt2<|mv' lk40 pt3<|mv' lk41 pt4<|sn'<|w_rets<|r_thn<|r_blk<|r_thn<|r_thn<|?_
   refine r_blk<|r_thn<|w_ret (rsn (rm1 (rr_t gt2) (rm1 (rr_t gt3) (rm1 (rr_t gt4) rm0))))<|rtW'<|?_
   rw [hS];exact Wk.tup (wkw Wk.nilF (wk1 rfl (wk1 rfl wk0)))
  rw [if_neg hc4] at hk8
  refine w_skip<|n_seq<|w_seq<|wr'<|mv' lk9 pt42<|V' (v_lenL lk42) pt43<|V' (v_gtr lk43 lki) pt44<|sn'<|?_
  refine cd' lk44 (fun hc5=>?_) (fun hc5=>?_)
  ·have hne:(lineL (aB y)).1≠[]:=fun e=>by rw [e] at hc5;simp at hc5
   have hp:=lineL_ne hne
   rw [aB_len] at hp
   rw [if_neg hne] at hk8
   have hh:headN (aB y)=((byteAt s f).toNat:Int):=by rw [hy];exact headN_ext (by omega) hi
   rw [hh] at hk8
   refine w_reg<|mv' lk5 pt45<|mv' lk7 pt46<|mv' lk0 pt47<|mv' lk6 pt48<|?_
   refine V' (v_ix lk47 lk48 (by omega) (by omega)) pt49 ?_
   refine s_callp (mp1 lk49 mp0) (risBlank_a) pt50<|mv' lk9 pt51<|V' (v_build (LineS_SplitOf_55 (cvl lk46 rfl) rfl (cvl lk50 rfl) rfl (cvl lk51 rfl) rfl)) pt52<|E' (e_lit (LineS_SplitOf_56 (cvl lk52 rfl) rfl) (hl1 hn) ha1) pt53<|?_
   refine E' (e_app (sc_own lk53 (hga hn rfl) rfl LineS_tk_3 (nb' rfl)) lk45 (hga hn rfl) (ln_len _) (by omega) rfl (hs0 hn)) pt54 ?_
   refine mv' lk54 pt5<|sn'<|wr'<|mv' lk8 pt55<|?_
   refine V' (v_add lk55 lki (by omega) (by omega)) pt56 ?_
   refine mv' lk56 pt6<|sn'<|w_reg<|mv' lk7 pt57<|?_
   refine V' (v_add lk57 lki (by omega) (by omega)) pt58 ?_
   refine mv' lk58 pt7<|s_nil<|n_blk<|n_seq<|w_reg<|mv' lk8 pt18<|?_
   refine V' (v_add lk18 lki (by omega) (by omega)) pt19 ?_
   refine mv' lk19 pt8<|s_nil<|n_thn<|?_
   refine lU' (⟨i+1,i+1,q+1,acc++[((q:Int),blkN ((byteAt s f).toNat:Int),(lineL (aB y)).1)],v+1⟩) (by (try dsimp only);exact ⟨by omega,by omega,by omega,by simp;omega,fun h=>⟨clean_self,by rw [←hR2.1 h];exact hk8⟩,fun h=>by rw [hR2.2 (by omega),linesL] at hk8;exact hk8⟩) (by (try dsimp only);(try simp only [setsT,setsE,z',s',rn',la',ln',Nat.reduceAdd]);exact bkE' 1 hn hlt (by repeat (first | exact wk0 | refine wka ?_ | refine wk1 rfl ?_ | refine wk1 (by first | rfl | exact ivx (by omega) | (simp;done)) ?_)) (by simp only [rows_app,rows_one,lnC];rfl))
  have hne:(lineL (aB y)).1=[]:=List.eq_nil_of_length_eq_zero (by omega)
  rw [if_pos hne] at hk8
  refine w_skip<|n_seq<|wr'<|mv' lk8 pt55<|?_
  refine V' (v_add lk55 lki (by omega) (by omega)) pt56 ?_
  refine mv' lk56 pt6<|sn'<|w_reg<|mv' lk7 pt57<|?_
  refine V' (v_add lk57 lki (by omega) (by omega)) pt58 ?_
  refine mv' lk58 pt7<|s_nil<|n_blk<|n_seq<|w_reg<|mv' lk8 pt18<|?_
  refine V' (v_add lk18 lki (by omega) (by omega)) pt19 ?_
  refine mv' lk19 pt8<|s_nil<|n_thn<|?_
  refine lU' (⟨i+1,i+1,q+1,acc,v⟩) (by (try dsimp only);exact ⟨by omega,by omega,by omega,by omega,fun h=>⟨clean_self,by rw [←hR2.1 h];exact hk8⟩,fun h=>by rw [hR2.2 (by omega),linesL] at hk8;exact hk8⟩) (by (try dsimp only);(try simp only [setsT,setsE,z',s',rn',la',ln',Nat.reduceAdd]);exact ALe.same (by repeat (first | exact wk0 | refine wka ?_ | refine wk1 rfl ?_ | refine wk1 (by first | rfl | exact ivx (by omega) | (simp;done)) ?_)) rfl)
 have hXe:=hk6 (by omega)
 rw [hXe,if_neg (by simp)] at hS
 refine w_exit<|x_thn<|x_thn<|x_blk<|n_seq<|w_seq<|wr'<|mv' lk5 pt59<|V' (v_lenO lk59) pt60<|V' (v_gtr lk60 lki) pt61<|sn'<|?_
 refine cd' lk61 (fun hc6=>?_) (fun hc6=>?_)
 ·rw [if_pos (show 200<acc.length by omega)] at hS
  refine wr'<|mv' lkn pt2<|mv' lki pt3<|mv' lki pt4<|sn'<|w_rets<|r_thn<|w_ret (rsn (rm1 (rr_t gt2) (rm1 (rr_t gt3) (rm1 (rr_t gt4) rm0))))<|rtW'<|?_
  rw [hS];exact Wk.tup (wkw Wk.nilF (wk1 rfl (wk1 rfl wk0)))
 rw [if_neg (show ¬200<acc.length by omega)] at hS
 refine w_skip<|n_seq<|wr'<|mv' lk5 pt62<|mv' lk62 pt2<|mv' lki pt3<|mv' lki pt4<|s_nil<|?_
 refine n_seqw (ALe.iceR (hga hn rfl) gt2 (List.take_of_length_le (by rw [ln_len];exact Nat.le_refl _)) (by rw [ln_len];exact Nat.le_refl _) pt2 (hs0 hn)) ?_
 refine w_rets<|w_ret (rsn (rm1 (rr_t gt2) (rm1 (rr_t gt3) (rm1 (rr_t gt4) rm0))))<|rtW'<|?_
 rw [hS];exact Wk.refl _
end Go.Proofs.YtgjchdhdopgkkaaGreatDoor
end
section
namespace Go.Proofs.YtgjchdhdopgkkaaGreatDoor
open Go.Ab
abbrev Dat:=Int×Int×Int
abbrev Frm:=Int×Int×Int
abbrev Rul:=ByteArray×Int×Int×Int×Frm×Int×Int×Int×ByteArray
abbrev Unt:=Dat×Int×Int
abbrev Era:=Int×ByteArray×Int×ByteArray×Bool×Unt
abbrev Zon:=ByteArray×List Era
abbrev Lnk:=ByteArray×ByteArray
abbrev Src:=List Rul×List Zon×List Lnk
set_option synthInstance.maxSize 4096 in
instance decEra:DecidableEq Era:=inferInstance
set_option synthInstance.maxSize 4096 in
instance decRul:DecidableEq Rul:=inferInstance
instance decZon:DecidableEq Zon:=inferInstance
instance decLnk:DecidableEq Lnk:=inferInstance
instance decSrc:DecidableEq Src:=inferInstance
abbrev rulC (r:Rul):List AV:=[sv r.1,iv r.2.1,iv r.2.2.1,iv r.2.2.2.1,iv r.2.2.2.2.1.1,iv r.2.2.2.2.1.2.1,iv r.2.2.2.2.1.2.2,iv r.2.2.2.2.2.1,iv r.2.2.2.2.2.2.1,iv r.2.2.2.2.2.2.2.1,sv r.2.2.2.2.2.2.2.2]
abbrev untC (u:Unt):List AV:=[iv u.1.1,iv u.1.2.1,iv u.1.2.2,iv u.2.1,iv u.2.2]
abbrev eraC (x:Era):List AV:=[iv x.1,sv x.2.1,iv x.2.2.1,sv x.2.2.2.1,bv x.2.2.2.2.1,iv x.2.2.2.2.2.1.1,iv x.2.2.2.2.2.1.2.1,iv x.2.2.2.2.2.1.2.2,iv x.2.2.2.2.2.2.1,iv x.2.2.2.2.2.2.2]
abbrev zonC (z:Zon):List AV:=[sv z.1,.sl z.2.length 10 false (rows eraC z.2)]
abbrev lnkC (l:Lnk):List AV:=[sv l.1,sv l.2]
abbrev srcC (s:Src):List AV:=[.sl s.1.length 11 false (rows rulC s.1),.sl s.2.1.length 2 false (rows zonC s.2.1),.sl s.2.2.length 2 false (rows lnkC s.2.2)]
theorem rul_lt {n:Nat}(l:List Rul):AV.ltL n (rows rulC l)=true:=rows_lt (fun n x=>by simp [AV.ltL,AV.lt]) l
theorem era_lt {n:Nat}(l:List Era):AV.ltL n (rows eraC l)=true:=rows_lt (fun n x=>by simp [AV.ltL,AV.lt]) l
theorem zon_lt {n:Nat}(l:List Zon):AV.ltL n (rows zonC l)=true:=rows_lt (fun n x=>by simp [AV.ltL,AV.lt,era_lt]) l
theorem lnk_lt {n:Nat}(l:List Lnk):AV.ltL n (rows lnkC l)=true:=rows_lt (fun n x=>by simp [AV.ltL,AV.lt]) l
theorem rul_len1 : ∀ x,(rulC x).length=11:=fun _=>rfl
theorem era_len1 : ∀ x,(eraC x).length=10:=fun _=>rfl
theorem zon_len1 : ∀ x,(zonC x).length=2:=fun _=>rfl
theorem lnk_len1 : ∀ x,(lnkC x).length=2:=fun _=>rfl
theorem rul_len (l:List Rul):(rows rulC l).length=l.length*11:=rows_len rul_len1 l
theorem era_len (l:List Era):(rows eraC l).length=l.length*10:=rows_len era_len1 l
theorem zon_len (l:List Zon):(rows zonC l).length=l.length*2:=rows_len zon_len1 l
theorem lnk_len (l:List Lnk):(rows lnkC l).length=l.length*2:=rows_len lnk_len1 l
end Go.Proofs.YtgjchdhdopgkkaaGreatDoor
end
section
namespace Go.Proofs.YtgjchdhdopgkkaaGreatDoor
open Go.Ab Go.RowKit
theorem below_drewN {w w':World}(h:Below w.heap.size w w') : ∀ n:Nat,Below w.heap.size w (w'.drewN n)
 | n=>⟨h.os,h.tape,h.output,h.size,h.block⟩
theorem indexByte_a {s:ByteArray}{n:Int}{h:AH}:ACalls Tryz.prog 120 [sv s,uv n] h fun x h'=>h'=h∧x = .ret (iv (Lib.indexByte (aB s) n.toNat.toUInt8)):=by
 refine ACalls.of_below (by kernel_rfl) fun w g vs hs ha=>?_
 simp only [RepL,Rep] at ha
 obtain ⟨u1,us1,e1,rfl,u2,us2,rfl,rfl,rfl⟩:=ha
 obtain rfl:vs = #[.string s,.int .u8 n]:=by cases vs;simp_all
 refine (Tryz.strings_IndexByte s n w).mono ?_
 rintro e w' ⟨rfl,rfl⟩
 refine ⟨_,rfl,Below.refl _ _,?_⟩
 simp only [Rep];rfl
theorem cut_a {s p:ByteArray}{h:AH}(hz:s.size<4294967281):ACalls Tryz.prog 158 [sv s,sv p] h fun x h'=>h'=h∧x = .ret (.tup [sv (bA (Lib.cut (aB s) (aB p)).1),sv (bA (Lib.cut (aB s) (aB p)).2.1),bv (Lib.cut (aB s) (aB p)).2.2]):=by
 refine ACalls.of_below (by kernel_rfl) fun w g vs hs ha=>?_
 simp only [RepL,Rep] at ha
 obtain ⟨u1,us1,e1,rfl,u2,us2,rfl,rfl,rfl⟩:=ha
 obtain rfl:vs = #[.string s,.string p]:=by cases vs;simp_all
 obtain ⟨m,hm⟩:=hs.glob.w.maxLen
 refine (Tryz.strings_Cut s p m w hz hm).mono ?_
 rintro e w' ⟨rfl,n,rfl⟩
 refine ⟨_,rfl,below_drewN (Below.refl _ _) n,?_⟩
 simp only [Rep,RepL]
 exact ⟨_,rfl,_,_,rfl,rfl,_,_,rfl,rfl,_,_,rfl,rfl,rfl⟩
theorem itoa_a {n:Int}{h:AH}(h0 : -9223372036854775808≤n) (h1:n≤9223372036854775807):ACalls Tryz.prog 92 [iv n] h fun x h'=>h'=h∧x = .ret (sv (bA (Lib.itoa n))):=by
 refine ACalls.of_below (by kernel_rfl) fun w g vs hs ha=>?_
 simp only [RepL,Rep] at ha
 obtain ⟨u1,us1,e1,rfl,rfl⟩:=ha
 obtain rfl:vs = #[.int .i64 n]:=by cases vs;simp_all
 refine (Tryz.strconv_Itoa n h0 h1 w hs.glob.w.pow10).mono ?_
 rintro e w' ⟨rfl,k,os,rfl⟩
 refine ⟨_,rfl,⟨rfl,rfl,rfl,by show w.heap.size≤(w.heap++os).size;simp,fun j hj=>?_⟩,?_⟩
 ·show (w.heap++os)[j]?=w.heap[j]?
  rw [Array.getElem?_append_left hj]
 ·simp only [Rep];rfl
end Go.Proofs.YtgjchdhdopgkkaaGreatDoor
end
section
namespace Go.Proofs.YtgjchdhdopgkkaaGreatDoor
open Go.Ab Civ
section
theorem ACiv_lengths_2 {τ:Operand→AV}{y0 y1 y2 y3 y4 y5 y6 y7 y8 y9 y10 y11:Operand}{x0_0 x1_0 x2_0 x3_0 x4_0 x5_0 x6_0 x7_0 x8_0 x9_0 x10_0 x11_0:AV}(h0:cellsV (τ y0)=some [x0_0]) (l0:[x0_0].all leaf=true) (h1:cellsV (τ y1)=some [x1_0]) (l1:[x1_0].all leaf=true) (h2:cellsV (τ y2)=some [x2_0]) (l2:[x2_0].all leaf=true) (h3:cellsV (τ y3)=some [x3_0]) (l3:[x3_0].all leaf=true) (h4:cellsV (τ y4)=some [x4_0]) (l4:[x4_0].all leaf=true) (h5:cellsV (τ y5)=some [x5_0]) (l5:[x5_0].all leaf=true) (h6:cellsV (τ y6)=some [x6_0]) (l6:[x6_0].all leaf=true) (h7:cellsV (τ y7)=some [x7_0]) (l7:[x7_0].all leaf=true) (h8:cellsV (τ y8)=some [x8_0]) (l8:[x8_0].all leaf=true) (h9:cellsV (τ y9)=some [x9_0]) (l9:[x9_0].all leaf=true) (h10:cellsV (τ y10)=some [x10_0]) (l10:[x10_0].all leaf=true) (h11:cellsV (τ y11)=some [x11_0]) (l11:[x11_0].all leaf=true):fillAV τ [(0,1,y0),(1,1,y1),(2,1,y2),(3,1,y3),(4,1,y4),(5,1,y5),(6,1,y6),(7,1,y7),(8,1,y8),(9,1,y9),(10,1,y10),(11,1,y11)] [(.v (.int .i64 0)),(.v (.int .i64 0)),(.v (.int .i64 0)),(.v (.int .i64 0)),(.v (.int .i64 0)),(.v (.int .i64 0)),(.v (.int .i64 0)),(.v (.int .i64 0)),(.v (.int .i64 0)),(.v (.int .i64 0)),(.v (.int .i64 0)),(.v (.int .i64 0))]=some [x0_0,x1_0,x2_0,x3_0,x4_0,x5_0,x6_0,x7_0,x8_0,x9_0,x10_0,x11_0]:=by
 simp only [fillAV,h0,l0,h1,l1,h2,l2,h3,l3,h4,l4,h5,l5,h6,l6,h7,l7,h8,l8,h9,l9,h10,l10,h11,l11]
 rfl
theorem ACiv_tk0_3 {a0 a1 a2:AV}{l:List AV}:((a0::a1::a2::l).drop 0).take 3=[a0,a1,a2]:=rfl
theorem ACiv_Date_42 {τ:Operand→AV}{y0 y1 y2:Operand}{x0_0 x1_0 x2_0:AV}(h0:cellsV (τ y0)=some [x0_0]) (l0:[x0_0].all leaf=true) (h1:cellsV (τ y1)=some [x1_0]) (l1:[x1_0].all leaf=true) (h2:cellsV (τ y2)=some [x2_0]) (l2:[x2_0].all leaf=true):fillAV τ [(0,1,y0),(1,1,y1),(2,1,y2)] [(.v (.int .i64 0)),(.v (.int .i64 0)),(.v (.int .i64 0))]=some [x0_0,x1_0,x2_0]:=by
 simp only [fillAV,h0,l0,h1,l1,h2,l2]
 rfl
theorem ACiv_sc0_3 {a0 a1 a2 c0 c1 c2:AV}{l:List AV}:setCells (a0::a1::a2::l) 0 [c0,c1,c2]=c0::c1::c2::l:=rfl
theorem ACiv_Of_8 {τ:Operand→AV}:fillAV τ [] [(.v (.int .i64 0)),(.v (.int .i64 0)),(.v (.int .i64 0))]=some [(.v (.int .i64 0)),(.v (.int .i64 0)),(.v (.int .i64 0))]:=rfl
end
def c149:AC:=(.seq (.reg [Oo 6 (.mv (.const (.bool false)))]) (.seq (.reg [Mv 7 0,Mv 8 1,Oo 9 (.bin .geq (.tmp 7) (.tmp 8)),Mv 10 9,Ot 11 10 (.mv (.tmp 0)),Ot 12 10 (.mv (.tmp 2)),Ot 13 10 (.bin .leq (.tmp 11) (.tmp 12)),Oo 14 (.pick (.tmp 10) (.tmp 13) (.const (.bool false))),Mv 6 14]) .ret))
theorem k149:compF Tryz.prog 149=some ⟨c149,[(.tmp 6)],15⟩:=by kernel_rfl
def c154:AC:=(.seq (.reg [Oo 2 (.mv (.const (.bool false)))]) (.seq (.reg [Mv 3 0,Oo 4 (.bin .rem (.tmp 3) (Ci 4)),Oo 5 (.bin .eql (.tmp 4) (Ci 0)),Mv 6 5,Ot 7 6 (.mv (.tmp 0)),Ot 8 6 (.bin .rem (.tmp 7) (Ci 100)),Ot 9 6 (.bin .neq (.tmp 8) (Ci 0)),Ot 10 6 (.mv (.tmp 9)),Of 11 10 (.mv (.tmp 0)),Of 12 10 (.bin .rem (.tmp 11) (Ci 400)),Of 13 10 (.bin .eql (.tmp 12) (Ci 0)),Ot 14 6 (.pick (.tmp 10) (.const (.bool true)) (.tmp 13)),Oo 15 (.pick (.tmp 6) (.tmp 14) (.const (.bool false))),Mv 2 15]) .ret))
theorem k154:compF Tryz.prog 154=some ⟨c154,[(.tmp 2)],16⟩:=by kernel_rfl
def c153:AC:=(.seq (.reg [Oo 0 (.mv (.const (.slice none 0 0)))]) (.seq (.reg [Oo 1 (.lit 3 1 12 [(iv 0),(iv 0),(iv 0),(iv 0),(iv 0),(iv 0),(iv 0),(iv 0),(iv 0),(iv 0),(iv 0),(iv 0)] [(0,(1,(Ci 31))),(1,(1,(Ci 28))),(2,(1,(Ci 31))),(3,(1,(Ci 30))),(4,(1,(Ci 31))),(5,(1,(Ci 30))),(6,(1,(Ci 31))),(7,(1,(Ci 31))),(8,(1,(Ci 30))),(9,(1,(Ci 31))),(10,(1,(Ci 30))),(11,(1,(Ci 31)))]),Mv 0 1]) .ret))
theorem k153:compF Tryz.prog 153=some ⟨c153,[(.tmp 0)],2⟩:=by kernel_rfl
def c124:AC:=(.seq (.reg [Oo 4 (.mv (Ci 0))]) (.seq (.reg [Oo 6 (.call (.func 153) []),Mv 7 1,Oo 8 (.bin .sub (.tmp 7) (Ci 1)),Oo 9 (.ia 1 (.tmp 6) (.tmp 8)),Ld 10 9,Mv 5 10]) (.seq (.seq (.reg [Mv 11 1,Oo 12 (.bin .eql (.tmp 11) (Ci 2)),Mv 13 12,Ot 14 13 (.mv (.tmp 0)),Ot 15 13 (.call (.func 154) [(.tmp 14)]),Oo 16 (.pick (.tmp 13) (.tmp 15) (.const (.bool false)))]) (.cond (.tmp 16) (.reg [Mv 17 5,Oo 18 (.bin .add (.tmp 17) (Ci 1)),Mv 5 18]) .skip)) (.seq (.reg [Mv 19 5,Mv 4 19]) .ret))))
theorem k124:compF Tryz.prog 124=some ⟨c124,[(.tmp 4)],20⟩:=by kernel_rfl
def c122:AC:=(.seq (.reg [Oo 1 (.box 60 3 (.tmp 0)),Oo 2 (.mv (Ci 0))]) (.seq (.drw [Fa 5 0 1,Ld 6 5,Oo 7 (.call (.func 150) [(.tmp 6)]),Oo 8 (.call (.func 151) []),Oo 9 (.bin .sub (.tmp 7) (.tmp 8)),Fa 10 2 1,Ld 11 10,Oo 12 (.bin .add (.tmp 9) (.tmp 11)),Oo 13 (.bin .sub (.tmp 12) (Ci 1)),Mv 3 13] [] []) (.seq (.seq (.reg [Oo 4 (.mv (Ci 1))]) (.block 0 (.loop (.seq (.seq (.reg [Mv 14 4,Fa 15 1 1,Ld 16 15,Oo 17 (.bin .lss (.tmp 14) (.tmp 16))]) (.cond (.tmp 17) .skip (.exit 0))) (.seq (.block 1 (.reg [Mv 20 3,Fa 21 0 1,Ld 22 21,Mv 23 4,Oo 24 (.call (.func 124) [(.tmp 22),(.tmp 23)]),Oo 25 (.bin .add (.tmp 20) (.tmp 24)),Mv 3 25])) (.reg [Mv 18 4,Oo 19 (.bin .add (.tmp 18) (Ci 1)),Mv 4 19])))))) (.seq (.reg [Mv 26 3,Mv 2 26]) .ret))))
theorem k122:compF Tryz.prog 122=some ⟨c122,[(.tmp 2)],27⟩:=by kernel_rfl
def c160:AC:=(.seq (.reg [Oo 1 (.box 60 3 (.tmp 0)),Oo 2 (.mv (.const (.bool false)))]) (.seq (.drw [Fa 3 0 1,Ld 4 3,Oo 5 (.call (.func 149) [(.tmp 4),(Ci 1),(Ci 9999)]),Mv 6 5,Ot 7 6 (.fa 1 (.tmp 1)),Ot 8 6 (.load false 1 (.tmp 7)),Ot 9 6 (.call (.func 149) [(.tmp 8),(Ci 1),(Ci 12)]),Oo 10 (.pick (.tmp 6) (.tmp 9) (.const (.bool false))),Mv 11 10,Ot 12 11 (.fa 2 (.tmp 1)),Ot 13 11 (.load false 1 (.tmp 12)),Ot 14 11 (.fa 0 (.tmp 1)),Ot 15 11 (.load false 1 (.tmp 14)),Ot 16 11 (.fa 1 (.tmp 1)),Ot 17 11 (.load false 1 (.tmp 16)),Ot 18 11 (.call (.func 124) [(.tmp 15),(.tmp 17)]),Ot 19 11 (.call (.func 149) [(.tmp 13),(Ci 1),(.tmp 18)]),Oo 20 (.pick (.tmp 11) (.tmp 19) (.const (.bool false))),Mv 2 20] [] []) .ret))
theorem k160:compF Tryz.prog 160=some ⟨c160,[(.tmp 2)],21⟩:=by kernel_rfl
def c127:AC:=(.seq (.reg [Oo 1 (.box 60 3 (.tmp 0)),Oo 2 (.mv (Ci 0)),Oo 3 (.mv (Ci 0))]) (.seq (.seq (.reg [Oo 4 (.load true 3 (.tmp 1)),Oo 5 (.call (.func 160) [(.tmp 4)]),Oo 6 (.un .not (.tmp 5))]) (.cond (.tmp 6) (.seq (.reg [Oo 2 (.mv (Ci 0)),Oo 3 (.mv (Ci 3))]) .ret) .skip)) (.seq (.reg [Oo 7 (.load true 3 (.tmp 1)),Oo 8 (.call (.func 122) [(.tmp 7)]),Mv 2 8,Oo 3 (.mv (Ci 0))]) .ret)))
theorem k127:compF Tryz.prog 127=some ⟨c127,[(.tmp 2),(.tmp 3)],9⟩:=by kernel_rfl
def c157:AC:=(.seq (.reg [Oo 2 (.new 60 3 [(iv 0),(iv 0),(iv 0)])]) (.seq (.reg [Mv 6 0,Oo 7 (.call (.func 151) []),Oo 8 (.bin .add (.tmp 6) (.tmp 7)),Mv 3 8]) (.seq (.reg [Mv 9 3,Oo 10 (.bin .quo (.tmp 9) (Ci 366)),Oo 11 (.bin .add (.tmp 10) (Ci 1)),Mv 4 11]) (.seq (.block 0 (.loop (.seq (.seq (.reg [Mv 12 4,Oo 13 (.bin .add (.tmp 12) (Ci 1)),Oo 14 (.call (.func 150) [(.tmp 13)]),Mv 15 3,Oo 16 (.bin .leq (.tmp 14) (.tmp 15))]) (.cond (.tmp 16) .skip (.exit 0))) (.block 1 (.reg [Mv 17 4,Oo 18 (.bin .add (.tmp 17) (Ci 1)),Mv 4 18]))))) (.seq (.reg [Mv 19 3,Mv 20 4,Oo 21 (.call (.func 150) [(.tmp 20)]),Oo 22 (.bin .sub (.tmp 19) (.tmp 21)),Mv 3 22]) (.seq (.reg [Oo 5 (.mv (Ci 1))]) (.seq (.block 2 (.loop (.seq (.seq (.reg [Mv 23 3,Mv 24 4,Mv 25 5,Oo 26 (.call (.func 124) [(.tmp 24),(.tmp 25)]),Oo 27 (.bin .geq (.tmp 23) (.tmp 26))]) (.cond (.tmp 27) .skip (.exit 2))) (.block 3 (.seq (.reg [Mv 28 3,Mv 29 4,Mv 30 5,Oo 31 (.call (.func 124) [(.tmp 29),(.tmp 30)]),Oo 32 (.bin .sub (.tmp 28) (.tmp 31)),Mv 3 32]) (.reg [Mv 33 5,Oo 34 (.bin .add (.tmp 33) (Ci 1)),Mv 5 34])))))) (.seq (.reg [Mv 35 4,Mv 36 5,Mv 37 3,Oo 38 (.bin .add (.tmp 37) (Ci 1)),Oo 39 (.build [(iv 0),(iv 0),(iv 0)] [(0,(1,(.tmp 35))),(1,(1,(.tmp 36))),(2,(1,(.tmp 38)))]),⟨none,none,(.store 3 (.tmp 2) (.tmp 39))⟩]) .ret))))))))
theorem k157:compF Tryz.prog 157=some ⟨c157,[(.cell 2 true 3)],40⟩:=by kernel_rfl
def c125:AC:=(.seq (.reg [Oo 2 (.new 60 3 [(iv 0),(iv 0),(iv 0)]),Oo 3 (.mv (Ci 0))]) (.seq (.seq (.reg [Mv 4 0,Oo 5 (.call (.func 155) []),Oo 6 (.call (.func 156) []),Oo 7 (.call (.func 149) [(.tmp 4),(.tmp 5),(.tmp 6)]),Oo 8 (.un .not (.tmp 7))]) (.cond (.tmp 8) (.seq (.reg [Oo 9 (.build [(iv 0),(iv 0),(iv 0)] []),⟨none,none,(.store 3 (.tmp 2) (.tmp 9))⟩,Oo 3 (.mv (Ci 3))]) .ret) .skip)) (.seq (.reg [Mv 10 0,Oo 11 (.call (.func 157) [(.tmp 10)]),⟨none,none,(.store 3 (.tmp 2) (.tmp 11))⟩,Oo 3 (.mv (Ci 0))]) .ret)))
theorem k125:compF Tryz.prog 125=some ⟨c125,[(.cell 2 true 3),(.tmp 3)],12⟩:=by kernel_rfl
abbrev nmC (n:Int):List AV:=[iv n]
theorem nm_len1 : ∀ x,(nmC x).length=1:=fun _=>rfl
abbrev dateA (p:Int×Int×Int):AV:=.agg [iv p.1,iv p.2.1,iv p.2.2]
def lens:List Int:=[31,28,31,30,31,30,31,31,30,31,30,31]
theorem cwithin_a {n a b:Int}{h:AH}:ACalls Tryz.prog 149 [iv n,iv a,iv b] h fun x h'=>h'=h∧x = .ret (bv (wi n a b)):=by
 refine tI' k149 fun N hn hlt hlA hbd=>?_
 simp only [tA',AV.bdL,AV.bd,and_true,true_and] at hbd ⊢
 refine wr'<|mv' lkb pt6<|sn'<|wr'<|mv' lk0 pt7<|mv' lk1 pt8<|V' (v_geq lk7 lk8) pt9<|mv' lk9 pt10<|?_
 refine sp' gt10 pt10 pt10 (fun hg10=>?_) (fun hg10=>?_)
 ·refine s_do gt10<|mv' lk0 pt11<|s_do gt10<|mv' lk2 pt12<|s_do gt10<|V' (v_leq lk11 lk12) pt13<|V' (v_pickT lk10 lk13) pt14<|mv' lk14 pt6<|sn'<|w_rets<|w_ret (rs1 (rr_t gt6))<|rT'<|?_
  refine bvx ?_;unfold wi;rw [Bool.eq_iff_iff];simp;omega
 refine s_no gt10 pt11<|s_no gt10 pt12<|s_no gt10 pt13<|V' (v_pickF lk10 lkb) pt14<|mv' lk14 pt6<|sn'<|w_rets<|w_ret (rs1 (rr_t gt6))<|rT'<|?_
 refine bvx ?_;unfold wi;rw [Bool.eq_iff_iff];simp;omega
theorem leap_a {y:Int}{h:AH}(h0:0≤y) (h1:y≤1000000):ACalls Tryz.prog 154 [iv y] h fun x h'=>h'=h∧x = .ret (bv (leapB y)):=by
 refine tI' k154 fun N hn hlt hlA hbd=>?_
 simp only [tA',AV.bdL,AV.bd,and_true,true_and] at hbd ⊢
 refine wr'<|mv' lkb pt2<|sn'<|wr'<|mv' lk0 pt3<|?_
 refine V' (v_rem lk3 lki (by omega) (by omega)) pt4 ?_
 refine V' (v_eql lk4 lki) pt5<|mv' lk5 pt6<|?_
 refine sp' gt6 pt6 pt6 (fun hg6=>?_) (fun hg6=>?_)
 ·refine s_do gt6<|mv' lk0 pt7<|s_do gt6<|?_
  refine V' (v_rem lk7 lki (by omega) (by omega)) pt8 ?_
  refine s_do gt6<|V' (v_neq lk8 lki) pt9<|s_do gt6<|mv' lk9 pt10<|?_
  refine sp' gt10 pt10 pt10 (fun hg10=>?_) (fun hg10=>?_)
  ·refine s_no gt10 pt11<|s_no gt10 pt12<|s_no gt10 pt13<|s_do gt6<|V' (v_pickT lk10 lkb) pt14<|V' (v_pickT lk6 lk14) pt15<|mv' lk15 pt2<|sn'<|w_rets<|w_ret (rs1 (rr_t gt2))<|rT'<|?_
   refine bvx ?_;unfold leapB;simp_all <;> rfl
  refine s_do gt10<|mv' lk0 pt11<|s_do gt10<|?_
  refine V' (v_rem lk11 lki (by omega) (by omega)) pt12 ?_
  refine s_do gt10<|V' (v_eql lk12 lki) pt13<|s_do gt6<|V' (v_pickF lk10 lk13) pt14<|V' (v_pickT lk6 lk14) pt15<|mv' lk15 pt2<|sn'<|w_rets<|w_ret (rs1 (rr_t gt2))<|rT'<|?_
  refine bvx ?_;unfold leapB;simp_all <;> rfl
 refine s_no gt6 pt7<|s_no gt6 pt8<|s_no gt6 pt9<|s_no gt6 pt10<|s_nu gt10 pt11<|s_nu gt10 pt12<|s_nu gt10 pt13<|s_no gt6 pt14<|V' (v_pickF lk6 lkb) pt15<|mv' lk15 pt2<|sn'<|w_rets<|w_ret (rs1 (rr_t gt2))<|?_
 refine rT' ?_
 refine bvx ?_;unfold leapB;simp_all <;> rfl
theorem lengths_a {h:AH}:ACalls Tryz.prog 153 [] h fun x h'=>h'=h∧x = .ret (.sl 12 1 false (rows nmC lens)):=by
 refine tI' k153 fun N hn hlt hlA hbd=>?_
 simp only [tA',AV.bdL,AV.bd,and_true,true_and] at hbd ⊢
 exact wr'<|mv' lkn pt0<|sn'<|wr'<|E' (e_lit (ACiv_lengths_2 (cvl lki rfl) rfl (cvl lki rfl) rfl (cvl lki rfl) rfl (cvl lki rfl) rfl (cvl lki rfl) rfl (cvl lki rfl) rfl (cvl lki rfl) rfl (cvl lki rfl) rfl (cvl lki rfl) rfl (cvl lki rfl) rfl (cvl lki rfl) rfl (cvl lki rfl) rfl) (hl0 hn) ha0) pt1<|mv' lk1 pt0<|s_nil<|n_seqw (ALe.iceR (hga hn rfl) gt0 rfl (nb' rfl) pt0 (hs0 hn))<|w_rets<|w_ret (rs1 (rr_t gt0))<|rT' rfl
theorem mlen_lens {y m:Int}(h1:1≤m) (h2:m≤12) (hk:(m-1).toNat<lens.length):mlen y m=lens[(m-1).toNat]+(if m=2 then lp y else 0):=by
 have hm:m=1∨m=2∨m=3∨m=4∨m=5∨m=6∨m=7∨m=8∨m=9∨m=10∨m=11∨m=12:=by omega
 rcases hm with rfl | rfl | rfl | rfl | rfl | rfl | rfl | rfl | rfl | rfl | rfl | rfl <;> rfl
theorem lens_bd {k:Nat}(hk:k<lens.length):28≤lens[k]∧lens[k]≤31:=by
 have : ∀ x∈lens,28≤x∧x≤31:=by decide
 exact this _ (List.getElem_mem hk)
theorem length_a {y m:Int}{h:AH}(h0:0≤y) (hy:y≤1000000) (h1:1≤m) (h2:m≤12):ACalls Tryz.prog 124 [iv y,iv m] h fun x h'=>h'=h∧x = .ret (iv (mlen y m)):=by
 have hk:(m-1).toNat<lens.length:=by show _<12;omega
 have he:=mlen_lens (y:=y) h1 h2 hk
 have hb:=lens_bd hk
 refine tI' k124 fun N hn hlt hlA hbd=>?_
 simp only [tA',AV.bdL,AV.bd,and_true,true_and] at hbd ⊢
 refine wr'<|mv' lki pt4<|sn'<|wr'<|s_callp mp0 (lengths_a) pt6<|mv' lk1 pt7<|?_
 refine V' (v_sub lk7 lki (by omega) (by omega)) pt8 ?_
 refine V' (v_iaR (l:=lens) (k:=(m-1).toNat) lk6 lk8 nm_len1 (nb' rfl) (by omega) hk rfl rfl) pt9 ?_
 refine V' (v_loadr lk9 gt0) pt10<|mv' lk10 pt5<|sn'<|w_seq<|wr'<|mv' lk1 pt11<|V' (v_eql lk11 lki) pt12<|mv' lk12 pt13<|?_
 refine sp' gt13 pt13 pt13 (fun hg13=>?_) (fun hg13=>?_)
 ·refine s_do gt13<|mv' lk0 pt14<|s_do gt13<|s_callp (mp1 lk14 mp0) (leap_a h0 hy) pt15<|V' (v_pickT lk13 lk15) pt16<|sn'<|?_
  refine cd' lk16 (fun hc1=>?_) (fun hc1=>?_)
  ·refine w_reg<|mv' lk5 pt17<|?_
   refine V' (v_add lk17 lki (by omega) (by omega)) pt18 ?_
   refine mv' lk18 pt5<|sn'<|wr'<|mv' lk5 pt19<|mv' lk19 pt4<|sn'<|w_rets<|w_ret (rs1 (rr_t gt4))<|rT'<|?_
   refine ivx ?_;rw [he];unfold lp;simp_all
  refine w_skip<|n_seq<|wr'<|mv' lk5 pt19<|mv' lk19 pt4<|sn'<|w_rets<|w_ret (rs1 (rr_t gt4))<|rT'<|?_
  refine ivx ?_;rw [he];unfold lp;simp_all
 refine s_no gt13 pt14<|s_no gt13 pt15<|V' (v_pickF lk13 lkb) pt16<|sn'<|w_condF lk16<|w_skip<|n_seq<|wr'<|mv' lk5 pt19<|mv' lk19 pt4<|sn'<|?_
 refine w_rets<|w_ret (rs1 (rr_t gt4))<|rT'<|?_
 refine ivx ?_;rw [he];unfold lp;simp_all
theorem number_a {y m d:Int}{h:AH}(y0:1≤y) (y1:y≤20000) (m0:1≤m) (m1:m≤12) (d0 : -1000≤d) (d1:d≤1000):ACalls Tryz.prog 122 [.agg [iv y,iv m,iv d]] h fun x h'=>h'=h∧x = .ret (iv (num y m d)):=by
 have hb:=bef_bd y0 y1
 refine tI' k122 fun N hn hlt hlA hbd=>?_
 simp only [tA',AV.bdL,AV.bd,and_true,true_and] at hbd ⊢
 refine wr'<|E' (e_box (cvl lk0 rfl) rfl (hl0 hn) ha0) pt1<|mv' lki pt2<|sn'<|w_seq<|w_drwE<|D' (v_fap0 lk1) pt5<|D' (v_loadp lk5 (hga hn rfl) gt0) pt6<|?_
 refine d_callp (mp1 lk6 mp0) (fun hE hX=>before_a (by first | assumption | omega) (by first | assumption | omega)) pt7 ?_
 refine d_callp mp0 (fun hE hX=>epoch_a) pt8 ?_
 refine D' (v_sub lk7 lk8 (by omega) (by omega)) pt9 ?_
 refine D' (v_fap0 lk1) pt10<|D' (v_loadp lk10 (hga hn rfl) gt2) pt11<|?_
 refine D' (v_add lk9 lk11 (by omega) (by omega)) pt12 ?_
 refine D' (v_sub lk12 lki (by omega) (by omega)) pt13 ?_
 refine D' (v_mv lk13) pt3<|d_nil<|?_
 refine e_nil ?_
 refine sn'<|w_seq<|wr'<|mv' lki pt4<|sn'<|w_block<|?_
 refine w_loop (ι:=Int) (fun (k:Int)=>[(3,iv (bef y-719162+d-1+cum y k)),(4,iv k)]++rn' 14 12) (fun (k:Int)=>[]) (fun (k:Int)=>1≤k∧k≤m) (fun (k:Int)=>(m-k).toNat) (1) (by omega) (by try simp only [setsT,setsE,z',s',rn',la',ln',Nat.reduceAdd];exact ALe.same (by repeat (first | exact wk0 | refine wka ?_ | refine wk1 rfl ?_ | refine wk1 (by first | rfl | exact ivx (by rw [cum_1];omega)) ?_)) rfl) ?_
 rintro k hi1
 try simp only [setsT,setsE,z',s',rn',la',ln',Nat.reduceAdd]
 obtain ⟨hk1,hk2⟩:=hi1
 have hcb:=cum_bd (y:=y) (m:=k) hk1 (by omega)
 refine w_seq<|wr'<|mv' lk4 pt14<|V' (v_fap0 lk1) pt15<|V' (v_loadp lk15 (hga hn rfl) gt1) pt16<|V' (v_lss lk14 lk16) pt17<|sn'<|?_
 refine cd' lk17 (fun hc1=>?_) (fun hc1=>?_)
 ·have hcs:=cum_succ (y:=y) (m:=k) hk1 (by omega)
  have hml:=mlen_bd y k
  refine w_skip<|n_seq<|w_seq<|w_block<|w_reg<|mv' lk3 pt20<|V' (v_fap0 lk1) pt21<|V' (v_loadp lk21 (hga hn rfl) gt0) pt22<|mv' lk4 pt23<|?_
  refine s_callp (mp1 lk22 (mp1 lk23 mp0)) (length_a (by omega) (by omega) hk1 (by omega)) pt24 ?_
  refine V' (v_add lk20 lk24 (by omega) (by omega)) pt25 ?_
  refine mv' lk25 pt3<|s_nil<|n_blk<|n_seq<|w_reg<|mv' lk4 pt18<|?_
  refine V' (v_add lk18 lki (by omega) (by omega)) pt19 ?_
  refine mv' lk19 pt4<|s_nil<|n_thn<|?_
  refine lU' (k+1) (by (try dsimp only);omega) (by (try dsimp only);(try simp only [setsT,setsE,z',s',rn',la',ln',Nat.reduceAdd]);exact ALe.same (by repeat (first | exact wk0 | refine wka ?_ | refine wk1 rfl ?_ | refine wk1 (by first | rfl | exact ivx (by omega)) ?_)) rfl)
 have hkm:k=m:=by omega
 refine w_exit<|x_thn<|x_thn<|x_blk<|n_seq<|wr'<|mv' lk3 pt26<|mv' lk26 pt2<|sn'<|w_rets<|w_ret (rs1 (rr_t gt2))<|rT'<|?_
 refine ivx ?_;rw [hkm];unfold num;omega
theorem is_a {y m d:Int}{h:AH}:ACalls Tryz.prog 160 [.agg [iv y,iv m,iv d]] h fun x h'=>h'=h∧x = .ret (bv (isDate y m d)):=by
 refine tI' k160 fun N hn hlt hlA hbd=>?_
 simp only [tA',AV.bdL,AV.bd,and_true,true_and] at hbd ⊢
 refine wr'<|E' (e_box (cvl lk0 rfl) rfl (hl0 hn) ha0) pt1<|mv' lkb pt2<|sn'<|w_seq<|w_drwE<|D' (v_fap0 lk1) pt3<|D' (v_loadp lk3 (hga hn rfl) gt0) pt4<|?_
 refine d_callp (mp1 lk4 (mp1 lki (mp1 lki mp0))) (fun hE hX=>cwithin_a) pt5 ?_
 refine D' (v_mv lk5) pt6 ?_
 refine d_splitB gt6 pt6 pt6 (fun hg6=>?_) (fun hg6=>?_)
 ·have hy:1≤y∧y≤9999:=by unfold wi at hg6;simpa using hg6
  refine d_do gt6<|D' (v_fap0 lk1) pt7<|d_do gt6<|D' (v_loadp lk7 (hga hn rfl) gt1) pt8<|d_do gt6<|?_
  refine d_callp (mp1 lk8 (mp1 lki (mp1 lki mp0))) (fun hE hX=>cwithin_a) pt9 ?_
  refine D' (v_pickT lk6 lk9) pt10<|D' (v_mv lk10) pt11<|?_
  refine d_splitB gt11 pt11 pt11 (fun hg11=>?_) (fun hg11=>?_)
  ·have hm:1≤m∧m≤12:=by unfold wi at hg11;simpa using hg11
   refine d_do gt11<|D' (v_fap0 lk1) pt12<|d_do gt11<|D' (v_loadp lk12 (hga hn rfl) gt2) pt13<|d_do gt11<|D' (v_fap0 lk1) pt14<|d_do gt11<|D' (v_loadp lk14 (hga hn rfl) gt0) pt15<|d_do gt11<|D' (v_fap0 lk1) pt16<|d_do gt11<|D' (v_loadp lk16 (hga hn rfl) gt1) pt17<|d_do gt11<|?_
   refine d_callp (mp1 lk15 (mp1 lk17 mp0)) (fun hE hX=>length_a (by omega) (by omega) hm.1 hm.2) pt18 ?_
   refine d_do gt11 ?_
   refine d_callp (mp1 lk13 (mp1 lki (mp1 lk18 mp0))) (fun hE hX=>cwithin_a) pt19 ?_
   refine D' (v_pickT lk11 lk19) pt20<|D' (v_mv lk20) pt2<|d_nil<|?_
   refine e_nil ?_
   refine sn'<|w_rets<|w_ret (rs1 (rr_t gt2))<|rT'<|?_
   refine bvx ?_;rw [show isDate y m d=(wi y 1 9999&&(wi m 1 12&&wi d 1 (mlen y m))) from by unfold isDate wi;simp [Bool.and_assoc]];simp_all
  refine d_no gt11 pt12<|d_no gt11 pt13<|d_no gt11 pt14<|d_no gt11 pt15<|d_no gt11 pt16<|d_no gt11 pt17<|d_no gt11 pt18<|d_no gt11 pt19<|D' (v_pickF lk11 lkb) pt20<|D' (v_mv lk20) pt2<|d_nil<|?_
  refine e_nil ?_
  refine sn'<|w_rets<|w_ret (rs1 (rr_t gt2))<|rT'<|?_
  refine bvx ?_;rw [show isDate y m d=(wi y 1 9999&&(wi m 1 12&&wi d 1 (mlen y m))) from by unfold isDate wi;simp [Bool.and_assoc]];simp_all
 refine d_no gt6 pt7<|d_no gt6 pt8<|d_no gt6 pt9<|D' (v_pickF lk6 lkb) pt10<|D' (v_mv lk10) pt11<|d_no gt11 pt12<|d_no gt11 pt13<|d_no gt11 pt14<|d_no gt11 pt15<|d_no gt11 pt16<|d_no gt11 pt17<|d_no gt11 pt18<|d_no gt11 pt19<|D' (v_pickF lk11 lkb) pt20<|?_
 refine D' (v_mv lk20) pt2<|d_nil<|?_
 refine e_nil ?_
 refine sn'<|w_rets<|w_ret (rs1 (rr_t gt2))<|rT'<|?_
 refine bvx ?_;rw [show isDate y m d=(wi y 1 9999&&(wi m 1 12&&wi d 1 (mlen y m))) from by unfold isDate wi;simp [Bool.and_assoc]];simp_all
theorem days_a {y m d:Int}{h:AH}:ACalls Tryz.prog 127 [.agg [iv y,iv m,iv d]] h fun x h'=>h'=h∧x = .ret (.tup [iv (if isDate y m d then num y m d else 0),iv (if isDate y m d then 0 else 3)]):=by
 refine tI' k127 fun N hn hlt hlA hbd=>?_
 simp only [tA',AV.bdL,AV.bd,and_true,true_and] at hbd ⊢
 refine wr'<|E' (e_box (cvl lk0 rfl) rfl (hl0 hn) ha0) pt1<|mv' lki pt2<|mv' lki pt3<|sn'<|w_seq<|wr'<|V' (v_loadpA lk1 (hga hn rfl) ACiv_tk0_3 rfl) pt4<|s_callp (mp1 lk4 mp0) (is_a) pt5<|V' (v_notB lk5) pt6<|s_nil<|?_
 refine n_seq ?_
 refine w_condB lk6 (fun hc1=>?_) (fun hc1=>?_)
 ·have hd:isDate y m d=false:=by simpa using hc1
  refine wr'<|mv' lki pt2<|mv' lki pt3<|sn'<|w_rets<|r_thn<|w_ret (rsn (rm1 (rr_t gt2) (rm1 (rr_t gt3) rm0)))<|rT'<|?_
  rw [hd];rfl
 have hd:isDate y m d=true:=by simpa using hc1
 have hi:=isDate_iff.1 hd
 have hl:=mlen_bd y m
 refine w_skip<|n_seq<|wr'<|V' (v_loadpA lk1 (hga hn rfl) ACiv_tk0_3 rfl) pt7<|?_
 refine s_callp (mp1 lk7 mp0) (number_a (by omega) (by omega) (by omega) (by omega) (by omega) (by omega)) pt8 ?_
 refine mv' lk8 pt2<|mv' lki pt3<|sn'<|w_rets<|w_ret (rsn (rm1 (rr_t gt2) (rm1 (rr_t gt3) rm0)))<|rT'<|?_
 rw [hd];rfl
theorem date_a {n:Int}{h:AH}(h0 : -719162≤n) (h1:n≤2932896):ACalls Tryz.prog 157 [iv n] h fun x h'=>h'=h∧x = .ret (dateA (dateOf n)):=by
 have hg:=guess_le (n:=n+719162) (by omega)
 have hn:=guess_near (n:=n+719162) (by omega) (by omega)
 have hs:=yrOf_spec h0 h1
 refine tI' k157 fun N hn hlt hlA hbd=>?_
 simp only [tA',AV.bdL,AV.bd,and_true,true_and] at hbd ⊢
 refine wr'<|E' (e_new (hl0 hn) ha0) pt2<|sn'<|wr'<|mv' lk0 pt6<|s_callp mp0 (epoch_a) pt7<|?_
 refine V' (v_add lk6 lk7 (by omega) (by omega)) pt8 ?_
 refine mv' lk8 pt3<|sn'<|wr'<|mv' lk3 pt9<|?_
 refine V' (v_quo lk9 lki (by omega) (by omega) (by omega)) pt10 ?_
 refine V' (v_add lk10 lki (by omega) (by omega)) pt11 ?_
 refine mv' lk11 pt4<|sn'<|w_seq<|w_block<|?_
 refine w_lp (ι:=Nat×Int) (fun (x_:Nat×Int)=>match x_ with | ⟨k,y⟩=>[(4,iv y)]++rn' 12 7) (fun (x_:Nat×Int)=>match x_ with | ⟨k,y⟩=>[]) (fun (x_:Nat×Int)=>match x_ with | ⟨k,y⟩=>yrOf n=yrUp k (n+719162) y∧1≤y∧y+k≤10100∧bef y≤n+719162∧n+719162<bef y+365*(k:Int)+365) (fun (x_:Nat×Int)=>match x_ with | ⟨k,y⟩=>k) (⟨60,(n+719162)/366+1⟩) (by exact ⟨rfl,by omega,by omega,hg,by omega⟩) ?_
 rintro ⟨k,y⟩ hi1
 try simp only [setsT,setsE,z',s',rn',la',ln',Nat.reduceAdd]
 obtain ⟨hy1,hy2,hy3,hy4,hy5⟩:=hi1
 refine w_seq<|wr'<|mv' lk4 pt12<|?_
 refine V' (v_add lk12 lki (by omega) (by omega)) pt13 ?_
 refine s_callp (mp1 lk13 mp0) (before_a (by omega) (by omega)) pt14 ?_
 refine mv' lk3 pt15<|V' (v_leq lk14 lk15) pt16<|sn'<|?_
 refine cd' lk16 (fun hc1=>?_) (fun hc1=>?_)
 ·obtain ⟨j,rfl⟩ : ∃ j,k=j+1:=by
   cases k with
   | zero=>exfalso;have:=bef_step (a:=y) (b:=y+1) (by omega);have:=bef_succ y;have:=lp_01 y;unfold bef at *;omega
   | succ j=>exact ⟨j,rfl⟩
  have hst:=bef_step (a:=y) (b:=y+1) (by omega)
  refine w_skip<|n_seq<|w_block<|w_reg<|mv' lk4 pt17<|?_
  refine V' (v_add lk17 lki (by omega) (by omega)) pt18 ?_
  refine mv' lk18 pt4<|s_nil<|n_blk<|n_thn<|?_
  refine lT' (⟨j,y+1⟩) (by (try dsimp only);exact ⟨by rw [hy1,yrUp,if_pos hc1],by omega,by omega,hc1,by omega⟩)
 have hyy:yrOf n=y:=by rw [hy1];cases k with
  | zero=>rfl
  | succ j=>rw [yrUp,if_neg hc1]
 rw [hyy] at hs
 have hbs:=bef_succ y
 have hl01:=lp_01 y
 refine w_exit<|x_thn<|x_thn<|x_blk<|n_seq<|wr'<|mv' lk3 pt19<|mv' lk4 pt20<|?_
 refine s_callp (mp1 lk20 mp0) (before_a (by omega) (by omega)) pt21 ?_
 refine V' (v_sub lk19 lk21 (by omega) (by omega)) pt22 ?_
 refine mv' lk22 pt3<|sn'<|wr'<|mv' lki pt5<|sn'<|w_seq<|w_block<|?_
 refine w_lp (ι:=Nat×Int×Int) (fun (x_:Nat×Int×Int)=>match x_ with | ⟨k,m,r⟩=>[(3,iv r),(5,iv m)]++rn' 23 12) (fun (x_:Nat×Int×Int)=>match x_ with | ⟨k,m,r⟩=>[]) (fun (x_:Nat×Int×Int)=>match x_ with | ⟨k,m,r⟩=>moUp 12 y 1 (n+719162-bef y)=moUp k y m r∧1≤m∧m+k=13∧0≤r∧cum y m+r<365+lp y) (fun (x_:Nat×Int×Int)=>match x_ with | ⟨k,m,r⟩=>k) (⟨12,1,n+719162-bef y⟩) (by exact ⟨rfl,by omega,by omega,by omega,by rw [cum_1];omega⟩) ?_
 rintro ⟨k,m,r⟩ hi2
 try simp only [setsT,setsE,z',s',rn',la',ln',Nat.reduceAdd]
 obtain ⟨hm1,hm2,hm3,hm4,hm5⟩:=hi2
 have hm12:m≤12:=by
  rcases Int.lt_or_le 12 m with e | e
  ·have:m=13:=by omega
   subst this;rw [cum_13] at hm5;omega
  exact e
 have hcs:=cum_succ (y:=y) (m:=m) hm2 hm12
 have hcb:=cum_bd (y:=y) (m:=m) hm2 (by omega)
 have hml:=mlen_bd y m
 refine w_seq<|wr'<|mv' lk3 pt23<|mv' lk4 pt24<|mv' lk5 pt25<|?_
 refine s_callp (mp1 lk24 (mp1 lk25 mp0)) (length_a (by omega) (by omega) hm2 hm12) pt26 ?_
 refine V' (v_geq lk23 lk26) pt27<|sn'<|?_
 refine cd' lk27 (fun hc2=>?_) (fun hc2=>?_)
 ·obtain ⟨j,rfl⟩ : ∃ j,k=j+1:=⟨k-1,by omega⟩
  refine w_skip<|n_seq<|w_block<|wr'<|mv' lk3 pt28<|mv' lk4 pt29<|mv' lk5 pt30<|?_
  refine s_callp (mp1 lk29 (mp1 lk30 mp0)) (length_a (by omega) (by omega) hm2 hm12) pt31 ?_
  refine V' (v_sub lk28 lk31 (by omega) (by omega)) pt32 ?_
  refine mv' lk32 pt3<|sn'<|w_reg<|mv' lk5 pt33<|?_
  refine V' (v_add lk33 lki (by omega) (by omega)) pt34 ?_
  refine mv' lk34 pt5<|s_nil<|n_blk<|n_thn<|?_
  refine lT' (⟨j,m+1,r-mlen y m⟩) (by (try dsimp only);exact ⟨by rw [hm1,moUp,if_pos hc2],by omega,by omega,by omega,by omega⟩)
 have hmm:moUp 12 y 1 (n+719162-bef y)=(m,r):=by rw [hm1];cases k with
  | zero=>rfl
  | succ j=>rw [moUp,if_neg hc2]
 refine w_exit<|x_thn<|x_thn<|x_blk<|n_seq<|wr'<|mv' lk4 pt35<|mv' lk5 pt36<|mv' lk3 pt37<|?_
 refine V' (v_add lk37 lki (by omega) (by omega)) pt38 ?_
 refine V' (v_build (ACiv_Date_42 (cvl lk35 rfl) rfl (cvl lk36 rfl) rfl (cvl lk38 rfl) rfl)) pt39<|E' (e_store lk2 (cvl lk39 rfl) (hga hn rfl) rfl (nb' rfl) rfl ACiv_sc0_3 (hs0 hn)) ptn<|sn'<|w_rets<|w_ret (rs1 (rr_c gt2 (hga hn rfl) (ld1 ACiv_tk0_3 rfl)))<|rT'<|?_
 have hdo:dateOf n=(y,m,r+1):=by simp only [dateOf,hyy,hmm]
 rw [hdo]
theorem of_a {n:Int}{h:AH}:ACalls Tryz.prog 125 [iv n] h fun x h'=>h'=h∧x = .ret (.tup [dateA (if -719162≤n∧n≤2932896 then dateOf n else (0,0,0)),iv (if -719162≤n∧n≤2932896 then 0 else 3)]):=by
 refine tI' k125 fun N hn hlt hlA hbd=>?_
 simp only [tA',AV.bdL,AV.bd,and_true,true_and] at hbd ⊢
 refine wr'<|E' (e_new (hl0 hn) ha0) pt2<|mv' lki pt3<|sn'<|w_seq<|wr'<|mv' lk0 pt4<|s_callp mp0 (first_a) pt5<|s_callp mp0 (last_a) pt6<|s_callp (mp1 lk4 (mp1 lk5 (mp1 lk6 mp0))) (cwithin_a) pt7<|V' (v_notB lk7) pt8<|?_
 refine sn' ?_
 refine w_condB lk8 (fun hc1=>?_) (fun hc1=>?_)
 ·have hno:¬(-719162≤n∧n≤2932896):=by unfold wi at hc1;simp at hc1;omega
  refine wr'<|V' (v_build ACiv_Of_8) pt9<|E' (e_store lk2 (cvl lk9 rfl) (hga hn rfl) rfl (nb' rfl) rfl ACiv_sc0_3 (hs0 hn)) ptn<|mv' lki pt3<|sn'<|w_rets<|r_thn<|w_ret (rsn (rm1 (rr_c gt2 (hga hn rfl) (ld1 ACiv_tk0_3 rfl)) (rm1 (rr_t gt3) rm0)))<|rT'<|?_
  rw [if_neg hno,if_neg hno]
 have hyes : -719162≤n∧n≤2932896:=by unfold wi at hc1;simp at hc1;omega
 refine w_skip<|n_seq<|wr'<|mv' lk0 pt10<|s_callp (mp1 lk10 mp0) (date_a hyes.1 hyes.2) pt11<|E' (e_store lk2 (cvl lk11 rfl) (hga hn rfl) rfl (nb' rfl) rfl ACiv_sc0_3 (hs0 hn)) ptn<|mv' lki pt3<|sn'<|w_rets<|w_ret (rsn (rm1 (rr_c gt2 (hga hn rfl) (ld1 ACiv_tk0_3 rfl)) (rm1 (rr_t gt3) rm0)))<|rT'<|?_
 rw [if_pos hyes,if_pos hyes]
end Go.Proofs.YtgjchdhdopgkkaaGreatDoor
end
section
namespace Go.Proofs.YtgjchdhdopgkkaaGreatDoor
open Go.Ab Civ
section
theorem CivM_tk0_3 {a0 a1 a2:AV}{l:List AV}:((a0::a1::a2::l).drop 0).take 3=[a0,a1,a2]:=rfl
theorem CivM_On_11 {τ:Operand→AV}:fillAV τ [] [(.v (.int .i64 0)),(.v (.int .i64 0)),(.v (.int .i64 0))]=some [(.v (.int .i64 0)),(.v (.int .i64 0)),(.v (.int .i64 0))]:=rfl
theorem CivM_sc0_3 {a0 a1 a2 c0 c1 c2:AV}{l:List AV}:setCells (a0::a1::a2::l) 0 [c0,c1,c2]=c0::c1::c2::l:=rfl
theorem CivM_On_17 {τ:Operand→AV}{y0 y1 y2:Operand}{x0_0 x1_0 x2_0:AV}(h0:cellsV (τ y0)=some [x0_0]) (l0:[x0_0].all leaf=true) (h1:cellsV (τ y1)=some [x1_0]) (l1:[x1_0].all leaf=true) (h2:cellsV (τ y2)=some [x2_0]) (l2:[x2_0].all leaf=true):fillAV τ [(0,1,y0),(1,1,y1),(2,1,y2)] [(.v (.int .i64 0)),(.v (.int .i64 0)),(.v (.int .i64 0))]=some [x0_0,x1_0,x2_0]:=by
 simp only [fillAV,h0,l0,h1,l1,h2,l2]
 rfl
theorem CivM_FirstDay_2 {τ:Operand→AV}{y0 y1 y2:Operand}{x0_0 x1_0 x2_0:AV}(h0:cellsV (τ y0)=some [x0_0]) (l0:[x0_0].all leaf=true) (h1:cellsV (τ y1)=some [x1_0]) (l1:[x1_0].all leaf=true) (h2:cellsV (τ y2)=some [x2_0]) (l2:[x2_0].all leaf=true):fillAV τ [(0,1,y0),(1,1,y1),(2,1,y2)] [(.v (.int .i64 0)),(.v (.int .i64 0)),(.v (.int .i64 0))]=some [x0_0,x1_0,x2_0]:=by
 simp only [fillAV,h0,l0,h1,l1,h2,l2]
 rfl
theorem CivM_LastDay_2 {τ:Operand→AV}{y0 y1 y2:Operand}{x0_0 x1_0 x2_0:AV}(h0:cellsV (τ y0)=some [x0_0]) (l0:[x0_0].all leaf=true) (h1:cellsV (τ y1)=some [x1_0]) (l1:[x1_0].all leaf=true) (h2:cellsV (τ y2)=some [x2_0]) (l2:[x2_0].all leaf=true):fillAV τ [(0,1,y0),(1,1,y1),(2,1,y2)] [(.v (.int .i64 0)),(.v (.int .i64 0)),(.v (.int .i64 0))]=some [x0_0,x1_0,x2_0]:=by
 simp only [fillAV,h0,l0,h1,l1,h2,l2]
 rfl
theorem CivM_DateOf_14 {τ:Operand→AV}{y0 y1 y2:Operand}{x0_0 x1_0 x2_0:AV}(h0:cellsV (τ y0)=some [x0_0]) (l0:[x0_0].all leaf=true) (h1:cellsV (τ y1)=some [x1_0]) (l1:[x1_0].all leaf=true) (h2:cellsV (τ y2)=some [x2_0]) (l2:[x2_0].all leaf=true):fillAV τ [(0,1,y0),(1,1,y1),(2,1,y2)] [(.v (.int .i64 0)),(.v (.int .i64 0)),(.v (.int .i64 0))]=some [x0_0,x1_0,x2_0]:=by
 simp only [fillAV,h0,l0,h1,l1,h2,l2]
 rfl
theorem CivM_DateOf_23 {τ:Operand→AV}{y0 y1 y2:Operand}{x0_0 x1_0 x2_0:AV}(h0:cellsV (τ y0)=some [x0_0]) (l0:[x0_0].all leaf=true) (h1:cellsV (τ y1)=some [x1_0]) (l1:[x1_0].all leaf=true) (h2:cellsV (τ y2)=some [x2_0]) (l2:[x2_0].all leaf=true):fillAV τ [(0,1,y0),(1,1,y1),(2,1,y2)] [(.v (.int .i64 0)),(.v (.int .i64 0)),(.v (.int .i64 0))]=some [x0_0,x1_0,x2_0]:=by
 simp only [fillAV,h0,l0,h1,l1,h2,l2]
 rfl
theorem CivM_sc1_1 {a0 a1 c0:AV}{l:List AV}:setCells (a0::a1::l) 1 [c0]=a0::c0::l:=rfl
theorem CivM_sc2_1 {a0 a1 a2 c0:AV}{l:List AV}:setCells (a0::a1::a2::l) 2 [c0]=a0::a1::c0::l:=rfl
theorem CivM_OnOf_12 {τ:Operand→AV}:fillAV τ [] [(.v (.int .i64 0)),(.v (.int .i64 0)),(.v (.int .i64 0))]=some [(.v (.int .i64 0)),(.v (.int .i64 0)),(.v (.int .i64 0))]:=rfl
theorem CivM_OnOf_19 {τ:Operand→AV}:fillAV τ [] [(.v (.int .i64 0)),(.v (.int .i64 0)),(.v (.int .i64 0))]=some [(.v (.int .i64 0)),(.v (.int .i64 0)),(.v (.int .i64 0))]:=rfl
theorem CivM_OnOf_36 {τ:Operand→AV}:fillAV τ [] [(.v (.int .i64 0)),(.v (.int .i64 0)),(.v (.int .i64 0))]=some [(.v (.int .i64 0)),(.v (.int .i64 0)),(.v (.int .i64 0))]:=rfl
theorem CivM_OnOf_63 {τ:Operand→AV}:fillAV τ [] [(.v (.int .i64 0)),(.v (.int .i64 0)),(.v (.int .i64 0))]=some [(.v (.int .i64 0)),(.v (.int .i64 0)),(.v (.int .i64 0))]:=rfl
theorem CivM_OnOf_68 {τ:Operand→AV}{y0 y1 y2:Operand}{x0_0 x1_0 x2_0:AV}(h0:cellsV (τ y0)=some [x0_0]) (l0:[x0_0].all leaf=true) (h1:cellsV (τ y1)=some [x1_0]) (l1:[x1_0].all leaf=true) (h2:cellsV (τ y2)=some [x2_0]) (l2:[x2_0].all leaf=true):fillAV τ [(0,1,y0),(1,1,y1),(2,1,y2)] [(.v (.int .i64 0)),(.v (.int .i64 0)),(.v (.int .i64 0))]=some [x0_0,x1_0,x2_0]:=by
 simp only [fillAV,h0,l0,h1,l1,h2,l2]
 rfl
theorem CivM_OnOf_124 {τ:Operand→AV}:fillAV τ [] [(.v (.int .i64 0)),(.v (.int .i64 0)),(.v (.int .i64 0))]=some [(.v (.int .i64 0)),(.v (.int .i64 0)),(.v (.int .i64 0))]:=rfl
end
def c152:AC:=(.seq (.reg [Oo 2 (.mv (Ci 0))]) (.seq (.reg [Mv 3 0,Oo 4 (.bin .rem (.tmp 3) (Ci 7)),Oo 5 (.bin .add (.tmp 4) (Ci 4)),Oo 6 (.bin .rem (.tmp 5) (Ci 7)),Oo 7 (.bin .add (.tmp 6) (Ci 7)),Oo 8 (.bin .rem (.tmp 7) (Ci 7)),Mv 2 8]) .ret))
theorem k152:compF Tryz.prog 152=some ⟨c152,[(.tmp 2)],9⟩:=by kernel_rfl
def c123:AC:=(.seq (.reg [Oo 6 (.mv (Ci 0))]) (.seq (.block 0 (.loop (.seq (.seq (.reg [Mv 7 0,Oo 8 (.call (.func 152) [(.tmp 7)]),Mv 9 1,Oo 10 (.bin .neq (.tmp 8) (.tmp 9))]) (.cond (.tmp 10) .skip (.exit 0))) (.block 1 (.reg [Mv 11 0,Mv 12 2,Oo 13 (.bin .add (.tmp 11) (.tmp 12)),Mv 0 13]))))) (.seq (.reg [Mv 14 0,Mv 6 14]) .ret)))
theorem k123:compF Tryz.prog 123=some ⟨c123,[(.tmp 6)],15⟩:=by kernel_rfl
end Go.Proofs.YtgjchdhdopgkkaaGreatDoor
end
