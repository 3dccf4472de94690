/-
  Part 1 of the proof: own lemmas and contracts on plain data. No condition beyond those that each lemma states.
-/
import Derived.Test.YtgjchdhdopgkkaaGreatDoorK0
import Derived.KernelRfl
import Derived.Defers
import Derived.Recover
import Derived.Tactics
import Derived.Tactics2
import Derived.Lib.SplitLaws
import Derived.Lib.Join
import Derived.Lib.IndexAny
import Derived.Shelf.Strings.Builder1
import Derived.Shelf.Strings.Builder2
import Derived.Shelf.Strings.OnBuilder
import Derived.Shelf.Small.Utf8
import Derived.Shelf.Small.Strs
import Derived.Shelf.Small.Wraps
import Derived.Shelf.Strings.BuilderF
import Derived.Shelf.Strings.BuilderK
import Derived.Shelf.Strings.Builder2Cap
import Derived.Shelf.Strconv.Atoi
import Derived.Shelf.Strconv.Itoa0
import Derived.Shelf.Strconv.Itoa1
import Derived.Shelf.LaysM
import Derived.Shelf.Strconv.Itoa2
import Derived.Shelf.Strconv.Itoa3
import Derived.Shelf.Strings.Search1
import Derived.Shelf.Strings.Search2
import Derived.Shelf.Strings.Search3
import Derived.Shelf.Strings.Cut
import Derived.Shelf.Strings.Count
import Derived.Shelf.Strings.Shaped
import Derived.Shelf.Strings.Prefix
import Derived.Shelf.Strings.Split
import Derived.Shelf.Strings.SplitShaped
import Derived.Shelf.Unicode.Decode
import Derived.Shelf.Strings.Runes
import Derived.Shelf.Strings.RuneCount
import Derived.Shelf.Strings.IndexAny
import Derived.Shelf.Strings.AsciiSet
import Derived.Shelf.Strings.IndexAnyAll
import Derived.Shelf.Strings.Explode
import Derived.Shelf.Unicode.DecodeSlow
import Derived.Shelf.Unicode.DecodeAny
import Derived.Shelf.Strings.BuilderCap
import Derived.Shelf.Slices.Turned
set_option linter.all false
set_option maxRecDepth 100000
section
namespace Go.Ab
section
variable {P : Program} {n0 : Nat}
theorem comp_sound : ∀ (c:Code) (ac:AC),comp P c=some ac → ∀ {Q:AX→List AV→AH→Prop}{T:List AV}{h:AH},aw P n0 ac Q T h→AW P n0 c Q T h:=by
 intro c
 induction c with
 | skip=>intro ac hc Q T h hw;cases hc;exact AW_skip hw
 | region id ops draw =>
  intro ac hc Q T h hw
  simp only [comp] at hc
  split at hc <;> try (cases hc;done)
  rename_i al hm
  split at hc
  ·rename_i hd;subst hd;cases hc;exact AW_region hm hw
  ·rename_i hd
   obtain rfl:draw=true:=by simpa using hd
   rw [Option.map_eq_some_iff] at hc
   obtain ⟨ac,hc,rfl⟩:=hc
   cases hp:panOf P ops al with
   | none=>rw [hp] at hw;exact region_base hc hw
   | some p =>
    obtain ⟨x,f,al',d0⟩:=p
    rw [hp] at hw
    rcases hw with hw | ⟨cp,Pp,c,h1,h2,h3⟩
    ·exact region_base hc hw
    ·unfold panOf at hp
     split at hp <;> try (cases hp;done)
     rename_i i0 hf0
     exact region_pan hm hp h1 h2 h3
 | seq a b iha ihb =>
  intro ac hc Q T h hw
  simp only [comp] at hc
  split at hc <;> try (cases hc;done)
  rename_i x y hx hy
  cases hc
  refine AW_seq ((iha x hx hw).mono ?_)
  intro z T' h' hq
  cases z <;> simp only [AX.thn] at hq ⊢ <;> first | exact hq | (obtain ⟨T1,h1,hle,hq⟩:=hq;exact AW_le hle (ihb y hy hq))
 | cond c a b iha ihb =>
  intro ac hc Q T h hw
  simp only [comp] at hc
  split at hc <;> try (cases hc;done)
  rename_i x y hx hy
  cases hc
  simp only [aw] at hw
  split at hw <;> try (exact hw.elim)
  rename_i t ht
  exact AW_cond ht (fun e=>iha x hx (hw.1 e)) (fun e=>ihb y hy (hw.2 e))
 | block id a iha =>
  intro ac hc Q T h hw
  simp only [comp,Option.map_eq_some_iff] at hc
  obtain ⟨x,hx,rfl⟩:=hc
  exact AW_block (iha x hx hw)
 | loop a iha =>
  intro ac hc Q T h hw
  simp only [comp,Option.map_eq_some_iff] at hc
  obtain ⟨x,hx,rfl⟩:=hc
  obtain ⟨I,n,h0,hr⟩:=hw
  refine AW_loop (fun n T h => ∃ T1 h1,ALe n0 T h T1 h1∧I n T1 h1) n h0 ?_
  rintro n T h ⟨T1,h1,hle,hI⟩
  exact AW_le hle (iha x hx (hr n T1 h1 hI))
 | rangeFunc f ps x y iha ihb=>intro ac hc;cases hc
 | exit id=>intro ac hc Q T h hw;cases hc;exact AW_exit hw
 | scope a iha=>intro ac hc Q T h hw;exact AW_scope (iha ac hc hw)
 | label l=>intro ac hc;cases hc
 | goto l=>intro ac hc;cases hc
 | ret=>intro ac hc Q T h hw;cases hc;exact AW_ret hw
 | refuse w=>intro ac hc;cases hc
inductive AR where
 | tmp (t:Nat)
 | cell (t:Nat) (agg:Bool) (sz:Nat)
def aRes1 (T:List AV) (h:AH):AR→Option AV
 | .tmp t=>T[t]?
 | .cell t agg sz=>match T[t]? with
  | some p=>(cellsAt h p).bind (loadAV agg sz)
  | none=>none
def aRes (rs:List AR) (T:List AV) (h:AH):Option AV :=
 match rs.mapM (aRes1 T h) with
 | some [c]=>some c
 | some cs=>some (.tup cs)
 | none=>none
def compRes (P:Program):ResultVar→Option AR
 | .tmp t=>some (.tmp t)
 | .cell a t=>match P.underlying t,P.info? t with
  | some d,some i=>some (.cell a (isAggD d) i.size)
  | _,_=>none
def retA (rs:List AR) (R:AE→AH→Prop):AX→List AV→AH→Prop
 | .normal,T,h=>match aRes rs T h with
  | some c=>R (.ret c) h
  | none=>False
 | .ret,T,h=>match aRes rs T h with
  | some c=>R (.ret c) h
  | none=>False
 | .pan c,_,h=>R (.pan c) h
 | .exit _,_,_=>False
def rvS (tmps:Array Value) (r:ResultVar):Sem Value :=
 match r with
 | .tmp t=>pure (tmps.getD t undef)
 | .cell a t=>do loadVar t (←asAddr (tmps.getD a undef))
theorem results_rvS (fn:Func) (tmps:Array Value):results fn tmps=(do
  let vs ←fn.results.mapM (rvS tmps)
  pure (if h:vs.size=1 then vs[0] else .tuple vs)):=by
 unfold results
 congr 2
theorem run_results1 {r:ResultVar}{ar:AR}(hc:compRes P r=some ar) {T:List AV}{h:AH}{c:AV}(hv:aRes1 T h ar=some c) {w:World}{g:Gh}{a:List Value}(hs:SimH w g h) (ht:RepL w g T a) :
  ∃ v,(rvS a.toArray r).run P w = .ok v w∧Rep w g c v:=by
 cases r with
 | tmp t =>
  cases hc
  obtain ⟨u,h1,h2⟩:=ht.get (show T[t]?=some c from hv)
  refine ⟨u,?_,h2⟩
  have:a.toArray[t]?=some u:=by simpa using h1
  simp [rvS,this]
 | cell b t =>
  simp only [compRes] at hc
  split at hc <;> try (cases hc;done)
  rename_i d i hd hi
  cases hc
  simp only [aRes1] at hv
  split at hv <;> try (cases hv;done)
  rename_i p hp
  simp only [Option.bind_eq_some_iff] at hv
  obtain ⟨cs,h1,h2⟩:=hv
  obtain ⟨u,h3,h4⟩:=ht.get hp
  obtain ⟨bb,off,e,hrc⟩:=cellsAt_rep hs h4 h1
  obtain ⟨v,h5,h6⟩:=run_loadAV (P:=P) hrc h2 (run_isAgg hd w) (run_sizeOf hi w)
  refine ⟨v,?_,h6⟩
  have hu:a.toArray[b]?=some u:=by simpa using h3
  have:a.toArray.getD b undef = .pointer (some ⟨bb,off,none⟩):=by simp [hu,e]
  simp only [rvS,this]
  simpa [asAddr,Instr.loadAt,Instr.sureAddr] using h5
theorem run_resultsL {T:List AV}{h:AH}{w:World}{g:Gh}{a:List Value}(hs:SimH w g h) (ht:RepL w g T a) : ∀ (rl:List ResultVar) (rs:List AR) (cs:List AV),rl.mapM (compRes P)=some rs→rs.mapM (aRes1 T h)=some cs →
  ∃ vs,(rl.mapM (rvS a.toArray)).run P w = .ok vs w∧RepL w g cs vs
 | [],rs,cs,h1,h2=>by simp at h1;subst h1;simp at h2;subst h2;exact ⟨[],by simp,by simp only [RepL]⟩
 | r::rl,rs,cs,h1,h2=>by
  simp only [List.mapM_cons,Option.bind_eq_bind,Option.bind_eq_some_iff,Option.pure_def,Option.some.injEq] at h1
  obtain ⟨ar,k1,rs',k2,rfl⟩:=h1
  simp only [List.mapM_cons,Option.bind_eq_bind,Option.bind_eq_some_iff,Option.pure_def,Option.some.injEq] at h2
  obtain ⟨c,k3,cs',k4,rfl⟩:=h2
  obtain ⟨v,e1,e2⟩:=run_results1 k1 k3 hs ht
  obtain ⟨vs,e3,e4⟩:=run_resultsL hs ht rl rs' cs' k2 k4
  refine ⟨v::vs,?_,by simp only [RepL];exact ⟨v,vs,rfl,e2,e4⟩⟩
  simp only [List.mapM_cons,Sem.run_bind,e1,Result.andThen_ok,e3,Sem.run_pure]
theorem run_results {fn:Func}{rs:List AR}(hrs:fn.results.toList.mapM (compRes P)=some rs) {T:List AV}{h:AH}{c:AV}(hc:aRes rs T h=some c) {w:World}{g:Gh}{a:List Value}(hs:SimH w g h) (ht:RepL w g T a) :
  ∃ v,(results fn a.toArray).run P w = .ok v w∧Rep w g c v:=by
 unfold aRes at hc
 cases hm:rs.mapM (aRes1 T h) with
 | none=>simp [hm] at hc
 | some cs =>
  obtain ⟨vs,h1,h2⟩:=run_resultsL hs ht fn.results.toList rs cs hrs hm
  have hrun:(results fn a.toArray).run P w = .ok (if h:vs.toArray.size=1 then vs.toArray[0] else .tuple vs.toArray) w:=by
   rw [results_rvS]
   rw [Array.mapM_eq_mapM_toList]
   simp only [Sem.run_bind,Sem.run_map]
   rw [h1]
   simp
  have hl:=h2.length
  rw [hm] at hc
  match cs,hc with
  | [c'],hc =>
   cases hc
   simp only [RepL] at h2
   obtain ⟨u,us,rfl,h3,rfl⟩:=h2
   exact ⟨u,by rw [hrun];simp,h3⟩
  | [],hc =>
   cases hc
   have:vs=[]:=by simpa using hl
   subst this
   exact ⟨.tuple #[],by rw [hrun];simp,by simp only [Rep];exact ⟨#[],rfl,by simp only [RepL]⟩⟩
  | c1::c2::cs',hc =>
   cases hc
   have hne:¬vs.toArray.size=1:=by simp [hl]
   exact ⟨.tuple vs.toArray,by rw [hrun,dif_neg hne],by simp only [Rep];exact ⟨_,rfl,by simpa using h2⟩⟩
structure AF where
 code:AC
 res:List AR
 ntmps:Nat
def compF (P:Program) (f:FuncId):Option AF :=
 match P.funcs[f]? with
 | some fn=>if fn.name == "runtime.NumGoroutine" then none else match fn.body with
  | some c=>match comp P c,fn.results.toList.mapM (compRes P) with
   | some ac,some rs=>some ⟨ac,rs,fn.ntmps⟩
   | _,_=>none
  | none=>none
 | none=>none
theorem ACalls.of_aw {f:FuncId}{af:AF}(hc:compF P f=some af) {args:List AV}{h:AH}{R:AE→AH→Prop}(hw:aw P h.length af.code (retA af.res R) (args++List.replicate (af.ntmps-args.length) .any) h):ACalls P f args h R:=by
 unfold compF at hc
 split at hc <;> try (cases hc;done)
 rename_i fn hfn
 split at hc <;> try (cases hc;done)
 rename_i hname
 split at hc <;> try (cases hc;done)
 rename_i c hb
 split at hc <;> try (cases hc;done)
 rename_i ac rs hac hrs
 cases hc
 refine ACalls.of_AW hfn hb ?_ ((comp_sound c ac hac hw).mono ?_)
 ·simp only [enters,hfn,hb]
  simp only [Bool.not_eq_true] at hname
  simp [bne,hname]
 ·intro x T' h' hq
  cases x <;> simp only [retA,RetQ] at hq ⊢
  ·split at hq <;> try (exact hq.elim)
   rename_i r hr
   exact ⟨r,fun w g a hs ht=>run_results hrs hr hs ht,hq⟩
  ·split at hq <;> try (exact hq.elim)
   rename_i r hr
   exact ⟨r,fun w g a hs ht=>run_results hrs hr hs ht,hq⟩
  ·exact hq
end
end Go.Ab
end
section
namespace Go.Ab
section
variable {P : Program} {n0 : Nat}
mutual
theorem lt_mono {n m:Nat}(hnm:n≤m) : ∀ (c:AV),c.lt n=true→c.lt m=true
 | .v _,_=>rfl
 | .any,_=>rfl
 | .sl _ _ _ cs,h=>by simp only [AV.lt] at h ⊢;exact ltL_mono hnm cs h
 | .own id _ _,h=>by simp only [AV.lt,decide_eq_true_eq] at h ⊢;omega
 | .ptr id _ _,h=>by simp only [AV.lt,decide_eq_true_eq] at h ⊢;omega
 | .rp cs,h=>by simp only [AV.lt] at h ⊢;exact ltL_mono hnm cs h
 | .agg cs,h=>by simp only [AV.lt] at h ⊢;exact ltL_mono hnm cs h
 | .tup cs,h=>by simp only [AV.lt] at h ⊢;exact ltL_mono hnm cs h
 | .clo _ cs,h=>by simp only [AV.lt] at h ⊢;exact ltL_mono hnm cs h
theorem ltL_mono {n m:Nat}(hnm:n≤m) : ∀ (cs:List AV),AV.ltL n cs=true→AV.ltL m cs=true
 | [],_=>rfl
 | c::cs,h=>by simp only [AV.ltL,Bool.and_eq_true] at h ⊢;exact ⟨lt_mono hnm c h.1,ltL_mono hnm cs h.2⟩
end
theorem Ent.lt_mono {n m:Nat}(hnm:n≤m) {e:Ent}(h:e.lt n=true):e.lt m=true:=by
 cases e <;> simp only [Ent.lt] at h ⊢
 exact ltL_mono hnm _ h
def Sub:List AV→List AV→Prop
 | [],[]=>True
 | c::cs,d::ds=>(d=c∨d = .any)∧Sub cs ds
 | _,_=>False
theorem Sub.refl : ∀ T,Sub T T
 | []=>trivial
 | c::cs=>⟨.inl rfl,Sub.refl cs⟩
theorem RepL.sub {w:World}{g:Gh} : ∀ {T T1:List AV}{vs:List Value},Sub T T1→RepL w g T vs→RepL w g T1 vs
 | [],[],vs,_,h=>h
 | c::cs,d::ds,vs,hs,h=>by
  simp only [RepL] at h ⊢
  obtain ⟨u,us,e,h1,h2⟩:=h
  refine ⟨u,us,e,?_,RepL.sub hs.2 h2⟩
  rcases hs.1 with rfl | rfl
  ·exact h1
  ·simp only [Rep]
 | [],_::_,_,hs,_=>hs.elim
 | _::_,[],_,hs,_=>hs.elim
theorem ALe.sub {T T1:List AV}{h:AH}(hs:Sub T T1):ALe n0 T h T1 h:=fun w0 S0 g0 a w g st=>⟨g,st.tmps.sub hs,st.defers,st.sim,st.fr,st.le,st.bd,st.ow⟩
theorem ALe.refl {T:List AV}{h:AH}:ALe n0 T h T h:=fun w0 S0 g0 a w g st=>⟨g,st⟩
theorem ALe.trans {T T1 T2:List AV}{h h1 h2:AH}(a:ALe n0 T h T1 h1) (b:ALe n0 T1 h1 T2 h2):ALe n0 T h T2 h2:=fun w0 S0 g0 x w g st=>by
 obtain ⟨g1,s1⟩:=a w0 S0 g0 x w g st
 exact b w0 S0 g0 x w g1 s1
theorem ALe.cut {T:List AV}{h x:AH}(hn:n0≤h.length) (hT:AV.ltL h.length T=true) (hh : ∀ e∈h,e.lt h.length=true):ALe n0 T (h++x) T h:=fun w0 S0 g0 a w g st =>
 ⟨g.cut h.length,RepL.cut _ _ hT st.tmps,st.defers,st.sim.cut hh,st.fr,st.le.cut (fun i v l hl=>Nat.lt_of_lt_of_le (st.bd i v l hl) hn),st.bd,fun k hk=>st.ow k hk.of_cut⟩
theorem ALe.ice {T:List AV}{h:AH}{id ver ty s d n:Nat}{cells:List AV}(hi:h[id]?=some (.mk ver ty s cells)) (hd:T[d]?=some (.own id ver n)) (hl:n*s≤cells.length) :
  ALe n0 T h (T.set d (.sl n s false (cells.take (n*s)))) (h.set id .gone):=fun w0 S0 g0 a w g st=>by
 obtain ⟨h1,h2,h3⟩:=st.sim.ice hi
 have htm:=RepL.mono (g.le_ice h id) (fun _ _=>rfl) _ _ st.tmps
 obtain ⟨u,hu,hr⟩:=st.tmps.get hd
 have hset:=htm.set (k:=d) (h3 n u hl hr)
 have hself:a.tmps.toList.set d u=a.tmps.toList:=by
  apply List.ext_getElem?
  intro j
  by_cases hj:j=d
  ·subst hj
   have:j<a.tmps.toList.length:=(List.getElem?_eq_some_iff.1 hu).1
   rw [List.getElem?_set_self this,hu]
  ·rw [List.getElem?_set_ne (Ne.symm hj)]
 rw [hself] at hset
 exact ⟨g.ice h id,hset,st.defers,h1,st.fr,st.le.trans (g.le_ice h id),st.bd,fun k hk=>st.ow k (h2 k hk)⟩
theorem SimH.tell {w:World}{g:Gh}{h:AH}(hs:SimH w g h) {id ver ty s k:Nat}{cells:List AV}{c c':AV}(hi:h[id]?=some (.mk ver ty s cells)) (hk:cells[k]?=some c) (hc : ∀ u,Rep w g c u→Rep w g c' u) :
  SimH w g (h.set id (.mk ver ty s (cells.set k c'))) ∧ ∀ j,Ow g (h.set id (.mk ver ty s (cells.set k c'))) j→Ow g h j:=by
 have hid:id<h.length:=(List.getElem?_eq_some_iff.1 hi).1
 have hget : ∀ {i v t s':Nat} {cs:List AV},(h.set id (.mk ver ty s (cells.set k c')))[i]?=some (.mk v t s' cs) → ∃ cs',h[i]?=some (.mk v t s' cs')∧(i≠id→cs'=cs)∧(i=id→cs'=cells∧cs=cells.set k c'):=by
  intro i v t s' cs he
  by_cases hii:i=id
  ·subst hii
   rw [List.getElem?_set_self hid] at he
   cases he
   exact ⟨cells,hi,fun h=>absurd rfl h,fun _=>⟨rfl,rfl⟩⟩
  ·rw [List.getElem?_set_ne (Ne.symm hii)] at he
   exact ⟨cs,he,fun _=>rfl,fun h=>absurd h hii⟩
 have how : ∀ i j,OwAt g (h.set id (.mk ver ty s (cells.set k c'))) i j→OwAt g h i j:=by
  rintro i j ⟨v,t,s',cs,b,cap,e1,e2,e3,e4⟩
  obtain ⟨cs',f1,_⟩:=hget e1
  exact ⟨v,t,s',cs',b,cap,f1,e2,e3,e4⟩
 refine ⟨⟨?_,fun i j k' h1 h2=>hs.inj i j k' (how i k' h1) (how j k' h2),hs.lt,?_,?_,⟨hs.glob.w,hs.glob.d⟩⟩,fun j ⟨i,hj⟩=>⟨i,how i j hj⟩⟩
 ·intro i v t s' cs he
  obtain ⟨cs',f1,f2,f3⟩:=hget he
  obtain ⟨A,cap,e1,e2,e3⟩:=hs.ent _ _ _ _ _ f1
  refine ⟨A,cap,e1,e2,?_⟩
  by_cases hii:i=id
  ·obtain ⟨rfl,rfl⟩:=f3 hii
   rcases e3 with ⟨h0,h1⟩ | ⟨b,arr,rfl,x1,x2,x3,x4,x5,x6⟩
   ·rw [h0] at hk;simp at hk
   ·refine .inr ⟨b,arr,rfl,x1,x2,x3,x4,by simpa using x5,?_⟩
    obtain ⟨u,hu,hr⟩:=x6.get hk
    have:=x6.set (k:=k) (hc u hr)
    have hself:(arr.toList.take cs'.length).set k u=arr.toList.take cs'.length:=by
     apply List.ext_getElem?
     intro j
     by_cases hj:j=k
     ·subst hj
      have:j<(arr.toList.take cs'.length).length:=(List.getElem?_eq_some_iff.1 hu).1
      rw [List.getElem?_set_self this,hu]
     ·rw [List.getElem?_set_ne (Ne.symm hj)]
    rw [hself] at this
    simpa using this
  ·rw [←f2 hii];exact e3
 ·intro i v l hl
  have:=hs.fresh i v l hl
  refine ⟨by simpa using this.1,fun v' t s' cs he=>?_⟩
  obtain ⟨cs',f1,_⟩:=hget he
  exact this.2 _ _ _ _ f1
 ·intro i v l hl he
  by_cases hii:i=id
  ·subst hii;rw [List.getElem?_set_self hid] at he;cases he
  ·rw [List.getElem?_set_ne (Ne.symm hii)] at he;exact hs.free _ _ _ hl he
theorem ALe.iceCell {T:List AV}{h:AH}{id ver ty s n j v' t' s' k:Nat}{cells cs:List AV}(hi:h[id]?=some (.mk ver ty s cells)) (hj:h[j]?=some (.mk v' t' s' cs)) (hne:j≠id) (hk:cs[k]?=some (.own id ver n)) (hl:n*s≤cells.length) :
  ALe n0 T h T ((h.set id .gone).set j (.mk v' t' s' (cs.set k (.sl n s false (cells.take (n*s)))))):=fun w0 S0 g0 a w g st=>by
 obtain ⟨h1,h2,h3⟩:=st.sim.ice hi
 have htm:=RepL.mono (g.le_ice h id) (fun _ _=>rfl) _ _ st.tmps
 obtain ⟨k1,k2⟩:=h1.tell (id:=j) (by rw [List.getElem?_set_ne (Ne.symm hne)];exact hj) hk (fun u hu=>h3 n u hl (by
  simp only [Rep] at hu ⊢
  exact hu))
 exact ⟨g.ice h id,htm,st.defers,k1,st.fr,st.le.trans (g.le_ice h id),st.bd,fun i hi=>st.ow i (h2 i (k2 i hi))⟩
theorem enters_of_compF {f:FuncId}{af:AF}(hc:compF P f=some af):enters P f=true:=by
 unfold compF at hc
 split at hc <;> try (cases hc;done)
 rename_i fn hfn
 split at hc <;> try (cases hc;done)
 rename_i hname
 split at hc <;> try (cases hc;done)
 rename_i c hb
 simp only [enters,hfn,hb]
 simp only [Bool.not_eq_true] at hname
 simp [bne,hname]
theorem ACalls.enter {f:FuncId}{af:AF}(hc:compF P f=some af) {args:List AV}{h:AH}{R:AE→Prop}
  (hw : ∀ n,h.length=n→(∀ e∈h,e.lt n=true)→AV.ltL n args=true→aw P n af.code (retA af.res fun x h' => ∃ z,h'=h++z∧x.lt n=true∧R x) (args++List.replicate (af.ntmps-args.length) .any) (h++[])):ACalls P f args h fun x h'=>h'=h∧R x :=
 ⟨enters_of_compF hc,fun w g vs hs ha=>(ACalls.gc_same (ACalls.of_aw hc (by
  have:=hw h.length rfl hs.ltE (RepL.lt (fun i v l hl=>(hs.fresh i v l hl).1) _ _ ha)
  rwa [List.append_nil] at this))).2 w g vs hs ha⟩
theorem ACalls.enterG {f:FuncId}{af:AF}(hc:compF P f=some af) {args:List AV}{h:AH}{R:AE→AH→Prop}
  (hw : ∀ n,h.length=n→(∀ e∈h,e.lt n=true)→AV.ltL n args=true→aw P n af.code (retA af.res fun x h' => ∃ y z,h'=y++z∧y.length=n∧(∀ e∈y,e.lt n=true)∧x.lt n=true∧R x y) (args++List.replicate (af.ntmps-args.length) .any) (h++[])):ACalls P f args h R :=
 ⟨enters_of_compF hc,fun w g vs hs ha=>(ACalls.gc (ACalls.of_aw hc (by
  have:=hw h.length rfl hs.ltE (RepL.lt (fun i v l hl=>(hs.fresh i v l hl).1) _ _ ha)
  rwa [List.append_nil] at this))).2 w g vs hs ha⟩
def LoopTo (n0:Nat) {ι:Type}(S:ι→List AV×AH) (I:ι→Prop) (m:ι→Nat) (i:ι) (T:List AV) (h:AH):Prop :=
 ∃ k,k<m i ∧ ∃ T1 h1,ALe n0 T h T1 h1 ∧ ∃ j,m j=k∧I j∧T1=(S j).1∧h1=(S j).2
theorem LoopTo.mk {ι:Type}{S:ι→List AV×AH}{I:ι→Prop}{m:ι→Nat}{i:ι}{T:List AV}{h:AH}(j:ι) (hm:m j<m i) (hI:I j) (hl:ALe n0 T h (S j).1 (S j).2):LoopTo n0 S I m i T h :=
 ⟨m j,hm,_,_,hl,j,rfl,hI,rfl,rfl⟩
theorem aw_loop {a:AC}{Q:AX→List AV→AH→Prop}{T:List AV}{h:AH}{ι:Type}(S:ι→List AV×AH) (I:ι→Prop) (m:ι→Nat) (i0:ι) (hI:I i0) (h0:ALe n0 T h (S i0).1 (S i0).2)
  (round : ∀ i,I i→aw P n0 a (AX.thn (LoopTo n0 S I m i) Q) (S i).1 (S i).2):aw P n0 (.loop a) Q T h:=by
 refine ⟨fun n T h => ∃ i,m i=n∧I i∧T=(S i).1∧h=(S i).2,m i0,⟨_,_,h0,i0,rfl,hI,rfl,rfl⟩,?_⟩
 rintro n T h ⟨i,rfl,hi,rfl,rfl⟩
 exact round i hi
end
section
variable {P : Program} {n0 : Nat}
abbrev iv (n:Int):AV:=.v (.int .i64 n)
abbrev bv (b:Bool):AV:=.v (.bool b)
abbrev sv (s:ByteArray):AV:=.v (.string s)
section run
variable {Kp : AV → List AV → AH → Prop} {K : List AV → AH → Prop} {rest : List AOper} {T T' : List AV} {h h' h0 ents ents' : AH} {rs : List Nat} {d : Option Nat} {op : AOp} {c : AV}
def noD (o:AOper):Bool:=noCall o&&!isL o.op
theorem s_val (hn:noCall ⟨d,none,op⟩=true) (hv:aval h (aEval T) op=some c) (hp:aPut T d c=T') (hk:arun P Kp rest T' h K):arun P Kp (⟨d,none,op⟩::rest) T h K:=by
  subst hp
  refine ⟨fun _=>?_,fun h=>by cases h⟩
  have : (match aval h (aEval T) op with
      | some c=>arun P Kp rest (aPut T d c) h K
      | none=>match aeff h (aEval T) op with
        | some (c,h')=>arun P Kp rest (aPut T d c) h' K
        | none=>False):=by rw [hv];exact hk
  cases op <;> first | exact this | (simp [noCall] at hn;done)
theorem s_eff (hn:noCall ⟨d,none,op⟩=true) (hv:aval h (aEval T) op=none) (he:aeff h (aEval T) op=some (c,h')) (hp:aPut T d c=T') (hk:arun P Kp rest T' h' K):arun P Kp (⟨d,none,op⟩::rest) T h K:=by
  subst hp
  refine ⟨fun _=>?_,fun h=>by cases h⟩
  have : (match aval h (aEval T) op with
      | some c=>arun P Kp rest (aPut T d c) h K
      | none=>match aeff h (aEval T) op with
        | some (c,h')=>arun P Kp rest (aPut T d c) h' K
        | none=>False):=by rw [hv,he];exact hk
  cases op <;> first | exact this | (simp [noCall] at hn;done)
theorem d_val (hn:noD ⟨d,none,op⟩=true) (hv:aval h0 (aEval T) op=some c) (hp:aPut T d c=T') (hk:adrun P rs h0 rest T' ents K):adrun P rs h0 (⟨d,none,op⟩::rest) T ents K:=by
  subst hp
  refine ⟨fun _=>?_,fun h=>by cases h⟩
  have : (match aval h0 (aEval T) op with
      | some c=>adrun P rs h0 rest (aPut T d c) ents K
      | none => ∃ c ent,(aallo (h0.length+ents.length) (aEval T) op=some (c,ent)∨aalloI (h0.length+ents.length) (aEval T) op=some (c,ent))∧adrun P rs h0 rest (aPut T d c) (ents++[ent]) K):=by rw [hv];exact hk
  cases op <;> first | exact this | (simp [noD,noCall,isL] at hn;done)
theorem d_eff {ent:Ent}{id:Nat}(hn:noD ⟨d,none,op⟩=true) (hv:aval h0 (aEval T) op=none) (hl:h0.length+ents.length=id) (he:aallo id (aEval T) op=some (c,ent)) (hp:aPut T d c=T') (hx:ents++[ent]=ents') (hk:adrun P rs h0 rest T' ents' K):adrun P rs h0 (⟨d,none,op⟩::rest) T ents K:=by
  subst hp hx hl
  refine ⟨fun _=>?_,fun h=>by cases h⟩
  have : (match aval h0 (aEval T) op with
      | some c=>adrun P rs h0 rest (aPut T d c) ents K
      | none => ∃ c ent,(aallo (h0.length+ents.length) (aEval T) op=some (c,ent)∨aalloI (h0.length+ents.length) (aEval T) op=some (c,ent))∧adrun P rs h0 rest (aPut T d c) (ents++[ent]) K):=by rw [hv];exact ⟨c,ent,.inl he,hk⟩
  cases op <;> first | exact this | (simp [noD,noCall,isL] at hn;done)
theorem d_ldP {agg:Bool}{sz id v off ty s:Nat}{cells:List AV}{x:Operand}(hx:aEval T x = .ptr id v off) (he:h0[id]?=some (.mk v ty s cells)) (hc:loadAV agg sz (cells.drop off)=some c) (hm:id∈rs) (hp:aPut T d c=T') (hk:adrun P rs h0 rest T' ents K):adrun P rs h0 (⟨d,none,.loadR agg sz x⟩::rest) T ents K:=by
 subst hp
 refine ⟨fun _=>?_,fun h=>by cases h⟩
 simp only [adstep,hx]
 exact ⟨ty,s,cells,c,he,hc,hm,hk⟩
theorem k_nil {q:List Bool}(hk:K T h):arunK P rs q [] T h K:=by cases q <;> exact hk
theorem k_val {m:Bool}{q:List Bool}(hn:noCall ⟨d,none,op⟩=true) (hv:aval h (aEval T) op=some c) (hp:aPut T d c=T') (hk:arunK P rs q rest T' h K):arunK P rs (m::q) (⟨d,none,op⟩::rest) T h K:=by
  subst hp
  refine ⟨fun _=>?_,fun h=>by cases h⟩
  have : (match aval h (aEval T) op with
      | some c=>arunK P rs q rest (aPut T d c) h K
      | none=>match aeff h (aEval T) op with
        | some (c,h')=>(∀ id∈(bif m then rs else []),h'[id]?=h[id]?)∧arunK P rs q rest (aPut T d c) h' K
        | none=>False):=by rw [hv];exact hk
  cases op <;> first | exact this | (simp [noCall] at hn;done)
theorem k_eff {m:Bool}{q:List Bool}(hn:noCall ⟨d,none,op⟩=true) (hv:aval h (aEval T) op=none) (he:aeff h (aEval T) op=some (c,h')) (hr : ∀ id∈(bif m then rs else []),h'[id]?=h[id]?) (hp:aPut T d c=T') (hk:arunK P rs q rest T' h' K):arunK P rs (m::q) (⟨d,none,op⟩::rest) T h K:=by
  subst hp
  refine ⟨fun _=>?_,fun h=>by cases h⟩
  have : (match aval h (aEval T) op with
      | some c=>arunK P rs q rest (aPut T d c) h K
      | none=>match aeff h (aEval T) op with
        | some (c,h')=>(∀ id∈(bif m then rs else []),h'[id]?=h[id]?)∧arunK P rs q rest (aPut T d c) h' K
        | none=>False):=by rw [hv,he];exact ⟨hr,hk⟩
  cases op <;> first | exact this | (simp [noCall] at hn;done)
theorem k_call {m:Bool}{q:List Bool}{f:FuncId}{xs:List Operand}{ats:List AV}(hx:xs.map (aEval T)=ats) (hc:ACalls P f ats h fun r h2=>r = .ret c∧h2=h') (hr : ∀ id∈(bif m then rs else []),h'[id]?=h[id]?) (hp:aPut T d c=T') (hk:arunK P rs q rest T' h' K):arunK P rs (m::q) (⟨d,none,.call (.func f) xs⟩::rest) T h K:=by
 subst hp hx
 refine ⟨fun _=>?_,fun h=>by cases h⟩
 exact ⟨c,h',⟨rfl,rfl,hc.mono fun r h2 hr=>⟨hr.2,hr.1⟩⟩,hr,hk⟩
theorem agd_mono {g:Option (Nat×Bool)}{T:List AV}{f f':Bool→Prop}(hf : ∀ b,f b→f' b) (h:agd g T f):agd g T f':=by
 unfold agd at *
 split
 ·exact hf _ h
 ·split <;> rename_i hx <;> simp only [hx] at h <;> first | exact hf _ h | exact h
theorem k_of_s : ∀ {al:List AOper}{q:List Bool}{T:List AV}{h:AH},al.all noCall=true→arun P Kp al T h K→arunK P [] q al T h K
 | [],q,_,_,_,hr=>k_nil hr
 | ⟨d,g,op⟩::al,q,T,h,hn,hr=>by
  simp only [List.all_cons,Bool.and_eq_true] at hn
  simp only [arun] at hr
  simp only [arunK]
  refine agd_mono (fun b hb=>⟨fun e=>?_,fun e=>k_of_s hn.2 (hb.2 e)⟩) hr
  have h1:=hb.1 e
  have:(match aval h (aEval T) op with
   | some c=>arunK P [] q.tail al (aPut T d c) h K
   | none=>match aeff h (aEval T) op with
    | some (c,h')=>(∀ id∈(bif q.headD true then ([]:List Nat) else []),h'[id]?=h[id]?)∧arunK P [] q.tail al (aPut T d c) h' K
    | none=>False):=by
   have h2:(match aval h (aEval T) op with
    | some c=>arun P Kp al (aPut T d c) h K
    | none=>match aeff h (aEval T) op with
     | some (c,h')=>arun P Kp al (aPut T d c) h' K
     | none=>False):=by
    cases op <;> first | exact h1 | (simp [noCall] at hn;done)
   cases hv:aval h (aEval T) op with
   | some c=>rw [hv] at h2;exact k_of_s hn.2 h2
   | none =>
    rw [hv] at h2
    cases hv2:aeff h (aEval T) op with
    | some p=>rw [hv2] at h2;exact ⟨fun _ hm=>(by cases hq:q.headD true <;> rw [hq] at hm <;> cases hm),k_of_s hn.2 h2⟩
    | none=>rw [hv2] at h2;exact h2
  cases op <;> first | exact this | (simp [noCall] at hn;done)
theorem s_do {t:Nat}{b:Bool}(ht:T[t]?=some (.v (.bool b))) (hk:arun P Kp (⟨d,none,op⟩::rest) T h K):arun P Kp (⟨d,some (t,b),op⟩::rest) T h K:=by
 have h1:=hk.1 rfl
 simp only [arun,agd,ht]
 cases b <;> exact ⟨fun _=>h1,fun h=>(by cases h)⟩
theorem s_no {t:Nat}{b:Bool}(ht:T[t]?=some (.v (.bool (!b)))) (hp:aPut T d (.v undef)=T') (hk:arun P Kp rest T' h K):arun P Kp (⟨d,some (t,b),op⟩::rest) T h K:=by
 subst hp
 simp only [arun,agd,ht]
 cases b <;> exact ⟨fun h=>(by cases h),fun _=>hk⟩
theorem s_nu {t:Nat}{b:Bool}{vs:Array Value}(ht:T[t]?=some (.v (.tuple vs))) (hp:aPut T d (.v undef)=T') (hk:arun P Kp rest T' h K):arun P Kp (⟨d,some (t,b),op⟩::rest) T h K:=by
 subst hp
 simp only [arun,agd,ht]
 exact ⟨fun h=>(by cases h),fun _=>hk⟩
theorem d_do {t:Nat}{b:Bool}(ht:T[t]?=some (.v (.bool b))) (hk:adrun P rs h0 (⟨d,none,op⟩::rest) T ents K):adrun P rs h0 (⟨d,some (t,b),op⟩::rest) T ents K:=by
 have h1:=hk.1 rfl
 simp only [adrun,agd,ht]
 cases b <;> exact ⟨fun _=>h1,fun h=>(by cases h)⟩
theorem d_no {t:Nat}{b:Bool}(ht:T[t]?=some (.v (.bool (!b)))) (hp:aPut T d (.v undef)=T') (hk:adrun P rs h0 rest T' ents K):adrun P rs h0 (⟨d,some (t,b),op⟩::rest) T ents K:=by
 subst hp
 simp only [adrun,agd,ht]
 cases b <;> exact ⟨fun h=>(by cases h),fun _=>hk⟩
theorem d_nu {t:Nat}{b:Bool}{vs:Array Value}(ht:T[t]?=some (.v (.tuple vs))) (hp:aPut T d (.v undef)=T') (hk:adrun P rs h0 rest T' ents K):adrun P rs h0 (⟨d,some (t,b),op⟩::rest) T ents K:=by
 subst hp
 simp only [adrun,agd,ht]
 exact ⟨fun h=>(by cases h),fun _=>hk⟩
theorem s_call {f:FuncId}{xs:List Operand}{ats:List AV}{R:AE→AH→Prop}(hx:xs.map (aEval T)=ats) (hc:ACalls P f ats h R) (hk : ∀ r h',R r h'→match r with
  | .ret c=>arun P Kp rest (aPut T d c) h' K
  | .pan c=>Kp c T h'):arun P Kp (⟨d,none,.call (.func f) xs⟩::rest) T h K:=by
 subst hx
 refine ⟨fun _=>?_,fun h=>by cases h⟩
 exact ⟨rfl,rfl,hc.mono fun r h' hr=>hk r h' hr⟩
theorem s_callp {f:FuncId}{xs:List Operand}{ats:List AV}(hx:xs.map (aEval T)=ats) (hc:ACalls P f ats h fun r h'=>h'=h∧r = .ret c) (hp:aPut T d c=T') (hk:arun P Kp rest T' h K):arun P Kp (⟨d,none,.call (.func f) xs⟩::rest) T h K:=by
 subst hp
 refine s_call hx hc ?_
 rintro r h' ⟨rfl,rfl⟩
 exact hk
theorem d_callp {f:FuncId}{xs:List Operand}{ats:List AV}(hx:xs.map (aEval T)=ats) (hc : ∀ h,HExt h0 h→ACalls P f ats h fun r h'=>h'=h∧r = .ret c) (hp:aPut T d c=T') (hk:adrun P rs h0 rest T' ents K):adrun P rs h0 (⟨d,none,.call (.func f) xs⟩::rest) T ents K:=by
 subst hp hx
 refine ⟨fun _=>⟨c,fun h hh=>⟨rfl,rfl,hc h hh⟩,hk⟩,fun h=>by cases h⟩
theorem s_panic {x:Operand}{t:Nat}{v:Value}(hx:aEval T x = .v (.iface t v)) (hk:Kp (.v (.iface t v)) T h):arun P Kp (⟨d,none,.panic x⟩::rest) T h K:=by
 refine ⟨fun _=>?_,fun h=>by cases h⟩
 simp only [astep,hx]
 exact hk
end run
section vals
variable {h : AH} {T : List AV} {x y i : Operand} {c : AV}
theorem v_mv (hx:aEval T x=c):aval h (aEval T) (.mv x)=some c:=by simp only [aval,hx]
theorem v_pickT {a b k:Operand}(hk:aEval T k=bv true) (ha:aEval T a=c):aval h (aEval T) (.pick k a b)=some c:=by simp only [aval,hk,cond_true,ha]
theorem v_pickF {a b k:Operand}(hk:aEval T k=bv false) (hb:aEval T b=c):aval h (aEval T) (.pick k a b)=some c:=by simp only [aval,hk,cond_false,hb]
theorem v_loadp {sz id v o ty s:Nat}{cells:List AV}(hx:aEval T x = .ptr id v o) (he:h[id]?=some (.mk v ty s cells)) (hc:cells[o]?=some c):aval h (aEval T) (.load false sz x)=some c:=by
 simp only [aval,hx,cellsAt,he,if_true,Option.bind_some]
 have:cells.drop o=c::cells.drop (o+1):=by
  obtain ⟨hlt,rfl⟩:=List.getElem?_eq_some_iff.1 hc
  exact List.drop_eq_getElem_cons hlt
 rw [this];rfl
theorem v_loadpA {sz id v o ty s:Nat}{cells cs:List AV}(hx:aEval T x = .ptr id v o) (he:h[id]?=some (.mk v ty s cells)) (hc:(cells.drop o).take sz=cs) (hl:cs.length=sz):aval h (aEval T) (.load true sz x)=some (.agg cs):=by
 simp only [aval,hx,cellsAt,he,if_true,Option.bind_some,loadAV]
 subst hc
 rw [List.length_take] at hl
 rw [if_pos (by omega)]
theorem v_loadr {sz:Nat}{cells:List AV}(hx:aEval T x = .rp cells) (hc:cells[0]?=some c):aval h (aEval T) (.load false sz x)=some c:=by
 simp only [aval,hx,cellsAt,Option.bind_some]
 cases cells with
 | nil=>simp at hc
 | cons a l=>simp at hc;subst hc;rfl
theorem v_loadrA {sz:Nat}{cells cs:List AV}(hx:aEval T x = .rp cells) (hc:cells.take sz=cs) (hl:cs.length=sz):aval h (aEval T) (.load true sz x)=some (.agg cs):=by
 simp only [aval,hx,cellsAt,Option.bind_some,loadAV]
 subst hc
 rw [List.length_take] at hl
 rw [if_pos (by omega)]
theorem v_nckp {id v o:Nat}(hx:aEval T x = .ptr id v o):aval h (aEval T) (.nck x)=some (.ptr id v o):=by simp only [aval,hx]
theorem v_fap {off id v o:Nat}(hx:aEval T x = .ptr id v o):aval h (aEval T) (.fa off x)=some (.ptr id v (o+off)):=by simp only [aval,hx]
theorem v_fap0 {off id v:Nat}(hx:aEval T x = .ptr id v 0):aval h (aEval T) (.fa off x)=some (.ptr id v off):=by simp only [aval,hx,Nat.zero_add]
theorem v_far {off:Nat}{cs ds:List AV}(hx:aEval T x = .rp cs) (hd:cs.drop off=ds):aval h (aEval T) (.fa off x)=some (.rp ds):=by simp only [aval,hx,hd]
theorem v_bin {op:BinOp}{a b:Value}(hx:aEval T x = .v a) (hy:aEval T y = .v b) (hv:vBin op a b=some c):aval h (aEval T) (.bin op x y)=some c:=by simp only [aval,hx,hy,hv]
theorem w64 {e:Int}(h1 : -9223372036854775808≤e) (h2:e≤9223372036854775807):IntKind.i64.wrap e=e:=by rw [IntKind.wrap_i64];omega
theorem v_add {a b:Int}(hx:aEval T x=iv a) (hy:aEval T y=iv b) (h1 : -9223372036854775808≤a+b) (h2:a+b≤9223372036854775807):aval h (aEval T) (.bin .add x y)=some (iv (a+b)):=v_bin hx hy (by simp only [vBin,if_true,iBin,w64 h1 h2])
theorem v_sub {a b:Int}(hx:aEval T x=iv a) (hy:aEval T y=iv b) (h1 : -9223372036854775808≤a-b) (h2:a-b≤9223372036854775807):aval h (aEval T) (.bin .sub x y)=some (iv (a-b)):=v_bin hx hy (by simp only [vBin,if_true,iBin,w64 h1 h2])
theorem v_mul {a b:Int}(hx:aEval T x=iv a) (hy:aEval T y=iv b) (h1 : -9223372036854775808≤a*b) (h2:a*b≤9223372036854775807):aval h (aEval T) (.bin .mul x y)=some (iv (a*b)):=v_bin hx hy (by simp only [vBin,if_true,iBin,w64 h1 h2])
theorem v_quo {a b:Int}(hx:aEval T x=iv a) (hy:aEval T y=iv b) (h0:0≤a) (hb:0<b) (h2:a≤9223372036854775807):aval h (aEval T) (.bin .quo x y)=some (iv (a/b)):=v_bin hx hy (by
 have e:a.tdiv b=a/b:=Int.tdiv_eq_ediv_of_nonneg h0
 have h3:a/b≤a:=Int.ediv_le_self _ h0
 have h4:0≤a/b:=Int.ediv_nonneg h0 (by omega)
 simp only [vBin,if_true,iBin,if_neg (show ¬b=0 by omega),e,w64 (show -9223372036854775808≤a/b by omega) (show a/b≤9223372036854775807 by omega)])
theorem v_rem {a b:Int}{k:IntKind}(hx:aEval T x = .v (.int k a)) (hy:aEval T y = .v (.int k b)) (h0:0≤a) (hb:b≠0):aval h (aEval T) (.bin .rem x y)=some (.v (.int k (a%b))):=v_bin hx hy (by
 have e:a.tmod b=a%b:=Int.tmod_eq_emod_of_nonneg h0
 simp only [vBin,if_true,iBin,if_neg hb,e])
theorem v_remw {a b:Int}{k:IntKind}(hx:aEval T x = .v (.int k a)) (hy:aEval T y = .v (.int k b)) (hb:b≠0):aval h (aEval T) (.bin .rem x y)=some (.v (.int k (a.tmod b))):=v_bin hx hy (by simp only [vBin,if_true,iBin,if_neg hb])
theorem v_lss {a b:Int}{k:IntKind}(hx:aEval T x = .v (.int k a)) (hy:aEval T y = .v (.int k b)):aval h (aEval T) (.bin .lss x y)=some (bv (decide (a<b))):=v_bin hx hy (by simp only [vBin,if_true,iBin])
theorem v_leq {a b:Int}{k:IntKind}(hx:aEval T x = .v (.int k a)) (hy:aEval T y = .v (.int k b)):aval h (aEval T) (.bin .leq x y)=some (bv (decide (a≤b))):=v_bin hx hy (by simp only [vBin,if_true,iBin])
theorem v_gtr {a b:Int}{k:IntKind}(hx:aEval T x = .v (.int k a)) (hy:aEval T y = .v (.int k b)):aval h (aEval T) (.bin .gtr x y)=some (bv (decide (b<a))):=v_bin hx hy (by simp only [vBin,if_true,iBin,gt_iff_lt])
theorem v_geq {a b:Int}{k:IntKind}(hx:aEval T x = .v (.int k a)) (hy:aEval T y = .v (.int k b)):aval h (aEval T) (.bin .geq x y)=some (bv (decide (b≤a))):=v_bin hx hy (by simp only [vBin,if_true,iBin,ge_iff_le])
theorem v_eql {a b:Int}{k:IntKind}(hx:aEval T x = .v (.int k a)) (hy:aEval T y = .v (.int k b)):aval h (aEval T) (.bin .eql x y)=some (bv (decide (a=b))):=v_bin hx hy (by simp only [vBin,if_true,iBin];rfl)
theorem v_neq {a b:Int}{k:IntKind}(hx:aEval T x = .v (.int k a)) (hy:aEval T y = .v (.int k b)):aval h (aEval T) (.bin .neq x y)=some (bv (decide (a≠b))):=v_bin hx hy (by
 simp only [vBin,if_true,iBin]
 by_cases hab:a=b <;> simp [hab])
theorem bytes_beq (a b:ByteArray):(a==b)=decide (a=b):=by
 rw [beq_toListBytes,ByteArray.toList_eq,ByteArray.toList_eq]
 by_cases h:a=b
 ·subst h;simp
 ·have:a.data≠b.data:=fun e=>h (ByteArray.ext e)
  simp [h,this]
theorem v_eqlS {a b:ByteArray}(hx:aEval T x=sv a) (hy:aEval T y=sv b):aval h (aEval T) (.bin .eql x y)=some (bv (decide (a=b))):=v_bin hx hy (by simp only [vBin,sBin,bytes_beq])
theorem v_neqS {a b:ByteArray}(hx:aEval T x=sv a) (hy:aEval T y=sv b):aval h (aEval T) (.bin .neq x y)=some (bv (decide (a≠b))):=v_bin hx hy (by
 simp only [vBin,sBin,bytes_beq]
 by_cases hab:a=b <;> simp [hab])
theorem v_addS {a b:ByteArray}(hx:aEval T x=sv a) (hy:aEval T y=sv b) (hl:a.size+b.size≤9223372036854775807):aval h (aEval T) (.bin .add x y)=some (sv (a++b)):=v_bin hx hy (by simp only [vBin,sBin,if_pos hl])
theorem v_eqb {neg a b:Bool}(hx:aEval T x=bv a) (hy:aEval T y=bv b):aval h (aEval T) (.eqb neg x y)=some (bv (bif neg then !(a==b) else a==b)):=by simp only [aval,hx,hy]
theorem v_eqs {neg b:Bool}{ks:List LK}{cs ds:List AV}(hx:aEval T x = .agg cs) (hy:aEval T y = .agg ds) (he:eqCells ks cs ds=some b):aval h (aEval T) (.eqs neg ks x y)=some (bv (bif neg then !b else b)):=by simp only [aval,hx,hy,he,Option.map_some]
theorem v_neg {a:Int}(hx:aEval T x=iv a) (h1 : -9223372036854775807≤a) (h2:a≤9223372036854775807):aval h (aEval T) (.un .neg x)=some (iv (-a)):=by simp only [aval,hx,Int.zero_sub,w64 (show -9223372036854775808 ≤ -a by omega) (show -a≤9223372036854775807 by omega)]
theorem v_not {p:Prop} [Decidable p] (hx:aEval T x=bv (decide p)):aval h (aEval T) (.un .not x)=some (bv (decide (¬p))):=by
 simp only [aval,hx]
 by_cases hp:p <;> simp [hp]
theorem v_cvi64 {a:Int}{k':IntKind}(hx:aEval T x = .v (.int k' a)) (h1 : -9223372036854775808≤a) (h2:a≤9223372036854775807):aval h (aEval T) (.cvi .i64 x)=some (iv a):=by simp only [aval,hx,w64 h1 h2]
theorem v_ix {s:ByteArray}{j:Int}{k:IntKind}(hx:aEval T x=sv s) (hi:aEval T i = .v (.int k j)) (h0:0≤j) (h1:j<s.size):aval h (aEval T) (.ix x i)=some (.v (.int .u8 (byteAt s j.toNat).toNat)):=by simp only [aval,hx,hi,if_pos (And.intro h0 h1)]
theorem v_ext {n:Nat}{l:List AV}(hx:aEval T x = .tup l) (hl:l[n]?=some c):aval h (aEval T) (.ext x n)=some c:=by simp only [aval,hx,hl]
theorem v_lenS {s:ByteArray}(hx:aEval T x=sv s):aval h (aEval T) (.len true x)=some (iv s.size):=by simp only [aval,hx]
theorem v_lenL {n st:Nat}{full:Bool}{cs:List AV}(hx:aEval T x = .sl n st full cs):aval h (aEval T) (.len false x)=some (iv n):=by simp only [aval,hx]
theorem v_lenO {id v n:Nat}(hx:aEval T x = .own id v n):aval h (aEval T) (.len false x)=some (iv n):=by simp only [aval,hx]
theorem v_ia {st n:Nat}{full:Bool}{cs ds:List AV}{j:Int}{k:IntKind}(hx:aEval T x = .sl n st full cs) (hi:aEval T i = .v (.int k j)) (hst:0<st) (h0:0≤j) (h1:j<n) (hd:(cs.drop (j.toNat*st)).take st=ds):aval h (aEval T) (.ia st x i)=some (.rp ds):=by
 simp [aval,hx,hi,hst,h0,h1,hd]
theorem v_iaO {st n id v ty:Nat}{cells:List AV}{j:Int}{k:IntKind}(hx:aEval T x = .own id v n) (hi:aEval T i = .v (.int k j)) (he:h[id]?=some (.mk v ty st cells)) (hst:0<st) (h0:0≤j) (h1:j<n) (hl:n*st≤cells.length):aval h (aEval T) (.ia st x i)=some (.ptr id v (j.toNat*st)):=by
 simp [aval,hx,hi,he,hst,h0,h1,hl]
theorem v_build {zero cs:List AV}{ps:List (Nat×Nat×Operand)}(hf:fillAV (aEval T) ps zero=some cs):aval h (aEval T) (.build zero ps)=some (.agg cs):=by simp only [aval,hf,Option.map_some]
theorem v_sls {s:ByteArray}{lo hi:Option Operand}{l u:Int}(hx:aEval T x=sv s) (hl:optInt (aEval T) 0 lo=some l) (hh:optInt (aEval T) s.size hi=some u) (h0:0≤l) (h1:l≤u) (h2:u≤s.size):aval h (aEval T) (.sls x lo hi)=some (sv (s.extract l.toNat u.toNat)):=by
 simp only [aval,hx,hl,hh,if_pos (And.intro h0 (And.intro h1 h2))]
theorem v_slc {n st:Nat}{full:Bool}{cs:List AV}{lo hi:Option Operand}{l u:Int}(hx:aEval T x = .sl n st full cs) (hl:optInt (aEval T) 0 lo=some l) (hh:optInt (aEval T) n hi=some u) (h0:0≤l) (h1:l≤u) (h2:u≤n) :
  aval h (aEval T) (.slc st x lo hi none)=some (.sl (u.toNat-l.toNat) st (full&&decide (u=n)) ((cs.drop (l.toNat*st)).take ((u.toNat-l.toNat)*st))):=by
 simp [aval,hx,hl,hh,h0,h1,h2]
theorem v_mkif {t:Nat}{a:Value}(hx:aEval T x = .v a):aval h (aEval T) (.mkif t x)=some (.v (.iface t a)):=by simp only [aval,hx]
end vals
section effs
variable {h h' : AH} {T : List AV} {x y : Operand} {c : AV}
theorem e_new {ty sz id:Nat}{z:List AV}(hl:h.length=id) (hh:h++[.mk 0 ty sz z]=h'):aeff h (aEval T) (.new ty sz z)=some (.ptr id 0 0,h'):=by subst hl hh;rfl
theorem e_box {ty sz id:Nat}{cs:List AV}(hc:cellsV (aEval T x)=some cs) (hs:cs.length=sz) (hl:h.length=id) (hh:h++[.mk 0 ty sz cs]=h'):aeff h (aEval T) (.box ty sz x)=some (.ptr id 0 0,h'):=by
 subst hl hh;simp only [aeff,hc,if_pos hs]
theorem e_lit {ty st len id:Nat}{zero cs:List AV}{ps:List (Nat×Nat×Operand)}(hf:fillAV (aEval T) ps zero=some cs) (hl:h.length=id) (hh:h++[.mk 0 ty st cs]=h'):aeff h (aEval T) (.lit ty st len zero ps)=some (.own id 0 len,h'):=by
 subst hl hh;simp only [aeff,hf]
theorem e_store {sz id v o ty s:Nat}{cells cs cells':List AV}(hp:aEval T x = .ptr id v o) (hc:cellsV (aEval T y)=some cs) (he:h[id]?=some (.mk v ty s cells)) (hs:cs.length=sz) (hle:o+sz≤cells.length) (hlf:cs.all leaf=true) (hst:setCells cells o cs=cells') (hh:h.set id (.mk v ty s cells')=h') :
  aeff h (aEval T) (.store sz x y)=some (.v undef,h'):=by
 subst hst hh;simp only [aeff,hp,hc,he];rw [if_pos ⟨trivial,hs,hle,hlf⟩]
theorem e_app {ty sz bytes id v n m:Nat}{cells news:List AV}(hx:srcCells h sz (aEval T y)=some (m,news)) (hs:aEval T x = .own id v n) (he:h[id]?=some (.mk v ty sz cells)) (hl:cells.length=n*sz) (hb:(n+m)*bytes≤140737488355328) (hlf:news.all leaf=true) (hh:h.set id (.mk (v+1) ty sz (cells++news))=h') :
  aeff h (aEval T) (.app ty sz bytes x y)=some (.own id (v+1) (n+m),h'):=by
 subst hh;simp only [aeff,hx,hs,he];rw [if_pos ⟨trivial,trivial,trivial,hl,hb,hlf⟩]
theorem l_lit {ty st len id:Nat}{zero cs:List AV}{ps:List (Nat×Nat×Operand)}(hf:fillAV (aEval T) ps zero=some cs):aallo id (aEval T) (.lit ty st len zero ps)=some (.own id 0 len,.mk 0 ty st cs):=by simp only [aallo,hf]
end effs
section code
variable {Q : AX → List AV → AH → Prop} {T : List AV} {h : AH} {a b : AC}
theorem w_reg {al:List AOper}(hr:arun P (fun c T h=>Q (.pan c) T h) al T h (fun T h=>Q .normal T h)):aw P n0 (.reg al) Q T h:=hr
theorem w_drw {bl tl:List AOper}{q:List Bool}{rs:List Nat}(hr:adrun P rs h bl T [] fun T ents=>arunK P rs q tl T (h++ents) (fun T h=>Q .normal T h)):aw P n0 (.drw bl q tl) Q T h:=⟨rs,hr⟩
theorem w_seq (hr:aw P n0 a (AX.thn (fun T h => ∃ T1 h1,ALe n0 T h T1 h1∧aw P n0 b Q T1 h1) Q) T h):aw P n0 (.seq a b) Q T h:=hr
theorem w_block {id:Nat}(hr:aw P n0 a (AX.blk id Q) T h):aw P n0 (.block id a) Q T h:=hr
theorem w_condT {c:Operand}(hc:aEval T c=bv true) (hy:aw P n0 a Q T h):aw P n0 (.cond c a b) Q T h:=by
 simp only [aw,hc]
 exact ⟨fun _=>hy,fun e=>(by cases e)⟩
theorem w_condF {c:Operand}(hc:aEval T c=bv false) (hn:aw P n0 b Q T h):aw P n0 (.cond c a b) Q T h:=by
 simp only [aw,hc]
 exact ⟨fun e=>(by cases e),fun _=>hn⟩
theorem w_ret {rs:List AR}{R:AE→AH→Prop}{c:AV}(hr:aRes rs T h=some c) (hR:R (.ret c) h):retA rs R .ret T h:=by simp only [retA,hr];exact hR
theorem w_end {rs:List AR}{R:AE→AH→Prop}{c:AV}(hr:aRes rs T h=some c) (hR:R (.ret c) h):retA rs R .normal T h:=by simp only [retA,hr];exact hR
end code
end
section
variable {g i j o p q r t u v w y z A B C D E F G H I J K L M N O P Q R S U V W X Y Z α β γ δ ε ζ η θ ι κ μ ν ξ π ρ σ τ υ φ χ ψ ω b60 b61 b62 b63 b64 b65 b66 b67 b68 b69 c d : AV} {l m : List AV}
theorem lk0:aEval (g::l) (.tmp 0)=g:=rfl
theorem pt0:aPut (g::l) (some 0) c=c::l:=rfl
theorem gt0:(g::l)[0]?=some g:=rfl
theorem lk1:aEval (g::i::l) (.tmp 1)=i:=rfl
theorem pt1:aPut (g::i::l) (some 1) c=g::c::l:=rfl
theorem gt1:(g::i::l)[1]?=some i:=rfl
theorem lk2:aEval (g::i::j::l) (.tmp 2)=j:=rfl
theorem pt2:aPut (g::i::j::l) (some 2) c=g::i::c::l:=rfl
theorem gt2:(g::i::j::l)[2]?=some j:=rfl
theorem lk3:aEval (g::i::j::o::l) (.tmp 3)=o:=rfl
theorem pt3:aPut (g::i::j::o::l) (some 3) c=g::i::j::c::l:=rfl
theorem gt3:(g::i::j::o::l)[3]?=some o:=rfl
theorem lk4:aEval (g::i::j::o::p::l) (.tmp 4)=p:=rfl
theorem pt4:aPut (g::i::j::o::p::l) (some 4) c=g::i::j::o::c::l:=rfl
theorem gt4:(g::i::j::o::p::l)[4]?=some p:=rfl
theorem lk5:aEval (g::i::j::o::p::q::l) (.tmp 5)=q:=rfl
theorem pt5:aPut (g::i::j::o::p::q::l) (some 5) c=g::i::j::o::p::c::l:=rfl
theorem gt5:(g::i::j::o::p::q::l)[5]?=some q:=rfl
theorem lk6:aEval (g::i::j::o::p::q::r::l) (.tmp 6)=r:=rfl
theorem pt6:aPut (g::i::j::o::p::q::r::l) (some 6) c=g::i::j::o::p::q::c::l:=rfl
theorem gt6:(g::i::j::o::p::q::r::l)[6]?=some r:=rfl
theorem lk7:aEval (g::i::j::o::p::q::r::t::l) (.tmp 7)=t:=rfl
theorem pt7:aPut (g::i::j::o::p::q::r::t::l) (some 7) c=g::i::j::o::p::q::r::c::l:=rfl
theorem gt7:(g::i::j::o::p::q::r::t::l)[7]?=some t:=rfl
theorem lk8:aEval (g::i::j::o::p::q::r::t::u::l) (.tmp 8)=u:=rfl
theorem pt8:aPut (g::i::j::o::p::q::r::t::u::l) (some 8) c=g::i::j::o::p::q::r::t::c::l:=rfl
theorem gt8:(g::i::j::o::p::q::r::t::u::l)[8]?=some u:=rfl
theorem lk9:aEval (g::i::j::o::p::q::r::t::u::v::l) (.tmp 9)=v:=rfl
theorem pt9:aPut (g::i::j::o::p::q::r::t::u::v::l) (some 9) c=g::i::j::o::p::q::r::t::u::c::l:=rfl
theorem gt9:(g::i::j::o::p::q::r::t::u::v::l)[9]?=some v:=rfl
theorem lk10:aEval (g::i::j::o::p::q::r::t::u::v::w::l) (.tmp 10)=w:=rfl
theorem pt10:aPut (g::i::j::o::p::q::r::t::u::v::w::l) (some 10) c=g::i::j::o::p::q::r::t::u::v::c::l:=rfl
theorem gt10:(g::i::j::o::p::q::r::t::u::v::w::l)[10]?=some w:=rfl
theorem lk11:aEval (g::i::j::o::p::q::r::t::u::v::w::y::l) (.tmp 11)=y:=rfl
theorem pt11:aPut (g::i::j::o::p::q::r::t::u::v::w::y::l) (some 11) c=g::i::j::o::p::q::r::t::u::v::w::c::l:=rfl
theorem gt11:(g::i::j::o::p::q::r::t::u::v::w::y::l)[11]?=some y:=rfl
theorem lk12:aEval (g::i::j::o::p::q::r::t::u::v::w::y::z::l) (.tmp 12)=z:=rfl
theorem pt12:aPut (g::i::j::o::p::q::r::t::u::v::w::y::z::l) (some 12) c=g::i::j::o::p::q::r::t::u::v::w::y::c::l:=rfl
theorem gt12:(g::i::j::o::p::q::r::t::u::v::w::y::z::l)[12]?=some z:=rfl
theorem lk13:aEval (g::i::j::o::p::q::r::t::u::v::w::y::z::A::l) (.tmp 13)=A:=rfl
theorem pt13:aPut (g::i::j::o::p::q::r::t::u::v::w::y::z::A::l) (some 13) c=g::i::j::o::p::q::r::t::u::v::w::y::z::c::l:=rfl
theorem gt13:(g::i::j::o::p::q::r::t::u::v::w::y::z::A::l)[13]?=some A:=rfl
theorem lk14:aEval (g::i::j::o::p::q::r::t::u::v::w::y::z::A::B::l) (.tmp 14)=B:=rfl
theorem pt14:aPut (g::i::j::o::p::q::r::t::u::v::w::y::z::A::B::l) (some 14) c=g::i::j::o::p::q::r::t::u::v::w::y::z::A::c::l:=rfl
theorem gt14:(g::i::j::o::p::q::r::t::u::v::w::y::z::A::B::l)[14]?=some B:=rfl
theorem lk15:aEval (g::i::j::o::p::q::r::t::u::v::w::y::z::A::B::C::l) (.tmp 15)=C:=rfl
theorem pt15:aPut (g::i::j::o::p::q::r::t::u::v::w::y::z::A::B::C::l) (some 15) c=g::i::j::o::p::q::r::t::u::v::w::y::z::A::B::c::l:=rfl
theorem gt15:(g::i::j::o::p::q::r::t::u::v::w::y::z::A::B::C::l)[15]?=some C:=rfl
theorem lk16:aEval (g::i::j::o::p::q::r::t::u::v::w::y::z::A::B::C::D::l) (.tmp 16)=D:=rfl
theorem pt16:aPut (g::i::j::o::p::q::r::t::u::v::w::y::z::A::B::C::D::l) (some 16) c=g::i::j::o::p::q::r::t::u::v::w::y::z::A::B::C::c::l:=rfl
theorem lk17:aEval (g::i::j::o::p::q::r::t::u::v::w::y::z::A::B::C::D::E::l) (.tmp 17)=E:=rfl
theorem pt17:aPut (g::i::j::o::p::q::r::t::u::v::w::y::z::A::B::C::D::E::l) (some 17) c=g::i::j::o::p::q::r::t::u::v::w::y::z::A::B::C::D::c::l:=rfl
theorem gt17:(g::i::j::o::p::q::r::t::u::v::w::y::z::A::B::C::D::E::l)[17]?=some E:=rfl
theorem lk18:aEval (g::i::j::o::p::q::r::t::u::v::w::y::z::A::B::C::D::E::F::l) (.tmp 18)=F:=rfl
theorem pt18:aPut (g::i::j::o::p::q::r::t::u::v::w::y::z::A::B::C::D::E::F::l) (some 18) c=g::i::j::o::p::q::r::t::u::v::w::y::z::A::B::C::D::E::c::l:=rfl
theorem gt18:(g::i::j::o::p::q::r::t::u::v::w::y::z::A::B::C::D::E::F::l)[18]?=some F:=rfl
theorem lk19:aEval (g::i::j::o::p::q::r::t::u::v::w::y::z::A::B::C::D::E::F::G::l) (.tmp 19)=G:=rfl
theorem pt19:aPut (g::i::j::o::p::q::r::t::u::v::w::y::z::A::B::C::D::E::F::G::l) (some 19) c=g::i::j::o::p::q::r::t::u::v::w::y::z::A::B::C::D::E::F::c::l:=rfl
theorem gt19:(g::i::j::o::p::q::r::t::u::v::w::y::z::A::B::C::D::E::F::G::l)[19]?=some G:=rfl
theorem lk20:aEval (g::i::j::o::p::q::r::t::u::v::w::y::z::A::B::C::D::E::F::G::H::l) (.tmp 20)=H:=rfl
theorem pt20:aPut (g::i::j::o::p::q::r::t::u::v::w::y::z::A::B::C::D::E::F::G::H::l) (some 20) c=g::i::j::o::p::q::r::t::u::v::w::y::z::A::B::C::D::E::F::G::c::l:=rfl
theorem gt20:(g::i::j::o::p::q::r::t::u::v::w::y::z::A::B::C::D::E::F::G::H::l)[20]?=some H:=rfl
theorem lk21:aEval (g::i::j::o::p::q::r::t::u::v::w::y::z::A::B::C::D::E::F::G::H::I::l) (.tmp 21)=I:=rfl
theorem pt21:aPut (g::i::j::o::p::q::r::t::u::v::w::y::z::A::B::C::D::E::F::G::H::I::l) (some 21) c=g::i::j::o::p::q::r::t::u::v::w::y::z::A::B::C::D::E::F::G::H::c::l:=rfl
theorem gt21:(g::i::j::o::p::q::r::t::u::v::w::y::z::A::B::C::D::E::F::G::H::I::l)[21]?=some I:=rfl
theorem lk22:aEval (g::i::j::o::p::q::r::t::u::v::w::y::z::A::B::C::D::E::F::G::H::I::J::l) (.tmp 22)=J:=rfl
theorem pt22:aPut (g::i::j::o::p::q::r::t::u::v::w::y::z::A::B::C::D::E::F::G::H::I::J::l) (some 22) c=g::i::j::o::p::q::r::t::u::v::w::y::z::A::B::C::D::E::F::G::H::I::c::l:=rfl
theorem gt22:(g::i::j::o::p::q::r::t::u::v::w::y::z::A::B::C::D::E::F::G::H::I::J::l)[22]?=some J:=rfl
theorem lk23:aEval (g::i::j::o::p::q::r::t::u::v::w::y::z::A::B::C::D::E::F::G::H::I::J::K::l) (.tmp 23)=K:=rfl
theorem pt23:aPut (g::i::j::o::p::q::r::t::u::v::w::y::z::A::B::C::D::E::F::G::H::I::J::K::l) (some 23) c=g::i::j::o::p::q::r::t::u::v::w::y::z::A::B::C::D::E::F::G::H::I::J::c::l:=rfl
theorem gt23:(g::i::j::o::p::q::r::t::u::v::w::y::z::A::B::C::D::E::F::G::H::I::J::K::l)[23]?=some K:=rfl
theorem lk24:aEval (g::i::j::o::p::q::r::t::u::v::w::y::z::A::B::C::D::E::F::G::H::I::J::K::L::l) (.tmp 24)=L:=rfl
theorem pt24:aPut (g::i::j::o::p::q::r::t::u::v::w::y::z::A::B::C::D::E::F::G::H::I::J::K::L::l) (some 24) c=g::i::j::o::p::q::r::t::u::v::w::y::z::A::B::C::D::E::F::G::H::I::J::K::c::l:=rfl
theorem gt24:(g::i::j::o::p::q::r::t::u::v::w::y::z::A::B::C::D::E::F::G::H::I::J::K::L::l)[24]?=some L:=rfl
theorem lk25:aEval (g::i::j::o::p::q::r::t::u::v::w::y::z::A::B::C::D::E::F::G::H::I::J::K::L::M::l) (.tmp 25)=M:=rfl
theorem pt25:aPut (g::i::j::o::p::q::r::t::u::v::w::y::z::A::B::C::D::E::F::G::H::I::J::K::L::M::l) (some 25) c=g::i::j::o::p::q::r::t::u::v::w::y::z::A::B::C::D::E::F::G::H::I::J::K::L::c::l:=rfl
theorem gt25:(g::i::j::o::p::q::r::t::u::v::w::y::z::A::B::C::D::E::F::G::H::I::J::K::L::M::l)[25]?=some M:=rfl
theorem lk26:aEval (g::i::j::o::p::q::r::t::u::v::w::y::z::A::B::C::D::E::F::G::H::I::J::K::L::M::N::l) (.tmp 26)=N:=rfl
theorem pt26:aPut (g::i::j::o::p::q::r::t::u::v::w::y::z::A::B::C::D::E::F::G::H::I::J::K::L::M::N::l) (some 26) c=g::i::j::o::p::q::r::t::u::v::w::y::z::A::B::C::D::E::F::G::H::I::J::K::L::M::c::l:=rfl
theorem gt26:(g::i::j::o::p::q::r::t::u::v::w::y::z::A::B::C::D::E::F::G::H::I::J::K::L::M::N::l)[26]?=some N:=rfl
theorem lk27:aEval (g::i::j::o::p::q::r::t::u::v::w::y::z::A::B::C::D::E::F::G::H::I::J::K::L::M::N::O::l) (.tmp 27)=O:=rfl
theorem pt27:aPut (g::i::j::o::p::q::r::t::u::v::w::y::z::A::B::C::D::E::F::G::H::I::J::K::L::M::N::O::l) (some 27) c=g::i::j::o::p::q::r::t::u::v::w::y::z::A::B::C::D::E::F::G::H::I::J::K::L::M::N::c::l:=rfl
theorem gt27:(g::i::j::o::p::q::r::t::u::v::w::y::z::A::B::C::D::E::F::G::H::I::J::K::L::M::N::O::l)[27]?=some O:=rfl
theorem lk28:aEval (g::i::j::o::p::q::r::t::u::v::w::y::z::A::B::C::D::E::F::G::H::I::J::K::L::M::N::O::P::l) (.tmp 28)=P:=rfl
theorem pt28:aPut (g::i::j::o::p::q::r::t::u::v::w::y::z::A::B::C::D::E::F::G::H::I::J::K::L::M::N::O::P::l) (some 28) c=g::i::j::o::p::q::r::t::u::v::w::y::z::A::B::C::D::E::F::G::H::I::J::K::L::M::N::O::c::l:=rfl
theorem gt28:(g::i::j::o::p::q::r::t::u::v::w::y::z::A::B::C::D::E::F::G::H::I::J::K::L::M::N::O::P::l)[28]?=some P:=rfl
theorem lk29:aEval (g::i::j::o::p::q::r::t::u::v::w::y::z::A::B::C::D::E::F::G::H::I::J::K::L::M::N::O::P::Q::l) (.tmp 29)=Q:=rfl
theorem pt29:aPut (g::i::j::o::p::q::r::t::u::v::w::y::z::A::B::C::D::E::F::G::H::I::J::K::L::M::N::O::P::Q::l) (some 29) c=g::i::j::o::p::q::r::t::u::v::w::y::z::A::B::C::D::E::F::G::H::I::J::K::L::M::N::O::P::c::l:=rfl
theorem gt29:(g::i::j::o::p::q::r::t::u::v::w::y::z::A::B::C::D::E::F::G::H::I::J::K::L::M::N::O::P::Q::l)[29]?=some Q:=rfl
theorem lk30:aEval (g::i::j::o::p::q::r::t::u::v::w::y::z::A::B::C::D::E::F::G::H::I::J::K::L::M::N::O::P::Q::R::l) (.tmp 30)=R:=rfl
theorem pt30:aPut (g::i::j::o::p::q::r::t::u::v::w::y::z::A::B::C::D::E::F::G::H::I::J::K::L::M::N::O::P::Q::R::l) (some 30) c=g::i::j::o::p::q::r::t::u::v::w::y::z::A::B::C::D::E::F::G::H::I::J::K::L::M::N::O::P::Q::c::l:=rfl
theorem gt30:(g::i::j::o::p::q::r::t::u::v::w::y::z::A::B::C::D::E::F::G::H::I::J::K::L::M::N::O::P::Q::R::l)[30]?=some R:=rfl
theorem lk31:aEval (g::i::j::o::p::q::r::t::u::v::w::y::z::A::B::C::D::E::F::G::H::I::J::K::L::M::N::O::P::Q::R::S::l) (.tmp 31)=S:=rfl
theorem pt31:aPut (g::i::j::o::p::q::r::t::u::v::w::y::z::A::B::C::D::E::F::G::H::I::J::K::L::M::N::O::P::Q::R::S::l) (some 31) c=g::i::j::o::p::q::r::t::u::v::w::y::z::A::B::C::D::E::F::G::H::I::J::K::L::M::N::O::P::Q::R::c::l:=rfl
theorem gt31:(g::i::j::o::p::q::r::t::u::v::w::y::z::A::B::C::D::E::F::G::H::I::J::K::L::M::N::O::P::Q::R::S::l)[31]?=some S:=rfl
theorem lk32:aEval (g::i::j::o::p::q::r::t::u::v::w::y::z::A::B::C::D::E::F::G::H::I::J::K::L::M::N::O::P::Q::R::S::U::l) (.tmp 32)=U:=rfl
theorem pt32:aPut (g::i::j::o::p::q::r::t::u::v::w::y::z::A::B::C::D::E::F::G::H::I::J::K::L::M::N::O::P::Q::R::S::U::l) (some 32) c=g::i::j::o::p::q::r::t::u::v::w::y::z::A::B::C::D::E::F::G::H::I::J::K::L::M::N::O::P::Q::R::S::c::l:=rfl
theorem gt32:(g::i::j::o::p::q::r::t::u::v::w::y::z::A::B::C::D::E::F::G::H::I::J::K::L::M::N::O::P::Q::R::S::U::l)[32]?=some U:=rfl
theorem lk33:aEval (g::i::j::o::p::q::r::t::u::v::w::y::z::A::B::C::D::E::F::G::H::I::J::K::L::M::N::O::P::Q::R::S::U::V::l) (.tmp 33)=V:=rfl
theorem pt33:aPut (g::i::j::o::p::q::r::t::u::v::w::y::z::A::B::C::D::E::F::G::H::I::J::K::L::M::N::O::P::Q::R::S::U::V::l) (some 33) c=g::i::j::o::p::q::r::t::u::v::w::y::z::A::B::C::D::E::F::G::H::I::J::K::L::M::N::O::P::Q::R::S::U::c::l:=rfl
theorem gt33:(g::i::j::o::p::q::r::t::u::v::w::y::z::A::B::C::D::E::F::G::H::I::J::K::L::M::N::O::P::Q::R::S::U::V::l)[33]?=some V:=rfl
theorem lk34:aEval (g::i::j::o::p::q::r::t::u::v::w::y::z::A::B::C::D::E::F::G::H::I::J::K::L::M::N::O::P::Q::R::S::U::V::W::l) (.tmp 34)=W:=rfl
theorem pt34:aPut (g::i::j::o::p::q::r::t::u::v::w::y::z::A::B::C::D::E::F::G::H::I::J::K::L::M::N::O::P::Q::R::S::U::V::W::l) (some 34) c=g::i::j::o::p::q::r::t::u::v::w::y::z::A::B::C::D::E::F::G::H::I::J::K::L::M::N::O::P::Q::R::S::U::V::c::l:=rfl
theorem lk35:aEval (g::i::j::o::p::q::r::t::u::v::w::y::z::A::B::C::D::E::F::G::H::I::J::K::L::M::N::O::P::Q::R::S::U::V::W::X::l) (.tmp 35)=X:=rfl
theorem pt35:aPut (g::i::j::o::p::q::r::t::u::v::w::y::z::A::B::C::D::E::F::G::H::I::J::K::L::M::N::O::P::Q::R::S::U::V::W::X::l) (some 35) c=g::i::j::o::p::q::r::t::u::v::w::y::z::A::B::C::D::E::F::G::H::I::J::K::L::M::N::O::P::Q::R::S::U::V::W::c::l:=rfl
theorem gt35:(g::i::j::o::p::q::r::t::u::v::w::y::z::A::B::C::D::E::F::G::H::I::J::K::L::M::N::O::P::Q::R::S::U::V::W::X::l)[35]?=some X:=rfl
theorem lk36:aEval (g::i::j::o::p::q::r::t::u::v::w::y::z::A::B::C::D::E::F::G::H::I::J::K::L::M::N::O::P::Q::R::S::U::V::W::X::Y::l) (.tmp 36)=Y:=rfl
theorem pt36:aPut (g::i::j::o::p::q::r::t::u::v::w::y::z::A::B::C::D::E::F::G::H::I::J::K::L::M::N::O::P::Q::R::S::U::V::W::X::Y::l) (some 36) c=g::i::j::o::p::q::r::t::u::v::w::y::z::A::B::C::D::E::F::G::H::I::J::K::L::M::N::O::P::Q::R::S::U::V::W::X::c::l:=rfl
theorem lk37:aEval (g::i::j::o::p::q::r::t::u::v::w::y::z::A::B::C::D::E::F::G::H::I::J::K::L::M::N::O::P::Q::R::S::U::V::W::X::Y::Z::l) (.tmp 37)=Z:=rfl
theorem pt37:aPut (g::i::j::o::p::q::r::t::u::v::w::y::z::A::B::C::D::E::F::G::H::I::J::K::L::M::N::O::P::Q::R::S::U::V::W::X::Y::Z::l) (some 37) c=g::i::j::o::p::q::r::t::u::v::w::y::z::A::B::C::D::E::F::G::H::I::J::K::L::M::N::O::P::Q::R::S::U::V::W::X::Y::c::l:=rfl
theorem gt37:(g::i::j::o::p::q::r::t::u::v::w::y::z::A::B::C::D::E::F::G::H::I::J::K::L::M::N::O::P::Q::R::S::U::V::W::X::Y::Z::l)[37]?=some Z:=rfl
theorem lk38:aEval (g::i::j::o::p::q::r::t::u::v::w::y::z::A::B::C::D::E::F::G::H::I::J::K::L::M::N::O::P::Q::R::S::U::V::W::X::Y::Z::α::l) (.tmp 38)=α:=rfl
theorem pt38:aPut (g::i::j::o::p::q::r::t::u::v::w::y::z::A::B::C::D::E::F::G::H::I::J::K::L::M::N::O::P::Q::R::S::U::V::W::X::Y::Z::α::l) (some 38) c=g::i::j::o::p::q::r::t::u::v::w::y::z::A::B::C::D::E::F::G::H::I::J::K::L::M::N::O::P::Q::R::S::U::V::W::X::Y::Z::c::l:=rfl
theorem gt38:(g::i::j::o::p::q::r::t::u::v::w::y::z::A::B::C::D::E::F::G::H::I::J::K::L::M::N::O::P::Q::R::S::U::V::W::X::Y::Z::α::l)[38]?=some α:=rfl
theorem lk39:aEval (g::i::j::o::p::q::r::t::u::v::w::y::z::A::B::C::D::E::F::G::H::I::J::K::L::M::N::O::P::Q::R::S::U::V::W::X::Y::Z::α::β::l) (.tmp 39)=β:=rfl
theorem pt39:aPut (g::i::j::o::p::q::r::t::u::v::w::y::z::A::B::C::D::E::F::G::H::I::J::K::L::M::N::O::P::Q::R::S::U::V::W::X::Y::Z::α::β::l) (some 39) c=g::i::j::o::p::q::r::t::u::v::w::y::z::A::B::C::D::E::F::G::H::I::J::K::L::M::N::O::P::Q::R::S::U::V::W::X::Y::Z::α::c::l:=rfl
theorem gt39:(g::i::j::o::p::q::r::t::u::v::w::y::z::A::B::C::D::E::F::G::H::I::J::K::L::M::N::O::P::Q::R::S::U::V::W::X::Y::Z::α::β::l)[39]?=some β:=rfl
theorem lk40:aEval (g::i::j::o::p::q::r::t::u::v::w::y::z::A::B::C::D::E::F::G::H::I::J::K::L::M::N::O::P::Q::R::S::U::V::W::X::Y::Z::α::β::γ::l) (.tmp 40)=γ:=rfl
theorem pt40:aPut (g::i::j::o::p::q::r::t::u::v::w::y::z::A::B::C::D::E::F::G::H::I::J::K::L::M::N::O::P::Q::R::S::U::V::W::X::Y::Z::α::β::γ::l) (some 40) c=g::i::j::o::p::q::r::t::u::v::w::y::z::A::B::C::D::E::F::G::H::I::J::K::L::M::N::O::P::Q::R::S::U::V::W::X::Y::Z::α::β::c::l:=rfl
theorem gt40:(g::i::j::o::p::q::r::t::u::v::w::y::z::A::B::C::D::E::F::G::H::I::J::K::L::M::N::O::P::Q::R::S::U::V::W::X::Y::Z::α::β::γ::l)[40]?=some γ:=rfl
theorem lk41:aEval (g::i::j::o::p::q::r::t::u::v::w::y::z::A::B::C::D::E::F::G::H::I::J::K::L::M::N::O::P::Q::R::S::U::V::W::X::Y::Z::α::β::γ::δ::l) (.tmp 41)=δ:=rfl
theorem pt41:aPut (g::i::j::o::p::q::r::t::u::v::w::y::z::A::B::C::D::E::F::G::H::I::J::K::L::M::N::O::P::Q::R::S::U::V::W::X::Y::Z::α::β::γ::δ::l) (some 41) c=g::i::j::o::p::q::r::t::u::v::w::y::z::A::B::C::D::E::F::G::H::I::J::K::L::M::N::O::P::Q::R::S::U::V::W::X::Y::Z::α::β::γ::c::l:=rfl
theorem lk42:aEval (g::i::j::o::p::q::r::t::u::v::w::y::z::A::B::C::D::E::F::G::H::I::J::K::L::M::N::O::P::Q::R::S::U::V::W::X::Y::Z::α::β::γ::δ::ε::l) (.tmp 42)=ε:=rfl
theorem pt42:aPut (g::i::j::o::p::q::r::t::u::v::w::y::z::A::B::C::D::E::F::G::H::I::J::K::L::M::N::O::P::Q::R::S::U::V::W::X::Y::Z::α::β::γ::δ::ε::l) (some 42) c=g::i::j::o::p::q::r::t::u::v::w::y::z::A::B::C::D::E::F::G::H::I::J::K::L::M::N::O::P::Q::R::S::U::V::W::X::Y::Z::α::β::γ::δ::c::l:=rfl
theorem gt42:(g::i::j::o::p::q::r::t::u::v::w::y::z::A::B::C::D::E::F::G::H::I::J::K::L::M::N::O::P::Q::R::S::U::V::W::X::Y::Z::α::β::γ::δ::ε::l)[42]?=some ε:=rfl
theorem lk43:aEval (g::i::j::o::p::q::r::t::u::v::w::y::z::A::B::C::D::E::F::G::H::I::J::K::L::M::N::O::P::Q::R::S::U::V::W::X::Y::Z::α::β::γ::δ::ε::ζ::l) (.tmp 43)=ζ:=rfl
theorem pt43:aPut (g::i::j::o::p::q::r::t::u::v::w::y::z::A::B::C::D::E::F::G::H::I::J::K::L::M::N::O::P::Q::R::S::U::V::W::X::Y::Z::α::β::γ::δ::ε::ζ::l) (some 43) c=g::i::j::o::p::q::r::t::u::v::w::y::z::A::B::C::D::E::F::G::H::I::J::K::L::M::N::O::P::Q::R::S::U::V::W::X::Y::Z::α::β::γ::δ::ε::c::l:=rfl
theorem gt43:(g::i::j::o::p::q::r::t::u::v::w::y::z::A::B::C::D::E::F::G::H::I::J::K::L::M::N::O::P::Q::R::S::U::V::W::X::Y::Z::α::β::γ::δ::ε::ζ::l)[43]?=some ζ:=rfl
theorem lk44:aEval (g::i::j::o::p::q::r::t::u::v::w::y::z::A::B::C::D::E::F::G::H::I::J::K::L::M::N::O::P::Q::R::S::U::V::W::X::Y::Z::α::β::γ::δ::ε::ζ::η::l) (.tmp 44)=η:=rfl
theorem pt44:aPut (g::i::j::o::p::q::r::t::u::v::w::y::z::A::B::C::D::E::F::G::H::I::J::K::L::M::N::O::P::Q::R::S::U::V::W::X::Y::Z::α::β::γ::δ::ε::ζ::η::l) (some 44) c=g::i::j::o::p::q::r::t::u::v::w::y::z::A::B::C::D::E::F::G::H::I::J::K::L::M::N::O::P::Q::R::S::U::V::W::X::Y::Z::α::β::γ::δ::ε::ζ::c::l:=rfl
theorem gt44:(g::i::j::o::p::q::r::t::u::v::w::y::z::A::B::C::D::E::F::G::H::I::J::K::L::M::N::O::P::Q::R::S::U::V::W::X::Y::Z::α::β::γ::δ::ε::ζ::η::l)[44]?=some η:=rfl
theorem lk45:aEval (g::i::j::o::p::q::r::t::u::v::w::y::z::A::B::C::D::E::F::G::H::I::J::K::L::M::N::O::P::Q::R::S::U::V::W::X::Y::Z::α::β::γ::δ::ε::ζ::η::θ::l) (.tmp 45)=θ:=rfl
theorem pt45:aPut (g::i::j::o::p::q::r::t::u::v::w::y::z::A::B::C::D::E::F::G::H::I::J::K::L::M::N::O::P::Q::R::S::U::V::W::X::Y::Z::α::β::γ::δ::ε::ζ::η::θ::l) (some 45) c=g::i::j::o::p::q::r::t::u::v::w::y::z::A::B::C::D::E::F::G::H::I::J::K::L::M::N::O::P::Q::R::S::U::V::W::X::Y::Z::α::β::γ::δ::ε::ζ::η::c::l:=rfl
theorem gt45:(g::i::j::o::p::q::r::t::u::v::w::y::z::A::B::C::D::E::F::G::H::I::J::K::L::M::N::O::P::Q::R::S::U::V::W::X::Y::Z::α::β::γ::δ::ε::ζ::η::θ::l)[45]?=some θ:=rfl
theorem lk46:aEval (g::i::j::o::p::q::r::t::u::v::w::y::z::A::B::C::D::E::F::G::H::I::J::K::L::M::N::O::P::Q::R::S::U::V::W::X::Y::Z::α::β::γ::δ::ε::ζ::η::θ::ι::l) (.tmp 46)=ι:=rfl
theorem pt46:aPut (g::i::j::o::p::q::r::t::u::v::w::y::z::A::B::C::D::E::F::G::H::I::J::K::L::M::N::O::P::Q::R::S::U::V::W::X::Y::Z::α::β::γ::δ::ε::ζ::η::θ::ι::l) (some 46) c=g::i::j::o::p::q::r::t::u::v::w::y::z::A::B::C::D::E::F::G::H::I::J::K::L::M::N::O::P::Q::R::S::U::V::W::X::Y::Z::α::β::γ::δ::ε::ζ::η::θ::c::l:=rfl
theorem gt46:(g::i::j::o::p::q::r::t::u::v::w::y::z::A::B::C::D::E::F::G::H::I::J::K::L::M::N::O::P::Q::R::S::U::V::W::X::Y::Z::α::β::γ::δ::ε::ζ::η::θ::ι::l)[46]?=some ι:=rfl
theorem lk47:aEval (g::i::j::o::p::q::r::t::u::v::w::y::z::A::B::C::D::E::F::G::H::I::J::K::L::M::N::O::P::Q::R::S::U::V::W::X::Y::Z::α::β::γ::δ::ε::ζ::η::θ::ι::κ::l) (.tmp 47)=κ:=rfl
theorem pt47:aPut (g::i::j::o::p::q::r::t::u::v::w::y::z::A::B::C::D::E::F::G::H::I::J::K::L::M::N::O::P::Q::R::S::U::V::W::X::Y::Z::α::β::γ::δ::ε::ζ::η::θ::ι::κ::l) (some 47) c=g::i::j::o::p::q::r::t::u::v::w::y::z::A::B::C::D::E::F::G::H::I::J::K::L::M::N::O::P::Q::R::S::U::V::W::X::Y::Z::α::β::γ::δ::ε::ζ::η::θ::ι::c::l:=rfl
theorem gt47:(g::i::j::o::p::q::r::t::u::v::w::y::z::A::B::C::D::E::F::G::H::I::J::K::L::M::N::O::P::Q::R::S::U::V::W::X::Y::Z::α::β::γ::δ::ε::ζ::η::θ::ι::κ::l)[47]?=some κ:=rfl
theorem lk48:aEval (g::i::j::o::p::q::r::t::u::v::w::y::z::A::B::C::D::E::F::G::H::I::J::K::L::M::N::O::P::Q::R::S::U::V::W::X::Y::Z::α::β::γ::δ::ε::ζ::η::θ::ι::κ::μ::l) (.tmp 48)=μ:=rfl
theorem pt48:aPut (g::i::j::o::p::q::r::t::u::v::w::y::z::A::B::C::D::E::F::G::H::I::J::K::L::M::N::O::P::Q::R::S::U::V::W::X::Y::Z::α::β::γ::δ::ε::ζ::η::θ::ι::κ::μ::l) (some 48) c=g::i::j::o::p::q::r::t::u::v::w::y::z::A::B::C::D::E::F::G::H::I::J::K::L::M::N::O::P::Q::R::S::U::V::W::X::Y::Z::α::β::γ::δ::ε::ζ::η::θ::ι::κ::c::l:=rfl
theorem gt48:(g::i::j::o::p::q::r::t::u::v::w::y::z::A::B::C::D::E::F::G::H::I::J::K::L::M::N::O::P::Q::R::S::U::V::W::X::Y::Z::α::β::γ::δ::ε::ζ::η::θ::ι::κ::μ::l)[48]?=some μ:=rfl
theorem lk49:aEval (g::i::j::o::p::q::r::t::u::v::w::y::z::A::B::C::D::E::F::G::H::I::J::K::L::M::N::O::P::Q::R::S::U::V::W::X::Y::Z::α::β::γ::δ::ε::ζ::η::θ::ι::κ::μ::ν::l) (.tmp 49)=ν:=rfl
theorem pt49:aPut (g::i::j::o::p::q::r::t::u::v::w::y::z::A::B::C::D::E::F::G::H::I::J::K::L::M::N::O::P::Q::R::S::U::V::W::X::Y::Z::α::β::γ::δ::ε::ζ::η::θ::ι::κ::μ::ν::l) (some 49) c=g::i::j::o::p::q::r::t::u::v::w::y::z::A::B::C::D::E::F::G::H::I::J::K::L::M::N::O::P::Q::R::S::U::V::W::X::Y::Z::α::β::γ::δ::ε::ζ::η::θ::ι::κ::μ::c::l:=rfl
theorem gt49:(g::i::j::o::p::q::r::t::u::v::w::y::z::A::B::C::D::E::F::G::H::I::J::K::L::M::N::O::P::Q::R::S::U::V::W::X::Y::Z::α::β::γ::δ::ε::ζ::η::θ::ι::κ::μ::ν::l)[49]?=some ν:=rfl
theorem lk50:aEval (g::i::j::o::p::q::r::t::u::v::w::y::z::A::B::C::D::E::F::G::H::I::J::K::L::M::N::O::P::Q::R::S::U::V::W::X::Y::Z::α::β::γ::δ::ε::ζ::η::θ::ι::κ::μ::ν::ξ::l) (.tmp 50)=ξ:=rfl
theorem pt50:aPut (g::i::j::o::p::q::r::t::u::v::w::y::z::A::B::C::D::E::F::G::H::I::J::K::L::M::N::O::P::Q::R::S::U::V::W::X::Y::Z::α::β::γ::δ::ε::ζ::η::θ::ι::κ::μ::ν::ξ::l) (some 50) c=g::i::j::o::p::q::r::t::u::v::w::y::z::A::B::C::D::E::F::G::H::I::J::K::L::M::N::O::P::Q::R::S::U::V::W::X::Y::Z::α::β::γ::δ::ε::ζ::η::θ::ι::κ::μ::ν::c::l:=rfl
theorem gt50:(g::i::j::o::p::q::r::t::u::v::w::y::z::A::B::C::D::E::F::G::H::I::J::K::L::M::N::O::P::Q::R::S::U::V::W::X::Y::Z::α::β::γ::δ::ε::ζ::η::θ::ι::κ::μ::ν::ξ::l)[50]?=some ξ:=rfl
theorem lk51:aEval (g::i::j::o::p::q::r::t::u::v::w::y::z::A::B::C::D::E::F::G::H::I::J::K::L::M::N::O::P::Q::R::S::U::V::W::X::Y::Z::α::β::γ::δ::ε::ζ::η::θ::ι::κ::μ::ν::ξ::π::l) (.tmp 51)=π:=rfl
theorem pt51:aPut (g::i::j::o::p::q::r::t::u::v::w::y::z::A::B::C::D::E::F::G::H::I::J::K::L::M::N::O::P::Q::R::S::U::V::W::X::Y::Z::α::β::γ::δ::ε::ζ::η::θ::ι::κ::μ::ν::ξ::π::l) (some 51) c=g::i::j::o::p::q::r::t::u::v::w::y::z::A::B::C::D::E::F::G::H::I::J::K::L::M::N::O::P::Q::R::S::U::V::W::X::Y::Z::α::β::γ::δ::ε::ζ::η::θ::ι::κ::μ::ν::ξ::c::l:=rfl
theorem gt51:(g::i::j::o::p::q::r::t::u::v::w::y::z::A::B::C::D::E::F::G::H::I::J::K::L::M::N::O::P::Q::R::S::U::V::W::X::Y::Z::α::β::γ::δ::ε::ζ::η::θ::ι::κ::μ::ν::ξ::π::l)[51]?=some π:=rfl
theorem lk52:aEval (g::i::j::o::p::q::r::t::u::v::w::y::z::A::B::C::D::E::F::G::H::I::J::K::L::M::N::O::P::Q::R::S::U::V::W::X::Y::Z::α::β::γ::δ::ε::ζ::η::θ::ι::κ::μ::ν::ξ::π::ρ::l) (.tmp 52)=ρ:=rfl
theorem pt52:aPut (g::i::j::o::p::q::r::t::u::v::w::y::z::A::B::C::D::E::F::G::H::I::J::K::L::M::N::O::P::Q::R::S::U::V::W::X::Y::Z::α::β::γ::δ::ε::ζ::η::θ::ι::κ::μ::ν::ξ::π::ρ::l) (some 52) c=g::i::j::o::p::q::r::t::u::v::w::y::z::A::B::C::D::E::F::G::H::I::J::K::L::M::N::O::P::Q::R::S::U::V::W::X::Y::Z::α::β::γ::δ::ε::ζ::η::θ::ι::κ::μ::ν::ξ::π::c::l:=rfl
theorem gt52:(g::i::j::o::p::q::r::t::u::v::w::y::z::A::B::C::D::E::F::G::H::I::J::K::L::M::N::O::P::Q::R::S::U::V::W::X::Y::Z::α::β::γ::δ::ε::ζ::η::θ::ι::κ::μ::ν::ξ::π::ρ::l)[52]?=some ρ:=rfl
theorem lk53:aEval (g::i::j::o::p::q::r::t::u::v::w::y::z::A::B::C::D::E::F::G::H::I::J::K::L::M::N::O::P::Q::R::S::U::V::W::X::Y::Z::α::β::γ::δ::ε::ζ::η::θ::ι::κ::μ::ν::ξ::π::ρ::σ::l) (.tmp 53)=σ:=rfl
theorem pt53:aPut (g::i::j::o::p::q::r::t::u::v::w::y::z::A::B::C::D::E::F::G::H::I::J::K::L::M::N::O::P::Q::R::S::U::V::W::X::Y::Z::α::β::γ::δ::ε::ζ::η::θ::ι::κ::μ::ν::ξ::π::ρ::σ::l) (some 53) c=g::i::j::o::p::q::r::t::u::v::w::y::z::A::B::C::D::E::F::G::H::I::J::K::L::M::N::O::P::Q::R::S::U::V::W::X::Y::Z::α::β::γ::δ::ε::ζ::η::θ::ι::κ::μ::ν::ξ::π::ρ::c::l:=rfl
theorem gt53:(g::i::j::o::p::q::r::t::u::v::w::y::z::A::B::C::D::E::F::G::H::I::J::K::L::M::N::O::P::Q::R::S::U::V::W::X::Y::Z::α::β::γ::δ::ε::ζ::η::θ::ι::κ::μ::ν::ξ::π::ρ::σ::l)[53]?=some σ:=rfl
theorem lk54:aEval (g::i::j::o::p::q::r::t::u::v::w::y::z::A::B::C::D::E::F::G::H::I::J::K::L::M::N::O::P::Q::R::S::U::V::W::X::Y::Z::α::β::γ::δ::ε::ζ::η::θ::ι::κ::μ::ν::ξ::π::ρ::σ::τ::l) (.tmp 54)=τ:=rfl
theorem pt54:aPut (g::i::j::o::p::q::r::t::u::v::w::y::z::A::B::C::D::E::F::G::H::I::J::K::L::M::N::O::P::Q::R::S::U::V::W::X::Y::Z::α::β::γ::δ::ε::ζ::η::θ::ι::κ::μ::ν::ξ::π::ρ::σ::τ::l) (some 54) c=g::i::j::o::p::q::r::t::u::v::w::y::z::A::B::C::D::E::F::G::H::I::J::K::L::M::N::O::P::Q::R::S::U::V::W::X::Y::Z::α::β::γ::δ::ε::ζ::η::θ::ι::κ::μ::ν::ξ::π::ρ::σ::c::l:=rfl
theorem gt54:(g::i::j::o::p::q::r::t::u::v::w::y::z::A::B::C::D::E::F::G::H::I::J::K::L::M::N::O::P::Q::R::S::U::V::W::X::Y::Z::α::β::γ::δ::ε::ζ::η::θ::ι::κ::μ::ν::ξ::π::ρ::σ::τ::l)[54]?=some τ:=rfl
theorem lk55:aEval (g::i::j::o::p::q::r::t::u::v::w::y::z::A::B::C::D::E::F::G::H::I::J::K::L::M::N::O::P::Q::R::S::U::V::W::X::Y::Z::α::β::γ::δ::ε::ζ::η::θ::ι::κ::μ::ν::ξ::π::ρ::σ::τ::υ::l) (.tmp 55)=υ:=rfl
theorem pt55:aPut (g::i::j::o::p::q::r::t::u::v::w::y::z::A::B::C::D::E::F::G::H::I::J::K::L::M::N::O::P::Q::R::S::U::V::W::X::Y::Z::α::β::γ::δ::ε::ζ::η::θ::ι::κ::μ::ν::ξ::π::ρ::σ::τ::υ::l) (some 55) c=g::i::j::o::p::q::r::t::u::v::w::y::z::A::B::C::D::E::F::G::H::I::J::K::L::M::N::O::P::Q::R::S::U::V::W::X::Y::Z::α::β::γ::δ::ε::ζ::η::θ::ι::κ::μ::ν::ξ::π::ρ::σ::τ::c::l:=rfl
theorem gt55:(g::i::j::o::p::q::r::t::u::v::w::y::z::A::B::C::D::E::F::G::H::I::J::K::L::M::N::O::P::Q::R::S::U::V::W::X::Y::Z::α::β::γ::δ::ε::ζ::η::θ::ι::κ::μ::ν::ξ::π::ρ::σ::τ::υ::l)[55]?=some υ:=rfl
theorem lk56:aEval (g::i::j::o::p::q::r::t::u::v::w::y::z::A::B::C::D::E::F::G::H::I::J::K::L::M::N::O::P::Q::R::S::U::V::W::X::Y::Z::α::β::γ::δ::ε::ζ::η::θ::ι::κ::μ::ν::ξ::π::ρ::σ::τ::υ::φ::l) (.tmp 56)=φ:=rfl
theorem pt56:aPut (g::i::j::o::p::q::r::t::u::v::w::y::z::A::B::C::D::E::F::G::H::I::J::K::L::M::N::O::P::Q::R::S::U::V::W::X::Y::Z::α::β::γ::δ::ε::ζ::η::θ::ι::κ::μ::ν::ξ::π::ρ::σ::τ::υ::φ::l) (some 56) c=g::i::j::o::p::q::r::t::u::v::w::y::z::A::B::C::D::E::F::G::H::I::J::K::L::M::N::O::P::Q::R::S::U::V::W::X::Y::Z::α::β::γ::δ::ε::ζ::η::θ::ι::κ::μ::ν::ξ::π::ρ::σ::τ::υ::c::l:=rfl
theorem gt56:(g::i::j::o::p::q::r::t::u::v::w::y::z::A::B::C::D::E::F::G::H::I::J::K::L::M::N::O::P::Q::R::S::U::V::W::X::Y::Z::α::β::γ::δ::ε::ζ::η::θ::ι::κ::μ::ν::ξ::π::ρ::σ::τ::υ::φ::l)[56]?=some φ:=rfl
theorem lk57:aEval (g::i::j::o::p::q::r::t::u::v::w::y::z::A::B::C::D::E::F::G::H::I::J::K::L::M::N::O::P::Q::R::S::U::V::W::X::Y::Z::α::β::γ::δ::ε::ζ::η::θ::ι::κ::μ::ν::ξ::π::ρ::σ::τ::υ::φ::χ::l) (.tmp 57)=χ:=rfl
theorem pt57:aPut (g::i::j::o::p::q::r::t::u::v::w::y::z::A::B::C::D::E::F::G::H::I::J::K::L::M::N::O::P::Q::R::S::U::V::W::X::Y::Z::α::β::γ::δ::ε::ζ::η::θ::ι::κ::μ::ν::ξ::π::ρ::σ::τ::υ::φ::χ::l) (some 57) c=g::i::j::o::p::q::r::t::u::v::w::y::z::A::B::C::D::E::F::G::H::I::J::K::L::M::N::O::P::Q::R::S::U::V::W::X::Y::Z::α::β::γ::δ::ε::ζ::η::θ::ι::κ::μ::ν::ξ::π::ρ::σ::τ::υ::φ::c::l:=rfl
theorem gt57:(g::i::j::o::p::q::r::t::u::v::w::y::z::A::B::C::D::E::F::G::H::I::J::K::L::M::N::O::P::Q::R::S::U::V::W::X::Y::Z::α::β::γ::δ::ε::ζ::η::θ::ι::κ::μ::ν::ξ::π::ρ::σ::τ::υ::φ::χ::l)[57]?=some χ:=rfl
theorem lk58:aEval (g::i::j::o::p::q::r::t::u::v::w::y::z::A::B::C::D::E::F::G::H::I::J::K::L::M::N::O::P::Q::R::S::U::V::W::X::Y::Z::α::β::γ::δ::ε::ζ::η::θ::ι::κ::μ::ν::ξ::π::ρ::σ::τ::υ::φ::χ::ψ::l) (.tmp 58)=ψ:=rfl
theorem pt58:aPut (g::i::j::o::p::q::r::t::u::v::w::y::z::A::B::C::D::E::F::G::H::I::J::K::L::M::N::O::P::Q::R::S::U::V::W::X::Y::Z::α::β::γ::δ::ε::ζ::η::θ::ι::κ::μ::ν::ξ::π::ρ::σ::τ::υ::φ::χ::ψ::l) (some 58) c=g::i::j::o::p::q::r::t::u::v::w::y::z::A::B::C::D::E::F::G::H::I::J::K::L::M::N::O::P::Q::R::S::U::V::W::X::Y::Z::α::β::γ::δ::ε::ζ::η::θ::ι::κ::μ::ν::ξ::π::ρ::σ::τ::υ::φ::χ::c::l:=rfl
theorem gt58:(g::i::j::o::p::q::r::t::u::v::w::y::z::A::B::C::D::E::F::G::H::I::J::K::L::M::N::O::P::Q::R::S::U::V::W::X::Y::Z::α::β::γ::δ::ε::ζ::η::θ::ι::κ::μ::ν::ξ::π::ρ::σ::τ::υ::φ::χ::ψ::l)[58]?=some ψ:=rfl
theorem lk59:aEval (g::i::j::o::p::q::r::t::u::v::w::y::z::A::B::C::D::E::F::G::H::I::J::K::L::M::N::O::P::Q::R::S::U::V::W::X::Y::Z::α::β::γ::δ::ε::ζ::η::θ::ι::κ::μ::ν::ξ::π::ρ::σ::τ::υ::φ::χ::ψ::ω::l) (.tmp 59)=ω:=rfl
theorem pt59:aPut (g::i::j::o::p::q::r::t::u::v::w::y::z::A::B::C::D::E::F::G::H::I::J::K::L::M::N::O::P::Q::R::S::U::V::W::X::Y::Z::α::β::γ::δ::ε::ζ::η::θ::ι::κ::μ::ν::ξ::π::ρ::σ::τ::υ::φ::χ::ψ::ω::l) (some 59) c=g::i::j::o::p::q::r::t::u::v::w::y::z::A::B::C::D::E::F::G::H::I::J::K::L::M::N::O::P::Q::R::S::U::V::W::X::Y::Z::α::β::γ::δ::ε::ζ::η::θ::ι::κ::μ::ν::ξ::π::ρ::σ::τ::υ::φ::χ::ψ::c::l:=rfl
theorem lk60:aEval (g::i::j::o::p::q::r::t::u::v::w::y::z::A::B::C::D::E::F::G::H::I::J::K::L::M::N::O::P::Q::R::S::U::V::W::X::Y::Z::α::β::γ::δ::ε::ζ::η::θ::ι::κ::μ::ν::ξ::π::ρ::σ::τ::υ::φ::χ::ψ::ω::b60::l) (.tmp 60)=b60:=rfl
theorem pt60:aPut (g::i::j::o::p::q::r::t::u::v::w::y::z::A::B::C::D::E::F::G::H::I::J::K::L::M::N::O::P::Q::R::S::U::V::W::X::Y::Z::α::β::γ::δ::ε::ζ::η::θ::ι::κ::μ::ν::ξ::π::ρ::σ::τ::υ::φ::χ::ψ::ω::b60::l) (some 60) c=g::i::j::o::p::q::r::t::u::v::w::y::z::A::B::C::D::E::F::G::H::I::J::K::L::M::N::O::P::Q::R::S::U::V::W::X::Y::Z::α::β::γ::δ::ε::ζ::η::θ::ι::κ::μ::ν::ξ::π::ρ::σ::τ::υ::φ::χ::ψ::ω::c::l:=rfl
theorem lk61:aEval (g::i::j::o::p::q::r::t::u::v::w::y::z::A::B::C::D::E::F::G::H::I::J::K::L::M::N::O::P::Q::R::S::U::V::W::X::Y::Z::α::β::γ::δ::ε::ζ::η::θ::ι::κ::μ::ν::ξ::π::ρ::σ::τ::υ::φ::χ::ψ::ω::b60::b61::l) (.tmp 61)=b61:=rfl
theorem pt61:aPut (g::i::j::o::p::q::r::t::u::v::w::y::z::A::B::C::D::E::F::G::H::I::J::K::L::M::N::O::P::Q::R::S::U::V::W::X::Y::Z::α::β::γ::δ::ε::ζ::η::θ::ι::κ::μ::ν::ξ::π::ρ::σ::τ::υ::φ::χ::ψ::ω::b60::b61::l) (some 61) c=g::i::j::o::p::q::r::t::u::v::w::y::z::A::B::C::D::E::F::G::H::I::J::K::L::M::N::O::P::Q::R::S::U::V::W::X::Y::Z::α::β::γ::δ::ε::ζ::η::θ::ι::κ::μ::ν::ξ::π::ρ::σ::τ::υ::φ::χ::ψ::ω::b60::c::l:=rfl
theorem gt61:(g::i::j::o::p::q::r::t::u::v::w::y::z::A::B::C::D::E::F::G::H::I::J::K::L::M::N::O::P::Q::R::S::U::V::W::X::Y::Z::α::β::γ::δ::ε::ζ::η::θ::ι::κ::μ::ν::ξ::π::ρ::σ::τ::υ::φ::χ::ψ::ω::b60::b61::l)[61]?=some b61:=rfl
theorem lk62:aEval (g::i::j::o::p::q::r::t::u::v::w::y::z::A::B::C::D::E::F::G::H::I::J::K::L::M::N::O::P::Q::R::S::U::V::W::X::Y::Z::α::β::γ::δ::ε::ζ::η::θ::ι::κ::μ::ν::ξ::π::ρ::σ::τ::υ::φ::χ::ψ::ω::b60::b61::b62::l) (.tmp 62)=b62:=rfl
theorem pt62:aPut (g::i::j::o::p::q::r::t::u::v::w::y::z::A::B::C::D::E::F::G::H::I::J::K::L::M::N::O::P::Q::R::S::U::V::W::X::Y::Z::α::β::γ::δ::ε::ζ::η::θ::ι::κ::μ::ν::ξ::π::ρ::σ::τ::υ::φ::χ::ψ::ω::b60::b61::b62::l) (some 62) c=g::i::j::o::p::q::r::t::u::v::w::y::z::A::B::C::D::E::F::G::H::I::J::K::L::M::N::O::P::Q::R::S::U::V::W::X::Y::Z::α::β::γ::δ::ε::ζ::η::θ::ι::κ::μ::ν::ξ::π::ρ::σ::τ::υ::φ::χ::ψ::ω::b60::b61::c::l:=rfl
theorem lk63:aEval (g::i::j::o::p::q::r::t::u::v::w::y::z::A::B::C::D::E::F::G::H::I::J::K::L::M::N::O::P::Q::R::S::U::V::W::X::Y::Z::α::β::γ::δ::ε::ζ::η::θ::ι::κ::μ::ν::ξ::π::ρ::σ::τ::υ::φ::χ::ψ::ω::b60::b61::b62::b63::l) (.tmp 63)=b63:=rfl
theorem pt63:aPut (g::i::j::o::p::q::r::t::u::v::w::y::z::A::B::C::D::E::F::G::H::I::J::K::L::M::N::O::P::Q::R::S::U::V::W::X::Y::Z::α::β::γ::δ::ε::ζ::η::θ::ι::κ::μ::ν::ξ::π::ρ::σ::τ::υ::φ::χ::ψ::ω::b60::b61::b62::b63::l) (some 63) c=g::i::j::o::p::q::r::t::u::v::w::y::z::A::B::C::D::E::F::G::H::I::J::K::L::M::N::O::P::Q::R::S::U::V::W::X::Y::Z::α::β::γ::δ::ε::ζ::η::θ::ι::κ::μ::ν::ξ::π::ρ::σ::τ::υ::φ::χ::ψ::ω::b60::b61::b62::c::l:=rfl
theorem lk64:aEval (g::i::j::o::p::q::r::t::u::v::w::y::z::A::B::C::D::E::F::G::H::I::J::K::L::M::N::O::P::Q::R::S::U::V::W::X::Y::Z::α::β::γ::δ::ε::ζ::η::θ::ι::κ::μ::ν::ξ::π::ρ::σ::τ::υ::φ::χ::ψ::ω::b60::b61::b62::b63::b64::l) (.tmp 64)=b64:=rfl
theorem pt64:aPut (g::i::j::o::p::q::r::t::u::v::w::y::z::A::B::C::D::E::F::G::H::I::J::K::L::M::N::O::P::Q::R::S::U::V::W::X::Y::Z::α::β::γ::δ::ε::ζ::η::θ::ι::κ::μ::ν::ξ::π::ρ::σ::τ::υ::φ::χ::ψ::ω::b60::b61::b62::b63::b64::l) (some 64) c=g::i::j::o::p::q::r::t::u::v::w::y::z::A::B::C::D::E::F::G::H::I::J::K::L::M::N::O::P::Q::R::S::U::V::W::X::Y::Z::α::β::γ::δ::ε::ζ::η::θ::ι::κ::μ::ν::ξ::π::ρ::σ::τ::υ::φ::χ::ψ::ω::b60::b61::b62::b63::c::l:=rfl
theorem lk65:aEval (g::i::j::o::p::q::r::t::u::v::w::y::z::A::B::C::D::E::F::G::H::I::J::K::L::M::N::O::P::Q::R::S::U::V::W::X::Y::Z::α::β::γ::δ::ε::ζ::η::θ::ι::κ::μ::ν::ξ::π::ρ::σ::τ::υ::φ::χ::ψ::ω::b60::b61::b62::b63::b64::b65::l) (.tmp 65)=b65:=rfl
theorem pt65:aPut (g::i::j::o::p::q::r::t::u::v::w::y::z::A::B::C::D::E::F::G::H::I::J::K::L::M::N::O::P::Q::R::S::U::V::W::X::Y::Z::α::β::γ::δ::ε::ζ::η::θ::ι::κ::μ::ν::ξ::π::ρ::σ::τ::υ::φ::χ::ψ::ω::b60::b61::b62::b63::b64::b65::l) (some 65) c=g::i::j::o::p::q::r::t::u::v::w::y::z::A::B::C::D::E::F::G::H::I::J::K::L::M::N::O::P::Q::R::S::U::V::W::X::Y::Z::α::β::γ::δ::ε::ζ::η::θ::ι::κ::μ::ν::ξ::π::ρ::σ::τ::υ::φ::χ::ψ::ω::b60::b61::b62::b63::b64::c::l:=rfl
theorem gt65:(g::i::j::o::p::q::r::t::u::v::w::y::z::A::B::C::D::E::F::G::H::I::J::K::L::M::N::O::P::Q::R::S::U::V::W::X::Y::Z::α::β::γ::δ::ε::ζ::η::θ::ι::κ::μ::ν::ξ::π::ρ::σ::τ::υ::φ::χ::ψ::ω::b60::b61::b62::b63::b64::b65::l)[65]?=some b65:=rfl
theorem lk66:aEval (g::i::j::o::p::q::r::t::u::v::w::y::z::A::B::C::D::E::F::G::H::I::J::K::L::M::N::O::P::Q::R::S::U::V::W::X::Y::Z::α::β::γ::δ::ε::ζ::η::θ::ι::κ::μ::ν::ξ::π::ρ::σ::τ::υ::φ::χ::ψ::ω::b60::b61::b62::b63::b64::b65::b66::l) (.tmp 66)=b66:=rfl
theorem pt66:aPut (g::i::j::o::p::q::r::t::u::v::w::y::z::A::B::C::D::E::F::G::H::I::J::K::L::M::N::O::P::Q::R::S::U::V::W::X::Y::Z::α::β::γ::δ::ε::ζ::η::θ::ι::κ::μ::ν::ξ::π::ρ::σ::τ::υ::φ::χ::ψ::ω::b60::b61::b62::b63::b64::b65::b66::l) (some 66) c=g::i::j::o::p::q::r::t::u::v::w::y::z::A::B::C::D::E::F::G::H::I::J::K::L::M::N::O::P::Q::R::S::U::V::W::X::Y::Z::α::β::γ::δ::ε::ζ::η::θ::ι::κ::μ::ν::ξ::π::ρ::σ::τ::υ::φ::χ::ψ::ω::b60::b61::b62::b63::b64::b65::c::l:=rfl
theorem lk67:aEval (g::i::j::o::p::q::r::t::u::v::w::y::z::A::B::C::D::E::F::G::H::I::J::K::L::M::N::O::P::Q::R::S::U::V::W::X::Y::Z::α::β::γ::δ::ε::ζ::η::θ::ι::κ::μ::ν::ξ::π::ρ::σ::τ::υ::φ::χ::ψ::ω::b60::b61::b62::b63::b64::b65::b66::b67::l) (.tmp 67)=b67:=rfl
theorem pt67:aPut (g::i::j::o::p::q::r::t::u::v::w::y::z::A::B::C::D::E::F::G::H::I::J::K::L::M::N::O::P::Q::R::S::U::V::W::X::Y::Z::α::β::γ::δ::ε::ζ::η::θ::ι::κ::μ::ν::ξ::π::ρ::σ::τ::υ::φ::χ::ψ::ω::b60::b61::b62::b63::b64::b65::b66::b67::l) (some 67) c=g::i::j::o::p::q::r::t::u::v::w::y::z::A::B::C::D::E::F::G::H::I::J::K::L::M::N::O::P::Q::R::S::U::V::W::X::Y::Z::α::β::γ::δ::ε::ζ::η::θ::ι::κ::μ::ν::ξ::π::ρ::σ::τ::υ::φ::χ::ψ::ω::b60::b61::b62::b63::b64::b65::b66::c::l:=rfl
theorem lk68:aEval (g::i::j::o::p::q::r::t::u::v::w::y::z::A::B::C::D::E::F::G::H::I::J::K::L::M::N::O::P::Q::R::S::U::V::W::X::Y::Z::α::β::γ::δ::ε::ζ::η::θ::ι::κ::μ::ν::ξ::π::ρ::σ::τ::υ::φ::χ::ψ::ω::b60::b61::b62::b63::b64::b65::b66::b67::b68::l) (.tmp 68)=b68:=rfl
theorem pt68:aPut (g::i::j::o::p::q::r::t::u::v::w::y::z::A::B::C::D::E::F::G::H::I::J::K::L::M::N::O::P::Q::R::S::U::V::W::X::Y::Z::α::β::γ::δ::ε::ζ::η::θ::ι::κ::μ::ν::ξ::π::ρ::σ::τ::υ::φ::χ::ψ::ω::b60::b61::b62::b63::b64::b65::b66::b67::b68::l) (some 68) c=g::i::j::o::p::q::r::t::u::v::w::y::z::A::B::C::D::E::F::G::H::I::J::K::L::M::N::O::P::Q::R::S::U::V::W::X::Y::Z::α::β::γ::δ::ε::ζ::η::θ::ι::κ::μ::ν::ξ::π::ρ::σ::τ::υ::φ::χ::ψ::ω::b60::b61::b62::b63::b64::b65::b66::b67::c::l:=rfl
theorem lk69:aEval (g::i::j::o::p::q::r::t::u::v::w::y::z::A::B::C::D::E::F::G::H::I::J::K::L::M::N::O::P::Q::R::S::U::V::W::X::Y::Z::α::β::γ::δ::ε::ζ::η::θ::ι::κ::μ::ν::ξ::π::ρ::σ::τ::υ::φ::χ::ψ::ω::b60::b61::b62::b63::b64::b65::b66::b67::b68::b69::l) (.tmp 69)=b69:=rfl
theorem pt69:aPut (g::i::j::o::p::q::r::t::u::v::w::y::z::A::B::C::D::E::F::G::H::I::J::K::L::M::N::O::P::Q::R::S::U::V::W::X::Y::Z::α::β::γ::δ::ε::ζ::η::θ::ι::κ::μ::ν::ξ::π::ρ::σ::τ::υ::φ::χ::ψ::ω::b60::b61::b62::b63::b64::b65::b66::b67::b68::b69::l) (some 69) c=g::i::j::o::p::q::r::t::u::v::w::y::z::A::B::C::D::E::F::G::H::I::J::K::L::M::N::O::P::Q::R::S::U::V::W::X::Y::Z::α::β::γ::δ::ε::ζ::η::θ::ι::κ::μ::ν::ξ::π::ρ::σ::τ::υ::φ::χ::ψ::ω::b60::b61::b62::b63::b64::b65::b66::b67::b68::c::l:=rfl
theorem lkS {k:Nat}(h:aEval l (.tmp k)=d):aEval (g::i::j::o::p::q::r::t::u::v::w::y::z::A::B::C::D::E::F::G::H::I::J::K::L::M::N::O::P::Q::R::S::U::V::W::X::Y::Z::α::β::γ::δ::ε::ζ::η::θ::ι::κ::μ::ν::ξ::π::ρ::σ::τ::υ::φ::χ::ψ::ω::b60::b61::b62::b63::b64::b65::b66::b67::b68::b69::l) (.tmp (k+70))=d:=h
theorem ptS {k:Nat}(h:aPut l (some k) c=m):aPut (g::i::j::o::p::q::r::t::u::v::w::y::z::A::B::C::D::E::F::G::H::I::J::K::L::M::N::O::P::Q::R::S::U::V::W::X::Y::Z::α::β::γ::δ::ε::ζ::η::θ::ι::κ::μ::ν::ξ::π::ρ::σ::τ::υ::φ::χ::ψ::ω::b60::b61::b62::b63::b64::b65::b66::b67::b68::b69::l) (some (k+70)) c=g::i::j::o::p::q::r::t::u::v::w::y::z::A::B::C::D::E::F::G::H::I::J::K::L::M::N::O::P::Q::R::S::U::V::W::X::Y::Z::α::β::γ::δ::ε::ζ::η::θ::ι::κ::μ::ν::ξ::π::ρ::σ::τ::υ::φ::χ::ψ::ω::b60::b61::b62::b63::b64::b65::b66::b67::b68::b69::m:=by rw [←h];rfl
theorem gtS {k:Nat}(h:l[k]?=some d):(g::i::j::o::p::q::r::t::u::v::w::y::z::A::B::C::D::E::F::G::H::I::J::K::L::M::N::O::P::Q::R::S::U::V::W::X::Y::Z::α::β::γ::δ::ε::ζ::η::θ::ι::κ::μ::ν::ξ::π::ρ::σ::τ::υ::φ::χ::ψ::ω::b60::b61::b62::b63::b64::b65::b66::b67::b68::b69::l)[k+70]?=some d:=h
theorem hs0 {h:AH}{n:Nat}(hn:h.length=n) {e0 e:Ent}{l:AH}:(h++(e0::l)).set (n+0) e=h++(e::l):=by subst hn;simp
theorem hl0 {h:AH}{n:Nat}(hn:h.length=n):(h++[]).length=n+0:=by subst hn;simp
theorem ha0 {h:AH}{ e:Ent}:(h++[])++[e]=h++[e]:=by simp
theorem hg1 {h:AH}{n:Nat}(hn:h.length=n) {e0 e1:Ent}{l:AH}:(h++(e0::e1::l))[n+1]?=some e1:=by subst hn;simp
theorem hs1 {h:AH}{n:Nat}(hn:h.length=n) {e0 e1 e:Ent}{l:AH}:(h++(e0::e1::l)).set (n+1) e=h++(e0::e::l):=by subst hn;simp
theorem hl1 {h:AH}{n:Nat}(hn:h.length=n) {e0:Ent}:(h++[e0]).length=n+1:=by subst hn;simp
theorem ha1 {h:AH}{e0 e:Ent}:(h++[e0])++[e]=h++[e0,e]:=by simp
theorem hg2 {h:AH}{n:Nat}(hn:h.length=n) {e0 e1 e2:Ent}{l:AH}:(h++(e0::e1::e2::l))[n+2]?=some e2:=by subst hn;simp
theorem hs2 {h:AH}{n:Nat}(hn:h.length=n) {e0 e1 e2 e:Ent}{l:AH}:(h++(e0::e1::e2::l)).set (n+2) e=h++(e0::e1::e::l):=by subst hn;simp
theorem hl2 {h:AH}{n:Nat}(hn:h.length=n) {e0 e1:Ent}:(h++[e0,e1]).length=n+2:=by subst hn;simp
theorem ha2 {h:AH}{e0 e1 e:Ent}:(h++[e0,e1])++[e]=h++[e0,e1,e]:=by simp
theorem hs3 {h:AH}{n:Nat}(hn:h.length=n) {e0 e1 e2 e3 e:Ent}{l:AH}:(h++(e0::e1::e2::e3::l)).set (n+3) e=h++(e0::e1::e2::e::l):=by subst hn;simp
theorem hl3 {h:AH}{n:Nat}(hn:h.length=n) {e0 e1 e2:Ent}:(h++[e0,e1,e2]).length=n+3:=by subst hn;simp
theorem ha3 {h:AH}{e0 e1 e2 e:Ent}:(h++[e0,e1,e2])++[e]=h++[e0,e1,e2,e]:=by simp
theorem hs4 {h:AH}{n:Nat}(hn:h.length=n) {e0 e1 e2 e3 e4 e:Ent}{l:AH}:(h++(e0::e1::e2::e3::e4::l)).set (n+4) e=h++(e0::e1::e2::e3::e::l):=by subst hn;simp
theorem hl4 {h:AH}{n:Nat}(hn:h.length=n) {e0 e1 e2 e3:Ent}:(h++[e0,e1,e2,e3]).length=n+4:=by subst hn;simp
theorem ha4 {h:AH}{e0 e1 e2 e3 e:Ent}:(h++[e0,e1,e2,e3])++[e]=h++[e0,e1,e2,e3,e]:=by simp
theorem hg5 {h:AH}{n:Nat}(hn:h.length=n) {e0 e1 e2 e3 e4 e5:Ent}{l:AH}:(h++(e0::e1::e2::e3::e4::e5::l))[n+5]?=some e5:=by subst hn;simp
theorem hs5 {h:AH}{n:Nat}(hn:h.length=n) {e0 e1 e2 e3 e4 e5 e:Ent}{l:AH}:(h++(e0::e1::e2::e3::e4::e5::l)).set (n+5) e=h++(e0::e1::e2::e3::e4::e::l):=by subst hn;simp
theorem hl5 {h:AH}{n:Nat}(hn:h.length=n) {e0 e1 e2 e3 e4:Ent}:(h++[e0,e1,e2,e3,e4]).length=n+5:=by subst hn;simp
theorem ha5 {h:AH}{e0 e1 e2 e3 e4 e:Ent}:(h++[e0,e1,e2,e3,e4])++[e]=h++[e0,e1,e2,e3,e4,e]:=by simp
theorem hg6 {h:AH}{n:Nat}(hn:h.length=n) {e0 e1 e2 e3 e4 e5 e6:Ent}{l:AH}:(h++(e0::e1::e2::e3::e4::e5::e6::l))[n+6]?=some e6:=by subst hn;simp
theorem hs6 {h:AH}{n:Nat}(hn:h.length=n) {e0 e1 e2 e3 e4 e5 e6 e:Ent}{l:AH}:(h++(e0::e1::e2::e3::e4::e5::e6::l)).set (n+6) e=h++(e0::e1::e2::e3::e4::e5::e::l):=by subst hn;simp
theorem hl6 {h:AH}{n:Nat}(hn:h.length=n) {e0 e1 e2 e3 e4 e5:Ent}:(h++[e0,e1,e2,e3,e4,e5]).length=n+6:=by subst hn;simp
theorem ha6 {h:AH}{e0 e1 e2 e3 e4 e5 e:Ent}:(h++[e0,e1,e2,e3,e4,e5])++[e]=h++[e0,e1,e2,e3,e4,e5,e]:=by simp
theorem hg7 {h:AH}{n:Nat}(hn:h.length=n) {e0 e1 e2 e3 e4 e5 e6 e7:Ent}{l:AH}:(h++(e0::e1::e2::e3::e4::e5::e6::e7::l))[n+7]?=some e7:=by subst hn;simp
theorem hs7 {h:AH}{n:Nat}(hn:h.length=n) {e0 e1 e2 e3 e4 e5 e6 e7 e:Ent}{l:AH}:(h++(e0::e1::e2::e3::e4::e5::e6::e7::l)).set (n+7) e=h++(e0::e1::e2::e3::e4::e5::e6::e::l):=by subst hn;simp
theorem hl7 {h:AH}{n:Nat}(hn:h.length=n) {e0 e1 e2 e3 e4 e5 e6:Ent}:(h++[e0,e1,e2,e3,e4,e5,e6]).length=n+7:=by subst hn;simp
theorem ha7 {h:AH}{e0 e1 e2 e3 e4 e5 e6 e:Ent}:(h++[e0,e1,e2,e3,e4,e5,e6])++[e]=h++[e0,e1,e2,e3,e4,e5,e6,e]:=by simp
theorem hg8 {h:AH}{n:Nat}(hn:h.length=n) {e0 e1 e2 e3 e4 e5 e6 e7 e8:Ent}{l:AH}:(h++(e0::e1::e2::e3::e4::e5::e6::e7::e8::l))[n+8]?=some e8:=by subst hn;simp
theorem hs8 {h:AH}{n:Nat}(hn:h.length=n) {e0 e1 e2 e3 e4 e5 e6 e7 e8 e:Ent}{l:AH}:(h++(e0::e1::e2::e3::e4::e5::e6::e7::e8::l)).set (n+8) e=h++(e0::e1::e2::e3::e4::e5::e6::e7::e::l):=by subst hn;simp
theorem hl8 {h:AH}{n:Nat}(hn:h.length=n) {e0 e1 e2 e3 e4 e5 e6 e7:Ent}:(h++[e0,e1,e2,e3,e4,e5,e6,e7]).length=n+8:=by subst hn;simp
theorem ha8 {h:AH}{e0 e1 e2 e3 e4 e5 e6 e7 e:Ent}:(h++[e0,e1,e2,e3,e4,e5,e6,e7])++[e]=h++[e0,e1,e2,e3,e4,e5,e6,e7,e]:=by simp
theorem hg9 {h:AH}{n:Nat}(hn:h.length=n) {e0 e1 e2 e3 e4 e5 e6 e7 e8 e9:Ent}{l:AH}:(h++(e0::e1::e2::e3::e4::e5::e6::e7::e8::e9::l))[n+9]?=some e9:=by subst hn;simp
theorem hs9 {h:AH}{n:Nat}(hn:h.length=n) {e0 e1 e2 e3 e4 e5 e6 e7 e8 e9 e:Ent}{l:AH}:(h++(e0::e1::e2::e3::e4::e5::e6::e7::e8::e9::l)).set (n+9) e=h++(e0::e1::e2::e3::e4::e5::e6::e7::e8::e::l):=by subst hn;simp
theorem hl9 {h:AH}{n:Nat}(hn:h.length=n) {e0 e1 e2 e3 e4 e5 e6 e7 e8:Ent}:(h++[e0,e1,e2,e3,e4,e5,e6,e7,e8]).length=n+9:=by subst hn;simp
theorem ha9 {h:AH}{e0 e1 e2 e3 e4 e5 e6 e7 e8 e:Ent}:(h++[e0,e1,e2,e3,e4,e5,e6,e7,e8])++[e]=h++[e0,e1,e2,e3,e4,e5,e6,e7,e8,e]:=by simp
theorem dp0 {l:List AV}:(l).drop 0=l:=rfl
theorem dp1 {g:AV}{l:List AV}:(g::l).drop 1=l:=rfl
theorem dp2 {g i:AV}{l:List AV}:(g::i::l).drop 2=l:=rfl
theorem lki {T:List AV}{k:IntKind}{n:Int}:aEval T (.const (.int k n)) = .v (.int k n):=rfl
theorem lkb {T:List AV}{b:Bool}:aEval T (.const (.bool b))=bv b:=rfl
theorem lks {T:List AV}{s:ByteArray}:aEval T (.const (.string s))=sv s:=rfl
theorem lkn {T:List AV}:aEval T (.const (.slice none 0 0)) = .sl 0 0 true []:=rfl
theorem lkf {T:List AV}{f:FuncId}:aEval T (.func f) = .v (.func (.func f) #[] #[]):=rfl
theorem ptn {T:List AV}{c:AV}:aPut T none c=T:=rfl
theorem mp0 {T:List AV}:([]:List Operand).map (aEval T)=[]:=rfl
theorem mp1 {T:List AV}{x:Operand}{a:AV}{xs:List Operand}{ats:List AV}(h:aEval T x=a) (hs:xs.map (aEval T)=ats):(x::xs).map (aEval T)=a::ats:=by rw [List.map_cons,h,hs]
end
end Go.Ab
end
section
namespace Go.Ab
section
variable {P : Program} {n0 : Nat}
theorem AX.thn_mono {N N':List AV→AH→Prop}{Q Q':AX→List AV→AH→Prop}(hn : ∀ T h,N T h→N' T h) (hq : ∀ x T h,Q x T h→Q' x T h) : ∀ x T h,AX.thn N Q x T h→AX.thn N' Q' x T h:=by
 intro x T h hx
 cases x <;> simp only [AX.thn] at hx ⊢ <;> first | exact hn _ _ hx | exact hq _ _ _ hx
theorem aCall_mono {f:AV}{xs:List AV}{h:AH}{R R':AE→AH→Prop}(hr : ∀ r h,R r h→R' r h) (hc:aCall P f xs h R):aCall P f xs h R':=by
 unfold aCall at *
 split
 ·exact ⟨hc.1,hc.2.1,hc.2.2.mono hr⟩
 ·exact hc.mono hr
 ·rename_i h1 h2
  split at hc
  ·exact absurd rfl (h1 _ _ _)
  ·exact absurd rfl (h2 _ _)
  ·exact hc
theorem astep_mono {Kp Kp':AV→List AV→AH→Prop}{K K':List AV→AH→Prop}(hp : ∀ c T h,Kp c T h→Kp' c T h) (hk : ∀ T h,K T h→K' T h) {o:AOper}{T:List AV}{h:AH}(hs:astep P Kp o T h K):astep P Kp' o T h K':=by
 unfold astep at *
 split
 ·rename_i heq
  rw [heq] at hs
  refine aCall_mono ?_ hs
  intro r h' hr
  cases r <;> first | exact hk _ _ hr | exact hp _ _ _ hr
 ·rename_i heq
  rw [heq] at hs
  dsimp only at hs
  split at hs
  ·exact hp _ _ _ hs
  ·exact hs.elim
 ·rename_i heq
  rw [heq] at hs
  dsimp only at hs
  split at hs <;> rename_i hx
  ·exact fun b hb=>hk _ _ (hs b hb)
  ·exact hs.elim
 ·rename_i h1 h2 h3
  have hs':(match aval h (aEval T) o.op with
   | some c=>K (aPut T o.dst c) h
   | none=>match aeff h (aEval T) o.op with
    | some (c,h')=>K (aPut T o.dst c) h'
    | none=>False):=by
   split at hs
   ·rename_i heq;exact absurd heq (h1 _ _)
   ·rename_i heq;exact absurd heq (h2 _)
   ·rename_i heq;exact absurd heq (h3 _ _)
   ·exact hs
  cases hv:aval h (aEval T) o.op with
  | some c=>rw [hv] at hs';exact hk _ _ hs'
  | none =>
   rw [hv] at hs'
   cases hv2:aeff h (aEval T) o.op with
   | some p=>rw [hv2] at hs';exact hk _ _ hs'
   | none=>rw [hv2] at hs';exact hs'
theorem arun_mono {Kp Kp':AV→List AV→AH→Prop}{K K':List AV→AH→Prop}(hp : ∀ c T h,Kp c T h→Kp' c T h) (hk : ∀ T h,K T h→K' T h) : ∀ (l:List AOper) (T:List AV) (h:AH),arun P Kp l T h K→arun P Kp' l T h K'
 | [],T,h,hr=>hk _ _ hr
 | o::l,T,h,hr=>agd_mono (fun b ⟨h1,h2⟩=>⟨fun e=>astep_mono hp (fun T h hr=>arun_mono hp hk l T h hr) (h1 e),fun e=>arun_mono hp hk l _ _ (h2 e)⟩) hr
theorem adstep_mono {rs:List Nat}{K K':List AV→AH→Prop}(hk : ∀ T h,K T h→K' T h) {h0:AH}{o:AOper}{T:List AV}{ents:AH}(hs:adstep P rs h0 o T ents K):adstep P rs h0 o T ents K':=by
 unfold adstep at *
 split
 ·rename_i heq
  rw [heq] at hs
  obtain ⟨c,h1,h2⟩:=hs
  exact ⟨c,h1,hk _ _ h2⟩
 ·rename_i agg sz x heq
  rw [heq] at hs
  dsimp only at hs
  split at hs <;> rename_i hx
  ·split at hs <;> rename_i hy
   ·exact hk _ _ hs
   ·exact hs.elim
  ·obtain ⟨ty,s,cells,c,h1,h2,h3,h4⟩:=hs
   exact ⟨ty,s,cells,c,h1,h2,h3,hk _ _ h4⟩
  ·exact hs.elim
 ·rename_i h1 h1b
  have hs':(match aval h0 (aEval T) o.op with
   | some c=>K (aPut T o.dst c) ents
   | none => ∃ c ent,(aallo (h0.length+ents.length) (aEval T) o.op=some (c,ent)∨aalloI (h0.length+ents.length) (aEval T) o.op=some (c,ent))∧K (aPut T o.dst c) (ents++[ent])):=by
   split at hs
   ·rename_i heq;exact absurd heq (h1 _ _)
   ·rename_i heq;exact absurd heq (h1b _ _ _)
   ·exact hs
  cases hv:aval h0 (aEval T) o.op with
  | some c=>rw [hv] at hs';exact hk _ _ hs'
  | none =>
   rw [hv] at hs'
   obtain ⟨c,ent,h1,h2⟩:=hs'
   exact ⟨c,ent,h1,hk _ _ h2⟩
theorem adrun_mono {rs:List Nat}{K K':List AV→AH→Prop}(hk : ∀ T h,K T h→K' T h) {h0:AH} : ∀ (l:List AOper) (T:List AV) (h:AH),adrun P rs h0 l T h K→adrun P rs h0 l T h K'
 | [],T,h,hr=>hk _ _ hr
 | o::l,T,h,hr=>agd_mono (fun b ⟨h1,h2⟩=>⟨fun e=>adstep_mono (fun T h hr=>adrun_mono hk l T h hr) (h1 e),fun e=>adrun_mono hk l _ _ (h2 e)⟩) hr
theorem astepK_mono {rs:List Nat}{K K':List AV→AH→Prop}(hk : ∀ T h,K T h→K' T h) {o:AOper}{T:List AV}{h:AH}(hs:astepK P rs o T h K):astepK P rs o T h K':=by
 unfold astepK at *
 split
 ·rename_i heq
  rw [heq] at hs
  obtain ⟨c,h',h1,h2,h3⟩:=hs
  exact ⟨c,h',h1,h2,hk _ _ h3⟩
 ·rename_i heq;rw [heq] at hs;exact hs
 ·rename_i heq;rw [heq] at hs;exact hs
 ·rename_i h1 h2 h3
  have hs':(match aval h (aEval T) o.op with
   | some c=>K (aPut T o.dst c) h
   | none=>match aeff h (aEval T) o.op with
    | some (c,h')=>(∀ id∈rs,h'[id]?=h[id]?)∧K (aPut T o.dst c) h'
    | none=>False):=by
   split at hs
   ·rename_i heq;exact absurd heq (h1 _ _)
   ·rename_i heq;exact absurd heq (h2 _)
   ·rename_i heq;exact absurd heq (h3 _ _)
   ·exact hs
  cases hv:aval h (aEval T) o.op with
  | some c=>rw [hv] at hs';exact hk _ _ hs'
  | none =>
   rw [hv] at hs'
   cases hv2:aeff h (aEval T) o.op with
   | some p=>rw [hv2] at hs';exact ⟨hs'.1,hk _ _ hs'.2⟩
   | none=>rw [hv2] at hs';exact hs'
theorem arunK_mono {rs:List Nat}{K K':List AV→AH→Prop}(hk : ∀ T h,K T h→K' T h) : ∀ (q:List Bool) (l:List AOper) (T:List AV) (h:AH),arunK P rs q l T h K→arunK P rs q l T h K'
 | q,[],T,h,hr=>by cases q <;> exact hk _ _ hr
 | q,o::l,T,h,hr=>agd_mono (fun b ⟨h1,h2⟩=>⟨fun e=>astepK_mono (fun T h hr=>arunK_mono hk q.tail l T h hr) (h1 e),fun e=>arunK_mono hk q.tail l _ _ (h2 e)⟩) hr
theorem austep_mono {K K':Bool×List Nat→List AV→AH→Prop}(hk : ∀ t T h,K t T h→K' t T h) {h0:AH}{o:AOper}{T:List AV}{h:AH}(hs:austep P h0 o T h K):austep P h0 o T h K':=by
 unfold austep at *
 split
 ·rename_i heq
  rw [heq] at hs
  rcases hs with ⟨c,a,b⟩ | ⟨c,a,b,d⟩ | ⟨c,n,i,e,a,b,d,k⟩
  ·exact .inl ⟨c,a,hk _ _ _ b⟩
  ·exact .inr (.inl ⟨c,a,b,hk _ _ _ d⟩)
  ·exact .inr (.inr ⟨c,n,i,e,a,b,d,hk _ _ _ k⟩)
 ·rename_i heq;rw [heq] at hs;exact hs
 ·rename_i heq;rw [heq] at hs;exact hs
 ·rename_i heq;rw [heq] at hs;exact hs
 ·rename_i h1 h2 h3 h4
  split at hs
  ·rename_i heq;exact absurd heq (h1 _ _)
  ·rename_i heq;exact absurd heq (h2 _)
  ·rename_i heq;exact absurd heq (h3 _ _)
  ·rename_i heq;exact absurd heq (h4 _ _ _)
  ·rcases hs with ⟨c,a,b⟩ | ⟨c,a,b,d⟩ | ⟨c,n,i,e,a,b⟩ | ⟨c,e,a,b⟩
   ·exact .inl ⟨c,a,hk _ _ _ b⟩
   ·exact .inr (.inl ⟨c,a,b,hk _ _ _ d⟩)
   ·exact .inr (.inr (.inl ⟨c,n,i,e,a,hk _ _ _ b⟩))
   ·exact .inr (.inr (.inr ⟨c,e,a,hk _ _ _ b⟩))
theorem adrunU_mono {K K':List AV→AH→Prop}(hk : ∀ T h,K T h→K' T h) {h0:AH} : ∀ (q:List (List Nat)) (l:List AOper) (tc:List (Bool×List Nat)) (T:List AV) (h:AH),adrunU P h0 q l tc T h K→adrunU P h0 q l tc T h K'
 | q,[],tc,T,h,hr=>by cases q <;> exact hk _ _ hr
 | q,o::l,tc,T,h,hr=>agd_mono (fun b ⟨h1,h2⟩=>⟨fun e=>austep_mono (fun t T h hr=>⟨hr.1,adrunU_mono hk q.tail l _ T h hr.2⟩) (h1 e),fun e=>adrunU_mono hk q.tail l _ _ _ (h2 e)⟩) hr
theorem aw_mono : ∀ (c:AC) {Q Q':AX→List AV→AH→Prop},(∀ x T h,Q x T h→Q' x T h) → ∀ T h,aw P n0 c Q T h→aw P n0 c Q' T h:=by
 intro c
 induction c with
 | skip=>intro Q Q' hq T h hw;exact hq _ _ _ hw
 | reg al=>intro Q Q' hq T h hw;exact arun_mono (fun c T h hk=>hq _ _ _ hk) (fun T h hk=>hq _ _ _ hk) _ _ _ hw
 | drw b q t =>
  intro Q Q' hq T h hw
  obtain ⟨rs,hw⟩:=hw
  exact ⟨rs,adrun_mono (fun T h hk=>arunK_mono (fun T h hk=>hq _ _ _ hk) _ _ _ _ hk) _ _ _ hw⟩
 | drwU q al=>intro Q Q' hq T h hw;exact adrunU_mono (fun T h hk=>hq _ _ _ hk) _ _ _ _ _ hw
 | orPan a x f al d0 iha =>
  intro Q Q' hq T h hw
  rcases hw with hw | ⟨cp,Pp,c,h1,h2,h3⟩
  ·exact .inl (iha hq _ _ hw)
  ·exact .inr ⟨cp,Pp,c,h1,h2,fun T'' h'' hp=>hq _ _ _ (h3 T'' h'' hp)⟩
 | seq a b iha ihb =>
  intro Q Q' hq T h hw
  exact iha (AX.thn_mono (fun T h ⟨T1,h1,hl,hk⟩=>⟨T1,h1,hl,ihb hq _ _ hk⟩) hq) _ _ hw
 | cond c a b iha ihb =>
  intro Q Q' hq T h hw
  simp only [aw] at hw ⊢
  split at hw <;> rename_i hx <;> try (exact hw.elim)
  exact ⟨fun e=>iha hq _ _ (hw.1 e),fun e=>ihb hq _ _ (hw.2 e)⟩
 | block id a iha =>
  intro Q Q' hq T h hw
  refine iha ?_ _ _ hw
  intro x T h hx
  cases x <;> simp only [AX.blk] at hx ⊢ <;> try (exact hq _ _ _ hx)
  split at hx
  ·rename_i e;rw [if_pos e];exact hq _ _ _ hx
  ·rename_i e;rw [if_neg e];exact hq _ _ _ hx
 | loop a iha =>
  intro Q Q' hq T h hw
  obtain ⟨I,n,h0,hr⟩:=hw
  exact ⟨I,n,h0,fun n T h hI=>iha (AX.thn_mono (fun _ _ hk=>hk) hq) _ _ (hr n T h hI)⟩
 | exit id=>intro Q Q' hq T h hw;exact hq _ _ _ hw
 | ret=>intro Q Q' hq T h hw;exact hq _ _ _ hw
def Wk (c d:AV):Prop := ∀ (w:World) (g:Gh) (v:Value),Rep w g c v→Rep w g d v
theorem Wk.refl (c:AV):Wk c c:=fun _ _ _ h=>h
theorem Wk.any (c:AV):Wk c .any:=fun _ _ _ _=>by simp only [Rep]
theorem Wk.trans {a b c:AV}(h:Wk a b) (k:Wk b c):Wk a c:=fun w g v x=>k w g v (h w g v x)
theorem Wk.nil {st st':Nat}{full:Bool}:Wk (.sl 0 st full []) (.sl 0 st' full []):=fun w g v h=>by
 simp only [Rep] at h ⊢
 obtain ⟨_,A,cap,h1,h2,h3,h4,h5,_⟩:=h
 exact ⟨by simp,A,cap,h1,h2,h3,h4,h5,fun h=>absurd rfl h⟩
theorem Wk.full {n st:Nat}{full:Bool}{cs:List AV}:Wk (.sl n st full cs) (.sl n st false cs):=fun w g v h=>by
 simp only [Rep] at h ⊢
 obtain ⟨h0,A,cap,h1,h2,h3,h4,h5,h6⟩:=h
 exact ⟨h0,A,cap,h1,h2,h3,fun h=>(by cases h),h5,h6⟩
theorem Wk.nilF {st st':Nat}{full:Bool}:Wk (.sl 0 st full []) (.sl 0 st' false []):=Wk.nil.trans Wk.full
def WkL:List AV→List AV→Prop
 | [],[]=>True
 | c::cs,d::ds=>Wk c d∧WkL cs ds
 | _,_=>False
theorem WkL.refl : ∀ l,WkL l l
 | []=>trivial
 | c::cs=>⟨Wk.refl c,WkL.refl cs⟩
theorem RepL.wk {w:World}{g:Gh} : ∀ {cs ds:List AV}{vs:List Value},WkL cs ds→RepL w g cs vs→RepL w g ds vs
 | [],[],vs,_,h=>h
 | c::cs,d::ds,vs,hs,h=>by
  simp only [RepL] at h ⊢
  obtain ⟨u,us,e,h1,h2⟩:=h
  exact ⟨u,us,e,hs.1 _ _ _ h1,RepL.wk hs.2 h2⟩
 | [],_::_,_,hs,_=>hs.elim
 | _::_,[],_,hs,_=>hs.elim
theorem Wk.agg {cs ds:List AV}(h:WkL cs ds):Wk (.agg cs) (.agg ds):=fun w g v hr=>by
 simp only [Rep] at hr ⊢
 obtain ⟨vs,e,hc⟩:=hr
 exact ⟨vs,e,hc.wk h⟩
theorem Wk.tup {cs ds:List AV}(h:WkL cs ds):Wk (.tup cs) (.tup ds):=fun w g v hr=>by
 simp only [Rep] at hr ⊢
 obtain ⟨vs,e,hc⟩:=hr
 exact ⟨vs,e,hc.wk h⟩
theorem ALe.wk {T T1:List AV}{h:AH}(hs:WkL T T1):ALe n0 T h T1 h:=fun w0 S0 g0 a w g st=>⟨g,st.tmps.wk hs,st.defers,st.sim,st.fr,st.le,st.bd,st.ow⟩
theorem ACalls.wk {f:FuncId}{as1 bs:List AV}{h:AH}{R:AE→AH→Prop}(hw:WkL as1 bs) (hc:ACalls P f bs h R):ACalls P f as1 h R:=⟨hc.1,fun w g vs hs ha=>hc.2 w g vs hs (ha.wk hw)⟩
section code
variable {Kp : AV → List AV → AH → Prop} {K N : List AV → AH → Prop} {Q : AX → List AV → AH → Prop} {T : List AV} {h : AH} {a b : AC} {i j : Nat}
theorem s_nil (hk:K T h):arun P Kp [] T h K:=hk
theorem d_nil {rs:List Nat}{h0:AH}(hk:K T h):adrun P rs h0 [] T h K:=hk
theorem w_skip (hq:Q .normal T h):aw P n0 .skip Q T h:=hq
theorem w_exit (hq:Q (.exit i) T h):aw P n0 (.exit i) Q T h:=hq
theorem w_rets (hq:Q .ret T h):aw P n0 .ret Q T h:=hq
theorem n_seq (hr:aw P n0 b Q T h):AX.thn (fun T h => ∃ T1 h1,ALe n0 T h T1 h1∧aw P n0 b Q T1 h1) Q .normal T h:=⟨T,h,ALe.refl,hr⟩
theorem n_seqw {T1:List AV}{h1:AH}(hl:ALe n0 T h T1 h1) (hr:aw P n0 b Q T1 h1):AX.thn (fun T h => ∃ T1 h1,ALe n0 T h T1 h1∧aw P n0 b Q T1 h1) Q .normal T h:=⟨T1,h1,hl,hr⟩
theorem n_thn (hr:N T h):AX.thn N Q .normal T h:=hr
theorem n_blk (hr:Q .normal T h):AX.blk i Q .normal T h:=hr
theorem x_thn (hr:Q (.exit i) T h):AX.thn N Q (.exit i) T h:=hr
theorem x_blk (hr:Q .normal T h):AX.blk i Q (.exit i) T h:=by simp only [AX.blk,if_true];exact hr
theorem r_thn (hr:Q .ret T h):AX.thn N Q .ret T h:=hr
theorem r_blk (hr:Q .ret T h):AX.blk i Q .ret T h:=hr
theorem w_condB {c:Operand}{t:Bool}(hc:aEval T c=bv t) (hy:t=true→aw P n0 a Q T h) (hn:t=false→aw P n0 b Q T h):aw P n0 (.cond c a b) Q T h:=by
 simp only [aw,hc]
 exact ⟨hy,hn⟩
theorem set_self {t:Nat}{c:AV}(ht:T[t]?=some c):T.set t c=T:=by
 apply List.ext_getElem?
 intro j
 by_cases hj:j=t
 ·subst hj
  have:j<T.length:=(List.getElem?_eq_some_iff.1 ht).1
  rw [List.getElem?_set_self this,ht]
 ·rw [List.getElem?_set_ne (Ne.symm hj)]
theorem s_splitB {t:Nat}{p:Bool}{T1 T2:List AV}{al:List AOper}(ht:T[t]?=some (bv p)) (hp1:aPut T (some t) (bv true)=T1) (hp2:aPut T (some t) (bv false)=T2) (hy:p=true→arun P Kp al T1 h K) (hn:p=false→arun P Kp al T2 h K):arun P Kp al T h K:=by
 have hs:=set_self ht
 cases p
 ·rw [←hs];have:=hn rfl;rw [←hp2] at this;exact this
 ·rw [←hs];have:=hy rfl;rw [←hp1] at this;exact this
theorem d_splitB {rs:List Nat}{h0:AH}{t:Nat}{p:Bool}{T1 T2:List AV}{al:List AOper}(ht:T[t]?=some (bv p)) (hp1:aPut T (some t) (bv true)=T1) (hp2:aPut T (some t) (bv false)=T2) (hy:p=true→adrun P rs h0 al T1 h K) (hn:p=false→adrun P rs h0 al T2 h K):adrun P rs h0 al T h K:=by
 have hs:=set_self ht
 cases p
 ·rw [←hs];have:=hn rfl;rw [←hp2] at this;exact this
 ·rw [←hs];have:=hy rfl;rw [←hp1] at this;exact this
theorem s_known {t:Nat}{p b:Bool}{T1:List AV}{al:List AOper}(ht:T[t]?=some (bv p)) (hb:p=b) (hp1:aPut T (some t) (bv b)=T1) (hy:arun P Kp al T1 h K):arun P Kp al T h K:=by
 have hs:=set_self ht
 subst hb
 rw [←hs];rw [←hp1] at hy;exact hy
theorem d_known {rs:List Nat}{h0:AH}{t:Nat}{p b:Bool}{T1:List AV}{al:List AOper}(ht:T[t]?=some (bv p)) (hb:p=b) (hp1:aPut T (some t) (bv b)=T1) (hy:adrun P rs h0 al T1 h K):adrun P rs h0 al T h K:=by
 have hs:=set_self ht
 subst hb
 rw [←hs];rw [←hp1] at hy;exact hy
theorem w_condK {c:Operand}{p:Bool}(hc:aEval T c=bv p) (hp:p=true) (hy:aw P n0 a Q T h):aw P n0 (.cond c a b) Q T h:=w_condT (by rw [hc,hp]) hy
theorem w_condKF {c:Operand}{p:Bool}(hc:aEval T c=bv p) (hp:p=false) (hy:aw P n0 b Q T h):aw P n0 (.cond c a b) Q T h:=w_condF (by rw [hc,hp]) hy
theorem w_seqc {ι:Type}(S:ι→List AV×AH) (J:ι→Prop) (ha:aw P n0 a (AX.thn (fun T h => ∃ i,J i∧ALe n0 T h (S i).1 (S i).2) Q) T h) (hb : ∀ i,J i→aw P n0 b Q (S i).1 (S i).2):aw P n0 (.seq a b) Q T h :=
 aw_mono a (AX.thn_mono (fun T h ⟨i,hi,hl⟩=>⟨_,_,hl,hb i hi⟩) (fun _ _ _ hq=>hq)) T h ha
def setsT:List AV→List (Nat×AV)→List AV
 | T,[]=>T
 | T,(k,c)::ps=>setsT (T.set k c) ps
def setsE:AH→List (Nat×Ent)→AH
 | E,[]=>E
 | E,(k,e)::ps=>setsE (E.set k e) ps
theorem w_seqC {b:AC}{E:AH}{h0:AH}{ι:Type}(f:ι→List (Nat×AV)) (g:ι→List (Nat×Ent)) (J:ι→Prop) (ha:aw P n0 a (AX.thn (fun T' h' => ∃ i,J i∧ALe n0 T' h' (setsT T (f i)) (h0++setsE E (g i))) Q) T (h0++E)) (hb : ∀ i,J i→aw P n0 b Q (setsT T (f i)) (h0++setsE E (g i))):aw P n0 (.seq a b) Q T (h0++E) :=
 w_seqc (fun i=>(setsT T (f i),h0++setsE E (g i))) J ha hb
theorem w_loop {E:AH}{h0:AH}{ι:Type}(f:ι→List (Nat×AV)) (g:ι→List (Nat×Ent)) (I:ι→Prop) (m:ι→Nat) (i0:ι) (hI:I i0) (hl:ALe n0 T (h0++E) (setsT T (f i0)) (h0++setsE E (g i0)))
  (round : ∀ i,I i→aw P n0 a (AX.thn (LoopTo n0 (fun i=>(setsT T (f i),h0++setsE E (g i))) I m i) Q) (setsT T (f i)) (h0++setsE E (g i))):aw P n0 (.loop a) Q T (h0++E) :=
 aw_loop (fun i=>(setsT T (f i),h0++setsE E (g i))) I m i0 hI hl round
theorem ALe.back {T T1:List AV}{h0 E E1 x:AH}{k:Nat}(hs:WkL T T1) (he:E=E1++x) (hk:h0.length+E1.length=k) (hn:n0≤k) (hT:AV.ltL k T1=true) (hh : ∀ e∈h0,e.lt k=true) (hE:E1.all (Ent.lt k)=true):ALe n0 T (h0++E) T1 (h0++E1):=by
 subst he hk
 refine (ALe.wk hs).trans ?_
 have hl:(h0++E1).length=h0.length+E1.length:=by simp
 rw [←List.append_assoc]
 refine ALe.cut (by rw [hl];exact hn) (by rw [hl];exact hT) ?_
 rw [hl]
 intro e he
 rcases List.mem_append.1 he with h1 | h1
 ·exact hh e h1
 ·exact List.all_eq_true.1 hE e h1
theorem ALe.same {T T1:List AV}{h h1:AH}(hs:WkL T T1) (he:h=h1):ALe n0 T h T1 h1:=by subst he;exact ALe.wk hs
theorem wk1 {c d:AV}{cs ds:List AV}(h:d=c) (hs:WkL cs ds):WkL (c::cs) (d::ds):=⟨by subst h;exact Wk.refl _,hs⟩
theorem wka {c:AV}{cs ds:List AV}(hs:WkL cs ds):WkL (c::cs) (.any::ds):=⟨Wk.any _,hs⟩
theorem wkw {c d:AV}{cs ds:List AV}(h:Wk c d) (hs:WkL cs ds):WkL (c::cs) (d::ds):=⟨h,hs⟩
theorem wk0:WkL [] []:=trivial
theorem ivx {a b:Int}(h:a=b):iv a=iv b:=by rw [h]
theorem hga {l:AH}{n k:Nat}{e:Ent}(hn:h.length=n) (hk:l[k]?=some e):(h++l)[n+k]?=some e:=by subst hn;rw [List.getElem?_append_right (by omega),Nat.add_sub_cancel_left,hk]
theorem ltw {n m:Nat}(h:n≤m) {l:AH}(hl : ∀ e∈l,e.lt n=true) : ∀ e∈l,e.lt m=true:=fun e he=>Ent.lt_mono h (hl e he)
end code
section run
variable {Kp : AV → List AV → AH → Prop} {K : List AV → AH → Prop} {rest : List AOper} {T T' : List AV} {h h' h0 ents ents' : AH} {d : Option Nat} {op : AOp} {c : AV}
theorem s_callT {f:FuncId}{x:Operand}{xs:List Operand}{as1:List AV}(hf:aEval T x = .v (.func (.func f) #[] #[])) (hx:xs.map (aEval T)=as1) (hc:ACalls P f as1 h fun r h'=>h'=h∧r = .ret c) (hp:aPut T d c=T') (hk:arun P Kp rest T' h K):arun P Kp (⟨d,none,.call x xs⟩::rest) T h K:=by
 subst hp hx
 refine ⟨fun _=>?_,fun h=>by cases h⟩
 simp only [astep,hf,aCall]
 refine ⟨trivial,trivial,hc.mono ?_⟩
 rintro r h' ⟨rfl,rfl⟩
 exact hk
theorem s_callh {f:FuncId}{xs:List Operand}{as1:List AV}(hx:xs.map (aEval T)=as1) (hc:ACalls P f as1 h fun r h''=>r = .ret c∧h''=h') (hp:aPut T d c=T') (hk:arun P Kp rest T' h' K):arun P Kp (⟨d,none,.call (.func f) xs⟩::rest) T h K:=by
 subst hp
 refine s_call hx hc ?_
 rintro r h' ⟨rfl,rfl⟩
 exact hk
theorem s_calls {f:FuncId}{xs:List Operand}{as1:List AV}{e:Ent}{id:Nat}(hx:xs.map (aEval T)=as1) (hc:ACalls P f as1 h fun r h''=>r = .ret c∧h''=h.set id e) (hh:h.set id e=h') (hp:aPut T d c=T') (hk:arun P Kp rest T' h' K):arun P Kp (⟨d,none,.call (.func f) xs⟩::rest) T h K:=by
 subst hp hh
 refine s_call hx hc ?_
 rintro r h' ⟨rfl,rfl⟩
 exact hk
theorem k_calls {m:Bool}{q:List Bool}{rs:List Nat}{f:FuncId}{xs:List Operand}{as1:List AV}{e:Ent}{id:Nat}(hx:xs.map (aEval T)=as1) (hc:ACalls P f as1 h fun r h''=>r = .ret c∧h''=h.set id e) (hh:h.set id e=h') (hr : ∀ id∈(bif m then rs else []),h'[id]?=h[id]?) (hp:aPut T d c=T') (hk:arunK P rs q rest T' h' K):arunK P rs (m::q) (⟨d,none,.call (.func f) xs⟩::rest) T h K:=by
 subst hh
 exact k_call hx hc hr hp hk
end run
section more
variable {Q : AX → List AV → AH → Prop} {T : List AV} {h : AH} {a : AC}
theorem aw_heap {c:AC}{h1:AH}(he:h1=h) (hw:aw P n0 c Q T h1):aw P n0 c Q T h:=by subst he;exact hw
theorem w_loopH {ι:Type}(f:ι→List (Nat×AV)) (H:ι→AH) (I:ι→Prop) (m:ι→Nat) (i0:ι) (hI:I i0) (hl:ALe n0 T h (setsT T (f i0)) (H i0))
  (round : ∀ i,I i→aw P n0 a (AX.thn (LoopTo n0 (fun i=>(setsT T (f i),H i)) I m i) Q) (setsT T (f i)) (H i)):aw P n0 (.loop a) Q T h :=
 aw_loop (fun i=>(setsT T (f i),H i)) I m i0 hI hl round
theorem hx_at {h E:AH}{id:Nat}{e:Ent}(hid:id<h.length):(h.set id e++E)[id]?=some e:=by
 rw [List.getElem?_append_left (by simpa using hid),List.getElem?_set_self hid]
theorem hx_set {h E:AH}{id:Nat}{e e':Ent}(hid:id<h.length):(h.set id e++E).set id e'=h.set id e'++E:=by
 rw [List.set_append_left _ _ (by simpa using hid),List.set_set]
theorem hx_self {h:AH}{id:Nat}{e:Ent}(he:h[id]?=some e):h.set id e=h:=by
 apply List.ext_getElem?
 intro j
 by_cases hj:j=id
 ·subst hj
  have:j<h.length:=(List.getElem?_eq_some_iff.1 he).1
  rw [List.getElem?_set_self this,he]
 ·rw [List.getElem?_set_ne (Ne.symm hj)]
theorem hx_len {h:AH}{id n:Nat}{e:Ent}(hn:h.length=n):(h.set id e).length=n:=by simpa using hn
theorem hx_lt {h:AH}{id n:Nat}{e:Ent}(hlt : ∀ x∈h,x.lt n=true) (he:e.lt n=true) : ∀ x∈h.set id e,x.lt n=true:=by
 intro x hx
 rcases List.mem_or_eq_of_mem_set hx with h1 | rfl
 ·exact hlt x h1
 ·exact he
theorem ALe.iceR {T T':List AV}{h h':AH}{id ver ty s d n:Nat}{cells cs:List AV}(hi:h[id]?=some (.mk ver ty s cells)) (hd:T[d]?=some (.own id ver n)) (hc:cells.take (n*s)=cs) (hl:n*s≤cells.length) (hp:aPut T (some d) (.sl n s false cs)=T') (hh:h.set id .gone=h'):ALe n0 T h T' h':=by
 subst hp hh hc
 exact ALe.ice hi hd hl
theorem ALe.iceCellR {T:List AV}{h h1 h2:AH}{id j ver ty s n k v' t' s':Nat}{cells cs cs' ds:List AV}(hi:h[id]?=some (.mk ver ty s cells)) (hj:h[j]?=some (.mk v' t' s' cs)) (hne:j≠id) (hk:cs[k]?=some (.own id ver n)) (hc:cells.take (n*s)=ds) (hl:n*s≤cells.length) (hp:aPut cs (some k) (.sl n s false ds)=cs') (e1:h.set id .gone=h1) (e2:h1.set j (.mk v' t' s' cs')=h2):ALe n0 T h T h2:=by
 subst e2 e1 hp hc
 exact ALe.iceCell hi hj hne hk hl
theorem ALe.iceCellN {T:List AV}{h h1 h2:AH}{id j ver ty s n n' k v' t' s':Nat}{cells cs cs' ds:List AV}(hi:h[id]?=some (.mk ver ty s cells)) (hj:h[j]?=some (.mk v' t' s' cs)) (hne:j≠id) (hk:cs[k]?=some (.own id ver n)) (hc:cells.take (n*s)=ds) (hl:n*s≤cells.length) (hn:n=n') (hp:aPut cs (some k) (.sl n' s false ds)=cs') (e1:h.set id .gone=h1) (e2:h1.set j (.mk v' t' s' cs')=h2):ALe n0 T h T h2:=by
 subst hn
 exact ALe.iceCellR hi hj hne hk hc hl hp e1 e2
theorem SimH.tell1 {w:World}{g:Gh}{h:AH}(hs:SimH w g h) {id ver ty s k:Nat}{cells:List AV}{c c':AV}(hi:h[id]?=some (.mk ver ty s cells)) (hk:cells[k]?=some c)
  (hc : ∀ b cap u,g.loc id ver=some (some ⟨b,0,none⟩,cap)→w.cell? ⟨b,k,none⟩=some u→Rep w g c u→Rep w g c' u) :
  SimH w g (h.set id (.mk ver ty s (cells.set k c'))) ∧ ∀ j,Ow g (h.set id (.mk ver ty s (cells.set k c'))) j→Ow g h j:=by
 have hid:id<h.length:=(List.getElem?_eq_some_iff.1 hi).1
 have hget : ∀ {i v t s':Nat} {cs:List AV},(h.set id (.mk ver ty s (cells.set k c')))[i]?=some (.mk v t s' cs) → ∃ cs',h[i]?=some (.mk v t s' cs')∧(i≠id→cs'=cs)∧(i=id→v=ver∧cs'=cells∧cs=cells.set k c'):=by
  intro i v t s' cs he
  by_cases hii:i=id
  ·subst hii
   rw [List.getElem?_set_self hid] at he
   cases he
   exact ⟨cells,hi,fun h=>absurd rfl h,fun _=>⟨rfl,rfl,rfl⟩⟩
  ·rw [List.getElem?_set_ne (Ne.symm hii)] at he
   exact ⟨cs,he,fun _=>rfl,fun h=>absurd h hii⟩
 have how : ∀ i j,OwAt g (h.set id (.mk ver ty s (cells.set k c'))) i j→OwAt g h i j:=by
  rintro i j ⟨v,t,s',cs,b,cap,e1,e2,e3,e4⟩
  obtain ⟨cs',f1,_⟩:=hget e1
  exact ⟨v,t,s',cs',b,cap,f1,e2,e3,e4⟩
 refine ⟨⟨?_,fun i j k' h1 h2=>hs.inj i j k' (how i k' h1) (how j k' h2),hs.lt,?_,?_,⟨hs.glob.w,hs.glob.d⟩⟩,fun j ⟨i,hj⟩=>⟨i,how i j hj⟩⟩
 ·intro i v t s' cs he
  obtain ⟨cs',f1,f2,f3⟩:=hget he
  obtain ⟨A,cap,e1,e2,e3⟩:=hs.ent _ _ _ _ _ f1
  refine ⟨A,cap,e1,e2,?_⟩
  by_cases hii:i=id
  ·obtain ⟨rfl,rfl,rfl⟩:=f3 hii
   rcases e3 with ⟨h0,h1⟩ | ⟨b,arr,rfl,x1,x2,x3,x4,x5,x6⟩
   ·rw [h0] at hk;simp at hk
   ·refine .inr ⟨b,arr,rfl,x1,x2,x3,x4,by simpa using x5,?_⟩
    obtain ⟨u,hu,hr⟩:=x6.get hk
    have hcell:w.cell? ⟨b,k,none⟩=some u:=by
     rw [cell_of_row w b k arr t (0,0) x3]
     rw [List.getElem?_take] at hu
     split at hu
     ·simpa using hu
     ·cases hu
    subst hii
    have:=x6.set (k:=k) (hc b cap u e1 hcell hr)
    have hself:(arr.toList.take cs'.length).set k u=arr.toList.take cs'.length:=by
     apply List.ext_getElem?
     intro j
     by_cases hj:j=k
     ·subst hj
      have:j<(arr.toList.take cs'.length).length:=(List.getElem?_eq_some_iff.1 hu).1
      rw [List.getElem?_set_self this,hu]
     ·rw [List.getElem?_set_ne (Ne.symm hj)]
    rw [hself] at this
    simpa using this
  ·rw [←f2 hii];exact e3
 ·intro i v l hl
  have:=hs.fresh i v l hl
  refine ⟨by simpa using this.1,fun v' t s' cs he=>?_⟩
  obtain ⟨cs',f1,_⟩:=hget he
  exact this.2 _ _ _ _ f1
 ·intro i v l hl he
  by_cases hii:i=id
  ·subst hii;rw [List.getElem?_set_self hid] at he;cases he
  ·rw [List.getElem?_set_ne (Ne.symm hii)] at he;exact hs.free _ _ _ hl he
theorem hx2_at1 {h E:AH}{i j:Nat}{e f:Ent}(hne:i≠j) (hi:i<h.length):((h.set i e).set j f++E)[i]?=some e:=by
 rw [List.getElem?_append_left (by simpa using hi),List.getElem?_set_ne (Ne.symm hne),List.getElem?_set_self hi]
theorem hx2_at2 {h E:AH}{i j:Nat}{e f:Ent}(hj:j<h.length):((h.set i e).set j f++E)[j]?=some f:=by
 rw [List.getElem?_append_left (by simpa using hj),List.getElem?_set_self (by simpa using hj)]
theorem hx2_set1 {h E:AH}{i j:Nat}{e f e':Ent}(hne:i≠j) (hi:i<h.length):((h.set i e).set j f++E).set i e'=(h.set i e').set j f++E:=by
 rw [List.set_append_left _ _ (by simpa using hi),List.set_comm _ _ (Ne.symm hne),List.set_set]
theorem hx2_set2 {h E:AH}{i j:Nat}{e f f':Ent}(hj:j<h.length):((h.set i e).set j f++E).set j f'=(h.set i e).set j f'++E:=by
 rw [List.set_append_left _ _ (by simpa using hj),List.set_set]
theorem hx2_self {h:AH}{i j:Nat}{e f:Ent}(he:h[i]?=some e) (hf:h[j]?=some f):(h.set i e).set j f=h:=by
 rw [hx_self he,hx_self hf]
theorem hx2_len {h:AH}{i j n:Nat}{e f:Ent}(hn:h.length=n):((h.set i e).set j f).length=n:=by simpa using hn
theorem hx2_lt {h:AH}{i j n:Nat}{e f:Ent}(hlt : ∀ x∈h,x.lt n=true) (he:e.lt n=true) (hf:f.lt n=true) : ∀ x∈(h.set i e).set j f,x.lt n=true:=hx_lt (hx_lt hlt he) hf
theorem hx_app {h E:AH}{i:Nat}{e:Ent}(he:h[i]?=some e):(h++E)[i]?=some e:=by
 rw [List.getElem?_append_left (List.getElem?_eq_some_iff.1 he).1];exact he
theorem ALe.own0Cell {T:List AV}{h h1:AH}{j v' t' s' k st st' ty id:Nat}{cs ds cs':List AV}(hj:h[j]?=some (.mk v' t' s' cs)) (hk:cs[k]?=some (.sl 0 st true ds)) (hl:h.length=id) (hp:aPut cs (some k) (.own id 0 0)=cs') (he:(h++[Ent.mk 0 ty st' []]:AH).set j (Ent.mk v' t' s' cs')=h1):ALe n0 T h T h1:=fun w0 S0 g0 a w g s=>by
 subst hl he hp
 obtain ⟨A1,cap1,l1,l2,l3⟩:=s.sim.ent _ _ _ _ _ hj
 have hjl:j<h.length:=(List.getElem?_eq_some_iff.1 hj).1
 rcases l3 with ⟨h0,_⟩ | ⟨b,arr,rfl,x1,x2,x3,x4,x5,x6⟩
 ·rw [h0] at hk;simp at hk
 obtain ⟨u,hu,hr⟩:=x6.get hk
 have hcell:w.cell? ⟨b,k,none⟩=some u:=by
  rw [cell_of_row w b k arr t' (0,0) x3]
  rw [List.getElem?_take] at hu
  split at hu
  ·simpa using hu
  ·cases hu
 simp only [Rep] at hr
 obtain ⟨_,A,cap,rfl,_,_,hc,_,_⟩:=hr
 obtain rfl:cap=0:=(hc trivial).symm
 obtain ⟨q1,q2,q3⟩:=s.sim.add0 (w':=w) A ty st' (fun _ _=>rfl) (Nat.le_refl _)
 have htm:=RepL.mono q2 (fun _ _=>rfl) _ _ s.tmps
 obtain ⟨r1,r2⟩:=q1.tell1 (id:=j) (c':=.own h.length 0 0) (by rw [List.getElem?_append_left hjl];exact hj) hk (by
  intro b' cap' u' e1 e2 _
  have:=q2.loc _ _ _ l1
  rw [this] at e1
  simp only [Option.some.injEq,Prod.mk.injEq,Addr.mk.injEq] at e1
  obtain ⟨⟨rfl,_⟩,_⟩:=e1
  rw [hcell] at e2
  cases e2
  exact rep_own_new (Nat.le_refl _) (by simp [maxLen]))
 exact ⟨_,htm,s.defers,r1,s.fr,s.le.trans q2,s.bd,fun i hi=>(q3 i (r2 i hi)).elim (s.ow i) (fun h=>.inr (Nat.le_trans s.fr.size h))⟩
theorem ALe.own0 {T:List AV}{d st st' ty:Nat}{cs:List AV}(hd:T[d]?=some (.sl 0 st true cs)):ALe n0 T h (T.set d (.own h.length 0 0)) (h++[.mk 0 ty st' []]):=fun w0 S0 g0 a w g s=>by
 obtain ⟨u,hu,hr⟩:=s.tmps.get hd
 simp only [Rep] at hr
 obtain ⟨_,A,cap,rfl,_,_,hc,_,_⟩:=hr
 obtain rfl:cap=0:=(hc trivial).symm
 obtain ⟨h1,h2,h3⟩:=s.sim.add0 (w':=w) A ty st' (fun _ _=>rfl) (Nat.le_refl _)
 have htm:=RepL.mono h2 (fun _ _=>rfl) _ _ s.tmps
 have hset:=htm.set (k:=d) (c:=.own h.length 0 0) (u:=.slice A 0 0) (rep_own_new (Nat.le_refl _) (by simp [maxLen]))
 have hself:a.tmps.toList.set d (.slice A 0 0)=a.tmps.toList:=by
  apply List.ext_getElem?
  intro j
  by_cases hj:j=d
  ·subst hj
   have:j<a.tmps.toList.length:=(List.getElem?_eq_some_iff.1 hu).1
   rw [List.getElem?_set_self this,hu]
  ·rw [List.getElem?_set_ne (Ne.symm hj)]
 rw [hself] at hset
 exact ⟨_,hset,s.defers,h1,s.fr,s.le.trans h2,s.bd,fun k hk=>(h3 k hk).elim (s.ow k) (fun h=>.inr (Nat.le_trans s.fr.size h))⟩
theorem ALe.own0' {T T':List AV}{h h':AH}{d st st' ty id:Nat}{cs:List AV}(hd:T[d]?=some (.sl 0 st true cs)) (hl:h.length=id) (hp:aPut T (some d) (.own id 0 0)=T') (hh:h++[.mk 0 ty st' []]=h'):ALe n0 T h T' h':=by
 subst hl hp hh
 exact ALe.own0 hd
end more
end
section
variable {P : Program} {n0 : Nat}
mutual
/-- how long slices are -/
def AV.bd:AV→Prop
 | .sl n _ _ cs=>n≤9223372036854775807∧AV.bdL cs
 | .own _ _ n=>n≤9223372036854775807
 | .rp cs=>AV.bdL cs
 | .agg cs=>AV.bdL cs
 | .tup cs=>AV.bdL cs
 | .clo _ cs=>AV.bdL cs
 | _=>True
def AV.bdL:List AV→Prop
 | []=>True
 | c::cs=>AV.bd c∧AV.bdL cs
end
mutual
theorem Rep.bd {w:World}{g:Gh} : ∀ (c:AV) (y:Value),Rep w g c y→c.bd
 | .v x,y,_=>by simp only [AV.bd]
 | .any,y,_=>by simp only [AV.bd]
 | .sl n st full cells,y,h=>by
  simp only [Rep] at h
  obtain ⟨_,A,cap,h1,h2,h3,h4,h5,h6⟩:=h
  simp only [AV.bd]
  refine ⟨by simp only [maxLen] at h3;omega,?_⟩
  by_cases hc:cells=[]
  ·subst hc;simp only [AV.bdL]
  ·obtain ⟨b,off,_,_,h7⟩:=h6 hc
   exact RepC.bd cells b off h7
 | .own id ver n,y,h=>by
  simp only [Rep] at h
  obtain ⟨A,cap,h1,h2,h3,_⟩:=h
  simp only [AV.bd]
  simp only [maxLen] at h3
  omega
 | .ptr id ver off,y,h=>by simp only [AV.bd]
 | .rp cells,y,h=>by
  simp only [Rep] at h
  obtain ⟨b,off,e,hd,hc⟩:=h
  simp only [AV.bd]
  exact RepC.bd cells b off hc
 | .agg cells,y,h=>by
  simp only [Rep] at h
  obtain ⟨vs,e,hc⟩:=h
  simp only [AV.bd]
  exact RepL.bd cells _ hc
 | .tup cells,y,h=>by
  simp only [Rep] at h
  obtain ⟨vs,e,hc⟩:=h
  simp only [AV.bd]
  exact RepL.bd cells _ hc
 | .clo fn cells,y,h=>by
  simp only [Rep] at h
  obtain ⟨vs,e,hc⟩:=h
  simp only [AV.bd]
  exact RepL.bd cells _ hc
theorem RepC.bd {w:World}{g:Gh} : ∀ (cs:List AV) (b off:Nat),RepC w g cs b off→AV.bdL cs
 | [],_,_,_=>by simp only [AV.bdL]
 | c::cs,b,off,h=>by
  simp only [RepC] at h
  obtain ⟨⟨u,h1,h2⟩,h3⟩:=h
  simp only [AV.bdL]
  exact ⟨Rep.bd c u h2,RepC.bd cs b (off+1) h3⟩
theorem RepL.bd {w:World}{g:Gh} : ∀ (cs:List AV) (vs:List Value),RepL w g cs vs→AV.bdL cs
 | [],_,_=>by simp only [AV.bdL]
 | c::cs,vs,h=>by
  simp only [RepL] at h
  obtain ⟨u,us,e,h1,h2⟩:=h
  simp only [AV.bdL]
  exact ⟨Rep.bd c u h1,RepL.bd cs us h2⟩
end
theorem ACalls.into {f:FuncId}{af:AF}(hc:compF P f=some af) {args T0:List AV}{h:AH}{R:AE→Prop}(hT:args++List.replicate (af.ntmps-args.length) .any=T0)
  (hw : ∀ n,h.length=n→(∀ e∈h,e.lt n=true)→AV.ltL n args=true→AV.bdL args→aw P n af.code (retA af.res fun x h' => ∃ z,h'=h++z∧x.lt n=true∧R x) T0 (h++[])):ACalls P f args h fun x h'=>h'=h∧R x:=by
 subst hT
 exact ⟨enters_of_compF hc,fun w g vs hs ha=>(ACalls.enter (R:=R) hc fun n h1 h2 h3=>hw n h1 h2 h3 (RepL.bd _ _ ha)).2 w g vs hs ha⟩
theorem ACalls.intoG {f:FuncId}{af:AF}(hc:compF P f=some af) {args T0:List AV}{h:AH}{R:AE→AH→Prop}(hT:args++List.replicate (af.ntmps-args.length) .any=T0)
  (hw : ∀ n,h.length=n→(∀ e∈h,e.lt n=true)→AV.ltL n args=true→AV.bdL args→aw P n af.code (retA af.res fun x h' => ∃ y z,h'=y++z∧y.length=n∧(∀ e∈y,e.lt n=true)∧x.lt n=true∧R x y) T0 (h++[])):ACalls P f args h R:=by
 subst hT
 exact ⟨enters_of_compF hc,fun w g vs hs ha=>(ACalls.enterG (R:=R) hc fun n h1 h2 h3=>hw n h1 h2 h3 (RepL.bd _ _ ha)).2 w g vs hs ha⟩
theorem ACalls.weak {f:FuncId}{args:List AV}{h:AH}{res:AV}(hc:ACalls P f args h fun x h'=>h'=h ∧ ∃ c,x = .ret c∧Wk c res):ACalls P f args h fun x h'=>h'=h∧x = .ret res:=by
 refine ⟨hc.1,fun w g vs hs ha=>(hc.2 w g vs hs ha).mono ?_⟩
 rintro e w' ⟨x,h',g',h1,h2,h3,h4,h5,rfl,c,rfl,hw⟩
 refine ⟨.ret res,_,g',?_,h2,h3,h4,h5,rfl,rfl⟩
 cases e <;> simp only [EndR] at h1 ⊢
 exact hw _ _ _ h1
theorem rtw {n:Nat}{h E:AH}{c res:AV}(hl:c.lt n=true) (he:Wk c res) : ∃ z,h++E=h++z∧(AE.ret c).lt n=true ∧ ∃ d,AE.ret c = .ret d∧Wk d res:=⟨E,rfl,hl,c,rfl,he⟩
theorem rt {n:Nat}{h E:AH}{c res:AV}(hl:c.lt n=true) (he:c=res) : ∃ z,h++E=h++z∧(AE.ret c).lt n=true∧AE.ret c = .ret res:=⟨E,rfl,hl,by rw [he]⟩
section
variable {T : List AV} {h : AH} {x y i : Operand} {c : AV}
theorem cvl {cs:List AV}(hx:aEval T x=c) (hc:cellsV c=some cs):cellsV (aEval T x)=some cs:=by rw [hx];exact hc
theorem oi {τ:Operand→AV}{d:Int}{k:IntKind}{j:Int}(hx:τ x = .v (.int k j)):optInt τ d (some x)=some j:=by simp only [optInt,hx]
theorem on_ {τ:Operand→AV}{d:Int}:optInt τ d none=some d:=rfl
theorem v_notB {b:Bool}(hx:aEval T x=bv b):aval h (aEval T) (.un .not x)=some (bv (!b)):=by simp only [aval,hx]
theorem v_eqsT {b:Bool}{ks:List LK}{cs ds:List AV}(hx:aEval T x = .agg cs) (hy:aEval T y = .agg ds) (he:eqCells ks cs ds=some b):aval h (aEval T) (.eqs false ks x y)=some (bv b):=v_eqs hx hy he
theorem v_eqsN {p:Prop} [Decidable p] {ks:List LK}{cs ds:List AV}(hx:aEval T x = .agg cs) (hy:aEval T y = .agg ds) (he:eqCells ks cs ds=some (decide p)):aval h (aEval T) (.eqs true ks x y)=some (bv (decide (¬p))):=by
 rw [v_eqs hx hy he]
 by_cases hp:p <;> simp [hp]
theorem v_eqbN {a b:Bool}(hx:aEval T x=bv a) (hy:aEval T y=bv b):aval h (aEval T) (.eqb true x y)=some (bv (decide (a≠b))):=by
 rw [v_eqb hx hy]
 cases a <;> cases b <;> rfl
theorem sc_sl {m st sz:Nat}{full:Bool}{cs:List AV}(hx:aEval T x = .sl m st full cs) (hl:cs.length=m*sz):srcCells h sz (aEval T x)=some (m,cs):=by
 simp only [srcCells,hx,rowsAt,if_pos hl]
theorem sc_own {id v m ty st sz:Nat}{cells cs:List AV}(hx:aEval T x = .own id v m) (he:h[id]?=some (.mk v ty st cells)) (hs:st=sz) (hc:cells.take (m*sz)=cs) (hl:m*sz≤cells.length):srcCells h sz (aEval T x)=some (m,cs):=by
 subst hc hs
 have:(cells.take (m*st)).length=m*st:=by rw [List.length_take];omega
 simp only [srcCells,hx,rowsAt,he,if_pos (And.intro trivial hl),if_pos this]
def rows {α:Type}(f:α→List AV) (l:List α):List AV:=l.flatMap f
theorem rows_len {α:Type}{f:α→List AV}{st:Nat}(hf : ∀ x,(f x).length=st) : ∀ l,(rows f l).length=l.length*st
 | []=>by simp [rows]
 | x::l=>by
  have:=rows_len hf l
  simp only [rows] at this
  simp only [rows,List.flatMap_cons,List.length_append,hf,this,List.length_cons,Nat.add_mul,Nat.one_mul]
  omega
theorem rows_drop {α:Type}{f:α→List AV}{st:Nat}(hf : ∀ x,(f x).length=st) : ∀ (k:Nat) (l:List α),(rows f l).drop (k*st)=rows f (l.drop k)
 | 0,l=>by simp
 | k+1,[]=>by simp [rows]
 | k+1,x::l=>by
  have:=rows_drop hf k l
  simp only [rows] at this
  simp only [rows,List.flatMap_cons,List.drop_succ_cons]
  rw [Nat.add_mul,Nat.one_mul,Nat.add_comm,←List.drop_drop,←hf x,List.drop_left,hf x]
  exact this
theorem rows_at {α:Type}{f:α→List AV}{st:Nat}(hf : ∀ x,(f x).length=st) {l:List α}{k:Nat}(hk:k<l.length):((rows f l).drop (k*st)).take st=f l[k]:=by
 rw [rows_drop hf,List.drop_eq_getElem_cons hk]
 simp only [rows,List.flatMap_cons]
 rw [←hf l[k],List.take_left]
theorem rows_app {α:Type}{f:α→List AV}(l m:List α):rows f (l++m)=rows f l++rows f m:=by simp [rows]
theorem rows_one {α:Type}{f:α→List AV}(x:α):rows f [x]=f x:=by simp [rows]
theorem rows_lt {α:Type}{f:α→List AV}(hf : ∀ n x,AV.ltL n (f x)=true) {n:Nat} : ∀ l,AV.ltL n (rows f l)=true
 | []=>rfl
 | x::l=>by
  have:=rows_lt hf (n:=n) l
  simp only [rows] at this
  simp only [rows,List.flatMap_cons]
  have key : ∀ a b:List AV,AV.ltL n a=true→AV.ltL n b=true→AV.ltL n (a++b)=true:=by
   intro a
   induction a with
   | nil=>intro b _ hb;exact hb
   | cons c cs ih=>intro b ha hb;simp only [AV.ltL,List.cons_append,Bool.and_eq_true] at ha ⊢;exact ⟨ha.1,ih b ha.2 hb⟩
  exact key _ _ (hf n x) this
theorem rows_leaf {α:Type}{f:α→List AV}(hf : ∀ x,(f x).all leaf=true) : ∀ l,(rows f l).all leaf=true
 | []=>rfl
 | x::l=>by
  have:=rows_leaf hf l
  simp only [rows] at this
  simp only [rows,List.flatMap_cons,List.all_append,hf x,this,Bool.and_self]
theorem v_iaR {α:Type}{f:α→List AV}{st n k:Nat}{full:Bool}{l:List α}{j:Int}{kd:IntKind}{ds:List AV}(hx:aEval T x = .sl n st full (rows f l)) (hi:aEval T i = .v (.int kd j)) (hf : ∀ x,(f x).length=st) (hst:0<st) (hj:j=(k:Int)) (hk:k<l.length) (hn:n=l.length) (hd:f l[k]=ds):aval h (aEval T) (.ia st x i)=some (.rp ds):=by
 subst hj hn hd
 exact v_ia hx hi hst (by omega) (by omega) (by rw [Int.toNat_natCast];exact rows_at hf hk)
theorem v_lo {α:Type}{f:α→List AV}{st n k:Nat}{full:Bool}{l:List α}{j:Int}{kd:IntKind}{lo:Operand}(hx:aEval T x = .sl n st full (rows f l)) (hi:aEval T lo = .v (.int kd j)) (hf : ∀ x,(f x).length=st) (hj:j=(k:Int)) (hk:k≤l.length) (hn:n=l.length) :
  aval h (aEval T) (.slc st x (some lo) none none)=some (.sl (l.drop k).length st full (rows f (l.drop k))):=by
 subst hj hn
 rw [v_slc hx (oi hi) on_ (by omega) (by omega) (by omega)]
 simp only [Int.toNat_natCast,decide_true,Bool.and_true,rows_drop hf,List.length_drop]
 congr 2
 rw [List.take_of_length_le]
 rw [rows_len hf,List.length_drop]
 exact Nat.le_refl _
theorem byteAt_get {s:ByteArray}{k:Nat}(hk:k<s.size):byteAt s k=s[k]:=by
 unfold byteAt
 rw [List.getD_eq_getElem?_getD,List.getElem?_eq_getElem (by simpa using hk)]
 rfl
theorem rr_t {t:Nat}(ht:T[t]?=some c):aRes1 T h (.tmp t)=some c:=ht
theorem rr_c {t id v o ty s sz:Nat}{agg:Bool}{cells:List AV}(ht:T[t]?=some (.ptr id v o)) (he:h[id]?=some (.mk v ty s cells)) (hl:loadAV agg sz (cells.drop o)=some c):aRes1 T h (.cell t agg sz)=some c:=by
 simp only [aRes1,ht,cellsAt,he,if_true,Option.bind_some,hl]
theorem ld0 {sz:Nat}{l:List AV}{o:Nat}(hc:l[o]?=some c):loadAV false sz (l.drop o)=some c:=by
 have:l.drop o=c::l.drop (o+1):=by
  obtain ⟨hlt,rfl⟩:=List.getElem?_eq_some_iff.1 hc
  exact List.drop_eq_getElem_cons hlt
 rw [this];rfl
theorem ld1 {sz:Nat}{l cs:List AV}{o:Nat}(hc:(l.drop o).take sz=cs) (hl:cs.length=sz):loadAV true sz (l.drop o)=some (.agg cs):=by
 subst hc
 rw [List.length_take] at hl
 simp only [loadAV]
 rw [if_pos (by omega)]
theorem rm0:([]:List AR).mapM (aRes1 T h)=some []:=rfl
theorem rm1 {r:AR}{rs:List AR}{cs:List AV}(h1:aRes1 T h r=some c) (h2:rs.mapM (aRes1 T h)=some cs):(r::rs).mapM (aRes1 T h)=some (c::cs):=by
 simp only [List.mapM_cons,h1,h2];rfl
theorem rs1 {r:AR}(h1:aRes1 T h r=some c):aRes [r] T h=some c:=by simp only [aRes,rm1 h1 rm0]
theorem rsn {rs:List AR}{c1 c2:AV}{cs:List AV}(hm:rs.mapM (aRes1 T h)=some (c1::c2::cs)):aRes rs T h=some (.tup (c1::c2::cs)):=by simp only [aRes,hm]
theorem rs0:aRes [] T h=some (.tup []):=rfl
end
section
variable {Kp : AV → List AV → AH → Prop} {K : List AV → AH → Prop} {Q : AX → List AV → AH → Prop} {T : List AV} {h h0 E E' ents : AH}
theorem w_drwE {bl tl:List AOper}{q:List Bool}(hr:adrun P [] (h0++E) bl T [] fun T ents=>arun P (fun c T h=>Q (.pan c) T h) tl T (h0++(E++ents)) (fun T h=>Q .normal T h)) (hn:tl.all noCall=true:=by rfl):aw P n0 (.drw bl q tl) Q T (h0++E):=by
 refine w_drw (rs:=[]) (adrun_mono ?_ _ _ _ hr)
 intro T ents hk
 rw [List.append_assoc];exact k_of_s hn hk
theorem w_drwR (rs:List Nat) {bl tl:List AOper}{q:List Bool}(hr:adrun P rs (h0++E) bl T [] fun T ents=>arunK P rs q tl T (h0++(E++ents)) (fun T h=>Q .normal T h)):aw P n0 (.drw bl q tl) Q T (h0++E):=by
 refine w_drw (rs:=rs) (adrun_mono ?_ _ _ _ hr)
 intro T ents hk
 rw [List.append_assoc];exact hk
theorem k_e_nil {rs:List Nat}{q:List Bool}{tl:List AOper}(hr:arunK P rs q tl T (h0++E) K):arunK P rs q tl T (h0++(E++[])) K:=by rw [List.append_nil];exact hr
theorem k_e_ent {rs:List Nat}{q:List Bool}{tl:List AOper}(he:E++ents=E') (hr:arunK P rs q tl T (h0++E') K):arunK P rs q tl T (h0++(E++ents)) K:=by rw [he];exact hr
theorem e_nil {tl:List AOper}(hr:arun P Kp tl T (h0++E) K):arun P Kp tl T (h0++(E++[])) K:=by rw [List.append_nil];exact hr
theorem e_ent {tl:List AOper}(he:E++ents=E') (hr:arun P Kp tl T (h0++E') K):arun P Kp tl T (h0++(E++ents)) K:=by rw [he];exact hr
theorem hlk {n k:Nat}(hn:h.length=n) (hk:E.length+ents.length=k):(h++E).length+ents.length=n+k:=by subst hn hk;simp;omega
end
end
section
variable {K : List AV → AH → Prop} {Q : AX → List AV → AH → Prop} {T T' : List AV} {h h' h0 : AH} {q : List (List Nat)} {tc : List (Bool × List Nat)} {rest : List AOper} {d : Option Nat} {op : AOp} {c : AV} {P : Program} {n0 : Nat}
theorem w_orl {a:AC}{x:Operand}{f:FuncId}{al:List AOper}{d0:Nat}(hr:aw P n0 a Q T h):aw P n0 (.orPan a x f al d0) Q T h:=.inl hr
theorem w_orp {a:AC}{x:Operand}{f:FuncId}{al:List AOper}{d0:Nat}{cp:AV}{Pp:AH→Prop}(hc:ACalls P f [c] h fun r h''=>r = .pan cp∧Pp h'') (hr:adrun P [] h al T [] fun T' ents=>ents=[]∧T'[d0]?=some c) (hQ : ∀ (T'':List AV) (h'':AH),Pp h''→Q (.pan cp) T'' h''):aw P n0 (.orPan a x f al d0) Q T h:=.inr ⟨cp,Pp,c,hr,hc,hQ⟩
theorem w_drwU {al:List AOper}(hr:adrunU P h q al [] T h fun T h=>Q .normal T h):aw P n0 (.drwU q al) Q T h:=hr
def plainU (op:AOp):Bool:=match op with
 | .call _ _=>false
 | .panic _=>false
 | .eqn _ _=>false
 | .loadR _ _ _=>false
 | _=>true
theorem austep_of {gd : Option (Nat × Bool)} {K : Bool × List Nat → List AV → AH → Prop} (hn : plainU op = true) (hk : (∃ c, aval [] (aEval T) op = some c ∧ K (false, []) (aPut T d c) h) ∨
      (∃ c,aval h0 (aEval T) op=some c∧HExt h0 h∧K (true,List.range h0.length) (aPut T d c) h) ∨
      (∃ c need id e2,aupd h (aEval T) op=some (c,need,id,e2)∧K (false,need.map (·.1)) (aPut T d c) (h.set id e2)) ∨
      ∃ c ent,(aallo h.length (aEval T) op=some (c,ent)∨aalloI h.length (aEval T) op=some (c,ent))∧K (false,[h.length]) (aPut T d c) (h++[ent])):austep P h0 ⟨d,gd,op⟩ T h K:=by
  cases op <;> first | exact hk | cases hn
theorem u_nil (hk:K T h):adrunU P h0 q [] tc T h K:=hk
theorem u_fr (hn:plainU op=true) (hv:aval [] (aEval T) op=some c) (hp:aPut T d c=T') (hk:adrunU P h0 q.tail rest (tc++[(false,[])]) T' h K):adrunU P h0 q (⟨d,none,op⟩::rest) tc T h K:=by
 subst hp
 exact ⟨fun _=>austep_of hn (.inl ⟨c,hv,fun i _=>.inr fun x _=>by simp,hk⟩),fun h=>by cases h⟩
theorem u_rd (hn:plainU op=true) (hv:aval h0 (aEval T) op=some c) (hx:HExt h0 h) (hc : ∀ i∈q.headD [],noHit (tc.getD i (false,[])) (true,List.range h0.length)) (hp:aPut T d c=T') (hk:adrunU P h0 q.tail rest (tc++[(true,List.range h0.length)]) T' h K):adrunU P h0 q (⟨d,none,op⟩::rest) tc T h K:=by
 subst hp
 exact ⟨fun _=>austep_of hn (.inr (.inl ⟨c,hv,hx,hc,hk⟩)),fun h=>by cases h⟩
theorem u_st {sz id v off:Nat}{p x:Operand}(he:aeff h (aEval T) (.store sz p x)=some (c,h')) (hp':aEval T p = .ptr id v off) (hc : ∀ i∈q.headD [],noHit (tc.getD i (false,[])) (false,[id])) (hp:aPut T d c=T') (hk:adrunU P h0 q.tail rest (tc++[(false,[id])]) T' h' K):adrunU P h0 q (⟨d,none,.store sz p x⟩::rest) tc T h K:=by
 subst hp
 refine ⟨fun _=>austep_of rfl (.inr (.inr (.inl ?_))),fun h=>by cases h⟩
 simp only [aeff,hp'] at he
 split at he <;> try (cases he;done)
 rename_i e1 cs hid hcs
 cases hid
 split at he <;> try (cases he;done)
 rename_i v' ty s cells hcell
 split at he <;> try (cases he;done)
 rename_i hcond
 cases he
 exact ⟨_,[(_,.mk v' ty s cells)],_,_,by simp only [aupd,hp',hcs,hcell];rw [if_pos hcond],hc,hk⟩
theorem u_ap {ty sz bytes id v n:Nat}{s x:Operand}{t:List Nat}(he:aeff h (aEval T) (.app ty sz bytes s x)=some (c,h')) (hs:aEval T s = .own id v n) (ht:id::(srcNeed h (aEval T x)).map (·.1)=t) (hc : ∀ i∈q.headD [],noHit (tc.getD i (false,[])) (false,t)) (hp:aPut T d c=T') (hk:adrunU P h0 q.tail rest (tc++[(false,t)]) T' h' K):adrunU P h0 q (⟨d,none,.app ty sz bytes s x⟩::rest) tc T h K:=by
 subst hp ht
 refine ⟨fun _=>austep_of rfl (.inr (.inr (.inl ?_))),fun h=>by cases h⟩
 simp only [aeff,hs] at he
 split at he <;> try (cases he;done)
 rename_i m news hsrc
 split at he <;> try (cases he;done)
 rename_i v' ty' st cells hcell
 split at he <;> try (cases he;done)
 rename_i hcond
 cases he
 exact ⟨_,(_,.mk v' ty' st cells)::srcNeed h (aEval T x),_,_,by simp only [aupd,hs,hsrc,hcell];rw [if_pos hcond],hc,hk⟩
theorem u_al {id:Nat} (hk1:(match op with | .new _ _ _=>true | .box _ _ _=>true | .lit _ _ _ _ _=>true | _=>false)=true) (he:aeff h (aEval T) op=some (c,h')) (hl:h.length=id) (hc : ∀ i∈q.headD [],noHit (tc.getD i (false,[])) (false,[id])) (hp:aPut T d c=T') (hk:adrunU P h0 q.tail rest (tc++[(false,[id])]) T' h' K):adrunU P h0 q (⟨d,none,op⟩::rest) tc T h K:=by
 subst hp hl
 cases op <;> simp only at hk1 <;> try (cases hk1;done)
 all_goals refine ⟨fun _=>austep_of rfl (.inr (.inr (.inr ?_))),fun h=>by cases h⟩
 all_goals simp only [aeff] at he
 ·cases he
  exact ⟨_,_,.inl rfl,hc,hk⟩
 ·split at he <;> try (cases he;done)
  rename_i cs hcs
  split at he <;> try (cases he;done)
  rename_i hsz
  cases he
  exact ⟨_,_,.inl (by simp only [aallo,hcs];rw [if_pos hsz]),hc,hk⟩
 ·split at he <;> try (cases he;done)
  rename_i cs hcs
  cases he
  exact ⟨_,_,.inl (by simp only [aallo,hcs]),hc,hk⟩
theorem hx_l {E F E':AH}(he:E++F=E'):HExt (h++E) (h++E'):=by subst he;rw [←List.append_assoc];exact HExt.append _ _
theorem u_callU {f:FuncId}{xs:List Operand}{as1:List AV}{id:Nat}{e e2:Ent}(hx:xs.map (aEval T)=as1) (he:h[id]?=some e) (hc : ∀ h,h[id]?=some e→ACalls P f as1 h fun r h'=>r = .ret c∧h'=h.set id e2) (hh : ∀ i∈q.headD [],noHit (tc.getD i (false,[])) (false,[id])) (hs:h.set id e2=h') (hp:aPut T d c=T') (hk:adrunU P h0 q.tail rest (tc++[(false,[id])]) T' h' K):adrunU P h0 q (⟨d,none,.call (.func f) xs⟩::rest) tc T h K:=by
 subst hp hs hx
 unfold adrunU agd
 refine ⟨fun _=>?_,fun h=>by cases h⟩
 exact .inr (.inr ⟨c,[(id,e)],id,e2,fun h hn=>⟨rfl,rfl,(hc h (hn (id,e) (by simp))).mono fun r h' hr=>⟨hr.2,hr.1⟩⟩,fun p hp=>by simp at hp;subst hp;exact he,⟨e,by simp⟩,hh,hk⟩)
theorem u_rdn {n:Nat}(hn:plainU op=true) (hv:aval h0 (aEval T) op=some c) (hx:HExt h0 h) (hl:h0.length=n) (hc : ∀ i∈q.headD [],noHit (tc.getD i (false,[])) (true,List.range n)) (hp:aPut T d c=T') (hk:adrunU P h0 q.tail rest (tc++[(true,List.range n)]) T' h K):adrunU P h0 q (⟨d,none,op⟩::rest) tc T h K:=by
 subst hl;exact u_rd hn hv hx hc hp hk
theorem u_apS {ty sz bytes id v n m st:Nat}{full:Bool}{cs:List AV}{s x:Operand}(he:aeff h (aEval T) (.app ty sz bytes s x)=some (c,h')) (hs:aEval T s = .own id v n) (hy:aEval T x = .sl m st full cs) (hc : ∀ i∈q.headD [],noHit (tc.getD i (false,[])) (false,[id])) (hp:aPut T d c=T') (hk:adrunU P h0 q.tail rest (tc++[(false,[id])]) T' h' K):adrunU P h0 q (⟨d,none,.app ty sz bytes s x⟩::rest) tc T h K :=
 u_ap he hs (by rw [hy];rfl) hc hp hk
end
end Go.Ab
end
section
namespace Go.Ab
section
theorem lt' {p:Prop}(h:p:=by first | rfl | (simp only [AV.lt,AV.ltL,Ent.lt,List.all_cons,List.all_nil,Bool.and_true,Bool.and_self,decide_true];done) | (simp [AV.lt,AV.ltL,Ent.lt, *];done) | (simp [AV.lt,AV.ltL,Ent.lt, *];omega)):p:=h
theorem rT' {n:Nat}{h E:AH}{c res:AV}(he:c=res) (hl:c.lt n=true:=by exact lt') : ∃ z,h++E=h++z∧(AE.ret c).lt n=true∧AE.ret c = .ret res:=rt hl he
theorem rtW' {n:Nat}{h E:AH}{c res:AV}(he:Wk c res) (hl:c.lt n=true:=by exact lt') : ∃ z,h++E=h++z∧(AE.ret c).lt n=true ∧ ∃ d,AE.ret c = .ret d∧Wk d res:=rtw hl he
theorem wA' {cs ds:List AV}(h:WkL cs ds:=by repeat (first | exact wk0 | refine wka ?_ | refine wk1 rfl ?_ | refine wk1 (by first | exact ivx (by omega) | (simp;done)) ?_)):WkL cs ds:=h
theorem z' {α:Type}{x b:α}{l:List α}:(x::l).set 0 b=b::l:=rfl
theorem s' {α:Type}{x b:α}{n:Nat}{l:List α}:(x::l).set (n+1) b=x::l.set n b:=rfl
theorem la' {α:Type}{x:α}{l m:List α}:(x::l)++m=x::(l++m):=rfl
theorem ln' {α:Type}{m:List α}:[]++m=m:=rfl
def rn' (a:Nat):Nat→List (Nat×AV)
 | 0=>[]
 | k+1=>(a,.any)::rn' (a+1) k
def tA':List AV→Nat→List AV
 | _,0=>[]
 | x::l,m+1=>x::tA' l m
 | [],m+1=>.any::tA' [] m
theorem tA'_eq : ∀ (l:List AV) (m:Nat),l.length≤m→l++List.replicate (m-l.length) .any=tA' l m
 | [],0,_=>rfl
 | [],m+1,_=>by
  have:=tA'_eq [] m (Nat.zero_le _)
  simp only [List.nil_append,List.length_nil,Nat.sub_zero] at this ⊢
  rw [List.replicate_succ,this];rfl
 | x::l,0,h=>by simp at h
 | x::l,m+1,h=>by
  have:=tA'_eq l m (by simpa using h)
  simp only [List.cons_append,List.length_cons,Nat.add_sub_add_right,this];rfl
variable {P : Program} {f : FuncId} {c : AC} {rs : List AR} {m : Nat} {args : List AV} {h : AH}
theorem tI' {R:AE→Prop}(hc:compF P f=some ⟨c,rs,m⟩) (hw : ∀ n,h.length=n→(∀ e∈h,e.lt n=true)→AV.ltL n args=true→AV.bdL args→aw P n c (retA rs fun x h' => ∃ z,h'=h++z∧x.lt n=true∧R x) (tA' args m) (h++[])) (hl:Nat.ble args.length m=true:=by rfl):ACalls P f args h fun x h'=>h'=h∧R x :=
 ACalls.into hc (tA'_eq _ _ (Nat.le_of_ble_eq_true hl)) hw
theorem tW' {res:AV}(hc:compF P f=some ⟨c,rs,m⟩) (hw : ∀ n,h.length=n→(∀ e∈h,e.lt n=true)→AV.ltL n args=true→AV.bdL args→aw P n c (retA rs fun x h' => ∃ z,h'=h++z∧x.lt n=true ∧ ∃ c,x = .ret c∧Wk c res) (tA' args m) (h++[])) (hl:Nat.ble args.length m=true:=by rfl):ACalls P f args h fun x h'=>h'=h∧x = .ret res :=
 ACalls.weak (tI' hc hw hl)
theorem tJ' {R:AE→AH→Prop}(hc:compF P f=some ⟨c,rs,m⟩) (hw : ∀ n,h.length=n→(∀ e∈h,e.lt n=true)→AV.ltL n args=true→AV.bdL args→aw P n c (retA rs fun x h' => ∃ y z,h'=y++z∧y.length=n∧(∀ e∈y,e.lt n=true)∧x.lt n=true∧R x y) (tA' args m) (h++[])) (hl:Nat.ble args.length m=true:=by rfl):ACalls P f args h R :=
 ACalls.intoG hc (tA'_eq _ _ (Nat.le_of_ble_eq_true hl)) hw
end
section
variable {P : Program} {n0 : Nat} {T T1 : List AV} {a : AC} {Q : AX → List AV → AH → Prop}
theorem bkE' {h0 E E1 x:AH}{N:Nat}(K:Nat) (hn:h0.length=N) (hh : ∀ e∈h0,e.lt N=true) (hs:WkL T T1) (he:E=E1++x:=by rfl) (hT:AV.ltL (N+K) T1=true:=by exact lt') (hE:E1.all (Ent.lt (N+K))=true:=by exact lt') (hK:E1.length=K:=by rfl) (h0':n0≤N+K:=by omega):ALe n0 T (h0++E) T1 (h0++E1) :=
 ALe.back hs he (by rw [hn,hK]) h0' hT (ltw (Nat.le_add_right _ _) hh) hE
theorem bk' {h0 E E1 x:AH}{N:Nat}(K:Nat) (hn:h0.length=N) (hh : ∀ e∈h0,e.lt N=true) (he:E=E1++x:=by rfl) (hs:WkL T T1:=by exact wA') (hT:AV.ltL (N+K) T1=true:=by exact lt') (hE:E1.all (Ent.lt (N+K))=true:=by exact lt') (hK:E1.length=K:=by rfl) (h0':n0≤N+K:=by omega):ALe n0 T (h0++E) T1 (h0++E1) :=
 bkE' K hn hh hs he hT hE hK h0'
theorem lU' {ι:Type}{S:ι→List AV×AH}{I:ι→Prop}{m:ι→Nat}{i:ι}{h:AH}(j:ι) (hI:I j) (hl:ALe n0 T h (S j).1 (S j).2) (hm:m j<m i:=by first | omega | (dsimp only;omega)):LoopTo n0 S I m i T h:=LoopTo.mk j hm hI hl
theorem lT' {ι:Type}{S:ι→List AV×AH}{I:ι→Prop}{m:ι→Nat}{i:ι}{h:AH}(j:ι) (hI:I j) (hm:m j<m i:=by first | omega | (dsimp only;omega)) (hl:ALe n0 T h (S j).1 (S j).2:=by (try dsimp only);(try simp only [setsT,setsE,z',s',rn',la',ln',Nat.reduceAdd]);exact ALe.same wA' rfl):LoopTo n0 S I m i T h:=LoopTo.mk j hm hI hl
theorem cT' {ι:Type}{J:ι→Prop}{A:ι→List AV}{B:ι→AH}{h:AH}(j:ι) (hI:J j) (hl:ALe n0 T h (A j) (B j):=by (try dsimp only);(try simp only [setsT,setsE,z',s',rn',la',ln',Nat.reduceAdd]);exact ALe.same wA' rfl) : ∃ i,J i∧ALe n0 T h (A i) (B i):=⟨j,hI,hl⟩
theorem w_lp {E:AH}{h0:AH}{ι:Type}(f:ι→List (Nat×AV)) (g:ι→List (Nat×Ent)) (I:ι→Prop) (m:ι→Nat) (i0:ι) (hI:I i0)
  (round : ∀ i,I i→aw P n0 a (AX.thn (LoopTo n0 (fun i=>(setsT T (f i),h0++setsE E (g i))) I m i) Q) (setsT T (f i)) (h0++setsE E (g i))) (hl:ALe n0 T (h0++E) (setsT T (f i0)) (h0++setsE E (g i0)):=by (try simp only [setsT,setsE,z',s',rn',la',ln',Nat.reduceAdd]);exact ALe.same wA' rfl):aw P n0 (.loop a) Q T (h0++E):=w_loop f g I m i0 hI hl round
end
section
variable {K : List AV → AH → Prop} {Q : AX → List AV → AH → Prop} {T T' : List AV} {h : AH} {Kp : AV → List AV → AH → Prop} {rest : List AOper} {d : Option Nat} {c : AV} {P : Program} {n0 : Nat} {a b : AC} {al : List AOper}
theorem mv' {x:Operand}(hx:aEval T x=c) (hp:aPut T d c=T') (hk:arun P Kp rest T' h K):arun P Kp (⟨d,none,.mv x⟩::rest) T h K:=s_val rfl (v_mv hx) hp hk
theorem sn' (hr:aw P n0 b Q T h):arun P Kp [] T h (fun T h=>AX.thn (fun T h => ∃ T1 h1,ALe n0 T h T1 h1∧aw P n0 b Q T1 h1) Q .normal T h):=s_nil (n_seq hr)
theorem wr' (hr:arun P (fun c T h=>AX.thn (fun T h => ∃ T1 h1,ALe n0 T h T1 h1∧aw P n0 b Q T1 h1) Q (.pan c) T h) al T h (fun T h=>AX.thn (fun T h => ∃ T1 h1,ALe n0 T h T1 h1∧aw P n0 b Q T1 h1) Q .normal T h)):aw P n0 (.seq (.reg al) b) Q T h:=w_seq (w_reg hr)
theorem cd' {c:Operand}{v:Bool}{p q:Prop}(hc:aEval T c=bv v) (hy:p→aw P n0 a Q T h) (hn:q→aw P n0 b Q T h) (h1:v=true→p:=by first | exact fun e=>of_decide_eq_true e | exact fun e=>e) (h2:v=false→q:=by first | exact fun e=>of_decide_eq_false e | exact fun e=>e):aw P n0 (.cond c a b) Q T h:=w_condB hc (fun e=>hy (h1 e)) (fun e=>hn (h2 e))
theorem V' {op:AOp}(hv:aval h (aEval T) op=some c) (hp:aPut T d c=T') (hk:arun P Kp rest T' h K) (hn:noCall ⟨d,none,op⟩=true:=by rfl):arun P Kp (⟨d,none,op⟩::rest) T h K:=s_val hn hv hp hk
theorem E' {op:AOp}{h':AH}(he:aeff h (aEval T) op=some (c,h')) (hp:aPut T d c=T') (hk:arun P Kp rest T' h' K) (hn:noCall ⟨d,none,op⟩=true:=by rfl) (hv:aval h (aEval T) op=none:=by rfl):arun P Kp (⟨d,none,op⟩::rest) T h K:=s_eff hn hv he hp hk
theorem D' {op:AOp}{rs:List Nat}{h0:AH}{ents:AH}(hv:aval h0 (aEval T) op=some c) (hp:aPut T d c=T') (hk:adrun P rs h0 rest T' ents K) (hn:noD ⟨d,none,op⟩=true:=by rfl):adrun P rs h0 (⟨d,none,op⟩::rest) T ents K:=d_val hn hv hp hk
theorem sp' {t:Nat}{v:Bool}{p q:Prop}{T1 T2:List AV}(ht:T[t]?=some (bv v)) (hp1:aPut T (some t) (bv true)=T1) (hp2:aPut T (some t) (bv false)=T2) (hy:p→arun P Kp al T1 h K) (hn:q→arun P Kp al T2 h K) (h1:v=true→p:=by first | exact fun e=>of_decide_eq_true e | exact fun e=>e) (h2:v=false→q:=by first | exact fun e=>of_decide_eq_false e | exact fun e=>e):arun P Kp al T h K:=s_splitB ht hp1 hp2 (fun e=>hy (h1 e)) (fun e=>hn (h2 e))
theorem dq' {rs:List Nat}{h0:AH}{t:Nat}{v:Bool}{p q:Prop}{T1 T2:List AV}(ht:T[t]?=some (bv v)) (hp1:aPut T (some t) (bv true)=T1) (hp2:aPut T (some t) (bv false)=T2) (hy:p→adrun P rs h0 al T1 h K) (hn:q→adrun P rs h0 al T2 h K) (h1:v=true→p:=by first | exact fun e=>of_decide_eq_true e | exact fun e=>e) (h2:v=false→q:=by first | exact fun e=>of_decide_eq_false e | exact fun e=>e):adrun P rs h0 al T h K:=d_splitB ht hp1 hp2 (fun e=>hy (h1 e)) (fun e=>hn (h2 e))
theorem nb' {n m:Nat}(h:Nat.ble n m=true):n≤m:=Nat.le_of_ble_eq_true h
@[reducible] def Mv (d x:Nat):AOper:=⟨some d,none,.mv (.tmp x)⟩
@[reducible] def Nk (d x:Nat):AOper:=⟨some d,none,.nck (.tmp x)⟩
@[reducible] def Fa (d k x:Nat):AOper:=⟨some d,none,.fa k (.tmp x)⟩
@[reducible] def Ld (d x:Nat):AOper:=⟨some d,none,.load false 1 (.tmp x)⟩
@[reducible] def Ex (d x k:Nat):AOper:=⟨some d,none,.ext (.tmp x) k⟩
@[reducible] def Oo (d:Nat) (o:AOp):AOper:=⟨some d,none,o⟩
@[reducible] def Ot (d g:Nat) (o:AOp):AOper:=⟨some d,some (g,true),o⟩
@[reducible] def Of (d g:Nat) (o:AOp):AOper:=⟨some d,some (g,false),o⟩
@[reducible] def Ci (n:Int):Operand:=.const (.int .i64 n)
@[reducible] def Ss:AV:=.v (.string ⟨#[]⟩)
end
end Go.Ab
end
section
namespace Go.Proofs.YtgjchdhdopgkkaaGreatDoor
namespace Civ
def leapB (y:Int):Bool:=y%4==0&&(y%100 != 0||y%400==0)
def lp (y:Int):Int:=if leapB y then 1 else 0
def bef (y:Int):Int:=365*(y-1)+(y-1)/4-(y-1)/100+(y-1)/400
def mlen (y m:Int):Int :=
 if m=2 then 28+lp y else if m=4 then 30 else if m=6 then 30 else if m=9 then 30 else if m=11 then 30 else 31
def cum (y m:Int):Int:=if m≤2 then 31*(m-1) else 59+lp y+(153*(m-3)+2)/5
def num (y m d:Int):Int:=bef y-719162+d-1+cum y m
def isDate (y m d:Int):Bool:=decide (1≤y)&&decide (y≤9999)&&decide (1≤m)&&decide (m≤12)&&decide (1≤d)&&decide (d≤mlen y m)
theorem isDate_iff {y m d:Int}:isDate y m d=true↔1≤y∧y≤9999∧1≤m∧m≤12∧1≤d∧d≤mlen y m:=by
 simp [isDate,and_assoc]
theorem lp_iff (y:Int):lp y=if y%4=0∧(y%100≠0∨y%400=0) then 1 else 0:=by
 unfold lp leapB
 congr 1
 simp
theorem lp_01 (y:Int):0≤lp y∧lp y≤1:=by unfold lp;split <;> omega
theorem bef_succ (y:Int):bef (y+1)=bef y+365+lp y:=by
 rw [lp_iff];unfold bef;split <;> omega
theorem bef_mono {a b:Int}(h:a≤b):bef a≤bef b:=by unfold bef;omega
theorem bef_step {a b:Int}(h:a<b):bef a+365≤bef b:=by unfold bef;omega
theorem bef_bd {y:Int}(h0:1≤y) (h:y≤20000):0≤bef y∧bef y≤8000000:=by unfold bef;omega
theorem bef_1970:bef 1970=719162:=by decide
theorem bef_1:bef 1=0:=by decide
theorem bef_10000:bef 10000=3652059:=by decide
theorem mlen_bd (y m:Int):28≤mlen y m∧mlen y m≤31:=by
 have:=lp_01 y;unfold mlen;split <;> (try split) <;> (try split) <;> (try split) <;> (try split) <;> omega
theorem cum_succ {y m:Int}(h1:1≤m) (h2:m≤12):cum y (m+1)=cum y m+mlen y m:=by
 have:m=1∨m=2∨m=3∨m=4∨m=5∨m=6∨m=7∨m=8∨m=9∨m=10∨m=11∨m=12:=by omega
 rcases this with h | h | h | h | h | h | h | h | h | h | h | h <;> subst h <;> simp [cum,mlen] <;> omega
theorem cum_1 (y:Int):cum y 1=0:=by simp [cum]
theorem cum_13 (y:Int):cum y 13=365+lp y:=by simp [cum];omega
theorem cum_bd {y m:Int}(h1:1≤m) (h2:m≤13):0≤cum y m∧cum y m≤366:=by
 have:=lp_01 y;unfold cum;split <;> omega
theorem cum_le {y a b:Int}(h1:1≤a) (h:a≤b):cum y a≤cum y b:=by
 have:=lp_01 y;unfold cum;split <;> split <;> omega
theorem cum_mono {y a b:Int}(h1:1≤a) (h:a<b) (h2:b≤13):cum y a+mlen y a≤cum y b:=by
 rw [←cum_succ (y:=y) h1 (by omega)]
 exact cum_le (by omega) (by omega)
theorem num_year {y m d:Int}(h:isDate y m d=true):bef y≤num y m d+719162∧num y m d+719162<bef (y+1):=by
 rw [isDate_iff] at h
 have hs:=bef_succ y
 have hc:=cum_bd (y:=y) (m:=m) (by omega) (by omega)
 have:cum y m+mlen y m≤365+lp y:=by rw [←cum_13];exact cum_mono h.2.2.1 (by omega) (by omega)
 unfold num;omega
theorem num_bd {y m d:Int}(h:isDate y m d=true) : -719162≤num y m d∧num y m d≤2932896:=by
 have h1:=num_year h
 rw [isDate_iff] at h
 have a:=bef_mono (a:=1) (b:=y) (by omega)
 have b:=bef_mono (a:=y+1) (b:=10000) (by omega)
 rw [bef_1] at a;rw [bef_10000] at b;omega
theorem num_lt_year {y m d y' m' d':Int}(h:isDate y m d=true) (h':isDate y' m' d'=true) (hl:y<y'):num y m d<num y' m' d':=by
 have a:=num_year h;have b:=num_year h'
 have c:=bef_mono (a:=y+1) (b:=y') (by omega);omega
theorem num_lt_month {y m d m' d':Int}(h:isDate y m d=true) (h':isDate y m' d'=true) (hl:m<m'):num y m d<num y m' d':=by
 rw [isDate_iff] at h h'
 have:=cum_mono (y:=y) h.2.2.1 hl (by omega)
 unfold num;omega
theorem num_lt_iff {y m d y' m' d':Int}(h:isDate y m d=true) (h':isDate y' m' d'=true) :
  num y m d<num y' m' d'↔y<y'∨y=y'∧(m<m'∨m=m'∧d<d'):=by
 constructor
 ·intro hlt
  rcases Int.lt_trichotomy y y' with a | a | a
  ·exact .inl a
  ·subst a
   rcases Int.lt_trichotomy m m' with b | b | b
   ·exact .inr ⟨rfl,.inl b⟩
   ·subst b;refine .inr ⟨rfl,.inr ⟨rfl,?_⟩⟩;unfold num at hlt;omega
   ·have:=num_lt_month h' h b;omega
  ·have:=num_lt_year h' h a;omega
 ·rintro (a | ⟨rfl,a | ⟨rfl,a⟩⟩)
  ·exact num_lt_year h h' a
  ·exact num_lt_month h h' a
  ·unfold num;omega
theorem num_inj {y m d y' m' d':Int}(h:isDate y m d=true) (h':isDate y' m' d'=true) (he:num y m d=num y' m' d'):y=y'∧m=m'∧d=d':=by
 have a:=(num_lt_iff h h').2;have b:=(num_lt_iff h' h).2
 rcases Int.lt_trichotomy y y' with c | c | c
 ·have:=a (.inl c);omega
 ·subst c
  rcases Int.lt_trichotomy m m' with c | c | c
  ·have:=a (.inr ⟨rfl,.inl c⟩);omega
  ·subst c;unfold num at he;exact ⟨rfl,rfl,by omega⟩
  ·have:=b (.inr ⟨rfl,.inl c⟩);omega
 ·have:=b (.inl c);omega
def yrUp:Nat→Int→Int→Int
 | 0,_,y=>y
 | k+1,n,y=>if bef (y+1)≤n then yrUp k n (y+1) else y
def moUp:Nat→Int→Int→Int→Int×Int
 | 0,_,m,r=>(m,r)
 | k+1,y,m,r=>if mlen y m≤r then moUp k y (m+1) (r-mlen y m) else (m,r)
def yrOf (days:Int):Int:=yrUp 60 (days+719162) ((days+719162)/366+1)
def dateOf (days:Int):Int×Int×Int :=
 let y:=yrOf days
 let p:=moUp 12 y 1 (days+719162-bef y)
 (y,p.1,p.2+1)
theorem yrUp_spec : ∀ (k:Nat) (n y:Int),bef y≤n→n<bef y+365*(k:Int)+365→bef (yrUp k n y)≤n∧n<bef (yrUp k n y+1)
 | 0,n,y,h1,h2=>by
  simp only [yrUp]
  have:=bef_succ y;have:=lp_01 y
  exact ⟨h1,by simp at h2;omega⟩
 | k+1,n,y,h1,h2=>by
  simp only [yrUp]
  split
  ·rename_i h
   refine yrUp_spec k n (y+1) h ?_
   have:=bef_step (a:=y) (b:=y+1) (by omega)
   simp only [Int.natCast_add,Int.cast_ofNat_Int] at h2;omega
  ·exact ⟨h1,by omega⟩
theorem guess_le {n:Int}(h0:0≤n):bef (n/366+1)≤n:=by unfold bef;omega
theorem guess_near {n:Int}(h0:0≤n) (h1:n≤3652058):n<bef (n/366+1)+365*60:=by unfold bef;omega
theorem yrOf_spec {days:Int}(h0 : -719162≤days) (h1:days≤2932896):bef (yrOf days)≤days+719162∧days+719162<bef (yrOf days+1):=by
 refine yrUp_spec 60 _ _ (guess_le (by omega)) ?_
 have:=guess_near (n:=days+719162) (by omega) (by omega)
 simp;omega
theorem moUp_spec (y:Int) : ∀ (k:Nat) (m r:Int),1≤m→m+k=13→0≤r→cum y m+r<365+lp y →
  1≤(moUp k y m r).1∧(moUp k y m r).1≤12∧0≤(moUp k y m r).2∧(moUp k y m r).2<mlen y (moUp k y m r).1∧cum y (moUp k y m r).1+(moUp k y m r).2=cum y m+r
 | 0,m,r,h1,h2,h3,h4=>by
  have:m=13:=by simpa using h2
  subst this;rw [cum_13] at h4;omega
 | k+1,m,r,h1,h2,h3,h4=>by
  simp only [Int.natCast_add,Int.cast_ofNat_Int] at h2
  have hs:=cum_succ (y:=y) (m:=m) h1 (by omega)
  simp only [moUp]
  split
  ·rename_i h
   have ih:=moUp_spec y k (m+1) (r-mlen y m) (by omega) (by omega) (by omega) (by omega)
   omega
  ·exact ⟨h1,by omega,h3,by show r<mlen y m;omega,rfl⟩
theorem dateOf_spec {days:Int}(h0 : -719162≤days) (h1:days≤2932896) :
  isDate (dateOf days).1 (dateOf days).2.1 (dateOf days).2.2=true∧num (dateOf days).1 (dateOf days).2.1 (dateOf days).2.2=days:=by
 have hy:=yrOf_spec h0 h1
 have hs:=bef_succ (yrOf days)
 have hm:=moUp_spec (yrOf days) 12 1 (days+719162-bef (yrOf days)) (by omega) (by omega) (by omega) (by rw [cum_1];omega)
 rw [cum_1] at hm
 rw [isDate_iff]
 have y1:1≤yrOf days:=by
  rcases Int.lt_or_le (yrOf days) 1 with c | c
  ·have:=bef_mono (a:=yrOf days+1) (b:=1) (by omega);rw [bef_1] at this;omega
  ·exact c
 have y2:yrOf days≤9999:=by
  rcases Int.lt_or_le 9999 (yrOf days) with c | c
  ·have:=bef_mono (a:=10000) (b:=yrOf days) (by omega);rw [bef_10000] at this;omega
  ·exact c
 unfold dateOf num
 dsimp only
 refine ⟨⟨y1,y2,hm.1,hm.2.1,by omega,by omega⟩,by omega⟩
theorem dateOf_num {y m d:Int}(h:isDate y m d=true):dateOf (num y m d)=(y,m,d):=by
 have hb:=num_bd h
 have hs:=dateOf_spec hb.1 hb.2
 obtain ⟨a,b,c⟩:=num_inj hs.1 h hs.2
 ext <;> simp [a,b,c]
theorem dateOf_eq {days y m d:Int}(h:isDate y m d=true) (hn:num y m d=days):dateOf days=(y,m,d):=by
 rw [←hn];exact dateOf_num h
def wd (n:Int):Int:=(n+4)%7
theorem wd_bd (n:Int):0≤wd n∧wd n≤6:=by unfold wd;omega
theorem tmod7 (n:Int):n.tmod 7=if 0≤n then n%7 else -((-n)%7):=by
 split
 ·rename_i h;exact Int.tmod_eq_emod_of_nonneg h
 ·rename_i h
  have:n = - (-n):=by omega
  rw [this,Int.neg_tmod,Int.tmod_eq_emod_of_nonneg (by omega)];simp
theorem wd_go (n:Int):(((n.tmod 7+4).tmod 7)+7).tmod 7=wd n:=by
 simp only [tmod7,wd]
 repeat' split
 all_goals omega
end Civ
end Go.Proofs.YtgjchdhdopgkkaaGreatDoor
namespace Go.Proofs.YtgjchdhdopgkkaaGreatDoor
def wi (n a b:Int):Bool:=decide (a≤n)&&decide (n≤b)
end Go.Proofs.YtgjchdhdopgkkaaGreatDoor
end
section
namespace Go.Proofs.YtgjchdhdopgkkaaGreatDoor
open Civ
def letB (n:Int):Bool:=decide (97≤n∧n≤122∨65≤n∧n≤90)
def digB (n:Int):Bool:=decide (48≤n∧n≤57)
def plainB (n:Int):Bool:=letB n||digB n||n==43||n==45
def allB (p:Int→Bool) (s:ByteArray):Bool:=s.data.toList.all fun c=>p c.toNat
theorem allB_no {p:Int→Bool}{s:ByteArray}{k:Nat}(hk:k<s.size) (h:p s[k].toNat=false):allB p s=false:=by
 unfold allB
 rw [List.all_eq_false]
 refine ⟨s[k],?_,by simpa using h⟩
 have:s[k]=s.data.toList[k]'(by simpa using hk):=rfl
 rw [this];exact List.getElem_mem _
theorem allB_yes {p:Int→Bool}{s:ByteArray}(h : ∀ k (hk:k<s.size),p s[k].toNat=true):allB p s=true:=by
 unfold allB
 rw [List.all_eq_true]
 intro x hx
 obtain ⟨i,hi,rfl⟩:=List.getElem_of_mem hx
 exact h i (by simpa using hi)
end Go.Proofs.YtgjchdhdopgkkaaGreatDoor
end
section
namespace Go.Proofs.YtgjchdhdopgkkaaGreatDoor
open Go.Ab Civ
def c116:AC:=(.seq (.reg [Oo 2 (.mv (.const (.bool false)))]) (.seq (.reg [Mv 3 0,Oo 4 (.bin .geq (.tmp 3) (.const (.int .u8 97))),Mv 5 4,Ot 6 5 (.mv (.tmp 0)),Ot 7 5 (.bin .leq (.tmp 6) (.const (.int .u8 122))),Oo 8 (.pick (.tmp 5) (.tmp 7) (.const (.bool false))),Mv 9 8,Of 10 9 (.mv (.tmp 0)),Of 11 9 (.bin .geq (.tmp 10) (.const (.int .u8 65))),Of 12 9 (.mv (.tmp 11)),Ot 13 12 (.mv (.tmp 0)),Ot 14 12 (.bin .leq (.tmp 13) (.const (.int .u8 90))),Of 15 9 (.pick (.tmp 12) (.tmp 14) (.const (.bool false))),Oo 16 (.pick (.tmp 9) (.const (.bool true)) (.tmp 15)),Mv 2 16]) .ret))
theorem k116:compF Tryz.prog 116=some ⟨c116,[(.tmp 2)],17⟩:=by kernel_rfl
def c119:AC:=(.seq (.reg [Oo 2 (.mv (.const (.bool false)))]) (.seq (.reg [Mv 3 0,Oo 4 (.bin .geq (.tmp 3) (.const (.int .u8 48))),Mv 5 4,Ot 6 5 (.mv (.tmp 0)),Ot 7 5 (.bin .leq (.tmp 6) (.const (.int .u8 57))),Oo 8 (.pick (.tmp 5) (.tmp 7) (.const (.bool false))),Mv 2 8]) .ret))
theorem k119:compF Tryz.prog 119=some ⟨c119,[(.tmp 2)],9⟩:=by kernel_rfl
def c179:AC:=(.seq (.reg [Oo 2 (.mv (.const (.bool false)))]) (.seq (.reg [Mv 3 0,Oo 4 (.call (.func 116) [(.tmp 3)]),Mv 5 4,Of 6 5 (.mv (.tmp 0)),Of 7 5 (.call (.func 119) [(.tmp 6)]),Oo 8 (.pick (.tmp 5) (.const (.bool true)) (.tmp 7)),Mv 9 8,Of 10 9 (.mv (.tmp 0)),Of 11 9 (.bin .eql (.tmp 10) (.const (.int .u8 43))),Oo 12 (.pick (.tmp 9) (.const (.bool true)) (.tmp 11)),Mv 13 12,Of 14 13 (.mv (.tmp 0)),Of 15 13 (.bin .eql (.tmp 14) (.const (.int .u8 45))),Oo 16 (.pick (.tmp 13) (.const (.bool true)) (.tmp 15)),Mv 2 16]) .ret))
theorem k179:compF Tryz.prog 179=some ⟨c179,[(.tmp 2)],17⟩:=by kernel_rfl
def c117:AC:=(.seq (.reg [Oo 4 (.mv (.const (.bool false)))]) (.seq (.seq (.reg [Mv 6 0,Oo 7 (.len true (.tmp 6)),Oo 8 (.mv (Ci 0))]) (.block 0 (.loop (.seq (.reg [Oo 9 (.bin .lss (.tmp 8) (.tmp 7))]) (.seq (.cond (.tmp 9) .skip (.exit 0)) (.seq (.block 1 (.seq (.reg [Mv 10 8,Mv 5 10]) (.seq (.reg [Mv 11 1,Mv 12 0,Mv 13 5,Oo 14 (.ix (.tmp 12) (.tmp 13)),Oo 15 (.call (.tmp 11) [(.tmp 14)]),Oo 16 (.un .not (.tmp 15))]) (.cond (.tmp 16) (.seq (.reg [Oo 4 (.mv (.const (.bool false)))]) .ret) .skip)))) (.reg [Oo 17 (.bin .add (.tmp 8) (Ci 1)),Mv 8 17]))))))) (.seq (.reg [Oo 4 (.mv (.const (.bool true)))]) .ret)))
theorem k117:compF Tryz.prog 117=some ⟨c117,[(.tmp 4)],18⟩:=by kernel_rfl
def c159:AC:=(.seq (.reg [Oo 2 (.mv (.const (.bool false)))]) (.seq (.reg [Mv 3 0,Oo 4 (.call (.func 117) [(.tmp 3),(.func 179)]),Mv 2 4]) .ret))
theorem k159:compF Tryz.prog 159=some ⟨c159,[(.tmp 2)],5⟩:=by kernel_rfl
def c150:AC:=(.seq (.reg [Oo 2 (.mv (Ci 0))]) (.seq (.reg [Mv 3 0,Oo 4 (.bin .sub (.tmp 3) (Ci 1)),Mv 0 4]) (.seq (.reg [Mv 5 0,Oo 6 (.bin .mul (Ci 365) (.tmp 5)),Mv 7 0,Oo 8 (.bin .quo (.tmp 7) (Ci 4)),Oo 9 (.bin .add (.tmp 6) (.tmp 8)),Mv 10 0,Oo 11 (.bin .quo (.tmp 10) (Ci 100)),Oo 12 (.bin .sub (.tmp 9) (.tmp 11)),Mv 13 0,Oo 14 (.bin .quo (.tmp 13) (Ci 400)),Oo 15 (.bin .add (.tmp 12) (.tmp 14)),Mv 2 15]) .ret)))
theorem k150:compF Tryz.prog 150=some ⟨c150,[(.tmp 2)],16⟩:=by kernel_rfl
def c151:AC:=(.seq (.reg [Oo 0 (.mv (Ci 0))]) (.seq (.reg [Oo 1 (.call (.func 150) [(Ci 1970)]),Mv 0 1]) .ret))
theorem k151:compF Tryz.prog 151=some ⟨c151,[(.tmp 0)],2⟩:=by kernel_rfl
def c155:AC:=(.seq (.reg [Oo 0 (.mv (Ci 0))]) (.seq (.reg [Oo 1 (.call (.func 151) []),Oo 2 (.un .neg (.tmp 1)),Mv 0 2]) .ret))
theorem k155:compF Tryz.prog 155=some ⟨c155,[(.tmp 0)],3⟩:=by kernel_rfl
def c156:AC:=(.seq (.reg [Oo 0 (.mv (Ci 0))]) (.seq (.reg [Oo 1 (.call (.func 150) [(Ci 10000)]),Oo 2 (.call (.func 151) []),Oo 3 (.bin .sub (.tmp 1) (.tmp 2)),Oo 4 (.bin .sub (.tmp 3) (Ci 1)),Mv 0 4]) .ret))
theorem k156:compF Tryz.prog 156=some ⟨c156,[(.tmp 0)],5⟩:=by kernel_rfl
abbrev uv (n:Int):AV:=.v (.int .u8 n)
theorem bvx {a b:Bool}(h:a=b):bv a=bv b:=by rw [h]
theorem letter_a {n:Int}{h:AH}:ACalls Tryz.prog 116 [uv n] h fun x h'=>h'=h∧x = .ret (bv (letB n)):=by
 refine tI' k116 fun N hn hlt hlA hbd=>?_
 simp only [tA',AV.bdL,AV.bd,and_true,true_and] at hbd ⊢
 refine wr'<|mv' lkb pt2<|sn'<|wr'<|mv' lk0 pt3<|V' (v_geq lk3 lki) pt4<|mv' lk4 pt5<|?_
 refine sp' gt5 pt5 pt5 (fun hg5=>?_) (fun hg5=>?_)
 ·refine s_do gt5<|mv' lk0 pt6<|s_do gt5<|V' (v_leq lk6 lki) pt7<|V' (v_pickT lk5 lk7) pt8<|mv' lk8 pt9<|?_
  refine sp' gt9 pt9 pt9 (fun hg9=>?_) (fun hg9=>?_)
  ·refine s_no gt9 pt10<|s_no gt9 pt11<|s_no gt9 pt12<|s_nu gt12 pt13<|s_nu gt12 pt14<|s_no gt9 pt15<|V' (v_pickT lk9 lkb) pt16<|mv' lk16 pt2<|sn'<|w_rets<|w_ret (rs1 (rr_t gt2))<|rT'<|?_
   refine bvx ?_;unfold letB;rw [Bool.eq_iff_iff];simp;omega
  refine s_do gt9<|mv' lk0 pt10<|s_do gt9<|V' (v_geq lk10 lki) pt11<|s_do gt9<|mv' lk11 pt12<|?_
  refine sp' gt12 pt12 pt12 (fun hg12=>?_) (fun hg12=>?_)
  ·refine s_do gt12<|mv' lk0 pt13<|s_do gt12<|V' (v_leq lk13 lki) pt14<|s_do gt9<|V' (v_pickT lk12 lk14) pt15<|V' (v_pickF lk9 lk15) pt16<|mv' lk16 pt2<|sn'<|w_rets<|w_ret (rs1 (rr_t gt2))<|rT'<|?_
   refine bvx ?_;unfold letB;rw [Bool.eq_iff_iff];simp;omega
  refine s_no gt12 pt13<|s_no gt12 pt14<|s_do gt9<|V' (v_pickF lk12 lkb) pt15<|V' (v_pickF lk9 lk15) pt16<|mv' lk16 pt2<|sn'<|w_rets<|w_ret (rs1 (rr_t gt2))<|rT'<|?_
  refine bvx ?_;unfold letB;rw [Bool.eq_iff_iff];simp;omega
 refine s_no gt5 pt6<|s_no gt5 pt7<|V' (v_pickF lk5 lkb) pt8<|mv' lk8 pt9<|s_do gt9<|mv' lk0 pt10<|s_do gt9<|V' (v_geq lk10 lki) pt11<|s_do gt9<|mv' lk11 pt12<|?_
 refine sp' gt12 pt12 pt12 (fun hg12=>?_) (fun hg12=>?_)
 ·refine s_do gt12<|mv' lk0 pt13<|s_do gt12<|V' (v_leq lk13 lki) pt14<|s_do gt9<|V' (v_pickT lk12 lk14) pt15<|V' (v_pickF lk9 lk15) pt16<|mv' lk16 pt2<|sn'<|w_rets<|w_ret (rs1 (rr_t gt2))<|rT'<|?_
  refine bvx ?_;unfold letB;rw [Bool.eq_iff_iff];simp;omega
 refine s_no gt12 pt13<|s_no gt12 pt14<|s_do gt9<|V' (v_pickF lk12 lkb) pt15<|V' (v_pickF lk9 lk15) pt16<|mv' lk16 pt2<|sn'<|w_rets<|w_ret (rs1 (rr_t gt2))<|rT'<|?_
 refine bvx ?_;unfold letB;rw [Bool.eq_iff_iff];simp;omega
theorem digit_a {n:Int}{h:AH}:ACalls Tryz.prog 119 [uv n] h fun x h'=>h'=h∧x = .ret (bv (digB n)):=by
 refine tI' k119 fun N hn hlt hlA hbd=>?_
 simp only [tA',AV.bdL,AV.bd,and_true,true_and] at hbd ⊢
 refine wr'<|mv' lkb pt2<|sn'<|wr'<|mv' lk0 pt3<|V' (v_geq lk3 lki) pt4<|mv' lk4 pt5<|?_
 refine sp' gt5 pt5 pt5 (fun hg5=>?_) (fun hg5=>?_)
 ·refine s_do gt5<|mv' lk0 pt6<|s_do gt5<|V' (v_leq lk6 lki) pt7<|V' (v_pickT lk5 lk7) pt8<|mv' lk8 pt2<|sn'<|w_rets<|w_ret (rs1 (rr_t gt2))<|rT'<|?_
  refine bvx ?_;unfold digB;rw [Bool.eq_iff_iff];simp;omega
 refine s_no gt5 pt6<|s_no gt5 pt7<|V' (v_pickF lk5 lkb) pt8<|mv' lk8 pt2<|sn'<|w_rets<|w_ret (rs1 (rr_t gt2))<|rT'<|?_
 refine bvx ?_;unfold digB;rw [Bool.eq_iff_iff];simp;omega
theorem plain1_a {n:Int}{h:AH}:ACalls Tryz.prog 179 [uv n] h fun x h'=>h'=h∧x = .ret (bv (plainB n)):=by
 refine tI' k179 fun N hn hlt hlA hbd=>?_
 simp only [tA',AV.bdL,AV.bd,and_true,true_and] at hbd ⊢
 refine wr'<|mv' lkb pt2<|sn'<|wr'<|mv' lk0 pt3<|s_callp (mp1 lk3 mp0) (letter_a) pt4<|mv' lk4 pt5<|?_
 refine s_splitB gt5 pt5 pt5 (fun hg5=>?_) (fun hg5=>?_)
 ·refine s_no gt5 pt6<|s_no gt5 pt7<|V' (v_pickT lk5 lkb) pt8<|mv' lk8 pt9<|s_no gt9 pt10<|s_no gt9 pt11<|V' (v_pickT lk9 lkb) pt12<|mv' lk12 pt13<|s_no gt13 pt14<|s_no gt13 pt15<|V' (v_pickT lk13 lkb) pt16<|mv' lk16 pt2<|sn'<|?_
  refine w_rets<|w_ret (rs1 (rr_t gt2))<|rT'<|?_
  refine bvx ?_;unfold plainB;rw [Bool.eq_iff_iff];simp_all
 refine s_do gt5<|mv' lk0 pt6<|s_do gt5<|s_callp (mp1 lk6 mp0) (digit_a) pt7<|V' (v_pickF lk5 lk7) pt8<|mv' lk8 pt9<|?_
 refine s_splitB gt9 pt9 pt9 (fun hg9=>?_) (fun hg9=>?_)
 ·refine s_no gt9 pt10<|s_no gt9 pt11<|V' (v_pickT lk9 lkb) pt12<|mv' lk12 pt13<|s_no gt13 pt14<|s_no gt13 pt15<|V' (v_pickT lk13 lkb) pt16<|mv' lk16 pt2<|sn'<|w_rets<|w_ret (rs1 (rr_t gt2))<|rT'<|?_
  refine bvx ?_;unfold plainB;rw [Bool.eq_iff_iff];simp_all
 refine s_do gt9<|mv' lk0 pt10<|s_do gt9<|V' (v_eql lk10 lki) pt11<|V' (v_pickF lk9 lk11) pt12<|mv' lk12 pt13<|?_
 refine sp' gt13 pt13 pt13 (fun hg13=>?_) (fun hg13=>?_)
 ·refine s_no gt13 pt14<|s_no gt13 pt15<|V' (v_pickT lk13 lkb) pt16<|mv' lk16 pt2<|sn'<|w_rets<|w_ret (rs1 (rr_t gt2))<|rT'<|?_
  refine bvx ?_;unfold plainB;rw [Bool.eq_iff_iff];simp_all
 refine s_do gt13<|mv' lk0 pt14<|s_do gt13<|V' (v_eql lk14 lki) pt15<|V' (v_pickF lk13 lk15) pt16<|mv' lk16 pt2<|sn'<|w_rets<|w_ret (rs1 (rr_t gt2))<|rT'<|?_
 refine bvx ?_;unfold plainB;rw [Bool.eq_iff_iff];simp_all
theorem all_a {p:Int→Bool}{f:FuncId}(hp : ∀ (n:Int) (h:AH),ACalls Tryz.prog f [uv n] h fun x h'=>h'=h∧x = .ret (bv (p n))) {s:ByteArray}(hs:s.size≤maxLen) {h:AH} :
  ACalls Tryz.prog 117 [sv s,.v (.func (.func f) #[] #[])] h fun x h'=>h'=h∧x = .ret (bv (allB p s)):=by
 have hm:s.size≤9223372036854775807:=by simpa [maxLen] using hs
 refine tI' k117 fun N hn hlt hlA hbd=>?_
 simp only [tA',AV.bdL,AV.bd,and_true,true_and] at hbd ⊢
 refine wr'<|mv' lkb pt4<|sn'<|w_seq<|wr'<|mv' lk0 pt6<|V' (v_lenS lk6) pt7<|mv' lki pt8<|sn'<|w_block<|?_
 refine w_lp (ι:=Nat) (fun (k:Nat)=>[(8,iv (k:Int)),(4,.any),(5,.any)]++rn' 9 9) (fun (k:Nat)=>[]) (fun (k:Nat)=>k≤s.size ∧ ∀ j (hj:j<s.size),j<k→p s[j].toNat=true) (fun (k:Nat)=>s.size-k) (0) (by exact ⟨by omega,fun j hj h0=>absurd h0 (by omega)⟩) ?_
 rintro k hi1
 try simp only [setsT,setsE,z',s',rn',la',ln',Nat.reduceAdd]
 obtain ⟨hk1,hk2⟩:=hi1
 refine wr'<|V' (v_lss lk8 lk7) pt9<|sn'<|w_seq<|?_
 refine cd' lk9 (fun hc1=>?_) (fun hc1=>?_)
 ·refine w_skip<|n_seq<|w_seq<|w_block<|wr'<|mv' lk8 pt10<|mv' lk10 pt5<|sn'<|wr'<|mv' lk1 pt11<|mv' lk0 pt12<|?_
  refine mv' lk5 pt13 ?_
  refine V' (v_ix lk12 lk13 (by omega) (by omega)) pt14 ?_
  refine s_callT lk11 (mp1 lk14 mp0) (hp _ _) pt15<|V' (v_notB lk15) pt16<|sn'<|?_
  rw [byteAt_get (by omega)] at *
  refine w_condB lk16 (fun hc2=>?_) (fun hc2=>?_)
  ·refine wr'<|mv' lkb pt4<|sn'<|w_rets<|r_blk<|r_thn<|r_thn<|r_blk<|r_thn<|w_ret (rs1 (rr_t gt4))<|rT'<|?_
   refine bvx ?_;rw [allB_no (k:=k) (by omega) (by simpa [byteAt_get (show k<s.size by omega)] using hc2)]
  refine w_skip<|n_blk<|n_seq<|w_reg<|?_
  refine V' (v_add lk8 lki (by omega) (by omega)) pt17 ?_
  refine mv' lk17 pt8<|s_nil<|n_thn<|?_
  refine lT' (k+1) (by (try dsimp only);refine ⟨by omega,fun j hj h0=>?_⟩;by_cases e:j=k;subst e;simpa [byteAt_get hj] using hc2;exact hk2 j hj (by omega))
 refine w_exit<|x_thn<|x_thn<|x_blk<|n_seq<|wr'<|mv' lkb pt4<|sn'<|w_rets<|w_ret (rs1 (rr_t gt4))<|rT'<|?_
 refine bvx ?_;rw [allB_yes fun j hj=>hk2 j hj (by omega)]
theorem plain_a {s:ByteArray}{h:AH}(hs:s.size≤maxLen:=by first | assumption | omega):ACalls Tryz.prog 159 [sv s] h fun x h'=>h'=h∧x = .ret (bv (allB plainB s)):=by
 refine tI' k159 fun N hn hlt hlA hbd=>?_
 simp only [tA',AV.bdL,AV.bd,and_true,true_and] at hbd ⊢
 refine wr'<|mv' lkb pt2<|sn'<|wr'<|mv' lk0 pt3<|?_
 refine s_callp (mp1 lk3 (mp1 lkf mp0)) (all_a (fun _ _=>plain1_a) hs) pt4 ?_
 exact mv' lk4 pt2<|sn'<|w_rets<|w_ret (rs1 (rr_t gt2))<|rT' rfl
theorem before_a {y:Int}{h:AH}(h0:1≤y) (h1:y≤20000):ACalls Tryz.prog 150 [iv y] h fun x h'=>h'=h∧x = .ret (iv (bef y)):=by
 refine tI' k150 fun N hn hlt hlA hbd=>?_
 simp only [tA',AV.bdL,AV.bd,and_true,true_and] at hbd ⊢
 refine wr'<|mv' lki pt2<|sn'<|wr'<|mv' lk0 pt3<|?_
 refine V' (v_sub lk3 lki (by omega) (by omega)) pt4 ?_
 refine mv' lk4 pt0<|sn'<|wr'<|mv' lk0 pt5<|?_
 refine V' (v_mul lki lk5 (by omega) (by omega)) pt6 ?_
 refine mv' lk0 pt7 ?_
 refine V' (v_quo lk7 lki (by omega) (by omega) (by omega)) pt8 ?_
 refine V' (v_add lk6 lk8 (by omega) (by omega)) pt9 ?_
 refine mv' lk0 pt10 ?_
 refine V' (v_quo lk10 lki (by omega) (by omega) (by omega)) pt11 ?_
 refine V' (v_sub lk9 lk11 (by omega) (by omega)) pt12 ?_
 refine mv' lk0 pt13 ?_
 refine V' (v_quo lk13 lki (by omega) (by omega) (by omega)) pt14 ?_
 refine V' (v_add lk12 lk14 (by omega) (by omega)) pt15 ?_
 refine mv' lk15 pt2<|sn'<|w_rets<|w_ret (rs1 (rr_t gt2))<|rT'<|?_
 unfold bef;rfl
theorem epoch_a {h:AH}:ACalls Tryz.prog 151 [] h fun x h'=>h'=h∧x = .ret (iv 719162):=by
 refine tI' k151 fun N hn hlt hlA hbd=>?_
 simp only [tA',AV.bdL,AV.bd,and_true,true_and] at hbd ⊢
 refine wr'<|mv' lki pt0<|sn'<|wr'<|?_
 refine s_callp (mp1 lki mp0) (before_a (by first | assumption | omega) (by first | assumption | omega)) pt1 ?_
 refine mv' lk1 pt0<|sn'<|w_rets<|w_ret (rs1 (rr_t gt0))<|rT'<|?_
 rw [bef_1970]
theorem first_a {h:AH}:ACalls Tryz.prog 155 [] h fun x h'=>h'=h∧x = .ret (iv (-719162)):=by
 refine tI' k155 fun N hn hlt hlA hbd=>?_
 simp only [tA',AV.bdL,AV.bd,and_true,true_and] at hbd ⊢
 refine wr'<|mv' lki pt0<|sn'<|wr'<|s_callp mp0 (epoch_a) pt1<|?_
 refine V' (v_neg lk1 (by omega) (by omega)) pt2 ?_
 exact mv' lk2 pt0<|sn'<|w_rets<|w_ret (rs1 (rr_t gt0))<|rT' rfl
theorem last_a {h:AH}:ACalls Tryz.prog 156 [] h fun x h'=>h'=h∧x = .ret (iv 2932896):=by
 refine tI' k156 fun N hn hlt hlA hbd=>?_
 simp only [tA',AV.bdL,AV.bd,and_true,true_and] at hbd ⊢
 refine wr'<|mv' lki pt0<|sn'<|wr'<|?_
 refine s_callp (mp1 lki mp0) (before_a (by omega) (by omega)) pt1 ?_
 refine s_callp mp0 (epoch_a) pt2 ?_
 refine V' (v_sub lk1 lk2 (by rw [bef_10000];omega) (by rw [bef_10000];omega)) pt3 ?_
 refine V' (v_sub lk3 lki (by rw [bef_10000];omega) (by rw [bef_10000];omega)) pt4 ?_
 refine mv' lk4 pt0<|sn'<|w_rets<|w_ret (rs1 (rr_t gt0))<|rT'<|?_
 rw [bef_10000];rfl
end Go.Proofs.YtgjchdhdopgkkaaGreatDoor
end
section
namespace Go.Ab
section
variable {P : Program} {n0 : Nat} {T T' : List AV} {h h' h0 : AH} {c : AV} {d : Option Nat} {rest : List AOper} {K : List AV → AH → Prop} {Kp : AV → List AV → AH → Prop} {Q : AX → List AV → AH → Prop} {rs : List Nat} {ents : AH} {K2 : List AV → AH → Prop}
theorem s_callPan {f:FuncId}{xs:List Operand}{as1:List AV}(hx:xs.map (aEval T)=as1) (hc:ACalls P f as1 h fun r h''=>r = .pan c∧h''=h') (hk:Kp c T h'):arun P Kp (⟨d,none,.call (.func f) xs⟩::rest) T h K :=
 s_call hx hc fun r h'' ⟨h1,h2⟩=>by subst h1 h2;exact hk
theorem s_callPan' {f:FuncId}{xs:List Operand}{as1:List AV}(hx:xs.map (aEval T)=as1) (hc:ACalls P f as1 h fun r h''=>h''=h∧r = .pan c) (hk:Kp c T h):arun P Kp (⟨d,none,.call (.func f) xs⟩::rest) T h K :=
 s_call hx hc fun r h'' ⟨h1,h2⟩=>by subst h1 h2;exact hk
theorem s_callPanX {f:FuncId}{xs:List Operand}{as1:List AV}{Pp:AH→Prop}(hx:xs.map (aEval T)=as1) (hc:ACalls P f as1 h fun r h''=>r = .pan c∧Pp h'') (hk : ∀ h'',Pp h''→Kp c T h''):arun P Kp (⟨d,none,.call (.func f) xs⟩::rest) T h K :=
 s_call hx hc fun r h'' ⟨h1,h2⟩=>by subst h1;exact hk _ h2
theorem p_thn {N:List AV→AH→Prop}(hr:Q (.pan c) T h):AX.thn N Q (.pan c) T h:=hr
theorem p_blk {i:Nat}(hr:Q (.pan c) T h):AX.blk i Q (.pan c) T h:=hr
theorem w_pan {rr:List AR}{R:AE→AH→Prop}(hR:R (.pan c) h):retA rr R (.pan c) T h:=hR
theorem d_callT {f:FuncId}{x:Operand}{xs:List Operand}{as1:List AV}(hf:aEval T x = .v (.func (.func f) #[] #[])) (hx:xs.map (aEval T)=as1) (hc : ∀ h,HExt h0 h→ACalls P f as1 h fun r h'=>h'=h∧r = .ret c) (hp:aPut T d c=T') (hk:adrun P rs h0 rest T' ents K2) :
  adrun P rs h0 (⟨d,none,.call x xs⟩::rest) T ents K2:=by
 unfold adrun agd
 refine ⟨fun _=>?_,fun h=>by cases h⟩
 unfold adstep
 simp only [hf]
 refine ⟨c,fun h hE=>?_,by rw [hp];exact hk⟩
 unfold aCall
 exact ⟨rfl,rfl,by rw [hx];exact hc h hE⟩
end
end Go.Ab
end
section
namespace Go.Proofs.YtgjchdhdopgkkaaGreatDoor
open Go.Ab
abbrev Bs:=List UInt8
def bA (l:Bs):ByteArray:=⟨l.toArray⟩
def aB (s:ByteArray):Bs:=s.data.toList
theorem aB_bA (l:Bs):aB (bA l)=l:=rfl
theorem bA_aB (s:ByteArray):bA (aB s)=s:=rfl
theorem aB_len (s:ByteArray):(aB s).length=s.size:=rfl
theorem bA_size (l:Bs):(bA l).size=l.length:=rfl
theorem bA_inj {a b:Bs}(h:bA a=bA b):a=b:=by rw [←aB_bA a,h,aB_bA]
theorem bA_app (a b:Bs):bA a++bA b=bA (a++b):=by
 apply ByteArray.ext
 rw [ByteArray.data_append]
 show a.toArray++b.toArray=(a++b).toArray
 simp
theorem aB_app (a b:ByteArray):aB (a++b)=aB a++aB b:=by
 rw [←bA_aB a,←bA_aB b,bA_app];rfl
theorem bA_ext (s:ByteArray) (a b:Nat):s.extract a b=bA (((aB s).drop a).take (b-a)):=by
 apply ByteArray.ext
 rw [ByteArray.data_extract]
 apply Array.ext'
 rw [Array.toList_extract,List.extract_eq_take_drop]
 rfl
theorem aB_at {s:ByteArray}{k:Nat}(h:k<s.size):(aB s).drop k=byteAt s k::(aB s).drop (k+1):=by
 have h':k<s.data.toList.length:=h
 unfold aB byteAt
 rw [List.drop_eq_getElem_cons h',List.getD_eq_getElem?_getD,List.getElem?_eq_getElem h']
 rfl
theorem aB_end {s:ByteArray}{k:Nat}(h:s.size≤k):(aB s).drop k=[]:=List.drop_of_length_le h
theorem emp_size {f:ByteArray}:f=⟨#[]⟩↔f.size=0:=by
 constructor
 ·rintro rfl;rfl
 ·intro h
  exact ByteArray.ext (Array.eq_empty_of_size_eq_zero h)
theorem byte_lt (c:UInt8):(0:Int)≤(c.toNat:Int)∧(c.toNat:Int)<256:=by have:=c.toNat_lt;omega
def blkN (n:Int):Bool:=decide (n=32∨n=9)
def plnN (n:Int):Bool:=decide (32≤n∧n≤126∨n=9)
def moreL:Bs→Bool
 | []=>false
 | c::_=>decide ((c.toNat:Int)≠35)
def headN:Bs→Int
 | []=>0
 | c::_=>c.toNat
def runL (p:Int→Bool):Bs→Option Nat
 | []=>some 0
 | c::l=>if p c.toNat=true then (if plnN c.toNat=true then (runL p l).map (· + 1) else none) else some 0
theorem runL_le {p:Int→Bool} : ∀ {l:Bs}{n:Nat},runL p l=some n→n≤l.length
 | [],n,h=>by simp [runL] at h;omega
 | c::l,n,h=>by
  unfold runL at h
  split at h
  ·split at h
   ·rw [Option.map_eq_some_iff] at h
    obtain ⟨m,hm,rfl⟩:=h
    have:=runL_le hm
    simp;omega
   ·cases h
  ·simp at h;subst h;omega
theorem runL_end {p:Int→Bool}{s:ByteArray}{k:Nat}(h:s.size≤k):runL p ((aB s).drop k)=some 0:=by rw [aB_end h];rfl
theorem runL_stop {p:Int→Bool}{s:ByteArray}{k:Nat}(h:k<s.size) (hp:p (byteAt s k).toNat=false):runL p ((aB s).drop k)=some 0:=by
 rw [aB_at h,runL,if_neg (by simp [hp])]
theorem runL_bad {p:Int→Bool}{s:ByteArray}{k:Nat}(h:k<s.size) (hp:p (byteAt s k).toNat=true) (hq:plnN (byteAt s k).toNat=false):runL p ((aB s).drop k)=none:=by
 rw [aB_at h,runL,if_pos hp,if_neg (by simp [hq])]
theorem runL_go {p:Int→Bool}{s:ByteArray}{k:Nat}(h:k<s.size) (hp:p (byteAt s k).toNat=true) (hq:plnN (byteAt s k).toNat=true):runL p ((aB s).drop k)=(runL p ((aB s).drop (k+1))).map (· + 1):=by
 rw [aB_at h,runL,if_pos hp,if_pos hq]
theorem moreL_at {s:ByteArray}{k:Nat}:moreL ((aB s).drop k)=(decide (k<s.size)&&decide (((byteAt s k).toNat:Int)≠35)):=by
 rcases Nat.lt_or_ge k s.size with h | h
 ·rw [aB_at h,moreL];simp [h]
 ·rw [aB_end h,moreL];simp [Nat.not_lt.2 h]
theorem headN_at {s:ByteArray}{k:Nat}(h:k<s.size):headN ((aB s).drop k)=((byteAt s k).toNat:Int):=by rw [aB_at h];rfl
def quoP (n:Int):Bool:=decide (n≠34)
def fldP (n:Int):Bool:=!blkN n&&decide (n≠35)&&decide (n≠34)
def fieldL:Bs→Option (Nat×Nat×Nat)
  | []=>none
  | c :: l => if (c.toNat : Int) = 34 then
      match runL quoP l with
      | none=>none
      | some n=>if n=l.length then none else if moreL (l.drop (n+1))=true∧blkN (headN (l.drop (n+1)))=false then none else some (1,n,n+2)
    else match runL fldP (c::l) with
      | none=>none
      | some n=>if moreL ((c::l).drop n)=true∧headN ((c::l).drop n)=34 then none else some (0,n,n)
def cutF (l:Bs) (x:Nat×Nat×Nat):ByteArray:=bA ((l.drop x.1).take x.2.1)
def skipN (l:Bs):Nat:=(l.takeWhile fun c=>blkN c.toNat).length
def fldsL:Nat→List ByteArray→Bs→List ByteArray×Int
  | 0,acc,_=>(acc,0)
  | k + 1, acc, l => if moreL (l.drop (skipN l)) = true then
      match fieldL (l.drop (skipN l)) with
      | none=>([],1)
      | some x=>if 24<x.2.1∨12<acc.length+1 then ([],2) else fldsL k (acc++[cutF (l.drop (skipN l)) x]) ((l.drop (skipN l)).drop x.2.2)
    else (acc,0)
def lineL (l:Bs):List ByteArray×Int:=fldsL 13 [] l
theorem runL_blk : ∀ l:Bs,runL blkN l=some (skipN l)
 | []=>rfl
 | c::l=>by
  unfold runL skipN
  by_cases h:blkN c.toNat=true
  ·have hp:plnN c.toNat=true:=by unfold blkN at h;unfold plnN;simp at h ⊢;omega
   rw [if_pos h,if_pos hp,runL_blk l]
   simp [skipN,List.takeWhile_cons,h]
  ·rw [if_neg h]
   simp [List.takeWhile_cons,h]
theorem fieldL_le {l:Bs}{x:Nat×Nat×Nat}(h:fieldL l=some x):x.1+x.2.1≤x.2.2∧x.2.2≤l.length∧(x.1=0∨x.1=1):=by
 cases l with
 | nil=>cases h
 | cons c l =>
  by_cases hc:(c.toNat:Int)=34
  ·rw [fieldL,if_pos hc] at h
   cases hr:runL quoP l with
   | none=>rw [hr] at h;cases h
   | some n =>
    have:=runL_le hr
    rw [hr] at h
    simp only at h
    split at h
    ·cases h
    ·split at h
     ·cases h
     ·rename_i h1 _
      cases h
      refine ⟨by simp;omega,by simp;omega,.inr rfl⟩
  ·rw [fieldL,if_neg hc] at h
   cases hr:runL fldP (c::l) with
   | none=>rw [hr] at h;cases h
   | some n =>
    have:=runL_le hr
    rw [hr] at h
    simp only at h
    split at h
    ·cases h
    ·cases h
     exact ⟨by simp,this,.inl rfl⟩
end Go.Proofs.YtgjchdhdopgkkaaGreatDoor
end
section
namespace Go.Proofs.YtgjchdhdopgkkaaGreatDoor
open Go.Ab
section
theorem LineA_sc1_1 {a0 a1 c0:AV}{l:List AV}:setCells (a0::a1::l) 1 [c0]=a0::c0::l:=rfl
end
def c77:AC:=(.seq (.reg [Oo 2 (.mv (.const (.bool false)))]) (.seq (.reg [Mv 3 0,Oo 4 (.bin .eql (.tmp 3) (.const (.int .u8 32))),Mv 5 4,Of 6 5 (.mv (.tmp 0)),Of 7 5 (.bin .eql (.tmp 6) (.const (.int .u8 9))),Oo 8 (.pick (.tmp 5) (.const (.bool true)) (.tmp 7)),Mv 2 8]) .ret))
theorem k77:compF Tryz.prog 77=some ⟨c77,[(.tmp 2)],9⟩:=by kernel_rfl
def c132:AC:=(.seq (.reg [Oo 2 (.mv (.const (.bool false)))]) (.seq (.reg [Mv 3 0,Oo 4 (.bin .geq (.tmp 3) (.const (.int .u8 32))),Mv 5 4,Ot 6 5 (.mv (.tmp 0)),Ot 7 5 (.bin .leq (.tmp 6) (.const (.int .u8 126))),Oo 8 (.pick (.tmp 5) (.tmp 7) (.const (.bool false))),Mv 9 8,Of 10 9 (.mv (.tmp 0)),Of 11 9 (.bin .eql (.tmp 10) (.const (.int .u8 9))),Oo 12 (.pick (.tmp 9) (.const (.bool true)) (.tmp 11)),Mv 2 12]) .ret))
theorem k132:compF Tryz.prog 132=some ⟨c132,[(.tmp 2)],13⟩:=by kernel_rfl
def c110:AC:=(.reg [Mv 2 0,Oo 3 (.mkif 27 (.tmp 2)),⟨none,none,(.panic (.tmp 3))⟩])
theorem k110:compF Tryz.prog 110=some ⟨c110,[],4⟩:=by kernel_rfl
def c107:AC:=(.seq (.reg [Oo 4 (.mv (.const (.string ⟨#[]⟩)))]) (.seq (.reg [Mv 6 0,Nk 7 6,Fa 8 1 7,Ld 9 8,Mv 5 9]) (.seq (.block 0 (.loop (.seq (.seq (.drw [Mv 10 0,Nk 11 10,Fa 12 1 11,Ld 13 12,Mv 14 0,Nk 15 14,Fa 16 0 15,Ld 17 16,Oo 18 (.len true (.tmp 17)),Oo 19 (.bin .lss (.tmp 13) (.tmp 18)),Mv 20 19,Ot 21 20 (.mv (.tmp 1)),Ot 22 20 (.mv (.tmp 0)),Ot 23 20 (.nck (.tmp 22)),Ot 24 20 (.fa 0 (.tmp 23)),Ot 25 20 (.load false 1 (.tmp 24)),Ot 26 20 (.mv (.tmp 0)),Ot 27 20 (.nck (.tmp 26)),Ot 28 20 (.fa 1 (.tmp 27)),Ot 29 20 (.load false 1 (.tmp 28)),Ot 30 20 (.ix (.tmp 25) (.tmp 29)),Ot 31 20 (.call (.tmp 21) [(.tmp 30)]),Oo 32 (.pick (.tmp 20) (.tmp 31) (.const (.bool false)))] [] []) (.cond (.tmp 32) .skip (.exit 0))) (.block 1 (.seq (.seq (.drw [Mv 33 0,Nk 34 33,Fa 35 0 34,Ld 36 35,Mv 37 0,Nk 38 37,Fa 39 1 38,Ld 40 39,Oo 41 (.ix (.tmp 36) (.tmp 40)),Oo 42 (.call (.func 132) [(.tmp 41)]),Oo 43 (.un .not (.tmp 42))] [] []) (.cond (.tmp 43) (.reg [Oo 44 (.call (.func 110) [(Ci 1)])]) .skip)) (.reg [Mv 45 0,Nk 46 45,Fa 47 1 46,Ld 48 47,Oo 49 (.bin .add (.tmp 48) (Ci 1)),Nk 50 45,Fa 51 1 50,⟨none,none,(.store 1 (.tmp 51) (.tmp 49))⟩])))))) (.seq (.drw [Mv 52 0,Nk 53 52,Fa 54 0 53,Ld 55 54,Mv 56 5,Mv 57 0,Nk 58 57,Fa 59 1 58,Ld 60 59,Oo 61 (.sls (.tmp 55) (some (.tmp 56)) (some (.tmp 60))),Mv 4 61] [] []) .ret))))
theorem k107:compF Tryz.prog 107=some ⟨c107,[(.tmp 4)],62⟩:=by kernel_rfl
def c108:AC:=(.seq (.reg [Oo 2 (.mv (.const (.bool false)))]) (.seq (.drw [Mv 3 0,Nk 4 3,Fa 5 1 4,Ld 6 5,Mv 7 0,Nk 8 7,Fa 9 0 8,Ld 10 9,Oo 11 (.len true (.tmp 10)),Oo 12 (.bin .lss (.tmp 6) (.tmp 11)),Mv 13 12,Ot 14 13 (.mv (.tmp 0)),Ot 15 13 (.nck (.tmp 14)),Ot 16 13 (.fa 0 (.tmp 15)),Ot 17 13 (.load false 1 (.tmp 16)),Ot 18 13 (.mv (.tmp 0)),Ot 19 13 (.nck (.tmp 18)),Ot 20 13 (.fa 1 (.tmp 19)),Ot 21 13 (.load false 1 (.tmp 20)),Ot 22 13 (.ix (.tmp 17) (.tmp 21)),Ot 23 13 (.bin .neq (.tmp 22) (.const (.int .u8 35))),Oo 24 (.pick (.tmp 13) (.tmp 23) (.const (.bool false))),Mv 2 24] [] []) .ret))
theorem k108:compF Tryz.prog 108=some ⟨c108,[(.tmp 2)],25⟩:=by kernel_rfl
def c140:AC:=(.seq (.reg [Oo 2 (.mv (.const (.string ⟨#[]⟩)))]) (.seq (.reg [Mv 4 0,Nk 5 4,Fa 6 1 5,Ld 7 6,Oo 8 (.bin .add (.tmp 7) (Ci 1)),Nk 9 4,Fa 10 1 9,⟨none,none,(.store 1 (.tmp 10) (.tmp 8))⟩]) (.seq (.reg [Mv 11 0,Oo 12 (.call (.func 107) [(.tmp 11),(.func 171)]),Mv 3 12]) (.seq (.seq (.drw [Mv 13 0,Nk 14 13,Fa 15 1 14,Ld 16 15,Mv 17 0,Nk 18 17,Fa 19 0 18,Ld 20 19,Oo 21 (.len true (.tmp 20)),Oo 22 (.bin .eql (.tmp 16) (.tmp 21))] [] []) (.cond (.tmp 22) (.reg [Oo 23 (.call (.func 110) [(Ci 1)])]) .skip)) (.seq (.reg [Mv 24 0,Nk 25 24,Fa 26 1 25,Ld 27 26,Oo 28 (.bin .add (.tmp 27) (Ci 1)),Nk 29 24,Fa 30 1 29,⟨none,none,(.store 1 (.tmp 30) (.tmp 28))⟩]) (.seq (.seq (.drw [Mv 31 0,Oo 32 (.call (.func 108) [(.tmp 31)]),Mv 33 32,Ot 34 33 (.mv (.tmp 0)),Ot 35 33 (.nck (.tmp 34)),Ot 36 33 (.fa 0 (.tmp 35)),Ot 37 33 (.load false 1 (.tmp 36)),Ot 38 33 (.mv (.tmp 0)),Ot 39 33 (.nck (.tmp 38)),Ot 40 33 (.fa 1 (.tmp 39)),Ot 41 33 (.load false 1 (.tmp 40)),Ot 42 33 (.ix (.tmp 37) (.tmp 41)),Ot 43 33 (.call (.func 77) [(.tmp 42)]),Ot 44 33 (.un .not (.tmp 43)),Oo 45 (.pick (.tmp 33) (.tmp 44) (.const (.bool false)))] [] []) (.cond (.tmp 45) (.reg [Oo 46 (.call (.func 110) [(Ci 1)])]) .skip)) (.seq (.reg [Mv 47 3,Mv 2 47]) .ret)))))))
theorem k140:compF Tryz.prog 140=some ⟨c140,[(.tmp 2)],48⟩:=by kernel_rfl
def c109:AC:=(.seq (.reg [Oo 2 (.mv (.const (.string ⟨#[]⟩)))]) (.seq (.seq (.drw [Mv 4 0,Nk 5 4,Fa 6 0 5,Ld 7 6,Mv 8 0,Nk 9 8,Fa 10 1 9,Ld 11 10,Oo 12 (.ix (.tmp 7) (.tmp 11)),Oo 13 (.bin .eql (.tmp 12) (.const (.int .u8 34)))] [] []) (.cond (.tmp 13) (.seq (.reg [Mv 14 0,Oo 15 (.call (.func 140) [(.tmp 14)]),Mv 2 15]) .ret) .skip)) (.seq (.reg [Mv 16 0,Oo 17 (.call (.func 107) [(.tmp 16),(.func 141)]),Mv 3 17]) (.seq (.seq (.drw [Mv 18 0,Oo 19 (.call (.func 108) [(.tmp 18)]),Mv 20 19,Ot 21 20 (.mv (.tmp 0)),Ot 22 20 (.nck (.tmp 21)),Ot 23 20 (.fa 0 (.tmp 22)),Ot 24 20 (.load false 1 (.tmp 23)),Ot 25 20 (.mv (.tmp 0)),Ot 26 20 (.nck (.tmp 25)),Ot 27 20 (.fa 1 (.tmp 26)),Ot 28 20 (.load false 1 (.tmp 27)),Ot 29 20 (.ix (.tmp 24) (.tmp 28)),Ot 30 20 (.bin .eql (.tmp 29) (.const (.int .u8 34))),Oo 31 (.pick (.tmp 20) (.tmp 30) (.const (.bool false)))] [] []) (.cond (.tmp 31) (.reg [Oo 32 (.call (.func 110) [(Ci 1)])]) .skip)) (.seq (.reg [Mv 33 3,Mv 2 33]) .ret)))))
theorem k109:compF Tryz.prog 109=some ⟨c109,[(.tmp 2)],34⟩:=by kernel_rfl
def c171:AC:=(.seq (.reg [Oo 2 (.mv (.const (.bool false)))]) (.seq (.reg [Mv 3 0,Oo 4 (.bin .neq (.tmp 3) (.const (.int .u8 34))),Mv 2 4]) .ret))
theorem k171:compF Tryz.prog 171=some ⟨c171,[(.tmp 2)],5⟩:=by kernel_rfl
def c141:AC:=(.seq (.reg [Oo 2 (.mv (.const (.bool false)))]) (.seq (.reg [Mv 3 0,Oo 4 (.call (.func 77) [(.tmp 3)]),Oo 5 (.un .not (.tmp 4)),Mv 6 5,Ot 7 6 (.mv (.tmp 0)),Ot 8 6 (.bin .neq (.tmp 7) (.const (.int .u8 35))),Oo 9 (.pick (.tmp 6) (.tmp 8) (.const (.bool false))),Mv 10 9,Ot 11 10 (.mv (.tmp 0)),Ot 12 10 (.bin .neq (.tmp 11) (.const (.int .u8 34))),Oo 13 (.pick (.tmp 10) (.tmp 12) (.const (.bool false))),Mv 2 13]) .ret))
theorem k141:compF Tryz.prog 141=some ⟨c141,[(.tmp 2)],14⟩:=by kernel_rfl
abbrev u8v (n:Int):AV:=.v (.int .u8 n)
abbrev fnv (k:Nat):AV:=.v (.func (.func k) #[] #[])
abbrev erA (n:Int):AV:=.v (.iface 27 (.int .i64 n))
theorem lnblank_a {n:Int}{h:AH}:ACalls Tryz.prog 77 [u8v n] h fun x h'=>h'=h∧x = .ret (bv (blkN n)):=by
 refine tI' k77 fun N hn hlt hlA hbd=>?_
 simp only [tA',AV.bdL,AV.bd,and_true,true_and] at hbd ⊢
 refine wr'<|mv' lkb pt2<|sn'<|wr'<|mv' lk0 pt3<|V' (v_eql lk3 lki) pt4<|mv' lk4 pt5<|?_
 refine sp' gt5 pt5 pt5 (fun hg5=>?_) (fun hg5=>?_)
 ·refine s_no gt5 pt6<|s_no gt5 pt7<|V' (v_pickT lk5 lkb) pt8<|mv' lk8 pt2<|sn'<|w_rets<|w_ret (rs1 (rr_t gt2))<|rT'<|?_
  refine bvx ?_;unfold blkN;simp_all
 refine s_do gt5<|mv' lk0 pt6<|s_do gt5<|V' (v_eql lk6 lki) pt7<|V' (v_pickF lk5 lk7) pt8<|mv' lk8 pt2<|sn'<|w_rets<|w_ret (rs1 (rr_t gt2))<|rT'<|?_
 refine bvx ?_;unfold blkN;simp_all
theorem lnplain_a {n:Int}{h:AH}:ACalls Tryz.prog 132 [u8v n] h fun x h'=>h'=h∧x = .ret (bv (plnN n)):=by
 refine tI' k132 fun N hn hlt hlA hbd=>?_
 simp only [tA',AV.bdL,AV.bd,and_true,true_and] at hbd ⊢
 refine wr'<|mv' lkb pt2<|sn'<|wr'<|mv' lk0 pt3<|V' (v_geq lk3 lki) pt4<|mv' lk4 pt5<|?_
 refine sp' gt5 pt5 pt5 (fun hg5=>?_) (fun hg5=>?_)
 ·refine s_do gt5<|mv' lk0 pt6<|s_do gt5<|V' (v_leq lk6 lki) pt7<|V' (v_pickT lk5 lk7) pt8<|mv' lk8 pt9<|?_
  refine sp' gt9 pt9 pt9 (fun hg9=>?_) (fun hg9=>?_)
  ·refine s_no gt9 pt10<|s_no gt9 pt11<|V' (v_pickT lk9 lkb) pt12<|mv' lk12 pt2<|sn'<|w_rets<|w_ret (rs1 (rr_t gt2))<|rT'<|?_
   refine bvx ?_;unfold plnN;rw [Bool.eq_iff_iff];simp;omega
  refine s_do gt9<|mv' lk0 pt10<|s_do gt9<|V' (v_eql lk10 lki) pt11<|V' (v_pickF lk9 lk11) pt12<|mv' lk12 pt2<|sn'<|w_rets<|w_ret (rs1 (rr_t gt2))<|rT'<|?_
  refine bvx ?_;unfold plnN;rw [Bool.eq_iff_iff];simp;omega
 refine s_no gt5 pt6<|s_no gt5 pt7<|V' (v_pickF lk5 lkb) pt8<|mv' lk8 pt9<|s_do gt9<|mv' lk0 pt10<|s_do gt9<|V' (v_eql lk10 lki) pt11<|V' (v_pickF lk9 lk11) pt12<|mv' lk12 pt2<|sn'<|w_rets<|w_ret (rs1 (rr_t gt2))<|?_
 refine rT' ?_
 refine bvx ?_;unfold plnN;rw [Bool.eq_iff_iff];simp;omega
theorem lnquo_a {n:Int}{h:AH}:ACalls Tryz.prog 171 [u8v n] h fun x h'=>h'=h∧x = .ret (bv (quoP n)):=by
 refine tI' k171 fun N hn hlt hlA hbd=>?_
 simp only [tA',AV.bdL,AV.bd,and_true,true_and] at hbd ⊢
 exact wr'<|mv' lkb pt2<|sn'<|wr'<|mv' lk0 pt3<|V' (v_neq lk3 lki) pt4<|mv' lk4 pt2<|sn'<|w_rets<|w_ret (rs1 (rr_t gt2))<|rT' rfl
theorem lnfld_a {n:Int}{h:AH}:ACalls Tryz.prog 141 [u8v n] h fun x h'=>h'=h∧x = .ret (bv (fldP n)):=by
 refine tI' k141 fun N hn hlt hlA hbd=>?_
 simp only [tA',AV.bdL,AV.bd,and_true,true_and] at hbd ⊢
 refine wr'<|mv' lkb pt2<|sn'<|wr'<|mv' lk0 pt3<|s_callp (mp1 lk3 mp0) (lnblank_a) pt4<|V' (v_notB lk4) pt5<|mv' lk5 pt6<|?_
 refine s_splitB gt6 pt6 pt6 (fun hg6=>?_) (fun hg6=>?_)
 ·refine s_do gt6<|mv' lk0 pt7<|s_do gt6<|V' (v_neq lk7 lki) pt8<|V' (v_pickT lk6 lk8) pt9<|mv' lk9 pt10<|?_
  refine sp' gt10 pt10 pt10 (fun hg10=>?_) (fun hg10=>?_)
  ·refine s_do gt10<|mv' lk0 pt11<|s_do gt10<|V' (v_neq lk11 lki) pt12<|V' (v_pickT lk10 lk12) pt13<|mv' lk13 pt2<|sn'<|w_rets<|w_ret (rs1 (rr_t gt2))<|rT'<|?_
   refine bvx ?_;unfold fldP;simp_all
  refine s_no gt10 pt11<|s_no gt10 pt12<|V' (v_pickF lk10 lkb) pt13<|mv' lk13 pt2<|sn'<|w_rets<|w_ret (rs1 (rr_t gt2))<|rT'<|?_
  refine bvx ?_;unfold fldP;simp_all
 refine s_no gt6 pt7<|s_no gt6 pt8<|V' (v_pickF lk6 lkb) pt9<|mv' lk9 pt10<|s_no gt10 pt11<|s_no gt10 pt12<|V' (v_pickF lk10 lkb) pt13<|mv' lk13 pt2<|sn'<|w_rets<|w_ret (rs1 (rr_t gt2))<|rT'<|?_
 refine bvx ?_;unfold fldP;simp_all
theorem lnfail_a {n:Int}{h:AH}:ACalls Tryz.prog 110 [iv n] h fun x h'=>h'=h∧x = .pan (erA n):=by
 refine tI' k110 fun N hn hlt hlA hbd=>?_
 simp only [tA',AV.bdL,AV.bd,and_true,true_and] at hbd ⊢
 refine w_reg<|mv' lk0 pt2<|V' (v_mkif lk2) pt3<|s_panic lk3<|w_pan<|?_
 exact ⟨_,rfl,rfl,rfl⟩
theorem lnmore_a {s:ByteArray}{k:Nat}{O:AV}{id v0 ty:Nat}{h:AH}(h1:h[id]?=some (.mk v0 ty 3 [sv s,iv (k:Int),O])) (hk:k≤s.size) :
  ACalls Tryz.prog 108 [.ptr id v0 0] h fun x h'=>h'=h∧x = .ret (bv (moreL ((aB s).drop k))):=by
 refine tI' k108 fun N hn hlt hlA hbd=>?_
 simp only [tA',AV.bdL,AV.bd,and_true,true_and] at hbd ⊢
 refine wr'<|mv' lkb pt2<|sn'<|w_seq<|w_drwE<|D' (v_mv lk0) pt3<|D' (v_nckp lk3) pt4<|D' (v_fap0 lk4) pt5<|D' (v_loadp lk5 (hx_app h1) gt1) pt6<|D' (v_mv lk0) pt7<|D' (v_nckp lk7) pt8<|D' (v_fap0 lk8) pt9<|?_
 refine D' (v_loadp lk9 (hx_app h1) gt0) pt10<|D' (v_lenS lk10) pt11<|D' (v_lss lk6 lk11) pt12<|D' (v_mv lk12) pt13<|?_
 refine dq' gt13 pt13 pt13 (fun hg13=>?_) (fun hg13=>?_)
 ·refine d_do gt13<|D' (v_mv lk0) pt14<|d_do gt13<|D' (v_nckp lk14) pt15<|d_do gt13<|D' (v_fap0 lk15) pt16<|d_do gt13<|D' (v_loadp lk16 (hx_app h1) gt0) pt17<|d_do gt13<|D' (v_mv lk0) pt18<|d_do gt13<|D' (v_nckp lk18) pt19<|d_do gt13<|D' (v_fap0 lk19) pt20<|?_
  refine d_do gt13<|D' (v_loadp lk20 (hx_app h1) gt1) pt21<|d_do gt13<|?_
  refine D' (v_ix lk17 lk21 (by omega) (by omega)) pt22 ?_
  refine d_do gt13<|D' (v_neq lk22 lki) pt23<|D' (v_pickT lk13 lk23) pt24<|D' (v_mv lk24) pt2<|d_nil<|?_
  refine e_nil ?_
  refine sn'<|w_rets<|w_ret (rs1 (rr_t gt2))<|rT'<|?_
  refine bvx ?_;rw [moreL_at];first | (simp_all;done) | (simp_all;omega)
 refine d_no gt13 pt14<|d_no gt13 pt15<|d_no gt13 pt16<|d_no gt13 pt17<|d_no gt13 pt18<|d_no gt13 pt19<|d_no gt13 pt20<|d_no gt13 pt21<|d_no gt13 pt22<|d_no gt13 pt23<|D' (v_pickF lk13 lkb) pt24<|D' (v_mv lk24) pt2<|d_nil<|?_
 refine e_nil ?_
 refine sn'<|w_rets<|w_ret (rs1 (rr_t gt2))<|rT'<|?_
 refine bvx ?_;rw [moreL_at];first | (simp_all;done) | (simp_all;omega)
def runN (p:Int→Bool):Bs→Nat
 | []=>0
 | c::l=>if p c.toNat=true∧plnN c.toNat=true then runN p l+1 else 0
theorem runN_end {p:Int→Bool}{s:ByteArray}{k:Nat}(h:s.size≤k):runN p ((aB s).drop k)=0:=by rw [aB_end h];rfl
theorem runN_stop {p:Int→Bool}{s:ByteArray}{k:Nat}(h:k<s.size) (hp:¬(p (byteAt s k).toNat=true∧plnN (byteAt s k).toNat=true)):runN p ((aB s).drop k)=0:=by
 rw [aB_at h,runN,if_neg hp]
theorem runN_go {p:Int→Bool}{s:ByteArray}{k:Nat}(h:k<s.size) (hp:p (byteAt s k).toNat=true) (hq:plnN (byteAt s k).toNat=true):runN p ((aB s).drop k)=runN p ((aB s).drop (k+1))+1:=by
 rw [aB_at h,runN,if_pos ⟨hp,hq⟩]
theorem runN_of {p:Int→Bool} : ∀ {l:Bs}{n:Nat},runL p l=some n→runN p l=n
 | [],n,h=>by simp [runL] at h;subst h;rfl
 | c::l,n,h=>by
  unfold runL at h
  split at h
  ·rename_i hp
   split at h
   ·rename_i hq
    rw [Option.map_eq_some_iff] at h
    obtain ⟨m,hm,rfl⟩:=h
    rw [runN,if_pos ⟨hp,hq⟩,runN_of hm]
   cases h
  rename_i hp
  simp at h;subst h
  rw [runN,if_neg (fun e=>hp e.1)]
theorem lnrun_any {p:Int→Bool}{f:Nat}(hp : ∀ (n:Int) (h:AH),ACalls Tryz.prog f [u8v n] h fun x h'=>h'=h∧x = .ret (bv (p n))) {s:ByteArray}{k:Nat}{O:AV}{id v0 ty:Nat}{h:AH}(h1:h[id]?=some (.mk v0 ty 3 [sv s,iv (k:Int),O])) (hO:O.lt h.length=true) (hk:k≤s.size) (hz:s.size≤8000) :
  ACalls Tryz.prog 107 [.ptr id v0 0,fnv f] h fun x h'=>h'=h.set id (.mk v0 ty 3 [sv s,iv ((k+runN p ((aB s).drop k):Nat):Int),O])∧((runL p ((aB s).drop k)=some (runN p ((aB s).drop k))∧x = .ret (sv (bA (((aB s).drop k).take (runN p ((aB s).drop k))))))∨(runL p ((aB s).drop k)=none∧x = .pan (erA 1))):=by
 have hid:id<h.length:=(List.getElem?_eq_some_iff.1 h1).1
 refine tJ' k107 fun N hn hlt hlA hbd=>?_
 simp only [tA',AV.bdL,AV.bd,and_true,true_and] at hbd ⊢
 rw [hn] at hO
 refine aw_heap (h1:=h.set id (.mk v0 ty 3 [sv s,iv (k:Int),O])++[]) (by rw [hx_self h1]) ?_
 refine wr'<|mv' lks pt4<|sn'<|wr'<|mv' lk0 pt6<|V' (v_nckp lk6) pt7<|V' (v_fap0 lk7) pt8<|V' (v_loadp lk8 (hx_at hid) gt1) pt9<|mv' lk9 pt5<|sn'<|?_
 refine w_seq<|w_block<|?_
 refine w_loopH (ι:=Nat) (fun (j:Nat)=>[(5,iv (k:Int))]++rn' 10 42) (fun (j:Nat)=>h.set id (.mk v0 ty 3 [sv s,iv ((k+j:Nat):Int),O])++[]) (fun (j:Nat)=>k+j≤s.size∧runL p ((aB s).drop k)=(runL p ((aB s).drop (k+j))).map (· + j)∧runN p ((aB s).drop k)=runN p ((aB s).drop (k+j))+j) (fun (j:Nat)=>s.size-(k+j)) (0) (by exact ⟨by omega,by simp,by simp⟩) (by try simp only [setsT,setsE,z',s',rn',la',ln',Nat.reduceAdd];exact ALe.same wA' (by simp)) ?_
 rintro j hi1
 try simp only [setsT,setsE,z',s',rn',la',ln',Nat.reduceAdd]
 obtain ⟨hj1,hj2,hj3⟩:=hi1
 refine w_seq<|w_seq<|w_drwE<|D' (v_mv lk0) pt10<|D' (v_nckp lk10) pt11<|D' (v_fap0 lk11) pt12<|D' (v_loadp lk12 (hx_at hid) gt1) pt13<|D' (v_mv lk0) pt14<|D' (v_nckp lk14) pt15<|D' (v_fap0 lk15) pt16<|D' (v_loadp lk16 (hx_at hid) gt0) pt17<|D' (v_lenS lk17) pt18<|D' (v_lss lk13 lk18) pt19<|D' (v_mv lk19) pt20<|?_
 refine dq' gt20 pt20 pt20 (fun hg20=>?_) (fun hg20=>?_)
 ·have hlt2:k+j<s.size:=by omega
  refine d_do gt20<|D' (v_mv lk1) pt21<|d_do gt20<|D' (v_mv lk0) pt22<|d_do gt20<|D' (v_nckp lk22) pt23<|d_do gt20<|D' (v_fap0 lk23) pt24<|d_do gt20<|D' (v_loadp lk24 (hx_at hid) gt0) pt25<|d_do gt20<|D' (v_mv lk0) pt26<|d_do gt20<|D' (v_nckp lk26) pt27<|?_
  refine d_do gt20<|D' (v_fap0 lk27) pt28<|d_do gt20<|D' (v_loadp lk28 (hx_at hid) gt1) pt29<|d_do gt20<|?_
  refine D' (v_ix lk25 lk29 (by omega) (by omega)) pt30 ?_
  refine d_do gt20 ?_
  refine d_callT lk21 (mp1 lk30 mp0) (fun hE hX=>hp _ _) pt31 ?_
  refine D' (v_pickT lk20 lk31) pt32<|d_nil<|?_
  refine e_nil ?_
  refine sn' ?_
  refine w_condB lk32 (fun hc1=>?_) (fun hc1=>?_)
  ·have hc1':p (byteAt s (k+j)).toNat=true:=hc1
   refine w_skip<|n_seq<|w_block<|w_seq<|w_seq<|w_drwE<|D' (v_mv lk0) pt33<|D' (v_nckp lk33) pt34<|D' (v_fap0 lk34) pt35<|D' (v_loadp lk35 (hx_at hid) gt0) pt36<|D' (v_mv lk0) pt37<|D' (v_nckp lk37) pt38<|D' (v_fap0 lk38) pt39<|D' (v_loadp lk39 (hx_at hid) gt1) pt40<|?_
   refine D' (v_ix lk36 lk40 (by omega) (by omega)) pt41 ?_
   refine d_callp (mp1 lk41 mp0) (fun hE hX=>lnplain_a) pt42 ?_
   refine D' (v_notB lk42) pt43<|d_nil<|?_
   refine e_nil ?_
   refine sn' ?_
   refine w_condB lk43 (fun hc2=>?_) (fun hc2=>?_)
   ·have hc2':plnN (byteAt s (k+j)).toNat=false:=by have:=hc2;rw [Bool.not_eq_true'] at this;exact this
    have hB1:=runL_bad hlt2 hc1' hc2'
    have hB2:runN p ((aB s).drop (k+j))=0:=runN_stop hlt2 (by simp [hc2'])
    rw [hB1] at hj2
    rw [hB2] at hj3
    refine w_reg<|s_callPan' (mp1 lki mp0) (lnfail_a)<|p_thn<|p_blk<|p_thn<|p_blk<|p_thn<|w_pan<|?_
    refine ⟨_,_,rfl,hx_len hn,hx_lt hlt (by simp [Ent.lt,AV.lt,AV.ltL, *]),rfl,by rw [hj3,Nat.zero_add],.inr ⟨by rw [hj2];rfl,rfl⟩⟩
   have hc2':plnN (byteAt s (k+j)).toNat=true:=by have:=hc2;rw [Bool.not_eq_false'] at this;exact this
   have hG1:=runL_go hlt2 hc1' hc2'
   have hG2:=runN_go hlt2 hc1' hc2'
   rw [hG1] at hj2
   rw [hG2] at hj3
   refine w_skip<|n_seq<|w_reg<|mv' lk0 pt45<|V' (v_nckp lk45) pt46<|V' (v_fap0 lk46) pt47<|V' (v_loadp lk47 (hx_at hid) gt1) pt48<|?_
   refine V' (v_add lk48 lki (by omega) (by omega)) pt49 ?_
   refine V' (v_nckp lk45) pt50<|V' (v_fap0 lk50) pt51<|E' (e_store lk51 (cvl lk49 rfl) (hx_at hid) rfl (nb' rfl) rfl LineA_sc1_1 (hx_set hid)) ptn<|s_nil<|n_blk<|n_thn<|?_
   refine lU' (j+1) (by (try dsimp only);exact ⟨by omega,by rw [hj2,Option.map_map];rw [show k+(j+1)=k+j+1 from rfl];congr 1;funext x;simp;omega,by rw [show k+(j+1)=k+j+1 from rfl];omega⟩) (by (try dsimp only);(try simp only [setsT,setsE,z',s',rn',la',ln',Nat.reduceAdd]);exact ALe.same wA' (by rw [show (((k+j:Nat):Int)+1)=((k+(j+1):Nat):Int) by omega]))
  have hc1':p (byteAt s (k+j)).toNat=false:=hc1
  have hE:runL p ((aB s).drop (k+j))=some 0∧runN p ((aB s).drop (k+j))=0:=⟨runL_stop hlt2 hc1',runN_stop hlt2 (by simp [hc1'])⟩
  refine w_exit<|x_thn<|x_thn<|x_blk<|n_seq<|w_seq<|w_drwE<|D' (v_mv lk0) pt52<|D' (v_nckp lk52) pt53<|D' (v_fap0 lk53) pt54<|D' (v_loadp lk54 (hx_at hid) gt0) pt55<|D' (v_mv lk5) pt56<|D' (v_mv lk0) pt57<|D' (v_nckp lk57) pt58<|?_
  refine D' (v_fap0 lk58) pt59<|D' (v_loadp lk59 (hx_at hid) gt1) pt60<|?_
  refine D' (v_sls lk55 (oi lk56) (oi lk60) (by omega) (by omega) (by omega)) pt61 ?_
  refine D' (v_mv lk61) pt4<|d_nil<|?_
  refine e_nil ?_
  refine sn'<|w_rets<|w_ret (rs1 (rr_t gt4))<|?_
  rw [hE.1] at hj2;rw [hE.2,Nat.zero_add] at hj3
  refine ⟨_,_,rfl,hx_len hn,hx_lt hlt (by simp [Ent.lt,AV.lt,AV.ltL, *]),rfl,by rw [hj3],.inl ⟨by rw [hj2,hj3];simp,?_⟩⟩
  rw [hj3,bA_ext,show ((k:Int)).toNat=k from rfl,show (((k+j:Nat):Int)).toNat=k+j from rfl,Nat.add_sub_cancel_left]
 have hE:runL p ((aB s).drop (k+j))=some 0∧runN p ((aB s).drop (k+j))=0:=⟨runL_end (by omega),runN_end (by omega)⟩
 refine d_no gt20 pt21<|d_no gt20 pt22<|d_no gt20 pt23<|d_no gt20 pt24<|d_no gt20 pt25<|d_no gt20 pt26<|d_no gt20 pt27<|d_no gt20 pt28<|d_no gt20 pt29<|d_no gt20 pt30<|d_no gt20 pt31<|D' (v_pickF lk20 lkb) pt32<|d_nil<|?_
 refine e_nil ?_
 refine sn'<|w_condF lk32<|w_exit<|x_thn<|x_thn<|x_blk<|n_seq<|w_seq<|w_drwE<|D' (v_mv lk0) pt52<|D' (v_nckp lk52) pt53<|D' (v_fap0 lk53) pt54<|D' (v_loadp lk54 (hx_at hid) gt0) pt55<|?_
 refine D' (v_mv lk5) pt56<|D' (v_mv lk0) pt57<|D' (v_nckp lk57) pt58<|D' (v_fap0 lk58) pt59<|D' (v_loadp lk59 (hx_at hid) gt1) pt60<|?_
 refine D' (v_sls lk55 (oi lk56) (oi lk60) (by omega) (by omega) (by omega)) pt61 ?_
 refine D' (v_mv lk61) pt4<|d_nil<|?_
 refine e_nil ?_
 refine sn'<|w_rets<|w_ret (rs1 (rr_t gt4))<|?_
 rw [hE.1] at hj2;rw [hE.2,Nat.zero_add] at hj3
 refine ⟨_,_,rfl,hx_len hn,hx_lt hlt (by simp [Ent.lt,AV.lt,AV.ltL, *]),rfl,by rw [hj3],.inl ⟨by rw [hj2,hj3];simp,?_⟩⟩
 rw [hj3,bA_ext,show ((k:Int)).toNat=k from rfl,show (((k+j:Nat):Int)).toNat=k+j from rfl,Nat.add_sub_cancel_left]
theorem lnrun_a {p:Int→Bool}{f:Nat}(hp : ∀ (n:Int) (h:AH),ACalls Tryz.prog f [u8v n] h fun x h'=>h'=h∧x = .ret (bv (p n))) {s:ByteArray}{k n:Nat}{O:AV}{id v0 ty:Nat}{h:AH}(hr:runL p ((aB s).drop k)=some n) (h1:h[id]?=some (.mk v0 ty 3 [sv s,iv (k:Int),O])) (hO:O.lt h.length=true) (hk:k≤s.size) (hz:s.size≤8000) :
  ACalls Tryz.prog 107 [.ptr id v0 0,fnv f] h fun x h'=>x = .ret (sv (bA (((aB s).drop k).take n)))∧h'=h.set id (.mk v0 ty 3 [sv s,iv ((k+n:Nat):Int),O]):=by
 refine (lnrun_any hp h1 hO hk hz).mono ?_
 rintro x h' ⟨rfl,⟨h3,rfl⟩ | ⟨h3,rfl⟩⟩
 ·rw [runN_of hr];exact ⟨rfl,rfl⟩
 rw [h3] at hr;cases hr
theorem lnrun_p {p:Int→Bool}{f:Nat}(hp : ∀ (n:Int) (h:AH),ACalls Tryz.prog f [u8v n] h fun x h'=>h'=h∧x = .ret (bv (p n))) {s:ByteArray}{k:Nat}{O:AV}{id v0 ty:Nat}{h:AH}(hr:runL p ((aB s).drop k)=none) (h1:h[id]?=some (.mk v0 ty 3 [sv s,iv (k:Int),O])) (hO:O.lt h.length=true) (hk:k≤s.size) (hz:s.size≤8000) :
  ACalls Tryz.prog 107 [.ptr id v0 0,fnv f] h fun x h'=>x = .pan (erA 1)∧h'=h.set id (.mk v0 ty 3 [sv s,iv ((k+runN p ((aB s).drop k):Nat):Int),O]):=by
 refine (lnrun_any hp h1 hO hk hz).mono ?_
 rintro x h' ⟨rfl,⟨h3,rfl⟩ | ⟨h3,rfl⟩⟩
 ·rw [h3] at hr;cases hr
 exact ⟨rfl,rfl⟩
theorem fieldL_q {s : ByteArray} {k : Nat} (hk : k < s.size) (hq : ((byteAt s k).toNat : Int) = 34) : fieldL ((aB s).drop k) = match runL quoP ((aB s).drop (k + 1)) with
      | none=>none
      | some n=>if k+1+n=s.size then none else if moreL ((aB s).drop (k+n+2))=true∧blkN (headN ((aB s).drop (k+n+2)))=false then none else some (1,n,n+2):=by
  rw [aB_at hk,fieldL,if_pos hq]
  cases hr:runL quoP ((aB s).drop (k+1)) with
  | none=>rfl
  | some n =>
    have hle:=runL_le hr
    have hl:((aB s).drop (k+1)).length=s.size-(k+1):=by rw [List.length_drop,aB_len]
    simp only [hl,List.drop_drop,show k+1+(n+1)=k+n+2 by omega]
    by_cases h:k+1+n=s.size
    · rw [if_pos (by omega),if_pos h]
    rw [if_neg (by omega),if_neg h]
theorem fieldL_f {s : ByteArray} {k : Nat} (hk : k < s.size) (hq : ¬ ((byteAt s k).toNat : Int) = 34) : fieldL ((aB s).drop k) = match runL fldP ((aB s).drop k) with
      | none=>none
      | some n=>if moreL ((aB s).drop (k+n))=true∧headN ((aB s).drop (k+n))=34 then none else some (0,n,n):=by
  conv=>lhs;rw [aB_at hk,fieldL,if_neg hq,←aB_at hk]
  simp only [List.drop_drop]
  all_goals cases runL fldP ((aB s).drop k) <;> rfl
theorem no_some {α:Type}{x:Option α}(h:¬∃ n,x=some n):x=none:=by
 cases x with
 | none=>rfl
 | some n=>exact absurd ⟨n,rfl⟩ h
def fdR (s:ByteArray) (k v0 ty id:Nat) (O:AV) (h:AH) (x:AE) (h':AH):Prop :=
 (∃ y,fieldL ((aB s).drop k)=some y∧x = .ret (sv (cutF ((aB s).drop k) y))∧h'=h.set id (.mk v0 ty 3 [sv s,iv ((k+y.2.2:Nat):Int),O])) ∨
 (fieldL ((aB s).drop k)=none∧x = .pan (erA 1) ∧ ∃ m:Nat,h'=h.set id (.mk v0 ty 3 [sv s,iv (m:Int),O]))
theorem lnquoted_any {s:ByteArray}{k:Nat}{O:AV}{id v0 ty:Nat}{h:AH}(h1:h[id]?=some (.mk v0 ty 3 [sv s,iv (k:Int),O])) (hO:O.lt h.length=true) (hk:k<s.size) (hz:s.size≤8000) (hq:((byteAt s k).toNat:Int)=34) :
  ACalls Tryz.prog 140 [.ptr id v0 0] h (fdR s k v0 ty id O h):=by
 have hid:id<h.length:=(List.getElem?_eq_some_iff.1 h1).1
 have hF:=fieldL_q hk hq
 have hL:((aB s).drop (k+1)).length=s.size-(k+1):=by rw [List.length_drop,aB_len]
 refine tJ' k140 fun N hn hlt hlA hbd=>?_
 simp only [tA',AV.bdL,AV.bd,and_true,true_and] at hbd ⊢
 rw [hn] at hO
 refine aw_heap (h1:=h.set id (.mk v0 ty 3 [sv s,iv (k:Int),O])++[]) (by rw [hx_self h1]) ?_
 refine wr'<|mv' lks pt2<|sn'<|wr'<|mv' lk0 pt4<|V' (v_nckp lk4) pt5<|V' (v_fap0 lk5) pt6<|V' (v_loadp lk6 (hx_at hid) gt1) pt7<|?_
 refine V' (v_add lk7 lki (by omega) (by omega)) pt8 ?_
 refine V' (v_nckp lk4) pt9<|V' (v_fap0 lk9) pt10<|E' (e_store lk10 (cvl lk8 rfl) (hx_at hid) rfl (nb' rfl) rfl LineA_sc1_1 (hx_set hid)) ptn<|sn'<|?_
 rw [show ((k:Int)+1)=((k+1:Nat):Int) by omega]
 refine wr'<|mv' lk0 pt11<|?_
 by_cases hs11 : ∃ n,runL quoP ((aB s).drop (k+1))=some n
 ·obtain ⟨n,hr⟩:=hs11
  have hle:=runL_le hr
  rw [hr] at hF
  simp only at hF
  refine s_calls (mp1 lk11 (mp1 lkf mp0)) (lnrun_a (fun _ _=>lnquo_a) hr (hx_at hid) (by simp [(hx_len hn)];exact hO) hk hz) (hx_set hid) pt12 ?_
  refine mv' lk12 pt3<|sn'<|w_seq<|w_seq<|w_drwE<|D' (v_mv lk0) pt13<|D' (v_nckp lk13) pt14<|D' (v_fap0 lk14) pt15<|D' (v_loadp lk15 (hx_at hid) gt1) pt16<|D' (v_mv lk0) pt17<|D' (v_nckp lk17) pt18<|D' (v_fap0 lk18) pt19<|D' (v_loadp lk19 (hx_at hid) gt0) pt20<|?_
  refine D' (v_lenS lk20) pt21<|D' (v_eql lk16 lk21) pt22<|d_nil<|?_
  refine e_nil ?_
  refine sn' ?_
  refine cd' lk22 (fun hc1=>?_) (fun hc1=>?_)
  ·rw [if_pos (by omega)] at hF
   refine w_reg<|s_callPan' (mp1 lki mp0) (lnfail_a)<|p_thn<|w_pan<|?_
   exact ⟨_,_,rfl,hx_len hn,hx_lt hlt (by simp [Ent.lt,AV.lt,AV.ltL, *]),rfl,.inr ⟨hF,rfl,_,rfl⟩⟩
  rw [if_neg (by omega)] at hF
  have hlt2:k+n+2≤s.size:=by omega
  refine w_skip<|n_seq<|wr'<|mv' lk0 pt24<|V' (v_nckp lk24) pt25<|V' (v_fap0 lk25) pt26<|V' (v_loadp lk26 (hx_at hid) gt1) pt27<|?_
  refine V' (v_add lk27 lki (by omega) (by omega)) pt28 ?_
  refine V' (v_nckp lk24) pt29<|V' (v_fap0 lk29) pt30<|E' (e_store lk30 (cvl lk28 rfl) (hx_at hid) rfl (nb' rfl) rfl LineA_sc1_1 (hx_set hid)) ptn<|sn'<|?_
  rw [show (((k+1+n:Nat):Int)+1)=((k+n+2:Nat):Int) by omega]
  refine w_seq<|w_seq<|w_drwE<|D' (v_mv lk0) pt31<|?_
  refine d_callp (mp1 lk31 mp0) (fun hE hX=>lnmore_a (hX _ _ (hx_at hid)) hlt2) pt32 ?_
  refine D' (v_mv lk32) pt33 ?_
  refine d_splitB gt33 pt33 pt33 (fun hg33=>?_) (fun hg33=>?_)
  ·have hm:=hg33;rw [moreL_at] at hm;simp only [Bool.and_eq_true,decide_eq_true_eq] at hm
   have hh:=headN_at hm.1
   refine d_do gt33<|D' (v_mv lk0) pt34<|d_do gt33<|D' (v_nckp lk34) pt35<|d_do gt33<|D' (v_fap0 lk35) pt36<|d_do gt33<|D' (v_loadp lk36 (hx_at hid) gt0) pt37<|d_do gt33<|D' (v_mv lk0) pt38<|d_do gt33<|D' (v_nckp lk38) pt39<|d_do gt33<|D' (v_fap0 lk39) pt40<|?_
   refine d_do gt33<|D' (v_loadp lk40 (hx_at hid) gt1) pt41<|d_do gt33<|?_
   refine D' (v_ix lk37 lk41 (by omega) (by omega)) pt42 ?_
   refine d_do gt33 ?_
   refine d_callp (mp1 lk42 mp0) (fun hE hX=>lnblank_a) pt43 ?_
   refine d_do gt33<|D' (v_notB lk43) pt44<|D' (v_pickT lk33 lk44) pt45<|d_nil<|?_
   refine e_nil ?_
   refine sn' ?_
   refine w_condB lk45 (fun hc2=>?_) (fun hc2=>?_)
   ·rw [if_pos ⟨hg33,by rw [hh];have:=hc2;rw [Bool.not_eq_true'] at this;exact this⟩] at hF
    refine w_reg<|s_callPan' (mp1 lki mp0) (lnfail_a)<|p_thn<|w_pan<|?_
    exact ⟨_,_,rfl,hx_len hn,hx_lt hlt (by simp [Ent.lt,AV.lt,AV.ltL, *]),rfl,.inr ⟨hF,rfl,_,rfl⟩⟩
   rw [if_neg (fun e=>by have:=hc2;rw [Bool.not_eq_false'] at this;rw [hh] at e;exact absurd (this.symm.trans e.2) (by decide))] at hF
   refine w_skip<|n_seq<|wr'<|mv' lk3 pt47<|mv' lk47 pt2<|sn'<|w_rets<|w_ret (rs1 (rr_t gt2))<|?_
   exact ⟨_,_,rfl,hx_len hn,hx_lt hlt (by simp [Ent.lt,AV.lt,AV.ltL, *]),rfl,.inl ⟨_,hF,by simp [cutF],by simp [Nat.add_assoc]⟩⟩
  rw [if_neg (by rw [hg33];simp)] at hF
  refine d_no gt33 pt34<|d_no gt33 pt35<|d_no gt33 pt36<|d_no gt33 pt37<|d_no gt33 pt38<|d_no gt33 pt39<|d_no gt33 pt40<|d_no gt33 pt41<|d_no gt33 pt42<|d_no gt33 pt43<|d_no gt33 pt44<|D' (v_pickF lk33 lkb) pt45<|d_nil<|?_
  refine e_nil ?_
  refine sn'<|w_condF lk45<|w_skip<|n_seq<|wr'<|mv' lk3 pt47<|mv' lk47 pt2<|sn'<|w_rets<|w_ret (rs1 (rr_t gt2))<|?_
  exact ⟨_,_,rfl,hx_len hn,hx_lt hlt (by simp [Ent.lt,AV.lt,AV.ltL, *]),rfl,.inl ⟨_,hF,by simp [cutF],by simp [Nat.add_assoc]⟩⟩
 have hr:=no_some hs11
 rw [hr] at hF
 refine s_callPan (mp1 lk11 (mp1 lkf mp0)) (lnrun_p (fun _ _=>lnquo_a) hr (hx_at hid) (by simp [(hx_len hn)];exact hO) hk hz) ?_
 refine p_thn<|w_pan<|?_
 rw [hx_set hid];exact ⟨_,_,rfl,hx_len hn,hx_lt hlt (by simp [Ent.lt,AV.lt,AV.ltL, *]),rfl,.inr ⟨hF,rfl,_,rfl⟩⟩
theorem lnquoted_a {s:ByteArray}{k:Nat}{O:AV}{y:Nat×Nat×Nat}{id v0 ty:Nat}{h:AH}(hf:fieldL ((aB s).drop k)=some y) (h1:h[id]?=some (.mk v0 ty 3 [sv s,iv (k:Int),O])) (hO:O.lt h.length=true) (hk:k<s.size) (hz:s.size≤8000) (hq:((byteAt s k).toNat:Int)=34) :
  ACalls Tryz.prog 140 [.ptr id v0 0] h fun x h'=>x = .ret (sv (cutF ((aB s).drop k) y))∧h'=h.set id (.mk v0 ty 3 [sv s,iv ((k+y.2.2:Nat):Int),O]):=by
 refine (lnquoted_any h1 hO hk hz hq).mono ?_
 rintro x h' (⟨z,e,h2,h3⟩ | ⟨e,_⟩) <;> rw [e] at hf <;> cases hf
 exact ⟨h2,h3⟩
theorem lnquoted_p {s:ByteArray}{k:Nat}{O:AV}{id v0 ty:Nat}{h:AH}(hf:fieldL ((aB s).drop k)=none) (h1:h[id]?=some (.mk v0 ty 3 [sv s,iv (k:Int),O])) (hO:O.lt h.length=true) (hk:k<s.size) (hz:s.size≤8000) (hq:((byteAt s k).toNat:Int)=34) :
  ACalls Tryz.prog 140 [.ptr id v0 0] h fun x h'=>x = .pan (erA 1) ∧ ∃ m:Nat,h'=h.set id (.mk v0 ty 3 [sv s,iv (m:Int),O]):=by
 refine (lnquoted_any h1 hO hk hz hq).mono ?_
 rintro x h' (⟨z,e,h2,h3⟩ | ⟨e,h2⟩)
 ·rw [e] at hf;cases hf
 exact h2
theorem lnfield_any {s:ByteArray}{k:Nat}{O:AV}{id v0 ty:Nat}{h:AH}(h1:h[id]?=some (.mk v0 ty 3 [sv s,iv (k:Int),O])) (hO:O.lt h.length=true) (hk:k<s.size) (hz:s.size≤8000) :
  ACalls Tryz.prog 109 [.ptr id v0 0] h (fdR s k v0 ty id O h):=by
 have hid:id<h.length:=(List.getElem?_eq_some_iff.1 h1).1
 refine tJ' k109 fun N hn hlt hlA hbd=>?_
 simp only [tA',AV.bdL,AV.bd,and_true,true_and] at hbd ⊢
 rw [hn] at hO
 refine aw_heap (h1:=h.set id (.mk v0 ty 3 [sv s,iv (k:Int),O])++[]) (by rw [hx_self h1]) ?_
 refine wr'<|mv' lks pt2<|sn'<|w_seq<|w_seq<|w_drwE<|D' (v_mv lk0) pt4<|D' (v_nckp lk4) pt5<|D' (v_fap0 lk5) pt6<|D' (v_loadp lk6 (hx_at hid) gt0) pt7<|D' (v_mv lk0) pt8<|D' (v_nckp lk8) pt9<|?_
 refine D' (v_fap0 lk9) pt10<|D' (v_loadp lk10 (hx_at hid) gt1) pt11<|?_
 refine D' (v_ix lk7 lk11 (by omega) (by omega)) pt12 ?_
 refine D' (v_eql lk12 lki) pt13<|d_nil<|?_
 refine e_nil ?_
 refine sn' ?_
 refine cd' lk13 (fun hc1=>?_) (fun hc1=>?_)
 ·refine wr'<|mv' lk0 pt14<|?_
  by_cases hs13 : ∃ y,fieldL ((aB s).drop k)=some y
  ·obtain ⟨y,hy⟩:=hs13
   refine s_calls (mp1 lk14 mp0) (lnquoted_a hy (hx_at hid) (by simp [(hx_len hn)];exact hO) hk hz hc1) (hx_set hid) pt15 ?_
   refine mv' lk15 pt2<|sn'<|w_rets<|r_thn<|w_ret (rs1 (rr_t gt2))<|?_
   exact ⟨_,_,rfl,hx_len hn,hx_lt hlt (by simp [Ent.lt,AV.lt,AV.ltL, *]),rfl,.inl ⟨_,hy,rfl,rfl⟩⟩
  have hy:=no_some hs13
  refine s_callPanX (mp1 lk14 mp0) (lnquoted_p hy (hx_at hid) (by simp [(hx_len hn)];exact hO) hk hz hc1) (fun hP_ hPp_=>?_)
  refine p_thn<|p_thn<|w_pan<|?_
  obtain ⟨m,rfl⟩:=hPp_
  rw [hx_set hid];exact ⟨_,_,rfl,hx_len hn,hx_lt hlt (by simp [Ent.lt,AV.lt,AV.ltL, *]),rfl,.inr ⟨hy,rfl,_,rfl⟩⟩
 have hF:=fieldL_f hk hc1
 refine w_skip<|n_seq<|wr'<|mv' lk0 pt16<|?_
 by_cases hs16 : ∃ n,runL fldP ((aB s).drop k)=some n
 ·obtain ⟨n,hr⟩:=hs16
  have hle:=runL_le hr
  have hL:((aB s).drop k).length=s.size-k:=by rw [List.length_drop,aB_len]
  rw [hr] at hF
  simp only at hF
  refine s_calls (mp1 lk16 (mp1 lkf mp0)) (lnrun_a (fun _ _=>lnfld_a) hr (hx_at hid) (by simp [(hx_len hn)];exact hO) (Nat.le_of_lt hk) hz) (hx_set hid) pt17 ?_
  refine mv' lk17 pt3<|sn'<|w_seq<|w_seq<|w_drwE<|D' (v_mv lk0) pt18<|?_
  refine d_callp (mp1 lk18 mp0) (fun hE hX=>lnmore_a (hX _ _ (hx_at hid)) (by omega)) pt19 ?_
  refine D' (v_mv lk19) pt20 ?_
  refine d_splitB gt20 pt20 pt20 (fun hg20=>?_) (fun hg20=>?_)
  ·have hm:=hg20;rw [moreL_at] at hm;simp only [Bool.and_eq_true,decide_eq_true_eq] at hm
   have hh:=headN_at hm.1
   refine d_do gt20<|D' (v_mv lk0) pt21<|d_do gt20<|D' (v_nckp lk21) pt22<|d_do gt20<|D' (v_fap0 lk22) pt23<|d_do gt20<|D' (v_loadp lk23 (hx_at hid) gt0) pt24<|d_do gt20<|D' (v_mv lk0) pt25<|d_do gt20<|D' (v_nckp lk25) pt26<|d_do gt20<|D' (v_fap0 lk26) pt27<|?_
   refine d_do gt20<|D' (v_loadp lk27 (hx_at hid) gt1) pt28<|d_do gt20<|?_
   refine D' (v_ix lk24 lk28 (by omega) (by omega)) pt29 ?_
   refine d_do gt20<|D' (v_eql lk29 lki) pt30<|D' (v_pickT lk20 lk30) pt31<|d_nil<|?_
   refine e_nil ?_
   refine sn' ?_
   refine cd' lk31 (fun hc2=>?_) (fun hc2=>?_)
   ·rw [if_pos ⟨hg20,by rw [hh];exact hc2⟩] at hF
    refine w_reg<|s_callPan' (mp1 lki mp0) (lnfail_a)<|p_thn<|w_pan<|?_
    exact ⟨_,_,rfl,hx_len hn,hx_lt hlt (by simp [Ent.lt,AV.lt,AV.ltL, *]),rfl,.inr ⟨hF,rfl,_,rfl⟩⟩
   rw [if_neg (fun e=>by rw [hh] at e;exact hc2 e.2)] at hF
   refine w_skip<|n_seq<|wr'<|mv' lk3 pt33<|mv' lk33 pt2<|sn'<|w_rets<|w_ret (rs1 (rr_t gt2))<|?_
   exact ⟨_,_,rfl,hx_len hn,hx_lt hlt (by simp [Ent.lt,AV.lt,AV.ltL, *]),rfl,.inl ⟨_,hF,by simp [cutF],rfl⟩⟩
  rw [if_neg (by rw [hg20];simp)] at hF
  refine d_no gt20 pt21<|d_no gt20 pt22<|d_no gt20 pt23<|d_no gt20 pt24<|d_no gt20 pt25<|d_no gt20 pt26<|d_no gt20 pt27<|d_no gt20 pt28<|d_no gt20 pt29<|d_no gt20 pt30<|D' (v_pickF lk20 lkb) pt31<|d_nil<|?_
  refine e_nil ?_
  refine sn'<|w_condF lk31<|w_skip<|n_seq<|wr'<|mv' lk3 pt33<|mv' lk33 pt2<|sn'<|w_rets<|w_ret (rs1 (rr_t gt2))<|?_
  exact ⟨_,_,rfl,hx_len hn,hx_lt hlt (by simp [Ent.lt,AV.lt,AV.ltL, *]),rfl,.inl ⟨_,hF,by simp [cutF],rfl⟩⟩
 have hr:=no_some hs16
 rw [hr] at hF
 refine s_callPan (mp1 lk16 (mp1 lkf mp0)) (lnrun_p (fun _ _=>lnfld_a) hr (hx_at hid) (by simp [(hx_len hn)];exact hO) (Nat.le_of_lt hk) hz) ?_
 refine p_thn<|w_pan<|?_
 rw [hx_set hid];exact ⟨_,_,rfl,hx_len hn,hx_lt hlt (by simp [Ent.lt,AV.lt,AV.ltL, *]),rfl,.inr ⟨hF,rfl,_,rfl⟩⟩
theorem lnfield_a {s:ByteArray}{k:Nat}{O:AV}{y:Nat×Nat×Nat}{id v0 ty:Nat}{h:AH}(hf:fieldL ((aB s).drop k)=some y) (h1:h[id]?=some (.mk v0 ty 3 [sv s,iv (k:Int),O])) (hO:O.lt h.length=true) (hk:k<s.size) (hz:s.size≤8000) :
  ACalls Tryz.prog 109 [.ptr id v0 0] h fun x h'=>x = .ret (sv (cutF ((aB s).drop k) y))∧h'=h.set id (.mk v0 ty 3 [sv s,iv ((k+y.2.2:Nat):Int),O]):=by
 refine (lnfield_any h1 hO hk hz).mono ?_
 rintro x h' (⟨z,e,h2,h3⟩ | ⟨e,_⟩) <;> rw [e] at hf <;> cases hf
 exact ⟨h2,h3⟩
theorem lnfield_p {s:ByteArray}{k:Nat}{O:AV}{id v0 ty:Nat}{h:AH}(hf:fieldL ((aB s).drop k)=none) (h1:h[id]?=some (.mk v0 ty 3 [sv s,iv (k:Int),O])) (hO:O.lt h.length=true) (hk:k<s.size) (hz:s.size≤8000) :
  ACalls Tryz.prog 109 [.ptr id v0 0] h fun x h'=>x = .pan (erA 1) ∧ ∃ m:Nat,h'=h.set id (.mk v0 ty 3 [sv s,iv (m:Int),O]):=by
 refine (lnfield_any h1 hO hk hz).mono ?_
 rintro x h' (⟨z,e,h2,h3⟩ | ⟨e,h2⟩)
 ·rw [e] at hf;cases hf
 exact h2
end Go.Proofs.YtgjchdhdopgkkaaGreatDoor
end
section
namespace Go.Ab
section
variable {P : Program}
structure AFD where
 al:List AOper
 d:Nat
 k:Nat
 caps:List Operand
 af:AF
def compFD (P:Program) (f:FuncId):Option AFD :=
 match P.funcs[f]? with
 | some fn=>if fn.name == "runtime.NumGoroutine" then none else match fn.body with
  | some (.seq (.region _ ops0 false) (.seq (.region _ ops1 false) c)) =>
   match ops0.toList.mapM (compOper P [] ops0),ops1.toList,comp P c,fn.results.toList.mapM (compRes P) with
   | some al,[o1,o2],some ac,some rs=>match o1.dst,o1.op,o1.guard,o2.dst,o2.op,o2.guard with
    | some d,.makeFunc (.func k) first caps,none,none,.defer cl,none=>match cl.callee with
     | .value (.tmp t)=>if first = #[]∧t=d∧cl.args = #[]∧enters P k=true then some ⟨al,d,k,caps.toList,⟨ac,rs,fn.ntmps⟩⟩ else none
     | _=>none
    | _,_,_,_,_,_=>none
   | _,_,_,_=>none
  | _=>none
 | none=>none
def ADef (P:Program) (k:FuncId) (cv:List AV) (m:Option AV) (h:AH) (R:AH→Prop):Prop :=
  ∀ w g (vs:Array Value),SimH w g h→RepL w g cv vs.toList→match m with
    | none=>CallsD P k vs .returning w fun e u' w'=>(∃ v,e = .returned v)∧u' = .returning ∧ ∃ h' g',SimH w' g' h'∧g.le g'∧Fr w (Ow g h) w'∧(∀ k,Ow g' h' k→Ow g h k∨w.heap.size≤k)∧R h'
    | some c => ∀ v, Rep w g c v → CallsD P k vs (.panicking [{ v := v, recovered := false }]) w fun e u' w' => (∃ x, e = .returned x) ∧ (∃ x, u' = .panicking [{ v := x, recovered := true }]) ∧
        ∃ h' g',SimH w' g' h'∧g.le g'∧Fr w (Ow g h) w'∧(∀ k,Ow g' h' k→Ow g h k∨w.heap.size≤k)∧R h'
def doorA (P:Program) (k:FuncId) (cv:List AV) (rs:List AR) (R:AE→AH→Prop):AX→List AV→AH→Prop
 | .normal,T,h=>ADef P k cv none h fun h' => ∃ c,aRes rs T h'=some c∧R (.ret c) h'
 | .ret,T,h=>ADef P k cv none h fun h' => ∃ c,aRes rs T h'=some c∧R (.ret c) h'
 | .pan c,T,h=>ADef P k cv (some c) h fun h' => ∃ r,aRes rs T h'=some r∧R (.ret r) h'
 | .exit _,_,_=>False
theorem run_invokeF {k:FuncId}(he:enters P k=true) (cap:Array Value) (w:World):(invoke (.fn (.func k) cap) #[]).run P w = .ok (.enter k cap) w:=by
 unfold enters at he
 split at he <;> try (cases he;done)
 rename_i fd hfd
 simp only [Bool.and_eq_true,bne_iff_ne,ne_eq] at he
 have hb:fd.body≠none:=by intro e;simp [e] at he
 simp [invoke,callFunc,hfd,he.1,hb]
theorem wp_makeDefer {id:Nat}{ops1:Array Oper}{o1 o2:Oper}{d k:Nat}{first caps:Array Operand}{cl:Call}(hops:ops1.toList=[o1,o2]) (h1:o1.dst=some d) (h2:o1.op = .makeFunc (.func k) first caps) (h3:o1.guard=none) (h4:o2.dst=none)
  (h5:o2.op = .defer cl) (h6:o2.guard=none) (h7:cl.callee = .value (.tmp d)) (h8:cl.args = #[]) (h9:first = #[]) {a:Act} {w:World} {Q:Exit→Act→World→Prop} (hd:d<a.tmps.size)
  (hQ:Q .normal { tmps:=a.tmps.setIfInBounds d (.func (.func k) #[] (caps.map a.eval)),defers:={ target:=.fn (.func k) (caps.map a.eval),args := #[] }::a.defers } w):(Code.region id ops1 false).wp P Q a w:=by
 obtain ⟨l⟩:=ops1
 simp only at hops
 subst hops h9
 refine wp_region_lit ?_
 refine wpList_plain h3 fun K1 hK1=>?_
 have e1:(execOp a.eval o1).run P w = .ok (.value (.func (.func k) #[] (caps.map a.eval))) w:=by simp [execOp,h2,Instr.makeFunc]
 unfold Oper.wp
 rw [e1,Oper.upon_value,h1]
 refine hK1 _ _ ?_
 refine wpList_plain h6 fun K2 hK2=>?_
 have e2:(Act.eval (a.put (some d) (.func (.func k) #[] (caps.map a.eval))) (.tmp d)) = .func (.func k) #[] (caps.map a.eval):=by simp [Act.eval,Act.put,hd]
 have e3:(execOp (Act.eval (a.put (some d) (.func (.func k) #[] (caps.map a.eval)))) o2).run P w = .ok (.defer { target:=.fn (.func k) (caps.map a.eval),args := #[] }) w:=by
  simp [execOp,h5,resolve,h7,h8,e2,Deferred.ofValue]
 unfold Oper.wp
 rw [e3,Oper.upon_defer,h4]
 exact hK2 _ _ (wpList_nil hQ)
theorem leaves_A {fn:Func}{rs:List AR}(hrs:fn.results.toList.mapM (compRes P)=some rs) {k:FuncId}(hk:enters P k=true) {cv:List AV}{R:AE→AH→Prop}{x:AX}{T:List AV}{h:AH}{w:World}{g:Gh}{a:Act}{vals:Array Value}{e:Exit}{RR:Ending→World→Prop}
  (hs:SimH w g h) (ht:RepL w g T a.tmps.toList) (hd:a.defers=[{ target:=.fn (.func k) vals,args := #[] }]) (hv:RepL w g cv vals.toList) (hx:ExR w g e x) (hdoor:doorA P k cv rs R x T h)
  (hR : ∀ c v w' h' g',Rep w' g' c v→SimH w' g' h'→g.le g'→Fr w (Ow g h) w'→(∀ k,Ow g' h' k→Ow g h k∨w.heap.size≤k)→R (.ret c) h'→RR (.returned v) w'):bodyPostD P fn RR e a w:=by
 have fin : ∀ w' h' g',SimH w' g' h'→g.le g'→Fr w (Ow g h) w'→(∀ k,Ow g' h' k→Ow g h k∨w.heap.size≤k)→(∃ c,aRes rs T h'=some c∧R (.ret c) h')→Leaves P fn a.tmps RR [] .returning w':=by
  rintro w' h' g' q1 q2 q3 q4 ⟨c,q5,q6⟩
  have ht':=RepL.mono q2 (fun k hk=>q3.block k (hs.lt k hk) (fun ho=>(hs.own_not_D ho).1 hk)) _ _ ht
  obtain ⟨v,r1,r2⟩:=run_results hrs q5 q1 ht'
  exact ⟨v,by simpa using r1,hR c v w' h' g' r2 q1 q2 q3 q4 q6⟩
 have go : ∀ {u:FrameMode},u ≠ .run→(CallsD P k vals u w fun e u' w'=>(∃ v,e = .returned v)∧settle u' = .returning∧Leaves P fn a.tmps RR [] .returning w')→Leaves P fn a.tmps RR a.defers u w:=by
  intro u hu hc
  rw [hd]
  refine leaves_cons hu (run_invokeF hk vals w) (hc.mono ?_)
  rintro e u' w' ⟨⟨v,rfl⟩,h2,h3⟩
  simp only [h2]
  exact h3
 cases x <;> cases e <;> simp only [ExR] at hx <;> simp only [doorA] at hdoor <;> try (exact hdoor.elim)
 ·refine go (by simp) ((hdoor w g vals hs hv).mono ?_)
  rintro e u' w' ⟨⟨v,rfl⟩,rfl,h',g',q1,q2,q3,q4,q5⟩
  exact ⟨⟨v,rfl⟩,rfl,fin w' h' g' q1 q2 q3 q4 q5⟩
 ·refine go (by simp) ((hdoor w g vals hs hv).mono ?_)
  rintro e u' w' ⟨⟨v,rfl⟩,rfl,h',g',q1,q2,q3,q4,q5⟩
  exact ⟨⟨v,rfl⟩,rfl,fin w' h' g' q1 q2 q3 q4 q5⟩
 ·obtain ⟨v,rfl,hc⟩:=hx
  refine go (by simp) ((hdoor w g vals hs hv v hc).mono ?_)
  rintro e u' w' ⟨⟨v',rfl⟩,⟨x,rfl⟩,h',g',q1,q2,q3,q4,q5⟩
  exact ⟨⟨v',rfl⟩,rfl,fin w' h' g' q1 q2 q3 q4 q5⟩
def afterR0 (P:Program) (fd:AFD) (R:AE→AH→Prop) (x:AX) (T1:List AV) (h1:AH):Prop:=x = .normal∧fd.d<T1.length∧aw P h1.length fd.af.code (doorA P fd.k (fd.caps.map (aEval T1)) fd.af.res R) (T1.set fd.d .any) h1
theorem ACalls.of_defer {f:FuncId}{fd:AFD}(hc:compFD P f=some fd) (he:enters P f=true) {args:List AV}{h:AH}{R:AE→AH→Prop}
  (hw:arun P (fun c T h=>afterR0 P fd R (.pan c) T h) fd.al (args++List.replicate (fd.af.ntmps-args.length) .any) h (fun T1 h1=>afterR0 P fd R .normal T1 h1)):ACalls P f args h R:=by
 unfold compFD at hc
 split at hc <;> try (cases hc;done)
 rename_i fn hfn
 split at hc <;> try (cases hc;done)
 split at hc <;> try (cases hc;done)
 rename_i i0 ops0 i1 ops1 c hb
 split at hc <;> try (cases hc;done)
 rename_i al o1 o2 ac rs hal ho12 hac hrs
 split at hc <;> try (cases hc;done)
 rename_i d k first caps cl hd1 hop1 hg1 hd2 hop2 hg2
 split at hc <;> try (cases hc;done)
 rename_i t hcal
 split at hc <;> try (cases hc;done)
 rename_i hcond
 obtain ⟨rfl,rfl,hargs,hek⟩:=hcond
 cases hc
 simp only at hw
 refine ⟨he,fun w g vs hs ha=>calls_of_wp_defers hfn hb ?_⟩
 have hlen:vs.size=args.length:=by simpa using ha.length
 have hst:St h.length w (Ow g h) ⟨g.D,g.loc,[]⟩ (args++List.replicate (fn.ntmps-args.length) .any) h { tmps:=vs++Array.replicate (fn.ntmps-vs.size) undef,defers:=[] } w g:=by
  refine ⟨?_,rfl,hs,Fr.refl _ _,⟨fun _ h=>h,fun _ _ _ h=>h⟩,fun i v l hl=>(hs.fresh i v l hl).1,fun k hk=>.inl hk⟩
  simp only [Array.toList_append,Array.toList_replicate,hlen]
  refine ha.append ?_
  have:=repL_any w g (List.replicate (fn.ntmps-args.length) undef)
  simpa using this
 refine wp_seq (wp_mono (AW_region (n0:=h.length) (Q:=afterR0 P ⟨al,t,k,caps.toList,⟨ac,rs,fn.ntmps⟩⟩ R) hal hw w (Ow g h) ⟨g.D,g.loc,[]⟩ _ w g hst) ?_)
 rintro e1 a1 w1 ⟨x1,T1,h1,g1,st1,hx1,rfl,hl1,hw1⟩
 cases e1 <;> simp only [ExR] at hx1
 show Code.wp P _ _ a1 w1
 have hl1':=st1.tmps.length
 refine wp_seq (wp_makeDefer ho12 hd1 hop1 hg1 hd2 hop2 hg2 hcal hargs rfl (by simp only [Array.length_toList] at hl1';rw [hl1'];exact hl1) ?_)
 show Code.wp P _ _ _ w1
 have hcv:RepL w1 g1 (caps.toList.map (aEval T1)) (caps.map a1.eval).toList:=by
  simpa using repL_map (τ:=aEval T1) (ρ:=a1.eval) caps.toList (fun x _=>aEval_rep st1.tmps x)
 have st2:St h1.length w1 (Ow g1 h1) ⟨g1.D,g1.loc,[{ target:=.fn (.func k) (caps.map a1.eval),args := #[] }]⟩ (T1.set t .any) h1 { tmps:=a1.tmps.setIfInBounds t (.func (.func k) #[] (caps.map a1.eval)),defers:={ target:=.fn (.func k) (caps.map a1.eval),args := #[] }::a1.defers } w1 g1:=by
  refine ⟨?_,?_,st1.sim,Fr.refl _ _,⟨fun _ h=>h,fun _ _ _ h=>h⟩,fun i v l hl=>(st1.sim.fresh i v l hl).1,fun k hk=>.inl hk⟩
  ·simpa using st1.tmps.set (k:=t) (c:=.any) (u:=.func (.func k) #[] (caps.map a1.eval)) (by simp only [Rep])
  ·rw [st1.defers]
 refine wp_mono (comp_sound c ac hac hw1 w1 (Ow g1 h1) _ _ w1 g1 st2) ?_
 rintro e2 a2 w2 ⟨x2,T2,h2,g2,st2',hx2,hdoor⟩
 have hle:g1.le g2:=⟨st2'.le.D,st2'.le.loc⟩
 refine leaves_A hrs hek st2'.sim st2'.tmps st2'.defers (RepL.mono hle (fun k hk=>st2'.fr.block k (st1.sim.lt k hk) (fun ho=>(st1.sim.own_not_D ho).1 hk)) _ _ hcv) hx2 hdoor ?_
 intro c' v w3 h3 g3 q1 q2 q3 q4 q5 q6
 have hle0:g.le g1:=⟨st1.le.D,st1.le.loc⟩
 refine ⟨.ret c',h3,g3,q1,q2,(hle0.trans hle).trans q3,?_,?_,q6⟩
 ·refine (st1.fr.trans st2'.fr ?_).trans q4 ?_
  ·intro i hi hlt
   exact (st1.ow i hi).resolve_right (by omega)
  ·intro i hi hlt
   rcases st2'.ow i hi with ho | ho
   ·exact (st1.ow i ho).resolve_right (by omega)
   ·have:=st1.fr.size;omega
 ·intro i hi
  rcases q5 i hi with ho | ho
  ·rcases st2'.ow i ho with ho | ho
   ·exact st1.ow i ho
   ·exact .inr (Nat.le_trans st1.fr.size ho)
  ·exact .inr (Nat.le_trans (Nat.le_trans st1.fr.size st2'.fr.size) ho)
theorem ACalls.intoD {f:FuncId}{fd:AFD}(hc:compFD P f=some fd) (he:enters P f=true) {args T0:List AV}{h:AH}{R:AE→AH→Prop}(hT:args++List.replicate (fd.af.ntmps-args.length) .any=T0)
  (hw : ∀ n,h.length=n→(∀ e∈h,e.lt n=true)→AV.ltL n args=true→AV.bdL args→arun P (fun c T h=>afterR0 P fd R (.pan c) T h) fd.al T0 (h++[]) (fun T1 h1=>afterR0 P fd R .normal T1 h1)):ACalls P f args h R:=by
 subst hT
 refine ⟨he,fun w g vs hs ha=>(ACalls.of_defer (R:=R) hc he ?_).2 w g vs hs ha⟩
 have:=hw h.length rfl hs.ltE (RepL.lt (fun i v l hl=>(hs.fresh i v l hl).1) _ _ ha) (RepL.bd _ _ ha)
 rwa [List.append_nil] at this
theorem afterR0.mk {fd:AFD}{R:AE→AH→Prop}{T T1 cv:List AV}{h:AH}{n:Nat}(hd:fd.d<T.length) (hp:aPut T (some fd.d) .any=T1) (hc:fd.caps.map (aEval T)=cv) (hn:h.length=n) (hw : ∀ M,M=n→aw P M fd.af.code (doorA P fd.k cv fd.af.res R) T1 h):afterR0 P fd R .normal T h:=by
 subst hp hc;exact ⟨rfl,hd,hw _ hn⟩
theorem door_ret {k:Nat}{cv T:List AV}{rs:List AR}{R:AE→AH→Prop}{h:AH}(hd:ADef P k cv none h fun h' => ∃ c,aRes rs T h'=some c∧R (.ret c) h'):doorA P k cv rs R .ret T h:=hd
theorem door_pan {k:Nat}{cv T:List AV}{rs:List AR}{R:AE→AH→Prop}{c:AV}{h:AH}(hd:ADef P k cv (some c) h fun h' => ∃ c,aRes rs T h'=some c∧R (.ret c) h'):doorA P k cv rs R (.pan c) T h:=hd
end
end Go.Ab
end
section
namespace Go.Proofs.YtgjchdhdopgkkaaGreatDoor
open Go.Ab
section
theorem LineB_split_2 {τ:Operand→AV}{y0:Operand}{x0_0:AV}(h0:cellsV (τ y0)=some [x0_0]) (l0:[x0_0].all leaf=true):fillAV τ [(0,1,y0)] [(.v (.string ⟨#[]⟩)),(.v (.int .i64 0)),(.sl 0 0 true [])]=some [x0_0,(.v (.int .i64 0)),(.sl 0 0 true [])]:=by
 simp only [fillAV,h0,l0]
 rfl
theorem LineB_split_18 {τ:Operand→AV}{y0:Operand}{x0_0:AV}(h0:cellsV (τ y0)=some [x0_0]) (l0:[x0_0].all leaf=true):fillAV τ [(0,1,y0)] [(.v (.string ⟨#[]⟩))]=some [x0_0]:=by
 simp only [fillAV,h0,l0]
 rfl
theorem LineB_tk_1 {a0:AV}{l:List AV}:(a0::l).take 1=[a0]:=rfl
theorem LineB_sc2_1 {a0 a1 a2 c0:AV}{l:List AV}:setCells (a0::a1::a2::l) 2 [c0]=a0::a1::c0::l:=rfl
theorem LineB_sc0_1 {a0 c0:AV}{l:List AV}:setCells (a0::l) 0 [c0]=c0::l:=rfl
end
def c76:AC:=(.seq (.reg [Mv 7 0,Oo 8 (.build [Ss,(iv 0),(.sl 0 0 true [])] [(0,(1,(.tmp 7)))]),Oo 9 (.box 141 3 (.tmp 8)),Mv 4 9]) (.seq (.seq (.reg [Mv 10 4,Oo 11 (.call (.func 107) [(.tmp 10),(.func 77)])]) (.block 0 (.loop (.seq (.seq (.reg [Mv 12 4,Oo 13 (.call (.func 108) [(.tmp 12)])]) (.cond (.tmp 13) .skip (.exit 0))) (.seq (.block 1 (.seq (.reg [Mv 16 4,Oo 17 (.call (.func 109) [(.tmp 16)]),Mv 5 17]) (.seq (.reg [Mv 18 4,Mv 19 4,Nk 20 19,Fa 21 2 20,Ld 22 21,Mv 23 5,Oo 24 (.lit 9 1 1 [Ss] [(0,(1,(.tmp 23)))]),Oo 25 (.app 9 1 16 (.tmp 22) (.tmp 24)),Nk 26 18,Fa 27 2 26,⟨none,none,(.store 1 (.tmp 27) (.tmp 25))⟩]) (.seq (.reg [Mv 28 5,Oo 29 (.len true (.tmp 28)),Oo 30 (.bin .gtr (.tmp 29) (Ci 24)),Mv 31 30,Of 32 31 (.mv (.tmp 4)),Of 33 31 (.nck (.tmp 32)),Of 34 31 (.fa 2 (.tmp 33)),Of 35 31 (.load false 1 (.tmp 34)),Of 36 31 (.len false (.tmp 35)),Of 37 31 (.bin .gtr (.tmp 36) (Ci 12)),Oo 38 (.pick (.tmp 31) (.const (.bool true)) (.tmp 37))]) (.cond (.tmp 38) (.reg [Oo 39 (.call (.func 110) [(Ci 2)])]) .skip))))) (.reg [Mv 14 4,Oo 15 (.call (.func 107) [(.tmp 14),(.func 77)])])))))) (.seq (.reg [Mv 40 4,Nk 41 40,Fa 42 2 41,Ld 43 42,⟨none,none,(.store 1 (.tmp 2) (.tmp 43))⟩,⟨none,none,(.store 1 (.tmp 3) (Ci 0))⟩]) .ret)))
abbrev fd76:AFD:=⟨[⟨(some 2),none,(.new 65 1 [(.sl 0 0 true [])])⟩,⟨(some 3),none,(.new 27 1 [(.v (.int .i64 0))])⟩],6,106,[(.tmp 2),(.tmp 3)],⟨c76,[(.cell 2 false 1),(.cell 3 false 1)],44⟩⟩
theorem k76:compFD Tryz.prog 76=some fd76:=by kernel_rfl
theorem d76 {a0:AV}{h:AH}{R:AE→AH→Prop}(hw : ∀ n,h.length=n→(∀ e∈h,e.lt n=true)→AV.ltL n [a0]=true→AV.bdL [a0]→arun Tryz.prog (fun c T h=>afterR0 Tryz.prog fd76 R (.pan c) T h) [⟨(some 2),none,(.new 65 1 [(.sl 0 0 true [])])⟩,⟨(some 3),none,(.new 27 1 [(.v (.int .i64 0))])⟩] [a0,.any,.any,.any,.any,.any,.any,.any,.any,.any,.any,.any,.any,.any,.any,.any,.any,.any,.any,.any,.any,.any,.any,.any,.any,.any,.any,.any,.any,.any,.any,.any,.any,.any,.any,.any,.any,.any,.any,.any,.any,.any,.any,.any] (h++[]) (fun T1 h1=>afterR0 Tryz.prog fd76 R .normal T1 h1)):ACalls Tryz.prog 76 [a0] h R:=ACalls.intoD k76 (by kernel_rfl) rfl hw
theorem taErrno (v:Value) (t:TypeId) (w:World):(Instr.typeAssert (.iface 27 v) t 27 true).run Tryz.prog w = .ok (.tuple #[v,.bool true]) w:=by
 simp [Instr.typeAssert,run_underlying Tryz.underlying27]
theorem catchS_p (pi pj:Addr) (x y:Value) (e:Int) (w:World) (h1:w.cell? pi=some x) (h2:w.frozen? pi=false) (h3:w.cell? pj=some y) (h4:w.frozen? pj=false) (hne:pi≠pj) :
  CallsD Tryz.prog 106 #[.pointer (some pi),.pointer (some pj)] (.panicking [{ v:=.iface 27 (.int .i64 e),recovered:=false }]) w fun e' u' w' =>
   e' = .returned (.tuple #[])∧u' = .panicking [{ v:=.iface 27 (.int .i64 e),recovered:=true }]∧w'=(w.setCell pi (.slice none 0 0)).setCell pj (.int .i64 e):=by
 refine callsD_of_wpS Tryz.func106 rfl fun c₀ cs hu=>?_
 apply wpS_seq
 apply wpS_region
 simp [wpOpsS,go_sem,recoverD,hu,Tryz.ntmps106,Exit.thenS]
 apply wpS_seq
 apply wpS_region
 simp [wpOpsS,go_sem,Exit.thenS]
 refine wpS_cond (t:=true) (by simp [Act.eval,Array.replicate]) ?_
 simp only [if_true]
 apply wpS_seq
 apply wpS_region
 simp [wpOpsS,go_sem,Exit.thenS,taErrno]
 apply wpS_seq
 apply wpS_seq
 apply wpS_region
 simp [wpOpsS,go_sem,Exit.thenS]
 refine wpS_cond (t:=false) (by simp [Act.eval,Act.put,Array.replicate]) ?_
 simp only [if_false,Bool.false_eq_true]
 refine wpS_of_wp (wp_skip ?_)
 show Code.wpS _ _ _ _ _ _
 apply wpS_region
 simp [wpOpsS,go_sem,h1,h2,World.cell?_setCell_other,World.frozen?_setCell,h3,h4,hne,Ne.symm hne,bodyPostS,results,Tryz.results106]
theorem catchS_r (pi pj:Addr) (w:World) :
  CallsD Tryz.prog 106 #[.pointer (some pi),.pointer (some pj)] .returning w fun e' u' w'=>e' = .returned (.tuple #[])∧u' = .returning∧w'=w:=by
 refine callsD_of_wpS Tryz.func106 rfl fun c₀ cs hu=>?_
 apply wpS_seq
 apply wpS_region
 simp [wpOpsS,go_sem,recoverD,hu,Tryz.ntmps106,Exit.thenS]
 apply wpS_seq
 apply wpS_region
 simp [wpOpsS,go_sem,Exit.thenS]
 refine wpS_cond (t:=false) (by simp [Act.eval,Array.replicate]) ?_
 simp only [if_false,Bool.false_eq_true]
 refine wpS_of_wp (wp_skip ?_)
 cases c₀
 simp_all [bodyPostS,results,Tryz.results106]
theorem adefS_r {i j:Nat}{h:AH}{R:AH→Prop}(hR:R h):ADef Tryz.prog 106 [.ptr i 0 0,.ptr j 0 0] none h R:=by
 intro w g vs hs hr
 simp only [RepL,Rep] at hr
 obtain ⟨u1,us1,e1,⟨b1,c1,l1,rfl⟩,u2,us2,rfl,⟨b2,c2,l2,rfl⟩,rfl⟩:=hr
 obtain rfl:vs = #[.pointer (some ⟨b1,0,none⟩),.pointer (some ⟨b2,0,none⟩)]:=by cases vs;simp_all
 refine (catchS_r _ _ w).mono ?_
 rintro e u' w' ⟨rfl,rfl,rfl⟩
 exact ⟨⟨_,rfl⟩,rfl,h,g,hs,Gh.le.refl g,Fr.refl _ _,fun k hk=>.inl hk,hR⟩
theorem adefS_p {i j ti tj:Nat}{e:Int}{ci cj:AV}{h:AH}{R:AH→Prop}(hi:h[i]?=some (.mk 0 ti 1 [ci])) (hj:h[j]?=some (.mk 0 tj 1 [cj])) (hij:i≠j) (hR:R ((h.set i (.mk 0 ti 1 [.sl 0 1 false []])).set j (.mk 0 tj 1 [iv e]))) :
  ADef Tryz.prog 106 [.ptr i 0 0,.ptr j 0 0] (some (erA e)) h R:=by
 intro w g vs hs hr v hv
 simp only [RepL,Rep] at hr hv
 subst hv
 obtain ⟨u1,us1,e1,⟨b1,c1,l1,rfl⟩,u2,us2,rfl,⟨b2,c2,l2,rfl⟩,rfl⟩:=hr
 obtain rfl:vs = #[.pointer (some ⟨b1,0,none⟩),.pointer (some ⟨b2,0,none⟩)]:=by cases vs;simp_all
 obtain ⟨s1,n1,f1,o1⟩:=hs.store hi l1 (k:=0) (c:=.sl 0 1 false []) (u:=.slice none 0 0) (by simp) (by simp only [Rep];exact ⟨rfl,none,0,rfl,Nat.le_refl _,Nat.zero_le _,fun _=>rfl,fun _=>rfl,fun h=>absurd rfl h⟩)
 obtain ⟨_,n2,f2,o2⟩:=hs.store hj l2 (k:=0) (c:=iv e) (u:=.int .i64 e) (by simp) (by simp only [Rep])
 have hj':(h.set i (.mk 0 ti 1 ([ci].set 0 (.sl 0 1 false []))))[j]?=some (.mk 0 tj 1 [cj]):=by rw [List.getElem?_set_ne hij];exact hj
 obtain ⟨s2,_,_,_⟩:=s1.store hj' l2 (k:=0) (c:=iv e) (u:=.int .i64 e) (by simp) (by simp only [Rep])
 have hne:b1≠b2:=fun hb=>hij (hs.inj i j b1 o1 (hb ▸ o2))
 obtain ⟨x1,hx1⟩:=Option.ne_none_iff_exists'.1 n1
 obtain ⟨x2,hx2⟩:=Option.ne_none_iff_exists'.1 n2
 refine (catchS_p ⟨b1,0,none⟩ ⟨b2,0,none⟩ x1 x2 e w hx1 f1 hx2 f2 (by simpa using hne)).mono ?_
 rintro e' u' w' ⟨rfl,rfl,rfl⟩
 refine ⟨⟨_,rfl⟩,⟨_,rfl⟩,_,g,s2,Gh.le.refl g,⟨rfl,rfl,rfl,by simp [World.setCell],?_⟩,?_,hR⟩
 ·intro k hk ho
  rw [heap_setCell_other _ _ _ _ (fun e=>ho ⟨j,by simpa [e] using o2⟩),heap_setCell_other _ _ _ _ (fun e=>ho ⟨i,by simpa [e] using o1⟩)]
 rintro k ⟨m,v,ty,s,c,b,cap,q1,q2,q3,q4⟩
 refine .inl ?_
 by_cases hm:m=j
 ·subst hm
  rw [List.getElem?_set_self (by simpa using (List.getElem?_eq_some_iff.1 hj).1)] at q1
  cases q1
  exact ⟨m,_,_,_,_,b,cap,hj,q2,q3,q4⟩
 rw [List.getElem?_set_ne (Ne.symm hm)] at q1
 by_cases hm2:m=i
 ·subst hm2
  rw [List.getElem?_set_self (List.getElem?_eq_some_iff.1 hi).1] at q1
  cases q1
  exact ⟨m,_,_,_,_,b,cap,hi,q2,q3,q4⟩
 rw [List.getElem?_set_ne (Ne.symm hm2)] at q1
 exact ⟨m,v,ty,s,c,b,cap,q1,q2,q3,q4⟩
abbrev strC (s:ByteArray):List AV:=[sv s]
theorem str_lt {n:Nat}(l:List ByteArray):AV.ltL n (rows strC l)=true:=rows_lt (fun _ _=>rfl) l
attribute [local simp] str_lt
theorem str_len1 : ∀ x,(strC x).length=1:=fun _=>rfl
theorem str_len (l:List ByteArray):(rows strC l).length=l.length*1:=rows_len str_len1 l
def fldsT (m:Nat) (acc:List ByteArray) (l:Bs):List ByteArray×Int :=
  if moreL l = true then
      match fieldL l with
      | none=>([],1)
      | some x=>if 24<x.2.1∨12<acc.length+1 then ([],2) else fldsL m (acc++[cutF l x]) (l.drop x.2.2)
    else (acc,0)
theorem fldsL_T (m:Nat) (acc:List ByteArray) (l:Bs):fldsL (m+1) acc l=fldsT m acc (l.drop (skipN l)):=rfl
theorem skipN_le (l:Bs):skipN l≤l.length:=by
 unfold skipN
 exact (List.takeWhile_sublist _).length_le
theorem cutF_size {l:Bs}{y:Nat×Nat×Nat}(h:fieldL l=some y):(cutF l y).size=y.2.1:=by
 obtain ⟨h1,h2,h3⟩:=fieldL_le h
 unfold cutF
 rw [bA_size,List.length_take,List.length_drop];omega
theorem fldsT_no {m:Nat}{fs:List ByteArray}{l:Bs}(h:moreL l=false):fldsT m fs l=(fs,0):=by rw [fldsT,if_neg (by simp [h])]
theorem fldsT_bad {m:Nat}{fs:List ByteArray}{l:Bs}(h:moreL l=true) (hf:fieldL l=none):fldsT m fs l=([],1):=by rw [fldsT,if_pos h,hf]
theorem fldsT_many {m:Nat}{fs:List ByteArray}{l:Bs}{y:Nat×Nat×Nat}(h:moreL l=true) (hf:fieldL l=some y) (hm:24<y.2.1∨12<fs.length+1):fldsT m fs l=([],2):=by rw [fldsT,if_pos h,hf];exact if_pos hm
theorem fldsT_go {m:Nat}{fs:List ByteArray}{l:Bs}{y:Nat×Nat×Nat}(h:moreL l=true) (hf:fieldL l=some y) (hm:¬(24<y.2.1∨12<fs.length+1)):fldsT (m+1) fs l=fldsT m (fs++[cutF l y]) ((l.drop y.2.2).drop (skipN (l.drop y.2.2))):=by rw [fldsT,if_pos h,hf];exact if_neg hm
theorem fldsT_at {m k:Nat}{fs:List ByteArray}{l:Bs}{y:Nat×Nat×Nat}(h:moreL (l.drop k)=true) (hf:fieldL (l.drop k)=some y) (hm:¬(24<y.2.1∨12<fs.length+1)) :
  fldsT (m+1) fs (l.drop k)=fldsT m (fs++[cutF (l.drop k) y]) (l.drop (k+y.2.2+skipN (l.drop (k+y.2.2)))):=by
 rw [fldsT_go h hf hm]
 simp only [List.drop_drop]
set_option maxHeartbeats 1000000 in
theorem lnsplit_a {s:ByteArray}{h:AH}(hz:s.size≤8000):ACalls Tryz.prog 76 [sv s] h fun x h'=>h'=h∧x = .ret (.tup [.sl (lineL (aB s)).1.length 1 false (rows strC (lineL (aB s)).1),iv (lineL (aB s)).2]):=by
 refine ACalls.gc_same (d76 ?_)
 intro N hn hlt hlA hbd
 try simp only [AV.bdL,AV.bd,and_true,true_and] at hbd
 refine E' (e_new (hl0 hn) ha0) pt2<|E' (e_new (hl1 hn) ha1) pt3<|s_nil<|?_
 refine afterR0.mk (nb' rfl) pt6 (mp1 lk2 (mp1 lk3 mp0)) (hl2 hn) (fun M hM=>?_)
 subst hM
 refine wr'<|mv' lk0 pt7<|V' (v_build (LineB_split_2 (cvl lk7 rfl) rfl)) pt8<|E' (e_box (cvl lk8 rfl) rfl (hl2 hn) ha2) pt9<|mv' lk9 pt4<|s_nil<|?_
 refine n_seqw (ALe.own0Cell (st':=1) (ty:=9) (hga hn rfl) gt2 (hl3 hn) pt2 (Eq.trans (congrArg (fun z=>List.set z _ _) ha3) (hs2 hn))) ?_
 refine w_seq<|wr'<|mv' lk4 pt10<|?_
 refine s_calls (mp1 lk10 (mp1 lkf mp0)) (lnrun_a (fun _ _=>lnblank_a) (runL_blk _) (hga hn rfl) (by simp [AV.lt] <;> omega) (Nat.zero_le _) hz) (hs2 hn) pt11 ?_
 refine sn'<|w_block<|?_
 refine w_loop (ι:=Nat×List ByteArray×Nat×Nat) (fun (x_:Nat×List ByteArray×Nat×Nat)=>match x_ with | ⟨k,fs,v,m⟩=>[(5,.any)]++rn' 12 28) (fun (x_:Nat×List ByteArray×Nat×Nat)=>match x_ with | ⟨k,fs,v,m⟩=>[(2,.mk 0 141 3 [sv s,iv (k:Int),.own (N+3) v fs.length]),(3,.mk v 9 1 (rows strC fs))]) (fun (x_:Nat×List ByteArray×Nat×Nat)=>match x_ with | ⟨k,fs,v,m⟩=>k≤s.size∧fs.length+m=12∧lineL (aB s)=fldsT m fs ((aB s).drop k)) (fun (x_:Nat×List ByteArray×Nat×Nat)=>match x_ with | ⟨k,fs,v,m⟩=>m) (⟨skipN (aB s),[],0,12⟩) (by exact ⟨skipN_le _,rfl,rfl⟩) (by try simp only [setsT,setsE,z',s',rn',la',ln',Nat.reduceAdd];exact ALe.same wA' (by simp [rows])) ?_
 rintro ⟨k,fs,v,m⟩ hi1
 try simp only [setsT,setsE,z',s',rn',la',ln',Nat.reduceAdd]
 obtain ⟨hi1,hi2,hi3⟩:=hi1
 refine w_seq<|wr'<|mv' lk4 pt12<|s_callp (mp1 lk12 mp0) (lnmore_a (hga hn rfl) hi1) pt13<|sn'<|?_
 refine w_condB lk13 (fun hc1=>?_) (fun hc1=>?_)
 ·have hm:=hc1;rw [moreL_at] at hm;simp only [Bool.and_eq_true,decide_eq_true_eq] at hm
  refine w_skip<|n_seq<|w_seq<|w_block<|wr'<|mv' lk4 pt16<|?_
  by_cases hs10 : ∃ y,fieldL ((aB s).drop k)=some y
  ·obtain ⟨y,hy⟩:=hs10
   have hle:=fieldL_le hy
   have hcs:=cutF_size hy
   have hL:((aB s).drop k).length=s.size-k:=by rw [List.length_drop,aB_len]
   refine s_calls (mp1 lk16 mp0) (lnfield_a hy (hga hn rfl) (by simp [AV.lt] <;> omega) hm.1 hz) (hs2 hn) pt17 ?_
   refine mv' lk17 pt5<|sn'<|wr'<|mv' lk4 pt18<|mv' lk4 pt19<|V' (v_nckp lk19) pt20<|V' (v_fap0 lk20) pt21<|V' (v_loadp lk21 (hga hn rfl) gt2) pt22<|mv' lk5 pt23<|E' (e_lit (LineB_split_18 (cvl lk23 rfl) rfl) (hl4 hn) ha4) pt24<|?_
   refine E' (e_app (sc_own lk24 (hga hn rfl) rfl LineB_tk_1 (nb' rfl)) lk22 (hga hn rfl) (str_len _) (by omega) rfl (hs3 hn)) pt25 ?_
   refine V' (v_nckp lk18) pt26<|V' (v_fap0 lk26) pt27<|E' (e_store lk27 (cvl lk25 rfl) (hga hn rfl) rfl (nb' rfl) rfl LineB_sc2_1 (hs2 hn)) ptn<|sn'<|wr'<|mv' lk5 pt28<|V' (v_lenS lk28) pt29<|V' (v_gtr lk29 lki) pt30<|mv' lk30 pt31<|?_
   refine sp' gt31 pt31 pt31 (fun hg31=>?_) (fun hg31=>?_)
   ·rw [hcs] at hg31;rw [fldsT_many hc1 hy (.inl (by omega))] at hi3
    refine s_no gt31 pt32<|s_no gt31 pt33<|s_no gt31 pt34<|s_no gt31 pt35<|s_no gt31 pt36<|s_no gt31 pt37<|V' (v_pickT lk31 lkb) pt38<|sn'<|w_condT lk38<|w_reg<|s_callPan' (mp1 lki mp0) (lnfail_a)<|p_blk<|p_thn<|?_
    refine p_thn<|p_blk<|p_thn<|?_
    refine door_pan (adefS_p (hga hn rfl) (hga hn rfl) (by omega) ?_)
    rw [hs0 hn,hs1 hn]
    exact ⟨_,rsn (rm1 (rr_c gt2 (hga hn rfl) (ld0 gt0)) (rm1 (rr_c gt3 (hga hn rfl) (ld0 gt0)) rm0)),_,rfl,rfl,by rw [hi3];rfl⟩
   rw [hcs] at hg31
   refine s_do gt31<|mv' lk4 pt32<|s_do gt31<|V' (v_nckp lk32) pt33<|s_do gt31<|V' (v_fap0 lk33) pt34<|s_do gt31<|V' (v_loadp lk34 (hga hn rfl) gt2) pt35<|s_do gt31<|V' (v_lenO lk35) pt36<|s_do gt31<|V' (v_gtr lk36 lki) pt37<|V' (v_pickF lk31 lk37) pt38<|s_nil<|?_
   refine n_seq ?_
   refine cd' lk38 (fun hc2=>?_) (fun hc2=>?_)
   ·rw [fldsT_many hc1 hy (.inr (by omega))] at hi3
    refine w_reg<|s_callPan' (mp1 lki mp0) (lnfail_a)<|p_blk<|p_thn<|p_thn<|p_blk<|p_thn<|?_
    refine door_pan (adefS_p (hga hn rfl) (hga hn rfl) (by omega) ?_)
    rw [hs0 hn,hs1 hn]
    exact ⟨_,rsn (rm1 (rr_c gt2 (hga hn rfl) (ld0 gt0)) (rm1 (rr_c gt3 (hga hn rfl) (ld0 gt0)) rm0)),_,rfl,rfl,by rw [hi3];rfl⟩
   obtain ⟨m',rfl⟩ : ∃ m',m=m'+1:=⟨m-1,by omega⟩
   rw [fldsT_at hc1 hy (by omega)] at hi3
   have hsk:=skipN_le ((aB s).drop (k+y.2.2))
   rw [List.length_drop,aB_len] at hsk
   refine w_skip<|n_blk<|n_seq<|w_reg<|mv' lk4 pt14<|?_
   refine s_calls (mp1 lk14 (mp1 lkf mp0)) (lnrun_a (fun _ _=>lnblank_a) (runL_blk _) (hga hn rfl) (by simp [AV.lt] <;> omega) (by omega) hz) (hs2 hn) pt15 ?_
   refine s_nil<|n_thn<|?_
   refine lU' (⟨k+y.2.2+skipN ((aB s).drop (k+y.2.2)),fs++[cutF ((aB s).drop k) y],v+1,m'⟩) (by (try dsimp only);exact ⟨by omega,by simp;omega,hi3⟩) (by (try dsimp only);(try simp only [setsT,setsE,z',s',rn',la',ln',Nat.reduceAdd]);exact bk' 4 hn hlt (by simp only [rows_app,rows_one,strC,List.length_append,List.length_singleton];rfl)) (by exact Nat.lt_succ_self _)
  have hy:=no_some hs10
  rw [fldsT_bad hc1 hy] at hi3
  refine s_callPanX (mp1 lk16 mp0) (lnfield_p hy (hga hn rfl) (by simp [AV.lt] <;> omega) hm.1 hz) (fun hP_ hPp_=>?_)
  refine p_thn<|p_blk<|p_thn<|p_thn<|p_blk<|p_thn<|?_
  obtain ⟨m',rfl⟩:=hPp_
  rw [hs2 hn]
  refine door_pan (adefS_p (hga hn rfl) (hga hn rfl) (by omega) ?_)
  rw [hs0 hn,hs1 hn]
  exact ⟨_,rsn (rm1 (rr_c gt2 (hga hn rfl) (ld0 gt0)) (rm1 (rr_c gt3 (hga hn rfl) (ld0 gt0)) rm0)),_,rfl,rfl,by rw [hi3];rfl⟩
 rw [fldsT_no hc1] at hi3
 refine w_exit<|x_thn<|x_thn<|x_blk<|n_seq<|wr'<|mv' lk4 pt40<|V' (v_nckp lk40) pt41<|V' (v_fap0 lk41) pt42<|V' (v_loadp lk42 (hga hn rfl) gt2) pt43<|E' (e_store lk2 (cvl lk43 rfl) (hga hn rfl) rfl (nb' rfl) rfl LineB_sc0_1 (hs0 hn)) ptn<|E' (e_store lk3 (cvl lki rfl) (hga hn rfl) rfl (nb' rfl) rfl LineB_sc0_1 (hs1 hn)) ptn<|s_nil<|?_
 refine n_seqw (ALe.iceCellR (hga hn rfl) (hga hn rfl) (by omega) gt0 (List.take_of_length_le (by rw [rows_len str_len1];first | exact Nat.le_refl _ | omega)) (by rw [rows_len str_len1];first | exact Nat.le_refl _ | omega) pt0 (hs3 hn) (hs0 hn)) ?_
 refine w_rets ?_
 refine door_ret (adefS_r ⟨_,rsn (rm1 (rr_c gt2 (hga hn rfl) (ld0 gt0)) (rm1 (rr_c gt3 (hga hn rfl) (ld0 gt0)) rm0)),_,rfl,?_,?_⟩)
 simp [AE.lt,AV.lt,AV.ltL,str_lt]
 rw [hi3]
end Go.Proofs.YtgjchdhdopgkkaaGreatDoor
end
section
namespace Go.Proofs.YtgjchdhdopgkkaaGreatDoor
open Go.Ab
def cutC (x:UInt8):Bs→List Bs
 | []=>[[]]
 | c::l=>if c=x then []::cutC x l else match cutC x l with
  | []=>[[c]]
  | y::ys=>(c::y)::ys
theorem cutC_ne (x:UInt8) : ∀ l,cutC x l≠[]
 | []=>by simp [cutC]
 | c::l=>by
  unfold cutC
  split
  ·simp
  ·split <;> simp
theorem index_one_miss {x:UInt8} : ∀ {l:Bs},Lib.index l [x] = -1→cutC x l=[l]
 | [],_=>rfl
 | c::l,h=>by
  unfold Lib.index at h
  by_cases hc:x=c
  ·subst hc;simp at h
  ·have h0:[x].isPrefixOf (c::l)=false:=by simp [List.isPrefixOf,hc]
   rw [h0] at h
   simp only [Bool.false_eq_true,if_false] at h
   have hm:Lib.index l [x] = -1:=by
    by_cases e:Lib.index l [x] = -1
    ·exact e
    ·rw [if_neg (by simpa using e)] at h
     have:=Lib.index_ge l [x]
     omega
   rw [cutC,if_neg (Ne.symm hc),index_one_miss hm]
theorem index_one_hit {x:UInt8} : ∀ {l:Bs}{i:Nat},Lib.index l [x]=i→cutC x l=l.take i::cutC x (l.drop (i+1))∧i<l.length∧l[i]?=some x
 | [],i,h=>by simp [Lib.index] at h
 | c::l,i,h=>by
  unfold Lib.index at h
  by_cases hc:x=c
  ·subst hc
   simp at h
   obtain rfl:i=0:=by omega
   simp [cutC]
  ·have h0:[x].isPrefixOf (c::l)=false:=by simp [List.isPrefixOf,hc]
   rw [h0] at h
   simp only [Bool.false_eq_true,if_false] at h
   have hge:=Lib.index_ge l [x]
   by_cases e:Lib.index l [x] = -1
   ·rw [if_pos (by simpa using e)] at h;omega
   ·rw [if_neg (by simpa using e)] at h
    obtain ⟨j,rfl⟩ : ∃ j,i=j+1:=⟨i-1,by omega⟩
    have hj:Lib.index l [x]=(j:Int):=by
     omega
    obtain ⟨h1,h2,h3⟩:=index_one_hit hj
    refine ⟨?_,by simp;omega,by simpa using h3⟩
    rw [cutC,if_neg (Ne.symm hc),h1]
    rfl
theorem splitK_one {x:UInt8} : ∀ (n:Nat) (l:Bs),l.length≤n→Lib.splitK [x] 0 (Lib.count l [x]) l=cutC x l
 | n,l,hn=>by
  rcases Lib.index_spec l [x] with ⟨h1,_⟩ | ⟨i,h1,h2,_⟩
  ·rw [Lib.count_miss h1,index_one_miss h1];rfl
  ·obtain ⟨e1,e2,_⟩:=index_one_hit h1
   rw [Lib.count_hit (by simp) h1,Nat.add_comm 1,Lib.splitK]
   have:¬(Lib.index l [x] == -1)=true:=by rw [h1];simp
   rw [if_neg this,h1,e1]
   simp only [Int.toNat_natCast,Nat.add_zero,List.length_singleton]
   cases n with
   | zero=>omega
   | succ n=>rw [splitK_one n _ (by rw [List.length_drop];omega)]
theorem splitB_one (x:UInt8) (s:ByteArray):Lib.splitB (bA [x]) 0 (Lib.countB s (bA [x])) s=(cutC x (aB s)).map bA:=by
 have h:=Lib.splitB_data (bA [x]) 0 (Lib.countB s (bA [x])) s
 rw [show (bA [x]).data.toList=[x] from rfl] at h
 have h2:=splitK_one (x:=x) _ (aB s) (Nat.le_refl _)
 have h3:(Lib.splitB (bA [x]) 0 (Lib.countB s (bA [x])) s).map aB=cutC x (aB s):=h.trans h2
 rw [←h3,List.map_map]
 have:(bA ∘ aB)=id:=by funext z;rfl
 rw [this,List.map_id]
theorem countB_one (x:UInt8) (s:ByteArray):Lib.countB s (bA [x])+1=(cutC x (aB s)).length:=by
 have h:=Lib.splitB_all (bA [x]) (Nat.le_refl _) 0 _ s rfl
 rw [←h,splitB_one,List.length_map]
end Go.Proofs.YtgjchdhdopgkkaaGreatDoor
end
section
namespace Go.Ab
open Go.RowKit
section
variable {P : Program}
theorem ACalls.of_below {f:FuncId}{args:List AV}{h:AH}{c:AV}(he:enters P f=true)
  (hc : ∀ w g (vs:Array Value),SimH w g h→RepL w g args vs.toList→Calls P f vs w fun e w' => ∃ v,e = .returned v∧Below w.heap.size w w'∧Rep w' g c v):ACalls P f args h fun x h'=>h'=h∧x = .ret c:=by
 refine ⟨he,fun w g vs hs ha=>(hc w g vs hs ha).mono ?_⟩
 rintro e w' ⟨v,rfl,hb,hr⟩
 have hold : ∀ k,k<w.heap.size→w'.heap[k]?=w.heap[k]?:=fun k hk=>hb.block k hk
 have hs':SimH w' g h:=hs.world (fun k hk=>hold k (hk.elim (hs.lt k) (fun ho=>(hs.own_not_D ho).2))) hb.size
 exact ⟨.ret c,h,g,hr,hs',Gh.le.refl g,⟨hb.os,hb.tape,hb.output,hb.size,fun k hk _=>hold k hk⟩,fun k hk=>.inl hk,rfl,rfl⟩
theorem ACalls.of_newrow {f:FuncId}{args:List AV}{h:AH}{n st:Nat}{cs:List AV}(he:enters P f=true) (hcs:cs.length=n*st) (hleaf : ∀ w g w' g' us,RepL w g cs us→RepL w' g' cs us)
  (hc : ∀ w g (vs:Array Value),SimH w g h→RepL w g args vs.toList→Calls P f vs w fun e w' => ∃ b cap arr ty fr,e = .returned (.slice (some ⟨b,0,none⟩) n cap)∧n≤cap∧cap≤maxLen∧w.heap.size≤b∧w'.heap[b]?=some (.cells arr ty fr)∧Below w.heap.size w w'∧RepL w' g cs (arr.toList.take cs.length)) :
  ACalls P f args h fun x h'=>h'=h∧x = .ret (.sl n st false cs):=by
 refine ⟨he,fun w g vs hs ha=>(hc w g vs hs ha).mono ?_⟩
 rintro e w' ⟨b,cap,arr,ty,fr,rfl,h1,h2,h3,hb,hbw,hr⟩
 have hb':b<w'.heap.size:=(Array.getElem?_eq_some_iff.1 hb).1
 let g':Gh:=⟨fun k=>g.D k∨k=b,g.loc,g.df⟩
 have hle:g.le g':=⟨fun _ h=>.inl h,fun _ _ _ h=>h⟩
 have hold : ∀ k,k<w.heap.size→w'.heap[k]?=w.heap[k]?:=fun k hk=>hbw.block k hk
 have hs':SimH w' g' h:=by
  refine ⟨?_,fun i j k h1 h2=>hs.inj i j k h1 h2,?_,fun id ver l hl=>hs.fresh id ver l hl,fun id ver l hl=>hs.free id ver l hl,hs.glob.mono hle.D (fun k hk=>hold k (hs.lt k hk))⟩
  ·intro id ver ty st cells he
   obtain ⟨A0,cap0,f1,f2,f3⟩:=hs.ent id ver ty st cells he
   refine ⟨A0,cap0,f1,f2,f3.mono hle ?_ (fun k hk=>hold k (hs.lt k hk)) ?_⟩
   ·intro k hk h0 hd
    rcases hd with hd | rfl
    ·exact hd
    ·have:=(hs.own_not_D (k:=k) ⟨id,by
      obtain ⟨a0,ea,rfl⟩:=Option.map_eq_some_iff.1 hk
      exact ⟨ver,ty,st,cells,a0,cap0,he,by rw [f1,ea],h0,rfl⟩⟩).2
     omega
   ·intro k hk h0
    refine hold k (hs.own_not_D (k:=k) ⟨id,?_⟩).2
    obtain ⟨a0,ea,rfl⟩:=Option.map_eq_some_iff.1 hk
    exact ⟨ver,ty,st,cells,a0,cap0,he,by rw [f1,ea],h0,rfl⟩
  ·rintro k (hk | rfl)
   ·exact Nat.lt_of_lt_of_le (hs.lt k hk) hbw.size
   ·exact hb'
 refine ⟨.ret (.sl n st false cs),h,g',?_,hs',hle,⟨hbw.os,hbw.tape,hbw.output,hbw.size,fun k hk _=>hold k hk⟩,fun k hk=>.inl hk,rfl,rfl⟩
 simp only [EndR,Rep]
 refine ⟨hcs,_,_,rfl,h1,h2,(fun h=>by simp at h),(fun h=>by simp at h),fun _=>⟨b,0,rfl,.inr rfl,RepC.of_row hb _ 0 ?_⟩⟩
 rw [List.drop_zero]
 exact hleaf _ _ _ _ _ hr
theorem repL_v {α:Type}(f:α→Value) {w:World}{g:Gh} : ∀ {l:List α}{vs:List Value},RepL w g (rows (fun x=>[AV.v (f x)]) l) vs↔vs=l.map f
 | [],vs=>by simp [rows,RepL]
 | n::l,vs=>by
  rw [show rows (fun x=>[AV.v (f x)]) (n::l)=AV.v (f n)::rows (fun x=>[AV.v (f x)]) l from rfl]
  simp only [RepL,Rep,List.map_cons]
  constructor
  ·rintro ⟨u,us,rfl,rfl,h⟩
   rw [(repL_v f).1 h]
  ·rintro rfl
   exact ⟨_,_,rfl,rfl,(repL_v f).2 rfl⟩
end
end Go.Ab
end
section
namespace Go.Proofs
open Go.Shelf
def Tryz.lays137_ren:Go.Shelf.Ren:=⟨fun | 137=>120 | 217=>148 | 266=>177 | n=>n,fun | 9=>9 | 5=>5 | 3=>3 | n=>n,fun | n=>n⟩
theorem Tryz.lays137:Go.Proofs.Lays.n137 Tryz.prog Tryz.lays137_ren:={
 mixed:=by kernel_rfl
 f137:=Tryz.func120.trans (congrArg some (by kernel_rfl))
 f217:=Tryz.func148.trans (congrArg some (by kernel_rfl))
 f266:=Tryz.func177.trans (congrArg some (by kernel_rfl))
 t3:=Tryz.underlying3
 a3:=Tryz.isAgg3
 z3:=Tryz.sizeOf3
 v3:=Tryz.zeroValue3
 t5:=Tryz.underlying5
 a5:=Tryz.isAgg5
 z5:=Tryz.sizeOf5
 v5:=Tryz.zeroValue5
 t9:=Tryz.underlying9
 a9:=Tryz.isAgg9
 z9:=Tryz.sizeOf9
 v9:=Tryz.zeroValue9 }
open Go.RowKit in
theorem Tryz.strings_IndexByte (s:ByteArray) (c:Int) (w:World) :
  Calls Tryz.prog 120 #[.string s,.int .u8 c] w fun e w'=>e = .returned (.int .i64 (Lib.indexByte s.data.toList c.toNat.toUInt8))∧w'=w:=Any.strings_IndexByte Tryz.lays137 s c w
def Tryz.lays103_ren:Go.Shelf.Ren:=⟨fun | 103=>172 | 210=>189 | 206=>199 | n=>n,fun | 9=>9 | 4=>4 | 24=>175 | 3=>3 | n=>n,fun | n=>n⟩
theorem Tryz.lays103:Go.Proofs.Lays.n103 Tryz.prog Tryz.lays103_ren:={
 mixed:=by kernel_rfl
 f103:=Tryz.func172.trans (congrArg some (by kernel_rfl))
 f206:=Tryz.func199.trans (congrArg some (by kernel_rfl))
 f210:=Tryz.func189.trans (congrArg some (by kernel_rfl))
 t3:=Tryz.underlying3
 a3:=Tryz.isAgg3
 z3:=Tryz.sizeOf3
 v3:=Tryz.zeroValue3
 t4:=Tryz.underlying4
 a4:=Tryz.isAgg4
 z4:=Tryz.sizeOf4
 v4:=Tryz.zeroValue4
 t9:=Tryz.underlying9
 a9:=Tryz.isAgg9
 z9:=Tryz.sizeOf9
 v9:=Tryz.zeroValue9
 t24:=Tryz.underlying175
 a24:=Tryz.isAgg175
 z24:=Tryz.sizeOf175
 v24:=Tryz.zeroValue175 }
open Go.RowKit in
theorem Tryz.strings_CutPrefix (s p:ByteArray) (w:World) :
  Calls Tryz.prog 172 #[.string s,.string p] w fun e w'=>e = .returned (.tuple #[.string ⟨(Lib.trimPrefix s.data.toList p.data.toList).toArray⟩,.bool (Lib.hasPrefix s.data.toList p.data.toList)])∧w'=w:=Any.strings_CutPrefix Tryz.lays103 s p w
def Tryz.lays172_ren:Go.Shelf.Ren:=⟨fun | 172=>175 | 244=>190 | 245=>191 | 247=>200 | 279=>201 | 280=>202 | 281=>203 | 282=>204 | 287=>207 | 316=>208 | 171=>92 | 205=>209 | 321=>210 | 322=>211 | 243=>131 | 246=>161 | 283=>180 | 284=>181 | 285=>182 | 286=>183 | 129=>194 | 317=>193 | 318=>195 | 319=>196 | 320=>197 | 337=>205 | 338=>206 | n=>n,fun | 9=>9 | 3=>3 | 75=>105 | 76=>106 | 4=>4 | 5=>5 | 167=>204 | 37=>100 | 0=>0 | 85=>205 | 2=>2 | 168=>207 | 53=>184 | 175=>211 | 46=>190 | 210=>214 | 127=>132 | 145=>221 | 143=>219 | 21=>21 | 171=>183 | 173=>187 | 212=>194 | 51=>195 | 20=>20 | 213=>196 | 232=>216 | 233=>217 | 80=>91 | n=>n,fun | 15=>4 | 16=>5 | 17=>1 | 18=>6 | 19=>7 | n=>n⟩
theorem Tryz.lays172:Go.Proofs.Lays.n172 Tryz.prog Tryz.lays172_ren:={
 mixed:=by kernel_rfl
 f129:=Tryz.func194.trans (congrArg some (by kernel_rfl))
 f171:=Tryz.func92.trans (congrArg some (by kernel_rfl))
 f172:=Tryz.func175.trans (congrArg some (by kernel_rfl))
 f205:=Tryz.func209.trans (congrArg some (by kernel_rfl))
 f243:=Tryz.func131.trans (congrArg some (by kernel_rfl))
 f244:=Tryz.func190.trans (congrArg some (by kernel_rfl))
 f245:=Tryz.func191.trans (congrArg some (by kernel_rfl))
 f246:=Tryz.func161.trans (congrArg some (by kernel_rfl))
 f247:=Tryz.func200.trans (congrArg some (by kernel_rfl))
 f279:=Tryz.func201.trans (congrArg some (by kernel_rfl))
 f280:=Tryz.func202.trans (congrArg some (by kernel_rfl))
 f281:=Tryz.func203.trans (congrArg some (by kernel_rfl))
 f282:=Tryz.func204.trans (congrArg some (by kernel_rfl))
 f283:=Tryz.func180.trans (congrArg some (by kernel_rfl))
 f284:=Tryz.func181.trans (congrArg some (by kernel_rfl))
 f285:=Tryz.func182.trans (congrArg some (by kernel_rfl))
 f286:=Tryz.func183.trans (congrArg some (by kernel_rfl))
 f287:=Tryz.func207.trans (congrArg some (by kernel_rfl))
 f316:=Tryz.func208.trans (congrArg some (by kernel_rfl))
 f317:=Tryz.func193.trans (congrArg some (by kernel_rfl))
 f318:=Tryz.func195.trans (congrArg some (by kernel_rfl))
 f319:=Tryz.func196.trans (congrArg some (by kernel_rfl))
 f320:=Tryz.func197.trans (congrArg some (by kernel_rfl))
 f321:=Tryz.func210.trans (congrArg some (by kernel_rfl))
 f322:=Tryz.func211.trans (congrArg some (by kernel_rfl))
 f337:=Tryz.func205.trans (congrArg some (by kernel_rfl))
 f338:=Tryz.func206.trans (congrArg some (by kernel_rfl))
 t0:=Tryz.underlying0
 a0:=Tryz.isAgg0
 z0:=Tryz.sizeOf0
 v0:=Tryz.zeroValue0
 t2:=Tryz.underlying2
 a2:=Tryz.isAgg2
 z2:=Tryz.sizeOf2
 v2:=Tryz.zeroValue2
 t3:=Tryz.underlying3
 a3:=Tryz.isAgg3
 z3:=Tryz.sizeOf3
 v3:=Tryz.zeroValue3
 t4:=Tryz.underlying4
 a4:=Tryz.isAgg4
 z4:=Tryz.sizeOf4
 v4:=Tryz.zeroValue4
 t5:=Tryz.underlying5
 a5:=Tryz.isAgg5
 z5:=Tryz.sizeOf5
 v5:=Tryz.zeroValue5
 t9:=Tryz.underlying9
 a9:=Tryz.isAgg9
 z9:=Tryz.sizeOf9
 v9:=Tryz.zeroValue9
 t20:=Tryz.underlying20
 a20:=Tryz.isAgg20
 z20:=Tryz.sizeOf20
 v20:=Tryz.zeroValue20
 t21:=Tryz.underlying21
 a21:=Tryz.isAgg21
 z21:=Tryz.sizeOf21
 v21:=Tryz.zeroValue21
 t37:=Tryz.underlying100
 a37:=Tryz.isAgg100
 z37:=Tryz.sizeOf100
 v37:=Tryz.zeroValue100
 t46:=Tryz.underlying190
 a46:=Tryz.isAgg190
 z46:=Tryz.sizeOf190
 v46:=Tryz.zeroValue190
 t51:=Tryz.underlying195
 a51:=Tryz.isAgg195
 z51:=Tryz.sizeOf195
 v51:=Tryz.zeroValue195
 t53:=Tryz.underlying184
 a53:=Tryz.isAgg184
 z53:=Tryz.sizeOf184
 v53:=Tryz.zeroValue184
 t75:=Tryz.underlying105
 a75:=Tryz.isAgg105
 z75:=Tryz.sizeOf105
 v75:=Tryz.zeroValue105
 t76:=Tryz.underlying106
 a76:=Tryz.isAgg106
 z76:=Tryz.sizeOf106
 v76:=Tryz.zeroValue106
 t85:=Tryz.underlying205
 a85:=Tryz.isAgg205
 z85:=Tryz.sizeOf205
 v85:=Tryz.zeroValue205
 t127:=Tryz.underlying132
 a127:=Tryz.isAgg132
 z127:=Tryz.sizeOf132
 v127:=Tryz.zeroValue132
 t143:=Tryz.underlying219
 a143:=Tryz.isAgg219
 z143:=Tryz.sizeOf219
 v143:=Tryz.zeroValue219
 t145:=Tryz.underlying221
 a145:=Tryz.isAgg221
 z145:=Tryz.sizeOf221
 v145:=Tryz.zeroValue221
 t167:=Tryz.underlying204
 a167:=Tryz.isAgg204
 z167:=Tryz.sizeOf204
 v167:=Tryz.zeroValue204
 t168:=Tryz.underlying207
 a168:=Tryz.isAgg207
 z168:=Tryz.sizeOf207
 v168:=Tryz.zeroValue207
 t171:=Tryz.underlying183
 a171:=Tryz.isAgg183
 z171:=Tryz.sizeOf183
 v171:=Tryz.zeroValue183
 t173:=Tryz.underlying187
 a173:=Tryz.isAgg187
 z173:=Tryz.sizeOf187
 v173:=Tryz.zeroValue187
 t175:=Tryz.underlying211
 a175:=Tryz.isAgg211
 z175:=Tryz.sizeOf211
 v175:=Tryz.zeroValue211
 t210:=Tryz.underlying214
 a210:=Tryz.isAgg214
 z210:=Tryz.sizeOf214
 v210:=Tryz.zeroValue214
 t212:=Tryz.underlying194
 a212:=Tryz.isAgg194
 z212:=Tryz.sizeOf194
 v212:=Tryz.zeroValue194
 t213:=Tryz.underlying196
 a213:=Tryz.isAgg196
 z213:=Tryz.sizeOf196
 t232:=Tryz.underlying216
 a232:=Tryz.isAgg216
 z232:=Tryz.sizeOf216
 v232:=Tryz.zeroValue216
 t233:=Tryz.underlying217
 a233:=Tryz.isAgg217
 z233:=Tryz.sizeOf217
 v233:=Tryz.zeroValue217
 g15:=by kernel_rfl
 g16:=by kernel_rfl
 g17:=by kernel_rfl
 g18:=by kernel_rfl
 g19:=by kernel_rfl }
open Go.RowKit in
theorem Tryz.strconv_Atoi (s:ByteArray) (n:Int) (hl:s.size≤18) (h:Lib.atoi s.data.toList=some n) (w:World) :
  Calls Tryz.prog 175 #[.string s] w fun e w'=>e = .returned (.tuple #[.int .i64 n,.nilIface]) ∧ ∃ t,w'=Lib.bytesWorld w 5 t:=Any.strconv_Atoi Tryz.lays172 s n hl h w
def Tryz.lays145_ren:Go.Shelf.Ren:=⟨fun | 145=>158 | 220=>178 | 219=>170 | 217=>148 | 225=>186 | 224=>185 | 267=>188 | 266=>177 | 314=>198 | n=>n,fun | 9=>9 | 4=>4 | 59=>164 | 3=>3 | 5=>5 | 46=>190 | 146=>202 | 51=>195 | n=>n,fun | 1=>0 | n=>n⟩
theorem Tryz.lays145:Go.Proofs.Lays.n145 Tryz.prog Tryz.lays145_ren:={
 mixed:=by kernel_rfl
 f145:=Tryz.func158.trans (congrArg some (by kernel_rfl))
 f217:=Tryz.func148.trans (congrArg some (by kernel_rfl))
 f219:=Tryz.func170.trans (congrArg some (by kernel_rfl))
 f220:=Tryz.func178.trans (congrArg some (by kernel_rfl))
 f224:=Tryz.func185.trans (congrArg some (by kernel_rfl))
 f225:=Tryz.func186.trans (congrArg some (by kernel_rfl))
 f266:=Tryz.func177.trans (congrArg some (by kernel_rfl))
 f267:=Tryz.func188.trans (congrArg some (by kernel_rfl))
 f314:=Tryz.func198.trans (congrArg some (by kernel_rfl))
 t3:=Tryz.underlying3
 a3:=Tryz.isAgg3
 z3:=Tryz.sizeOf3
 v3:=Tryz.zeroValue3
 t4:=Tryz.underlying4
 a4:=Tryz.isAgg4
 z4:=Tryz.sizeOf4
 v4:=Tryz.zeroValue4
 t5:=Tryz.underlying5
 a5:=Tryz.isAgg5
 z5:=Tryz.sizeOf5
 v5:=Tryz.zeroValue5
 t9:=Tryz.underlying9
 a9:=Tryz.isAgg9
 z9:=Tryz.sizeOf9
 v9:=Tryz.zeroValue9
 t46:=Tryz.underlying190
 a46:=Tryz.isAgg190
 z46:=Tryz.sizeOf190
 v46:=Tryz.zeroValue190
 t51:=Tryz.underlying195
 a51:=Tryz.isAgg195
 z51:=Tryz.sizeOf195
 v51:=Tryz.zeroValue195
 t59:=Tryz.underlying164
 a59:=Tryz.isAgg164
 z59:=Tryz.sizeOf164
 v59:=Tryz.zeroValue164
 t146:=Tryz.underlying202
 a146:=Tryz.isAgg202
 z146:=Tryz.sizeOf202
 v146:=Tryz.zeroValue202
 g1:=by kernel_rfl }
open Go.RowKit Go.Lib in
theorem Tryz.strings_Cut (s sep:ByteArray) (m:Int) (w:World) (hs:s.size<4294967281) (hm:w.cell? ⟨0,0,none⟩=some (.int .i64 m)) :
  Calls Tryz.prog 158 #[.string s,.string sep] w fun e w'=>e = .returned (.tuple #[.string ⟨(Lib.cut s.data.toList sep.data.toList).1.toArray⟩,.string ⟨(Lib.cut s.data.toList sep.data.toList).2.1.toArray⟩,.bool (Lib.cut s.data.toList sep.data.toList).2.2]) ∧ ∃ n,w'=w.drewN n:=Any.strings_Cut Tryz.lays145 s sep m w hs hm
def Tryz.lays146_ren:Go.Shelf.Ren:=⟨fun | 146=>75 | 221=>105 | 268=>137 | 138=>138 | 143=>139 | 195=>167 | 197=>168 | 218=>169 | 219=>170 | 260=>187 | 217=>148 | 225=>186 | 224=>185 | 267=>188 | 266=>177 | 314=>198 | n=>n,fun | 9=>9 | 31=>65 | 3=>3 | 4=>4 | 0=>0 | 105=>173 | 21=>21 | 5=>5 | 46=>190 | 119=>198 | 139=>201 | 138=>200 | 146=>202 | 51=>195 | n=>n,fun | 1=>0 | 3=>2 | 4=>3 | n=>n⟩
theorem Tryz.lays146:Go.Proofs.Lays.n146 Tryz.prog Tryz.lays146_ren:={
 mixed:=by kernel_rfl
 f138:=Tryz.func138.trans (congrArg some (by kernel_rfl))
 f143:=Tryz.func139.trans (congrArg some (by kernel_rfl))
 f146:=Tryz.func75.trans (congrArg some (by kernel_rfl))
 f195:=Tryz.func167.trans (congrArg some (by kernel_rfl))
 f197:=Tryz.func168.trans (congrArg some (by kernel_rfl))
 f217:=Tryz.func148.trans (congrArg some (by kernel_rfl))
 f218:=Tryz.func169.trans (congrArg some (by kernel_rfl))
 f219:=Tryz.func170.trans (congrArg some (by kernel_rfl))
 f221:=Tryz.func105.trans (congrArg some (by kernel_rfl))
 f224:=Tryz.func185.trans (congrArg some (by kernel_rfl))
 f225:=Tryz.func186.trans (congrArg some (by kernel_rfl))
 f260:=Tryz.func187.trans (congrArg some (by kernel_rfl))
 f266:=Tryz.func177.trans (congrArg some (by kernel_rfl))
 f267:=Tryz.func188.trans (congrArg some (by kernel_rfl))
 f268:=Tryz.func137.trans (congrArg some (by kernel_rfl))
 f314:=Tryz.func198.trans (congrArg some (by kernel_rfl))
 t0:=Tryz.underlying0
 a0:=Tryz.isAgg0
 z0:=Tryz.sizeOf0
 v0:=Tryz.zeroValue0
 t3:=Tryz.underlying3
 a3:=Tryz.isAgg3
 z3:=Tryz.sizeOf3
 v3:=Tryz.zeroValue3
 t4:=Tryz.underlying4
 a4:=Tryz.isAgg4
 z4:=Tryz.sizeOf4
 v4:=Tryz.zeroValue4
 t5:=Tryz.underlying5
 a5:=Tryz.isAgg5
 z5:=Tryz.sizeOf5
 v5:=Tryz.zeroValue5
 t9:=Tryz.underlying9
 a9:=Tryz.isAgg9
 z9:=Tryz.sizeOf9
 v9:=Tryz.zeroValue9
 t21:=Tryz.underlying21
 a21:=Tryz.isAgg21
 z21:=Tryz.sizeOf21
 v21:=Tryz.zeroValue21
 t31:=Tryz.underlying65
 a31:=Tryz.isAgg65
 z31:=Tryz.sizeOf65
 v31:=Tryz.zeroValue65
 t46:=Tryz.underlying190
 a46:=Tryz.isAgg190
 z46:=Tryz.sizeOf190
 v46:=Tryz.zeroValue190
 t51:=Tryz.underlying195
 a51:=Tryz.isAgg195
 z51:=Tryz.sizeOf195
 v51:=Tryz.zeroValue195
 t105:=Tryz.underlying173
 a105:=Tryz.isAgg173
 z105:=Tryz.sizeOf173
 v105:=Tryz.zeroValue173
 t119:=Tryz.underlying198
 a119:=Tryz.isAgg198
 z119:=Tryz.sizeOf198
 t138:=Tryz.underlying200
 a138:=Tryz.isAgg200
 z138:=Tryz.sizeOf200
 v138:=Tryz.zeroValue200
 t139:=Tryz.underlying201
 a139:=Tryz.isAgg201
 z139:=Tryz.sizeOf201
 v139:=Tryz.zeroValue201
 t146:=Tryz.underlying202
 a146:=Tryz.isAgg202
 z146:=Tryz.sizeOf202
 v146:=Tryz.zeroValue202
 g1:=by kernel_rfl
 g3:=by kernel_rfl
 g4:=by kernel_rfl }
open Go.RowKit Go.Lib in
theorem Tryz.strings_Split (s sep:ByteArray) (m:Int) (w:World) (hs:s.size<4294967281) (hm:w.cell? ⟨0,0,none⟩=some (.int .i64 m)) (h1:1≤sep.size) :
  Calls Tryz.prog 75 #[.string s,.string sep] w fun e w' =>
   e = .returned (.slice (some ⟨w.heap.size,0,none⟩) (Lib.countB s sep+1) (Lib.countB s sep+1))∧w'=w.alloc (.cells ((Lib.splitB sep 0 (Lib.countB s sep) s).map Value.string).toArray 9):=Any.strings_Split Tryz.lays146 (by kernel_rfl) s sep m w hs hm h1
end Go.Proofs
end
section
namespace Go.Proofs.YtgjchdhdopgkkaaGreatDoor
open Go.Ab Go.RowKit
attribute [local simp] str_lt
section
theorem LineC_Split_46 {τ:Operand→AV}{y0 y1 y2:Operand}{x0_0 x1_0 x2_0:AV}(h0:cellsV (τ y0)=some [x0_0]) (l0:[x0_0].all leaf=true) (h1:cellsV (τ y1)=some [x1_0]) (l1:[x1_0].all leaf=true) (h2:cellsV (τ y2)=some [x2_0]) (l2:[x2_0].all leaf=true):fillAV τ [(0,1,y0),(1,1,y1),(2,1,y2)] [(.v (.int .i64 0)),(.v (.bool false)),(.sl 0 0 true [])]=some [x0_0,x1_0,x2_0]:=by
 simp only [fillAV,h0,l0,h1,l1,h2,l2]
 rfl
theorem LineC_Split_47 {τ:Operand→AV}{y0:Operand}{x0_0 x0_1 x0_2:AV}(h0:cellsV (τ y0)=some [x0_0,x0_1,x0_2]) (l0:[x0_0,x0_1,x0_2].all leaf=true):fillAV τ [(0,3,y0)] [(.v (.int .i64 0)),(.v (.bool false)),(.sl 0 0 true [])]=some [x0_0,x0_1,x0_2]:=by
 simp only [fillAV,h0,l0]
 rfl
theorem LineC_tk_3 {a0 a1 a2:AV}{l:List AV}:(a0::a1::a2::l).take 3=[a0,a1,a2]:=rfl
end
def c39:AC:=(.seq (.reg [Oo 2 (.mv (.const (.slice none 0 0))),Oo 3 (.mv (Ci 0)),Oo 4 (.mv (Ci 0))]) (.seq (.seq (.reg [Mv 10 0,Oo 11 (.len true (.tmp 10)),Oo 12 (.bin .gtr (.tmp 11) (Ci 8000))]) (.cond (.tmp 12) (.seq (.reg [Oo 2 (.mv (.const (.slice none 0 0))),Oo 3 (.mv (Ci 0)),Oo 4 (.mv (Ci 2))]) .ret) .skip)) (.seq (.reg [Oo 5 (.mv (.const (.slice none 0 0)))]) (.seq (.seq (.reg [Mv 13 0,Oo 14 (.call (.func 75) [(.tmp 13),(.const (.string ⟨#[10]⟩))]),Oo 15 (.len false (.tmp 14)),Oo 16 (.mv (Ci 0))]) (.block 0 (.loop (.seq (.reg [Oo 17 (.bin .lss (.tmp 16) (.tmp 15))]) (.seq (.cond (.tmp 17) .skip (.exit 0)) (.seq (.block 1 (.seq (.reg [Mv 18 16,Oo 19 (.ia 1 (.tmp 14) (.tmp 16)),Ld 20 19,Mv 6 18,Mv 7 20]) (.seq (.reg [Mv 22 7,Oo 23 (.call (.func 76) [(.tmp 22)]),Mv 21 23,Ex 24 21 0,Ex 25 21 1,Mv 8 24,Mv 9 25]) (.seq (.seq (.reg [Mv 26 9,Oo 27 (.bin .neq (.tmp 26) (Ci 0))]) (.cond (.tmp 27) (.seq (.reg [Mv 28 6,Oo 29 (.bin .add (.tmp 28) (Ci 1)),Mv 30 9,Oo 2 (.mv (.const (.slice none 0 0))),Mv 3 29,Mv 4 30]) .ret) .skip)) (.seq (.reg [Mv 31 8,Oo 32 (.len false (.tmp 31)),Oo 33 (.bin .gtr (.tmp 32) (Ci 0))]) (.cond (.tmp 33) (.reg [Mv 34 5,Mv 35 6,Oo 36 (.bin .add (.tmp 35) (Ci 1)),Mv 37 7,Oo 38 (.ix (.tmp 37) (Ci 0)),Oo 39 (.call (.func 77) [(.tmp 38)]),Mv 40 8,Oo 41 (.build [(iv 0),(.v (.bool false)),(.sl 0 0 true [])] [(0,(1,(.tmp 36))),(1,(1,(.tmp 39))),(2,(1,(.tmp 40)))]),Oo 42 (.lit 67 3 1 [(iv 0),(.v (.bool false)),(.sl 0 0 true [])] [(0,(3,(.tmp 41)))]),Oo 43 (.app 67 3 40 (.tmp 34) (.tmp 42)),Mv 5 43]) .skip)))))) (.reg [Oo 44 (.bin .add (.tmp 16) (Ci 1)),Mv 16 44]))))))) (.seq (.seq (.reg [Mv 45 5,Oo 46 (.len false (.tmp 45)),Oo 47 (.bin .gtr (.tmp 46) (Ci 200))]) (.cond (.tmp 47) (.seq (.reg [Oo 2 (.mv (.const (.slice none 0 0))),Oo 3 (.mv (Ci 0)),Oo 4 (.mv (Ci 2))]) .ret) .skip)) (.seq (.reg [Mv 48 5,Mv 2 48,Oo 3 (.mv (Ci 0)),Oo 4 (.mv (Ci 0))]) .ret))))))
theorem k39:compF Tryz.prog 39=some ⟨c39,[(.tmp 2),(.tmp 3),(.tmp 4)],49⟩:=by kernel_rfl
theorem repL_str {w:World}{g:Gh}{l:List ByteArray}{vs:List Value}:RepL w g (rows strC l) vs↔vs=l.map Value.string:=repL_v Value.string
theorem cutC_mem (x:UInt8) : ∀ {l y:Bs},y∈cutC x l→y.length≤l.length
 | [],y,h=>by simp [cutC] at h;subst h;exact Nat.le_refl _
 | c::l,y,h=>by
  unfold cutC at h
  split at h
  ·rcases List.mem_cons.1 h with rfl | h
   ·simp
   have:=cutC_mem x h;simp;omega
  split at h
  ·rename_i he;exact absurd he (cutC_ne x l)
  rename_i z zs he
  rcases List.mem_cons.1 h with rfl | h
  ·have:=cutC_mem x (l:=l) (y:=z) (by rw [he];simp);simp;omega
  have:=cutC_mem x (l:=l) (y:=y) (by rw [he];simp [h]);simp;omega
theorem cutC_len (x:UInt8) : ∀ l:Bs,(cutC x l).length≤l.length+1
 | []=>by simp [cutC]
 | c::l=>by
  have:=cutC_len x l
  unfold cutC
  split
  ·simp;omega
  split
  ·simp
  rename_i he;rw [he] at this;simp at this ⊢;omega
theorem strsplit_a {s:ByteArray}{x:UInt8}{h:AH}(hz:s.size≤8000):ACalls Tryz.prog 75 [sv s,sv (bA [x])] h fun r h'=>h'=h∧r = .ret (.sl (cutC x (aB s)).length 1 false (rows strC ((cutC x (aB s)).map bA))):=by
 have hcl:=cutC_len x (aB s)
 rw [aB_len] at hcl
 refine ACalls.of_newrow (by kernel_rfl) (by rw [str_len,List.length_map]) (fun w g w' g' us h=>repL_str.2 (repL_str.1 h)) fun w g vs hs ha=>?_
 simp only [RepL,Rep] at ha
 obtain ⟨u1,us1,e1,rfl,u2,us2,rfl,rfl,rfl⟩:=ha
 obtain rfl:vs = #[.string s,.string (bA [x])]:=by cases vs;simp_all
 obtain ⟨m,hm⟩:=hs.glob.w.maxLen
 refine (Tryz.strings_Split s (bA [x]) m w (by omega) hm (Nat.le_refl _)).mono ?_
 rintro e w' ⟨rfl,rfl⟩
 have hcb:=countB_one x s
 refine ⟨w.heap.size,_,_,_,_,by rw [hcb],Nat.le_refl _,by unfold maxLen;omega,Nat.le_refl _,heap_alloc_new w _,(Below.refl _ w).alloc (Nat.le_refl _) _,?_⟩
 rw [str_len,List.length_map,splitB_one,Nat.mul_one,←hcb]
 refine repL_str.2 ?_
 rw [List.take_of_length_le]
 rw [List.length_map,List.length_map,hcb];exact Nat.le_refl _
abbrev Ln:=Int×Bool×List ByteArray
abbrev lnC (x:Ln):List AV:=[iv x.1,bv x.2.1,.sl x.2.2.length 1 false (rows strC x.2.2)]
theorem ln_lt {n:Nat}(l:List Ln):AV.ltL n (rows lnC l)=true:=rows_lt (fun n x=>by simp [AV.ltL,AV.lt,str_lt]) l
attribute [local simp] ln_lt
theorem ln_len1 : ∀ x,(lnC x).length=3:=fun _=>rfl
theorem ln_len (l:List Ln):(rows lnC l).length=l.length*3:=rows_len ln_len1 l
def linesL:Int→List Bs→List Ln→List Ln×Int×Int
 | _,[],acc=>(acc,0,0)
 | n,x::xs,acc=>if (lineL x).2≠0 then ([],n,(lineL x).2) else linesL (n+1) xs (if (lineL x).1=[] then acc else acc++[(n,blkN (headN x),(lineL x).1)])
def splitL (s:ByteArray):List Ln×Int×Int :=
 if 8000<s.size then ([],0,2) else
  if (linesL 1 (cutC 10 (aB s)) []).2.2≠0 then linesL 1 (cutC 10 (aB s)) [] else if 200<(linesL 1 (cutC 10 (aB s)) []).1.length then ([],0,2) else linesL 1 (cutC 10 (aB s)) []
theorem lineL_ne {x:Bs}(h:(lineL x).1≠[]):0<x.length:=by
 cases x with
 | nil=>exact absurd rfl h
 | cons c l=>simp
set_option maxHeartbeats 1000000 in
theorem lnSplit_a {s:ByteArray}{h:AH}:ACalls Tryz.prog 39 [sv s] h fun x h'=>h'=h∧x = .ret (.tup [.sl (splitL s).1.length 3 false (rows lnC (splitL s).1),iv (splitL s).2.1,iv (splitL s).2.2]):=by
 refine tW' k39 fun N hn hlt hlA hbd=>?_
 simp only [tA',AV.bdL,AV.bd,and_true,true_and] at hbd ⊢
 refine wr'<|mv' lkn pt2<|mv' lki pt3<|mv' lki pt4<|sn'<|w_seq<|wr'<|mv' lk0 pt10<|V' (v_lenS lk10) pt11<|V' (v_gtr lk11 lki) pt12<|s_nil<|?_
 refine n_seq ?_
 refine cd' lk12 (fun hc1=>?_) (fun hc1=>?_)
 ·have hS:splitL s=([],0,2):=if_pos (by omega)
  refine wr'<|mv' lkn pt2<|mv' lki pt3<|mv' lki pt4<|sn'<|w_rets<|r_thn<|w_ret (rsn (rm1 (rr_t gt2) (rm1 (rr_t gt3) (rm1 (rr_t gt4) rm0))))<|rtW'<|?_
  rw [hS];exact Wk.tup (wkw Wk.nilF (wk1 rfl (wk1 rfl wk0)))
 have hz:s.size≤8000:=by omega
 have hcl:=cutC_len 10 (aB s)
 rw [aB_len] at hcl
 obtain ⟨L,hL⟩ : ∃ L,L=cutC 10 (aB s):=⟨_,rfl⟩
 have hS:splitL s=if (linesL 1 L []).2.2≠0 then linesL 1 L [] else if 200<(linesL 1 L []).1.length then ([],0,2) else linesL 1 L []:=by rw [hL];exact if_neg (by omega)
 have hmem : ∀ y∈L,y.length≤8000:=fun y hy=>Nat.le_trans (cutC_mem 10 (hL ▸ hy)) hz
 rw [←hL] at hcl
 refine w_skip<|n_seq<|wr'<|mv' lkn pt5<|s_nil<|n_seqw (ALe.own0' (st':=3) (ty:=67) gt5 (hl0 hn) pt5 ha0)<|w_seq<|wr'<|mv' lk0 pt13<|s_callp (mp1 lk13 (mp1 lks mp0)) (strsplit_a (x:=10) hz) pt14<|?_
 rw [←hL]
 refine V' (v_lenL lk14) pt15<|mv' lki pt16<|sn'<|w_block<|?_
 refine w_lp (ι:=Nat×List Ln×Nat) (fun (x_:Nat×List Ln×Nat)=>match x_ with | ⟨k,acc,v⟩=>[(5,.own (N+0) v acc.length),(16,iv (k:Int))]++rn' 2 3++rn' 6 4++rn' 17 28) (fun (x_:Nat×List Ln×Nat)=>match x_ with | ⟨k,acc,v⟩=>[(0,.mk v 67 3 (rows lnC acc))]) (fun (x_:Nat×List Ln×Nat)=>match x_ with | ⟨k,acc,v⟩=>k≤L.length∧acc.length≤k∧linesL 1 L []=linesL ((k:Int)+1) (L.drop k) acc) (fun (x_:Nat×List Ln×Nat)=>match x_ with | ⟨k,acc,v⟩=>L.length-k) (⟨0,[],0⟩) (by exact ⟨Nat.zero_le _,Nat.le_refl _,rfl⟩) ?_
 rintro ⟨k,acc,v⟩ hi1
 try simp only [setsT,setsE,z',s',rn',la',ln',Nat.reduceAdd]
 obtain ⟨hk1,hk2,hk3⟩:=hi1
 refine wr'<|V' (v_lss lk16 lk15) pt17<|sn'<|w_seq<|?_
 refine cd' lk17 (fun hc2=>?_) (fun hc2=>?_)
 ·have hk:k<L.length:=by omega
  have hsz:=hmem _ (List.getElem_mem hk)
  rw [List.drop_eq_getElem_cons hk,linesL] at hk3
  have hgm:(L.map bA)[k]'(by simpa using hk)=bA L[k]:=List.getElem_map _
  refine w_skip<|n_seq<|w_seq<|w_block<|wr'<|mv' lk16 pt18<|?_
  refine V' (v_iaR (l:=L.map bA) (k:=k) lk14 lk16 str_len1 (nb' rfl) (by first | rfl | omega) (by simpa using hk) (by simp) rfl) pt19 ?_
  refine V' (v_loadr lk19 gt0) pt20 ?_
  rw [hgm]
  refine mv' lk18 pt6<|mv' lk20 pt7<|sn'<|wr'<|mv' lk7 pt22<|s_callp (mp1 lk22 mp0) (lnsplit_a (s:=bA L[k]) hsz) pt23<|mv' lk23 pt21<|?_
  rw [aB_bA]
  refine V' (v_ext lk21 gt0) pt24<|V' (v_ext lk21 gt1) pt25<|mv' lk24 pt8<|mv' lk25 pt9<|sn'<|w_seq<|wr'<|mv' lk9 pt26<|V' (v_neq lk26 lki) pt27<|sn'<|?_
  refine cd' lk27 (fun hc3=>?_) (fun hc3=>?_)
  ·have hc3':(lineL L[k]).2≠0:=hc3
   rw [if_pos hc3'] at hk3
   rw [hk3,if_pos hc3'] at hS
   refine wr'<|mv' lk6 pt28<|?_
   refine V' (v_add lk28 lki (by omega) (by omega)) pt29 ?_
   refine mv' lk9 pt30<|mv' lkn pt2<|mv' lk29 pt3<|mv' lk30 pt4<|sn'<|w_rets<|r_thn<|r_blk<|r_thn<|r_thn<|r_blk<|r_thn<|w_ret (rsn (rm1 (rr_t gt2) (rm1 (rr_t gt3) (rm1 (rr_t gt4) rm0))))<|?_
   refine rtW' ?_
   rw [hS];exact Wk.tup (wkw Wk.nilF (wk1 rfl (wk1 rfl wk0)))
  rw [if_neg hc3] at hk3
  refine w_skip<|n_seq<|wr'<|mv' lk8 pt31<|V' (v_lenL lk31) pt32<|V' (v_gtr lk32 lki) pt33<|sn'<|?_
  refine cd' lk33 (fun hc4=>?_) (fun hc4=>?_)
  ·have hne:(lineL L[k]).1≠[]:=fun e=>by rw [e] at hc4;simp at hc4
   have hp:=lineL_ne hne
   rw [if_neg hne] at hk3
   refine w_reg<|mv' lk5 pt34<|mv' lk6 pt35<|?_
   refine V' (v_add lk35 lki (by omega) (by omega)) pt36 ?_
   refine mv' lk7 pt37 ?_
   refine V' (v_ix lk37 lki (by first | omega | (rw [bA_size];omega)) (by first | omega | (rw [bA_size];omega))) pt38 ?_
   refine s_callp (mp1 lk38 mp0) (lnblank_a) pt39<|mv' lk8 pt40<|V' (v_build (LineC_Split_46 (cvl lk36 rfl) rfl (cvl lk39 rfl) rfl (cvl lk40 rfl) rfl)) pt41<|E' (e_lit (LineC_Split_47 (cvl lk41 rfl) rfl) (hl1 hn) ha1) pt42<|?_
   refine E' (e_app (sc_own lk42 (hga hn rfl) rfl LineC_tk_3 (nb' rfl)) lk34 (hga hn rfl) (ln_len _) (by omega) rfl (hs0 hn)) pt43 ?_
   refine mv' lk43 pt5<|s_nil<|n_blk<|n_seq<|w_reg<|?_
   refine V' (v_add lk16 lki (by omega) (by omega)) pt44 ?_
   refine mv' lk44 pt16<|s_nil<|n_thn<|?_
   refine lU' (⟨k+1,acc++[((k:Int)+1,blkN (headN L[k]),(lineL L[k]).1)],v+1⟩) (by (try dsimp only);exact ⟨by omega,by simp;omega,by rw [hk3];congr 1⟩) (by (try dsimp only);(try simp only [setsT,setsE,z',s',rn',la',ln',Nat.reduceAdd]);exact bkE' 1 hn hlt (by repeat (first | exact wk0 | refine wka ?_ | refine wk1 rfl ?_ | refine wk1 (by first | rfl | exact ivx (by omega) | (simp;done)) ?_)) (by simp only [rows_app,rows_one,lnC];rw [show headN L[k]=((byteAt (bA L[k]) 0).toNat:Int) from headN_at (s:=bA L[k]) (k:=0) hp];rfl))
  have hne:(lineL L[k]).1=[]:=List.eq_nil_of_length_eq_zero (by omega)
  rw [if_pos hne] at hk3
  refine w_skip<|n_blk<|n_seq<|w_reg<|?_
  refine V' (v_add lk16 lki (by omega) (by omega)) pt44 ?_
  refine mv' lk44 pt16<|s_nil<|n_thn<|?_
  refine lU' (⟨k+1,acc,v⟩) (by (try dsimp only);exact ⟨by omega,by omega,by rw [hk3];congr 1⟩) (by (try dsimp only);(try simp only [setsT,setsE,z',s',rn',la',ln',Nat.reduceAdd]);exact ALe.same (by repeat (first | exact wk0 | refine wka ?_ | refine wk1 rfl ?_ | refine wk1 (by first | rfl | exact ivx (by omega) | (simp;done)) ?_)) rfl)
 have hkl:k=L.length:=by omega
 rw [List.drop_of_length_le (by omega),linesL] at hk3
 rw [hk3,if_neg (by simp)] at hS
 refine w_exit<|x_thn<|x_thn<|x_blk<|n_seq<|w_seq<|wr'<|mv' lk5 pt45<|V' (v_lenO lk45) pt46<|V' (v_gtr lk46 lki) pt47<|sn'<|?_
 refine cd' lk47 (fun hc5=>?_) (fun hc5=>?_)
 ·rw [if_pos (show 200<acc.length by omega)] at hS
  refine wr'<|mv' lkn pt2<|mv' lki pt3<|mv' lki pt4<|sn'<|w_rets<|r_thn<|w_ret (rsn (rm1 (rr_t gt2) (rm1 (rr_t gt3) (rm1 (rr_t gt4) rm0))))<|rtW'<|?_
  rw [hS];exact Wk.tup (wkw Wk.nilF (wk1 rfl (wk1 rfl wk0)))
 rw [if_neg (show ¬200<acc.length by omega)] at hS
 refine w_skip<|n_seq<|wr'<|mv' lk5 pt48<|mv' lk48 pt2<|mv' lki pt3<|mv' lki pt4<|s_nil<|?_
 refine n_seqw (ALe.iceR (hga hn rfl) gt2 (List.take_of_length_le (by rw [ln_len];exact Nat.le_refl _)) (by rw [ln_len];exact Nat.le_refl _) pt2 (hs0 hn)) ?_
 refine w_rets<|w_ret (rsn (rm1 (rr_t gt2) (rm1 (rr_t gt3) (rm1 (rr_t gt4) rm0))))<|rtW'<|?_
 rw [hS];exact Wk.refl _
end Go.Proofs.YtgjchdhdopgkkaaGreatDoor
end
section
namespace Go.Proofs.YtgjchdhdopgkkaaGreatDoor
open Go.Ab
attribute [local simp] str_lt
section
theorem LineR_FieldsOf_138 {τ:Operand→AV}{y0:Operand}{x0_0:AV}(h0:cellsV (τ y0)=some [x0_0]) (l0:[x0_0].all leaf=true):fillAV τ [(0,1,y0)] [(.v (.string ⟨#[]⟩))]=some [x0_0]:=by
 simp only [fillAV,h0,l0]
 rfl
theorem LineR_tk_1 {a0:AV}{l:List AV}:(a0::l).take 1=[a0]:=rfl
end
def c68:AC:=(.seq (.reg [Oo 6 (.mv (.const (.bool false)))]) (.seq (.reg [Mv 7 0,Mv 8 1,Oo 9 (.bin .geq (.tmp 7) (.tmp 8)),Mv 10 9,Ot 11 10 (.mv (.tmp 0)),Ot 12 10 (.mv (.tmp 2)),Ot 13 10 (.bin .leq (.tmp 11) (.tmp 12)),Oo 14 (.pick (.tmp 10) (.tmp 13) (.const (.bool false))),Mv 6 14]) .ret))
theorem k68:compF Tryz.prog 68=some ⟨c68,[(.tmp 6)],15⟩:=by kernel_rfl
def c28:AC:=(.seq (.reg [Oo 2 (.mv (.const (.bool false)))]) (.seq (.reg [Mv 3 0,Oo 4 (.bin .eql (.tmp 3) (.const (.int .u8 32))),Mv 5 4,Of 6 5 (.mv (.tmp 0)),Of 7 5 (.bin .eql (.tmp 6) (.const (.int .u8 9))),Oo 8 (.pick (.tmp 5) (.const (.bool true)) (.tmp 7)),Mv 2 8]) .ret))
theorem k28:compF Tryz.prog 28=some ⟨c28,[(.tmp 2)],9⟩:=by kernel_rfl
def c27:AC:=(.seq (.reg [Oo 2 (.mv (.const (.bool false)))]) (.seq (.reg [Mv 3 0,Oo 4 (.cvi .i64 (.tmp 3)),Oo 5 (.call (.func 68) [(.tmp 4),(Ci 32),(Ci 126)]),Mv 6 5,Of 7 6 (.mv (.tmp 0)),Of 8 6 (.bin .eql (.tmp 7) (.const (.int .u8 9))),Oo 9 (.pick (.tmp 6) (.const (.bool true)) (.tmp 8)),Mv 2 9]) .ret))
theorem k27:compF Tryz.prog 27=some ⟨c27,[(.tmp 2)],10⟩:=by kernel_rfl
def c86:AC:=(.seq (.reg [Oo 2 (.mv (.const (.slice none 0 0))),Oo 3 (.mv (Ci 0))]) (.seq (.reg [Oo 4 (.mv (.const (.slice none 0 0)))]) (.seq (.reg [Oo 5 (.mv (Ci 0))]) (.block 0 (.loop (.block 1 (.seq (.block 2 (.loop (.seq (.seq (.reg [Mv 7 5,Mv 8 0,Oo 9 (.len true (.tmp 8)),Oo 10 (.bin .lss (.tmp 7) (.tmp 9)),Mv 11 10,Ot 12 11 (.mv (.tmp 0)),Ot 13 11 (.mv (.tmp 5)),Ot 14 11 (.ix (.tmp 12) (.tmp 13)),Ot 15 11 (.call (.func 28) [(.tmp 14)]),Oo 16 (.pick (.tmp 11) (.tmp 15) (.const (.bool false)))]) (.cond (.tmp 16) .skip (.exit 2))) (.block 3 (.reg [Mv 17 5,Oo 18 (.bin .add (.tmp 17) (Ci 1)),Mv 5 18]))))) (.seq (.seq (.reg [Mv 19 5,Mv 20 0,Oo 21 (.len true (.tmp 20)),Oo 22 (.bin .eql (.tmp 19) (.tmp 21)),Mv 23 22,Of 24 23 (.mv (.tmp 0)),Of 25 23 (.mv (.tmp 5)),Of 26 23 (.ix (.tmp 24) (.tmp 25)),Of 27 23 (.bin .eql (.tmp 26) (.const (.int .u8 35))),Oo 28 (.pick (.tmp 23) (.const (.bool true)) (.tmp 27))]) (.cond (.tmp 28) (.seq (.reg [Mv 29 4,Mv 2 29,Oo 3 (.mv (Ci 0))]) .ret) .skip)) (.seq (.reg [Oo 6 (.mv (.const (.string ⟨#[]⟩)))]) (.seq (.seq (.reg [Mv 30 0,Mv 31 5,Oo 32 (.ix (.tmp 30) (.tmp 31)),Oo 33 (.bin .eql (.tmp 32) (.const (.int .u8 34)))]) (.cond (.tmp 33) (.seq (.reg [Mv 34 5,Oo 35 (.bin .add (.tmp 34) (Ci 1)),Mv 5 35]) (.seq (.block 4 (.loop (.seq (.seq (.reg [Mv 36 5,Mv 37 0,Oo 38 (.len true (.tmp 37)),Oo 39 (.bin .lss (.tmp 36) (.tmp 38)),Mv 40 39,Ot 41 40 (.mv (.tmp 0)),Ot 42 40 (.mv (.tmp 5)),Ot 43 40 (.ix (.tmp 41) (.tmp 42)),Ot 44 40 (.bin .neq (.tmp 43) (.const (.int .u8 34))),Oo 45 (.pick (.tmp 40) (.tmp 44) (.const (.bool false)))]) (.cond (.tmp 45) .skip (.exit 4))) (.block 5 (.seq (.seq (.reg [Mv 46 0,Mv 47 5,Oo 48 (.ix (.tmp 46) (.tmp 47)),Oo 49 (.call (.func 27) [(.tmp 48)]),Oo 50 (.un .not (.tmp 49))]) (.cond (.tmp 50) (.seq (.reg [Oo 2 (.mv (.const (.slice none 0 0))),Oo 3 (.mv (Ci 1))]) .ret) .skip)) (.seq (.reg [Mv 51 6,Mv 52 0,Mv 53 5,Mv 54 5,Oo 55 (.bin .add (.tmp 54) (Ci 1)),Oo 56 (.sls (.tmp 52) (some (.tmp 53)) (some (.tmp 55))),Oo 57 (.bin .add (.tmp 51) (.tmp 56)),Mv 6 57]) (.reg [Mv 58 5,Oo 59 (.bin .add (.tmp 58) (Ci 1)),Mv 5 59]))))))) (.seq (.seq (.reg [Mv 60 5,Mv 61 0,Oo 62 (.len true (.tmp 61)),Oo 63 (.bin .eql (.tmp 60) (.tmp 62))]) (.cond (.tmp 63) (.seq (.reg [Oo 2 (.mv (.const (.slice none 0 0))),Oo 3 (.mv (Ci 1))]) .ret) .skip)) (.seq (.reg [Mv 64 5,Oo 65 (.bin .add (.tmp 64) (Ci 1)),Mv 5 65]) (.seq (.reg [Mv 66 5,Mv 67 0,Oo 68 (.len true (.tmp 67)),Oo 69 (.bin .lss (.tmp 66) (.tmp 68)),Mv 70 69,Ot 71 70 (.mv (.tmp 0)),Ot 72 70 (.mv (.tmp 5)),Ot 73 70 (.ix (.tmp 71) (.tmp 72)),Ot 74 70 (.call (.func 28) [(.tmp 73)]),Ot 75 70 (.un .not (.tmp 74)),Oo 76 (.pick (.tmp 70) (.tmp 75) (.const (.bool false))),Mv 77 76,Ot 78 77 (.mv (.tmp 0)),Ot 79 77 (.mv (.tmp 5)),Ot 80 77 (.ix (.tmp 78) (.tmp 79)),Ot 81 77 (.bin .neq (.tmp 80) (.const (.int .u8 35))),Oo 82 (.pick (.tmp 77) (.tmp 81) (.const (.bool false)))]) (.cond (.tmp 82) (.seq (.reg [Oo 2 (.mv (.const (.slice none 0 0))),Oo 3 (.mv (Ci 1))]) .ret) .skip)))))) (.block 6 (.loop (.seq (.seq (.reg [Mv 83 5,Mv 84 0,Oo 85 (.len true (.tmp 84)),Oo 86 (.bin .lss (.tmp 83) (.tmp 85)),Mv 87 86,Ot 88 87 (.mv (.tmp 0)),Ot 89 87 (.mv (.tmp 5)),Ot 90 87 (.ix (.tmp 88) (.tmp 89)),Ot 91 87 (.call (.func 28) [(.tmp 90)]),Ot 92 87 (.un .not (.tmp 91)),Oo 93 (.pick (.tmp 87) (.tmp 92) (.const (.bool false))),Mv 94 93,Ot 95 94 (.mv (.tmp 0)),Ot 96 94 (.mv (.tmp 5)),Ot 97 94 (.ix (.tmp 95) (.tmp 96)),Ot 98 94 (.bin .neq (.tmp 97) (.const (.int .u8 35))),Oo 99 (.pick (.tmp 94) (.tmp 98) (.const (.bool false)))]) (.cond (.tmp 99) .skip (.exit 6))) (.block 7 (.seq (.seq (.reg [Mv 100 0,Mv 101 5,Oo 102 (.ix (.tmp 100) (.tmp 101)),Oo 103 (.call (.func 27) [(.tmp 102)]),Oo 104 (.un .not (.tmp 103)),Mv 105 104,Of 106 105 (.mv (.tmp 0)),Of 107 105 (.mv (.tmp 5)),Of 108 105 (.ix (.tmp 106) (.tmp 107)),Of 109 105 (.bin .eql (.tmp 108) (.const (.int .u8 34))),Oo 110 (.pick (.tmp 105) (.const (.bool true)) (.tmp 109))]) (.cond (.tmp 110) (.seq (.reg [Oo 2 (.mv (.const (.slice none 0 0))),Oo 3 (.mv (Ci 1))]) .ret) .skip)) (.seq (.reg [Mv 111 6,Mv 112 0,Mv 113 5,Mv 114 5,Oo 115 (.bin .add (.tmp 114) (Ci 1)),Oo 116 (.sls (.tmp 112) (some (.tmp 113)) (some (.tmp 115))),Oo 117 (.bin .add (.tmp 111) (.tmp 116)),Mv 6 117]) (.reg [Mv 118 5,Oo 119 (.bin .add (.tmp 118) (Ci 1)),Mv 5 119]))))))))) (.seq (.reg [Mv 120 4,Mv 121 6,Oo 122 (.lit 9 1 1 [Ss] [(0,(1,(.tmp 121)))]),Oo 123 (.app 9 1 16 (.tmp 120) (.tmp 122)),Mv 4 123]) (.seq (.reg [Mv 124 6,Oo 125 (.len true (.tmp 124)),Oo 126 (.bin .gtr (.tmp 125) (Ci 24)),Mv 127 126,Of 128 127 (.mv (.tmp 4)),Of 129 127 (.len false (.tmp 128)),Of 130 127 (.bin .gtr (.tmp 129) (Ci 12)),Oo 131 (.pick (.tmp 127) (.const (.bool true)) (.tmp 130))]) (.cond (.tmp 131) (.seq (.reg [Oo 2 (.mv (.const (.slice none 0 0))),Oo 3 (.mv (Ci 2))]) .ret) .skip)))))))))))))
theorem k86:compF Tryz.prog 86=some ⟨c86,[(.tmp 2),(.tmp 3)],132⟩:=by kernel_rfl
theorem rlbetween_a {n a b:Int}{h:AH}:ACalls Tryz.prog 68 [iv n,iv a,iv b] h fun x h'=>h'=h∧x = .ret (bv (wi n a b)):=by
 refine tI' k68 fun N hn hlt hlA hbd=>?_
 simp only [tA',AV.bdL,AV.bd,and_true,true_and] at hbd ⊢
 refine wr'<|mv' lkb pt6<|sn'<|wr'<|mv' lk0 pt7<|mv' lk1 pt8<|V' (v_geq lk7 lk8) pt9<|mv' lk9 pt10<|?_
 refine sp' gt10 pt10 pt10 (fun hg10=>?_) (fun hg10=>?_)
 ·refine s_do gt10<|mv' lk0 pt11<|s_do gt10<|mv' lk2 pt12<|s_do gt10<|V' (v_leq lk11 lk12) pt13<|V' (v_pickT lk10 lk13) pt14<|mv' lk14 pt6<|sn'<|w_rets<|w_ret (rs1 (rr_t gt6))<|rT'<|?_
  refine bvx ?_;unfold wi;rw [Bool.eq_iff_iff];simp;omega
 refine s_no gt10 pt11<|s_no gt10 pt12<|s_no gt10 pt13<|V' (v_pickF lk10 lkb) pt14<|mv' lk14 pt6<|sn'<|w_rets<|w_ret (rs1 (rr_t gt6))<|rT'<|?_
 refine bvx ?_;unfold wi;rw [Bool.eq_iff_iff];simp;omega
theorem risBlank_a {n:Int}{h:AH}:ACalls Tryz.prog 28 [u8v n] h fun x h'=>h'=h∧x = .ret (bv (blkN n)):=by
 refine tI' k28 fun N hn hlt hlA hbd=>?_
 simp only [tA',AV.bdL,AV.bd,and_true,true_and] at hbd ⊢
 refine wr'<|mv' lkb pt2<|sn'<|wr'<|mv' lk0 pt3<|V' (v_eql lk3 lki) pt4<|mv' lk4 pt5<|?_
 refine sp' gt5 pt5 pt5 (fun hg5=>?_) (fun hg5=>?_)
 ·refine s_no gt5 pt6<|s_no gt5 pt7<|V' (v_pickT lk5 lkb) pt8<|mv' lk8 pt2<|sn'<|w_rets<|w_ret (rs1 (rr_t gt2))<|rT'<|?_
  refine bvx ?_;unfold blkN;simp_all
 refine s_do gt5<|mv' lk0 pt6<|s_do gt5<|V' (v_eql lk6 lki) pt7<|V' (v_pickF lk5 lk7) pt8<|mv' lk8 pt2<|sn'<|w_rets<|w_ret (rs1 (rr_t gt2))<|rT'<|?_
 refine bvx ?_;unfold blkN;simp_all
theorem risPlain_a {c:UInt8}{h:AH}:ACalls Tryz.prog 27 [u8v c.toNat] h fun x h'=>h'=h∧x = .ret (bv (plnN c.toNat)):=by
 have hb:=byte_lt c
 refine tI' k27 fun N hn hlt hlA hbd=>?_
 simp only [tA',AV.bdL,AV.bd,and_true,true_and] at hbd ⊢
 refine wr'<|mv' lkb pt2<|sn'<|wr'<|mv' lk0 pt3<|?_
 refine V' (v_cvi64 lk3 (by omega) (by omega)) pt4 ?_
 refine s_callp (mp1 lk4 (mp1 lki (mp1 lki mp0))) (rlbetween_a) pt5<|mv' lk5 pt6<|?_
 refine s_splitB gt6 pt6 pt6 (fun hg6=>?_) (fun hg6=>?_)
 ·refine s_no gt6 pt7<|s_no gt6 pt8<|V' (v_pickT lk6 lkb) pt9<|mv' lk9 pt2<|sn'<|w_rets<|w_ret (rs1 (rr_t gt2))<|rT'<|?_
  refine bvx ?_;unfold wi at *;unfold plnN;first | (simp_all;done) | (simp_all;omega)
 refine s_do gt6<|mv' lk0 pt7<|s_do gt6<|V' (v_eql lk7 lki) pt8<|V' (v_pickF lk6 lk8) pt9<|mv' lk9 pt2<|sn'<|w_rets<|w_ret (rs1 (rr_t gt2))<|rT'<|?_
 refine bvx ?_;unfold wi at *;unfold plnN;first | (simp_all;done) | (simp_all;omega)
theorem ext_snoc {s:ByteArray}{a n:Nat}(h:a+n<s.size):bA (((aB s).drop a).take n)++s.extract (a+n) (a+n+1)=bA (((aB s).drop a).take (n+1)):=by
 rw [bA_ext,bA_app,Nat.add_sub_cancel_left,List.take_add,List.drop_drop]
theorem skipN_end {s:ByteArray}{k:Nat}(h:s.size≤k):skipN ((aB s).drop k)=0:=by rw [aB_end h];rfl
theorem skipN_stop {s:ByteArray}{k:Nat}(h:k<s.size) (hp:blkN (byteAt s k).toNat=false):skipN ((aB s).drop k)=0:=by
 rw [aB_at h];simp [skipN,List.takeWhile_cons,hp]
theorem skipN_go {s:ByteArray}{k:Nat}(h:k<s.size) (hp:blkN (byteAt s k).toNat=true):skipN ((aB s).drop k)=skipN ((aB s).drop (k+1))+1:=by
 rw [aB_at h];simp [skipN,List.takeWhile_cons,hp]
theorem fldP_of {n:Int}(h1:blkN n=false) (h2:n≠35) (h3:n≠34):fldP n=true:=by unfold fldP;simp [h1,h2,h3]
end Go.Proofs.YtgjchdhdopgkkaaGreatDoor
end
