/-
  Part 1 of the proof: own lemmas and contracts on plain data. No condition beyond those that each lemma states.
-/
import Derived.Test.YticajimgfndceaaRr0
import Derived.KernelRfl
import Derived.Defers
import Derived.Recover
import Derived.Tactics
import Derived.Tactics2
import Derived.Lib.SplitLaws
import Derived.Lib.Join
import Derived.Lib.IndexAny
import Derived.Shelf.Small.Bits
import Derived.Shelf.Small.Strs
import Derived.Shelf.Small.Wraps
import Derived.Shelf.Strconv.Itoa0
import Derived.Shelf.Strings.Search1
import Derived.Shelf.Slices.SearchI
import Derived.Lib.AtoiErrMem
set_option linter.all false
set_option maxRecDepth 1000000
set_option maxHeartbeats 4000000
section
namespace Go.Ab
section
variable {P : Program} {n0 : Nat}
theorem Zgc [Rd] {ops:Array Oper}{id:Nat}{al:List AOper}{ac:AC}{Q:AX→List AV→AH→Prop}{T:List AV}{h:AH}(hc:Zh9 P ops al=some ac) (hw:aw P n0 ac Q T h):AW P n0 (.region id ops true) Q T h:=by
 unfold Zh9 at hc
 have key : ∀ S s,drawn P ops S s=some ac→AW P n0 (.region id ops true) Q T h:=by
  intro S s hd
  unfold drawn at hd
  split at hd <;> try (cases hd;done)
  rename_i al2 hm2
  split at hd <;> try (cases hd;done)
  rename_i hcond
  cases hd
  obtain⟨rs,hw⟩:=hw
  exact ZgK hcond.1 hcond.2.1 hm2 hcond.2.2.1 hcond.2.2.2 hw
 have keyU:ZkT P ops=some ac→AW P n0 (.region id ops true) Q T h:=by
  intro hc
  unfold ZkT at hc
  split at hc <;> try (cases hc;done)
  rename_i al2 hm2
  split at hc <;> try (cases hc;done)
  rename_i hcond
  cases hc
  exact Zkc hcond.1 hcond.2 hm2 hw
 rcases Option.or_eq_some_iff.1 hc with h1 | ⟨_,hc⟩
 ·exact key _ _ h1
 rcases Option.or_eq_some_iff.1 hc with h1 | ⟨_,hc⟩
 ·exact key _ _ h1
 rcases Option.or_eq_some_iff.1 hc with h1 | ⟨_,hc⟩
 ·split at h1
  ·exact keyU h1
  ·cases h1
 rcases Option.or_eq_some_iff.1 hc with h1 | ⟨_,hc⟩
 ·exact key _ _ h1
 rcases Option.or_eq_some_iff.1 hc with h1 | ⟨_,hc⟩
 ·exact key _ _ h1
 ·exact keyU hc
theorem Zd5 [Rd] : ∀ (c:Code) (ac:AC),comp P c=some ac → ∀ {Q:AX→List AV→AH→Prop}{T:List AV}{h:AH},aw P n0 ac Q T h→AW P n0 c Q T h:=by
 intro c
 induction c with
 | skip=>intro ac hc Q T h hw;cases hc;exact AW_skip hw
 | region id ops draw =>
  intro ac hc Q T h hw
  simp only[comp] at hc
  split at hc <;> try (cases hc;done)
  rename_i al hm
  split at hc
  ·rename_i hd;subst hd;cases hc;exact Znw hm hw
  ·rename_i hd
   obtain rfl:draw=true:=by simpa using hd
   rw[Option.map_eq_some_iff] at hc
   obtain⟨ac,hc,rfl⟩:=hc
   cases hp:panOf P ops al with
   | none=>rw[hp] at hw;exact Zgc hc hw
   | some p =>
    obtain⟨x,f,al',d0⟩:=p
    rw[hp] at hw
    rcases hw with hw | ⟨cp,Pp,c,h1,h2,h3⟩
    ·exact Zgc hc hw
    ·unfold panOf at hp
     split at hp <;> try (cases hp;done)
     rename_i i0 hf0
     exact Zle hm hp h1 h2 h3
 | seq a b iha ihb =>
  intro ac hc Q T h hw
  simp only[comp] at hc
  split at hc <;> try (cases hc;done)
  rename_i x y hx hy
  cases hc
  refine AW_seq ((iha x hx hw).mono ?_)
  intro z T' h' hq
  cases z <;> simp only[AX.thn] at hq ⊢ <;> first | exact hq | (obtain⟨T1,h1,hle,hq⟩:=hq;exact AW_le hle (ihb y hy hq))
 | cond c a b iha ihb =>
  intro ac hc Q T h hw
  simp only[comp] at hc
  split at hc <;> try (cases hc;done)
  rename_i x y hx hy
  cases hc
  simp only[aw] at hw
  split at hw <;> try (exact hw.elim)
  rename_i t ht
  exact AW_cond ht (fun e=>iha x hx (hw.1 e)) (fun e=>ihb y hy (hw.2 e))
 | block id a iha =>
  intro ac hc Q T h hw
  simp only[comp,Option.map_eq_some_iff] at hc
  obtain⟨x,hx,rfl⟩:=hc
  exact AW_block (iha x hx hw)
 | loop a iha =>
  intro ac hc Q T h hw
  simp only[comp,Option.map_eq_some_iff] at hc
  obtain⟨x,hx,rfl⟩:=hc
  obtain⟨I,n,h0,hr⟩:=hw
  refine AW_loop (fun n T h => ∃ T1 h1,ALe n0 T h T1 h1∧I n T1 h1) n h0 ?_
  rintro n T h ⟨T1,h1,hle,hI⟩
  exact AW_le hle (iha x hx (hr n T1 h1 hI))
 | rangeFunc f ps x y iha ihb=>intro ac hc;cases hc
 | exit id=>intro ac hc Q T h hw;cases hc;exact AW_exit hw
 | scope a iha=>intro ac hc Q T h hw;exact AW_scope (iha ac hc hw)
 | label l=>intro ac hc;cases hc
 | goto l=>intro ac hc;cases hc
 | ret=>intro ac hc Q T h hw;cases hc;exact AW_ret hw
 | refuse w=>intro ac hc;cases hc
inductive AR where
 | tmp (t:Nat)
 | cell (t:Nat) (agg:Bool) (sz:Nat)
def ZeY (T:List AV) (h:AH):AR→Option AV
 | .tmp t=>T[t]?
 | .cell t agg sz=>match T[t]? with
  | some p=>(Zb7 h p).bind (Zb8 agg sz)
  | none=>none
def aRes (rs:List AR) (T:List AV) (h:AH):Option AV :=
 match rs.mapM (ZeY T h) with
 | some [c]=>some c
 | some cs=>some (.tup cs)
 | none=>none
def Zfn (P:Program):ResultVar→Option AR
 | .tmp t=>some (.tmp t)
 | .cell a t=>match P.underlying t,P.info? t with
  | some d,some i=>some (.cell a (ZcQ d) i.size)
  | _,_=>none
def retA (rs:List AR) (R:AE→AH→Prop):AX→List AV→AH→Prop
 | .normal,T,h=>match aRes rs T h with
  | some c=>R (.ret c) h
  | none=>False
 | .ret,T,h=>match aRes rs T h with
  | some c=>R (.ret c) h
  | none=>False
 | .pan c,_,h=>R (.pan c) h
 | .exit _,_,_=>False
def rvS (tmps:Array Value) (r:ResultVar):Sem Value :=
 match r with
 | .tmp t=>pure (tmps.getD t undef)
 | .cell a t=>do loadVar t (←asAddr (tmps.getD a undef))
theorem ZjG (fn:Func) (tmps:Array Value):results fn tmps=(do
  let vs ←fn.results.mapM (rvS tmps)
  pure (if h:vs.size=1 then vs[0] else .tuple vs)):=by
 unfold results
 congr 2
theorem ZiI {r:ResultVar}{ar:AR}(hc:Zfn P r=some ar) {T:List AV}{h:AH}{c:AV}(hv:ZeY T h ar=some c) {w:World}{g:Gh}{a:List Value}(hs:SimH w g h) (ht:RepL w g T a) :
  ∃ v,(rvS a.toArray r).run P w=.ok v w∧Rep w g c v:=by
 cases r with
 | tmp t =>
  cases hc
  obtain⟨u,h1,h2⟩:=ht.get (show T[t]?=some c from hv)
  refine⟨u,?_,h2⟩
  have:a.toArray[t]?=some u:=by simpa using h1
  simp[rvS,this]
 | cell b t =>
  simp only[Zfn] at hc
  split at hc <;> try (cases hc;done)
  rename_i d i hd hi
  cases hc
  simp only[ZeY] at hv
  split at hv <;> try (cases hv;done)
  rename_i p hp
  simp only[Option.bind_eq_some_iff] at hv
  obtain⟨cs,h1,h2⟩:=hv
  obtain⟨u,h3,h4⟩:=ht.get hp
  obtain⟨bb,off,e,hrc⟩:=Zgr hs h4 h1
  obtain⟨v,h5,h6⟩:=ZgX (P:=P) hrc h2 (ZbM hd w) (ZaT hi w)
  refine⟨v,?_,h6⟩
  have hu:a.toArray[b]?=some u:=by simpa using h3
  have:a.toArray.getD b undef=.pointer (some ⟨bb,off,none⟩):=by simp[hu,e]
  simp only[rvS,this]
  simpa [asAddr,Instr.loadAt,Instr.sureAddr] using h5
theorem Zfx {T:List AV}{h:AH}{w:World}{g:Gh}{a:List Value}(hs:SimH w g h) (ht:RepL w g T a) : ∀ (rl:List ResultVar) (rs:List AR) (cs:List AV),rl.mapM (Zfn P)=some rs→rs.mapM (ZeY T h)=some cs →
  ∃ vs,(rl.mapM (rvS a.toArray)).run P w=.ok vs w∧RepL w g cs vs
 | [],rs,cs,h1,h2=>by simp at h1;subst h1;simp at h2;subst h2;exact⟨[],by simp,by simp only[RepL]⟩
 | r::rl,rs,cs,h1,h2=>by
  simp only[List.mapM_cons,Option.bind_eq_bind,Option.bind_eq_some_iff,Option.pure_def,Option.some.injEq] at h1
  obtain⟨ar,k1,rs',k2,rfl⟩:=h1
  simp only[List.mapM_cons,Option.bind_eq_bind,Option.bind_eq_some_iff,Option.pure_def,Option.some.injEq] at h2
  obtain⟨c,k3,cs',k4,rfl⟩:=h2
  obtain⟨v,e1,e2⟩:=ZiI k1 k3 hs ht
  obtain⟨vs,e3,e4⟩:=Zfx hs ht rl rs' cs' k2 k4
  refine⟨v::vs,?_,by simp only[RepL];exact⟨v,vs,rfl,e2,e4⟩⟩
  simp only[List.mapM_cons,Sem.run_bind,e1,Result.andThen_ok,e3,Sem.run_pure]
theorem Zem {fn:Func}{rs:List AR}(hrs:fn.results.toList.mapM (Zfn P)=some rs) {T:List AV}{h:AH}{c:AV}(hc:aRes rs T h=some c) {w:World}{g:Gh}{a:List Value}(hs:SimH w g h) (ht:RepL w g T a) :
  ∃ v,(results fn a.toArray).run P w=.ok v w∧Rep w g c v:=by
 unfold aRes at hc
 cases hm:rs.mapM (ZeY T h) with
 | none=>simp[hm] at hc
 | some cs =>
  obtain⟨vs,h1,h2⟩:=Zfx hs ht fn.results.toList rs cs hrs hm
  have hrun:(results fn a.toArray).run P w=.ok (if h:vs.toArray.size=1 then vs.toArray[0] else .tuple vs.toArray) w:=by
   rw[ZjG]
   rw[Array.mapM_eq_mapM_toList]
   simp only[Sem.run_bind,Sem.run_map]
   rw[h1]
   simp
  have hl:=h2.length
  rw[hm] at hc
  match cs,hc with
  | [c'],hc =>
   cases hc
   simp only[RepL] at h2
   obtain⟨u,us,rfl,h3,rfl⟩:=h2
   exact⟨u,by rw[hrun];simp,h3⟩
  | [],hc =>
   cases hc
   have:vs=[]:=by simpa using hl
   subst this
   exact⟨.tuple #[],by rw[hrun];simp,by simp only[Rep];exact⟨#[],rfl,by simp only[RepL]⟩⟩
  | c1::c2::cs',hc =>
   cases hc
   have hne:¬vs.toArray.size=1:=by simp[hl]
   exact⟨.tuple vs.toArray,by rw[hrun,dif_neg hne],by simp only[Rep];exact⟨_,rfl,by simpa using h2⟩⟩
structure AF where
 code:AC
 res:List AR
 ntmps:Nat
def ZaO (P:Program) (f:FuncId):Option AF :=
 match P.funcs[f]? with
 | some fn=>if fn.name == "runtime.NumGoroutine" then none else match fn.body with
  | some c=>match comp P c,fn.results.toList.mapM (Zfn P) with
   | some ac,some rs=>some ⟨ac,rs,fn.ntmps⟩
   | _,_=>none
  | none=>none
 | none=>none
theorem ACalls.of_aw {f:FuncId}{af:AF}(hc:ZaO P f=some af) {args:List AV}{h:AH}{R:AE→AH→Prop}(hw:aw P h.length af.code (retA af.res R) (args++List.replicate (af.ntmps-args.length) .any) h):ACalls P f args h R:=by
 unfold ZaO at hc
 split at hc <;> try (cases hc;done)
 rename_i fn hfn
 split at hc <;> try (cases hc;done)
 rename_i hname
 split at hc <;> try (cases hc;done)
 rename_i c hb
 split at hc <;> try (cases hc;done)
 rename_i ac rs hac hrs
 cases hc
 letI:Rd:=rdN
 refine ACalls.of_AW hfn hb ?_ ((Zd5 c ac hac hw).mono ?_)
 ·simp only[enters,hfn,hb]
  simp only[Bool.not_eq_true] at hname
  simp[bne,hname]
 ·intro x T' h' hq
  cases x <;> simp only[retA,RetQ] at hq ⊢
  ·split at hq <;> try (exact hq.elim)
   rename_i r hr
   exact⟨r,fun w g a hs ht=>Zem hrs hr hs ht,hq⟩
  ·split at hq <;> try (exact hq.elim)
   rename_i r hr
   exact⟨r,fun w g a hs ht=>Zem hrs hr hs ht,hq⟩
  ·exact hq
end
end Go.Ab
end
section
namespace Go.Ab
section
variable {P : Program} {n0 : Nat}
mutual
theorem lt_mono {n m:Nat}(hnm:n≤m) : ∀ (c:AV),c.lt n=true→c.lt m=true
 | .v _,_=>rfl
 | .any,_=>rfl
 | .sl _ _ _ cs,h=>by simp only[AV.lt] at h ⊢;exact Zdo hnm cs h
 | .own id _ _,h=>by simp only[AV.lt,decide_eq_true_eq] at h ⊢;omega
 | .ptr id _ _,h=>by simp only[AV.lt,decide_eq_true_eq] at h ⊢;omega
 | .rp cs,h=>by simp only[AV.lt] at h ⊢;exact Zdo hnm cs h
 | .agg cs,h=>by simp only[AV.lt] at h ⊢;exact Zdo hnm cs h
 | .tup cs,h=>by simp only[AV.lt] at h ⊢;exact Zdo hnm cs h
 | .clo _ cs,h=>by simp only[AV.lt] at h ⊢;exact Zdo hnm cs h
theorem Zdo {n m:Nat}(hnm:n≤m) : ∀ (cs:List AV),AV.ltL n cs=true→AV.ltL m cs=true
 | [],_=>rfl
 | c::cs,h=>by simp only[AV.ltL,Bool.and_eq_true] at h ⊢;exact⟨lt_mono hnm c h.1,Zdo hnm cs h.2⟩
end
theorem Ent.lt_mono {n m:Nat}(hnm:n≤m) {e:Ent}(h:e.lt n=true):e.lt m=true:=by
 cases e <;> simp only[Ent.lt] at h ⊢ <;> exact Zdo hnm _ h
def Sub:List AV→List AV→Prop
 | [],[]=>True
 | c::cs,d::ds=>(d=c∨d=.any)∧Sub cs ds
 | _,_=>False
theorem Sub.refl : ∀ T,Sub T T
 | []=>trivial
 | c::cs=>⟨.inl rfl,Sub.refl cs⟩
theorem RepL.sub {w:World}{g:Gh} : ∀ {T T1:List AV}{vs:List Value},Sub T T1→RepL w g T vs→RepL w g T1 vs
 | [],[],vs,_,h=>h
 | c::cs,d::ds,vs,hs,h=>by
  simp only[RepL] at h ⊢
  obtain⟨u,us,e,h1,h2⟩:=h
  refine⟨u,us,e,?_,RepL.sub hs.2 h2⟩
  rcases hs.1 with rfl | rfl
  ·exact h1
  ·simp only[Rep]
 | [],_::_,_,hs,_=>hs.elim
 | _::_,[],_,hs,_=>hs.elim
theorem ALe.sub {T T1:List AV}{h:AH}(hs:Sub T T1):ALe n0 T h T1 h:=fun w0 S0 g0 a w g st=>⟨g,st.tmps.sub hs,st.defers,st.sim,st.fr,st.le,st.bd,st.ow⟩
theorem ALe.refl {T:List AV}{h:AH}:ALe n0 T h T h:=fun w0 S0 g0 a w g st=>⟨g,st⟩
theorem ALe.trans {T T1 T2:List AV}{h h1 h2:AH}(a:ALe n0 T h T1 h1) (b:ALe n0 T1 h1 T2 h2):ALe n0 T h T2 h2:=fun w0 S0 g0 x w g st=>by
 obtain⟨g1,s1⟩:=a w0 S0 g0 x w g st
 exact b w0 S0 g0 x w g1 s1
theorem ALe.cut {T:List AV}{h x:AH}(hn:n0≤h.length) (hT:AV.ltL h.length T=true) (hh : ∀ e∈h,e.lt h.length=true):ALe n0 T (h++x) T h:=fun w0 S0 g0 a w g st =>
 ⟨g.cut h.length,RepL.cut _ _ hT st.tmps,st.defers,st.sim.cut hh,st.fr,st.le.cut (fun i v l hl=>Nat.lt_of_lt_of_le (st.bd i v l hl) hn),st.bd,fun k hk=>st.ow k hk.of_cut⟩
theorem ALe.ice {T:List AV}{h:AH}{id ver ty s d n:Nat}{cells:List AV}(hi:h[id]?=some (.mk ver ty s cells)) (hd:T[d]?=some (.own id ver n)) (hl:n*s≤cells.length) :
  ALe n0 T h (T.set d (.sl n s false (cells.take (n*s)))) (h.set id .gone):=fun w0 S0 g0 a w g st=>by
 obtain⟨h1,h2,h3⟩:=st.sim.ice hi
 have htm:=RepL.mono (g.le_ice h id) (fun _ _=>rfl) _ _ st.tmps
 obtain⟨u,hu,hr⟩:=st.tmps.get hd
 have hset:=htm.set (k:=d) (h3 n u hl hr)
 have hself:a.tmps.toList.set d u=a.tmps.toList:=by
  apply List.ext_getElem?
  intro j
  by_cases hj:j=d
  ·subst hj
   have:j<a.tmps.toList.length:=(List.getElem?_eq_some_iff.1 hu).1
   rw[List.getElem?_set_self this,hu]
  ·rw[List.getElem?_set_ne (Ne.symm hj)]
 rw[hself] at hset
 exact⟨g.ice h id,hset,st.defers,h1,st.fr,st.le.trans (g.le_ice h id),st.bd,fun k hk=>st.ow k (h2 k hk)⟩
theorem ZdL {h:AH}{id:Nat}{e:Ent}(he : ∀ k o T vs,e ≠ .raw k o T vs) {i k:Nat}{o:Obj}{T:List AV}{vs:List Value}(h1:(h.set id e)[i]?=some (.raw k o T vs)):h[i]?=some (.raw k o T vs):=by
 by_cases hi:i=id
 ·subst hi
  by_cases hl:i<h.length
  ·rw[List.getElem?_set_self hl] at h1;cases h1;exact absurd rfl (he _ _ _ _)
  ·rw[List.getElem?_eq_none (by simpa using hl)] at h1;cases h1
 ·rw[List.getElem?_set_ne (Ne.symm hi)] at h1;exact h1
theorem SimH.tell {w:World}{g:Gh}{h:AH}(hs:SimH w g h) {id ver ty s k:Nat}{cells:List AV}{c c':AV}(hi:h[id]?=some (.mk ver ty s cells)) (hk:cells[k]?=some c) (hc : ∀ u,Rep w g c u→Rep w g c' u) :
  SimH w g (h.set id (.mk ver ty s (cells.set k c'))) ∧ ∀ j,Ow g (h.set id (.mk ver ty s (cells.set k c'))) j→Ow g h j:=by
 have hid:id<h.length:=(List.getElem?_eq_some_iff.1 hi).1
 have hget : ∀ {i v t s':Nat} {cs:List AV},(h.set id (.mk ver ty s (cells.set k c')))[i]?=some (.mk v t s' cs) → ∃ cs',h[i]?=some (.mk v t s' cs')∧(i≠id→cs'=cs)∧(i=id→cs'=cells∧cs=cells.set k c'):=by
  intro i v t s' cs he
  by_cases hii:i=id
  ·subst hii
   rw[List.getElem?_set_self hid] at he
   cases he
   exact⟨cells,hi,fun h=>absurd rfl h,fun _=>⟨rfl,rfl⟩⟩
  ·rw[List.getElem?_set_ne (Ne.symm hii)] at he
   exact⟨cs,he,fun _=>rfl,fun h=>absurd h hii⟩
 have how : ∀ i j,OwAt g (h.set id (.mk ver ty s (cells.set k c'))) i j→OwAt g h i j:=by
  rintro i j ⟨v,t,s',cs,b,cap,e1,e2,e3,e4⟩
  obtain⟨cs',f1,_⟩:=hget e1
  exact⟨v,t,s',cs',b,cap,f1,e2,e3,e4⟩
 refine⟨⟨?_,fun i j k' h1 h2=>hs.inj i j k' (how i k' h1) (how j k' h2),hs.lt,?_,?_,⟨hs.glob.w,hs.glob.d⟩,fun i k o T vs he=>hs.raw i k o T vs (ZdL (by simp) he),fun i j k ⟨o,T,vs,e1⟩ ⟨o',T',vs',e2⟩=>hs.rinj i j k ⟨o,T,vs,ZdL (by simp) e1⟩ ⟨o',T',vs',ZdL (by simp) e2⟩⟩,fun j hj=>hj.imp (fun ⟨i,hj⟩=>⟨i,how i j hj⟩) (fun ⟨i,o,T,vs,e⟩=>⟨i,o,T,vs,ZdL (by simp) e⟩)⟩
 ·intro i v t s' cs he
  obtain⟨cs',f1,f2,f3⟩:=hget he
  obtain⟨A,cap,e1,e2,e3⟩:=hs.ent _ _ _ _ _ f1
  refine⟨A,cap,e1,e2,?_⟩
  by_cases hii:i=id
  ·obtain⟨rfl,rfl⟩:=f3 hii
   rcases e3 with ⟨h0,h1⟩ | ⟨b,arr,rfl,x1,x2,x3,x4,x5,x6⟩
   ·rw[h0] at hk;simp at hk
   ·refine .inr ⟨b,arr,rfl,x1,x2,x3,x4,by simpa using x5,?_⟩
    obtain⟨u,hu,hr⟩:=x6.get hk
    have:=x6.set (k:=k) (hc u hr)
    have hself:(arr.toList.take cs'.length).set k u=arr.toList.take cs'.length:=by
     apply List.ext_getElem?
     intro j
     by_cases hj:j=k
     ·subst hj
      have:j<(arr.toList.take cs'.length).length:=(List.getElem?_eq_some_iff.1 hu).1
      rw[List.getElem?_set_self this,hu]
     ·rw[List.getElem?_set_ne (Ne.symm hj)]
    rw[hself] at this
    simpa using this
  ·rw[←f2 hii];exact e3
 ·intro i v l hl
  have:=hs.fresh i v l hl
  refine⟨by simpa using this.1,fun v' t s' cs he=>?_⟩
  obtain⟨cs',f1,_⟩:=hget he
  exact this.2 _ _ _ _ f1
 ·intro i v l hl he
  by_cases hii:i=id
  ·subst hii;rw[List.getElem?_set_self hid] at he;cases he
  ·rw[List.getElem?_set_ne (Ne.symm hii)] at he;exact hs.free _ _ _ hl he
theorem ALe.iceCell {T:List AV}{h:AH}{id ver ty s n j v' t' s' k:Nat}{cells cs:List AV}(hi:h[id]?=some (.mk ver ty s cells)) (hj:h[j]?=some (.mk v' t' s' cs)) (hne:j≠id) (hk:cs[k]?=some (.own id ver n)) (hl:n*s≤cells.length) :
  ALe n0 T h T ((h.set id .gone).set j (.mk v' t' s' (cs.set k (.sl n s false (cells.take (n*s)))))):=fun w0 S0 g0 a w g st=>by
 obtain⟨h1,h2,h3⟩:=st.sim.ice hi
 have htm:=RepL.mono (g.le_ice h id) (fun _ _=>rfl) _ _ st.tmps
 obtain⟨k1,k2⟩:=h1.tell (id:=j) (by rw[List.getElem?_set_ne (Ne.symm hne)];exact hj) hk (fun u hu=>h3 n u hl (by
  simp only[Rep] at hu ⊢
  exact hu))
 exact⟨g.ice h id,htm,st.defers,k1,st.fr,st.le.trans (g.le_ice h id),st.bd,fun i hi=>st.ow i (h2 i (k2 i hi))⟩
theorem Zcm {f:FuncId}{af:AF}(hc:ZaO P f=some af):enters P f=true:=by
 unfold ZaO at hc
 split at hc <;> try (cases hc;done)
 rename_i fn hfn
 split at hc <;> try (cases hc;done)
 rename_i hname
 split at hc <;> try (cases hc;done)
 rename_i c hb
 simp only[enters,hfn,hb]
 simp only[Bool.not_eq_true] at hname
 simp[bne,hname]
theorem ACalls.enter {f:FuncId}{af:AF}(hc:ZaO P f=some af) {args:List AV}{h:AH}{R:AE→Prop}
  (hw : ∀ n,h.length=n→(∀ e∈h,e.lt n=true)→AV.ltL n args=true→aw P n af.code (retA af.res fun x h' => ∃ z,h'=h++z∧x.lt n=true∧R x) (args++List.replicate (af.ntmps-args.length) .any) (h++[])):ACalls P f args h fun x h'=>h'=h∧R x :=
 ⟨Zcm hc,fun w g vs hs ha=>(ACalls.gc_same (ACalls.of_aw hc (by
  have:=hw h.length rfl hs.ltE (RepL.lt (fun i v l hl=>(hs.fresh i v l hl).1) _ _ ha)
  rwa [List.append_nil] at this))).2 w g vs hs ha⟩
theorem ACalls.enterG {f:FuncId}{af:AF}(hc:ZaO P f=some af) {args:List AV}{h:AH}{R:AE→AH→Prop}
  (hw : ∀ n,h.length=n→(∀ e∈h,e.lt n=true)→AV.ltL n args=true→aw P n af.code (retA af.res fun x h' => ∃ y z,h'=y++z∧y.length=n∧(∀ e∈y,e.lt n=true)∧x.lt n=true∧R x y) (args++List.replicate (af.ntmps-args.length) .any) (h++[])):ACalls P f args h R :=
 ⟨Zcm hc,fun w g vs hs ha=>(ACalls.gc (ACalls.of_aw hc (by
  have:=hw h.length rfl hs.ltE (RepL.lt (fun i v l hl=>(hs.fresh i v l hl).1) _ _ ha)
  rwa [List.append_nil] at this))).2 w g vs hs ha⟩
def LoopTo (n0:Nat) {ι:Type}(S:ι→List AV×AH) (I:ι→Prop) (m:ι→Nat) (i:ι) (T:List AV) (h:AH):Prop :=
 ∃ k,k<m i ∧ ∃ T1 h1,ALe n0 T h T1 h1 ∧ ∃ j,m j=k∧I j∧T1=(S j).1∧h1=(S j).2
theorem LoopTo.mk {ι:Type}{S:ι→List AV×AH}{I:ι→Prop}{m:ι→Nat}{i:ι}{T:List AV}{h:AH}(j:ι) (hm:m j<m i) (hI:I j) (hl:ALe n0 T h (S j).1 (S j).2):LoopTo n0 S I m i T h :=
 ⟨m j,hm,_,_,hl,j,rfl,hI,rfl,rfl⟩
theorem Zne {a:AC}{Q:AX→List AV→AH→Prop}{T:List AV}{h:AH}{ι:Type}(S:ι→List AV×AH) (I:ι→Prop) (m:ι→Nat) (i0:ι) (hI:I i0) (h0:ALe n0 T h (S i0).1 (S i0).2)
  (round : ∀ i,I i→aw P n0 a (AX.thn (LoopTo n0 S I m i) Q) (S i).1 (S i).2):aw P n0 (.loop a) Q T h:=by
 refine⟨fun n T h => ∃ i,m i=n∧I i∧T=(S i).1∧h=(S i).2,m i0,⟨_,_,h0,i0,rfl,hI,rfl,rfl⟩,?_⟩
 rintro n T h ⟨i,rfl,hi,rfl,rfl⟩
 exact round i hi
end
section
variable {P : Program} {n0 : Nat}
abbrev iv (n:Int):AV:=.v (.int .i64 n)
abbrev bv (b:Bool):AV:=.v (.bool b)
abbrev sv (s:ByteArray):AV:=.v (.string s)
section run
variable {Kp : AV → List AV → AH → Prop} {K : List AV → AH → Prop} {rest : List AOper} {T T' : List AV} {h h' h0 ents ents' : AH} {rs : List Nat} {d : Option Nat} {op : AOp} {c : AV}
def noD (o:AOper):Bool:=Zcp o&&!isL o.op
theorem s_val (hn:Zcp ⟨d,none,op⟩=true) (hv:aval h (Zad T) op=some c) (hp:aPut T d c=T') (hk:arun P Kp rest T' h K):arun P Kp (⟨d,none,op⟩::rest) T h K:=by
  subst hp
  refine⟨fun _=>?_,fun h=>by cases h⟩
  have : (match aval h (Zad T) op with
      | some c=>arun P Kp rest (aPut T d c) h K
      | none=>match aeff h (Zad T) op with
        | some (c,h')=>arun P Kp rest (aPut T d c) h' K
        | none=>False):=by rw[hv];exact hk
  cases op <;> first | exact this | (simp[Zcp] at hn;done)
theorem s_eff (hn:Zcp ⟨d,none,op⟩=true) (hv:aval h (Zad T) op=none) (he:aeff h (Zad T) op=some (c,h')) (hp:aPut T d c=T') (hk:arun P Kp rest T' h' K):arun P Kp (⟨d,none,op⟩::rest) T h K:=by
  subst hp
  refine⟨fun _=>?_,fun h=>by cases h⟩
  have : (match aval h (Zad T) op with
      | some c=>arun P Kp rest (aPut T d c) h K
      | none=>match aeff h (Zad T) op with
        | some (c,h')=>arun P Kp rest (aPut T d c) h' K
        | none=>False):=by rw[hv,he];exact hk
  cases op <;> first | exact this | (simp[Zcp] at hn;done)
theorem d_val (hn:noD ⟨d,none,op⟩=true) (hv:aval h0 (Zad T) op=some c) (hp:aPut T d c=T') (hk:adrun P rs h0 rest T' ents K):adrun P rs h0 (⟨d,none,op⟩::rest) T ents K:=by
  subst hp
  refine⟨fun _=>?_,fun h=>by cases h⟩
  have : (match aval h0 (Zad T) op with
      | some c=>adrun P rs h0 rest (aPut T d c) ents K
      | none => ∃ c ent,(aallo (h0.length+ents.length) (Zad T) op=some (c,ent)∨Zdi (h0.length+ents.length) (Zad T) op=some (c,ent))∧adrun P rs h0 rest (aPut T d c) (ents++[ent]) K):=by rw[hv];exact hk
  cases op <;> first | exact this | (simp[noD,Zcp,isL] at hn;done)
theorem d_eff {ent:Ent}{id:Nat}(hn:noD ⟨d,none,op⟩=true) (hv:aval h0 (Zad T) op=none) (hl:h0.length+ents.length=id) (he:aallo id (Zad T) op=some (c,ent)) (hp:aPut T d c=T') (hx:ents++[ent]=ents') (hk:adrun P rs h0 rest T' ents' K):adrun P rs h0 (⟨d,none,op⟩::rest) T ents K:=by
  subst hp hx hl
  refine⟨fun _=>?_,fun h=>by cases h⟩
  have : (match aval h0 (Zad T) op with
      | some c=>adrun P rs h0 rest (aPut T d c) ents K
      | none => ∃ c ent,(aallo (h0.length+ents.length) (Zad T) op=some (c,ent)∨Zdi (h0.length+ents.length) (Zad T) op=some (c,ent))∧adrun P rs h0 rest (aPut T d c) (ents++[ent]) K):=by rw[hv];exact⟨c,ent,.inl he,hk⟩
  cases op <;> first | exact this | (simp[noD,Zcp,isL] at hn;done)
theorem d_ldP {agg:Bool}{sz id v off ty s:Nat}{cells:List AV}{x:Operand}(hx:Zad T x=.ptr id v off) (he:h0[id]?=some (.mk v ty s cells)) (hc:Zb8 agg sz (cells.drop off)=some c) (hm:id∈rs) (hp:aPut T d c=T') (hk:adrun P rs h0 rest T' ents K):adrun P rs h0 (⟨d,none,.loadR agg sz x⟩::rest) T ents K:=by
 subst hp
 refine⟨fun _=>?_,fun h=>by cases h⟩
 simp only[adstep,hx]
 exact⟨ty,s,cells,c,he,hc,hm,hk⟩
theorem k_nil {q:List Bool}(hk:K T h):ZbX P rs q [] T h K:=by cases q <;> exact hk
theorem k_val {m:Bool}{q:List Bool}(hn:Zcp ⟨d,none,op⟩=true) (hv:aval h (Zad T) op=some c) (hp:aPut T d c=T') (hk:ZbX P rs q rest T' h K):ZbX P rs (m::q) (⟨d,none,op⟩::rest) T h K:=by
  subst hp
  refine⟨fun _=>?_,fun h=>by cases h⟩
  have : (match aval h (Zad T) op with
      | some c=>ZbX P rs q rest (aPut T d c) h K
      | none=>match aeff h (Zad T) op with
        | some (c,h')=>(∀ id∈(bif m then rs else []),h'[id]?=h[id]?)∧ZbX P rs q rest (aPut T d c) h' K
        | none=>False):=by rw[hv];exact hk
  cases op <;> first | exact this | (simp[Zcp] at hn;done)
theorem ZmT {m:Bool}{q:List Bool}(hn:Zcp ⟨d,none,op⟩=true) (hv:aval h (Zad T) op=none) (he:aeff h (Zad T) op=some (c,h')) (hr : ∀ id∈(bif m then rs else []),h'[id]?=h[id]?) (hp:aPut T d c=T') (hk:ZbX P rs q rest T' h' K):ZbX P rs (m::q) (⟨d,none,op⟩::rest) T h K:=by
  subst hp
  refine⟨fun _=>?_,fun h=>by cases h⟩
  have : (match aval h (Zad T) op with
      | some c=>ZbX P rs q rest (aPut T d c) h K
      | none=>match aeff h (Zad T) op with
        | some (c,h')=>(∀ id∈(bif m then rs else []),h'[id]?=h[id]?)∧ZbX P rs q rest (aPut T d c) h' K
        | none=>False):=by rw[hv,he];exact⟨hr,hk⟩
  cases op <;> first | exact this | (simp[Zcp] at hn;done)
theorem k_call {m:Bool}{q:List Bool}{f:FuncId}{xs:List Operand}{ats:List AV}(hx:xs.map (Zad T)=ats) (hc:ACalls P f ats h fun r h2=>r=.ret c∧h2=h') (hr : ∀ id∈(bif m then rs else []),h'[id]?=h[id]?) (hp:aPut T d c=T') (hk:ZbX P rs q rest T' h' K):ZbX P rs (m::q) (⟨d,none,.call (.func f) xs⟩::rest) T h K:=by
 subst hp hx
 refine⟨fun _=>?_,fun h=>by cases h⟩
 exact⟨c,h',⟨rfl,rfl,hc.mono fun r h2 hr=>⟨hr.2,hr.1⟩⟩,hr,hk⟩
theorem ZeX {g:Option (Nat×Bool)}{T:List AV}{f f':Bool→Prop}(hf : ∀ b,f b→f' b) (h:agd g T f):agd g T f':=by
 unfold agd at *
 split
 ·exact hf _ h
 ·split <;> rename_i hx <;> simp only[hx] at h <;> first | exact hf _ h | exact h
theorem ZkL : ∀ {al:List AOper}{q:List Bool}{T:List AV}{h:AH},al.all Zcp=true→arun P Kp al T h K→ZbX P [] q al T h K
 | [],q,_,_,_,hr=>k_nil hr
 | ⟨d,g,op⟩::al,q,T,h,hn,hr=>by
  simp only[List.all_cons,Bool.and_eq_true] at hn
  simp only[arun] at hr
  simp only[ZbX]
  refine ZeX (fun b hb=>⟨fun e=>?_,fun e=>ZkL hn.2 (hb.2 e)⟩) hr
  have h1:=hb.1 e
  have:(match aval h (Zad T) op with
   | some c=>ZbX P [] q.tail al (aPut T d c) h K
   | none=>match aeff h (Zad T) op with
    | some (c,h')=>(∀ id∈(bif q.headD true then ([]:List Nat) else []),h'[id]?=h[id]?)∧ZbX P [] q.tail al (aPut T d c) h' K
    | none=>False):=by
   have h2:(match aval h (Zad T) op with
    | some c=>arun P Kp al (aPut T d c) h K
    | none=>match aeff h (Zad T) op with
     | some (c,h')=>arun P Kp al (aPut T d c) h' K
     | none=>False):=by
    cases op <;> first | exact h1 | (simp[Zcp] at hn;done)
   cases hv:aval h (Zad T) op with
   | some c=>rw[hv] at h2;exact ZkL hn.2 h2
   | none =>
    rw[hv] at h2
    cases hv2:aeff h (Zad T) op with
    | some p=>rw[hv2] at h2;exact⟨fun _ hm=>(by cases hq:q.headD true <;> rw[hq] at hm <;> cases hm),ZkL hn.2 h2⟩
    | none=>rw[hv2] at h2;exact h2
  cases op <;> first | exact this | (simp[Zcp] at hn;done)
theorem s_do {t:Nat}{b:Bool}(ht:T[t]?=some (.v (.bool b))) (hk:arun P Kp (⟨d,none,op⟩::rest) T h K):arun P Kp (⟨d,some (t,b),op⟩::rest) T h K:=by
 have h1:=hk.1 rfl
 simp only[arun,agd,ht]
 cases b <;> exact⟨fun _=>h1,fun h=>(by cases h)⟩
theorem s_no {t:Nat}{b:Bool}(ht:T[t]?=some (.v (.bool (!b)))) (hp:aPut T d (.v undef)=T') (hk:arun P Kp rest T' h K):arun P Kp (⟨d,some (t,b),op⟩::rest) T h K:=by
 subst hp
 simp only[arun,agd,ht]
 cases b <;> exact⟨fun h=>(by cases h),fun _=>hk⟩
theorem s_nu {t:Nat}{b:Bool}{vs:Array Value}(ht:T[t]?=some (.v (.tuple vs))) (hp:aPut T d (.v undef)=T') (hk:arun P Kp rest T' h K):arun P Kp (⟨d,some (t,b),op⟩::rest) T h K:=by
 subst hp
 simp only[arun,agd,ht]
 exact⟨fun h=>(by cases h),fun _=>hk⟩
theorem d_do {t:Nat}{b:Bool}(ht:T[t]?=some (.v (.bool b))) (hk:adrun P rs h0 (⟨d,none,op⟩::rest) T ents K):adrun P rs h0 (⟨d,some (t,b),op⟩::rest) T ents K:=by
 have h1:=hk.1 rfl
 simp only[adrun,agd,ht]
 cases b <;> exact⟨fun _=>h1,fun h=>(by cases h)⟩
theorem d_no {t:Nat}{b:Bool}(ht:T[t]?=some (.v (.bool (!b)))) (hp:aPut T d (.v undef)=T') (hk:adrun P rs h0 rest T' ents K):adrun P rs h0 (⟨d,some (t,b),op⟩::rest) T ents K:=by
 subst hp
 simp only[adrun,agd,ht]
 cases b <;> exact⟨fun h=>(by cases h),fun _=>hk⟩
theorem d_nu {t:Nat}{b:Bool}{vs:Array Value}(ht:T[t]?=some (.v (.tuple vs))) (hp:aPut T d (.v undef)=T') (hk:adrun P rs h0 rest T' ents K):adrun P rs h0 (⟨d,some (t,b),op⟩::rest) T ents K:=by
 subst hp
 simp only[adrun,agd,ht]
 exact⟨fun h=>(by cases h),fun _=>hk⟩
theorem Zml {f:FuncId}{xs:List Operand}{ats:List AV}{R:AE→AH→Prop}(hx:xs.map (Zad T)=ats) (hc:ACalls P f ats h R) (hk : ∀ r h',R r h'→match r with
  | .ret c=>arun P Kp rest (aPut T d c) h' K
  | .pan c=>Kp c T h'):arun P Kp (⟨d,none,.call (.func f) xs⟩::rest) T h K:=by
 subst hx
 refine⟨fun _=>?_,fun h=>by cases h⟩
 exact⟨rfl,rfl,hc.mono fun r h' hr=>hk r h' hr⟩
theorem Zak {f:FuncId}{xs:List Operand}{ats:List AV}(hx:xs.map (Zad T)=ats) (hc:ACalls P f ats h fun r h'=>h'=h∧r=.ret c) (hp:aPut T d c=T') (hk:arun P Kp rest T' h K):arun P Kp (⟨d,none,.call (.func f) xs⟩::rest) T h K:=by
 subst hp
 refine Zml hx hc ?_
 rintro r h' ⟨rfl,rfl⟩
 exact hk
theorem Zbw {f:FuncId}{xs:List Operand}{ats:List AV}(hx:xs.map (Zad T)=ats) (hc : ∀ h,HExt h0 h→ACalls P f ats h fun r h'=>h'=h∧r=.ret c) (hp:aPut T d c=T') (hk:adrun P rs h0 rest T' ents K):adrun P rs h0 (⟨d,none,.call (.func f) xs⟩::rest) T ents K:=by
 subst hp hx
 refine⟨fun _=>⟨c,fun h hh=>⟨rfl,rfl,hc h hh⟩,hk⟩,fun h=>by cases h⟩
end run
section vals
variable {h : AH} {T : List AV} {x y i : Operand} {c : AV}
theorem v_mv (hx:Zad T x=c):aval h (Zad T) (.mv x)=some c:=by simp only[aval,hx]
theorem Zag {a b k:Operand}(hk:Zad T k=bv true) (ha:Zad T a=c):aval h (Zad T) (.pick k a b)=some c:=by simp only[aval,hk,cond_true,ha]
theorem Zab {a b k:Operand}(hk:Zad T k=bv false) (hb:Zad T b=c):aval h (Zad T) (.pick k a b)=some c:=by simp only[aval,hk,cond_false,hb]
theorem Zae {sz id v o ty s:Nat}{cells:List AV}(hx:Zad T x=.ptr id v o) (he:h[id]?=some (.mk v ty s cells)) (hc:cells[o]?=some c):aval h (Zad T) (.load false sz x)=some c:=by
 simp only[aval,hx,Zb7,he,if_true,Option.bind_some]
 have:cells.drop o=c::cells.drop (o+1):=by
  obtain⟨hlt,rfl⟩:=List.getElem?_eq_some_iff.1 hc
  exact List.drop_eq_getElem_cons hlt
 rw[this];rfl
theorem ZaE {sz id v o ty s:Nat}{cells cs:List AV}(hx:Zad T x=.ptr id v o) (he:h[id]?=some (.mk v ty s cells)) (hc:(cells.drop o).take sz=cs) (hl:cs.length=sz):aval h (Zad T) (.load true sz x)=some (.agg cs):=by
 simp only[aval,hx,Zb7,he,if_true,Option.bind_some,Zb8]
 subst hc
 rw[List.length_take] at hl
 rw[if_pos (by omega)]
theorem ZaA {sz:Nat}{cells:List AV}(hx:Zad T x=.rp cells) (hc:cells[0]?=some c):aval h (Zad T) (.load false sz x)=some c:=by
 simp only[aval,hx,Zb7,Option.bind_some]
 cases cells with
 | nil=>simp at hc
 | cons a l=>simp at hc;subst hc;rfl
theorem Zd1 {sz:Nat}{cells cs:List AV}(hx:Zad T x=.rp cells) (hc:cells.take sz=cs) (hl:cs.length=sz):aval h (Zad T) (.load true sz x)=some (.agg cs):=by
 simp only[aval,hx,Zb7,Option.bind_some,Zb8]
 subst hc
 rw[List.length_take] at hl
 rw[if_pos (by omega)]
theorem ZbL {id v o:Nat}(hx:Zad T x=.ptr id v o):aval h (Zad T) (.nck x)=some (.ptr id v o):=by simp only[aval,hx]
theorem Zch {off id v o:Nat}(hx:Zad T x=.ptr id v o):aval h (Zad T) (.fa off x)=some (.ptr id v (o+off)):=by simp only[aval,hx]
theorem Zac {off id v:Nat}(hx:Zad T x=.ptr id v 0):aval h (Zad T) (.fa off x)=some (.ptr id v off):=by simp only[aval,hx,Nat.zero_add]
theorem Zbf {off:Nat}{cs ds:List AV}(hx:Zad T x=.rp cs) (hd:cs.drop off=ds):aval h (Zad T) (.fa off x)=some (.rp ds):=by simp only[aval,hx,hd]
theorem v_fld {off sz:Nat}{cs:List AV}(hx:Zad T x=.agg cs) (hc:cs[off]?=some c):aval h (Zad T) (.fld false off sz x)=some c:=by
 simp only[aval,hx,Zkz]
 have:cs.drop off=c::cs.drop (off+1):=by
  obtain⟨hlt,rfl⟩:=List.getElem?_eq_some_iff.1 hc
  exact List.drop_eq_getElem_cons hlt
 rw[this];rfl
theorem Zej {op:BinOp}{a b:Value}(hx:Zad T x=.v a) (hy:Zad T y=.v b) (hv:vBin op a b=some c):aval h (Zad T) (.bin op x y)=some c:=by simp only[aval,hx,hy,hv]
theorem w64 {e:Int}(h1 : -9223372036854775808≤e) (h2:e≤9223372036854775807):IntKind.i64.wrap e=e:=by rw[IntKind.wrap_i64];omega
theorem Zau {a b:Int}(hx:Zad T x=iv a) (hy:Zad T y=iv b) (h1 : -9223372036854775808≤a+b) (h2:a+b≤9223372036854775807):aval h (Zad T) (.bin .add x y)=some (iv (a+b)):=Zej hx hy (by simp only[vBin,if_true,iBin,w64 h1 h2])
theorem Zbi {a b:Int}(hx:Zad T x=iv a) (hy:Zad T y=iv b) (h1 : -9223372036854775808≤a-b) (h2:a-b≤9223372036854775807):aval h (Zad T) (.bin .sub x y)=some (iv (a-b)):=Zej hx hy (by simp only[vBin,if_true,iBin,w64 h1 h2])
theorem Ze7 {a b:Int}(hx:Zad T x=iv a) (hy:Zad T y=iv b) (h1 : -9223372036854775808≤a*b) (h2:a*b≤9223372036854775807):aval h (Zad T) (.bin .mul x y)=some (iv (a*b)):=Zej hx hy (by simp only[vBin,if_true,iBin,w64 h1 h2])
theorem Zey {a b:Int}(hx:Zad T x=iv a) (hy:Zad T y=iv b) (h0:0≤a) (hb:0<b) (h2:a≤9223372036854775807):aval h (Zad T) (.bin .quo x y)=some (iv (a/b)):=Zej hx hy (by
 have e:a.tdiv b=a/b:=Int.tdiv_eq_ediv_of_nonneg h0
 have h3:a/b≤a:=Int.ediv_le_self _ h0
 have h4:0≤a/b:=Int.ediv_nonneg h0 (by omega)
 simp only[vBin,if_true,iBin,if_neg (show ¬b=0 by omega),e,w64 (show -9223372036854775808≤a/b by omega) (show a/b≤9223372036854775807 by omega)])
theorem Zex {a b:Int}{k:IntKind}(hx:Zad T x=.v (.int k a)) (hy:Zad T y=.v (.int k b)) (h0:0≤a) (hb:b≠0):aval h (Zad T) (.bin .rem x y)=some (.v (.int k (a%b))):=Zej hx hy (by
 have e:a.tmod b=a%b:=Int.tmod_eq_emod_of_nonneg h0
 simp only[vBin,if_true,iBin,if_neg hb,e])
theorem Zke {a b:Int}{k:IntKind}(hx:Zad T x=.v (.int k a)) (hy:Zad T y=.v (.int k b)) (hb:b≠0):aval h (Zad T) (.bin .rem x y)=some (.v (.int k (a.tmod b))):=Zej hx hy (by simp only[vBin,if_true,iBin,if_neg hb])
theorem ZbP {a b:Int}{k:IntKind}(hx:Zad T x=.v (.int k a)) (hy:Zad T y=.v (.int k b)):aval h (Zad T) (.bin .lss x y)=some (bv (decide (a<b))):=Zej hx hy (by simp only[vBin,if_true,iBin])
theorem Zc5 {a b:Int}{k:IntKind}(hx:Zad T x=.v (.int k a)) (hy:Zad T y=.v (.int k b)):aval h (Zad T) (.bin .leq x y)=some (bv (decide (a≤b))):=Zej hx hy (by simp only[vBin,if_true,iBin])
theorem ZbI {a b:Int}{k:IntKind}(hx:Zad T x=.v (.int k a)) (hy:Zad T y=.v (.int k b)):aval h (Zad T) (.bin .gtr x y)=some (bv (decide (b<a))):=Zej hx hy (by simp only[vBin,if_true,iBin,gt_iff_lt])
theorem Ze8 {a b:Int}{k:IntKind}(hx:Zad T x=.v (.int k a)) (hy:Zad T y=.v (.int k b)):aval h (Zad T) (.bin .geq x y)=some (bv (decide (b≤a))):=Zej hx hy (by simp only[vBin,if_true,iBin,ge_iff_le])
theorem ZaS {a b:Int}{k:IntKind}(hx:Zad T x=.v (.int k a)) (hy:Zad T y=.v (.int k b)):aval h (Zad T) (.bin .eql x y)=some (bv (decide (a=b))):=Zej hx hy (by simp only[vBin,if_true,iBin];rfl)
theorem Za1 {a b:Int}{k:IntKind}(hx:Zad T x=.v (.int k a)) (hy:Zad T y=.v (.int k b)):aval h (Zad T) (.bin .neq x y)=some (bv (decide (a≠b))):=Zej hx hy (by
 simp only[vBin,if_true,iBin]
 by_cases hab:a=b <;> simp[hab])
theorem ZeU (a b:ByteArray):(a==b)=decide (a=b):=by
 rw[beq_toListBytes,ByteArray.toList_eq,ByteArray.toList_eq]
 by_cases h:a=b
 ·subst h;simp
 ·have:a.data≠b.data:=fun e=>h (ByteArray.ext e)
  simp[h,this]
theorem ZcW {a b:ByteArray}(hx:Zad T x=sv a) (hy:Zad T y=sv b):aval h (Zad T) (.bin .eql x y)=some (bv (decide (a=b))):=Zej hx hy (by simp only[vBin,sBin,ZeU])
theorem ZcV {a b:ByteArray}(hx:Zad T x=sv a) (hy:Zad T y=sv b):aval h (Zad T) (.bin .neq x y)=some (bv (decide (a≠b))):=Zej hx hy (by
 simp only[vBin,sBin,ZeU]
 by_cases hab:a=b <;> simp[hab])
theorem v_addS {a b:ByteArray}(hx:Zad T x=sv a) (hy:Zad T y=sv b) (hl:a.size+b.size≤9223372036854775807):aval h (Zad T) (.bin .add x y)=some (sv (a++b)):=Zej hx hy (by simp only[vBin,sBin,if_pos hl])
theorem v_eqb {neg a b:Bool}(hx:Zad T x=bv a) (hy:Zad T y=bv b):aval h (Zad T) (.eqb neg x y)=some (bv (bif neg then !(a==b) else a==b)):=by simp only[aval,hx,hy]
theorem v_eqs {neg b:Bool}{ks:List LK}{cs ds:List AV}(hx:Zad T x=.agg cs) (hy:Zad T y=.agg ds) (he:ZbW ks cs ds=some b):aval h (Zad T) (.eqs neg ks x y)=some (bv (bif neg then !b else b)):=by simp only[aval,hx,hy,he,Option.map_some]
theorem v_neg {a:Int}(hx:Zad T x=iv a) (h1 : -9223372036854775807≤a) (h2:a≤9223372036854775807):aval h (Zad T) (.un .neg x)=some (iv (-a)):=by simp only[aval,hx,Int.zero_sub,w64 (show -9223372036854775808 ≤ -a by omega) (show -a≤9223372036854775807 by omega)]
theorem v_not {p:Prop} [Decidable p] (hx:Zad T x=bv (decide p)):aval h (Zad T) (.un .not x)=some (bv (decide (¬p))):=by
 simp only[aval,hx]
 by_cases hp:p <;> simp[hp]
theorem ZfX {a:Int}{k':IntKind}(hx:Zad T x=.v (.int k' a)) (h1 : -9223372036854775808≤a) (h2:a≤9223372036854775807):aval h (Zad T) (.cvi .i64 x)=some (iv a):=by simp only[aval,hx,w64 h1 h2]
theorem v_ix {s:ByteArray}{j:Int}{k:IntKind}(hx:Zad T x=sv s) (hi:Zad T i=.v (.int k j)) (h0:0≤j) (h1:j<s.size):aval h (Zad T) (.ix x i)=some (.v (.int .u8 (Zay s j.toNat).toNat)):=by simp only[aval,hx,hi,if_pos (And.intro h0 h1)]
theorem ZbJ {n:Nat}{l:List AV}(hx:Zad T x=.tup l) (hl:l[n]?=some c):aval h (Zad T) (.ext x n)=some c:=by simp only[aval,hx,hl]
theorem Za0 {s:ByteArray}(hx:Zad T x=sv s):aval h (Zad T) (.len true x)=some (iv s.size):=by simp only[aval,hx]
theorem Za6 {n st:Nat}{full:Bool}{cs:List AV}(hx:Zad T x=.sl n st full cs):aval h (Zad T) (.len false x)=some (iv n):=by simp only[aval,hx]
theorem ZdE {id v n:Nat}(hx:Zad T x=.own id v n):aval h (Zad T) (.len false x)=some (iv n):=by simp only[aval,hx]
theorem v_ia {st n:Nat}{full:Bool}{cs ds:List AV}{j:Int}{k:IntKind}(hx:Zad T x=.sl n st full cs) (hi:Zad T i=.v (.int k j)) (hst:0<st) (h0:0≤j) (h1:j<n) (hd:(cs.drop (j.toNat*st)).take st=ds):aval h (Zad T) (.ia st x i)=some (.rp ds):=by
 simp[aval,hx,hi,hst,h0,h1,hd]
theorem v_iaO {st n id v ty:Nat}{cells:List AV}{j:Int}{k:IntKind}(hx:Zad T x=.own id v n) (hi:Zad T i=.v (.int k j)) (he:h[id]?=some (.mk v ty st cells)) (hst:0<st) (h0:0≤j) (h1:j<n) (hl:n*st≤cells.length):aval h (Zad T) (.ia st x i)=some (.ptr id v (j.toNat*st)):=by
 simp[aval,hx,hi,he,hst,h0,h1,hl]
theorem Zax {zero cs:List AV}{ps:List (Nat×Nat×Operand)}(hf:Zaw (Zad T) ps zero=some cs):aval h (Zad T) (.build zero ps)=some (.agg cs):=by simp only[aval,hf,Option.map_some]
theorem Zc4 {s:ByteArray}{lo hi:Option Operand}{l u:Int}(hx:Zad T x=sv s) (hl:Za9 (Zad T) 0 lo=some l) (hh:Za9 (Zad T) s.size hi=some u) (h0:0≤l) (h1:l≤u) (h2:u≤s.size):aval h (Zad T) (.sls x lo hi)=some (sv (s.extract l.toNat u.toNat)):=by
 simp only[aval,hx,hl,hh,if_pos (And.intro h0 (And.intro h1 h2))]
theorem v_slc {n st:Nat}{full:Bool}{cs:List AV}{lo hi:Option Operand}{l u:Int}(hx:Zad T x=.sl n st full cs) (hl:Za9 (Zad T) 0 lo=some l) (hh:Za9 (Zad T) n hi=some u) (h0:0≤l) (h1:l≤u) (h2:u≤n) :
  aval h (Zad T) (.slc st x lo hi none)=some (.sl (u.toNat-l.toNat) st (full&&decide (u=n)) ((cs.drop (l.toNat*st)).take ((u.toNat-l.toNat)*st))):=by
 simp[aval,hx,hl,hh,h0,h1,h2]
theorem v_mkfn {f:Nat}{caps:List Operand}{cs:List AV}(hc:caps.map (Zad T)=cs):aval h (Zad T) (.mkfn f caps)=some (.clo (.func f) cs):=by simp only[aval,hc]
end vals
section effs
variable {h h' : AH} {T : List AV} {x y : Operand} {c : AV}
theorem ZbZ {ty sz id:Nat}{z:List AV}(hl:h.length=id) (hh:h++[.mk 0 ty sz z]=h'):aeff h (Zad T) (.new ty sz z)=some (.ptr id 0 0,h'):=by subst hl hh;rfl
theorem ZdO {ty sz id:Nat}{cs:List AV}(hc:Zas (Zad T x)=some cs) (hs:cs.length=sz) (hl:h.length=id) (hh:h++[.mk 0 ty sz cs]=h'):aeff h (Zad T) (.box ty sz x)=some (.ptr id 0 0,h'):=by
 subst hl hh;simp only[aeff,hc,if_pos hs]
theorem Zgo {ty st len id:Nat}{zero cs:List AV}{ps:List (Nat×Nat×Operand)}(hf:Zaw (Zad T) ps zero=some cs) (hl:h.length=id) (hh:h++[.mk 0 ty st cs]=h'):aeff h (Zad T) (.lit ty st len zero ps)=some (.own id 0 len,h'):=by
 subst hl hh;simp only[aeff,hf]
theorem Zam {sz id v o ty s:Nat}{cells cs cells':List AV}(hp:Zad T x=.ptr id v o) (hc:Zas (Zad T y)=some cs) (he:h[id]?=some (.mk v ty s cells)) (hs:cs.length=sz) (hle:o+sz≤cells.length) (hlf:cs.all leaf=true) (hst:setCells cells o cs=cells') (hh:h.set id (.mk v ty s cells')=h') :
  aeff h (Zad T) (.store sz x y)=some (.v undef,h'):=by
 subst hst hh;simp only[aeff,hp,hc,he];rw[if_pos ⟨trivial,hs,hle,hlf⟩]
theorem Zfl {ty sz bytes id v n m:Nat}{cells news:List AV}(hx:Zcj h sz (Zad T y)=some (m,news)) (hs:Zad T x=.own id v n) (he:h[id]?=some (.mk v ty sz cells)) (hl:cells.length=n*sz) (hb:(n+m)*bytes≤140737488355328) (hlf:news.all leaf=true) (hh:h.set id (.mk (v+1) ty sz (cells++news))=h') :
  aeff h (Zad T) (.app ty sz bytes x y)=some (.own id (v+1) (n+m),h'):=by
 subst hh;simp only[aeff,hx,hs,he];rw[if_pos ⟨trivial,trivial,trivial,hl,.inl hb,hlf⟩]
theorem l_lit {ty st len id:Nat}{zero cs:List AV}{ps:List (Nat×Nat×Operand)}(hf:Zaw (Zad T) ps zero=some cs):aallo id (Zad T) (.lit ty st len zero ps)=some (.own id 0 len,.mk 0 ty st cs):=by simp only[aallo,hf]
end effs
section code
variable {Q : AX → List AV → AH → Prop} {T : List AV} {h : AH} {a b : AC}
theorem Zar {al:List AOper}(hr:arun P (fun c T h=>Q (.pan c) T h) al T h (fun T h=>Q .normal T h)):aw P n0 (.reg al) Q T h:=hr
theorem w_drw {bl tl:List AOper}{q:List Bool}{rs:List Nat}(hr:adrun P rs h bl T [] fun T ents=>ZbX P rs q tl T (h++ents) (fun T h=>Q .normal T h)):aw P n0 (.drw bl q tl) Q T h:=⟨rs,hr⟩
theorem Zan (hr:aw P n0 a (AX.thn (fun T h => ∃ T1 h1,ALe n0 T h T1 h1∧aw P n0 b Q T1 h1) Q) T h):aw P n0 (.seq a b) Q T h:=hr
theorem Zao {id:Nat}(hr:aw P n0 a (AX.blk id Q) T h):aw P n0 (.block id a) Q T h:=hr
theorem ZaH {c:Operand}(hc:Zad T c=bv true) (hy:aw P n0 a Q T h):aw P n0 (.cond c a b) Q T h:=by
 simp only[aw,hc]
 exact⟨fun _=>hy,fun e=>(by cases e)⟩
theorem ZaG {c:Operand}(hc:Zad T c=bv false) (hn:aw P n0 b Q T h):aw P n0 (.cond c a b) Q T h:=by
 simp only[aw,hc]
 exact⟨fun e=>(by cases e),fun _=>hn⟩
theorem Zai {rs:List AR}{R:AE→AH→Prop}{c:AV}(hr:aRes rs T h=some c) (hR:R (.ret c) h):retA rs R .ret T h:=by simp only[retA,hr];exact hR
theorem w_end {rs:List AR}{R:AE→AH→Prop}{c:AV}(hr:aRes rs T h=some c) (hR:R (.ret c) h):retA rs R .normal T h:=by simp only[retA,hr];exact hR
end code
end
section
variable {g i j o p q r t u v w y z A B C D E F G H I J K L M N O P Q R S U V W X Y Z α β γ δ ε ζ η θ ι κ μ ν ξ π ρ σ τ υ φ χ ψ ω b60 b61 b62 b63 b64 b65 b66 b67 b68 b69 c d : AV} {l m : List AV}
class Lk (T:List AV) (o:Operand) (c:outParam AV):Prop where
  h:Zad T o=c
class Pt (T:List AV) (d:Option Nat) (c:AV) (U:outParam (List AV)):Prop where
  h:aPut T d c=U
class Gt (T:List AV) (n:Nat) (c:outParam AV):Prop where
  h:T[n]?=some c
theorem lk {T:List AV}{o:Operand}{c:AV}[i:Lk T o c]:Zad T o=c:=i.h
theorem pt {T U:List AV}{d:Option Nat}{c:AV}[i:Pt T d c U]:aPut T d c=U:=i.h
theorem gt {T:List AV}{n:Nat}{c:AV}[i:Gt T n c]:T[n]?=some c:=i.h
section
variable {A B D E F G H I J K M N O P Q R c:AV}{l m:List AV}{n:Nat}
instance:Lk (A::l) (.tmp 0) A:=⟨rfl⟩
instance:Pt (A::l) (some 0) c (c::l):=⟨rfl⟩
instance:Gt (A::l) 0 A:=⟨rfl⟩
instance:Lk (A::B::l) (.tmp 1) B:=⟨rfl⟩
instance:Pt (A::B::l) (some 1) c (A::c::l):=⟨rfl⟩
instance:Gt (A::B::l) 1 B:=⟨rfl⟩
instance:Lk (A::B::D::l) (.tmp 2) D:=⟨rfl⟩
instance:Pt (A::B::D::l) (some 2) c (A::B::c::l):=⟨rfl⟩
instance:Gt (A::B::D::l) 2 D:=⟨rfl⟩
instance:Lk (A::B::D::E::l) (.tmp 3) E:=⟨rfl⟩
instance:Pt (A::B::D::E::l) (some 3) c (A::B::D::c::l):=⟨rfl⟩
instance:Gt (A::B::D::E::l) 3 E:=⟨rfl⟩
instance:Lk (A::B::D::E::F::l) (.tmp 4) F:=⟨rfl⟩
instance:Pt (A::B::D::E::F::l) (some 4) c (A::B::D::E::c::l):=⟨rfl⟩
instance:Gt (A::B::D::E::F::l) 4 F:=⟨rfl⟩
instance:Lk (A::B::D::E::F::G::l) (.tmp 5) G:=⟨rfl⟩
instance:Pt (A::B::D::E::F::G::l) (some 5) c (A::B::D::E::F::c::l):=⟨rfl⟩
instance:Gt (A::B::D::E::F::G::l) 5 G:=⟨rfl⟩
instance:Lk (A::B::D::E::F::G::H::l) (.tmp 6) H:=⟨rfl⟩
instance:Pt (A::B::D::E::F::G::H::l) (some 6) c (A::B::D::E::F::G::c::l):=⟨rfl⟩
instance:Gt (A::B::D::E::F::G::H::l) 6 H:=⟨rfl⟩
instance:Lk (A::B::D::E::F::G::H::I::l) (.tmp 7) I:=⟨rfl⟩
instance:Pt (A::B::D::E::F::G::H::I::l) (some 7) c (A::B::D::E::F::G::H::c::l):=⟨rfl⟩
instance:Gt (A::B::D::E::F::G::H::I::l) 7 I:=⟨rfl⟩
instance:Lk (A::B::D::E::F::G::H::I::J::l) (.tmp 8) J:=⟨rfl⟩
instance:Pt (A::B::D::E::F::G::H::I::J::l) (some 8) c (A::B::D::E::F::G::H::I::c::l):=⟨rfl⟩
instance:Gt (A::B::D::E::F::G::H::I::J::l) 8 J:=⟨rfl⟩
instance:Lk (A::B::D::E::F::G::H::I::J::K::l) (.tmp 9) K:=⟨rfl⟩
instance:Pt (A::B::D::E::F::G::H::I::J::K::l) (some 9) c (A::B::D::E::F::G::H::I::J::c::l):=⟨rfl⟩
instance:Gt (A::B::D::E::F::G::H::I::J::K::l) 9 K:=⟨rfl⟩
instance:Lk (A::B::D::E::F::G::H::I::J::K::M::l) (.tmp 10) M:=⟨rfl⟩
instance:Pt (A::B::D::E::F::G::H::I::J::K::M::l) (some 10) c (A::B::D::E::F::G::H::I::J::K::c::l):=⟨rfl⟩
instance:Gt (A::B::D::E::F::G::H::I::J::K::M::l) 10 M:=⟨rfl⟩
instance:Lk (A::B::D::E::F::G::H::I::J::K::M::N::l) (.tmp 11) N:=⟨rfl⟩
instance:Pt (A::B::D::E::F::G::H::I::J::K::M::N::l) (some 11) c (A::B::D::E::F::G::H::I::J::K::M::c::l):=⟨rfl⟩
instance:Gt (A::B::D::E::F::G::H::I::J::K::M::N::l) 11 N:=⟨rfl⟩
instance:Lk (A::B::D::E::F::G::H::I::J::K::M::N::O::l) (.tmp 12) O:=⟨rfl⟩
instance:Pt (A::B::D::E::F::G::H::I::J::K::M::N::O::l) (some 12) c (A::B::D::E::F::G::H::I::J::K::M::N::c::l):=⟨rfl⟩
instance:Gt (A::B::D::E::F::G::H::I::J::K::M::N::O::l) 12 O:=⟨rfl⟩
instance:Lk (A::B::D::E::F::G::H::I::J::K::M::N::O::P::l) (.tmp 13) P:=⟨rfl⟩
instance:Pt (A::B::D::E::F::G::H::I::J::K::M::N::O::P::l) (some 13) c (A::B::D::E::F::G::H::I::J::K::M::N::O::c::l):=⟨rfl⟩
instance:Gt (A::B::D::E::F::G::H::I::J::K::M::N::O::P::l) 13 P:=⟨rfl⟩
instance:Lk (A::B::D::E::F::G::H::I::J::K::M::N::O::P::Q::l) (.tmp 14) Q:=⟨rfl⟩
instance:Pt (A::B::D::E::F::G::H::I::J::K::M::N::O::P::Q::l) (some 14) c (A::B::D::E::F::G::H::I::J::K::M::N::O::P::c::l):=⟨rfl⟩
instance:Gt (A::B::D::E::F::G::H::I::J::K::M::N::O::P::Q::l) 14 Q:=⟨rfl⟩
instance:Lk (A::B::D::E::F::G::H::I::J::K::M::N::O::P::Q::R::l) (.tmp 15) R:=⟨rfl⟩
instance:Pt (A::B::D::E::F::G::H::I::J::K::M::N::O::P::Q::R::l) (some 15) c (A::B::D::E::F::G::H::I::J::K::M::N::O::P::Q::c::l):=⟨rfl⟩
instance:Gt (A::B::D::E::F::G::H::I::J::K::M::N::O::P::Q::R::l) 15 R:=⟨rfl⟩
instance (priority := high) [i:Lk l (.tmp n) c]:Lk (A::B::D::E::F::G::H::I::J::K::M::N::O::P::Q::R::l) (.tmp (n+16)) c:=⟨i.h⟩
instance (priority := high) [i:Pt l (some n) c m]:Pt (A::B::D::E::F::G::H::I::J::K::M::N::O::P::Q::R::l) (some (n+16)) c (A::B::D::E::F::G::H::I::J::K::M::N::O::P::Q::R::m):=⟨by have h:=i.h;show _=_;simp only [aPut] at h ⊢;rw [←h];rfl⟩
instance (priority := high) [i:Gt l n c]:Gt (A::B::D::E::F::G::H::I::J::K::M::N::O::P::Q::R::l) (n+16) c:=⟨i.h⟩
end
theorem pt0:aPut (g::l) (some 0) c=c::l:=rfl
theorem gt0:(g::l)[0]?=some g:=rfl
theorem lk1:Zad (g::i::l) (.tmp 1)=i:=rfl
theorem pt1:aPut (g::i::l) (some 1) c=g::c::l:=rfl
theorem gt1:(g::i::l)[1]?=some i:=rfl
theorem pt2:aPut (g::i::j::l) (some 2) c=g::i::c::l:=rfl
theorem gt2:(g::i::j::l)[2]?=some j:=rfl
theorem pt3:aPut (g::i::j::o::l) (some 3) c=g::i::j::c::l:=rfl
theorem gt3:(g::i::j::o::l)[3]?=some o:=rfl
theorem pt4:aPut (g::i::j::o::p::l) (some 4) c=g::i::j::o::c::l:=rfl
theorem gt4:(g::i::j::o::p::l)[4]?=some p:=rfl
theorem pt5:aPut (g::i::j::o::p::q::l) (some 5) c=g::i::j::o::p::c::l:=rfl
theorem gt5:(g::i::j::o::p::q::l)[5]?=some q:=rfl
theorem pt6:aPut (g::i::j::o::p::q::r::l) (some 6) c=g::i::j::o::p::q::c::l:=rfl
theorem pt7:aPut (g::i::j::o::p::q::r::t::l) (some 7) c=g::i::j::o::p::q::r::c::l:=rfl
theorem gt7:(g::i::j::o::p::q::r::t::l)[7]?=some t:=rfl
theorem gt8:(g::i::j::o::p::q::r::t::u::l)[8]?=some u:=rfl
theorem pt9:aPut (g::i::j::o::p::q::r::t::u::v::l) (some 9) c=g::i::j::o::p::q::r::t::u::c::l:=rfl
theorem gt9:(g::i::j::o::p::q::r::t::u::v::l)[9]?=some v:=rfl
theorem pt10:aPut (g::i::j::o::p::q::r::t::u::v::w::l) (some 10) c=g::i::j::o::p::q::r::t::u::v::c::l:=rfl
theorem gt10:(g::i::j::o::p::q::r::t::u::v::w::l)[10]?=some w:=rfl
theorem lk11:Zad (g::i::j::o::p::q::r::t::u::v::w::y::l) (.tmp 11)=y:=rfl
theorem pt11:aPut (g::i::j::o::p::q::r::t::u::v::w::y::l) (some 11) c=g::i::j::o::p::q::r::t::u::v::w::c::l:=rfl
theorem gt11:(g::i::j::o::p::q::r::t::u::v::w::y::l)[11]?=some y:=rfl
theorem pt12:aPut (g::i::j::o::p::q::r::t::u::v::w::y::z::l) (some 12) c=g::i::j::o::p::q::r::t::u::v::w::y::c::l:=rfl
theorem lk38:Zad (g::i::j::o::p::q::r::t::u::v::w::y::z::A::B::C::D::E::F::G::H::I::J::K::L::M::N::O::P::Q::R::S::U::V::W::X::Y::Z::α::l) (.tmp 38)=α:=rfl
theorem lk39:Zad (g::i::j::o::p::q::r::t::u::v::w::y::z::A::B::C::D::E::F::G::H::I::J::K::L::M::N::O::P::Q::R::S::U::V::W::X::Y::Z::α::β::l) (.tmp 39)=β:=rfl
theorem pt39:aPut (g::i::j::o::p::q::r::t::u::v::w::y::z::A::B::C::D::E::F::G::H::I::J::K::L::M::N::O::P::Q::R::S::U::V::W::X::Y::Z::α::β::l) (some 39) c=g::i::j::o::p::q::r::t::u::v::w::y::z::A::B::C::D::E::F::G::H::I::J::K::L::M::N::O::P::Q::R::S::U::V::W::X::Y::Z::α::c::l:=rfl
theorem lk40:Zad (g::i::j::o::p::q::r::t::u::v::w::y::z::A::B::C::D::E::F::G::H::I::J::K::L::M::N::O::P::Q::R::S::U::V::W::X::Y::Z::α::β::γ::l) (.tmp 40)=γ:=rfl
theorem pt40:aPut (g::i::j::o::p::q::r::t::u::v::w::y::z::A::B::C::D::E::F::G::H::I::J::K::L::M::N::O::P::Q::R::S::U::V::W::X::Y::Z::α::β::γ::l) (some 40) c=g::i::j::o::p::q::r::t::u::v::w::y::z::A::B::C::D::E::F::G::H::I::J::K::L::M::N::O::P::Q::R::S::U::V::W::X::Y::Z::α::β::c::l:=rfl
theorem lk41:Zad (g::i::j::o::p::q::r::t::u::v::w::y::z::A::B::C::D::E::F::G::H::I::J::K::L::M::N::O::P::Q::R::S::U::V::W::X::Y::Z::α::β::γ::δ::l) (.tmp 41)=δ:=rfl
theorem pt41:aPut (g::i::j::o::p::q::r::t::u::v::w::y::z::A::B::C::D::E::F::G::H::I::J::K::L::M::N::O::P::Q::R::S::U::V::W::X::Y::Z::α::β::γ::δ::l) (some 41) c=g::i::j::o::p::q::r::t::u::v::w::y::z::A::B::C::D::E::F::G::H::I::J::K::L::M::N::O::P::Q::R::S::U::V::W::X::Y::Z::α::β::γ::c::l:=rfl
theorem hs0 {h:AH}{n:Nat}(hn:h.length=n) {e0 e:Ent}{l:AH}:(h++(e0::l)).set (n+0) e=h++(e::l):=by subst hn;simp
theorem hl0 {h:AH}{n:Nat}(hn:h.length=n):(h++[]).length=n+0:=by subst hn;simp
theorem ha0 {h:AH}{ e:Ent}:(h++[])++[e]=h++[e]:=by simp
theorem hs1 {h:AH}{n:Nat}(hn:h.length=n) {e0 e1 e:Ent}{l:AH}:(h++(e0::e1::l)).set (n+1) e=h++(e0::e::l):=by subst hn;simp
theorem hl1 {h:AH}{n:Nat}(hn:h.length=n) {e0:Ent}:(h++[e0]).length=n+1:=by subst hn;simp
theorem ha1 {h:AH}{e0 e:Ent}:(h++[e0])++[e]=h++[e0,e]:=by simp
theorem hs2 {h:AH}{n:Nat}(hn:h.length=n) {e0 e1 e2 e:Ent}{l:AH}:(h++(e0::e1::e2::l)).set (n+2) e=h++(e0::e1::e::l):=by subst hn;simp
theorem hl2 {h:AH}{n:Nat}(hn:h.length=n) {e0 e1:Ent}:(h++[e0,e1]).length=n+2:=by subst hn;simp
theorem ha2 {h:AH}{e0 e1 e:Ent}:(h++[e0,e1])++[e]=h++[e0,e1,e]:=by simp
theorem hs3 {h:AH}{n:Nat}(hn:h.length=n) {e0 e1 e2 e3 e:Ent}{l:AH}:(h++(e0::e1::e2::e3::l)).set (n+3) e=h++(e0::e1::e2::e::l):=by subst hn;simp
theorem hl3 {h:AH}{n:Nat}(hn:h.length=n) {e0 e1 e2:Ent}:(h++[e0,e1,e2]).length=n+3:=by subst hn;simp
theorem ha3 {h:AH}{e0 e1 e2 e:Ent}:(h++[e0,e1,e2])++[e]=h++[e0,e1,e2,e]:=by simp
theorem hs4 {h:AH}{n:Nat}(hn:h.length=n) {e0 e1 e2 e3 e4 e:Ent}{l:AH}:(h++(e0::e1::e2::e3::e4::l)).set (n+4) e=h++(e0::e1::e2::e3::e::l):=by subst hn;simp
theorem hl4 {h:AH}{n:Nat}(hn:h.length=n) {e0 e1 e2 e3:Ent}:(h++[e0,e1,e2,e3]).length=n+4:=by subst hn;simp
theorem ha4 {h:AH}{e0 e1 e2 e3 e:Ent}:(h++[e0,e1,e2,e3])++[e]=h++[e0,e1,e2,e3,e]:=by simp
theorem hg5 {h:AH}{n:Nat}(hn:h.length=n) {e0 e1 e2 e3 e4 e5:Ent}{l:AH}:(h++(e0::e1::e2::e3::e4::e5::l))[n+5]?=some e5:=by subst hn;simp
theorem hs5 {h:AH}{n:Nat}(hn:h.length=n) {e0 e1 e2 e3 e4 e5 e:Ent}{l:AH}:(h++(e0::e1::e2::e3::e4::e5::l)).set (n+5) e=h++(e0::e1::e2::e3::e4::e::l):=by subst hn;simp
theorem hl5 {h:AH}{n:Nat}(hn:h.length=n) {e0 e1 e2 e3 e4:Ent}:(h++[e0,e1,e2,e3,e4]).length=n+5:=by subst hn;simp
theorem ha5 {h:AH}{e0 e1 e2 e3 e4 e:Ent}:(h++[e0,e1,e2,e3,e4])++[e]=h++[e0,e1,e2,e3,e4,e]:=by simp
theorem hg6 {h:AH}{n:Nat}(hn:h.length=n) {e0 e1 e2 e3 e4 e5 e6:Ent}{l:AH}:(h++(e0::e1::e2::e3::e4::e5::e6::l))[n+6]?=some e6:=by subst hn;simp
theorem hs6 {h:AH}{n:Nat}(hn:h.length=n) {e0 e1 e2 e3 e4 e5 e6 e:Ent}{l:AH}:(h++(e0::e1::e2::e3::e4::e5::e6::l)).set (n+6) e=h++(e0::e1::e2::e3::e4::e5::e::l):=by subst hn;simp
theorem hl6 {h:AH}{n:Nat}(hn:h.length=n) {e0 e1 e2 e3 e4 e5:Ent}:(h++[e0,e1,e2,e3,e4,e5]).length=n+6:=by subst hn;simp
theorem ha6 {h:AH}{e0 e1 e2 e3 e4 e5 e:Ent}:(h++[e0,e1,e2,e3,e4,e5])++[e]=h++[e0,e1,e2,e3,e4,e5,e]:=by simp
theorem hg7 {h:AH}{n:Nat}(hn:h.length=n) {e0 e1 e2 e3 e4 e5 e6 e7:Ent}{l:AH}:(h++(e0::e1::e2::e3::e4::e5::e6::e7::l))[n+7]?=some e7:=by subst hn;simp
theorem hs7 {h:AH}{n:Nat}(hn:h.length=n) {e0 e1 e2 e3 e4 e5 e6 e7 e:Ent}{l:AH}:(h++(e0::e1::e2::e3::e4::e5::e6::e7::l)).set (n+7) e=h++(e0::e1::e2::e3::e4::e5::e6::e::l):=by subst hn;simp
theorem hl7 {h:AH}{n:Nat}(hn:h.length=n) {e0 e1 e2 e3 e4 e5 e6:Ent}:(h++[e0,e1,e2,e3,e4,e5,e6]).length=n+7:=by subst hn;simp
theorem ha7 {h:AH}{e0 e1 e2 e3 e4 e5 e6 e:Ent}:(h++[e0,e1,e2,e3,e4,e5,e6])++[e]=h++[e0,e1,e2,e3,e4,e5,e6,e]:=by simp
theorem hg8 {h:AH}{n:Nat}(hn:h.length=n) {e0 e1 e2 e3 e4 e5 e6 e7 e8:Ent}{l:AH}:(h++(e0::e1::e2::e3::e4::e5::e6::e7::e8::l))[n+8]?=some e8:=by subst hn;simp
theorem hs8 {h:AH}{n:Nat}(hn:h.length=n) {e0 e1 e2 e3 e4 e5 e6 e7 e8 e:Ent}{l:AH}:(h++(e0::e1::e2::e3::e4::e5::e6::e7::e8::l)).set (n+8) e=h++(e0::e1::e2::e3::e4::e5::e6::e7::e::l):=by subst hn;simp
theorem hl8 {h:AH}{n:Nat}(hn:h.length=n) {e0 e1 e2 e3 e4 e5 e6 e7:Ent}:(h++[e0,e1,e2,e3,e4,e5,e6,e7]).length=n+8:=by subst hn;simp
theorem ha8 {h:AH}{e0 e1 e2 e3 e4 e5 e6 e7 e:Ent}:(h++[e0,e1,e2,e3,e4,e5,e6,e7])++[e]=h++[e0,e1,e2,e3,e4,e5,e6,e7,e]:=by simp
theorem hg9 {h:AH}{n:Nat}(hn:h.length=n) {e0 e1 e2 e3 e4 e5 e6 e7 e8 e9:Ent}{l:AH}:(h++(e0::e1::e2::e3::e4::e5::e6::e7::e8::e9::l))[n+9]?=some e9:=by subst hn;simp
theorem hl9 {h:AH}{n:Nat}(hn:h.length=n) {e0 e1 e2 e3 e4 e5 e6 e7 e8:Ent}:(h++[e0,e1,e2,e3,e4,e5,e6,e7,e8]).length=n+9:=by subst hn;simp
theorem ha9 {h:AH}{e0 e1 e2 e3 e4 e5 e6 e7 e8 e:Ent}:(h++[e0,e1,e2,e3,e4,e5,e6,e7,e8])++[e]=h++[e0,e1,e2,e3,e4,e5,e6,e7,e8,e]:=by simp
theorem dp0 {l:List AV}:(l).drop 0=l:=rfl
theorem dp1 {g:AV}{l:List AV}:(g::l).drop 1=l:=rfl
theorem dp2 {g i:AV}{l:List AV}:(g::i::l).drop 2=l:=rfl
theorem lki {T:List AV}{k:IntKind}{n:Int}:Zad T (.const (.int k n))=.v (.int k n):=rfl
theorem lkb {T:List AV}{b:Bool}:Zad T (.const (.bool b))=bv b:=rfl
theorem lks {T:List AV}{s:ByteArray}:Zad T (.const (.string s))=sv s:=rfl
theorem lkn {T:List AV}:Zad T (.const (.slice none 0 0))=.sl 0 0 true []:=rfl
theorem lkf {T:List AV}{f:FuncId}:Zad T (.func f)=.v (.func (.func f) #[] #[]):=rfl
theorem ptn {T:List AV}{c:AV}:aPut T none c=T:=rfl
theorem mp0 {T:List AV}:([]:List Operand).map (Zad T)=[]:=rfl
theorem mp1 {T:List AV}{x:Operand}{a:AV}{xs:List Operand}{ats:List AV}(h:Zad T x=a) (hs:xs.map (Zad T)=ats):(x::xs).map (Zad T)=a::ats:=by rw[List.map_cons,h,hs]
class Mp (T:List AV) (x:List Operand) (a:outParam (List AV)):Prop where
  h:x.map (Zad T)=a
theorem mp {T:List AV}{x:List Operand}{a:List AV}[i:Mp T x a]:x.map (Zad T)=a:=i.h
instance {T:List AV}:Mp T [] []:=⟨rfl⟩
instance {T:List AV}{o:Operand}{x:List Operand}{c:AV}{a:List AV}[i:Lk T o c][j:Mp T x a]:Mp T (o::x) (c::a):=⟨mp1 i.h j.h⟩
instance {T:List AV}{k:IntKind}{n:Int}:Lk T (.const (.int k n)) (.v (.int k n)):=⟨rfl⟩
instance {T:List AV}{b:Bool}:Lk T (.const (.bool b)) (bv b):=⟨rfl⟩
instance {T:List AV}{s:ByteArray}:Lk T (.const (.string s)) (sv s):=⟨rfl⟩
instance {T:List AV}:Lk T (.const (.slice none 0 0)) (.sl 0 0 true []):=⟨rfl⟩
instance {T:List AV}{f:FuncId}:Lk T (.func f) (.v (.func (.func f) #[] #[])):=⟨rfl⟩
end
end Go.Ab
end
section
namespace Go.Ab
section
variable {P : Program} {n0 : Nat}
theorem AX.thn_mono {N N':List AV→AH→Prop}{Q Q':AX→List AV→AH→Prop}(hn : ∀ T h,N T h→N' T h) (hq : ∀ x T h,Q x T h→Q' x T h) : ∀ x T h,AX.thn N Q x T h→AX.thn N' Q' x T h:=by
 intro x T h hx
 cases x <;> simp only[AX.thn] at hx ⊢ <;> first | exact hn _ _ hx | exact hq _ _ _ hx
theorem Zls {f:AV}{xs:List AV}{h:AH}{R R':AE→AH→Prop}(hr : ∀ r h,R r h→R' r h) (hc:Zeu P f xs h R):Zeu P f xs h R':=by
 unfold Zeu at *
 split
 ·exact⟨hc.1,hc.2.1,hc.2.2.mono hr⟩
 ·exact⟨hc.1,hc.2.1,fun w g vs hs ha=>by
   obtain⟨f,t,a,b,h1,h2⟩:=hc.2.2 w g vs hs ha
   exact⟨f,t,a,b,h1,h2.mono fun _ _ ⟨x,h',g',h1,h2,h3,h4,h5,h6⟩=>⟨x,h',g',h1,h2,h3,h4,h5,hr _ _ h6⟩⟩⟩
 ·exact hc.mono hr
 ·rename_i h1 h0 h2
  split at hc
  ·exact absurd rfl (h1 _ _ _)
  ·exact absurd rfl (h0 _ _ _)
  ·exact absurd rfl (h2 _ _)
  ·exact hc
theorem Zlq {Kp Kp':AV→List AV→AH→Prop}{K K':List AV→AH→Prop}(hp : ∀ c T h,Kp c T h→Kp' c T h) (hk : ∀ T h,K T h→K' T h) {o:AOper}{T:List AV}{h:AH}(hs:astep P Kp o T h K):astep P Kp' o T h K':=by
 unfold astep at *
 split
 ·rename_i heq
  rw[heq] at hs
  refine Zls ?_ hs
  intro r h' hr
  cases r <;> first | exact hk _ _ hr | exact hp _ _ _ hr
 ·rename_i heq
  rw[heq] at hs
  dsimp only at hs
  split at hs
  ·exact hp _ _ _ hs
  ·exact hs.elim
 ·rename_i heq
  rw[heq] at hs
  dsimp only at hs
  split at hs <;> rename_i hx
  ·exact fun b hb=>hk _ _ (hs b hb)
  ·exact hs.elim
 ·rename_i h1 h2 h3
  have hs':(match aval h (Zad T) o.op with
   | some c=>K (aPut T o.dst c) h
   | none=>match aeff h (Zad T) o.op with
    | some (c,h')=>K (aPut T o.dst c) h'
    | none=>False):=by
   split at hs
   ·rename_i heq;exact absurd heq (h1 _ _)
   ·rename_i heq;exact absurd heq (h2 _)
   ·rename_i heq;exact absurd heq (h3 _ _)
   ·exact hs
  cases hv:aval h (Zad T) o.op with
  | some c=>rw[hv] at hs';exact hk _ _ hs'
  | none =>
   rw[hv] at hs'
   cases hv2:aeff h (Zad T) o.op with
   | some p=>rw[hv2] at hs';exact hk _ _ hs'
   | none=>rw[hv2] at hs';exact hs'
theorem Zgv {Kp Kp':AV→List AV→AH→Prop}{K K':List AV→AH→Prop}(hp : ∀ c T h,Kp c T h→Kp' c T h) (hk : ∀ T h,K T h→K' T h) : ∀ (l:List AOper) (T:List AV) (h:AH),arun P Kp l T h K→arun P Kp' l T h K'
 | [],T,h,hr=>hk _ _ hr
 | o::l,T,h,hr=>ZeX (fun b ⟨h1,h2⟩=>⟨fun e=>Zlq hp (fun T h hr=>Zgv hp hk l T h hr) (h1 e),fun e=>Zgv hp hk l _ _ (h2 e)⟩) hr
theorem Zj8 {rs:List Nat}{K K':List AV→AH→Prop}(hk : ∀ T h,K T h→K' T h) {h0:AH}{o:AOper}{T:List AV}{ents:AH}(hs:adstep P rs h0 o T ents K):adstep P rs h0 o T ents K':=by
 unfold adstep at *
 split
 ·rename_i heq
  rw[heq] at hs
  obtain⟨c,h1,h2⟩:=hs
  exact⟨c,h1,hk _ _ h2⟩
 ·rename_i agg sz x heq
  rw[heq] at hs
  dsimp only at hs
  split at hs <;> rename_i hx
  ·split at hs <;> rename_i hy
   ·exact hk _ _ hs
   ·exact hs.elim
  ·obtain⟨ty,s,cells,c,h1,h2,h3,h4⟩:=hs
   exact⟨ty,s,cells,c,h1,h2,h3,hk _ _ h4⟩
  ·exact hs.elim
 ·rename_i h1 h1b
  have hs':(match aval h0 (Zad T) o.op with
   | some c=>K (aPut T o.dst c) ents
   | none => ∃ c ent,(aallo (h0.length+ents.length) (Zad T) o.op=some (c,ent)∨Zdi (h0.length+ents.length) (Zad T) o.op=some (c,ent))∧K (aPut T o.dst c) (ents++[ent])):=by
   split at hs
   ·rename_i heq;exact absurd heq (h1 _ _)
   ·rename_i heq;exact absurd heq (h1b _ _ _)
   ·exact hs
  cases hv:aval h0 (Zad T) o.op with
  | some c=>rw[hv] at hs';exact hk _ _ hs'
  | none =>
   rw[hv] at hs'
   obtain⟨c,ent,h1,h2⟩:=hs'
   exact⟨c,ent,h1,hk _ _ h2⟩
theorem Zdh {rs:List Nat}{K K':List AV→AH→Prop}(hk : ∀ T h,K T h→K' T h) {h0:AH} : ∀ (l:List AOper) (T:List AV) (h:AH),adrun P rs h0 l T h K→adrun P rs h0 l T h K'
 | [],T,h,hr=>hk _ _ hr
 | o::l,T,h,hr=>ZeX (fun b ⟨h1,h2⟩=>⟨fun e=>Zj8 (fun T h hr=>Zdh hk l T h hr) (h1 e),fun e=>Zdh hk l _ _ (h2 e)⟩) hr
theorem Zj7 {rs:List Nat}{K K':List AV→AH→Prop}(hk : ∀ T h,K T h→K' T h) {o:AOper}{T:List AV}{h:AH}(hs:ZfD P rs o T h K):ZfD P rs o T h K':=by
 unfold ZfD at *
 split
 ·rename_i heq
  rw[heq] at hs
  obtain⟨c,h',h1,h2,h3⟩:=hs
  exact⟨c,h',h1,h2,hk _ _ h3⟩
 ·rename_i heq;rw[heq] at hs;exact hs
 ·rename_i heq;rw[heq] at hs;exact hs
 ·rename_i h1 h2 h3
  have hs':(match aval h (Zad T) o.op with
   | some c=>K (aPut T o.dst c) h
   | none=>match aeff h (Zad T) o.op with
    | some (c,h')=>(∀ id∈rs,h'[id]?=h[id]?)∧K (aPut T o.dst c) h'
    | none=>False):=by
   split at hs
   ·rename_i heq;exact absurd heq (h1 _ _)
   ·rename_i heq;exact absurd heq (h2 _)
   ·rename_i heq;exact absurd heq (h3 _ _)
   ·exact hs
  cases hv:aval h (Zad T) o.op with
  | some c=>rw[hv] at hs';exact hk _ _ hs'
  | none =>
   rw[hv] at hs'
   cases hv2:aeff h (Zad T) o.op with
   | some p=>rw[hv2] at hs';exact⟨hs'.1,hk _ _ hs'.2⟩
   | none=>rw[hv2] at hs';exact hs'
theorem Zfp {rs:List Nat}{K K':List AV→AH→Prop}(hk : ∀ T h,K T h→K' T h) : ∀ (q:List Bool) (l:List AOper) (T:List AV) (h:AH),ZbX P rs q l T h K→ZbX P rs q l T h K'
 | q,[],T,h,hr=>by cases q <;> exact hk _ _ hr
 | q,o::l,T,h,hr=>ZeX (fun b ⟨h1,h2⟩=>⟨fun e=>Zj7 (fun T h hr=>Zfp hk q.tail l T h hr) (h1 e),fun e=>Zfp hk q.tail l _ _ (h2 e)⟩) hr
theorem Zj5 {K K':Bool×List Nat→List AV→AH→Prop}(hk : ∀ t T h,K t T h→K' t T h) {h0:AH}{o:AOper}{T:List AV}{h:AH}(hs:austep P h0 o T h K):austep P h0 o T h K':=by
 unfold austep at *
 split
 ·rename_i heq
  rw[heq] at hs
  rcases hs with ⟨c,a,b⟩ | ⟨c,a,b,d⟩ | ⟨c,n,i,e,a,b,d,k⟩
  ·exact .inl ⟨c,a,hk _ _ _ b⟩
  ·exact .inr (.inl ⟨c,a,b,hk _ _ _ d⟩)
  ·exact .inr (.inr ⟨c,n,i,e,a,b,d,hk _ _ _ k⟩)
 ·rename_i heq;rw[heq] at hs;exact hs
 ·rename_i heq;rw[heq] at hs;exact hs
 ·rename_i heq;rw[heq] at hs;exact hs
 ·rename_i h1 h2 h3 h4
  split at hs
  ·rename_i heq;exact absurd heq (h1 _ _)
  ·rename_i heq;exact absurd heq (h2 _)
  ·rename_i heq;exact absurd heq (h3 _ _)
  ·rename_i heq;exact absurd heq (h4 _ _ _)
  ·rcases hs with ⟨c,a,b⟩ | ⟨c,a,b,d⟩ | ⟨c,n,i,e,a,b⟩ | ⟨c,e,a,b⟩
   ·exact .inl ⟨c,a,hk _ _ _ b⟩
   ·exact .inr (.inl ⟨c,a,b,hk _ _ _ d⟩)
   ·exact .inr (.inr (.inl ⟨c,n,i,e,a,hk _ _ _ b⟩))
   ·exact .inr (.inr (.inr ⟨c,e,a,hk _ _ _ b⟩))
theorem Zes {K K':List AV→AH→Prop}(hk : ∀ T h,K T h→K' T h) {h0:AH} : ∀ (q:List (List Nat)) (l:List AOper) (tc:List (Bool×List Nat)) (T:List AV) (h:AH),Zb9 P h0 q l tc T h K→Zb9 P h0 q l tc T h K'
 | q,[],tc,T,h,hr=>by cases q <;> exact hk _ _ hr
 | q,o::l,tc,T,h,hr=>ZeX (fun b ⟨h1,h2⟩=>⟨fun e=>Zj5 (fun t T h hr=>⟨hr.1,Zes hk q.tail l _ T h hr.2⟩) (h1 e),fun e=>Zes hk q.tail l _ _ _ (h2 e)⟩) hr
theorem aw_mono : ∀ (c:AC) {Q Q':AX→List AV→AH→Prop},(∀ x T h,Q x T h→Q' x T h) → ∀ T h,aw P n0 c Q T h→aw P n0 c Q' T h:=by
 intro c
 induction c with
 | skip=>intro Q Q' hq T h hw;exact hq _ _ _ hw
 | reg al=>intro Q Q' hq T h hw;exact Zgv (fun c T h hk=>hq _ _ _ hk) (fun T h hk=>hq _ _ _ hk) _ _ _ hw
 | drw b q t =>
  intro Q Q' hq T h hw
  obtain⟨rs,hw⟩:=hw
  exact⟨rs,Zdh (fun T h hk=>Zfp (fun T h hk=>hq _ _ _ hk) _ _ _ _ hk) _ _ _ hw⟩
 | drwU q al=>intro Q Q' hq T h hw;exact Zes (fun T h hk=>hq _ _ _ hk) _ _ _ _ _ hw
 | orPan a x f al d0 iha =>
  intro Q Q' hq T h hw
  rcases hw with hw | ⟨cp,Pp,c,h1,h2,h3⟩
  ·exact .inl (iha hq _ _ hw)
  ·exact .inr ⟨cp,Pp,c,h1,h2,fun T'' h'' hp=>hq _ _ _ (h3 T'' h'' hp)⟩
 | seq a b iha ihb =>
  intro Q Q' hq T h hw
  exact iha (AX.thn_mono (fun T h ⟨T1,h1,hl,hk⟩=>⟨T1,h1,hl,ihb hq _ _ hk⟩) hq) _ _ hw
 | cond c a b iha ihb =>
  intro Q Q' hq T h hw
  simp only[aw] at hw ⊢
  split at hw <;> rename_i hx <;> try (exact hw.elim)
  exact⟨fun e=>iha hq _ _ (hw.1 e),fun e=>ihb hq _ _ (hw.2 e)⟩
 | block id a iha =>
  intro Q Q' hq T h hw
  refine iha ?_ _ _ hw
  intro x T h hx
  cases x <;> simp only[AX.blk] at hx ⊢ <;> try (exact hq _ _ _ hx)
  split at hx
  ·rename_i e;rw[if_pos e];exact hq _ _ _ hx
  ·rename_i e;rw[if_neg e];exact hq _ _ _ hx
 | loop a iha =>
  intro Q Q' hq T h hw
  obtain⟨I,n,h0,hr⟩:=hw
  exact⟨I,n,h0,fun n T h hI=>iha (AX.thn_mono (fun _ _ hk=>hk) hq) _ _ (hr n T h hI)⟩
 | exit id=>intro Q Q' hq T h hw;exact hq _ _ _ hw
 | ret=>intro Q Q' hq T h hw;exact hq _ _ _ hw
def Wk (c d:AV):Prop := ∀ (w:World) (g:Gh) (v:Value),Rep w g c v→Rep w g d v
theorem Wk.refl (c:AV):Wk c c:=fun _ _ _ h=>h
theorem Wk.any (c:AV):Wk c .any:=fun _ _ _ _=>by simp only[Rep]
theorem Wk.trans {a b c:AV}(h:Wk a b) (k:Wk b c):Wk a c:=fun w g v x=>k w g v (h w g v x)
theorem Wk.nil {st st':Nat}{full:Bool}:Wk (.sl 0 st full []) (.sl 0 st' full []):=fun w g v h=>by
 simp only[Rep] at h ⊢
 obtain⟨_,A,cap,h1,h2,h3,h4,h5,_⟩:=h
 exact⟨by simp,A,cap,h1,h2,h3,h4,h5,fun h=>absurd rfl h⟩
theorem Wk.full {n st:Nat}{full:Bool}{cs:List AV}:Wk (.sl n st full cs) (.sl n st false cs):=fun w g v h=>by
 simp only[Rep] at h ⊢
 obtain⟨h0,A,cap,h1,h2,h3,h4,h5,h6⟩:=h
 exact⟨h0,A,cap,h1,h2,h3,fun h=>(by cases h),h5,h6⟩
theorem Wk.nilF {st st':Nat}{full:Bool}:Wk (.sl 0 st full []) (.sl 0 st' false []):=Wk.nil.trans Wk.full
def WkL:List AV→List AV→Prop
 | [],[]=>True
 | c::cs,d::ds=>Wk c d∧WkL cs ds
 | _,_=>False
theorem WkL.refl : ∀ l,WkL l l
 | []=>trivial
 | c::cs=>⟨Wk.refl c,WkL.refl cs⟩
theorem RepL.wk {w:World}{g:Gh} : ∀ {cs ds:List AV}{vs:List Value},WkL cs ds→RepL w g cs vs→RepL w g ds vs
 | [],[],vs,_,h=>h
 | c::cs,d::ds,vs,hs,h=>by
  simp only[RepL] at h ⊢
  obtain⟨u,us,e,h1,h2⟩:=h
  exact⟨u,us,e,hs.1 _ _ _ h1,RepL.wk hs.2 h2⟩
 | [],_::_,_,hs,_=>hs.elim
 | _::_,[],_,hs,_=>hs.elim
theorem Wk.agg {cs ds:List AV}(h:WkL cs ds):Wk (.agg cs) (.agg ds):=fun w g v hr=>by
 simp only[Rep] at hr ⊢
 obtain⟨vs,e,hc⟩:=hr
 exact⟨vs,e,hc.wk h⟩
theorem Wk.tup {cs ds:List AV}(h:WkL cs ds):Wk (.tup cs) (.tup ds):=fun w g v hr=>by
 simp only[Rep] at hr ⊢
 obtain⟨vs,e,hc⟩:=hr
 exact⟨vs,e,hc.wk h⟩
theorem ALe.wk {T T1:List AV}{h:AH}(hs:WkL T T1):ALe n0 T h T1 h:=fun w0 S0 g0 a w g st=>⟨g,st.tmps.wk hs,st.defers,st.sim,st.fr,st.le,st.bd,st.ow⟩
theorem ACalls.wk {f:FuncId}{as1 bs:List AV}{h:AH}{R:AE→AH→Prop}(hw:WkL as1 bs) (hc:ACalls P f bs h R):ACalls P f as1 h R:=⟨hc.1,fun w g vs hs ha=>hc.2 w g vs hs (ha.wk hw)⟩
section code
variable {Kp : AV → List AV → AH → Prop} {K N : List AV → AH → Prop} {Q : AX → List AV → AH → Prop} {T : List AV} {h : AH} {a b : AC} {i j : Nat}
theorem Zaq (hk:K T h):arun P Kp [] T h K:=hk
theorem ZbB {rs:List Nat}{h0:AH}(hk:K T h):adrun P rs h0 [] T h K:=hk
theorem Zaf (hq:Q .normal T h):aw P n0 .skip Q T h:=hq
theorem ZaX (hq:Q (.exit i) T h):aw P n0 (.exit i) Q T h:=hq
theorem Zaa (hq:Q .ret T h):aw P n0 .ret Q T h:=hq
theorem Zah (hr:aw P n0 b Q T h):AX.thn (fun T h => ∃ T1 h1,ALe n0 T h T1 h1∧aw P n0 b Q T1 h1) Q .normal T h:=⟨T,h,ALe.refl,hr⟩
theorem ZbY {T1:List AV}{h1:AH}(hl:ALe n0 T h T1 h1) (hr:aw P n0 b Q T1 h1):AX.thn (fun T h => ∃ T1 h1,ALe n0 T h T1 h1∧aw P n0 b Q T1 h1) Q .normal T h:=⟨T1,h1,hl,hr⟩
theorem ZaB (hr:N T h):AX.thn N Q .normal T h:=hr
theorem ZaC (hr:Q .normal T h):AX.blk i Q .normal T h:=hr
theorem ZaN (hr:Q (.exit i) T h):AX.thn N Q (.exit i) T h:=hr
theorem Zbq (hr:Q .normal T h):AX.blk i Q (.exit i) T h:=by simp only[AX.blk,if_true];exact hr
theorem Zal (hr:Q .ret T h):AX.thn N Q .ret T h:=hr
theorem Zap (hr:Q .ret T h):AX.blk i Q .ret T h:=hr
theorem Zaz {c:Operand}{t:Bool}(hc:Zad T c=bv t) (hy:t=true→aw P n0 a Q T h) (hn:t=false→aw P n0 b Q T h):aw P n0 (.cond c a b) Q T h:=by
 simp only[aw,hc]
 exact⟨hy,hn⟩
theorem ZfO {t:Nat}{c:AV}(ht:T[t]?=some c):T.set t c=T:=by
 apply List.ext_getElem?
 intro j
 by_cases hj:j=t
 ·subst hj
  have:j<T.length:=(List.getElem?_eq_some_iff.1 ht).1
  rw[List.getElem?_set_self this,ht]
 ·rw[List.getElem?_set_ne (Ne.symm hj)]
theorem ZaI {t:Nat}{p:Bool}{T1 T2:List AV}{al:List AOper}(ht:T[t]?=some (bv p)) (hp1:aPut T (some t) (bv true)=T1) (hp2:aPut T (some t) (bv false)=T2) (hy:p=true→arun P Kp al T1 h K) (hn:p=false→arun P Kp al T2 h K):arun P Kp al T h K:=by
 have hs:=ZfO ht
 cases p
 ·rw[←hs];have:=hn rfl;rw[←hp2] at this;exact this
 ·rw[←hs];have:=hy rfl;rw[←hp1] at this;exact this
theorem Zia {rs:List Nat}{h0:AH}{t:Nat}{p:Bool}{T1 T2:List AV}{al:List AOper}(ht:T[t]?=some (bv p)) (hp1:aPut T (some t) (bv true)=T1) (hp2:aPut T (some t) (bv false)=T2) (hy:p=true→adrun P rs h0 al T1 h K) (hn:p=false→adrun P rs h0 al T2 h K):adrun P rs h0 al T h K:=by
 have hs:=ZfO ht
 cases p
 ·rw[←hs];have:=hn rfl;rw[←hp2] at this;exact this
 ·rw[←hs];have:=hy rfl;rw[←hp1] at this;exact this
theorem ZjC {t:Nat}{p b:Bool}{T1:List AV}{al:List AOper}(ht:T[t]?=some (bv p)) (hb:p=b) (hp1:aPut T (some t) (bv b)=T1) (hy:arun P Kp al T1 h K):arun P Kp al T h K:=by
 have hs:=ZfO ht
 subst hb
 rw[←hs];rw[←hp1] at hy;exact hy
theorem Zfm {rs:List Nat}{h0:AH}{t:Nat}{p b:Bool}{T1:List AV}{al:List AOper}(ht:T[t]?=some (bv p)) (hb:p=b) (hp1:aPut T (some t) (bv b)=T1) (hy:adrun P rs h0 al T1 h K):adrun P rs h0 al T h K:=by
 have hs:=ZfO ht
 subst hb
 rw[←hs];rw[←hp1] at hy;exact hy
theorem ZdD {c:Operand}{p:Bool}(hc:Zad T c=bv p) (hp:p=true) (hy:aw P n0 a Q T h):aw P n0 (.cond c a b) Q T h:=ZaH (by rw[hc,hp]) hy
theorem Zb1 {c:Operand}{p:Bool}(hc:Zad T c=bv p) (hp:p=false) (hy:aw P n0 b Q T h):aw P n0 (.cond c a b) Q T h:=ZaG (by rw[hc,hp]) hy
theorem w_seqc {ι:Type}(S:ι→List AV×AH) (J:ι→Prop) (ha:aw P n0 a (AX.thn (fun T h => ∃ i,J i∧ALe n0 T h (S i).1 (S i).2) Q) T h) (hb : ∀ i,J i→aw P n0 b Q (S i).1 (S i).2):aw P n0 (.seq a b) Q T h :=
 aw_mono a (AX.thn_mono (fun T h ⟨i,hi,hl⟩=>⟨_,_,hl,hb i hi⟩) (fun _ _ _ hq=>hq)) T h ha
def ZcG:List AV→List (Nat×AV)→List AV
 | T,[]=>T
 | T,(k,c)::ps=>ZcG (T.set k c) ps
def ZdI:AH→List (Nat×Ent)→AH
 | E,[]=>E
 | E,(k,e)::ps=>ZdI (E.set k e) ps
theorem ZfW {b:AC}{E:AH}{h0:AH}{ι:Type}(f:ι→List (Nat×AV)) (g:ι→List (Nat×Ent)) (J:ι→Prop) (ha:aw P n0 a (AX.thn (fun T' h' => ∃ i,J i∧ALe n0 T' h' (ZcG T (f i)) (h0++ZdI E (g i))) Q) T (h0++E)) (hb : ∀ i,J i→aw P n0 b Q (ZcG T (f i)) (h0++ZdI E (g i))):aw P n0 (.seq a b) Q T (h0++E) :=
 w_seqc (fun i=>(ZcG T (f i),h0++ZdI E (g i))) J ha hb
theorem Ziu {E:AH}{h0:AH}{ι:Type}(f:ι→List (Nat×AV)) (g:ι→List (Nat×Ent)) (I:ι→Prop) (m:ι→Nat) (i0:ι) (hI:I i0) (hl:ALe n0 T (h0++E) (ZcG T (f i0)) (h0++ZdI E (g i0)))
  (round : ∀ i,I i→aw P n0 a (AX.thn (LoopTo n0 (fun i=>(ZcG T (f i),h0++ZdI E (g i))) I m i) Q) (ZcG T (f i)) (h0++ZdI E (g i))):aw P n0 (.loop a) Q T (h0++E) :=
 Zne (fun i=>(ZcG T (f i),h0++ZdI E (g i))) I m i0 hI hl round
theorem ALe.back {T T1:List AV}{h0 E E1 x:AH}{k:Nat}(hs:WkL T T1) (he:E=E1++x) (hk:h0.length+E1.length=k) (hn:n0≤k) (hT:AV.ltL k T1=true) (hh : ∀ e∈h0,e.lt k=true) (hE:E1.all (Ent.lt k)=true):ALe n0 T (h0++E) T1 (h0++E1):=by
 subst he hk
 refine (ALe.wk hs).trans ?_
 have hl:(h0++E1).length=h0.length+E1.length:=by simp
 rw[←List.append_assoc]
 refine ALe.cut (by rw[hl];exact hn) (by rw[hl];exact hT) ?_
 rw[hl]
 intro e he
 rcases List.mem_append.1 he with h1 | h1
 ·exact hh e h1
 ·exact List.all_eq_true.1 hE e h1
theorem ALe.same {T T1:List AV}{h h1:AH}(hs:WkL T T1) (he:h=h1):ALe n0 T h T1 h1:=by subst he;exact ALe.wk hs
theorem wk1 {c d:AV}{cs ds:List AV}(h:d=c) (hs:WkL cs ds):WkL (c::cs) (d::ds):=⟨by subst h;exact Wk.refl _,hs⟩
theorem wka {c:AV}{cs ds:List AV}(hs:WkL cs ds):WkL (c::cs) (.any::ds):=⟨Wk.any _,hs⟩
theorem wkw {c d:AV}{cs ds:List AV}(h:Wk c d) (hs:WkL cs ds):WkL (c::cs) (d::ds):=⟨h,hs⟩
theorem wk0:WkL [] []:=trivial
theorem ivx {a b:Int}(h:a=b):iv a=iv b:=by rw[h]
theorem hga {l:AH}{n k:Nat}{e:Ent}(hn:h.length=n) (hk:l[k]?=some e):(h++l)[n+k]?=some e:=by subst hn;rw[List.getElem?_append_right (by omega),Nat.add_sub_cancel_left,hk]
theorem ltw {n m:Nat}(h:n≤m) {l:AH}(hl : ∀ e∈l,e.lt n=true) : ∀ e∈l,e.lt m=true:=fun e he=>Ent.lt_mono h (hl e he)
end code
section run
variable {Kp : AV → List AV → AH → Prop} {K : List AV → AH → Prop} {rest : List AOper} {T T' : List AV} {h h' h0 ents ents' : AH} {d : Option Nat} {op : AOp} {c : AV}
theorem s_callT {f:FuncId}{x:Operand}{xs:List Operand}{as1:List AV}(hf:Zad T x=.v (.func (.func f) #[] #[])) (hx:xs.map (Zad T)=as1) (hc:ACalls P f as1 h fun r h'=>h'=h∧r=.ret c) (hp:aPut T d c=T') (hk:arun P Kp rest T' h K):arun P Kp (⟨d,none,.call x xs⟩::rest) T h K:=by
 subst hp hx
 refine⟨fun _=>?_,fun h=>by cases h⟩
 simp only[astep,hf,Zeu]
 refine⟨trivial,trivial,hc.mono ?_⟩
 rintro r h' ⟨rfl,rfl⟩
 exact hk
theorem s_callC {f:FuncId}{x:Operand}{xs:List Operand}{as1 caps:List AV}(hf:Zad T x=.clo (.func f) caps) (hx:xs.map (Zad T)=as1) (hc:ACalls P f (as1++caps) h fun r h'=>h'=h∧r=.ret c) (hp:aPut T d c=T') (hk:arun P Kp rest T' h K):arun P Kp (⟨d,none,.call x xs⟩::rest) T h K:=by
 subst hp hx
 refine⟨fun _=>?_,fun h=>by cases h⟩
 simp only[astep,hf,Zeu]
 refine hc.mono ?_
 rintro r h' ⟨rfl,rfl⟩
 exact hk
theorem ZaJ {f:FuncId}{xs:List Operand}{as1:List AV}{e:Ent}{id:Nat}(hx:xs.map (Zad T)=as1) (hc:ACalls P f as1 h fun r h''=>r=.ret c∧h''=h.set id e) (hh:h.set id e=h') (hp:aPut T d c=T') (hk:arun P Kp rest T' h' K):arun P Kp (⟨d,none,.call (.func f) xs⟩::rest) T h K:=by
 subst hp hh
 refine Zml hx hc ?_
 rintro r h' ⟨rfl,rfl⟩
 exact hk
theorem k_calls {m:Bool}{q:List Bool}{rs:List Nat}{f:FuncId}{xs:List Operand}{as1:List AV}{e:Ent}{id:Nat}(hx:xs.map (Zad T)=as1) (hc:ACalls P f as1 h fun r h''=>r=.ret c∧h''=h.set id e) (hh:h.set id e=h') (hr : ∀ id∈(bif m then rs else []),h'[id]?=h[id]?) (hp:aPut T d c=T') (hk:ZbX P rs q rest T' h' K):ZbX P rs (m::q) (⟨d,none,.call (.func f) xs⟩::rest) T h K:=by
 subst hh
 exact k_call hx hc hr hp hk
end run
section more
variable {Q : AX → List AV → AH → Prop} {T : List AV} {h : AH} {a : AC}
theorem ZcT {c:AC}{h1:AH}(he:h1=h) (hw:aw P n0 c Q T h1):aw P n0 c Q T h:=by subst he;exact hw
theorem ZlV {ι:Type}(f:ι→List (Nat×AV)) (H:ι→AH) (I:ι→Prop) (m:ι→Nat) (i0:ι) (hI:I i0) (hl:ALe n0 T h (ZcG T (f i0)) (H i0))
  (round : ∀ i,I i→aw P n0 a (AX.thn (LoopTo n0 (fun i=>(ZcG T (f i),H i)) I m i) Q) (ZcG T (f i)) (H i)):aw P n0 (.loop a) Q T h :=
 Zne (fun i=>(ZcG T (f i),H i)) I m i0 hI hl round
theorem ZaQ {h E:AH}{id:Nat}{e:Ent}(hid:id<h.length):(h.set id e++E)[id]?=some e:=by
 rw[List.getElem?_append_left (by simpa using hid),List.getElem?_set_self hid]
theorem ZaD {h E:AH}{id:Nat}{e e':Ent}(hid:id<h.length):(h.set id e++E).set id e'=h.set id e'++E:=by
 rw[List.set_append_left _ _ (by simpa using hid),List.set_set]
theorem ZcR {h:AH}{id:Nat}{e:Ent}(he:h[id]?=some e):h.set id e=h:=by
 apply List.ext_getElem?
 intro j
 by_cases hj:j=id
 ·subst hj
  have:j<h.length:=(List.getElem?_eq_some_iff.1 he).1
  rw[List.getElem?_set_self this,he]
 ·rw[List.getElem?_set_ne (Ne.symm hj)]
theorem Zaj {h:AH}{id n:Nat}{e:Ent}(hn:h.length=n):(h.set id e).length=n:=by simpa using hn
theorem Zbr {h:AH}{id n:Nat}{e:Ent}(hlt : ∀ x∈h,x.lt n=true) (he:e.lt n=true) : ∀ x∈h.set id e,x.lt n=true:=by
 intro x hx
 rcases List.mem_or_eq_of_mem_set hx with h1 | rfl
 ·exact hlt x h1
 ·exact he
theorem ALe.iceR {T T':List AV}{h h':AH}{id ver ty s d n:Nat}{cells cs:List AV}(hi:h[id]?=some (.mk ver ty s cells)) (hd:T[d]?=some (.own id ver n)) (hc:cells.take (n*s)=cs) (hl:n*s≤cells.length) (hp:aPut T (some d) (.sl n s false cs)=T') (hh:h.set id .gone=h'):ALe n0 T h T' h':=by
 subst hp hh hc
 exact ALe.ice hi hd hl
theorem ALe.iceCellR {T:List AV}{h h1 h2:AH}{id j ver ty s n k v' t' s':Nat}{cells cs cs' ds:List AV}(hi:h[id]?=some (.mk ver ty s cells)) (hj:h[j]?=some (.mk v' t' s' cs)) (hne:j≠id) (hk:cs[k]?=some (.own id ver n)) (hc:cells.take (n*s)=ds) (hl:n*s≤cells.length) (hp:aPut cs (some k) (.sl n s false ds)=cs') (e1:h.set id .gone=h1) (e2:h1.set j (.mk v' t' s' cs')=h2):ALe n0 T h T h2:=by
 subst e2 e1 hp hc
 exact ALe.iceCell hi hj hne hk hl
theorem SimH.tell1 {w:World}{g:Gh}{h:AH}(hs:SimH w g h) {id ver ty s k:Nat}{cells:List AV}{c c':AV}(hi:h[id]?=some (.mk ver ty s cells)) (hk:cells[k]?=some c)
  (hc : ∀ b cap u,g.loc id ver=some (some ⟨b,0,none⟩,cap)→w.cell? ⟨b,k,none⟩=some u→Rep w g c u→Rep w g c' u) :
  SimH w g (h.set id (.mk ver ty s (cells.set k c'))) ∧ ∀ j,Ow g (h.set id (.mk ver ty s (cells.set k c'))) j→Ow g h j:=by
 have hid:id<h.length:=(List.getElem?_eq_some_iff.1 hi).1
 have hget : ∀ {i v t s':Nat} {cs:List AV},(h.set id (.mk ver ty s (cells.set k c')))[i]?=some (.mk v t s' cs) → ∃ cs',h[i]?=some (.mk v t s' cs')∧(i≠id→cs'=cs)∧(i=id→v=ver∧cs'=cells∧cs=cells.set k c'):=by
  intro i v t s' cs he
  by_cases hii:i=id
  ·subst hii
   rw[List.getElem?_set_self hid] at he
   cases he
   exact⟨cells,hi,fun h=>absurd rfl h,fun _=>⟨rfl,rfl,rfl⟩⟩
  ·rw[List.getElem?_set_ne (Ne.symm hii)] at he
   exact⟨cs,he,fun _=>rfl,fun h=>absurd h hii⟩
 have how : ∀ i j,OwAt g (h.set id (.mk ver ty s (cells.set k c'))) i j→OwAt g h i j:=by
  rintro i j ⟨v,t,s',cs,b,cap,e1,e2,e3,e4⟩
  obtain⟨cs',f1,_⟩:=hget e1
  exact⟨v,t,s',cs',b,cap,f1,e2,e3,e4⟩
 refine⟨⟨?_,fun i j k' h1 h2=>hs.inj i j k' (how i k' h1) (how j k' h2),hs.lt,?_,?_,⟨hs.glob.w,hs.glob.d⟩,fun i k o T vs he=>hs.raw i k o T vs (ZdL (by simp) he),fun i j k ⟨o,T,vs,e1⟩ ⟨o',T',vs',e2⟩=>hs.rinj i j k ⟨o,T,vs,ZdL (by simp) e1⟩ ⟨o',T',vs',ZdL (by simp) e2⟩⟩,fun j hj=>hj.imp (fun ⟨i,hj⟩=>⟨i,how i j hj⟩) (fun ⟨i,o,T,vs,e⟩=>⟨i,o,T,vs,ZdL (by simp) e⟩)⟩
 ·intro i v t s' cs he
  obtain⟨cs',f1,f2,f3⟩:=hget he
  obtain⟨A,cap,e1,e2,e3⟩:=hs.ent _ _ _ _ _ f1
  refine⟨A,cap,e1,e2,?_⟩
  by_cases hii:i=id
  ·obtain⟨rfl,rfl,rfl⟩:=f3 hii
   rcases e3 with ⟨h0,h1⟩ | ⟨b,arr,rfl,x1,x2,x3,x4,x5,x6⟩
   ·rw[h0] at hk;simp at hk
   ·refine .inr ⟨b,arr,rfl,x1,x2,x3,x4,by simpa using x5,?_⟩
    obtain⟨u,hu,hr⟩:=x6.get hk
    have hcell:w.cell? ⟨b,k,none⟩=some u:=by
     rw[cell_of_row w b k arr t (0,0) x3]
     rw[List.getElem?_take] at hu
     split at hu
     ·simpa using hu
     ·cases hu
    subst hii
    have:=x6.set (k:=k) (hc b cap u e1 hcell hr)
    have hself:(arr.toList.take cs'.length).set k u=arr.toList.take cs'.length:=by
     apply List.ext_getElem?
     intro j
     by_cases hj:j=k
     ·subst hj
      have:j<(arr.toList.take cs'.length).length:=(List.getElem?_eq_some_iff.1 hu).1
      rw[List.getElem?_set_self this,hu]
     ·rw[List.getElem?_set_ne (Ne.symm hj)]
    rw[hself] at this
    simpa using this
  ·rw[←f2 hii];exact e3
 ·intro i v l hl
  have:=hs.fresh i v l hl
  refine⟨by simpa using this.1,fun v' t s' cs he=>?_⟩
  obtain⟨cs',f1,_⟩:=hget he
  exact this.2 _ _ _ _ f1
 ·intro i v l hl he
  by_cases hii:i=id
  ·subst hii;rw[List.getElem?_set_self hid] at he;cases he
  ·rw[List.getElem?_set_ne (Ne.symm hii)] at he;exact hs.free _ _ _ hl he
theorem ALe.icePtr {T T':List AV}{h h':AH}{id ver ty s d:Nat}{cells:List AV}(hi:h[id]?=some (.mk ver ty s cells)) (hd:T[d]?=some (.ptr id ver 0)) (hne:cells≠[]) (hp:aPut T (some d) (.rp cells)=T') (hh:h.set id .gone=h'):ALe n0 T h T' h':=fun w0 S0 g0 a w g st=>by
 subst hp hh
 obtain⟨h1,h2,_⟩:=st.sim.ice hi
 have htm:=RepL.mono (g.le_ice h id) (fun _ _=>rfl) _ _ st.tmps
 obtain⟨u,hu,hr⟩:=st.tmps.get hd
 simp only[Rep] at hr
 obtain⟨b,cap,e1,rfl⟩:=hr
 obtain⟨A,cap',f1,_,f3⟩:=st.sim.ent _ _ _ _ _ hi
 rw[e1] at f1
 simp only[Option.some.injEq,Prod.mk.injEq] at f1
 obtain⟨rfl,rfl⟩:=f1
 rcases f3 with ⟨h0,_⟩ | ⟨b',arr,e,hc0,hdd,hb,hsz,hle,hrl⟩
 ·exact absurd h0 hne
 ·cases e
  have hset:=htm.set (k:=d) (c:=.rp cells) (u:=.pointer (some ⟨b,0,none⟩)) (by
   simp only[Rep]
   refine⟨b,0,rfl,.inr ⟨ver,ty,s,cells,_,cap,hi,e1,hc0,rfl⟩,RepC.of_row hb _ _ ?_⟩
   have:=RepL.mono (g.le_ice h id) (fun _ _=>rfl) _ _ hrl
   simpa using this)
  have hself:a.tmps.toList.set d (.pointer (some ⟨b,0,none⟩))=a.tmps.toList:=by
   apply List.ext_getElem?
   intro j
   by_cases hj:j=d
   ·subst hj
    have:j<a.tmps.toList.length:=(List.getElem?_eq_some_iff.1 hu).1
    rw[List.getElem?_set_self this,hu]
   ·rw[List.getElem?_set_ne (Ne.symm hj)]
  rw[hself] at hset
  exact⟨g.ice h id,hset,st.defers,h1,st.fr,st.le.trans (g.le_ice h id),st.bd,fun k hk=>st.ow k (h2 k hk)⟩
theorem ALe.own0Cell {T:List AV}{h h1:AH}{j v' t' s' k st st' ty id:Nat}{cs ds cs':List AV}(hj:h[j]?=some (.mk v' t' s' cs)) (hk:cs[k]?=some (.sl 0 st true ds)) (hl:h.length=id) (hp:aPut cs (some k) (.own id 0 0)=cs') (he:(h++[Ent.mk 0 ty st' []]:AH).set j (Ent.mk v' t' s' cs')=h1):ALe n0 T h T h1:=fun w0 S0 g0 a w g s=>by
 subst hl he hp
 obtain⟨A1,cap1,l1,l2,l3⟩:=s.sim.ent _ _ _ _ _ hj
 have hjl:j<h.length:=(List.getElem?_eq_some_iff.1 hj).1
 rcases l3 with ⟨h0,_⟩ | ⟨b,arr,rfl,x1,x2,x3,x4,x5,x6⟩
 ·rw[h0] at hk;simp at hk
 obtain⟨u,hu,hr⟩:=x6.get hk
 have hcell:w.cell? ⟨b,k,none⟩=some u:=by
  rw[cell_of_row w b k arr t' (0,0) x3]
  rw[List.getElem?_take] at hu
  split at hu
  ·simpa using hu
  ·cases hu
 simp only[Rep] at hr
 obtain⟨_,A,cap,rfl,_,_,hc,_,_⟩:=hr
 obtain rfl:cap=0:=(hc trivial).symm
 obtain⟨q1,q2,q3⟩:=s.sim.add0 (w':=w) A ty st' (fun _ _=>rfl) (Nat.le_refl _)
 have htm:=RepL.mono q2 (fun _ _=>rfl) _ _ s.tmps
 obtain⟨r1,r2⟩:=q1.tell1 (id:=j) (c':=.own h.length 0 0) (by rw[List.getElem?_append_left hjl];exact hj) hk (by
  intro b' cap' u' e1 e2 _
  have:=q2.loc _ _ _ l1
  rw[this] at e1
  simp only[Option.some.injEq,Prod.mk.injEq,Addr.mk.injEq] at e1
  obtain⟨⟨rfl,_⟩,_⟩:=e1
  rw[hcell] at e2
  cases e2
  exact ZbA (Nat.le_refl _) (by simp[maxLen]))
 exact⟨_,htm,s.defers,r1,s.fr,s.le.trans q2,s.bd,fun i hi=>(q3 i (r2 i hi)).elim (s.ow i) (fun h=>.inr (Nat.le_trans s.fr.size h))⟩
theorem ALe.own0 {T:List AV}{d st st' ty:Nat}{cs:List AV}(hd:T[d]?=some (.sl 0 st true cs)):ALe n0 T h (T.set d (.own h.length 0 0)) (h++[.mk 0 ty st' []]):=fun w0 S0 g0 a w g s=>by
 obtain⟨u,hu,hr⟩:=s.tmps.get hd
 simp only[Rep] at hr
 obtain⟨_,A,cap,rfl,_,_,hc,_,_⟩:=hr
 obtain rfl:cap=0:=(hc trivial).symm
 obtain⟨h1,h2,h3⟩:=s.sim.add0 (w':=w) A ty st' (fun _ _=>rfl) (Nat.le_refl _)
 have htm:=RepL.mono h2 (fun _ _=>rfl) _ _ s.tmps
 have hset:=htm.set (k:=d) (c:=.own h.length 0 0) (u:=.slice A 0 0) (ZbA (Nat.le_refl _) (by simp[maxLen]))
 have hself:a.tmps.toList.set d (.slice A 0 0)=a.tmps.toList:=by
  apply List.ext_getElem?
  intro j
  by_cases hj:j=d
  ·subst hj
   have:j<a.tmps.toList.length:=(List.getElem?_eq_some_iff.1 hu).1
   rw[List.getElem?_set_self this,hu]
  ·rw[List.getElem?_set_ne (Ne.symm hj)]
 rw[hself] at hset
 exact⟨_,hset,s.defers,h1,s.fr,s.le.trans h2,s.bd,fun k hk=>(h3 k hk).elim (s.ow k) (fun h=>.inr (Nat.le_trans s.fr.size h))⟩
theorem ALe.own0' {T T':List AV}{h h':AH}{d st st' ty id:Nat}{cs:List AV}(hd:T[d]?=some (.sl 0 st true cs)) (hl:h.length=id) (hp:aPut T (some d) (.own id 0 0)=T') (hh:h++[.mk 0 ty st' []]=h'):ALe n0 T h T' h':=by
 subst hl hp hh
 exact ALe.own0 hd
end more
end
section
variable {P : Program} {n0 : Nat}
mutual
/-- how long slices are -/
def AV.bd:AV→Prop
 | .sl n _ _ cs=>n≤9223372036854775807∧AV.bdL cs
 | .own _ _ n=>n≤9223372036854775807
 | .rp cs=>AV.bdL cs
 | .agg cs=>AV.bdL cs
 | .tup cs=>AV.bdL cs
 | .clo _ cs=>AV.bdL cs
 | _=>True
def AV.bdL:List AV→Prop
 | []=>True
 | c::cs=>AV.bd c∧AV.bdL cs
end
mutual
theorem Rep.bd {w:World}{g:Gh} : ∀ (c:AV) (y:Value),Rep w g c y→c.bd
 | .v x,y,_=>by simp only[AV.bd]
 | .any,y,_=>by simp only[AV.bd]
 | .sl n st full cells,y,h=>by
  simp only[Rep] at h
  obtain⟨_,A,cap,h1,h2,h3,h4,h5,h6⟩:=h
  simp only[AV.bd]
  refine⟨by simp only[maxLen] at h3;omega,?_⟩
  by_cases hc:cells=[]
  ·subst hc;simp only[AV.bdL]
  ·obtain⟨b,off,_,_,h7⟩:=h6 hc
   exact RepC.bd cells b off h7
 | .own id ver n,y,h=>by
  simp only[Rep] at h
  obtain⟨A,cap,h1,h2,h3,_⟩:=h
  simp only[AV.bd]
  simp only[maxLen] at h3
  omega
 | .ptr id ver off,y,h=>by simp only[AV.bd]
 | .rp cells,y,h=>by
  simp only[Rep] at h
  obtain⟨b,off,e,hd,hc⟩:=h
  simp only[AV.bd]
  exact RepC.bd cells b off hc
 | .agg cells,y,h=>by
  simp only[Rep] at h
  obtain⟨vs,e,hc⟩:=h
  simp only[AV.bd]
  exact RepL.bd cells _ hc
 | .tup cells,y,h=>by
  simp only[Rep] at h
  obtain⟨vs,e,hc⟩:=h
  simp only[AV.bd]
  exact RepL.bd cells _ hc
 | .clo fn cells,y,h=>by
  simp only[Rep] at h
  obtain⟨vs,e,hc⟩:=h
  simp only[AV.bd]
  exact RepL.bd cells _ hc
theorem RepC.bd {w:World}{g:Gh} : ∀ (cs:List AV) (b off:Nat),RepC w g cs b off→AV.bdL cs
 | [],_,_,_=>by simp only[AV.bdL]
 | c::cs,b,off,h=>by
  simp only[RepC] at h
  obtain⟨⟨u,h1,h2⟩,h3⟩:=h
  simp only[AV.bdL]
  exact⟨Rep.bd c u h2,RepC.bd cs b (off+1) h3⟩
theorem RepL.bd {w:World}{g:Gh} : ∀ (cs:List AV) (vs:List Value),RepL w g cs vs→AV.bdL cs
 | [],_,_=>by simp only[AV.bdL]
 | c::cs,vs,h=>by
  simp only[RepL] at h
  obtain⟨u,us,e,h1,h2⟩:=h
  simp only[AV.bdL]
  exact⟨Rep.bd c u h1,RepL.bd cs us h2⟩
end
theorem ACalls.into {f:FuncId}{af:AF}(hc:ZaO P f=some af) {args T0:List AV}{h:AH}{R:AE→Prop}(hT:args++List.replicate (af.ntmps-args.length) .any=T0)
  (hw : ∀ n,h.length=n→(∀ e∈h,e.lt n=true)→AV.ltL n args=true→AV.bdL args→aw P n af.code (retA af.res fun x h' => ∃ z,h'=h++z∧x.lt n=true∧R x) T0 (h++[])):ACalls P f args h fun x h'=>h'=h∧R x:=by
 subst hT
 exact⟨Zcm hc,fun w g vs hs ha=>(ACalls.enter (R:=R) hc fun n h1 h2 h3=>hw n h1 h2 h3 (RepL.bd _ _ ha)).2 w g vs hs ha⟩
theorem ACalls.intoG {f:FuncId}{af:AF}(hc:ZaO P f=some af) {args T0:List AV}{h:AH}{R:AE→AH→Prop}(hT:args++List.replicate (af.ntmps-args.length) .any=T0)
  (hw : ∀ n,h.length=n→(∀ e∈h,e.lt n=true)→AV.ltL n args=true→AV.bdL args→aw P n af.code (retA af.res fun x h' => ∃ y z,h'=y++z∧y.length=n∧(∀ e∈y,e.lt n=true)∧x.lt n=true∧R x y) T0 (h++[])):ACalls P f args h R:=by
 subst hT
 exact⟨Zcm hc,fun w g vs hs ha=>(ACalls.enterG (R:=R) hc fun n h1 h2 h3=>hw n h1 h2 h3 (RepL.bd _ _ ha)).2 w g vs hs ha⟩
theorem ACalls.weak {f:FuncId}{args:List AV}{h:AH}{res:AV}(hc:ACalls P f args h fun x h'=>h'=h ∧ ∃ c,x=.ret c∧Wk c res):ACalls P f args h fun x h'=>h'=h∧x=.ret res:=by
 refine⟨hc.1,fun w g vs hs ha=>(hc.2 w g vs hs ha).mono ?_⟩
 rintro e w' ⟨x,h',g',h1,h2,h3,h4,h5,rfl,c,rfl,hw⟩
 refine⟨.ret res,_,g',?_,h2,h3,h4,h5,rfl,rfl⟩
 cases e <;> simp only[EndR] at h1 ⊢
 exact hw _ _ _ h1
theorem rtw {n:Nat}{h E:AH}{c res:AV}(hl:c.lt n=true) (he:Wk c res) : ∃ z,h++E=h++z∧(AE.ret c).lt n=true ∧ ∃ d,AE.ret c=.ret d∧Wk d res:=⟨E,rfl,hl,c,rfl,he⟩
theorem rt {n:Nat}{h E:AH}{c res:AV}(hl:c.lt n=true) (he:c=res) : ∃ z,h++E=h++z∧(AE.ret c).lt n=true∧AE.ret c=.ret res:=⟨E,rfl,hl,by rw[he]⟩
section
variable {T : List AV} {h : AH} {x y i : Operand} {c : AV}
theorem cvl {cs:List AV}(hx:Zad T x=c) (hc:Zas c=some cs):Zas (Zad T x)=some cs:=by rw[hx];exact hc
theorem oi {τ:Operand→AV}{d:Int}{k:IntKind}{j:Int}(hx:τ x=.v (.int k j)):Za9 τ d (some x)=some j:=by simp only[Za9,hx]
theorem on_ {τ:Operand→AV}{d:Int}:Za9 τ d none=some d:=rfl
theorem Zav {b:Bool}(hx:Zad T x=bv b):aval h (Zad T) (.un .not x)=some (bv (!b)):=by simp only[aval,hx]
theorem v_eqsT {b:Bool}{ks:List LK}{cs ds:List AV}(hx:Zad T x=.agg cs) (hy:Zad T y=.agg ds) (he:ZbW ks cs ds=some b):aval h (Zad T) (.eqs false ks x y)=some (bv b):=v_eqs hx hy he
theorem Zef {a b:Bool}(hx:Zad T x=bv a) (hy:Zad T y=bv b):aval h (Zad T) (.eqb true x y)=some (bv (decide (a≠b))):=by
 rw[v_eqb hx hy]
 cases a <;> cases b <;> rfl
theorem Zdc {id v m ty st sz:Nat}{cells cs:List AV}(hx:Zad T x=.own id v m) (he:h[id]?=some (.mk v ty st cells)) (hs:st=sz) (hc:cells.take (m*sz)=cs) (hl:m*sz≤cells.length):Zcj h sz (Zad T x)=some (m,cs):=by
 subst hc hs
 have:(cells.take (m*st)).length=m*st:=by rw[List.length_take];omega
 simp only[Zcj,hx,Zde,he,if_pos (And.intro trivial hl),if_pos this]
def rows {α:Type}(f:α→List AV) (l:List α):List AV:=l.flatMap f
theorem Za7 {α:Type}{f:α→List AV}{st:Nat}(hf : ∀ x,(f x).length=st) : ∀ l,(rows f l).length=l.length*st
 | []=>by simp[rows]
 | x::l=>by
  have:=Za7 hf l
  simp only[rows] at this
  simp only[rows,List.flatMap_cons,List.length_append,hf,this,List.length_cons,Nat.add_mul,Nat.one_mul]
  omega
theorem Zf9 {α:Type}{f:α→List AV}{st:Nat}(hf : ∀ x,(f x).length=st) : ∀ (k:Nat) (l:List α),(rows f l).drop (k*st)=rows f (l.drop k)
 | 0,l=>by simp
 | k+1,[]=>by simp[rows]
 | k+1,x::l=>by
  have:=Zf9 hf k l
  simp only[rows] at this
  simp only[rows,List.flatMap_cons,List.drop_succ_cons]
  rw[Nat.add_mul,Nat.one_mul,Nat.add_comm,←List.drop_drop,←hf x,List.drop_left,hf x]
  exact this
theorem ZjE {α:Type}{f:α→List AV}{st:Nat}(hf : ∀ x,(f x).length=st) {l:List α}{k:Nat}(hk:k<l.length):((rows f l).drop (k*st)).take st=f l[k]:=by
 rw[Zf9 hf,List.drop_eq_getElem_cons hk]
 simp only[rows,List.flatMap_cons]
 rw[←hf l[k],List.take_left]
theorem Zbz {α:Type}{f:α→List AV}(l m:List α):rows f (l++m)=rows f l++rows f m:=by simp[rows]
theorem Zby {α:Type}{f:α→List AV}(x:α):rows f [x]=f x:=by simp[rows]
theorem Zdk {α:Type}{f:α→List AV}(hf : ∀ n x,AV.ltL n (f x)=true) {n:Nat} : ∀ l,AV.ltL n (rows f l)=true
 | []=>rfl
 | x::l=>by
  have:=Zdk hf (n:=n) l
  simp only[rows] at this
  simp only[rows,List.flatMap_cons]
  have key : ∀ a b:List AV,AV.ltL n a=true→AV.ltL n b=true→AV.ltL n (a++b)=true:=by
   intro a
   induction a with
   | nil=>intro b _ hb;exact hb
   | cons c cs ih=>intro b ha hb;simp only[AV.ltL,List.cons_append,Bool.and_eq_true] at ha ⊢;exact⟨ha.1,ih b ha.2 hb⟩
  exact key _ _ (hf n x) this
theorem ZaY {α:Type}{f:α→List AV}{st n k:Nat}{full:Bool}{l:List α}{j:Int}{kd:IntKind}{ds:List AV}(hx:Zad T x=.sl n st full (rows f l)) (hi:Zad T i=.v (.int kd j)) (hf : ∀ x,(f x).length=st) (hst:0<st) (hj:j=(k:Int)) (hk:k<l.length) (hn:n=l.length) (hd:f l[k]=ds):aval h (Zad T) (.ia st x i)=some (.rp ds):=by
 subst hj hn hd
 exact v_ia hx hi hst (by omega) (by omega) (by rw[Int.toNat_natCast];exact ZjE hf hk)
theorem v_lo {α:Type}{f:α→List AV}{st n k:Nat}{full:Bool}{l:List α}{j:Int}{kd:IntKind}{lo:Operand}(hx:Zad T x=.sl n st full (rows f l)) (hi:Zad T lo=.v (.int kd j)) (hf : ∀ x,(f x).length=st) (hj:j=(k:Int)) (hk:k≤l.length) (hn:n=l.length) :
  aval h (Zad T) (.slc st x (some lo) none none)=some (.sl (l.drop k).length st full (rows f (l.drop k))):=by
 subst hj hn
 rw[v_slc hx (oi hi) on_ (by omega) (by omega) (by omega)]
 simp only[Int.toNat_natCast,decide_true,Bool.and_true,Zf9 hf,List.length_drop]
 congr 2
 rw[List.take_of_length_le]
 rw[Za7 hf,List.length_drop]
 exact Nat.le_refl _
theorem v_iaOR {α:Type}{f:α→List AV}{st n k id v ty:Nat}{l:List α}{j:Int}{kd:IntKind}(hx:Zad T x=.own id v n) (hi:Zad T i=.v (.int kd j)) (he:h[id]?=some (.mk v ty st (rows f l))) (hf : ∀ x,(f x).length=st) (hst:0<st) (hj:j=(k:Int)) (hk:k<l.length) (hn:n=l.length):aval h (Zad T) (.ia st x i)=some (.ptr id v (k*st)):=by
 subst hj hn
 rw[v_iaO hx hi he hst (by omega) (by omega) (by rw[Za7 hf];exact Nat.le_refl _),Int.toNat_natCast]
theorem v_ldOR {α:Type}{f:α→List AV}{sz k id v ty s:Nat}{l:List α}{cs:List AV}(hx:Zad T x=.ptr id v (k*sz)) (he:h[id]?=some (.mk v ty s (rows f l))) (hf : ∀ x,(f x).length=sz) (hk:k<l.length) (hc:f l[k]=cs):aval h (Zad T) (.load true sz x)=some (.agg cs) :=
 ZaE hx he (by rw[ZjE hf hk,hc]) (by rw[←hc,hf])
theorem Zcv {s:ByteArray}{k:Nat}(hk:k<s.size):Zay s k=s[k]:=by
 unfold Zay
 rw[List.getD_eq_getElem?_getD,List.getElem?_eq_getElem (by simpa using hk)]
 rfl
theorem rr_t {t:Nat}(ht:T[t]?=some c):ZeY T h (.tmp t)=some c:=ht
theorem rr_c {t id v o ty s sz:Nat}{agg:Bool}{cells:List AV}(ht:T[t]?=some (.ptr id v o)) (he:h[id]?=some (.mk v ty s cells)) (hl:Zb8 agg sz (cells.drop o)=some c):ZeY T h (.cell t agg sz)=some c:=by
 simp only[ZeY,ht,Zb7,he,if_true,Option.bind_some,hl]
theorem ld0 {sz:Nat}{l:List AV}{o:Nat}(hc:l[o]?=some c):Zb8 false sz (l.drop o)=some c:=by
 have:l.drop o=c::l.drop (o+1):=by
  obtain⟨hlt,rfl⟩:=List.getElem?_eq_some_iff.1 hc
  exact List.drop_eq_getElem_cons hlt
 rw[this];rfl
theorem ld1 {sz:Nat}{l cs:List AV}{o:Nat}(hc:(l.drop o).take sz=cs) (hl:cs.length=sz):Zb8 true sz (l.drop o)=some (.agg cs):=by
 subst hc
 rw[List.length_take] at hl
 simp only[Zb8]
 rw[if_pos (by omega)]
theorem rm0:([]:List AR).mapM (ZeY T h)=some []:=rfl
theorem rm1 {r:AR}{rs:List AR}{cs:List AV}(h1:ZeY T h r=some c) (h2:rs.mapM (ZeY T h)=some cs):(r::rs).mapM (ZeY T h)=some (c::cs):=by
 simp only[List.mapM_cons,h1,h2];rfl
theorem rs1 {r:AR}(h1:ZeY T h r=some c):aRes [r] T h=some c:=by simp only[aRes,rm1 h1 rm0]
theorem rsn {rs:List AR}{c1 c2:AV}{cs:List AV}(hm:rs.mapM (ZeY T h)=some (c1::c2::cs)):aRes rs T h=some (.tup (c1::c2::cs)):=by simp only[aRes,hm]
theorem rs0:aRes [] T h=some (.tup []):=rfl
end
section
variable {Kp : AV → List AV → AH → Prop} {K : List AV → AH → Prop} {Q : AX → List AV → AH → Prop} {T : List AV} {h h0 E E' ents : AH}
theorem Zcg {bl tl:List AOper}{q:List Bool}(hr:adrun P [] (h0++E) bl T [] fun T ents=>arun P (fun c T h=>Q (.pan c) T h) tl T (h0++(E++ents)) (fun T h=>Q .normal T h)) (hn:tl.all Zcp=true:=by rfl):aw P n0 (.drw bl q tl) Q T (h0++E):=by
 refine w_drw (rs:=[]) (Zdh ?_ _ _ _ hr)
 intro T ents hk
 rw[List.append_assoc];exact ZkL hn hk
theorem ZlW (rs:List Nat) {bl tl:List AOper}{q:List Bool}(hr:adrun P rs (h0++E) bl T [] fun T ents=>ZbX P rs q tl T (h0++(E++ents)) (fun T h=>Q .normal T h)):aw P n0 (.drw bl q tl) Q T (h0++E):=by
 refine w_drw (rs:=rs) (Zdh ?_ _ _ _ hr)
 intro T ents hk
 rw[List.append_assoc];exact hk
theorem ZmU {rs:List Nat}{q:List Bool}{tl:List AOper}(hr:ZbX P rs q tl T (h0++E) K):ZbX P rs q tl T (h0++(E++[])) K:=by rw[List.append_nil];exact hr
theorem k_e_ent {rs:List Nat}{q:List Bool}{tl:List AOper}(he:E++ents=E') (hr:ZbX P rs q tl T (h0++E') K):ZbX P rs q tl T (h0++(E++ents)) K:=by rw[he];exact hr
theorem ZbS {tl:List AOper}(hr:arun P Kp tl T (h0++E) K):arun P Kp tl T (h0++(E++[])) K:=by rw[List.append_nil];exact hr
theorem e_ent {tl:List AOper}(he:E++ents=E') (hr:arun P Kp tl T (h0++E') K):arun P Kp tl T (h0++(E++ents)) K:=by rw[he];exact hr
theorem hlk {n k:Nat}(hn:h.length=n) (hk:E.length+ents.length=k):(h++E).length+ents.length=n+k:=by subst hn hk;simp;omega
end
end
section
variable {K : List AV → AH → Prop} {Q : AX → List AV → AH → Prop} {T T' : List AV} {h h' h0 : AH} {q : List (List Nat)} {tc : List (Bool × List Nat)} {rest : List AOper} {d : Option Nat} {op : AOp} {c : AV} {P : Program} {n0 : Nat}
theorem w_orl {a:AC}{x:Operand}{f:FuncId}{al:List AOper}{d0:Nat}(hr:aw P n0 a Q T h):aw P n0 (.orPan a x f al d0) Q T h:=.inl hr
theorem ZbC {al:List AOper}(hr:Zb9 P h q al [] T h fun T h=>Q .normal T h):aw P n0 (.drwU q al) Q T h:=hr
def plainU (op:AOp):Bool:=match op with
 | .call _ _=>false
 | .panic _=>false
 | .eqn _ _=>false
 | .loadR _ _ _=>false
 | _=>true
theorem Zgu {gd : Option (Nat × Bool)} {K : Bool × List Nat → List AV → AH → Prop} (hn : plainU op = true) (hk : (∃ c, aval [] (Zad T) op = some c ∧ K (false, []) (aPut T d c) h) ∨
      (∃ c,aval h0 (Zad T) op=some c∧HExt h0 h∧K (true,List.range h0.length) (aPut T d c) h) ∨
      (∃ c need id e2,aupd h (Zad T) op=some (c,need,id,e2)∧K (false,need.map (·.1)) (aPut T d c) (h.set id e2)) ∨
      ∃ c ent,(aallo h.length (Zad T) op=some (c,ent)∨Zdi h.length (Zad T) op=some (c,ent))∧K (false,[h.length]) (aPut T d c) (h++[ent])):austep P h0 ⟨d,gd,op⟩ T h K:=by
  cases op <;> first | exact hk | cases hn
theorem ZcB (hk:K T h):Zb9 P h0 q [] tc T h K:=hk
theorem u_fr (hn:plainU op=true) (hv:aval [] (Zad T) op=some c) (hp:aPut T d c=T') (hk:Zb9 P h0 q.tail rest (tc++[(false,[])]) T' h K):Zb9 P h0 q (⟨d,none,op⟩::rest) tc T h K:=by
 subst hp
 exact⟨fun _=>Zgu hn (.inl ⟨c,hv,fun i _=>.inr fun x _=>by simp,hk⟩),fun h=>by cases h⟩
theorem u_st {sz id v off:Nat}{p x:Operand}(he:aeff h (Zad T) (.store sz p x)=some (c,h')) (hp':Zad T p=.ptr id v off) (hc : ∀ i∈q.headD [],Zgh (tc.getD i (false,[])) (false,[id])) (hp:aPut T d c=T') (hk:Zb9 P h0 q.tail rest (tc++[(false,[id])]) T' h' K):Zb9 P h0 q (⟨d,none,.store sz p x⟩::rest) tc T h K:=by
 subst hp
 refine⟨fun _=>Zgu rfl (.inr (.inr (.inl ?_))),fun h=>by cases h⟩
 simp only[aeff,hp'] at he
 split at he <;> try (cases he;done)
 rename_i e1 cs hid hcs
 cases hid
 split at he <;> try (cases he;done)
 rename_i v' ty s cells hcell
 split at he <;> try (cases he;done)
 rename_i hcond
 cases he
 exact⟨_,[(_,.mk v' ty s cells)],_,_,by simp only[aupd,hp',hcs,hcell];rw[if_pos hcond],hc,hk⟩
theorem u_al {id:Nat} (hk1:(match op with | .new _ _ _=>true | .box _ _ _=>true | .lit _ _ _ _ _=>true | _=>false)=true) (he:aeff h (Zad T) op=some (c,h')) (hl:h.length=id) (hc : ∀ i∈q.headD [],Zgh (tc.getD i (false,[])) (false,[id])) (hp:aPut T d c=T') (hk:Zb9 P h0 q.tail rest (tc++[(false,[id])]) T' h' K):Zb9 P h0 q (⟨d,none,op⟩::rest) tc T h K:=by
 subst hp hl
 cases op <;> simp only at hk1 <;> try (cases hk1;done)
 all_goals refine⟨fun _=>Zgu rfl (.inr (.inr (.inr ?_))),fun h=>by cases h⟩
 all_goals simp only[aeff] at he
 ·cases he
  exact⟨_,_,.inl rfl,hc,hk⟩
 ·split at he <;> try (cases he;done)
  rename_i cs hcs
  split at he <;> try (cases he;done)
  rename_i hsz
  cases he
  exact⟨_,_,.inl (by simp only[aallo,hcs];rw[if_pos hsz]),hc,hk⟩
 ·split at he <;> try (cases he;done)
  rename_i cs hcs
  cases he
  exact⟨_,_,.inl (by simp only[aallo,hcs]),hc,hk⟩
theorem ZcC {f:FuncId}{xs:List Operand}{as1:List AV}{id:Nat}{e e2:Ent}(hx:xs.map (Zad T)=as1) (he:h[id]?=some e) (hc : ∀ h,h[id]?=some e→ACalls P f as1 h fun r h'=>r=.ret c∧h'=h.set id e2) (hh : ∀ i∈q.headD [],Zgh (tc.getD i (false,[])) (false,[id])) (hs:h.set id e2=h') (hp:aPut T d c=T') (hk:Zb9 P h0 q.tail rest (tc++[(false,[id])]) T' h' K):Zb9 P h0 q (⟨d,none,.call (.func f) xs⟩::rest) tc T h K:=by
 subst hp hs hx
 unfold Zb9 agd
 refine⟨fun _=>?_,fun h=>by cases h⟩
 exact .inr (.inr ⟨c,[(id,e)],id,e2,fun h hn=>⟨rfl,rfl,(hc h (hn (id,e) (by simp))).mono fun r h' hr=>⟨hr.2,hr.1⟩⟩,fun p hp=>by simp at hp;subst hp;exact he,⟨e,by simp⟩,hh,hk⟩)
end
end Go.Ab
end
section
namespace Go.Ab
section
theorem lt' {p:Prop}(h:p:=by first | rfl | (simp only[AV.lt,AV.ltL,Ent.lt,List.all_cons,List.all_nil,Bool.and_true,Bool.and_self,decide_true];done) | (simp[AV.lt,AV.ltL,Ent.lt, *];done) | (simp[AV.lt,AV.ltL,Ent.lt, *];omega)):p:=h
theorem rT' {n:Nat}{h E:AH}{c res:AV}(he:c=res) (hl:c.lt n=true:=by exact lt') : ∃ z,h++E=h++z∧(AE.ret c).lt n=true∧AE.ret c=.ret res:=rt hl he
theorem rtW' {n:Nat}{h E:AH}{c res:AV}(he:Wk c res) (hl:c.lt n=true:=by exact lt') : ∃ z,h++E=h++z∧(AE.ret c).lt n=true ∧ ∃ d,AE.ret c=.ret d∧Wk d res:=rtw hl he
theorem wA' {cs ds:List AV}(h:WkL cs ds:=by repeat (first | exact wk0 | refine wka ?_ | refine wk1 rfl ?_ | refine wk1 (by first | exact ivx (by omega) | (simp;done)) ?_)):WkL cs ds:=h
theorem z' {α:Type}{x b:α}{l:List α}:(x::l).set 0 b=b::l:=rfl
theorem s' {α:Type}{x b:α}{n:Nat}{l:List α}:(x::l).set (n+1) b=x::l.set n b:=rfl
theorem la' {α:Type}{x:α}{l m:List α}:(x::l)++m=x::(l++m):=rfl
theorem ln' {α:Type}{m:List α}:[]++m=m:=rfl
def rn' (a:Nat):Nat→List (Nat×AV)
 | 0=>[]
 | k+1=>(a,.any)::rn' (a+1) k
def tA':List AV→Nat→List AV
 | _,0=>[]
 | x::l,m+1=>x::tA' l m
 | [],m+1=>.any::tA' [] m
theorem ZiC : ∀ (l:List AV) (m:Nat),l.length≤m→l++List.replicate (m-l.length) .any=tA' l m
 | [],0,_=>rfl
 | [],m+1,_=>by
  have:=ZiC [] m (Nat.zero_le _)
  simp only[List.nil_append,List.length_nil,Nat.sub_zero] at this ⊢
  rw[List.replicate_succ,this];rfl
 | x::l,0,h=>by simp at h
 | x::l,m+1,h=>by
  have:=ZiC l m (by simpa using h)
  simp only[List.cons_append,List.length_cons,Nat.add_sub_add_right,this];rfl
variable {P : Program} {f : FuncId} {c : AC} {rs : List AR} {m : Nat} {args : List AV} {h : AH}
theorem tI' {R:AE→Prop}(hc:ZaO P f=some ⟨c,rs,m⟩) (hw : ∀ n,h.length=n→(∀ e∈h,e.lt n=true)→AV.ltL n args=true→AV.bdL args→aw P n c (retA rs fun x h' => ∃ z,h'=h++z∧x.lt n=true∧R x) (tA' args m) (h++[])) (hl:Nat.ble args.length m=true:=by rfl):ACalls P f args h fun x h'=>h'=h∧R x :=
 ACalls.into hc (ZiC _ _ (Nat.le_of_ble_eq_true hl)) hw
theorem tW' {res:AV}(hc:ZaO P f=some ⟨c,rs,m⟩) (hw : ∀ n,h.length=n→(∀ e∈h,e.lt n=true)→AV.ltL n args=true→AV.bdL args→aw P n c (retA rs fun x h' => ∃ z,h'=h++z∧x.lt n=true ∧ ∃ c,x=.ret c∧Wk c res) (tA' args m) (h++[])) (hl:Nat.ble args.length m=true:=by rfl):ACalls P f args h fun x h'=>h'=h∧x=.ret res :=
 ACalls.weak (tI' hc hw hl)
theorem tJ' {R:AE→AH→Prop}(hc:ZaO P f=some ⟨c,rs,m⟩) (hw : ∀ n,h.length=n→(∀ e∈h,e.lt n=true)→AV.ltL n args=true→AV.bdL args→aw P n c (retA rs fun x h' => ∃ y z,h'=y++z∧y.length=n∧(∀ e∈y,e.lt n=true)∧x.lt n=true∧R x y) (tA' args m) (h++[])) (hl:Nat.ble args.length m=true:=by rfl):ACalls P f args h R :=
 ACalls.intoG hc (ZiC _ _ (Nat.le_of_ble_eq_true hl)) hw
end
section
variable {P : Program} {n0 : Nat} {T T1 : List AV} {a : AC} {Q : AX → List AV → AH → Prop}
theorem bkE' {h0 E E1 x:AH}{N:Nat}(K:Nat) (hn:h0.length=N) (hh : ∀ e∈h0,e.lt N=true) (hs:WkL T T1) (he:E=E1++x:=by rfl) (hT:AV.ltL (N+K) T1=true:=by exact lt') (hE:E1.all (Ent.lt (N+K))=true:=by exact lt') (hK:E1.length=K:=by rfl) (h0':n0≤N+K:=by omega):ALe n0 T (h0++E) T1 (h0++E1) :=
 ALe.back hs he (by rw[hn,hK]) h0' hT (ltw (Nat.le_add_right _ _) hh) hE
theorem bk' {h0 E E1 x:AH}{N:Nat}(K:Nat) (hn:h0.length=N) (hh : ∀ e∈h0,e.lt N=true) (he:E=E1++x:=by rfl) (hs:WkL T T1:=by exact wA') (hT:AV.ltL (N+K) T1=true:=by exact lt') (hE:E1.all (Ent.lt (N+K))=true:=by exact lt') (hK:E1.length=K:=by rfl) (h0':n0≤N+K:=by omega):ALe n0 T (h0++E) T1 (h0++E1) :=
 bkE' K hn hh hs he hT hE hK h0'
theorem lU' {ι:Type}{S:ι→List AV×AH}{I:ι→Prop}{m:ι→Nat}{i:ι}{h:AH}(j:ι) (hI:I j) (hl:ALe n0 T h (S j).1 (S j).2) (hm:m j<m i:=by first | omega | (dsimp only;omega)):LoopTo n0 S I m i T h:=LoopTo.mk j hm hI hl
theorem lT' {ι:Type}{S:ι→List AV×AH}{I:ι→Prop}{m:ι→Nat}{i:ι}{h:AH}(j:ι) (hI:I j) (hm:m j<m i:=by first | omega | (dsimp only;omega)) (hl:ALe n0 T h (S j).1 (S j).2:=by (try dsimp only);(try simp only[ZcG,ZdI,z',s',rn',la',ln',Nat.reduceAdd]);exact ALe.same wA' rfl):LoopTo n0 S I m i T h:=LoopTo.mk j hm hI hl
theorem cT' {ι:Type}{J:ι→Prop}{A:ι→List AV}{B:ι→AH}{h:AH}(j:ι) (hI:J j) (hl:ALe n0 T h (A j) (B j):=by (try dsimp only);(try simp only[ZcG,ZdI,z',s',rn',la',ln',Nat.reduceAdd]);exact ALe.same wA' rfl) : ∃ i,J i∧ALe n0 T h (A i) (B i):=⟨j,hI,hl⟩
theorem w_lp {E:AH}{h0:AH}{ι:Type}(f:ι→List (Nat×AV)) (g:ι→List (Nat×Ent)) (I:ι→Prop) (m:ι→Nat) (i0:ι) (hI:I i0)
  (round : ∀ i,I i→aw P n0 a (AX.thn (LoopTo n0 (fun i=>(ZcG T (f i),h0++ZdI E (g i))) I m i) Q) (ZcG T (f i)) (h0++ZdI E (g i))) (hl:ALe n0 T (h0++E) (ZcG T (f i0)) (h0++ZdI E (g i0)):=by (try simp only[ZcG,ZdI,z',s',rn',la',ln',Nat.reduceAdd]);exact ALe.same wA' rfl):aw P n0 (.loop a) Q T (h0++E):=Ziu f g I m i0 hI hl round
end
section
variable {K : List AV → AH → Prop} {Q : AX → List AV → AH → Prop} {T T' : List AV} {h : AH} {Kp : AV → List AV → AH → Prop} {rest : List AOper} {d : Option Nat} {c : AV} {P : Program} {n0 : Nat} {a b : AC} {al : List AOper}
theorem mv' {x:Operand}(hx:Zad T x=c) (hp:aPut T d c=T') (hk:arun P Kp rest T' h K):arun P Kp (⟨d,none,.mv x⟩::rest) T h K:=s_val rfl (v_mv hx) hp hk
theorem sn' (hr:aw P n0 b Q T h):arun P Kp [] T h (fun T h=>AX.thn (fun T h => ∃ T1 h1,ALe n0 T h T1 h1∧aw P n0 b Q T1 h1) Q .normal T h):=Zaq (Zah hr)
theorem wr' (hr:arun P (fun c T h=>AX.thn (fun T h => ∃ T1 h1,ALe n0 T h T1 h1∧aw P n0 b Q T1 h1) Q (.pan c) T h) al T h (fun T h=>AX.thn (fun T h => ∃ T1 h1,ALe n0 T h T1 h1∧aw P n0 b Q T1 h1) Q .normal T h)):aw P n0 (.seq (.reg al) b) Q T h:=Zan (Zar hr)
theorem cd' {c:Operand}{v:Bool}{p q:Prop}(hc:Zad T c=bv v) (hy:p→aw P n0 a Q T h) (hn:q→aw P n0 b Q T h) (h1:v=true→p:=by first | exact fun e=>of_decide_eq_true e | exact fun e=>e) (h2:v=false→q:=by first | exact fun e=>of_decide_eq_false e | exact fun e=>e):aw P n0 (.cond c a b) Q T h:=Zaz hc (fun e=>hy (h1 e)) (fun e=>hn (h2 e))
theorem V' {op:AOp}(hv:aval h (Zad T) op=some c) (hp:aPut T d c=T') (hk:arun P Kp rest T' h K) (hn:Zcp ⟨d,none,op⟩=true:=by rfl):arun P Kp (⟨d,none,op⟩::rest) T h K:=s_val hn hv hp hk
theorem E' {op:AOp}{h':AH}(he:aeff h (Zad T) op=some (c,h')) (hp:aPut T d c=T') (hk:arun P Kp rest T' h' K) (hn:Zcp ⟨d,none,op⟩=true:=by rfl) (hv:aval h (Zad T) op=none:=by rfl):arun P Kp (⟨d,none,op⟩::rest) T h K:=s_eff hn hv he hp hk
theorem D' {op:AOp}{rs:List Nat}{h0:AH}{ents:AH}(hv:aval h0 (Zad T) op=some c) (hp:aPut T d c=T') (hk:adrun P rs h0 rest T' ents K) (hn:noD ⟨d,none,op⟩=true:=by rfl):adrun P rs h0 (⟨d,none,op⟩::rest) T ents K:=d_val hn hv hp hk
theorem sp' {t:Nat}{v:Bool}{p q:Prop}{T1 T2:List AV}(ht:T[t]?=some (bv v)) (hp1:aPut T (some t) (bv true)=T1) (hp2:aPut T (some t) (bv false)=T2) (hy:p→arun P Kp al T1 h K) (hn:q→arun P Kp al T2 h K) (h1:v=true→p:=by first | exact fun e=>of_decide_eq_true e | exact fun e=>e) (h2:v=false→q:=by first | exact fun e=>of_decide_eq_false e | exact fun e=>e):arun P Kp al T h K:=ZaI ht hp1 hp2 (fun e=>hy (h1 e)) (fun e=>hn (h2 e))
theorem dq' {rs:List Nat}{h0:AH}{t:Nat}{v:Bool}{p q:Prop}{T1 T2:List AV}(ht:T[t]?=some (bv v)) (hp1:aPut T (some t) (bv true)=T1) (hp2:aPut T (some t) (bv false)=T2) (hy:p→adrun P rs h0 al T1 h K) (hn:q→adrun P rs h0 al T2 h K) (h1:v=true→p:=by first | exact fun e=>of_decide_eq_true e | exact fun e=>e) (h2:v=false→q:=by first | exact fun e=>of_decide_eq_false e | exact fun e=>e):adrun P rs h0 al T h K:=Zia ht hp1 hp2 (fun e=>hy (h1 e)) (fun e=>hn (h2 e))
theorem nb' {n m:Nat}(h:Nat.ble n m=true):n≤m:=Nat.le_of_ble_eq_true h
@[reducible] def Mv (d x:Nat):AOper:=⟨some d,none,.mv (.tmp x)⟩
@[reducible] def Nk (d x:Nat):AOper:=⟨some d,none,.nck (.tmp x)⟩
@[reducible] def Fa (d k x:Nat):AOper:=⟨some d,none,.fa k (.tmp x)⟩
@[reducible] def Ld (d x:Nat):AOper:=⟨some d,none,.load false 1 (.tmp x)⟩
@[reducible] def Ex (d x k:Nat):AOper:=⟨some d,none,.ext (.tmp x) k⟩
@[reducible] def Oo (d:Nat) (o:AOp):AOper:=⟨some d,none,o⟩
@[reducible] def Ot (d g:Nat) (o:AOp):AOper:=⟨some d,some (g,true),o⟩
@[reducible] def Of (d g:Nat) (o:AOp):AOper:=⟨some d,some (g,false),o⟩
@[reducible] def Ci (n:Int):Operand:=.const (.int .i64 n)
@[reducible] def Ss:AV:=.v (.string ⟨#[]⟩)
end
theorem rz {T:List AV}{h:AH}{t:Nat}{c:AV}[i:Gt T t c]:aRes [.tmp t] T h=some c:=rs1 (rr_t i.h)
theorem ry {T:List AV}{h:AH}{t s:Nat}{c d:AV}[i:Gt T t c][j:Gt T s d]:aRes [.tmp t,.tmp s] T h=some (.tup [c,d]):=rsn (rm1 (rr_t i.h) (rm1 (rr_t j.h) rm0))
theorem rx {T:List AV}{h:AH}{t s r:Nat}{c d e:AV}[i:Gt T t c][j:Gt T s d][k:Gt T r e]:aRes [.tmp t,.tmp s,.tmp r] T h=some (.tup [c,d,e]):=rsn (rm1 (rr_t i.h) (rm1 (rr_t j.h) (rm1 (rr_t k.h) rm0)))
theorem gx {h l:AH}{n k:Nat}{e:Ent}(hn:h.length=n:=by assumption)(hk:l[k]?=some e:=by rfl):(h++l)[n+k]?=some e:=hga hn hk
theorem cv {T:List AV}{x:Operand}{c:AV}{cs:List AV}[i:Lk T x c](h:Zas c=some cs:=by rfl):Zas (Zad T x)=some cs:=cvl i.h h
theorem mw {P:Program}{Kp:AV→List AV→AH→Prop}{rest:List AOper}{T U:List AV}{h:AH}{K:List AV→AH→Prop}{d:Option Nat}{c:AV}{x:Operand}[i:Lk T x c][j:Pt T d c U](hk:arun P Kp rest U h K):arun P Kp (⟨d,none,.mv x⟩::rest) T h K:=mv' i.h j.h hk
theorem Vw {P:Program}{Kp:AV→List AV→AH→Prop}{rest:List AOper}{T U:List AV}{h:AH}{K:List AV→AH→Prop}{d:Option Nat}{c:AV}{op:AOp}(hv:aval h (Zad T) op=some c)[j:Pt T d c U](hk:arun P Kp rest U h K)(hn:Zcp ⟨d,none,op⟩=true:=by rfl):arun P Kp (⟨d,none,op⟩::rest) T h K:=V' hv j.h hk hn
theorem Dw {P:Program}{rest:List AOper}{T U:List AV}{K:List AV→AH→Prop}{d:Option Nat}{c:AV}{op:AOp}{rs:List Nat}{h0:AH}{ents:AH}(hv:aval h0 (Zad T) op=some c)[j:Pt T d c U](hk:adrun P rs h0 rest U ents K)(hn:noD ⟨d,none,op⟩=true:=by rfl):adrun P rs h0 (⟨d,none,op⟩::rest) T ents K:=D' hv j.h hk hn
theorem _root_.om {p:Prop}(h:p:=by omega):p:=h
theorem nh {p:Prop}(h:p:=by first | (simp [Zgh];done) | (simp [Zgh];omega) | (simp [Zgh] <;> (try intros) <;> omega)):p:=h
theorem ro {p:Prop}(h:p:=by first | rfl | omega):p:=h
theorem tb':(∀ l,tA' l 0=[])∧(∀ x l m,tA' (x::l) (m+1)=x::tA' l m)∧(∀ m,tA' [] (m+1)=.any::tA' [] m)∧(AV.bdL []=True)∧(∀ c l,AV.bdL (c::l)=(AV.bd c∧AV.bdL l))∧(∀ p:Prop,(p∧True)=p)∧(∀ p:Prop,(True∧p)=p)∧(∀ n a b l,AV.bd (.sl n a b l)=(n≤9223372036854775807∧AV.bdL l))∧(∀ a b n,AV.bd (.own a b n)=(n≤9223372036854775807))∧(∀ l,AV.bd (.rp l)=AV.bdL l)∧(∀ l,AV.bd (.agg l)=AV.bdL l)∧(∀ l,AV.bd (.tup l)=AV.bdL l)∧(∀ f l,AV.bd (.clo f l)=AV.bdL l)∧(∀ v,AV.bd (.v v)=True)∧(AV.bd .any=True)∧(∀ a b c,AV.bd (.ptr a b c)=True):=⟨fun l=>by cases l<;>rfl,fun _ _ _=>rfl,fun _=>rfl,by simp only [AV.bdL],fun _ _=>by simp only [AV.bdL],fun _=>and_true _,fun _=>true_and _,fun _ _ _ _=>by simp only [AV.bd],fun _ _ _=>by simp only [AV.bd],fun _=>by simp only [AV.bd],fun _=>by simp only [AV.bd],fun _=>by simp only [AV.bd],fun _ _=>by simp only [AV.bd],fun _=>by simp only [AV.bd],by simp only [AV.bd],fun _ _ _=>by simp only [AV.bd]⟩
theorem sm':(∀ T,ZcG T []=T)∧(∀ T k c l,ZcG T ((k,c)::l)=ZcG (T.set k c) l)∧(∀ T,ZdI T []=T)∧(∀ T k c l,ZdI T ((k,c)::l)=ZdI (T.set k c) l)∧(∀ (α:Type) (x b:α) l,(x::l).set 0 b=b::l)∧(∀ (α:Type) (x b:α) n l,(x::l).set (n+1) b=x::l.set n b)∧(∀ a,rn' a 0=[])∧(∀ a k,rn' a (k+1)=(a,.any)::rn' (a+1) k)∧(∀ (α:Type) (x:α) l m,(x::l)++m=x::(l++m))∧(∀ (α:Type) (m:List α),[]++m=m):=⟨fun _=>rfl,fun _ _ _ _=>rfl,fun _=>rfl,fun _ _ _ _=>rfl,fun _ _ _ _=>rfl,fun _ _ _ _ _=>rfl,fun _=>rfl,fun _ _=>rfl,fun _ _ _ _=>rfl,fun _ _=>rfl⟩
abbrev Ac (f:FuncId) (a:List AV) (h:AH) (c:AV):Prop:=ACalls Go.Proofs.Try.prog f a h fun x h' => h'=h∧x = .ret c
@[reducible] def Bn (d:Nat) (o:BinOp) (x y:Nat):AOper:=⟨some d,none,.bin o (.tmp x) (.tmp y)⟩
@[reducible] def Bc (d:Nat) (o:BinOp) (x:Nat) (n:Int):AOper:=⟨some d,none,.bin o (.tmp x) (.const (.int .i64 n))⟩
@[reducible] def Pk (d c a b:Nat):AOper:=⟨some d,none,.pick (.tmp c) (.tmp a) (.tmp b)⟩
@[reducible] def Cl (d f:Nat) (l:List Operand):AOper:=⟨some d,none,.call (.func f) l⟩
@[reducible] def Mc (d:Nat) (n:Int):AOper:=⟨some d,none,.mv (.const (.int .i64 n))⟩
@[reducible] def Mb (d:Nat) (b:Bool):AOper:=⟨some d,none,.mv (.const (.bool b))⟩
@[reducible] def Ms (d:Nat):AOper:=⟨some d,none,.mv (.const (.string ⟨#[]⟩))⟩
@[reducible] def Sc (p x:Nat):AOper:=⟨none,none,.store 1 (.tmp p) (.tmp x)⟩
@[reducible] def mt (x:Nat):AOp:=.mv (.tmp x)
@[reducible] def Cd (x:Nat) (a b:AC):AC:=.cond (.tmp x) a b
@[reducible] def Sr (l:List AOper) (b:AC):AC:=.seq (.reg l) b
@[reducible] def Sd (l:List AOper) (b:AC):AC:=.seq (.drw l [] []) b
@[reducible] def Ex0 (x i:Nat) (b:AC):AC:=.seq (.cond (.tmp x) .skip (.exit i)) b
end Go.Ab
end
section
namespace Go.Proofs.Yticajimgfndceaa
namespace Civ
def ZgM (y:Int):Bool:=y%4==0&&(y%100 != 0||y%400==0)
def lp (y:Int):Int:=if ZgM y then 1 else 0
def bef (y:Int):Int:=365*(y-1)+(y-1)/4-(y-1)/100+(y-1)/400
def mlen (y m:Int):Int :=
 if m=2 then 28+lp y else if m=4 then 30 else if m=6 then 30 else if m=9 then 30 else if m=11 then 30 else 31
def cum (y m:Int):Int:=if m≤2 then 31*(m-1) else 59+lp y+(153*(m-3)+2)/5
def num (y m d:Int):Int:=bef y-719162+d-1+cum y m
def ZbD (y m d:Int):Bool:=decide (1≤y)&&decide (y≤9999)&&decide (1≤m)&&decide (m≤12)&&decide (1≤d)&&decide (d≤mlen y m)
theorem Zcs {y m d:Int}:ZbD y m d=true↔1≤y∧y≤9999∧1≤m∧m≤12∧1≤d∧d≤mlen y m:=by
 simp[ZbD,and_assoc]
theorem lp_iff (y:Int):lp y=if y%4=0∧(y%100≠0∨y%400=0) then 1 else 0:=by
 unfold lp ZgM
 congr 1
 simp
theorem ZjO (y:Int):0≤lp y∧lp y≤1:=by unfold lp;split <;> omega
theorem Zd8 (y:Int):bef (y+1)=bef y+365+lp y:=by
 rw[lp_iff];unfold bef;split <;> omega
theorem Zdw {a b:Int}(h:a≤b):bef a≤bef b:=by unfold bef;omega
theorem Zif {a b:Int}(h:a<b):bef a+365≤bef b:=by unfold bef;omega
theorem bef_bd {y:Int}(h0:1≤y) (h:y≤20000):0≤bef y∧bef y≤8000000:=by unfold bef;omega
theorem bef_1970:bef 1970=719162:=by decide
theorem bef_1:bef 1=0:=by decide
theorem ZcA:bef 10000=3652059:=by decide
theorem ZdM (y m:Int):28≤mlen y m∧mlen y m≤31:=by
 have:=ZjO y;unfold mlen;split <;> (try split) <;> (try split) <;> (try split) <;> (try split) <;> omega
theorem ZeR {y m:Int}(h1:1≤m) (h2:m≤12):cum y (m+1)=cum y m+mlen y m:=by
 have:m=1∨m=2∨m=3∨m=4∨m=5∨m=6∨m=7∨m=8∨m=9∨m=10∨m=11∨m=12:=by omega
 rcases this with h | h | h | h | h | h | h | h | h | h | h | h <;> subst h <;> simp[cum,mlen] <;> omega
theorem Zm9 (y:Int):cum y 1=0:=by simp[cum]
theorem Zm8 (y:Int):cum y 13=365+lp y:=by simp[cum];omega
theorem Zi8 {y m:Int}(h1:1≤m) (h2:m≤13):0≤cum y m∧cum y m≤366:=by
 have:=ZjO y;unfold cum;split <;> omega
theorem cum_le {y a b:Int}(h1:1≤a) (h:a≤b):cum y a≤cum y b:=by
 have:=ZjO y;unfold cum;split <;> split <;> omega
theorem ZkV {y a b:Int}(h1:1≤a) (h:a<b) (h2:b≤13):cum y a+mlen y a≤cum y b:=by
 rw[←ZeR (y:=y) h1 om]
 exact cum_le om om
theorem ZhY {y m d:Int}(h:ZbD y m d=true):bef y≤num y m d+719162∧num y m d+719162<bef (y+1):=by
 rw[Zcs] at h
 have hs:=Zd8 y
 have hc:=Zi8 (y:=y) (m:=m) om om
 have:cum y m+mlen y m≤365+lp y:=by rw[←Zm8];exact ZkV h.2.2.1 om om
 unfold num;omega
theorem num_bd {y m d:Int}(h:ZbD y m d=true) : -719162≤num y m d∧num y m d≤2932896:=by
 have h1:=ZhY h
 rw[Zcs] at h
 have a:=Zdw (a:=1) (b:=y) om
 have b:=Zdw (a:=y+1) (b:=10000) om
 rw[bef_1] at a;rw[ZcA] at b;omega
theorem Zgg {y m d y' m' d':Int}(h:ZbD y m d=true) (h':ZbD y' m' d'=true) (hl:y<y'):num y m d<num y' m' d':=by
 have a:=ZhY h;have b:=ZhY h'
 have c:=Zdw (a:=y+1) (b:=y') om;omega
theorem ZfA {y m d m' d':Int}(h:ZbD y m d=true) (h':ZbD y m' d'=true) (hl:m<m'):num y m d<num y m' d':=by
 rw[Zcs] at h h'
 have:=ZkV (y:=y) h.2.2.1 hl om
 unfold num;omega
theorem Zg6 {y m d y' m' d':Int}(h:ZbD y m d=true) (h':ZbD y' m' d'=true) :
  num y m d<num y' m' d'↔y<y'∨y=y'∧(m<m'∨m=m'∧d<d'):=by
 constructor
 ·intro hlt
  rcases Int.lt_trichotomy y y' with a | a | a
  ·exact .inl a
  ·subst a
   rcases Int.lt_trichotomy m m' with b | b | b
   ·exact .inr ⟨rfl,.inl b⟩
   ·subst b;refine .inr ⟨rfl,.inr ⟨rfl,?_⟩⟩;unfold num at hlt;omega
   ·have:=ZfA h' h b;omega
  ·have:=Zgg h' h a;omega
 ·rintro (a | ⟨rfl,a | ⟨rfl,a⟩⟩)
  ·exact Zgg h h' a
  ·exact ZfA h h' a
  ·unfold num;omega
theorem num_inj {y m d y' m' d':Int}(h:ZbD y m d=true) (h':ZbD y' m' d'=true) (he:num y m d=num y' m' d'):y=y'∧m=m'∧d=d':=by
 have a:=(Zg6 h h').2;have b:=(Zg6 h' h).2
 rcases Int.lt_trichotomy y y' with c | c | c
 ·have:=a (.inl c);omega
 ·subst c
  rcases Int.lt_trichotomy m m' with c | c | c
  ·have:=a (.inr ⟨rfl,.inl c⟩);omega
  ·subst c;unfold num at he;exact⟨rfl,rfl,by omega⟩
  ·have:=b (.inr ⟨rfl,.inl c⟩);omega
 ·have:=b (.inl c);omega
def yrUp:Nat→Int→Int→Int
 | 0,_,y=>y
 | k+1,n,y=>if bef (y+1)≤n then yrUp k n (y+1) else y
def moUp:Nat→Int→Int→Int→Int×Int
 | 0,_,m,r=>(m,r)
 | k+1,y,m,r=>if mlen y m≤r then moUp k y (m+1) (r-mlen y m) else (m,r)
def yrOf (days:Int):Int:=yrUp 60 (days+719162) ((days+719162)/366+1)
def Zbp (days:Int):Int×Int×Int :=
 let y:=yrOf days
 let p:=moUp 12 y 1 (days+719162-bef y)
 (y,p.1,p.2+1)
theorem Zip : ∀ (k:Nat) (n y:Int),bef y≤n→n<bef y+365*(k:Int)+365→bef (yrUp k n y)≤n∧n<bef (yrUp k n y+1)
 | 0,n,y,h1,h2=>by
  simp only[yrUp]
  have:=Zd8 y;have:=ZjO y
  exact⟨h1,by simp at h2;omega⟩
 | k+1,n,y,h1,h2=>by
  simp only[yrUp]
  split
  ·rename_i h
   refine Zip k n (y+1) h ?_
   have:=Zif (a:=y) (b:=y+1) om
   simp only[Int.natCast_add,Int.cast_ofNat_Int] at h2;omega
  ·exact⟨h1,by omega⟩
theorem ZkP {n:Int}(h0:0≤n):bef (n/366+1)≤n:=by unfold bef;omega
theorem Zhb {n:Int}(h0:0≤n) (h1:n≤3652058):n<bef (n/366+1)+365*60:=by unfold bef;omega
theorem Ziq {days:Int}(h0 : -719162≤days) (h1:days≤2932896):bef (yrOf days)≤days+719162∧days+719162<bef (yrOf days+1):=by
 refine Zip 60 _ _ (ZkP om) ?_
 have:=Zhb (n:=days+719162) om om
 simp;omega
theorem ZiT (y:Int) : ∀ (k:Nat) (m r:Int),1≤m→m+k=13→0≤r→cum y m+r<365+lp y →
  1≤(moUp k y m r).1∧(moUp k y m r).1≤12∧0≤(moUp k y m r).2∧(moUp k y m r).2<mlen y (moUp k y m r).1∧cum y (moUp k y m r).1+(moUp k y m r).2=cum y m+r
 | 0,m,r,h1,h2,h3,h4=>by
  have:m=13:=by simpa using h2
  subst this;rw[Zm8] at h4;omega
 | k+1,m,r,h1,h2,h3,h4=>by
  simp only[Int.natCast_add,Int.cast_ofNat_Int] at h2
  have hs:=ZeR (y:=y) (m:=m) h1 om
  simp only[moUp]
  split
  ·rename_i h
   have ih:=ZiT y k (m+1) (r-mlen y m) om om om om
   omega
  ·exact⟨h1,by omega,h3,by show r<mlen y m;omega,rfl⟩
theorem Zgp {days:Int}(h0 : -719162≤days) (h1:days≤2932896) :
  ZbD (Zbp days).1 (Zbp days).2.1 (Zbp days).2.2=true∧num (Zbp days).1 (Zbp days).2.1 (Zbp days).2.2=days:=by
 have hy:=Ziq h0 h1
 have hs:=Zd8 (yrOf days)
 have hm:=ZiT (yrOf days) 12 1 (days+719162-bef (yrOf days)) om om om (by rw[Zm9];omega)
 rw[Zm9] at hm
 rw[Zcs]
 have y1:1≤yrOf days:=by
  rcases Int.lt_or_le (yrOf days) 1 with c | c
  ·have:=Zdw (a:=yrOf days+1) (b:=1) om;rw[bef_1] at this;omega
  ·exact c
 have y2:yrOf days≤9999:=by
  rcases Int.lt_or_le 9999 (yrOf days) with c | c
  ·have:=Zdw (a:=10000) (b:=yrOf days) om;rw[ZcA] at this;omega
  ·exact c
 unfold Zbp num
 dsimp only
 refine⟨⟨y1,y2,hm.1,hm.2.1,by omega,by omega⟩,by omega⟩
theorem Zln {y m d:Int}(h:ZbD y m d=true):Zbp (num y m d)=(y,m,d):=by
 have hb:=num_bd h
 have hs:=Zgp hb.1 hb.2
 obtain⟨a,b,c⟩:=num_inj hs.1 h hs.2
 ext <;> simp[a,b,c]
theorem Zm6 {days y m d:Int}(h:ZbD y m d=true) (hn:num y m d=days):Zbp days=(y,m,d):=by
 rw[←hn];exact Zln h
def wd (n:Int):Int:=(n+4)%7
theorem wd_bd (n:Int):0≤wd n∧wd n≤6:=by unfold wd;omega
theorem Zk2 (n:Int):n.tmod 7=if 0≤n then n%7 else -((-n)%7):=by
 split
 ·rename_i h;exact Int.tmod_eq_emod_of_nonneg h
 ·rename_i h
  have:n = - (-n):=by omega
  rw[this,Int.neg_tmod,Int.tmod_eq_emod_of_nonneg om];simp
theorem wd_go (n:Int):(((n.tmod 7+4).tmod 7)+7).tmod 7=wd n:=by
 simp only[Zk2,wd]
 repeat' split
 all_goals omega
end Civ
end Go.Proofs.Yticajimgfndceaa
namespace Go.Proofs.Yticajimgfndceaa
def wi (n a b:Int):Bool:=decide (a≤n)&&decide (n≤b)
end Go.Proofs.Yticajimgfndceaa
end
section
namespace Go.Proofs.Yticajimgfndceaa
open Civ
def letB (n:Int):Bool:=decide (97≤n∧n≤122∨65≤n∧n≤90)
def digB (n:Int):Bool:=decide (48≤n∧n≤57)
def ZbN (n:Int):Bool:=letB n||digB n||n==43||n==45
def allB (p:Int→Bool) (s:ByteArray):Bool:=s.data.toList.all fun c=>p c.toNat
theorem Zgw {p:Int→Bool}{s:ByteArray}{k:Nat}(hk:k<s.size) (h:p s[k].toNat=false):allB p s=false:=by
 unfold allB
 rw[List.all_eq_false]
 refine⟨s[k],?_,by simpa using h⟩
 have:s[k]=s.data.toList[k]'(by simpa using hk):=rfl
 rw[this];exact List.getElem_mem _
theorem ZeW {p:Int→Bool}{s:ByteArray}(h : ∀ k (hk:k<s.size),p s[k].toNat=true):allB p s=true:=by
 unfold allB
 rw[List.all_eq_true]
 intro x hx
 obtain⟨i,hi,rfl⟩:=List.getElem_of_mem hx
 exact h i (by simpa using hi)
end Go.Proofs.Yticajimgfndceaa
end
section
namespace Go.Proofs.Yticajimgfndceaa
open Go.Ab Civ
def c63:AC:=(Sr [Mb 2 false] (Sr [Mv 3 0,Oo 4 (.bin .geq (.tmp 3) (.const (.int .u8 97))),Mv 5 4,Ot 6 5 (mt 0),Ot 7 5 (.bin .leq (.tmp 6) (.const (.int .u8 122))),Oo 8 (.pick (.tmp 5) (.tmp 7) (.const (.bool false))),Mv 9 8,Of 10 9 (mt 0),Of 11 9 (.bin .geq (.tmp 10) (.const (.int .u8 65))),Of 12 9 (mt 11),Ot 13 12 (mt 0),Ot 14 12 (.bin .leq (.tmp 13) (.const (.int .u8 90))),Of 15 9 (.pick (.tmp 12) (.tmp 14) (.const (.bool false))),Oo 16 (.pick (.tmp 9) (.const (.bool true)) (.tmp 15)),Mv 2 16] .ret))
theorem k63:ZaO Try.prog 63=some ⟨c63,[(.tmp 2)],17⟩:=by kernel_rfl
def c66:AC:=(Sr [Mb 2 false] (Sr [Mv 3 0,Oo 4 (.bin .geq (.tmp 3) (.const (.int .u8 48))),Mv 5 4,Ot 6 5 (mt 0),Ot 7 5 (.bin .leq (.tmp 6) (.const (.int .u8 57))),Oo 8 (.pick (.tmp 5) (.tmp 7) (.const (.bool false))),Mv 2 8] .ret))
theorem k66:ZaO Try.prog 66=some ⟨c66,[(.tmp 2)],9⟩:=by kernel_rfl
def c64:AC:=(Sr [Mb 4 false] (.seq (Sr [Mv 6 0,Oo 7 (.len true (.tmp 6)),Mc 8 0] (.block 0 (.loop (Sr [Bn 9 .lss 8 7] (.seq (Cd 9 .skip (.exit 0)) (.seq (.block 1 (Sr [Mv 10 8,Mv 5 10] (Sr [Mv 11 1,Mv 12 0,Mv 13 5,Oo 14 (.ix (.tmp 12) (.tmp 13)),Oo 15 (.call (.tmp 11) [(.tmp 14)]),Oo 16 (.un .not (.tmp 15))] (Cd 16 (Sr [Mb 4 false] .ret) .skip)))) (.reg [Bc 17 .add 8 1,Mv 8 17]))))))) (Sr [Mb 4 true] .ret)))
theorem k64:ZaO Try.prog 64=some ⟨c64,[(.tmp 4)],18⟩:=by kernel_rfl
def c38:AC:=(Sr [Mc 2 0] (Sr [Mv 3 0,Bc 4 .sub 3 1,Mv 0 4] (Sr [Mv 5 0,Oo 6 (.bin .mul (Ci 365) (.tmp 5)),Mv 7 0,Bc 8 .quo 7 4,Bn 9 .add 6 8,Mv 10 0,Bc 11 .quo 10 100,Bn 12 .sub 9 11,Mv 13 0,Bc 14 .quo 13 400,Bn 15 .add 12 14,Mv 2 15] .ret)))
theorem k38:ZaO Try.prog 38=some ⟨c38,[(.tmp 2)],16⟩:=by kernel_rfl
def c39:AC:=(Sr [Mc 0 0] (Sr [Cl 1 38 [(Ci 1970)],Mv 0 1] .ret))
theorem k39:ZaO Try.prog 39=some ⟨c39,[(.tmp 0)],2⟩:=by kernel_rfl
def c72:AC:=(Sr [Mc 0 0] (Sr [Cl 1 39 [],Oo 2 (.un .neg (.tmp 1)),Mv 0 2] .ret))
theorem k72:ZaO Try.prog 72=some ⟨c72,[(.tmp 0)],3⟩:=by kernel_rfl
def c73:AC:=(Sr [Mc 0 0] (Sr [Cl 1 38 [(Ci 10000)],Cl 2 39 [],Bn 3 .sub 1 2,Bc 4 .sub 3 1,Mv 0 4] .ret))
theorem k73:ZaO Try.prog 73=some ⟨c73,[(.tmp 0)],5⟩:=by kernel_rfl
abbrev uv (n:Int):AV:=.v (.int .u8 n)
theorem bvx {a b:Bool}(h:a=b):bv a=bv b:=by rw[h]
theorem Zh1 {n:Int}{h:AH}:Ac 63 [uv n] h (bv (letB n)):=by
 refine tI' k63 fun N hn hlt hlA hbd=>?_
 simp only[tb'] at hbd ⊢
 refine wr'<|mw<|sn'<|wr'<|mw<|Vw (Ze8 lk lki)<|mw<|?_
 refine sp' (t:=5) gt pt pt (fun hg5=>?_) (fun hg5=>?_)
 ·refine s_do gt<|mw<|s_do gt<|Vw (Zc5 lk lki)<|Vw (Zag lk lk)<|mw<|?_
  refine sp' (t:=9) gt pt pt (fun hg9=>?_) (fun hg9=>?_)
  ·refine s_no gt pt<|s_no gt pt<|s_no gt pt<|s_nu gt pt<|s_nu gt pt<|s_no gt pt<|Vw (Zag lk lkb)<|mw<|sn'<|Zaa<|Zai rz<|rT'<|?_
   refine bvx ?_;unfold letB;rw[Bool.eq_iff_iff];simp;omega
  refine s_do gt<|mw<|s_do gt<|Vw (Ze8 lk lki)<|s_do gt<|mw<|?_
  refine sp' (t:=12) gt pt pt (fun hg12=>?_) (fun hg12=>?_)
  ·refine s_do gt<|mw<|s_do gt<|Vw (Zc5 lk lki)<|s_do gt<|Vw (Zag lk lk)<|Vw (Zab lk lk)<|mw<|sn'<|Zaa<|Zai rz<|rT'<|?_
   refine bvx ?_;unfold letB;rw[Bool.eq_iff_iff];simp;omega
  refine s_no gt pt<|s_no gt pt<|s_do gt<|Vw (Zab lk lkb)<|Vw (Zab lk lk)<|mw<|sn'<|Zaa<|Zai rz<|rT'<|?_
  refine bvx ?_;unfold letB;rw[Bool.eq_iff_iff];simp;omega
 refine s_no gt pt<|s_no gt pt<|Vw (Zab lk lkb)<|mw<|s_do gt<|mw<|s_do gt<|Vw (Ze8 lk lki)<|s_do gt<|mw<|?_
 refine sp' (t:=12) gt pt pt (fun hg12=>?_) (fun hg12=>?_)
 ·refine s_do gt<|mw<|s_do gt<|Vw (Zc5 lk lki)<|s_do gt<|Vw (Zag lk lk)<|Vw (Zab lk lk)<|mw<|sn'<|Zaa<|Zai rz<|rT'<|?_
  refine bvx ?_;unfold letB;rw[Bool.eq_iff_iff];simp;omega
 refine s_no gt pt<|s_no gt pt<|s_do gt<|Vw (Zab lk lkb)<|Vw (Zab lk lk)<|mw<|sn'<|Zaa<|Zai rz<|rT'<|?_
 refine bvx ?_;unfold letB;rw[Bool.eq_iff_iff];simp;omega
theorem digit_a {n:Int}{h:AH}:Ac 66 [uv n] h (bv (digB n)):=by
 refine tI' k66 fun N hn hlt hlA hbd=>?_
 simp only[tb'] at hbd ⊢
 refine wr'<|mw<|sn'<|wr'<|mw<|Vw (Ze8 lk lki)<|mw<|?_
 refine sp' (t:=5) gt pt pt (fun hg5=>?_) (fun hg5=>?_)
 ·refine s_do gt<|mw<|s_do gt<|Vw (Zc5 lk lki)<|Vw (Zag lk lk)<|mw<|sn'<|Zaa<|Zai rz<|rT'<|?_
  refine bvx ?_;unfold digB;rw[Bool.eq_iff_iff];simp;omega
 refine s_no gt pt<|s_no gt pt<|Vw (Zab lk lkb)<|mw<|sn'<|Zaa<|Zai rz<|rT'<|?_
 refine bvx ?_;unfold digB;rw[Bool.eq_iff_iff];simp;omega
theorem all_a {p:Int→Bool}{f:FuncId}(hp : ∀ (n:Int) (h:AH),ACalls Try.prog f [uv n] h fun x h'=>h'=h∧x=.ret (bv (p n))) {s:ByteArray}(hs:s.size≤maxLen) {h:AH} :
  Ac 64 [sv s,.v (.func (.func f) #[] #[])] h (bv (allB p s)):=by
 have hm:s.size≤9223372036854775807:=by simpa [maxLen] using hs
 refine tI' k64 fun N hn hlt hlA hbd=>?_
 simp only[tb'] at hbd ⊢
 refine wr'<|mw<|sn'<|Zan<|wr'<|mw<|Vw (Za0 lk)<|mw<|sn'<|Zao<|?_
 refine w_lp (ι:=Nat) (fun (k:Nat)=>[(8,iv (k:Int)),(4,.any),(5,.any)]++rn' 9 9) (fun (k:Nat)=>[]) (fun (k:Nat)=>k≤s.size ∧ ∀ j (hj:j<s.size),j<k→p s[j].toNat=true) (fun (k:Nat)=>s.size-k) (0) (by exact⟨by omega,fun j hj h0=>absurd h0 om⟩) ?_
 rintro k hi1
 try simp only[sm',Nat.reduceAdd]
 obtain⟨hk1,hk2⟩:=hi1
 refine wr'<|Vw (ZbP lk lk)<|sn'<|Zan<|?_
 refine cd' lk (fun hc1=>?_) (fun hc1=>?_)
 ·refine Zaf<|Zah<|Zan<|Zao<|wr'<|mw<|mw<|sn'<|wr'<|mw<|mw<|?_
  refine mv' lk pt ?_
  refine V' (v_ix lk lk om om) pt ?_
  refine s_callT lk mp (hp _ _) pt<|Vw (Zav lk)<|sn'<|?_
  rw[Zcv om] at *
  refine Zaz lk (fun hc2=>?_) (fun hc2=>?_)
  ·refine wr'<|mw<|sn'<|Zaa<|Zap<|Zal<|Zal<|Zap<|Zal<|Zai rz<|rT'<|?_
   refine bvx ?_;rw[Zgw (k:=k) om (by simpa [Zcv (show k<s.size by omega)] using hc2)]
  refine Zaf<|ZaC<|Zah<|Zar<|?_
  refine V' (Zau lk lki om om) pt ?_
  refine mw<|Zaq<|ZaB<|?_
  refine lT' (k+1) (by (try dsimp only);refine⟨by omega,fun j hj h0=>?_⟩;by_cases e:j=k;subst e;simpa [Zcv hj] using hc2;exact hk2 j hj om)
 refine ZaX<|ZaN<|ZaN<|Zbq<|Zah<|wr'<|mw<|sn'<|Zaa<|Zai rz<|rT'<|?_
 refine bvx ?_;rw[ZeW fun j hj=>hk2 j hj om]
theorem ZeV {y:Int}{h:AH}(h0:1≤y) (h1:y≤20000):Ac 38 [iv y] h (iv (bef y)):=by
 refine tI' k38 fun N hn hlt hlA hbd=>?_
 simp only[tb'] at hbd ⊢
 refine wr'<|mw<|sn'<|wr'<|mw<|?_
 refine V' (Zbi lk lki om om) pt ?_
 refine mw<|sn'<|wr'<|mw<|?_
 refine V' (Ze7 lki lk om om) pt ?_
 refine mv' lk pt ?_
 refine V' (Zey lk lki om om om) pt ?_
 refine V' (Zau lk lk om om) pt ?_
 refine mv' lk pt ?_
 refine V' (Zey lk lki om om om) pt ?_
 refine V' (Zbi lk lk om om) pt ?_
 refine mv' lk pt ?_
 refine V' (Zey lk lki om om om) pt ?_
 refine V' (Zau lk lk om om) pt ?_
 refine mw<|sn'<|Zaa<|Zai rz<|rT'<|?_
 unfold bef;rfl
theorem Zh8 {h:AH}:Ac 39 [] h (iv 719162):=by
 refine tI' k39 fun N hn hlt hlA hbd=>?_
 simp only[tb'] at hbd ⊢
 refine wr'<|mw<|sn'<|wr'<|?_
 refine Zak mp (ZeV (by first | assumption | omega) (by first | assumption | omega)) pt ?_
 refine mw<|sn'<|Zaa<|Zai rz<|rT'<|?_
 rw[bef_1970]
theorem first_a {h:AH}:Ac 72 [] h (iv (-719162)):=by
 refine tI' k72 fun N hn hlt hlA hbd=>?_
 simp only[tb'] at hbd ⊢
 refine wr'<|mw<|sn'<|wr'<|Zak mp0 (Zh8) pt<|?_
 refine V' (v_neg lk om om) pt ?_
 exact mw<|sn'<|Zaa<|Zai rz<|rT' rfl
theorem last_a {h:AH}:Ac 73 [] h (iv 2932896):=by
 refine tI' k73 fun N hn hlt hlA hbd=>?_
 simp only[tb'] at hbd ⊢
 refine wr'<|mw<|sn'<|wr'<|?_
 refine Zak mp (ZeV om om) pt ?_
 refine Zak mp0 (Zh8) pt ?_
 refine V' (Zbi lk lk (by rw[ZcA];omega) (by rw[ZcA];omega)) pt ?_
 refine V' (Zbi lk lki (by rw[ZcA];omega) (by rw[ZcA];omega)) pt ?_
 refine mw<|sn'<|Zaa<|Zai rz<|rT'<|?_
 rw[ZcA];rfl
end Go.Proofs.Yticajimgfndceaa
end
section
namespace Go.Proofs.Yticajimgfndceaa
open Go.Ab
abbrev Bs:=List UInt8
def bA (l:Bs):ByteArray:=⟨l.toArray⟩
def aB (s:ByteArray):Bs:=s.data.toList
theorem aB_bA (l:Bs):aB (bA l)=l:=rfl
theorem ZdY (s:ByteArray):(aB s).length=s.size:=rfl
theorem Zfo (l:Bs):(bA l).size=l.length:=rfl
theorem bA_app (a b:Bs):bA a++bA b=bA (a++b):=by
 apply ByteArray.ext
 rw[ByteArray.data_append]
 show a.toArray++b.toArray=(a++b).toArray
 simp
theorem Zja (s:ByteArray) (a b:Nat):s.extract a b=bA (((aB s).drop a).take (b-a)):=by
 apply ByteArray.ext
 rw[ByteArray.data_extract]
 apply Array.ext'
 rw[Array.toList_extract,List.extract_eq_take_drop]
 rfl
theorem ZdZ {s:ByteArray}{k:Nat}(h:k<s.size):(aB s).drop k=Zay s k::(aB s).drop (k+1):=by
 have h':k<s.data.toList.length:=h
 unfold aB Zay
 rw[List.drop_eq_getElem_cons h',List.getD_eq_getElem?_getD,List.getElem?_eq_getElem h']
 rfl
theorem Zje {s:ByteArray}{k:Nat}(h:s.size≤k):(aB s).drop k=[]:=List.drop_of_length_le h
theorem Zd4 {f:ByteArray}:f=⟨#[]⟩↔f.size=0:=by
 constructor
 ·rintro rfl;rfl
 ·intro h
  exact ByteArray.ext (Array.eq_empty_of_size_eq_zero h)
theorem byte_lt (c:UInt8):(0:Int)≤(c.toNat:Int)∧(c.toNat:Int)<256:=by have:=c.toNat_lt;omega
def blkN (n:Int):Bool:=decide (n=32∨n=9)
def plnN (n:Int):Bool:=decide (32≤n∧n≤126∨n=9)
def Zep:Bs→Bool
 | []=>false
 | c::_=>decide ((c.toNat:Int)≠35)
def Zh2:Bs→Int
 | []=>0
 | c::_=>c.toNat
def runL (p:Int→Bool):Bs→Option Nat
 | []=>some 0
 | c::l=>if p c.toNat=true then (if plnN c.toNat=true then (runL p l).map (· + 1) else none) else some 0
theorem ZhT {p:Int→Bool} : ∀ {l:Bs}{n:Nat},runL p l=some n→n≤l.length
 | [],n,h=>by simp[runL] at h;omega
 | c::l,n,h=>by
  unfold runL at h
  split at h
  ·split at h
   ·rw[Option.map_eq_some_iff] at h
    obtain⟨m,hm,rfl⟩:=h
    have:=ZhT hm
    simp;omega
   ·cases h
  ·simp at h;subst h;omega
theorem Zku {p:Int→Bool}{s:ByteArray}{k:Nat}(h:s.size≤k):runL p ((aB s).drop k)=some 0:=by rw[Zje h];rfl
theorem ZeG {p:Int→Bool}{s:ByteArray}{k:Nat}(h:k<s.size) (hp:p (Zay s k).toNat=false):runL p ((aB s).drop k)=some 0:=by
 rw[ZdZ h,runL,if_neg (by simp[hp])]
theorem Zkv {p:Int→Bool}{s:ByteArray}{k:Nat}(h:k<s.size) (hp:p (Zay s k).toNat=true) (hq:plnN (Zay s k).toNat=false):runL p ((aB s).drop k)=none:=by
 rw[ZdZ h,runL,if_pos hp,if_neg (by simp[hq])]
theorem Zmm {p:Int→Bool}{s:ByteArray}{k:Nat}(h:k<s.size) (hp:p (Zay s k).toNat=true) (hq:plnN (Zay s k).toNat=true):runL p ((aB s).drop k)=(runL p ((aB s).drop (k+1))).map (· + 1):=by
 rw[ZdZ h,runL,if_pos hp,if_pos hq]
theorem Zck {s:ByteArray}{k:Nat}:Zep ((aB s).drop k)=(decide (k<s.size)&&decide (((Zay s k).toNat:Int)≠35)):=by
 rcases Nat.lt_or_ge k s.size with h | h
 ·rw[ZdZ h,Zep];simp[h]
 ·rw[Zje h,Zep];simp[Nat.not_lt.2 h]
theorem Zdq {s:ByteArray}{k:Nat}(h:k<s.size):Zh2 ((aB s).drop k)=((Zay s k).toNat:Int):=by rw[ZdZ h];rfl
def quoP (n:Int):Bool:=decide (n≠34)
def fldP (n:Int):Bool:=!blkN n&&decide (n≠35)&&decide (n≠34)
def Zcr:Bs→Option (Nat×Nat×Nat)
  | []=>none
  | c :: l => if (c.toNat : Int) = 34 then
      match runL quoP l with
      | none=>none
      | some n=>if n=l.length then none else if Zep (l.drop (n+1))=true∧blkN (Zh2 (l.drop (n+1)))=false then none else some (1,n,n+2)
    else match runL fldP (c::l) with
      | none=>none
      | some n=>if Zep ((c::l).drop n)=true∧Zh2 ((c::l).drop n)=34 then none else some (0,n,n)
def cutF (l:Bs) (x:Nat×Nat×Nat):ByteArray:=bA ((l.drop x.1).take x.2.1)
def Zel (l:Bs):Nat:=(l.takeWhile fun c=>blkN c.toNat).length
def ZgN:Nat→List ByteArray→Bs→List ByteArray×Int
  | 0,acc,_=>(acc,0)
  | k + 1, acc, l => if Zep (l.drop (Zel l)) = true then
      match Zcr (l.drop (Zel l)) with
      | none=>([],1)
      | some x=>if 24<x.2.1∨12<acc.length+1 then ([],2) else ZgN k (acc++[cutF (l.drop (Zel l)) x]) ((l.drop (Zel l)).drop x.2.2)
    else (acc,0)
def ZcU (l:Bs):List ByteArray×Int:=ZgN 13 [] l
theorem Zi2 {l:Bs}{x:Nat×Nat×Nat}(h:Zcr l=some x):x.1+x.2.1≤x.2.2∧x.2.2≤l.length∧(x.1=0∨x.1=1):=by
 cases l with
 | nil=>cases h
 | cons c l =>
  by_cases hc:(c.toNat:Int)=34
  ·rw[Zcr,if_pos hc] at h
   cases hr:runL quoP l with
   | none=>rw[hr] at h;cases h
   | some n =>
    have:=ZhT hr
    rw[hr] at h
    simp only at h
    split at h
    ·cases h
    ·split at h
     ·cases h
     ·rename_i h1 _
      cases h
      refine⟨by simp;omega,by simp;omega,.inr rfl⟩
  ·rw[Zcr,if_neg hc] at h
   cases hr:runL fldP (c::l) with
   | none=>rw[hr] at h;cases h
   | some n =>
    have:=ZhT hr
    rw[hr] at h
    simp only at h
    split at h
    ·cases h
    ·cases h
     exact⟨by simp,this,.inl rfl⟩
end Go.Proofs.Yticajimgfndceaa
end
section
namespace Go.Proofs.Yticajimgfndceaa
open Go.Ab
abbrev u8v (n:Int):AV:=.v (.int .u8 n)
theorem fieldL_q {s : ByteArray} {k : Nat} (hk : k < s.size) (hq : ((Zay s k).toNat : Int) = 34) : Zcr ((aB s).drop k) = match runL quoP ((aB s).drop (k + 1)) with
      | none=>none
      | some n=>if k+1+n=s.size then none else if Zep ((aB s).drop (k+n+2))=true∧blkN (Zh2 ((aB s).drop (k+n+2)))=false then none else some (1,n,n+2):=by
  rw[ZdZ hk,Zcr,if_pos hq]
  cases hr:runL quoP ((aB s).drop (k+1)) with
  | none=>rfl
  | some n =>
    have hle:=ZhT hr
    have hl:((aB s).drop (k+1)).length=s.size-(k+1):=by rw[List.length_drop,ZdY]
    simp only[hl,List.drop_drop,show k+1+(n+1)=k+n+2 by omega]
    by_cases h:k+1+n=s.size
    · rw[if_pos om,if_pos h]
    rw[if_neg om,if_neg h]
theorem fieldL_f {s : ByteArray} {k : Nat} (hk : k < s.size) (hq : ¬ ((Zay s k).toNat : Int) = 34) : Zcr ((aB s).drop k) = match runL fldP ((aB s).drop k) with
      | none=>none
      | some n=>if Zep ((aB s).drop (k+n))=true∧Zh2 ((aB s).drop (k+n))=34 then none else some (0,n,n):=by
  conv=>lhs;rw[ZdZ hk,Zcr,if_neg hq,←ZdZ hk]
  simp only[List.drop_drop]
  all_goals cases runL fldP ((aB s).drop k) <;> rfl
end Go.Proofs.Yticajimgfndceaa
end
section
namespace Go.Ab
section
variable {P : Program}
structure AFD where
 al:List AOper
 d:Nat
 k:Nat
 caps:List Operand
 af:AF
def ADef (P:Program) (k:FuncId) (cv:List AV) (m:Option AV) (h:AH) (R:AH→Prop):Prop :=
  ∀ w g (vs:Array Value),SimH w g h→RepL w g cv vs.toList→match m with
    | none=>CallsD P k vs .returning w fun e u' w'=>(∃ v,e=.returned v)∧u'=.returning ∧ ∃ h' g',SimH w' g' h'∧g.le g'∧Fr w (Ow g h) w'∧(∀ k,Ow g' h' k→Ow g h k∨w.heap.size≤k)∧R h'
    | some c => ∀ v, Rep w g c v → CallsD P k vs (.panicking [{ v := v, recovered := false }]) w fun e u' w' => (∃ x, e = .returned x) ∧ (∃ x, u' = .panicking [{ v := x, recovered := true }]) ∧
        ∃ h' g',SimH w' g' h'∧g.le g'∧Fr w (Ow g h) w'∧(∀ k,Ow g' h' k→Ow g h k∨w.heap.size≤k)∧R h'
def doorA (P:Program) (k:FuncId) (cv:List AV) (rs:List AR) (R:AE→AH→Prop):AX→List AV→AH→Prop
 | .normal,T,h=>ADef P k cv none h fun h' => ∃ c,aRes rs T h'=some c∧R (.ret c) h'
 | .ret,T,h=>ADef P k cv none h fun h' => ∃ c,aRes rs T h'=some c∧R (.ret c) h'
 | .pan c,T,h=>ADef P k cv (some c) h fun h' => ∃ r,aRes rs T h'=some r∧R (.ret r) h'
 | .exit _,_,_=>False
def afterR0 (P:Program) (fd:AFD) (R:AE→AH→Prop) (x:AX) (T1:List AV) (h1:AH):Prop:=x=.normal∧fd.d<T1.length∧aw P h1.length fd.af.code (doorA P fd.k (fd.caps.map (Zad T1)) fd.af.res R) (T1.set fd.d .any) h1
theorem afterR0.mk {fd:AFD}{R:AE→AH→Prop}{T T1 cv:List AV}{h:AH}{n:Nat}(hd:fd.d<T.length) (hp:aPut T (some fd.d) .any=T1) (hc:fd.caps.map (Zad T)=cv) (hn:h.length=n) (hw : ∀ M,M=n→aw P M fd.af.code (doorA P fd.k cv fd.af.res R) T1 h):afterR0 P fd R .normal T h:=by
 subst hp hc;exact⟨rfl,hd,hw _ hn⟩
end
end Go.Ab
end
section
namespace Go.Proofs.Yticajimgfndceaa
open Go.Ab
abbrev strC (s:ByteArray):List AV:=[sv s]
theorem ZbT {n:Nat}(l:List ByteArray):AV.ltL n (rows strC l)=true:=Zdk (fun _ _=>rfl) l
attribute [local simp] ZbT
theorem Zbt : ∀ x,(strC x).length=1:=fun _=>rfl
theorem ZjA (l:List ByteArray):(rows strC l).length=l.length*1:=Za7 Zbt l
def Zfk (m:Nat) (acc:List ByteArray) (l:Bs):List ByteArray×Int :=
  if Zep l = true then
      match Zcr l with
      | none=>([],1)
      | some x=>if 24<x.2.1∨12<acc.length+1 then ([],2) else ZgN m (acc++[cutF l x]) (l.drop x.2.2)
    else (acc,0)
theorem Zm1 (m:Nat) (acc:List ByteArray) (l:Bs):ZgN (m+1) acc l=Zfk m acc (l.drop (Zel l)):=rfl
theorem Zi6 {l:Bs}{y:Nat×Nat×Nat}(h:Zcr l=some y):(cutF l y).size=y.2.1:=by
 obtain⟨h1,h2,h3⟩:=Zi2 h
 unfold cutF
 rw[Zfo,List.length_take,List.length_drop];omega
theorem ZkQ {m:Nat}{fs:List ByteArray}{l:Bs}(h:Zep l=false):Zfk m fs l=(fs,0):=by rw[Zfk,if_neg (by simp[h])]
theorem ZcS {m:Nat}{fs:List ByteArray}{l:Bs}(h:Zep l=true) (hf:Zcr l=none):Zfk m fs l=([],1):=by rw[Zfk,if_pos h,hf]
theorem Zhd {m:Nat}{fs:List ByteArray}{l:Bs}{y:Nat×Nat×Nat}(h:Zep l=true) (hf:Zcr l=some y) (hm:24<y.2.1∨12<fs.length+1):Zfk m fs l=([],2):=by rw[Zfk,if_pos h,hf];exact if_pos hm
theorem fldsT_go {m:Nat}{fs:List ByteArray}{l:Bs}{y:Nat×Nat×Nat}(h:Zep l=true) (hf:Zcr l=some y) (hm:¬(24<y.2.1∨12<fs.length+1)):Zfk (m+1) fs l=Zfk m (fs++[cutF l y]) ((l.drop y.2.2).drop (Zel (l.drop y.2.2))):=by rw[Zfk,if_pos h,hf];exact if_neg hm
theorem fldsT_at {m k:Nat}{fs:List ByteArray}{l:Bs}{y:Nat×Nat×Nat}(h:Zep (l.drop k)=true) (hf:Zcr (l.drop k)=some y) (hm:¬(24<y.2.1∨12<fs.length+1)) :
  Zfk (m+1) fs (l.drop k)=Zfk m (fs++[cutF (l.drop k) y]) (l.drop (k+y.2.2+Zel (l.drop (k+y.2.2)))):=by
 rw[fldsT_go h hf hm]
 simp only[List.drop_drop]
end Go.Proofs.Yticajimgfndceaa
end
section
namespace Go.Proofs.Yticajimgfndceaa
open Go.Ab
def cutC (x:UInt8):Bs→List Bs
 | []=>[[]]
 | c::l=>if c=x then []::cutC x l else match cutC x l with
  | []=>[[c]]
  | y::ys=>(c::y)::ys
theorem Zib (x:UInt8) : ∀ l,cutC x l≠[]
 | []=>by simp[cutC]
 | c::l=>by
  unfold cutC
  split
  ·simp
  ·split <;> simp
theorem ZeM {x:UInt8} : ∀ {l:Bs}{i:Nat},Lib.index l [x]=i→cutC x l=l.take i::cutC x (l.drop (i+1))∧i<l.length∧l[i]?=some x
 | [],i,h=>by simp[Lib.index] at h
 | c::l,i,h=>by
  unfold Lib.index at h
  by_cases hc:x=c
  ·subst hc
   simp at h
   obtain rfl:i=0:=by omega
   simp[cutC]
  ·have h0:[x].isPrefixOf (c::l)=false:=by simp[List.isPrefixOf,hc]
   rw[h0] at h
   simp only[Bool.false_eq_true,if_false] at h
   have hge:=Lib.index_ge l [x]
   by_cases e:Lib.index l [x] = -1
   ·rw[if_pos (by simpa using e)] at h;omega
   ·rw[if_neg (by simpa using e)] at h
    obtain⟨j,rfl⟩ : ∃ j,i=j+1:=⟨i-1,by omega⟩
    have hj:Lib.index l [x]=(j:Int):=by
     omega
    obtain⟨h1,h2,h3⟩:=ZeM hj
    refine⟨?_,by simp;omega,by simpa using h3⟩
    rw[cutC,if_neg (Ne.symm hc),h1]
    rfl
end Go.Proofs.Yticajimgfndceaa
end
section
namespace Go.Ab
open Go.RowKit
section
variable {P : Program}
theorem ACalls.of_below {f:FuncId}{args:List AV}{h:AH}{c:AV}(he:enters P f=true)
  (hc : ∀ w g (vs:Array Value),SimH w g h→RepL w g args vs.toList→Calls P f vs w fun e w' => ∃ v,e=.returned v∧Below w.heap.size w w'∧Rep w' g c v):ACalls P f args h fun x h'=>h'=h∧x=.ret c:=by
 refine⟨he,fun w g vs hs ha=>(hc w g vs hs ha).mono ?_⟩
 rintro e w' ⟨v,rfl,hb,hr⟩
 have hold : ∀ k,k<w.heap.size→w'.heap[k]?=w.heap[k]?:=fun k hk=>hb.block k hk
 have hs':SimH w' g h:=hs.world (fun k hk=>hold k (hk.elim (hs.lt k) (fun ho=>(hs.own_not_D ho).2))) hb.size
 exact⟨.ret c,h,g,hr,hs',Gh.le.refl g,⟨hb.os,hb.tape,hb.output,hb.size,fun k hk _=>hold k hk⟩,fun k hk=>.inl hk,rfl,rfl⟩
end
end Go.Ab
end
section
namespace Go.Proofs
open Go.Shelf
def Try.lays137_ren:Go.Shelf.Ren:=⟨fun | 137=>67 | 217=>90 | 266=>98 | n=>n,fun | 9=>9 | 5=>5 | 3=>3 | n=>n,fun | n=>n⟩
theorem Try.lays137:Go.Proofs.Lays.n137 Try.prog Try.lays137_ren:={
 mixed:=by kernel_rfl
 f137:=Try.func67.trans (congrArg some (by kernel_rfl))
 f217:=Try.func90.trans (congrArg some (by kernel_rfl))
 f266:=Try.func98.trans (congrArg some (by kernel_rfl))
 t3:=Try.underlying3
 a3:=Try.isAgg3
 z3:=Try.sizeOf3
 v3:=Try.zeroValue3
 t5:=Try.underlying5
 a5:=Try.isAgg5
 z5:=Try.sizeOf5
 v5:=Try.zeroValue5
 t9:=Try.underlying9
 a9:=Try.isAgg9
 z9:=Try.sizeOf9
 v9:=Try.zeroValue9 }
open Go.RowKit in
theorem Try.strings_IndexByte (s:ByteArray) (c:Int) (w:World) :
  Calls Try.prog 67 #[.string s,.int .u8 c] w fun e w'=>e=.returned (.int .i64 (Lib.indexByte s.data.toList c.toNat.toUInt8))∧w'=w:=Any.strings_IndexByte Try.lays137 s c w
end Go.Proofs
end
section
namespace Go.Proofs.Yticajimgfndceaa
open Go.Ab Go.RowKit
attribute [local simp] ZbT
abbrev Ln:=Int×Bool×List ByteArray
abbrev lnC (x:Ln):List AV:=[iv x.1,bv x.2.1,.sl x.2.2.length 1 false (rows strC x.2.2)]
theorem Zeq {n:Nat}(l:List Ln):AV.ltL n (rows lnC l)=true:=Zdk (fun n x=>by simp[AV.ltL,AV.lt,ZbT]) l
attribute [local simp] Zeq
theorem Za2 : ∀ x,(lnC x).length=3:=fun _=>rfl
theorem ZkH (l:List Ln):(rows lnC l).length=l.length*3:=Za7 Za2 l
def ZbV:Int→List Bs→List Ln→List Ln×Int×Int
 | _,[],acc=>(acc,0,0)
 | n,x::xs,acc=>if (ZcU x).2≠0 then ([],n,(ZcU x).2) else ZbV (n+1) xs (if (ZcU x).1=[] then acc else acc++[(n,blkN (Zh2 x),(ZcU x).1)])
def Zbv (s:ByteArray):List Ln×Int×Int :=
 if 8000<s.size then ([],0,2) else
  if (ZbV 1 (cutC 10 (aB s)) []).2.2≠0 then ZbV 1 (cutC 10 (aB s)) [] else if 200<(ZbV 1 (cutC 10 (aB s)) []).1.length then ([],0,2) else ZbV 1 (cutC 10 (aB s)) []
theorem ZkI {x:Bs}(h:(ZcU x).1≠[]):0<x.length:=by
 cases x with
 | nil=>exact absurd rfl h
 | cons c l=>simp
end Go.Proofs.Yticajimgfndceaa
end
section
namespace Go.Proofs.Yticajimgfndceaa
open Go.Ab
attribute [local simp] ZbT
section
theorem Ze2 {τ:Operand→AV}{y0:Operand}{x0_0:AV}(h0:Zas (τ y0)=some [x0_0]) (l0:[x0_0].all leaf=true):Zaw τ [(0,1,y0)] [(.v (.string ⟨#[]⟩))]=some [x0_0]:=by
 simp only[Zaw,h0,l0]
 rfl
theorem ZlM {a0:AV}{l:List AV}:(a0::l).take 1=[a0]:=rfl
end
def c82:AC:=(Sr [Mb 6 false] (Sr [Mv 7 0,Mv 8 1,Bn 9 .geq 7 8,Mv 10 9,Ot 11 10 (mt 0),Ot 12 10 (mt 2),Ot 13 10 (.bin .leq (.tmp 11) (.tmp 12)),Oo 14 (.pick (.tmp 10) (.tmp 13) (.const (.bool false))),Mv 6 14] .ret))
theorem k82:ZaO Try.prog 82=some ⟨c82,[(.tmp 6)],15⟩:=by kernel_rfl
def c51:AC:=(Sr [Mb 2 false] (Sr [Mv 3 0,Oo 4 (.bin .eql (.tmp 3) (.const (.int .u8 32))),Mv 5 4,Of 6 5 (mt 0),Of 7 5 (.bin .eql (.tmp 6) (.const (.int .u8 9))),Oo 8 (.pick (.tmp 5) (.const (.bool true)) (.tmp 7)),Mv 2 8] .ret))
theorem k51:ZaO Try.prog 51=some ⟨c51,[(.tmp 2)],9⟩:=by kernel_rfl
def c80:AC:=(Sr [Mb 2 false] (Sr [Mv 3 0,Oo 4 (.cvi .i64 (.tmp 3)),Cl 5 82 [(.tmp 4),(Ci 32),(Ci 126)],Mv 6 5,Of 7 6 (mt 0),Of 8 6 (.bin .eql (.tmp 7) (.const (.int .u8 9))),Oo 9 (.pick (.tmp 6) (.const (.bool true)) (.tmp 8)),Mv 2 9] .ret))
theorem k80:ZaO Try.prog 80=some ⟨c80,[(.tmp 2)],10⟩:=by kernel_rfl
def c50:AC:=(Sr [Oo 2 (.mv (.const (.slice none 0 0))),Mc 3 0] (Sr [Oo 4 (.mv (.const (.slice none 0 0)))] (Sr [Mc 5 0] (.block 0 (.loop (.block 1 (.seq (.block 2 (.loop (.seq (Sr [Mv 7 5,Mv 8 0,Oo 9 (.len true (.tmp 8)),Bn 10 .lss 7 9,Mv 11 10,Ot 12 11 (mt 0),Ot 13 11 (mt 5),Ot 14 11 (.ix (.tmp 12) (.tmp 13)),Ot 15 11 (.call (.func 51) [(.tmp 14)]),Oo 16 (.pick (.tmp 11) (.tmp 15) (.const (.bool false)))] (Cd 16 .skip (.exit 2))) (.block 3 (.reg [Mv 17 5,Bc 18 .add 17 1,Mv 5 18]))))) (.seq (Sr [Mv 19 5,Mv 20 0,Oo 21 (.len true (.tmp 20)),Bn 22 .eql 19 21,Mv 23 22,Of 24 23 (mt 0),Of 25 23 (mt 5),Of 26 23 (.ix (.tmp 24) (.tmp 25)),Of 27 23 (.bin .eql (.tmp 26) (.const (.int .u8 35))),Oo 28 (.pick (.tmp 23) (.const (.bool true)) (.tmp 27))] (Cd 28 (Sr [Mv 29 4,Mv 2 29,Mc 3 0] .ret) .skip)) (Sr [Ms 6] (.seq (Sr [Mv 30 0,Mv 31 5,Oo 32 (.ix (.tmp 30) (.tmp 31)),Oo 33 (.bin .eql (.tmp 32) (.const (.int .u8 34)))] (Cd 33 (Sr [Mv 34 5,Bc 35 .add 34 1,Mv 5 35] (.seq (.block 4 (.loop (.seq (Sr [Mv 36 5,Mv 37 0,Oo 38 (.len true (.tmp 37)),Bn 39 .lss 36 38,Mv 40 39,Ot 41 40 (mt 0),Ot 42 40 (mt 5),Ot 43 40 (.ix (.tmp 41) (.tmp 42)),Ot 44 40 (.bin .neq (.tmp 43) (.const (.int .u8 34))),Oo 45 (.pick (.tmp 40) (.tmp 44) (.const (.bool false)))] (Cd 45 .skip (.exit 4))) (.block 5 (.seq (Sr [Mv 46 0,Mv 47 5,Oo 48 (.ix (.tmp 46) (.tmp 47)),Cl 49 80 [(.tmp 48)],Oo 50 (.un .not (.tmp 49))] (Cd 50 (Sr [Oo 2 (.mv (.const (.slice none 0 0))),Mc 3 1] .ret) .skip)) (Sr [Mv 51 6,Mv 52 0,Mv 53 5,Mv 54 5,Bc 55 .add 54 1,Oo 56 (.sls (.tmp 52) (some (.tmp 53)) (some (.tmp 55))),Bn 57 .add 51 56,Mv 6 57] (.reg [Mv 58 5,Bc 59 .add 58 1,Mv 5 59]))))))) (.seq (Sr [Mv 60 5,Mv 61 0,Oo 62 (.len true (.tmp 61)),Bn 63 .eql 60 62] (Cd 63 (Sr [Oo 2 (.mv (.const (.slice none 0 0))),Mc 3 1] .ret) .skip)) (Sr [Mv 64 5,Bc 65 .add 64 1,Mv 5 65] (Sr [Mv 66 5,Mv 67 0,Oo 68 (.len true (.tmp 67)),Bn 69 .lss 66 68,Mv 70 69,Ot 71 70 (mt 0),Ot 72 70 (mt 5),Ot 73 70 (.ix (.tmp 71) (.tmp 72)),Ot 74 70 (.call (.func 51) [(.tmp 73)]),Ot 75 70 (.un .not (.tmp 74)),Oo 76 (.pick (.tmp 70) (.tmp 75) (.const (.bool false))),Mv 77 76,Ot 78 77 (mt 0),Ot 79 77 (mt 5),Ot 80 77 (.ix (.tmp 78) (.tmp 79)),Ot 81 77 (.bin .neq (.tmp 80) (.const (.int .u8 35))),Oo 82 (.pick (.tmp 77) (.tmp 81) (.const (.bool false)))] (Cd 82 (Sr [Oo 2 (.mv (.const (.slice none 0 0))),Mc 3 1] .ret) .skip)))))) (.block 6 (.loop (.seq (Sr [Mv 83 5,Mv 84 0,Oo 85 (.len true (.tmp 84)),Bn 86 .lss 83 85,Mv 87 86,Ot 88 87 (mt 0),Ot 89 87 (mt 5),Ot 90 87 (.ix (.tmp 88) (.tmp 89)),Ot 91 87 (.call (.func 51) [(.tmp 90)]),Ot 92 87 (.un .not (.tmp 91)),Oo 93 (.pick (.tmp 87) (.tmp 92) (.const (.bool false))),Mv 94 93,Ot 95 94 (mt 0),Ot 96 94 (mt 5),Ot 97 94 (.ix (.tmp 95) (.tmp 96)),Ot 98 94 (.bin .neq (.tmp 97) (.const (.int .u8 35))),Oo 99 (.pick (.tmp 94) (.tmp 98) (.const (.bool false)))] (Cd 99 .skip (.exit 6))) (.block 7 (.seq (Sr [Mv 100 0,Mv 101 5,Oo 102 (.ix (.tmp 100) (.tmp 101)),Cl 103 80 [(.tmp 102)],Oo 104 (.un .not (.tmp 103)),Mv 105 104,Of 106 105 (mt 0),Of 107 105 (mt 5),Of 108 105 (.ix (.tmp 106) (.tmp 107)),Of 109 105 (.bin .eql (.tmp 108) (.const (.int .u8 34))),Oo 110 (.pick (.tmp 105) (.const (.bool true)) (.tmp 109))] (Cd 110 (Sr [Oo 2 (.mv (.const (.slice none 0 0))),Mc 3 1] .ret) .skip)) (Sr [Mv 111 6,Mv 112 0,Mv 113 5,Mv 114 5,Bc 115 .add 114 1,Oo 116 (.sls (.tmp 112) (some (.tmp 113)) (some (.tmp 115))),Bn 117 .add 111 116,Mv 6 117] (.reg [Mv 118 5,Bc 119 .add 118 1,Mv 5 119]))))))))) (Sr [Mv 120 4,Mv 121 6,Oo 122 (.lit 9 1 1 [Ss] [(0,(1,(.tmp 121)))]),Oo 123 (.app 9 1 16 (.tmp 120) (.tmp 122)),Mv 4 123] (Sr [Mv 124 6,Oo 125 (.len true (.tmp 124)),Bc 126 .gtr 125 24,Mv 127 126,Of 128 127 (mt 4),Of 129 127 (.len false (.tmp 128)),Of 130 127 (.bin .gtr (.tmp 129) (Ci 12)),Oo 131 (.pick (.tmp 127) (.const (.bool true)) (.tmp 130))] (Cd 131 (Sr [Oo 2 (.mv (.const (.slice none 0 0))),Mc 3 2] .ret) .skip)))))))))))))
theorem k50:ZaO Try.prog 50=some ⟨c50,[(.tmp 2),(.tmp 3)],132⟩:=by kernel_rfl
theorem ZaP {n a b:Int}{h:AH}:Ac 82 [iv n,iv a,iv b] h (bv (wi n a b)):=by
 refine tI' k82 fun N hn hlt hlA hbd=>?_
 simp only[tb'] at hbd ⊢
 refine wr'<|mw<|sn'<|wr'<|mw<|mw<|Vw (Ze8 lk lk)<|mw<|?_
 refine sp' (t:=10) gt pt pt (fun hg10=>?_) (fun hg10=>?_)
 ·refine s_do gt<|mw<|s_do gt<|mw<|s_do gt<|Vw (Zc5 lk lk)<|Vw (Zag lk lk)<|mw<|sn'<|Zaa<|Zai rz<|rT'<|?_
  refine bvx ?_;unfold wi;rw[Bool.eq_iff_iff];simp;omega
 refine s_no gt pt<|s_no gt pt<|s_no gt pt<|Vw (Zab lk lkb)<|mw<|sn'<|Zaa<|Zai rz<|rT'<|?_
 refine bvx ?_;unfold wi;rw[Bool.eq_iff_iff];simp;omega
theorem ZcI {n:Int}{h:AH}:Ac 51 [u8v n] h (bv (blkN n)):=by
 refine tI' k51 fun N hn hlt hlA hbd=>?_
 simp only[tb'] at hbd ⊢
 refine wr'<|mw<|sn'<|wr'<|mw<|Vw (ZaS lk lki)<|mw<|?_
 refine sp' (t:=5) gt pt pt (fun hg5=>?_) (fun hg5=>?_)
 ·refine s_no gt pt<|s_no gt pt<|Vw (Zag lk lkb)<|mw<|sn'<|Zaa<|Zai rz<|rT'<|?_
  refine bvx ?_;unfold blkN;simp_all
 refine s_do gt<|mw<|s_do gt<|Vw (ZaS lk lki)<|Vw (Zab lk lk)<|mw<|sn'<|Zaa<|Zai rz<|rT'<|?_
 refine bvx ?_;unfold blkN;simp_all
theorem ZgZ {c:UInt8}{h:AH}:Ac 80 [u8v c.toNat] h (bv (plnN c.toNat)):=by
 have hb:=byte_lt c
 refine tI' k80 fun N hn hlt hlA hbd=>?_
 simp only[tb'] at hbd ⊢
 refine wr'<|mw<|sn'<|wr'<|mw<|?_
 refine V' (ZfX lk om om) pt ?_
 refine Zak mp (ZaP) pt<|mw<|?_
 refine ZaI (t:=6) gt pt pt (fun hg6=>?_) (fun hg6=>?_)
 ·refine s_no gt pt<|s_no gt pt<|Vw (Zag lk lkb)<|mw<|sn'<|Zaa<|Zai rz<|rT'<|?_
  refine bvx ?_;unfold wi at *;unfold plnN;first | (simp_all;done) | (simp_all;omega)
 refine s_do gt<|mw<|s_do gt<|Vw (ZaS lk lki)<|Vw (Zab lk lk)<|mw<|sn'<|Zaa<|Zai rz<|rT'<|?_
 refine bvx ?_;unfold wi at *;unfold plnN;first | (simp_all;done) | (simp_all;omega)
theorem ZkR {s:ByteArray}{a n:Nat}(h:a+n<s.size):bA (((aB s).drop a).take n)++s.extract (a+n) (a+n+1)=bA (((aB s).drop a).take (n+1)):=by
 rw[Zja,bA_app,Nat.add_sub_cancel_left,List.take_add,List.drop_drop]
theorem Zmi {s:ByteArray}{k:Nat}(h:s.size≤k):Zel ((aB s).drop k)=0:=by rw[Zje h];rfl
theorem Zla {s:ByteArray}{k:Nat}(h:k<s.size) (hp:blkN (Zay s k).toNat=false):Zel ((aB s).drop k)=0:=by
 rw[ZdZ h];simp[Zel,List.takeWhile_cons,hp]
theorem skipN_go {s:ByteArray}{k:Nat}(h:k<s.size) (hp:blkN (Zay s k).toNat=true):Zel ((aB s).drop k)=Zel ((aB s).drop (k+1))+1:=by
 rw[ZdZ h];simp[Zel,List.takeWhile_cons,hp]
theorem Zm2 {n:Int}(h1:blkN n=false) (h2:n≠35) (h3:n≠34):fldP n=true:=by unfold fldP;simp[h1,h2,h3]
theorem Zgb {s:ByteArray}{h:AH}(hz:s.size≤8000):Ac 50 [sv s] h (.tup [.sl (ZcU (aB s)).1.length 1 false (rows strC (ZcU (aB s)).1),iv (ZcU (aB s)).2]):=by
 refine tW' k50 fun N hn hlt hlA hbd=>?_
 simp only[tb'] at hbd ⊢
 refine wr'<|mv' lkn pt2<|mv' lki pt3<|sn'<|wr'<|mv' lkn pt4<|Zaq<|ZbY (ALe.own0' (st':=1) (ty:=9) gt4 (hl0 hn) pt4 ha0)<|wr'<|mv' lki pt5<|?_
 refine sn'<|Zao<|?_
 refine w_lp (ι:=Nat×List ByteArray×Nat×Nat) (fun (x_:Nat×List ByteArray×Nat×Nat)=>match x_ with | ⟨k,fs,v,m⟩=>[(4,.own (N+0) v fs.length),(5,iv (k:Int)),(2,.any),(3,.any)]++rn' 6 126) (fun (x_:Nat×List ByteArray×Nat×Nat)=>match x_ with | ⟨k,fs,v,m⟩=>[(0,.mk v 9 1 (rows strC fs))]) (fun (x_:Nat×List ByteArray×Nat×Nat)=>match x_ with | ⟨k,fs,v,m⟩=>k≤s.size∧fs.length+m=12∧ZcU (aB s)=ZgN (m+1) fs ((aB s).drop k)) (fun (x_:Nat×List ByteArray×Nat×Nat)=>match x_ with | ⟨k,fs,v,m⟩=>m) (⟨0,[],0,12⟩) (by exact⟨Nat.zero_le _,rfl,rfl⟩) ?_
 rintro⟨k,fs,v,m⟩ hi1
 try simp only[sm',Nat.reduceAdd]
 obtain⟨hi1,hi2,hi3⟩:=hi1
 rw[Zm1,List.drop_drop] at hi3
 refine Zao ?_
 refine ZfW (ι:=Nat) (fun (p:Nat)=>[(5,iv (p:Int))]++rn' 7 12) (fun (p:Nat)=>[]) (fun (p:Nat)=>p≤s.size∧ZcU (aB s)=Zfk m fs ((aB s).drop p)) ?_ ?_
 ·try simp only[sm',Nat.reduceAdd]
  refine Zao ?_
  refine w_lp (ι:=Nat) (fun (j:Nat)=>[(5,iv ((k+j:Nat):Int))]++rn' 7 12) (fun (j:Nat)=>[]) (fun (j:Nat)=>k+j≤s.size∧Zel ((aB s).drop k)=Zel ((aB s).drop (k+j))+j) (fun (j:Nat)=>s.size-(k+j)) (0) (by exact⟨hi1,rfl⟩) ?_
  rintro j hi2
  try simp only[sm',Nat.reduceAdd]
  obtain⟨hj1,hj2⟩:=hi2
  refine Zan<|wr'<|mw<|mw<|Vw (Za0 lk)<|Vw (ZbP lk lk)<|mw<|?_
  refine sp' (t:=11) gt pt pt (fun hg11=>?_) (fun hg11=>?_)
  ·refine s_do gt<|mw<|s_do gt<|mw<|s_do gt<|?_
   refine V' (v_ix lk lk om om) pt ?_
   refine s_do gt<|Zak mp (ZcI) pt<|Vw (Zag lk lk)<|sn'<|?_
   refine Zaz lk (fun hc1=>?_) (fun hc1=>?_)
   ·have hG:=skipN_go (s:=s) (k:=k+j) om hc1
    rw[hG] at hj2
    refine Zaf<|Zah<|Zao<|Zar<|mw<|?_
    refine V' (Zau lk lki om om) pt ?_
    refine mw<|Zaq<|ZaC<|ZaB<|?_
    refine lT' (j+1) (by (try dsimp only);exact⟨by omega,by rw[show k+(j+1)=k+j+1 from rfl];omega⟩)
   have hE:=Zla (s:=s) (k:=k+j) om hc1
   rw[hE,Nat.zero_add] at hj2
   rw[hj2] at hi3
   refine ZaX<|ZaN<|ZaN<|Zbq<|ZaB<|?_
   exact cT' (k+j) (by exact⟨hj1,hi3⟩)
  have hE:=Zmi (s:=s) (k:=k+j) om
  rw[hE,Nat.zero_add] at hj2
  rw[hj2] at hi3
  refine s_no gt pt<|s_no gt pt<|s_no gt pt<|s_no gt pt<|Vw (Zab lk lkb)<|sn'<|ZaG lk<|ZaX<|ZaN<|ZaN<|Zbq<|ZaB<|?_
  exact cT' (k+j) (by exact⟨hj1,hi3⟩)
 rintro p hq6
 try simp only[sm',Nat.reduceAdd]
 obtain⟨hp1,hp2⟩:=hq6
 refine Zan<|wr'<|mw<|mw<|Vw (Za0 lk)<|Vw (ZaS lk lk)<|mw<|?_
 refine sp' (t:=23) gt pt pt (fun hg23=>?_) (fun hg23=>?_)
 ·rw[ZkQ (by rw[Zck];simp;omega)] at hp2
  refine s_no gt pt<|s_no gt pt<|s_no gt pt<|s_no gt pt<|Vw (Zag lk lkb)<|sn'<|ZaH lk<|wr'<|mw<|mw<|mw<|Zaq<|?_
  refine ZbY (ALe.iceR (hga hn rfl) gt2 (List.take_of_length_le (by rw[Za7 Zbt];first | exact Nat.le_refl _ | omega)) (by rw[Za7 Zbt];first | exact Nat.le_refl _ | omega) pt2 (hs0 hn)) ?_
  refine Zaa<|Zal<|Zap<|Zal<|Zap<|Zai ry<|rtW'<|?_
  rw[hp2];exact Wk.tup (wkw (Wk.refl _) (wk1 rfl wk0))
 refine s_do gt<|mw<|s_do gt<|mw<|s_do gt<|?_
 refine V' (v_ix lk lk om om) pt ?_
 refine s_do gt<|Vw (ZaS lk lki)<|Vw (Zab lk lk)<|sn'<|?_
 refine cd' lk (fun hc2=>?_) (fun hc2=>?_)
 ·have hc2':((Zay s p).toNat:Int)=35:=hc2
  rw[ZkQ (by rw[Zck];simp[hc2'])] at hp2
  refine wr'<|mw<|mw<|mw<|Zaq<|?_
  refine ZbY (ALe.iceR (hga hn rfl) gt2 (List.take_of_length_le (by rw[Za7 Zbt];first | exact Nat.le_refl _ | omega)) (by rw[Za7 Zbt];first | exact Nat.le_refl _ | omega) pt2 (hs0 hn)) ?_
  refine Zaa<|Zal<|Zap<|Zal<|Zap<|Zai ry<|rtW'<|?_
  rw[hp2];exact Wk.tup (wkw (Wk.refl _) (wk1 rfl wk0))
 have hps:p<s.size:=by omega
 have hc2':¬((Zay s p).toNat:Int)=35:=hc2
 have hm:Zep ((aB s).drop p)=true:=by rw[Zck];simp only[hps,hc2',decide_true,Bool.and_self,ne_eq,not_false_eq_true]
 refine Zaf<|Zah<|wr'<|mw<|sn'<|?_
 refine ZfW (ι:=Nat×Nat×Nat) (fun (y:Nat×Nat×Nat)=>[(5,iv ((p+y.2.2:Nat):Int)),(6,sv (cutF ((aB s).drop p) y)),(2,.any),(3,.any)]++rn' 30 90) (fun (y:Nat×Nat×Nat)=>[]) (fun (y:Nat×Nat×Nat)=>Zcr ((aB s).drop p)=some y) ?_ ?_
 ·try simp only[sm',Nat.reduceAdd]
  refine wr'<|mw<|mw<|?_
  refine V' (v_ix lk lk om om) pt ?_
  refine Vw (ZaS lk lki)<|sn'<|?_
  refine cd' lk (fun hc3=>?_) (fun hc3=>?_)
  ·have hF:=fieldL_q hps hc3
   refine wr'<|mw<|?_
   refine V' (Zau lk lki om om) pt ?_
   refine mw<|sn'<|Zan<|Zao<|?_
   refine w_lp (ι:=Nat) (fun (n:Nat)=>[(5,iv ((p+1+n:Nat):Int)),(6,sv (bA (((aB s).drop (p+1)).take n))),(2,.any),(3,.any)]++rn' 36 24) (fun (n:Nat)=>[]) (fun (n:Nat)=>p+1+n≤s.size∧runL quoP ((aB s).drop (p+1))=(runL quoP ((aB s).drop (p+1+n))).map (· + n)) (fun (n:Nat)=>s.size-(p+1+n)) (0) (by exact⟨by omega,by simp⟩) ?_
   rintro n hi3
   try simp only[sm',Nat.reduceAdd]
   obtain⟨hn1,hn2⟩:=hi3
   refine Zan<|wr'<|mw<|mw<|Vw (Za0 lk)<|Vw (ZbP lk lk)<|mw<|?_
   refine sp' (t:=40) gt pt pt (fun hg40=>?_) (fun hg40=>?_)
   ·refine s_do gt<|mw<|s_do gt<|mw<|s_do gt<|?_
    refine V' (v_ix lk lk om om) pt ?_
    refine s_do gt<|Vw (Za1 lk lki)<|Vw (Zag lk lk)<|sn'<|?_
    refine cd' lk (fun hc4=>?_) (fun hc4=>?_)
    ·have hq:quoP (Zay s (p+1+n)).toNat=true:=decide_eq_true hc4
     refine Zaf<|Zah<|Zao<|Zan<|wr'<|mw<|mw<|?_
     refine V' (v_ix lk lk om om) pt ?_
     refine Zak mp (ZgZ) pt<|Vw (Zav lk)<|sn'<|?_
     refine Zaz lk (fun hc5=>?_) (fun hc5=>?_)
     ·rw[Zkv (s:=s) (k:=p+1+n) om hq (by have:=hc5;rw[Bool.not_eq_true'] at this;exact this)] at hn2
      simp only[Option.map_none] at hn2
      rw[hn2] at hF
      rw[ZcS hm hF] at hp2
      refine wr'<|mw<|mw<|sn'<|Zaa<|Zal<|Zap<|Zal<|Zap<|Zal<|Zal<|Zap<|?_
      refine Zal<|Zap<|Zai ry<|rtW'<|?_
      rw[hp2];exact Wk.tup (wkw Wk.nilF (wk1 rfl wk0))
     rw[Zmm (s:=s) (k:=p+1+n) om hq (by have:=hc5;rw[Bool.not_eq_false'] at this;exact this)] at hn2
     have hsn:=ZkR (s:=s) (a:=p+1) (n:=n) om
     refine Zaf<|Zah<|wr'<|mw<|mw<|mw<|mw<|?_
     refine V' (Zau lk lki om om) pt ?_
     refine V' (Zc4 lk (oi lk) (oi lk) om om om) pt ?_
     refine V' (v_addS lk lk (by first | omega | (rw[Zfo,List.length_take,ByteArray.size_extract];omega))) pt ?_
     refine mw<|sn'<|Zar<|mw<|?_
     refine V' (Zau lk lki om om) pt ?_
     refine mw<|Zaq<|ZaC<|ZaB<|?_
     refine lU' (n+1) (by (try dsimp only);exact⟨by omega,by rw[hn2,Option.map_map];rw[show p+1+(n+1)=p+1+n+1 from rfl];congr 1;funext x;simp;omega⟩) (by (try dsimp only);(try simp only[sm',Nat.reduceAdd]);exact ALe.same (by repeat (first | exact wk0 | refine wka ?_ | refine wk1 rfl ?_ | refine wk1 (by first | rfl | exact ivx om | (exact congrArg sv hsn.symm)) ?_)) rfl)
    have hc4':((Zay s (p+1+n)).toNat:Int)=34:=Decidable.of_not_not hc4
    rw[ZeG (s:=s) (k:=p+1+n) om (by rw[hc4'];decide)] at hn2
    simp only[Option.map_some,Nat.zero_add] at hn2
    rw[hn2] at hF
    simp only at hF
    refine ZaX<|ZaN<|ZaN<|Zbq<|Zah<|Zan<|wr'<|mw<|mw<|Vw (Za0 lk)<|Vw (ZaS lk lk)<|sn'<|?_
    refine cd' lk (fun hc6=>?_) (fun hc6=>?_)
    ·rw[if_pos om] at hF
     rw[ZcS hm hF] at hp2
     refine wr'<|mw<|mw<|sn'<|Zaa<|Zal<|Zal<|Zap<|Zal<|Zap<|Zai ry<|rtW'<|?_
     rw[hp2];exact Wk.tup (wkw Wk.nilF (wk1 rfl wk0))
    rw[if_neg om] at hF
    refine Zaf<|Zah<|wr'<|mw<|?_
    refine V' (Zau lk lki om om) pt ?_
    refine mw<|sn'<|?_
    rw[show (((p+1+n:Nat):Int)+1)=((p+n+2:Nat):Int) by omega]
    refine wr'<|mw<|mw<|Vw (Za0 lk)<|Vw (ZbP lk lk)<|mw<|?_
    refine sp' (t:=70) gt pt pt (fun hg70=>?_) (fun hg70=>?_)
    ·refine s_do gt<|mw<|s_do gt<|mw<|s_do gt<|?_
     refine V' (v_ix lk lk om om) pt ?_
     refine s_do gt<|Zak mp (ZcI) pt<|s_do gt<|Vw (Zav lk)<|Vw (Zag lk lk)<|mw<|?_
     refine ZaI (t:=77) gt pt pt (fun hg77=>?_) (fun hg77=>?_)
     ·refine s_do gt<|mw<|s_do gt<|mw<|s_do gt<|?_
      refine V' (v_ix lk lk om om) pt ?_
      refine s_do gt<|Vw (Za1 lk lki)<|Vw (Zag lk lk)<|sn'<|?_
      refine cd' lk (fun hc7=>?_) (fun hc7=>?_)
      ·have hb:blkN (Zay s (p+n+2)).toNat=false:=by have:=hg77;rw[Bool.not_eq_true'] at this;exact this
       have hc7':((Zay s (p+n+2)).toNat:Int)≠35:=hc7
       rw[if_pos ⟨by rw[Zck];simp only[show p+n+2<s.size by omega,hc7',decide_true,Bool.and_self,ne_eq,not_false_eq_true],by rw[Zdq om,hb]⟩] at hF
       rw[ZcS hm hF] at hp2
       refine wr'<|mw<|mw<|sn'<|Zaa<|Zal<|Zap<|Zal<|Zap<|Zai ry<|rtW'<|?_
       rw[hp2];exact Wk.tup (wkw Wk.nilF (wk1 rfl wk0))
      have hc7':((Zay s (p+n+2)).toNat:Int)=35:=Decidable.of_not_not hc7
      rw[if_neg (by rw[Zck];simp[hc7'])] at hF
      refine Zaf<|ZaB<|?_
      exact cT' ((1,n,n+2)) (by exact hF) (by (try dsimp only);(try simp only[sm',Nat.reduceAdd]);exact ALe.same (by repeat (first | exact wk0 | refine wka ?_ | refine wk1 rfl ?_ | refine wk1 (by first | rfl | exact ivx (by simp;omega) | (simp[cutF,List.drop_drop];done)) ?_)) rfl)
     have hb:blkN (Zay s (p+n+2)).toNat=true:=by have:=hg77;rw[Bool.not_eq_false'] at this;exact this
     rw[if_neg (by rw[Zdq om,hb];simp)] at hF
     refine s_no gt pt<|s_no gt pt<|s_no gt pt<|s_no gt pt<|Vw (Zab lk lkb)<|sn'<|ZaG lk<|Zaf<|ZaB<|?_
     exact cT' ((1,n,n+2)) (by exact hF) (by (try dsimp only);(try simp only[sm',Nat.reduceAdd]);exact ALe.same (by repeat (first | exact wk0 | refine wka ?_ | refine wk1 rfl ?_ | refine wk1 (by first | rfl | exact ivx (by simp;omega) | (simp[cutF,List.drop_drop];done)) ?_)) rfl)
    rw[if_neg (by rw[Zck];simp;omega)] at hF
    refine s_no gt pt<|s_no gt pt<|s_no gt pt<|s_no gt pt<|s_no gt pt<|Vw (Zab lk lkb)<|mw<|s_no gt pt<|s_no gt pt<|s_no gt pt<|s_no gt pt<|Vw (Zab lk lkb)<|sn'<|?_
    refine ZaG lk<|Zaf<|ZaB<|?_
    exact cT' ((1,n,n+2)) (by exact hF) (by (try dsimp only);(try simp only[sm',Nat.reduceAdd]);exact ALe.same (by repeat (first | exact wk0 | refine wka ?_ | refine wk1 rfl ?_ | refine wk1 (by first | rfl | exact ivx (by simp;omega) | (simp[cutF,List.drop_drop];done)) ?_)) rfl)
   rw[Zku (s:=s) (k:=p+1+n) om] at hn2
   simp only[Option.map_some,Nat.zero_add] at hn2
   rw[hn2] at hF
   simp only at hF
   refine s_no gt pt<|s_no gt pt<|s_no gt pt<|s_no gt pt<|Vw (Zab lk lkb)<|sn'<|ZaG lk<|ZaX<|ZaN<|ZaN<|Zbq<|Zah<|Zan<|?_
   refine wr'<|mw<|mw<|Vw (Za0 lk)<|Vw (ZaS lk lk)<|sn'<|?_
   refine cd' lk (fun hc6=>?_) (fun hc6=>?_)
   ·rw[if_pos om] at hF
    rw[ZcS hm hF] at hp2
    refine wr'<|mw<|mw<|sn'<|Zaa<|Zal<|Zal<|Zap<|Zal<|Zap<|Zai ry<|rtW'<|?_
    rw[hp2];exact Wk.tup (wkw Wk.nilF (wk1 rfl wk0))
   rw[if_neg om] at hF
   refine Zaf<|Zah<|wr'<|mw<|?_
   refine V' (Zau lk lki om om) pt ?_
   refine mw<|sn'<|?_
   rw[show (((p+1+n:Nat):Int)+1)=((p+n+2:Nat):Int) by omega]
   refine wr'<|mw<|mw<|Vw (Za0 lk)<|Vw (ZbP lk lk)<|mw<|?_
   refine sp' (t:=70) gt pt pt (fun hg70=>?_) (fun hg70=>?_)
   ·refine s_do gt<|mw<|s_do gt<|mw<|s_do gt<|?_
    refine V' (v_ix lk lk om om) pt ?_
    refine s_do gt<|Zak mp (ZcI) pt<|s_do gt<|Vw (Zav lk)<|Vw (Zag lk lk)<|mw<|?_
    refine ZaI (t:=77) gt pt pt (fun hg77=>?_) (fun hg77=>?_)
    ·refine s_do gt<|mw<|s_do gt<|mw<|s_do gt<|?_
     refine V' (v_ix lk lk om om) pt ?_
     refine s_do gt<|Vw (Za1 lk lki)<|Vw (Zag lk lk)<|sn'<|?_
     refine cd' lk (fun hc7=>?_) (fun hc7=>?_)
     ·have hb:blkN (Zay s (p+n+2)).toNat=false:=by have:=hg77;rw[Bool.not_eq_true'] at this;exact this
      have hc7':((Zay s (p+n+2)).toNat:Int)≠35:=hc7
      rw[if_pos ⟨by rw[Zck];simp only[show p+n+2<s.size by omega,hc7',decide_true,Bool.and_self,ne_eq,not_false_eq_true],by rw[Zdq om,hb]⟩] at hF
      rw[ZcS hm hF] at hp2
      refine wr'<|mw<|mw<|sn'<|Zaa<|Zal<|Zap<|Zal<|Zap<|Zai ry<|rtW'<|?_
      rw[hp2];exact Wk.tup (wkw Wk.nilF (wk1 rfl wk0))
     have hc7':((Zay s (p+n+2)).toNat:Int)=35:=Decidable.of_not_not hc7
     rw[if_neg (by rw[Zck];simp[hc7'])] at hF
     refine Zaf<|ZaB<|?_
     exact cT' ((1,n,n+2)) (by exact hF) (by (try dsimp only);(try simp only[sm',Nat.reduceAdd]);exact ALe.same (by repeat (first | exact wk0 | refine wka ?_ | refine wk1 rfl ?_ | refine wk1 (by first | rfl | exact ivx (by simp;omega) | (simp[cutF,List.drop_drop];done)) ?_)) rfl)
    have hb:blkN (Zay s (p+n+2)).toNat=true:=by have:=hg77;rw[Bool.not_eq_false'] at this;exact this
    rw[if_neg (by rw[Zdq om,hb];simp)] at hF
    refine s_no gt pt<|s_no gt pt<|s_no gt pt<|s_no gt pt<|Vw (Zab lk lkb)<|sn'<|ZaG lk<|Zaf<|ZaB<|?_
    exact cT' ((1,n,n+2)) (by exact hF) (by (try dsimp only);(try simp only[sm',Nat.reduceAdd]);exact ALe.same (by repeat (first | exact wk0 | refine wka ?_ | refine wk1 rfl ?_ | refine wk1 (by first | rfl | exact ivx (by simp;omega) | (simp[cutF,List.drop_drop];done)) ?_)) rfl)
   rw[if_neg (by rw[Zck];simp;omega)] at hF
   refine s_no gt pt<|s_no gt pt<|s_no gt pt<|s_no gt pt<|s_no gt pt<|Vw (Zab lk lkb)<|mw<|s_no gt pt<|s_no gt pt<|s_no gt pt<|s_no gt pt<|Vw (Zab lk lkb)<|sn'<|?_
   refine ZaG lk<|Zaf<|ZaB<|?_
   exact cT' ((1,n,n+2)) (by exact hF) (by (try dsimp only);(try simp only[sm',Nat.reduceAdd]);exact ALe.same (by repeat (first | exact wk0 | refine wka ?_ | refine wk1 rfl ?_ | refine wk1 (by first | rfl | exact ivx (by simp;omega) | (simp[cutF,List.drop_drop];done)) ?_)) rfl)
  have hF:=fieldL_f hps hc3
  refine Zao ?_
  refine w_lp (ι:=Nat) (fun (n:Nat)=>[(5,iv ((p+n:Nat):Int)),(6,sv (bA (((aB s).drop p).take n))),(2,.any),(3,.any)]++rn' 83 37) (fun (n:Nat)=>[]) (fun (n:Nat)=>p+n≤s.size∧runL fldP ((aB s).drop p)=(runL fldP ((aB s).drop (p+n))).map (· + n)) (fun (n:Nat)=>s.size-(p+n)) (0) (by exact⟨by omega,by simp⟩) ?_
  rintro n hi4
  try simp only[sm',Nat.reduceAdd]
  obtain⟨hn1,hn2⟩:=hi4
  refine Zan<|wr'<|mw<|mw<|Vw (Za0 lk)<|Vw (ZbP lk lk)<|mw<|?_
  refine sp' (t:=87) gt pt pt (fun hg87=>?_) (fun hg87=>?_)
  ·refine s_do gt<|mw<|s_do gt<|mw<|s_do gt<|?_
   refine V' (v_ix lk lk om om) pt ?_
   refine s_do gt<|Zak mp (ZcI) pt<|s_do gt<|Vw (Zav lk)<|Vw (Zag lk lk)<|mw<|?_
   refine ZaI (t:=94) gt pt pt (fun hg94=>?_) (fun hg94=>?_)
   ·refine s_do gt<|mw<|s_do gt<|mw<|s_do gt<|?_
    refine V' (v_ix lk lk om om) pt ?_
    refine s_do gt<|Vw (Za1 lk lki)<|Vw (Zag lk lk)<|sn'<|?_
    refine cd' lk (fun hc8=>?_) (fun hc8=>?_)
    ·have hb:blkN (Zay s (p+n)).toNat=false:=by have:=hg94;rw[Bool.not_eq_true'] at this;exact this
     have hc8':((Zay s (p+n)).toNat:Int)≠35:=hc8
     refine Zaf<|Zah<|Zao<|Zan<|wr'<|mw<|mw<|?_
     refine V' (v_ix lk lk om om) pt ?_
     refine Zak mp (ZgZ) pt<|Vw (Zav lk)<|mw<|?_
     refine ZaI (t:=105) gt pt pt (fun hg105=>?_) (fun hg105=>?_)
     ·have hpl:plnN (Zay s (p+n)).toNat=false:=by have:=hg105;rw[Bool.not_eq_true'] at this;exact this
      have hfp:fldP (Zay s (p+n)).toNat=true:=Zm2 hb hc8' (fun e=>by rw[e] at hpl;revert hpl;decide)
      rw[Zkv (s:=s) (k:=p+n) om hfp hpl] at hn2
      simp only[Option.map_none] at hn2
      rw[hn2] at hF
      rw[ZcS hm hF] at hp2
      refine s_no gt pt<|s_no gt pt<|s_no gt pt<|s_no gt pt<|Vw (Zag lk lkb)<|sn'<|ZaH lk<|wr'<|mw<|mw<|sn'<|?_
      refine Zaa<|Zal<|Zap<|Zal<|Zap<|Zal<|Zap<|Zal<|Zap<|Zai ry<|rtW'<|?_
      rw[hp2];exact Wk.tup (wkw Wk.nilF (wk1 rfl wk0))
     have hpl:plnN (Zay s (p+n)).toNat=true:=by have:=hg105;rw[Bool.not_eq_false'] at this;exact this
     refine s_do gt<|mw<|s_do gt<|mw<|s_do gt<|?_
     refine V' (v_ix lk lk om om) pt ?_
     refine s_do gt<|Vw (ZaS lk lki)<|Vw (Zab lk lk)<|sn'<|?_
     refine cd' lk (fun hc9=>?_) (fun hc9=>?_)
     ·have hc9':((Zay s (p+n)).toNat:Int)=34:=hc9
      rw[ZeG (s:=s) (k:=p+n) om (by rw[hc9'];decide)] at hn2
      simp only[Option.map_some,Nat.zero_add] at hn2
      rw[hn2] at hF
      simp only at hF
      rw[if_pos ⟨by rw[Zck,hc9'];simp;omega,by rw[Zdq om,hc9']⟩] at hF
      rw[ZcS hm hF] at hp2
      refine wr'<|mw<|mw<|sn'<|Zaa<|Zal<|Zap<|Zal<|Zap<|Zal<|Zap<|Zal<|?_
      refine Zap<|Zai ry<|rtW'<|?_
      rw[hp2];exact Wk.tup (wkw Wk.nilF (wk1 rfl wk0))
     have hc9':((Zay s (p+n)).toNat:Int)≠34:=hc9
     rw[Zmm (s:=s) (k:=p+n) om (Zm2 hb hc8' hc9') hpl] at hn2
     have hsn:=ZkR (s:=s) (a:=p) (n:=n) om
     refine Zaf<|Zah<|wr'<|mw<|mw<|mw<|mw<|?_
     refine V' (Zau lk lki om om) pt ?_
     refine V' (Zc4 lk (oi lk) (oi lk) om om om) pt ?_
     refine V' (v_addS lk lk (by first | omega | (rw[Zfo,List.length_take,ByteArray.size_extract];omega))) pt ?_
     refine mw<|sn'<|Zar<|mw<|?_
     refine V' (Zau lk lki om om) pt ?_
     refine mw<|Zaq<|ZaC<|ZaB<|?_
     refine lU' (n+1) (by (try dsimp only);exact⟨by omega,by rw[hn2,Option.map_map];rw[show p+(n+1)=p+n+1 from rfl];congr 1;funext x;simp;omega⟩) (by (try dsimp only);(try simp only[sm',Nat.reduceAdd]);exact ALe.same (by repeat (first | exact wk0 | refine wka ?_ | refine wk1 rfl ?_ | refine wk1 (by first | rfl | exact ivx om | (exact congrArg sv hsn.symm)) ?_)) rfl)
    have hc8':((Zay s (p+n)).toNat:Int)=35:=Decidable.of_not_not hc8
    rw[ZeG (s:=s) (k:=p+n) om (by rw[hc8'];decide)] at hn2
    simp only[Option.map_some,Nat.zero_add] at hn2
    rw[hn2] at hF
    simp only at hF
    rw[if_neg (by rw[Zdq om,hc8'];simp)] at hF
    refine ZaX<|ZaN<|ZaN<|Zbq<|ZaB<|?_
    exact cT' ((0,n,n)) (by exact hF) (by (try dsimp only);(try simp only[sm',Nat.reduceAdd]);exact ALe.same (by repeat (first | exact wk0 | refine wka ?_ | refine wk1 rfl ?_ | refine wk1 (by first | rfl | exact ivx (by simp;omega) | (simp[cutF,List.drop_drop];done)) ?_)) rfl)
   have hb:blkN (Zay s (p+n)).toNat=true:=by have:=hg94;rw[Bool.not_eq_false'] at this;exact this
   rw[ZeG (s:=s) (k:=p+n) om (by unfold fldP;rw[hb];rfl)] at hn2
   simp only[Option.map_some,Nat.zero_add] at hn2
   rw[hn2] at hF
   simp only at hF
   rw[if_neg (by rw[Zdq om];rintro⟨_,e⟩;rw[e] at hb;revert hb;decide)] at hF
   refine s_no gt pt<|s_no gt pt<|s_no gt pt<|s_no gt pt<|Vw (Zab lk lkb)<|sn'<|ZaG lk<|ZaX<|ZaN<|ZaN<|Zbq<|ZaB<|?_
   exact cT' ((0,n,n)) (by exact hF) (by (try dsimp only);(try simp only[sm',Nat.reduceAdd]);exact ALe.same (by repeat (first | exact wk0 | refine wka ?_ | refine wk1 rfl ?_ | refine wk1 (by first | rfl | exact ivx (by simp;omega) | (simp[cutF,List.drop_drop];done)) ?_)) rfl)
  rw[Zku (s:=s) (k:=p+n) om] at hn2
  simp only[Option.map_some,Nat.zero_add] at hn2
  rw[hn2] at hF
  simp only at hF
  rw[if_neg (by rw[Zck];simp;omega)] at hF
  refine s_no gt pt<|s_no gt pt<|s_no gt pt<|s_no gt pt<|s_no gt pt<|Vw (Zab lk lkb)<|mw<|s_no gt pt<|s_no gt pt<|s_no gt pt<|s_no gt pt<|Vw (Zab lk lkb)<|sn'<|?_
  refine ZaG lk<|ZaX<|ZaN<|ZaN<|Zbq<|ZaB<|?_
  exact cT' ((0,n,n)) (by exact hF) (by (try dsimp only);(try simp only[sm',Nat.reduceAdd]);exact ALe.same (by repeat (first | exact wk0 | refine wka ?_ | refine wk1 rfl ?_ | refine wk1 (by first | rfl | exact ivx (by simp;omega) | (simp[cutF,List.drop_drop];done)) ?_)) rfl)
 rintro y hq32
 try simp only[sm',Nat.reduceAdd]
 refine wr'<|mw<|mw<|E' (Zgo (Ze2 cv rfl) (hl1 hn) ha1) pt<|?_
 refine E' (Zfl (Zdc lk gx rfl ZlM (nb' rfl)) lk gx (ZjA _) om rfl (hs0 hn)) pt ?_
 refine mw<|sn'<|wr'<|mw<|Vw (Za0 lk)<|Vw (ZbI lk lki)<|mw<|?_
 refine sp' (t:=127) gt pt pt (fun hg127=>?_) (fun hg127=>?_)
 ·have hcs:=Zi6 hq32
  rw[hcs] at hg127;rw[Zhd hm hq32 (.inl om)] at hp2
  refine s_no gt pt<|s_no gt pt<|s_no gt pt<|Vw (Zag lk lkb)<|sn'<|ZaH lk<|wr'<|mw<|mw<|sn'<|Zaa<|?_
  refine Zap<|Zal<|Zap<|Zai ry<|rtW'<|?_
  rw[hp2];exact Wk.tup (wkw Wk.nilF (wk1 rfl wk0))
 have hcs:=Zi6 hq32
 rw[hcs] at hg127
 refine s_do gt<|mw<|s_do gt<|Vw (ZdE lk)<|s_do gt<|Vw (ZbI lk lki)<|Vw (Zab lk lk)<|sn'<|?_
 refine cd' lk (fun hc10=>?_) (fun hc10=>?_)
 ·rw[Zhd hm hq32 (.inr om)] at hp2
  refine wr'<|mw<|mw<|sn'<|Zaa<|Zap<|Zal<|Zap<|Zai ry<|rtW'<|?_
  rw[hp2];exact Wk.tup (wkw Wk.nilF (wk1 rfl wk0))
 have hle:=Zi2 hq32
 have hL:((aB s).drop p).length=s.size-p:=by rw[List.length_drop,ZdY]
 obtain⟨m',rfl⟩ : ∃ m',m=m'+1:=⟨m-1,by omega⟩
 rw[fldsT_at hm hq32 om] at hp2
 refine Zaf<|ZaC<|ZaB<|?_
 refine lU' (⟨p+y.2.2,fs++[cutF ((aB s).drop p) y],v+1,m'⟩) (by (try dsimp only);exact⟨by omega,by simp;omega,by rw[Zm1,List.drop_drop];exact hp2⟩) (by (try dsimp only);(try simp only[sm',Nat.reduceAdd]);exact bkE' 1 hn hlt (by repeat (first | exact wk0 | refine wka ?_ | refine wk1 rfl ?_ | refine wk1 (by first | rfl | exact ivx om | (simp;done)) ?_)) (by simp only[Zbz,Zby,strC];rfl)) (by exact Nat.lt_succ_self _)
end Go.Proofs.Yticajimgfndceaa
end
section
namespace Go.Proofs.Yticajimgfndceaa
open Go.Ab
attribute [local simp] ZbT Zeq
section
theorem ZdC {τ:Operand→AV}{y0 y1 y2:Operand}{x0_0 x1_0 x2_0:AV}(h0:Zas (τ y0)=some [x0_0]) (l0:[x0_0].all leaf=true) (h1:Zas (τ y1)=some [x1_0]) (l1:[x1_0].all leaf=true) (h2:Zas (τ y2)=some [x2_0]) (l2:[x2_0].all leaf=true):Zaw τ [(0,1,y0),(1,1,y1),(2,1,y2)] [(.v (.int .i64 0)),(.v (.bool false)),(.sl 0 0 true [])]=some [x0_0,x1_0,x2_0]:=by
 simp only[Zaw,h0,l0,h1,l1,h2,l2]
 rfl
theorem ZdB {τ:Operand→AV}{y0:Operand}{x0_0 x0_1 x0_2:AV}(h0:Zas (τ y0)=some [x0_0,x0_1,x0_2]) (l0:[x0_0,x0_1,x0_2].all leaf=true):Zaw τ [(0,3,y0)] [(.v (.int .i64 0)),(.v (.bool false)),(.sl 0 0 true [])]=some [x0_0,x0_1,x0_2]:=by
 simp only[Zaw,h0,l0]
 rfl
theorem ZhC {a0 a1 a2:AV}{l:List AV}:(a0::a1::a2::l).take 3=[a0,a1,a2]:=rfl
end
def c23:AC:=(Sr [Oo 2 (.mv (.const (.slice none 0 0))),Mc 3 0,Mc 4 0] (.seq (Sr [Mv 11 0,Oo 12 (.len true (.tmp 11)),Bc 13 .gtr 12 8000] (Cd 13 (Sr [Oo 2 (.mv (.const (.slice none 0 0))),Mc 3 0,Mc 4 2] .ret) .skip)) (Sr [Oo 5 (.mv (.const (.slice none 0 0)))] (Sr [Mc 6 0,Mc 7 1] (.seq (Sr [Mc 8 0] (.block 0 (.loop (.seq (Sr [Mv 14 8,Mv 15 0,Oo 16 (.len true (.tmp 15)),Bn 17 .leq 14 16] (Cd 17 .skip (.exit 0))) (.seq (.block 1 (.seq (Sr [Mv 20 8,Mv 21 0,Oo 22 (.len true (.tmp 21)),Bn 23 .lss 20 22,Mv 24 23,Ot 25 24 (mt 0),Ot 26 24 (mt 8),Ot 27 24 (.ix (.tmp 25) (.tmp 26)),Ot 28 24 (.bin .neq (.tmp 27) (.const (.int .u8 10))),Oo 29 (.pick (.tmp 24) (.tmp 28) (.const (.bool false)))] (Cd 29 (.exit 1) .skip)) (Sr [Mv 31 0,Mv 32 6,Mv 33 8,Oo 34 (.sls (.tmp 31) (some (.tmp 32)) (some (.tmp 33))),Cl 35 50 [(.tmp 34)],Mv 30 35,Ex 36 30 0,Ex 37 30 1,Mv 9 36,Mv 10 37] (.seq (Sr [Mv 38 10,Bc 39 .neq 38 0] (Cd 39 (Sr [Mv 40 7,Mv 41 10,Oo 2 (.mv (.const (.slice none 0 0))),Mv 3 40,Mv 4 41] .ret) .skip)) (.seq (Sr [Mv 42 9,Oo 43 (.len false (.tmp 42)),Bc 44 .gtr 43 0] (Cd 44 (.reg [Mv 45 5,Mv 46 7,Mv 47 0,Mv 48 6,Oo 49 (.ix (.tmp 47) (.tmp 48)),Cl 50 51 [(.tmp 49)],Mv 51 9,Oo 52 (.build [(iv 0),(.v (.bool false)),(.sl 0 0 true [])] [(0,(1,(.tmp 46))),(1,(1,(.tmp 50))),(2,(1,(.tmp 51)))]),Oo 53 (.lit 70 3 1 [(iv 0),(.v (.bool false)),(.sl 0 0 true [])] [(0,(3,(.tmp 52)))]),Oo 54 (.app 70 3 40 (.tmp 45) (.tmp 53)),Mv 5 54]) .skip)) (Sr [Mv 55 8,Bc 56 .add 55 1,Mv 6 56] (.reg [Mv 57 7,Bc 58 .add 57 1,Mv 7 58]))))))) (.reg [Mv 18 8,Bc 19 .add 18 1,Mv 8 19])))))) (.seq (Sr [Mv 59 5,Oo 60 (.len false (.tmp 59)),Bc 61 .gtr 60 200] (Cd 61 (Sr [Oo 2 (.mv (.const (.slice none 0 0))),Mc 3 0,Mc 4 2] .ret) .skip)) (Sr [Mv 62 5,Mv 2 62,Mc 3 0,Mc 4 0] .ret)))))))
theorem k23:ZaO Try.prog 23=some ⟨c23,[(.tmp 2),(.tmp 3),(.tmp 4)],63⟩:=by kernel_rfl
theorem Zhk {x:UInt8} : ∀ {a:Bs},x ∉ a→cutC x a=[a]
 | [],_=>rfl
 | c::l,h=>by
  simp only[List.mem_cons,not_or] at h
  rw[cutC,if_neg (Ne.symm h.1),Zhk h.2]
theorem Zm7 {x:UInt8} : ∀ {a b:Bs},x ∉ a→cutC x (a++x::b)=a::cutC x b
 | [],b,_=>by simp[cutC]
 | c::l,b,h=>by
  simp only[List.mem_cons,not_or] at h
  rw[List.cons_append,cutC,if_neg (Ne.symm h.1),Zm7 h.2]
def clean (x:UInt8) (s:ByteArray) (f i:Nat):Prop:=x ∉ ((aB s).drop f).take (i-f)
theorem Zcu {x:UInt8}{s:ByteArray}{f:Nat}:clean x s f f:=by simp[clean]
theorem ZkX {x:UInt8}{s:ByteArray}{f i:Nat}(h:clean x s f i) (hf:f≤i) (hi:i<s.size) (hx:Zay s i≠x):clean x s f (i+1):=by
 unfold clean at *
 rw[show i+1-f=(i-f)+1 by omega,List.take_add,List.drop_drop,show f+(i-f)=i by omega,ZdZ hi]
 simp only[List.take_succ_cons,List.take_zero,List.mem_append,List.mem_singleton,not_or]
 exact⟨h,fun e=>hx e.symm⟩
theorem ZkU {x:UInt8}{s:ByteArray}{f i:Nat}(h:clean x s f i) (hf:f≤i) (hi:i<s.size) (hx:Zay s i=x):cutC x ((aB s).drop f)=aB (s.extract f i)::cutC x ((aB s).drop (i+1)):=by
 have e:(aB s).drop f=((aB s).drop f).take (i-f)++x::(aB s).drop (i+1):=by
  conv=>lhs;rw[←List.take_append_drop (i-f) ((aB s).drop f)]
  rw[List.drop_drop,show f+(i-f)=i by omega,ZdZ hi,hx]
 rw[e,Zm7 h,Zja,aB_bA]
theorem Zi7 {x:UInt8}{s:ByteArray}{f i:Nat}(h:clean x s f i) (hf:f≤i) (hi:i=s.size):cutC x ((aB s).drop f)=[aB (s.extract f i)]:=by
 have e:((aB s).drop f).take (i-f)=(aB s).drop f:=List.take_of_length_le (by rw[List.length_drop,ZdY];omega)
 unfold clean at h
 rw[e] at h
 rw[Zhk h,Zja,aB_bA,e]
theorem Zgt {c:UInt8}{n:Nat}(hn:n<256) (h:(c.toNat:Int)=n):c=UInt8.ofNat n:=by
 have:c.toNat=n:=by omega
 rw[←this];simp
theorem Zie {c:UInt8}{n:Nat}(hn:n<256) (h:¬(c.toNat:Int)=n):c≠UInt8.ofNat n:=by
 rintro rfl
 apply h
 simp[UInt8.toNat_ofNat,Nat.mod_eq_of_lt hn]
theorem Zi0 {s:ByteArray}{f i:Nat}(h:f<i) (hi:i≤s.size):Zh2 (aB (s.extract f i))=((Zay s f).toNat:Int):=by
 rw[Zja,aB_bA,ZdZ om,show i-f=(i-f-1)+1 by omega]
 rfl
theorem Zlc {s:ByteArray}{h:AH}:Ac 23 [sv s] h (.tup [.sl (Zbv s).1.length 3 false (rows lnC (Zbv s).1),iv (Zbv s).2.1,iv (Zbv s).2.2]):=by
 refine tW' k23 fun N hn hlt hlA hbd=>?_
 simp only[tb'] at hbd ⊢
 refine wr'<|mw<|mw<|mw<|sn'<|Zan<|wr'<|mw<|Vw (Za0 lk)<|Vw (ZbI lk lki)<|Zaq<|?_
 refine Zah ?_
 refine cd' lk (fun hc1=>?_) (fun hc1=>?_)
 ·have hS:Zbv s=([],0,2):=if_pos om
  refine wr'<|mw<|mw<|mw<|sn'<|Zaa<|Zal<|Zai rx<|rtW'<|?_
  rw[hS];exact Wk.tup (wkw Wk.nilF (wk1 rfl (wk1 rfl wk0)))
 have hz:s.size≤8000:=by omega
 have hS:Zbv s=if (ZbV 1 (cutC 10 (aB s)) []).2.2≠0 then ZbV 1 (cutC 10 (aB s)) [] else if 200<(ZbV 1 (cutC 10 (aB s)) []).1.length then ([],0,2) else ZbV 1 (cutC 10 (aB s)) []:=if_neg om
 obtain⟨X,hX⟩ : ∃ X,X=ZbV 1 (cutC 10 (aB s)) []:=⟨_,rfl⟩
 rw[←hX] at hS
 refine Zaf<|Zah<|wr'<|mv' lkn pt5<|Zaq<|ZbY (ALe.own0' (st':=3) (ty:=70) gt5 (hl0 hn) pt5 ha0)<|wr'<|mv' lki pt6<|mv' lki pt7<|sn'<|Zan<|?_
 refine wr'<|mw<|sn'<|Zao<|?_
 refine w_lp (ι:=Nat×Nat×Nat×List Ln×Nat) (fun (x_:Nat×Nat×Nat×List Ln×Nat)=>match x_ with | ⟨f,i,q,acc,v⟩=>[(5,.own (N+0) v acc.length),(6,iv (f:Int)),(7,iv (q:Int)),(8,iv (i:Int)),(9,.any),(10,.any)]++rn' 2 3++rn' 14 45) (fun (x_:Nat×Nat×Nat×List Ln×Nat)=>match x_ with | ⟨f,i,q,acc,v⟩=>[(0,.mk v 70 3 (rows lnC acc))]) (fun (x_:Nat×Nat×Nat×List Ln×Nat)=>match x_ with | ⟨f,i,q,acc,v⟩=>i≤s.size+1∧f≤i∧q≤i+1∧acc.length≤i∧(i≤s.size→clean 10 s f i∧X=ZbV (q:Int) (cutC 10 ((aB s).drop f)) acc)∧(i=s.size+1→X=(acc,0,0))) (fun (x_:Nat×Nat×Nat×List Ln×Nat)=>match x_ with | ⟨f,i,q,acc,v⟩=>s.size+1-i) (⟨0,0,1,[],0⟩) (by exact⟨by omega,by omega,by omega,by simp,fun _=>⟨Zcu,hX⟩,fun h=>by omega⟩) ?_
 rintro⟨f,i,q,acc,v⟩ hi1
 try simp only[sm',Nat.reduceAdd]
 obtain⟨hk1,hk2,hk3,hk4,hk5,hk6⟩:=hi1
 refine Zan<|wr'<|mw<|mw<|Vw (Za0 lk)<|Vw (Zc5 lk lk)<|sn'<|?_
 refine cd' lk (fun hc2=>?_) (fun hc2=>?_)
 ·have hi:i≤s.size:=by omega
  obtain⟨hk7,hk8⟩:=hk5 hi
  refine Zaf<|Zah<|Zan<|Zao<|Zan<|wr'<|mw<|mw<|Vw (Za0 lk)<|Vw (ZbP lk lk)<|mw<|?_
  refine sp' (t:=24) gt pt pt (fun hg24=>?_) (fun hg24=>?_)
  ·refine s_do gt<|mw<|s_do gt<|mw<|s_do gt<|?_
   refine V' (v_ix lk lk om om) pt ?_
   refine s_do gt<|Vw (Za1 lk lki)<|Vw (Zag lk lk)<|sn'<|?_
   refine cd' lk (fun hc3=>?_) (fun hc3=>?_)
   ·have hx:Zay s i≠10:=fun e=>hc3 (show ((Zay s i).toNat:Int)=10 by rw[e];rfl)
    have hcl:=ZkX hk7 hk2 om hx
    refine ZaX<|ZaN<|Zbq<|Zah<|Zar<|mw<|?_
    refine V' (Zau lk lki om om) pt ?_
    refine mw<|Zaq<|ZaB<|?_
    refine lU' (⟨f,i+1,q,acc,v⟩) (by (try dsimp only);exact⟨by omega,by omega,by omega,by omega,fun _=>⟨hcl,hk8⟩,fun h=>by omega⟩) (by (try dsimp only);(try simp only[sm',Nat.reduceAdd]);exact ALe.same (by repeat (first | exact wk0 | refine wka ?_ | refine wk1 rfl ?_ | refine wk1 (by first | rfl | exact ivx om | (simp;done)) ?_)) rfl)
   have hx:Zay s i=10:=Zgt (n:=10) om (Decidable.of_not_not hc3)
   have hseg:=ZkU hk7 hk2 om hx
   obtain⟨R,hR⟩ : ∃ R:List Bs,R=cutC 10 ((aB s).drop (i+1)):=⟨_,rfl⟩
   rw[hseg,←hR] at hk8
   have hR2:(i+1≤s.size→R=cutC 10 ((aB s).drop (i+1)))∧(i=s.size→R=[]):=⟨fun _=>hR,fun h=>by omega⟩
   refine Zaf<|Zah<|?_
   rw[ZbV] at hk8
   obtain⟨y,hy⟩ : ∃ y,y=s.extract f i:=⟨_,rfl⟩
   have hys:y.size=i-f:=by rw[hy,ByteArray.size_extract];omega
   refine wr'<|mw<|mw<|mw<|?_
   refine V' (Zc4 lk (oi lk) (oi lk) om om om) pt ?_
   rw[show s.extract (f:Int).toNat (i:Int).toNat=y from hy.symm]
   refine Zak mp (Zgb (s:=y) om) pt ?_
   rw[←hy] at hk8
   refine mw<|Vw (ZbJ lk gt)<|Vw (ZbJ lk gt)<|mw<|mw<|sn'<|Zan<|wr'<|mw<|Vw (Za1 lk lki)<|sn'<|?_
   refine cd' lk (fun hc4=>?_) (fun hc4=>?_)
   ·have hc4':(ZcU (aB y)).2≠0:=hc4
    rw[if_pos hc4'] at hk8
    rw[hk8,if_pos hc4'] at hS
    refine wr'<|mw<|mw<|mw<|mw<|mw<|sn'<|Zaa<|Zal<|Zap<|Zal<|Zal<|?_
    refine Zap<|Zal<|Zai rx<|rtW'<|?_
    rw[hS];exact Wk.tup (wkw Wk.nilF (wk1 rfl (wk1 rfl wk0)))
   rw[if_neg hc4] at hk8
   refine Zaf<|Zah<|Zan<|wr'<|mw<|Vw (Za6 lk)<|Vw (ZbI lk lki)<|sn'<|?_
   refine cd' lk (fun hc5=>?_) (fun hc5=>?_)
   ·have hne:(ZcU (aB y)).1≠[]:=fun e=>by rw[e] at hc5;simp at hc5
    have hp:=ZkI hne
    rw[ZdY] at hp
    rw[if_neg hne] at hk8
    have hh:Zh2 (aB y)=((Zay s f).toNat:Int):=by rw[hy];exact Zi0 om hi
    rw[hh] at hk8
    refine Zar<|mw<|mw<|mw<|mw<|?_
    refine V' (v_ix lk lk om om) pt ?_
    refine Zak mp (ZcI) pt<|mw<|Vw (Zax (ZdC cv rfl cv rfl cv rfl))<|E' (Zgo (ZdB cv rfl) (hl1 hn) ha1) pt<|?_
    refine E' (Zfl (Zdc lk gx rfl ZhC (nb' rfl)) lk gx (ZkH _) om rfl (hs0 hn)) pt ?_
    refine mw<|sn'<|wr'<|mw<|?_
    refine V' (Zau lk lki om om) pt ?_
    refine mw<|sn'<|Zar<|mw<|?_
    refine V' (Zau lk lki om om) pt ?_
    refine mw<|Zaq<|ZaC<|Zah<|Zar<|mw<|?_
    refine V' (Zau lk lki om om) pt ?_
    refine mw<|Zaq<|ZaB<|?_
    refine lU' (⟨i+1,i+1,q+1,acc++[((q:Int),blkN ((Zay s f).toNat:Int),(ZcU (aB y)).1)],v+1⟩) (by (try dsimp only);exact⟨by omega,by omega,by omega,by simp;omega,fun h=>⟨Zcu,by rw[←hR2.1 h];exact hk8⟩,fun h=>by rw[hR2.2 om,ZbV] at hk8;exact hk8⟩) (by (try dsimp only);(try simp only[sm',Nat.reduceAdd]);exact bkE' 1 hn hlt (by repeat (first | exact wk0 | refine wka ?_ | refine wk1 rfl ?_ | refine wk1 (by first | rfl | exact ivx om | (simp;done)) ?_)) (by simp only[Zbz,Zby,lnC];rfl))
   have hne:(ZcU (aB y)).1=[]:=List.eq_nil_of_length_eq_zero om
   rw[if_pos hne] at hk8
   refine Zaf<|Zah<|wr'<|mw<|?_
   refine V' (Zau lk lki om om) pt ?_
   refine mw<|sn'<|Zar<|mw<|?_
   refine V' (Zau lk lki om om) pt ?_
   refine mw<|Zaq<|ZaC<|Zah<|Zar<|mw<|?_
   refine V' (Zau lk lki om om) pt ?_
   refine mw<|Zaq<|ZaB<|?_
   refine lU' (⟨i+1,i+1,q+1,acc,v⟩) (by (try dsimp only);exact⟨by omega,by omega,by omega,by omega,fun h=>⟨Zcu,by rw[←hR2.1 h];exact hk8⟩,fun h=>by rw[hR2.2 om,ZbV] at hk8;exact hk8⟩) (by (try dsimp only);(try simp only[sm',Nat.reduceAdd]);exact ALe.same (by repeat (first | exact wk0 | refine wka ?_ | refine wk1 rfl ?_ | refine wk1 (by first | rfl | exact ivx om | (simp;done)) ?_)) rfl)
  have hseg:cutC 10 ((aB s).drop f)=[aB (s.extract f i)]:=Zi7 hk7 hk2 om
  obtain⟨R,hR⟩ : ∃ R:List Bs,R=[]:=⟨_,rfl⟩
  rw[hseg,←hR] at hk8
  have hR2:(i+1≤s.size→R=cutC 10 ((aB s).drop (i+1)))∧(i=s.size→R=[]):=⟨fun h=>by omega,fun _=>hR⟩
  refine s_no gt pt<|s_no gt pt<|s_no gt pt<|s_no gt pt<|Vw (Zab lk lkb)<|sn'<|ZaG lk<|Zaf<|Zah<|?_
  rw[ZbV] at hk8
  obtain⟨y,hy⟩ : ∃ y,y=s.extract f i:=⟨_,rfl⟩
  have hys:y.size=i-f:=by rw[hy,ByteArray.size_extract];omega
  refine wr'<|mw<|mw<|mw<|?_
  refine V' (Zc4 lk (oi lk) (oi lk) om om om) pt ?_
  rw[show s.extract (f:Int).toNat (i:Int).toNat=y from hy.symm]
  refine Zak mp (Zgb (s:=y) om) pt ?_
  rw[←hy] at hk8
  refine mw<|Vw (ZbJ lk gt)<|Vw (ZbJ lk gt)<|mw<|mw<|sn'<|Zan<|wr'<|mw<|Vw (Za1 lk lki)<|sn'<|?_
  refine cd' lk (fun hc4=>?_) (fun hc4=>?_)
  ·have hc4':(ZcU (aB y)).2≠0:=hc4
   rw[if_pos hc4'] at hk8
   rw[hk8,if_pos hc4'] at hS
   refine wr'<|mw<|mw<|mw<|mw<|mw<|sn'<|Zaa<|Zal<|Zap<|Zal<|Zal<|?_
   refine Zap<|Zal<|Zai rx<|rtW'<|?_
   rw[hS];exact Wk.tup (wkw Wk.nilF (wk1 rfl (wk1 rfl wk0)))
  rw[if_neg hc4] at hk8
  refine Zaf<|Zah<|Zan<|wr'<|mw<|Vw (Za6 lk)<|Vw (ZbI lk lki)<|sn'<|?_
  refine cd' lk (fun hc5=>?_) (fun hc5=>?_)
  ·have hne:(ZcU (aB y)).1≠[]:=fun e=>by rw[e] at hc5;simp at hc5
   have hp:=ZkI hne
   rw[ZdY] at hp
   rw[if_neg hne] at hk8
   have hh:Zh2 (aB y)=((Zay s f).toNat:Int):=by rw[hy];exact Zi0 om hi
   rw[hh] at hk8
   refine Zar<|mw<|mw<|mw<|mw<|?_
   refine V' (v_ix lk lk om om) pt ?_
   refine Zak mp (ZcI) pt<|mw<|Vw (Zax (ZdC cv rfl cv rfl cv rfl))<|E' (Zgo (ZdB cv rfl) (hl1 hn) ha1) pt<|?_
   refine E' (Zfl (Zdc lk gx rfl ZhC (nb' rfl)) lk gx (ZkH _) om rfl (hs0 hn)) pt ?_
   refine mw<|sn'<|wr'<|mw<|?_
   refine V' (Zau lk lki om om) pt ?_
   refine mw<|sn'<|Zar<|mw<|?_
   refine V' (Zau lk lki om om) pt ?_
   refine mw<|Zaq<|ZaC<|Zah<|Zar<|mw<|?_
   refine V' (Zau lk lki om om) pt ?_
   refine mw<|Zaq<|ZaB<|?_
   refine lU' (⟨i+1,i+1,q+1,acc++[((q:Int),blkN ((Zay s f).toNat:Int),(ZcU (aB y)).1)],v+1⟩) (by (try dsimp only);exact⟨by omega,by omega,by omega,by simp;omega,fun h=>⟨Zcu,by rw[←hR2.1 h];exact hk8⟩,fun h=>by rw[hR2.2 om,ZbV] at hk8;exact hk8⟩) (by (try dsimp only);(try simp only[sm',Nat.reduceAdd]);exact bkE' 1 hn hlt (by repeat (first | exact wk0 | refine wka ?_ | refine wk1 rfl ?_ | refine wk1 (by first | rfl | exact ivx om | (simp;done)) ?_)) (by simp only[Zbz,Zby,lnC];rfl))
  have hne:(ZcU (aB y)).1=[]:=List.eq_nil_of_length_eq_zero om
  rw[if_pos hne] at hk8
  refine Zaf<|Zah<|wr'<|mw<|?_
  refine V' (Zau lk lki om om) pt ?_
  refine mw<|sn'<|Zar<|mw<|?_
  refine V' (Zau lk lki om om) pt ?_
  refine mw<|Zaq<|ZaC<|Zah<|Zar<|mw<|?_
  refine V' (Zau lk lki om om) pt ?_
  refine mw<|Zaq<|ZaB<|?_
  refine lU' (⟨i+1,i+1,q+1,acc,v⟩) (by (try dsimp only);exact⟨by omega,by omega,by omega,by omega,fun h=>⟨Zcu,by rw[←hR2.1 h];exact hk8⟩,fun h=>by rw[hR2.2 om,ZbV] at hk8;exact hk8⟩) (by (try dsimp only);(try simp only[sm',Nat.reduceAdd]);exact ALe.same (by repeat (first | exact wk0 | refine wka ?_ | refine wk1 rfl ?_ | refine wk1 (by first | rfl | exact ivx om | (simp;done)) ?_)) rfl)
 have hXe:=hk6 om
 rw[hXe,if_neg (by simp)] at hS
 refine ZaX<|ZaN<|ZaN<|Zbq<|Zah<|Zan<|wr'<|mw<|Vw (ZdE lk)<|Vw (ZbI lk lki)<|sn'<|?_
 refine cd' lk (fun hc6=>?_) (fun hc6=>?_)
 ·rw[if_pos (show 200<acc.length by omega)] at hS
  refine wr'<|mw<|mw<|mw<|sn'<|Zaa<|Zal<|Zai rx<|rtW'<|?_
  rw[hS];exact Wk.tup (wkw Wk.nilF (wk1 rfl (wk1 rfl wk0)))
 rw[if_neg (show ¬200<acc.length by omega)] at hS
 refine Zaf<|Zah<|wr'<|mw<|mw<|mw<|mw<|Zaq<|?_
 refine ZbY (ALe.iceR (hga hn rfl) gt2 (List.take_of_length_le (by rw[ZkH];exact Nat.le_refl _)) (by rw[ZkH];exact Nat.le_refl _) pt2 (hs0 hn)) ?_
 refine Zaa<|Zai rx<|rtW'<|?_
 rw[hS];exact Wk.refl _
end Go.Proofs.Yticajimgfndceaa
end
section
namespace Go.Proofs.Yticajimgfndceaa
open Go.Ab
abbrev Dat:=Int×Int×Int
abbrev Frm:=Int×Int×Int
abbrev Rul:=ByteArray×Int×Int×Int×Frm×Int×Int×Int×ByteArray
abbrev Unt:=Dat×Int×Int
abbrev Era:=Int×ByteArray×Int×ByteArray×Bool×Unt
abbrev Zon:=ByteArray×List Era
abbrev Lnk:=ByteArray×ByteArray
abbrev Src:=List Rul×List Zon×List Lnk
set_option synthInstance.maxSize 4096 in
instance decEra:DecidableEq Era:=inferInstance
set_option synthInstance.maxSize 4096 in
instance decRul:DecidableEq Rul:=inferInstance
instance decZon:DecidableEq Zon:=inferInstance
instance decLnk:DecidableEq Lnk:=inferInstance
instance decSrc:DecidableEq Src:=inferInstance
abbrev rulC (r:Rul):List AV:=[sv r.1,iv r.2.1,iv r.2.2.1,iv r.2.2.2.1,iv r.2.2.2.2.1.1,iv r.2.2.2.2.1.2.1,iv r.2.2.2.2.1.2.2,iv r.2.2.2.2.2.1,iv r.2.2.2.2.2.2.1,iv r.2.2.2.2.2.2.2.1,sv r.2.2.2.2.2.2.2.2]
abbrev untC (u:Unt):List AV:=[iv u.1.1,iv u.1.2.1,iv u.1.2.2,iv u.2.1,iv u.2.2]
abbrev eraC (x:Era):List AV:=[iv x.1,sv x.2.1,iv x.2.2.1,sv x.2.2.2.1,bv x.2.2.2.2.1,iv x.2.2.2.2.2.1.1,iv x.2.2.2.2.2.1.2.1,iv x.2.2.2.2.2.1.2.2,iv x.2.2.2.2.2.2.1,iv x.2.2.2.2.2.2.2]
abbrev zonC (z:Zon):List AV:=[sv z.1,.sl z.2.length 10 false (rows eraC z.2)]
abbrev lnkC (l:Lnk):List AV:=[sv l.1,sv l.2]
abbrev srcC (s:Src):List AV:=[.sl s.1.length 11 false (rows rulC s.1),.sl s.2.1.length 2 false (rows zonC s.2.1),.sl s.2.2.length 2 false (rows lnkC s.2.2)]
theorem ZbU {n:Nat}(l:List Rul):AV.ltL n (rows rulC l)=true:=Zdk (fun n x=>by simp[AV.ltL,AV.lt]) l
theorem Zcl {n:Nat}(l:List Era):AV.ltL n (rows eraC l)=true:=Zdk (fun n x=>by simp[AV.ltL,AV.lt]) l
theorem Zcf {n:Nat}(l:List Zon):AV.ltL n (rows zonC l)=true:=Zdk (fun n x=>by simp[AV.ltL,AV.lt,Zcl]) l
theorem Zcq {n:Nat}(l:List Lnk):AV.ltL n (rows lnkC l)=true:=Zdk (fun n x=>by simp[AV.ltL,AV.lt]) l
theorem ZcZ : ∀ x,(rulC x).length=11:=fun _=>rfl
theorem ZkS : ∀ x,(eraC x).length=10:=fun _=>rfl
theorem ZfM : ∀ x,(zonC x).length=2:=fun _=>rfl
theorem Zh0 : ∀ x,(lnkC x).length=2:=fun _=>rfl
theorem ZjD (l:List Rul):(rows rulC l).length=l.length*11:=Za7 ZcZ l
theorem Zj1 (l:List Era):(rows eraC l).length=l.length*10:=Za7 ZkS l
theorem Ze4 (l:List Zon):(rows zonC l).length=l.length*2:=Za7 ZfM l
theorem ZjP (l:List Lnk):(rows lnkC l).length=l.length*2:=Za7 Zh0 l
end Go.Proofs.Yticajimgfndceaa
end
section
namespace Go.Proofs.Yticajimgfndceaa
open Go.Ab Go.RowKit
theorem ZjS {s:ByteArray}{n:Int}{h:AH}:Ac 67 [sv s,uv n] h (iv (Lib.indexByte (aB s) n.toNat.toUInt8)):=by
 refine ACalls.of_below (by kernel_rfl) fun w g vs hs ha=>?_
 simp only[RepL,Rep] at ha
 obtain⟨u1,us1,e1,rfl,u2,us2,rfl,rfl,rfl⟩:=ha
 obtain rfl:vs = #[.string s,.int .u8 n]:=by cases vs;simp_all
 refine (Try.strings_IndexByte s n w).mono ?_
 rintro e w' ⟨rfl,rfl⟩
 refine⟨_,rfl,Below.refl _ _,?_⟩
 simp only[Rep];rfl
end Go.Proofs.Yticajimgfndceaa
end
section
namespace Go.Proofs.Yticajimgfndceaa
open Go.Ab Civ
section
theorem ZgT {τ:Operand→AV}{y0 y1 y2 y3 y4 y5 y6 y7 y8 y9 y10 y11:Operand}{x0_0 x1_0 x2_0 x3_0 x4_0 x5_0 x6_0 x7_0 x8_0 x9_0 x10_0 x11_0:AV}(h0:Zas (τ y0)=some [x0_0]) (l0:[x0_0].all leaf=true) (h1:Zas (τ y1)=some [x1_0]) (l1:[x1_0].all leaf=true) (h2:Zas (τ y2)=some [x2_0]) (l2:[x2_0].all leaf=true) (h3:Zas (τ y3)=some [x3_0]) (l3:[x3_0].all leaf=true) (h4:Zas (τ y4)=some [x4_0]) (l4:[x4_0].all leaf=true) (h5:Zas (τ y5)=some [x5_0]) (l5:[x5_0].all leaf=true) (h6:Zas (τ y6)=some [x6_0]) (l6:[x6_0].all leaf=true) (h7:Zas (τ y7)=some [x7_0]) (l7:[x7_0].all leaf=true) (h8:Zas (τ y8)=some [x8_0]) (l8:[x8_0].all leaf=true) (h9:Zas (τ y9)=some [x9_0]) (l9:[x9_0].all leaf=true) (h10:Zas (τ y10)=some [x10_0]) (l10:[x10_0].all leaf=true) (h11:Zas (τ y11)=some [x11_0]) (l11:[x11_0].all leaf=true):Zaw τ [(0,1,y0),(1,1,y1),(2,1,y2),(3,1,y3),(4,1,y4),(5,1,y5),(6,1,y6),(7,1,y7),(8,1,y8),(9,1,y9),(10,1,y10),(11,1,y11)] [(.v (.int .i64 0)),(.v (.int .i64 0)),(.v (.int .i64 0)),(.v (.int .i64 0)),(.v (.int .i64 0)),(.v (.int .i64 0)),(.v (.int .i64 0)),(.v (.int .i64 0)),(.v (.int .i64 0)),(.v (.int .i64 0)),(.v (.int .i64 0)),(.v (.int .i64 0))]=some [x0_0,x1_0,x2_0,x3_0,x4_0,x5_0,x6_0,x7_0,x8_0,x9_0,x10_0,x11_0]:=by
 simp only[Zaw,h0,l0,h1,l1,h2,l2,h3,l3,h4,l4,h5,l5,h6,l6,h7,l7,h8,l8,h9,l9,h10,l10,h11,l11]
 rfl
theorem Zjr {τ:Operand→AV}{y0 y1 y2:Operand}{x0_0 x1_0 x2_0:AV}(h0:Zas (τ y0)=some [x0_0]) (l0:[x0_0].all leaf=true) (h1:Zas (τ y1)=some [x1_0]) (l1:[x1_0].all leaf=true) (h2:Zas (τ y2)=some [x2_0]) (l2:[x2_0].all leaf=true):Zaw τ [(0,1,y0),(1,1,y1),(2,1,y2)] [(.v (.int .i64 0)),(.v (.int .i64 0)),(.v (.int .i64 0))]=some [x0_0,x1_0,x2_0]:=by
 simp only[Zaw,h0,l0,h1,l1,h2,l2]
 rfl
theorem Zft {a0 a1 a2 c0 c1 c2:AV}{l:List AV}:setCells (a0::a1::a2::l) 0 [c0,c1,c2]=c0::c1::c2::l:=rfl
theorem Zfs {a0 a1 a2:AV}{l:List AV}:((a0::a1::a2::l).drop 0).take 3=[a0,a1,a2]:=rfl
theorem Znx {τ:Operand→AV}:Zaw τ [] [(.v (.int .i64 0)),(.v (.int .i64 0)),(.v (.int .i64 0))]=some [(.v (.int .i64 0)),(.v (.int .i64 0)),(.v (.int .i64 0))]:=rfl
end
def c68:AC:=(Sr [Mb 6 false] (Sr [Mv 7 0,Mv 8 1,Bn 9 .geq 7 8,Mv 10 9,Ot 11 10 (mt 0),Ot 12 10 (mt 2),Ot 13 10 (.bin .leq (.tmp 11) (.tmp 12)),Oo 14 (.pick (.tmp 10) (.tmp 13) (.const (.bool false))),Mv 6 14] .ret))
theorem k68:ZaO Try.prog 68=some ⟨c68,[(.tmp 6)],15⟩:=by kernel_rfl
def c71:AC:=(Sr [Mb 2 false] (Sr [Mv 3 0,Bc 4 .rem 3 4,Bc 5 .eql 4 0,Mv 6 5,Ot 7 6 (mt 0),Ot 8 6 (.bin .rem (.tmp 7) (Ci 100)),Ot 9 6 (.bin .neq (.tmp 8) (Ci 0)),Ot 10 6 (mt 9),Of 11 10 (mt 0),Of 12 10 (.bin .rem (.tmp 11) (Ci 400)),Of 13 10 (.bin .eql (.tmp 12) (Ci 0)),Ot 14 6 (.pick (.tmp 10) (.const (.bool true)) (.tmp 13)),Oo 15 (.pick (.tmp 6) (.tmp 14) (.const (.bool false))),Mv 2 15] .ret))
theorem k71:ZaO Try.prog 71=some ⟨c71,[(.tmp 2)],16⟩:=by kernel_rfl
def c70:AC:=(Sr [Oo 0 (.mv (.const (.slice none 0 0)))] (Sr [Oo 1 (.lit 3 1 12 [(iv 0),(iv 0),(iv 0),(iv 0),(iv 0),(iv 0),(iv 0),(iv 0),(iv 0),(iv 0),(iv 0),(iv 0)] [(0,(1,(Ci 31))),(1,(1,(Ci 28))),(2,(1,(Ci 31))),(3,(1,(Ci 30))),(4,(1,(Ci 31))),(5,(1,(Ci 30))),(6,(1,(Ci 31))),(7,(1,(Ci 31))),(8,(1,(Ci 30))),(9,(1,(Ci 31))),(10,(1,(Ci 30))),(11,(1,(Ci 31)))]),Mv 0 1] .ret))
theorem k70:ZaO Try.prog 70=some ⟨c70,[(.tmp 0)],2⟩:=by kernel_rfl
def c36:AC:=(Sr [Mc 4 0] (Sr [Cl 6 70 [],Mv 7 1,Bc 8 .sub 7 1,Oo 9 (.ia 1 (.tmp 6) (.tmp 8)),Ld 10 9,Mv 5 10] (.seq (Sr [Mv 11 1,Bc 12 .eql 11 2,Mv 13 12,Ot 14 13 (mt 0),Ot 15 13 (.call (.func 71) [(.tmp 14)]),Oo 16 (.pick (.tmp 13) (.tmp 15) (.const (.bool false)))] (Cd 16 (.reg [Mv 17 5,Bc 18 .add 17 1,Mv 5 18]) .skip)) (Sr [Mv 19 5,Mv 4 19] .ret))))
theorem k36:ZaO Try.prog 36=some ⟨c36,[(.tmp 4)],20⟩:=by kernel_rfl
def c19:AC:=(Sr [Oo 1 (.box 57 3 (.tmp 0)),Mc 2 0] (Sd [Fa 5 0 1,Ld 6 5,Cl 7 38 [(.tmp 6)],Cl 8 39 [],Bn 9 .sub 7 8,Fa 10 2 1,Ld 11 10,Bn 12 .add 9 11,Bc 13 .sub 12 1,Mv 3 13] (.seq (Sr [Mc 4 1] (.block 0 (.loop (.seq (Sr [Mv 14 4,Fa 15 1 1,Ld 16 15,Bn 17 .lss 14 16] (Cd 17 .skip (.exit 0))) (.seq (.block 1 (.reg [Mv 20 3,Fa 21 0 1,Ld 22 21,Mv 23 4,Cl 24 36 [(.tmp 22),(.tmp 23)],Bn 25 .add 20 24,Mv 3 25])) (.reg [Mv 18 4,Bc 19 .add 18 1,Mv 4 19])))))) (Sr [Mv 26 3,Mv 2 26] .ret))))
theorem k19:ZaO Try.prog 19=some ⟨c19,[(.tmp 2)],27⟩:=by kernel_rfl
def c74:AC:=(Sr [Oo 2 (.new 57 3 [(iv 0),(iv 0),(iv 0)])] (Sr [Mv 6 0,Cl 7 39 [],Bn 8 .add 6 7,Mv 3 8] (Sr [Mv 9 3,Bc 10 .quo 9 366,Bc 11 .add 10 1,Mv 4 11] (.seq (.block 0 (.loop (.seq (Sr [Mv 12 4,Bc 13 .add 12 1,Cl 14 38 [(.tmp 13)],Mv 15 3,Bn 16 .leq 14 15] (Cd 16 .skip (.exit 0))) (.block 1 (.reg [Mv 17 4,Bc 18 .add 17 1,Mv 4 18]))))) (Sr [Mv 19 3,Mv 20 4,Cl 21 38 [(.tmp 20)],Bn 22 .sub 19 21,Mv 3 22] (Sr [Mc 5 1] (.seq (.block 2 (.loop (.seq (Sr [Mv 23 3,Mv 24 4,Mv 25 5,Cl 26 36 [(.tmp 24),(.tmp 25)],Bn 27 .geq 23 26] (Cd 27 .skip (.exit 2))) (.block 3 (Sr [Mv 28 3,Mv 29 4,Mv 30 5,Cl 31 36 [(.tmp 29),(.tmp 30)],Bn 32 .sub 28 31,Mv 3 32] (.reg [Mv 33 5,Bc 34 .add 33 1,Mv 5 34])))))) (Sr [Mv 35 4,Mv 36 5,Mv 37 3,Bc 38 .add 37 1,Oo 39 (.build [(iv 0),(iv 0),(iv 0)] [(0,(1,(.tmp 35))),(1,(1,(.tmp 36))),(2,(1,(.tmp 38)))]),⟨none,none,(.store 3 (.tmp 2) (.tmp 39))⟩] .ret))))))))
theorem k74:ZaO Try.prog 74=some ⟨c74,[(.cell 2 true 3)],40⟩:=by kernel_rfl
def c37:AC:=(Sr [Oo 2 (.new 57 3 [(iv 0),(iv 0),(iv 0)]),Mc 3 0] (.seq (Sr [Mv 4 0,Cl 5 72 [],Cl 6 73 [],Cl 7 68 [(.tmp 4),(.tmp 5),(.tmp 6)],Oo 8 (.un .not (.tmp 7))] (Cd 8 (Sr [Oo 9 (.build [(iv 0),(iv 0),(iv 0)] []),⟨none,none,(.store 3 (.tmp 2) (.tmp 9))⟩,Mc 3 3] .ret) .skip)) (Sr [Mv 10 0,Cl 11 74 [(.tmp 10)],⟨none,none,(.store 3 (.tmp 2) (.tmp 11))⟩,Mc 3 0] .ret)))
theorem k37:ZaO Try.prog 37=some ⟨c37,[(.cell 2 true 3),(.tmp 3)],12⟩:=by kernel_rfl
abbrev nmC (n:Int):List AV:=[iv n]
theorem nm_len1 : ∀ x,(nmC x).length=1:=fun _=>rfl
abbrev dateA (p:Int×Int×Int):AV:=.agg [iv p.1,iv p.2.1,iv p.2.2]
def lens:List Int:=[31,28,31,30,31,30,31,31,30,31,30,31]
theorem Zcn {n a b:Int}{h:AH}:Ac 68 [iv n,iv a,iv b] h (bv (wi n a b)):=by
 refine tI' k68 fun N hn hlt hlA hbd=>?_
 simp only[tb'] at hbd ⊢
 refine wr'<|mw<|sn'<|wr'<|mw<|mw<|Vw (Ze8 lk lk)<|mw<|?_
 refine sp' (t:=10) gt pt pt (fun hg10=>?_) (fun hg10=>?_)
 ·refine s_do gt<|mw<|s_do gt<|mw<|s_do gt<|Vw (Zc5 lk lk)<|Vw (Zag lk lk)<|mw<|sn'<|Zaa<|Zai rz<|rT'<|?_
  refine bvx ?_;unfold wi;rw[Bool.eq_iff_iff];simp;omega
 refine s_no gt pt<|s_no gt pt<|s_no gt pt<|Vw (Zab lk lkb)<|mw<|sn'<|Zaa<|Zai rz<|rT'<|?_
 refine bvx ?_;unfold wi;rw[Bool.eq_iff_iff];simp;omega
theorem leap_a {y:Int}{h:AH}(h0:0≤y) (h1:y≤1000000):Ac 71 [iv y] h (bv (ZgM y)):=by
 refine tI' k71 fun N hn hlt hlA hbd=>?_
 simp only[tb'] at hbd ⊢
 refine wr'<|mw<|sn'<|wr'<|mw<|?_
 refine V' (Zex lk lki om om) pt ?_
 refine Vw (ZaS lk lki)<|mw<|?_
 refine sp' (t:=6) gt pt pt (fun hg6=>?_) (fun hg6=>?_)
 ·refine s_do gt<|mw<|s_do gt<|?_
  refine V' (Zex lk lki om om) pt ?_
  refine s_do gt<|Vw (Za1 lk lki)<|s_do gt<|mw<|?_
  refine sp' (t:=10) gt pt pt (fun hg10=>?_) (fun hg10=>?_)
  ·refine s_no gt pt<|s_no gt pt<|s_no gt pt<|s_do gt<|Vw (Zag lk lkb)<|Vw (Zag lk lk)<|mw<|sn'<|Zaa<|Zai rz<|rT'<|?_
   refine bvx ?_;unfold ZgM;simp_all <;> rfl
  refine s_do gt<|mw<|s_do gt<|?_
  refine V' (Zex lk lki om om) pt ?_
  refine s_do gt<|Vw (ZaS lk lki)<|s_do gt<|Vw (Zab lk lk)<|Vw (Zag lk lk)<|mw<|sn'<|Zaa<|Zai rz<|rT'<|?_
  refine bvx ?_;unfold ZgM;simp_all <;> rfl
 refine s_no gt pt<|s_no gt pt<|s_no gt pt<|s_no gt pt<|s_nu gt pt<|s_nu gt pt<|s_nu gt pt<|s_no gt pt<|Vw (Zab lk lkb)<|mw<|sn'<|Zaa<|Zai rz<|?_
 refine rT' ?_
 refine bvx ?_;unfold ZgM;simp_all <;> rfl
theorem ZmQ {h:AH}:Ac 70 [] h (.sl 12 1 false (rows nmC lens)):=by
 refine tI' k70 fun N hn hlt hlA hbd=>?_
 simp only[tb'] at hbd ⊢
 exact wr'<|mv' lkn pt0<|sn'<|wr'<|E' (Zgo (ZgT (cvl lki rfl) rfl (cvl lki rfl) rfl (cvl lki rfl) rfl (cvl lki rfl) rfl (cvl lki rfl) rfl (cvl lki rfl) rfl (cvl lki rfl) rfl (cvl lki rfl) rfl (cvl lki rfl) rfl (cvl lki rfl) rfl (cvl lki rfl) rfl (cvl lki rfl) rfl) (hl0 hn) ha0) pt1<|mv' lk1 pt0<|Zaq<|ZbY (ALe.iceR gx gt0 rfl (nb' rfl) pt0 (hs0 hn))<|Zaa<|Zai (rs1 (rr_t gt0))<|rT' rfl
theorem ZmH {y m:Int}(h1:1≤m) (h2:m≤12) (hk:(m-1).toNat<lens.length):mlen y m=lens[(m-1).toNat]+(if m=2 then lp y else 0):=by
 have hm:m=1∨m=2∨m=3∨m=4∨m=5∨m=6∨m=7∨m=8∨m=9∨m=10∨m=11∨m=12:=by omega
 rcases hm with rfl | rfl | rfl | rfl | rfl | rfl | rfl | rfl | rfl | rfl | rfl | rfl <;> rfl
theorem lens_bd {k:Nat}(hk:k<lens.length):28≤lens[k]∧lens[k]≤31:=by
 have : ∀ x∈lens,28≤x∧x≤31:=by decide
 exact this _ (List.getElem_mem hk)
theorem Zc2 {y m:Int}{h:AH}(h0:0≤y) (hy:y≤1000000) (h1:1≤m) (h2:m≤12):Ac 36 [iv y,iv m] h (iv (mlen y m)):=by
 have hk:(m-1).toNat<lens.length:=by show _<12;omega
 have he:=ZmH (y:=y) h1 h2 hk
 have hb:=lens_bd hk
 refine tI' k36 fun N hn hlt hlA hbd=>?_
 simp only[tb'] at hbd ⊢
 refine wr'<|mw<|sn'<|wr'<|Zak mp0 (ZmQ) pt<|mw<|?_
 refine V' (Zbi lk lki om om) pt ?_
 refine V' (ZaY (l:=lens) (k:=(m-1).toNat) lk lk nm_len1 (nb' rfl) om hk rfl rfl) pt ?_
 refine Vw (ZaA lk gt)<|mw<|sn'<|Zan<|wr'<|mw<|Vw (ZaS lk lki)<|mw<|?_
 refine sp' (t:=13) gt pt pt (fun hg13=>?_) (fun hg13=>?_)
 ·refine s_do gt<|mw<|s_do gt<|Zak mp (leap_a h0 hy) pt<|Vw (Zag lk lk)<|sn'<|?_
  refine cd' lk (fun hc1=>?_) (fun hc1=>?_)
  ·refine Zar<|mw<|?_
   refine V' (Zau lk lki om om) pt ?_
   refine mw<|sn'<|wr'<|mw<|mw<|sn'<|Zaa<|Zai rz<|rT'<|?_
   refine ivx ?_;rw[he];unfold lp;simp_all
  refine Zaf<|Zah<|wr'<|mw<|mw<|sn'<|Zaa<|Zai rz<|rT'<|?_
  refine ivx ?_;rw[he];unfold lp;simp_all
 refine s_no gt pt<|s_no gt pt<|Vw (Zab lk lkb)<|sn'<|ZaG lk<|Zaf<|Zah<|wr'<|mw<|mw<|sn'<|?_
 refine Zaa<|Zai rz<|rT'<|?_
 refine ivx ?_;rw[he];unfold lp;simp_all
theorem ZkD {y m d:Int}{h:AH}(y0:1≤y) (y1:y≤20000) (m0:1≤m) (m1:m≤12) (d0 : -1000≤d) (d1:d≤1000):Ac 19 [.agg [iv y,iv m,iv d]] h (iv (num y m d)):=by
 have hb:=bef_bd y0 y1
 refine tI' k19 fun N hn hlt hlA hbd=>?_
 simp only[tb'] at hbd ⊢
 refine wr'<|E' (ZdO cv rfl (hl0 hn) ha0) pt<|mw<|sn'<|Zan<|Zcg<|Dw (Zac lk)<|Dw (Zae lk gx gt0)<|?_
 refine Zbw mp (fun hE hX=>ZeV (by first | assumption | omega) (by first | assumption | omega)) pt ?_
 refine Zbw mp0 (fun hE hX=>Zh8) pt ?_
 refine D' (Zbi lk lk om om) pt ?_
 refine Dw (Zac lk)<|Dw (Zae lk gx gt2)<|?_
 refine D' (Zau lk lk om om) pt ?_
 refine D' (Zbi lk lki om om) pt ?_
 refine Dw (v_mv lk)<|ZbB<|?_
 refine ZbS ?_
 refine sn'<|Zan<|wr'<|mw<|sn'<|Zao<|?_
 refine Ziu (ι:=Int) (fun (k:Int)=>[(3,iv (bef y-719162+d-1+cum y k)),(4,iv k)]++rn' 14 12) (fun (k:Int)=>[]) (fun (k:Int)=>1≤k∧k≤m) (fun (k:Int)=>(m-k).toNat) (1) om (by try simp only[sm',Nat.reduceAdd];exact ALe.same (by repeat (first | exact wk0 | refine wka ?_ | refine wk1 rfl ?_ | refine wk1 (by first | rfl | exact ivx (by rw[Zm9];omega)) ?_)) rfl) ?_
 rintro k hi1
 try simp only[sm',Nat.reduceAdd]
 obtain⟨hk1,hk2⟩:=hi1
 have hcb:=Zi8 (y:=y) (m:=k) hk1 om
 refine Zan<|wr'<|mw<|Vw (Zac lk)<|Vw (Zae lk gx gt1)<|Vw (ZbP lk lk)<|sn'<|?_
 refine cd' lk (fun hc1=>?_) (fun hc1=>?_)
 ·have hcs:=ZeR (y:=y) (m:=k) hk1 om
  have hml:=ZdM y k
  refine Zaf<|Zah<|Zan<|Zao<|Zar<|mw<|Vw (Zac lk)<|Vw (Zae lk gx gt0)<|mw<|?_
  refine Zak mp (Zc2 om om hk1 om) pt ?_
  refine V' (Zau lk lk om om) pt ?_
  refine mw<|Zaq<|ZaC<|Zah<|Zar<|mw<|?_
  refine V' (Zau lk lki om om) pt ?_
  refine mw<|Zaq<|ZaB<|?_
  refine lU' (k+1) (by (try dsimp only);omega) (by (try dsimp only);(try simp only[sm',Nat.reduceAdd]);exact ALe.same (by repeat (first | exact wk0 | refine wka ?_ | refine wk1 rfl ?_ | refine wk1 (by first | rfl | exact ivx om) ?_)) rfl)
 have hkm:k=m:=by omega
 refine ZaX<|ZaN<|ZaN<|Zbq<|Zah<|wr'<|mw<|mw<|sn'<|Zaa<|Zai rz<|rT'<|?_
 refine ivx ?_;rw[hkm];unfold num;omega
theorem date_a {n:Int}{h:AH}(h0 : -719162≤n) (h1:n≤2932896):Ac 74 [iv n] h (dateA (Zbp n)):=by
 have hg:=ZkP (n:=n+719162) om
 have hn:=Zhb (n:=n+719162) om om
 have hs:=Ziq h0 h1
 refine tI' k74 fun N hn hlt hlA hbd=>?_
 simp only[tb'] at hbd ⊢
 refine wr'<|E' (ZbZ (hl0 hn) ha0) pt<|sn'<|wr'<|mw<|Zak mp0 (Zh8) pt<|?_
 refine V' (Zau lk lk om om) pt ?_
 refine mw<|sn'<|wr'<|mw<|?_
 refine V' (Zey lk lki om om om) pt ?_
 refine V' (Zau lk lki om om) pt ?_
 refine mw<|sn'<|Zan<|Zao<|?_
 refine w_lp (ι:=Nat×Int) (fun (x_:Nat×Int)=>match x_ with | ⟨k,y⟩=>[(4,iv y)]++rn' 12 7) (fun (x_:Nat×Int)=>match x_ with | ⟨k,y⟩=>[]) (fun (x_:Nat×Int)=>match x_ with | ⟨k,y⟩=>yrOf n=yrUp k (n+719162) y∧1≤y∧y+k≤10100∧bef y≤n+719162∧n+719162<bef y+365*(k:Int)+365) (fun (x_:Nat×Int)=>match x_ with | ⟨k,y⟩=>k) (⟨60,(n+719162)/366+1⟩) (by exact⟨rfl,by omega,by omega,hg,by omega⟩) ?_
 rintro⟨k,y⟩ hi1
 try simp only[sm',Nat.reduceAdd]
 obtain⟨hy1,hy2,hy3,hy4,hy5⟩:=hi1
 refine Zan<|wr'<|mw<|?_
 refine V' (Zau lk lki om om) pt ?_
 refine Zak mp (ZeV om om) pt ?_
 refine mw<|Vw (Zc5 lk lk)<|sn'<|?_
 refine cd' lk (fun hc1=>?_) (fun hc1=>?_)
 ·obtain⟨j,rfl⟩ : ∃ j,k=j+1:=by
   cases k with
   | zero=>exfalso;have:=Zif (a:=y) (b:=y+1) om;have:=Zd8 y;have:=ZjO y;unfold bef at *;omega
   | succ j=>exact⟨j,rfl⟩
  have hst:=Zif (a:=y) (b:=y+1) om
  refine Zaf<|Zah<|Zao<|Zar<|mw<|?_
  refine V' (Zau lk lki om om) pt ?_
  refine mw<|Zaq<|ZaC<|ZaB<|?_
  refine lT' (⟨j,y+1⟩) (by (try dsimp only);exact⟨by rw[hy1,yrUp,if_pos hc1],by omega,by omega,hc1,by omega⟩)
 have hyy:yrOf n=y:=by rw[hy1];cases k with
  | zero=>rfl
  | succ j=>rw[yrUp,if_neg hc1]
 rw[hyy] at hs
 have hbs:=Zd8 y
 have hl01:=ZjO y
 refine ZaX<|ZaN<|ZaN<|Zbq<|Zah<|wr'<|mw<|mw<|?_
 refine Zak mp (ZeV om om) pt ?_
 refine V' (Zbi lk lk om om) pt ?_
 refine mw<|sn'<|wr'<|mw<|sn'<|Zan<|Zao<|?_
 refine w_lp (ι:=Nat×Int×Int) (fun (x_:Nat×Int×Int)=>match x_ with | ⟨k,m,r⟩=>[(3,iv r),(5,iv m)]++rn' 23 12) (fun (x_:Nat×Int×Int)=>match x_ with | ⟨k,m,r⟩=>[]) (fun (x_:Nat×Int×Int)=>match x_ with | ⟨k,m,r⟩=>moUp 12 y 1 (n+719162-bef y)=moUp k y m r∧1≤m∧m+k=13∧0≤r∧cum y m+r<365+lp y) (fun (x_:Nat×Int×Int)=>match x_ with | ⟨k,m,r⟩=>k) (⟨12,1,n+719162-bef y⟩) (by exact⟨rfl,by omega,by omega,by omega,by rw[Zm9];omega⟩) ?_
 rintro⟨k,m,r⟩ hi2
 try simp only[sm',Nat.reduceAdd]
 obtain⟨hm1,hm2,hm3,hm4,hm5⟩:=hi2
 have hm12:m≤12:=by
  rcases Int.lt_or_le 12 m with e | e
  ·have:m=13:=by omega
   subst this;rw[Zm8] at hm5;omega
  exact e
 have hcs:=ZeR (y:=y) (m:=m) hm2 hm12
 have hcb:=Zi8 (y:=y) (m:=m) hm2 om
 have hml:=ZdM y m
 refine Zan<|wr'<|mw<|mw<|mw<|?_
 refine Zak mp (Zc2 om om hm2 hm12) pt ?_
 refine Vw (Ze8 lk lk)<|sn'<|?_
 refine cd' lk (fun hc2=>?_) (fun hc2=>?_)
 ·obtain⟨j,rfl⟩ : ∃ j,k=j+1:=⟨k-1,by omega⟩
  refine Zaf<|Zah<|Zao<|wr'<|mw<|mw<|mw<|?_
  refine Zak mp (Zc2 om om hm2 hm12) pt ?_
  refine V' (Zbi lk lk om om) pt ?_
  refine mw<|sn'<|Zar<|mw<|?_
  refine V' (Zau lk lki om om) pt ?_
  refine mw<|Zaq<|ZaC<|ZaB<|?_
  refine lT' (⟨j,m+1,r-mlen y m⟩) (by (try dsimp only);exact⟨by rw[hm1,moUp,if_pos hc2],by omega,by omega,by omega,by omega⟩)
 have hmm:moUp 12 y 1 (n+719162-bef y)=(m,r):=by rw[hm1];cases k with
  | zero=>rfl
  | succ j=>rw[moUp,if_neg hc2]
 refine ZaX<|ZaN<|ZaN<|Zbq<|Zah<|wr'<|mw<|mw<|mw<|?_
 refine V' (Zau lk lki om om) pt ?_
 refine Vw (Zax (Zjr cv rfl cv rfl cv rfl))<|E' (Zam lk cv gx rfl (nb' rfl) rfl Zft (hs0 hn)) ptn<|sn'<|Zaa<|Zai (rs1 (rr_c gt gx (ld1 Zfs rfl)))<|rT'<|?_
 have hdo:Zbp n=(y,m,r+1):=by simp only[Zbp,hyy,hmm]
 rw[hdo]
theorem of_a {n:Int}{h:AH}:Ac 37 [iv n] h (.tup [dateA (if -719162≤n∧n≤2932896 then Zbp n else (0,0,0)),iv (if -719162≤n∧n≤2932896 then 0 else 3)]):=by
 refine tI' k37 fun N hn hlt hlA hbd=>?_
 simp only[tb'] at hbd ⊢
 refine wr'<|E' (ZbZ (hl0 hn) ha0) pt<|mw<|sn'<|Zan<|wr'<|mw<|Zak mp0 (first_a) pt<|Zak mp0 (last_a) pt<|Zak mp (Zcn) pt<|Vw (Zav lk)<|?_
 refine sn' ?_
 refine Zaz lk (fun hc1=>?_) (fun hc1=>?_)
 ·have hno:¬(-719162≤n∧n≤2932896):=by unfold wi at hc1;simp at hc1;omega
  refine wr'<|Vw (Zax Znx)<|E' (Zam lk cv gx rfl (nb' rfl) rfl Zft (hs0 hn)) ptn<|mw<|sn'<|Zaa<|Zal<|Zai (rsn (rm1 (rr_c gt gx (ld1 Zfs rfl)) (rm1 (rr_t gt) rm0)))<|rT'<|?_
  rw[if_neg hno,if_neg hno]
 have hyes : -719162≤n∧n≤2932896:=by unfold wi at hc1;simp at hc1;omega
 refine Zaf<|Zah<|wr'<|mw<|Zak mp (date_a hyes.1 hyes.2) pt<|E' (Zam lk cv gx rfl (nb' rfl) rfl Zft (hs0 hn)) ptn<|mw<|sn'<|Zaa<|Zai (rsn (rm1 (rr_c gt gx (ld1 Zfs rfl)) (rm1 (rr_t gt) rm0)))<|rT'<|?_
 rw[if_pos hyes,if_pos hyes]
end Go.Proofs.Yticajimgfndceaa
end
section
namespace Go.Proofs.Yticajimgfndceaa
open Go.Ab Civ
section
theorem ZaZ {a0 a1 a2:AV}{l:List AV}:((a0::a1::a2::l).drop 0).take 3=[a0,a1,a2]:=rfl
theorem ZlQ {τ:Operand→AV}:Zaw τ [] [(.v (.int .i64 0)),(.v (.int .i64 0)),(.v (.int .i64 0))]=some [(.v (.int .i64 0)),(.v (.int .i64 0)),(.v (.int .i64 0))]:=rfl
theorem Zbb {a0 a1 a2 c0 c1 c2:AV}{l:List AV}:setCells (a0::a1::a2::l) 0 [c0,c1,c2]=c0::c1::c2::l:=rfl
theorem ZlP {τ:Operand→AV}{y0 y1 y2:Operand}{x0_0 x1_0 x2_0:AV}(h0:Zas (τ y0)=some [x0_0]) (l0:[x0_0].all leaf=true) (h1:Zas (τ y1)=some [x1_0]) (l1:[x1_0].all leaf=true) (h2:Zas (τ y2)=some [x2_0]) (l2:[x2_0].all leaf=true):Zaw τ [(0,1,y0),(1,1,y1),(2,1,y2)] [(.v (.int .i64 0)),(.v (.int .i64 0)),(.v (.int .i64 0))]=some [x0_0,x1_0,x2_0]:=by
 simp only[Zaw,h0,l0,h1,l1,h2,l2]
 rfl
theorem ZgJ {τ:Operand→AV}{y0 y1 y2:Operand}{x0_0 x1_0 x2_0:AV}(h0:Zas (τ y0)=some [x0_0]) (l0:[x0_0].all leaf=true) (h1:Zas (τ y1)=some [x1_0]) (l1:[x1_0].all leaf=true) (h2:Zas (τ y2)=some [x2_0]) (l2:[x2_0].all leaf=true):Zaw τ [(0,1,y0),(1,1,y1),(2,1,y2)] [(.v (.int .i64 0)),(.v (.int .i64 0)),(.v (.int .i64 0))]=some [x0_0,x1_0,x2_0]:=by
 simp only[Zaw,h0,l0,h1,l1,h2,l2]
 rfl
theorem ZgQ {τ:Operand→AV}{y0 y1 y2:Operand}{x0_0 x1_0 x2_0:AV}(h0:Zas (τ y0)=some [x0_0]) (l0:[x0_0].all leaf=true) (h1:Zas (τ y1)=some [x1_0]) (l1:[x1_0].all leaf=true) (h2:Zas (τ y2)=some [x2_0]) (l2:[x2_0].all leaf=true):Zaw τ [(0,1,y0),(1,1,y1),(2,1,y2)] [(.v (.int .i64 0)),(.v (.int .i64 0)),(.v (.int .i64 0))]=some [x0_0,x1_0,x2_0]:=by
 simp only[Zaw,h0,l0,h1,l1,h2,l2]
 rfl
theorem ZgS {τ:Operand→AV}{y0 y1 y2:Operand}{x0_0 x1_0 x2_0:AV}(h0:Zas (τ y0)=some [x0_0]) (l0:[x0_0].all leaf=true) (h1:Zas (τ y1)=some [x1_0]) (l1:[x1_0].all leaf=true) (h2:Zas (τ y2)=some [x2_0]) (l2:[x2_0].all leaf=true):Zaw τ [(0,1,y0),(1,1,y1),(2,1,y2)] [(.v (.int .i64 0)),(.v (.int .i64 0)),(.v (.int .i64 0))]=some [x0_0,x1_0,x2_0]:=by
 simp only[Zaw,h0,l0,h1,l1,h2,l2]
 rfl
theorem ZgR {τ:Operand→AV}{y0 y1 y2:Operand}{x0_0 x1_0 x2_0:AV}(h0:Zas (τ y0)=some [x0_0]) (l0:[x0_0].all leaf=true) (h1:Zas (τ y1)=some [x1_0]) (l1:[x1_0].all leaf=true) (h2:Zas (τ y2)=some [x2_0]) (l2:[x2_0].all leaf=true):Zaw τ [(0,1,y0),(1,1,y1),(2,1,y2)] [(.v (.int .i64 0)),(.v (.int .i64 0)),(.v (.int .i64 0))]=some [x0_0,x1_0,x2_0]:=by
 simp only[Zaw,h0,l0,h1,l1,h2,l2]
 rfl
theorem ZlO {a0 a1 c0:AV}{l:List AV}:setCells (a0::a1::l) 1 [c0]=a0::c0::l:=rfl
theorem ZlN {a0 a1 a2 c0:AV}{l:List AV}:setCells (a0::a1::a2::l) 2 [c0]=a0::a1::c0::l:=rfl
theorem Zjp {τ:Operand→AV}:Zaw τ [] [(.v (.int .i64 0)),(.v (.int .i64 0)),(.v (.int .i64 0))]=some [(.v (.int .i64 0)),(.v (.int .i64 0)),(.v (.int .i64 0))]:=rfl
theorem Zjo {τ:Operand→AV}:Zaw τ [] [(.v (.int .i64 0)),(.v (.int .i64 0)),(.v (.int .i64 0))]=some [(.v (.int .i64 0)),(.v (.int .i64 0)),(.v (.int .i64 0))]:=rfl
theorem Zjn {τ:Operand→AV}:Zaw τ [] [(.v (.int .i64 0)),(.v (.int .i64 0)),(.v (.int .i64 0))]=some [(.v (.int .i64 0)),(.v (.int .i64 0)),(.v (.int .i64 0))]:=rfl
theorem Zjm {τ:Operand→AV}:Zaw τ [] [(.v (.int .i64 0)),(.v (.int .i64 0)),(.v (.int .i64 0))]=some [(.v (.int .i64 0)),(.v (.int .i64 0)),(.v (.int .i64 0))]:=rfl
theorem Zjl {τ:Operand→AV}{y0 y1 y2:Operand}{x0_0 x1_0 x2_0:AV}(h0:Zas (τ y0)=some [x0_0]) (l0:[x0_0].all leaf=true) (h1:Zas (τ y1)=some [x1_0]) (l1:[x1_0].all leaf=true) (h2:Zas (τ y2)=some [x2_0]) (l2:[x2_0].all leaf=true):Zaw τ [(0,1,y0),(1,1,y1),(2,1,y2)] [(.v (.int .i64 0)),(.v (.int .i64 0)),(.v (.int .i64 0))]=some [x0_0,x1_0,x2_0]:=by
 simp only[Zaw,h0,l0,h1,l1,h2,l2]
 rfl
theorem Zin {τ:Operand→AV}:Zaw τ [] [(.v (.int .i64 0)),(.v (.int .i64 0)),(.v (.int .i64 0))]=some [(.v (.int .i64 0)),(.v (.int .i64 0)),(.v (.int .i64 0))]:=rfl
end
def c69:AC:=(Sr [Mc 2 0] (Sr [Mv 3 0,Bc 4 .rem 3 7,Bc 5 .add 4 4,Bc 6 .rem 5 7,Bc 7 .add 6 7,Bc 8 .rem 7 7,Mv 2 8] .ret))
theorem k69:ZaO Try.prog 69=some ⟨c69,[(.tmp 2)],9⟩:=by kernel_rfl
def c35:AC:=(Sr [Mc 6 0] (.seq (.block 0 (.loop (.seq (Sr [Mv 7 0,Cl 8 69 [(.tmp 7)],Mv 9 1,Bn 10 .neq 8 9] (Cd 10 .skip (.exit 0))) (.block 1 (.reg [Mv 11 0,Mv 12 2,Bn 13 .add 11 12,Mv 0 13]))))) (Sr [Mv 14 0,Mv 6 14] .ret)))
theorem k35:ZaO Try.prog 35=some ⟨c35,[(.tmp 6)],15⟩:=by kernel_rfl
def c34:AC:=(Sr [Oo 5 (.box 29 3 (.tmp 2)),Mc 6 0] (.seq (.block 0 (Sr [Mv 8 0,Cl 9 68 [(.tmp 8),(Ci 1),(Ci 9999)],Oo 10 (.un .not (.tmp 9)),Mv 11 10,Of 12 11 (mt 1),Of 13 11 (.call (.func 68) [(.tmp 12),(Ci 1),(Ci 12)]),Of 14 11 (.un .not (.tmp 13)),Oo 15 (.pick (.tmp 11) (.const (.bool true)) (.tmp 14)),Mv 7 15] (Cd 7 (Sr [Mc 6 3] .ret) (Sr [Fa 17 0 5,Ld 18 17,Cl 19 68 [(.tmp 18),(Ci 1),(Ci 4)],Oo 20 (.un .not (.tmp 19)),Mv 16 20] (Cd 16 (Sr [Mc 6 7] .ret) (Sr [Fa 22 1 5,Ld 23 22,Cl 24 68 [(.tmp 23),(Ci 0),(Ci 6)],Oo 25 (.un .not (.tmp 24)),Mv 26 25,Of 27 26 (.fa 0 (.tmp 5)),Of 28 26 (.load false 1 (.tmp 27)),Of 29 26 (.bin .eql (.tmp 28) (Ci 1)),Of 30 26 (mt 29),Ot 31 30 (.fa 1 (.tmp 5)),Ot 32 30 (.load false 1 (.tmp 31)),Ot 33 30 (.bin .neq (.tmp 32) (Ci 0)),Of 34 26 (.pick (.tmp 30) (.tmp 33) (.const (.bool false))),Oo 35 (.pick (.tmp 26) (.const (.bool true)) (.tmp 34)),Mv 21 35] (Cd 21 (Sr [Mc 6 3] .ret) (Sd [Fa 37 0 5,Ld 38 37,Bc 39 .eql 38 2,Mv 40 39,Ot 41 40 (.fa 2 (.tmp 5)),Ot 42 40 (.load false 1 (.tmp 41)),Ot 43 40 (.bin .neq (.tmp 42) (Ci 0)),Oo 44 (.pick (.tmp 40) (.tmp 43) (.const (.bool false))),Mv 45 44,Of 46 45 (.fa 0 (.tmp 5)),Of 47 45 (.load false 1 (.tmp 46)),Of 48 45 (.bin .neq (.tmp 47) (Ci 2)),Of 49 45 (mt 48),Ot 50 49 (.fa 2 (.tmp 5)),Ot 51 49 (.load false 1 (.tmp 50)),Ot 52 49 (mt 0),Ot 53 49 (mt 1),Ot 54 49 (.call (.func 36) [(.tmp 52),(.tmp 53)]),Ot 55 49 (.call (.func 68) [(.tmp 51),(Ci 1),(.tmp 54)]),Ot 56 49 (.un .not (.tmp 55)),Of 57 45 (.pick (.tmp 49) (.tmp 56) (.const (.bool false))),Oo 58 (.pick (.tmp 45) (.const (.bool true)) (.tmp 57)),Mv 36 58] (Cd 36 (Sr [Mc 6 3] .ret) .skip))))))))) (Sr [Mc 6 0] .ret)))
theorem k34:ZaO Try.prog 34=some ⟨c34,[(.tmp 6)],59⟩:=by kernel_rfl
def c18:AC:=(Sr [Oo 5 (.box 29 3 (.tmp 2)),Oo 6 (.new 57 3 [(iv 0),(iv 0),(iv 0)]),Mc 7 0] (.seq (Sr [Mv 11 0,Mv 12 1,Oo 13 (.load true 3 (.tmp 5)),Cl 14 34 [(.tmp 11),(.tmp 12),(.tmp 13)],Mv 8 14] (Sr [Mv 15 8,Bc 16 .neq 15 0] (Cd 16 (Sr [Oo 17 (.build [(iv 0),(iv 0),(iv 0)] []),Mv 18 8,⟨none,none,(.store 3 (.tmp 6) (.tmp 17))⟩,Mv 7 18] .ret) .skip))) (Sr [Mv 19 0,Mv 20 1,Oo 21 (.build [(iv 0),(iv 0),(iv 0)] [(0,(1,(.tmp 19))),(1,(1,(.tmp 20))),(2,(1,(Ci 1)))]),Cl 22 19 [(.tmp 21)],Mv 9 22] (Sr [Mv 23 9,Fa 24 2 5,Ld 25 24,Bn 26 .add 23 25,Bc 27 .sub 26 1,Mv 10 27] (.seq (Sr [Fa 28 0 5,Ld 29 28] (.block 0 (Sr [Bc 31 .eql 29 2,Mv 30 31] (Cd 30 (.drw [Mv 32 9,Mv 33 0,Mv 34 1,Cl 35 36 [(.tmp 33),(.tmp 34)],Bn 36 .add 32 35,Bc 37 .sub 36 1,Fa 38 1 5,Ld 39 38,Cl 40 35 [(.tmp 37),(.tmp 39),(.const (.int .i64 (-1)))],Mv 10 40] [] []) (Sr [Bc 42 .eql 29 3,Mv 41 42] (Cd 41 (.reg [Mv 43 10,Fa 44 1 5,Ld 45 44,Cl 46 35 [(.tmp 43),(.tmp 45),(Ci 1)],Mv 10 46]) (Sr [Bc 48 .eql 29 4,Mv 47 48] (Cd 47 (.reg [Mv 49 10,Fa 50 1 5,Ld 51 50,Cl 52 35 [(.tmp 49),(.tmp 51),(.const (.int .i64 (-1)))],Mv 10 52]) .skip)))))))) (Sr [Mv 53 10,Cl 54 37 [(.tmp 53)],Ex 55 54 0,Ex 56 54 1,⟨none,none,(.store 3 (.tmp 6) (.tmp 55))⟩,Mv 7 56] .ret))))))
theorem k18:ZaO Try.prog 18=some ⟨c18,[(.cell 6 true 3),(.tmp 7)],57⟩:=by kernel_rfl
def c99:AC:=(Sr [Mb 2 false] (Sr [Mv 3 0,Bc 4 .rem 3 400,Bc 5 .eql 4 0,Mv 6 5,Of 7 6 (mt 0),Of 8 6 (.bin .rem (.tmp 7) (Ci 4)),Of 9 6 (.bin .eql (.tmp 8) (Ci 0)),Of 10 6 (mt 9),Ot 11 10 (mt 0),Ot 12 10 (.bin .rem (.tmp 11) (Ci 100)),Ot 13 10 (.bin .neq (.tmp 12) (Ci 0)),Of 14 6 (.pick (.tmp 10) (.tmp 13) (.const (.bool false))),Oo 15 (.pick (.tmp 6) (.const (.bool true)) (.tmp 14)),Mv 2 15] .ret))
theorem k99:ZaO Try.prog 99=some ⟨c99,[(.tmp 2)],16⟩:=by kernel_rfl
def c92:AC:=(Sr [Mc 4 0] (.seq (Sr [Mv 5 1] (.block 0 (.seq (Sr [Bc 7 .eql 5 4,Mv 6 7] (Cd 6 .skip (Sr [Bc 8 .eql 5 6,Mv 6 8] (Cd 6 .skip (Sr [Bc 9 .eql 5 9,Mv 6 9] (Cd 6 .skip (.reg [Bc 10 .eql 5 11,Mv 6 10]))))))) (Cd 6 (Sr [Mc 4 30] .ret) (Sr [Bc 12 .eql 5 2,Mv 11 12] (Cd 11 (.seq (Sr [Mv 13 0,Cl 14 99 [(.tmp 13)]] (Cd 14 (Sr [Mc 4 29] .ret) .skip)) (Sr [Mc 4 28] .ret)) .skip)))))) (Sr [Mc 4 31] .ret)))
theorem k92:ZaO Try.prog 92=some ⟨c92,[(.tmp 4)],15⟩:=by kernel_rfl
def c89:AC:=(Sr [Oo 1 (.box 57 3 (.tmp 0)),Mb 2 false] (Sd [Fa 3 0 1,Ld 4 3,Cl 5 82 [(.tmp 4),(Ci 1),(Ci 9999)],Mv 6 5,Ot 7 6 (.fa 1 (.tmp 1)),Ot 8 6 (.load false 1 (.tmp 7)),Ot 9 6 (.call (.func 82) [(.tmp 8),(Ci 1),(Ci 12)]),Oo 10 (.pick (.tmp 6) (.tmp 9) (.const (.bool false))),Mv 11 10,Ot 12 11 (.fa 2 (.tmp 1)),Ot 13 11 (.load false 1 (.tmp 12)),Ot 14 11 (.fa 0 (.tmp 1)),Ot 15 11 (.load false 1 (.tmp 14)),Ot 16 11 (.fa 1 (.tmp 1)),Ot 17 11 (.load false 1 (.tmp 16)),Ot 18 11 (.call (.func 92) [(.tmp 15),(.tmp 17)]),Ot 19 11 (.call (.func 82) [(.tmp 13),(Ci 1),(.tmp 18)]),Oo 20 (.pick (.tmp 11) (.tmp 19) (.const (.bool false))),Mv 2 20] .ret))
theorem k89:ZaO Try.prog 89=some ⟨c89,[(.tmp 2)],21⟩:=by kernel_rfl
def c93:AC:=(Sr [Oo 1 (.box 57 3 (.tmp 0)),Mc 2 0] (Sd [Fa 6 0 1,Ld 7 6,Fa 8 1 1,Ld 9 8,Bc 10 .sub 9 3,Mv 3 7,Mv 4 10] (.seq (Sr [Mv 11 4,Bc 12 .lss 11 0] (Cd 12 (Sr [Mv 13 3,Bc 14 .sub 13 1,Mv 3 14] (.reg [Mv 15 4,Bc 16 .add 15 12,Mv 4 16])) .skip)) (Sr [Mv 17 3,Bc 18 .quo 17 400,Bc 19 .mul 18 146097,Mv 20 3,Bc 21 .rem 20 400,Bc 22 .mul 21 365,Bn 23 .add 19 22,Mv 24 3,Bc 25 .rem 24 400,Bc 26 .quo 25 4,Bn 27 .add 23 26,Mv 28 3,Bc 29 .rem 28 400,Bc 30 .quo 29 100,Bn 31 .sub 27 30,Mv 5 31] (Sr [Mv 32 5,Mv 33 4,Oo 34 (.bin .mul (Ci 153) (.tmp 33)),Bc 35 .add 34 2,Bc 36 .quo 35 5,Bn 37 .add 32 36,Fa 38 2 1,Ld 39 38,Bn 40 .add 37 39,Bc 41 .sub 40 1,Bc 42 .sub 41 719468,Mv 2 42] .ret)))))
theorem k93:ZaO Try.prog 93=some ⟨c93,[(.tmp 2)],43⟩:=by kernel_rfl
def c95:AC:=(Sr [Mc 0 0] (Sr [Oo 1 (.build [(iv 0),(iv 0),(iv 0)] [(0,(1,(Ci 1))),(1,(1,(Ci 1))),(2,(1,(Ci 1)))]),Cl 2 93 [(.tmp 1)],Mv 0 2] .ret))
theorem k95:ZaO Try.prog 95=some ⟨c95,[(.tmp 0)],3⟩:=by kernel_rfl
def c96:AC:=(Sr [Mc 0 0] (Sr [Oo 1 (.build [(iv 0),(iv 0),(iv 0)] [(0,(1,(Ci 9999))),(1,(1,(Ci 12))),(2,(1,(Ci 31)))]),Cl 2 93 [(.tmp 1)],Mv 0 2] .ret))
theorem k96:ZaO Try.prog 96=some ⟨c96,[(.tmp 0)],3⟩:=by kernel_rfl
def c94:AC:=(Sr [Mc 2 0] (Sr [Mv 4 0,Bc 5 .rem 4 7,Mv 3 5] (.seq (Sr [Mv 6 3,Bc 7 .lss 6 0] (Cd 7 (.reg [Mv 8 3,Bc 9 .add 8 7,Mv 3 9]) .skip)) (Sr [Mv 10 3,Bc 11 .add 10 4,Bc 12 .rem 11 7,Mv 2 12] .ret))))
theorem k94:ZaO Try.prog 94=some ⟨c94,[(.tmp 2)],13⟩:=by kernel_rfl
def c97:AC:=(Sr [Oo 2 (.new 57 3 [(iv 0),(iv 0),(iv 0)])] (Sr [Mc 3 1,Mc 4 10000] (.seq (.block 0 (.loop (.seq (Sr [Mv 7 4,Mv 8 3,Bn 9 .sub 7 8,Bc 10 .gtr 9 1] (Cd 10 .skip (.exit 0))) (.block 1 (Sr [Mv 11 3,Mv 12 4,Bn 13 .add 11 12,Bc 14 .quo 13 2,Mv 5 14] (Sr [Mv 15 5,Oo 16 (.build [(iv 0),(iv 0),(iv 0)] [(0,(1,(.tmp 15))),(1,(1,(Ci 1))),(2,(1,(Ci 1)))]),Cl 17 93 [(.tmp 16)],Mv 18 0,Bn 19 .leq 17 18] (Cd 19 (.reg [Mv 20 5,Mv 3 20]) (.reg [Mv 21 5,Mv 4 21])))))))) (Sr [Mv 22 3,Oo 23 (.build [(iv 0),(iv 0),(iv 0)] [(0,(1,(.tmp 22))),(1,(1,(Ci 12))),(2,(1,(Ci 1)))]),Oo 6 (.new 57 3 [(iv 0),(iv 0),(iv 0)]),⟨none,none,(.store 3 (.tmp 6) (.tmp 23))⟩] (.seq (.block 2 (.loop (.seq (Sr [Oo 24 (.load true 3 (.tmp 6)),Cl 25 93 [(.tmp 24)],Mv 26 0,Bn 27 .gtr 25 26] (Cd 27 .skip (.exit 2))) (.block 3 (.reg [Fa 28 1 6,Ld 29 28,Bc 30 .sub 29 1,Fa 31 1 6,Sc 31 30]))))) (Sr [Mv 32 0,Oo 33 (.load true 3 (.tmp 6)),Cl 34 93 [(.tmp 33)],Bn 35 .sub 32 34,Bc 36 .add 35 1,Fa 37 2 6,Sc 37 36] (Sr [Oo 38 (.load true 3 (.tmp 6)),⟨none,none,(.store 3 (.tmp 2) (.tmp 38))⟩] .ret)))))))
theorem k97:ZaO Try.prog 97=some ⟨c97,[(.cell 2 true 3)],39⟩:=by kernel_rfl
def c87:AC:=(Sr [Oo 5 (.box 29 3 (.tmp 2)),Oo 6 (.new 57 3 [(iv 0),(iv 0),(iv 0)]),Mc 7 0] (.seq (Sr [Mv 11 0,Cl 12 82 [(.tmp 11),(Ci 1),(Ci 9999)],Oo 13 (.un .not (.tmp 12)),Mv 14 13,Of 15 14 (mt 1),Of 16 14 (.call (.func 82) [(.tmp 15),(Ci 1),(Ci 12)]),Of 17 14 (.un .not (.tmp 16)),Oo 18 (.pick (.tmp 14) (.const (.bool true)) (.tmp 17))] (Cd 18 (Sr [Oo 19 (.build [(iv 0),(iv 0),(iv 0)] []),⟨none,none,(.store 3 (.tmp 6) (.tmp 19))⟩,Mc 7 3] .ret) .skip)) (.seq (Sr [Fa 20 0 5,Ld 21 20,Cl 22 82 [(.tmp 21),(Ci 1),(Ci 4)],Oo 23 (.un .not (.tmp 22))] (Cd 23 (Sr [Oo 24 (.build [(iv 0),(iv 0),(iv 0)] []),⟨none,none,(.store 3 (.tmp 6) (.tmp 24))⟩,Mc 7 7] .ret) .skip)) (.seq (Sr [Fa 25 1 5,Ld 26 25,Cl 27 82 [(.tmp 26),(Ci 0),(Ci 6)],Oo 28 (.un .not (.tmp 27)),Mv 29 28,Of 30 29 (.fa 0 (.tmp 5)),Of 31 29 (.load false 1 (.tmp 30)),Of 32 29 (.bin .eql (.tmp 31) (Ci 1)),Of 33 29 (mt 32),Ot 34 33 (.fa 1 (.tmp 5)),Ot 35 33 (.load false 1 (.tmp 34)),Ot 36 33 (.bin .neq (.tmp 35) (Ci 0)),Of 37 29 (.pick (.tmp 33) (.tmp 36) (.const (.bool false))),Oo 38 (.pick (.tmp 29) (.const (.bool true)) (.tmp 37))] (Cd 38 (Sr [Oo 39 (.build [(iv 0),(iv 0),(iv 0)] []),⟨none,none,(.store 3 (.tmp 6) (.tmp 39))⟩,Mc 7 3] .ret) .skip)) (Sr [Mv 40 0,Mv 41 1,Cl 42 92 [(.tmp 40),(.tmp 41)],Mv 8 42] (.seq (Sr [Fa 43 0 5,Ld 44 43,Bc 45 .eql 44 2,Mv 46 45,Ot 47 46 (.fa 2 (.tmp 5)),Ot 48 46 (.load false 1 (.tmp 47)),Ot 49 46 (.bin .neq (.tmp 48) (Ci 0)),Oo 50 (.pick (.tmp 46) (.tmp 49) (.const (.bool false))),Mv 51 50,Of 52 51 (.fa 0 (.tmp 5)),Of 53 51 (.load false 1 (.tmp 52)),Of 54 51 (.bin .neq (.tmp 53) (Ci 2)),Of 55 51 (mt 54),Ot 56 55 (.fa 2 (.tmp 5)),Ot 57 55 (.load false 1 (.tmp 56)),Ot 58 55 (mt 8),Ot 59 55 (.call (.func 82) [(.tmp 57),(Ci 1),(.tmp 58)]),Ot 60 55 (.un .not (.tmp 59)),Of 61 51 (.pick (.tmp 55) (.tmp 60) (.const (.bool false))),Oo 62 (.pick (.tmp 51) (.const (.bool true)) (.tmp 61))] (Cd 62 (Sr [Oo 63 (.build [(iv 0),(iv 0),(iv 0)] []),⟨none,none,(.store 3 (.tmp 6) (.tmp 63))⟩,Mc 7 3] .ret) .skip)) (Sr [Mv 64 0,Mv 65 1,Oo 66 (.build [(iv 0),(iv 0),(iv 0)] [(0,(1,(.tmp 64))),(1,(1,(.tmp 65))),(2,(1,(Ci 1)))]),Cl 67 93 [(.tmp 66)],Bc 68 .sub 67 1,Mv 9 68] (.seq (Sr [Fa 69 0 5,Ld 70 69] (.block 0 (Sr [Bc 76 .eql 70 1,Mv 75 76] (Cd 75 (.reg [Mv 77 9,Fa 78 2 5,Ld 79 78,Bn 80 .add 77 79,Mv 9 80]) (Sr [Bc 82 .eql 70 2,Mv 81 82] (Cd 81 (.reg [Mv 83 9,Mv 84 8,Bn 85 .add 83 84,Mv 9 85]) (.reg [Mv 71 9,Fa 72 2 5,Ld 73 72,Bn 74 .add 71 73,Mv 9 74]))))))) (.seq (Sr [Mc 10 0] (.block 1 (.loop (.seq (Sd [Mv 86 10,Bc 87 .lss 86 7,Mv 88 87,Ot 89 88 (.fa 0 (.tmp 5)),Ot 90 88 (.load false 1 (.tmp 89)),Ot 91 88 (.bin .gtr (.tmp 90) (Ci 1)),Oo 92 (.pick (.tmp 88) (.tmp 91) (.const (.bool false))),Mv 93 92,Ot 94 93 (mt 9),Ot 95 93 (.call (.func 94) [(.tmp 94)]),Ot 96 93 (.fa 1 (.tmp 5)),Ot 97 93 (.load false 1 (.tmp 96)),Ot 98 93 (.bin .neq (.tmp 95) (.tmp 97)),Oo 99 (.pick (.tmp 93) (.tmp 98) (.const (.bool false)))] (Cd 99 .skip (.exit 1))) (.seq (.block 2 (Sr [Fa 102 0 5,Ld 103 102,Bc 104 .eql 103 3] (Cd 104 (.reg [Mv 105 9,Bc 106 .add 105 1,Mv 9 106]) (.reg [Mv 107 9,Bc 108 .sub 107 1,Mv 9 108])))) (.reg [Mv 100 10,Bc 101 .add 100 1,Mv 10 101])))))) (.seq (Sr [Mv 109 9,Cl 110 95 [],Cl 111 96 [],Cl 112 82 [(.tmp 109),(.tmp 110),(.tmp 111)],Oo 113 (.un .not (.tmp 112))] (Cd 113 (Sr [Oo 114 (.build [(iv 0),(iv 0),(iv 0)] []),⟨none,none,(.store 3 (.tmp 6) (.tmp 114))⟩,Mc 7 3] .ret) .skip)) (Sr [Mv 115 9,Cl 116 97 [(.tmp 115)],⟨none,none,(.store 3 (.tmp 6) (.tmp 116))⟩,Mc 7 0] .ret)))))))))))
theorem k87:ZaO Try.prog 87=some ⟨c87,[(.cell 6 true 3),(.tmp 7)],117⟩:=by kernel_rfl
namespace Civ
def fwd (n k:Int):Int:=n+(k-wd n)%7
def bwd (n k:Int):Int:=n-(wd n-k)%7
theorem ZlT {n k j:Int}(h0:0≤j) (h1:j≤(k-wd n)%7) (hk:0≤k∧k≤6):wd (n+j)=k↔j=(k-wd n)%7:=by unfold wd at *;omega
theorem ZlU {n k j:Int}(h0:0≤j) (h1:j≤(wd n-k)%7) (hk:0≤k∧k≤6):wd (n-j)=k↔j=(wd n-k)%7:=by unfold wd at *;omega
def Zbs (y m kind wk n:Int):Int :=
 if ¬(1≤y∧y≤9999)∨¬(1≤m∧m≤12) then 3
 else if ¬(1≤kind∧kind≤4) then 7
 else if ¬(0≤wk∧wk≤6)∨kind=1∧wk≠0 then 3
 else if kind=2∧n≠0∨kind≠2∧¬(1≤n∧n≤mlen y m) then 3
 else 0
def ZcF (y m kind wk n:Int):Int :=
 if kind=2 then bwd (num y m (mlen y m)) wk else if kind=3 then fwd (num y m n) wk else if kind=4 then bwd (num y m n) wk else num y m n
def onV (y m kind wk n:Int):(Int×Int×Int)×Int :=
 if Zbs y m kind wk n≠0 then ((0,0,0),Zbs y m kind wk n)
 else if -719162≤ZcF y m kind wk n∧ZcF y m kind wk n≤2932896 then (Zbp (ZcF y m kind wk n),0) else ((0,0,0),3)
theorem formE_bd (y m kind wk n:Int):0≤Zbs y m kind wk n∧Zbs y m kind wk n≤7:=by
 unfold Zbs;repeat' split
 all_goals omega
theorem Zg3 {y m kind wk n k:Int}(h:Zbs y m kind wk n=k) (hk:k≠0):onV y m kind wk n=((0,0,0),k):=by
 unfold onV;rw[h,if_pos hk]
theorem Zge {y m kind wk n k:Int}(h:Zbs y m kind wk n=0) (hk:ZcF y m kind wk n=k):onV y m kind wk n=if -719162≤k∧k≤2932896 then (Zbp k,0) else ((0,0,0),3):=by
 unfold onV;rw[h,if_neg (by simp),hk]
theorem Zlf (y m d:Int):num y m d=num y m 1+d-1:=by unfold num;omega
theorem ZhZ {y m:Int}(hy:1≤y∧y≤20000) (hm:1≤m∧m≤12) : -8000000≤num y m 1∧num y m 1≤8000000:=by
 have:=bef_bd hy.1 hy.2
 have:=Zi8 (y:=y) (m:=m) hm.1 om
 unfold num;omega
theorem num_ref1 {y m d:Int}(hm:3≤m) (hm2:m≤12):y/400*146097+y%400*365+y%400/4-y%400/100+(153*(m-3)+2)/5+d-1-719468=num y m d:=by
 have:=lp_iff y
 unfold num cum bef;rw[if_neg om,this];split <;> omega
theorem num_ref2 {y m d:Int}(hm:1≤m) (hm2:m<3):(y-1)/400*146097+(y-1)%400*365+(y-1)%400/4-(y-1)%400/100+(153*(m-3+12)+2)/5+d-1-719468=num y m d:=by
 unfold num cum bef;rw[if_pos om];omega
theorem ZmE (y:Int):num y 1 1=bef y-719162:=by unfold num;rw[Zm9];omega
theorem Zh5 {y m k wk n:Int}(h:Zbs y m k wk n=0):(1≤y∧y≤9999)∧(1≤m∧m≤12)∧(1≤k∧k≤4)∧(0≤wk∧wk≤6)∧(k=1→wk=0)∧(k=2→n=0)∧(k≠2→1≤n∧n≤mlen y m):=by
 unfold Zbs at h
 repeat' split at h
 all_goals omega
end Civ
theorem Zit {n:Int}{h:AH}:Ac 69 [iv n] h (iv (wd n)):=by
 have hb1 : -6≤n.tmod 7∧n.tmod 7≤6:=by rw[Zk2];split <;> omega
 have hb2 : -6≤(n.tmod 7+4).tmod 7∧(n.tmod 7+4).tmod 7≤6:=by rw[Zk2];split <;> omega
 refine tI' k69 fun N hn hlt hlA hbd=>?_
 simp only[tb'] at hbd ⊢
 refine wr'<|mw<|sn'<|wr'<|mw<|?_
 refine V' (Zke lk lki om) pt ?_
 refine V' (Zau lk lki om om) pt ?_
 refine V' (Zke lk lki om) pt ?_
 refine V' (Zau lk lki om om) pt ?_
 refine V' (Zke lk lki om) pt ?_
 refine mw<|sn'<|Zaa<|Zai rz<|rT'<|?_
 exact ivx (wd_go n)
theorem toward_f {n k:Int}{h:AH}(h0 : -100000000≤n) (h1:n≤100000000) (hk:0≤k∧k≤6):Ac 35 [iv n,iv k,iv 1] h (iv (fwd n k)):=by
 refine tI' k35 fun N hn hlt hlA hbd=>?_
 simp only[tb'] at hbd ⊢
 refine wr'<|mw<|sn'<|Zan<|Zao<|?_
 refine Ziu (ι:=Nat) (fun (j:Nat)=>[(0,iv (n+j))]++rn' 7 7) (fun (j:Nat)=>[]) (fun (j:Nat)=>(j:Int)≤(k-wd n)%7) (fun (j:Nat)=>7-j) (0) (by have:=wd_bd n;omega) (by try simp only[sm',Nat.reduceAdd];exact ALe.same (by repeat (first | exact wk0 | refine wka ?_ | refine wk1 rfl ?_ | refine wk1 (by first | rfl | exact ivx (by simp)) ?_)) rfl) ?_
 rintro j hi1
 try simp only[sm',Nat.reduceAdd]
 have hwf:=ZlT (n:=n) (k:=k) (j:=j) om hi1 hk
 refine Zan<|wr'<|mw<|Zak mp (Zit) pt<|mw<|Vw (Za1 lk lk)<|sn'<|?_
 refine cd' lk (fun hc1=>?_) (fun hc1=>?_)
 ·have hj:¬(j:Int)=(k-wd n)%7:=fun e=>hc1 (hwf.2 e)
  refine Zaf<|Zah<|Zao<|Zar<|mw<|mw<|?_
  refine V' (Zau lk lk om om) pt ?_
  refine mw<|Zaq<|ZaC<|ZaB<|?_
  refine lU' (j+1) (by (try dsimp only);omega) (by (try dsimp only);(try simp only[sm',Nat.reduceAdd]);exact ALe.same (by repeat (first | exact wk0 | refine wka ?_ | refine wk1 rfl ?_ | refine wk1 (by first | rfl | exact ivx om) ?_)) rfl)
 have hj:=hwf.1 (Decidable.of_not_not hc1)
 refine ZaX<|ZaN<|ZaN<|Zbq<|Zah<|wr'<|mw<|mw<|sn'<|Zaa<|Zai rz<|rT'<|?_
 refine ivx ?_;unfold fwd;omega
theorem Zkk {n k:Int}{h:AH}(h0 : -100000000≤n) (h1:n≤100000000) (hk:0≤k∧k≤6):Ac 35 [iv n,iv k,iv (-1)] h (iv (bwd n k)):=by
 refine tI' k35 fun N hn hlt hlA hbd=>?_
 simp only[tb'] at hbd ⊢
 refine wr'<|mw<|sn'<|Zan<|Zao<|?_
 refine Ziu (ι:=Nat) (fun (j:Nat)=>[(0,iv (n-j))]++rn' 7 7) (fun (j:Nat)=>[]) (fun (j:Nat)=>(j:Int)≤(wd n-k)%7) (fun (j:Nat)=>7-j) (0) (by have:=wd_bd n;omega) (by try simp only[sm',Nat.reduceAdd];exact ALe.same (by repeat (first | exact wk0 | refine wka ?_ | refine wk1 rfl ?_ | refine wk1 (by first | rfl | exact ivx (by simp)) ?_)) rfl) ?_
 rintro j hi1
 try simp only[sm',Nat.reduceAdd]
 have hwf:=ZlU (n:=n) (k:=k) (j:=j) om hi1 hk
 refine Zan<|wr'<|mw<|Zak mp (Zit) pt<|mw<|Vw (Za1 lk lk)<|sn'<|?_
 refine cd' lk (fun hc1=>?_) (fun hc1=>?_)
 ·have hj:¬(j:Int)=(wd n-k)%7:=fun e=>hc1 (hwf.2 e)
  refine Zaf<|Zah<|Zao<|Zar<|mw<|mw<|?_
  refine V' (Zau lk lk om om) pt ?_
  refine mw<|Zaq<|ZaC<|ZaB<|?_
  refine lU' (j+1) (by (try dsimp only);omega) (by (try dsimp only);(try simp only[sm',Nat.reduceAdd]);exact ALe.same (by repeat (first | exact wk0 | refine wka ?_ | refine wk1 rfl ?_ | refine wk1 (by first | rfl | exact ivx om) ?_)) rfl)
 have hj:=hwf.1 (Decidable.of_not_not hc1)
 refine ZaX<|ZaN<|ZaN<|Zbq<|Zah<|wr'<|mw<|mw<|sn'<|Zaa<|Zai rz<|rT'<|?_
 refine ivx ?_;unfold bwd;omega
theorem Zbn {n a b:Int}:wi n a b=true↔a≤n∧n≤b:=by unfold wi;simp
theorem ZbK {n a b:Int}:wi n a b=false↔¬(a≤n∧n≤b):=by rw[←Zbn];simp
theorem form_a {y m k wk n:Int}{h:AH}:Ac 34 [iv y,iv m,.agg [iv k,iv wk,iv n]] h (iv (Zbs y m k wk n)):=by
 refine tI' k34 fun N hn hlt hlA hbd=>?_
 simp only[tb'] at hbd ⊢
 refine wr'<|E' (ZdO cv rfl (hl0 hn) ha0) pt<|mw<|sn'<|Zan<|Zao<|wr'<|mw<|Zak mp (Zcn) pt<|Vw (Zav lk)<|mw<|?_
 refine ZaI (t:=11) gt pt pt (fun hg11=>?_) (fun hg11=>?_)
 ·refine s_no gt pt<|s_no gt pt<|s_no gt pt<|Vw (Zag lk lkb)<|mw<|sn'<|ZaH lk<|wr'<|mw<|sn'<|Zaa<|?_
  refine Zap<|Zal<|Zai rz<|rT'<|?_
  refine ivx ?_;unfold Zbs;simp only[Bool.not_eq_true',Bool.not_eq_false',Zbn,ZbK,decide_eq_true_eq,decide_eq_false_iff_not] at *;repeat' split
  all_goals omega
 refine s_do gt<|mw<|s_do gt<|Zak mp (Zcn) pt<|s_do gt<|Vw (Zav lk)<|Vw (Zab lk lk)<|mw<|sn'<|?_
 refine Zaz lk (fun hc1=>?_) (fun hc1=>?_)
 ·refine wr'<|mw<|sn'<|Zaa<|Zap<|Zal<|Zai rz<|rT'<|?_
  refine ivx ?_;unfold Zbs;simp only[Bool.not_eq_true',Bool.not_eq_false',Zbn,ZbK,decide_eq_true_eq,decide_eq_false_iff_not] at *;repeat' split
  all_goals omega
 refine wr'<|Vw (Zac lk)<|Vw (Zae lk gx gt0)<|Zak mp (Zcn) pt<|Vw (Zav lk)<|mw<|sn'<|?_
 refine Zaz lk (fun hc2=>?_) (fun hc2=>?_)
 ·refine wr'<|mw<|sn'<|Zaa<|Zap<|Zal<|Zai rz<|rT'<|?_
  refine ivx ?_;unfold Zbs;simp only[Bool.not_eq_true',Bool.not_eq_false',Zbn,ZbK,decide_eq_true_eq,decide_eq_false_iff_not] at *;repeat' split
  all_goals omega
 refine wr'<|Vw (Zac lk)<|Vw (Zae lk gx gt1)<|Zak mp (Zcn) pt<|Vw (Zav lk)<|mw<|?_
 refine ZaI (t:=26) gt pt pt (fun hg26=>?_) (fun hg26=>?_)
 ·refine s_no gt pt<|s_no gt pt<|s_no gt pt<|s_no gt pt<|s_nu gt pt<|s_nu gt pt<|s_nu gt pt<|s_no gt pt<|Vw (Zag lk lkb)<|mw<|sn'<|ZaH lk<|Zan<|?_
  refine Zar<|mw<|sn'<|Zaa<|Zap<|Zal<|Zai rz<|rT'<|?_
  refine ivx ?_;unfold Zbs;simp only[Bool.not_eq_true',Bool.not_eq_false',Zbn,ZbK,decide_eq_true_eq,decide_eq_false_iff_not] at *;repeat' split
  all_goals omega
 refine s_do gt<|Vw (Zac lk)<|s_do gt<|Vw (Zae lk gx gt0)<|s_do gt<|Vw (ZaS lk lki)<|s_do gt<|mw<|?_
 refine sp' (t:=30) gt pt pt (fun hg30=>?_) (fun hg30=>?_)
 ·refine s_do gt<|Vw (Zac lk)<|s_do gt<|Vw (Zae lk gx gt1)<|s_do gt<|Vw (Za1 lk lki)<|s_do gt<|Vw (Zag lk lk)<|Vw (Zab lk lk)<|mw<|sn'<|?_
  refine cd' lk (fun hc3=>?_) (fun hc3=>?_)
  ·refine wr'<|mw<|sn'<|Zaa<|Zap<|Zal<|Zai rz<|rT'<|?_
   refine ivx ?_;unfold Zbs;simp only[Bool.not_eq_true',Bool.not_eq_false',Zbn,ZbK,decide_eq_true_eq,decide_eq_false_iff_not] at *;repeat' split
   all_goals omega
  refine Zan<|Zcg<|Dw (Zac lk)<|Dw (Zae lk gx gt0)<|Dw (ZaS lk lki)<|Dw (v_mv lk)<|?_
  refine dq' (t:=40) gt pt pt (fun hg40=>?_) (fun hg40=>?_)
  ·refine d_do gt<|Dw (Zac lk)<|d_do gt<|Dw (Zae lk gx gt2)<|d_do gt<|Dw (Za1 lk lki)<|Dw (Zag lk lk)<|Dw (v_mv lk)<|?_
   refine dq' (t:=45) gt pt pt (fun hg45=>?_) (fun hg45=>?_)
   ·refine d_no gt pt<|d_no gt pt<|d_no gt pt<|d_no gt pt<|d_nu gt pt<|d_nu gt pt<|d_nu gt pt<|d_nu gt pt<|d_nu gt pt<|d_nu gt pt<|d_nu gt pt<|d_no gt pt<|Dw (Zag lk lkb)<|Dw (v_mv lk)<|?_
    refine ZbB ?_
    refine ZbS ?_
    refine sn'<|ZaH lk<|wr'<|mw<|sn'<|Zaa<|Zap<|Zal<|Zai rz<|rT'<|?_
    refine ivx ?_;unfold Zbs;simp only[Bool.not_eq_true',Bool.not_eq_false',Zbn,ZbK,decide_eq_true_eq,decide_eq_false_iff_not] at *;repeat' split
    all_goals omega
   refine d_do gt<|Dw (Zac lk)<|d_do gt<|Dw (Zae lk gx gt0)<|d_do gt<|Dw (Za1 lk lki)<|d_do gt<|Dw (v_mv lk)<|?_
   refine dq' (t:=49) gt pt pt (fun hg49=>?_) (fun hg49=>?_)
   ·refine d_do gt<|Dw (Zac lk)<|d_do gt<|Dw (Zae lk gx gt2)<|d_do gt<|Dw (v_mv lk)<|d_do gt<|Dw (v_mv lk)<|d_do gt<|?_
    have hym:(1≤y∧y≤9999)∧(1≤m∧m≤12):=by simp only[Bool.not_eq_true',Bool.not_eq_false',Zbn,ZbK] at *;omega
    refine Zbw mp (fun hE hX=>Zc2 om om hym.2.1 hym.2.2) pt ?_
    refine d_do gt ?_
    refine Zbw mp (fun hE hX=>Zcn) pt ?_
    refine d_do gt<|Dw (Zav lk)<|d_do gt<|Dw (Zag lk lk)<|Dw (Zab lk lk)<|Dw (v_mv lk)<|ZbB<|?_
    refine ZbS ?_
    refine sn' ?_
    refine Zaz lk (fun hc4=>?_) (fun hc4=>?_)
    ·refine wr'<|mw<|sn'<|Zaa<|Zap<|Zal<|Zai rz<|rT'<|?_
     refine ivx ?_;unfold Zbs;simp only[Bool.not_eq_true',Bool.not_eq_false',Zbn,ZbK,decide_eq_true_eq,decide_eq_false_iff_not] at *;repeat' split
     all_goals omega
    refine Zaf<|ZaC<|Zah<|wr'<|mw<|sn'<|Zaa<|Zai rz<|rT'<|?_
    refine ivx ?_;unfold Zbs;simp only[Bool.not_eq_true',Bool.not_eq_false',Zbn,ZbK,decide_eq_true_eq,decide_eq_false_iff_not] at *;repeat' split
    all_goals omega
   refine d_no gt pt<|d_no gt pt<|d_no gt pt<|d_no gt pt<|d_no gt pt<|d_no gt pt<|d_no gt pt<|d_do gt<|Dw (Zab lk lkb)<|Dw (Zab lk lk)<|Dw (v_mv lk)<|ZbB<|?_
   refine ZbS ?_
   refine sn'<|ZaG lk<|Zaf<|ZaC<|Zah<|wr'<|mw<|sn'<|Zaa<|Zai rz<|rT'<|?_
   refine ivx ?_;unfold Zbs;simp only[Bool.not_eq_true',Bool.not_eq_false',Zbn,ZbK,decide_eq_true_eq,decide_eq_false_iff_not] at *;repeat' split
   all_goals omega
  refine d_no gt pt<|d_no gt pt<|d_no gt pt<|Dw (Zab lk lkb)<|Dw (v_mv lk)<|d_do gt<|Dw (Zac lk)<|d_do gt<|Dw (Zae lk gx gt0)<|d_do gt<|Dw (Za1 lk lki)<|d_do gt<|Dw (v_mv lk)<|?_
  refine dq' (t:=49) gt pt pt (fun hg49=>?_) (fun hg49=>?_)
  ·refine d_do gt<|Dw (Zac lk)<|d_do gt<|Dw (Zae lk gx gt2)<|d_do gt<|Dw (v_mv lk)<|d_do gt<|Dw (v_mv lk)<|d_do gt<|?_
   have hym:(1≤y∧y≤9999)∧(1≤m∧m≤12):=by simp only[Bool.not_eq_true',Bool.not_eq_false',Zbn,ZbK] at *;omega
   refine Zbw mp (fun hE hX=>Zc2 om om hym.2.1 hym.2.2) pt ?_
   refine d_do gt ?_
   refine Zbw mp (fun hE hX=>Zcn) pt ?_
   refine d_do gt<|Dw (Zav lk)<|d_do gt<|Dw (Zag lk lk)<|Dw (Zab lk lk)<|Dw (v_mv lk)<|ZbB<|?_
   refine ZbS ?_
   refine sn' ?_
   refine Zaz lk (fun hc4=>?_) (fun hc4=>?_)
   ·refine wr'<|mw<|sn'<|Zaa<|Zap<|Zal<|Zai rz<|rT'<|?_
    refine ivx ?_;unfold Zbs;simp only[Bool.not_eq_true',Bool.not_eq_false',Zbn,ZbK,decide_eq_true_eq,decide_eq_false_iff_not] at *;repeat' split
    all_goals omega
   refine Zaf<|ZaC<|Zah<|wr'<|mw<|sn'<|Zaa<|Zai rz<|rT'<|?_
   refine ivx ?_;unfold Zbs;simp only[Bool.not_eq_true',Bool.not_eq_false',Zbn,ZbK,decide_eq_true_eq,decide_eq_false_iff_not] at *;repeat' split
   all_goals omega
  refine d_no gt pt<|d_no gt pt<|d_no gt pt<|d_no gt pt<|d_no gt pt<|d_no gt pt<|d_no gt pt<|d_do gt<|Dw (Zab lk lkb)<|Dw (Zab lk lk)<|Dw (v_mv lk)<|ZbB<|?_
  refine ZbS ?_
  refine sn'<|ZaG lk<|Zaf<|ZaC<|Zah<|wr'<|mw<|sn'<|Zaa<|Zai rz<|rT'<|?_
  refine ivx ?_;unfold Zbs;simp only[Bool.not_eq_true',Bool.not_eq_false',Zbn,ZbK,decide_eq_true_eq,decide_eq_false_iff_not] at *;repeat' split
  all_goals omega
 refine s_no gt pt<|s_no gt pt<|s_no gt pt<|s_do gt<|Vw (Zab lk lkb)<|Vw (Zab lk lk)<|mw<|sn'<|ZaG lk<|Zan<|Zcg<|Dw (Zac lk)<|Dw (Zae lk gx gt0)<|?_
 refine Dw (ZaS lk lki)<|Dw (v_mv lk)<|?_
 refine dq' (t:=40) gt pt pt (fun hg40=>?_) (fun hg40=>?_)
 ·refine d_do gt<|Dw (Zac lk)<|d_do gt<|Dw (Zae lk gx gt2)<|d_do gt<|Dw (Za1 lk lki)<|Dw (Zag lk lk)<|Dw (v_mv lk)<|?_
  refine dq' (t:=45) gt pt pt (fun hg45=>?_) (fun hg45=>?_)
  ·refine d_no gt pt<|d_no gt pt<|d_no gt pt<|d_no gt pt<|d_nu gt pt<|d_nu gt pt<|d_nu gt pt<|d_nu gt pt<|d_nu gt pt<|d_nu gt pt<|d_nu gt pt<|d_no gt pt<|Dw (Zag lk lkb)<|Dw (v_mv lk)<|?_
   refine ZbB ?_
   refine ZbS ?_
   refine sn'<|ZaH lk<|wr'<|mw<|sn'<|Zaa<|Zap<|Zal<|Zai rz<|rT'<|?_
   refine ivx ?_;unfold Zbs;simp only[Bool.not_eq_true',Bool.not_eq_false',Zbn,ZbK,decide_eq_true_eq,decide_eq_false_iff_not] at *;repeat' split
   all_goals omega
  refine d_do gt<|Dw (Zac lk)<|d_do gt<|Dw (Zae lk gx gt0)<|d_do gt<|Dw (Za1 lk lki)<|d_do gt<|Dw (v_mv lk)<|?_
  refine dq' (t:=49) gt pt pt (fun hg49=>?_) (fun hg49=>?_)
  ·refine d_do gt<|Dw (Zac lk)<|d_do gt<|Dw (Zae lk gx gt2)<|d_do gt<|Dw (v_mv lk)<|d_do gt<|Dw (v_mv lk)<|d_do gt<|?_
   have hym:(1≤y∧y≤9999)∧(1≤m∧m≤12):=by simp only[Bool.not_eq_true',Bool.not_eq_false',Zbn,ZbK] at *;omega
   refine Zbw mp (fun hE hX=>Zc2 om om hym.2.1 hym.2.2) pt ?_
   refine d_do gt ?_
   refine Zbw mp (fun hE hX=>Zcn) pt ?_
   refine d_do gt<|Dw (Zav lk)<|d_do gt<|Dw (Zag lk lk)<|Dw (Zab lk lk)<|Dw (v_mv lk)<|ZbB<|?_
   refine ZbS ?_
   refine sn' ?_
   refine Zaz lk (fun hc4=>?_) (fun hc4=>?_)
   ·refine wr'<|mw<|sn'<|Zaa<|Zap<|Zal<|Zai rz<|rT'<|?_
    refine ivx ?_;unfold Zbs;simp only[Bool.not_eq_true',Bool.not_eq_false',Zbn,ZbK,decide_eq_true_eq,decide_eq_false_iff_not] at *;repeat' split
    all_goals omega
   refine Zaf<|ZaC<|Zah<|wr'<|mw<|sn'<|Zaa<|Zai rz<|rT'<|?_
   refine ivx ?_;unfold Zbs;simp only[Bool.not_eq_true',Bool.not_eq_false',Zbn,ZbK,decide_eq_true_eq,decide_eq_false_iff_not] at *;repeat' split
   all_goals omega
  refine d_no gt pt<|d_no gt pt<|d_no gt pt<|d_no gt pt<|d_no gt pt<|d_no gt pt<|d_no gt pt<|d_do gt<|Dw (Zab lk lkb)<|Dw (Zab lk lk)<|Dw (v_mv lk)<|ZbB<|?_
  refine ZbS ?_
  refine sn'<|ZaG lk<|Zaf<|ZaC<|Zah<|wr'<|mw<|sn'<|Zaa<|Zai rz<|rT'<|?_
  refine ivx ?_;unfold Zbs;simp only[Bool.not_eq_true',Bool.not_eq_false',Zbn,ZbK,decide_eq_true_eq,decide_eq_false_iff_not] at *;repeat' split
  all_goals omega
 refine d_no gt pt<|d_no gt pt<|d_no gt pt<|Dw (Zab lk lkb)<|Dw (v_mv lk)<|d_do gt<|Dw (Zac lk)<|d_do gt<|Dw (Zae lk gx gt0)<|d_do gt<|Dw (Za1 lk lki)<|d_do gt<|Dw (v_mv lk)<|?_
 refine dq' (t:=49) gt pt pt (fun hg49=>?_) (fun hg49=>?_)
 ·refine d_do gt<|Dw (Zac lk)<|d_do gt<|Dw (Zae lk gx gt2)<|d_do gt<|Dw (v_mv lk)<|d_do gt<|Dw (v_mv lk)<|d_do gt<|?_
  have hym:(1≤y∧y≤9999)∧(1≤m∧m≤12):=by simp only[Bool.not_eq_true',Bool.not_eq_false',Zbn,ZbK] at *;omega
  refine Zbw mp (fun hE hX=>Zc2 om om hym.2.1 hym.2.2) pt ?_
  refine d_do gt ?_
  refine Zbw mp (fun hE hX=>Zcn) pt ?_
  refine d_do gt<|Dw (Zav lk)<|d_do gt<|Dw (Zag lk lk)<|Dw (Zab lk lk)<|Dw (v_mv lk)<|ZbB<|?_
  refine ZbS ?_
  refine sn' ?_
  refine Zaz lk (fun hc4=>?_) (fun hc4=>?_)
  ·refine wr'<|mw<|sn'<|Zaa<|Zap<|Zal<|Zai rz<|rT'<|?_
   refine ivx ?_;unfold Zbs;simp only[Bool.not_eq_true',Bool.not_eq_false',Zbn,ZbK,decide_eq_true_eq,decide_eq_false_iff_not] at *;repeat' split
   all_goals omega
  refine Zaf<|ZaC<|Zah<|wr'<|mw<|sn'<|Zaa<|Zai rz<|rT'<|?_
  refine ivx ?_;unfold Zbs;simp only[Bool.not_eq_true',Bool.not_eq_false',Zbn,ZbK,decide_eq_true_eq,decide_eq_false_iff_not] at *;repeat' split
  all_goals omega
 refine d_no gt pt<|d_no gt pt<|d_no gt pt<|d_no gt pt<|d_no gt pt<|d_no gt pt<|d_no gt pt<|d_do gt<|Dw (Zab lk lkb)<|Dw (Zab lk lk)<|Dw (v_mv lk)<|ZbB<|?_
 refine ZbS ?_
 refine sn'<|ZaG lk<|Zaf<|ZaC<|Zah<|wr'<|mw<|sn'<|Zaa<|Zai rz<|rT'<|?_
 refine ivx ?_;unfold Zbs;simp only[Bool.not_eq_true',Bool.not_eq_false',Zbn,ZbK,decide_eq_true_eq,decide_eq_false_iff_not] at *;repeat' split
 all_goals omega
theorem on_a {y m k wk n:Int}{h:AH}:Ac 18 [iv y,iv m,.agg [iv k,iv wk,iv n]] h (.tup [.agg [iv (onV y m k wk n).1.1,iv (onV y m k wk n).1.2.1,iv (onV y m k wk n).1.2.2],iv (onV y m k wk n).2]):=by
 have hfb:=formE_bd y m k wk n
 refine tI' k18 fun N hn hlt hlA hbd=>?_
 simp only[tb'] at hbd ⊢
 refine wr'<|E' (ZdO cv rfl (hl0 hn) ha0) pt<|E' (ZbZ (hl1 hn) ha1) pt<|mw<|sn'<|Zan<|wr'<|mw<|mw<|Vw (ZaE lk gx ZaZ rfl)<|Zak mp (form_a) pt<|?_
 refine mw<|sn'<|wr'<|mw<|Vw (Za1 lk lki)<|sn'<|?_
 refine cd' lk (fun hc1=>?_) (fun hc1=>?_)
 ·have hv:=Zg3 (y:=y) (m:=m) (kind:=k) (wk:=wk) (n:=n) rfl hc1
  refine wr'<|Vw (Zax ZlQ)<|mw<|E' (Zam lk cv gx rfl (nb' rfl) rfl Zbb (hs1 hn)) ptn<|mw<|sn'<|Zaa<|Zal<|Zai (rsn (rm1 (rr_c gt gx (ld1 ZaZ rfl)) (rm1 (rr_t gt) rm0)))<|rT'<|?_
  rw[hv]
 have he:Zbs y m k wk n=0:=Decidable.of_not_not hc1
 obtain⟨hy,hm,hk,hw,hk1,hk2,hn3⟩:=Zh5 he
 have hnb:=ZhZ (y:=y) (m:=m) ⟨hy.1,by omega⟩ hm
 have hml:=ZdM y m
 have hn':0≤n∧n≤31:=by by_cases e:k=2 <;> simp_all <;> omega
 refine Zaf<|Zah<|wr'<|mw<|mw<|Vw (Zax (ZlP cv rfl cv rfl (cvl lki rfl) rfl))<|?_
 refine Zak mp (ZkD om om om om om om) pt ?_
 refine mw<|sn'<|wr'<|mw<|Vw (Zac lk)<|Vw (Zae lk gx gt2)<|?_
 refine V' (Zau lk lk om om) pt ?_
 refine V' (Zbi lk lki om om) pt ?_
 refine mw<|sn'<|Zan<|wr'<|Vw (Zac lk)<|Vw (Zae lk gx gt0)<|sn'<|Zao<|wr'<|Vw (ZaS lk lki)<|?_
 refine mw<|sn'<|?_
 refine cd' lk (fun hc2=>?_) (fun hc2=>?_)
 ·have hd:ZcF y m k wk n=bwd (num y m 1+mlen y m-1) wk:=by unfold ZcF;rw[if_pos hc2,Zlf y m (mlen y m)]
  refine Zcg<|Dw (v_mv lk)<|Dw (v_mv lk)<|Dw (v_mv lk)<|?_
  refine Zbw mp (fun hE hX=>Zc2 om om hm.1 hm.2) pt ?_
  refine D' (Zau lk lk om om) pt ?_
  refine D' (Zbi lk lki om om) pt ?_
  refine Dw (Zac lk)<|Dw (Zae lk gx gt1)<|?_
  refine Zbw mp (fun hE hX=>Zkk om om hw) pt ?_
  refine Dw (v_mv lk)<|ZbB<|?_
  refine ZbS ?_
  refine Zaq<|ZaC<|Zah<|wr'<|mw<|Zak mp (of_a) pt<|Vw (ZbJ lk gt)<|Vw (ZbJ lk gt)<|E' (Zam lk cv gx rfl (nb' rfl) rfl Zbb (hs1 hn)) ptn<|mw<|sn'<|Zaa<|?_
  refine Zai (rsn (rm1 (rr_c gt gx (ld1 ZaZ rfl)) (rm1 (rr_t gt) rm0)))<|rT'<|?_
  rw[Zge he hd];split <;> rfl
 refine wr'<|Vw (ZaS lk lki)<|mw<|sn'<|?_
 refine cd' lk (fun hc3=>?_) (fun hc3=>?_)
 ·have hd:ZcF y m k wk n=fwd (num y m 1+n-1) wk:=by unfold ZcF;rw[if_neg hc2,if_pos hc3,Zlf y m n]
  refine Zar<|mw<|Vw (Zac lk)<|Vw (Zae lk gx gt1)<|?_
  refine Zak mp (toward_f om om hw) pt ?_
  refine mw<|Zaq<|ZaC<|Zah<|wr'<|mw<|Zak mp (of_a) pt<|Vw (ZbJ lk gt)<|Vw (ZbJ lk gt)<|E' (Zam lk cv gx rfl (nb' rfl) rfl Zbb (hs1 hn)) ptn<|mw<|sn'<|?_
  refine Zaa<|Zai (rsn (rm1 (rr_c gt gx (ld1 ZaZ rfl)) (rm1 (rr_t gt) rm0)))<|rT'<|?_
  rw[Zge he hd];split <;> rfl
 refine wr'<|Vw (ZaS lk lki)<|mw<|sn'<|?_
 refine cd' lk (fun hc4=>?_) (fun hc4=>?_)
 ·have hd:ZcF y m k wk n=bwd (num y m 1+n-1) wk:=by unfold ZcF;rw[if_neg hc2,if_neg hc3,if_pos hc4,Zlf y m n]
  refine Zar<|mw<|Vw (Zac lk)<|Vw (Zae lk gx gt1)<|?_
  refine Zak mp (Zkk om om hw) pt ?_
  refine mw<|Zaq<|ZaC<|Zah<|wr'<|mw<|Zak mp (of_a) pt<|Vw (ZbJ lk gt)<|Vw (ZbJ lk gt)<|E' (Zam lk cv gx rfl (nb' rfl) rfl Zbb (hs1 hn)) ptn<|mw<|sn'<|?_
  refine Zaa<|Zai (rsn (rm1 (rr_c gt gx (ld1 ZaZ rfl)) (rm1 (rr_t gt) rm0)))<|rT'<|?_
  rw[Zge he hd];split <;> rfl
 have hd:ZcF y m k wk n=num y m 1+n-1:=by unfold ZcF;rw[if_neg hc2,if_neg hc3,if_neg hc4,Zlf y m n]
 refine Zaf<|ZaC<|Zah<|wr'<|mw<|Zak mp (of_a) pt<|Vw (ZbJ lk gt)<|Vw (ZbJ lk gt)<|E' (Zam lk cv gx rfl (nb' rfl) rfl Zbb (hs1 hn)) ptn<|mw<|sn'<|Zaa<|?_
 refine Zai (rsn (rm1 (rr_c gt gx (ld1 ZaZ rfl)) (rm1 (rr_t gt) rm0)))<|rT'<|?_
 rw[Zge he hd];split <;> rfl
theorem ZbF {n a b:Int}{h:AH}:Ac 82 [iv n,iv a,iv b] h (bv (wi n a b)):=ZaP
theorem ZeH {y:Int}{h:AH}(h0:0≤y):Ac 99 [iv y] h (bv (ZgM y)):=by
 refine tI' k99 fun N hn hlt hlA hbd=>?_
 simp only[tb'] at hbd ⊢
 refine wr'<|mw<|sn'<|wr'<|mw<|?_
 refine V' (Zex lk lki om om) pt ?_
 refine Vw (ZaS lk lki)<|mw<|?_
 refine sp' (t:=6) gt pt pt (fun hg6=>?_) (fun hg6=>?_)
 ·refine s_no gt pt<|s_no gt pt<|s_no gt pt<|s_no gt pt<|s_nu gt pt<|s_nu gt pt<|s_nu gt pt<|s_no gt pt<|Vw (Zag lk lkb)<|mw<|sn'<|Zaa<|Zai rz<|?_
  refine rT' ?_
  refine bvx ?_;unfold ZgM;rw[Bool.eq_iff_iff];simp at *;omega
 refine s_do gt<|mw<|s_do gt<|?_
 refine V' (Zex lk lki om om) pt ?_
 refine s_do gt<|Vw (ZaS lk lki)<|s_do gt<|mw<|?_
 refine sp' (t:=10) gt pt pt (fun hg10=>?_) (fun hg10=>?_)
 ·refine s_do gt<|mw<|s_do gt<|?_
  refine V' (Zex lk lki om om) pt ?_
  refine s_do gt<|Vw (Za1 lk lki)<|s_do gt<|Vw (Zag lk lk)<|Vw (Zab lk lk)<|mw<|sn'<|Zaa<|Zai rz<|rT'<|?_
  refine bvx ?_;unfold ZgM;rw[Bool.eq_iff_iff];simp at *;omega
 refine s_no gt pt<|s_no gt pt<|s_no gt pt<|s_do gt<|Vw (Zab lk lkb)<|Vw (Zab lk lk)<|mw<|sn'<|Zaa<|Zai rz<|rT'<|?_
 refine bvx ?_;unfold ZgM;rw[Bool.eq_iff_iff];simp at *;omega
theorem Zga {y m:Int}{h:AH}(h0:0≤y):Ac 92 [iv y,iv m] h (iv (mlen y m)):=by
 refine tI' k92 fun N hn hlt hlA hbd=>?_
 simp only[tb'] at hbd ⊢
 refine wr'<|mw<|sn'<|Zan<|wr'<|mw<|sn'<|Zao<|Zan<|Zan<|?_
 refine Zar<|Vw (ZaS lk lki)<|mw<|sn'<|?_
 refine cd' lk (fun hc1=>?_) (fun hc1=>?_)
 ·refine Zaf<|Zah<|?_
  refine cd' lk (fun hc4=>?_) (fun hc4=>?_)
  ·refine wr'<|mw<|sn'<|Zaa<|Zap<|Zal<|Zai rz<|rT'<|?_
   refine ivx ?_;unfold mlen lp;simp_all
  refine wr'<|Vw (ZaS lk lki)<|mw<|sn'<|?_
  refine cd' lk (fun hc5=>?_) (fun hc5=>?_)
  ·refine Zan<|wr'<|mw<|Zak mp (ZeH h0) pt<|sn'<|?_
   refine Zaz lk (fun hc6=>?_) (fun hc6=>?_)
   ·refine wr'<|mw<|sn'<|Zaa<|Zal<|Zap<|Zal<|Zai rz<|rT'<|?_
    refine ivx ?_;unfold mlen lp;simp_all
   refine Zaf<|Zah<|wr'<|mw<|sn'<|Zaa<|Zap<|Zal<|Zai rz<|rT'<|?_
   refine ivx ?_;unfold mlen lp;simp_all
  refine Zaf<|ZaC<|Zah<|wr'<|mw<|sn'<|Zaa<|Zai rz<|rT'<|?_
  refine ivx ?_;unfold mlen lp;simp_all
 refine wr'<|Vw (ZaS lk lki)<|mw<|sn'<|?_
 refine cd' lk (fun hc2=>?_) (fun hc2=>?_)
 ·refine Zaf<|Zah<|?_
  refine cd' lk (fun hc4=>?_) (fun hc4=>?_)
  ·refine wr'<|mw<|sn'<|Zaa<|Zap<|Zal<|Zai rz<|rT'<|?_
   refine ivx ?_;unfold mlen lp;simp_all
  refine wr'<|Vw (ZaS lk lki)<|mw<|sn'<|?_
  refine cd' lk (fun hc5=>?_) (fun hc5=>?_)
  ·refine Zan<|wr'<|mw<|Zak mp (ZeH h0) pt<|sn'<|?_
   refine Zaz lk (fun hc6=>?_) (fun hc6=>?_)
   ·refine wr'<|mw<|sn'<|Zaa<|Zal<|Zap<|Zal<|Zai rz<|rT'<|?_
    refine ivx ?_;unfold mlen lp;simp_all
   refine Zaf<|Zah<|wr'<|mw<|sn'<|Zaa<|Zap<|Zal<|Zai rz<|rT'<|?_
   refine ivx ?_;unfold mlen lp;simp_all
  refine Zaf<|ZaC<|Zah<|wr'<|mw<|sn'<|Zaa<|Zai rz<|rT'<|?_
  refine ivx ?_;unfold mlen lp;simp_all
 refine wr'<|Vw (ZaS lk lki)<|mw<|sn'<|?_
 refine cd' lk (fun hc3=>?_) (fun hc3=>?_)
 ·refine Zaf<|Zah<|?_
  refine cd' lk (fun hc4=>?_) (fun hc4=>?_)
  ·refine wr'<|mw<|sn'<|Zaa<|Zap<|Zal<|Zai rz<|rT'<|?_
   refine ivx ?_;unfold mlen lp;simp_all
  refine wr'<|Vw (ZaS lk lki)<|mw<|sn'<|?_
  refine cd' lk (fun hc5=>?_) (fun hc5=>?_)
  ·refine Zan<|wr'<|mw<|Zak mp (ZeH h0) pt<|sn'<|?_
   refine Zaz lk (fun hc6=>?_) (fun hc6=>?_)
   ·refine wr'<|mw<|sn'<|Zaa<|Zal<|Zap<|Zal<|Zai rz<|rT'<|?_
    refine ivx ?_;unfold mlen lp;simp_all
   refine Zaf<|Zah<|wr'<|mw<|sn'<|Zaa<|Zap<|Zal<|Zai rz<|rT'<|?_
   refine ivx ?_;unfold mlen lp;simp_all
  refine Zaf<|ZaC<|Zah<|wr'<|mw<|sn'<|Zaa<|Zai rz<|rT'<|?_
  refine ivx ?_;unfold mlen lp;simp_all
 refine Zar<|Vw (ZaS lk lki)<|mw<|sn'<|?_
 refine cd' lk (fun hc4=>?_) (fun hc4=>?_)
 ·refine wr'<|mw<|sn'<|Zaa<|Zap<|Zal<|Zai rz<|rT'<|?_
  refine ivx ?_;unfold mlen lp;simp_all
 refine wr'<|Vw (ZaS lk lki)<|mw<|sn'<|?_
 refine cd' lk (fun hc5=>?_) (fun hc5=>?_)
 ·refine Zan<|wr'<|mw<|Zak mp (ZeH h0) pt<|sn'<|?_
  refine Zaz lk (fun hc6=>?_) (fun hc6=>?_)
  ·refine wr'<|mw<|sn'<|Zaa<|Zal<|Zap<|Zal<|Zai rz<|rT'<|?_
   refine ivx ?_;unfold mlen lp;simp_all
  refine Zaf<|Zah<|wr'<|mw<|sn'<|Zaa<|Zap<|Zal<|Zai rz<|rT'<|?_
  refine ivx ?_;unfold mlen lp;simp_all
 refine Zaf<|ZaC<|Zah<|wr'<|mw<|sn'<|Zaa<|Zai rz<|rT'<|?_
 refine ivx ?_;unfold mlen lp;simp_all
theorem Zd2 {y m d:Int}{h:AH}:Ac 89 [.agg [iv y,iv m,iv d]] h (bv (ZbD y m d)):=by
 refine tI' k89 fun N hn hlt hlA hbd=>?_
 simp only[tb'] at hbd ⊢
 refine wr'<|E' (ZdO cv rfl (hl0 hn) ha0) pt<|mw<|sn'<|Zan<|Zcg<|Dw (Zac lk)<|Dw (Zae lk gx gt0)<|?_
 refine Zbw mp (fun hE hX=>ZbF) pt ?_
 refine D' (v_mv lk) pt ?_
 refine Zia (t:=6) gt pt pt (fun hg6=>?_) (fun hg6=>?_)
 ·refine d_do gt<|Dw (Zac lk)<|d_do gt<|Dw (Zae lk gx gt1)<|d_do gt<|?_
  refine Zbw mp (fun hE hX=>ZbF) pt ?_
  refine Dw (Zag lk lk)<|Dw (v_mv lk)<|?_
  refine Zia (t:=11) gt pt pt (fun hg11=>?_) (fun hg11=>?_)
  ·refine d_do gt<|Dw (Zac lk)<|d_do gt<|Dw (Zae lk gx gt2)<|d_do gt<|Dw (Zac lk)<|d_do gt<|Dw (Zae lk gx gt0)<|d_do gt<|Dw (Zac lk)<|d_do gt<|Dw (Zae lk gx gt1)<|d_do gt<|?_
   have hy:1≤y∧y≤9999:=by simp only[Zbn] at *;omega
   refine Zbw mp (fun hE hX=>Zga om) pt ?_
   refine d_do gt ?_
   refine Zbw mp (fun hE hX=>ZbF) pt ?_
   refine Dw (Zag lk lk)<|Dw (v_mv lk)<|ZbB<|?_
   refine ZbS ?_
   refine sn'<|Zaa<|Zai rz<|rT'<|?_
   refine bvx ?_;rw[show ZbD y m d=(wi y 1 9999&&(wi m 1 12&&wi d 1 (mlen y m))) from by unfold ZbD wi;simp[Bool.and_assoc]];simp_all
  refine d_no gt pt<|d_no gt pt<|d_no gt pt<|d_no gt pt<|d_no gt pt<|d_no gt pt<|d_no gt pt<|d_no gt pt<|Dw (Zab lk lkb)<|Dw (v_mv lk)<|ZbB<|?_
  refine ZbS ?_
  refine sn'<|Zaa<|Zai rz<|rT'<|?_
  refine bvx ?_;rw[show ZbD y m d=(wi y 1 9999&&(wi m 1 12&&wi d 1 (mlen y m))) from by unfold ZbD wi;simp[Bool.and_assoc]];simp_all
 refine d_no gt pt<|d_no gt pt<|d_no gt pt<|Dw (Zab lk lkb)<|Dw (v_mv lk)<|d_no gt pt<|d_no gt pt<|d_no gt pt<|d_no gt pt<|d_no gt pt<|d_no gt pt<|d_no gt pt<|d_no gt pt<|Dw (Zab lk lkb)<|?_
 refine Dw (v_mv lk)<|ZbB<|?_
 refine ZbS ?_
 refine sn'<|Zaa<|Zai rz<|rT'<|?_
 refine bvx ?_;rw[show ZbD y m d=(wi y 1 9999&&(wi m 1 12&&wi d 1 (mlen y m))) from by unfold ZbD wi;simp[Bool.and_assoc]];simp_all
theorem Zdg {y m d:Int}{h:AH}(y0:1≤y) (y1:y≤20000) (m0:1≤m) (m1:m≤12) (d0 : -1000≤d) (d1:d≤1000):Ac 93 [.agg [iv y,iv m,iv d]] h (iv (num y m d)):=by
 refine tI' k93 fun N hn hlt hlA hbd=>?_
 simp only[tb'] at hbd ⊢
 refine wr'<|E' (ZdO cv rfl (hl0 hn) ha0) pt<|mw<|sn'<|Zan<|Zcg<|Dw (Zac lk)<|Dw (Zae lk gx gt0)<|Dw (Zac lk)<|Dw (Zae lk gx gt1)<|?_
 refine D' (Zbi lk lki om om) pt ?_
 refine Dw (v_mv lk)<|Dw (v_mv lk)<|ZbB<|?_
 refine ZbS ?_
 refine sn'<|Zan<|wr'<|mw<|Vw (ZbP lk lki)<|sn'<|?_
 refine cd' lk (fun hc1=>?_) (fun hc1=>?_)
 ·refine wr'<|mw<|?_
  refine V' (Zbi lk lki om om) pt ?_
  refine mw<|sn'<|Zar<|mw<|?_
  refine V' (Zau lk lki om om) pt ?_
  refine mw<|sn'<|wr'<|mw<|?_
  refine V' (Zey lk lki om om om) pt ?_
  refine V' (Ze7 lk lki om om) pt ?_
  refine mv' lk pt ?_
  refine V' (Zex lk lki om om) pt ?_
  refine V' (Ze7 lk lki om om) pt ?_
  refine V' (Zau lk lk om om) pt ?_
  refine mv' lk pt ?_
  refine V' (Zex lk lki om om) pt ?_
  refine V' (Zey lk lki om om om) pt ?_
  refine V' (Zau lk lk om om) pt ?_
  refine mv' lk pt ?_
  refine V' (Zex lk lki om om) pt ?_
  refine V' (Zey lk lki om om om) pt ?_
  refine V' (Zbi lk lk om om) pt ?_
  refine mw<|sn'<|wr'<|mw<|mw<|?_
  refine V' (Ze7 lki lk om om) pt ?_
  refine V' (Zau lk lki om om) pt ?_
  refine V' (Zey lk lki om om om) pt ?_
  refine V' (Zau lk lk om om) pt ?_
  refine Vw (Zac lk)<|Vw (Zae lk gx gt2)<|?_
  refine V' (Zau lk lk om om) pt ?_
  refine V' (Zbi lk lki om om) pt ?_
  refine V' (Zbi lk lki om om) pt ?_
  refine mw<|sn'<|Zaa<|Zai rz<|rT'<|?_
  refine ivx ?_;rw[←num_ref2 m0 om]
 refine Zaf<|Zah<|wr'<|mw<|?_
 refine V' (Zey lk lki om om om) pt ?_
 refine V' (Ze7 lk lki om om) pt ?_
 refine mv' lk pt ?_
 refine V' (Zex lk lki om om) pt ?_
 refine V' (Ze7 lk lki om om) pt ?_
 refine V' (Zau lk lk om om) pt ?_
 refine mv' lk pt ?_
 refine V' (Zex lk lki om om) pt ?_
 refine V' (Zey lk lki om om om) pt ?_
 refine V' (Zau lk lk om om) pt ?_
 refine mv' lk pt ?_
 refine V' (Zex lk lki om om) pt ?_
 refine V' (Zey lk lki om om om) pt ?_
 refine V' (Zbi lk lk om om) pt ?_
 refine mw<|sn'<|wr'<|mw<|mw<|?_
 refine V' (Ze7 lki lk om om) pt ?_
 refine V' (Zau lk lki om om) pt ?_
 refine V' (Zey lk lki om om om) pt ?_
 refine V' (Zau lk lk om om) pt ?_
 refine Vw (Zac lk)<|Vw (Zae lk gx gt2)<|?_
 refine V' (Zau lk lk om om) pt ?_
 refine V' (Zbi lk lki om om) pt ?_
 refine V' (Zbi lk lki om om) pt ?_
 refine mw<|sn'<|Zaa<|Zai rz<|rT'<|?_
 refine ivx ?_;rw[←num_ref1 om m1]
theorem rfirst_a {h:AH}:Ac 95 [] h (iv (-719162)):=by
 refine tI' k95 fun N hn hlt hlA hbd=>?_
 simp only[tb'] at hbd ⊢
 refine wr'<|mw<|sn'<|wr'<|Vw (Zax (ZgJ (cvl lki rfl) rfl (cvl lki rfl) rfl (cvl lki rfl) rfl))<|?_
 refine Zak mp (Zdg om om om om om om) pt ?_
 refine mw<|sn'<|Zaa<|Zai rz<|rT'<|?_
 exact ivx (by decide)
theorem rlast_a {h:AH}:Ac 96 [] h (iv 2932896):=by
 refine tI' k96 fun N hn hlt hlA hbd=>?_
 simp only[tb'] at hbd ⊢
 refine wr'<|mw<|sn'<|wr'<|Vw (Zax (ZgQ (cvl lki rfl) rfl (cvl lki rfl) rfl (cvl lki rfl) rfl))<|?_
 refine Zak mp (Zdg om om om om om om) pt ?_
 refine mw<|sn'<|Zaa<|Zai rz<|rT'<|?_
 exact ivx (by decide)
theorem Zlb {n:Int}{h:AH}:Ac 94 [iv n] h (iv (wd n)):=by
 have hb1 : -6≤n.tmod 7∧n.tmod 7≤6:=by rw[Zk2];split <;> omega
 refine tI' k94 fun N hn hlt hlA hbd=>?_
 simp only[tb'] at hbd ⊢
 refine wr'<|mw<|sn'<|wr'<|mw<|?_
 refine V' (Zke lk lki om) pt ?_
 refine mw<|sn'<|Zan<|wr'<|mw<|Vw (ZbP lk lki)<|sn'<|?_
 refine cd' lk (fun hc1=>?_) (fun hc1=>?_)
 ·refine Zar<|mw<|?_
  refine V' (Zau lk lki om om) pt ?_
  refine mw<|sn'<|wr'<|mw<|?_
  refine V' (Zau lk lki om om) pt ?_
  refine V' (Zex lk lki om om) pt ?_
  refine mw<|sn'<|Zaa<|Zai rz<|rT'<|?_
  refine ivx ?_;unfold wd;rw[Zk2] at *;split at * <;> omega
 refine Zaf<|Zah<|wr'<|mw<|?_
 refine V' (Zau lk lki om om) pt ?_
 refine V' (Zex lk lki om om) pt ?_
 refine mw<|sn'<|Zaa<|Zai rz<|rT'<|?_
 refine ivx ?_;unfold wd;rw[Zk2] at *;split at * <;> omega
theorem Zmq {n:Int}{h:AH}(h0 : -719162≤n) (h1:n≤2932896):Ac 97 [iv n] h (dateA (Zbp n)):=by
 refine tI' k97 fun N hn hlt hlA hbd=>?_
 simp only[tb'] at hbd ⊢
 refine wr'<|E' (ZbZ (hl0 hn) ha0) pt<|sn'<|wr'<|mw<|mw<|sn'<|Zan<|Zao<|?_
 refine w_lp (ι:=Int×Int) (fun (x_:Int×Int)=>match x_ with | ⟨y,z⟩=>[(3,iv y),(4,iv z),(5,.any)]++rn' 7 15) (fun (x_:Int×Int)=>match x_ with | ⟨y,z⟩=>[]) (fun (x_:Int×Int)=>match x_ with | ⟨y,z⟩=>1≤y∧y<z∧z≤10000∧num y 1 1≤n∧n<num z 1 1) (fun (x_:Int×Int)=>match x_ with | ⟨y,z⟩=>(z-y).toNat) (⟨1,10000⟩) (by exact⟨by omega,by omega,by omega,by rw[ZmE,bef_1];omega,by rw[ZmE,ZcA];omega⟩) ?_
 rintro⟨y,z⟩ hi1
 try simp only[sm',Nat.reduceAdd]
 obtain⟨hy,hyz,hz,hn1,hn2⟩:=hi1
 refine Zan<|wr'<|mw<|mw<|?_
 refine V' (Zbi lk lk om om) pt ?_
 refine Vw (ZbI lk lki)<|sn'<|?_
 refine cd' lk (fun hc1=>?_) (fun hc1=>?_)
 ·refine Zaf<|Zah<|Zao<|wr'<|mw<|mw<|?_
  refine V' (Zau lk lk om om) pt ?_
  refine V' (Zey lk lki om om om) pt ?_
  refine mw<|sn'<|wr'<|mw<|Vw (Zax (ZgS cv rfl (cvl lki rfl) rfl (cvl lki rfl) rfl))<|?_
  refine Zak mp (Zdg om om om om om om) pt ?_
  refine mw<|Vw (Zc5 lk lk)<|sn'<|?_
  refine cd' lk (fun hc2=>?_) (fun hc2=>?_)
  ·refine Zar<|mw<|mw<|Zaq<|ZaC<|ZaB<|?_
   refine lU' (⟨(y+z)/2,z⟩) (by (try dsimp only);exact⟨by omega,by omega,by omega,by omega,by omega⟩) (by (try dsimp only);(try simp only[sm',Nat.reduceAdd]);exact ALe.same (by repeat (first | exact wk0 | refine wka ?_ | refine wk1 rfl ?_ | refine wk1 (by first | rfl | exact ivx om | (simp;done)) ?_)) rfl)
  refine Zar<|mw<|mw<|Zaq<|ZaC<|ZaB<|?_
  refine lU' (⟨y,(y+z)/2⟩) (by (try dsimp only);exact⟨by omega,by omega,by omega,by omega,by omega⟩) (by (try dsimp only);(try simp only[sm',Nat.reduceAdd]);exact ALe.same (by repeat (first | exact wk0 | refine wka ?_ | refine wk1 rfl ?_ | refine wk1 (by first | rfl | exact ivx om | (simp;done)) ?_)) rfl)
 obtain rfl:z=y+1:=by omega
 have hup:num y 12 1+mlen y 12=num (y+1) 1 1:=by rw[ZmE,Zd8];unfold num cum mlen;simp;omega
 refine ZaX<|ZaN<|ZaN<|Zbq<|Zah<|wr'<|mw<|Vw (Zax (ZgR cv rfl (cvl lki rfl) rfl (cvl lki rfl) rfl))<|E' (ZbZ (hl1 hn) ha1) pt<|E' (Zam lk cv gx rfl (nb' rfl) rfl Zbb (hs1 hn)) ptn<|sn'<|Zan<|?_
 refine Zao ?_
 refine w_lp (ι:=Int) (fun (m:Int)=>[]++rn' 24 8) (fun (m:Int)=>[(1,.mk 0 57 3 [iv y,iv m,iv 1])]) (fun (m:Int)=>1≤m∧m≤12∧n<num y m 1+mlen y m) (fun (m:Int)=>m.toNat) (12) (by exact⟨by omega,by omega,by rw[hup];exact hn2⟩) ?_
 rintro m hi2
 try simp only[sm',Nat.reduceAdd]
 obtain⟨hm0,hm1,hn3⟩:=hi2
 refine Zan<|wr'<|Vw (ZaE lk gx ZaZ rfl)<|?_
 refine Zak mp (Zdg om om om om om om) pt ?_
 refine mw<|Vw (ZbI lk lk)<|sn'<|?_
 refine cd' lk (fun hc3=>?_) (fun hc3=>?_)
 ·have hm2:2≤m:=by
   rcases Int.lt_or_le m 2 with c | c
   ·obtain rfl:m=1:=by omega
    omega
   exact c
  have hst:num y (m-1) 1+mlen y (m-1)=num y m 1:=by have:=ZeR (y:=y) (m:=m-1) om om;rw[show m-1+1=m by omega] at this;unfold num;omega
  refine Zaf<|Zah<|Zao<|Zar<|Vw (Zac lk)<|Vw (Zae lk gx gt1)<|?_
  refine V' (Zbi lk lki om om) pt ?_
  refine Vw (Zac lk)<|E' (Zam lk cv gx rfl (nb' rfl) rfl ZlO (hs1 hn)) ptn<|Zaq<|ZaC<|ZaB<|?_
  refine lT' (m-1) (by (try dsimp only);exact⟨by omega,by omega,by rw[hst];exact hc3⟩)
 have hd:ZbD y m (n-num y m 1+1)=true:=by
  have h1:=num_bd (Zcs.2 ⟨hy,by omega,hm0,hm1,by omega,by have:=ZdM y m;omega⟩:ZbD y m 1=true)
  rw[Zcs];omega
 have hdn:num y m (n-num y m 1+1)=n:=by unfold num;omega
 have hde:=Zm6 hd hdn
 have hnb:=ZhZ (y:=y) (m:=m) ⟨hy,by omega⟩ ⟨hm0,hm1⟩
 refine ZaX<|ZaN<|ZaN<|Zbq<|Zah<|wr'<|mw<|Vw (ZaE lk gx ZaZ rfl)<|?_
 refine Zak mp (Zdg om om om om om om) pt ?_
 refine V' (Zbi lk lk om om) pt ?_
 refine V' (Zau lk lki om om) pt ?_
 refine Vw (Zac lk)<|E' (Zam lk cv gx rfl (nb' rfl) rfl ZlN (hs1 hn)) ptn<|sn'<|wr'<|Vw (ZaE lk gx ZaZ rfl)<|E' (Zam lk cv gx rfl (nb' rfl) rfl Zbb (hs0 hn)) ptn<|sn'<|Zaa<|Zai (rs1 (rr_c gt gx (ld1 ZaZ rfl)))<|rT'<|?_
 rw[hde]
def onSt (y m k n:Int):Int:=num y m 1-1+if k=2 then mlen y m else n
def onGo (k wk s:Int) (j:Nat):Int:=if k=3 then s+j else s-j
def Zff (k wk s:Int):Int:=if k≤1 then 0 else if k=3 then (wk-wd s)%7 else (wd s-wk)%7
theorem ZfQ (k wk s:Int):0≤Zff k wk s∧Zff k wk s≤6:=by
 unfold Zff
 repeat' split
 all_goals omega
theorem onGo_go {k wk s:Int}{j:Nat}(hw:0≤wk∧wk≤6) (hj:(j:Int)≤Zff k wk s) (h:j<7∧1<k∧wd (onGo k wk s j)≠wk):(j:Int)+1≤Zff k wk s:=by
 have h1:=ZlT (n:=s) (k:=wk) (j:=j) om
 have h2:=ZlU (n:=s) (k:=wk) (j:=j) om
 unfold Zff onGo at *
 rw[if_neg om] at hj ⊢
 split at hj <;> rename_i h3
 ·simp only[h3,if_true] at h ⊢
  have:=h1 hj hw
  omega
 simp only[h3,if_false] at h ⊢
 have:=h2 hj hw
 omega
theorem onGo_end {y m k wk n:Int}{j:Nat}(hk:1≤k∧k≤4) (hw:0≤wk∧wk≤6) (hj:(j:Int)≤Zff k wk (onSt y m k n)) (h:¬(j<7∧1<k∧wd (onGo k wk (onSt y m k n) j)≠wk)):ZcF y m k wk n=onGo k wk (onSt y m k n) j:=by
 have hb:=ZfQ k wk (onSt y m k n)
 have h1:=ZlT (n:=onSt y m k n) (k:=wk) (j:=j) om
 have h2:=ZlU (n:=onSt y m k n) (k:=wk) (j:=j) om
 have e1:=Zlf y m n
 have e2:=Zlf y m (mlen y m)
 have h5:k=1∨k=2∨k=3∨k=4:=by omega
 rcases h5 with rfl | rfl | rfl | rfl
 ·simp only[Zff,onGo,onSt,ZcF,fwd,bwd] at *
  simp at hj ⊢
  omega
 ·simp only[Zff,onGo,onSt,ZcF,fwd,bwd] at *
  simp at hj h h1 h2 ⊢
  rw[show num y m (mlen y m)=num y m 1-1+mlen y m by omega]
  omega
 ·simp only[Zff,onGo,onSt,ZcF,fwd,bwd] at *
  simp at hj h h1 h2 ⊢
  rw[show num y m n=num y m 1-1+n by omega]
  omega
 simp only[Zff,onGo,onSt,ZcF,fwd,bwd] at *
 simp at hj h h1 h2 ⊢
 rw[show num y m n=num y m 1-1+n by omega]
 omega
theorem onSt_bd {y m k n:Int}(hy:1≤y∧y≤20000) (hm:1≤m∧m≤12) (hn:k≠2→1≤n∧n≤mlen y m) : -8000010≤onSt y m k n∧onSt y m k n≤8000040:=by
 have h1:=ZhZ hy hm
 have h2:=ZdM y m
 unfold onSt;split
 ·omega
 have:=hn (by assumption);omega
theorem onGo_bd {k wk s:Int}{j:Nat}(h:(j:Int)≤Zff k wk s):s-6≤onGo k wk s j∧onGo k wk s j≤s+6:=by
 have:=ZfQ k wk s
 unfold onGo;split <;> omega
theorem wiB {n a b:Int}:wi n a b=decide (a≤n∧n≤b):=by unfold wi;rw[Bool.decide_and]
theorem ron_a {y m k wk n:Int}{h:AH}:Ac 87 [iv y,iv m,.agg [iv k,iv wk,iv n]] h (.tup [.agg [iv (onV y m k wk n).1.1,iv (onV y m k wk n).1.2.1,iv (onV y m k wk n).1.2.2],iv (onV y m k wk n).2]):=by
 refine tI' k87 fun N hn hlt hlA hbd=>?_
 simp only[tb'] at hbd ⊢
 refine wr'<|E' (ZdO cv rfl (hl0 hn) ha0) pt<|E' (ZbZ (hl1 hn) ha1) pt<|mw<|sn'<|Zan<|?_
 refine ZfW (ι:=Unit) (fun (u_:Unit)=>[(18,bv (decide (¬(1≤y∧y≤9999)∨¬(1≤m∧m≤12))))]++rn' 11 7) (fun (u_:Unit)=>[]) (fun (u_:Unit)=>True) ?_ ?_
 ·try simp only[sm',Nat.reduceAdd]
  refine Zar<|mw<|Zak mp (ZbF) pt<|Vw (Zav lk)<|mw<|?_
  refine ZaI (t:=14) gt pt pt (fun hg14=>?_) (fun hg14=>?_)
  ·refine s_no gt pt<|s_no gt pt<|s_no gt pt<|Vw (Zag lk lkb)<|Zaq<|ZaB<|?_
   exact cT' (()) (by trivial) (by (try dsimp only);(try simp only[sm',Nat.reduceAdd]);exact ALe.same (by repeat (first | exact wk0 | refine wka ?_ | refine wk1 rfl ?_ | refine wk1 (by first | rfl | exact bvx (by first | (simp_all [wiB];done) | (rw[Bool.eq_iff_iff];simp_all [wiB];omega) | (rw[Bool.eq_iff_iff];simp_all [wiB];done))) ?_)) rfl)
  refine s_do gt<|mw<|s_do gt<|Zak mp (ZbF) pt<|s_do gt<|Vw (Zav lk)<|Vw (Zab lk lk)<|Zaq<|ZaB<|?_
  exact cT' (()) (by trivial) (by (try dsimp only);(try simp only[sm',Nat.reduceAdd]);exact ALe.same (by repeat (first | exact wk0 | refine wka ?_ | refine wk1 rfl ?_ | refine wk1 (by first | rfl | exact bvx (by first | (simp_all [wiB];done) | (rw[Bool.eq_iff_iff];simp_all [wiB];omega) | (rw[Bool.eq_iff_iff];simp_all [wiB];done))) ?_)) rfl)
 rintro u_ hq2
 try simp only[sm',Nat.reduceAdd]
 refine cd' lk (fun hc1=>?_) (fun hc1=>?_)
 ·have hv:=Zg3 (y:=y) (m:=m) (kind:=k) (wk:=wk) (n:=n) (k:=3) (by unfold Zbs;rw[if_pos hc1]) om
  refine wr'<|Vw (Zax Zjp)<|E' (Zam lk cv gx rfl (nb' rfl) rfl Zbb (hs1 hn)) ptn<|mw<|sn'<|Zaa<|Zal<|Zai (rsn (rm1 (rr_c gt gx (ld1 ZaZ rfl)) (rm1 (rr_t gt) rm0)))<|rT'<|?_
  rw[hv]
 have hym:(1≤y∧y≤9999)∧(1≤m∧m≤12):=by omega
 refine Zaf<|Zah<|Zan<|wr'<|Vw (Zac lk)<|Vw (Zae lk gx gt0)<|Zak mp (ZbF) pt<|Vw (Zav lk)<|sn'<|?_
 refine Zaz lk (fun hc2=>?_) (fun hc2=>?_)
 ·have hk:¬(1≤k∧k≤4):=by have h9:=hc2;simp[wiB] at h9;omega
  have hv:=Zg3 (y:=y) (m:=m) (kind:=k) (wk:=wk) (n:=n) (k:=7) (by unfold Zbs;rw[if_neg hc1,if_pos hk]) om
  refine wr'<|Vw (Zax Zjo)<|E' (Zam lk cv gx rfl (nb' rfl) rfl Zbb (hs1 hn)) ptn<|mw<|sn'<|Zaa<|Zal<|Zai (rsn (rm1 (rr_c gt gx (ld1 ZaZ rfl)) (rm1 (rr_t gt) rm0)))<|rT'<|?_
  rw[hv]
 have hk:1≤k∧k≤4:=by have h9:=hc2;simp[wiB] at h9;omega
 refine Zaf<|Zah<|Zan<|?_
 refine ZfW (ι:=Unit) (fun (u_:Unit)=>[(38,bv (decide (¬(0≤wk∧wk≤6)∨k=1∧wk≠0)))]++rn' 25 13) (fun (u_:Unit)=>[]) (fun (u_:Unit)=>True) ?_ ?_
 ·try simp only[sm',Nat.reduceAdd]
  refine Zar<|Vw (Zac lk)<|Vw (Zae lk gx gt1)<|Zak mp (ZbF) pt<|Vw (Zav lk)<|mw<|?_
  refine ZaI (t:=29) gt pt pt (fun hg29=>?_) (fun hg29=>?_)
  ·refine s_no gt pt<|s_no gt pt<|s_no gt pt<|s_no gt pt<|s_nu gt pt<|s_nu gt pt<|s_nu gt pt<|s_no gt pt<|Vw (Zag lk lkb)<|Zaq<|ZaB<|?_
   exact cT' (()) (by trivial) (by (try dsimp only);(try simp only[sm',Nat.reduceAdd]);exact ALe.same (by repeat (first | exact wk0 | refine wka ?_ | refine wk1 rfl ?_ | refine wk1 (by first | rfl | exact bvx (by first | (simp_all [wiB];done) | (rw[Bool.eq_iff_iff];simp_all [wiB];omega) | (rw[Bool.eq_iff_iff];simp_all [wiB];done))) ?_)) rfl)
  refine s_do gt<|Vw (Zac lk)<|s_do gt<|Vw (Zae lk gx gt0)<|s_do gt<|Vw (ZaS lk lki)<|s_do gt<|mw<|?_
  refine sp' (t:=33) gt pt pt (fun hg33=>?_) (fun hg33=>?_)
  ·refine s_do gt<|Vw (Zac lk)<|s_do gt<|Vw (Zae lk gx gt1)<|s_do gt<|Vw (Za1 lk lki)<|s_do gt<|Vw (Zag lk lk)<|Vw (Zab lk lk)<|Zaq<|ZaB<|?_
   exact cT' (()) (by trivial) (by (try dsimp only);(try simp only[sm',Nat.reduceAdd]);exact ALe.same (by repeat (first | exact wk0 | refine wka ?_ | refine wk1 rfl ?_ | refine wk1 (by first | rfl | exact bvx (by first | (simp_all [wiB];done) | (rw[Bool.eq_iff_iff];simp_all [wiB];omega) | (rw[Bool.eq_iff_iff];simp_all [wiB];done))) ?_)) rfl)
  refine s_no gt pt<|s_no gt pt<|s_no gt pt<|s_do gt<|Vw (Zab lk lkb)<|Vw (Zab lk lk)<|Zaq<|ZaB<|?_
  exact cT' (()) (by trivial) (by (try dsimp only);(try simp only[sm',Nat.reduceAdd]);exact ALe.same (by repeat (first | exact wk0 | refine wka ?_ | refine wk1 rfl ?_ | refine wk1 (by first | rfl | exact bvx (by first | (simp_all [wiB];done) | (rw[Bool.eq_iff_iff];simp_all [wiB];omega) | (rw[Bool.eq_iff_iff];simp_all [wiB];done))) ?_)) rfl)
 rintro u_ hq8
 try simp only[sm',Nat.reduceAdd]
 refine cd' lk (fun hc3=>?_) (fun hc3=>?_)
 ·have hv:=Zg3 (y:=y) (m:=m) (kind:=k) (wk:=wk) (n:=n) (k:=3) (by unfold Zbs;rw[if_neg hc1,if_neg om,if_pos hc3]) om
  refine wr'<|Vw (Zax Zjn)<|E' (Zam lk cv gx rfl (nb' rfl) rfl Zbb (hs1 hn)) ptn<|mw<|sn'<|Zaa<|Zal<|Zai (rsn (rm1 (rr_c gt gx (ld1 ZaZ rfl)) (rm1 (rr_t gt) rm0)))<|rT'<|?_
  rw[hv]
 refine Zaf<|Zah<|wr'<|mw<|mw<|?_
 refine Zak mp (Zga om) pt ?_
 refine mw<|sn'<|Zan<|?_
 refine ZfW (ι:=Unit) (fun (u_:Unit)=>[(62,bv (decide (k=2∧n≠0∨k≠2∧¬(1≤n∧n≤mlen y m))))]++rn' 43 19) (fun (u_:Unit)=>[]) (fun (u_:Unit)=>True) ?_ ?_
 ·try simp only[sm',Nat.reduceAdd]
  refine Zar<|Vw (Zac lk)<|Vw (Zae lk gx gt0)<|Vw (ZaS lk lki)<|mw<|?_
  refine sp' (t:=46) gt pt pt (fun hg46=>?_) (fun hg46=>?_)
  ·refine s_do gt<|Vw (Zac lk)<|s_do gt<|Vw (Zae lk gx gt2)<|s_do gt<|Vw (Za1 lk lki)<|Vw (Zag lk lk)<|mw<|?_
   refine sp' (t:=51) gt pt pt (fun hg51=>?_) (fun hg51=>?_)
   ·refine s_no gt pt<|s_no gt pt<|s_no gt pt<|s_no gt pt<|s_nu gt pt<|s_nu gt pt<|s_nu gt pt<|s_nu gt pt<|s_nu gt pt<|s_no gt pt<|Vw (Zag lk lkb)<|Zaq<|ZaB<|?_
    exact cT' (()) (by trivial) (by (try dsimp only);(try simp only[sm',Nat.reduceAdd]);exact ALe.same (by repeat (first | exact wk0 | refine wka ?_ | refine wk1 rfl ?_ | refine wk1 (by first | rfl | exact bvx (by first | (simp_all [wiB];done) | (rw[Bool.eq_iff_iff];simp_all [wiB];omega) | (rw[Bool.eq_iff_iff];simp_all [wiB];done))) ?_)) rfl)
   refine s_do gt<|Vw (Zac lk)<|s_do gt<|Vw (Zae lk gx gt0)<|s_do gt<|Vw (Za1 lk lki)<|s_do gt<|mw<|?_
   refine sp' (t:=55) gt pt pt (fun hg55=>?_) (fun hg55=>?_)
   ·refine s_do gt<|Vw (Zac lk)<|s_do gt<|Vw (Zae lk gx gt2)<|s_do gt<|mw<|s_do gt<|Zak mp (ZbF) pt<|s_do gt<|Vw (Zav lk)<|s_do gt<|Vw (Zag lk lk)<|Vw (Zab lk lk)<|Zaq<|?_
    refine ZaB ?_
    exact cT' (()) (by trivial) (by (try dsimp only);(try simp only[sm',Nat.reduceAdd]);exact ALe.same (by repeat (first | exact wk0 | refine wka ?_ | refine wk1 rfl ?_ | refine wk1 (by first | rfl | exact bvx (by first | (simp_all [wiB];done) | (rw[Bool.eq_iff_iff];simp_all [wiB];omega) | (rw[Bool.eq_iff_iff];simp_all [wiB];done))) ?_)) rfl)
   refine s_no gt pt<|s_no gt pt<|s_no gt pt<|s_no gt pt<|s_no gt pt<|s_do gt<|Vw (Zab lk lkb)<|Vw (Zab lk lk)<|Zaq<|ZaB<|?_
   exact cT' (()) (by trivial) (by (try dsimp only);(try simp only[sm',Nat.reduceAdd]);exact ALe.same (by repeat (first | exact wk0 | refine wka ?_ | refine wk1 rfl ?_ | refine wk1 (by first | rfl | exact bvx (by first | (simp_all [wiB];done) | (rw[Bool.eq_iff_iff];simp_all [wiB];omega) | (rw[Bool.eq_iff_iff];simp_all [wiB];done))) ?_)) rfl)
  refine s_no gt pt<|s_no gt pt<|s_no gt pt<|Vw (Zab lk lkb)<|mw<|s_do gt<|Vw (Zac lk)<|s_do gt<|Vw (Zae lk gx gt0)<|s_do gt<|Vw (Za1 lk lki)<|s_do gt<|mw<|?_
  refine sp' (t:=55) gt pt pt (fun hg55=>?_) (fun hg55=>?_)
  ·refine s_do gt<|Vw (Zac lk)<|s_do gt<|Vw (Zae lk gx gt2)<|s_do gt<|mw<|s_do gt<|Zak mp (ZbF) pt<|s_do gt<|Vw (Zav lk)<|s_do gt<|Vw (Zag lk lk)<|Vw (Zab lk lk)<|Zaq<|?_
   refine ZaB ?_
   exact cT' (()) (by trivial) (by (try dsimp only);(try simp only[sm',Nat.reduceAdd]);exact ALe.same (by repeat (first | exact wk0 | refine wka ?_ | refine wk1 rfl ?_ | refine wk1 (by first | rfl | exact bvx (by first | (simp_all [wiB];done) | (rw[Bool.eq_iff_iff];simp_all [wiB];omega) | (rw[Bool.eq_iff_iff];simp_all [wiB];done))) ?_)) rfl)
  refine s_no gt pt<|s_no gt pt<|s_no gt pt<|s_no gt pt<|s_no gt pt<|s_do gt<|Vw (Zab lk lkb)<|Vw (Zab lk lk)<|Zaq<|ZaB<|?_
  exact cT' (()) (by trivial) (by (try dsimp only);(try simp only[sm',Nat.reduceAdd]);exact ALe.same (by repeat (first | exact wk0 | refine wka ?_ | refine wk1 rfl ?_ | refine wk1 (by first | rfl | exact bvx (by first | (simp_all [wiB];done) | (rw[Bool.eq_iff_iff];simp_all [wiB];omega) | (rw[Bool.eq_iff_iff];simp_all [wiB];done))) ?_)) rfl)
 rintro u_ hq12
 try simp only[sm',Nat.reduceAdd]
 refine cd' lk (fun hc4=>?_) (fun hc4=>?_)
 ·have hv:=Zg3 (y:=y) (m:=m) (kind:=k) (wk:=wk) (n:=n) (k:=3) (by unfold Zbs;rw[if_neg hc1,if_neg om,if_neg hc3,if_pos hc4]) om
  refine wr'<|Vw (Zax Zjm)<|E' (Zam lk cv gx rfl (nb' rfl) rfl Zbb (hs1 hn)) ptn<|mw<|sn'<|Zaa<|Zal<|Zai (rsn (rm1 (rr_c gt gx (ld1 ZaZ rfl)) (rm1 (rr_t gt) rm0)))<|rT'<|?_
  rw[hv]
 have he:Zbs y m k wk n=0:=by unfold Zbs;rw[if_neg hc1,if_neg om,if_neg hc3,if_neg hc4]
 have hw:0≤wk∧wk≤6:=by omega
 have hsb:=onSt_bd (y:=y) (m:=m) (k:=k) (n:=n) ⟨hym.1.1,by omega⟩ hym.2 om
 have hnb:=ZhZ (y:=y) (m:=m) ⟨hym.1.1,by omega⟩ hym.2
 have hml:=ZdM y m
 have hn':0≤n∧n≤31:=by omega
 refine Zaf<|Zah<|wr'<|mw<|mw<|Vw (Zax (Zjl cv rfl cv rfl (cvl lki rfl) rfl))<|?_
 refine Zak mp (Zdg om om om om om om) pt ?_
 refine V' (Zbi lk lki om om) pt ?_
 refine mw<|sn'<|?_
 refine ZfW (ι:=Unit) (fun (u_:Unit)=>[(9,iv (onSt y m k n))]++rn' 69 17) (fun (u_:Unit)=>[]) (fun (u_:Unit)=>True) ?_ ?_
 ·try simp only[sm',Nat.reduceAdd]
  refine wr'<|Vw (Zac lk)<|Vw (Zae lk gx gt0)<|sn'<|Zao<|wr'<|Vw (ZaS lk lki)<|mw<|sn'<|?_
  refine cd' lk (fun hc5=>?_) (fun hc5=>?_)
  ·refine Zar<|mw<|Vw (Zac lk)<|Vw (Zae lk gx gt2)<|?_
   refine V' (Zau lk lk om om) pt ?_
   refine mw<|Zaq<|ZaC<|ZaB<|?_
   exact cT' (()) (by trivial) (by (try dsimp only);(try simp only[sm',Nat.reduceAdd]);exact ALe.same (by repeat (first | exact wk0 | refine wka ?_ | refine wk1 rfl ?_ | refine wk1 (by first | rfl | exact ivx (by unfold onSt;simp_all) | exact ivx (by unfold onSt;rw[if_neg om])) ?_)) rfl)
  refine wr'<|Vw (ZaS lk lki)<|mw<|sn'<|?_
  refine cd' lk (fun hc6=>?_) (fun hc6=>?_)
  ·refine Zar<|mw<|mw<|?_
   refine V' (Zau lk lk om om) pt ?_
   refine mw<|Zaq<|ZaC<|ZaB<|?_
   exact cT' (()) (by trivial) (by (try dsimp only);(try simp only[sm',Nat.reduceAdd]);exact ALe.same (by repeat (first | exact wk0 | refine wka ?_ | refine wk1 rfl ?_ | refine wk1 (by first | rfl | exact ivx (by unfold onSt;simp_all) | exact ivx (by unfold onSt;rw[if_neg om])) ?_)) rfl)
  refine Zar<|mw<|Vw (Zac lk)<|Vw (Zae lk gx gt2)<|?_
  refine V' (Zau lk lk om om) pt ?_
  refine mw<|Zaq<|ZaC<|ZaB<|?_
  exact cT' (()) (by trivial) (by (try dsimp only);(try simp only[sm',Nat.reduceAdd]);exact ALe.same (by repeat (first | exact wk0 | refine wka ?_ | refine wk1 rfl ?_ | refine wk1 (by first | rfl | exact ivx (by unfold onSt;simp_all) | exact ivx (by unfold onSt;rw[if_neg om])) ?_)) rfl)
 rintro u_ hq19
 try simp only[sm',Nat.reduceAdd]
 refine Zan<|wr'<|mw<|sn'<|Zao<|?_
 refine Ziu (ι:=Nat) (fun (j:Nat)=>[(9,iv (onGo k wk (onSt y m k n) j)),(10,iv (j:Int))]++rn' 86 23) (fun (j:Nat)=>[]) (fun (j:Nat)=>(j:Int)≤Zff k wk (onSt y m k n)) (fun (j:Nat)=>7-j) (0) (by exact (ZfQ _ _ _).1) (by try simp only[sm',Nat.reduceAdd];exact ALe.same (by repeat (first | exact wk0 | refine wka ?_ | refine wk1 rfl ?_ | refine wk1 (by first | rfl | exact ivx (by unfold onGo;simp)) ?_)) rfl) ?_
 rintro j hi1
 try simp only[sm',Nat.reduceAdd]
 have hgb:=onGo_bd hi1
 have hfb:=ZfQ k wk (onSt y m k n)
 refine Zan ?_
 refine ZfW (ι:=Unit) (fun (u_:Unit)=>[(99,bv (decide (j<7∧1<k∧wd (onGo k wk (onSt y m k n) j)≠wk)))]++rn' 86 13) (fun (u_:Unit)=>[]) (fun (u_:Unit)=>True) ?_ ?_
 ·try simp only[sm',Nat.reduceAdd]
  refine Zcg<|Dw (v_mv lk)<|Dw (ZbP lk lki)<|Dw (v_mv lk)<|?_
  refine dq' (t:=88) gt pt pt (fun hg88=>?_) (fun hg88=>?_)
  ·refine d_do gt<|Dw (Zac lk)<|d_do gt<|Dw (Zae lk gx gt0)<|d_do gt<|Dw (ZbI lk lki)<|Dw (Zag lk lk)<|Dw (v_mv lk)<|?_
   refine dq' (t:=93) gt pt pt (fun hg93=>?_) (fun hg93=>?_)
   ·refine d_do gt<|Dw (v_mv lk)<|d_do gt<|?_
    refine Zbw mp (fun hE hX=>Zlb) pt ?_
    refine d_do gt<|Dw (Zac lk)<|d_do gt<|Dw (Zae lk gx gt1)<|d_do gt<|Dw (Za1 lk lk)<|Dw (Zag lk lk)<|ZbB<|?_
    refine ZbS ?_
    refine Zaq<|ZaB<|?_
    exact cT' (()) (by trivial) (by (try dsimp only);(try simp only[sm',Nat.reduceAdd]);exact ALe.same (by repeat (first | exact wk0 | refine wka ?_ | refine wk1 rfl ?_ | refine wk1 (by first | rfl | exact bvx (by first | (simp_all [wiB];done) | (rw[Bool.eq_iff_iff];simp_all [wiB];omega) | (rw[Bool.eq_iff_iff];simp_all [wiB];done))) ?_)) rfl)
   refine d_no gt pt<|d_no gt pt<|d_no gt pt<|d_no gt pt<|d_no gt pt<|Dw (Zab lk lkb)<|ZbB<|?_
   refine ZbS ?_
   refine Zaq<|ZaB<|?_
   exact cT' (()) (by trivial) (by (try dsimp only);(try simp only[sm',Nat.reduceAdd]);exact ALe.same (by repeat (first | exact wk0 | refine wka ?_ | refine wk1 rfl ?_ | refine wk1 (by first | rfl | exact bvx (by first | (simp_all [wiB];done) | (rw[Bool.eq_iff_iff];simp_all [wiB];omega) | (rw[Bool.eq_iff_iff];simp_all [wiB];done))) ?_)) rfl)
  refine d_no gt pt<|d_no gt pt<|d_no gt pt<|Dw (Zab lk lkb)<|Dw (v_mv lk)<|d_no gt pt<|d_no gt pt<|d_no gt pt<|d_no gt pt<|d_no gt pt<|Dw (Zab lk lkb)<|ZbB<|?_
  refine ZbS ?_
  refine Zaq<|ZaB<|?_
  exact cT' (()) (by trivial) (by (try dsimp only);(try simp only[sm',Nat.reduceAdd]);exact ALe.same (by repeat (first | exact wk0 | refine wka ?_ | refine wk1 rfl ?_ | refine wk1 (by first | rfl | exact bvx (by first | (simp_all [wiB];done) | (rw[Bool.eq_iff_iff];simp_all [wiB];omega) | (rw[Bool.eq_iff_iff];simp_all [wiB];done))) ?_)) rfl)
 rintro u_ hq21
 try simp only[sm',Nat.reduceAdd]
 refine cd' lk (fun hc7=>?_) (fun hc7=>?_)
 ·have hgo:=onGo_go hw hi1 hc7
  refine Zaf<|Zah<|Zan<|Zao<|wr'<|Vw (Zac lk)<|Vw (Zae lk gx gt0)<|Vw (ZaS lk lki)<|sn'<|?_
  refine cd' lk (fun hc8=>?_) (fun hc8=>?_)
  ·refine Zar<|mw<|?_
   refine V' (Zau lk lki om om) pt ?_
   refine mw<|Zaq<|ZaC<|Zah<|Zar<|mw<|?_
   refine V' (Zau lk lki om om) pt ?_
   refine mw<|Zaq<|ZaB<|?_
   refine lU' (j+1) (by (try dsimp only);omega) (by (try dsimp only);(try simp only[sm',Nat.reduceAdd]);exact ALe.same (by repeat (first | exact wk0 | refine wka ?_ | refine wk1 rfl ?_ | refine wk1 (by first | rfl | exact ivx (by unfold onGo;simp_all;omega) | exact ivx om) ?_)) rfl)
  refine Zar<|mw<|?_
  refine V' (Zbi lk lki om om) pt ?_
  refine mw<|Zaq<|ZaC<|Zah<|Zar<|mw<|?_
  refine V' (Zau lk lki om om) pt ?_
  refine mw<|Zaq<|ZaB<|?_
  refine lU' (j+1) (by (try dsimp only);omega) (by (try dsimp only);(try simp only[sm',Nat.reduceAdd]);exact ALe.same (by repeat (first | exact wk0 | refine wka ?_ | refine wk1 rfl ?_ | refine wk1 (by first | rfl | exact ivx (by unfold onGo;simp_all;omega) | exact ivx om) ?_)) rfl)
 have hd:=onGo_end hk hw hi1 hc7
 rw[←hd]
 refine ZaX<|ZaN<|ZaN<|Zbq<|Zah<|Zan<|wr'<|mw<|Zak mp0 (rfirst_a) pt<|Zak mp0 (rlast_a) pt<|Zak mp (ZbF) pt<|Vw (Zav lk)<|Zaq<|?_
 refine Zah ?_
 refine Zaz lk (fun hc9=>?_) (fun hc9=>?_)
 ·have hr:¬(-719162≤ZcF y m k wk n∧ZcF y m k wk n≤2932896):=by have h9:=hc9;simp[wiB] at h9;omega
  refine wr'<|Vw (Zax Zin)<|E' (Zam lk cv gx rfl (nb' rfl) rfl Zbb (hs1 hn)) ptn<|mw<|sn'<|Zaa<|Zal<|Zai (rsn (rm1 (rr_c gt gx (ld1 ZaZ rfl)) (rm1 (rr_t gt) rm0)))<|rT'<|?_
  rw[Zge he rfl,if_neg hr]
 have hr : -719162≤ZcF y m k wk n∧ZcF y m k wk n≤2932896:=by have h9:=hc9;simp[wiB] at h9;omega
 refine Zaf<|Zah<|wr'<|mw<|Zak mp (Zmq hr.1 hr.2) pt<|E' (Zam lk cv gx rfl (nb' rfl) rfl Zbb (hs1 hn)) ptn<|mw<|sn'<|Zaa<|Zai (rsn (rm1 (rr_c gt gx (ld1 ZaZ rfl)) (rm1 (rr_t gt) rm0)))<|rT'<|?_
 rw[Zge he rfl,if_pos hr]
end Go.Proofs.Yticajimgfndceaa
end
section
namespace Go.Proofs.Yticajimgfndceaa
open Go.Ab Go.RowKit
def c31:AC:=(Sr [Mb 6 false] (Sr [Mv 7 0,Mv 8 1,Bn 9 .geq 7 8,Mv 10 9,Ot 11 10 (mt 0),Ot 12 10 (mt 2),Ot 13 10 (.bin .leq (.tmp 11) (.tmp 12)),Oo 14 (.pick (.tmp 10) (.tmp 13) (.const (.bool false))),Mv 6 14] .ret))
theorem k31:ZaO Try.prog 31=some ⟨c31,[(.tmp 6)],15⟩:=by kernel_rfl
def c32:AC:=(Sr [Mb 4 false] (Sr [Mv 5 0,Cl 6 31 [(.tmp 5),(Ci 1),(Ci 3)],Mv 7 6,Ot 8 7 (mt 1),Ot 9 7 (mt 8),Of 10 9 (mt 0),Of 11 9 (.bin .neq (.tmp 10) (Ci 1)),Ot 12 7 (.pick (.tmp 9) (.const (.bool true)) (.tmp 11)),Oo 13 (.pick (.tmp 7) (.tmp 12) (.const (.bool false))),Mv 4 13] .ret))
theorem k32:ZaO Try.prog 32=some ⟨c32,[(.tmp 4)],14⟩:=by kernel_rfl
def c65:AC:=(Sr [Mb 2 false] (Sr [Mv 3 0,Cl 4 63 [(.tmp 3)],Mv 5 4,Of 6 5 (mt 0),Of 7 5 (.call (.func 66) [(.tmp 6)]),Oo 8 (.pick (.tmp 5) (.const (.bool true)) (.tmp 7)),Mv 9 8,Of 10 9 (mt 0),Of 11 9 (.call (.func 67) [(.const (.string ⟨#[95,45,47,43]⟩)),(.tmp 10)]),Of 12 9 (.bin .geq (.tmp 11) (Ci 0)),Oo 13 (.pick (.tmp 9) (.const (.bool true)) (.tmp 12)),Mv 2 13] .ret))
theorem k65:ZaO Try.prog 65=some ⟨c65,[(.tmp 2)],14⟩:=by kernel_rfl
def c29:AC:=(Sr [Mb 2 false] (Sr [Mv 3 0,Oo 4 (.bin .neq (.tmp 3) (.const (.string ⟨#[]⟩))),Mv 5 4,Ot 6 5 (mt 0),Ot 7 5 (.len true (.tmp 6)),Ot 8 5 (.bin .leq (.tmp 7) (Ci 24)),Oo 9 (.pick (.tmp 5) (.tmp 8) (.const (.bool false))),Mv 10 9,Ot 11 10 (mt 0),Ot 12 10 (.ix (.tmp 11) (Ci 0)),Ot 13 10 (.call (.func 63) [(.tmp 12)]),Oo 14 (.pick (.tmp 10) (.tmp 13) (.const (.bool false))),Mv 15 14,Ot 16 15 (mt 0),Ot 17 15 (.call (.func 64) [(.tmp 16),(.func 65)]),Oo 18 (.pick (.tmp 15) (.tmp 17) (.const (.bool false))),Mv 2 18] .ret))
theorem k29:ZaO Try.prog 29=some ⟨c29,[(.tmp 2)],19⟩:=by kernel_rfl
def c30:AC:=(Sr [Mb 2 false] (Sr [Mv 3 0,Oo 4 (.len true (.tmp 3)),Bc 5 .leq 4 24,Mv 6 5,Ot 7 6 (mt 0),Ot 8 6 (.call (.func 64) [(.tmp 7),(.func 63)]),Oo 9 (.pick (.tmp 6) (.tmp 8) (.const (.bool false))),Mv 2 9] .ret))
theorem k30:ZaO Try.prog 30=some ⟨c30,[(.tmp 2)],10⟩:=by kernel_rfl
theorem ZeD {n a b:Int}{h:AH}:Ac 31 [iv n,iv a,iv b] h (bv (wi n a b)):=by
 refine tI' k31 fun N hn hlt hlA hbd=>?_
 simp only[tb'] at hbd ⊢
 refine wr'<|mw<|sn'<|wr'<|mw<|mw<|Vw (Ze8 lk lk)<|mw<|?_
 refine sp' (t:=10) gt pt pt (fun hg10=>?_) (fun hg10=>?_)
 ·refine s_do gt<|mw<|s_do gt<|mw<|s_do gt<|Vw (Zc5 lk lk)<|Vw (Zag lk lk)<|mw<|sn'<|Zaa<|Zai rz<|rT'<|?_
  refine bvx ?_;unfold wi;rw[Bool.eq_iff_iff];simp;omega
 refine s_no gt pt<|s_no gt pt<|s_no gt pt<|Vw (Zab lk lkb)<|mw<|sn'<|Zaa<|Zai rz<|rT'<|?_
 refine bvx ?_;unfold wi;rw[Bool.eq_iff_iff];simp;omega
def clkB (n:Int) (wall:Bool):Bool:=wi n 1 3&&(wall||decide (n≠1))
theorem clock_a {n:Int}{b:Bool}{h:AH}:Ac 32 [iv n,bv b] h (bv (clkB n b)):=by
 refine tI' k32 fun N hn hlt hlA hbd=>?_
 simp only[tb'] at hbd ⊢
 refine wr'<|mw<|sn'<|wr'<|mw<|Zak mp (ZeD) pt<|mw<|?_
 refine ZaI (t:=7) gt pt pt (fun hg7=>?_) (fun hg7=>?_)
 ·refine s_do gt<|mw<|s_do gt<|mw<|?_
  refine ZaI (t:=9) gt pt pt (fun hg9=>?_) (fun hg9=>?_)
  ·refine s_no gt pt<|s_no gt pt<|s_do gt<|Vw (Zag lk lkb)<|Vw (Zag lk lk)<|mw<|sn'<|Zaa<|Zai rz<|rT'<|?_
   refine bvx ?_;unfold clkB;simp_all
  refine s_do gt<|mw<|s_do gt<|Vw (Za1 lk lki)<|s_do gt<|Vw (Zab lk lk)<|Vw (Zag lk lk)<|mw<|sn'<|Zaa<|Zai rz<|rT'<|?_
  refine bvx ?_;unfold clkB;simp_all
 refine s_no gt pt<|s_no gt pt<|s_nu gt pt<|s_nu gt pt<|s_no gt pt<|Vw (Zab lk lkb)<|mw<|sn'<|Zaa<|Zai rz<|rT'<|?_
 refine bvx ?_;unfold clkB;simp_all
def ZiS (n:Int):Bool:=letB n||digB n||decide (0≤Lib.indexByte [95,45,47,43] n.toNat.toUInt8)
theorem indexN_a {n:Int}{h:AH}:Ac 67 [sv (bA [95,45,47,43]),uv n] h (iv (Lib.indexByte [95,45,47,43] n.toNat.toUInt8)):=ZjS
theorem name1_a {n:Int}{h:AH}:Ac 65 [uv n] h (bv (ZiS n)):=by
 refine tI' k65 fun N hn hlt hlA hbd=>?_
 simp only[tb'] at hbd ⊢
 refine wr'<|mw<|sn'<|wr'<|mw<|Zak mp (Zh1) pt<|mw<|?_
 refine ZaI (t:=5) gt pt pt (fun hg5=>?_) (fun hg5=>?_)
 ·refine s_no gt pt<|s_no gt pt<|Vw (Zag lk lkb)<|mw<|s_no gt pt<|s_no gt pt<|s_no gt pt<|Vw (Zag lk lkb)<|mw<|sn'<|Zaa<|Zai rz<|rT'<|?_
  refine bvx ?_;unfold ZiS;rw[Bool.eq_iff_iff];simp_all
 refine s_do gt<|mw<|s_do gt<|Zak mp (digit_a) pt<|Vw (Zab lk lk)<|mw<|?_
 refine ZaI (t:=9) gt pt pt (fun hg9=>?_) (fun hg9=>?_)
 ·refine s_no gt pt<|s_no gt pt<|s_no gt pt<|Vw (Zag lk lkb)<|mw<|sn'<|Zaa<|Zai rz<|rT'<|?_
  refine bvx ?_;unfold ZiS;rw[Bool.eq_iff_iff];simp_all
 refine s_do gt<|mw<|s_do gt<|Zak mp (indexN_a) pt<|s_do gt<|Vw (Ze8 lk lki)<|Vw (Zab lk lk)<|mw<|sn'<|Zaa<|Zai rz<|rT'<|?_
 refine bvx ?_;unfold ZiS;rw[Bool.eq_iff_iff];simp_all
def Zcc (s:ByteArray):Bool:=decide (s.size≠0)&&decide (s.size≤24)&&letB (Zay s 0).toNat&&allB ZiS s
theorem name_a {s:ByteArray}{h:AH}(hs:s.size≤maxLen):Ac 29 [sv s] h (bv (Zcc s)):=by
 have hm:s.size≤9223372036854775807:=by simpa [maxLen] using hs
 have hem:=Zd4 (f:=s)
 refine tI' k29 fun N hn hlt hlA hbd=>?_
 simp only[tb'] at hbd ⊢
 refine wr'<|mw<|sn'<|wr'<|mw<|Vw (ZcV lk lks)<|mw<|?_
 refine sp' (t:=5) gt pt pt (fun hg5=>?_) (fun hg5=>?_)
 ·have hne:s.size≠0:=fun e=>hg5 (hem.2 e)
  refine s_do gt<|mw<|s_do gt<|Vw (Za0 lk)<|s_do gt<|Vw (Zc5 lk lki)<|Vw (Zag lk lk)<|mw<|?_
  refine sp' (t:=10) gt pt pt (fun hg10=>?_) (fun hg10=>?_)
  ·refine s_do gt<|mw<|s_do gt<|?_
   refine V' (v_ix lk lki om om) pt ?_
   refine s_do gt<|Zak mp (Zh1) pt<|Vw (Zag lk lk)<|mw<|?_
   refine ZaI (t:=15) gt pt pt (fun hg15=>?_) (fun hg15=>?_)
   ·refine s_do gt<|mw<|s_do gt<|?_
    refine Zak mp (all_a (fun _ _=>name1_a) hs) pt ?_
    refine Vw (Zag lk lk)<|mw<|sn'<|Zaa<|Zai rz<|rT'<|?_
    refine bvx ?_;unfold Zcc;simp_all <;> (try intros) <;> omega
   refine s_no gt pt<|s_no gt pt<|Vw (Zab lk lkb)<|mw<|sn'<|Zaa<|Zai rz<|rT'<|?_
   refine bvx ?_;unfold Zcc;simp_all <;> (try intros) <;> omega
  refine s_no gt pt<|s_no gt pt<|s_no gt pt<|Vw (Zab lk lkb)<|mw<|s_no gt pt<|s_no gt pt<|Vw (Zab lk lkb)<|mw<|sn'<|Zaa<|Zai rz<|rT'<|?_
  refine bvx ?_;unfold Zcc;simp_all <;> (try intros) <;> omega
 refine s_no gt pt<|s_no gt pt<|s_no gt pt<|Vw (Zab lk lkb)<|mw<|s_no gt pt<|s_no gt pt<|s_no gt pt<|Vw (Zab lk lkb)<|mw<|s_no gt pt<|s_no gt pt<|Vw (Zab lk lkb)<|mw<|?_
 refine sn'<|Zaa<|Zai rz<|rT'<|?_
 refine bvx ?_;unfold Zcc;simp_all <;> (try intros) <;> omega
def ZbR (s:ByteArray):Bool:=decide (s.size≤24)&&allB letB s
theorem ZmP {s:ByteArray}{h:AH}(hs:s.size≤maxLen):Ac 30 [sv s] h (bv (ZbR s)):=by
 have hm:s.size≤9223372036854775807:=by simpa [maxLen] using hs
 refine tI' k30 fun N hn hlt hlA hbd=>?_
 simp only[tb'] at hbd ⊢
 refine wr'<|mw<|sn'<|wr'<|mw<|Vw (Za0 lk)<|Vw (Zc5 lk lki)<|mw<|?_
 refine sp' (t:=6) gt pt pt (fun hg6=>?_) (fun hg6=>?_)
 ·refine s_do gt<|mw<|s_do gt<|?_
  refine Zak mp (all_a (fun _ _=>Zh1) hs) pt ?_
  refine Vw (Zag lk lk)<|mw<|sn'<|Zaa<|Zai rz<|rT'<|?_
  refine bvx ?_;unfold ZbR;simp_all <;> (try intros) <;> omega
 refine s_no gt pt<|s_no gt pt<|Vw (Zab lk lkb)<|mw<|sn'<|Zaa<|Zai rz<|rT'<|?_
 refine bvx ?_;unfold ZbR;simp_all <;> (try intros) <;> omega
abbrev cutL (s:ByteArray) (p:Bs):Bs×Bs×Bool:=Lib.cut (aB s) p
def Zc8 (s:ByteArray):Bool:=if s.size=0∨24<s.size then false else
 if (cutL s [47]).2.2=true then decide (bA (cutL s [47]).1≠⟨#[]⟩)&&decide (bA (cutL s [47]).2.1≠⟨#[]⟩)&&allB ZbN (bA (cutL s [47]).1)&&allB ZbN (bA (cutL s [47]).2.1)
 else allB ZbN (bA (cutL s [37,115]).1)&&allB ZbN (bA (cutL s [37,115]).2.1)
end Go.Proofs.Yticajimgfndceaa
end
section
namespace Go.Proofs.Yticajimgfndceaa
open Go.Ab Go.RowKit Civ
attribute [local simp] ZbU Zcl Zcf Zcq
section
theorem ZlF {a0 a1 a2 a3 a4 a5 a6:AV}{l:List AV}:((a0::a1::a2::a3::a4::a5::a6::l).drop 4).take 3=[a4,a5,a6]:=rfl
theorem ZlG {a0 a1 a2 c0 c1 c2:AV}{l:List AV}:setCells (a0::a1::a2::l) 0 [c0,c1,c2]=c0::c1::c2::l:=rfl
end
def c14:AC:=(Sr [Oo 1 (.box 31 11 (.tmp 0)),Mc 2 0] (.seq (.block 0 (Sr [Fa 6 0 1,Ld 7 6,Cl 8 29 [(.tmp 7)],Oo 9 (.un .not (.tmp 8)),Mv 10 9,Of 11 10 (.fa 10 (.tmp 1)),Of 12 10 (.load false 1 (.tmp 11)),Of 13 10 (.call (.func 30) [(.tmp 12)]),Of 14 10 (.un .not (.tmp 13)),Oo 15 (.pick (.tmp 10) (.const (.bool true)) (.tmp 14)),Mv 5 15] (Cd 5 (Sr [Mc 2 1] .ret) (Sr [Fa 17 1 1,Ld 18 17,Bc 19 .lss 18 1900,Mv 20 19,Of 21 20 (.fa 1 (.tmp 1)),Of 22 20 (.load false 1 (.tmp 21)),Of 23 20 (.fa 2 (.tmp 1)),Of 24 20 (.load false 1 (.tmp 23)),Of 25 20 (.bin .gtr (.tmp 22) (.tmp 24)),Oo 26 (.pick (.tmp 20) (.const (.bool true)) (.tmp 25)),Mv 27 26,Of 28 27 (.fa 2 (.tmp 1)),Of 29 27 (.load false 1 (.tmp 28)),Of 30 27 (.bin .gtr (.tmp 29) (Ci 2100)),Oo 31 (.pick (.tmp 27) (.const (.bool true)) (.tmp 30)),Mv 32 31,Of 33 32 (.fa 3 (.tmp 1)),Of 34 32 (.load false 1 (.tmp 33)),Of 35 32 (.call (.func 31) [(.tmp 34),(Ci 1),(Ci 12)]),Of 36 32 (.un .not (.tmp 35)),Oo 37 (.pick (.tmp 32) (.const (.bool true)) (.tmp 36)),Mv 16 37] (Cd 16 (Sr [Mc 2 3] .ret) .skip))))) (.seq (Sr [Fa 39 3 1,Ld 40 39,Fa 41 4 1,Oo 42 (.load true 3 (.tmp 41)),Cl 43 18 [(Ci 2001),(.tmp 40),(.tmp 42)],Mv 38 43,Ex 44 38 0,Ex 45 38 1,Oo 3 (.new 57 3 [(iv 0),(iv 0),(iv 0)]),⟨none,none,(.store 3 (.tmp 3) (.tmp 44))⟩,Mv 4 45] (Sr [Mv 46 4,Bc 47 .neq 46 0] (Cd 47 (Sr [Mv 48 4,Mv 2 48] .ret) .skip))) (.seq (.block 1 (Sr [Fa 50 7 1,Ld 51 50,Cl 52 31 [(.tmp 51),(Ci 0),(Ci 172800)],Oo 53 (.un .not (.tmp 52)),Mv 49 53] (Cd 49 (Sr [Mc 2 3] .ret) (Sr [Fa 55 8 1,Ld 56 55,Cl 57 32 [(.tmp 56),(.const (.bool true))],Oo 58 (.un .not (.tmp 57)),Mv 54 58] (Cd 54 (Sr [Mc 2 7] .ret) (Sr [Fa 60 9 1,Ld 61 60,Cl 62 31 [(.tmp 61),(Ci 0),(Ci 10800)],Oo 63 (.un .not (.tmp 62)),Mv 59 63] (Cd 59 (Sr [Mc 2 3] .ret) .skip))))))) (Sr [Mc 2 0] .ret)))))
theorem k14:ZaO Try.prog 14=some ⟨c14,[(.tmp 2)],64⟩:=by kernel_rfl
def Za8 (r:Rul):Int :=
 if ¬(Zcc r.1=true∧ZbR r.2.2.2.2.2.2.2.2=true) then 1
 else if r.2.1<1900∨r.2.1>r.2.2.1∨r.2.2.1>2100∨¬wi r.2.2.2.1 1 12=true then 3
 else if (onV 2001 r.2.2.2.1 r.2.2.2.2.1.1 r.2.2.2.2.1.2.1 r.2.2.2.2.1.2.2).2≠0 then (onV 2001 r.2.2.2.1 r.2.2.2.2.1.1 r.2.2.2.2.1.2.1 r.2.2.2.2.1.2.2).2
 else if ¬wi r.2.2.2.2.2.1 0 172800=true then 3
 else if ¬clkB r.2.2.2.2.2.2.1 true=true then 7
 else if ¬wi r.2.2.2.2.2.2.2.1 0 10800=true then 3 else 0
def ZgL (l:Lnk):Int:=if ¬(Zcc l.1=true∧Zcc l.2=true) then 1 else 0
theorem rule_b {nm lt:ByteArray}{f t m k w n a c s:Int}{h:AH}(hn:nm.size≤maxLen) (hl:lt.size≤maxLen):Ac 14 [.agg [sv nm,iv f,iv t,iv m,iv k,iv w,iv n,iv a,iv c,iv s,sv lt]] h (iv (Za8 (nm,f,t,m,(k,w,n),a,c,s,lt))):=by
 have hnm:=hn
 clear hn
 refine tI' k14 fun N hn hlt hlA hbd=>?_
 simp only[tb'] at hbd ⊢
 refine wr'<|E' (ZdO cv rfl (hl0 hn) ha0) pt<|mw<|sn'<|Zan<|Zao<|wr'<|Vw (Zac lk)<|Vw (Zae lk gx gt0)<|Zak mp (name_a hnm) pt<|Vw (Zav lk)<|?_
 refine mv' lk pt ?_
 refine ZaI (t:=10) gt pt pt (fun hg10=>?_) (fun hg10=>?_)
 ·refine s_no gt pt<|s_no gt pt<|s_no gt pt<|s_no gt pt<|Vw (Zag lk lkb)<|mw<|sn'<|ZaH lk<|wr'<|mw<|sn'<|?_
  refine Zaa<|Zap<|Zal<|Zai rz<|rT'<|?_
  rw[show Za8 (nm,f,t,m,(k,w,n),a,c,s,lt)=1 by unfold Za8;simp_all]
 refine s_do gt<|Vw (Zac lk)<|s_do gt<|Vw (Zae lk gx gt10)<|s_do gt<|Zak mp (ZmP hl) pt<|s_do gt<|Vw (Zav lk)<|Vw (Zab lk lk)<|mw<|sn'<|?_
 refine Zaz lk (fun hc1=>?_) (fun hc1=>?_)
 ·refine wr'<|mw<|sn'<|Zaa<|Zap<|Zal<|Zai rz<|rT'<|?_
  rw[show Za8 (nm,f,t,m,(k,w,n),a,c,s,lt)=1 by unfold Za8;simp_all]
 have h1:Zcc nm=true∧ZbR lt=true:=by simp_all
 have hR:Za8 (nm,f,t,m,(k,w,n),a,c,s,lt)=if f<1900∨f>t∨t>2100∨¬wi m 1 12=true then 3 else if (onV 2001 m k w n).2≠0 then (onV 2001 m k w n).2 else if ¬wi a 0 172800=true then 3 else if ¬clkB c true=true then 7 else if ¬wi s 0 10800=true then 3 else 0:=if_neg (by simp[h1])
 refine wr'<|Vw (Zac lk)<|Vw (Zae lk gx gt1)<|Vw (ZbP lk lki)<|mw<|?_
 refine sp' (t:=20) gt pt pt (fun hg20=>?_) (fun hg20=>?_)
 ·rw[if_pos (.inl om)] at hR
  refine s_no gt pt<|s_no gt pt<|s_no gt pt<|s_no gt pt<|s_no gt pt<|Vw (Zag lk lkb)<|mw<|s_no gt pt<|s_no gt pt<|s_no gt pt<|Vw (Zag lk lkb)<|mw<|s_no gt pt<|s_no gt pt<|?_
  refine s_no gt pt<|s_no gt pt<|Vw (Zag lk lkb)<|mw<|sn'<|ZaH lk<|wr'<|mw<|sn'<|Zaa<|Zap<|?_
  refine Zal<|Zai rz<|rT'<|?_
  rw[hR]
 refine s_do gt<|Vw (Zac lk)<|s_do gt<|Vw (Zae lk gx gt1)<|s_do gt<|Vw (Zac lk)<|s_do gt<|Vw (Zae lk gx gt2)<|s_do gt<|Vw (ZbI lk lk)<|Vw (Zab lk lk)<|mw<|?_
 refine sp' (t:=27) gt pt pt (fun hg27=>?_) (fun hg27=>?_)
 ·rw[if_pos (.inr (.inl om))] at hR
  refine s_no gt pt<|s_no gt pt<|s_no gt pt<|Vw (Zag lk lkb)<|mw<|s_no gt pt<|s_no gt pt<|s_no gt pt<|s_no gt pt<|Vw (Zag lk lkb)<|mw<|sn'<|ZaH lk<|?_
  refine wr'<|mw<|sn'<|Zaa<|Zap<|Zal<|Zai rz<|rT'<|?_
  rw[hR]
 refine s_do gt<|Vw (Zac lk)<|s_do gt<|Vw (Zae lk gx gt2)<|s_do gt<|Vw (ZbI lk lki)<|Vw (Zab lk lk)<|mw<|?_
 refine sp' (t:=32) gt pt pt (fun hg32=>?_) (fun hg32=>?_)
 ·rw[if_pos (.inr (.inr (.inl om)))] at hR
  refine s_no gt pt<|s_no gt pt<|s_no gt pt<|s_no gt pt<|Vw (Zag lk lkb)<|mw<|sn'<|ZaH lk<|wr'<|mw<|sn'<|?_
  refine Zaa<|Zap<|Zal<|Zai rz<|rT'<|?_
  rw[hR]
 refine s_do gt<|Vw (Zac lk)<|s_do gt<|Vw (Zae lk gx gt3)<|s_do gt<|Zak mp (ZeD) pt<|s_do gt<|Vw (Zav lk)<|Vw (Zab lk lk)<|mw<|sn'<|?_
 refine Zaz lk (fun hc2=>?_) (fun hc2=>?_)
 ·rw[if_pos (.inr (.inr (.inr (by simpa using hc2))))] at hR
  refine wr'<|mw<|sn'<|Zaa<|Zap<|Zal<|Zai rz<|rT'<|?_
  rw[hR]
 have hw2:wi m 1 12=true:=by simpa using hc2
 have h2:¬(f<1900∨f>t∨t>2100∨¬wi m 1 12=true):=by rw[hw2];simp;omega
 rw[if_neg h2] at hR
 refine Zaf<|ZaC<|Zah<|Zan<|wr'<|Vw (Zac lk)<|Vw (Zae lk gx gt3)<|Vw (Zac lk)<|Vw (ZaE lk gx ZlF rfl)<|Zak mp (on_a) pt<|mw<|Vw (ZbJ lk gt)<|Vw (ZbJ lk gt)<|?_
 refine E' (ZbZ (hl1 hn) ha1) pt<|E' (Zam lk cv gx rfl (nb' rfl) rfl ZlG (hs1 hn)) ptn<|mw<|sn'<|wr'<|mw<|Vw (Za1 lk lki)<|sn'<|?_
 refine cd' lk (fun hc3=>?_) (fun hc3=>?_)
 ·rw[if_pos hc3] at hR
  refine wr'<|mw<|mw<|sn'<|Zaa<|Zal<|Zai rz<|rT'<|?_
  rw[hR]
 rw[if_neg hc3] at hR
 refine Zaf<|Zah<|Zan<|Zao<|wr'<|Vw (Zac lk)<|Vw (Zae lk gx gt7)<|Zak mp (ZeD) pt<|Vw (Zav lk)<|mw<|sn'<|?_
 refine Zaz lk (fun hc4=>?_) (fun hc4=>?_)
 ·rw[if_pos (by simpa using hc4)] at hR
  refine wr'<|mw<|sn'<|Zaa<|Zap<|Zal<|Zai rz<|rT'<|?_
  rw[hR]
 rw[if_neg (by simpa using hc4)] at hR
 refine wr'<|Vw (Zac lk)<|Vw (Zae lk gx gt8)<|Zak mp (clock_a) pt<|Vw (Zav lk)<|mw<|sn'<|?_
 refine Zaz lk (fun hc5=>?_) (fun hc5=>?_)
 ·rw[if_pos (by simpa using hc5)] at hR
  refine wr'<|mw<|sn'<|Zaa<|Zap<|Zal<|Zai rz<|rT'<|?_
  rw[hR]
 rw[if_neg (by simpa using hc5)] at hR
 refine wr'<|Vw (Zac lk)<|Vw (Zae lk gx gt9)<|Zak mp (ZeD) pt<|Vw (Zav lk)<|mw<|sn'<|?_
 refine Zaz lk (fun hc6=>?_) (fun hc6=>?_)
 ·rw[if_pos (by simpa using hc6)] at hR
  refine wr'<|mw<|sn'<|Zaa<|Zap<|Zal<|Zai rz<|rT'<|?_
  rw[hR]
 rw[if_neg (by simpa using hc6)] at hR
 refine Zaf<|ZaC<|Zah<|wr'<|mw<|sn'<|Zaa<|Zai rz<|rT'<|?_
 rw[hR]
def eraE (sh:Int) (rl:ByteArray) (sa:Int) (fm:ByteArray) (op:Bool) (y m d a c:Int) (last:Bool):Int :=
 if (rl≠⟨#[]⟩∧¬Zcc rl=true)∨¬Zc8 fm=true then 1
 else if ¬wi sh (-64800) 64800=true∨¬wi sa 0 10800=true then 3
 else if rl≠⟨#[]⟩∧sa≠0 then 1
 else if op≠last then 4
 else if op=true then (if ¬(y=0∧m=0∧d=0∧a=0∧c=0) then 1 else 0)
 else if ¬ZbD y m d=true then 3
 else if ¬wi a 0 172800=true then 3
 else if ¬clkB c false=true then 7 else 0
abbrev eraX (x:Era) (last:Bool):Int:=eraE x.1 x.2.1 x.2.2.1 x.2.2.2.1 x.2.2.2.2.1 x.2.2.2.2.2.1.1 x.2.2.2.2.2.1.2.1 x.2.2.2.2.2.1.2.2 x.2.2.2.2.2.2.1 x.2.2.2.2.2.2.2 last
def Zh7:List Era→Int
 | []=>0
 | x::xs=>if eraX x xs.isEmpty≠0 then eraX x xs.isEmpty else Zh7 xs
def ZhD (z:Zon):Int:=if ¬Zcc z.1=true∨z.2.length=0 then 1 else Zh7 z.2
def okEra (x:Era):Prop:=x.2.1.size≤maxLen∧x.2.2.2.1.size≤maxLen
theorem erasE_at {l:List Era}{k:Nat}(h:k<l.length):Zh7 (l.drop k)=if eraX l[k] (decide ((k:Int)=(l.length:Int)-1))≠0 then eraX l[k] (decide ((k:Int)=(l.length:Int)-1)) else Zh7 (l.drop (k+1)):=by
 have e:(l.drop (k+1)).isEmpty=decide ((k:Int)=(l.length:Int)-1):=by
  rw[Bool.eq_iff_iff,List.isEmpty_iff,List.drop_eq_nil_iff,decide_eq_true_iff];omega
 rw[List.drop_eq_getElem_cons h,Zh7,e]
def Zbd {α:Type}(p:α→Int):List α→Int
 | []=>0
 | x::xs=>if p x≠0 then p x else Zbd p xs
theorem ZeO {α:Type}{p:α→Int}{l:List α}{k:Nat}(h:k<l.length):Zbd p (l.drop k)=if p l[k]≠0 then p l[k] else Zbd p (l.drop (k+1)):=by
 rw[List.drop_eq_getElem_cons h,Zbd]
def Zgj (s:Src):Bool:=s.2.1.any (fun z=>decide (8<z.2.length))||decide (40<s.1.length)||decide (20<s.2.1.length)||decide (20<s.2.2.length)
end Go.Proofs.Yticajimgfndceaa
end
